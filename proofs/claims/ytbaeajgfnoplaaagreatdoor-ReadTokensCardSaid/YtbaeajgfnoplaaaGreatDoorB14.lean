import Derived.Test.YtbaeajgfnoplaaaGreatDoorB13
import Derived.KernelRfl
section
namespace Mn
open Go TL
set_option maxRecDepth 100000
set_option maxHeartbeats 0
theorem txt_ok (f:FuncId) (ps:List Pk) (rs:List Ck) (hb:((fncT.get f).bind (·.body)).isSome=true):ConOk prog f (⟨ps,rs,false,txt f ps rs⟩:Con sg):=mkOk conR conR_ok shP false 1001 100 f ps rs hb rfl
def byV {α β:Type} (e:α->α->Bool):List (α×β)->α->Option β
 |[],_=>none
 |p ::l,a=>bif e a p.1 then some p.2 else byV e l a
theorem byV_ok {α β:Type} {e:α->α->Bool} (he:∀a b,e a b=true->a=b):∀{l:List (α×β)} {G:α->Option β},(∀p∈l,G p.1=some p.2)->∀a r,byV e l a=some r->G a=some r
 |[],_,_,_,_,h=>by cases h
 |p ::l,G,hl,a,r,h=>by
  unfold byV at h
  cases hp:e a p.1 with
  |true=>
   rw[hp] at h
   cases h
   rw[he _ _ hp]
   exact hl p (.head _)
  |false=>
   rw[hp] at h
   exact byV_ok he (λq hq=>hl q (.tail _ hq)) a r h
def eqS (a b:List UInt8×Unit):Bool:=seqL a.1 b.1
theorem eqS_ok (a b:List UInt8×Unit) (h:eqS a b=true):a=b:=by
 obtain ⟨a,_⟩:=a
 obtain ⟨b,_⟩:=b
 have:a=b:=eq_of_beq h
 rw[this]
theorem eqT1_ok (a b:Term×Unit) (h:eqT a.1 b.1=true):a=b:=by
 obtain ⟨a,_⟩:=a
 obtain ⟨b,_⟩:=b
 rw[show a=b from eqT_ok _ _ h]
theorem eqY1_ok (a b:TermType×Unit) (h:eqY a.1 b.1=true):a=b:=by
 obtain ⟨a,_⟩:=a
 obtain ⟨b,_⟩:=b
 rw[show a=b from eqY_ok _ _ h]
noncomputable def a24:List ((List UInt8×Unit)×((Term×Int×Unit)×Unit)):=[((s1,()),((t1,0,()),())),((s2,()),((t0,4,()),()))]
noncomputable def a22:List ((Term×Unit)×((List UInt8×Int×Unit)×Unit)):=[((t1,()),((s1,0,()),()))]
noncomputable def a18:List ((List UInt8×Unit)×((Int×Int×Int×Unit)×Unit)):=[((s3,()),((2,4,0,()),()))]
noncomputable def a31:List ((List UInt8×Unit)×((Int×Int×Unit)×Unit)):=[((s4,()),((15,0,()),()))]
noncomputable def a29:List ((List UInt8×Unit)×((TermType×Int×Unit)×Unit)):=[((s5,()),((y1,0,()),()))]
noncomputable def a27:List ((TermType×Unit)×((List UInt8×Int×Unit)×Unit)):=[((y1,()),((s6,0,()),()))]
noncomputable def cV24:Con sg:=⟨[.one (.dat .str)],[.dat (.st 1),.dat (.int .i64)],false,byV eqS a24⟩
noncomputable def cV22:Con sg:=⟨[.one (.dat (.st 1))],[.dat .str,.dat (.int .i64)],false,byV (λa b=>eqT a.1 b.1) a22⟩
noncomputable def cV18:Con sg:=⟨[.one (.dat .str)],[.dat (.int .i64),.dat (.int .i64),.dat (.int .i64)],false,byV eqS a18⟩
noncomputable def cV31:Con sg:=⟨[.one (.dat .str)],[.dat (.int .i64),.dat (.int .i64)],false,byV eqS a31⟩
noncomputable def cV29:Con sg:=⟨[.one (.dat .str)],[.dat (.st 2),.dat (.int .i64)],false,byV eqS a29⟩
noncomputable def cV27:Con sg:=⟨[.one (.dat (.st 2))],[.dat .str,.dat (.int .i64)],false,byV (λa b=>eqY a.1 b.1) a27⟩
theorem CV24:ConOk prog 24 cV24:=conOk_mono (txt_ok 24 _ _ (by kernel_rfl)) (byV_ok eqS_ok (by
 intro p hp
 rcases List.mem_cons.1 hp with rfl|hp
 .exact isTm_ok v1
 rcases List.mem_cons.1 hp with rfl|hp
 .exact isTm_ok v3
 .cases hp))
theorem one_mem {α β:Type} {a:α} {b:β} {G:α->Option β} (h:G a=some b):∀p∈[(a,b)],G p.1=some p.2:=by
 intro p hp
 rcases List.mem_cons.1 hp with rfl|hp
 .exact h
 .cases hp
theorem CV22:ConOk prog 22 cV22:=conOk_mono (txt_ok 22 _ _ (by kernel_rfl)) (byV_ok eqT1_ok (one_mem (isSt2_ok v2)))
theorem CV18:ConOk prog 18 cV18:=conOk_mono (txt_ok 18 _ _ (by kernel_rfl)) (byV_ok eqS_ok (one_mem (isI3_ok v4)))
theorem CV31:ConOk prog 31 cV31:=conOk_mono (txt_ok 31 _ _ (by kernel_rfl)) (byV_ok eqS_ok (one_mem (isI2_ok v5)))
theorem CV29:ConOk prog 29 cV29:=conOk_mono (txt_ok 29 _ _ (by kernel_rfl)) (byV_ok eqS_ok (one_mem (isTy_ok v6)))
theorem CV27:ConOk prog 27 cV27:=conOk_mono (txt_ok 27 _ _ (by kernel_rfl)) (byV_ok eqY1_ok (one_mem (isSt2_ok v7)))
noncomputable def conK:List (FuncId×Con sg):=[(24,cV24),(22,cV22),(18,cV18),(31,cV31),(29,cV29),(27,cV27)]
theorem conK_ok:OkL prog conK:=⟨CV24,CV22,CV18,CV31,CV29,CV27,trivial⟩
noncomputable def kn0 (x:pden sg.A []):=evFun (⟨envT,tabC conK,λ_ _=>none,false,λ_ _=>none⟩:EnvV sg) 100 20 15 [] [.dat .bool] x
def isT1:Option ((Bool×Unit)×Unit)->Bool
 |some ((b,_),_)=>b
 |none=>false
theorem isT1_ok:∀{r},isT1 r=true->r=some ((true,()),())
 |some ((b,_),_),h=>by rw[show b=true from h]
 |none,h=>by cases h
theorem kn0_true:isT1 (kn0 ())=true:=by kernel_rfl
def kn:Unit->Option ((Bool×Unit)×Unit):=λ_=>some ((true,()),())
noncomputable abbrev cK:Con sg:=⟨[],[.dat .bool],false,kn⟩
theorem CK:ConOk prog 15 cK:=conOk_mono (mkOk conK conK_ok (λ_ _=>none) false 100 20 15 [] [.dat .bool] (by kernel_rfl) rfl) (λx r h=>by cases h;exact isT1_ok kn0_true)
end Mn
end
section
namespace Mn
open Go TL
abbrev F15 (_:Nat):=kn
noncomputable abbrev c15 (_:Nat):Con sg:=cK
theorem C15 (n:Nat):ConOk prog 15 (c15 n):=CK
noncomputable abbrev F50 (_:Nat):List UInt8×List UInt8×Unit->Option ((Int×Unit)×Unit):=countF
noncomputable abbrev c50 (n:Nat):Con sg:=⟨[.one (.dat .str),.one (.dat .str)],[.dat (.int .i64)],false,F50 n⟩
theorem C50 (n:Nat):ConOk prog 50 (c50 n):=H50
noncomputable abbrev F51 (_:Nat):List UInt8×List UInt8×Unit->Option ((Int×Unit)×Unit):=lastF
noncomputable abbrev c51 (n:Nat):Con sg:=⟨[.one (.dat .str),.one (.dat .str)],[.dat (.int .i64)],false,F51 n⟩
theorem C51 (n:Nat):ConOk prog 51 (c51 n):=H51
end Mn
end
section
namespace Mn
open Go TL
noncomputable section
set_option maxRecDepth 100000
set_option maxHeartbeats 0
def F14:Y7:=
 λ_n b=>sel (D.ile (lenI b.1) 1500) (some ((true,()),())) (sel (D.ilt 8000 (lenI b.1)) (some ((D.ile (lenI b.1) 8050,()),())) (some ((false,
 ()),())))
abbrev c14 (n:Nat):Con sg:=⟨P1,K2,false,F14 n⟩
theorem C14 (n:Nat):ConOk prog 14 (c14 n):=mkOk [] trivial (shL []) _ n 10 14 _ _ (by kernel_rfl) (by kernel_rfl)
def F141:Y22:=
 λ_n b=>sel (D.ile 97 b.1) (some ((D.ile b.1 122,()),())) (some ((false,()),()))
abbrev c141 (n:Nat):Con sg:=⟨P3,K2,false,F141 n⟩
theorem C141 (n:Nat):ConOk prog 141 (c141 n):=mkOk [] trivial (shL []) _ n 10 141 _ _ (by kernel_rfl) (by kernel_rfl)
def F221x1 (_n:Nat) (c:Y5):Option (LO Y5 (Bool×Unit) Y5 Any):=
 some (LO.ret ((c.1.1,addN c.1.2 (widL c.1.1 c.1.2)),()) (false,()))
def F221:Y7:=
 λn b=>bnd (@iter (Y5) (Bool×Unit) (Y5) (Any) (λc=>sel (posB c.1.2 c.1.1) (sel (D.ilt (runeL c.1.1 c.1.2) 97) (F221x1 n c) (sel (D.ilt 122
 (runeL c.1.1 c.1.2)) (F221x1 n c) (some (LO.next ((c.1.1,addN c.1.2 (widL c.1.1 c.1.2)),()))))) (some (LO.out 0 c))) n ((b.1,0),())) λc=>LO.el
 c (λ_ _=>some ((true,()),())) (λ_ e=>some (e,())) λ_ _=>none
abbrev c221 (n:Nat):Con sg:=⟨P1,K2,false,F221 n⟩
theorem C221 (n:Nat):ConOk prog 221 (c221 n):=mkOk [] trivial (shL [(221,0,⟨[(0,.box (.sit))],[.slot 6],[],0,[]⟩)]) _ n 10 221 _ _ (by kernel_rfl) (by kernel_rfl)
def F222x1 (_n:Nat):Y6:=
 some ((true,()),())
def F222:Y7:=
 λn b=>sel (seqL b.1 [98,111,111,108]) (F222x1 n) (sel (seqL b.1 [99,101,108,108]) (F222x1 n) (sel (seqL b.1 [99,104,97,110]) (F222x1 n)
 (sel (seqL b.1 [101,108,115,101]) (F222x1 n) (sel (seqL b.1 [102,97,108,115,101]) (F222x1 n) (sel (seqL b.1 [102,117,110]) (F222x1 n) (sel
 (seqL b.1 [103,101,116]) (F222x1 n) (sel (seqL b.1 [105,102]) (F222x1 n) (sel (seqL b.1 [105,110]) (F222x1 n) (sel (seqL b.1 [105,110,112,117,
 116]) (F222x1 n) (sel (seqL b.1 [105,110,116]) (F222x1 n) (sel (seqL b.1 [106,111,105,110]) (F222x1 n) (sel (seqL b.1 [108,101,116]) (F222x1 n)
 (sel (seqL b.1 [109,97,116,99,104]) (F222x1 n) (sel (seqL b.1 [109,111,100,117,108,101]) (F222x1 n) (sel (seqL b.1 [111,117,116]) (F222x1 n)
 (sel (seqL b.1 [112,97,117,115,101]) (F222x1 n) (sel (seqL b.1 [112,117,116]) (F222x1 n) (sel (seqL b.1 [114,101,115,101,116]) (F222x1 n)
 (sel (seqL b.1 [115,101,110,100]) (F222x1 n) (sel (seqL b.1 [115,104,105,102,116]) (F222x1 n) (sel (seqL b.1 [115,112,97,119,110]) (F222x1
 n) (sel (seqL b.1 [116,97,107,101]) (F222x1 n) (sel (seqL b.1 [116,97,115,107]) (F222x1 n) (sel (seqL b.1 [116,104,101,110]) (F222x1 n) (sel
 (seqL b.1 [116,114,117,101]) (F222x1 n) (sel (seqL b.1 [116,121,112,101]) (F222x1 n) (sel (seqL b.1 [117,110,105,116]) (F222x1 n) (some
 ((false,()),())))))))))))))))))))))))))))))
abbrev c222 (n:Nat):Con sg:=⟨P1,K2,false,F222 n⟩
theorem C222 (n:Nat):ConOk prog 222 (c222 n):=mkOk [] trivial (shL []) _ n 10 222 _ _ (by kernel_rfl) (by kernel_rfl)
def F161:Y7:=
 λn b=>sel (D.bnot (seqL b.1 [])) (sel (D.ile (lenI b.1) 8) (bnd (F221 n b) λc=>sel c.1.1 (bnd (F222 n b) λd=>some ((D.bnot d.1.1,()),
 ())) (some ((false,()),()))) (some ((false,()),()))) (some ((false,()),()))
abbrev c161 (n:Nat):Con sg:=⟨P1,K2,false,F161 n⟩
theorem C161 (n:Nat):ConOk prog 161 (c161 n):=mkOk [(221,c221 n),(222,c222 n)] ⟨C221 n,C222 n,trivial⟩ (shL []) _ n 10 161 _ _ (by kernel_rfl) (by kernel_rfl)
def F142x1 (n:Nat) (b:List UInt8×Unit):Int×Unit->Y17:=
 λe=>chk (cutL 0 e.1 (lenI b.1)) (sel (D.ilt 8 (lenI (subL b.1 0 e.1))) (some ((dReadToken,false,()),())) (bnd (F161 n (subL b.1 0 e.1,())) λ
 g=>sel g.1.1 (some ((ReadToken.mk 1 (subL b.1 0 e.1) 0 0,true,()),())) (some ((ReadToken.mk 3 (subL b.1 0 e.1) 0 0,true,()),()))))
def F142:Y19:=
 λn b=>bnd (@iter (Int×Unit) (Int×Unit) (Unit) (Any) (λc=>sel (D.ilt c.1 (lenI b.1)) (chk (inbL c.1 b.1) (bnd (F141 n (satL b.1 c.1,()))
 λd=>sel d.1.1 (some (LO.next (D.add .i64 c.1 1,()))) (some (LO.out 0 c)))) (some (LO.out 0 c))) n (0,())) λc=>LO.el c (λ_=>F142x1 n b)
 (λ_=>F142x1 n b) λ_ _=>none
abbrev c142 (n:Nat):Con sg:=⟨P1,K4,false,F142 n⟩
theorem C142 (n:Nat):ConOk prog 142 (c142 n):=mkOk [(141,c141 n),(161,c161 n)] ⟨C141 n,C161 n,trivial⟩ (shL [(172,0,⟨[(5,.one (.dat (.int .i64)))],[],[],0,[]⟩)]) _ n 10 142 _ _ (by kernel_rfl) (by kernel_rfl)
def F143:Y22:=
 λ_n b=>sel (D.ile 65 b.1) (some ((D.ile b.1 90,()),())) (some ((false,()),()))
abbrev c143 (n:Nat):Con sg:=⟨P3,K2,false,F143 n⟩
theorem C143 (n:Nat):ConOk prog 143 (c143 n):=mkOk [] trivial (shL []) _ n 10 143 _ _ (by kernel_rfl) (by kernel_rfl)
def F144x1 (_n:Nat) (b:List UInt8×Unit):Int×Unit->Y17:=
 λe=>chk (cutL 0 (D.add .i64 1 e.1) (lenI b.1)) (some ((ReadToken.mk 2 (subL b.1 0 (D.add .i64 1 e.1)) 0 0,D.ile (lenI (subL b.1 0 (D.add .i64 1
 e.1))) 8,()),()))
def F144:Y19:=
 λn b=>chk (cutL 1 (lenI b.1) (lenI b.1)) (bnd (@iter (Int×Unit) (Int×Unit) (Unit) (Any) (λc=>sel (D.ilt c.1 (lenI (subL b.1 1 (lenI
 b.1)))) (chk (inbL c.1 (subL b.1 1 (lenI b.1))) (bnd (F141 n (satL (subL b.1 1 (lenI b.1)) c.1,())) λd=>sel d.1.1 (some (LO.next (D.add .i64 c.1
 1,()))) (some (LO.out 0 c)))) (some (LO.out 0 c))) n (0,())) λc=>LO.el c (λ_=>F144x1 n b) (λ_=>F144x1 n b) λ_ _=>none)
abbrev c144 (n:Nat):Con sg:=⟨P1,K4,false,F144 n⟩
theorem C144 (n:Nat):ConOk prog 144 (c144 n):=mkOk [(141,c141 n)] ⟨C141 n,trivial⟩ (shL [(172,0,⟨[(5,.one (.dat (.int .i64)))],[],[],0,[]⟩)]) _ n 10 144 _ _ (by kernel_rfl) (by kernel_rfl)
def F145:Y22:=
 λ_n b=>sel (D.ile 48 b.1) (some ((D.ile b.1 57,()),())) (some ((false,()),()))
abbrev c145 (n:Nat):Con sg:=⟨P3,K2,false,F145 n⟩
theorem C145 (n:Nat):ConOk prog 145 (c145 n):=mkOk [] trivial (shL []) _ n 10 145 _ _ (by kernel_rfl) (by kernel_rfl)
def F146x1 (b:List UInt8×Unit) (d:Int×Bool×Unit) (h:Int×Unit):List UInt8:=
 subL b.1 d.1 (D.add .i64 d.1 h.1)
def F146x2 (n:Nat) (b:List UInt8×Unit) (d:Int×Bool×Unit) (h:Int×Unit):Y17:=
 bnd (@iter (Int×Int×Unit) (Bool×Unit) (Unit) (Any) (λi=>sel (D.ilt i.2.1 (lenI (F146x1 b d h))) (chk (inbL i.2.1 (F146x1 b d h)) (some
 (LO.next (D.add .i64 (D.mul .i64 10 i.1) (D.conv .i64 (D.sub_ .u8 (satL (F146x1 b d h) i.2.1) 48)),D.add .i64 i.2.1 1,())))) (some (LO.out 0 i))) n
 (0,0,())) λi=>LO.el i (λ_ k=>bnd (sel (D.ilt 0 d.1) (some (LO.next (D.neg .i64 k.1,true,()))) (some (LO.next (k.1,false,())))) λ(l :
 Y18)=>LO.jn l (λm=>chk (cutL 0 (D.add .i64 d.1 (lenI (F146x1 b d h))) (lenI b.1)) (some ((ReadToken.mk 4 (subL b.1 0 (D.add .i64 d.1 (lenI
 (F146x1 b d h)))) m.1 0,true,()),()))) (λ_ _=>none) (λ_ o=>some ((dReadToken,o),())) λ_ _=>none) (λ_ k=>some ((dReadToken,k),
 ())) λ_ _=>none
def F146x3 (n:Nat) (b:List UInt8×Unit) (d:Int×Bool×Unit):Int×Unit->Y17:=
 λh=>chk (cutL d.1 (D.add .i64 d.1 h.1) (lenI b.1)) (sel (D.ilt (lenI (F146x1 b d h)) 1) (some ((dReadToken,false,()),())) (sel (D.ilt 10 (lenI
 (F146x1 b d h))) (some ((dReadToken,false,()),())) (chk (inbL 0 (F146x1 b d h)) (sel (D.ieq (satL (F146x1 b d h) 0) 48) (sel (D.ilt 1 (D.add .i64
 (lenI (F146x1 b d h)) d.1)) (some ((dReadToken,false,()),())) (F146x2 n b d h)) (F146x2 n b d h)))))
def F146:Y19:=
 λn b=>chk (inbL 0 b.1) (bnd (sel (D.ieq (satL b.1 0) 126) (some (LO.next (1,true,()))) (some (LO.next (0,false,())))) λ(c:Y18)=>LO.jn c
 (λd=>chk (cutL d.1 (lenI b.1) (lenI b.1)) (bnd (@iter (Int×Unit) (Int×Unit) (Unit) (Any) (λe=>sel (D.ilt e.1 (lenI (subL b.1 d.1 (lenI
 b.1)))) (chk (inbL e.1 (subL b.1 d.1 (lenI b.1))) (bnd (F145 n (satL (subL b.1 d.1 (lenI b.1)) e.1,())) λg=>sel g.1.1 (some (LO.next (D.add .i64
 e.1 1,()))) (some (LO.out 0 e)))) (some (LO.out 0 e))) n (0,())) λe=>LO.el e (λ_=>F146x3 n b d) (λ_=>F146x3 n b d) λ_ _=>none))
 (λ_ _=>none) (λ_ e=>some ((dReadToken,e),())) λ_ _=>none)
abbrev c146 (n:Nat):Con sg:=⟨P1,K4,false,F146 n⟩
theorem C146 (n:Nat):ConOk prog 146 (c146 n):=mkOk [(145,c145 n)] ⟨C145 n,trivial⟩ (shL [(146,0,⟨[(6,.one (.dat (.int .i64))),(43,.one (.dat (.int .i64)))],[],[],0,[]⟩),(146,1000003,⟨[(4,.one (.dat (.int .i64))),(10,.one (.dat (.bool)))],[],[],0,[]⟩),(146,1000014,⟨[(6,.one (.dat (.int .i64))),(56,.one (.dat (.bool)))],[],[],0,[]⟩),(172,0,⟨[(5,.one (.dat (.int .i64)))],[],[],0,[]⟩)]) _ n 10 146 _ _ (by kernel_rfl) (by kernel_rfl)
def F147:Y16:=
 λ_n _=>some (([[61,62],[61,61],[45,62],[61],[60],[43],[45],[42],[40],[41],[123],[125],[124],[44],[59],[58],[95],[63]],()),())
abbrev c147 (n:Nat):Con sg:=⟨[],K5,false,F147 n⟩
theorem C147 (n:Nat):ConOk prog 147 (c147 n):=mkOk [] trivial (shL []) _ n 10 147 _ _ (by kernel_rfl) (by kernel_rfl)
def F215:Nat->Y15->Y6:=
 λ_n b=>sel (D.ile (lenI b.2.1) (lenI b.1)) (chk (cutL 0 (lenI b.2.1) (lenI b.1)) (some ((seqL (subL b.1 0 (lenI b.2.1)) b.2.1,()),()))) (some
 ((false,()),()))
abbrev c215 (n:Nat):Con sg:=⟨P6,K2,false,F215 n⟩
theorem C215 (n:Nat):ConOk prog 215 (c215 n):=mkOk [] trivial (shL []) _ n 10 215 _ _ (by kernel_rfl) (by kernel_rfl)
def F148:Nat->Y15->Y6:=
 λn b=>bnd (F215 n b) λc=>some c
abbrev c148 (n:Nat):Con sg:=⟨P6,K2,false,F148 n⟩
theorem C148 (n:Nat):ConOk prog 148 (c148 n):=mkOk [(215,c215 n)] ⟨C215 n,trivial⟩ (shL []) _ n 10 148 _ _ (by kernel_rfl) (by kernel_rfl)
def F79:Y19:=
 λn b=>chk (inbL 0 b.1) (bnd (F141 n (satL b.1 0,())) λc=>sel c.1.1 (bnd (F142 n b) λd=>some d) (bnd (F143 n (satL b.1 0,())) λd=>
 sel d.1.1 (bnd (F144 n b) λe=>some e) (bnd (F145 n (satL b.1 0,())) λe=>sel e.1.1 (bnd (F146 n b) λg=>some g) (sel (D.ieq (satL b.1 0)
 126) (bnd (F146 n b) λg=>some g) (bnd (F147 n ()) λg=>bnd (@iter (Int×Y2×Unit) (Bool×Unit) (Y2×Unit) (Any) (λh=>sel (D.ilt h.1
 (lenI g.1.1)) (chk (inbL h.1 g.1.1) (bnd (F148 n (b.1,elL g.1.1 (natI h.1) [],())) λi=>sel i.1.1 (some (LO.ret ((5,elL g.1.1 (natI h.1) [],0,
 0,()),()) (true,()))) (some (LO.next (D.add .i64 h.1 1,h.2))))) (some (LO.out 0 h))) n (0,(0,[],0,0,()),())) λh=>LO.el h (λ_ _=>
 some ((dReadToken,false,()),())) (λi j=>some ((ReadToken.mk i.1.1 i.1.2.1 i.1.2.2.1 i.1.2.2.2.1,j),())) λ_ _=>none)))))
abbrev c79 (n:Nat):Con sg:=⟨P1,K4,false,F79 n⟩
theorem C79 (n:Nat):ConOk prog 79 (c79 n):=mkOk [(141,c141 n),(142,c142 n),(143,c143 n),(144,c144 n),(145,c145 n),(146,c146 n),(147,c147 n),(148,c148 n)] ⟨C141 n,C142 n,C143 n,C144 n,C145 n,C146 n,C147 n,C148 n,trivial⟩ (shL [(79,1,⟨[(36,.one (.dat (.int .i64))),(0,.box (.cells [.dat (.int .i64),.dat (.str),.dat (.int .i64),.dat (.int .i64)]))],[.slot 2],[],0,[]⟩)]) _ n 10 79 _ _ (by kernel_rfl) (by kernel_rfl)
def F173:Y22:=
 λ_n b=>sel (D.ieq b.1 32) (some ((true,()),())) (sel (D.ieq b.1 9) (some ((true,()),())) (some ((D.ieq b.1 10,()),())))
abbrev c173 (n:Nat):Con sg:=⟨P3,K2,false,F173 n⟩
theorem C173 (n:Nat):ConOk prog 173 (c173 n):=mkOk [] trivial (shL []) _ n 10 173 _ _ (by kernel_rfl) (by kernel_rfl)
def F174:Y22:=
 λ_n b=>some ((D.bnot (D.ieq b.1 10),()),())
abbrev c174 (n:Nat):Con sg:=⟨P3,K2,false,F174 n⟩
theorem C174 (n:Nat):ConOk prog 174 (c174 n):=mkOk [] trivial (shL []) _ n 10 174 _ _ (by kernel_rfl) (by kernel_rfl)
def F98x1 (b:List UInt8×Unit) (c:Int×Unit) (g:Int×Unit):List UInt8:=
 subL b.1 (D.add .i64 c.1 g.1) (lenI b.1)
def F98x2 (n:Nat) (b:List UInt8×Unit) (c:Int×Unit):Int×Unit->Y9:=
 λg=>chk (cutL (D.add .i64 c.1 g.1) (lenI b.1) (lenI b.1)) (bnd (F148 n (F98x1 b c g,[47,47],())) λh=>sel (D.bnot h.1.1) (some (LO.ret ()
 (D.add .i64 c.1 g.1,()))) (chk (cutL (D.add .i64 c.1 g.1) (lenI b.1) (lenI b.1)) (bnd (@iter (Int×Unit) (Int×Unit) (Unit) (Any) (λi=>sel
 (D.ilt i.1 (lenI (F98x1 b c g))) (chk (inbL i.1 (F98x1 b c g)) (bnd (F174 n (satL (F98x1 b c g) i.1,())) λj=>sel j.1.1 (some (LO.next (D.add .i64
 i.1 1,()))) (some (LO.out 0 i)))) (some (LO.out 0 i))) n (0,())) λi=>LO.el i (λ_ k=>some (LO.next (D.add .i64 (D.add .i64 c.1 g.1) k.1,
 ()))) (λ_ k=>some (LO.next (D.add .i64 (D.add .i64 c.1 g.1) k.1,()))) λ_ _=>none)))
def F98:Y11:=
 λn b=>bnd (@iter (Int×Unit) (Int×Unit) (Unit) (Any) (λc=>chk (cutL c.1 (lenI b.1) (lenI b.1)) (bnd (@iter (Int×Unit) (Int×Unit)
 (Unit) (Any) (λd=>sel (D.ilt d.1 (lenI (subL b.1 c.1 (lenI b.1)))) (chk (inbL d.1 (subL b.1 c.1 (lenI b.1))) (bnd (F173 n (satL (subL b.1 c.1
 (lenI b.1)) d.1,())) λe=>sel e.1.1 (some (LO.next (D.add .i64 d.1 1,()))) (some (LO.out 0 d)))) (some (LO.out 0 d))) n (0,())) λd=>LO.el d
 (λ_=>F98x2 n b c) (λ_=>F98x2 n b c) λ_ _=>none)) n (0,())) λc=>LO.el c (λ_ _=>none) (λ_ e=>some (e,())) λ_ _=>none
abbrev c98 (n:Nat):Con sg:=⟨P1,K7,false,F98 n⟩
theorem C98 (n:Nat):ConOk prog 98 (c98 n):=mkOk [(148,c148 n),(173,c173 n),(174,c174 n)] ⟨C148 n,C173 n,C174 n,trivial⟩ (shL [(98,0,⟨[(3,.one (.dat (.int .i64)))],[],[],0,[]⟩),(172,0,⟨[(5,.one (.dat (.int .i64)))],[],[],0,[]⟩)]) _ n 10 98 _ _ (by kernel_rfl) (by kernel_rfl)
def F18:Y24:=
 λn b=>sel (D.ilt 8000 (lenI b.1)) (some ((0,0,3,()),())) (bnd (F98 n b) λc=>bnd (@iter (Int×(Int×Unit)×(Int×Unit)×(Int×Unit)
 ×Unit) (Unit) (Unit×(Int×Unit)×(Int×Unit)×(Int×Unit)×Unit) (Any) (λd=>sel (D.ilt d.1 (lenI b.1)) (chk (cutL d.1 (lenI b.1) (lenI
 b.1)) (bnd (F79 n (subL b.1 d.1 (lenI b.1),())) λe=>sel (D.bnot e.1.2.1) (chk (cutL 0 d.1 (lenI b.1)) (bnd (F50 n (subL b.1 0 d.1,[10],())) λ
 g=>bnd (F51 n (subL b.1 0 d.1,[10],())) λh=>some (LO.ret ((),(D.add .i64 1 g.1.1,()),(D.sub_ .i64 d.1 h.1.1,()),(0,()),()) ()))) (sel
 (D.bnot e.1.2.1) none (chk (cutL (D.add .i64 d.1 (lenI e.1.1.2)) (lenI b.1) (lenI b.1)) (bnd (F98 n (subL b.1 (D.add .i64 d.1 (lenI e.1.1.2)) (lenI
 b.1),())) λg=>some (LO.next (D.add .i64 (D.add .i64 d.1 (lenI e.1.1.2)) g.1.1,d.2))))))) (some (LO.out 0 d))) n (c.1.1,(0,()),(0,()),(0,
 ()),())) λd=>LO.el d (λ_ _=>some ((0,0,5,()),())) (λe _=>some ((e.2.1.1,e.2.2.1.1,e.2.2.2.1),())) λ_ _=>none)
abbrev c18 (n:Nat):Con sg:=⟨P1,K11,false,F18 n⟩
theorem C18 (n:Nat):ConOk prog 18 (c18 n):=mkOk [(50,c50 n),(51,c51 n),(79,c79 n),(98,c98 n)] ⟨C50 n,C51 n,C79 n,C98 n,trivial⟩ (shL [(97,0,⟨[(3,.one (.dat (.int .i64))),(0,.box (.cells [.dat (.int .i64)])),(0,.box (.cells [.dat (.int .i64)])),(0,.box (.cells [.dat (.int .i64)]))],[.rnd (.slot 0) 2,.rnd (.slot 0) 3,.rnd (.slot 0) 4],[],0,[(.slot 0,none)]⟩)]) _ n 10 18 _ _ (by kernel_rfl) (by kernel_rfl)
def F16:Y21:=
 λn b=>sel (D.ilt 8000 (lenI b.1)) (some (([],3,()),())) (bnd (F98 n b) λc=>sel (D.ilt c.1.1 (lenI b.1)) (chk (cutL c.1.1 (lenI b.1) (lenI
 b.1)) (bnd (F79 n (subL b.1 c.1.1 (lenI b.1),())) λd=>sel (D.bnot d.1.2.1) (some (([],4,()),())) (sel (D.bnot d.1.2.1) (some (([ReadToken.mk
 d.1.1.1 d.1.1.2 d.1.1.3 c.1.1],0,()),())) (chk (cutL (D.add .i64 c.1.1 (lenI d.1.1.2)) (lenI b.1) (lenI b.1)) (bnd (F98 n (subL b.1 (D.add .i64
 c.1.1 (lenI d.1.1.2)) (lenI b.1),())) λe=>bnd (@iter (Int×Y23×Y23×(Int×Unit)×Unit) (Unit) (Unit×Y23×Y23×(Int×Unit)×Unit)
 (Any) (λg=>sel (D.ilt g.1 (lenI b.1)) (chk (cutL g.1 (lenI b.1) (lenI b.1)) (bnd (F79 n (subL b.1 g.1 (lenI b.1),())) λh=>sel (D.bnot
 h.1.2.1) (some (LO.ret ((),g.2.1,([],()),(4,()),()) ())) (chk (fewL g.2.1.1 [ReadToken.mk h.1.1.1 h.1.1.2 h.1.1.3 g.1]) (sel (D.bnot h.1.2.1)
 none (chk (cutL (D.add .i64 g.1 (lenI h.1.1.2)) (lenI b.1) (lenI b.1)) (bnd (F98 n (subL b.1 (D.add .i64 g.1 (lenI h.1.1.2)) (lenI b.1),())) λi=>
 some (LO.next (D.add .i64 (D.add .i64 g.1 (lenI h.1.1.2)) i.1.1,(catL g.2.1.1 [ReadToken.mk h.1.1.1 h.1.1.2 h.1.1.3 g.1],()),g.2.2)))))))) (some
 (LO.out 0 g))) n (D.add .i64 (D.add .i64 c.1.1 (lenI d.1.1.2)) e.1.1,([ReadToken.mk d.1.1.1 d.1.1.2 d.1.1.3 c.1.1],()),([],()),(0,()),())) λg
 =>LO.el g (λ_ i=>some ((i.2.1.1,0,()),())) (λh _=>some ((h.2.2.1.1,h.2.2.2.1),())) λ_ _=>none))))) (some (([],0,()),())))
abbrev c16 (n:Nat):Con sg:=⟨P1,K33,false,F16 n⟩
theorem C16 (n:Nat):ConOk prog 16 (c16 n):=mkOk [(79,c79 n),(98,c98 n)] ⟨C79 n,C98 n,trivial⟩ (shL [(97,0,⟨[(3,.one (.dat (.int .i64))),(0,.box (.cells [.own (.st 7)])),(0,.box (.cells [.dat (.sl (.st 7))])),(0,.box (.cells [.dat (.int .i64)]))],[.rnd (.slot 0) 4,.rnd (.slot 0) 2,.rnd (.slot 0) 3],[],1,[(.slot 0,none)]⟩)]) _ n 10 16 _ _ (by kernel_rfl) (by kernel_rfl)
def F149:Y22:=
 λ_n b=>sel (D.ile 97 b.1) (some ((D.ile b.1 122,()),())) (some ((false,()),()))
abbrev c149 (n:Nat):Con sg:=⟨P3,K2,false,F149 n⟩
theorem C149 (n:Nat):ConOk prog 149 (c149 n):=mkOk [] trivial (shL []) _ n 10 149 _ _ (by kernel_rfl) (by kernel_rfl)
def F153:Y22:=
 λ_n b=>sel (D.ile 48 b.1) (some ((D.ile b.1 57,()),())) (some ((false,()),()))
abbrev c153 (n:Nat):Con sg:=⟨P3,K2,false,F153 n⟩
theorem C153 (n:Nat):ConOk prog 153 (c153 n):=mkOk [] trivial (shL []) _ n 10 153 _ _ (by kernel_rfl) (by kernel_rfl)
def F150x1 (n:Nat) (b:Y8) (c:Int×Unit):Y9:=
 sel (D.bnot b.2.2.1) (chk (inbL c.1 b.1) (bnd (F149 n (satL b.1 c.1,())) λe=>sel e.1.1 (some (LO.next (D.add .i64 c.1 1,()))) (some (LO.out 0
 c)))) (some (LO.out 0 c))
def F150:Nat->Y8->Y10:=
 λn b=>bnd (@iter (Int×Unit) (Int×Unit) (Unit) (Any) (λc=>sel (D.ilt c.1 (lenI b.1)) (sel b.2.2.1 (chk (inbL c.1 b.1) (bnd (F153 n (satL
 b.1 c.1,())) λd=>sel d.1.1 (some (LO.next (D.add .i64 c.1 1,()))) (F150x1 n b c))) (F150x1 n b c)) (some (LO.out 0 c))) n (b.2.1,())) λc=>
 LO.el c (λ_ e=>some ((D.sub_ .i64 e.1 b.2.1,()),())) (λ_ e=>some (e,())) λ_ _=>none
abbrev c150 (n:Nat):Con sg:=⟨P53,K7,false,F150 n⟩
theorem C150 (n:Nat):ConOk prog 150 (c150 n):=mkOk [(149,c149 n),(153,c153 n)] ⟨C149 n,C153 n,trivial⟩ (shL [(150,0,⟨[(7,.one (.dat (.int .i64)))],[],[],0,[]⟩)]) _ n 10 150 _ _ (by kernel_rfl) (by kernel_rfl)
def F216:Nat->List (List UInt8)×List UInt8×Unit->Y6:=
 λn b=>bnd (@iter (Int×Unit) (Bool×Unit) (Unit) (Any) (λc=>sel (D.ilt c.1 (lenI b.1)) (chk (inbL c.1 b.1) (sel (seqL (elL b.1 (natI c.1)
 []) b.2.1) (some (LO.ret () (true,()))) (some (LO.next (D.add .i64 c.1 1,()))))) (some (LO.out 0 c))) n (0,())) λc=>LO.el c (λ_ _=>some
 ((false,()),())) (λ_ e=>some (e,())) λ_ _=>none
abbrev c216 (n:Nat):Con sg:=⟨P14,K2,false,F216 n⟩
theorem C216 (n:Nat):ConOk prog 216 (c216 n):=mkOk [] trivial (shL [(216,0,⟨[(5,.one (.dat (.int .i64)))],[],[],0,[]⟩)]) _ n 10 216 _ _ (by kernel_rfl) (by kernel_rfl)
def F217:Y16:=
 λ_n _=>some (([[98,111,111,108],[99,101,108,108],[99,104,97,110],[101,108,115,101],[102,97,108,115,101],[102,117,110],[103,
 101,116],[105,102],[105,110],[105,110,112,117,116],[105,110,116],[106,111,105,110],[108,101,116],[109,97,116,99,104],[109,
 111,100,117,108,101],[111,117,116],[112,97,117,115,101],[112,117,116],[114,101,115,101,116],[115,101,110,100],[115,104,105,
 102,116],[115,112,97,119,110],[116,97,107,101],[116,97,115,107],[116,104,101,110],[116,114,117,101],[116,121,112,101],[117,
 110,105,116]],()),())
abbrev c217 (n:Nat):Con sg:=⟨[],K5,false,F217 n⟩
theorem C217 (n:Nat):ConOk prog 217 (c217 n):=mkOk [] trivial (shL []) _ n 10 217 _ _ (by kernel_rfl) (by kernel_rfl)
def F151:Y7:=
 λn b=>bnd (F217 n ()) λc=>bnd (F216 n (c.1.1,b)) λd=>some d
abbrev c151 (n:Nat):Con sg:=⟨P1,K2,false,F151 n⟩
theorem C151 (n:Nat):ConOk prog 151 (c151 n):=mkOk [(216,c216 n),(217,c217 n)] ⟨C216 n,C217 n,trivial⟩ (shL []) _ n 10 151 _ _ (by kernel_rfl) (by kernel_rfl)
def F152:Y22:=
 λ_n b=>sel (D.ile 65 b.1) (some ((D.ile b.1 90,()),())) (some ((false,()),()))
abbrev c152 (n:Nat):Con sg:=⟨P3,K2,false,F152 n⟩
theorem C152 (n:Nat):ConOk prog 152 (c152 n):=mkOk [] trivial (shL []) _ n 10 152 _ _ (by kernel_rfl) (by kernel_rfl)
def F154:Nat->Y1->Y10:=
 λn b=>chk (inbL b.2.1 b.1) (bnd (sel (D.ieq (satL b.1 b.2.1) 126) (some (LO.next (D.add .i64 b.2.1 1,true,()))) (some (LO.next (b.2.1,false,
 ())))) λ(c:LO (Int×Bool×Unit) (Int×Unit) Unit Any)=>LO.jn c (λd=>bnd (F150 n (b.1,d.1,true,())) λe=>sel (D.ieq e.1.1 0) (some
 ((0,()),())) (sel (D.ilt 10 e.1.1) (some ((0,()),())) (chk (inbL d.1 b.1) (sel (D.ieq (satL b.1 d.1) 48) (sel (D.ilt 1 e.1.1) (some ((0,()),()))
 (sel (D.ilt b.2.1 d.1) (some ((0,()),())) (some ((D.add .i64 (D.sub_ .i64 d.1 b.2.1) e.1.1,()),())))) (some ((D.add .i64 (D.sub_ .i64 d.1 b.2.1)
 e.1.1,()),())))))) (λ_ _=>none) (λ_ e=>some (e,())) λ_ _=>none)
abbrev c154 (n:Nat):Con sg:=⟨P54,K7,false,F154 n⟩
theorem C154 (n:Nat):ConOk prog 154 (c154 n):=mkOk [(150,c150 n)] ⟨C150 n,trivial⟩ (shL [(154,1000003,⟨[(5,.one (.dat (.int .i64))),(11,.one (.dat (.bool)))],[],[],0,[]⟩)]) _ n 10 154 _ _ (by kernel_rfl) (by kernel_rfl)
abbrev q155 (F:Fn P1 K7 false):Con sg:=⟨P1,K7,false,F⟩
def B155:Nat->(List UInt8×Unit->Y10)->List UInt8×Unit->Y10:=
 λn f155 c=>chk (inbL 0 c.1) (sel (D.ieq (satL c.1 0) 126) (chk (cutL 1 (lenI c.1) (lenI c.1)) (bnd (f155 (subL c.1 1 (lenI c.1),())) λd=>
 some ((D.neg .i64 d.1.1,()),()))) (bnd (@iter (Int×Int×Unit) (Int×Unit) (Unit) (Any) (λd=>sel (D.ilt d.2.1 (lenI c.1)) (chk (inbL d.2.1
 c.1) (some (LO.next (D.add .i64 (D.mul .i64 10 d.1) (D.conv .i64 (D.sub_ .u8 (satL c.1 d.2.1) 48)),D.add .i64 d.2.1 1,())))) (some (LO.out 0 d))) n
 (0,0,())) λd=>LO.el d (λ_ g=>some ((g.1,()),())) (λ_ g=>some (g,())) λ_ _=>none))
theorem D155 (n:Nat) (f155:Fn P1 K7 false) (h155:ConOk prog 155 (q155 f155)):ConOk prog 155 (q155 (B155 n f155)):=mkOk [(155,q155 f155)] ⟨h155,trivial⟩ (shL [(155,0,⟨[(3,.one (.dat (.int .i64))),(4,.one (.dat (.int .i64)))],[],[],0,[]⟩)]) _ n 10 155 _ _ (by kernel_rfl) (by kernel_rfl)
def R155 (n k:Nat):(Fn P1 K7 false):=Nat.rec (motive:=λ_=>(Fn P1 K7 false)) (λ_=>none) (λ_ r=>B155 n r) k
def F155 (n:Nat):Fn P1 K7 false:=(R155 n n)
abbrev c155 (n:Nat):Con sg:=q155 (F155 n)
theorem CR155 (n:Nat):∀k,ConOk prog 155 (q155 (R155 n k))
 |0=>conOk_none (enters 155 (by kernel_rfl))
 |k+1=>have ih:=CR155 n k
  D155 n _ ih
theorem C155 (n:Nat):ConOk prog 155 (c155 n):=(CR155 n n)
def F218:Y16:=
 λ_n _=>some (([[61,62],[61,61],[45,62],[61],[60],[43],[45],[42],[40],[41],[123],[125],[124],[44],[59],[58],[95],[63]],()),())
abbrev c218 (n:Nat):Con sg:=⟨[],K5,false,F218 n⟩
theorem C218 (n:Nat):ConOk prog 218 (c218 n):=mkOk [] trivial (shL []) _ n 10 218 _ _ (by kernel_rfl) (by kernel_rfl)
def F156:Nat->Y1->Option ((List UInt8×Unit)×Unit):=
 λn b=>bnd (F218 n ()) λc=>bnd (@iter (Int×Unit) (List UInt8×Unit) (Unit) (Any) (λd=>sel (D.ilt d.1 (lenI c.1.1)) (chk (inbL d.1
 c.1.1) (sel (D.ile (lenI (elL c.1.1 (natI d.1) [])) (D.sub_ .i64 (lenI b.1) b.2.1)) (chk (inbL d.1 c.1.1) (chk (cutL b.2.1 (D.add .i64 b.2.1 (lenI (elL
 c.1.1 (natI d.1) []))) (lenI b.1)) (chk (inbL d.1 c.1.1) (sel (seqL (subL b.1 b.2.1 (D.add .i64 b.2.1 (lenI (elL c.1.1 (natI d.1) [])))) (elL c.1.1
 (natI d.1) [])) (chk (inbL d.1 c.1.1) (some (LO.ret () (elL c.1.1 (natI d.1) [],())))) (some (LO.next (D.add .i64 d.1 1,()))))))) (some (LO.next
 (D.add .i64 d.1 1,()))))) (some (LO.out 0 d))) n (0,())) λd=>LO.el d (λ_ _=>some (([],()),())) (λ_ g=>some (g,())) λ_ _=>none
abbrev c156 (n:Nat):Con sg:=⟨P54,K13,false,F156 n⟩
theorem C156 (n:Nat):ConOk prog 156 (c156 n):=mkOk [(218,c218 n)] ⟨C218 n,trivial⟩ (shL [(156,0,⟨[(6,.one (.dat (.int .i64)))],[],[],0,[]⟩)]) _ n 10 156 _ _ (by kernel_rfl) (by kernel_rfl)
def F80x1 (b:Y1) (d:(Int×Unit)×Unit):Bool:=
 cutL b.2.1 (D.add .i64 b.2.1 d.1.1) (lenI b.1)
def F80x2 (b:Y1) (d:(Int×Unit)×Unit):List UInt8:=
 subL b.1 b.2.1 (D.add .i64 b.2.1 d.1.1)
def F80x3 (_n:Nat):Bool×Y2×Unit->Y3:=
 λh=>some ((ReadToken.mk h.2.1.1 h.2.1.2.1 h.2.1.2.2.1 h.2.1.2.2.2.1,()),())
def F80x4 (n:Nat) (b:Y1):Y3:=
 bnd (F154 n b) λg=>bnd (sel (D.ilt 0 g.1.1) (chk (F80x1 b g) (chk (F80x1 b g) (bnd (F155 n (F80x2 b g,())) λh=>some (LO.next (true,(4,
 F80x2 b g,h.1.1,b.2),()))))) (some (LO.next (false,(0,[],0,b.2),())))) λ(h:Y4)=>LO.jn h (F80x3 n) (λ_ _=>none) (λ_ _=>some
 ((dReadToken,()),())) λ_ _=>none
def F80:Nat->Y1->Y3:=
 λn b=>chk (inbL b.2.1 b.1) (bnd (F149 n (satL b.1 b.2.1,())) λc=>sel c.1.1 (bnd (F150 n (b.1,b.2.1,false,())) λd=>chk (F80x1 b d)
 (bnd (F151 n (F80x2 b d,())) λe=>bnd (sel e.1.1 (some (LO.next (true,(3,F80x2 b d,0,b.2),()))) (bnd (sel (D.ile (lenI (F80x2 b d)) 8) (some
 (LO.next (true,(1,F80x2 b d,0,b.2),()))) (some (LO.next (false,(0,F80x2 b d,0,b.2),())))) λ(g:Y4)=>LO.jn g (λh=>some (LO.next
 (false,h.2))) (λ_ _=>none) (λh _=>some (LO.ret h ())) λ_ _=>none)) λ(g:Y4)=>LO.jn g (F80x3 n) (λ_ _=>none) (λ_ _=>some
 ((dReadToken,()),())) λ_ _=>none)) (chk (inbL b.2.1 b.1) (bnd (F152 n (satL b.1 b.2.1,())) λd=>sel d.1.1 (bnd (F150 n (b.1,D.add .i64
 b.2.1 1,false,())) λe=>chk (cutL b.2.1 (D.add .i64 (D.add .i64 b.2.1 1) e.1.1) (lenI b.1)) (bnd (sel (D.ile (lenI (subL b.1 b.2.1 (D.add .i64
 (D.add .i64 b.2.1 1) e.1.1))) 8) (some (LO.next (true,(2,subL b.1 b.2.1 (D.add .i64 (D.add .i64 b.2.1 1) e.1.1),0,b.2),()))) (some (LO.next
 (false,(0,subL b.1 b.2.1 (D.add .i64 (D.add .i64 b.2.1 1) e.1.1),0,b.2),())))) λ(g:Y4)=>LO.jn g (F80x3 n) (λ_ _=>none) (λ_ _=>
 some ((dReadToken,()),())) λ_ _=>none)) (chk (inbL b.2.1 b.1) (bnd (F153 n (satL b.1 b.2.1,())) λe=>sel e.1.1 (F80x4 n b) (chk (inbL b.2.1
 b.1) (sel (D.ieq (satL b.1 b.2.1) 126) (F80x4 n b) (bnd (F156 n b) λg=>sel (D.bnot (seqL g.1.1 [])) (some ((ReadToken.mk 5 g.1.1 0 b.2.1,()),
 ())) (some ((ReadToken.mk 0 g.1.1 0 b.2.1,()),()))))))))))
abbrev c80 (n:Nat):Con sg:=⟨P54,K55,false,F80 n⟩
theorem C80 (n:Nat):ConOk prog 80 (c80 n):=mkOk [(149,c149 n),(150,c150 n),(151,c151 n),(152,c152 n),(153,c153 n),(154,c154 n),(155,c155 n),(156,c156 n)] ⟨C149 n,C150 n,C151 n,C152 n,C153 n,C154 n,C155 n,C156 n,trivial⟩ (shL [(80,1000005,⟨[(24,.one (.dat (.bool))),(0,.box (.cells [.dat (.int .i64),.dat (.str),.dat (.int .i64),.dat (.int .i64)]))],[.slot 5],[],0,[]⟩),(80,1000007,⟨[(29,.one (.dat (.bool))),(0,.box (.cells [.dat (.int .i64),.dat (.str),.dat (.int .i64),.dat (.int .i64)]))],[.slot 5],[],0,[]⟩),(80,1000012,⟨[(50,.one (.dat (.bool))),(0,.box (.cells [.dat (.int .i64),.dat (.str),.dat (.int .i64),.dat (.int .i64)]))],[.slot 5],[],0,[]⟩),(80,1000017,⟨[(67,.one (.dat (.bool))),(0,.box (.cells [.dat (.int .i64),.dat (.str),.dat (.int .i64),.dat (.int .i64)]))],[.slot 5],[],0,[]⟩)]) _ n 10 80 _ _ (by kernel_rfl) (by kernel_rfl)
def F99x1 (_n:Nat) (c:Int×Unit):Y9:=
 some (LO.next (D.add .i64 c.1 1,()))
def F99:Nat->Y1->Y10:=
 λn b=>bnd (@iter (Int×Unit) (Int×Unit) (Unit) (Any) (λc=>sel (D.ilt c.1 (lenI b.1)) (chk (inbL c.1 b.1) (sel (D.ieq (satL b.1 c.1) 32)
 (F99x1 n c) (chk (inbL c.1 b.1) (sel (D.ieq (satL b.1 c.1) 9) (F99x1 n c) (chk (inbL c.1 b.1) (sel (D.ieq (satL b.1 c.1) 10) (F99x1 n c) (sel (D.ile 2
 (D.sub_ .i64 (lenI b.1) c.1)) (chk (cutL c.1 (D.add .i64 c.1 2) (lenI b.1)) (sel (seqL (subL b.1 c.1 (D.add .i64 c.1 2)) [47,47]) (bnd (@iter (Int×
 Unit) (Int×Unit) (Unit) (Any) (λd=>sel (D.ilt d.1 (lenI b.1)) (chk (inbL d.1 b.1) (sel (D.bnot (D.ieq (satL b.1 d.1) 10)) (F99x1 n d) (some
 (LO.out 0 d)))) (some (LO.out 0 d))) n c) λd=>LO.el d (λ_ g=>some (LO.next g)) (λ_ g=>some (LO.ret () g)) λ_ _=>none) (some (LO.ret
 () c)))) (some (LO.ret () c))))))))) (some (LO.out 0 c))) n b.2) λc=>LO.el c (λ_ e=>some (e,())) (λ_ e=>some (e,())) λ_ _=>none
abbrev c99 (n:Nat):Con sg:=⟨P54,K7,false,F99 n⟩
theorem C99 (n:Nat):ConOk prog 99 (c99 n):=mkOk [] trivial (shL [(99,0,⟨[(1,.one (.dat (.int .i64)))],[],[],0,[]⟩),(99,2,⟨[(1,.one (.dat (.int .i64)))],[],[],0,[]⟩)]) _ n 10 99 _ _ (by kernel_rfl) (by kernel_rfl)
def F49:Y21:=
 λn b=>bnd (F99 n (b.1,0,())) λc=>bnd (@iter (Y20) (Y20) (Unit) (Any) (λd=>sel (D.ilt d.2.1 (lenI b.1)) (bnd (F80 n (b.1,d.2)) λe
 =>sel (D.ieq e.1.1.1 0) (some (LO.ret () d)) (chk (fewL d.1 [e.1.1]) (bnd (F99 n (b.1,D.add .i64 d.2.1 (lenI e.1.1.2),())) λg=>some (LO.next
 (catL d.1 [e.1.1],g.1))))) (some (LO.out 0 d))) n ([],c.1)) λd=>LO.el d (λ_ g=>some ((g.1,lenI b.1,()),())) (λ_ g=>some (g,()))
 λ_ _=>none
abbrev c49 (n:Nat):Con sg:=⟨P1,K33,false,F49 n⟩
theorem C49 (n:Nat):ConOk prog 49 (c49 n):=mkOk [(80,c80 n),(99,c99 n)] ⟨C80 n,C99 n,trivial⟩ (shL [(49,0,⟨[(4,.one (.own (.st 7))),(5,.one (.dat (.int .i64)))],[],[],0,[]⟩)]) _ n 10 49 _ _ (by kernel_rfl) (by kernel_rfl)
def F17:Y21:=
 λn b=>sel (D.ilt 8000 (lenI b.1)) (some (([],3,()),())) (bnd (F49 n b) λc=>sel (D.ilt c.1.2.1 (lenI b.1)) (some (([],4,()),())) (some
 ((c.1.1,0,()),())))
abbrev c17 (n:Nat):Con sg:=⟨P1,K33,false,F17 n⟩
theorem C17 (n:Nat):ConOk prog 17 (c17 n):=mkOk [(49,c49 n)] ⟨C49 n,trivial⟩ (shL []) _ n 10 17 _ _ (by kernel_rfl) (by kernel_rfl)
def F19:Y24:=
 λn b=>sel (D.ilt 8000 (lenI b.1)) (some ((0,0,3,()),())) (bnd (F49 n b) λc=>sel (D.ieq c.1.2.1 (lenI b.1)) (some ((0,0,5,()),()))
 (bnd (@iter (Y14) (Y14) (Unit) (Any) (λd=>sel (D.ilt d.2.2.1 c.1.2.1) (chk (inbL d.2.2.1 b.1) (sel (D.ieq (satL b.1 d.2.2.1) 10) (some (LO.next
 (D.add .i64 d.1 1,1,D.add .i64 d.2.2.1 1,()))) (some (LO.next (d.1,D.add .i64 d.2.1 1,D.add .i64 d.2.2.1 1,()))))) (some (LO.out 0 d))) n (1,1,
 0,())) λd=>LO.el d (λ_ g=>some ((g.1,g.2.1,0,()),())) (λ_ g=>some (g,())) λ_ _=>none))
abbrev c19 (n:Nat):Con sg:=⟨P1,K11,false,F19 n⟩
theorem C19 (n:Nat):ConOk prog 19 (c19 n):=mkOk [(49,c49 n)] ⟨C49 n,trivial⟩ (shL [(19,0,⟨[(7,.one (.dat (.int .i64))),(8,.one (.dat (.int .i64))),(9,.one (.dat (.int .i64)))],[],[],0,[]⟩)]) _ n 10 19 _ _ (by kernel_rfl) (by kernel_rfl)
def F20x1 (b:Y25) (c:Int×Unit):ReadToken:=
 elL b.2.1 (natI c.1) dReadToken
def F20:Nat->Y25->Y6:=
 λn b=>sel (D.bnot (D.ieq (lenI b.1) (lenI b.2.1))) (some ((false,()),())) (bnd (@iter (Int×Unit) (Bool×Unit) (Unit) (Any) (λc=>sel
 (D.ilt c.1 (lenI b.1)) (chk (inbL c.1 b.1) (chk (inbL c.1 b.2.1) (sel (D.bnot (D.ieq (elL b.1 (natI c.1) dReadToken).1 (F20x1 b c).1)) (some (LO.ret ()
 (false,()))) (chk (inbL c.1 b.1) (chk (inbL c.1 b.2.1) (sel (D.bnot (seqL (elL b.1 (natI c.1) dReadToken).2 (F20x1 b c).2)) (some (LO.ret () (false,
 ()))) (chk (inbL c.1 b.1) (chk (inbL c.1 b.2.1) (sel (D.bnot (D.ieq (elL b.1 (natI c.1) dReadToken).3 (F20x1 b c).3)) (some (LO.ret () (false,())))
 (sel b.2.2.1 (chk (inbL c.1 b.1) (chk (inbL c.1 b.2.1) (sel (D.bnot (D.ieq (elL b.1 (natI c.1) dReadToken).4 (F20x1 b c).4)) (some (LO.ret () (false,
 ()))) (some (LO.next (D.add .i64 c.1 1,())))))) (some (LO.next (D.add .i64 c.1 1,()))))))))))))) (some (LO.out 0 c))) n (0,())) λc=>LO.el c
 (λ_ _=>some ((true,()),())) (λ_ e=>some (e,())) λ_ _=>none)
abbrev c20 (n:Nat):Con sg:=⟨P56,K2,false,F20 n⟩
theorem C20 (n:Nat):ConOk prog 20 (c20 n):=mkOk [] trivial (shL [(20,0,⟨[(7,.one (.dat (.int .i64)))],[],[],0,[]⟩)]) _ n 10 20 _ _ (by kernel_rfl) (by kernel_rfl)
def F3x1 (_n:Nat):Y6:=
 some ((false,()),())
def F3:Y7:=
 λn b=>bnd (F14 n b) λc=>sel (D.bnot c.1.1) (bnd (F15 n ()) λd=>some d) (bnd (F16 n b) λd=>bnd (F17 n b) λe=>bnd (F18 n b) λ
 g=>bnd (F19 n b) λh=>sel (D.ieq d.1.2.1 e.1.2.1) (bnd (F20 n (d.1.1,e.1.1,true,())) λi=>sel i.1.1 (sel (D.ieq g.1.1 h.1.1) (sel (D.ieq
 g.1.2.1 h.1.2.1) (sel (D.ieq g.1.2.2.1 h.1.2.2.1) (bnd (F15 n ()) λj=>some j) (F3x1 n)) (F3x1 n)) (F3x1 n)) (F3x1 n)) (F3x1 n))
abbrev c3 (n:Nat):Con sg:=⟨P1,K2,false,F3 n⟩
theorem C3 (n:Nat):ConOk prog 3 (c3 n):=mkOk [(14,c14 n),(15,c15 n),(16,c16 n),(17,c17 n),(18,c18 n),(19,c19 n),(20,c20 n)] ⟨C14 n,C15 n,C16 n,C17 n,C18 n,C19 n,C20 n,trivial⟩ (shL []) _ n 10 3 _ _ (by kernel_rfl) (by kernel_rfl)
end
end Mn
end
section
namespace TL
open Go
def Ev {α:Type} (f:Nat->Option α) (r:α):Prop:=∃N,∀n,N<=n->f n=some r
def Ev2 {α:Type} (f:Nat->Nat->Option α) (r:α):Prop:=∃N,∀n k,N<=n->N<=k->f n k=some r
section
variable {α β γ:Type}
theorem Ev.pure (r:α):Ev (λ_=>some r) r:=⟨0,λ_ _=>rfl⟩
theorem Ev.of_eq {f:Nat->Option α} {r:α} (h:∀n,f n=some r):Ev f r:=⟨0,λn _=>h n⟩
theorem Ev.congr {f g:Nat->Option α} {r:α} (h:∀n,f n=g n) (hg:Ev g r):Ev f r:=(funext h:f=g)▸hg
theorem Ev.uniq {f:Nat->Option α} {r r':α} (h:Ev f r) (h':Ev f r'):r=r':=by
 obtain ⟨N,h⟩:=h
 obtain ⟨N',h'⟩:=h'
 have a:=h (max N N') (Nat.le_max_left ..)
 have b:=h' (max N N') (Nat.le_max_right ..)
 rw[a] at b
 exact Option.some.inj b
theorem Ev.bnd {f:Nat->Option α} {a:α} {g:Nat->α->Option β} {r:β} (h:Ev f a) (hg:Ev (λn=>g n a) r):Ev (λn=>bnd (f n) (g n)) r:=by
 obtain ⟨N,h⟩:=h
 obtain ⟨M,hg⟩:=hg
 refine ⟨max N M,λn hn=>?_⟩
 show TL.bnd (f n) (g n)=some r
 rw[h n (Nat.le_trans (Nat.le_max_left ..) hn)]
 exact hg n (Nat.le_trans (Nat.le_max_right ..) hn)
theorem Ev.bnd_iff {f:Nat->Option α} {a:α} (h:Ev f a) (g:Nat->α->Option β) (r:β):Ev (λn=>TL.bnd (f n) (g n)) r↔Ev (λn=>g n a) r:=by
 refine ⟨λ⟨M,hM⟩=>?_,h.bnd⟩
 obtain ⟨N,h⟩:=h
 refine ⟨max N M,λn hn=>?_⟩
 have:TL.bnd (f n) (g n)=some r:=hM n (Nat.le_trans (Nat.le_max_right ..) hn)
 rw[h n (Nat.le_trans (Nat.le_max_left ..) hn)] at this
 exact this
theorem Ev.some_iff (x r:α):Ev (λ_=>some x) r↔x=r:=⟨λ⟨N,h⟩=>Option.some.inj (h N (Nat.le_refl _)),λh=>h▸Ev.pure x⟩
theorem Ev.sel_true (f g:Nat->Option α) (r:α) (b:Bool) (h:b=true):Ev (λn=>sel b (f n) (g n)) r↔Ev f r:=by subst h;exact Iff.rfl
theorem Ev.sel_false (f g:Nat->Option α) (r:α) (b:Bool) (h:b=false):Ev (λn=>sel b (f n) (g n)) r↔Ev g r:=by subst h;exact Iff.rfl
theorem Ev.sel_iff (f g:Nat->Option α) (r:α) (b:Bool):Ev (λn=>sel b (f n) (g n)) r↔if b=true then Ev f r else Ev g r:=by cases b<;>exact Iff.rfl
theorem Ev.sel {f g:Nat->Option α} {r:α} {b:Bool} (h1:b=true->Ev f r) (h2:b=false->Ev g r):Ev (λn=>TL.sel b (f n) (g n)) r:=by
 cases b
 .exact h2 rfl
 .exact h1 rfl
theorem Ev.chk {f:Nat->Option α} {r:α} {b:Bool} (hb:b=true) (h:Ev f r):Ev (λn=>TL.chk b (f n)) r:=by subst hb;exact h
theorem Ev.chk_iff (f:Nat->Option α) (r:α) (b:Bool) (hb:b=true):Ev (λn=>TL.chk b (f n)) r↔Ev f r:=by subst hb;exact Iff.rfl
theorem Ev.of2 {f:Nat->Nat->Option α} {r:α} (h:Ev2 f r):Ev (λn=>f n n) r:=by
 obtain ⟨N,h⟩:=h
 exact ⟨N,λn hn=>h n n hn hn⟩
theorem Ev.to2 {f:Nat->Option α} {r:α} (h:Ev f r):Ev2 (λn _=>f n) r:=by
 obtain ⟨N,h⟩:=h
 exact ⟨N,λn _ hn _=>h n hn⟩
theorem Ev2.step {f g:Nat->Nat->Option α} {r:α} (h:∀n k,f n (k+1)=g n k) (hg:Ev2 g r):Ev2 f r:=by
 obtain ⟨N,hg⟩:=hg
 refine ⟨N+1,λn k hn hk=>?_⟩
 cases k with
 |zero=>exact absurd hk (by omega)
 |succ k=>rw[h];exact hg n k (by omega) (by omega)
end
def EvR {α β:Type} (f:Nat->Nat->α->Option β) (x:α) (r:β):Prop:=∀d,Ev (λn=>f n (n-d) x) r
theorem EvR.step {α β:Type} {f:Nat->Nat->α->Option β} {g:Nat->(α->Option β)->α->Option β} {x:α} {r:β} (h:∀n k,f n (k+1)=g n (f n k))
  (hg:∀d,Ev (λn=>g n (f n (n-d)) x) r):EvR f x r:=by
 intro d
 obtain ⟨N,hN⟩:=hg (d+1)
 refine ⟨max N (d+1),λn hn=>?_⟩
 have e:n-d=(n-(d+1))+1:=by omega
 show f n (n-d) x=some r
 rw[e,h]
 exact hN n (by omega)
section
variable {X R B P:Type}
inductive Runs (F:Nat->X->Option (LO X R B P)):X->LO X R B P->Prop
 |next {x y:X} {o:LO X R B P}:Ev (λn=>F n x) (.next y)->Runs F y o->Runs F x o
 |out {x y:X} {j:Nat}:Ev (λn=>F n x) (.out j y)->Runs F x (.out j y)
 |ret {x:X} {b:B} {r:R}:Ev (λn=>F n x) (.ret b r)->Runs F x (.ret b r)
 |pan {x:X} {b:B} {p:P}:Ev (λn=>F n x) (.pan b p)->Runs F x (.pan b p)
theorem Runs.last {F:Nat->X->Option (LO X R B P)} {x:X} {o:LO X R B P} (h:Ev (λn=>F n x) o) (hn:∀y,o≠.next y):Runs F x o:=by
 cases o with
 |next y=>exact absurd rfl (hn y)
 |out j y=>exact .out h
 |ret b r=>exact .ret h
 |pan b p=>exact .pan h
theorem Runs.fuel {F:Nat->X->Option (LO X R B P)} {x:X} {o:LO X R B P} (h:Runs F x o):∃N,∀n k,N<=n->N<=k->iter (F n) k x=some o:=by
 induction h with
 |next h _ ih=>
  obtain ⟨N,h⟩:=h
  obtain ⟨M,ih⟩:=ih
  refine ⟨max N M+1,λn k hn hk=>?_⟩
  cases k with
  |zero=>omega
  |succ k=>
   unfold iter
   rw[show F n _=_ from h n (by omega)]
   exact ih n k (by omega) (by omega)
 |out h=>
  obtain ⟨N,h⟩:=h
  refine ⟨N+1,λn k hn hk=>?_⟩
  cases k with
  |zero=>omega
  |succ k=>unfold iter;rw[show F n _=_ from h n (by omega)]
 |ret h=>
  obtain ⟨N,h⟩:=h
  refine ⟨N+1,λn k hn hk=>?_⟩
  cases k with
  |zero=>omega
  |succ k=>unfold iter;rw[show F n _=_ from h n (by omega)]
 |pan h=>
  obtain ⟨N,h⟩:=h
  refine ⟨N+1,λn k hn hk=>?_⟩
  cases k with
  |zero=>omega
  |succ k=>unfold iter;rw[show F n _=_ from h n (by omega)]
theorem Ev.iter {F:Nat->X->Option (LO X R B P)} {x:X} {o:LO X R B P} (h:Runs F x o):Ev (λn=>TL.iter (F n) n x) o:=by
 obtain ⟨N,h⟩:=h.fuel
 exact ⟨N,λn hn=>h n n hn hn⟩
theorem Ev.iter_bnd {β:Type} {F:Nat->X->Option (LO X R B P)} {x:X} {o:LO X R B P} (h:Runs F x o) (g:Nat->LO X R B P->Option β) (r:β) (hg:Ev (λn=>g n o) r):Ev (λn=>TL.bnd (TL.iter (F n) n x) (g n)) r:=(Ev.iter h).bnd hg
theorem Runs.many {F:Nat->X->Option (LO X R B P)} {o:LO X R B P}:∀(k:Nat) (s:Nat->X),(∀i,i<k->Ev (λn=>F n (s i)) (.next (s (i+1))))->Runs F (s k) o->Runs F (s 0) o
 |0,_,_,h=>h
 |k+1,s,hs,h=>.next (hs 0 (by omega)) (Runs.many k (λi=>s (i+1)) (λi hi=>hs (i+1) (by omega)) h)
theorem loop_fold {F:Nat->X->Option (LO X R B P)} (len:Nat) (s:Nat->X) (q:Nat->Bool) (bad:Nat->LO X R B P) (j0:Nat) (hb:∀i y,bad i≠.next y)
  (h:∀i,i<len->(∀j,j<i->q j=true)->Ev (λn=>F n (s i)) (bif q i then .next (s (i+1)) else bad i))
  (he:(∀j,j<len->q j=true)->Ev (λn=>F n (s len)) (.out j0 (s len))) :
  ((∀i,i<len->q i=true)∧Runs F (s 0) (.out j0 (s len)))∨∃i,i<len∧q i=false∧(∀j,j<i->q j=true)∧Runs F (s 0) (bad i):=by
 have key:∀m i,i+m=len->(∀j,j<i->q j=true)->((∀i,i<len->q i=true)∧Runs F (s i) (.out j0 (s len)))∨∃k,k<len∧q k=false∧(∀j,j<k->q j=true)∧Runs F (s i) (bad k):=by
  intro m
  induction m with
  |zero=>
   intro i hi hq
   have:i=len:=by omega
   subst this
   exact .inl ⟨hq,.out (he hq)⟩
  |succ m ih=>
   intro i hi hq
   have hs:=h i (by omega) hq
   cases hc:q i with
   |false=>
    rw[hc] at hs
    exact .inr ⟨i,by omega,hc,hq,.last hs (hb i)⟩
   |true=>
    rw[hc] at hs
    rcases ih (i+1) (by omega) (λj hj=>by
     by_cases hji:j=i
     .rw[hji];exact hc
     .exact hq j (by omega)) with ⟨a,b⟩|⟨k,a,b,c,d⟩
    .exact .inl ⟨a,.next hs b⟩
    .exact .inr ⟨k,a,b,c,.next hs d⟩
 exact key len 0 (by omega) (λj hj=>by omega)
theorem loop_run {F:Nat->X->Option (LO X R B P)} (len:Nat) (s:Nat->X) (j0:Nat) (h:∀i,i<len->Ev (λn=>F n (s i)) (.next (s (i+1)))) (he:Ev (λn=>F n (s len)) (.out j0 (s len))):Runs F (s 0) (.out j0 (s len)):=
 Runs.many len s h (.out he)
theorem Runs.inv {F:Nat->X->Option (LO X R B P)} (I:X->Prop) (m:X->Nat) (Q:LO X R B P->Prop)
  (h:∀x,I x->(∃y,Ev (λn=>F n x) (.next y)∧I y∧m y<m x)∨∃o,(∀y,o≠.next y)∧Ev (λn=>F n x) o∧Q o):∀x,I x->∃o,Runs F x o∧Q o:=by
 intro x
 induction hm:m x using Nat.strongRecOn generalizing x with
 |ind k ih=>
  intro hx
  subst hm
  rcases h x hx with ⟨y,hy,hi,hlt⟩|⟨o,hn,ho,hq⟩
  .obtain ⟨o,h1,h2⟩:=ih (m y) hlt y rfl hi
   exact ⟨o,.next hy h1,h2⟩
  .exact ⟨o,.last ho hn,hq⟩
end
section
theorem wrap_id {n:Int} (h1:-9223372036854775808<=n) (h2:n<=9223372036854775807):IntKind.wrap .i64 n=n:=by
 unfold IntKind.wrap
 simp[IntKind.bits,IntKind.signed]
 omega
theorem add_id {a b:Int} (h1:-9223372036854775808<=a+b) (h2:a+b<=9223372036854775807):D.add .i64 a b=a+b:=wrap_id h1 h2
theorem sub_id {a b:Int} (h1:-9223372036854775808<=a-b) (h2:a-b<=9223372036854775807):D.sub_ .i64 a b=a-b:=wrap_id h1 h2
theorem mul_id {a b:Int} (h1:-9223372036854775808<=a*b) (h2:a*b<=9223372036854775807):D.mul .i64 a b=a*b:=wrap_id h1 h2
theorem inb_iff {α:Type} {n:Int} {l:List α}:inbL n l=true↔0<=n∧n<l.length:=by simp[inbL]
theorem inbn_iff {α:Type} {k:Nat} {l:List α}:inbN k l=true↔k<l.length:=by simp[inbN]
theorem cut_iff {lo hi len:Int}:cutL lo hi len=true↔0<=lo∧lo<=hi∧hi<=len:=by simp[cutL]
theorem fewL_iff {α:Type} {a b:List α}:fewL a b=true↔a.length+b.length<=17179869184:=by simp[fewL]
theorem ieq_iff {a b:Int}:D.ieq a b=true↔a=b:=by simp[D.ieq]
theorem ilt_iff {a b:Int}:D.ilt a b=true↔a<b:=by simp[D.ilt]
end
section
variable {α β:Type}
theorem bnd_s (a:α) (f:α->Option β):bnd (some a) f=f a:=rfl
theorem el_ok {R P:Type} (r:R) (f:R->Option α) (g:P->Option α):Rx.el (.ok r) f g=f r:=rfl
theorem el_pan {R P:Type} (p:P) (f:R->Option α) (g:P->Option α):Rx.el (.pan p) f g=g p:=rfl
theorem chk_t (x:Option α):chk true x=x:=rfl
theorem sel_t (x y:Option α):sel true x y=x:=rfl
theorem sel_f (x y:Option α):sel false x y=y:=rfl
theorem chk_inb {γ:Type} {i:Int} {l:List γ} (h1:0<=i) (h2:i<(l.length:Int)) (x:Option α):chk (inbL i l) x=x:=by rw[inb_iff.2 ⟨h1,h2⟩];rfl
theorem chk_inbn {γ:Type} {k:Nat} {l:List γ} (h:k<l.length) (x:Option α):chk (inbN k l) x=x:=by rw[inbn_iff.2 h];rfl
theorem chk_cut {a b c:Int} (h1:0<=a) (h2:a<=b) (h3:b<=c) (x:Option α):chk (cutL a b c) x=x:=by rw[cut_iff.2 ⟨h1,h2,h3⟩];rfl
theorem chk_few {γ:Type} {a b:List γ} (h:a.length+b.length<=17179869184) (x:Option α):chk (fewL a b) x=x:=by rw[fewL_iff.2 h];rfl
theorem chk_and (a b:Bool) (x:Option α):chk (andS a b) x=chk a (chk b x):=by cases a<;>rfl
theorem chk_eqI {a b:Int} (h:a=b) (x:Option α):chk (eqI a b) x=x:=by subst h;simp[eqI,chk]
theorem sel_eqI {a b:Int} (h:a=b) (x y:Option α):sel (eqI a b) x y=x:=by subst h;simp[eqI,sel]
theorem sel_eqIn {a b:Int} (h:a≠b) (x y:Option α):sel (eqI a b) x y=y:=by simp[eqI,sel,h]
theorem sel_lt {a b:Int} (h:a<b) (x y:Option α):sel (D.ilt a b) x y=x:=by rw[ilt_iff.2 h];rfl
theorem sel_ltn {a b:Int} (h:b<=a) (x y:Option α):sel (D.ilt a b) x y=y:=by simp[sel,D.ilt,Int.not_lt.2 h]
theorem sel_le {a b:Int} (h:a<=b) (x y:Option α):sel (D.ile a b) x y=x:=by simp[sel,D.ile,h]
theorem sel_len {a b:Int} (h:b<a) (x y:Option α):sel (D.ile a b) x y=y:=by simp[sel,D.ile,Int.not_le.2 h]
theorem sel_eq {a b:Int} (h:a=b) (x y:Option α):sel (D.ieq a b) x y=x:=by rw[ieq_iff.2 h];rfl
theorem sel_eqn {a b:Int} (h:a≠b) (x y:Option α):sel (D.ieq a b) x y=y:=by rw[show D.ieq a b=false by simp[D.ieq,h]];rfl
theorem sel_not (a:Bool) (x y:Option α):sel (D.bnot a) x y=sel a y x:=by cases a<;>rfl
theorem lt_t {a b:Int} (h:a<b):D.ilt a b=true:=ilt_iff.2 h
theorem lt_f {a b:Int} (h:b<=a):D.ilt a b=false:=by simp[D.ilt,Int.not_lt.2 h]
theorem le_t {a b:Int} (h:a<=b):D.ile a b=true:=by simp[D.ile,h]
theorem le_f {a b:Int} (h:b<a):D.ile a b=false:=by simp[D.ile,Int.not_le.2 h]
theorem eq_t {a b:Int} (h:a=b):D.ieq a b=true:=ieq_iff.2 h
theorem eq_f {a b:Int} (h:a≠b):D.ieq a b=false:=by simp[D.ieq,h]
theorem cond_t (x y:α):(bif true then x else y)=x:=rfl
theorem cond_f (x y:α):(bif false then x else y)=y:=rfl
theorem subL_all (l:List α):subL l 0 (l.length:Int)=l:=by simp[subL]
theorem subL_from (l:List α) (k:Int):subL l k (l.length:Int)=l.drop k.toNat:=by simp[subL]
theorem subL_to (l:List α) (k:Int):subL l 0 k=l.take k.toNat:=by simp[subL]
theorem natI_nat (k:Nat):natI (k:Int)=k:=rfl
theorem len_def (l:List α):lenI l=(l.length:Int):=rfl
theorem el_def (l:List α) (k:Nat) (z:α):elL l k z=l.getD k z:=rfl
theorem nat_def (n:Int):natI n=n.toNat:=rfl
theorem cat_def (a b:List α):catL a b=a++b:=rfl
theorem put_def (l:List α) (k:Nat) (x:α):putL l k x=l.set k x:=rfl
theorem len_app (a b:List α):(a++b).length=a.length+b.length:=List.length_append
theorem len_cons (a:α) (l:List α):(a ::l).length=l.length+1:=List.length_cons
theorem len_nil:([]:List α).length=0:=rfl
theorem nat_cast (k:Nat):Int.toNat (k:Int)=k:=Int.toNat_natCast k
theorem nat_zero:Int.toNat 0=0:=rfl
theorem nat_one:Int.toNat 1=1:=rfl
end
theorem lns:(∀{α:Type} (a b:List α),(a++b).length=a.length+b.length)∧(∀{α:Type} (a:α) (l:List α),(a ::l).length=l.length+1)∧(∀{α:Type},([]:List α).length=0)∧
 (∀{α:Type} (k:Nat) (l:List α),(l.drop k).length=l.length-k)∧(∀{α:Type} (k:Nat) (l:List α),(l.take k).length=min k l.length)∧(∀{α:Type} (k:Nat) (x:α) (l:List α),(l.set k x).length=l.length):=
 ⟨λ_ _=>List.length_append,λ_ _=>rfl,rfl,λ_ _=>List.length_drop,λ_ _=>List.length_take,λ_ _ _=>List.length_set⟩
theorem evs:(∀{α:Type} {β:Type} (a:α) (f:α->Option β),bnd (some a) f=f a)∧
 (∀{α:Type} {R P:Type} (r:R) (f:R->Option α) (g:P->Option α),Rx.el (.ok r) f g=f r)∧
 (∀{α:Type} {R P:Type} (p:P) (f:R->Option α) (g:P->Option α),Rx.el (.pan p) f g=g p)∧
 (∀{α:Type} (x:Option α),chk true x=x)∧
 (∀{α:Type} (x y:Option α),sel true x y=x)∧
 (∀{α:Type} (x y:Option α),sel false x y=y)∧
 (∀{α:Type} {γ:Type} {i:Int} {l:List γ} (_h1:0<=i) (_h2:i<(l.length:Int)) (x:Option α),chk (inbL i l) x=x)∧
 (∀{α:Type} {γ:Type} {k:Nat} {l:List γ} (_h:k<l.length) (x:Option α),chk (inbN k l) x=x)∧
 (∀{α:Type} {a b c:Int} (_h1:0<=a) (_h2:a<=b) (_h3:b<=c) (x:Option α),chk (cutL a b c) x=x)∧
 (∀{α:Type} {γ:Type} {a b:List γ} (_h:a.length+b.length<=17179869184) (x:Option α),chk (fewL a b) x=x)∧
 (∀{α:Type} (a b:Bool) (x:Option α),chk (andS a b) x=chk a (chk b x))∧
 (∀{α:Type} {a b:Int} (_h:a=b) (x:Option α),chk (eqI a b) x=x)∧
 (∀{α:Type} {a b:Int} (_h:a=b) (x y:Option α),sel (eqI a b) x y=x)∧
 (∀{α:Type} {a b:Int} (_h:a≠b) (x y:Option α),sel (eqI a b) x y=y)∧
 (∀{α:Type} {a b:Int} (_h:a<b) (x y:Option α),sel (D.ilt a b) x y=x)∧
 (∀{α:Type} {a b:Int} (_h:b<=a) (x y:Option α),sel (D.ilt a b) x y=y)∧
 (∀{α:Type} {a b:Int} (_h:a<=b) (x y:Option α),sel (D.ile a b) x y=x)∧
 (∀{α:Type} {a b:Int} (_h:b<a) (x y:Option α),sel (D.ile a b) x y=y)∧
 (∀{α:Type} {a b:Int} (_h:a=b) (x y:Option α),sel (D.ieq a b) x y=x)∧
 (∀{α:Type} {a b:Int} (_h:a≠b) (x y:Option α),sel (D.ieq a b) x y=y)∧
 (∀{α:Type} (a:Bool) (x y:Option α),sel (D.bnot a) x y=sel a y x)∧
 (∀{a b:Int} (_h:a<b),D.ilt a b=true)∧
 (∀{a b:Int} (_h:b<=a),D.ilt a b=false)∧
 (∀{a b:Int} (_h:a<=b),D.ile a b=true)∧
 (∀{a b:Int} (_h:b<a),D.ile a b=false)∧
 (∀{a b:Int} (_h:a=b),D.ieq a b=true)∧
 (∀{a b:Int} (_h:a≠b),D.ieq a b=false)∧
 (∀{α:Type} (x y:α),(bif true then x else y)=x)∧
 (∀{α:Type} (x y:α),(bif false then x else y)=y)∧
 (∀{α:Type} (l:List α),subL l 0 (l.length:Int)=l)∧
 (∀{α:Type} (l:List α),lenI l=(l.length:Int))∧
 (∀{α:Type} (l:List α) (k:Nat) (z:α),elL l k z=l.getD k z)∧
 (∀(n:Int),natI n=n.toNat)∧
 (∀{α:Type} (a b:List α),catL a b=a++b)∧
 (∀{α:Type} (l:List α) (k:Nat) (x:α),putL l k x=l.set k x)∧
 (∀{α:Type} (a b:List α),(a++b).length=a.length+b.length)∧
 (∀{α:Type} (a:α) (l:List α),(a ::l).length=l.length+1)∧
 (∀{α:Type},([]:List α).length=0)∧
 (∀(k:Nat),Int.toNat (k:Int)=k)∧
 (Int.toNat 0=0)∧
 (Int.toNat 1=1):=
 ⟨@bnd_s,@el_ok,@el_pan,@chk_t,@sel_t,@sel_f,@chk_inb,@chk_inbn,@chk_cut,@chk_few,@chk_and,@chk_eqI,@sel_eqI,@sel_eqIn,@sel_lt,@sel_ltn,@sel_le,@sel_len,@sel_eq,@sel_eqn,@sel_not,@lt_t,@lt_f,@le_t,@le_f,@eq_t,@eq_f,@cond_t,@cond_f,@subL_all,@len_def,@el_def,@nat_def,@cat_def,@put_def,@len_app,@len_cons,@len_nil,@nat_cast,@nat_zero,@nat_one⟩
end TL
end
section
namespace Mn
open Go TL
set_option maxRecDepth 100000
set_option maxHeartbeats 4000000
section
variable {X R B P α β:Type}
theorem el_out (j:Nat) (x:X) (f:Nat->X->Option α) (g:B->R->Option α) (h:B->P->Option α):LO.el (.out j x:LO X R B P) f g h=f j x:=rfl
theorem el_ret (b:B) (r:R) (f:Nat->X->Option α) (g:B->R->Option α) (h:B->P->Option α):LO.el (.ret b r:LO X R B P) f g h=g b r:=rfl
theorem jn_next (x:X) (e:X->Option α) (f:Nat->X->Option α) (g:B->R->Option α) (h:B->P->Option α):LO.jn (.next x:LO X R B P) e f g h=e x:=rfl
theorem sel_some (b:Bool) (x y:α):sel b (some x) (some y)=some (bif b then x else y):=by cases b<;>rfl
theorem Runs.scan {l:List UInt8} {p:UInt8->Bool} {F:Nat->Int×Unit->Option (LO (Int×Unit) R B P)}
  (h:∀k,k<l.length->Ev (λn=>F n ((k:Int),())) (bif p (l.getD k 0) then .next (((k+1:Nat):Int),()) else .out 0 ((k:Int),())))
  (he:Ev (λn=>F n ((l.length:Int),())) (.out 0 ((l.length:Int),()))):∀(m a:Nat),a+m=l.length->Runs F ((a:Int),()) (.out 0 (((a+((l.drop a).takeWhile p).length:Nat):Int),()))
 |0,a,hm=>by
  have:a=l.length:=by omega
  subst this
  rw[List.drop_length]
  exact .out he
 |m+1,a,hm=>by
  have ha:a<l.length:=by omega
  have hk:=h a ha
  have hg:l.getD a 0=l[a]:=by simp[List.getD_eq_getElem?_getD,ha]
  rw[List.drop_eq_getElem_cons ha,List.takeWhile_cons]
  rw[hg] at hk
  cases hp:p l[a] with
  |true=>
   rw[hp] at hk
   have:=Runs.scan h he m (a+1) (by omega)
   rw[if_pos rfl,List.length_cons,show a+(((l.drop (a+1)).takeWhile p).length+1)=a+1+((l.drop (a+1)).takeWhile p).length by omega]
   exact .next hk this
  |false=>
   rw[hp] at hk
   rw[if_neg (by simp)]
   exact .out hk
theorem Runs.find {l:List α} (d:α) (q:α->Bool) (mk:Nat->X) (bad:α->LO X R B P) {F:Nat->X->Option (LO X R B P)} (hb:∀a y,bad a≠.next y)
  (h:∀i,i<l.length->Ev (λn=>F n (mk i)) (bif q (l.getD i d) then bad (l.getD i d) else .next (mk (i+1))))
  (he:Ev (λn=>F n (mk l.length)) (.out 0 (mk l.length))):∀m i,i+m=l.length->Runs F (mk i) (match (l.drop i).find? q with|some a=>bad a|none=>.out 0 (mk l.length))
 |0,i,hm=>by
  have:i=l.length:=by omega
  subst this
  rw[List.drop_length]
  exact .out he
 |m+1,i,hm=>by
  have hi:i<l.length:=by omega
  have hk:=h i hi
  have hg:l.getD i d=l[i]:=by simp[List.getD_eq_getElem?_getD,hi]
  rw[List.drop_eq_getElem_cons hi,List.find?_cons]
  rw[hg] at hk
  cases hp:q l[i] with
  |true=>rw[hp] at hk;exact .last hk (hb _)
  |false=>rw[hp] at hk;exact .next hk (Runs.find d q mk bad hb h he m (i+1) (by omega))
end
def smB (c:UInt8):Bool:=D.ile 97 c.toNat&&D.ile c.toNat 122
def grB (c:UInt8):Bool:=D.ile 65 c.toNat&&D.ile c.toNat 90
def dgB (c:UInt8):Bool:=D.ile 48 c.toNat&&D.ile c.toNat 57
theorem sel_and (a b:Bool):sel a (some ((b,()),())) (some ((false,()),()))=some ((a&&b,()),()):=by cases a<;>rfl
theorem sel_or (a b:Bool):sel a (some ((true,()),())) (some ((b,()),()))=some ((a||b,()),()):=by cases a<;>rfl
theorem e141 (n:Nat) (c:UInt8):F141 n ((c.toNat:Int),())=some ((smB c,()),()):=sel_and _ _
theorem e149 (n:Nat) (c:UInt8):F149 n ((c.toNat:Int),())=some ((smB c,()),()):=sel_and _ _
theorem e143 (n:Nat) (c:UInt8):F143 n ((c.toNat:Int),())=some ((grB c,()),()):=sel_and _ _
theorem e152 (n:Nat) (c:UInt8):F152 n ((c.toNat:Int),())=some ((grB c,()),()):=sel_and _ _
theorem e145 (n:Nat) (c:UInt8):F145 n ((c.toNat:Int),())=some ((dgB c,()),()):=sel_and _ _
theorem e153 (n:Nat) (c:UInt8):F153 n ((c.toNat:Int),())=some ((dgB c,()),()):=sel_and _ _
def keys:List (List UInt8):=[[98,111,111,108],[99,101,108,108],[99,104,97,110],[101,108,115,101],[102,97,108,115,101],[102,117,110],[103,101,116],[105,102],[105,110],[105,110,112,117,116],[105,110,116],[106,111,105,110],[108,101,116],[109,97,116,99,104],[109,111,100,117,108,101],[111,117,116],[112,97,117,115,101],[112,117,116],[114,101,115,101,116],[115,101,110,100],[115,104,105,102,116],[115,112,97,119,110],[116,97,107,101],[116,97,115,107],[116,104,101,110],[116,114,117,101],[116,121,112,101],[117,110,105,116]]
def sgs:List (List UInt8):=[[61,62],[61,61],[45,62],[61],[60],[43],[45],[42],[40],[41],[123],[125],[124],[44],[59],[58],[95],[63]]
def keyB (t:List UInt8):Bool:=keys.any λk=>seqL t k
theorem e222 (n:Nat) (t:List UInt8):F222 n (t,())=some ((keyB t,()),()):=by
 unfold F222
 simp only[F222x1,sel_or]
 rfl
theorem key_short {t:List UInt8} (h:keyB t=true):t.length<=8:=by
 obtain ⟨k,hk,he⟩:=List.any_eq_true.1 h
 have:=eq_of_beq he
 subst this
 exact of_decide_eq_true (List.all_eq_true.1 (show keys.all (λk=>decide (k.length<=8))=true by decide) _ hk)
theorem e217 (n:Nat):F217 n ()=some ((keys,()),()):=rfl
theorem e218 (n:Nat):F218 n ()=some ((sgs,()),()):=rfl
theorem e147 (n:Nat):F147 n ()=some ((sgs,()),()):=rfl
theorem e151 (t:List UInt8):Ev (λn=>F151 n (t,())) ((keyB t,()),()):=by
 unfold F151 F216
 simp (disch:=first|omega|(simp only[lns]<;>omega)|fail) only[evs,e217]
 refine Ev.bnd (a:=((keyB t,()),())) ?_ (Ev.pure _)
 have hr:=Runs.find (F:=λ(n:Nat) (c:Int×Unit)=>sel (D.ilt c.1 (lenI keys)) (chk (inbL c.1 keys) (sel (seqL (elL keys (natI c.1) []) t) (some (LO.ret () (true,()):LO (Int×Unit) (Bool×Unit) Unit Any)) (some (LO.next (D.add .i64 c.1 1,()))))) (some (LO.out 0 c)))
  (l:=keys) [] (λk=>seqL k t) (λi=>((i:Int),())) (λ_=>.ret () (true,())) (λ_ _ h=>by cases h) (λi hi=>Ev.of_eq λn=>by
   have:keys.length=28:=rfl
   simp (disch:=first|omega|(simp only[lns]<;>omega)|fail) only[evs,sel_some,add_id,Int.natCast_add,Int.natCast_one]) (Ev.of_eq λn=>by simp (disch:=first|omega|(simp only[lns]<;>omega)|fail) only[evs]) 28 0 rfl
 refine Ev.iter_bnd hr (λn c=>_) _ ?_
 rw[List.drop_zero]
 cases hf:keys.find? λk=>seqL k t with
 |some a=>
  have:keyB t=true:=by
   refine List.any_eq_true.2 ⟨a,List.mem_of_find?_eq_some hf,?_⟩
   have:=List.find?_some hf
   rw[eq_of_beq this]
   exact beq_self_eq_true _
  rw[this]
  exact Ev.pure _
 |none=>
  have:keyB t=false:=by
   rw[List.find?_eq_none] at hf
   refine Bool.eq_false_iff.2 λh=>?_
   obtain ⟨k,hk,he⟩:=List.any_eq_true.1 h
   refine hf k hk ?_
   rw[eq_of_beq he]
   exact beq_self_eq_true _
  rw[this]
  exact Ev.pure _
end Mn
end
section
namespace Mn
open Go TL
set_option maxRecDepth 100000
set_option maxHeartbeats 4000000
theorem sat_nat (l:List UInt8) (k:Nat):satL l (k:Int)=((l.getD k 0).toNat:Int):=rfl
theorem sat_zero (c:UInt8) (l:List UInt8):satL (c ::l) 0=(c.toNat:Int):=rfl
theorem tw_le (p:UInt8->Bool) (l:List UInt8):(l.takeWhile p).length<=l.length:=List.takeWhile_prefix p |>.length_le
theorem take_tw (p:UInt8->Bool) (l:List UInt8):l.take (l.takeWhile p).length=l.takeWhile p:=(List.prefix_iff_eq_take.1 (List.takeWhile_prefix p)).symm
theorem all_tw (p:UInt8->Bool) (l:List UInt8):∀c∈l.takeWhile p,p c=true:=λc h=>(List.all_eq_true.1 (List.all_takeWhile (l:=l) (p:=p))) c h
theorem sub_to {α:Type} (l:List α) (k:Nat):subL l 0 (k:Int)=l.take k:=by simp[subL]
theorem sub_fr {α:Type} (l:List α) (k:Nat):subL l (k:Int) (l.length:Int)=l.drop k:=by simp[subL]
theorem sub_mid {α:Type} (l:List α) (a k:Nat):subL l (a:Int) (((a+k:Nat):Int))=(l.drop a).take k:=by
 unfold subL
 rw[Int.toNat_natCast,Int.toNat_natCast,List.drop_take,Nat.add_sub_cancel_left]
theorem rune_ascii {l:List UInt8} {k:Nat} (_hk:k<l.length) (h:(l.getD k 0).toNat<128):runeL l k=((l.getD k 0).toNat:Int)∧widL l k=1:=by
 have hg:(toBytes l).get! (k+0)=l.getD k 0:=by
  simp[toBytes,ByteArray.get!,Array.getElem!_eq_getD,List.getD_eq_getElem?_getD]
  rfl
 have:Utf8.decode (toBytes l) k=((l.getD k 0).toNat,1):=by
  unfold Utf8.decode
  simp only[hg]
  rw[if_pos h]
 unfold runeL widL
 rw[this]
 exact ⟨rfl,rfl⟩
theorem small_iff {c:UInt8}:smB c=true↔97<=c.toNat∧c.toNat<=122:=by
 unfold smB D.ile
 simp
 omega
theorem e221 {t:List UInt8} (h:∀c∈t,smB c=true):Ev (λn=>F221 n (t,())) ((true,()),()):=by
 unfold F221
 have hr:∀m k,k+m=t.length->Runs (F:=λ(n:Nat) (c:(List UInt8×Nat)×Unit)=>sel (posB c.1.2 c.1.1) (sel (D.ilt (runeL c.1.1 c.1.2) 97) (F221x1 n c) (sel (D.ilt 122 (runeL c.1.1 c.1.2)) (F221x1 n c) (some (LO.next ((c.1.1,addN c.1.2 (widL c.1.1 c.1.2)),()))))) (some (LO.out 0 c)))
   ((t,k),()) (LO.out 0 ((t,t.length),()):LO ((List UInt8×Nat)×Unit) (Bool×Unit) ((List UInt8×Nat)×Unit) Any):=by
  intro m
  induction m with
  |zero=>
   intro k hk
   have:k=t.length:=by omega
   subst this
   refine .out (Ev.of_eq λn=>?_)
   simp[posB,sel]
  |succ m ih=>
   intro k hk
   have hk':k<t.length:=by omega
   have hs:=small_iff.1 (h (t.getD k 0) (by rw[List.getD_eq_getElem?_getD,List.getElem?_eq_getElem hk'];exact List.getElem_mem hk'))
   obtain ⟨h1,h2⟩:=rune_ascii hk' (by omega)
   refine .next (y:=((t,k+1),())) (Ev.of_eq λn=>?_) (ih (k+1) (by omega))
   simp only[h1,h2]
   rw[show posB k t=true from decide_eq_true hk',sel_t,sel_ltn (by omega),sel_ltn (by omega)]
   rfl
 refine Ev.iter_bnd (hr t.length 0 (by omega)) (λn c=>_) _ ?_
 exact Ev.pure _
theorem e161 {t:List UInt8} (h:∀c∈t,smB c=true) (hn:t≠[]):Ev (λn=>F161 n (t,())) ((decide (t.length<=8)&&!keyB t,()),()):=by
 unfold F161
 have h0:seqL t []=false:=by
  cases t with
  |nil=>exact absurd rfl hn
  |cons a l=>rfl
 simp (disch:=first|omega|(simp only[lns]<;>omega)|fail) only[evs,h0]
 by_cases h8:t.length<=8
 .simp (disch:=first|omega|(simp only[lns]<;>omega)|fail) only[evs,decide_eq_true h8]
  refine Ev.bnd (e221 h) ?_
  simp (disch:=first|omega|(simp only[lns]<;>omega)|fail) only[evs,e222]
  exact Ev.pure _
 .simp (disch:=first|omega|(simp only[lns]<;>omega)|fail) only[evs,decide_eq_false h8]
  exact Ev.pure _
theorem e142 {s:List UInt8} (hs:s.length<=1000000) (hn:s.takeWhile smB≠[]):Ev (λn=>F142 n (s,())) (bif decide ((s.takeWhile smB).length<=8) then ((⟨bif keyB (s.takeWhile smB) then 3 else 1,s.takeWhile smB,0,0⟩,true,()),()) else ((dReadToken,false,()),())):=by
 unfold F142
 have hw:=tw_le smB s
 have hr:=Runs.scan (l:=s) (p:=smB) (F:=λ(n:Nat) (c:Int×Unit)=>sel (D.ilt c.1 (lenI s)) (chk (inbL c.1 s) (bnd (F141 n (satL s c.1,())) λd=>sel d.1.1 (some (LO.next (D.add .i64 c.1 1,()):LO (Int×Unit) (Int×Unit) Unit Any)) (some (LO.out 0 c)))) (some (LO.out 0 c)))
  (λk hk=>Ev.of_eq λn=>by simp (disch:=first|omega|(simp only[lns]<;>omega)|fail) only[evs,sat_nat,e141,sel_some,add_id,Int.natCast_add,Int.natCast_one]) (Ev.of_eq λn=>by simp (disch:=first|omega|(simp only[lns]<;>omega)|fail) only[evs]) s.length 0 (by omega)
 rw[List.drop_zero,Nat.zero_add] at hr
 refine Ev.iter_bnd hr (λn c=>_) _ ?_
 simp only[el_out]
 unfold F142x1
 simp (disch:=first|omega|(simp only[lns]<;>omega)|fail) only[evs,sub_to,take_tw]
 by_cases h8:(s.takeWhile smB).length<=8
 .simp (disch:=first|omega|(simp only[lns]<;>omega)|fail) only[evs,decide_eq_true h8]
  refine Ev.bnd (e161 (all_tw smB s) hn) ?_
  rw[decide_eq_true h8,Bool.true_and]
  cases keyB (s.takeWhile smB)<;>exact Ev.pure _
 .simp (disch:=first|omega|(simp only[lns]<;>omega)|fail) only[evs,decide_eq_false h8]
  exact Ev.pure _
theorem e144 {c:UInt8} {s:List UInt8} (hs:s.length<=1000000):Ev (λn=>F144 n (c ::s,())) ((⟨2,c ::s.takeWhile smB,0,0⟩,decide ((s.takeWhile smB).length+1<=8),()),()):=by
 unfold F144
 have hw:=tw_le smB s
 have h1:subL (c ::s) 1 (lenI (c ::s))=s:=by
  rw[len_def,show (1:Int)=((1:Nat):Int) from rfl,sub_fr]
  rfl
 have hr:=Runs.scan (l:=s) (p:=smB) (F:=λ(n:Nat) (c:Int×Unit)=>sel (D.ilt c.1 (lenI s)) (chk (inbL c.1 s) (bnd (F141 n (satL s c.1,())) λd=>sel d.1.1 (some (LO.next (D.add .i64 c.1 1,()):LO (Int×Unit) (Int×Unit) Unit Any)) (some (LO.out 0 c)))) (some (LO.out 0 c)))
  (λk hk=>Ev.of_eq λn=>by simp (disch:=first|omega|(simp only[lns]<;>omega)|fail) only[evs,sat_nat,e141,sel_some,add_id,Int.natCast_add,Int.natCast_one]) (Ev.of_eq λn=>by simp (disch:=first|omega|(simp only[lns]<;>omega)|fail) only[evs]) s.length 0 (by omega)
 rw[List.drop_zero,Nat.zero_add] at hr
 simp only[h1]
 refine Ev.chk (by rw[len_def,cut_iff];refine ⟨by decide,?_,Int.le_refl _⟩;rw[List.length_cons];omega) ?_
 refine Ev.iter_bnd hr (λn c=>_) _ ?_
 simp only[el_out]
 unfold F144x1
 rw[add_id (by omega) (by omega),show (1:Int)+((s.takeWhile smB).length:Int)=(((s.takeWhile smB).length+1:Nat):Int) by omega]
 simp only[sub_to,List.take_succ_cons,take_tw]
 simp (disch:=first|omega|(simp only[lns]<;>omega)|fail) only[evs]
 refine Ev.of_eq λn=>?_
 rw[show D.ile (((s.takeWhile smB).length+1:Nat):Int) 8=decide ((s.takeWhile smB).length+1<=8) by unfold D.ile;rw[decide_eq_decide];omega]
end Mn
end
section
namespace Mn
open Go TL
set_option maxRecDepth 100000
set_option maxHeartbeats 4000000
section
variable {R B P α:Type}
theorem Runs.fold {l:List UInt8} (st:Int->UInt8->Int) {F:Nat->Int×Int×Unit->Option (LO (Int×Int×Unit) R B P)}
  (h:∀k a,k<l.length->Ev (λn=>F n (a,(k:Int),())) (.next (st a (l.getD k 0),(((k+1:Nat):Int),()))))
  (he:∀a,Ev (λn=>F n (a,(l.length:Int),())) (.out 0 (a,(l.length:Int),()))):Runs F (0,0,()) (.out 0 (l.foldl st 0,(l.length:Int),())):=by
 have:=Runs.many (F:=F) (o:=.out 0 (l.foldl st 0,(l.length:Int),())) l.length (λi=>((l.take i).foldl st 0,((i:Nat):Int),())) (λi hi=>by
  have:=h i ((l.take i).foldl st 0) hi
  rw[List.take_succ_eq_append_getElem hi,List.foldl_append]
  simpa[List.getD_eq_getElem?_getD,hi] using this) (by
  simp only[List.take_length]
  exact .out (he _))
 exact this
end
def stN (a:Int) (c:UInt8):Int:=D.add .i64 (D.mul .i64 10 a) (D.conv .i64 (D.sub_ .u8 (c.toNat:Int) 48))
def numV (l:List UInt8):Int:=l.foldl stN 0
def numOk (fr:Nat) (dg:List UInt8):Bool:=match dg with
 |[]=>false
 |c ::l=>decide (l.length+1<=10)&&!(D.ieq (c.toNat:Int) 48&&decide (1<l.length+1+fr))
theorem numOk_cons (fr:Nat) (c:UInt8) (l:List UInt8):numOk fr (c ::l)=(decide (l.length+1<=10)&&!(D.ieq (c.toNat:Int) 48&&decide (1<l.length+1+fr))):=rfl
def sgn (c:UInt8):Bool:=D.ieq (c.toNat:Int) 126
def fromN (c:UInt8):Nat:=bif sgn c then 1 else 0
def negV (c:UInt8) (n:Int):Int:=bif sgn c then D.neg .i64 n else n
theorem e146x2 {c:UInt8} {s dg:List UInt8} (b:Bool) (h:Int×Unit) (_n0:Nat) (hT:F146x1 (c ::s,()) ((fromN c:Int),b,()) h=dg) (hd:dg.length<=1000) (hl:fromN c+dg.length<=s.length+1) :
  Ev (λn=>F146x2 n (c ::s,()) ((fromN c:Int),b,()) h) ((⟨4,(c ::s).take (fromN c+dg.length),negV c (numV dg),0⟩,true,()),()):=by
 unfold F146x2
 simp only[hT]
 have hr:=Runs.fold (l:=dg) stN (F:=λ(n:Nat) (i:Int×Int×Unit)=>sel (D.ilt i.2.1 (lenI dg)) (chk (inbL i.2.1 dg) (some (LO.next (D.add .i64 (D.mul .i64 10 i.1) (D.conv .i64 (D.sub_ .u8 (satL dg i.2.1) 48)),D.add .i64 i.2.1 1,()):LO (Int×Int×Unit) (Bool×Unit) Unit Any))) (some (LO.out 0 i)))
  (λk a hk=>Ev.of_eq λn=>by simp (disch:=first|omega|(simp only[lns]<;>omega)|fail) only[evs,sat_nat,add_id,Int.natCast_add,Int.natCast_one,stN]) (λa=>Ev.of_eq λn=>by simp (disch:=first|omega|(simp only[lns]<;>omega)|fail) only[evs])
 refine Ev.iter_bnd hr (λn c=>_) _ ?_
 simp only[el_out]
 have h1:fromN c<=1:=by unfold fromN;cases sgn c<;>decide
 rw[len_def,add_id (by omega) (by omega),<-Int.natCast_add,sub_to]
 have h2:((fromN c+dg.length:Nat):Int)<=((s.length+1:Nat):Int):=by omega
 unfold negV fromN
 unfold fromN at h2
 cases hc:sgn c with
 |true=>
  rw[hc] at h2
  simp only[cond_true] at h2 ⊢
  simp (disch:=first|omega|(simp only[lns]<;>omega)|fail) only[evs]
  refine Ev.of_eq λn=>?_
  rw[jn_next]
  rfl
 |false=>
  rw[hc] at h2
  simp only[cond_false] at h2 ⊢
  simp (disch:=first|omega|(simp only[lns]<;>omega)|fail) only[evs]
  refine Ev.of_eq λn=>?_
  rw[jn_next]
  rfl
theorem e146 {c:UInt8} {s:List UInt8} (hs:s.length<=1000000):∀dg,((c ::s).drop (fromN c)).takeWhile dgB=dg->
  Ev (λn=>F146 n (c ::s,())) (bif numOk (fromN c) dg then ((⟨4,(c ::s).take (fromN c+dg.length),negV c (numV dg),0⟩,true,()),()) else ((dReadToken,false,()),())):=by
 intro dg hdg
 unfold F146
 have h1:fromN c<=1:=by unfold fromN;cases sgn c<;>decide
 have hlen:dg.length+fromN c<=s.length+1:=by
  have:=tw_le dgB ((c ::s).drop (fromN c))
  rw[hdg,List.length_drop,List.length_cons] at this
  omega
 refine Ev.chk (by rw[inb_iff];exact ⟨by decide,by rw[List.length_cons];omega⟩) ?_
 refine Ev.bnd (a:=LO.next ((fromN c:Int),sgn c,())) (Ev.of_eq λn=>by
  show sel (sgn c) _ _=_
  unfold fromN
  cases sgn c<;>rfl) ?_
 simp only[jn_next]
 refine Ev.chk (by rw[len_def,cut_iff];refine ⟨by omega,?_,Int.le_refl _⟩;rw[List.length_cons];omega) ?_
 have hsub:subL (c ::s) (fromN c:Int) (lenI (c ::s))=(c ::s).drop (fromN c):=sub_fr _ _
 simp only[hsub]
 have hr:=Runs.scan (l:=(c ::s).drop (fromN c)) (p:=dgB) (F:=λ(n:Nat) (e:Int×Unit)=>sel (D.ilt e.1 (lenI ((c ::s).drop (fromN c)))) (chk (inbL e.1 ((c ::s).drop (fromN c))) (bnd (F145 n (satL ((c ::s).drop (fromN c)) e.1,())) λg=>sel g.1.1 (some (LO.next (D.add .i64
  e.1 1,()):LO (Int×Unit) (Int×Unit) Unit Any)) (some (LO.out 0 e)))) (some (LO.out 0 e)))
  (λk hk=>by
   have:((c ::s).drop (fromN c)).length<=s.length+1:=by rw[List.length_drop,List.length_cons];omega
   exact Ev.of_eq λn=>by simp (disch:=first|omega|(simp only[lns]<;>omega)|fail) only[evs,sat_nat,e145,sel_some,add_id,Int.natCast_add,Int.natCast_one]) (Ev.of_eq λn=>by simp (disch:=first|omega|(simp only[lns]<;>omega)|fail) only[evs]) ((c ::s).drop (fromN c)).length 0 (by omega)
 rw[List.drop_zero,Nat.zero_add,hdg] at hr
 refine Ev.iter_bnd hr (λn c=>_) _ ?_
 simp only[el_out]
 unfold F146x3
 have hT:F146x1 (c ::s,()) ((fromN c:Int),sgn c,()) ((dg.length:Int),())=dg:=by
  unfold F146x1
  simp only
  rw[add_id (by omega) (by omega),<-Int.natCast_add,sub_mid,<-hdg,take_tw]
 simp only[hT]
 rw[add_id (by omega) (by omega)]
 refine Ev.chk (by rw[len_def,cut_iff,List.length_cons];refine ⟨by omega,by omega,by omega⟩) ?_
 cases dg with
 |nil=>exact Ev.pure _
 |cons a l=>
  rw[List.length_cons] at hlen
  simp (disch:=first|omega|(simp only[lns]<;>omega)|fail) only[evs]
  rw[numOk_cons]
  by_cases h10:l.length+1<=10
  .rw[decide_eq_true h10,Bool.true_and]
   simp (disch:=first|omega|(simp only[lns]<;>omega)|fail) only[evs,sat_zero]
   have e2:=λb=>e146x2 (c:=c) (s:=s) (dg:=a ::l) b (((l.length+1:Nat):Int),()) 0 (by
    have:=hT
    rw[List.length_cons] at this
    exact this) (by rw[List.length_cons];omega) (by rw[List.length_cons];omega)
   rw[List.length_cons] at e2
   cases h48:D.ieq (a.toNat:Int) 48 with
   |true=>
    by_cases h2:1<l.length+1+fromN c
    .rw[decide_eq_true h2]
     simp (disch:=first|omega|(simp only[lns]<;>omega)|fail) only[evs,add_id]
     exact Ev.pure _
    .rw[decide_eq_false h2]
     simp (disch:=first|omega|(simp only[lns]<;>omega)|fail) only[evs,add_id]
     exact e2 _
   |false=>
    simp (disch:=first|omega|(simp only[lns]<;>omega)|fail) only[evs]
    exact e2 _
  .rw[decide_eq_false h10,Bool.false_and]
   simp (disch:=first|omega|(simp only[lns]<;>omega)|fail) only[evs]
   exact Ev.pure _
def pre (g s:List UInt8):Bool:=decide (g.length<=s.length)&&seqL (s.take g.length) g
theorem e148 (n:Nat) (s g:List UInt8):F148 n (s,g,())=some ((pre g s,()),()):=by
 unfold F148 F215 pre
 by_cases h:g.length<=s.length
 .simp (disch:=first|omega|(simp only[lns]<;>omega)|fail) only[evs,decide_eq_true h,sub_to]
  rfl
 .simp (disch:=first|omega|(simp only[lns]<;>omega)|fail) only[evs,decide_eq_false h]
  rfl
def tokS:List UInt8->Option (Int×List UInt8×Int)
 |[]=>none
 |c ::s=>
  bif smB c then (bif decide (((c ::s).takeWhile smB).length<=8) then some (bif keyB ((c ::s).takeWhile smB) then 3 else 1,(c ::s).takeWhile smB,0) else none)
  else bif grB c then (bif decide ((s.takeWhile smB).length+1<=8) then some (2,c ::s.takeWhile smB,0) else none)
  else bif dgB c||sgn c then (bif numOk (fromN c) (((c ::s).drop (fromN c)).takeWhile dgB) then some (4,(c ::s).take (fromN c+(((c ::s).drop (fromN c)).takeWhile dgB).length),negV c (numV (((c ::s).drop (fromN c)).takeWhile dgB))) else none)
  else (sgs.find? λg=>pre g (c ::s)).map λg=>(5,g,0)
theorem tokS_cons (c:UInt8) (s:List UInt8):tokS (c ::s)=(
  bif smB c then (bif decide (((c ::s).takeWhile smB).length<=8) then some (bif keyB ((c ::s).takeWhile smB) then 3 else 1,(c ::s).takeWhile smB,0) else none)
  else bif grB c then (bif decide ((s.takeWhile smB).length+1<=8) then some (2,c ::s.takeWhile smB,0) else none)
  else bif dgB c||sgn c then (bif numOk (fromN c) (((c ::s).drop (fromN c)).takeWhile dgB) then some (4,(c ::s).take (fromN c+(((c ::s).drop (fromN c)).takeWhile dgB).length),negV c (numV (((c ::s).drop (fromN c)).takeWhile dgB))) else none)
  else (sgs.find? λg=>pre g (c ::s)).map λg=>(5,g,0)):=rfl
theorem e79:∀{s:List UInt8},s.length<=1000000->s≠[]->∃tk b,Ev (λn=>F79 n (s,())) ((tk,b,()),())∧match tokS s with|some (k,t,v)=>tk=⟨k,t,v,0⟩∧b=true|none=>b=false
 |[],_,hn=>absurd rfl hn
 |c ::s,hs,_=>by
  rw[List.length_cons] at hs
  unfold F79 tokS
  have hc:inbL 0 (c ::s)=true:=by rw[inb_iff,List.length_cons];omega
  simp only[hc,chk_t,sat_zero]
  simp (disch:=first|omega|(simp only[lns]<;>omega)|fail) only[evs,e141]
  cases h1:smB c with
  |true=>
   simp only[sel_t,cond_true]
   have hne:(c ::s).takeWhile smB≠[]:=by rw[List.takeWhile_cons,if_pos h1];exact List.cons_ne_nil _ _
   have:=e142 (s:=c ::s) (by rw[List.length_cons];omega) hne
   by_cases h8:((c ::s).takeWhile smB).length<=8
   .rw[decide_eq_true h8] at this ⊢
    exact ⟨_,_,this.bnd (Ev.pure _),rfl,rfl⟩
   .rw[decide_eq_false h8] at this ⊢
    exact ⟨_,_,this.bnd (Ev.pure _),rfl⟩
  |false=>
   simp only[sel_f,cond_false]
   simp (disch:=first|omega|(simp only[lns]<;>omega)|fail) only[evs,e143]
   cases h2:grB c with
   |true=>
    simp only[sel_t,cond_true]
    have:=e144 (c:=c) (s:=s) (by omega)
    refine ⟨_,_,this.bnd (Ev.pure _),?_⟩
    by_cases h8:(s.takeWhile smB).length+1<=8
    .rw[decide_eq_true h8];exact ⟨rfl,rfl⟩
    .rw[decide_eq_false h8];rfl
   |false=>
    simp only[sel_f,cond_false]
    simp (disch:=first|omega|(simp only[lns]<;>omega)|fail) only[evs,e145]
    have e146':=e146 (c:=c) (s:=s) (by omega) _ rfl
    have fin:∃tk b,Ev (λn=>bnd (F146 n (c ::s,())) λg=>some g) ((tk,b,()),())∧match (bif numOk (fromN c) (((c ::s).drop (fromN c)).takeWhile dgB) then some ((4:Int),(c ::s).take (fromN c+(((c ::s).drop (fromN c)).takeWhile dgB).length),negV c (numV (((c ::s).drop (fromN c)).takeWhile dgB))) else none) with|some (k,t,v)=>tk=⟨k,t,v,0⟩∧b=true|none=>b=false:=by
     cases hk:numOk (fromN c) (((c ::s).drop (fromN c)).takeWhile dgB) with
     |true=>rw[hk] at e146';exact ⟨_,_,e146'.bnd (Ev.pure _),rfl,rfl⟩
     |false=>rw[hk] at e146';exact ⟨_,_,e146'.bnd (Ev.pure _),rfl⟩
    cases h3:dgB c with
    |true=>
     simp only[sel_t,Bool.true_or,cond_true]
     exact fin
    |false=>
     simp only[sel_f,Bool.false_or]
     rw[show D.ieq (c.toNat:Int) 126=sgn c from rfl]
     cases h4:sgn c with
     |true=>
      simp only[sel_t,cond_true]
      exact fin
     |false=>
      simp only[sel_f,cond_false]
      simp (disch:=first|omega|(simp only[lns]<;>omega)|fail) only[evs,e147,e148]
      have hr:=Runs.find (l:=sgs) [] (λg=>pre g (c ::s)) (λi=>((i:Int),((0:Int),([]:List UInt8),(0:Int),(0:Int),()),())) (λg=>LO.ret ((5,g,0,0,()),()) (true,()))
       (F:=λ(n:Nat) (h:Int×(Int×List UInt8×Int×Int×Unit)×Unit)=>sel (D.ilt h.1 (lenI sgs)) (chk (inbL h.1 sgs) (sel (pre (elL sgs (natI h.1) []) (c ::s)) (some (LO.ret ((5,elL sgs (natI h.1) [],0,0,()),()) (true,()):LO (Int×(Int×List UInt8×Int×Int×Unit)×Unit) (Bool×Unit) ((Int×List UInt8×Int×Int×Unit)×Unit) Any)) (some (LO.next (D.add .i64 h.1 1,h.2))))) (some (LO.out 0 h)))
       (λ_ _ h=>by cases h) (λi hi=>Ev.of_eq λn=>by
        have:sgs.length=18:=rfl
        simp (disch:=first|omega|(simp only[lns]<;>omega)|fail) only[evs,sel_some,add_id,Int.natCast_add,Int.natCast_one]) (Ev.of_eq λn=>by simp (disch:=first|omega|(simp only[lns]<;>omega)|fail) only[evs]) 18 0 rfl
      rw[List.drop_zero] at hr
      cases hf:sgs.find? λg=>pre g (c ::s) with
      |some g=>
       rw[hf] at hr
       exact ⟨_,_,Ev.iter_bnd hr (λn c=>_) _ (Ev.pure _),rfl,rfl⟩
      |none=>
       rw[hf] at hr
       exact ⟨_,_,Ev.iter_bnd hr (λn c=>_) _ (Ev.pure _),rfl⟩
end Mn
end
section
namespace Mn
open Go TL
set_option maxRecDepth 100000
set_option maxHeartbeats 4000000
theorem e150s {s:List UInt8} {at_:Nat} (hs:s.length<=1000000) (ha:at_<=s.length):Ev (λn=>F150 n (s,(at_:Int),false,())) (((((s.drop at_).takeWhile smB).length:Int),()),()):=by
 unfold F150 F150x1
 have hw:=tw_le smB (s.drop at_)
 rw[List.length_drop] at hw
 have hr:=Runs.scan (l:=s) (p:=smB) (F:=λ(n:Nat) (c:Int×Unit)=>sel (D.ilt c.1 (lenI s)) (chk (inbL c.1 s) (bnd (F149 n (satL s c.1,())) λe=>sel e.1.1 (some (LO.next (D.add .i64 c.1 1,()):LO (Int×Unit) (Int×Unit) Unit Any)) (some (LO.out 0
 c)))) (some (LO.out 0 c)))
  (λk hk=>Ev.of_eq λn=>by simp (disch:=first|omega|(simp only[lns]<;>omega)|fail) only[evs,sat_nat,e149,sel_some,add_id,Int.natCast_add,Int.natCast_one]) (Ev.of_eq λn=>by simp (disch:=first|omega|(simp only[lns]<;>omega)|fail) only[evs]) (s.length-at_) at_ (by omega)
 simp only[sel_f,sel_not]
 refine Ev.iter_bnd hr (λn c=>_) _ ?_
 simp only[el_out]
 rw[sub_id (by omega) (by omega)]
 refine Ev.of_eq λn=>?_
 rw[show ((at_+((s.drop at_).takeWhile smB).length:Nat):Int)-(at_:Int)=(((s.drop at_).takeWhile smB).length:Int) by omega]
theorem e150d {s:List UInt8} {at_:Nat} (hs:s.length<=1000000) (ha:at_<=s.length):Ev (λn=>F150 n (s,(at_:Int),true,())) (((((s.drop at_).takeWhile dgB).length:Int),()),()):=by
 unfold F150 F150x1
 have hw:=tw_le dgB (s.drop at_)
 rw[List.length_drop] at hw
 have hr:=Runs.scan (l:=s) (p:=dgB) (F:=λ(n:Nat) (c:Int×Unit)=>sel (D.ilt c.1 (lenI s)) (chk (inbL c.1 s) (bnd (F153 n (satL s c.1,())) λe=>sel e.1.1 (some (LO.next (D.add .i64 c.1 1,()):LO (Int×Unit) (Int×Unit) Unit Any)) (some (LO.out 0
 c)))) (some (LO.out 0 c)))
  (λk hk=>Ev.of_eq λn=>by simp (disch:=first|omega|(simp only[lns]<;>omega)|fail) only[evs,sat_nat,e153,sel_some,add_id,Int.natCast_add,Int.natCast_one]) (Ev.of_eq λn=>by simp (disch:=first|omega|(simp only[lns]<;>omega)|fail) only[evs]) (s.length-at_) at_ (by omega)
 simp only[sel_t,sel_not]
 refine Ev.iter_bnd hr (λn c=>_) _ ?_
 simp only[el_out]
 rw[sub_id (by omega) (by omega)]
 refine Ev.of_eq λn=>?_
 rw[show ((at_+((s.drop at_).takeWhile dgB).length:Nat):Int)-(at_:Int)=(((s.drop at_).takeWhile dgB).length:Int) by omega]
theorem e155a {c:UInt8} {l:List UInt8} (hc:sgn c=false) (hl:l.length<=1000000) (f:Nat->List UInt8×Unit->Option ((Int×Unit)×Unit)):Ev (λn=>B155 n (f n) (c ::l,())) ((numV (c ::l),()),()):=by
 unfold B155
 have hi:inbL 0 (c ::l)=true:=by rw[inb_iff,List.length_cons];omega
 simp only[hi,chk_t,sat_zero]
 rw[show D.ieq (c.toNat:Int) 126=sgn c from rfl,hc]
 simp only[sel_f]
 have hr:=Runs.fold (l:=c ::l) stN (F:=λ(n:Nat) (d:Int×Int×Unit)=>sel (D.ilt d.2.1 (lenI (c ::l))) (chk (inbL d.2.1 (c ::l)) (some (LO.next (D.add .i64 (D.mul .i64 10 d.1) (D.conv .i64 (D.sub_ .u8 (satL (c ::l) d.2.1) 48)),D.add .i64 d.2.1 1,()):LO (Int×Int×Unit) (Int×Unit) Unit Any))) (some (LO.out 0 d)))
  (λk a hk=>Ev.of_eq λn=>by
   rw[List.length_cons] at hk
   simp (disch:=first|omega|(simp only[lns]<;>omega)|fail) only[evs,sat_nat,add_id,Int.natCast_add,Int.natCast_one,stN]) (λa=>Ev.of_eq λn=>by simp (disch:=first|omega|(simp only[lns]<;>omega)|fail) only[evs])
 refine Ev.iter_bnd hr (λn c=>_) _ ?_
 exact Ev.pure _
theorem e155 {c:UInt8} {l:List UInt8} (hl:l.length<=1000000) (h:sgn c=true->∃a m,l=a ::m∧sgn a=false):Ev (λn=>F155 n (c ::l,())) ((bif sgn c then D.neg .i64 (numV l) else numV (c ::l),()),()):=by
 have key:∀{c:UInt8} {l:List UInt8},sgn c=false->l.length<=1000000->EvR (λn k x=>R155 n k x) (c ::l,()) ((numV (c ::l),()),()):=λhc hl=>EvR.step (g:=λn f=>B155 n f) (λn k=>rfl) λd=>e155a hc hl λn=>R155 n (n-d)
 cases hc:sgn c with
 |false=>exact key hc hl 0
 |true=>
  obtain ⟨a,m,rfl,ha⟩:=h hc
  rw[List.length_cons] at hl
  refine (EvR.step (f:=λn k x=>R155 n k x) (g:=λn f=>B155 n f) (λn k=>rfl) λd=>?_:EvR (λn k x=>R155 n k x) (c ::a ::m,()) ((D.neg .i64 (numV (a ::m)),()),())) 0
  unfold B155
  have hi:inbL 0 (c ::a ::m)=true:=by rw[inb_iff,List.length_cons];omega
  have hsub:subL (c ::a ::m) 1 (lenI (c ::a ::m))=a ::m:=by
   rw[len_def,show (1:Int)=((1:Nat):Int) from rfl,sub_fr]
   rfl
  simp only[hi,chk_t,sat_zero,hsub]
  rw[show D.ieq (c.toNat:Int) 126=sgn c from rfl,hc]
  simp only[sel_t]
  refine Ev.chk (by rw[len_def,cut_iff,List.length_cons];omega) ?_
  exact Ev.bnd (key ha (by omega) d) (Ev.pure _)
theorem e156 {s:List UInt8} {at_:Nat} (hs:s.length<=1000000) (ha:at_<=s.length):Ev (λn=>F156 n (s,(at_:Int),())) (((((sgs.find? λg=>pre g (s.drop at_)).getD []),()),())):=by
 unfold F156
 simp (disch:=first|omega|(simp only[lns]<;>omega)|fail) only[evs,e218]
 have hr:=Runs.find (l:=sgs) [] (λg=>pre g (s.drop at_)) (λi=>((i:Int),())) (λg=>LO.ret () (g,()))
  (F:=λ(n:Nat) (d:Int×Unit)=>sel (D.ilt d.1 (lenI sgs)) (chk (inbL d.1
 sgs) (sel (D.ile (lenI (elL sgs (natI d.1) [])) (D.sub_ .i64 (lenI s) (at_:Int))) (chk (inbL d.1 sgs) (chk (cutL (at_:Int) (D.add .i64 (at_:Int) (lenI (elL
 sgs (natI d.1) []))) (lenI s)) (chk (inbL d.1 sgs) (sel (seqL (subL s (at_:Int) (D.add .i64 (at_:Int) (lenI (elL sgs (natI d.1) [])))) (elL sgs
 (natI d.1) [])) (chk (inbL d.1 sgs) (some (LO.ret () (elL sgs (natI d.1) [],()):LO (Int×Unit) (List UInt8×Unit) Unit Any))) (some (LO.next (D.add .i64 d.1 1,()))))))) (some (LO.next
 (D.add .i64 d.1 1,()))))) (some (LO.out 0 d)))
  (λ_ _ h=>by cases h) (λi hi=>Ev.of_eq λn=>by
   have:sgs.length=18:=rfl
   have h1:inbL (i:Int) sgs=true:=by rw[inb_iff];omega
   generalize hg:sgs.getD i []=g
   have hle:∀g∈sgs,g.length<=2:=λg hg=>of_decide_eq_true (List.all_eq_true.1 (show sgs.all (λk=>decide (k.length<=2))=true by decide) _ hg)
   have hgl:g.length<=2:=hle g (by rw[<-hg,List.getD_eq_getElem?_getD,List.getElem?_eq_getElem hi];exact List.getElem_mem hi)
   simp only[h1,chk_t,el_def,natI_nat,hg,len_def]
   rw[sub_id (by omega) (by omega),add_id (by omega) (by omega),lt_t (by omega),sel_t,add_id (by omega) (by omega)]
   unfold pre
   rw[List.length_drop,<-Int.natCast_add,sub_mid]
   by_cases hc:g.length<=s.length-at_
   .rw[decide_eq_true hc,Bool.true_and,le_t (by omega),sel_t,cut_iff.2 ⟨by omega,by omega,by omega⟩,chk_t]
    cases seqL ((s.drop at_).take g.length) g<;>rfl
   .rw[decide_eq_false hc,Bool.false_and,le_f (by omega),sel_f]
    rfl) (Ev.of_eq λn=>by simp (disch:=first|omega|(simp only[lns]<;>omega)|fail) only[evs]) 18 0 rfl
 rw[List.drop_zero] at hr
 refine Ev.iter_bnd hr (λn c=>_) _ ?_
 cases sgs.find? λg=>pre g (s.drop at_) with
 |some g=>exact Ev.pure _
 |none=>exact Ev.pure _
theorem drop_head {s r:List UInt8} {at_:Nat} {c:UInt8} (h:s.drop at_=c ::r):at_<s.length∧s.getD at_ 0=c∧s.drop (at_+1)=r:=by
 have hl:at_<s.length:=by
  have:=congrArg List.length h
  rw[List.length_drop,List.length_cons] at this
  omega
 rw[List.drop_eq_getElem_cons hl] at h
 injection h with h1 h2
 exact ⟨hl,by rw[List.getD_eq_getElem?_getD,List.getElem?_eq_getElem hl];exact h1,h2⟩
theorem e154 {s r:List UInt8} {at_:Nat} {c:UInt8} (hs:s.length<=1000000) (h:s.drop at_=c ::r):∀dg,((c ::r).drop (fromN c)).takeWhile dgB=dg->
  Ev (λn=>F154 n (s,(at_:Int),())) (((bif numOk (fromN c) dg then ((fromN c+dg.length:Nat):Int) else 0),()),()):=by
 intro dg hdg
 obtain ⟨h1,h2,h3⟩:=drop_head h
 have hf:fromN c<=1:=by unfold fromN;cases sgn c<;>decide
 have hd:s.drop (at_+fromN c)=(c ::r).drop (fromN c):=by rw[<-h,List.drop_drop]
 unfold F154
 have hi:inbL (at_:Int) s=true:=by rw[inb_iff];omega
 simp only[hi,chk_t,sat_nat,h2]
 refine Ev.bnd (a:=LO.next (((at_+fromN c:Nat):Int),sgn c,())) (Ev.of_eq λn=>by
  rw[add_id (by omega) (by omega)]
  show sel (sgn c) _ _=_
  unfold fromN
  cases sgn c<;>rfl) ?_
 simp only[jn_next]
 have:=e150d (s:=s) (at_:=at_+fromN c) hs (by omega)
 rw[hd,hdg] at this
 refine Ev.bnd this ?_
 have hw:=tw_le dgB (s.drop (at_+fromN c))
 rw[hd,hdg,<-hd,List.length_drop] at hw
 cases dg with
 |nil=>exact Ev.pure _
 |cons a l=>
  rw[List.length_cons] at hw
  rw[numOk_cons]
  have ha:s.getD (at_+fromN c) 0=a:=by
   have:((c ::r).drop (fromN c)).head?=some a:=by
    cases hx:(c ::r).drop (fromN c) with
    |nil=>rw[hx] at hdg;cases hdg
    |cons x y=>
     rw[hx,List.takeWhile_cons] at hdg
     cases hp:dgB x with
     |true=>rw[hp,if_pos rfl] at hdg;injection hdg with e _;rw[e];rfl
     |false=>rw[hp,if_neg (by simp)] at hdg;cases hdg
   rw[<-hd] at this
   cases hx:s.drop (at_+fromN c) with
   |nil=>rw[hx] at this;cases this
   |cons x y=>
    rw[hx] at this
    injection this with e
    rw[(drop_head hx).2.1,e]
  simp (disch:=first|omega|(simp only[lns]<;>omega)|fail) only[evs,sat_nat,ha]
  by_cases h10:l.length+1<=10
  .rw[decide_eq_true h10,Bool.true_and]
   simp (disch:=first|omega|(simp only[lns]<;>omega)|fail) only[evs,sub_id,add_id]
   have hfin:((at_+fromN c:Nat):Int)-(at_:Int)+((l.length+1:Nat):Int)=((fromN c+(l.length+1):Nat):Int):=by omega
   cases h48:D.ieq (a.toNat:Int) 48 with
   |true=>
    simp only[sel_t,Bool.true_and]
    unfold fromN
    cases hc:sgn c with
    |true=>
     simp only[cond_true]
     refine Ev.of_eq λn=>?_
     by_cases hl:1<l.length+1
     .simp (disch:=first|omega|(simp only[lns]<;>omega)|fail) only[evs,decide_eq_true (show 1<l.length+1+1 by omega)];rfl
     .simp (disch:=first|omega|(simp only[lns]<;>omega)|fail) only[evs,decide_eq_true (show 1<l.length+1+1 by omega)];rfl
    |false=>
     simp only[cond_false]
     refine Ev.of_eq λn=>?_
     unfold fromN at hfin
     rw[hc,cond_false] at hfin
     by_cases hl:1<l.length+1
     .simp (disch:=first|omega|(simp only[lns]<;>omega)|fail) only[evs,decide_eq_true (show 1<l.length+1+0 by omega)];rfl
     .simp (disch:=first|omega|(simp only[lns]<;>omega)|fail) only[evs,decide_eq_false (show ¬1<l.length+1+0 by omega)]
      rw[hfin]
      rfl
   |false=>
    simp only[sel_f,Bool.false_and,Bool.not_false,cond_true]
    rw[hfin]
    exact Ev.pure _
  .rw[decide_eq_false h10,Bool.false_and]
   simp (disch:=first|omega|(simp only[lns]<;>omega)|fail) only[evs]
   exact Ev.pure _
end Mn
end
section
namespace Mn
open Go TL
set_option maxRecDepth 100000
set_option maxHeartbeats 4000000
theorem dg_sgn {a:UInt8} (h:dgB a=true):sgn a=false:=by
 unfold dgB D.ile at h
 unfold sgn D.ieq
 simp at h ⊢
 omega
theorem ile8 (k:Nat):D.ile (k:Int) 8=decide (k<=8):=by unfold D.ile;rw[decide_eq_decide];omega
theorem e80x4 {s r:List UInt8} {at_:Nat} {c:UInt8} (hs:s.length<=1000000) (h:s.drop at_=c ::r):∃tk,Ev (λn=>F80x4 n (s,(at_:Int),())) ((tk,()),())∧
  match (bif numOk (fromN c) (((c ::r).drop (fromN c)).takeWhile dgB) then some ((4:Int),(c ::r).take (fromN c+(((c ::r).drop (fromN c)).takeWhile dgB).length),negV c (numV (((c ::r).drop (fromN c)).takeWhile dgB))) else none) with
  |some (k,t,v)=>tk=⟨k,t,v,(at_:Int)⟩|none=>tk.Kind=0:=by
 obtain ⟨h1,h2,h3⟩:=drop_head h
 generalize hdg:((c ::r).drop (fromN c)).takeWhile dgB=dg
 have hf:fromN c<=1:=by unfold fromN;cases sgn c<;>decide
 have e:=e154 hs h dg hdg
 have hlen:dg.length+fromN c<=r.length+1:=by
  have:=tw_le dgB ((c ::r).drop (fromN c))
  rw[hdg,List.length_drop,List.length_cons] at this
  omega
 have hrl:at_+(r.length+1)=s.length:=by
  have:=congrArg List.length h
  rw[List.length_drop,List.length_cons] at this
  omega
 cases hk:numOk (fromN c) dg with
 |false=>
  rw[hk] at e
  refine ⟨⟨0,[],0,(at_:Int)⟩,?_,rfl⟩
  unfold F80x4
  refine e.bnd ?_
  exact Ev.pure _
 |true=>
  rw[hk] at e
  refine ⟨⟨4,(c ::r).take (fromN c+dg.length),negV c (numV dg),(at_:Int)⟩,?_,rfl⟩
  unfold F80x4
  refine e.bnd ?_
  have hpos:0<fromN c+dg.length:=by
   cases dg with
   |nil=>cases hk
   |cons a l=>rw[List.length_cons];omega
  have hT:F80x2 (s,(at_:Int),()) ((((fromN c+dg.length:Nat):Int),()),())=(c ::r).take (fromN c+dg.length):=by
   unfold F80x2
   simp only
   rw[add_id (by omega) (by omega),<-Int.natCast_add,sub_mid,h]
  have hC:F80x1 (s,(at_:Int),()) ((((fromN c+dg.length:Nat):Int),()),())=true:=by
   unfold F80x1
   simp only
   rw[add_id (by omega) (by omega),len_def,cut_iff]
   omega
  simp only[cond_true]
  simp only[hT,hC,chk_t]
  rw[lt_t (by omega)]
  simp only[sel_t]
  refine Ev.bnd (a:=LO.next (true,(4,(c ::r).take (fromN c+dg.length),negV c (numV dg),(at_:Int),()),())) ?_ (Ev.pure _)
  have e5:Ev (λn=>F155 n ((c ::r).take (fromN c+dg.length),())) ((negV c (numV dg),()),()):=by
   unfold negV
   cases hc:sgn c with
   |true=>
    have hf1:fromN c=1:=by unfold fromN;rw[hc];rfl
    rw[hf1] at hdg ⊢
    rw[List.drop_succ_cons,List.drop_zero] at hdg
    rw[Nat.add_comm,List.take_succ_cons,<-hdg,take_tw,hdg]
    have:=e155 (c:=c) (l:=dg) (by omega) (λ_=>by
     cases dg with
     |nil=>rw[hf1] at hk;cases hk
     |cons a m=>exact ⟨a,m,rfl,dg_sgn (all_tw dgB r a (by rw[hdg];exact .head _))⟩)
    rw[hc] at this
    exact this
   |false=>
    have hf0:fromN c=0:=by unfold fromN;rw[hc];rfl
    rw[hf0] at hdg ⊢
    rw[List.drop_zero] at hdg
    rw[Nat.zero_add,<-hdg,take_tw,hdg]
    cases dg with
    |nil=>rw[hf0] at hk;cases hk
    |cons a m=>
     have ha:a=c:=by
      rw[List.takeWhile_cons] at hdg
      cases hp:dgB c with
      |true=>rw[hp,if_pos rfl] at hdg;injection hdg with e _;exact e.symm
      |false=>rw[hp,if_neg (by simp)] at hdg;cases hdg
     subst ha
     rw[List.length_cons] at hlen
     have:=e155 (c:=a) (l:=m) (by omega) (λh=>by rw[hc] at h;cases h)
     rw[hc] at this
     exact this
  exact e5.bnd (Ev.pure _)
theorem e80 {s r:List UInt8} {at_:Nat} {c:UInt8} (hs:s.length<=1000000) (h:s.drop at_=c ::r):∃tk,Ev (λn=>F80 n (s,(at_:Int),())) ((tk,()),())∧
  match tokS (c ::r) with|some (k,t,v)=>tk=⟨k,t,v,(at_:Int)⟩|none=>tk.Kind=0:=by
 obtain ⟨h1,h2,h3⟩:=drop_head h
 have hi:inbL (at_:Int) s=true:=by rw[inb_iff];omega
 have hrl:at_+(r.length+1)=s.length:=by
  have:=congrArg List.length h
  rw[List.length_drop,List.length_cons] at this
  omega
 unfold F80 tokS
 simp only[hi,chk_t,sat_nat,h2]
 simp (disch:=first|omega|(simp only[lns]<;>omega)|fail) only[evs,e149]
 cases hsm:smB c with
 |true=>
  simp only[sel_t,cond_true]
  have e:=e150s (s:=s) (at_:=at_) hs (by omega)
  rw[h] at e
  have hw:=tw_le smB (c ::r)
  rw[List.length_cons] at hw
  generalize hT0:(c ::r).takeWhile smB=T at e hw ⊢
  have hT:F80x2 (s,(at_:Int),()) (((T.length:Int),()),())=T:=by
   unfold F80x2
   simp only
   rw[add_id (by omega) (by omega),<-Int.natCast_add,sub_mid,h,<-hT0,take_tw]
  have hC:F80x1 (s,(at_:Int),()) (((T.length:Int),()),())=true:=by
   unfold F80x1
   simp only
   rw[add_id (by omega) (by omega),len_def,cut_iff]
   omega
  cases hk:keyB T with
  |true=>
   rw[decide_eq_true (key_short hk)]
   refine ⟨⟨3,T,0,(at_:Int)⟩,?_,rfl⟩
   refine e.bnd ?_
   simp only[hT,hC,chk_t]
   refine (e151 T).bnd ?_
   rw[hk]
   exact Ev.pure _
  |false=>
   by_cases h8:T.length<=8
   .rw[decide_eq_true h8]
    refine ⟨⟨1,T,0,(at_:Int)⟩,?_,rfl⟩
    refine e.bnd ?_
    simp only[hT,hC,chk_t]
    refine (e151 T).bnd ?_
    rw[hk,ile8,decide_eq_true h8]
    exact Ev.pure _
   .rw[decide_eq_false h8]
    refine ⟨⟨0,T,0,(at_:Int)⟩,?_,rfl⟩
    refine e.bnd ?_
    simp only[hT,hC,chk_t]
    refine (e151 T).bnd ?_
    rw[hk,ile8,decide_eq_false h8]
    exact Ev.pure _
 |false=>
  simp only[sel_f,cond_false]
  simp (disch:=first|omega|(simp only[lns]<;>omega)|fail) only[evs,e152]
  cases hgr:grB c with
  |true=>
   simp only[sel_t,cond_true]
   have e:=e150s (s:=s) (at_:=at_+1) hs (by omega)
   rw[h3] at e
   have hw:=tw_le smB r
   have ha:D.add .i64 (at_:Int) 1=((at_+1:Nat):Int):=add_id (by omega) (by omega)
   simp only[ha]
   have ha2:D.add .i64 ((at_+1:Nat):Int) ((r.takeWhile smB).length:Int)=((at_+((r.takeWhile smB).length+1):Nat):Int):=by rw[add_id (by omega) (by omega)];omega
   have hT:subL s (at_:Int) ((at_+((r.takeWhile smB).length+1):Nat):Int)=c ::r.takeWhile smB:=by rw[sub_mid,h,List.take_succ_cons,take_tw]
   have hC:cutL (at_:Int) ((at_+((r.takeWhile smB).length+1):Nat):Int) (s.length:Int)=true:=by rw[cut_iff];omega
   by_cases h8:(r.takeWhile smB).length+1<=8
   .rw[decide_eq_true h8]
    refine ⟨⟨2,c ::r.takeWhile smB,0,(at_:Int)⟩,?_,rfl⟩
    refine e.bnd ?_
    simp only[ha2,hT,hC,chk_t]
    rw[ile8,List.length_cons,decide_eq_true h8]
    exact Ev.pure _
   .rw[decide_eq_false h8]
    refine ⟨⟨0,c ::r.takeWhile smB,0,(at_:Int)⟩,?_,rfl⟩
    refine e.bnd ?_
    simp only[ha2,hT,hC,chk_t]
    rw[ile8,List.length_cons,decide_eq_false h8]
    exact Ev.pure _
  |false=>
   simp only[sel_f,cond_false]
   simp (disch:=first|omega|(simp only[lns]<;>omega)|fail) only[evs,e153]
   have fin:=e80x4 hs h
   cases hdg:dgB c with
   |true=>
    simp only[sel_t,Bool.true_or,cond_true]
    exact fin
   |false=>
    simp only[sel_f,Bool.false_or]
    rw[show D.ieq (c.toNat:Int) 126=sgn c from rfl]
    cases hc:sgn c with
    |true=>
     simp only[sel_t,cond_true]
     exact fin
    |false=>
     simp only[sel_f,cond_false]
     have e:=e156 (s:=s) (at_:=at_) hs (by omega)
     rw[h] at e
     cases hfd:sgs.find? λg=>pre g (c ::r) with
     |some g=>
      rw[hfd] at e
      refine ⟨⟨5,g,0,(at_:Int)⟩,?_,rfl⟩
      refine e.bnd ?_
      have hg:=List.mem_of_find?_eq_some hfd
      have:seqL g []=false:=by
       have:=List.all_eq_true.1 (show sgs.all (λk=>!seqL k [])=true by decide) _ hg
       simpa using this
      simp only[Option.getD_some,this]
      exact Ev.pure _
     |none=>
      rw[hfd] at e
      refine ⟨⟨0,[],0,(at_:Int)⟩,?_,rfl⟩
      refine e.bnd ?_
      exact Ev.pure _
theorem tok_ok {s:List UInt8} {k v:Int} {t:List UInt8} (h:tokS s=some (k,t,v)):t.length<=11∧k≠0∧t≠[]:=by
 cases s with
 |nil=>cases h
 |cons c s=>
  rw[tokS_cons] at h
  cases h1:smB c with
  |true=>
   rw[h1,cond_true] at h
   by_cases h8:((c ::s).takeWhile smB).length<=8
   .rw[decide_eq_true h8,cond_true] at h
    cases h
    refine ⟨by omega,by cases keyB ((c ::s).takeWhile smB)<;>decide,?_⟩
    rw[List.takeWhile_cons,if_pos h1]
    exact List.cons_ne_nil _ _
   .rw[decide_eq_false h8,cond_false] at h
    cases h
  |false=>
   rw[h1,cond_false] at h
   cases h2:grB c with
   |true=>
    rw[h2,cond_true] at h
    by_cases h8:(s.takeWhile smB).length+1<=8
    .rw[decide_eq_true h8,cond_true] at h
     cases h
     exact ⟨by rw[List.length_cons];omega,by decide,List.cons_ne_nil _ _⟩
    .rw[decide_eq_false h8,cond_false] at h
     cases h
   |false=>
    rw[h2,cond_false] at h
    cases h3:dgB c||sgn c with
    |true=>
     rw[h3,cond_true] at h
     have hf:fromN c<=1:=by unfold fromN;cases sgn c<;>decide
     generalize hdg:((c ::s).drop (fromN c)).takeWhile dgB=dg at h
     cases hk:numOk (fromN c) dg with
     |true=>
      rw[hk,cond_true] at h
      cases h
      cases dg with
      |nil=>cases hk
      |cons a l=>
       rw[numOk_cons,Bool.and_eq_true,decide_eq_true_eq] at hk
       rw[List.length_cons]
       refine ⟨by rw[List.length_take];omega,by decide,?_⟩
       rw[show fromN c+(l.length+1)=fromN c+l.length+1 by omega,List.take_succ_cons]
       exact List.cons_ne_nil _ _
     |false=>
      rw[hk,cond_false] at h
      cases h
    |false=>
     rw[h3,cond_false] at h
     cases hf:sgs.find? λg=>pre g (c ::s) with
     |none=>rw[hf] at h;cases h
     |some g=>
      rw[hf] at h
      cases h
      have hg:=List.mem_of_find?_eq_some hf
      have:=List.all_eq_true.1 (show sgs.all (λk=>!seqL k []&&decide (k.length<=2))=true by decide) _ hg
      rw[Bool.and_eq_true,decide_eq_true_eq] at this
      refine ⟨by omega,by decide,λh=>?_⟩
      rw[h] at this
      exact absurd this.1 (by decide)
end Mn
end
section
namespace Mn
open Go TL
set_option maxRecDepth 100000
set_option maxHeartbeats 4000000
def blB (c:UInt8):Bool:=D.ieq (c.toNat:Int) 32||(D.ieq (c.toNat:Int) 9||D.ieq (c.toNat:Int) 10)
def nlB (c:UInt8):Bool:=D.bnot (D.ieq (c.toNat:Int) 10)
theorem e173 (n:Nat) (c:UInt8):F173 n ((c.toNat:Int),())=some ((blB c,()),()):=by
 unfold F173
 rw[sel_or,sel_or]
 rfl
theorem e174 (n:Nat) (c:UInt8):F174 n ((c.toNat:Int),())=some ((nlB c,()),()):=rfl
def st2:List UInt8->Bool
 |47 ::47 ::_=>true
 |_=>false
def skS:Bool->List UInt8->Nat
 |_,[]=>0
 |false,c ::s=>bif blB c then skS false s+1 else bif st2 (c ::s) then skS true s+1 else 0
 |true,c ::s=>bif nlB c then skS true s+1 else skS false s+1
theorem skS_le:∀(b:Bool) (s:List UInt8),skS b s<=s.length
 |b,[]=>by cases b<;>exact Nat.le_refl _
 |false,c ::s=>by
  have h1:=skS_le false s
  have h2:=skS_le true s
  rw[List.length_cons]
  unfold skS
  cases blB c<;>cases st2 (c ::s)<;>simp only[cond_true,cond_false]<;>omega
 |true,c ::s=>by
  have h1:=skS_le false s
  have h2:=skS_le true s
  rw[List.length_cons]
  unfold skS
  cases nlB c<;>simp only[cond_true,cond_false]<;>omega
theorem drop_tw (p:UInt8->Bool):∀(s:List UInt8),s.drop (s.takeWhile p).length=s.dropWhile p
 |[]=>rfl
 |c ::s=>by
  rw[List.takeWhile_cons,List.dropWhile_cons]
  cases h:p c with
  |true=>rw[if_pos rfl,if_pos rfl,List.length_cons,List.drop_succ_cons];exact drop_tw p s
  |false=>rw[if_neg (by simp),if_neg (by simp)];rfl
theorem nl_bl {c:UInt8} (h:nlB c=false):blB c=true:=by
 unfold nlB D.bnot at h
 unfold blB
 simp at h
 rw[h]
 simp
theorem skS_true:∀(s:List UInt8),skS true s=(s.takeWhile nlB).length+skS false (s.dropWhile nlB)
 |[]=>rfl
 |c ::s=>by
  rw[List.takeWhile_cons,List.dropWhile_cons]
  cases h:nlB c with
  |true=>
   rw[if_pos rfl,if_pos rfl,List.length_cons]
   show (bif nlB c then _ else _)=_
   rw[h,cond_true,skS_true s]
   omega
  |false=>
   rw[if_neg (by simp),if_neg (by simp)]
   show (bif nlB c then _ else _)=0+(bif blB c then _ else _)
   rw[h,cond_false,nl_bl h,cond_true]
   omega
theorem nl47:nlB 47=true:=by decide
theorem tw47 (r:List UInt8):(47 ::r).takeWhile nlB=47 ::r.takeWhile nlB:=List.takeWhile_cons_of_pos nl47
theorem dw47 (r:List UInt8):(47 ::r).dropWhile nlB=r.dropWhile nlB:=List.dropWhile_cons_of_pos nl47
theorem st2_nl {s:List UInt8} (h:st2 s=true):∃r,s=47 ::47 ::r:=by
 unfold st2 at h
 split at h
 .exact ⟨_,rfl⟩
 .cases h
theorem skS_st2 {s:List UInt8} (h:st2 s=true):skS false s=(s.takeWhile nlB).length+skS false (s.dropWhile nlB):=by
 obtain ⟨r,rfl⟩:=st2_nl h
 show skS true (47 ::r)+1=_
 rw[skS_true,tw47,dw47,tw47,dw47,tw47,dw47]
 simp only[List.length_cons]
 omega
theorem skS_bl:∀(s:List UInt8),skS false s=(s.takeWhile blB).length+skS false (s.dropWhile blB)
 |[]=>rfl
 |c ::s=>by
  rw[List.takeWhile_cons,List.dropWhile_cons]
  cases h:blB c with
  |true=>
   rw[if_pos rfl,if_pos rfl,List.length_cons]
   show (bif blB c then _ else _)=_
   rw[h,cond_true,skS_bl s]
   omega
  |false=>
   rw[if_neg (by simp),if_neg (by simp)]
   exact (Nat.zero_add _).symm
theorem skS_end {s:List UInt8} (h1:∀c r,s=c ::r->blB c=false) (h2:st2 s=false):skS false s=0:=by
 cases s with
 |nil=>rfl
 |cons c r=>
  show (bif blB c then _ else bif st2 (c ::r) then _ else _)=_
  rw[h1 c r rfl,h2]
  rfl
theorem dw_head {p:UInt8->Bool}:∀{s:List UInt8} {c r},s.dropWhile p=c ::r->p c=false
 |[],c,r,h=>by cases h
 |a ::s,c,r,h=>by
  rw[List.dropWhile_cons] at h
  cases ha:p a with
  |true=>rw[ha,if_pos rfl] at h;exact dw_head h
  |false=>rw[ha,if_neg (by simp)] at h;injection h with h1 _;rw[<-h1];exact ha
theorem pre_st2 (s:List UInt8):pre [47,47] s=st2 s:=by
 unfold pre
 match s with
 |[]=>rfl
 |[a]=>
  have:st2 [a]=false:=by
   refine Bool.eq_false_iff.2 λh=>?_
   obtain ⟨r',hr⟩:=st2_nl h
   cases hr
  rw[this]
  rfl
 |a ::b ::r=>
  show (decide (2<=r.length+2)&&seqL [a,b] [47,47])=_
  rw[decide_eq_true (by omega),Bool.true_and]
  cases h:seqL [a,b] [47,47] with
  |true=>
   have:=eq_of_beq h
   injection this with h1 h2
   injection h2 with h2 _
   rw[h1,h2]
   rfl
  |false=>
   symm
   refine Bool.eq_false_iff.2 λhs=>?_
   obtain ⟨r',hr⟩:=st2_nl hs
   injection hr with h1 h2
   injection h2 with h2 _
   rw[h1,h2] at h
   exact absurd h (by decide)
theorem e98 {s:List UInt8} (hs:s.length<=1000000):Ev (λn=>F98 n (s,())) (((skS false s:Int),()),()):=by
 unfold F98
 refine Ev.bnd (a:=LO.ret () ((skS false s:Int),())) (Ev.iter ?_) (Ev.pure _)
 have key:∀m k,m=s.length-k->k<=s.length->k+skS false (s.drop k)=skS false s->Runs (F:=λ(n:Nat) (c:Int×Unit)=>(chk (cutL c.1 (lenI s) (lenI s)) (bnd (@iter (Int×Unit) (Int×Unit) Unit Any (λd=>sel (D.ilt d.1 (lenI (subL s c.1 (lenI s)))) (chk (inbL d.1 (subL s c.1 (lenI s))) (bnd (F173 n (satL (subL s c.1 (lenI s)) d.1,())) λe=>sel e.1.1 (some (LO.next (D.add .i64 d.1 1,()))) (some (LO.out 0 d)))) (some (LO.out 0 d))) n (0,())) λd=>LO.el d (λ_=>F98x2 n (s,()) c) (λ_=>F98x2 n (s,()) c) λ_ _=>none):Option (LO (Int×Unit) (Int×Unit) Unit Any)))
   ((k:Int),()) (LO.ret () ((skS false s:Int),())):=by
  intro m
  induction m using Nat.strongRecOn with
  |ind m ih=>
  intro k hm hk hsk
  have hsub:subL s (k:Int) (lenI s)=s.drop k:=sub_fr _ _
  have hlen:(s.drop k).length=s.length-k:=List.length_drop
  have hw:=tw_le blB (s.drop k)
  have hr:=Runs.scan (l:=s.drop k) (p:=blB) (F:=λ(n:Nat) (d:Int×Unit)=>sel (D.ilt d.1 (lenI (s.drop k))) (chk (inbL d.1 (s.drop k)) (bnd (F173 n (satL (s.drop k) d.1,())) λe=>sel e.1.1 (some (LO.next (D.add .i64 d.1 1,()):LO (Int×Unit) (Int×Unit) Unit Any)) (some (LO.out 0 d)))) (some (LO.out 0 d)))
   (λj hj=>Ev.of_eq λn=>by simp (disch:=first|omega|(simp only[lns]<;>omega)|fail) only[evs,sat_nat,e173,sel_some,add_id,Int.natCast_add,Int.natCast_one]) (Ev.of_eq λn=>by simp (disch:=first|omega|(simp only[lns]<;>omega)|fail) only[evs]) (s.drop k).length 0 (by omega)
  rw[List.drop_zero,Nat.zero_add] at hr
  generalize hj:((s.drop k).takeWhile blB).length=j at hr hw
  have hdrop:s.drop (k+j)=(s.drop k).dropWhile blB:=by rw[<-hj,<-drop_tw,List.drop_drop]
  have hskj:k+j+skS false (s.drop (k+j))=skS false s:=by rw[hdrop,<-hsk,skS_bl (s.drop k),hj];omega
  have hadd:D.add .i64 (k:Int) (j:Int)=((k+j:Nat):Int):=add_id (by omega) (by omega)
  have hsubj:subL s ((k+j:Nat):Int) (lenI s)=s.drop (k+j):=sub_fr _ _
  have hcut:cutL ((k+j:Nat):Int) (lenI s) (lenI s)=true:=by rw[len_def,cut_iff];omega
  have round:∀{o:LO (Int×Unit) (Int×Unit) Unit Any},Ev (λn=>F98x2 n (s,()) ((k:Int),()) ((j:Int),())) o->Ev (λn=>(chk (cutL (k:Int) (lenI s) (lenI s)) (bnd (@iter (Int×Unit) (Int×Unit) Unit Any (λd=>sel (D.ilt d.1 (lenI (subL s (k:Int) (lenI s)))) (chk (inbL d.1 (subL s (k:Int) (lenI s))) (bnd (F173 n (satL (subL s (k:Int) (lenI s)) d.1,())) λe=>sel e.1.1 (some (LO.next (D.add .i64 d.1 1,()))) (some (LO.out 0 d)))) (some (LO.out 0 d))) n (0,())) λd=>LO.el d (λ_=>F98x2 n (s,()) ((k:Int),())) (λ_=>F98x2 n (s,()) ((k:Int),())) λ_ _=>none))) o:=by
   intro o ho
   refine Ev.chk (by rw[len_def,cut_iff];omega) ?_
   simp only[hsub]
   exact Ev.iter_bnd hr (λn c=>_) _ ho
  have h148:∀n,F148 n (s.drop (k+j),[47,47],())=some ((st2 (s.drop (k+j)),()),()):=λn=>by rw[e148,pre_st2]
  cases hst:st2 (s.drop (k+j)) with
  |false=>
   have hend:skS false (s.drop (k+j))=0:=skS_end (λc r h=>dw_head (hdrop▸h)) hst
   refine .ret (round ?_)
   unfold F98x2 F98x1
   simp only[hadd,hsubj,hcut,chk_t,h148,hst]
   refine Ev.of_eq λn=>?_
   rw[show skS false s=k+j by omega]
   rfl
  |true=>
   have hlt:k+j<s.length:=by
    obtain ⟨r,hr'⟩:=st2_nl hst
    exact (drop_head hr').1
   have hw2:=tw_le nlB (s.drop (k+j))
   have hr2:=Runs.scan (l:=s.drop (k+j)) (p:=nlB) (F:=λ(n:Nat) (i:Int×Unit)=>sel (D.ilt i.1 (lenI (s.drop (k+j)))) (chk (inbL i.1 (s.drop (k+j))) (bnd (F174 n (satL (s.drop (k+j)) i.1,())) λe=>sel e.1.1 (some (LO.next (D.add .i64 i.1 1,()):LO (Int×Unit) (Int×Unit) Unit Any)) (some (LO.out 0 i)))) (some (LO.out 0 i)))
    (λi hi=>Ev.of_eq λn=>by
     have:(s.drop (k+j)).length=s.length-(k+j):=List.length_drop
     simp (disch:=first|omega|(simp only[lns]<;>omega)|fail) only[evs,sat_nat,e174,sel_some,add_id,Int.natCast_add,Int.natCast_one]) (Ev.of_eq λn=>by simp (disch:=first|omega|(simp only[lns]<;>omega)|fail) only[evs]) (s.drop (k+j)).length 0 (by omega)
   rw[List.drop_zero,Nat.zero_add] at hr2
   have hpos:0<((s.drop (k+j)).takeWhile nlB).length:=by
    obtain ⟨r,hr'⟩:=st2_nl hst
    rw[hr',tw47,List.length_cons]
    omega
   have hsk2:=skS_st2 hst
   rw[<-drop_tw,List.drop_drop] at hsk2
   generalize ((s.drop (k+j)).takeWhile nlB).length=i at hr2 hw2 hpos hsk2
   rw[List.length_drop] at hw2
   refine .next (y:=(((k+j+i:Nat):Int),())) (round ?_) (ih (s.length-(k+j+i)) (by omega) (k+j+i) rfl (by omega) (by omega))
   unfold F98x2 F98x1
   simp only[hadd,hsubj,hcut,chk_t,h148,hst]
   show Ev (λn=>bnd _ λi=>_) _
   refine Ev.iter_bnd hr2 (λn c=>_) _ ?_
   simp only[el_out]
   rw[add_id (by omega) (by omega),<-Int.natCast_add]
   exact Ev.pure _
 exact key s.length 0 (by omega) (by omega) (by rw[List.drop_zero,Nat.zero_add])
end Mn
end
section
namespace Mn
open Go TL
set_option maxRecDepth 100000
set_option maxHeartbeats 4000000
theorem e149b (_n:Nat) (c:UInt8) (k:Int):D.ieq (c.toNat:Int) k=decide ((c.toNat:Int)=k):=rfl
theorem e99 {s:List UInt8} {at_:Nat} (hs:s.length<=1000000) (ha:at_<=s.length):Ev (λn=>F99 n (s,(at_:Int),())) ((((at_+skS false (s.drop at_):Nat):Int),()),()):=by
 unfold F99
 have key:∀m k,m=s.length-k->k<=s.length->∃o,Runs (F:=λ(n:Nat) (c:Int×Unit)=>sel (D.ilt c.1 (lenI s)) (chk (inbL c.1 s) (sel (D.ieq (satL s c.1) 32) (F99x1 n c) (chk (inbL c.1 s) (sel (D.ieq (satL s c.1) 9) (F99x1 n c) (chk (inbL c.1 s) (sel (D.ieq (satL s c.1) 10) (F99x1 n c) (sel (D.ile 2 (D.sub_ .i64 (lenI s) c.1)) (chk (cutL c.1 (D.add .i64 c.1 2) (lenI s)) (sel (seqL (subL s c.1 (D.add .i64 c.1 2)) [47,47]) (bnd (@iter (Int×Unit) (Int×Unit) Unit Any (λd=>sel (D.ilt d.1 (lenI s)) (chk (inbL d.1 s) (sel (D.bnot (D.ieq (satL s d.1) 10)) (F99x1 n d) (some (LO.out 0 d)))) (some (LO.out 0 d))) n c) λd=>LO.el d (λ_ g=>some (LO.next g)) (λ_ g=>some (LO.ret () g)) λ_ _=>none) (some (LO.ret () c)))) (some (LO.ret () c))))))))) (some (LO.out 0 c)))
   ((k:Int),()) o∧(o=LO.out 0 (((k+skS false (s.drop k):Nat):Int),())∨o=(LO.ret () (((k+skS false (s.drop k):Nat):Int),()):LO (Int×Unit) (Int×Unit) Unit Any)):=by
  intro m
  induction m using Nat.strongRecOn with
  |ind m ih=>
  intro k hm hk
  by_cases hlt:k<s.length
  .have hlt1:D.ilt (k:Int) (lenI s)=true:=lt_t (by rw[len_def];omega)
   have hin:inbL (k:Int) s=true:=by rw[inb_iff];omega
   have hdk:=List.drop_eq_getElem_cons hlt
   have hg:s.getD k 0=s[k]:=by simp[List.getD_eq_getElem?_getD,hlt]
   have hadd1:D.add .i64 (k:Int) 1=((k+1:Nat):Int):=add_id (by omega) (by omega)
   cases hb:blB s[k] with
   |true=>
    have hsk:skS false (s.drop k)=skS false (s.drop (k+1))+1:=by
     rw[hdk]
     show (bif blB s[k] then _ else _)=_
     rw[hb,cond_true]
    obtain ⟨o,ho,ho2⟩:=ih (s.length-(k+1)) (by omega) (k+1) rfl (by omega)
    refine ⟨o,.next (y:=(((k+1:Nat):Int),())) (Ev.of_eq λn=>?_) ho,by rw[hsk,show k+(skS false (s.drop (k+1))+1)=k+1+skS false (s.drop (k+1)) by omega];exact ho2⟩
    unfold blB at hb
    simp only[hlt1,hin,sel_t,chk_t,sat_nat,hg,F99x1,hadd1]
    cases h1:D.ieq (s[k].toNat:Int) 32 with
    |true=>rfl
    |false=>
     cases h2:D.ieq (s[k].toNat:Int) 9 with
     |true=>rfl
     |false=>
      rw[h1,h2,Bool.false_or,Bool.false_or] at hb
      rw[hb]
      rfl
   |false=>
    have hb':=hb
    unfold blB at hb
    rw[Bool.or_eq_false_iff,Bool.or_eq_false_iff] at hb
    obtain ⟨h1,h2,h3⟩:=hb
    have hst:(sel (D.ile 2 (D.sub_ .i64 (lenI s) (k:Int))) (chk (cutL (k:Int) (D.add .i64 (k:Int) 2) (lenI s)) (some (seqL (subL s (k:Int) (D.add .i64 (k:Int) 2)) [47,47]))) (some false))=some (st2 (s.drop k)):=by
     rw[<-pre_st2,len_def,sub_id (by omega) (by omega),add_id (by omega) (by omega)]
     unfold pre
     rw[List.length_drop]
     by_cases h2:2<=s.length-k
     .rw[le_t (by omega),sel_t,cut_iff.2 ⟨by omega,by omega,by omega⟩,chk_t,show (k:Int)+2=((k+2:Nat):Int) by omega,sub_mid]
      rw[show decide (([47,47]:List UInt8).length<=s.length-k)=true from decide_eq_true h2]
      rfl
     .rw[le_f (by omega),sel_f,show decide (([47,47]:List UInt8).length<=s.length-k)=false from decide_eq_false h2]
      rfl
    have split:∀{n:Nat} {X Y:Option (LO (Int×Unit) (Int×Unit) Unit Any)},sel (D.ile 2 (D.sub_ .i64 (lenI s) (k:Int))) (chk (cutL (k:Int) (D.add .i64 (k:Int) 2) (lenI s)) (sel (seqL (subL s (k:Int) (D.add .i64 (k:Int) 2)) [47,47]) X Y)) Y=bif st2 (s.drop k) then X else Y:=by
     intro n X Y
     cases hA:D.ile 2 (D.sub_ .i64 (lenI s) (k:Int)) with
     |false=>
      rw[hA,sel_f] at hst
      rw[<-Option.some.inj hst]
      rfl
     |true=>
      rw[hA,sel_t] at hst
      rw[sel_t]
      cases hB:cutL (k:Int) (D.add .i64 (k:Int) 2) (lenI s) with
      |false=>rw[hB] at hst;cases hst
      |true=>
       rw[hB,chk_t] at hst
       rw[chk_t,<-Option.some.inj hst]
       cases seqL (subL s (k:Int) (D.add .i64 (k:Int) 2)) [47,47]<;>rfl
    cases hs2:st2 (s.drop k) with
    |false=>
     have hsk:skS false (s.drop k)=0:=skS_end (λc r h=>by rw[hdk] at h;injection h with h _;rw[<-h];exact hb') hs2
     refine ⟨_,.ret (b:=()) (r:=((k:Int),())) (Ev.of_eq λn=>?_),.inr (by rw[hsk];rfl)⟩
     simp only[hlt1,hin,sel_t,chk_t,sat_nat,hg,h1,h2,h3,sel_f]
     rw[split (n:=n),hs2]
     rfl
    |true=>
     have hw:=tw_le nlB (s.drop k)
     rw[List.length_drop] at hw
     have hpos:0<((s.drop k).takeWhile nlB).length:=by
      obtain ⟨r,hr'⟩:=st2_nl hs2
      rw[hr',tw47,List.length_cons]
      omega
     have hsk:=skS_st2 hs2
     rw[<-drop_tw,List.drop_drop] at hsk
     have hr:=Runs.scan (l:=s) (p:=nlB) (F:=λ(n:Nat) (d:Int×Unit)=>sel (D.ilt d.1 (lenI s)) (chk (inbL d.1 s) (sel (D.bnot (D.ieq (satL s d.1) 10)) (some (LO.next (D.add .i64 d.1 1,()):LO (Int×Unit) (Int×Unit) Unit Any)) (some (LO.out 0 d)))) (some (LO.out 0 d)))
      (λi hi=>Ev.of_eq λn=>by
       unfold nlB
       simp only[sat_nat]
       rw[len_def,lt_t (by omega),sel_t,inb_iff.2 ⟨by omega,by omega⟩,chk_t,sel_some,add_id (by omega) (by omega)]
       rfl) (Ev.of_eq λn=>by simp (disch:=first|omega|(simp only[lns]<;>omega)|fail) only[evs]) (s.length-k) k (by omega)
     generalize ((s.drop k).takeWhile nlB).length=i at hr hw hpos hsk
     obtain ⟨o,ho,ho2⟩:=ih (s.length-(k+i)) (by omega) (k+i) rfl (by omega)
     refine ⟨o,.next (y:=(((k+i:Nat):Int),())) ?_ ho,by rw[hsk,<-Nat.add_assoc];exact ho2⟩
     simp only[hlt1,hin,sel_t,chk_t,sat_nat,hg,h1,h2,h3,sel_f]
     refine Ev.congr (λn=>(split (n:=n)).trans (by rw[hs2,cond_true])) ?_
     exact Ev.iter_bnd hr (λn c=>_) _ (Ev.pure _)
  .have:k=s.length:=by omega
   subst this
   rw[List.drop_length]
   exact ⟨_,.out (j:=0) (y:=((s.length:Int),())) (Ev.of_eq λn=>by rw[len_def,lt_f (Int.le_refl _)];rfl),.inl rfl⟩
 obtain ⟨o,ho,ho2⟩:=key (s.length-at_) at_ rfl ha
 refine Ev.iter_bnd ho (λn c=>_) _ ?_
 rcases ho2 with rfl|rfl<;>exact Ev.pure _
theorem tok_le {s:List UInt8} {k v:Int} {t:List UInt8} (h:tokS s=some (k,t,v)):t.length<=s.length:=by
 cases s with
 |nil=>cases h
 |cons c s=>
  rw[tokS_cons] at h
  cases h1:smB c with
  |true=>
   rw[h1,cond_true] at h
   by_cases h8:((c ::s).takeWhile smB).length<=8
   .rw[decide_eq_true h8,cond_true] at h
    cases h
    exact tw_le _ _
   .rw[decide_eq_false h8,cond_false] at h
    cases h
  |false=>
   rw[h1,cond_false] at h
   cases h2:grB c with
   |true=>
    rw[h2,cond_true] at h
    by_cases h8:(s.takeWhile smB).length+1<=8
    .rw[decide_eq_true h8,cond_true] at h
     cases h
     have:=tw_le smB s
     rw[List.length_cons,List.length_cons]
     omega
    .rw[decide_eq_false h8,cond_false] at h
     cases h
   |false=>
    rw[h2,cond_false] at h
    cases h3:dgB c||sgn c with
    |true=>
     rw[h3,cond_true] at h
     generalize hdg:((c ::s).drop (fromN c)).takeWhile dgB=dg at h
     cases hk:numOk (fromN c) dg with
     |true=>
      rw[hk,cond_true] at h
      cases h
      rw[List.length_take]
      omega
     |false=>
      rw[hk,cond_false] at h
      cases h
    |false=>
     rw[h3,cond_false] at h
     cases hf:sgs.find? λg=>pre g (c ::s) with
     |none=>rw[hf] at h;cases h
     |some g=>
      rw[hf] at h
      cases h
      have:=List.find?_some hf
      unfold pre at this
      rw[Bool.and_eq_true,decide_eq_true_eq] at this
      exact this.1
inductive Lx (s:List UInt8):Nat->List ReadToken->Nat->Prop
 |fin:Lx s s.length [] s.length
 |bad {a:Nat}:a<s.length->tokS (s.drop a)=none->Lx s a [] a
 |tok {a e:Nat} {k v:Int} {t:List UInt8} {l:List ReadToken}:a<s.length->tokS (s.drop a)=some (k,t,v)->Lx s (a+t.length+skS false (s.drop (a+t.length))) l e->Lx s a (⟨k,t,v,(a:Int)⟩ ::l) e
theorem lx_step {s:List UInt8} {a:Nat} {k v:Int} {t:List UInt8} (ha:a<s.length) (h:tokS (s.drop a)=some (k,t,v)):a+t.length<=s.length∧a<a+t.length+skS false (s.drop (a+t.length))∧a+t.length+skS false (s.drop (a+t.length))<=s.length:=by
 have h1:=tok_le h
 have h2:=(tok_ok h).2.2
 have h3:=skS_le false (s.drop (a+t.length))
 rw[List.length_drop] at h1 h3
 have:0<t.length:=by
  cases t with
  |nil=>exact absurd rfl h2
  |cons _ _=>rw[List.length_cons];omega
 omega
theorem lx_ex (s:List UInt8):∀m a,m=s.length-a->a<=s.length->∃l e,Lx s a l e:=by
 intro m
 induction m using Nat.strongRecOn with
 |ind m ih=>
 intro a hm ha
 by_cases hlt:a<s.length
 .cases ht:tokS (s.drop a) with
  |none=>exact ⟨_,_,.bad hlt ht⟩
  |some q=>
   obtain ⟨k,t,v⟩:=q
   obtain ⟨h1,h2,h3⟩:=lx_step hlt ht
   obtain ⟨l,e,h⟩:=ih _ (by omega) (a+t.length+skS false (s.drop (a+t.length))) rfl (by omega)
   exact ⟨_,_,.tok hlt ht h⟩
 .have:a=s.length:=by omega
  subst this
  exact ⟨_,_,.fin⟩
theorem lx_le {s:List UInt8} {a e:Nat} {l:List ReadToken} (h:Lx s a l e):a<=e∧e<=s.length∧l.length<=e-a:=by
 induction h with
 |fin=>exact ⟨Nat.le_refl _,Nat.le_refl _,Nat.zero_le _⟩
 |bad h1 _=>exact ⟨Nat.le_refl _,Nat.le_of_lt h1,Nat.zero_le _⟩
 |tok h1 h2 _ ih=>
  have:=lx_step h1 h2
  rw[List.length_cons]
  omega
end Mn
end
section
namespace Mn
open Go TL
set_option maxRecDepth 100000
set_option maxHeartbeats 4000000
theorem cons_drop {s:List UInt8} {a:Nat} (h:a<s.length):∃c r,s.drop a=c ::r:=⟨_,_,List.drop_eq_getElem_cons h⟩
theorem loop49 {s:List UInt8} (hs:s.length<=1000000) {a e:Nat} {l:List ReadToken} (h:Lx s a l e):∀acc:List ReadToken,acc.length<=a->∃o,
  Runs (F:=λ(n:Nat) (d:List ReadToken×Int×Unit)=>sel (D.ilt d.2.1 (lenI s)) (bnd (F80 n (s,d.2)) λe=>sel (D.ieq e.1.1.1 0) (some (LO.ret () d)) (chk (fewL d.1 [e.1.1]) (bnd (F99 n (s,D.add .i64 d.2.1 (lenI e.1.1.2),())) λg=>some (LO.next (catL d.1 [e.1.1],g.1))))) (some (LO.out 0 d))) (acc,(a:Int),()) o∧
  ((e=s.length∧o=LO.out 0 (acc++l,(e:Int),()))∨(e<s.length∧o=(LO.ret () (acc++l,(e:Int),()):LO (List ReadToken×Int×Unit) (List ReadToken×Int×Unit) Unit Any))):=by
 induction h with
 |fin=>
  intro acc _
  exact ⟨_,.out (j:=0) (Ev.of_eq λn=>by simp only[len_def];rw[lt_f (Int.le_refl _)];rfl),.inl ⟨rfl,by rw[List.append_nil]⟩⟩
 | @bad a h1 h2=>
  intro acc _
  obtain ⟨c,r,hd⟩:=cons_drop h1
  obtain ⟨tk,ek,hm⟩:=e80 hs hd
  rw[hd] at h2
  rw[h2] at hm
  refine ⟨_,.ret (b:=()) (r:=(acc,(a:Int),())) ?_,.inr ⟨h1,by rw[List.append_nil]⟩⟩
  simp only[len_def]
  rw[lt_t (by omega)]
  simp only[sel_t]
  refine ek.bnd ?_
  simp only
  rw[show D.ieq tk.1 0=true from eq_t hm]
  exact Ev.pure _
 | @tok a e k v t l h1 h2 h3 ih=>
  intro acc hacc
  obtain ⟨b1,b2,b3⟩:=lx_step h1 h2
  obtain ⟨c,r,hd⟩:=cons_drop h1
  obtain ⟨tk,ek,hm⟩:=e80 hs hd
  have hk:=(tok_ok h2).2.1
  rw[hd] at h2
  rw[h2] at hm
  subst hm
  obtain ⟨o,ho,ho2⟩:=ih (acc++[⟨k,t,v,(a:Int)⟩]) (by rw[List.length_append,List.length_singleton];omega)
  refine ⟨o,.next (y:=(acc++[⟨k,t,v,(a:Int)⟩],((a+t.length+skS false (s.drop (a+t.length)):Nat):Int),())) ?_ ho,by rw[List.append_assoc,List.singleton_append] at ho2;exact ho2⟩
  simp only[len_def]
  rw[lt_t (by omega)]
  simp only[sel_t]
  refine ek.bnd ?_
  simp only
  rw[show D.ieq k 0=false from eq_f hk]
  simp only[sel_f]
  refine Ev.chk (fewL_iff.2 (by rw[List.length_singleton];omega)) ?_
  rw[add_id (by omega) (by omega),<-Int.natCast_add]
  exact (e99 hs b1).bnd (Ev.pure _)
theorem e49 {s:List UInt8} (hs:s.length<=1000000) {e:Nat} {l:List ReadToken} (h:Lx s (skS false s) l e):Ev (λn=>F49 n (s,())) ((l,(e:Int),()),()):=by
 unfold F49
 have h99:=e99 (s:=s) (at_:=0) hs (Nat.zero_le _)
 rw[List.drop_zero,Nat.zero_add] at h99
 refine Ev.bnd h99 ?_
 obtain ⟨o,ho,ho2⟩:=loop49 hs h [] (Nat.zero_le _)
 refine Ev.iter_bnd ho (λn c=>_) _ ?_
 rw[List.nil_append] at ho2
 rcases ho2 with ⟨rfl,rfl⟩|⟨_,rfl⟩<;>exact Ev.pure _
theorem e17 {s:List UInt8} (hs:s.length<=8000) {e:Nat} {l:List ReadToken} (h:Lx s (skS false s) l e):Ev (λn=>F17 n (s,())) (bif decide (e<s.length) then (([],4,()),()) else ((l,0,()),())):=by
 unfold F17
 have hl:=lx_le h
 simp only[len_def]
 rw[lt_f (by omega)]
 simp only[sel_f]
 refine (e49 (by omega) h).bnd ?_
 by_cases hlt:e<s.length
 .rw[decide_eq_true hlt]
  simp only
  rw[lt_t (by omega)]
  exact Ev.pure _
 .rw[decide_eq_false hlt]
  simp only
  rw[lt_f (by omega)]
  exact Ev.pure _
abbrev X16:=Int×(List ReadToken×Unit)×(List ReadToken×Unit)×(Int×Unit)×Unit
abbrev B16:=Unit×(List ReadToken×Unit)×(List ReadToken×Unit)×(Int×Unit)×Unit
theorem loop16 {s:List UInt8} (hs:s.length<=1000000) {a e:Nat} {l:List ReadToken} (h:Lx s a l e):∀(acc:List ReadToken) (x:(List ReadToken×Unit)×(Int×Unit)×Unit),acc.length<=a->∃o,
  Runs (F:=λ(n:Nat) (g:X16)=>sel (D.ilt g.1 (lenI s)) (chk (cutL g.1 (lenI s) (lenI s)) (bnd (F79 n (subL s g.1 (lenI s),())) λh=>sel (D.bnot h.1.2.1) (some (LO.ret ((),g.2.1,([],()),(4,()),()) ())) (chk (fewL g.2.1.1 [ReadToken.mk h.1.1.1 h.1.1.2 h.1.1.3 g.1]) (sel (D.bnot h.1.2.1) none (chk (cutL (D.add .i64 g.1 (lenI h.1.1.2)) (lenI s) (lenI s)) (bnd (F98 n (subL s (D.add .i64 g.1 (lenI h.1.1.2)) (lenI s),())) λi=>some (LO.next (D.add .i64 (D.add .i64 g.1 (lenI h.1.1.2)) i.1.1,(catL g.2.1.1 [ReadToken.mk h.1.1.1 h.1.1.2 h.1.1.3 g.1],()),g.2.2)))))))) (some (LO.out 0 g))) ((a:Int),(acc,()),x) o∧
  ((e=s.length∧o=LO.out 0 ((e:Int),(acc++l,()),x))∨(e<s.length∧∃acc',o=(LO.ret ((),(acc',()),([],()),(4,()),()) ():LO X16 Unit B16 Any))):=by
 induction h with
 |fin=>
  intro acc x _
  exact ⟨_,.out (j:=0) (Ev.of_eq λn=>by simp only[len_def];rw[lt_f (Int.le_refl _)];rfl),.inl ⟨rfl,by rw[List.append_nil]⟩⟩
 | @bad a h1 h2=>
  intro acc x _
  obtain ⟨tk,b,ek,hm⟩:=e79 (s:=s.drop a) (by rw[List.length_drop];omega) (by intro h;have:=congrArg List.length h;rw[List.length_drop,List.length_nil] at this;omega)
  rw[h2] at hm
  subst hm
  refine ⟨_,.ret (b:=((),(acc,()),([],()),(4,()),())) (r:=()) ?_,.inr ⟨h1,acc,rfl⟩⟩
  simp only[len_def]
  rw[lt_t (by omega),cut_iff.2 ⟨by omega,by omega,by omega⟩,sub_fr]
  simp only[sel_t,chk_t]
  refine ek.bnd ?_
  exact Ev.pure _
 | @tok a e k v t l h1 h2 h3 ih=>
  intro acc x hacc
  obtain ⟨b1,b2,b3⟩:=lx_step h1 h2
  obtain ⟨tk,b,ek,hm⟩:=e79 (s:=s.drop a) (by rw[List.length_drop];omega) (by intro h;have:=congrArg List.length h;rw[List.length_drop,List.length_nil] at this;omega)
  rw[h2] at hm
  obtain ⟨rfl,rfl⟩:=hm
  obtain ⟨o,ho,ho2⟩:=ih (acc++[⟨k,t,v,(a:Int)⟩]) x (by rw[List.length_append,List.length_singleton];omega)
  refine ⟨o,.next (y:=(((a+t.length+skS false (s.drop (a+t.length)):Nat):Int),(acc++[⟨k,t,v,(a:Int)⟩],()),x)) ?_ ho,by rw[List.append_assoc,List.singleton_append] at ho2;exact ho2⟩
  simp only[len_def]
  rw[lt_t (by omega),cut_iff.2 ⟨by omega,by omega,by omega⟩,sub_fr]
  simp only[sel_t,chk_t]
  refine ek.bnd ?_
  simp only
  show Ev (λn=>chk _ (chk _ _)) _
  refine Ev.chk (fewL_iff.2 (by rw[List.length_singleton];omega)) ?_
  rw[add_id (by omega) (by omega),<-Int.natCast_add]
  refine Ev.chk (cut_iff.2 ⟨by omega,by omega,by omega⟩) ?_
  rw[sub_fr]
  refine (e98 (by rw[List.length_drop];omega)).bnd ?_
  simp only
  rw[add_id (by omega) (by omega),<-Int.natCast_add]
  exact Ev.pure _
theorem e16 {s:List UInt8} (hs:s.length<=8000) {e:Nat} {l:List ReadToken} (h:Lx s (skS false s) l e):Ev (λn=>F16 n (s,())) (bif decide (e<s.length) then (([],4,()),()) else ((l,0,()),())):=by
 unfold F16
 have hl:=lx_le h
 have hsk:=skS_le false s
 simp only[len_def]
 rw[lt_f (by omega)]
 simp only[sel_f]
 refine (e98 (by omega)).bnd ?_
 simp only
 generalize skS false s=a at h hl hsk
 cases h with
 |fin=>
  rw[lt_f (Int.le_refl _),decide_eq_false (Nat.lt_irrefl _)]
  exact Ev.pure _
 |bad h1 h2=>
  obtain ⟨tk,b,ek,hm⟩:=e79 (s:=s.drop e) (by rw[List.length_drop];omega) (by intro h;have:=congrArg List.length h;rw[List.length_drop,List.length_nil] at this;omega)
  rw[h2] at hm
  subst hm
  rw[lt_t (by omega),cut_iff.2 ⟨by omega,by omega,by omega⟩,sub_fr,decide_eq_true h1]
  simp only[sel_t,chk_t]
  refine ek.bnd ?_
  exact Ev.pure _
 | @tok a _ k v t l h1 h2 h3=>
  obtain ⟨b1,b2,b3⟩:=lx_step h1 h2
  obtain ⟨tk,b,ek,hm⟩:=e79 (s:=s.drop a) (by rw[List.length_drop];omega) (by intro h;have:=congrArg List.length h;rw[List.length_drop,List.length_nil] at this;omega)
  rw[h2] at hm
  obtain ⟨rfl,rfl⟩:=hm
  rw[lt_t (by omega),cut_iff.2 ⟨by omega,by omega,by omega⟩,sub_fr]
  simp only[sel_t,chk_t]
  refine ek.bnd ?_
  simp only
  show Ev (λn=>chk _ _) _
  rw[add_id (by omega) (by omega),<-Int.natCast_add]
  refine Ev.chk (cut_iff.2 ⟨by omega,by omega,by omega⟩) ?_
  rw[sub_fr]
  refine (e98 (by rw[List.length_drop];omega)).bnd ?_
  simp only
  rw[add_id (by omega) (by omega),<-Int.natCast_add]
  obtain ⟨o,ho,ho2⟩:=loop16 (by omega) h3 [⟨k,t,v,(a:Int)⟩] (([],()),(0,()),()) (by rw[List.length_singleton];omega)
  refine Ev.iter_bnd ho (λn c=>_) _ ?_
  rcases ho2 with ⟨rfl,rfl⟩|⟨h4,acc',rfl⟩
  .rw[decide_eq_false (Nat.lt_irrefl _)]
   exact Ev.pure _
  .rw[decide_eq_true h4]
   exact Ev.pure _
end Mn
end
section
namespace Mn
open Go TL
set_option maxRecDepth 100000
set_option maxHeartbeats 4000000
theorem ieq_self (a:Int):D.ieq a a=true:=eq_t rfl
def lcst (p:Int×Int) (c:UInt8):Int×Int:=bif D.ieq (c.toNat:Int) 10 then (p.1+1,1) else (p.1,p.2+1)
def lcS (l:List UInt8):Int×Int:=l.foldl lcst (1,1)
theorem lc_succ {l:List UInt8} {i:Nat} (h:i<l.length):lcS (l.take (i+1))=lcst (lcS (l.take i)) (l.getD i 0):=by
 unfold lcS
 rw[List.take_succ_eq_append_getElem h,List.foldl_append]
 simp[List.getD_eq_getElem?_getD,h]
theorem lc_bd (l:List UInt8):∀i,i<=l.length->1<=(lcS (l.take i)).1∧(lcS (l.take i)).1<=i+1∧1<=(lcS (l.take i)).2∧(lcS (l.take i)).2<=i+1
 |0,_=>by rw[List.take_zero];exact ⟨Int.le_refl _,Int.le_refl _,Int.le_refl _,Int.le_refl _⟩
 |i+1,h=>by
  have ih:=lc_bd l i (by omega)
  rw[lc_succ (by omega)]
  unfold lcst
  cases D.ieq ((l.getD i 0).toNat:Int) 10<;>simp only[cond_true,cond_false]<;>omega
theorem lc_is (l:List UInt8):∀i,i<=l.length->(lcS (l.take i)).1=1+((l.take i).count 10:Nat)∧(lcS (l.take i)).2=i-Lib.lastIdx (toBytes l) 10 i
 |0,_=>by rw[List.take_zero];exact ⟨rfl,rfl⟩
 |i+1,h=>by
  obtain ⟨h1,h2⟩:=lc_is l i (by omega)
  have hi:i<l.length:=by omega
  have hget:l.getD i 0=l[i]:=by simp[List.getD_eq_getElem?_getD,hi]
  have hb:(toBytes l).data[i]! =l[i]:=by
   simp[toBytes,hi]
  rw[lc_succ hi,List.take_succ_eq_append_getElem hi,List.count_append]
  unfold lcst Lib.lastIdx
  rw[hget,hb,h1,h2]
  by_cases hc:(l[i].toNat:Int)=10
  .have h10:l[i]=10:=UInt8.toNat_inj.1 (by rw[show (10:UInt8).toNat=10 from rfl];omega)
   rw[show D.ieq (l[i].toNat:Int) 10=true from eq_t hc,if_pos hc,h10]
   simp only[cond_true,List.count_singleton_self]
   omega
  .have h10:¬(l[i]==(10:UInt8))=true:=λh=>hc (by rw[eq_of_beq h];rfl)
   rw[show D.ieq (l[i].toNat:Int) 10=false from eq_f hc,if_neg hc,List.count_singleton,if_neg (by simpa using h10)]
   simp only[cond_false]
   omega
theorem last_bd (l:List UInt8):∀i,-1<=Lib.lastIdx (toBytes l) 10 i∧Lib.lastIdx (toBytes l) 10 i<i
 |0=>⟨Int.le_refl _,by show (-1:Int)<((0:Nat):Int);decide⟩
 |i+1=>by
  have:=last_bd l i
  unfold Lib.lastIdx
  split<;>omega
abbrev X18:=Int×(Int×Unit)×(Int×Unit)×(Int×Unit)×Unit
abbrev B18:=Unit×(Int×Unit)×(Int×Unit)×(Int×Unit)×Unit
theorem loop18 {s:List UInt8} (hs:s.length<=1000000) {a e:Nat} {l:List ReadToken} (h:Lx s a l e):∀(x:(Int×Unit)×(Int×Unit)×(Int×Unit)×Unit),∃o,
  Runs (F:=λ(n:Nat) (d:X18)=>sel (D.ilt d.1 (lenI s)) (chk (cutL d.1 (lenI s) (lenI s)) (bnd (F79 n (subL s d.1 (lenI s),())) λe=>sel (D.bnot e.1.2.1) (chk (cutL 0 d.1 (lenI s)) (bnd (F50 n (subL s 0 d.1,[10],())) λg=>bnd (F51 n (subL s 0 d.1,[10],())) λh=>some (LO.ret ((),(D.add .i64 1 g.1.1,()),(D.sub_ .i64 d.1 h.1.1,()),(0,()),()) ()))) (sel (D.bnot e.1.2.1) none (chk (cutL (D.add .i64 d.1 (lenI e.1.1.2)) (lenI s) (lenI s)) (bnd (F98 n (subL s (D.add .i64 d.1 (lenI e.1.1.2)) (lenI s),())) λg=>some (LO.next (D.add .i64 (D.add .i64 d.1 (lenI e.1.1.2)) g.1.1,d.2))))))) (some (LO.out 0 d))) ((a:Int),x) o∧
  ((e=s.length∧o=LO.out 0 ((e:Int),x))∨(e<s.length∧o=(LO.ret ((),((lcS (s.take e)).1,()),((lcS (s.take e)).2,()),(0,()),()) ():LO X18 Unit B18 Any))):=by
 induction h with
 |fin=>
  intro x
  exact ⟨_,.out (j:=0) (Ev.of_eq λn=>by simp only[len_def];rw[lt_f (Int.le_refl _)];rfl),.inl ⟨rfl,rfl⟩⟩
 | @bad a h1 h2=>
  intro x
  obtain ⟨tk,b,ek,hm⟩:=e79 (s:=s.drop a) (by rw[List.length_drop];omega) (by intro h;have:=congrArg List.length h;rw[List.length_drop,List.length_nil] at this;omega)
  rw[h2] at hm
  subst hm
  have htl:(s.take a).length=a:=by rw[List.length_take];omega
  have hlc:=lc_is (s.take a) a (by omega)
  rw[List.take_of_length_le (by omega:(s.take a).length<=a)] at hlc
  have hlb:=last_bd (s.take a) a
  refine ⟨_,.ret (b:=((),((lcS (s.take a)).1,()),((lcS (s.take a)).2,()),(0,()),())) (r:=()) ?_,.inr ⟨h1,rfl⟩⟩
  simp only[len_def]
  rw[lt_t (by omega),cut_iff.2 ⟨by omega,by omega,by omega⟩,sub_fr,sub_to]
  simp only[sel_t,chk_t]
  refine ek.bnd ?_
  simp only
  rw[show D.bnot false=true from rfl]
  simp only[sel_t]
  refine Ev.chk (cut_iff.2 ⟨by omega,by omega,by omega⟩) (Ev.of_eq λn=>?_)
  have e50:F50 n (s.take a,[10],())=some (((((s.take a).count 10:Nat):Int),()),()):=rfl
  have e51:F51 n (s.take a,[10],())=some ((Lib.lastIdx (toBytes (s.take a)) 10 a,()),()):=by
   show (bif Nat.blt (s.take a).length 4294967296 then _ else _)=_
   rw[show Nat.blt (s.take a).length 4294967296=true from Nat.ble_eq_true_of_le (by omega),cond_true]
   unfold Lib.lastIndexByte
   rw[show (toBytes (s.take a)).size=a from by show (s.take a).toArray.size=a;rw[List.size_toArray,htl]]
   rfl
  have hcl:(s.take a).count 10<=a:=by have:=List.count_le_length (a:=(10:UInt8)) (l:=s.take a);omega
  rw[e50,e51]
  simp only[bnd_s]
  rw[add_id (by omega) (by omega),sub_id (by omega) (by omega),hlc.1,hlc.2]
 | @tok a e k v t l h1 h2 h3 ih=>
  intro x
  obtain ⟨b1,b2,b3⟩:=lx_step h1 h2
  obtain ⟨tk,b,ek,hm⟩:=e79 (s:=s.drop a) (by rw[List.length_drop];omega) (by intro h;have:=congrArg List.length h;rw[List.length_drop,List.length_nil] at this;omega)
  rw[h2] at hm
  obtain ⟨rfl,rfl⟩:=hm
  obtain ⟨o,ho,ho2⟩:=ih x
  refine ⟨o,.next (y:=(((a+t.length+skS false (s.drop (a+t.length)):Nat):Int),x)) ?_ ho,ho2⟩
  simp only[len_def]
  rw[lt_t (by omega),cut_iff.2 ⟨by omega,by omega,by omega⟩,sub_fr]
  simp only[sel_t,chk_t]
  refine ek.bnd ?_
  simp only
  show Ev (λn=>chk _ _) _
  rw[add_id (by omega) (by omega),<-Int.natCast_add]
  refine Ev.chk (cut_iff.2 ⟨by omega,by omega,by omega⟩) ?_
  rw[sub_fr]
  refine (e98 (by rw[List.length_drop];omega)).bnd ?_
  simp only
  rw[add_id (by omega) (by omega),<-Int.natCast_add]
  exact Ev.pure _
def wrS (s:List UInt8) (e:Nat):(Int×Int×Int×Unit)×Unit:=bif decide (e<s.length) then (((lcS (s.take e)).1,(lcS (s.take e)).2,0,()),()) else ((0,0,5,()),())
theorem e18 {s:List UInt8} (hs:s.length<=8000) {e:Nat} {l:List ReadToken} (h:Lx s (skS false s) l e):Ev (λn=>F18 n (s,())) (wrS s e):=by
 unfold F18 wrS
 simp only[len_def]
 rw[lt_f (by omega)]
 simp only[sel_f]
 refine (e98 (by omega)).bnd ?_
 obtain ⟨o,ho,ho2⟩:=loop18 (by omega) h ((0,()),(0,()),(0,()),())
 refine Ev.iter_bnd ho (λn c=>_) _ ?_
 rcases ho2 with ⟨rfl,rfl⟩|⟨h4,rfl⟩
 .rw[decide_eq_false (Nat.lt_irrefl _)]
  exact Ev.pure _
 .rw[decide_eq_true h4]
  exact Ev.pure _
theorem e19 {s:List UInt8} (hs:s.length<=8000) {e:Nat} {l:List ReadToken} (h:Lx s (skS false s) l e):Ev (λn=>F19 n (s,())) (wrS s e):=by
 unfold F19 wrS
 have hl:=lx_le h
 simp only[len_def]
 rw[lt_f (by omega)]
 simp only[sel_f]
 refine (e49 (by omega) h).bnd ?_
 simp only
 by_cases hlt:e<s.length
 .rw[decide_eq_true hlt,eq_f (by omega)]
  simp only[sel_f]
  have hr:=Runs.many (F:=λ(n:Nat) (d:Int×Int×Int×Unit)=>sel (D.ilt d.2.2.1 (e:Int)) (chk (inbL d.2.2.1 s) (sel (D.ieq (satL s d.2.2.1) 10) (some (LO.next (D.add .i64 d.1 1,1,D.add .i64 d.2.2.1 1,()):LO (Int×Int×Int×Unit) (Int×Int×Int×Unit) Unit Any)) (some (LO.next (d.1,D.add .i64 d.2.1 1,D.add .i64 d.2.2.1 1,()))))) (some (LO.out 0 d)))
   (o:=LO.out 0 ((lcS (s.take e)).1,(lcS (s.take e)).2,(e:Int),())) e (λi=>((lcS (s.take i)).1,(lcS (s.take i)).2,((i:Nat):Int),())) (λi hi=>Ev.of_eq λn=>by
    have hb:=lc_bd s i (by omega)
    rw[lc_succ (by omega)]
    simp only
    rw[lt_t (by omega),sel_t,inb_iff.2 ⟨by omega,by omega⟩,chk_t,sat_nat,add_id (by omega) (by omega),add_id (by omega) (by omega),add_id (by omega) (by omega)]
    unfold lcst
    cases D.ieq ((s.getD i 0).toNat:Int) 10<;>simp only[sel_t,sel_f,cond_true,cond_false,Int.natCast_add,Int.natCast_one]<;>rfl)
   (.out (j:=0) (Ev.of_eq λn=>by simp only;rw[lt_f (Int.le_refl _)];rfl))
  refine Ev.iter_bnd hr (λn c=>_) _ ?_
  exact Ev.pure _
 .rw[decide_eq_false hlt,eq_t (by omega)]
  exact Ev.pure _
theorem e20 {l:List ReadToken} (hl:l.length<=1000000):Ev (λn=>F20 n (l,l,true,())) ((true,()),()):=by
 unfold F20 F20x1
 simp only[len_def]
 rw[eq_t rfl]
 simp only[sel_not,sel_t]
 have hr:=loop_run (F:=λ(n:Nat) (c:Int×Unit)=>sel (D.ilt c.1 (l.length:Int)) (chk (inbL c.1 l) (chk (inbL c.1 l) (sel (D.ieq (elL l (natI c.1) dReadToken).1 (elL l (natI c.1) dReadToken).1) (chk (inbL c.1 l) (chk (inbL c.1 l) (sel (seqL (elL l (natI c.1) dReadToken).2 (elL l (natI c.1) dReadToken).2) (chk (inbL c.1 l) (chk (inbL c.1 l) (sel (D.ieq (elL l (natI c.1) dReadToken).3 (elL l (natI c.1) dReadToken).3) (chk (inbL c.1 l) (chk (inbL c.1 l) (sel (D.ieq (elL l (natI c.1) dReadToken).4 (elL l (natI c.1) dReadToken).4) (some (LO.next (D.add .i64 c.1 1,()))) (some (LO.ret () (false,()):LO (Int×Unit) (Bool×Unit) Unit Any))))) (some (LO.ret () (false,())))))) (some (LO.ret () (false,())))))) (some (LO.ret () (false,())))))) (some (LO.out 0 c)))
  l.length (λi=>((i:Int),())) 0 (λi hi=>Ev.of_eq λn=>by
   simp only
   rw[lt_t (by omega),inb_iff.2 ⟨by omega,by omega⟩,eq_t rfl,eq_t rfl,eq_t rfl,show seqL (elL l (natI (i:Int)) dReadToken).2 (elL l (natI (i:Int)) dReadToken).2=true from beq_self_eq_true _,add_id (by omega) (by omega)]
   rfl) (Ev.of_eq λn=>by simp only;rw[lt_f (Int.le_refl _)];rfl)
 refine Ev.iter_bnd hr (λn c=>_) _ ?_
 exact Ev.pure _
theorem long_ {s:List UInt8} (h:8000<s.length) (n:Nat):F16 n (s,())=some (([],3,()),())∧F17 n (s,())=some (([],3,()),())∧F18 n (s,())=some ((0,0,3,()),())∧F19 n (s,())=some ((0,0,3,()),()):=by
 have h1:D.ilt 8000 (lenI s)=true:=lt_t (by rw[len_def];omega)
 unfold F16 F17 F18 F19
 simp only[h1,sel_t,and_self]
theorem ev3 (s:List UInt8):Ev (λn=>F3 n (s,())) ((true,()),()):=by
 unfold F3
 have hk:∀n,F15 n ()=some ((true,()),()):=λn=>rfl
 by_cases h1:s.length<=1500
 .have e14:∀n,F14 n (s,())=some ((true,()),()):=λn=>by unfold F14;simp only[len_def];rw[le_t (by omega)];rfl
  obtain ⟨l,e,hL⟩:=lx_ex s _ (skS false s) rfl (skS_le _ _)
  have hl:=lx_le hL
  simp only[e14,bnd_s]
  show Ev (λn=>bnd _ _) _
  refine (e16 (by omega) hL).bnd ((e17 (by omega) hL).bnd ((e18 (by omega) hL).bnd ((e19 (by omega) hL).bnd ?_)))
  by_cases hlt:e<s.length
  .rw[decide_eq_true hlt]
   simp only[cond_true]
   rw[eq_t rfl]
   simp only[sel_t]
   refine (e20 (Nat.zero_le _)).bnd ?_
   simp only[ieq_self]
   exact Ev.pure _
  .rw[decide_eq_false hlt]
   simp only[cond_false]
   rw[eq_t rfl]
   simp only[sel_t]
   refine (e20 (by omega)).bnd ?_
   simp only[ieq_self]
   exact Ev.pure _
 .by_cases h2:8000<s.length∧s.length<=8050
  .have e14:∀n,F14 n (s,())=some ((true,()),()):=λn=>by unfold F14;simp only[len_def];rw[le_f (by omega),lt_t (by omega),le_t (by omega)];rfl
   simp only[e14,bnd_s]
   show Ev (λn=>bnd _ _) _
   refine (Ev.of_eq λn=>(long_ h2.1 n).1).bnd ((Ev.of_eq λn=>(long_ h2.1 n).2.1).bnd ((Ev.of_eq λn=>(long_ h2.1 n).2.2.1).bnd ((Ev.of_eq λn=>(long_ h2.1 n).2.2.2).bnd ?_)))
   rw[eq_t rfl]
   simp only[sel_t]
   refine (e20 (Nat.zero_le _)).bnd ?_
   simp only[ieq_self]
   exact Ev.pure _
  .have e14:∀n,F14 n (s,())=some ((false,()),()):=λn=>by
    unfold F14
    simp only[len_def]
    rw[le_f (by omega)]
    by_cases h3:8000<s.length
    .rw[lt_t (by omega),le_f (by omega)];rfl
    .rw[lt_f (by omega)];rfl
   simp only[e14,bnd_s,hk]
   exact Ev.pure _
theorem law3 (s:List UInt8):∃N,∀n,N<=n->F3 n (s,())=some ((true,()),()):=ev3 s
end Mn
end
