/- The law ReadTokens (the tokens of any source, with their places, or where the first thing is that is none) returns true for every string, and leaves it as it was; the listed variables are tied to the program's text. -/
import Derived.Test.YtbaeajgfnoplaaaGreatDoorB14
import Derived.Test.YtbaeajgfnoplaaaGreatDoorBS0
import Derived.Test.YtbaeajgfnoplaaaGreatDoorBS1
namespace Go.Proofs.YtbaeajgfnoplaaaGreatDoor.readTokens
open Go TL Mn
open Go.ChangeShapes Go.WideShapes Go.ChangeAt Go.RowKit
set_option maxRecDepth 100000
set_option maxHeartbeats 0
theorem params:(Tryz.f3.params.toList)=[9]:=by kernel_rfl
theorem ty9:tyL 9=some .str:=by kernel_rfl
theorem rd9:Tryz.prog.readableRec 9=true:=by kernel_rfl
theorem sz:decide (9<Tryz.prog.types.size)=true:=by kernel_rfl
theorem resT:Tryz.f3.resultTypes=#[4]:=by kernel_rfl
theorem lifted (os:Os) (started:os.Started) (H:Type) (enc:TypeId×Value->H) :
  ReturnsInHanded {} Tryz.checked os 3 .any (λw args=>(Rows.readTokensSpec.pre enc Tryz.prog Tryz.f3 [] false w args∧laidMetH Tryz.prog Rows.readTokensRow.laid w)∧sizedMet enc Tryz.prog Tryz.f3 (OpenSpec.ofChange Rows.readTokensSpec) false w args) (Rows.readTokensSpec.post enc Tryz.prog Tryz.f3 false true false false):=by
 refine returnsInHanded_of_change_and (C:=Tryz.checked) (X:=λw _=>laidMetH Tryz.prog Rows.readTokensRow.laid w) (λ_ _ _ hh h=>h.of_heap hh) own started (by kernel_rfl) Tryz.func3
  (ChangeSpec.witness_shaped (enc:=enc) (C:=Tryz.checked) (os:=os) (X:=λw _=>laidMetH Tryz.prog Rows.readTokensRow.laid w) false (World.doorLaid Tryz.prog 24 os) #[.string ⟨#[]⟩] 8 rfl (World.shaped_of_RefB (by kernel_rfl) (by kernel_rfl)) (by kernel_rfl) (by kernel_rfl) (by kernel_rfl) (door_met os _)) ?_
 intro W base args ds gs before hval hW hcnd hwt _ _
 refine law_calls (S:=sg) (P:=Tryz.prog) (ty:=tyL) (τs:=[.str]) (tb:=4) sg_ok rd_ok laid ?_ ?_ resT Tryz.underlying4 rfl ?_ ?_ hval hW hwt (gl_ok _ _)
 .rw[params]
  refine ⟨rfl,λj a b ha hb=>?_⟩
  match j with
  |0=>cases ha;cases hb;exact ty9
  |j+1=>simp at ha
 .rw[params]
  have:=of_decide_eq_true sz
  intro t ht
  simp only[List.mem_cons,List.not_mem_nil,or_false] at ht
  subst ht
  exact ⟨rd9,this⟩
 .intro ds hds
  match ds,hds with
  |[d1],_=>exact ⟨rfl,rfl,rfl⟩
 .intro x
  obtain ⟨x1,u⟩:=x
  obtain ⟨N,h⟩:=law3 x1
  exact ⟨F3 N,((true,()),()),C3 N,h N (Nat.le_refl _),rfl⟩
theorem row:Rows.ReadTokensSaid:=over lifted
theorem proved:Rows.ReadTokensCardSaid:=card row
#print axioms proved
end Go.Proofs.YtbaeajgfnoplaaaGreatDoor.readTokens
