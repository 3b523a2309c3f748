import Derived.Test.YtbaeajgfnoplaaaGreatDoorRows
import Derived.Test.YtbaeajgfnoplaaaGreatDoorTie
import Derived.Test.YtbaeajgfnoplaaaGreatDoorCards
import Derived.ProofKit
import Derived.KernelRfl
namespace Go.Proofs.YtbaeajgfnoplaaaGreatDoor.readTokens
open Go
set_option maxRecDepth 100000
set_option maxHeartbeats 0
theorem k_params:Tryz.f3.params.toList=[9]:=by kernel_rfl
theorem k_wf:Rows.readTokensRow.wfByText (OpenSpec.ofChange Rows.readTokensSpec)=true:=by kernel_rfl
theorem k_main:Tryz.prog.mainIs=some (true,"d53804c3a3a244ad5d34017486a33217318808ae0f4e262f4ba89cadc3ea57b4".toList):=by kernel_rfl
theorem k_looks:true=Tryz.prog.looks []:=by kernel_rfl
theorem k_goes:false=Rows.readTokensRow.goesBy Tryz.prog:=by kernel_rfl
theorem k_named:Tryz.prog.funcNamed "hearth/hearthlaw02.ReadTokens"=some 3:=by kernel_rfl
theorem k_want:([9].all λu=>!Tryz.prog.wantsStandIn u)=true:=by kernel_rfl
theorem k_l (f:FuncId) (fn:Func) (hf:Tryz.prog.funcNamed "hearth/hearthlaw02.ReadTokens"=some f) (hfn:Tryz.prog.funcs[f]?=some fn):true=Tryz.prog.looks []∧∀(j:Nat) t,fn.params[j]?=some t->Tryz.prog.wantsStandIn t=false:=by
 obtain rfl:f=3:=Option.some.inj (k_named.symm.trans hf) |>.symm
 obtain rfl:fn=Tryz.f3:=(Option.some.inj (Tryz.func3.symm.trans hfn)).symm
 refine ⟨k_looks,λj t ht=>?_⟩
 have hm:t∈Tryz.f3.params.toList:=by simpa using Array.mem_of_getElem? ht
 rw[k_params] at hm
 simpa using List.all_eq_true.1 k_want t hm
theorem card (row:Rows.ReadTokensSaid):Rows.ReadTokensCardSaid:=
 Claim7.holds_tied_plain_at .later [] [.data,.data,.data] true (true,"d53804c3a3a244ad5d34017486a33217318808ae0f4e262f4ba89cadc3ea57b4") true
  row (λ_ h=>by cases h) k_wf (λ_ h=>by cases h) readTokens_row_tie rfl ⟨rfl,rfl⟩ k_main rfl k_l k_goes
end Go.Proofs.YtbaeajgfnoplaaaGreatDoor.readTokens
