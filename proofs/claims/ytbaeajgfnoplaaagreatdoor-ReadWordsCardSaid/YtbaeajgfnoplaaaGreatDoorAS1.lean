import Derived.Test.YtbaeajgfnoplaaaGreatDoorRows
import Derived.Test.YtbaeajgfnoplaaaGreatDoorTie
import Derived.Test.YtbaeajgfnoplaaaGreatDoorCards
import Derived.ProofKit
import Derived.KernelRfl
namespace Go.Proofs.YtbaeajgfnoplaaaGreatDoor.readWords
open Go
set_option maxRecDepth 100000
set_option maxHeartbeats 0
theorem k_params:Tryz.f9.params.toList=[9]:=by kernel_rfl
theorem k_wf:Rows.readWordsRow.wfByText (OpenSpec.ofChange Rows.readWordsSpec)=true:=by kernel_rfl
theorem k_main:Tryz.prog.mainIs=some (true,"d53804c3a3a244ad5d34017486a33217318808ae0f4e262f4ba89cadc3ea57b4".toList):=by kernel_rfl
theorem k_looks:true=Tryz.prog.looks []:=by kernel_rfl
theorem k_goes:false=Rows.readWordsRow.goesBy Tryz.prog:=by kernel_rfl
theorem k_named:Tryz.prog.funcNamed "hearth/hearthlaw02.ReadWords"=some 9:=by kernel_rfl
theorem k_want:([9].all fun u=>!Tryz.prog.wantsStandIn u)=true:=by kernel_rfl
theorem k_l (f:FuncId) (fn:Func) (hf:Tryz.prog.funcNamed "hearth/hearthlaw02.ReadWords"=some f) (hfn:Tryz.prog.funcs[f]?=some fn):true=Tryz.prog.looks []∧∀(j:Nat) t,fn.params[j]?=some t→Tryz.prog.wantsStandIn t=false:=by
 obtain rfl:f=9:=Option.some.inj (k_named.symm.trans hf) |>.symm
 obtain rfl:fn=Tryz.f9:=(Option.some.inj (Tryz.func9.symm.trans hfn)).symm
 refine ⟨k_looks,fun j t ht=>?_⟩
 have hm:t∈Tryz.f9.params.toList:=by simpa using Array.mem_of_getElem? ht
 rw[k_params] at hm
 simpa using List.all_eq_true.1 k_want t hm
theorem card (row:Rows.ReadWordsSaid):Rows.ReadWordsCardSaid:=
 Claim7.holds_tied_plain_at .later [] [.data,.data,.data] true (true,"d53804c3a3a244ad5d34017486a33217318808ae0f4e262f4ba89cadc3ea57b4") true
  row (fun _ h=>by cases h) k_wf (fun _ h=>by cases h) readWords_row_tie rfl ⟨rfl,rfl⟩ k_main rfl k_l k_goes
end Go.Proofs.YtbaeajgfnoplaaaGreatDoor.readWords
