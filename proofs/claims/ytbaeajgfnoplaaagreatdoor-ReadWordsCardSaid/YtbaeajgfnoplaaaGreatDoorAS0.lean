import Derived.Test.YtbaeajgfnoplaaaGreatDoorRows
import Derived.WalkKit
import Derived.ProofKit
import Derived.OpenShut
import Derived.LaidMore
namespace Go.Proofs.YtbaeajgfnoplaaaGreatDoor.readWords
open Go.ChangeShapes Go.WideShapes Go.ChangeAt Go.RowKit
set_option maxRecDepth 100000
set_option maxHeartbeats 0
theorem over (lifted:∀(os:Os) (_started:os.Started) (H:Type) (enc:TypeId×Value→H),
  ReturnsInHanded {} Tryz.checked os 9 .any (fun w args=>(Rows.readWordsSpec.pre enc Tryz.prog Tryz.f9 [] false w args∧laidMetH Tryz.prog Rows.readWordsRow.laid w)∧sizedMet enc Tryz.prog Tryz.f9 (OpenSpec.ofChange Rows.readWordsSpec) false w args) (Rows.readWordsSpec.post enc Tryz.prog Tryz.f9 false true false false)) :
  Rows.readWordsRow.holds Tryz.pinned (OpenSpec.ofChange Rows.readWordsSpec):=
 OpenClaim.holds_of_wide 9 Tryz.f9 rfl rfl rfl rfl rfl rfl rfl ⟨rfl,rfl,rfl,rfl,rfl⟩ rfl rfl rfl rfl rfl (by as_aux_lemma=>kernel_rfl) Tryz.func9 (by
   unfold joinedFacts
   simp only[Bool.and_eq_true]
   repeat' apply And.intro
   all_goals (as_aux_lemma=>kernel_rfl))
  (of_decide_eq_true (by as_aux_lemma=>kernel_rfl)) (by as_aux_lemma=>unfold Func.isWrapper;first|(rw[if_pos (by decide +kernel)];kernel_rfl)|(rw[if_neg (by decide +kernel)];exact ⟨rfl,rfl⟩))
  (fun os started H enc _=>lifted os started H enc)
end Go.Proofs.YtbaeajgfnoplaaaGreatDoor.readWords
