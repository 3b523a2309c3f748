import Derived.Test.YtbaeajgfnoplaaaGreatDoorRows
import Derived.WalkKit
import Derived.ProofKit
import Derived.OpenShut
import Derived.LaidMore
namespace Go.Proofs.YtbaeajgfnoplaaaGreatDoor.readTokens
open Go.ChangeShapes Go.WideShapes Go.ChangeAt Go.RowKit
set_option maxRecDepth 100000
set_option maxHeartbeats 0
theorem over (lifted:∀(os:Os) (_started:os.Started) (H:Type) (enc:TypeId×Value->H),
  ReturnsInHanded {} Tryz.checked os 3 .any (λw args=>(Rows.readTokensSpec.pre enc Tryz.prog Tryz.f3 [] false w args∧laidMetH Tryz.prog Rows.readTokensRow.laid w)∧sizedMet enc Tryz.prog Tryz.f3 (OpenSpec.ofChange Rows.readTokensSpec) false w args) (Rows.readTokensSpec.post enc Tryz.prog Tryz.f3 false true false false)) :
  Rows.readTokensRow.holds Tryz.pinned (OpenSpec.ofChange Rows.readTokensSpec):=
 OpenClaim.holds_of_wide 3 Tryz.f3 rfl rfl rfl rfl rfl rfl rfl ⟨rfl,rfl,rfl,rfl,rfl⟩ rfl rfl rfl rfl rfl (by as_aux_lemma=>kernel_rfl) Tryz.func3 (by
   unfold joinedFacts
   simp only[Bool.and_eq_true]
   repeat' apply And.intro
   all_goals (as_aux_lemma=>kernel_rfl))
  (of_decide_eq_true (by as_aux_lemma=>kernel_rfl)) (by as_aux_lemma=>unfold Func.isWrapper;first|(rw[if_pos (by decide +kernel)];kernel_rfl)|(rw[if_neg (by decide +kernel)];exact ⟨rfl,rfl⟩))
  (λos started H enc _=>lifted os started H enc)
end Go.Proofs.YtbaeajgfnoplaaaGreatDoor.readTokens
