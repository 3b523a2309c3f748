import Derived.Test.YthlenkomcaiomaaGreatRows
import Derived.WalkKit
import Derived.ProofKit
import Derived.OpenShut
set_option linter.all false
set_option maxRecDepth 100000
set_option maxHeartbeats 0
namespace Go.Proofs.YthlenkomcaiomaaGreat.runChecks
open Go.ChangeShapes Go.WideShapes Go.ChangeAt Go.RowKit
theorem over (lifted:∀(os:Os) (started:os.Started) (H:Type) (enc:TypeId×Value->H),
  ReturnsInHanded {} Tryz.checked os 5 .any (Rows.runChecksSpec.pre6 enc Tryz.prog Tryz.f5 Rows.runChecksRow.domain false) (Rows.runChecksSpec.post enc Tryz.prog Tryz.f5 false true false false)) :
  Rows.runChecksRow.holds Tryz.pinned (OpenSpec.ofChange Rows.runChecksSpec):=
 OpenClaim.holds_of_wide 5 Tryz.f5 rfl rfl rfl rfl rfl rfl rfl ⟨rfl,rfl,rfl,rfl,rfl⟩ rfl rfl rfl rfl rfl (by as_aux_lemma=>kernel_rfl) Tryz.func5 (by
   unfold joinedFacts;simp only[Bool.and_eq_true]
   repeat' apply And.intro
   all_goals (as_aux_lemma=>kernel_rfl))
  (of_decide_eq_true (by as_aux_lemma=>kernel_rfl)) (by as_aux_lemma=>unfold Func.isWrapper;first|(rw[if_pos (by decide +kernel)];kernel_rfl)|(rw[if_neg (by decide +kernel)];exact ⟨rfl,rfl⟩))
  (λos started H enc _=>lifted os started H enc)
end Go.Proofs.YthlenkomcaiomaaGreat.runChecks
