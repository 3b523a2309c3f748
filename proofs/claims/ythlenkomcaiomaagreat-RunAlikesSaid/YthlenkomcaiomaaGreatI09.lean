import Derived.Test.YthlenkomcaiomaaGreatRows
import Derived.WalkKit
import Derived.ProofKit
import Derived.OpenShut
set_option linter.all false
set_option maxRecDepth 100000
set_option maxHeartbeats 0
namespace Go.Proofs.YthlenkomcaiomaaGreat.runAlikes
open Go.ChangeShapes Go.WideShapes Go.ChangeAt Go.RowKit
theorem over (lifted:∀(os:Os) (started:os.Started) (H:Type) (enc:TypeId×Value->H),
  ReturnsInHanded {} Tryz.checked os 9 .any (Rows.runAlikesSpec.pre6 enc Tryz.prog Tryz.f9 Rows.runAlikesRow.domain false) (Rows.runAlikesSpec.post enc Tryz.prog Tryz.f9 false true false false)) :
  Rows.runAlikesRow.holds Tryz.pinned (OpenSpec.ofChange Rows.runAlikesSpec):=
 OpenClaim.holds_of_wide 9 Tryz.f9 rfl rfl rfl rfl rfl rfl rfl ⟨rfl,rfl,rfl,rfl,rfl⟩ rfl rfl rfl rfl rfl (by as_aux_lemma=>kernel_rfl) Tryz.func9 (by
   unfold joinedFacts;simp only[Bool.and_eq_true]
   repeat' apply And.intro
   all_goals (as_aux_lemma=>kernel_rfl))
  (of_decide_eq_true (by as_aux_lemma=>kernel_rfl)) (by as_aux_lemma=>unfold Func.isWrapper;first|(rw[if_pos (by decide +kernel)];kernel_rfl)|(rw[if_neg (by decide +kernel)];exact ⟨rfl,rfl⟩))
  (λos started H enc _=>lifted os started H enc)
end Go.Proofs.YthlenkomcaiomaaGreat.runAlikes
