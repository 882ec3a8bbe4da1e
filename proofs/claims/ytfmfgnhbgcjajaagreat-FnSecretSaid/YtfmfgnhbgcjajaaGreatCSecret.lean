import Derived.Test.YtfmfgnhbgcjajaaGreatRows
import Derived.WalkKit
import Derived.ProofKit
import Derived.OpenShut
import Derived.JoinedCond
import Derived.ChangeArms
import Derived.ChangeSame
import Derived.Below
import Derived.Carry
namespace Go.Proofs.YtfmfgnhbgcjajaaGreat.fnSecret
open Go Go.ChangeShapes Go.WideShapes Go.ChangeAt Go.RowKit
set_option maxHeartbeats 8000000
set_option linter.unusedVariables false
set_option linter.unusedSimpArgs false
set_option maxRecDepth 100000
theorem closed:joinedFacts Tryz.checked.prog 3 Tryz.f3 Rows.fnSecretSpec Rows.fnSecretRow=true:=by
  unfold joinedFacts;simp only[Bool.and_eq_true]
  repeat' apply And.intro
  all_goals (decide +kernel)
end Go.Proofs.YtfmfgnhbgcjajaaGreat.fnSecret
