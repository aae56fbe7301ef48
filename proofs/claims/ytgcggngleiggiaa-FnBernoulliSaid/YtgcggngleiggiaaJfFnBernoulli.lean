/-
What the row of FnBernoulli tells of the program (which parts it reaches, which variables it names), reckoned. Conditions: none (closed terms).
-/
import Derived.Test.YtgcggngleiggiaaRows
import Derived.WalkKit
import Derived.ProofKit
import Derived.OpenShut
namespace Go.Proofs.Ytgcggngleiggiaa.fnBernoulli
open Go.ChangeShapes Go.WideShapes Go.ChangeAt Go.RowKit
set_option maxRecDepth 100000
theorem jf1 : (Rows.fnBernoulliRow.inPlace == Try.checked.prog.inPlace 13) = true := by kernel_rfl
theorem jf2 : (Rows.fnBernoulliRow.unfollowed == Try.checked.prog.unfollowed 13) = true := by kernel_rfl
theorem jf3 : (Rows.fnBernoulliRow.recurses == Try.checked.prog.recurses 13) = true := by kernel_rfl
theorem jf4 : (Rows.fnBernoulliRow.named == Try.checked.prog.varsNamed 13) = true := by kernel_rfl
theorem jf : joinedFacts Try.checked.prog 13 Try.f13 Rows.fnBernoulliSpec Rows.fnBernoulliRow = true := by
  unfold joinedFacts
  rw [jf1, jf2, jf3, jf4]
  kernel_rfl
end Go.Proofs.Ytgcggngleiggiaa.fnBernoulli
