import Derived.Test.YtnlfmbdnleclfaaWB
import Derived.Test.YtnlfmbdnleclfaaQ7
import Derived.Test.YtnlfmbdnleclfaaPLcs
import Derived.Test.YtnlfmbdnleclfaaPP1
namespace Go.Proofs.Ytnlfmbdnleclfaa.Q
open Go.RowKit Go.Proofs.YtnlfmbdnleclfaaW.PrintWords Go.Proofs.YtnlfmbdnleclfaaW.PrintLast Go.Proofs.YtnlfmbdnleclfaaW.PrintMore
set_option linter.unusedVariables false
set_option linter.unusedSimpArgs false
set_option linter.unusedSectionVars false
theorem pure_ExactCommonLength : laws_FnExactCommonLength.Pure := by
  intro a b _ _
  refine Ev.rounds ?_
  unfold laws_FnExactCommonLength.f
  by_cases h1 : a.size ≤ 1048576
  · refine Ev.neg (by omega) ?_
    by_cases h2 : b.size ≤ 1048576
    · refine Ev.neg (by omega) (Ev.bind (spec_cl a b) (Ev.bind (impl_cl a b) (Ev.pos rfl (Ev.now _))))
    · exact Ev.pos (by omega) (Ev.now _)
  · exact Ev.pos (by omega) (Ev.now _)
end Go.Proofs.Ytnlfmbdnleclfaa.Q
