import Derived.Test.YtnlfmbdnleclfaaWB
import Derived.Test.YtnlfmbdnleclfaaQ23
import Derived.Test.YtnlfmbdnleclfaaPP2
import Derived.Test.YtnlfmbdnleclfaaPP3
namespace Go.Proofs.Ytnlfmbdnleclfaa.Q
open Go.RowKit Go.Proofs.YtnlfmbdnleclfaaW.PrintWords Go.Proofs.YtnlfmbdnleclfaaW.PrintLast Go.Proofs.YtnlfmbdnleclfaaW.PrintMore
set_option linter.unusedVariables false
set_option linter.unusedSimpArgs false
set_option linter.unusedSectionVars false
theorem pure_CommonLength : laws_FnCommonLength.Pure := by
  intro l _ _ hl
  refine Ev.rounds ?_
  unfold laws_FnCommonLength.f
  by_cases h0 : (l.length : Int) > 1048576
  · exact Ev.pos h0 (Ev.now _)
  refine Ev.neg h0 ?_
  obtain ⟨a, b, e, ha, hb⟩ := drawCL_ev l hl
  refine Ev.bind e (Ev.bind (impl_cl a b) (Ev.bind (spec_cl a b) (Ev.pos rfl ?_)))
  refine Ev.step (fun k => by rw [laws_FnCommonLength.j0]) ?_
  dsimp only
  by_cases hb' : b.size ≤ 60
  · have hc := cl_nonneg (a := a) (b := b) (by omega) hb'
    have hc' := cl_nonneg (a := b) (b := a) hb' (by omega)
    have hs := cl_nonneg (a := a) (b := a) (by omega) (by omega)
    rw [decide_eq_false (by omega)]
    have l1 := Cd.lcs_le_left (by_ a) (by_ b); rw [by_len] at l1
    have l2 := Cd.lcs_le_right (by_ a) (by_ b); rw [by_len] at l2
    refine Ev.neg (by simp) (Ev.bind (impl_cl b a) (Ev.pos (by rw [hc, hc', Cd.lcs_comm]) (Ev.pos (by omega) (Ev.pos (by omega) (Ev.bind (impl_cl a a) (Ev.pos (by rw [hs, Cd.lcs_self, by_len]) ?_))))))
    by_cases c1 : cl a b < (a.size : Int)
    · exact Ev.pos c1 (Ev.now _)
    by_cases c2 : cl a b < (b.size : Int)
    · exact Ev.neg c1 (Ev.pos c2 (Ev.now _))
    refine Ev.neg c1 (Ev.neg c2 (Ev.eqr (Ev.now _) ?_))
    rw [toList_by, toList_by, Cd.eq_of_lcs (a := by_ a) (b := by_ b) (by rw [by_len]; omega) (by rw [by_len]; omega)]
    simp
  · have hc := cl_neg (a := a) (b := b) (by omega)
    rw [decide_eq_true (by omega)]
    exact Ev.pos rfl (Ev.bind (spec_cl a b) (Ev.eqr (Ev.now _) (by simp)))
end Go.Proofs.Ytnlfmbdnleclfaa.Q
