import Derived.Test.YtnlfmbdnleclfaaWB
import Derived.Test.YtnlfmbdnleclfaaQ25
import Derived.Test.YtnlfmbdnleclfaaPP2
import Derived.Test.YtnlfmbdnleclfaaPP3
namespace Go.Proofs.Ytnlfmbdnleclfaa.Q
open Go.RowKit Go.Proofs.YtnlfmbdnleclfaaW.PrintWords Go.Proofs.YtnlfmbdnleclfaaW.PrintLast Go.Proofs.YtnlfmbdnleclfaaW.PrintMore
set_option linter.unusedVariables false
set_option linter.unusedSimpArgs false
set_option linter.unusedSectionVars false
theorem pure_CommonSuffix : laws_FnCommonSuffix.Pure := by
  intro l _ _ hl
  refine Ev.rounds ?_
  unfold laws_FnCommonSuffix.f
  by_cases h0 : (l.length : Int) > 1048576
  · exact Ev.pos h0 (Ev.now _)
  refine Ev.neg h0 ?_
  obtain ⟨a, b, e, ha, hb⟩ := drawCL_ev l hl
  refine Ev.bind e (Ev.bind (impl_cl a b) (Ev.bind (spec_cl a b) (Ev.pos rfl ?_)))
  have same : Ev (fun k => laws_FnCommonSuffix.j0 k a b (cl a b) true) true :=
    Ev.step (fun k => by rw [laws_FnCommonSuffix.j0]) (Ev.pos rfl (Ev.bind (spec_cl a b) (Ev.eqr (Ev.now _) (by simp))))
  dsimp only
  by_cases hn : cl a b < 0
  · exact Ev.pos hn same
  refine Ev.neg hn (Ev.neg (by omega) ?_)
  by_cases hb' : b.size = 60
  · rw [show ((b.size : Int) == 60) = true by simp; omega]
    exact same
  rw [show ((b.size : Int) == 60) = false by simp; omega]
  have hb2 : b.size ≤ 60 := by
    by_cases h : b.size ≤ 60
    · exact h
    · have hc := cl_neg (a := a) (b := b) (by omega); omega
  have hc := cl_nonneg (a := a) (b := b) (by omega) hb2
  have l1 := Cd.lcs_le_left (by_ a) (by_ b); rw [by_len] at l1
  have z1 : (⟨#[113]⟩ : ByteArray).size = 1 := rfl
  have e1 := cl_nonneg (a := a ++ ⟨#[113]⟩) (b := b ++ ⟨#[113]⟩) (by rw [ByteArray.size_append]; omega) (by rw [ByteArray.size_append]; omega)
  have e2 := cl_nonneg (a := ⟨#[113]⟩ ++ a) (b := ⟨#[113]⟩ ++ b) (by rw [ByteArray.size_append]; omega) (by rw [ByteArray.size_append]; omega)
  rw [by_append, by_append, show by_ ⟨#[113]⟩ = [113] from rfl, Cd.lcs_snoc] at e1
  rw [by_append, by_append, show by_ ⟨#[113]⟩ = [113] from rfl, List.singleton_append, List.singleton_append, Cd.lcs_eq] at e2
  have hw : wrap64 (cl a b + 1) = cl a b + 1 := w64 (by omega) (by omega)
  refine Ev.step (fun k => by rw [laws_FnCommonSuffix.j0]) ?_
  rw [hw]
  refine Ev.neg (by simp) (Ev.pos (by omega) (Ev.pos (by omega) (Ev.bind (impl_cl _ _) (Ev.pos (by omega) (Ev.pos (by omega) (Ev.pos (by omega) (Ev.bind (impl_cl _ _) (Ev.eqr (Ev.now _) ?_))))))))
  simp; omega
end Go.Proofs.Ytnlfmbdnleclfaa.Q
