import Derived.Test.YtnlfmbdnleclfaaWB
import Derived.Test.YtnlfmbdnleclfaaQ24
import Derived.Test.YtnlfmbdnleclfaaPP2
import Derived.Test.YtnlfmbdnleclfaaPP3
namespace Go.Proofs.Ytnlfmbdnleclfaa.Q
open Go.RowKit Go.Proofs.YtnlfmbdnleclfaaW.PrintWords Go.Proofs.YtnlfmbdnleclfaaW.PrintLast Go.Proofs.YtnlfmbdnleclfaaW.PrintMore
set_option linter.unusedVariables false
set_option linter.unusedSimpArgs false
set_option linter.unusedSectionVars false
theorem pure_CommonPart : laws_FnCommonPart.Pure := by
  intro l m _ _ hl _ _ hm
  refine Ev.rounds ?_
  unfold laws_FnCommonPart.f
  by_cases h0 : (l.length : Int) > 1048576
  · exact Ev.pos h0 (Ev.step (fun k => by rw [laws_FnCommonPart.j0]) (Ev.pos rfl (Ev.now _)))
  refine Ev.neg h0 (Ev.step (fun k => by rw [laws_FnCommonPart.j0]) ?_)
  by_cases h1 : (m.length : Int) > 1048576
  · exact Ev.pos (decide_eq_true h1) (Ev.now _)
  refine Ev.neg (by simpa using h1) ?_
  obtain ⟨a, b, e, ha, hb⟩ := drawCL_ev l hl
  refine Ev.bind e (Ev.bind (impl_cl a b) (Ev.bind (spec_cl a b) (Ev.pos rfl ?_)))
  refine Ev.step (fun k => by rw [laws_FnCommonPart.j1]) ?_
  dsimp only
  by_cases hb' : b.size ≤ 60
  · have hc := cl_nonneg (a := a) (b := b) (by omega) hb'
    rw [decide_eq_false (by omega), show wrap64 ((a.size : Int) + 1) = ((a.size + 1 : Nat) : Int) by rw [w64 (by omega) (by omega)]; rfl, show (m.length : Int) % ((a.size + 1 : Nat) : Int) = ((m.length % (a.size + 1) : Nat) : Int) by omega]
    have hk := Nat.mod_lt m.length (show 0 < a.size + 1 by omega)
    generalize m.length % (a.size + 1) = n at *
    rw [Int.toNat_natCast]
    have hz : (a.extract 0 n).size = n := by rw [ByteArray.size_extract]; omega
    have hp := cl_nonneg (a := a.extract 0 n) (b := b) (by omega) hb'
    rw [by_take] at hp
    refine Ev.neg (by simp) (Ev.neg (by omega) (Ev.pos (by omega) (Ev.pos (by omega) (Ev.bind (impl_cl _ b) ?_))))
    have q1 : Cd.lcs ((by_ a).take n) (by_ b) ≤ Cd.lcs (by_ a) (by_ b) := Cd.lcs_mono (List.take_sublist _ _) (List.Sublist.refl _)
    have q2 : Cd.lcs (by_ a) (by_ b) ≤ Cd.lcs ((by_ a).take n) (by_ b) + (a.size - n) := by
      have := Cd.lcs_append_le ((by_ a).take n) ((by_ a).drop n) [] (by_ b)
      simp only [List.append_nil, List.take_append_drop, List.length_drop, by_len] at this
      exact this
    have q3 := Cd.lcs_le_left ((by_ a).take n) (by_ b); rw [List.length_take] at q3
    have q4 := Cd.lcs_le_right ((by_ a).take n) (by_ b); rw [by_len] at q4
    refine Ev.pos (by omega) (Ev.pos ?_ (Ev.eqr (Ev.now _) (by rw [decide_eq_true_iff]; omega)))
    rw [w64 (n := cl (a.extract 0 n) b + (a.size : Int)) (by omega) (by omega), w64 (by omega) (by omega)]
    omega
  · have hc := cl_neg (a := a) (b := b) (by omega)
    rw [decide_eq_true (by omega)]
    exact Ev.pos rfl (Ev.bind (spec_cl a b) (Ev.eqr (Ev.now _) (by simp)))
end Go.Proofs.Ytnlfmbdnleclfaa.Q
