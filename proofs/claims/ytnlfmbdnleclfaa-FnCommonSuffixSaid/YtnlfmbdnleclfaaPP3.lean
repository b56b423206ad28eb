import Derived.Test.YtnlfmbdnleclfaaWB
import Derived.Test.YtnlfmbdnleclfaaPP2
namespace Go.Proofs.Ytnlfmbdnleclfaa.Q
open Go.RowKit Go.Proofs.YtnlfmbdnleclfaaW.PrintWords Go.Proofs.YtnlfmbdnleclfaaW.PrintLast Go.Proofs.YtnlfmbdnleclfaaW.PrintMore
set_option linter.unusedVariables false
set_option linter.unusedSimpArgs false
set_option linter.unusedSectionVars false
theorem cl_nonneg {a b : ByteArray} (h1 : a.size ≤ 60) (h2 : b.size ≤ 60) : cl a b = (Cd.lcs (by_ a) (by_ b) : Nat) := by rw [cl, if_pos ⟨h1, h2⟩]
theorem cl_neg {a b : ByteArray} (h : ¬ (a.size ≤ 60 ∧ b.size ≤ 60)) : cl a b = -1 := by rw [cl, if_neg h]
theorem toList_by (a : ByteArray) : a.toList = by_ a := ByteArray.toList_eq a
theorem by_append (a b : ByteArray) : by_ (a ++ b) = by_ a ++ by_ b := by simp [by_]
theorem by_extract (a : ByteArray) (i j : Nat) : by_ (a.extract i j) = ((by_ a).take j).drop i := by
  simp [by_, ByteArray.data_extract, Array.toList_extract, List.drop_take]
theorem by_take (a : ByteArray) (j : Nat) : by_ (a.extract 0 j) = (by_ a).take j := by rw [by_extract]; rfl
end Go.Proofs.Ytnlfmbdnleclfaa.Q
