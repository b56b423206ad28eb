import Derived.Test.YtoenoaipjcmdnaaQ0
import Derived.Test.YtoenoaipjcmdnaaShelf
namespace Go.Proofs.Ytoenoaipjcmdnaa.Q
open Go.RowKit Go.Proofs.YtoenoaipjcmdnaaW.PrintWords Go.Proofs.YtoenoaipjcmdnaaW.PrintLast Go.Proofs.YtoenoaipjcmdnaaW.PrintMore
attribute [local go_sem] max2_int min2_int max_two min_two max_three min_three max_four min_four
set_option linter.unusedVariables false
set_option linter.unusedSimpArgs false

/-! ### stringslite_Index: function 79 -/
def stringslite_Index.f (a0 : ByteArray) (a1 : ByteArray) : Option Int := if a1.size = 1 then some (Lib.indexByte a0.data.toList (a1.data.toList.headD 0)) else none
theorem stringslite_Index.calls (a0 : ByteArray) (a1 : ByteArray) (r : Int) (w : World) (h : stringslite_Index.f a0 a1 = some r) :
  Calls Try.prog 79 #[.string a0, .string a1] w fun e w' => e = .returned (.int .i64 r) ∧ Drawn0 w w' := by
 unfold stringslite_Index.f at h
 by_cases c : a1.size = 1
 ·rw [if_pos c] at h
  obtain ⟨⟨l⟩⟩ := a1
  obtain ⟨x, rfl⟩ : ∃ x, l = [x] := by
   match l, c with
   | [x], _ => exact ⟨x, rfl⟩
   | [], c => exact absurd c (by decide)
   | _ :: _ :: _, c => exact absurd c (by simp [ByteArray.size])
  obtain rfl := Option.some.inj h
  refine (Try.stringslite_Index_one a0 x w).mono ?_
  rintro e w' ⟨rfl, rfl⟩
  exact ⟨rfl, Drawn0.refl _⟩
 ·rw [if_neg c] at h
  exact absurd h (by simp)

end Go.Proofs.Ytoenoaipjcmdnaa.Q
