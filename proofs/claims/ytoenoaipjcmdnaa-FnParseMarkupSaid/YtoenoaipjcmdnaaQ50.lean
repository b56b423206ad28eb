import Derived.Test.YtoenoaipjcmdnaaQ0
import Derived.Test.YtoenoaipjcmdnaaShelf
namespace Go.Proofs.Ytoenoaipjcmdnaa.Q
open Go.RowKit Go.Proofs.YtoenoaipjcmdnaaW.PrintWords Go.Proofs.YtoenoaipjcmdnaaW.PrintLast Go.Proofs.YtoenoaipjcmdnaaW.PrintMore
attribute [local go_sem] max2_int min2_int max_two min_two max_three min_three max_four min_four
set_option linter.unusedVariables false
set_option linter.unusedSimpArgs false

/-! ### strings_IndexByte: function 49 -/
def strings_IndexByte.f (a0 : ByteArray) (a1 : Int) : Option Int := some (Lib.indexByte a0.data.toList a1.toNat.toUInt8)
theorem strings_IndexByte.calls (a0 : ByteArray) (a1 : Int) (r : Int) (w : World) (h : strings_IndexByte.f a0 a1 = some r) :
  Calls Try.prog 49 #[.string a0, .int .u8 a1] w fun e w' => e = .returned (.int .i64 r) ∧ Drawn0 w w' := by
 obtain rfl := Option.some.inj h
 refine (Try.strings_IndexByte a0 a1 w).mono ?_
 rintro e w' ⟨rfl, rfl⟩
 exact ⟨rfl, Drawn0.refl _⟩

end Go.Proofs.Ytoenoaipjcmdnaa.Q
