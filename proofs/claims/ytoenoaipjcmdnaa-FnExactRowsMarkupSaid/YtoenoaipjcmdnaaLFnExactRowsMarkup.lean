/- The given statement on laws.FnExactRowsMarkup: for every input of its row the call returns true and leaves its arguments as they were. No condition of ours. -/
import Derived.Test.YtoenoaipjcmdnaaRows
import Derived.Test.YtoenoaipjcmdnaaPFnExactRowsMarkup
import Derived.Test.YtoenoaipjcmdnaaPOP
import Derived.Test.YtoenoaipjcmdnaaQ36
import Derived.WalkKit
import Derived.ProofKit
import Derived.OpenShut
import Derived.ShutString
import Derived.ChangeOld
import Derived.Below
import Derived.SizedLaws
namespace Go.Proofs.Ytoenoaipjcmdnaa.rowFnExactRowsMarkup
open Go.ChangeShapes Go.WideShapes Go.ChangeAt Go.RowKit Go.Proofs.Ytoenoaipjcmdnaa.Op Go.Proofs.Ytoenoaipjcmdnaa.Q Go.Proofs.YtoenoaipjcmdnaaW.PrintWords
open Go.ChangeMaps (open_string shut_string)
set_option linter.unusedVariables false
theorem own : ownKnob Try.prog.godebug = none := by kernel_rfl
theorem laidOut : laidOutB Try.prog = true := by kernel_rfl
def ok53 (x : S53) : Prop := (Lit.int .i64 x.f0).wf = true ∧ (Lit.int .i64 x.f1).wf = true
theorem opens53 {H : Type} {enc : TypeId × Value → H} {w : World} {base : Nat} {spare : Nat → Bool} {held : Bool} : Opens enc Try.prog w base spare held 53 k53 ok53 :=
  opens_struct _ (fun a => ⟨a.1, a.2⟩) (fun _ => rfl) Try.underlying53 (openF_cons (opens_int Try.underlying3) (by kernel_rfl) (openF_last (opens_int Try.underlying3) (by kernel_rfl) (by kernel_rfl)))
def ok55 (x : S55) : Prop := ok53 x.f0 ∧ (Lit.int .i64 x.f1).wf = true ∧ (Lit.int .i64 x.f2).wf = true ∧ x.f3.size ≤ maxLen
theorem opens55 {H : Type} {enc : TypeId × Value → H} {w : World} {base : Nat} {spare : Nat → Bool} {held : Bool} : Opens enc Try.prog w base spare held 55 k55 ok55 :=
  opens_struct _ (fun a => ⟨a.1, a.2.1, a.2.2.1, a.2.2.2⟩) (fun _ => rfl) Try.underlying55 (openF_cons opens53 (by kernel_rfl) (openF_cons (opens_int Try.underlying3) (by kernel_rfl) (openF_cons (opens_int Try.underlying3) (by kernel_rfl) (openF_last (opens_string Try.underlying9) (by kernel_rfl) (by kernel_rfl)))))
set_option maxRecDepth 100000 in
theorem lifted (os : Os) (started : os.Started) (H : Type) (enc : TypeId × Value → H) :
    ReturnsInHanded {} Try.checked os 3 .any (Rows.fnExactRowsMarkupSpec.pre6 enc Try.prog Try.f3 Rows.fnExactRowsMarkupRow.domain false) (Rows.fnExactRowsMarkupSpec.post enc Try.prog Try.f3 false true false false) := by
  refine returnsInHanded_of_change_sized (C := Try.checked) own started (by kernel_rfl) Try.func3
    (ChangeSpec.witness6 (enc := enc) (C := Try.checked) false ⟨#[], #[.slice none 0 0], []⟩ 8 (by kernel_rfl) (by kernel_rfl) (by kernel_rfl) (by kernel_rfl)) ?_
  intro W base args ds gs before hval0 hW hcnd hsz0 _
  have hval : ∀ (j : Nat) t v, Try.f3.params[j]? = some t → args[j]? = some v → Value.okWide Try.prog W .any base t v := hval0
  have hW' := hW
  obtain ⟨p, q, hA0, hV, rfl, hfz, hnd⟩ := hW
  have hA : DataW.TrodAll enc Try.prog W 0 (fun _ => true) true Try.f3.params.toList args.toList ds p := hA0
  rw [Try.params3] at hA hval
  obtain ⟨v0, vs0, d0, ds0, p0, q0, hargs, rfl, rfl, h0, r0⟩ := trodAll_cons hA
  obtain ⟨rfl, rfl, rfl⟩ := trodAll_nil r0
  obtain rfl : args = #[v0] := by cases args; simp_all
  obtain ⟨rfl, rfl⟩ := trodVars_none hV
  have k0 := h0
  have lt0 : ∀ x ∈ p0, x.block < W.heap.size := by obtain ⟨m, hm⟩ := k0; exact DataW.trod_lt m _ _ _ hm
  obtain ⟨A0, len0, cap0, rfl⟩ := okWide_slice Try.underlying22 (hval 0 22 v0 rfl rfl)
  obtain ⟨fu0, hf0⟩ := h0
  obtain ⟨x0, hxl0, hcp0, hmx0, hC0, hok0⟩ := opens_slice Try.underlying22 (by kernel_rfl) opens55 hf0
  subst hxl0
  obtain ⟨k, hk⟩ := Q.pure_ExactRowsMarkup x0 hmx0 hok0
  refine (laws_FnExactRowsMarkup.calls k _ _ x0 true W hC0 hcp0 hk).mono ?_
  rintro e W' ⟨rfl, bel⟩
  exact ⟨_, rfl, _, _, _, [], _, [], hW', trodAll_mk1 (shut_bool Try.underlying4 _), (trodAll_cons_mk (Below.trod laidOut (by kernel_rfl) (of_decide_eq_true (by kernel_rfl)) k0 bel lt0) trodAll_mk0), rfl, bel.frame _, fun h => by cases h⟩
theorem over : Rows.fnExactRowsMarkupRow.holds Try.pinned (OpenSpec.ofChange Rows.fnExactRowsMarkupSpec) :=
  OpenClaim.holds_of_wide 3 Try.f3 rfl rfl rfl rfl rfl rfl rfl ⟨rfl, rfl, rfl, rfl, rfl⟩ rfl rfl rfl rfl rfl (by kernel_rfl) Try.func3 (by kernel_rfl)
    (of_decide_eq_true (by kernel_rfl)) (by unfold Func.isWrapper; first | (rw [if_pos (by decide +kernel)]; kernel_rfl) | (rw [if_neg (by decide +kernel)]; exact ⟨rfl, rfl⟩))
    (fun os started H enc _ => lifted os started H enc)
theorem proved : Rows.FnExactRowsMarkupSaid := over
#print axioms proved
end Go.Proofs.Ytoenoaipjcmdnaa.rowFnExactRowsMarkup
namespace Go.Proofs.Ytoenoaipjcmdnaa
/-- The row, under a short name, for the claim. -/
theorem holds_FnExactRowsMarkup : Rows.FnExactRowsMarkupSaid := rowFnExactRowsMarkup.proved
end Go.Proofs.Ytoenoaipjcmdnaa
