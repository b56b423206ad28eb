/- The given statement on laws.FnExactScriptCost: for every input of its row the call returns true and leaves its arguments as they were. No condition of ours. -/
import Derived.Test.YtnlfmbdnleclfaaRows
import Derived.Test.YtnlfmbdnleclfaaPFnExactScriptCost
import Derived.Test.YtnlfmbdnleclfaaPOP
import Derived.Test.YtnlfmbdnleclfaaQ16
import Derived.WalkKit
import Derived.ProofKit
import Derived.OpenShut
import Derived.ShutString
import Derived.ChangeOld
import Derived.Below
import Derived.SizedLaws
namespace Go.Proofs.Ytnlfmbdnleclfaa.rowFnExactScriptCost
open Go.ChangeShapes Go.WideShapes Go.ChangeAt Go.RowKit Go.Proofs.Ytnlfmbdnleclfaa.Op Go.Proofs.Ytnlfmbdnleclfaa.Q Go.Proofs.YtnlfmbdnleclfaaW.PrintWords
open Go.ChangeMaps (open_string shut_string)
set_option linter.unusedVariables false
theorem own : ownKnob Try.prog.godebug = none := by kernel_rfl
theorem laidOut : laidOutB Try.prog = true := by kernel_rfl
def ok50 (x : S50) : Prop := (Lit.int .i64 x.f0).wf = true ∧ (Lit.int .i64 x.f1).wf = true ∧ x.f2.size ≤ maxLen
theorem opens50 {H : Type} {enc : TypeId × Value → H} {w : World} {base : Nat} {spare : Nat → Bool} {held : Bool} : Opens enc Try.prog w base spare held 50 k50 ok50 :=
  opens_struct _ (fun a => ⟨a.1, a.2.1, a.2.2⟩) (fun _ => rfl) Try.underlying50 (openF_cons (opens_int Try.underlying3) (by kernel_rfl) (openF_cons (opens_int Try.underlying3) (by kernel_rfl) (openF_last (opens_string Try.underlying9) (by kernel_rfl) (by kernel_rfl))))
set_option maxRecDepth 100000 in
theorem lifted (os : Os) (started : os.Started) (H : Type) (enc : TypeId × Value → H) :
    ReturnsInHanded {} Try.checked os 4 .any (Rows.fnExactScriptCostSpec.pre6 enc Try.prog Try.f4 Rows.fnExactScriptCostRow.domain false) (Rows.fnExactScriptCostSpec.post enc Try.prog Try.f4 false true false false) := by
  refine returnsInHanded_of_change_sized (C := Try.checked) own started (by kernel_rfl) Try.func4
    (ChangeSpec.witness6 (enc := enc) (C := Try.checked) false ⟨#[], #[.slice none 0 0], []⟩ 8 (by kernel_rfl) (by kernel_rfl) (by kernel_rfl) (by kernel_rfl)) ?_
  intro W base args ds gs before hval0 hW hcnd hsz0 _
  have hval : ∀ (j : Nat) t v, Try.f4.params[j]? = some t → args[j]? = some v → Value.okWide Try.prog W .any base t v := hval0
  have hW' := hW
  obtain ⟨p, q, hA0, hV, rfl, hfz, hnd⟩ := hW
  have hA : DataW.TrodAll enc Try.prog W 0 (fun _ => true) true Try.f4.params.toList args.toList ds p := hA0
  rw [Try.params4] at hA hval
  obtain ⟨v0, vs0, d0, ds0, p0, q0, hargs, rfl, rfl, h0, r0⟩ := trodAll_cons hA
  obtain ⟨rfl, rfl, rfl⟩ := trodAll_nil r0
  obtain rfl : args = #[v0] := by cases args; simp_all
  obtain ⟨rfl, rfl⟩ := trodVars_none hV
  have k0 := h0
  have lt0 : ∀ x ∈ p0, x.block < W.heap.size := by obtain ⟨m, hm⟩ := k0; exact DataW.trod_lt m _ _ _ hm
  obtain ⟨A0, len0, cap0, rfl⟩ := okWide_slice Try.underlying24 (hval 0 24 v0 rfl rfl)
  obtain ⟨fu0, hf0⟩ := h0
  obtain ⟨x0, hxl0, hcp0, hmx0, hC0, hok0⟩ := opens_slice Try.underlying24 (by kernel_rfl) opens50 hf0
  subst hxl0
  obtain ⟨k, hk⟩ := Q.pure_ExactScriptCost x0 hmx0 hok0
  refine (laws_FnExactScriptCost.calls k _ _ x0 true W hC0 hcp0 hk).mono ?_
  rintro e W' ⟨rfl, bel⟩
  exact ⟨_, rfl, _, _, _, [], _, [], hW', trodAll_mk1 (shut_bool Try.underlying4 _), (trodAll_cons_mk (Below.trod laidOut (by kernel_rfl) (of_decide_eq_true (by kernel_rfl)) k0 bel lt0) trodAll_mk0), rfl, bel.frame _, fun h => by cases h⟩
theorem over : Rows.fnExactScriptCostRow.holds Try.pinned (OpenSpec.ofChange Rows.fnExactScriptCostSpec) :=
  OpenClaim.holds_of_wide 4 Try.f4 rfl rfl rfl rfl rfl rfl rfl ⟨rfl, rfl, rfl, rfl, rfl⟩ rfl rfl rfl rfl rfl (by kernel_rfl) Try.func4 (by kernel_rfl)
    (of_decide_eq_true (by kernel_rfl)) (by unfold Func.isWrapper; first | (rw [if_pos (by decide +kernel)]; kernel_rfl) | (rw [if_neg (by decide +kernel)]; exact ⟨rfl, rfl⟩))
    (fun os started H enc _ => lifted os started H enc)
theorem proved : Rows.FnExactScriptCostSaid := over
#print axioms proved
end Go.Proofs.Ytnlfmbdnleclfaa.rowFnExactScriptCost
namespace Go.Proofs.Ytnlfmbdnleclfaa
/-- The row, under a short name, for the claim. -/
theorem holds_FnExactScriptCost : Rows.FnExactScriptCostSaid := rowFnExactScriptCost.proved
end Go.Proofs.Ytnlfmbdnleclfaa
