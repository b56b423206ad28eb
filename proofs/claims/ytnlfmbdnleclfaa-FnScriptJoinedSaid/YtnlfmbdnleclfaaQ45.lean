import Derived.Test.YtnlfmbdnleclfaaQ0
import Derived.Test.YtnlfmbdnleclfaaQ39
import Derived.Test.YtnlfmbdnleclfaaQ40
import Derived.Test.YtnlfmbdnleclfaaQ41
import Derived.Test.YtnlfmbdnleclfaaQ44
namespace Go.Proofs.Ytnlfmbdnleclfaa.Q
open Go.RowKit Go.Proofs.YtnlfmbdnleclfaaW.PrintWords Go.Proofs.YtnlfmbdnleclfaaW.PrintLast Go.Proofs.YtnlfmbdnleclfaaW.PrintMore
attribute [local go_sem] max2_int min2_int max_two min_two max_three min_three max_four min_four
set_option linter.unusedVariables false
set_option linter.unusedSimpArgs false

/-! ### laws_FnScriptJoined: function 10 -/
mutual
def laws_FnScriptJoined.l0 : Nat → List (S43) → Int → Option (Bool)
 | 0, _, _ => none
 | k + 1, x5, x6 => if x6 < (x5.length : Int) then (if 0 ≤ x6 then (if ((rd_T43 x5 x6).f2).toList = ([] : List UInt8) then (laws_FnScriptJoined.j1 k x5 x6 true ((rd_T43 x5 x6).f0) ((rd_T43 x5 x6).f1) ((rd_T43 x5 x6).f2)) else (if ((rd_T43 x5 x6).f0) = 1 then (laws_FnScriptJoined.j1 k x5 x6 false ((rd_T43 x5 x6).f0) ((rd_T43 x5 x6).f1) ((rd_T43 x5 x6).f2)) else (laws_FnScriptJoined.j1 k x5 x6 (((rd_T43 x5 x6).f0) != 2) ((rd_T43 x5 x6).f0) ((rd_T43 x5 x6).f1) ((rd_T43 x5 x6).f2)))) else (none)) else (some true)
def laws_FnScriptJoined.j1 : Nat → List (S43) → Int → Bool → Int → Int → ByteArray → Option (Bool)
 | 0, _, _, _, _, _, _ => none
 | k + 1, x5, x6, x47, x443000, x443001, x443002 => if x47 = true then (some false) else (if x6 > 0 then (if 0 ≤ (wrap64 (x6 - 1)) then (if (wrap64 (x6 - 1)) < (x5.length : Int) then (if ((rd_T43 x5 (wrap64 (x6 - 1))).f0) = x443000 then (if x443000 = 2 then (if ((rd_T43 x5 (wrap64 (x6 - 1))).f1) = x443001 then (some false) else (if x443000 = 1 then (if (wrap64 (((rd_T43 x5 (wrap64 (x6 - 1))).f1) + (((rd_T43 x5 (wrap64 (x6 - 1))).f2).size : Int))) = x443001 then (some false) else (laws_FnScriptJoined.l0 k x5 (wrap64 (x6 + 1)))) else (laws_FnScriptJoined.l0 k x5 (wrap64 (x6 + 1))))) else (if x443000 = 1 then (if (wrap64 (((rd_T43 x5 (wrap64 (x6 - 1))).f1) + (((rd_T43 x5 (wrap64 (x6 - 1))).f2).size : Int))) = x443001 then (some false) else (laws_FnScriptJoined.l0 k x5 (wrap64 (x6 + 1)))) else (laws_FnScriptJoined.l0 k x5 (wrap64 (x6 + 1))))) else (laws_FnScriptJoined.l0 k x5 (wrap64 (x6 + 1)))) else (none)) else (none)) else (laws_FnScriptJoined.l0 k x5 (wrap64 (x6 + 1))))
end
def laws_FnScriptJoined.f (k : Nat) (l0 : List Int) : Option (Bool) := if (l0.length : Int) > 1048576 then (some true) else ((spec_DrawEditScript.f k l0).bind fun bt432 => ((impl_EditScript.f k bt432.1 bt432.2).bind fun t434 => ((spec_EditScript.f k bt432.1 bt432.2).bind fun t437 => ((laws_equalEdits.f k t434 t437).bind fun t440 => (if t440 = true then (laws_FnScriptJoined.l0 k t434 0) else (some false))))))
theorem laws_FnScriptJoined.mono_l : ∀ k, (∀ y0 y1, LeO (laws_FnScriptJoined.l0 k y0 y1) (laws_FnScriptJoined.l0 (k + 1) y0 y1)) ∧ (∀ y0 y1 y2 y3 y4 y5, LeO (laws_FnScriptJoined.j1 k y0 y1 y2 y3 y4 y5) (laws_FnScriptJoined.j1 (k + 1) y0 y1 y2 y3 y4 y5))
 | 0 => ⟨fun _ _ r h => by simp [laws_FnScriptJoined.l0] at h, fun _ _ _ _ _ _ r h => by simp [laws_FnScriptJoined.j1] at h⟩
 | k + 1 => by
  obtain ⟨ih0, ih1⟩ := laws_FnScriptJoined.mono_l k
  refine ⟨?_, ?_⟩
  ·intro y0 y1
   unfold laws_FnScriptJoined.l0
   repeat' first
   | (with_reducible exact ih0 _ _)
   | (with_reducible exact ih1 _ _ _ _ _ _)
   | (with_reducible exact impl_EditScript.mono _ _ _)
   | (with_reducible exact laws_equalEdits.mono _ _ _)
   | (with_reducible exact spec_DrawEditScript.mono _ _)
   | (with_reducible exact spec_EditScript.mono _ _ _)
   | (with_reducible exact LeO.refl _)
   | (with_reducible exact LeO.none _)
   | (with_reducible refine LeO.ite ?_ ?_)
   | (with_reducible refine LeO.bind ?_ (fun _ => ?_))
   | exact ih0 _ _
   | exact ih1 _ _ _ _ _ _
   | exact impl_EditScript.mono _ _ _
   | exact laws_equalEdits.mono _ _ _
   | exact spec_DrawEditScript.mono _ _
   | exact spec_EditScript.mono _ _ _
   | exact LeO.none _
   | refine LeO.ite ?_ ?_
   | refine LeO.bind ?_ (fun _ => ?_)
  ·intro y0 y1 y2 y3 y4 y5
   unfold laws_FnScriptJoined.j1
   repeat' first
   | (with_reducible exact ih0 _ _)
   | (with_reducible exact ih1 _ _ _ _ _ _)
   | (with_reducible exact impl_EditScript.mono _ _ _)
   | (with_reducible exact laws_equalEdits.mono _ _ _)
   | (with_reducible exact spec_DrawEditScript.mono _ _)
   | (with_reducible exact spec_EditScript.mono _ _ _)
   | (with_reducible exact LeO.refl _)
   | (with_reducible exact LeO.none _)
   | (with_reducible refine LeO.ite ?_ ?_)
   | (with_reducible refine LeO.bind ?_ (fun _ => ?_))
   | exact ih0 _ _
   | exact ih1 _ _ _ _ _ _
   | exact impl_EditScript.mono _ _ _
   | exact laws_equalEdits.mono _ _ _
   | exact spec_DrawEditScript.mono _ _
   | exact spec_EditScript.mono _ _ _
   | exact LeO.none _
   | refine LeO.ite ?_ ?_
   | refine LeO.bind ?_ (fun _ => ?_)
theorem laws_FnScriptJoined.mono : ∀ a0 k, LeO (laws_FnScriptJoined.f k a0) (laws_FnScriptJoined.f (k + 1) a0) := by
 intro a0 k
 obtain ⟨ih0, ih1⟩ := laws_FnScriptJoined.mono_l k
 unfold laws_FnScriptJoined.f
 repeat' first
   | (with_reducible exact ih0 _ _)
   | (with_reducible exact ih1 _ _ _ _ _ _)
   | (with_reducible exact impl_EditScript.mono _ _ _)
   | (with_reducible exact laws_equalEdits.mono _ _ _)
   | (with_reducible exact spec_DrawEditScript.mono _ _)
   | (with_reducible exact spec_EditScript.mono _ _ _)
   | (with_reducible exact LeO.refl _)
   | (with_reducible exact LeO.none _)
   | (with_reducible refine LeO.ite ?_ ?_)
   | (with_reducible refine LeO.bind ?_ (fun _ => ?_))
   | exact ih0 _ _
   | exact ih1 _ _ _ _ _ _
   | exact impl_EditScript.mono _ _ _
   | exact laws_equalEdits.mono _ _ _
   | exact spec_DrawEditScript.mono _ _
   | exact spec_EditScript.mono _ _ _
   | exact LeO.none _
   | refine LeO.ite ?_ ?_
   | refine LeO.bind ?_ (fun _ => ?_)
set_option maxHeartbeats 8000000 in
set_option maxRecDepth 100000 in
theorem laws_FnScriptJoined.calls (k : Nat) (A0 : Option Addr) (c0 : Nat) (l0 : List Int) (r : Bool) (w : World) (hr0 : Kd.C (Kd.int .u8) w A0 l0.length l0) (hc0 : l0.length ≤ c0) (h : laws_FnScriptJoined.f k l0 = some r) :
  Calls Try.prog 10 #[.slice A0 l0.length c0] w fun e w' => e = .returned (.bool r) ∧ Below w.heap.size w w' := by
 have hu43 := Try.underlying43
 have HR0 := Aside0.mk hr0
 have HC0 := Aside0.mk hc0
 clear hr0 hc0
 have HB := Aside0.mk (Below.refl w.heap.size w)
 have H : (if (l0.length : Int) > 1048576 then (some true) else ((spec_DrawEditScript.f k l0).bind fun bt432 => ((impl_EditScript.f k bt432.1 bt432.2).bind fun t434 => ((spec_EditScript.f k bt432.1 bt432.2).bind fun t437 => ((laws_equalEdits.f k t434 t437).bind fun t440 => (if t440 = true then (laws_FnScriptJoined.l0 k t434 0) else (some false))))))) = some r := h
 clear h
 by_cases c2 : (l0.length : Int) > 1048576
 ·rw [if_pos c2] at H
  have c2b0 : decide (1048576 < (l0.length : Int)) = true := decide_eq_true c2
  have c2b1 : decide (1048576 < l0.length) = true := decide_eq_true (by omega)
  clear c2
  obtain rfl := Option.some.inj H
  go_enter Try.func10, Try.ntmps10
  go_wp2
  repeat (go_quiet (fail); try go_wp2)
  go_ret
  exact ⟨by first | rfl | (simp [errW_none, errW_some] <;> rfl) | (simp [*, errW_none, errW_some] <;> rfl), by repeat (first | (with_reducible first | exact HB.out | apply below_alloc | apply pw_below_drewN | apply below_drew1) | exact HB.out)⟩
 ·rw [if_neg c2] at H
  have c2b0 : decide (1048576 < (l0.length : Int)) = false := decide_eq_false c2
  have c2b1 : decide (1048576 < l0.length) = false := decide_eq_false (by omega)
  clear c2
  replace H := Option.bind_eq_some_iff.mp H
  obtain ⟨⟨t432, t433⟩, A30, H⟩ := H
  replace H : ((impl_EditScript.f k t432 t433).bind fun t434 => ((spec_EditScript.f k t432 t433).bind fun t437 => ((laws_equalEdits.f k t434 t437).bind fun t440 => (if t440 = true then (laws_FnScriptJoined.l0 k t434 0) else (some false))))) = some r := H
  have A3 := Aside0.mk A30
  clear A30
  replace H := Option.bind_eq_some_iff.mp H
  obtain ⟨t434, A40, H⟩ := H
  replace H : ((spec_EditScript.f k t432 t433).bind fun t437 => ((laws_equalEdits.f k t434 t437).bind fun t440 => (if t440 = true then (laws_FnScriptJoined.l0 k t434 0) else (some false)))) = some r := H
  have A4 := Aside0.mk A40
  clear A40
  replace H := Option.bind_eq_some_iff.mp H
  obtain ⟨t437, A50, H⟩ := H
  replace H : ((laws_equalEdits.f k t434 t437).bind fun t440 => (if t440 = true then (laws_FnScriptJoined.l0 k t434 0) else (some false))) = some r := H
  have A5 := Aside0.mk A50
  clear A50
  replace H := Option.bind_eq_some_iff.mp H
  obtain ⟨t440, A60, H⟩ := H
  replace H : (if t440 = true then (laws_FnScriptJoined.l0 k t434 0) else (some false)) = some r := H
  have A6 := Aside0.mk A60
  clear A60
  by_cases c7 : t440 = true
  ·subst c7
   have H1 : (laws_FnScriptJoined.l0 k t434 0) = some r := by rw [if_pos rfl] at H; exact H
   clear H
   have H := H1
   clear H1
   have H' := Aside0.mk H
   clear H
   go_enter Try.func10, Try.ntmps10
   go_wp2_with (first | (go_at_call 32; (with_reducible refine (spec_DrawEditScript.calls k _ _ l0 t432 t433 _ ?side1 ?side2 A3.out).mono ?_); (case side1 => repeat (first | exact HR0.out | (with_reducible refine Kd.C_alloc ?_ _) | (with_reducible refine Kd.C_drewN ?_ _) | (with_reducible refine Kd.C_drew ?_))); (case side2 => exact HC0.out); rintro e w8 ⟨rfl, hb⟩; have n0_ := Aside0.mk (below_step (by repeat (first | (with_reducible first | exact HB.out | apply below_alloc | apply pw_below_drewN | apply below_drew1) | exact HB.out)) hb); clear HB; have HB := n0_; clear n0_; (try clear hb); (try clear hb2); (try clear hk); (try clear hi)) | (go_at_call 33; (with_reducible refine (impl_EditScript.calls k t432 t433 t434 _ A4.out).mono ?_); rintro e w9 ⟨v435, rfl, ho0, hb⟩; have n0_ := Aside0.mk (Kd.R_lower ho0 (below_size (by repeat (first | (with_reducible first | exact HB.out | apply below_alloc | apply pw_below_drewN | apply below_drew1) | exact HB.out)))); have n1_ := Aside0.mk (below_step (by repeat (first | (with_reducible first | exact HB.out | apply below_alloc | apply pw_below_drewN | apply below_drew1) | exact HB.out)) hb); clear HB; have HO436 := n0_; have HB := n1_; clear n0_ n1_; (try clear hb); (try clear hb2); (try clear hk); (try clear hi); (try clear ho0)) | (go_at_call 35; (with_reducible refine (spec_EditScript.calls k t432 t433 t437 _ A5.out).mono ?_); rintro e w10 ⟨v438, rfl, ho0, hb⟩; have n0_ := Aside0.mk (Kd.R_elder' (by (with_reducible repeat (first | apply Kd.R_alloc | apply Kd.R_drewN | apply Kd.R_drew)); exact HO436.out) (Kd.R_base ho0) hb); have n1_ := Aside0.mk (Kd.R_lower (Kd.R_new' ho0 (Kd.R_lt (by (with_reducible repeat (first | apply Kd.R_alloc | apply Kd.R_drewN | apply Kd.R_drew)); exact HO436.out))) (below_size (by repeat (first | (with_reducible first | exact HB.out | apply below_alloc | apply pw_below_drewN | apply below_drew1) | exact HB.out)))); have n2_ := Aside0.mk (below_step (by repeat (first | (with_reducible first | exact HB.out | apply below_alloc | apply pw_below_drewN | apply below_drew1) | exact HB.out)) hb); clear HO436; clear HB; have HO436 := n0_; have HO439 := n1_; have HB := n2_; clear n0_ n1_ n2_; (try clear hb); (try clear hb2); (try clear hk); (try clear hi); (try clear ho0); obtain ⟨Ao11, co11, eo11⟩ := Kd.R_slice HO436.out; subst eo11; obtain ⟨Ao12, co12, eo12⟩ := Kd.R_slice HO439.out; subst eo12) | (go_at_call 34; (with_reducible refine (laws_equalEdits.calls k _ _ t434 _ _ t437 true _ ?side1 ?side2 ?side3 ?side4 A6.out).mono ?_); (case side1 => repeat (first | exact (Kd.R_reads' HO436.out).2.2 | (with_reducible refine Kd.C_alloc ?_ _) | (with_reducible refine Kd.C_drewN ?_ _) | (with_reducible refine Kd.C_drew ?_))); (case side2 => exact (Kd.R_reads' HO436.out).2.1); (case side3 => repeat (first | exact (Kd.R_reads' HO439.out).2.2 | (with_reducible refine Kd.C_alloc ?_ _) | (with_reducible refine Kd.C_drewN ?_ _) | (with_reducible refine Kd.C_drew ?_))); (case side4 => exact (Kd.R_reads' HO439.out).2.1); rintro e w' ⟨rfl, ⟨nd, rfl⟩⟩; (try first | exact ⟨rfl, _, World.drewN_drewN _ _ _⟩ | exact ⟨rfl, _, Eq.trans (World.drewN_drewN _ _ _) (congrArg (World.drewN _) (Nat.add_assoc _ _ _))⟩)))
   repeat (go_quiet (first | (go_at_call 32; (with_reducible refine (spec_DrawEditScript.calls k _ _ l0 t432 t433 _ ?side1 ?side2 A3.out).mono ?_); (case side1 => repeat (first | exact HR0.out | (with_reducible refine Kd.C_alloc ?_ _) | (with_reducible refine Kd.C_drewN ?_ _) | (with_reducible refine Kd.C_drew ?_))); (case side2 => exact HC0.out); rintro e w8 ⟨rfl, hb⟩; have n0_ := Aside0.mk (below_step (by repeat (first | (with_reducible first | exact HB.out | apply below_alloc | apply pw_below_drewN | apply below_drew1) | exact HB.out)) hb); clear HB; have HB := n0_; clear n0_; (try clear hb); (try clear hb2); (try clear hk); (try clear hi)) | (go_at_call 33; (with_reducible refine (impl_EditScript.calls k t432 t433 t434 _ A4.out).mono ?_); rintro e w9 ⟨v435, rfl, ho0, hb⟩; have n0_ := Aside0.mk (Kd.R_lower ho0 (below_size (by repeat (first | (with_reducible first | exact HB.out | apply below_alloc | apply pw_below_drewN | apply below_drew1) | exact HB.out)))); have n1_ := Aside0.mk (below_step (by repeat (first | (with_reducible first | exact HB.out | apply below_alloc | apply pw_below_drewN | apply below_drew1) | exact HB.out)) hb); clear HB; have HO436 := n0_; have HB := n1_; clear n0_ n1_; (try clear hb); (try clear hb2); (try clear hk); (try clear hi); (try clear ho0)) | (go_at_call 35; (with_reducible refine (spec_EditScript.calls k t432 t433 t437 _ A5.out).mono ?_); rintro e w10 ⟨v438, rfl, ho0, hb⟩; have n0_ := Aside0.mk (Kd.R_elder' (by (with_reducible repeat (first | apply Kd.R_alloc | apply Kd.R_drewN | apply Kd.R_drew)); exact HO436.out) (Kd.R_base ho0) hb); have n1_ := Aside0.mk (Kd.R_lower (Kd.R_new' ho0 (Kd.R_lt (by (with_reducible repeat (first | apply Kd.R_alloc | apply Kd.R_drewN | apply Kd.R_drew)); exact HO436.out))) (below_size (by repeat (first | (with_reducible first | exact HB.out | apply below_alloc | apply pw_below_drewN | apply below_drew1) | exact HB.out)))); have n2_ := Aside0.mk (below_step (by repeat (first | (with_reducible first | exact HB.out | apply below_alloc | apply pw_below_drewN | apply below_drew1) | exact HB.out)) hb); clear HO436; clear HB; have HO436 := n0_; have HO439 := n1_; have HB := n2_; clear n0_ n1_ n2_; (try clear hb); (try clear hb2); (try clear hk); (try clear hi); (try clear ho0); obtain ⟨Ao11, co11, eo11⟩ := Kd.R_slice HO436.out; subst eo11; obtain ⟨Ao12, co12, eo12⟩ := Kd.R_slice HO439.out; subst eo12) | (go_at_call 34; (with_reducible refine (laws_equalEdits.calls k _ _ t434 _ _ t437 true _ ?side1 ?side2 ?side3 ?side4 A6.out).mono ?_); (case side1 => repeat (first | exact (Kd.R_reads' HO436.out).2.2 | (with_reducible refine Kd.C_alloc ?_ _) | (with_reducible refine Kd.C_drewN ?_ _) | (with_reducible refine Kd.C_drew ?_))); (case side2 => exact (Kd.R_reads' HO436.out).2.1); (case side3 => repeat (first | exact (Kd.R_reads' HO439.out).2.2 | (with_reducible refine Kd.C_alloc ?_ _) | (with_reducible refine Kd.C_drewN ?_ _) | (with_reducible refine Kd.C_drew ?_))); (case side4 => exact (Kd.R_reads' HO439.out).2.1); rintro e w' ⟨rfl, ⟨nd, rfl⟩⟩; (try first | exact ⟨rfl, _, World.drewN_drewN _ _ _⟩ | exact ⟨rfl, _, Eq.trans (World.drewN_drewN _ _ _) (congrArg (World.drewN _) (Nat.add_assoc _ _ _))⟩))); try go_wp2_with (first | (go_at_call 32; (with_reducible refine (spec_DrawEditScript.calls k _ _ l0 t432 t433 _ ?side1 ?side2 A3.out).mono ?_); (case side1 => repeat (first | exact HR0.out | (with_reducible refine Kd.C_alloc ?_ _) | (with_reducible refine Kd.C_drewN ?_ _) | (with_reducible refine Kd.C_drew ?_))); (case side2 => exact HC0.out); rintro e w8 ⟨rfl, hb⟩; have n0_ := Aside0.mk (below_step (by repeat (first | (with_reducible first | exact HB.out | apply below_alloc | apply pw_below_drewN | apply below_drew1) | exact HB.out)) hb); clear HB; have HB := n0_; clear n0_; (try clear hb); (try clear hb2); (try clear hk); (try clear hi)) | (go_at_call 33; (with_reducible refine (impl_EditScript.calls k t432 t433 t434 _ A4.out).mono ?_); rintro e w9 ⟨v435, rfl, ho0, hb⟩; have n0_ := Aside0.mk (Kd.R_lower ho0 (below_size (by repeat (first | (with_reducible first | exact HB.out | apply below_alloc | apply pw_below_drewN | apply below_drew1) | exact HB.out)))); have n1_ := Aside0.mk (below_step (by repeat (first | (with_reducible first | exact HB.out | apply below_alloc | apply pw_below_drewN | apply below_drew1) | exact HB.out)) hb); clear HB; have HO436 := n0_; have HB := n1_; clear n0_ n1_; (try clear hb); (try clear hb2); (try clear hk); (try clear hi); (try clear ho0)) | (go_at_call 35; (with_reducible refine (spec_EditScript.calls k t432 t433 t437 _ A5.out).mono ?_); rintro e w10 ⟨v438, rfl, ho0, hb⟩; have n0_ := Aside0.mk (Kd.R_elder' (by (with_reducible repeat (first | apply Kd.R_alloc | apply Kd.R_drewN | apply Kd.R_drew)); exact HO436.out) (Kd.R_base ho0) hb); have n1_ := Aside0.mk (Kd.R_lower (Kd.R_new' ho0 (Kd.R_lt (by (with_reducible repeat (first | apply Kd.R_alloc | apply Kd.R_drewN | apply Kd.R_drew)); exact HO436.out))) (below_size (by repeat (first | (with_reducible first | exact HB.out | apply below_alloc | apply pw_below_drewN | apply below_drew1) | exact HB.out)))); have n2_ := Aside0.mk (below_step (by repeat (first | (with_reducible first | exact HB.out | apply below_alloc | apply pw_below_drewN | apply below_drew1) | exact HB.out)) hb); clear HO436; clear HB; have HO436 := n0_; have HO439 := n1_; have HB := n2_; clear n0_ n1_ n2_; (try clear hb); (try clear hb2); (try clear hk); (try clear hi); (try clear ho0); obtain ⟨Ao11, co11, eo11⟩ := Kd.R_slice HO436.out; subst eo11; obtain ⟨Ao12, co12, eo12⟩ := Kd.R_slice HO439.out; subst eo12) | (go_at_call 34; (with_reducible refine (laws_equalEdits.calls k _ _ t434 _ _ t437 true _ ?side1 ?side2 ?side3 ?side4 A6.out).mono ?_); (case side1 => repeat (first | exact (Kd.R_reads' HO436.out).2.2 | (with_reducible refine Kd.C_alloc ?_ _) | (with_reducible refine Kd.C_drewN ?_ _) | (with_reducible refine Kd.C_drew ?_))); (case side2 => exact (Kd.R_reads' HO436.out).2.1); (case side3 => repeat (first | exact (Kd.R_reads' HO439.out).2.2 | (with_reducible refine Kd.C_alloc ?_ _) | (with_reducible refine Kd.C_drewN ?_ _) | (with_reducible refine Kd.C_drew ?_))); (case side4 => exact (Kd.R_reads' HO439.out).2.1); rintro e w' ⟨rfl, ⟨nd, rfl⟩⟩; (try first | exact ⟨rfl, _, World.drewN_drewN _ _ _⟩ | exact ⟨rfl, _, Eq.trans (World.drewN_drewN _ _ _) (congrArg (World.drewN _) (Nat.add_assoc _ _ _))⟩))))
   go_loopg [6] k (fun kq v6 w' => ∃ (x6_1 : Int), v6 = .int .i64 x6_1 ∧ Aside0 (laws_FnScriptJoined.l0 kq t434 x6_1 = some r) ∧ Aside0 (kq ≤ k) ∧ Aside0 (Kd.R k43 43 w' w.heap.size (fun _ => True) (.slice Ao11 t434.length co11) t434) ∧ Aside0 (Below w.heap.size w w'))
   case atStart => exact ⟨(0), (by first | rfl | (simp; done) | (simp [*]; done)), H', ⟨Nat.le_refl _⟩, ⟨by (with_reducible repeat (first | apply Kd.R_alloc | apply Kd.R_drewN | apply Kd.R_drew)); exact Kd.R_mono HO436.out (fun _ hk => trivial)⟩, ⟨by repeat (first | (with_reducible first | exact HB.out | apply below_alloc | apply pw_below_drewN | apply below_drew1) | exact HB.out)⟩⟩
   case round =>
    clear H'
    try clear c1
    try clear c2
    try clear c2b0
    try clear c2b1
    try clear p2
    try clear c7
    try clear c10
    obtain ⟨x6_1, rfl, HA, HK1, HO_5, HB⟩ := hrel
    cases gk with
    | zero => exact absurd HA.out (by simp [laws_FnScriptJoined.l0])
    | succ k1 =>
     have H := HA.out
     clear HA
     simp only [laws_FnScriptJoined.l0] at H
     by_cases c13 : x6_1 < (t434.length : Int)
     ·rw [if_pos c13] at H
      have c13b0 : decide (x6_1 < (t434.length : Int)) = true := decide_eq_true c13
      clear c13
      by_cases c14 : 0 ≤ x6_1
      ·rw [if_pos c14] at H
       have c14b0 : decide (0 ≤ x6_1) = true := decide_eq_true c14
       clear c14
       have HC15 := Aside0.mk H
       clear H
       have p441 : 0 ≤ (x6_1 : Int) := of_decide_eq_true (by first | (with_reducible assumption) | assumption)
       have q441 : x6_1 < (t434.length : Int) := of_decide_eq_true (by first | (with_reducible assumption) | assumption)
       obtain ⟨ad441, e441, hx441_0, hx441_1, hx441_2⟩ := at_T43 (Kd.R_reads' HO_5.out).2.2 x6_1 p441 q441
       cases e441
       replace p441 := eq_true p441
       replace q441 := eq_true q441
       go_upto_region 11 with (first | ((with_reducible refine gate_dst (N := 7) rfl ?_); (try (refine gate_guard (by rfl) ?_; dsimp only)); refine box_event ?hg (N := 7) ?hd (cs := #[.int .i64 0, .int .i64 0, .string (⟨#[]⟩ : ByteArray)]) (t := 43) ?hr ?_; (case hd => rfl); (case hg => rfl); (case hr => first | (go_simp; done) | (go_simp; rfl)); intro gb442 hg w16 hbox hb; have n0_ := Aside0.mk (Kd.R_below (Kd.R_elderB (by (with_reducible repeat (first | apply Kd.R_alloc | apply Kd.R_drewN | apply Kd.R_drew)); exact HO_5.out) gb442 (Nat.le_of_eq hg.symm)) hb); have n1_ := Aside0.mk (below_step (by repeat (first | (with_reducible first | exact HB.out | apply below_alloc | apply pw_below_drewN | apply below_drew1) | exact HB.out)) hb); have n2_ := Aside0.mk (hbox); have n3_ := Aside0.mk ((by rw [hg]; exact (below_size (by repeat (first | (with_reducible first | exact HB.out | apply below_alloc | apply pw_below_drewN | apply below_drew1) | exact HB.out))) : w.heap.size ≤ gb442)); have n4_ := Aside0.mk ((by rw [hg]; exact (below_size (by repeat (first | (with_reducible first | exact HB.out | apply below_alloc | apply pw_below_drewN | apply below_drew1) | exact HB.out))) : w.heap.size ≤ gb442)); clear HO_5; clear HB; have HO_5 := n0_; have HB := n1_; have BK442 := n2_; have GW442 := n3_; have GE442 := n4_; clear n0_ n1_ n2_ n3_ n4_; clear hb hbox hg; have hcz17_0 : w16.cell? ⟨gb442, 0, none⟩ = some (.int .i64 0) := (blk_cell BK442.out 0).trans rfl; have hcz17_1 : w16.cell? ⟨gb442, 1, none⟩ = some (.int .i64 0) := (blk_cell BK442.out 1).trans rfl; have hcz17_2 : w16.cell? ⟨gb442, 2, none⟩ = some (.string (⟨#[]⟩ : ByteArray)) := (blk_cell BK442.out 2).trans rfl; have hfz17_0 := blk_frozen BK442.out 0; have hfz17_1 := blk_frozen BK442.out 1; have hfz17_2 := blk_frozen BK442.out 2))
       repeat (go_quiet (first | ((with_reducible refine gate_dst (N := 7) rfl ?_); (try (refine gate_guard (by rfl) ?_; dsimp only)); refine box_event ?hg (N := 7) ?hd (cs := #[.int .i64 0, .int .i64 0, .string (⟨#[]⟩ : ByteArray)]) (t := 43) ?hr ?_; (case hd => rfl); (case hg => rfl); (case hr => first | (go_simp; done) | (go_simp; rfl)); intro gb442 hg w16 hbox hb; have n0_ := Aside0.mk (Kd.R_below (Kd.R_elderB (by (with_reducible repeat (first | apply Kd.R_alloc | apply Kd.R_drewN | apply Kd.R_drew)); exact HO_5.out) gb442 (Nat.le_of_eq hg.symm)) hb); have n1_ := Aside0.mk (below_step (by repeat (first | (with_reducible first | exact HB.out | apply below_alloc | apply pw_below_drewN | apply below_drew1) | exact HB.out)) hb); have n2_ := Aside0.mk (hbox); have n3_ := Aside0.mk ((by rw [hg]; exact (below_size (by repeat (first | (with_reducible first | exact HB.out | apply below_alloc | apply pw_below_drewN | apply below_drew1) | exact HB.out))) : w.heap.size ≤ gb442)); have n4_ := Aside0.mk ((by rw [hg]; exact (below_size (by repeat (first | (with_reducible first | exact HB.out | apply below_alloc | apply pw_below_drewN | apply below_drew1) | exact HB.out))) : w.heap.size ≤ gb442)); clear HO_5; clear HB; have HO_5 := n0_; have HB := n1_; have BK442 := n2_; have GW442 := n3_; have GE442 := n4_; clear n0_ n1_ n2_ n3_ n4_; clear hb hbox hg; have hcz17_0 : w16.cell? ⟨gb442, 0, none⟩ = some (.int .i64 0) := (blk_cell BK442.out 0).trans rfl; have hcz17_1 : w16.cell? ⟨gb442, 1, none⟩ = some (.int .i64 0) := (blk_cell BK442.out 1).trans rfl; have hcz17_2 : w16.cell? ⟨gb442, 2, none⟩ = some (.string (⟨#[]⟩ : ByteArray)) := (blk_cell BK442.out 2).trans rfl; have hfz17_0 := blk_frozen BK442.out 0; have hfz17_1 := blk_frozen BK442.out 1; have hfz17_2 := blk_frozen BK442.out 2)); go_upto_region 11 with (first | ((with_reducible refine gate_dst (N := 7) rfl ?_); (try (refine gate_guard (by rfl) ?_; dsimp only)); refine box_event ?hg (N := 7) ?hd (cs := #[.int .i64 0, .int .i64 0, .string (⟨#[]⟩ : ByteArray)]) (t := 43) ?hr ?_; (case hd => rfl); (case hg => rfl); (case hr => first | (go_simp; done) | (go_simp; rfl)); intro gb442 hg w16 hbox hb; have n0_ := Aside0.mk (Kd.R_below (Kd.R_elderB (by (with_reducible repeat (first | apply Kd.R_alloc | apply Kd.R_drewN | apply Kd.R_drew)); exact HO_5.out) gb442 (Nat.le_of_eq hg.symm)) hb); have n1_ := Aside0.mk (below_step (by repeat (first | (with_reducible first | exact HB.out | apply below_alloc | apply pw_below_drewN | apply below_drew1) | exact HB.out)) hb); have n2_ := Aside0.mk (hbox); have n3_ := Aside0.mk ((by rw [hg]; exact (below_size (by repeat (first | (with_reducible first | exact HB.out | apply below_alloc | apply pw_below_drewN | apply below_drew1) | exact HB.out))) : w.heap.size ≤ gb442)); have n4_ := Aside0.mk ((by rw [hg]; exact (below_size (by repeat (first | (with_reducible first | exact HB.out | apply below_alloc | apply pw_below_drewN | apply below_drew1) | exact HB.out))) : w.heap.size ≤ gb442)); clear HO_5; clear HB; have HO_5 := n0_; have HB := n1_; have BK442 := n2_; have GW442 := n3_; have GE442 := n4_; clear n0_ n1_ n2_ n3_ n4_; clear hb hbox hg; have hcz17_0 : w16.cell? ⟨gb442, 0, none⟩ = some (.int .i64 0) := (blk_cell BK442.out 0).trans rfl; have hcz17_1 : w16.cell? ⟨gb442, 1, none⟩ = some (.int .i64 0) := (blk_cell BK442.out 1).trans rfl; have hcz17_2 : w16.cell? ⟨gb442, 2, none⟩ = some (.string (⟨#[]⟩ : ByteArray)) := (blk_cell BK442.out 2).trans rfl; have hfz17_0 := blk_frozen BK442.out 0; have hfz17_1 := blk_frozen BK442.out 1; have hfz17_2 := blk_frozen BK442.out 2)))
       (try simp only [Act.put, List.setIfInBounds_toArray, List.set_cons_zero, List.set_cons_succ])
       go_cut [47] (fun v47 wc => ∃ (kq : Nat) (x47_14 : Bool), v47 = .bool x47_14 ∧ Aside0 (laws_FnScriptJoined.j1 kq t434 x6_1 x47_14 ((rd_T43 t434 x6_1).f0) ((rd_T43 t434 x6_1).f1) ((rd_T43 t434 x6_1).f2) = some r) ∧ Aside0 (kq ≤ k1) ∧ Aside0 (Kd.R k43 43 wc w.heap.size (fun k_ => k_ ≠ gb442) (.slice (some ad441) t434.length co11) t434) ∧ Aside0 (wc.heap[gb442]? = some (.cells #[.int .i64 ((rd_T43 t434 x6_1).f0), .int .i64 ((rd_T43 t434 x6_1).f1), .string ((rd_T43 t434 x6_1).f2)] 43 (0, 0))) ∧ Aside0 (Below w.heap.size w wc))
       case first =>
        have H := HC15.out
        clear HC15
        by_cases c18 : ((rd_T43 t434 x6_1).f2).toList = ([] : List UInt8)
        ·rw [if_pos c18] at H
         have c18b0 : (((rd_T43 t434 x6_1).f2).toList == ([] : List UInt8)) = true := beq_iff_eq.mpr c18
         have c18b1 : (((rd_T43 t434 x6_1).f2).toList != ([] : List UInt8)) = false := bne_eq_false_iff_eq.mpr c18
         clear c18
         (first | rw [c18b0] | (simp only [i64_w, i32_w]; rw [c18b0]) | skip)
         have H' := Aside0.mk H
         clear H
         have hcz19_0 : w16.cell? ⟨gb442, 0, none⟩ = some (.int .i64 0) := (blk_cell BK442.out 0).trans rfl
         have hcz19_1 : w16.cell? ⟨gb442, 1, none⟩ = some (.int .i64 0) := (blk_cell BK442.out 1).trans rfl
         have hcz19_2 : w16.cell? ⟨gb442, 2, none⟩ = some (.string (⟨#[]⟩ : ByteArray)) := (blk_cell BK442.out 2).trans rfl
         have hfz19_0 := blk_frozen BK442.out 0
         have hfz19_1 := blk_frozen BK442.out 1
         have hfz19_2 := blk_frozen BK442.out 2
         go_wp2
         repeat (go_quiet (fail); try go_wp2)
         go_meet
         case rel => exact ⟨_, (true), (by first | rfl | (simp; done) | (simp [*]; done)), H', ⟨by have := HK1.out; first | omega | exact Nat.le_refl _⟩, ⟨by (with_reducible repeat (first | apply Kd.R_alloc | apply Kd.R_drewN | apply Kd.R_drew)); exact Kd.R_mono (Kd.R_far (p := ⟨gb442, 2, none⟩) (Kd.R_far (p := ⟨gb442, 1, none⟩) (Kd.R_far (p := ⟨gb442, 0, none⟩) (Kd.R_mono HO_5.out (fun k_ hk => (⟨hk, hk.2⟩ : _ ∧ k_ ≠ gb442))) (fun _ hk => hk.2) (.int .i64 ((rd_T43 t434 x6_1).f0))) (fun _ hk => hk.2) (.int .i64 ((rd_T43 t434 x6_1).f1))) (fun _ hk => hk.2) (.string ((rd_T43 t434 x6_1).f2))) (fun _ hk => hk.1.2)⟩, ⟨by (with_reducible repeat (first | refine blk_drewN ?_ _ | refine blk_drew ?_ | refine blk_alloc ?_ _)); refine blk_put (cs := #[.int .i64 ((rd_T43 t434 x6_1).f0), .int .i64 ((rd_T43 t434 x6_1).f1), .string (⟨#[]⟩ : ByteArray)]) ?_ 2 _ rfl; (with_reducible repeat (first | refine blk_drewN ?_ _ | refine blk_drew ?_ | refine blk_alloc ?_ _)); refine blk_put (cs := #[.int .i64 ((rd_T43 t434 x6_1).f0), .int .i64 0, .string (⟨#[]⟩ : ByteArray)]) ?_ 1 _ rfl; (with_reducible repeat (first | refine blk_drewN ?_ _ | refine blk_drew ?_ | refine blk_alloc ?_ _)); refine blk_put (cs := #[.int .i64 0, .int .i64 0, .string (⟨#[]⟩ : ByteArray)]) ?_ 0 _ rfl; (with_reducible repeat (first | refine blk_drewN ?_ _ | refine blk_drew ?_ | refine blk_alloc ?_ _)); exact BK442.out⟩, ⟨by repeat (first | (with_reducible first | exact HB.out | apply below_alloc | apply pw_below_drewN | apply below_drew1 | refine below_set ?_ GE442.out) | exact HB.out)⟩⟩
        ·rw [if_neg c18] at H
         have c18b0 : (((rd_T43 t434 x6_1).f2).toList == ([] : List UInt8)) = false := beq_eq_false_iff_ne.mpr c18
         have c18b1 : (((rd_T43 t434 x6_1).f2).toList != ([] : List UInt8)) = true := bne_iff_ne.mpr c18
         (first | rw [c18b0] | (simp only [i64_w, i32_w]; rw [c18b0]) | skip)
         by_cases c20 : ((rd_T43 t434 x6_1).f0) = 1
         ·rw [if_pos c20] at H
          have c20b0 : (((rd_T43 t434 x6_1).f0) == 1) = true := beq_iff_eq.mpr c20
          have c20b1 : (((rd_T43 t434 x6_1).f0) != 1) = false := bne_eq_false_iff_eq.mpr c20
          clear c20
          have H' := Aside0.mk H
          clear H
          have hcz21_0 : w16.cell? ⟨gb442, 0, none⟩ = some (.int .i64 0) := (blk_cell BK442.out 0).trans rfl
          have hcz21_1 : w16.cell? ⟨gb442, 1, none⟩ = some (.int .i64 0) := (blk_cell BK442.out 1).trans rfl
          have hcz21_2 : w16.cell? ⟨gb442, 2, none⟩ = some (.string (⟨#[]⟩ : ByteArray)) := (blk_cell BK442.out 2).trans rfl
          have hfz21_0 := blk_frozen BK442.out 0
          have hfz21_1 := blk_frozen BK442.out 1
          have hfz21_2 := blk_frozen BK442.out 2
          go_wp2
          repeat (go_quiet (fail); try go_wp2)
          go_meet
          case rel => exact ⟨_, (false), (by first | rfl | (simp; done) | (simp [*]; done)), H', ⟨by have := HK1.out; first | omega | exact Nat.le_refl _⟩, ⟨by (with_reducible repeat (first | apply Kd.R_alloc | apply Kd.R_drewN | apply Kd.R_drew)); exact Kd.R_mono (Kd.R_far (p := ⟨gb442, 2, none⟩) (Kd.R_far (p := ⟨gb442, 1, none⟩) (Kd.R_far (p := ⟨gb442, 0, none⟩) (Kd.R_mono HO_5.out (fun k_ hk => (⟨hk, hk.2⟩ : _ ∧ k_ ≠ gb442))) (fun _ hk => hk.2) (.int .i64 ((rd_T43 t434 x6_1).f0))) (fun _ hk => hk.2) (.int .i64 ((rd_T43 t434 x6_1).f1))) (fun _ hk => hk.2) (.string ((rd_T43 t434 x6_1).f2))) (fun _ hk => hk.1.2)⟩, ⟨by (with_reducible repeat (first | refine blk_drewN ?_ _ | refine blk_drew ?_ | refine blk_alloc ?_ _)); refine blk_put (cs := #[.int .i64 ((rd_T43 t434 x6_1).f0), .int .i64 ((rd_T43 t434 x6_1).f1), .string (⟨#[]⟩ : ByteArray)]) ?_ 2 _ rfl; (with_reducible repeat (first | refine blk_drewN ?_ _ | refine blk_drew ?_ | refine blk_alloc ?_ _)); refine blk_put (cs := #[.int .i64 ((rd_T43 t434 x6_1).f0), .int .i64 0, .string (⟨#[]⟩ : ByteArray)]) ?_ 1 _ rfl; (with_reducible repeat (first | refine blk_drewN ?_ _ | refine blk_drew ?_ | refine blk_alloc ?_ _)); refine blk_put (cs := #[.int .i64 0, .int .i64 0, .string (⟨#[]⟩ : ByteArray)]) ?_ 0 _ rfl; (with_reducible repeat (first | refine blk_drewN ?_ _ | refine blk_drew ?_ | refine blk_alloc ?_ _)); exact BK442.out⟩, ⟨by repeat (first | (with_reducible first | exact HB.out | apply below_alloc | apply pw_below_drewN | apply below_drew1 | refine below_set ?_ GE442.out) | exact HB.out)⟩⟩
         ·rw [if_neg c20] at H
          have c20b0 : (((rd_T43 t434 x6_1).f0) == 1) = false := beq_eq_false_iff_ne.mpr c20
          have c20b1 : (((rd_T43 t434 x6_1).f0) != 1) = true := bne_iff_ne.mpr c20
          have H' := Aside0.mk H
          clear H
          have hcz22_0 : w16.cell? ⟨gb442, 0, none⟩ = some (.int .i64 0) := (blk_cell BK442.out 0).trans rfl
          have hcz22_1 : w16.cell? ⟨gb442, 1, none⟩ = some (.int .i64 0) := (blk_cell BK442.out 1).trans rfl
          have hcz22_2 : w16.cell? ⟨gb442, 2, none⟩ = some (.string (⟨#[]⟩ : ByteArray)) := (blk_cell BK442.out 2).trans rfl
          have hfz22_0 := blk_frozen BK442.out 0
          have hfz22_1 := blk_frozen BK442.out 1
          have hfz22_2 := blk_frozen BK442.out 2
          go_wp2
          repeat (go_quiet (fail); try go_wp2)
          go_meet
          case rel => exact ⟨_, ((((rd_T43 t434 x6_1).f0) != 2)), (by first | rfl | (simp; done) | (simp [*]; done)), H', ⟨by have := HK1.out; first | omega | exact Nat.le_refl _⟩, ⟨by (with_reducible repeat (first | apply Kd.R_alloc | apply Kd.R_drewN | apply Kd.R_drew)); exact Kd.R_mono (Kd.R_far (p := ⟨gb442, 2, none⟩) (Kd.R_far (p := ⟨gb442, 1, none⟩) (Kd.R_far (p := ⟨gb442, 0, none⟩) (Kd.R_mono HO_5.out (fun k_ hk => (⟨hk, hk.2⟩ : _ ∧ k_ ≠ gb442))) (fun _ hk => hk.2) (.int .i64 ((rd_T43 t434 x6_1).f0))) (fun _ hk => hk.2) (.int .i64 ((rd_T43 t434 x6_1).f1))) (fun _ hk => hk.2) (.string ((rd_T43 t434 x6_1).f2))) (fun _ hk => hk.1.2)⟩, ⟨by (with_reducible repeat (first | refine blk_drewN ?_ _ | refine blk_drew ?_ | refine blk_alloc ?_ _)); refine blk_put (cs := #[.int .i64 ((rd_T43 t434 x6_1).f0), .int .i64 ((rd_T43 t434 x6_1).f1), .string (⟨#[]⟩ : ByteArray)]) ?_ 2 _ rfl; (with_reducible repeat (first | refine blk_drewN ?_ _ | refine blk_drew ?_ | refine blk_alloc ?_ _)); refine blk_put (cs := #[.int .i64 ((rd_T43 t434 x6_1).f0), .int .i64 0, .string (⟨#[]⟩ : ByteArray)]) ?_ 1 _ rfl; (with_reducible repeat (first | refine blk_drewN ?_ _ | refine blk_drew ?_ | refine blk_alloc ?_ _)); refine blk_put (cs := #[.int .i64 0, .int .i64 0, .string (⟨#[]⟩ : ByteArray)]) ?_ 0 _ rfl; (with_reducible repeat (first | refine blk_drewN ?_ _ | refine blk_drew ?_ | refine blk_alloc ?_ _)); exact BK442.out⟩, ⟨by repeat (first | (with_reducible first | exact HB.out | apply below_alloc | apply pw_below_drewN | apply below_drew1 | refine below_set ?_ GE442.out) | exact HB.out)⟩⟩
       case rest =>
        clear HC15
        try clear c1
        try clear c2
        try clear c2b0
        try clear c2b1
        try clear p2
        try clear p4
        try clear q4
        try clear hx4
        try clear c7
        try clear c10
        try clear c13
        try clear c13b0
        try clear c14
        try clear c14b0
        try clear c18
        try clear c18b0
        try clear c18b1
        try clear c20
        try clear c20b0
        try clear c20b1
        try clear hcz17_0
        try clear hcz17_1
        try clear hcz17_2
        try clear hcz19_0
        try clear hcz19_1
        try clear hcz19_2
        try clear hcz21_0
        try clear hcz21_1
        try clear hcz21_2
        try clear hcz22_0
        try clear hcz22_1
        try clear hcz22_2
        try clear hfz17_0
        try clear hfz17_1
        try clear hfz17_2
        try clear hfz19_0
        try clear hfz19_1
        try clear hfz19_2
        try clear hfz21_0
        try clear hfz21_1
        try clear hfz21_2
        try clear hfz22_0
        try clear hfz22_1
        try clear hfz22_2
        try clear hx441_0
        try clear hx441_1
        try clear hx441_2
        try clear p2
        try clear p441
        try clear q441
        obtain ⟨kq, x47_14, rfl, HA, HJ14, HO_5, BK442, HB⟩ := hcut
        cases kq with
        | zero => exact absurd HA.out (by simp [laws_FnScriptJoined.j1])
        | succ kj14 =>
         have H := HA.out
         clear HA
         simp only [laws_FnScriptJoined.j1] at H
         by_cases c23 : x47_14 = true
         ·subst c23
          have H1 : (some false) = some r := by rw [if_pos rfl] at H; exact H
          clear H
          have H := H1
          clear H1
          obtain rfl := Option.some.inj H
          go_wp2
          repeat (go_quiet (fail); try go_wp2)
          go_ret
          exact ⟨by first | rfl | (simp [errW_none, errW_some] <;> rfl) | (simp [*, errW_none, errW_some] <;> rfl), by repeat (first | (with_reducible first | exact HB.out | apply below_alloc | apply pw_below_drewN | apply below_drew1 | refine below_set ?_ GE442.out) | exact HB.out)⟩
         ·replace c23 := Bool.eq_false_iff.mpr c23
          subst c23
          have H1 : (if x6_1 > 0 then (if 0 ≤ (wrap64 (x6_1 - 1)) then (if (wrap64 (x6_1 - 1)) < (t434.length : Int) then (if ((rd_T43 t434 (wrap64 (x6_1 - 1))).f0) = ((rd_T43 t434 x6_1).f0) then (if ((rd_T43 t434 x6_1).f0) = 2 then (if ((rd_T43 t434 (wrap64 (x6_1 - 1))).f1) = ((rd_T43 t434 x6_1).f1) then (some false) else (if ((rd_T43 t434 x6_1).f0) = 1 then (if (wrap64 (((rd_T43 t434 (wrap64 (x6_1 - 1))).f1) + (((rd_T43 t434 (wrap64 (x6_1 - 1))).f2).size : Int))) = ((rd_T43 t434 x6_1).f1) then (some false) else (laws_FnScriptJoined.l0 kj14 t434 (wrap64 (x6_1 + 1)))) else (laws_FnScriptJoined.l0 kj14 t434 (wrap64 (x6_1 + 1))))) else (if ((rd_T43 t434 x6_1).f0) = 1 then (if (wrap64 (((rd_T43 t434 (wrap64 (x6_1 - 1))).f1) + (((rd_T43 t434 (wrap64 (x6_1 - 1))).f2).size : Int))) = ((rd_T43 t434 x6_1).f1) then (some false) else (laws_FnScriptJoined.l0 kj14 t434 (wrap64 (x6_1 + 1)))) else (laws_FnScriptJoined.l0 kj14 t434 (wrap64 (x6_1 + 1))))) else (laws_FnScriptJoined.l0 kj14 t434 (wrap64 (x6_1 + 1)))) else (none)) else (none)) else (laws_FnScriptJoined.l0 kj14 t434 (wrap64 (x6_1 + 1)))) = some r := by rw [if_neg (show ¬ (false = true) by decide)] at H; exact H
          clear H
          have H := H1
          clear H1
          by_cases c24 : x6_1 > 0
          ·rw [if_pos c24] at H
           have c24b0 : decide (0 < x6_1) = true := decide_eq_true c24
           clear c24
           obtain ⟨ji25, hji25⟩ : ∃ j_ : Int, (wrap64 (x6_1 - 1)) = j_ := ⟨_, rfl⟩
           replace H : (if 0 ≤ (ji25) then (if (ji25) < (t434.length : Int) then (if ((rd_T43 t434 (ji25)).f0) = ((rd_T43 t434 x6_1).f0) then (if ((rd_T43 t434 x6_1).f0) = 2 then (if ((rd_T43 t434 (ji25)).f1) = ((rd_T43 t434 x6_1).f1) then (some false) else (if ((rd_T43 t434 x6_1).f0) = 1 then (if (wrap64 (((rd_T43 t434 (ji25)).f1) + (((rd_T43 t434 (ji25)).f2).size : Int))) = ((rd_T43 t434 x6_1).f1) then (some false) else (laws_FnScriptJoined.l0 kj14 t434 (wrap64 (x6_1 + 1)))) else (laws_FnScriptJoined.l0 kj14 t434 (wrap64 (x6_1 + 1))))) else (if ((rd_T43 t434 x6_1).f0) = 1 then (if (wrap64 (((rd_T43 t434 (ji25)).f1) + (((rd_T43 t434 (ji25)).f2).size : Int))) = ((rd_T43 t434 x6_1).f1) then (some false) else (laws_FnScriptJoined.l0 kj14 t434 (wrap64 (x6_1 + 1)))) else (laws_FnScriptJoined.l0 kj14 t434 (wrap64 (x6_1 + 1))))) else (laws_FnScriptJoined.l0 kj14 t434 (wrap64 (x6_1 + 1)))) else (none)) else (none)) = some r := by first | (rw [hji25] at H; exact H) | (simp only [hji25] at H ⊢; exact H)
           have hji25w : (IntKind.i64.wrap (x6_1 - 1)) = ji25 := (i64_w _).trans hji25
           by_cases c26 : 0 ≤ (ji25)
           ·rw [if_pos c26] at H
            have c26b0 : decide (0 ≤ (ji25)) = true := decide_eq_true c26
            clear c26
            by_cases c27 : (ji25) < (t434.length : Int)
            ·rw [if_pos c27] at H
             have c27b0 : decide ((ji25) < (t434.length : Int)) = true := decide_eq_true c27
             clear c27
             by_cases c28 : ((rd_T43 t434 (ji25)).f0) = ((rd_T43 t434 x6_1).f0)
             ·rw [if_pos c28] at H
              have c28b0 : (((rd_T43 t434 (ji25)).f0) == ((rd_T43 t434 x6_1).f0)) = true := beq_iff_eq.mpr c28
              have c28b1 : (((rd_T43 t434 (ji25)).f0) != ((rd_T43 t434 x6_1).f0)) = false := bne_eq_false_iff_eq.mpr c28
              clear c28
              by_cases c29 : ((rd_T43 t434 x6_1).f0) = 2
              ·rw [if_pos c29] at H
               have c29b0 : (((rd_T43 t434 x6_1).f0) == 2) = true := beq_iff_eq.mpr c29
               have c29b1 : (((rd_T43 t434 x6_1).f0) != 2) = false := bne_eq_false_iff_eq.mpr c29
               clear c29
               by_cases c30 : ((rd_T43 t434 (ji25)).f1) = ((rd_T43 t434 x6_1).f1)
               ·rw [if_pos c30] at H
                have c30b0 : (((rd_T43 t434 (ji25)).f1) == ((rd_T43 t434 x6_1).f1)) = true := beq_iff_eq.mpr c30
                have c30b1 : (((rd_T43 t434 (ji25)).f1) != ((rd_T43 t434 x6_1).f1)) = false := bne_eq_false_iff_eq.mpr c30
                clear c30
                obtain rfl := Option.some.inj H
                have p443 : 0 ≤ ((ji25) : Int) := of_decide_eq_true (by first | (with_reducible assumption) | assumption)
                have q443 : (ji25) < (t434.length : Int) := of_decide_eq_true (by first | (with_reducible assumption) | assumption)
                obtain ⟨ad443, e443, hx443_0, hx443_1, hx443_2⟩ := at_T43 (Kd.R_reads' HO_5.out).2.2 (ji25) p443 q443
                obtain rfl : ad441 = ad443 := (by injection e443)
                replace p443 := eq_true p443
                replace q443 := eq_true q443
                have hcz31_0 : wc.cell? ⟨gb442, 0, none⟩ = some (.int .i64 ((rd_T43 t434 x6_1).f0)) := (blk_cell BK442.out 0).trans rfl
                have hcz31_1 : wc.cell? ⟨gb442, 1, none⟩ = some (.int .i64 ((rd_T43 t434 x6_1).f1)) := (blk_cell BK442.out 1).trans rfl
                have hcz31_2 : wc.cell? ⟨gb442, 2, none⟩ = some (.string ((rd_T43 t434 x6_1).f2)) := (blk_cell BK442.out 2).trans rfl
                have hfz31_0 := blk_frozen BK442.out 0
                have hfz31_1 := blk_frozen BK442.out 1
                have hfz31_2 := blk_frozen BK442.out 2
                have p444 : 0 ≤ ((ji25) : Int) := of_decide_eq_true (by first | (with_reducible assumption) | assumption)
                have q444 : (ji25) < (t434.length : Int) := of_decide_eq_true (by first | (with_reducible assumption) | assumption)
                obtain ⟨ad444, e444, hx444_0, hx444_1, hx444_2⟩ := at_T43 (Kd.R_reads' HO_5.out).2.2 (ji25) p444 q444
                obtain rfl : ad441 = ad444 := (by injection e444)
                replace p444 := eq_true p444
                replace q444 := eq_true q444
                go_wp2
                repeat (go_quiet (fail); try go_wp2)
                go_ret
                exact ⟨by first | rfl | (simp [errW_none, errW_some] <;> rfl) | (simp only [← hji25]; first | rfl | (simp [errW_none, errW_some] <;> rfl)) | (simp [*, errW_none, errW_some] <;> rfl), by repeat (first | (with_reducible first | exact HB.out | apply below_alloc | apply pw_below_drewN | apply below_drew1 | refine below_set ?_ GE442.out) | exact HB.out)⟩
               ·rw [if_neg c30] at H
                have c30b0 : (((rd_T43 t434 (ji25)).f1) == ((rd_T43 t434 x6_1).f1)) = false := beq_eq_false_iff_ne.mpr c30
                have c30b1 : (((rd_T43 t434 (ji25)).f1) != ((rd_T43 t434 x6_1).f1)) = true := bne_iff_ne.mpr c30
                by_cases c32 : ((rd_T43 t434 x6_1).f0) = 1
                ·rw [if_pos c32] at H
                 have c32b0 : (((rd_T43 t434 x6_1).f0) == 1) = true := beq_iff_eq.mpr c32
                 have c32b1 : (((rd_T43 t434 x6_1).f0) != 1) = false := bne_eq_false_iff_eq.mpr c32
                 clear c32
                 by_cases c33 : (wrap64 (((rd_T43 t434 (ji25)).f1) + (((rd_T43 t434 (ji25)).f2).size : Int))) = ((rd_T43 t434 x6_1).f1)
                 ·rw [if_pos c33] at H
                  have c33b0 : ((wrap64 (((rd_T43 t434 (ji25)).f1) + (((rd_T43 t434 (ji25)).f2).size : Int))) == ((rd_T43 t434 x6_1).f1)) = true := beq_iff_eq.mpr c33
                  have c33b1 : ((wrap64 (((rd_T43 t434 (ji25)).f1) + (((rd_T43 t434 (ji25)).f2).size : Int))) != ((rd_T43 t434 x6_1).f1)) = false := bne_eq_false_iff_eq.mpr c33
                  clear c33
                  obtain rfl := Option.some.inj H
                  have p443 : 0 ≤ ((ji25) : Int) := of_decide_eq_true (by first | (with_reducible assumption) | assumption)
                  have q443 : (ji25) < (t434.length : Int) := of_decide_eq_true (by first | (with_reducible assumption) | assumption)
                  obtain ⟨ad443, e443, hx443_0, hx443_1, hx443_2⟩ := at_T43 (Kd.R_reads' HO_5.out).2.2 (ji25) p443 q443
                  obtain rfl : ad441 = ad443 := (by injection e443)
                  replace p443 := eq_true p443
                  replace q443 := eq_true q443
                  have hcz34_0 : wc.cell? ⟨gb442, 0, none⟩ = some (.int .i64 ((rd_T43 t434 x6_1).f0)) := (blk_cell BK442.out 0).trans rfl
                  have hcz34_1 : wc.cell? ⟨gb442, 1, none⟩ = some (.int .i64 ((rd_T43 t434 x6_1).f1)) := (blk_cell BK442.out 1).trans rfl
                  have hcz34_2 : wc.cell? ⟨gb442, 2, none⟩ = some (.string ((rd_T43 t434 x6_1).f2)) := (blk_cell BK442.out 2).trans rfl
                  have hfz34_0 := blk_frozen BK442.out 0
                  have hfz34_1 := blk_frozen BK442.out 1
                  have hfz34_2 := blk_frozen BK442.out 2
                  have p444 : 0 ≤ ((ji25) : Int) := of_decide_eq_true (by first | (with_reducible assumption) | assumption)
                  have q444 : (ji25) < (t434.length : Int) := of_decide_eq_true (by first | (with_reducible assumption) | assumption)
                  obtain ⟨ad444, e444, hx444_0, hx444_1, hx444_2⟩ := at_T43 (Kd.R_reads' HO_5.out).2.2 (ji25) p444 q444
                  obtain rfl : ad441 = ad444 := (by injection e444)
                  replace p444 := eq_true p444
                  replace q444 := eq_true q444
                  have p445 : 0 ≤ ((ji25) : Int) := of_decide_eq_true (by first | (with_reducible assumption) | assumption)
                  have q445 : (ji25) < (t434.length : Int) := of_decide_eq_true (by first | (with_reducible assumption) | assumption)
                  obtain ⟨ad445, e445, hx445_0, hx445_1, hx445_2⟩ := at_T43 (Kd.R_reads' HO_5.out).2.2 (ji25) p445 q445
                  obtain rfl : ad441 = ad445 := (by injection e445)
                  replace p445 := eq_true p445
                  replace q445 := eq_true q445
                  have p446 : 0 ≤ ((ji25) : Int) := of_decide_eq_true (by first | (with_reducible assumption) | assumption)
                  have q446 : (ji25) < (t434.length : Int) := of_decide_eq_true (by first | (with_reducible assumption) | assumption)
                  obtain ⟨ad446, e446, hx446_0, hx446_1, hx446_2⟩ := at_T43 (Kd.R_reads' HO_5.out).2.2 (ji25) p446 q446
                  obtain rfl : ad441 = ad446 := (by injection e446)
                  replace p446 := eq_true p446
                  replace q446 := eq_true q446
                  go_wp2
                  repeat (go_quiet (fail); try go_wp2)
                  go_ret
                  exact ⟨by first | rfl | (simp [errW_none, errW_some] <;> rfl) | (simp only [← hji25]; first | rfl | (simp [errW_none, errW_some] <;> rfl)) | (simp [*, errW_none, errW_some] <;> rfl), by repeat (first | (with_reducible first | exact HB.out | apply below_alloc | apply pw_below_drewN | apply below_drew1 | refine below_set ?_ GE442.out) | exact HB.out)⟩
                 ·rw [if_neg c33] at H
                  have c33b0 : ((wrap64 (((rd_T43 t434 (ji25)).f1) + (((rd_T43 t434 (ji25)).f2).size : Int))) == ((rd_T43 t434 x6_1).f1)) = false := beq_eq_false_iff_ne.mpr c33
                  have c33b1 : ((wrap64 (((rd_T43 t434 (ji25)).f1) + (((rd_T43 t434 (ji25)).f2).size : Int))) != ((rd_T43 t434 x6_1).f1)) = true := bne_iff_ne.mpr c33
                  have H' := Aside0.mk H
                  clear H
                  have p443 : 0 ≤ ((ji25) : Int) := of_decide_eq_true (by first | (with_reducible assumption) | assumption)
                  have q443 : (ji25) < (t434.length : Int) := of_decide_eq_true (by first | (with_reducible assumption) | assumption)
                  obtain ⟨ad443, e443, hx443_0, hx443_1, hx443_2⟩ := at_T43 (Kd.R_reads' HO_5.out).2.2 (ji25) p443 q443
                  obtain rfl : ad441 = ad443 := (by injection e443)
                  replace p443 := eq_true p443
                  replace q443 := eq_true q443
                  have hcz35_0 : wc.cell? ⟨gb442, 0, none⟩ = some (.int .i64 ((rd_T43 t434 x6_1).f0)) := (blk_cell BK442.out 0).trans rfl
                  have hcz35_1 : wc.cell? ⟨gb442, 1, none⟩ = some (.int .i64 ((rd_T43 t434 x6_1).f1)) := (blk_cell BK442.out 1).trans rfl
                  have hcz35_2 : wc.cell? ⟨gb442, 2, none⟩ = some (.string ((rd_T43 t434 x6_1).f2)) := (blk_cell BK442.out 2).trans rfl
                  have hfz35_0 := blk_frozen BK442.out 0
                  have hfz35_1 := blk_frozen BK442.out 1
                  have hfz35_2 := blk_frozen BK442.out 2
                  have p444 : 0 ≤ ((ji25) : Int) := of_decide_eq_true (by first | (with_reducible assumption) | assumption)
                  have q444 : (ji25) < (t434.length : Int) := of_decide_eq_true (by first | (with_reducible assumption) | assumption)
                  obtain ⟨ad444, e444, hx444_0, hx444_1, hx444_2⟩ := at_T43 (Kd.R_reads' HO_5.out).2.2 (ji25) p444 q444
                  obtain rfl : ad441 = ad444 := (by injection e444)
                  replace p444 := eq_true p444
                  replace q444 := eq_true q444
                  have p445 : 0 ≤ ((ji25) : Int) := of_decide_eq_true (by first | (with_reducible assumption) | assumption)
                  have q445 : (ji25) < (t434.length : Int) := of_decide_eq_true (by first | (with_reducible assumption) | assumption)
                  obtain ⟨ad445, e445, hx445_0, hx445_1, hx445_2⟩ := at_T43 (Kd.R_reads' HO_5.out).2.2 (ji25) p445 q445
                  obtain rfl : ad441 = ad445 := (by injection e445)
                  replace p445 := eq_true p445
                  replace q445 := eq_true q445
                  have p446 : 0 ≤ ((ji25) : Int) := of_decide_eq_true (by first | (with_reducible assumption) | assumption)
                  have q446 : (ji25) < (t434.length : Int) := of_decide_eq_true (by first | (with_reducible assumption) | assumption)
                  obtain ⟨ad446, e446, hx446_0, hx446_1, hx446_2⟩ := at_T43 (Kd.R_reads' HO_5.out).2.2 (ji25) p446 q446
                  obtain rfl : ad441 = ad446 := (by injection e446)
                  replace p446 := eq_true p446
                  replace q446 := eq_true q446
                  go_wp2
                  repeat (go_quiet (fail); try go_wp2)
                  go_roundg kj14
                  case measure => have := HK1.out; have := HJ14.out; omega
                  case rel => exact ⟨(wrap64 (x6_1 + 1)), (by first | rfl | (simp; done) | (simp [*]; done)), H', ⟨by have := HK1.out; have := HJ14.out; omega⟩, ⟨by (with_reducible repeat (first | apply Kd.R_alloc | apply Kd.R_drewN | apply Kd.R_drew)); exact Kd.R_mono HO_5.out (fun _ hk => trivial)⟩, ⟨by repeat (first | (with_reducible first | exact HB.out | apply below_alloc | apply pw_below_drewN | apply below_drew1 | refine below_set ?_ GE442.out) | exact HB.out)⟩⟩
                ·rw [if_neg c32] at H
                 have c32b0 : (((rd_T43 t434 x6_1).f0) == 1) = false := beq_eq_false_iff_ne.mpr c32
                 have c32b1 : (((rd_T43 t434 x6_1).f0) != 1) = true := bne_iff_ne.mpr c32
                 have H' := Aside0.mk H
                 clear H
                 have p443 : 0 ≤ ((ji25) : Int) := of_decide_eq_true (by first | (with_reducible assumption) | assumption)
                 have q443 : (ji25) < (t434.length : Int) := of_decide_eq_true (by first | (with_reducible assumption) | assumption)
                 obtain ⟨ad443, e443, hx443_0, hx443_1, hx443_2⟩ := at_T43 (Kd.R_reads' HO_5.out).2.2 (ji25) p443 q443
                 obtain rfl : ad441 = ad443 := (by injection e443)
                 replace p443 := eq_true p443
                 replace q443 := eq_true q443
                 have hcz36_0 : wc.cell? ⟨gb442, 0, none⟩ = some (.int .i64 ((rd_T43 t434 x6_1).f0)) := (blk_cell BK442.out 0).trans rfl
                 have hcz36_1 : wc.cell? ⟨gb442, 1, none⟩ = some (.int .i64 ((rd_T43 t434 x6_1).f1)) := (blk_cell BK442.out 1).trans rfl
                 have hcz36_2 : wc.cell? ⟨gb442, 2, none⟩ = some (.string ((rd_T43 t434 x6_1).f2)) := (blk_cell BK442.out 2).trans rfl
                 have hfz36_0 := blk_frozen BK442.out 0
                 have hfz36_1 := blk_frozen BK442.out 1
                 have hfz36_2 := blk_frozen BK442.out 2
                 have p444 : 0 ≤ ((ji25) : Int) := of_decide_eq_true (by first | (with_reducible assumption) | assumption)
                 have q444 : (ji25) < (t434.length : Int) := of_decide_eq_true (by first | (with_reducible assumption) | assumption)
                 obtain ⟨ad444, e444, hx444_0, hx444_1, hx444_2⟩ := at_T43 (Kd.R_reads' HO_5.out).2.2 (ji25) p444 q444
                 obtain rfl : ad441 = ad444 := (by injection e444)
                 replace p444 := eq_true p444
                 replace q444 := eq_true q444
                 go_wp2
                 repeat (go_quiet (fail); try go_wp2)
                 go_roundg kj14
                 case measure => have := HK1.out; have := HJ14.out; omega
                 case rel => exact ⟨(wrap64 (x6_1 + 1)), (by first | rfl | (simp; done) | (simp [*]; done)), H', ⟨by have := HK1.out; have := HJ14.out; omega⟩, ⟨by (with_reducible repeat (first | apply Kd.R_alloc | apply Kd.R_drewN | apply Kd.R_drew)); exact Kd.R_mono HO_5.out (fun _ hk => trivial)⟩, ⟨by repeat (first | (with_reducible first | exact HB.out | apply below_alloc | apply pw_below_drewN | apply below_drew1 | refine below_set ?_ GE442.out) | exact HB.out)⟩⟩
              ·rw [if_neg c29] at H
               have c29b0 : (((rd_T43 t434 x6_1).f0) == 2) = false := beq_eq_false_iff_ne.mpr c29
               have c29b1 : (((rd_T43 t434 x6_1).f0) != 2) = true := bne_iff_ne.mpr c29
               by_cases c37 : ((rd_T43 t434 x6_1).f0) = 1
               ·rw [if_pos c37] at H
                have c37b0 : (((rd_T43 t434 x6_1).f0) == 1) = true := beq_iff_eq.mpr c37
                have c37b1 : (((rd_T43 t434 x6_1).f0) != 1) = false := bne_eq_false_iff_eq.mpr c37
                clear c37
                by_cases c38 : (wrap64 (((rd_T43 t434 (ji25)).f1) + (((rd_T43 t434 (ji25)).f2).size : Int))) = ((rd_T43 t434 x6_1).f1)
                ·rw [if_pos c38] at H
                 have c38b0 : ((wrap64 (((rd_T43 t434 (ji25)).f1) + (((rd_T43 t434 (ji25)).f2).size : Int))) == ((rd_T43 t434 x6_1).f1)) = true := beq_iff_eq.mpr c38
                 have c38b1 : ((wrap64 (((rd_T43 t434 (ji25)).f1) + (((rd_T43 t434 (ji25)).f2).size : Int))) != ((rd_T43 t434 x6_1).f1)) = false := bne_eq_false_iff_eq.mpr c38
                 clear c38
                 obtain rfl := Option.some.inj H
                 have p443 : 0 ≤ ((ji25) : Int) := of_decide_eq_true (by first | (with_reducible assumption) | assumption)
                 have q443 : (ji25) < (t434.length : Int) := of_decide_eq_true (by first | (with_reducible assumption) | assumption)
                 obtain ⟨ad443, e443, hx443_0, hx443_1, hx443_2⟩ := at_T43 (Kd.R_reads' HO_5.out).2.2 (ji25) p443 q443
                 obtain rfl : ad441 = ad443 := (by injection e443)
                 replace p443 := eq_true p443
                 replace q443 := eq_true q443
                 have hcz39_0 : wc.cell? ⟨gb442, 0, none⟩ = some (.int .i64 ((rd_T43 t434 x6_1).f0)) := (blk_cell BK442.out 0).trans rfl
                 have hcz39_1 : wc.cell? ⟨gb442, 1, none⟩ = some (.int .i64 ((rd_T43 t434 x6_1).f1)) := (blk_cell BK442.out 1).trans rfl
                 have hcz39_2 : wc.cell? ⟨gb442, 2, none⟩ = some (.string ((rd_T43 t434 x6_1).f2)) := (blk_cell BK442.out 2).trans rfl
                 have hfz39_0 := blk_frozen BK442.out 0
                 have hfz39_1 := blk_frozen BK442.out 1
                 have hfz39_2 := blk_frozen BK442.out 2
                 have p447 : 0 ≤ ((ji25) : Int) := of_decide_eq_true (by first | (with_reducible assumption) | assumption)
                 have q447 : (ji25) < (t434.length : Int) := of_decide_eq_true (by first | (with_reducible assumption) | assumption)
                 obtain ⟨ad447, e447, hx447_0, hx447_1, hx447_2⟩ := at_T43 (Kd.R_reads' HO_5.out).2.2 (ji25) p447 q447
                 obtain rfl : ad441 = ad447 := (by injection e447)
                 replace p447 := eq_true p447
                 replace q447 := eq_true q447
                 have p448 : 0 ≤ ((ji25) : Int) := of_decide_eq_true (by first | (with_reducible assumption) | assumption)
                 have q448 : (ji25) < (t434.length : Int) := of_decide_eq_true (by first | (with_reducible assumption) | assumption)
                 obtain ⟨ad448, e448, hx448_0, hx448_1, hx448_2⟩ := at_T43 (Kd.R_reads' HO_5.out).2.2 (ji25) p448 q448
                 obtain rfl : ad441 = ad448 := (by injection e448)
                 replace p448 := eq_true p448
                 replace q448 := eq_true q448
                 go_wp2
                 repeat (go_quiet (fail); try go_wp2)
                 go_ret
                 exact ⟨by first | rfl | (simp [errW_none, errW_some] <;> rfl) | (simp only [← hji25]; first | rfl | (simp [errW_none, errW_some] <;> rfl)) | (simp [*, errW_none, errW_some] <;> rfl), by repeat (first | (with_reducible first | exact HB.out | apply below_alloc | apply pw_below_drewN | apply below_drew1 | refine below_set ?_ GE442.out) | exact HB.out)⟩
                ·rw [if_neg c38] at H
                 have c38b0 : ((wrap64 (((rd_T43 t434 (ji25)).f1) + (((rd_T43 t434 (ji25)).f2).size : Int))) == ((rd_T43 t434 x6_1).f1)) = false := beq_eq_false_iff_ne.mpr c38
                 have c38b1 : ((wrap64 (((rd_T43 t434 (ji25)).f1) + (((rd_T43 t434 (ji25)).f2).size : Int))) != ((rd_T43 t434 x6_1).f1)) = true := bne_iff_ne.mpr c38
                 have H' := Aside0.mk H
                 clear H
                 have p443 : 0 ≤ ((ji25) : Int) := of_decide_eq_true (by first | (with_reducible assumption) | assumption)
                 have q443 : (ji25) < (t434.length : Int) := of_decide_eq_true (by first | (with_reducible assumption) | assumption)
                 obtain ⟨ad443, e443, hx443_0, hx443_1, hx443_2⟩ := at_T43 (Kd.R_reads' HO_5.out).2.2 (ji25) p443 q443
                 obtain rfl : ad441 = ad443 := (by injection e443)
                 replace p443 := eq_true p443
                 replace q443 := eq_true q443
                 have hcz40_0 : wc.cell? ⟨gb442, 0, none⟩ = some (.int .i64 ((rd_T43 t434 x6_1).f0)) := (blk_cell BK442.out 0).trans rfl
                 have hcz40_1 : wc.cell? ⟨gb442, 1, none⟩ = some (.int .i64 ((rd_T43 t434 x6_1).f1)) := (blk_cell BK442.out 1).trans rfl
                 have hcz40_2 : wc.cell? ⟨gb442, 2, none⟩ = some (.string ((rd_T43 t434 x6_1).f2)) := (blk_cell BK442.out 2).trans rfl
                 have hfz40_0 := blk_frozen BK442.out 0
                 have hfz40_1 := blk_frozen BK442.out 1
                 have hfz40_2 := blk_frozen BK442.out 2
                 have p447 : 0 ≤ ((ji25) : Int) := of_decide_eq_true (by first | (with_reducible assumption) | assumption)
                 have q447 : (ji25) < (t434.length : Int) := of_decide_eq_true (by first | (with_reducible assumption) | assumption)
                 obtain ⟨ad447, e447, hx447_0, hx447_1, hx447_2⟩ := at_T43 (Kd.R_reads' HO_5.out).2.2 (ji25) p447 q447
                 obtain rfl : ad441 = ad447 := (by injection e447)
                 replace p447 := eq_true p447
                 replace q447 := eq_true q447
                 have p448 : 0 ≤ ((ji25) : Int) := of_decide_eq_true (by first | (with_reducible assumption) | assumption)
                 have q448 : (ji25) < (t434.length : Int) := of_decide_eq_true (by first | (with_reducible assumption) | assumption)
                 obtain ⟨ad448, e448, hx448_0, hx448_1, hx448_2⟩ := at_T43 (Kd.R_reads' HO_5.out).2.2 (ji25) p448 q448
                 obtain rfl : ad441 = ad448 := (by injection e448)
                 replace p448 := eq_true p448
                 replace q448 := eq_true q448
                 go_wp2
                 repeat (go_quiet (fail); try go_wp2)
                 go_roundg kj14
                 case measure => have := HK1.out; have := HJ14.out; omega
                 case rel => exact ⟨(wrap64 (x6_1 + 1)), (by first | rfl | (simp; done) | (simp [*]; done)), H', ⟨by have := HK1.out; have := HJ14.out; omega⟩, ⟨by (with_reducible repeat (first | apply Kd.R_alloc | apply Kd.R_drewN | apply Kd.R_drew)); exact Kd.R_mono HO_5.out (fun _ hk => trivial)⟩, ⟨by repeat (first | (with_reducible first | exact HB.out | apply below_alloc | apply pw_below_drewN | apply below_drew1 | refine below_set ?_ GE442.out) | exact HB.out)⟩⟩
               ·rw [if_neg c37] at H
                have c37b0 : (((rd_T43 t434 x6_1).f0) == 1) = false := beq_eq_false_iff_ne.mpr c37
                have c37b1 : (((rd_T43 t434 x6_1).f0) != 1) = true := bne_iff_ne.mpr c37
                have H' := Aside0.mk H
                clear H
                have p443 : 0 ≤ ((ji25) : Int) := of_decide_eq_true (by first | (with_reducible assumption) | assumption)
                have q443 : (ji25) < (t434.length : Int) := of_decide_eq_true (by first | (with_reducible assumption) | assumption)
                obtain ⟨ad443, e443, hx443_0, hx443_1, hx443_2⟩ := at_T43 (Kd.R_reads' HO_5.out).2.2 (ji25) p443 q443
                obtain rfl : ad441 = ad443 := (by injection e443)
                replace p443 := eq_true p443
                replace q443 := eq_true q443
                have hcz41_0 : wc.cell? ⟨gb442, 0, none⟩ = some (.int .i64 ((rd_T43 t434 x6_1).f0)) := (blk_cell BK442.out 0).trans rfl
                have hcz41_1 : wc.cell? ⟨gb442, 1, none⟩ = some (.int .i64 ((rd_T43 t434 x6_1).f1)) := (blk_cell BK442.out 1).trans rfl
                have hcz41_2 : wc.cell? ⟨gb442, 2, none⟩ = some (.string ((rd_T43 t434 x6_1).f2)) := (blk_cell BK442.out 2).trans rfl
                have hfz41_0 := blk_frozen BK442.out 0
                have hfz41_1 := blk_frozen BK442.out 1
                have hfz41_2 := blk_frozen BK442.out 2
                go_wp2
                repeat (go_quiet (fail); try go_wp2)
                go_roundg kj14
                case measure => have := HK1.out; have := HJ14.out; omega
                case rel => exact ⟨(wrap64 (x6_1 + 1)), (by first | rfl | (simp; done) | (simp [*]; done)), H', ⟨by have := HK1.out; have := HJ14.out; omega⟩, ⟨by (with_reducible repeat (first | apply Kd.R_alloc | apply Kd.R_drewN | apply Kd.R_drew)); exact Kd.R_mono HO_5.out (fun _ hk => trivial)⟩, ⟨by repeat (first | (with_reducible first | exact HB.out | apply below_alloc | apply pw_below_drewN | apply below_drew1 | refine below_set ?_ GE442.out) | exact HB.out)⟩⟩
             ·rw [if_neg c28] at H
              have c28b0 : (((rd_T43 t434 (ji25)).f0) == ((rd_T43 t434 x6_1).f0)) = false := beq_eq_false_iff_ne.mpr c28
              have c28b1 : (((rd_T43 t434 (ji25)).f0) != ((rd_T43 t434 x6_1).f0)) = true := bne_iff_ne.mpr c28
              have H' := Aside0.mk H
              clear H
              have p443 : 0 ≤ ((ji25) : Int) := of_decide_eq_true (by first | (with_reducible assumption) | assumption)
              have q443 : (ji25) < (t434.length : Int) := of_decide_eq_true (by first | (with_reducible assumption) | assumption)
              obtain ⟨ad443, e443, hx443_0, hx443_1, hx443_2⟩ := at_T43 (Kd.R_reads' HO_5.out).2.2 (ji25) p443 q443
              obtain rfl : ad441 = ad443 := (by injection e443)
              replace p443 := eq_true p443
              replace q443 := eq_true q443
              have hcz42_0 : wc.cell? ⟨gb442, 0, none⟩ = some (.int .i64 ((rd_T43 t434 x6_1).f0)) := (blk_cell BK442.out 0).trans rfl
              have hcz42_1 : wc.cell? ⟨gb442, 1, none⟩ = some (.int .i64 ((rd_T43 t434 x6_1).f1)) := (blk_cell BK442.out 1).trans rfl
              have hcz42_2 : wc.cell? ⟨gb442, 2, none⟩ = some (.string ((rd_T43 t434 x6_1).f2)) := (blk_cell BK442.out 2).trans rfl
              have hfz42_0 := blk_frozen BK442.out 0
              have hfz42_1 := blk_frozen BK442.out 1
              have hfz42_2 := blk_frozen BK442.out 2
              go_wp2
              repeat (go_quiet (fail); try go_wp2)
              go_roundg kj14
              case measure => have := HK1.out; have := HJ14.out; omega
              case rel => exact ⟨(wrap64 (x6_1 + 1)), (by first | rfl | (simp; done) | (simp [*]; done)), H', ⟨by have := HK1.out; have := HJ14.out; omega⟩, ⟨by (with_reducible repeat (first | apply Kd.R_alloc | apply Kd.R_drewN | apply Kd.R_drew)); exact Kd.R_mono HO_5.out (fun _ hk => trivial)⟩, ⟨by repeat (first | (with_reducible first | exact HB.out | apply below_alloc | apply pw_below_drewN | apply below_drew1 | refine below_set ?_ GE442.out) | exact HB.out)⟩⟩
            ·rw [if_neg c27] at H
             exact absurd H (by simp)
           ·rw [if_neg c26] at H
            exact absurd H (by simp)
          ·rw [if_neg c24] at H
           have c24b0 : decide (0 < x6_1) = false := decide_eq_false c24
           clear c24
           have H' := Aside0.mk H
           clear H
           go_wp2
           repeat (go_quiet (fail); try go_wp2)
           go_roundg kj14
           case measure => have := HK1.out; have := HJ14.out; omega
           case rel => exact ⟨(wrap64 (x6_1 + 1)), (by first | rfl | (simp; done) | (simp [*]; done)), H', ⟨by have := HK1.out; have := HJ14.out; omega⟩, ⟨by (with_reducible repeat (first | apply Kd.R_alloc | apply Kd.R_drewN | apply Kd.R_drew)); exact Kd.R_mono HO_5.out (fun _ hk => trivial)⟩, ⟨by repeat (first | (with_reducible first | exact HB.out | apply below_alloc | apply pw_below_drewN | apply below_drew1 | refine below_set ?_ GE442.out) | exact HB.out)⟩⟩
      ·rw [if_neg c14] at H
       exact absurd H (by simp)
     ·rw [if_neg c13] at H
      have c13b0 : decide (x6_1 < (t434.length : Int)) = false := decide_eq_false c13
      clear c13
      obtain rfl := Option.some.inj H
      go_wp2
      repeat (go_quiet (fail); try go_wp2)
      go_ret
      exact ⟨by first | rfl | (simp [errW_none, errW_some] <;> rfl) | (simp [*, errW_none, errW_some] <;> rfl), by repeat (first | (with_reducible first | exact HB.out | apply below_alloc | apply pw_below_drewN | apply below_drew1) | exact HB.out)⟩
  ·replace c7 := Bool.eq_false_iff.mpr c7
   subst c7
   have H1 : (some false) = some r := by rw [if_neg (show ¬ (false = true) by decide)] at H; exact H
   clear H
   have H := H1
   clear H1
   obtain rfl := Option.some.inj H
   go_enter Try.func10, Try.ntmps10
   go_wp2_with (first | (go_at_call 32; (with_reducible refine (spec_DrawEditScript.calls k _ _ l0 t432 t433 _ ?side1 ?side2 A3.out).mono ?_); (case side1 => repeat (first | exact HR0.out | (with_reducible refine Kd.C_alloc ?_ _) | (with_reducible refine Kd.C_drewN ?_ _) | (with_reducible refine Kd.C_drew ?_))); (case side2 => exact HC0.out); rintro e w43 ⟨rfl, hb⟩; have n0_ := Aside0.mk (below_step (by repeat (first | (with_reducible first | exact HB.out | apply below_alloc | apply pw_below_drewN | apply below_drew1) | exact HB.out)) hb); clear HB; have HB := n0_; clear n0_; (try clear hb); (try clear hb2); (try clear hk); (try clear hi)) | (go_at_call 33; (with_reducible refine (impl_EditScript.calls k t432 t433 t434 _ A4.out).mono ?_); rintro e w44 ⟨v435, rfl, ho0, hb⟩; have n0_ := Aside0.mk (Kd.R_lower ho0 (below_size (by repeat (first | (with_reducible first | exact HB.out | apply below_alloc | apply pw_below_drewN | apply below_drew1) | exact HB.out)))); have n1_ := Aside0.mk (below_step (by repeat (first | (with_reducible first | exact HB.out | apply below_alloc | apply pw_below_drewN | apply below_drew1) | exact HB.out)) hb); clear HB; have HO436 := n0_; have HB := n1_; clear n0_ n1_; (try clear hb); (try clear hb2); (try clear hk); (try clear hi); (try clear ho0)) | (go_at_call 35; (with_reducible refine (spec_EditScript.calls k t432 t433 t437 _ A5.out).mono ?_); rintro e w45 ⟨v438, rfl, ho0, hb⟩; have n0_ := Aside0.mk (Kd.R_elder' (by (with_reducible repeat (first | apply Kd.R_alloc | apply Kd.R_drewN | apply Kd.R_drew)); exact HO436.out) (Kd.R_base ho0) hb); have n1_ := Aside0.mk (Kd.R_lower (Kd.R_new' ho0 (Kd.R_lt (by (with_reducible repeat (first | apply Kd.R_alloc | apply Kd.R_drewN | apply Kd.R_drew)); exact HO436.out))) (below_size (by repeat (first | (with_reducible first | exact HB.out | apply below_alloc | apply pw_below_drewN | apply below_drew1) | exact HB.out)))); have n2_ := Aside0.mk (below_step (by repeat (first | (with_reducible first | exact HB.out | apply below_alloc | apply pw_below_drewN | apply below_drew1) | exact HB.out)) hb); clear HO436; clear HB; have HO436 := n0_; have HO439 := n1_; have HB := n2_; clear n0_ n1_ n2_; (try clear hb); (try clear hb2); (try clear hk); (try clear hi); (try clear ho0); obtain ⟨Ao46, co46, eo46⟩ := Kd.R_slice HO436.out; subst eo46; obtain ⟨Ao47, co47, eo47⟩ := Kd.R_slice HO439.out; subst eo47) | (go_at_call 34; (with_reducible refine (laws_equalEdits.calls k _ _ t434 _ _ t437 false _ ?side1 ?side2 ?side3 ?side4 A6.out).mono ?_); (case side1 => repeat (first | exact (Kd.R_reads' HO436.out).2.2 | (with_reducible refine Kd.C_alloc ?_ _) | (with_reducible refine Kd.C_drewN ?_ _) | (with_reducible refine Kd.C_drew ?_))); (case side2 => exact (Kd.R_reads' HO436.out).2.1); (case side3 => repeat (first | exact (Kd.R_reads' HO439.out).2.2 | (with_reducible refine Kd.C_alloc ?_ _) | (with_reducible refine Kd.C_drewN ?_ _) | (with_reducible refine Kd.C_drew ?_))); (case side4 => exact (Kd.R_reads' HO439.out).2.1); rintro e w' ⟨rfl, ⟨nd, rfl⟩⟩; (try first | exact ⟨rfl, _, World.drewN_drewN _ _ _⟩ | exact ⟨rfl, _, Eq.trans (World.drewN_drewN _ _ _) (congrArg (World.drewN _) (Nat.add_assoc _ _ _))⟩)))
   repeat (go_quiet (first | (go_at_call 32; (with_reducible refine (spec_DrawEditScript.calls k _ _ l0 t432 t433 _ ?side1 ?side2 A3.out).mono ?_); (case side1 => repeat (first | exact HR0.out | (with_reducible refine Kd.C_alloc ?_ _) | (with_reducible refine Kd.C_drewN ?_ _) | (with_reducible refine Kd.C_drew ?_))); (case side2 => exact HC0.out); rintro e w43 ⟨rfl, hb⟩; have n0_ := Aside0.mk (below_step (by repeat (first | (with_reducible first | exact HB.out | apply below_alloc | apply pw_below_drewN | apply below_drew1) | exact HB.out)) hb); clear HB; have HB := n0_; clear n0_; (try clear hb); (try clear hb2); (try clear hk); (try clear hi)) | (go_at_call 33; (with_reducible refine (impl_EditScript.calls k t432 t433 t434 _ A4.out).mono ?_); rintro e w44 ⟨v435, rfl, ho0, hb⟩; have n0_ := Aside0.mk (Kd.R_lower ho0 (below_size (by repeat (first | (with_reducible first | exact HB.out | apply below_alloc | apply pw_below_drewN | apply below_drew1) | exact HB.out)))); have n1_ := Aside0.mk (below_step (by repeat (first | (with_reducible first | exact HB.out | apply below_alloc | apply pw_below_drewN | apply below_drew1) | exact HB.out)) hb); clear HB; have HO436 := n0_; have HB := n1_; clear n0_ n1_; (try clear hb); (try clear hb2); (try clear hk); (try clear hi); (try clear ho0)) | (go_at_call 35; (with_reducible refine (spec_EditScript.calls k t432 t433 t437 _ A5.out).mono ?_); rintro e w45 ⟨v438, rfl, ho0, hb⟩; have n0_ := Aside0.mk (Kd.R_elder' (by (with_reducible repeat (first | apply Kd.R_alloc | apply Kd.R_drewN | apply Kd.R_drew)); exact HO436.out) (Kd.R_base ho0) hb); have n1_ := Aside0.mk (Kd.R_lower (Kd.R_new' ho0 (Kd.R_lt (by (with_reducible repeat (first | apply Kd.R_alloc | apply Kd.R_drewN | apply Kd.R_drew)); exact HO436.out))) (below_size (by repeat (first | (with_reducible first | exact HB.out | apply below_alloc | apply pw_below_drewN | apply below_drew1) | exact HB.out)))); have n2_ := Aside0.mk (below_step (by repeat (first | (with_reducible first | exact HB.out | apply below_alloc | apply pw_below_drewN | apply below_drew1) | exact HB.out)) hb); clear HO436; clear HB; have HO436 := n0_; have HO439 := n1_; have HB := n2_; clear n0_ n1_ n2_; (try clear hb); (try clear hb2); (try clear hk); (try clear hi); (try clear ho0); obtain ⟨Ao46, co46, eo46⟩ := Kd.R_slice HO436.out; subst eo46; obtain ⟨Ao47, co47, eo47⟩ := Kd.R_slice HO439.out; subst eo47) | (go_at_call 34; (with_reducible refine (laws_equalEdits.calls k _ _ t434 _ _ t437 false _ ?side1 ?side2 ?side3 ?side4 A6.out).mono ?_); (case side1 => repeat (first | exact (Kd.R_reads' HO436.out).2.2 | (with_reducible refine Kd.C_alloc ?_ _) | (with_reducible refine Kd.C_drewN ?_ _) | (with_reducible refine Kd.C_drew ?_))); (case side2 => exact (Kd.R_reads' HO436.out).2.1); (case side3 => repeat (first | exact (Kd.R_reads' HO439.out).2.2 | (with_reducible refine Kd.C_alloc ?_ _) | (with_reducible refine Kd.C_drewN ?_ _) | (with_reducible refine Kd.C_drew ?_))); (case side4 => exact (Kd.R_reads' HO439.out).2.1); rintro e w' ⟨rfl, ⟨nd, rfl⟩⟩; (try first | exact ⟨rfl, _, World.drewN_drewN _ _ _⟩ | exact ⟨rfl, _, Eq.trans (World.drewN_drewN _ _ _) (congrArg (World.drewN _) (Nat.add_assoc _ _ _))⟩))); try go_wp2_with (first | (go_at_call 32; (with_reducible refine (spec_DrawEditScript.calls k _ _ l0 t432 t433 _ ?side1 ?side2 A3.out).mono ?_); (case side1 => repeat (first | exact HR0.out | (with_reducible refine Kd.C_alloc ?_ _) | (with_reducible refine Kd.C_drewN ?_ _) | (with_reducible refine Kd.C_drew ?_))); (case side2 => exact HC0.out); rintro e w43 ⟨rfl, hb⟩; have n0_ := Aside0.mk (below_step (by repeat (first | (with_reducible first | exact HB.out | apply below_alloc | apply pw_below_drewN | apply below_drew1) | exact HB.out)) hb); clear HB; have HB := n0_; clear n0_; (try clear hb); (try clear hb2); (try clear hk); (try clear hi)) | (go_at_call 33; (with_reducible refine (impl_EditScript.calls k t432 t433 t434 _ A4.out).mono ?_); rintro e w44 ⟨v435, rfl, ho0, hb⟩; have n0_ := Aside0.mk (Kd.R_lower ho0 (below_size (by repeat (first | (with_reducible first | exact HB.out | apply below_alloc | apply pw_below_drewN | apply below_drew1) | exact HB.out)))); have n1_ := Aside0.mk (below_step (by repeat (first | (with_reducible first | exact HB.out | apply below_alloc | apply pw_below_drewN | apply below_drew1) | exact HB.out)) hb); clear HB; have HO436 := n0_; have HB := n1_; clear n0_ n1_; (try clear hb); (try clear hb2); (try clear hk); (try clear hi); (try clear ho0)) | (go_at_call 35; (with_reducible refine (spec_EditScript.calls k t432 t433 t437 _ A5.out).mono ?_); rintro e w45 ⟨v438, rfl, ho0, hb⟩; have n0_ := Aside0.mk (Kd.R_elder' (by (with_reducible repeat (first | apply Kd.R_alloc | apply Kd.R_drewN | apply Kd.R_drew)); exact HO436.out) (Kd.R_base ho0) hb); have n1_ := Aside0.mk (Kd.R_lower (Kd.R_new' ho0 (Kd.R_lt (by (with_reducible repeat (first | apply Kd.R_alloc | apply Kd.R_drewN | apply Kd.R_drew)); exact HO436.out))) (below_size (by repeat (first | (with_reducible first | exact HB.out | apply below_alloc | apply pw_below_drewN | apply below_drew1) | exact HB.out)))); have n2_ := Aside0.mk (below_step (by repeat (first | (with_reducible first | exact HB.out | apply below_alloc | apply pw_below_drewN | apply below_drew1) | exact HB.out)) hb); clear HO436; clear HB; have HO436 := n0_; have HO439 := n1_; have HB := n2_; clear n0_ n1_ n2_; (try clear hb); (try clear hb2); (try clear hk); (try clear hi); (try clear ho0); obtain ⟨Ao46, co46, eo46⟩ := Kd.R_slice HO436.out; subst eo46; obtain ⟨Ao47, co47, eo47⟩ := Kd.R_slice HO439.out; subst eo47) | (go_at_call 34; (with_reducible refine (laws_equalEdits.calls k _ _ t434 _ _ t437 false _ ?side1 ?side2 ?side3 ?side4 A6.out).mono ?_); (case side1 => repeat (first | exact (Kd.R_reads' HO436.out).2.2 | (with_reducible refine Kd.C_alloc ?_ _) | (with_reducible refine Kd.C_drewN ?_ _) | (with_reducible refine Kd.C_drew ?_))); (case side2 => exact (Kd.R_reads' HO436.out).2.1); (case side3 => repeat (first | exact (Kd.R_reads' HO439.out).2.2 | (with_reducible refine Kd.C_alloc ?_ _) | (with_reducible refine Kd.C_drewN ?_ _) | (with_reducible refine Kd.C_drew ?_))); (case side4 => exact (Kd.R_reads' HO439.out).2.1); rintro e w' ⟨rfl, ⟨nd, rfl⟩⟩; (try first | exact ⟨rfl, _, World.drewN_drewN _ _ _⟩ | exact ⟨rfl, _, Eq.trans (World.drewN_drewN _ _ _) (congrArg (World.drewN _) (Nat.add_assoc _ _ _))⟩))))
   go_ret
   exact ⟨by first | rfl | (simp [errW_none, errW_some] <;> rfl) | (simp [*, errW_none, errW_some] <;> rfl), by repeat (first | (with_reducible first | exact HB.out | apply below_alloc | apply pw_below_drewN | apply below_drew1) | exact HB.out)⟩

/-- THE ONE PURE STATEMENT of laws_FnScriptJoined: yours. -/
def laws_FnScriptJoined.Pure : Prop := ∀ (l0 : List Int), l0.length ≤ maxLen → l0.length * 1 ≤ 140737488351232 → (∀ x ∈ l0, (Lit.int .u8 x).wf = true) → ∃ k, laws_FnScriptJoined.f k l0 = some true
theorem laws_FnScriptJoined.walk (P : laws_FnScriptJoined.Pure) (a0 : Option Addr) (len0 cap0 : Nat) (z0 : List Int) (w : World) (w0 : (a0 = none ∧ len0 = 0 ∧ cap0 = 0 ∧ z0 = []) ∨ ∃ x, a0 = some x ∧ len0 ≤ cap0 ∧ cap0 ≤ maxLen ∧ z0.length = cap0 ∧ (∀ i, i < z0.length → w.cell? (x.add i) = some (.int .u8 (z0.getD i 0))) ∧ ∀ n ∈ z0, (Lit.int .u8 n).wf = true) (y0 : len0 * 1 ≤ 140737488351232) :
  Calls Try.prog 10 #[.slice a0 len0 cap0] w fun e w' => e = .returned (.bool true) ∧ Below w.heap.size w w' := by
 obtain ⟨l0, rfl, hr0, hm0, hw0, hc0⟩ := ReadsInt.ofRowC w0
 obtain ⟨k, h⟩ := P l0 hm0 y0 hw0
 refine (laws_FnScriptJoined.calls k _ _ l0 true w (Kd.C_of_reads (d := (0 : Int)) (h1 := fun _ => rfl) hr0) hc0 h).mono ?_
 rintro e w' ⟨rfl, hd⟩
 exact ⟨rfl, hd⟩

end Go.Proofs.Ytnlfmbdnleclfaa.Q
