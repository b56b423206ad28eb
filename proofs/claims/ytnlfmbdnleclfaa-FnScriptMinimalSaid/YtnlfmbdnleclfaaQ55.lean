import Derived.Test.YtnlfmbdnleclfaaQ0
import Derived.Test.YtnlfmbdnleclfaaQ13
import Derived.Test.YtnlfmbdnleclfaaQ28
import Derived.Test.YtnlfmbdnleclfaaQ31
import Derived.Test.YtnlfmbdnleclfaaQ40
import Derived.Test.YtnlfmbdnleclfaaQ50
namespace Go.Proofs.Ytnlfmbdnleclfaa.Q
open Go.RowKit Go.Proofs.YtnlfmbdnleclfaaW.PrintWords Go.Proofs.YtnlfmbdnleclfaaW.PrintLast Go.Proofs.YtnlfmbdnleclfaaW.PrintMore
attribute [local go_sem] max2_int min2_int max_two min_two max_three min_three max_four min_four
set_option linter.unusedVariables false
set_option linter.unusedSimpArgs false

/-! ### laws_FnScriptMinimal: function 17 -/
def laws_FnScriptMinimal.j0 : Nat → ByteArray → List (S43) → ByteArray → Bool → ByteArray → Bool → Bool → Option (Bool)
 | 0, _, _, _, _, _, _, _ => none
 | k + 1, x3, x4, x5, x6, x7, x8, x50 => if x50 = true then (if (x6 == x8) = true then (some (x5.toList == x7.toList)) else (some false)) else ((impl_EditScript.f k x3 x5).bind fun t591 => ((impl_ScriptCost.f k t591).bind fun t594 => ((impl_ScriptCost.f k x4).bind fun t595 => (some (decide (t594 ≤ t595))))))
def laws_FnScriptMinimal.f (k : Nat) (l0 : List Int) : Option (Bool) := if (l0.length : Int) > 1048576 then (some true) else ((spec_DrawApplyScript.f k l0).bind fun bt583 => ((impl_ApplyScript.f k bt583.1 bt583.2).bind fun bt587 => ((spec_ApplyScript.f k bt583.1 bt583.2).bind fun bt589 => (if (bt587.2 != bt589.2) = true then (laws_FnScriptMinimal.j0 k bt583.1 bt583.2 bt587.1 bt587.2 bt589.1 bt589.2 true) else (if bt587.1.toList = bt589.1.toList then (if bt587.2 = true then (if (bt583.1.size : Int) > 60 then (laws_FnScriptMinimal.j0 k bt583.1 bt583.2 bt587.1 bt587.2 bt589.1 bt589.2 true) else (laws_FnScriptMinimal.j0 k bt583.1 bt583.2 bt587.1 bt587.2 bt589.1 bt589.2 (decide ((bt587.1.size : Int) > 60)))) else (laws_FnScriptMinimal.j0 k bt583.1 bt583.2 bt587.1 bt587.2 bt589.1 bt589.2 true)) else (laws_FnScriptMinimal.j0 k bt583.1 bt583.2 bt587.1 bt587.2 bt589.1 bt589.2 true))))))
theorem laws_FnScriptMinimal.mono_l : ∀ k, (∀ y0 y1 y2 y3 y4 y5 y6, LeO (laws_FnScriptMinimal.j0 k y0 y1 y2 y3 y4 y5 y6) (laws_FnScriptMinimal.j0 (k + 1) y0 y1 y2 y3 y4 y5 y6))
 | 0 => fun _ _ _ _ _ _ _ r h => by simp [laws_FnScriptMinimal.j0] at h
 | k + 1 => by
  have ih0 := laws_FnScriptMinimal.mono_l k
  ·intro y0 y1 y2 y3 y4 y5 y6
   unfold laws_FnScriptMinimal.j0
   repeat' first
   | (with_reducible exact ih0 _ _ _ _ _ _ _)
   | (with_reducible exact impl_ApplyScript.mono _ _ _)
   | (with_reducible exact impl_EditScript.mono _ _ _)
   | (with_reducible exact impl_ScriptCost.mono _ _)
   | (with_reducible exact spec_ApplyScript.mono _ _ _)
   | (with_reducible exact spec_DrawApplyScript.mono _ _)
   | (with_reducible exact LeO.refl _)
   | (with_reducible exact LeO.none _)
   | (with_reducible refine LeO.ite ?_ ?_)
   | (with_reducible refine LeO.bind ?_ (fun _ => ?_))
   | exact ih0 _ _ _ _ _ _ _
   | exact impl_ApplyScript.mono _ _ _
   | exact impl_EditScript.mono _ _ _
   | exact impl_ScriptCost.mono _ _
   | exact spec_ApplyScript.mono _ _ _
   | exact spec_DrawApplyScript.mono _ _
   | exact LeO.none _
   | refine LeO.ite ?_ ?_
   | refine LeO.bind ?_ (fun _ => ?_)
theorem laws_FnScriptMinimal.mono : ∀ a0 k, LeO (laws_FnScriptMinimal.f k a0) (laws_FnScriptMinimal.f (k + 1) a0) := by
 intro a0 k
 have ih0 := laws_FnScriptMinimal.mono_l k
 unfold laws_FnScriptMinimal.f
 repeat' first
   | (with_reducible exact ih0 _ _ _ _ _ _ _)
   | (with_reducible exact impl_ApplyScript.mono _ _ _)
   | (with_reducible exact impl_EditScript.mono _ _ _)
   | (with_reducible exact impl_ScriptCost.mono _ _)
   | (with_reducible exact spec_ApplyScript.mono _ _ _)
   | (with_reducible exact spec_DrawApplyScript.mono _ _)
   | (with_reducible exact LeO.refl _)
   | (with_reducible exact LeO.none _)
   | (with_reducible refine LeO.ite ?_ ?_)
   | (with_reducible refine LeO.bind ?_ (fun _ => ?_))
   | exact ih0 _ _ _ _ _ _ _
   | exact impl_ApplyScript.mono _ _ _
   | exact impl_EditScript.mono _ _ _
   | exact impl_ScriptCost.mono _ _
   | exact spec_ApplyScript.mono _ _ _
   | exact spec_DrawApplyScript.mono _ _
   | exact LeO.none _
   | refine LeO.ite ?_ ?_
   | refine LeO.bind ?_ (fun _ => ?_)
set_option maxHeartbeats 8000000 in
set_option maxRecDepth 100000 in
theorem laws_FnScriptMinimal.calls (k : Nat) (A0 : Option Addr) (c0 : Nat) (l0 : List Int) (r : Bool) (w : World) (hr0 : Kd.C (Kd.int .u8) w A0 l0.length l0) (hc0 : l0.length ≤ c0) (h : laws_FnScriptMinimal.f k l0 = some r) :
  Calls Try.prog 17 #[.slice A0 l0.length c0] w fun e w' => e = .returned (.bool r) ∧ Below w.heap.size w w' := by
 have HR0 := Aside0.mk hr0
 have HC0 := Aside0.mk hc0
 clear hr0 hc0
 have HB := Aside0.mk (Below.refl w.heap.size w)
 have H : (if (l0.length : Int) > 1048576 then (some true) else ((spec_DrawApplyScript.f k l0).bind fun bt583 => ((impl_ApplyScript.f k bt583.1 bt583.2).bind fun bt587 => ((spec_ApplyScript.f k bt583.1 bt583.2).bind fun bt589 => (if (bt587.2 != bt589.2) = true then (laws_FnScriptMinimal.j0 k bt583.1 bt583.2 bt587.1 bt587.2 bt589.1 bt589.2 true) else (if bt587.1.toList = bt589.1.toList then (if bt587.2 = true then (if (bt583.1.size : Int) > 60 then (laws_FnScriptMinimal.j0 k bt583.1 bt583.2 bt587.1 bt587.2 bt589.1 bt589.2 true) else (laws_FnScriptMinimal.j0 k bt583.1 bt583.2 bt587.1 bt587.2 bt589.1 bt589.2 (decide ((bt587.1.size : Int) > 60)))) else (laws_FnScriptMinimal.j0 k bt583.1 bt583.2 bt587.1 bt587.2 bt589.1 bt589.2 true)) else (laws_FnScriptMinimal.j0 k bt583.1 bt583.2 bt587.1 bt587.2 bt589.1 bt589.2 true))))))) = some r := h
 clear h
 by_cases c2 : (l0.length : Int) > 1048576
 ·rw [if_pos c2] at H
  have c2b0 : decide (1048576 < (l0.length : Int)) = true := decide_eq_true c2
  have c2b1 : decide (1048576 < l0.length) = true := decide_eq_true (by omega)
  clear c2
  obtain rfl := Option.some.inj H
  go_enter Try.func17, Try.ntmps17
  go_wp2
  go_ret
  exact ⟨by first | rfl | (simp [errW_none, errW_some] <;> rfl) | (simp [*, errW_none, errW_some] <;> rfl), by repeat (first | (with_reducible first | exact HB.out | apply below_alloc | apply pw_below_drewN | apply below_drew1) | exact HB.out)⟩
 ·rw [if_neg c2] at H
  have c2b0 : decide (1048576 < (l0.length : Int)) = false := decide_eq_false c2
  have c2b1 : decide (1048576 < l0.length) = false := decide_eq_false (by omega)
  clear c2
  replace H := Option.bind_eq_some_iff.mp H
  obtain ⟨⟨t583, t584⟩, A30, H⟩ := H
  replace H : ((impl_ApplyScript.f k t583 t584).bind fun bt587 => ((spec_ApplyScript.f k t583 t584).bind fun bt589 => (if (bt587.2 != bt589.2) = true then (laws_FnScriptMinimal.j0 k t583 t584 bt587.1 bt587.2 bt589.1 bt589.2 true) else (if bt587.1.toList = bt589.1.toList then (if bt587.2 = true then (if (t583.size : Int) > 60 then (laws_FnScriptMinimal.j0 k t583 t584 bt587.1 bt587.2 bt589.1 bt589.2 true) else (laws_FnScriptMinimal.j0 k t583 t584 bt587.1 bt587.2 bt589.1 bt589.2 (decide ((bt587.1.size : Int) > 60)))) else (laws_FnScriptMinimal.j0 k t583 t584 bt587.1 bt587.2 bt589.1 bt589.2 true)) else (laws_FnScriptMinimal.j0 k t583 t584 bt587.1 bt587.2 bt589.1 bt589.2 true))))) = some r := H
  have A3 := Aside0.mk A30
  clear A30
  replace H := Option.bind_eq_some_iff.mp H
  obtain ⟨⟨t587, t588⟩, A40, H⟩ := H
  replace H : ((spec_ApplyScript.f k t583 t584).bind fun bt589 => (if (t588 != bt589.2) = true then (laws_FnScriptMinimal.j0 k t583 t584 t587 t588 bt589.1 bt589.2 true) else (if t587.toList = bt589.1.toList then (if t588 = true then (if (t583.size : Int) > 60 then (laws_FnScriptMinimal.j0 k t583 t584 t587 t588 bt589.1 bt589.2 true) else (laws_FnScriptMinimal.j0 k t583 t584 t587 t588 bt589.1 bt589.2 (decide ((t587.size : Int) > 60)))) else (laws_FnScriptMinimal.j0 k t583 t584 t587 t588 bt589.1 bt589.2 true)) else (laws_FnScriptMinimal.j0 k t583 t584 t587 t588 bt589.1 bt589.2 true)))) = some r := H
  have A4 := Aside0.mk A40
  clear A40
  replace H := Option.bind_eq_some_iff.mp H
  obtain ⟨⟨t589, t590⟩, A50, H⟩ := H
  replace H : (if (t588 != t590) = true then (laws_FnScriptMinimal.j0 k t583 t584 t587 t588 t589 t590 true) else (if t587.toList = t589.toList then (if t588 = true then (if (t583.size : Int) > 60 then (laws_FnScriptMinimal.j0 k t583 t584 t587 t588 t589 t590 true) else (laws_FnScriptMinimal.j0 k t583 t584 t587 t588 t589 t590 (decide ((t587.size : Int) > 60)))) else (laws_FnScriptMinimal.j0 k t583 t584 t587 t588 t589 t590 true)) else (laws_FnScriptMinimal.j0 k t583 t584 t587 t588 t589 t590 true))) = some r := H
  have A5 := Aside0.mk A50
  clear A50
  have HC6 := Aside0.mk H
  clear H
  go_enter Try.func17, Try.ntmps17
  go_upto_region 6 with (first | ((with_reducible refine gate_callee (f := 36) rfl ?_); refine goesL_ (some 14) rfl rfl Try.func36 (by kernel_rfl) rfl #[.slice A0 l0.length c0] rfl (by (try simp only [List.map_toArray, List.map_cons, List.map_nil]); first | done | rfl | (simp only [List.length_drop, List.length_take]; rfl)) ?_; (with_reducible refine (spec_DrawApplyScript.calls k _ _ l0 t583 t584 _ ?side1 ?side2 A3.out).mono ?_); (case side1 => repeat (first | exact HR0.out | (with_reducible refine Kd.C_alloc ?_ _) | (with_reducible refine Kd.C_drewN ?_ _) | (with_reducible refine Kd.C_drew ?_))); (case side2 => exact HC0.out); rintro e w7 ⟨v585, rfl, ho0, hb⟩; refine ⟨_, rfl, ?_⟩; have n0_ := Aside0.mk (Kd.R_lower ho0 (below_size (by repeat (first | (with_reducible first | exact HB.out | apply below_alloc | apply pw_below_drewN | apply below_drew1) | exact HB.out)))); have n1_ := Aside0.mk (below_step (by repeat (first | (with_reducible first | exact HB.out | apply below_alloc | apply pw_below_drewN | apply below_drew1) | exact HB.out)) hb); clear HB; have HO586 := n0_; have HB := n1_; clear n0_ n1_; (try clear hb); (try clear hb2); (try clear hk); (try clear hi); (try clear ho0); obtain ⟨Ao8, co8, eo8⟩ := Kd.R_slice HO586.out; subst eo8) | ((with_reducible refine gate_callee (f := 27) rfl ?_); refine goesL_ (some 20) rfl rfl Try.func27 (by kernel_rfl) rfl #[.string t583, .slice Ao8 t584.length co8] rfl (by (try simp only [List.map_toArray, List.map_cons, List.map_nil]); first | done | rfl | (simp only [List.length_drop, List.length_take]; rfl)) ?_; (with_reducible refine (impl_ApplyScript.calls k t583 _ _ t584 t587 t588 _ ?side1 ?side2 A4.out).mono ?_); (case side1 => repeat (first | exact (Kd.R_reads' HO586.out).2.2 | (with_reducible refine Kd.C_alloc ?_ _) | (with_reducible refine Kd.C_drewN ?_ _) | (with_reducible refine Kd.C_drew ?_))); (case side2 => exact (Kd.R_reads' HO586.out).2.1); rintro e w9 ⟨rfl, hb⟩; refine ⟨_, rfl, ?_⟩; have n0_ := Aside0.mk (Kd.R_below (by (with_reducible repeat (first | apply Kd.R_alloc | apply Kd.R_drewN | apply Kd.R_drew)); exact HO586.out) hb); have n1_ := Aside0.mk (below_step (by repeat (first | (with_reducible first | exact HB.out | apply below_alloc | apply pw_below_drewN | apply below_drew1) | exact HB.out)) hb); clear HO586; clear HB; have HO586 := n0_; have HB := n1_; clear n0_ n1_; (try clear hb); (try clear hb2); (try clear hk); (try clear hi)) | ((with_reducible refine gate_callee (f := 26) rfl ?_); refine goesL_ (some 26) rfl rfl Try.func26 (by kernel_rfl) rfl #[.string t583, .slice Ao8 t584.length co8] rfl (by (try simp only [List.map_toArray, List.map_cons, List.map_nil]); first | done | rfl | (simp only [List.length_drop, List.length_take]; rfl)) ?_; (with_reducible refine (spec_ApplyScript.calls k t583 _ _ t584 t589 t590 _ ?side1 ?side2 A5.out).mono ?_); (case side1 => repeat (first | exact (Kd.R_reads' HO586.out).2.2 | (with_reducible refine Kd.C_alloc ?_ _) | (with_reducible refine Kd.C_drewN ?_ _) | (with_reducible refine Kd.C_drew ?_))); (case side2 => exact (Kd.R_reads' HO586.out).2.1); rintro e w10 ⟨rfl, hb⟩; refine ⟨_, rfl, ?_⟩; have n0_ := Aside0.mk (Kd.R_below (by (with_reducible repeat (first | apply Kd.R_alloc | apply Kd.R_drewN | apply Kd.R_drew)); exact HO586.out) hb); have n1_ := Aside0.mk (below_step (by repeat (first | (with_reducible first | exact HB.out | apply below_alloc | apply pw_below_drewN | apply below_drew1) | exact HB.out)) hb); clear HO586; clear HB; have HO586 := n0_; have HB := n1_; clear n0_ n1_; (try clear hb); (try clear hb2); (try clear hk); (try clear hi)))
  (try simp only [Act.put, List.setIfInBounds_toArray, List.set_cons_zero, List.set_cons_succ])
  go_cut [50] (fun v50 wc => ∃ (kq : Nat) (x50_5 : Bool), v50 = .bool x50_5 ∧ Aside0 (laws_FnScriptMinimal.j0 kq t583 t584 t587 t588 t589 t590 x50_5 = some r) ∧ Aside0 (kq ≤ k) ∧ Aside0 (Kd.R k43 43 wc w.heap.size (fun _ => True) (.slice Ao8 t584.length co8) t584) ∧ Aside0 (Below w.heap.size w wc))
  case first =>
   have H := HC6.out
   clear HC6
   by_cases c11 : (t588 != t590) = true
   ·rw [if_pos c11] at H
    have c11b0 : (t588 != t590) = true := c11
    (try (have c11b1 : decide (t588 = t590) = false := by simpa using c11))
    (try (have c11b2 : (t588 == t590) = false := by simpa using c11))
    (try (have c11b3 : ¬ (t588 = t590) := by simpa using c11))
    clear c11
    (first | rw [c11b0] | (simp only [i64_w, i32_w]; rw [c11b0]) | skip)
    have H' := Aside0.mk H
    clear H
    go_wp2
    go_meet
    case rel => exact ⟨_, (true), (by first | rfl | (simp; done) | (simp [*]; done)), H', ⟨by first | omega | exact Nat.le_refl _⟩, ⟨by (with_reducible repeat (first | apply Kd.R_alloc | apply Kd.R_drewN | apply Kd.R_drew)); exact HO586.out⟩, ⟨by repeat (first | (with_reducible first | exact HB.out | apply below_alloc | apply pw_below_drewN | apply below_drew1) | exact HB.out)⟩⟩
   ·rw [if_neg c11] at H
    have c11b0 : (t588 != t590) = false := by simpa using c11
    (try (have c11b1 : decide (t588 = t590) = true := by simpa using c11))
    (try (have c11b2 : (t588 == t590) = true := by simpa using c11))
    clear c11
    (first | rw [c11b0] | (simp only [i64_w, i32_w]; rw [c11b0]) | skip)
    by_cases c12 : t587.toList = t589.toList
    ·rw [if_pos c12] at H
     have c12b0 : (t587.toList == t589.toList) = true := beq_iff_eq.mpr c12
     have c12b1 : (t587.toList != t589.toList) = false := bne_eq_false_iff_eq.mpr c12
     clear c12
     by_cases c13 : t588 = true
     ·subst c13
      have H1 : (if (t583.size : Int) > 60 then (laws_FnScriptMinimal.j0 k t583 t584 t587 true t589 t590 true) else (laws_FnScriptMinimal.j0 k t583 t584 t587 true t589 t590 (decide ((t587.size : Int) > 60)))) = some r := by rw [if_pos rfl] at H; exact H
      clear H
      have H := H1
      clear H1
      by_cases c14 : (t583.size : Int) > 60
      ·rw [if_pos c14] at H
       have c14b0 : decide (60 < (t583.size : Int)) = true := decide_eq_true c14
       have c14b1 : decide (60 < t583.size) = true := decide_eq_true (by omega)
       clear c14
       have H' := Aside0.mk H
       clear H
       go_wp2
       go_meet
       case rel => exact ⟨_, (true), (by first | rfl | (simp; done) | (simp [*]; done)), H', ⟨by first | omega | exact Nat.le_refl _⟩, ⟨by (with_reducible repeat (first | apply Kd.R_alloc | apply Kd.R_drewN | apply Kd.R_drew)); exact HO586.out⟩, ⟨by repeat (first | (with_reducible first | exact HB.out | apply below_alloc | apply pw_below_drewN | apply below_drew1) | exact HB.out)⟩⟩
      ·rw [if_neg c14] at H
       have c14b0 : decide (60 < (t583.size : Int)) = false := decide_eq_false c14
       have c14b1 : decide (60 < t583.size) = false := decide_eq_false (by omega)
       clear c14
       have H' := Aside0.mk H
       clear H
       go_wp2
       go_meet
       case rel => exact ⟨_, (decide ((t587.size : Int) > 60)), (by first | rfl | (simp; done) | (simp [*]; done)), H', ⟨by first | omega | exact Nat.le_refl _⟩, ⟨by (with_reducible repeat (first | apply Kd.R_alloc | apply Kd.R_drewN | apply Kd.R_drew)); exact HO586.out⟩, ⟨by repeat (first | (with_reducible first | exact HB.out | apply below_alloc | apply pw_below_drewN | apply below_drew1) | exact HB.out)⟩⟩
     ·replace c13 := Bool.eq_false_iff.mpr c13
      subst c13
      have H1 : (laws_FnScriptMinimal.j0 k t583 t584 t587 false t589 t590 true) = some r := by rw [if_neg (show ¬ (false = true) by decide)] at H; exact H
      clear H
      have H := H1
      clear H1
      have H' := Aside0.mk H
      clear H
      go_wp2
      go_meet
      case rel => exact ⟨_, (true), (by first | rfl | (simp; done) | (simp [*]; done)), H', ⟨by first | omega | exact Nat.le_refl _⟩, ⟨by (with_reducible repeat (first | apply Kd.R_alloc | apply Kd.R_drewN | apply Kd.R_drew)); exact HO586.out⟩, ⟨by repeat (first | (with_reducible first | exact HB.out | apply below_alloc | apply pw_below_drewN | apply below_drew1) | exact HB.out)⟩⟩
    ·rw [if_neg c12] at H
     have c12b0 : (t587.toList == t589.toList) = false := beq_eq_false_iff_ne.mpr c12
     have c12b1 : (t587.toList != t589.toList) = true := bne_iff_ne.mpr c12
     have H' := Aside0.mk H
     clear H
     go_wp2
     go_meet
     case rel => exact ⟨_, (true), (by first | rfl | (simp; done) | (simp [*]; done)), H', ⟨by first | omega | exact Nat.le_refl _⟩, ⟨by (with_reducible repeat (first | apply Kd.R_alloc | apply Kd.R_drewN | apply Kd.R_drew)); exact HO586.out⟩, ⟨by repeat (first | (with_reducible first | exact HB.out | apply below_alloc | apply pw_below_drewN | apply below_drew1) | exact HB.out)⟩⟩
  case rest =>
   clear HC6
   try clear c1
   try clear c2
   try clear c2b0
   try clear c2b1
   try clear p2
   try clear c3
   try clear c11
   try clear c11b0
   try clear c11b1
   try clear c11b2
   try clear c12
   try clear c12b0
   try clear c12b1
   try clear c13
   try clear c14
   try clear c14b0
   try clear c14b1
   obtain ⟨kq, x50_5, rfl, HA, HJ5, HO_4, HB⟩ := hcut
   cases kq with
   | zero => exact absurd HA.out (by simp [laws_FnScriptMinimal.j0])
   | succ kj5 =>
    have H := HA.out
    clear HA
    simp only [laws_FnScriptMinimal.j0] at H
    by_cases c15 : x50_5 = true
    ·subst c15
     have H1 : (if (t588 == t590) = true then (some (t587.toList == t589.toList)) else (some false)) = some r := by rw [if_pos rfl] at H; exact H
     clear H
     have H := H1
     clear H1
     by_cases c16 : (t588 == t590) = true
     ·rw [if_pos c16] at H
      have c16b0 : (t588 == t590) = true := c16
      (try (have c16b1 : decide (t588 = t590) = true := by simpa using c16))
      (try (have c16b2 : (t588 == t590) = true := by simpa using c16))
      clear c16
      obtain rfl := Option.some.inj H
      go_wp2
      go_ret
      exact ⟨by first | rfl | (simp [errW_none, errW_some] <;> rfl) | (simp [*, errW_none, errW_some] <;> rfl), by repeat (first | (with_reducible first | exact HB.out | apply below_alloc | apply pw_below_drewN | apply below_drew1) | exact HB.out)⟩
     ·rw [if_neg c16] at H
      have c16b0 : (t588 == t590) = false := by simpa using c16
      (try (have c16b1 : decide (t588 = t590) = false := by simpa using c16))
      (try (have c16b2 : (t588 == t590) = false := by simpa using c16))
      (try (have c16b3 : ¬ (t588 = t590) := by simpa using c16))
      clear c16
      obtain rfl := Option.some.inj H
      go_wp2
      go_ret
      exact ⟨by first | rfl | (simp [errW_none, errW_some] <;> rfl) | (simp [*, errW_none, errW_some] <;> rfl), by repeat (first | (with_reducible first | exact HB.out | apply below_alloc | apply pw_below_drewN | apply below_drew1) | exact HB.out)⟩
    ·replace c15 := Bool.eq_false_iff.mpr c15
     subst c15
     have H1 : ((impl_EditScript.f kj5 t583 t587).bind fun t591 => ((impl_ScriptCost.f kj5 t591).bind fun t594 => ((impl_ScriptCost.f kj5 t584).bind fun t595 => (some (decide (t594 ≤ t595)))))) = some r := by rw [if_neg (show ¬ (false = true) by decide)] at H; exact H
     clear H
     have H := H1
     clear H1
     replace H := Option.bind_eq_some_iff.mp H
     obtain ⟨t591, A170, H⟩ := H
     replace H : ((impl_ScriptCost.f kj5 t591).bind fun t594 => ((impl_ScriptCost.f kj5 t584).bind fun t595 => (some (decide (t594 ≤ t595))))) = some r := H
     have A17 := Aside0.mk A170
     clear A170
     replace H := Option.bind_eq_some_iff.mp H
     obtain ⟨t594, A180, H⟩ := H
     replace H : ((impl_ScriptCost.f kj5 t584).bind fun t595 => (some (decide (t594 ≤ t595)))) = some r := H
     have A18 := Aside0.mk A180
     clear A180
     replace H := Option.bind_eq_some_iff.mp H
     obtain ⟨t595, A190, H⟩ := H
     replace H : (some (decide (t594 ≤ t595))) = some r := H
     have A19 := Aside0.mk A190
     clear A190
     obtain rfl := Option.some.inj H
     go_wp2_with (first | ((with_reducible refine gate_callee (f := 33) rfl ?_); refine goesL_ (some 61) rfl rfl Try.func33 (by kernel_rfl) rfl #[.string t583, .string t587] rfl (by (try simp only [List.map_toArray, List.map_cons, List.map_nil]); first | done | rfl | (simp only [List.length_drop, List.length_take]; rfl)) ?_; (with_reducible refine (impl_EditScript.calls kj5 t583 t587 t591 _ A17.out).mono ?_); rintro e w20 ⟨v592, rfl, ho0, hb⟩; refine ⟨_, rfl, ?_⟩; have n0_ := Aside0.mk (Kd.R_elder' (by (with_reducible repeat (first | apply Kd.R_alloc | apply Kd.R_drewN | apply Kd.R_drew)); exact HO_4.out) (Kd.R_base ho0) hb); have n1_ := Aside0.mk (Kd.R_lower (Kd.R_new' ho0 (Kd.R_lt (by (with_reducible repeat (first | apply Kd.R_alloc | apply Kd.R_drewN | apply Kd.R_drew)); exact HO_4.out))) (below_size (by repeat (first | (with_reducible first | exact HB.out | apply below_alloc | apply pw_below_drewN | apply below_drew1) | exact HB.out)))); have n2_ := Aside0.mk (below_step (by repeat (first | (with_reducible first | exact HB.out | apply below_alloc | apply pw_below_drewN | apply below_drew1) | exact HB.out)) hb); clear HO_4; clear HB; have HO_4 := n0_; have HO593 := n1_; have HB := n2_; clear n0_ n1_ n2_; (try clear hb); (try clear hb2); (try clear hk); (try clear hi); (try clear ho0); obtain ⟨Ao21, co21, eo21⟩ := Kd.R_slice HO593.out; subst eo21) | ((with_reducible refine gate_callee (f := 23) rfl ?_); refine goesL_ (some 62) rfl rfl Try.func23 (by kernel_rfl) rfl #[.slice Ao21 t591.length co21] rfl (by (try simp only [List.map_toArray, List.map_cons, List.map_nil]); first | done | rfl | (simp only [List.length_drop, List.length_take]; rfl)) ?_; (with_reducible refine (impl_ScriptCost.calls kj5 _ _ t591 t594 _ ?side1 ?side2 A18.out).mono ?_); (case side1 => repeat (first | exact (Kd.R_reads' HO593.out).2.2 | (with_reducible refine Kd.C_alloc ?_ _) | (with_reducible refine Kd.C_drewN ?_ _) | (with_reducible refine Kd.C_drew ?_))); (case side2 => exact (Kd.R_reads' HO593.out).2.1); rintro e w22 ⟨rfl, hb⟩; refine ⟨_, rfl, ?_⟩; have n0_ := Aside0.mk (Kd.R_below (by (with_reducible repeat (first | apply Kd.R_alloc | apply Kd.R_drewN | apply Kd.R_drew)); exact HO_4.out) hb); have n1_ := Aside0.mk (Kd.R_below (by (with_reducible repeat (first | apply Kd.R_alloc | apply Kd.R_drewN | apply Kd.R_drew)); exact HO593.out) hb); have n2_ := Aside0.mk (below_step (by repeat (first | (with_reducible first | exact HB.out | apply below_alloc | apply pw_below_drewN | apply below_drew1) | exact HB.out)) hb); clear HO_4; clear HO593; clear HB; have HO_4 := n0_; have HO593 := n1_; have HB := n2_; clear n0_ n1_ n2_; (try clear hb); (try clear hb2); (try clear hk); (try clear hi)) | ((with_reducible refine gate_callee (f := 23) rfl ?_); refine goesL_ (some 64) rfl rfl Try.func23 (by kernel_rfl) rfl #[.slice Ao8 t584.length co8] rfl (by (try simp only [List.map_toArray, List.map_cons, List.map_nil]); first | done | rfl | (simp only [List.length_drop, List.length_take]; rfl)) ?_; (with_reducible refine (impl_ScriptCost.calls kj5 _ _ t584 t595 _ ?side1 ?side2 A19.out).mono ?_); (case side1 => repeat (first | exact (Kd.R_reads' HO_4.out).2.2 | (with_reducible refine Kd.C_alloc ?_ _) | (with_reducible refine Kd.C_drewN ?_ _) | (with_reducible refine Kd.C_drew ?_))); (case side2 => exact (Kd.R_reads' HO_4.out).2.1); rintro e w23 ⟨rfl, hb⟩; refine ⟨_, rfl, ?_⟩; have n0_ := Aside0.mk (Kd.R_below (by (with_reducible repeat (first | apply Kd.R_alloc | apply Kd.R_drewN | apply Kd.R_drew)); exact HO_4.out) hb); have n1_ := Aside0.mk (Kd.R_below (by (with_reducible repeat (first | apply Kd.R_alloc | apply Kd.R_drewN | apply Kd.R_drew)); exact HO593.out) hb); have n2_ := Aside0.mk (below_step (by repeat (first | (with_reducible first | exact HB.out | apply below_alloc | apply pw_below_drewN | apply below_drew1) | exact HB.out)) hb); clear HO_4; clear HO593; clear HB; have HO_4 := n0_; have HO593 := n1_; have HB := n2_; clear n0_ n1_ n2_; (try clear hb); (try clear hb2); (try clear hk); (try clear hi)))
     go_ret
     exact ⟨by first | rfl | (simp [errW_none, errW_some] <;> rfl) | (simp [*, errW_none, errW_some] <;> rfl), by repeat (first | (with_reducible first | exact HB.out | apply below_alloc | apply pw_below_drewN | apply below_drew1) | exact HB.out)⟩

/-- THE ONE PURE STATEMENT of laws_FnScriptMinimal: yours. -/
def laws_FnScriptMinimal.Pure : Prop := ∀ (l0 : List Int), l0.length ≤ maxLen → l0.length * 1 ≤ 140737488351232 → (∀ x ∈ l0, (Lit.int .u8 x).wf = true) → ∃ k, laws_FnScriptMinimal.f k l0 = some true
theorem laws_FnScriptMinimal.walk (P : laws_FnScriptMinimal.Pure) (a0 : Option Addr) (len0 cap0 : Nat) (z0 : List Int) (w : World) (w0 : (a0 = none ∧ len0 = 0 ∧ cap0 = 0 ∧ z0 = []) ∨ ∃ x, a0 = some x ∧ len0 ≤ cap0 ∧ cap0 ≤ maxLen ∧ z0.length = cap0 ∧ (∀ i, i < z0.length → w.cell? (x.add i) = some (.int .u8 (z0.getD i 0))) ∧ ∀ n ∈ z0, (Lit.int .u8 n).wf = true) (y0 : len0 * 1 ≤ 140737488351232) :
  Calls Try.prog 17 #[.slice a0 len0 cap0] w fun e w' => e = .returned (.bool true) ∧ Below w.heap.size w w' := by
 obtain ⟨l0, rfl, hr0, hm0, hw0, hc0⟩ := ReadsInt.ofRowC w0
 obtain ⟨k, h⟩ := P l0 hm0 y0 hw0
 refine (laws_FnScriptMinimal.calls k _ _ l0 true w (Kd.C_of_reads (d := (0 : Int)) (h1 := fun _ => rfl) hr0) hc0 h).mono ?_
 rintro e w' ⟨rfl, hd⟩
 exact ⟨rfl, hd⟩

end Go.Proofs.Ytnlfmbdnleclfaa.Q
