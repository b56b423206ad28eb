import Derived.Test.YtnlfmbdnleclfaaQ0
import Derived.Test.YtnlfmbdnleclfaaQ28
import Derived.Test.YtnlfmbdnleclfaaQ31
import Derived.Test.YtnlfmbdnleclfaaQ50
namespace Go.Proofs.Ytnlfmbdnleclfaa.Q
open Go.RowKit Go.Proofs.YtnlfmbdnleclfaaW.PrintWords Go.Proofs.YtnlfmbdnleclfaaW.PrintLast Go.Proofs.YtnlfmbdnleclfaaW.PrintMore
attribute [local go_sem] max2_int min2_int max_two min_two max_three min_three max_four min_four
set_option linter.unusedVariables false
set_option linter.unusedSimpArgs false

/-! ### laws_FnApplyScript: function 13 -/
mutual
def laws_FnApplyScript.j0 : Nat → ByteArray → List (S43) → ByteArray → Bool → ByteArray → Bool → Bool → Option (Bool)
 | 0, _, _, _, _, _, _, _ => none
 | k + 1, x3, x4, x5, x6, x7, x8, x42 => if x42 = true then (if (x6 == x8) = true then (some (x5.toList == x7.toList)) else (some false)) else (laws_FnApplyScript.l0 k x4 x5 (x3.size : Int) 0)
def laws_FnApplyScript.l0 : Nat → List (S43) → ByteArray → Int → Int → Option (Bool)
 | 0, _, _, _, _ => none
 | k + 1, x4, x5, x9, x10 => if x10 < (x4.length : Int) then (if 0 ≤ x10 then (if ((rd_T43 x4 x10).f0) = 1 then (laws_FnApplyScript.l0 k x4 x5 (wrap64 (x9 + (((rd_T43 x4 x10).f2).size : Int))) (wrap64 (x10 + 1))) else (laws_FnApplyScript.l0 k x4 x5 (wrap64 (x9 - (((rd_T43 x4 x10).f2).size : Int))) (wrap64 (x10 + 1)))) else (none)) else (some (x9 == (x5.size : Int)))
end
def laws_FnApplyScript.f (k : Nat) (l0 : List Int) : Option (Bool) := if (l0.length : Int) > 1048576 then (some true) else ((spec_DrawApplyScript.f k l0).bind fun bt518 => ((impl_ApplyScript.f k bt518.1 bt518.2).bind fun bt522 => ((spec_ApplyScript.f k bt518.1 bt518.2).bind fun bt524 => (if (bt522.2 != bt524.2) = true then (laws_FnApplyScript.j0 k bt518.1 bt518.2 bt522.1 bt522.2 bt524.1 bt524.2 true) else (if bt522.1.toList = bt524.1.toList then (laws_FnApplyScript.j0 k bt518.1 bt518.2 bt522.1 bt522.2 bt524.1 bt524.2 (!bt522.2)) else (laws_FnApplyScript.j0 k bt518.1 bt518.2 bt522.1 bt522.2 bt524.1 bt524.2 true))))))
theorem laws_FnApplyScript.mono_l : ∀ k, (∀ y0 y1 y2 y3 y4 y5 y6, LeO (laws_FnApplyScript.j0 k y0 y1 y2 y3 y4 y5 y6) (laws_FnApplyScript.j0 (k + 1) y0 y1 y2 y3 y4 y5 y6)) ∧ (∀ y0 y1 y2 y3, LeO (laws_FnApplyScript.l0 k y0 y1 y2 y3) (laws_FnApplyScript.l0 (k + 1) y0 y1 y2 y3))
 | 0 => ⟨fun _ _ _ _ _ _ _ r h => by simp [laws_FnApplyScript.j0] at h, fun _ _ _ _ r h => by simp [laws_FnApplyScript.l0] at h⟩
 | k + 1 => by
  obtain ⟨ih0, ih1⟩ := laws_FnApplyScript.mono_l k
  refine ⟨?_, ?_⟩
  ·intro y0 y1 y2 y3 y4 y5 y6
   unfold laws_FnApplyScript.j0
   repeat' first
   | (with_reducible exact ih0 _ _ _ _ _ _ _)
   | (with_reducible exact ih1 _ _ _ _)
   | (with_reducible exact impl_ApplyScript.mono _ _ _)
   | (with_reducible exact spec_ApplyScript.mono _ _ _)
   | (with_reducible exact spec_DrawApplyScript.mono _ _)
   | (with_reducible exact LeO.refl _)
   | (with_reducible exact LeO.none _)
   | (with_reducible refine LeO.ite ?_ ?_)
   | (with_reducible refine LeO.bind ?_ (fun _ => ?_))
   | exact ih0 _ _ _ _ _ _ _
   | exact ih1 _ _ _ _
   | exact impl_ApplyScript.mono _ _ _
   | exact spec_ApplyScript.mono _ _ _
   | exact spec_DrawApplyScript.mono _ _
   | exact LeO.none _
   | refine LeO.ite ?_ ?_
   | refine LeO.bind ?_ (fun _ => ?_)
  ·intro y0 y1 y2 y3
   unfold laws_FnApplyScript.l0
   repeat' first
   | (with_reducible exact ih0 _ _ _ _ _ _ _)
   | (with_reducible exact ih1 _ _ _ _)
   | (with_reducible exact impl_ApplyScript.mono _ _ _)
   | (with_reducible exact spec_ApplyScript.mono _ _ _)
   | (with_reducible exact spec_DrawApplyScript.mono _ _)
   | (with_reducible exact LeO.refl _)
   | (with_reducible exact LeO.none _)
   | (with_reducible refine LeO.ite ?_ ?_)
   | (with_reducible refine LeO.bind ?_ (fun _ => ?_))
   | exact ih0 _ _ _ _ _ _ _
   | exact ih1 _ _ _ _
   | exact impl_ApplyScript.mono _ _ _
   | exact spec_ApplyScript.mono _ _ _
   | exact spec_DrawApplyScript.mono _ _
   | exact LeO.none _
   | refine LeO.ite ?_ ?_
   | refine LeO.bind ?_ (fun _ => ?_)
theorem laws_FnApplyScript.mono : ∀ a0 k, LeO (laws_FnApplyScript.f k a0) (laws_FnApplyScript.f (k + 1) a0) := by
 intro a0 k
 obtain ⟨ih0, ih1⟩ := laws_FnApplyScript.mono_l k
 unfold laws_FnApplyScript.f
 repeat' first
   | (with_reducible exact ih0 _ _ _ _ _ _ _)
   | (with_reducible exact ih1 _ _ _ _)
   | (with_reducible exact impl_ApplyScript.mono _ _ _)
   | (with_reducible exact spec_ApplyScript.mono _ _ _)
   | (with_reducible exact spec_DrawApplyScript.mono _ _)
   | (with_reducible exact LeO.refl _)
   | (with_reducible exact LeO.none _)
   | (with_reducible refine LeO.ite ?_ ?_)
   | (with_reducible refine LeO.bind ?_ (fun _ => ?_))
   | exact ih0 _ _ _ _ _ _ _
   | exact ih1 _ _ _ _
   | exact impl_ApplyScript.mono _ _ _
   | exact spec_ApplyScript.mono _ _ _
   | exact spec_DrawApplyScript.mono _ _
   | exact LeO.none _
   | refine LeO.ite ?_ ?_
   | refine LeO.bind ?_ (fun _ => ?_)
set_option maxHeartbeats 8000000 in
set_option maxRecDepth 100000 in
theorem laws_FnApplyScript.calls (k : Nat) (A0 : Option Addr) (c0 : Nat) (l0 : List Int) (r : Bool) (w : World) (hr0 : Kd.C (Kd.int .u8) w A0 l0.length l0) (hc0 : l0.length ≤ c0) (h : laws_FnApplyScript.f k l0 = some r) :
  Calls Try.prog 13 #[.slice A0 l0.length c0] w fun e w' => e = .returned (.bool r) ∧ Below w.heap.size w w' := by
 have HR0 := Aside0.mk hr0
 have HC0 := Aside0.mk hc0
 clear hr0 hc0
 have HB := Aside0.mk (Below.refl w.heap.size w)
 have H : (if (l0.length : Int) > 1048576 then (some true) else ((spec_DrawApplyScript.f k l0).bind fun bt518 => ((impl_ApplyScript.f k bt518.1 bt518.2).bind fun bt522 => ((spec_ApplyScript.f k bt518.1 bt518.2).bind fun bt524 => (if (bt522.2 != bt524.2) = true then (laws_FnApplyScript.j0 k bt518.1 bt518.2 bt522.1 bt522.2 bt524.1 bt524.2 true) else (if bt522.1.toList = bt524.1.toList then (laws_FnApplyScript.j0 k bt518.1 bt518.2 bt522.1 bt522.2 bt524.1 bt524.2 (!bt522.2)) else (laws_FnApplyScript.j0 k bt518.1 bt518.2 bt522.1 bt522.2 bt524.1 bt524.2 true))))))) = some r := h
 clear h
 by_cases c2 : (l0.length : Int) > 1048576
 ·rw [if_pos c2] at H
  have c2b0 : decide (1048576 < (l0.length : Int)) = true := decide_eq_true c2
  have c2b1 : decide (1048576 < l0.length) = true := decide_eq_true (by omega)
  clear c2
  obtain rfl := Option.some.inj H
  go_enter Try.func13, Try.ntmps13
  go_wp2
  go_ret
  exact ⟨by first | rfl | (simp [errW_none, errW_some] <;> rfl) | (simp [*, errW_none, errW_some] <;> rfl), by repeat (first | (with_reducible first | exact HB.out | apply below_alloc | apply pw_below_drewN | apply below_drew1) | exact HB.out)⟩
 ·rw [if_neg c2] at H
  have c2b0 : decide (1048576 < (l0.length : Int)) = false := decide_eq_false c2
  have c2b1 : decide (1048576 < l0.length) = false := decide_eq_false (by omega)
  clear c2
  replace H := Option.bind_eq_some_iff.mp H
  obtain ⟨⟨t518, t519⟩, A30, H⟩ := H
  replace H : ((impl_ApplyScript.f k t518 t519).bind fun bt522 => ((spec_ApplyScript.f k t518 t519).bind fun bt524 => (if (bt522.2 != bt524.2) = true then (laws_FnApplyScript.j0 k t518 t519 bt522.1 bt522.2 bt524.1 bt524.2 true) else (if bt522.1.toList = bt524.1.toList then (laws_FnApplyScript.j0 k t518 t519 bt522.1 bt522.2 bt524.1 bt524.2 (!bt522.2)) else (laws_FnApplyScript.j0 k t518 t519 bt522.1 bt522.2 bt524.1 bt524.2 true))))) = some r := H
  have A3 := Aside0.mk A30
  clear A30
  replace H := Option.bind_eq_some_iff.mp H
  obtain ⟨⟨t522, t523⟩, A40, H⟩ := H
  replace H : ((spec_ApplyScript.f k t518 t519).bind fun bt524 => (if (t523 != bt524.2) = true then (laws_FnApplyScript.j0 k t518 t519 t522 t523 bt524.1 bt524.2 true) else (if t522.toList = bt524.1.toList then (laws_FnApplyScript.j0 k t518 t519 t522 t523 bt524.1 bt524.2 (!t523)) else (laws_FnApplyScript.j0 k t518 t519 t522 t523 bt524.1 bt524.2 true)))) = some r := H
  have A4 := Aside0.mk A40
  clear A40
  replace H := Option.bind_eq_some_iff.mp H
  obtain ⟨⟨t524, t525⟩, A50, H⟩ := H
  replace H : (if (t523 != t525) = true then (laws_FnApplyScript.j0 k t518 t519 t522 t523 t524 t525 true) else (if t522.toList = t524.toList then (laws_FnApplyScript.j0 k t518 t519 t522 t523 t524 t525 (!t523)) else (laws_FnApplyScript.j0 k t518 t519 t522 t523 t524 t525 true))) = some r := H
  have A5 := Aside0.mk A50
  clear A50
  have HC6 := Aside0.mk H
  clear H
  go_enter Try.func13, Try.ntmps13
  go_upto_region 6 with (first | ((with_reducible refine gate_callee (f := 36) rfl ?_); refine goesL_ (some 16) rfl rfl Try.func36 (by kernel_rfl) rfl #[.slice A0 l0.length c0] rfl (by (try simp only [List.map_toArray, List.map_cons, List.map_nil]); first | done | rfl | (simp only [List.length_drop, List.length_take]; rfl)) ?_; (with_reducible refine (spec_DrawApplyScript.calls k _ _ l0 t518 t519 _ ?side1 ?side2 A3.out).mono ?_); (case side1 => repeat (first | exact HR0.out | (with_reducible refine Kd.C_alloc ?_ _) | (with_reducible refine Kd.C_drewN ?_ _) | (with_reducible refine Kd.C_drew ?_))); (case side2 => exact HC0.out); rintro e w7 ⟨v520, rfl, ho0, hb⟩; refine ⟨_, rfl, ?_⟩; have n0_ := Aside0.mk (Kd.R_lower ho0 (below_size (by repeat (first | (with_reducible first | exact HB.out | apply below_alloc | apply pw_below_drewN | apply below_drew1) | exact HB.out)))); have n1_ := Aside0.mk (below_step (by repeat (first | (with_reducible first | exact HB.out | apply below_alloc | apply pw_below_drewN | apply below_drew1) | exact HB.out)) hb); clear HB; have HO521 := n0_; have HB := n1_; clear n0_ n1_; (try clear hb); (try clear hb2); (try clear hk); (try clear hi); (try clear ho0); obtain ⟨Ao8, co8, eo8⟩ := Kd.R_slice HO521.out; subst eo8) | ((with_reducible refine gate_callee (f := 27) rfl ?_); refine goesL_ (some 22) rfl rfl Try.func27 (by kernel_rfl) rfl #[.string t518, .slice Ao8 t519.length co8] rfl (by (try simp only [List.map_toArray, List.map_cons, List.map_nil]); first | done | rfl | (simp only [List.length_drop, List.length_take]; rfl)) ?_; (with_reducible refine (impl_ApplyScript.calls k t518 _ _ t519 t522 t523 _ ?side1 ?side2 A4.out).mono ?_); (case side1 => repeat (first | exact (Kd.R_reads' HO521.out).2.2 | (with_reducible refine Kd.C_alloc ?_ _) | (with_reducible refine Kd.C_drewN ?_ _) | (with_reducible refine Kd.C_drew ?_))); (case side2 => exact (Kd.R_reads' HO521.out).2.1); rintro e w9 ⟨rfl, hb⟩; refine ⟨_, rfl, ?_⟩; have n0_ := Aside0.mk (Kd.R_below (by (with_reducible repeat (first | apply Kd.R_alloc | apply Kd.R_drewN | apply Kd.R_drew)); exact HO521.out) hb); have n1_ := Aside0.mk (below_step (by repeat (first | (with_reducible first | exact HB.out | apply below_alloc | apply pw_below_drewN | apply below_drew1) | exact HB.out)) hb); clear HO521; clear HB; have HO521 := n0_; have HB := n1_; clear n0_ n1_; (try clear hb); (try clear hb2); (try clear hk); (try clear hi)) | ((with_reducible refine gate_callee (f := 26) rfl ?_); refine goesL_ (some 28) rfl rfl Try.func26 (by kernel_rfl) rfl #[.string t518, .slice Ao8 t519.length co8] rfl (by (try simp only [List.map_toArray, List.map_cons, List.map_nil]); first | done | rfl | (simp only [List.length_drop, List.length_take]; rfl)) ?_; (with_reducible refine (spec_ApplyScript.calls k t518 _ _ t519 t524 t525 _ ?side1 ?side2 A5.out).mono ?_); (case side1 => repeat (first | exact (Kd.R_reads' HO521.out).2.2 | (with_reducible refine Kd.C_alloc ?_ _) | (with_reducible refine Kd.C_drewN ?_ _) | (with_reducible refine Kd.C_drew ?_))); (case side2 => exact (Kd.R_reads' HO521.out).2.1); rintro e w10 ⟨rfl, hb⟩; refine ⟨_, rfl, ?_⟩; have n0_ := Aside0.mk (Kd.R_below (by (with_reducible repeat (first | apply Kd.R_alloc | apply Kd.R_drewN | apply Kd.R_drew)); exact HO521.out) hb); have n1_ := Aside0.mk (below_step (by repeat (first | (with_reducible first | exact HB.out | apply below_alloc | apply pw_below_drewN | apply below_drew1) | exact HB.out)) hb); clear HO521; clear HB; have HO521 := n0_; have HB := n1_; clear n0_ n1_; (try clear hb); (try clear hb2); (try clear hk); (try clear hi)))
  (try simp only [Act.put, List.setIfInBounds_toArray, List.set_cons_zero, List.set_cons_succ])
  go_cut [42] (fun v42 wc => ∃ (kq : Nat) (x42_5 : Bool), v42 = .bool x42_5 ∧ Aside0 (laws_FnApplyScript.j0 kq t518 t519 t522 t523 t524 t525 x42_5 = some r) ∧ Aside0 (kq ≤ k) ∧ Aside0 (Kd.R k43 43 wc w.heap.size (fun _ => True) (.slice Ao8 t519.length co8) t519) ∧ Aside0 (Below w.heap.size w wc))
  case first =>
   have H := HC6.out
   clear HC6
   by_cases c11 : (t523 != t525) = true
   ·rw [if_pos c11] at H
    have c11b0 : (t523 != t525) = true := c11
    (try (have c11b1 : decide (t523 = t525) = false := by simpa using c11))
    (try (have c11b2 : (t523 == t525) = false := by simpa using c11))
    (try (have c11b3 : ¬ (t523 = t525) := by simpa using c11))
    clear c11
    (first | rw [c11b0] | (simp only [i64_w, i32_w]; rw [c11b0]) | skip)
    have H' := Aside0.mk H
    clear H
    go_wp2
    go_meet
    case rel => exact ⟨_, (true), (by first | rfl | (simp; done) | (simp [*]; done)), H', ⟨by first | omega | exact Nat.le_refl _⟩, ⟨by (with_reducible repeat (first | apply Kd.R_alloc | apply Kd.R_drewN | apply Kd.R_drew)); exact HO521.out⟩, ⟨by repeat (first | (with_reducible first | exact HB.out | apply below_alloc | apply pw_below_drewN | apply below_drew1) | exact HB.out)⟩⟩
   ·rw [if_neg c11] at H
    have c11b0 : (t523 != t525) = false := by simpa using c11
    (try (have c11b1 : decide (t523 = t525) = true := by simpa using c11))
    (try (have c11b2 : (t523 == t525) = true := by simpa using c11))
    clear c11
    (first | rw [c11b0] | (simp only [i64_w, i32_w]; rw [c11b0]) | skip)
    by_cases c12 : t522.toList = t524.toList
    ·rw [if_pos c12] at H
     have c12b0 : (t522.toList == t524.toList) = true := beq_iff_eq.mpr c12
     have c12b1 : (t522.toList != t524.toList) = false := bne_eq_false_iff_eq.mpr c12
     clear c12
     have H' := Aside0.mk H
     clear H
     go_wp2
     go_meet
     case rel => exact ⟨_, (!t523), (by first | rfl | (simp; done) | (simp [*]; done)), H', ⟨by first | omega | exact Nat.le_refl _⟩, ⟨by (with_reducible repeat (first | apply Kd.R_alloc | apply Kd.R_drewN | apply Kd.R_drew)); exact HO521.out⟩, ⟨by repeat (first | (with_reducible first | exact HB.out | apply below_alloc | apply pw_below_drewN | apply below_drew1) | exact HB.out)⟩⟩
    ·rw [if_neg c12] at H
     have c12b0 : (t522.toList == t524.toList) = false := beq_eq_false_iff_ne.mpr c12
     have c12b1 : (t522.toList != t524.toList) = true := bne_iff_ne.mpr c12
     have H' := Aside0.mk H
     clear H
     go_wp2
     go_meet
     case rel => exact ⟨_, (true), (by first | rfl | (simp; done) | (simp [*]; done)), H', ⟨by first | omega | exact Nat.le_refl _⟩, ⟨by (with_reducible repeat (first | apply Kd.R_alloc | apply Kd.R_drewN | apply Kd.R_drew)); exact HO521.out⟩, ⟨by repeat (first | (with_reducible first | exact HB.out | apply below_alloc | apply pw_below_drewN | apply below_drew1) | exact HB.out)⟩⟩
  case rest =>
   clear HC6
   try clear c1
   try clear c2
   try clear c2b0
   try clear c2b1
   try clear p2
   try clear c3
   try clear c11
   try clear c11b0
   try clear c11b1
   try clear c11b2
   try clear c12
   try clear c12b0
   try clear c12b1
   obtain ⟨kq, x42_5, rfl, HA, HJ5, HO_4, HB⟩ := hcut
   cases kq with
   | zero => exact absurd HA.out (by simp [laws_FnApplyScript.j0])
   | succ kj5 =>
    have H := HA.out
    clear HA
    simp only [laws_FnApplyScript.j0] at H
    by_cases c13 : x42_5 = true
    ·subst c13
     have H1 : (if (t523 == t525) = true then (some (t522.toList == t524.toList)) else (some false)) = some r := by rw [if_pos rfl] at H; exact H
     clear H
     have H := H1
     clear H1
     by_cases c14 : (t523 == t525) = true
     ·rw [if_pos c14] at H
      have c14b0 : (t523 == t525) = true := c14
      (try (have c14b1 : decide (t523 = t525) = true := by simpa using c14))
      (try (have c14b2 : (t523 == t525) = true := by simpa using c14))
      clear c14
      obtain rfl := Option.some.inj H
      go_wp2
      go_ret
      exact ⟨by first | rfl | (simp [errW_none, errW_some] <;> rfl) | (simp [*, errW_none, errW_some] <;> rfl), by repeat (first | (with_reducible first | exact HB.out | apply below_alloc | apply pw_below_drewN | apply below_drew1) | exact HB.out)⟩
     ·rw [if_neg c14] at H
      have c14b0 : (t523 == t525) = false := by simpa using c14
      (try (have c14b1 : decide (t523 = t525) = false := by simpa using c14))
      (try (have c14b2 : (t523 == t525) = false := by simpa using c14))
      (try (have c14b3 : ¬ (t523 = t525) := by simpa using c14))
      clear c14
      obtain rfl := Option.some.inj H
      go_wp2
      go_ret
      exact ⟨by first | rfl | (simp [errW_none, errW_some] <;> rfl) | (simp [*, errW_none, errW_some] <;> rfl), by repeat (first | (with_reducible first | exact HB.out | apply below_alloc | apply pw_below_drewN | apply below_drew1) | exact HB.out)⟩
    ·replace c13 := Bool.eq_false_iff.mpr c13
     subst c13
     have H1 : (laws_FnApplyScript.l0 kj5 t519 t522 (t518.size : Int) 0) = some r := by rw [if_neg (show ¬ (false = true) by decide)] at H; exact H
     clear H
     have H := H1
     clear H1
     have H' := Aside0.mk H
     clear H
     go_wp2
     go_loopg [9, 10] kj5 (fun kq v9 v10 w' => ∃ (x9_2 : Int) (x10_2 : Int), v9 = .int .i64 x9_2 ∧ v10 = .int .i64 x10_2 ∧ Aside0 (laws_FnApplyScript.l0 kq t519 t522 x9_2 x10_2 = some r) ∧ Aside0 (kq ≤ kj5) ∧ Aside0 (Kd.R k43 43 w' w.heap.size (fun _ => True) (.slice Ao8 t519.length co8) t519) ∧ Aside0 (Below w.heap.size w w'))
     case atStart => exact ⟨((t518.size : Int)), (0), (by first | rfl | (simp; done) | (simp [*]; done)), (by first | rfl | (simp; done) | (simp [*]; done)), H', ⟨Nat.le_refl _⟩, ⟨by (with_reducible repeat (first | apply Kd.R_alloc | apply Kd.R_drewN | apply Kd.R_drew)); exact HO_4.out⟩, ⟨by repeat (first | (with_reducible first | exact HB.out | apply below_alloc | apply pw_below_drewN | apply below_drew1) | exact HB.out)⟩⟩
     case round =>
      clear H'
      try clear c1
      try clear c2
      try clear c2b0
      try clear c2b1
      try clear p2
      try clear c3
      try clear c11
      try clear c11b0
      try clear c11b1
      try clear c11b2
      try clear c12
      try clear c12b0
      try clear c12b1
      try clear c13
      try clear c14
      try clear c14b0
      try clear c14b1
      try clear c14b2
      try clear p2
      obtain ⟨x9_2, x10_2, rfl, rfl, HA, HK2, HO_4, HB⟩ := hrel
      cases gk with
      | zero => exact absurd HA.out (by simp [laws_FnApplyScript.l0])
      | succ k2 =>
       have H := HA.out
       clear HA
       simp only [laws_FnApplyScript.l0] at H
       by_cases c15 : x10_2 < (t519.length : Int)
       ·rw [if_pos c15] at H
        have c15b0 : decide (x10_2 < (t519.length : Int)) = true := decide_eq_true c15
        clear c15
        by_cases c16 : 0 ≤ x10_2
        ·rw [if_pos c16] at H
         have c16b0 : decide (0 ≤ x10_2) = true := decide_eq_true c16
         clear c16
         by_cases c17 : ((rd_T43 t519 x10_2).f0) = 1
         ·rw [if_pos c17] at H
          have c17b0 : (((rd_T43 t519 x10_2).f0) == 1) = true := beq_iff_eq.mpr c17
          have c17b1 : (((rd_T43 t519 x10_2).f0) != 1) = false := bne_eq_false_iff_eq.mpr c17
          clear c17
          have H' := Aside0.mk H
          clear H
          have p526 : 0 ≤ (x10_2 : Int) := of_decide_eq_true (by first | (with_reducible assumption) | assumption)
          have q526 : x10_2 < (t519.length : Int) := of_decide_eq_true (by first | (with_reducible assumption) | assumption)
          obtain ⟨ad526, e526, hx526_0, hx526_1, hx526_2⟩ := at_T43 (Kd.R_reads' HO_4.out).2.2 x10_2 p526 q526
          cases e526
          replace p526 := eq_true p526
          replace q526 := eq_true q526
          have p527 : 0 ≤ (x10_2 : Int) := of_decide_eq_true (by first | (with_reducible assumption) | assumption)
          have q527 : x10_2 < (t519.length : Int) := of_decide_eq_true (by first | (with_reducible assumption) | assumption)
          obtain ⟨ad527, e527, hx527_0, hx527_1, hx527_2⟩ := at_T43 (Kd.R_reads' HO_4.out).2.2 x10_2 p527 q527
          obtain rfl : ad526 = ad527 := (by injection e527)
          replace p527 := eq_true p527
          replace q527 := eq_true q527
          go_wp2
          go_roundg k2
          case measure => have := HJ5.out; have := HK2.out; omega
          case rel => exact ⟨(wrap64 (x9_2 + (((rd_T43 t519 x10_2).f2).size : Int))), (wrap64 (x10_2 + 1)), (by first | rfl | (simp; done) | (simp [*]; done)), (by first | rfl | (simp; done) | (simp [*]; done)), H', ⟨by have := HJ5.out; have := HK2.out; omega⟩, ⟨by (with_reducible repeat (first | apply Kd.R_alloc | apply Kd.R_drewN | apply Kd.R_drew)); exact HO_4.out⟩, ⟨by repeat (first | (with_reducible first | exact HB.out | apply below_alloc | apply pw_below_drewN | apply below_drew1) | exact HB.out)⟩⟩
         ·rw [if_neg c17] at H
          have c17b0 : (((rd_T43 t519 x10_2).f0) == 1) = false := beq_eq_false_iff_ne.mpr c17
          have c17b1 : (((rd_T43 t519 x10_2).f0) != 1) = true := bne_iff_ne.mpr c17
          have H' := Aside0.mk H
          clear H
          have p526 : 0 ≤ (x10_2 : Int) := of_decide_eq_true (by first | (with_reducible assumption) | assumption)
          have q526 : x10_2 < (t519.length : Int) := of_decide_eq_true (by first | (with_reducible assumption) | assumption)
          obtain ⟨ad526, e526, hx526_0, hx526_1, hx526_2⟩ := at_T43 (Kd.R_reads' HO_4.out).2.2 x10_2 p526 q526
          cases e526
          replace p526 := eq_true p526
          replace q526 := eq_true q526
          have p528 : 0 ≤ (x10_2 : Int) := of_decide_eq_true (by first | (with_reducible assumption) | assumption)
          have q528 : x10_2 < (t519.length : Int) := of_decide_eq_true (by first | (with_reducible assumption) | assumption)
          obtain ⟨ad528, e528, hx528_0, hx528_1, hx528_2⟩ := at_T43 (Kd.R_reads' HO_4.out).2.2 x10_2 p528 q528
          obtain rfl : ad526 = ad528 := (by injection e528)
          replace p528 := eq_true p528
          replace q528 := eq_true q528
          go_wp2
          go_roundg k2
          case measure => have := HJ5.out; have := HK2.out; omega
          case rel => exact ⟨(wrap64 (x9_2 - (((rd_T43 t519 x10_2).f2).size : Int))), (wrap64 (x10_2 + 1)), (by first | rfl | (simp; done) | (simp [*]; done)), (by first | rfl | (simp; done) | (simp [*]; done)), H', ⟨by have := HJ5.out; have := HK2.out; omega⟩, ⟨by (with_reducible repeat (first | apply Kd.R_alloc | apply Kd.R_drewN | apply Kd.R_drew)); exact HO_4.out⟩, ⟨by repeat (first | (with_reducible first | exact HB.out | apply below_alloc | apply pw_below_drewN | apply below_drew1) | exact HB.out)⟩⟩
        ·rw [if_neg c16] at H
         exact absurd H (by simp)
       ·rw [if_neg c15] at H
        have c15b0 : decide (x10_2 < (t519.length : Int)) = false := decide_eq_false c15
        clear c15
        obtain rfl := Option.some.inj H
        go_wp2
        go_ret
        exact ⟨by first | rfl | (simp [errW_none, errW_some] <;> rfl) | (simp [*, errW_none, errW_some] <;> rfl), by repeat (first | (with_reducible first | exact HB.out | apply below_alloc | apply pw_below_drewN | apply below_drew1) | exact HB.out)⟩

/-- THE ONE PURE STATEMENT of laws_FnApplyScript: yours. -/
def laws_FnApplyScript.Pure : Prop := ∀ (l0 : List Int), l0.length ≤ maxLen → l0.length * 1 ≤ 140737488351232 → (∀ x ∈ l0, (Lit.int .u8 x).wf = true) → ∃ k, laws_FnApplyScript.f k l0 = some true
theorem laws_FnApplyScript.walk (P : laws_FnApplyScript.Pure) (a0 : Option Addr) (len0 cap0 : Nat) (z0 : List Int) (w : World) (w0 : (a0 = none ∧ len0 = 0 ∧ cap0 = 0 ∧ z0 = []) ∨ ∃ x, a0 = some x ∧ len0 ≤ cap0 ∧ cap0 ≤ maxLen ∧ z0.length = cap0 ∧ (∀ i, i < z0.length → w.cell? (x.add i) = some (.int .u8 (z0.getD i 0))) ∧ ∀ n ∈ z0, (Lit.int .u8 n).wf = true) (y0 : len0 * 1 ≤ 140737488351232) :
  Calls Try.prog 13 #[.slice a0 len0 cap0] w fun e w' => e = .returned (.bool true) ∧ Below w.heap.size w w' := by
 obtain ⟨l0, rfl, hr0, hm0, hw0, hc0⟩ := ReadsInt.ofRowC w0
 obtain ⟨k, h⟩ := P l0 hm0 y0 hw0
 refine (laws_FnApplyScript.calls k _ _ l0 true w (Kd.C_of_reads (d := (0 : Int)) (h1 := fun _ => rfl) hr0) hc0 h).mono ?_
 rintro e w' ⟨rfl, hd⟩
 exact ⟨rfl, hd⟩

end Go.Proofs.Ytnlfmbdnleclfaa.Q
