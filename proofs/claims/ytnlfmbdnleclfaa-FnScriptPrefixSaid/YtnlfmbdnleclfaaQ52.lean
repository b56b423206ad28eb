import Derived.Test.YtnlfmbdnleclfaaQ0
import Derived.Test.YtnlfmbdnleclfaaQ28
import Derived.Test.YtnlfmbdnleclfaaQ31
import Derived.Test.YtnlfmbdnleclfaaQ50
namespace Go.Proofs.Ytnlfmbdnleclfaa.Q
open Go.RowKit Go.Proofs.YtnlfmbdnleclfaaW.PrintWords Go.Proofs.YtnlfmbdnleclfaaW.PrintLast Go.Proofs.YtnlfmbdnleclfaaW.PrintMore
attribute [local go_sem] max2_int min2_int max_two min_two max_three min_three max_four min_four
set_option linter.unusedVariables false
set_option linter.unusedSimpArgs false

/-! ### laws_FnScriptPrefix: function 14 -/
mutual
def laws_FnScriptPrefix.j0 : Nat → List Int → List Int → Bool → Option (Bool)
 | 0, _, _, _ => none
 | k + 1, x0, x1, x23 => if x23 = true then (some true) else ((spec_DrawApplyScript.f k x0).bind fun bt529 => ((impl_ApplyScript.f k bt529.1 bt529.2).bind fun bt533 => ((spec_ApplyScript.f k bt529.1 bt529.2).bind fun bt535 => (if (bt533.2 != bt535.2) = true then (laws_FnScriptPrefix.j1 k x1 bt529.1 bt529.2 bt533.1 bt533.2 true) else (laws_FnScriptPrefix.j1 k x1 bt529.1 bt529.2 bt533.1 bt533.2 (bt533.1.toList != bt535.1.toList))))))
def laws_FnScriptPrefix.j1 : Nat → List Int → ByteArray → List (S43) → ByteArray → Bool → Bool → Option (Bool)
 | 0, _, _, _, _, _, _ => none
 | k + 1, x1, x5, x6, x7, x8, x48 => if x48 = true then (some false) else (if (wrap64 ((x6.length : Int) + 1)) = 0 then (none) else (if 0 ≤ ((x1.length : Int) % (wrap64 ((x6.length : Int) + 1))) then (if ((x1.length : Int) % (wrap64 ((x6.length : Int) + 1))) ≤ (x6.length : Int) then ((impl_ApplyScript.f k x5 (x6.take (((x1.length : Int) % (wrap64 ((x6.length : Int) + 1))) : Int).toNat)).bind fun bt541 => ((impl_ApplyScript.f k bt541.1 (x6.drop (((x1.length : Int) % (wrap64 ((x6.length : Int) + 1))) : Int).toNat)).bind fun bt547 => (if bt541.2 = true then (if (x8 == bt547.2) = true then (if x8 = true then (some (bt547.1.toList == x7.toList)) else (some true)) else (some false)) else (if (x8 == false) = true then (if x8 = true then (some (bt547.1.toList == x7.toList)) else (some true)) else (some false))))) else (none)) else (none)))
end
def laws_FnScriptPrefix.f (k : Nat) (l0 : List Int) (l1 : List Int) : Option (Bool) := if (l0.length : Int) > 1048576 then (laws_FnScriptPrefix.j0 k l0 l1 true) else (laws_FnScriptPrefix.j0 k l0 l1 (decide ((l1.length : Int) > 1048576)))
theorem laws_FnScriptPrefix.mono_l : ∀ k, (∀ y0 y1 y2, LeO (laws_FnScriptPrefix.j0 k y0 y1 y2) (laws_FnScriptPrefix.j0 (k + 1) y0 y1 y2)) ∧ (∀ y0 y1 y2 y3 y4 y5, LeO (laws_FnScriptPrefix.j1 k y0 y1 y2 y3 y4 y5) (laws_FnScriptPrefix.j1 (k + 1) y0 y1 y2 y3 y4 y5))
 | 0 => ⟨fun _ _ _ r h => by simp [laws_FnScriptPrefix.j0] at h, fun _ _ _ _ _ _ r h => by simp [laws_FnScriptPrefix.j1] at h⟩
 | k + 1 => by
  obtain ⟨ih0, ih1⟩ := laws_FnScriptPrefix.mono_l k
  refine ⟨?_, ?_⟩
  ·intro y0 y1 y2
   unfold laws_FnScriptPrefix.j0
   repeat' first
   | (with_reducible exact ih0 _ _ _)
   | (with_reducible exact ih1 _ _ _ _ _ _)
   | (with_reducible exact impl_ApplyScript.mono _ _ _)
   | (with_reducible exact spec_ApplyScript.mono _ _ _)
   | (with_reducible exact spec_DrawApplyScript.mono _ _)
   | (with_reducible exact LeO.refl _)
   | (with_reducible exact LeO.none _)
   | (with_reducible refine LeO.ite ?_ ?_)
   | (with_reducible refine LeO.bind ?_ (fun _ => ?_))
   | exact ih0 _ _ _
   | exact ih1 _ _ _ _ _ _
   | exact impl_ApplyScript.mono _ _ _
   | exact spec_ApplyScript.mono _ _ _
   | exact spec_DrawApplyScript.mono _ _
   | exact LeO.none _
   | refine LeO.ite ?_ ?_
   | refine LeO.bind ?_ (fun _ => ?_)
  ·intro y0 y1 y2 y3 y4 y5
   unfold laws_FnScriptPrefix.j1
   repeat' first
   | (with_reducible exact ih0 _ _ _)
   | (with_reducible exact ih1 _ _ _ _ _ _)
   | (with_reducible exact impl_ApplyScript.mono _ _ _)
   | (with_reducible exact spec_ApplyScript.mono _ _ _)
   | (with_reducible exact spec_DrawApplyScript.mono _ _)
   | (with_reducible exact LeO.refl _)
   | (with_reducible exact LeO.none _)
   | (with_reducible refine LeO.ite ?_ ?_)
   | (with_reducible refine LeO.bind ?_ (fun _ => ?_))
   | exact ih0 _ _ _
   | exact ih1 _ _ _ _ _ _
   | exact impl_ApplyScript.mono _ _ _
   | exact spec_ApplyScript.mono _ _ _
   | exact spec_DrawApplyScript.mono _ _
   | exact LeO.none _
   | refine LeO.ite ?_ ?_
   | refine LeO.bind ?_ (fun _ => ?_)
theorem laws_FnScriptPrefix.mono : ∀ a0 a1 k, LeO (laws_FnScriptPrefix.f k a0 a1) (laws_FnScriptPrefix.f (k + 1) a0 a1) := by
 intro a0 a1 k
 obtain ⟨ih0, ih1⟩ := laws_FnScriptPrefix.mono_l k
 unfold laws_FnScriptPrefix.f
 repeat' first
   | (with_reducible exact ih0 _ _ _)
   | (with_reducible exact ih1 _ _ _ _ _ _)
   | (with_reducible exact impl_ApplyScript.mono _ _ _)
   | (with_reducible exact spec_ApplyScript.mono _ _ _)
   | (with_reducible exact spec_DrawApplyScript.mono _ _)
   | (with_reducible exact LeO.refl _)
   | (with_reducible exact LeO.none _)
   | (with_reducible refine LeO.ite ?_ ?_)
   | (with_reducible refine LeO.bind ?_ (fun _ => ?_))
   | exact ih0 _ _ _
   | exact ih1 _ _ _ _ _ _
   | exact impl_ApplyScript.mono _ _ _
   | exact spec_ApplyScript.mono _ _ _
   | exact spec_DrawApplyScript.mono _ _
   | exact LeO.none _
   | refine LeO.ite ?_ ?_
   | refine LeO.bind ?_ (fun _ => ?_)
set_option maxHeartbeats 8000000 in
set_option maxRecDepth 100000 in
theorem laws_FnScriptPrefix.calls (k : Nat) (A0 : Option Addr) (c0 : Nat) (l0 : List Int) (A1 : Option Addr) (c1 : Nat) (l1 : List Int) (r : Bool) (w : World) (hr0 : Kd.C (Kd.int .u8) w A0 l0.length l0) (hc0 : l0.length ≤ c0) (hr1 : Kd.C (Kd.int .u8) w A1 l1.length l1) (hc1 : l1.length ≤ c1) (h : laws_FnScriptPrefix.f k l0 l1 = some r) :
  Calls Try.prog 14 #[.slice A0 l0.length c0, .slice A1 l1.length c1] w fun e w' => e = .returned (.bool r) ∧ Below w.heap.size w w' := by
 have HR0 := Aside0.mk hr0
 have HC0 := Aside0.mk hc0
 clear hr0 hc0
 have HR1 := Aside0.mk hr1
 have HC1 := Aside0.mk hc1
 clear hr1 hc1
 have HB := Aside0.mk (Below.refl w.heap.size w)
 have H : (if (l0.length : Int) > 1048576 then (laws_FnScriptPrefix.j0 k l0 l1 true) else (laws_FnScriptPrefix.j0 k l0 l1 (decide ((l1.length : Int) > 1048576)))) = some r := h
 clear h
 have HC3 := Aside0.mk H
 clear H
 go_enter Try.func14, Try.ntmps14
 go_upto_region 1 with (fail)
 go_cut [23] (fun v23 wc => ∃ (kq : Nat) (x23_2 : Bool), v23 = .bool x23_2 ∧ Aside0 (laws_FnScriptPrefix.j0 kq l0 l1 x23_2 = some r) ∧ Aside0 (kq ≤ k) ∧ Aside0 (Below w.heap.size w wc))
 case first =>
  have H := HC3.out
  clear HC3
  by_cases c4 : (l0.length : Int) > 1048576
  ·rw [if_pos c4] at H
   have c4b0 : decide (1048576 < (l0.length : Int)) = true := decide_eq_true c4
   have c4b1 : decide (1048576 < l0.length) = true := decide_eq_true (by omega)
   clear c4
   (first | rw [c4b0] | (simp only [i64_w, i32_w]; rw [c4b0]) | skip)
   have H' := Aside0.mk H
   clear H
   go_wp2
   go_meet
   case rel => exact ⟨_, (true), (by first | rfl | (simp; done) | (simp [*]; done)), H', ⟨by first | omega | exact Nat.le_refl _⟩, ⟨by repeat (first | (with_reducible first | exact HB.out | apply below_alloc | apply pw_below_drewN | apply below_drew1) | exact HB.out)⟩⟩
  ·rw [if_neg c4] at H
   have c4b0 : decide (1048576 < (l0.length : Int)) = false := decide_eq_false c4
   have c4b1 : decide (1048576 < l0.length) = false := decide_eq_false (by omega)
   clear c4
   (first | rw [c4b0] | (simp only [i64_w, i32_w]; rw [c4b0]) | skip)
   have H' := Aside0.mk H
   clear H
   go_wp2
   go_meet
   case rel => exact ⟨_, (decide ((l1.length : Int) > 1048576)), (by first | rfl | (simp; done) | (simp [*]; done)), H', ⟨by first | omega | exact Nat.le_refl _⟩, ⟨by repeat (first | (with_reducible first | exact HB.out | apply below_alloc | apply pw_below_drewN | apply below_drew1) | exact HB.out)⟩⟩
 case rest =>
  clear HC3
  try clear c1
  try clear p2
  try clear c4
  try clear c4b0
  try clear c4b1
  obtain ⟨kq, x23_2, rfl, HA, HJ2, HB⟩ := hcut
  cases kq with
  | zero => exact absurd HA.out (by simp [laws_FnScriptPrefix.j0])
  | succ kj2 =>
   have H := HA.out
   clear HA
   simp only [laws_FnScriptPrefix.j0] at H
   by_cases c5 : x23_2 = true
   ·subst c5
    have H1 : (some true) = some r := by rw [if_pos rfl] at H; exact H
    clear H
    have H := H1
    clear H1
    obtain rfl := Option.some.inj H
    go_wp2
    go_ret
    exact ⟨by first | rfl | (simp [errW_none, errW_some] <;> rfl) | (simp [*, errW_none, errW_some] <;> rfl), by repeat (first | (with_reducible first | exact HB.out | apply below_alloc | apply pw_below_drewN | apply below_drew1) | exact HB.out)⟩
   ·replace c5 := Bool.eq_false_iff.mpr c5
    subst c5
    have H1 : ((spec_DrawApplyScript.f kj2 l0).bind fun bt529 => ((impl_ApplyScript.f kj2 bt529.1 bt529.2).bind fun bt533 => ((spec_ApplyScript.f kj2 bt529.1 bt529.2).bind fun bt535 => (if (bt533.2 != bt535.2) = true then (laws_FnScriptPrefix.j1 kj2 l1 bt529.1 bt529.2 bt533.1 bt533.2 true) else (laws_FnScriptPrefix.j1 kj2 l1 bt529.1 bt529.2 bt533.1 bt533.2 (bt533.1.toList != bt535.1.toList)))))) = some r := by rw [if_neg (show ¬ (false = true) by decide)] at H; exact H
    clear H
    have H := H1
    clear H1
    replace H := Option.bind_eq_some_iff.mp H
    obtain ⟨⟨t529, t530⟩, A60, H⟩ := H
    replace H : ((impl_ApplyScript.f kj2 t529 t530).bind fun bt533 => ((spec_ApplyScript.f kj2 t529 t530).bind fun bt535 => (if (bt533.2 != bt535.2) = true then (laws_FnScriptPrefix.j1 kj2 l1 t529 t530 bt533.1 bt533.2 true) else (laws_FnScriptPrefix.j1 kj2 l1 t529 t530 bt533.1 bt533.2 (bt533.1.toList != bt535.1.toList))))) = some r := H
    have A6 := Aside0.mk A60
    clear A60
    replace H := Option.bind_eq_some_iff.mp H
    obtain ⟨⟨t533, t534⟩, A70, H⟩ := H
    replace H : ((spec_ApplyScript.f kj2 t529 t530).bind fun bt535 => (if (t534 != bt535.2) = true then (laws_FnScriptPrefix.j1 kj2 l1 t529 t530 t533 t534 true) else (laws_FnScriptPrefix.j1 kj2 l1 t529 t530 t533 t534 (t533.toList != bt535.1.toList)))) = some r := H
    have A7 := Aside0.mk A70
    clear A70
    replace H := Option.bind_eq_some_iff.mp H
    obtain ⟨⟨t535, t536⟩, A80, H⟩ := H
    replace H : (if (t534 != t536) = true then (laws_FnScriptPrefix.j1 kj2 l1 t529 t530 t533 t534 true) else (laws_FnScriptPrefix.j1 kj2 l1 t529 t530 t533 t534 (t533.toList != t535.toList))) = some r := H
    have A8 := Aside0.mk A80
    clear A80
    have HC9 := Aside0.mk H
    clear H
    go_upto_region 6 with (first | ((with_reducible refine gate_callee (f := 36) rfl ?_); refine goesL_ (some 26) rfl rfl Try.func36 (by kernel_rfl) rfl #[.slice A0 l0.length c0] rfl (by (try simp only [List.map_toArray, List.map_cons, List.map_nil]); first | done | rfl | (simp only [List.length_drop, List.length_take]; rfl)) ?_; (with_reducible refine (spec_DrawApplyScript.calls kj2 _ _ l0 t529 t530 _ ?side1 ?side2 A6.out).mono ?_); (case side1 => repeat (first | exact (Kd.C_below HR0.out HB.out) | (with_reducible refine Kd.C_alloc ?_ _) | (with_reducible refine Kd.C_drewN ?_ _) | (with_reducible refine Kd.C_drew ?_))); (case side2 => exact HC0.out); rintro e w10 ⟨v531, rfl, ho0, hb⟩; refine ⟨_, rfl, ?_⟩; have n0_ := Aside0.mk (Kd.R_lower ho0 (below_size (by repeat (first | (with_reducible first | exact HB.out | apply below_alloc | apply pw_below_drewN | apply below_drew1) | exact HB.out)))); have n1_ := Aside0.mk (below_step (by repeat (first | (with_reducible first | exact HB.out | apply below_alloc | apply pw_below_drewN | apply below_drew1) | exact HB.out)) hb); clear HB; have HO532 := n0_; have HB := n1_; clear n0_ n1_; (try clear hb); (try clear hb2); (try clear hk); (try clear hi); (try clear ho0); obtain ⟨Ao11, co11, eo11⟩ := Kd.R_slice HO532.out; subst eo11) | ((with_reducible refine gate_callee (f := 27) rfl ?_); refine goesL_ (some 32) rfl rfl Try.func27 (by kernel_rfl) rfl #[.string t529, .slice Ao11 t530.length co11] rfl (by (try simp only [List.map_toArray, List.map_cons, List.map_nil]); first | done | rfl | (simp only [List.length_drop, List.length_take]; rfl)) ?_; (with_reducible refine (impl_ApplyScript.calls kj2 t529 _ _ t530 t533 t534 _ ?side1 ?side2 A7.out).mono ?_); (case side1 => repeat (first | exact (Kd.R_reads' HO532.out).2.2 | (with_reducible refine Kd.C_alloc ?_ _) | (with_reducible refine Kd.C_drewN ?_ _) | (with_reducible refine Kd.C_drew ?_))); (case side2 => exact (Kd.R_reads' HO532.out).2.1); rintro e w12 ⟨rfl, hb⟩; refine ⟨_, rfl, ?_⟩; have n0_ := Aside0.mk (Kd.R_below (by (with_reducible repeat (first | apply Kd.R_alloc | apply Kd.R_drewN | apply Kd.R_drew)); exact HO532.out) hb); have n1_ := Aside0.mk (below_step (by repeat (first | (with_reducible first | exact HB.out | apply below_alloc | apply pw_below_drewN | apply below_drew1) | exact HB.out)) hb); clear HO532; clear HB; have HO532 := n0_; have HB := n1_; clear n0_ n1_; (try clear hb); (try clear hb2); (try clear hk); (try clear hi)) | ((with_reducible refine gate_callee (f := 26) rfl ?_); refine goesL_ (some 38) rfl rfl Try.func26 (by kernel_rfl) rfl #[.string t529, .slice Ao11 t530.length co11] rfl (by (try simp only [List.map_toArray, List.map_cons, List.map_nil]); first | done | rfl | (simp only [List.length_drop, List.length_take]; rfl)) ?_; (with_reducible refine (spec_ApplyScript.calls kj2 t529 _ _ t530 t535 t536 _ ?side1 ?side2 A8.out).mono ?_); (case side1 => repeat (first | exact (Kd.R_reads' HO532.out).2.2 | (with_reducible refine Kd.C_alloc ?_ _) | (with_reducible refine Kd.C_drewN ?_ _) | (with_reducible refine Kd.C_drew ?_))); (case side2 => exact (Kd.R_reads' HO532.out).2.1); rintro e w13 ⟨rfl, hb⟩; refine ⟨_, rfl, ?_⟩; have n0_ := Aside0.mk (Kd.R_below (by (with_reducible repeat (first | apply Kd.R_alloc | apply Kd.R_drewN | apply Kd.R_drew)); exact HO532.out) hb); have n1_ := Aside0.mk (below_step (by repeat (first | (with_reducible first | exact HB.out | apply below_alloc | apply pw_below_drewN | apply below_drew1) | exact HB.out)) hb); clear HO532; clear HB; have HO532 := n0_; have HB := n1_; clear n0_ n1_; (try clear hb); (try clear hb2); (try clear hk); (try clear hi)))
    (try simp only [Act.put, List.setIfInBounds_toArray, List.set_cons_zero, List.set_cons_succ])
    go_cut [48] (fun v48 wc => ∃ (kq : Nat) (x48_8 : Bool), v48 = .bool x48_8 ∧ Aside0 (laws_FnScriptPrefix.j1 kq l1 t529 t530 t533 t534 x48_8 = some r) ∧ Aside0 (kq ≤ kj2) ∧ Aside0 (Kd.R k43 43 wc w.heap.size (fun _ => True) (.slice Ao11 t530.length co11) t530) ∧ Aside0 (Below w.heap.size w wc))
    case first =>
     have H := HC9.out
     clear HC9
     by_cases c14 : (t534 != t536) = true
     ·rw [if_pos c14] at H
      have c14b0 : (t534 != t536) = true := c14
      (try (have c14b1 : decide (t534 = t536) = false := by simpa using c14))
      (try (have c14b2 : (t534 == t536) = false := by simpa using c14))
      (try (have c14b3 : ¬ (t534 = t536) := by simpa using c14))
      clear c14
      (first | rw [c14b0] | (simp only [i64_w, i32_w]; rw [c14b0]) | skip)
      have H' := Aside0.mk H
      clear H
      go_wp2
      go_meet
      case rel => exact ⟨_, (true), (by first | rfl | (simp; done) | (simp [*]; done)), H', ⟨by have := HJ2.out; first | omega | exact Nat.le_refl _⟩, ⟨by (with_reducible repeat (first | apply Kd.R_alloc | apply Kd.R_drewN | apply Kd.R_drew)); exact HO532.out⟩, ⟨by repeat (first | (with_reducible first | exact HB.out | apply below_alloc | apply pw_below_drewN | apply below_drew1) | exact HB.out)⟩⟩
     ·rw [if_neg c14] at H
      have c14b0 : (t534 != t536) = false := by simpa using c14
      (try (have c14b1 : decide (t534 = t536) = true := by simpa using c14))
      (try (have c14b2 : (t534 == t536) = true := by simpa using c14))
      clear c14
      (first | rw [c14b0] | (simp only [i64_w, i32_w]; rw [c14b0]) | skip)
      have H' := Aside0.mk H
      clear H
      go_wp2
      go_meet
      case rel => exact ⟨_, ((t533.toList != t535.toList)), (by first | rfl | (simp; done) | (simp [*]; done)), H', ⟨by have := HJ2.out; first | omega | exact Nat.le_refl _⟩, ⟨by (with_reducible repeat (first | apply Kd.R_alloc | apply Kd.R_drewN | apply Kd.R_drew)); exact HO532.out⟩, ⟨by repeat (first | (with_reducible first | exact HB.out | apply below_alloc | apply pw_below_drewN | apply below_drew1) | exact HB.out)⟩⟩
    case rest =>
     clear HC9
     try clear c1
     try clear c2
     try clear p2
     try clear c3
     try clear c4
     try clear c4b0
     try clear c4b1
     try clear c5
     try clear c14
     try clear c14b0
     try clear c14b1
     try clear c14b2
     try clear p2
     obtain ⟨kq, x48_8, rfl, HA, HJ8, HO_6, HB⟩ := hcut
     cases kq with
     | zero => exact absurd HA.out (by simp [laws_FnScriptPrefix.j1])
     | succ kj8 =>
      have H := HA.out
      clear HA
      simp only [laws_FnScriptPrefix.j1] at H
      by_cases c15 : x48_8 = true
      ·subst c15
       have H1 : (some false) = some r := by rw [if_pos rfl] at H; exact H
       clear H
       have H := H1
       clear H1
       obtain rfl := Option.some.inj H
       go_wp2
       go_ret
       exact ⟨by first | rfl | (simp [errW_none, errW_some] <;> rfl) | (simp [*, errW_none, errW_some] <;> rfl), by repeat (first | (with_reducible first | exact HB.out | apply below_alloc | apply pw_below_drewN | apply below_drew1) | exact HB.out)⟩
      ·replace c15 := Bool.eq_false_iff.mpr c15
       subst c15
       have H1 : (if (wrap64 ((t530.length : Int) + 1)) = 0 then (none) else (if 0 ≤ ((l1.length : Int) % (wrap64 ((t530.length : Int) + 1))) then (if ((l1.length : Int) % (wrap64 ((t530.length : Int) + 1))) ≤ (t530.length : Int) then ((impl_ApplyScript.f kj8 t529 (t530.take (((l1.length : Int) % (wrap64 ((t530.length : Int) + 1))) : Int).toNat)).bind fun bt541 => ((impl_ApplyScript.f kj8 bt541.1 (t530.drop (((l1.length : Int) % (wrap64 ((t530.length : Int) + 1))) : Int).toNat)).bind fun bt547 => (if bt541.2 = true then (if (t534 == bt547.2) = true then (if t534 = true then (some (bt547.1.toList == t533.toList)) else (some true)) else (some false)) else (if (t534 == false) = true then (if t534 = true then (some (bt547.1.toList == t533.toList)) else (some true)) else (some false))))) else (none)) else (none))) = some r := by rw [if_neg (show ¬ (false = true) by decide)] at H; exact H
       clear H
       have H := H1
       clear H1
       by_cases c16 : (wrap64 ((t530.length : Int) + 1)) = 0
       ·rw [if_pos c16] at H
        exact absurd H (by simp)
       ·rw [if_neg c16] at H
        have c16b0 : ((wrap64 ((t530.length : Int) + 1)) == 0) = false := beq_eq_false_iff_ne.mpr c16
        have c16b1 : ((wrap64 ((t530.length : Int) + 1)) != 0) = true := bne_iff_ne.mpr c16
        obtain ⟨ji17, hji17⟩ : ∃ j_ : Int, ((l1.length : Int) % (wrap64 ((t530.length : Int) + 1))) = j_ := ⟨_, rfl⟩
        replace H : (if 0 ≤ (ji17) then (if (ji17) ≤ (t530.length : Int) then ((impl_ApplyScript.f kj8 t529 (t530.take ((ji17) : Int).toNat)).bind fun bt541 => ((impl_ApplyScript.f kj8 bt541.1 (t530.drop ((ji17) : Int).toNat)).bind fun bt547 => (if bt541.2 = true then (if (t534 == bt547.2) = true then (if t534 = true then (some (bt547.1.toList == t533.toList)) else (some true)) else (some false)) else (if (t534 == false) = true then (if t534 = true then (some (bt547.1.toList == t533.toList)) else (some true)) else (some false))))) else (none)) else (none)) = some r := by first | (rw [hji17] at H; exact H) | (simp only [hji17] at H ⊢; exact H)
        by_cases c18 : 0 ≤ (ji17)
        ·rw [if_pos c18] at H
         have c18b0 := eq_true c18
         have c18b1 : decide (0 ≤ (ji17)) = true := decide_eq_true c18
         clear c18
         by_cases c19 : (ji17) ≤ (t530.length : Int)
         ·rw [if_pos c19] at H
          have c19b0 := eq_true c19
          have c19b1 : decide ((ji17) ≤ (t530.length : Int)) = true := decide_eq_true c19
          clear c19
          obtain ⟨y537, hy537⟩ : ∃ y_ : List (S43), y_ = (t530.take ((ji17) : Int).toNat) := ⟨_, rfl⟩
          replace H : ((impl_ApplyScript.f kj8 t529 y537).bind fun bt541 => ((impl_ApplyScript.f kj8 bt541.1 (t530.drop ((ji17) : Int).toNat)).bind fun bt547 => (if bt541.2 = true then (if (t534 == bt547.2) = true then (if t534 = true then (some (bt547.1.toList == t533.toList)) else (some true)) else (some false)) else (if (t534 == false) = true then (if t534 = true then (some (bt547.1.toList == t533.toList)) else (some true)) else (some false))))) = some r := by first | (rw [hy537]; with_reducible exact H) | (have H2_ := (Option.bind_some _ _).symm.trans H; rw [hy537]; with_reducible exact H2_) | (have H2_ := (Option.bind_some _ _).symm.trans H; with_reducible exact H2_) | with_reducible exact H | (rw [hy537]; exact H) | exact H
          have Ny537 := Aside0.mk hy537
          clear hy537
          replace H := Option.bind_eq_some_iff.mp H
          obtain ⟨⟨t541, t542⟩, A200, H⟩ := H
          replace H : ((impl_ApplyScript.f kj8 t541 (t530.drop ((ji17) : Int).toNat)).bind fun bt547 => (if t542 = true then (if (t534 == bt547.2) = true then (if t534 = true then (some (bt547.1.toList == t533.toList)) else (some true)) else (some false)) else (if (t534 == false) = true then (if t534 = true then (some (bt547.1.toList == t533.toList)) else (some true)) else (some false)))) = some r := H
          have A20 := Aside0.mk A200
          clear A200
          have c21b0 := eq_true (of_decide_eq_true (by first | (with_reducible assumption) | assumption) : 0 ≤ (ji17))
          have c22b0 := eq_true (of_decide_eq_true (by first | (with_reducible assumption) | assumption) : (ji17) ≤ (t530.length : Int))
          obtain ⟨y543, hy543⟩ : ∃ y_ : List (S43), y_ = (t530.drop ((ji17) : Int).toNat) := ⟨_, rfl⟩
          replace H : ((impl_ApplyScript.f kj8 t541 y543).bind fun bt547 => (if t542 = true then (if (t534 == bt547.2) = true then (if t534 = true then (some (bt547.1.toList == t533.toList)) else (some true)) else (some false)) else (if (t534 == false) = true then (if t534 = true then (some (bt547.1.toList == t533.toList)) else (some true)) else (some false)))) = some r := by first | (rw [hy543]; with_reducible exact H) | (have H2_ := (Option.bind_some _ _).symm.trans H; rw [hy543]; with_reducible exact H2_) | (have H2_ := (Option.bind_some _ _).symm.trans H; with_reducible exact H2_) | with_reducible exact H | (rw [hy543]; exact H) | exact H
          have Ny543 := Aside0.mk hy543
          clear hy543
          replace H := Option.bind_eq_some_iff.mp H
          obtain ⟨⟨t547, t548⟩, A230, H⟩ := H
          replace H : (if t542 = true then (if (t534 == t548) = true then (if t534 = true then (some (t547.toList == t533.toList)) else (some true)) else (some false)) else (if (t534 == false) = true then (if t534 = true then (some (t547.toList == t533.toList)) else (some true)) else (some false))) = some r := H
          have A23 := Aside0.mk A230
          clear A230
          by_cases c24 : t542 = true
          ·subst c24
           have H1 : (if (t534 == t548) = true then (if t534 = true then (some (t547.toList == t533.toList)) else (some true)) else (some false)) = some r := by rw [if_pos rfl] at H; exact H
           clear H
           have H := H1
           clear H1
           by_cases c25 : (t534 == t548) = true
           ·rw [if_pos c25] at H
            have c25b0 : (t534 == t548) = true := c25
            (try (have c25b1 : decide (t534 = t548) = true := by simpa using c25))
            (try (have c25b2 : (t534 == t548) = true := by simpa using c25))
            clear c25
            by_cases c26 : t534 = true
            ·subst c26
             have H1 : (some (t547.toList == t533.toList)) = some r := by rw [if_pos rfl] at H; exact H
             clear H
             have H := H1
             clear H1
             obtain rfl := Option.some.inj H
             have q27 : ((ji17) : Int) ≤ ((t530.length : Int) : Int) := of_decide_eq_true (by first | (with_reducible assumption) | assumption)
             obtain ⟨i027, hi027, _, hsz27, _⟩ := info_parts info43
             have hroom27 : t530.length ≤ co11 := (Kd.R_reads' HO_6.out).2.1
             have hC27 : Kd.C k43 _ Ao11 t530.length t530 := (Kd.R_reads' HO_6.out).2.2
             have hcut27 := cut_to (P := Try.prog) 27 43 .i64 Try.underlying27 hi027 Ao11 t530.length co11 (ji17) (of_decide_eq_true (by first | (with_reducible assumption) | assumption)) q27 hroom27
             have hr27 := Kd.C_take (m := ((ji17) : Int).toNat) hC27 (by omega)
             have hy27 : y537.length = ((ji17) : Int).toNat := (by rw [Ny537.out, List.length_take]; omega)
             rw [← Ny537.out] at hr27
             rw [← hy27] at hcut27
             have HR540 := Aside0.mk hr27
             have HC540 := Aside0.mk (show y537.length ≤ co11 from by omega)
             clear hr27 hC27 hroom27 hi027 hsz27
             have KY27 := Aside0.mk hy27
             clear hy27
             have KL27 := Aside0.mk (show ((ji17) : Int).toNat ≤ t530.length from by omega)
             replace q27 := eq_true q27
             go_wp2_with (first | ((with_reducible refine gate_callee (f := 27) rfl ?_); refine goesL_ (some 60) rfl rfl Try.func27 (by kernel_rfl) rfl #[.string t529, .slice Ao11 y537.length co11] rfl (by (try simp only [List.map_toArray, List.map_cons, List.map_nil]); first | done | rfl | (simp only [List.length_drop, List.length_take]; rfl)) ?_; (with_reducible refine (impl_ApplyScript.calls kj8 t529 _ _ y537 t541 true _ ?side1 ?side2 A20.out).mono ?_); (case side1 => repeat (first | exact (by repeat (first | (with_reducible exact HR540.out) | (with_reducible refine Kd.C_alloc ?_ _) | (with_reducible refine Kd.C_drewN ?_ _) | (with_reducible refine Kd.C_drew ?_) | exact HR540.out)) | (with_reducible refine Kd.C_alloc ?_ _) | (with_reducible refine Kd.C_drewN ?_ _) | (with_reducible refine Kd.C_drew ?_))); (case side2 => exact HC540.out); rintro e w28 ⟨rfl, hb⟩; refine ⟨_, rfl, ?_⟩; have n0_ := Aside0.mk (Kd.R_below (by (with_reducible repeat (first | apply Kd.R_alloc | apply Kd.R_drewN | apply Kd.R_drew)); exact HO_6.out) hb); have n1_ := Aside0.mk (Kd.C_below (by repeat (first | (with_reducible exact HR540.out) | (with_reducible refine Kd.C_alloc ?_ _) | (with_reducible refine Kd.C_drewN ?_ _) | (with_reducible refine Kd.C_drew ?_) | exact HR540.out)) hb); have n2_ := Aside0.mk (below_step (by repeat (first | (with_reducible first | exact HB.out | apply below_alloc | apply pw_below_drewN | apply below_drew1) | exact HB.out)) hb); clear HO_6; clear HR540; clear HB; have HO_6 := n0_; have HR540 := n1_; have HB := n2_; clear n0_ n1_ n2_; (try clear hb); (try clear hb2); (try clear hk); (try clear hi); have q29 : ((ji17) : Int) ≤ ((t530.length : Int) : Int) := of_decide_eq_true (by first | (with_reducible assumption) | assumption); obtain ⟨i029, hi029, _, hsz29, _⟩ := info_parts info43; have hroom29 : t530.length ≤ co11 := (Kd.R_reads' HO_6.out).2.1; have hC29 : Kd.C k43 _ Ao11 t530.length t530 := (Kd.R_reads' HO_6.out).2.2; have q029 : (0 : Int) ≤ ((ji17) : Int) := of_decide_eq_true (by first | (with_reducible assumption) | assumption); have hcut29 := cut_from (P := Try.prog) 27 43 .i64 Try.underlying27 hi029 3 hsz29 Ao11 t530.length co11 (ji17) q029 q29; have hr29 := Kd.C_drop (m := ((ji17) : Int).toNat) (c := co11) hC29 (by omega) hroom29; obtain ⟨A29, hA29⟩ : ∃ A1, A1 = (if co11 = ((ji17) : Int).toNat then Ao11 else (Ao11 : Option Addr).map (·.add (((ji17) : Int).toNat * 3))) := ⟨_, rfl⟩; obtain ⟨c29, hc29⟩ : ∃ c1, c1 = co11 - ((ji17) : Int).toNat := ⟨_, rfl⟩; have hy29 : y543.length = t530.length - ((ji17) : Int).toNat := (by rw [Ny543.out, List.length_drop] <;> omega); rw [show (t530).drop ((ji17) : Int).toNat = y543 from Ny543.out.symm] at hr29; replace hr29 : Kd.C k43 _ A29 y543.length y543 := (by rw [hA29]; exact hr29); rw [← hy29, ← hA29, ← hc29] at hcut29; have HR546 := Aside0.mk hr29; have HC546 := Aside0.mk (show y543.length ≤ c29 from by rw [hy29, hc29]; exact Nat.sub_le_sub_right hroom29 _); clear hr29 hC29 hroom29 hi029 hsz29 hc29; have KY29 := Aside0.mk hy29; have KA29 := Aside0.mk hA29; clear hy29 hA29; have KL29 := Aside0.mk (show ((ji17) : Int).toNat ≤ t530.length from by omega); replace q29 := eq_true q29) | ((with_reducible refine gate_callee (f := 27) rfl ?_); refine goesL_ (some 68) rfl rfl Try.func27 (by kernel_rfl) rfl #[.string t541, .slice A29 y543.length c29] rfl (by (try simp only [List.map_toArray, List.map_cons, List.map_nil]); first | done | rfl | (simp only [List.length_drop, List.length_take]; rfl)) ?_; (with_reducible refine (impl_ApplyScript.calls kj8 t541 _ _ y543 t547 t548 _ ?side1 ?side2 A23.out).mono ?_); (case side1 => repeat (first | exact (by repeat (first | (with_reducible exact HR546.out) | (with_reducible refine Kd.C_alloc ?_ _) | (with_reducible refine Kd.C_drewN ?_ _) | (with_reducible refine Kd.C_drew ?_) | exact HR546.out)) | (with_reducible refine Kd.C_alloc ?_ _) | (with_reducible refine Kd.C_drewN ?_ _) | (with_reducible refine Kd.C_drew ?_))); (case side2 => exact HC546.out); rintro e w30 ⟨rfl, hb⟩; refine ⟨_, rfl, ?_⟩; have n0_ := Aside0.mk (Kd.R_below (by (with_reducible repeat (first | apply Kd.R_alloc | apply Kd.R_drewN | apply Kd.R_drew)); exact HO_6.out) hb); have n1_ := Aside0.mk (Kd.C_below (by repeat (first | (with_reducible exact HR540.out) | (with_reducible refine Kd.C_alloc ?_ _) | (with_reducible refine Kd.C_drewN ?_ _) | (with_reducible refine Kd.C_drew ?_) | exact HR540.out)) hb); have n2_ := Aside0.mk (Kd.C_below (by repeat (first | (with_reducible exact HR546.out) | (with_reducible refine Kd.C_alloc ?_ _) | (with_reducible refine Kd.C_drewN ?_ _) | (with_reducible refine Kd.C_drew ?_) | exact HR546.out)) hb); have n3_ := Aside0.mk (below_step (by repeat (first | (with_reducible first | exact HB.out | apply below_alloc | apply pw_below_drewN | apply below_drew1) | exact HB.out)) hb); clear HO_6; clear HR540; clear HR546; clear HB; have HO_6 := n0_; have HR540 := n1_; have HR546 := n2_; have HB := n3_; clear n0_ n1_ n2_ n3_; (try clear hb); (try clear hb2); (try clear hk); (try clear hi)))
             go_ret
             exact ⟨by first | rfl | (simp [errW_none, errW_some] <;> rfl) | (simp only [← hji17]; first | rfl | (simp [errW_none, errW_some] <;> rfl)) | (simp [*, errW_none, errW_some] <;> rfl), by repeat (first | (with_reducible first | exact HB.out | apply below_alloc | apply pw_below_drewN | apply below_drew1) | exact HB.out)⟩
            ·replace c26 := Bool.eq_false_iff.mpr c26
             subst c26
             have H1 : (some true) = some r := by rw [if_neg (show ¬ (false = true) by decide)] at H; exact H
             clear H
             have H := H1
             clear H1
             obtain rfl := Option.some.inj H
             have q31 : ((ji17) : Int) ≤ ((t530.length : Int) : Int) := of_decide_eq_true (by first | (with_reducible assumption) | assumption)
             obtain ⟨i031, hi031, _, hsz31, _⟩ := info_parts info43
             have hroom31 : t530.length ≤ co11 := (Kd.R_reads' HO_6.out).2.1
             have hC31 : Kd.C k43 _ Ao11 t530.length t530 := (Kd.R_reads' HO_6.out).2.2
             have hcut31 := cut_to (P := Try.prog) 27 43 .i64 Try.underlying27 hi031 Ao11 t530.length co11 (ji17) (of_decide_eq_true (by first | (with_reducible assumption) | assumption)) q31 hroom31
             have hr31 := Kd.C_take (m := ((ji17) : Int).toNat) hC31 (by omega)
             have hy31 : y537.length = ((ji17) : Int).toNat := (by rw [Ny537.out, List.length_take]; omega)
             rw [← Ny537.out] at hr31
             rw [← hy31] at hcut31
             have HR540 := Aside0.mk hr31
             have HC540 := Aside0.mk (show y537.length ≤ co11 from by omega)
             clear hr31 hC31 hroom31 hi031 hsz31
             have KY31 := Aside0.mk hy31
             clear hy31
             have KL31 := Aside0.mk (show ((ji17) : Int).toNat ≤ t530.length from by omega)
             replace q31 := eq_true q31
             go_wp2_with (first | ((with_reducible refine gate_callee (f := 27) rfl ?_); refine goesL_ (some 60) rfl rfl Try.func27 (by kernel_rfl) rfl #[.string t529, .slice Ao11 y537.length co11] rfl (by (try simp only [List.map_toArray, List.map_cons, List.map_nil]); first | done | rfl | (simp only [List.length_drop, List.length_take]; rfl)) ?_; (with_reducible refine (impl_ApplyScript.calls kj8 t529 _ _ y537 t541 true _ ?side1 ?side2 A20.out).mono ?_); (case side1 => repeat (first | exact (by repeat (first | (with_reducible exact HR540.out) | (with_reducible refine Kd.C_alloc ?_ _) | (with_reducible refine Kd.C_drewN ?_ _) | (with_reducible refine Kd.C_drew ?_) | exact HR540.out)) | (with_reducible refine Kd.C_alloc ?_ _) | (with_reducible refine Kd.C_drewN ?_ _) | (with_reducible refine Kd.C_drew ?_))); (case side2 => exact HC540.out); rintro e w32 ⟨rfl, hb⟩; refine ⟨_, rfl, ?_⟩; have n0_ := Aside0.mk (Kd.R_below (by (with_reducible repeat (first | apply Kd.R_alloc | apply Kd.R_drewN | apply Kd.R_drew)); exact HO_6.out) hb); have n1_ := Aside0.mk (Kd.C_below (by repeat (first | (with_reducible exact HR540.out) | (with_reducible refine Kd.C_alloc ?_ _) | (with_reducible refine Kd.C_drewN ?_ _) | (with_reducible refine Kd.C_drew ?_) | exact HR540.out)) hb); have n2_ := Aside0.mk (below_step (by repeat (first | (with_reducible first | exact HB.out | apply below_alloc | apply pw_below_drewN | apply below_drew1) | exact HB.out)) hb); clear HO_6; clear HR540; clear HB; have HO_6 := n0_; have HR540 := n1_; have HB := n2_; clear n0_ n1_ n2_; (try clear hb); (try clear hb2); (try clear hk); (try clear hi); have q33 : ((ji17) : Int) ≤ ((t530.length : Int) : Int) := of_decide_eq_true (by first | (with_reducible assumption) | assumption); obtain ⟨i033, hi033, _, hsz33, _⟩ := info_parts info43; have hroom33 : t530.length ≤ co11 := (Kd.R_reads' HO_6.out).2.1; have hC33 : Kd.C k43 _ Ao11 t530.length t530 := (Kd.R_reads' HO_6.out).2.2; have q033 : (0 : Int) ≤ ((ji17) : Int) := of_decide_eq_true (by first | (with_reducible assumption) | assumption); have hcut33 := cut_from (P := Try.prog) 27 43 .i64 Try.underlying27 hi033 3 hsz33 Ao11 t530.length co11 (ji17) q033 q33; have hr33 := Kd.C_drop (m := ((ji17) : Int).toNat) (c := co11) hC33 (by omega) hroom33; obtain ⟨A33, hA33⟩ : ∃ A1, A1 = (if co11 = ((ji17) : Int).toNat then Ao11 else (Ao11 : Option Addr).map (·.add (((ji17) : Int).toNat * 3))) := ⟨_, rfl⟩; obtain ⟨c33, hc33⟩ : ∃ c1, c1 = co11 - ((ji17) : Int).toNat := ⟨_, rfl⟩; have hy33 : y543.length = t530.length - ((ji17) : Int).toNat := (by rw [Ny543.out, List.length_drop] <;> omega); rw [show (t530).drop ((ji17) : Int).toNat = y543 from Ny543.out.symm] at hr33; replace hr33 : Kd.C k43 _ A33 y543.length y543 := (by rw [hA33]; exact hr33); rw [← hy33, ← hA33, ← hc33] at hcut33; have HR546 := Aside0.mk hr33; have HC546 := Aside0.mk (show y543.length ≤ c33 from by rw [hy33, hc33]; exact Nat.sub_le_sub_right hroom33 _); clear hr33 hC33 hroom33 hi033 hsz33 hc33; have KY33 := Aside0.mk hy33; have KA33 := Aside0.mk hA33; clear hy33 hA33; have KL33 := Aside0.mk (show ((ji17) : Int).toNat ≤ t530.length from by omega); replace q33 := eq_true q33) | ((with_reducible refine gate_callee (f := 27) rfl ?_); refine goesL_ (some 68) rfl rfl Try.func27 (by kernel_rfl) rfl #[.string t541, .slice A33 y543.length c33] rfl (by (try simp only [List.map_toArray, List.map_cons, List.map_nil]); first | done | rfl | (simp only [List.length_drop, List.length_take]; rfl)) ?_; (with_reducible refine (impl_ApplyScript.calls kj8 t541 _ _ y543 t547 t548 _ ?side1 ?side2 A23.out).mono ?_); (case side1 => repeat (first | exact (by repeat (first | (with_reducible exact HR546.out) | (with_reducible refine Kd.C_alloc ?_ _) | (with_reducible refine Kd.C_drewN ?_ _) | (with_reducible refine Kd.C_drew ?_) | exact HR546.out)) | (with_reducible refine Kd.C_alloc ?_ _) | (with_reducible refine Kd.C_drewN ?_ _) | (with_reducible refine Kd.C_drew ?_))); (case side2 => exact HC546.out); rintro e w34 ⟨rfl, hb⟩; refine ⟨_, rfl, ?_⟩; have n0_ := Aside0.mk (Kd.R_below (by (with_reducible repeat (first | apply Kd.R_alloc | apply Kd.R_drewN | apply Kd.R_drew)); exact HO_6.out) hb); have n1_ := Aside0.mk (Kd.C_below (by repeat (first | (with_reducible exact HR540.out) | (with_reducible refine Kd.C_alloc ?_ _) | (with_reducible refine Kd.C_drewN ?_ _) | (with_reducible refine Kd.C_drew ?_) | exact HR540.out)) hb); have n2_ := Aside0.mk (Kd.C_below (by repeat (first | (with_reducible exact HR546.out) | (with_reducible refine Kd.C_alloc ?_ _) | (with_reducible refine Kd.C_drewN ?_ _) | (with_reducible refine Kd.C_drew ?_) | exact HR546.out)) hb); have n3_ := Aside0.mk (below_step (by repeat (first | (with_reducible first | exact HB.out | apply below_alloc | apply pw_below_drewN | apply below_drew1) | exact HB.out)) hb); clear HO_6; clear HR540; clear HR546; clear HB; have HO_6 := n0_; have HR540 := n1_; have HR546 := n2_; have HB := n3_; clear n0_ n1_ n2_ n3_; (try clear hb); (try clear hb2); (try clear hk); (try clear hi)))
             go_ret
             exact ⟨by first | rfl | (simp [errW_none, errW_some] <;> rfl) | (simp only [← hji17]; first | rfl | (simp [errW_none, errW_some] <;> rfl)) | (simp [*, errW_none, errW_some] <;> rfl), by repeat (first | (with_reducible first | exact HB.out | apply below_alloc | apply pw_below_drewN | apply below_drew1) | exact HB.out)⟩
           ·rw [if_neg c25] at H
            have c25b0 : (t534 == t548) = false := by simpa using c25
            (try (have c25b1 : decide (t534 = t548) = false := by simpa using c25))
            (try (have c25b2 : (t534 == t548) = false := by simpa using c25))
            (try (have c25b3 : ¬ (t534 = t548) := by simpa using c25))
            clear c25
            obtain rfl := Option.some.inj H
            have q35 : ((ji17) : Int) ≤ ((t530.length : Int) : Int) := of_decide_eq_true (by first | (with_reducible assumption) | assumption)
            obtain ⟨i035, hi035, _, hsz35, _⟩ := info_parts info43
            have hroom35 : t530.length ≤ co11 := (Kd.R_reads' HO_6.out).2.1
            have hC35 : Kd.C k43 _ Ao11 t530.length t530 := (Kd.R_reads' HO_6.out).2.2
            have hcut35 := cut_to (P := Try.prog) 27 43 .i64 Try.underlying27 hi035 Ao11 t530.length co11 (ji17) (of_decide_eq_true (by first | (with_reducible assumption) | assumption)) q35 hroom35
            have hr35 := Kd.C_take (m := ((ji17) : Int).toNat) hC35 (by omega)
            have hy35 : y537.length = ((ji17) : Int).toNat := (by rw [Ny537.out, List.length_take]; omega)
            rw [← Ny537.out] at hr35
            rw [← hy35] at hcut35
            have HR540 := Aside0.mk hr35
            have HC540 := Aside0.mk (show y537.length ≤ co11 from by omega)
            clear hr35 hC35 hroom35 hi035 hsz35
            have KY35 := Aside0.mk hy35
            clear hy35
            have KL35 := Aside0.mk (show ((ji17) : Int).toNat ≤ t530.length from by omega)
            replace q35 := eq_true q35
            go_wp2_with (first | ((with_reducible refine gate_callee (f := 27) rfl ?_); refine goesL_ (some 60) rfl rfl Try.func27 (by kernel_rfl) rfl #[.string t529, .slice Ao11 y537.length co11] rfl (by (try simp only [List.map_toArray, List.map_cons, List.map_nil]); first | done | rfl | (simp only [List.length_drop, List.length_take]; rfl)) ?_; (with_reducible refine (impl_ApplyScript.calls kj8 t529 _ _ y537 t541 true _ ?side1 ?side2 A20.out).mono ?_); (case side1 => repeat (first | exact (by repeat (first | (with_reducible exact HR540.out) | (with_reducible refine Kd.C_alloc ?_ _) | (with_reducible refine Kd.C_drewN ?_ _) | (with_reducible refine Kd.C_drew ?_) | exact HR540.out)) | (with_reducible refine Kd.C_alloc ?_ _) | (with_reducible refine Kd.C_drewN ?_ _) | (with_reducible refine Kd.C_drew ?_))); (case side2 => exact HC540.out); rintro e w36 ⟨rfl, hb⟩; refine ⟨_, rfl, ?_⟩; have n0_ := Aside0.mk (Kd.R_below (by (with_reducible repeat (first | apply Kd.R_alloc | apply Kd.R_drewN | apply Kd.R_drew)); exact HO_6.out) hb); have n1_ := Aside0.mk (Kd.C_below (by repeat (first | (with_reducible exact HR540.out) | (with_reducible refine Kd.C_alloc ?_ _) | (with_reducible refine Kd.C_drewN ?_ _) | (with_reducible refine Kd.C_drew ?_) | exact HR540.out)) hb); have n2_ := Aside0.mk (below_step (by repeat (first | (with_reducible first | exact HB.out | apply below_alloc | apply pw_below_drewN | apply below_drew1) | exact HB.out)) hb); clear HO_6; clear HR540; clear HB; have HO_6 := n0_; have HR540 := n1_; have HB := n2_; clear n0_ n1_ n2_; (try clear hb); (try clear hb2); (try clear hk); (try clear hi); have q37 : ((ji17) : Int) ≤ ((t530.length : Int) : Int) := of_decide_eq_true (by first | (with_reducible assumption) | assumption); obtain ⟨i037, hi037, _, hsz37, _⟩ := info_parts info43; have hroom37 : t530.length ≤ co11 := (Kd.R_reads' HO_6.out).2.1; have hC37 : Kd.C k43 _ Ao11 t530.length t530 := (Kd.R_reads' HO_6.out).2.2; have q037 : (0 : Int) ≤ ((ji17) : Int) := of_decide_eq_true (by first | (with_reducible assumption) | assumption); have hcut37 := cut_from (P := Try.prog) 27 43 .i64 Try.underlying27 hi037 3 hsz37 Ao11 t530.length co11 (ji17) q037 q37; have hr37 := Kd.C_drop (m := ((ji17) : Int).toNat) (c := co11) hC37 (by omega) hroom37; obtain ⟨A37, hA37⟩ : ∃ A1, A1 = (if co11 = ((ji17) : Int).toNat then Ao11 else (Ao11 : Option Addr).map (·.add (((ji17) : Int).toNat * 3))) := ⟨_, rfl⟩; obtain ⟨c37, hc37⟩ : ∃ c1, c1 = co11 - ((ji17) : Int).toNat := ⟨_, rfl⟩; have hy37 : y543.length = t530.length - ((ji17) : Int).toNat := (by rw [Ny543.out, List.length_drop] <;> omega); rw [show (t530).drop ((ji17) : Int).toNat = y543 from Ny543.out.symm] at hr37; replace hr37 : Kd.C k43 _ A37 y543.length y543 := (by rw [hA37]; exact hr37); rw [← hy37, ← hA37, ← hc37] at hcut37; have HR546 := Aside0.mk hr37; have HC546 := Aside0.mk (show y543.length ≤ c37 from by rw [hy37, hc37]; exact Nat.sub_le_sub_right hroom37 _); clear hr37 hC37 hroom37 hi037 hsz37 hc37; have KY37 := Aside0.mk hy37; have KA37 := Aside0.mk hA37; clear hy37 hA37; have KL37 := Aside0.mk (show ((ji17) : Int).toNat ≤ t530.length from by omega); replace q37 := eq_true q37) | ((with_reducible refine gate_callee (f := 27) rfl ?_); refine goesL_ (some 68) rfl rfl Try.func27 (by kernel_rfl) rfl #[.string t541, .slice A37 y543.length c37] rfl (by (try simp only [List.map_toArray, List.map_cons, List.map_nil]); first | done | rfl | (simp only [List.length_drop, List.length_take]; rfl)) ?_; (with_reducible refine (impl_ApplyScript.calls kj8 t541 _ _ y543 t547 t548 _ ?side1 ?side2 A23.out).mono ?_); (case side1 => repeat (first | exact (by repeat (first | (with_reducible exact HR546.out) | (with_reducible refine Kd.C_alloc ?_ _) | (with_reducible refine Kd.C_drewN ?_ _) | (with_reducible refine Kd.C_drew ?_) | exact HR546.out)) | (with_reducible refine Kd.C_alloc ?_ _) | (with_reducible refine Kd.C_drewN ?_ _) | (with_reducible refine Kd.C_drew ?_))); (case side2 => exact HC546.out); rintro e w38 ⟨rfl, hb⟩; refine ⟨_, rfl, ?_⟩; have n0_ := Aside0.mk (Kd.R_below (by (with_reducible repeat (first | apply Kd.R_alloc | apply Kd.R_drewN | apply Kd.R_drew)); exact HO_6.out) hb); have n1_ := Aside0.mk (Kd.C_below (by repeat (first | (with_reducible exact HR540.out) | (with_reducible refine Kd.C_alloc ?_ _) | (with_reducible refine Kd.C_drewN ?_ _) | (with_reducible refine Kd.C_drew ?_) | exact HR540.out)) hb); have n2_ := Aside0.mk (Kd.C_below (by repeat (first | (with_reducible exact HR546.out) | (with_reducible refine Kd.C_alloc ?_ _) | (with_reducible refine Kd.C_drewN ?_ _) | (with_reducible refine Kd.C_drew ?_) | exact HR546.out)) hb); have n3_ := Aside0.mk (below_step (by repeat (first | (with_reducible first | exact HB.out | apply below_alloc | apply pw_below_drewN | apply below_drew1) | exact HB.out)) hb); clear HO_6; clear HR540; clear HR546; clear HB; have HO_6 := n0_; have HR540 := n1_; have HR546 := n2_; have HB := n3_; clear n0_ n1_ n2_ n3_; (try clear hb); (try clear hb2); (try clear hk); (try clear hi)))
            go_ret
            exact ⟨by first | rfl | (simp [errW_none, errW_some] <;> rfl) | (simp only [← hji17]; first | rfl | (simp [errW_none, errW_some] <;> rfl)) | (simp [*, errW_none, errW_some] <;> rfl), by repeat (first | (with_reducible first | exact HB.out | apply below_alloc | apply pw_below_drewN | apply below_drew1) | exact HB.out)⟩
          ·replace c24 := Bool.eq_false_iff.mpr c24
           subst c24
           have H1 : (if (t534 == false) = true then (if t534 = true then (some (t547.toList == t533.toList)) else (some true)) else (some false)) = some r := by rw [if_neg (show ¬ (false = true) by decide)] at H; exact H
           clear H
           have H := H1
           clear H1
           by_cases c39 : (t534 == false) = true
           ·rw [if_pos c39] at H
            have c39b0 : (t534 == false) = true := c39
            (try (have c39b1 : decide (t534 = false) = true := by simpa using c39))
            (try (have c39b2 : (t534 == false) = true := by simpa using c39))
            clear c39
            by_cases c40 : t534 = true
            ·subst c40
             have H1 : (some (t547.toList == t533.toList)) = some r := by rw [if_pos rfl] at H; exact H
             clear H
             have H := H1
             clear H1
             obtain rfl := Option.some.inj H
             have q41 : ((ji17) : Int) ≤ ((t530.length : Int) : Int) := of_decide_eq_true (by first | (with_reducible assumption) | assumption)
             obtain ⟨i041, hi041, _, hsz41, _⟩ := info_parts info43
             have hroom41 : t530.length ≤ co11 := (Kd.R_reads' HO_6.out).2.1
             have hC41 : Kd.C k43 _ Ao11 t530.length t530 := (Kd.R_reads' HO_6.out).2.2
             have hcut41 := cut_to (P := Try.prog) 27 43 .i64 Try.underlying27 hi041 Ao11 t530.length co11 (ji17) (of_decide_eq_true (by first | (with_reducible assumption) | assumption)) q41 hroom41
             have hr41 := Kd.C_take (m := ((ji17) : Int).toNat) hC41 (by omega)
             have hy41 : y537.length = ((ji17) : Int).toNat := (by rw [Ny537.out, List.length_take]; omega)
             rw [← Ny537.out] at hr41
             rw [← hy41] at hcut41
             have HR540 := Aside0.mk hr41
             have HC540 := Aside0.mk (show y537.length ≤ co11 from by omega)
             clear hr41 hC41 hroom41 hi041 hsz41
             have KY41 := Aside0.mk hy41
             clear hy41
             have KL41 := Aside0.mk (show ((ji17) : Int).toNat ≤ t530.length from by omega)
             replace q41 := eq_true q41
             go_wp2_with (first | ((with_reducible refine gate_callee (f := 27) rfl ?_); refine goesL_ (some 60) rfl rfl Try.func27 (by kernel_rfl) rfl #[.string t529, .slice Ao11 y537.length co11] rfl (by (try simp only [List.map_toArray, List.map_cons, List.map_nil]); first | done | rfl | (simp only [List.length_drop, List.length_take]; rfl)) ?_; (with_reducible refine (impl_ApplyScript.calls kj8 t529 _ _ y537 t541 false _ ?side1 ?side2 A20.out).mono ?_); (case side1 => repeat (first | exact (by repeat (first | (with_reducible exact HR540.out) | (with_reducible refine Kd.C_alloc ?_ _) | (with_reducible refine Kd.C_drewN ?_ _) | (with_reducible refine Kd.C_drew ?_) | exact HR540.out)) | (with_reducible refine Kd.C_alloc ?_ _) | (with_reducible refine Kd.C_drewN ?_ _) | (with_reducible refine Kd.C_drew ?_))); (case side2 => exact HC540.out); rintro e w42 ⟨rfl, hb⟩; refine ⟨_, rfl, ?_⟩; have n0_ := Aside0.mk (Kd.R_below (by (with_reducible repeat (first | apply Kd.R_alloc | apply Kd.R_drewN | apply Kd.R_drew)); exact HO_6.out) hb); have n1_ := Aside0.mk (Kd.C_below (by repeat (first | (with_reducible exact HR540.out) | (with_reducible refine Kd.C_alloc ?_ _) | (with_reducible refine Kd.C_drewN ?_ _) | (with_reducible refine Kd.C_drew ?_) | exact HR540.out)) hb); have n2_ := Aside0.mk (below_step (by repeat (first | (with_reducible first | exact HB.out | apply below_alloc | apply pw_below_drewN | apply below_drew1) | exact HB.out)) hb); clear HO_6; clear HR540; clear HB; have HO_6 := n0_; have HR540 := n1_; have HB := n2_; clear n0_ n1_ n2_; (try clear hb); (try clear hb2); (try clear hk); (try clear hi); have q43 : ((ji17) : Int) ≤ ((t530.length : Int) : Int) := of_decide_eq_true (by first | (with_reducible assumption) | assumption); obtain ⟨i043, hi043, _, hsz43, _⟩ := info_parts info43; have hroom43 : t530.length ≤ co11 := (Kd.R_reads' HO_6.out).2.1; have hC43 : Kd.C k43 _ Ao11 t530.length t530 := (Kd.R_reads' HO_6.out).2.2; have q043 : (0 : Int) ≤ ((ji17) : Int) := of_decide_eq_true (by first | (with_reducible assumption) | assumption); have hcut43 := cut_from (P := Try.prog) 27 43 .i64 Try.underlying27 hi043 3 hsz43 Ao11 t530.length co11 (ji17) q043 q43; have hr43 := Kd.C_drop (m := ((ji17) : Int).toNat) (c := co11) hC43 (by omega) hroom43; obtain ⟨A43, hA43⟩ : ∃ A1, A1 = (if co11 = ((ji17) : Int).toNat then Ao11 else (Ao11 : Option Addr).map (·.add (((ji17) : Int).toNat * 3))) := ⟨_, rfl⟩; obtain ⟨c43, hc43⟩ : ∃ c1, c1 = co11 - ((ji17) : Int).toNat := ⟨_, rfl⟩; have hy43 : y543.length = t530.length - ((ji17) : Int).toNat := (by rw [Ny543.out, List.length_drop] <;> omega); rw [show (t530).drop ((ji17) : Int).toNat = y543 from Ny543.out.symm] at hr43; replace hr43 : Kd.C k43 _ A43 y543.length y543 := (by rw [hA43]; exact hr43); rw [← hy43, ← hA43, ← hc43] at hcut43; have HR546 := Aside0.mk hr43; have HC546 := Aside0.mk (show y543.length ≤ c43 from by rw [hy43, hc43]; exact Nat.sub_le_sub_right hroom43 _); clear hr43 hC43 hroom43 hi043 hsz43 hc43; have KY43 := Aside0.mk hy43; have KA43 := Aside0.mk hA43; clear hy43 hA43; have KL43 := Aside0.mk (show ((ji17) : Int).toNat ≤ t530.length from by omega); replace q43 := eq_true q43) | ((with_reducible refine gate_callee (f := 27) rfl ?_); refine goesL_ (some 68) rfl rfl Try.func27 (by kernel_rfl) rfl #[.string t541, .slice A43 y543.length c43] rfl (by (try simp only [List.map_toArray, List.map_cons, List.map_nil]); first | done | rfl | (simp only [List.length_drop, List.length_take]; rfl)) ?_; (with_reducible refine (impl_ApplyScript.calls kj8 t541 _ _ y543 t547 t548 _ ?side1 ?side2 A23.out).mono ?_); (case side1 => repeat (first | exact (by repeat (first | (with_reducible exact HR546.out) | (with_reducible refine Kd.C_alloc ?_ _) | (with_reducible refine Kd.C_drewN ?_ _) | (with_reducible refine Kd.C_drew ?_) | exact HR546.out)) | (with_reducible refine Kd.C_alloc ?_ _) | (with_reducible refine Kd.C_drewN ?_ _) | (with_reducible refine Kd.C_drew ?_))); (case side2 => exact HC546.out); rintro e w44 ⟨rfl, hb⟩; refine ⟨_, rfl, ?_⟩; have n0_ := Aside0.mk (Kd.R_below (by (with_reducible repeat (first | apply Kd.R_alloc | apply Kd.R_drewN | apply Kd.R_drew)); exact HO_6.out) hb); have n1_ := Aside0.mk (Kd.C_below (by repeat (first | (with_reducible exact HR540.out) | (with_reducible refine Kd.C_alloc ?_ _) | (with_reducible refine Kd.C_drewN ?_ _) | (with_reducible refine Kd.C_drew ?_) | exact HR540.out)) hb); have n2_ := Aside0.mk (Kd.C_below (by repeat (first | (with_reducible exact HR546.out) | (with_reducible refine Kd.C_alloc ?_ _) | (with_reducible refine Kd.C_drewN ?_ _) | (with_reducible refine Kd.C_drew ?_) | exact HR546.out)) hb); have n3_ := Aside0.mk (below_step (by repeat (first | (with_reducible first | exact HB.out | apply below_alloc | apply pw_below_drewN | apply below_drew1) | exact HB.out)) hb); clear HO_6; clear HR540; clear HR546; clear HB; have HO_6 := n0_; have HR540 := n1_; have HR546 := n2_; have HB := n3_; clear n0_ n1_ n2_ n3_; (try clear hb); (try clear hb2); (try clear hk); (try clear hi)))
             go_ret
             exact ⟨by first | rfl | (simp [errW_none, errW_some] <;> rfl) | (simp only [← hji17]; first | rfl | (simp [errW_none, errW_some] <;> rfl)) | (simp [*, errW_none, errW_some] <;> rfl), by repeat (first | (with_reducible first | exact HB.out | apply below_alloc | apply pw_below_drewN | apply below_drew1) | exact HB.out)⟩
            ·replace c40 := Bool.eq_false_iff.mpr c40
             subst c40
             have H1 : (some true) = some r := by rw [if_neg (show ¬ (false = true) by decide)] at H; exact H
             clear H
             have H := H1
             clear H1
             obtain rfl := Option.some.inj H
             have q45 : ((ji17) : Int) ≤ ((t530.length : Int) : Int) := of_decide_eq_true (by first | (with_reducible assumption) | assumption)
             obtain ⟨i045, hi045, _, hsz45, _⟩ := info_parts info43
             have hroom45 : t530.length ≤ co11 := (Kd.R_reads' HO_6.out).2.1
             have hC45 : Kd.C k43 _ Ao11 t530.length t530 := (Kd.R_reads' HO_6.out).2.2
             have hcut45 := cut_to (P := Try.prog) 27 43 .i64 Try.underlying27 hi045 Ao11 t530.length co11 (ji17) (of_decide_eq_true (by first | (with_reducible assumption) | assumption)) q45 hroom45
             have hr45 := Kd.C_take (m := ((ji17) : Int).toNat) hC45 (by omega)
             have hy45 : y537.length = ((ji17) : Int).toNat := (by rw [Ny537.out, List.length_take]; omega)
             rw [← Ny537.out] at hr45
             rw [← hy45] at hcut45
             have HR540 := Aside0.mk hr45
             have HC540 := Aside0.mk (show y537.length ≤ co11 from by omega)
             clear hr45 hC45 hroom45 hi045 hsz45
             have KY45 := Aside0.mk hy45
             clear hy45
             have KL45 := Aside0.mk (show ((ji17) : Int).toNat ≤ t530.length from by omega)
             replace q45 := eq_true q45
             go_wp2_with (first | ((with_reducible refine gate_callee (f := 27) rfl ?_); refine goesL_ (some 60) rfl rfl Try.func27 (by kernel_rfl) rfl #[.string t529, .slice Ao11 y537.length co11] rfl (by (try simp only [List.map_toArray, List.map_cons, List.map_nil]); first | done | rfl | (simp only [List.length_drop, List.length_take]; rfl)) ?_; (with_reducible refine (impl_ApplyScript.calls kj8 t529 _ _ y537 t541 false _ ?side1 ?side2 A20.out).mono ?_); (case side1 => repeat (first | exact (by repeat (first | (with_reducible exact HR540.out) | (with_reducible refine Kd.C_alloc ?_ _) | (with_reducible refine Kd.C_drewN ?_ _) | (with_reducible refine Kd.C_drew ?_) | exact HR540.out)) | (with_reducible refine Kd.C_alloc ?_ _) | (with_reducible refine Kd.C_drewN ?_ _) | (with_reducible refine Kd.C_drew ?_))); (case side2 => exact HC540.out); rintro e w46 ⟨rfl, hb⟩; refine ⟨_, rfl, ?_⟩; have n0_ := Aside0.mk (Kd.R_below (by (with_reducible repeat (first | apply Kd.R_alloc | apply Kd.R_drewN | apply Kd.R_drew)); exact HO_6.out) hb); have n1_ := Aside0.mk (Kd.C_below (by repeat (first | (with_reducible exact HR540.out) | (with_reducible refine Kd.C_alloc ?_ _) | (with_reducible refine Kd.C_drewN ?_ _) | (with_reducible refine Kd.C_drew ?_) | exact HR540.out)) hb); have n2_ := Aside0.mk (below_step (by repeat (first | (with_reducible first | exact HB.out | apply below_alloc | apply pw_below_drewN | apply below_drew1) | exact HB.out)) hb); clear HO_6; clear HR540; clear HB; have HO_6 := n0_; have HR540 := n1_; have HB := n2_; clear n0_ n1_ n2_; (try clear hb); (try clear hb2); (try clear hk); (try clear hi); have q47 : ((ji17) : Int) ≤ ((t530.length : Int) : Int) := of_decide_eq_true (by first | (with_reducible assumption) | assumption); obtain ⟨i047, hi047, _, hsz47, _⟩ := info_parts info43; have hroom47 : t530.length ≤ co11 := (Kd.R_reads' HO_6.out).2.1; have hC47 : Kd.C k43 _ Ao11 t530.length t530 := (Kd.R_reads' HO_6.out).2.2; have q047 : (0 : Int) ≤ ((ji17) : Int) := of_decide_eq_true (by first | (with_reducible assumption) | assumption); have hcut47 := cut_from (P := Try.prog) 27 43 .i64 Try.underlying27 hi047 3 hsz47 Ao11 t530.length co11 (ji17) q047 q47; have hr47 := Kd.C_drop (m := ((ji17) : Int).toNat) (c := co11) hC47 (by omega) hroom47; obtain ⟨A47, hA47⟩ : ∃ A1, A1 = (if co11 = ((ji17) : Int).toNat then Ao11 else (Ao11 : Option Addr).map (·.add (((ji17) : Int).toNat * 3))) := ⟨_, rfl⟩; obtain ⟨c47, hc47⟩ : ∃ c1, c1 = co11 - ((ji17) : Int).toNat := ⟨_, rfl⟩; have hy47 : y543.length = t530.length - ((ji17) : Int).toNat := (by rw [Ny543.out, List.length_drop] <;> omega); rw [show (t530).drop ((ji17) : Int).toNat = y543 from Ny543.out.symm] at hr47; replace hr47 : Kd.C k43 _ A47 y543.length y543 := (by rw [hA47]; exact hr47); rw [← hy47, ← hA47, ← hc47] at hcut47; have HR546 := Aside0.mk hr47; have HC546 := Aside0.mk (show y543.length ≤ c47 from by rw [hy47, hc47]; exact Nat.sub_le_sub_right hroom47 _); clear hr47 hC47 hroom47 hi047 hsz47 hc47; have KY47 := Aside0.mk hy47; have KA47 := Aside0.mk hA47; clear hy47 hA47; have KL47 := Aside0.mk (show ((ji17) : Int).toNat ≤ t530.length from by omega); replace q47 := eq_true q47) | ((with_reducible refine gate_callee (f := 27) rfl ?_); refine goesL_ (some 68) rfl rfl Try.func27 (by kernel_rfl) rfl #[.string t541, .slice A47 y543.length c47] rfl (by (try simp only [List.map_toArray, List.map_cons, List.map_nil]); first | done | rfl | (simp only [List.length_drop, List.length_take]; rfl)) ?_; (with_reducible refine (impl_ApplyScript.calls kj8 t541 _ _ y543 t547 t548 _ ?side1 ?side2 A23.out).mono ?_); (case side1 => repeat (first | exact (by repeat (first | (with_reducible exact HR546.out) | (with_reducible refine Kd.C_alloc ?_ _) | (with_reducible refine Kd.C_drewN ?_ _) | (with_reducible refine Kd.C_drew ?_) | exact HR546.out)) | (with_reducible refine Kd.C_alloc ?_ _) | (with_reducible refine Kd.C_drewN ?_ _) | (with_reducible refine Kd.C_drew ?_))); (case side2 => exact HC546.out); rintro e w48 ⟨rfl, hb⟩; refine ⟨_, rfl, ?_⟩; have n0_ := Aside0.mk (Kd.R_below (by (with_reducible repeat (first | apply Kd.R_alloc | apply Kd.R_drewN | apply Kd.R_drew)); exact HO_6.out) hb); have n1_ := Aside0.mk (Kd.C_below (by repeat (first | (with_reducible exact HR540.out) | (with_reducible refine Kd.C_alloc ?_ _) | (with_reducible refine Kd.C_drewN ?_ _) | (with_reducible refine Kd.C_drew ?_) | exact HR540.out)) hb); have n2_ := Aside0.mk (Kd.C_below (by repeat (first | (with_reducible exact HR546.out) | (with_reducible refine Kd.C_alloc ?_ _) | (with_reducible refine Kd.C_drewN ?_ _) | (with_reducible refine Kd.C_drew ?_) | exact HR546.out)) hb); have n3_ := Aside0.mk (below_step (by repeat (first | (with_reducible first | exact HB.out | apply below_alloc | apply pw_below_drewN | apply below_drew1) | exact HB.out)) hb); clear HO_6; clear HR540; clear HR546; clear HB; have HO_6 := n0_; have HR540 := n1_; have HR546 := n2_; have HB := n3_; clear n0_ n1_ n2_ n3_; (try clear hb); (try clear hb2); (try clear hk); (try clear hi)))
             go_ret
             exact ⟨by first | rfl | (simp [errW_none, errW_some] <;> rfl) | (simp only [← hji17]; first | rfl | (simp [errW_none, errW_some] <;> rfl)) | (simp [*, errW_none, errW_some] <;> rfl), by repeat (first | (with_reducible first | exact HB.out | apply below_alloc | apply pw_below_drewN | apply below_drew1) | exact HB.out)⟩
           ·rw [if_neg c39] at H
            have c39b0 : (t534 == false) = false := by simpa using c39
            (try (have c39b1 : decide (t534 = false) = false := by simpa using c39))
            (try (have c39b2 : (t534 == false) = false := by simpa using c39))
            (try (have c39b3 : ¬ (t534 = false) := by simpa using c39))
            clear c39
            obtain rfl := Option.some.inj H
            have q49 : ((ji17) : Int) ≤ ((t530.length : Int) : Int) := of_decide_eq_true (by first | (with_reducible assumption) | assumption)
            obtain ⟨i049, hi049, _, hsz49, _⟩ := info_parts info43
            have hroom49 : t530.length ≤ co11 := (Kd.R_reads' HO_6.out).2.1
            have hC49 : Kd.C k43 _ Ao11 t530.length t530 := (Kd.R_reads' HO_6.out).2.2
            have hcut49 := cut_to (P := Try.prog) 27 43 .i64 Try.underlying27 hi049 Ao11 t530.length co11 (ji17) (of_decide_eq_true (by first | (with_reducible assumption) | assumption)) q49 hroom49
            have hr49 := Kd.C_take (m := ((ji17) : Int).toNat) hC49 (by omega)
            have hy49 : y537.length = ((ji17) : Int).toNat := (by rw [Ny537.out, List.length_take]; omega)
            rw [← Ny537.out] at hr49
            rw [← hy49] at hcut49
            have HR540 := Aside0.mk hr49
            have HC540 := Aside0.mk (show y537.length ≤ co11 from by omega)
            clear hr49 hC49 hroom49 hi049 hsz49
            have KY49 := Aside0.mk hy49
            clear hy49
            have KL49 := Aside0.mk (show ((ji17) : Int).toNat ≤ t530.length from by omega)
            replace q49 := eq_true q49
            go_wp2_with (first | ((with_reducible refine gate_callee (f := 27) rfl ?_); refine goesL_ (some 60) rfl rfl Try.func27 (by kernel_rfl) rfl #[.string t529, .slice Ao11 y537.length co11] rfl (by (try simp only [List.map_toArray, List.map_cons, List.map_nil]); first | done | rfl | (simp only [List.length_drop, List.length_take]; rfl)) ?_; (with_reducible refine (impl_ApplyScript.calls kj8 t529 _ _ y537 t541 false _ ?side1 ?side2 A20.out).mono ?_); (case side1 => repeat (first | exact (by repeat (first | (with_reducible exact HR540.out) | (with_reducible refine Kd.C_alloc ?_ _) | (with_reducible refine Kd.C_drewN ?_ _) | (with_reducible refine Kd.C_drew ?_) | exact HR540.out)) | (with_reducible refine Kd.C_alloc ?_ _) | (with_reducible refine Kd.C_drewN ?_ _) | (with_reducible refine Kd.C_drew ?_))); (case side2 => exact HC540.out); rintro e w50 ⟨rfl, hb⟩; refine ⟨_, rfl, ?_⟩; have n0_ := Aside0.mk (Kd.R_below (by (with_reducible repeat (first | apply Kd.R_alloc | apply Kd.R_drewN | apply Kd.R_drew)); exact HO_6.out) hb); have n1_ := Aside0.mk (Kd.C_below (by repeat (first | (with_reducible exact HR540.out) | (with_reducible refine Kd.C_alloc ?_ _) | (with_reducible refine Kd.C_drewN ?_ _) | (with_reducible refine Kd.C_drew ?_) | exact HR540.out)) hb); have n2_ := Aside0.mk (below_step (by repeat (first | (with_reducible first | exact HB.out | apply below_alloc | apply pw_below_drewN | apply below_drew1) | exact HB.out)) hb); clear HO_6; clear HR540; clear HB; have HO_6 := n0_; have HR540 := n1_; have HB := n2_; clear n0_ n1_ n2_; (try clear hb); (try clear hb2); (try clear hk); (try clear hi); have q51 : ((ji17) : Int) ≤ ((t530.length : Int) : Int) := of_decide_eq_true (by first | (with_reducible assumption) | assumption); obtain ⟨i051, hi051, _, hsz51, _⟩ := info_parts info43; have hroom51 : t530.length ≤ co11 := (Kd.R_reads' HO_6.out).2.1; have hC51 : Kd.C k43 _ Ao11 t530.length t530 := (Kd.R_reads' HO_6.out).2.2; have q051 : (0 : Int) ≤ ((ji17) : Int) := of_decide_eq_true (by first | (with_reducible assumption) | assumption); have hcut51 := cut_from (P := Try.prog) 27 43 .i64 Try.underlying27 hi051 3 hsz51 Ao11 t530.length co11 (ji17) q051 q51; have hr51 := Kd.C_drop (m := ((ji17) : Int).toNat) (c := co11) hC51 (by omega) hroom51; obtain ⟨A51, hA51⟩ : ∃ A1, A1 = (if co11 = ((ji17) : Int).toNat then Ao11 else (Ao11 : Option Addr).map (·.add (((ji17) : Int).toNat * 3))) := ⟨_, rfl⟩; obtain ⟨c51, hc51⟩ : ∃ c1, c1 = co11 - ((ji17) : Int).toNat := ⟨_, rfl⟩; have hy51 : y543.length = t530.length - ((ji17) : Int).toNat := (by rw [Ny543.out, List.length_drop] <;> omega); rw [show (t530).drop ((ji17) : Int).toNat = y543 from Ny543.out.symm] at hr51; replace hr51 : Kd.C k43 _ A51 y543.length y543 := (by rw [hA51]; exact hr51); rw [← hy51, ← hA51, ← hc51] at hcut51; have HR546 := Aside0.mk hr51; have HC546 := Aside0.mk (show y543.length ≤ c51 from by rw [hy51, hc51]; exact Nat.sub_le_sub_right hroom51 _); clear hr51 hC51 hroom51 hi051 hsz51 hc51; have KY51 := Aside0.mk hy51; have KA51 := Aside0.mk hA51; clear hy51 hA51; have KL51 := Aside0.mk (show ((ji17) : Int).toNat ≤ t530.length from by omega); replace q51 := eq_true q51) | ((with_reducible refine gate_callee (f := 27) rfl ?_); refine goesL_ (some 68) rfl rfl Try.func27 (by kernel_rfl) rfl #[.string t541, .slice A51 y543.length c51] rfl (by (try simp only [List.map_toArray, List.map_cons, List.map_nil]); first | done | rfl | (simp only [List.length_drop, List.length_take]; rfl)) ?_; (with_reducible refine (impl_ApplyScript.calls kj8 t541 _ _ y543 t547 t548 _ ?side1 ?side2 A23.out).mono ?_); (case side1 => repeat (first | exact (by repeat (first | (with_reducible exact HR546.out) | (with_reducible refine Kd.C_alloc ?_ _) | (with_reducible refine Kd.C_drewN ?_ _) | (with_reducible refine Kd.C_drew ?_) | exact HR546.out)) | (with_reducible refine Kd.C_alloc ?_ _) | (with_reducible refine Kd.C_drewN ?_ _) | (with_reducible refine Kd.C_drew ?_))); (case side2 => exact HC546.out); rintro e w52 ⟨rfl, hb⟩; refine ⟨_, rfl, ?_⟩; have n0_ := Aside0.mk (Kd.R_below (by (with_reducible repeat (first | apply Kd.R_alloc | apply Kd.R_drewN | apply Kd.R_drew)); exact HO_6.out) hb); have n1_ := Aside0.mk (Kd.C_below (by repeat (first | (with_reducible exact HR540.out) | (with_reducible refine Kd.C_alloc ?_ _) | (with_reducible refine Kd.C_drewN ?_ _) | (with_reducible refine Kd.C_drew ?_) | exact HR540.out)) hb); have n2_ := Aside0.mk (Kd.C_below (by repeat (first | (with_reducible exact HR546.out) | (with_reducible refine Kd.C_alloc ?_ _) | (with_reducible refine Kd.C_drewN ?_ _) | (with_reducible refine Kd.C_drew ?_) | exact HR546.out)) hb); have n3_ := Aside0.mk (below_step (by repeat (first | (with_reducible first | exact HB.out | apply below_alloc | apply pw_below_drewN | apply below_drew1) | exact HB.out)) hb); clear HO_6; clear HR540; clear HR546; clear HB; have HO_6 := n0_; have HR540 := n1_; have HR546 := n2_; have HB := n3_; clear n0_ n1_ n2_ n3_; (try clear hb); (try clear hb2); (try clear hk); (try clear hi)))
            go_ret
            exact ⟨by first | rfl | (simp [errW_none, errW_some] <;> rfl) | (simp only [← hji17]; first | rfl | (simp [errW_none, errW_some] <;> rfl)) | (simp [*, errW_none, errW_some] <;> rfl), by repeat (first | (with_reducible first | exact HB.out | apply below_alloc | apply pw_below_drewN | apply below_drew1) | exact HB.out)⟩
         ·rw [if_neg c19] at H
          exact absurd H (by simp)
        ·rw [if_neg c18] at H
         exact absurd H (by simp)

/-- THE ONE PURE STATEMENT of laws_FnScriptPrefix: yours. -/
def laws_FnScriptPrefix.Pure : Prop := ∀ (l0 : List Int) (l1 : List Int), l0.length ≤ maxLen → l0.length * 1 ≤ 140737488351232 → (∀ x ∈ l0, (Lit.int .u8 x).wf = true) → l1.length ≤ maxLen → l1.length * 1 ≤ 140737488351232 → (∀ x ∈ l1, (Lit.int .u8 x).wf = true) → ∃ k, laws_FnScriptPrefix.f k l0 l1 = some true
theorem laws_FnScriptPrefix.walk (P : laws_FnScriptPrefix.Pure) (a0 : Option Addr) (len0 cap0 : Nat) (z0 : List Int) (a1 : Option Addr) (len1 cap1 : Nat) (z1 : List Int) (w : World) (w0 : (a0 = none ∧ len0 = 0 ∧ cap0 = 0 ∧ z0 = []) ∨ ∃ x, a0 = some x ∧ len0 ≤ cap0 ∧ cap0 ≤ maxLen ∧ z0.length = cap0 ∧ (∀ i, i < z0.length → w.cell? (x.add i) = some (.int .u8 (z0.getD i 0))) ∧ ∀ n ∈ z0, (Lit.int .u8 n).wf = true) (y0 : len0 * 1 ≤ 140737488351232) (w1 : (a1 = none ∧ len1 = 0 ∧ cap1 = 0 ∧ z1 = []) ∨ ∃ x, a1 = some x ∧ len1 ≤ cap1 ∧ cap1 ≤ maxLen ∧ z1.length = cap1 ∧ (∀ i, i < z1.length → w.cell? (x.add i) = some (.int .u8 (z1.getD i 0))) ∧ ∀ n ∈ z1, (Lit.int .u8 n).wf = true) (y1 : len1 * 1 ≤ 140737488351232) :
  Calls Try.prog 14 #[.slice a0 len0 cap0, .slice a1 len1 cap1] w fun e w' => e = .returned (.bool true) ∧ Below w.heap.size w w' := by
 obtain ⟨l0, rfl, hr0, hm0, hw0, hc0⟩ := ReadsInt.ofRowC w0
 obtain ⟨l1, rfl, hr1, hm1, hw1, hc1⟩ := ReadsInt.ofRowC w1
 obtain ⟨k, h⟩ := P l0 l1 hm0 y0 hw0 hm1 y1 hw1
 refine (laws_FnScriptPrefix.calls k _ _ l0 _ _ l1 true w (Kd.C_of_reads (d := (0 : Int)) (h1 := fun _ => rfl) hr0) hc0 (Kd.C_of_reads (d := (0 : Int)) (h1 := fun _ => rfl) hr1) hc1 h).mono ?_
 rintro e w' ⟨rfl, hd⟩
 exact ⟨rfl, hd⟩

end Go.Proofs.Ytnlfmbdnleclfaa.Q
