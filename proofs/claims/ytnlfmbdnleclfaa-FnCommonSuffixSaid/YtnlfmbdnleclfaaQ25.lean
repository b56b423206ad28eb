import Derived.Test.YtnlfmbdnleclfaaQ0
import Derived.Test.YtnlfmbdnleclfaaQ4
import Derived.Test.YtnlfmbdnleclfaaQ6
import Derived.Test.YtnlfmbdnleclfaaQ22
namespace Go.Proofs.Ytnlfmbdnleclfaa.Q
open Go.RowKit Go.Proofs.YtnlfmbdnleclfaaW.PrintWords Go.Proofs.YtnlfmbdnleclfaaW.PrintLast Go.Proofs.YtnlfmbdnleclfaaW.PrintMore
attribute [local go_sem] max2_int min2_int max_two min_two max_three min_three max_four min_four
set_option linter.unusedVariables false
set_option linter.unusedSimpArgs false

/-! ### laws_FnCommonSuffix: function 7 -/
def laws_FnCommonSuffix.j0 : Nat → ByteArray → ByteArray → Int → Bool → Option (Bool)
 | 0, _, _, _, _ => none
 | k + 1, x3, x4, x5, x35 => if x35 = true then ((spec_CommonLength.f k x3 x4).bind fun t238 => (some (x5 == t238))) else (if x3.size + 1 ≤ 9223372036854775807 then (if x4.size + 1 ≤ 9223372036854775807 then ((impl_CommonLength.f k (x3 ++ (⟨#[113]⟩ : ByteArray)) (x4 ++ (⟨#[113]⟩ : ByteArray))).bind fun t239 => (if t239 = (wrap64 (x5 + 1)) then (if 1 + x3.size ≤ 9223372036854775807 then (if 1 + x4.size ≤ 9223372036854775807 then ((impl_CommonLength.f k ((⟨#[113]⟩ : ByteArray) ++ x3) ((⟨#[113]⟩ : ByteArray) ++ x4)).bind fun t240 => (some (t240 == (wrap64 (x5 + 1))))) else (none)) else (none)) else (some false))) else (none)) else (none))
def laws_FnCommonSuffix.f (k : Nat) (l0 : List Int) : Option (Bool) := if (l0.length : Int) > 1048576 then (some true) else ((spec_DrawCommonLength.f k l0).bind fun bt234 => ((impl_CommonLength.f k bt234.1 bt234.2).bind fun t236 => ((spec_CommonLength.f k bt234.1 bt234.2).bind fun t237 => (if t236 = t237 then (if t236 < 0 then (laws_FnCommonSuffix.j0 k bt234.1 bt234.2 t236 true) else (if (bt234.1.size : Int) = 60 then (laws_FnCommonSuffix.j0 k bt234.1 bt234.2 t236 true) else (laws_FnCommonSuffix.j0 k bt234.1 bt234.2 t236 ((bt234.2.size : Int) == 60)))) else (laws_FnCommonSuffix.j0 k bt234.1 bt234.2 t236 true)))))
theorem laws_FnCommonSuffix.mono_l : ∀ k, (∀ y0 y1 y2 y3, LeO (laws_FnCommonSuffix.j0 k y0 y1 y2 y3) (laws_FnCommonSuffix.j0 (k + 1) y0 y1 y2 y3))
 | 0 => fun _ _ _ _ r h => by simp [laws_FnCommonSuffix.j0] at h
 | k + 1 => by
  have ih0 := laws_FnCommonSuffix.mono_l k
  ·intro y0 y1 y2 y3
   unfold laws_FnCommonSuffix.j0
   repeat' first
   | (with_reducible exact ih0 _ _ _ _)
   | (with_reducible exact impl_CommonLength.mono _ _ _)
   | (with_reducible exact spec_CommonLength.mono _ _ _)
   | (with_reducible exact spec_DrawCommonLength.mono _ _)
   | (with_reducible exact LeO.refl _)
   | (with_reducible exact LeO.none _)
   | (with_reducible refine LeO.ite ?_ ?_)
   | (with_reducible refine LeO.bind ?_ (fun _ => ?_))
   | exact ih0 _ _ _ _
   | exact impl_CommonLength.mono _ _ _
   | exact spec_CommonLength.mono _ _ _
   | exact spec_DrawCommonLength.mono _ _
   | exact LeO.none _
   | refine LeO.ite ?_ ?_
   | refine LeO.bind ?_ (fun _ => ?_)
theorem laws_FnCommonSuffix.mono : ∀ a0 k, LeO (laws_FnCommonSuffix.f k a0) (laws_FnCommonSuffix.f (k + 1) a0) := by
 intro a0 k
 have ih0 := laws_FnCommonSuffix.mono_l k
 unfold laws_FnCommonSuffix.f
 repeat' first
   | (with_reducible exact ih0 _ _ _ _)
   | (with_reducible exact impl_CommonLength.mono _ _ _)
   | (with_reducible exact spec_CommonLength.mono _ _ _)
   | (with_reducible exact spec_DrawCommonLength.mono _ _)
   | (with_reducible exact LeO.refl _)
   | (with_reducible exact LeO.none _)
   | (with_reducible refine LeO.ite ?_ ?_)
   | (with_reducible refine LeO.bind ?_ (fun _ => ?_))
   | exact ih0 _ _ _ _
   | exact impl_CommonLength.mono _ _ _
   | exact spec_CommonLength.mono _ _ _
   | exact spec_DrawCommonLength.mono _ _
   | exact LeO.none _
   | refine LeO.ite ?_ ?_
   | refine LeO.bind ?_ (fun _ => ?_)
set_option maxHeartbeats 8000000 in
set_option maxRecDepth 100000 in
theorem laws_FnCommonSuffix.calls (k : Nat) (A0 : Option Addr) (c0 : Nat) (l0 : List Int) (r : Bool) (w : World) (hr0 : Kd.C (Kd.int .u8) w A0 l0.length l0) (hc0 : l0.length ≤ c0) (h : laws_FnCommonSuffix.f k l0 = some r) :
  Calls Try.prog 7 #[.slice A0 l0.length c0] w fun e w' => e = .returned (.bool r) ∧ Below w.heap.size w w' := by
 have HR0 := Aside0.mk hr0
 have HC0 := Aside0.mk hc0
 clear hr0 hc0
 have HB := Aside0.mk (Below.refl w.heap.size w)
 have H : (if (l0.length : Int) > 1048576 then (some true) else ((spec_DrawCommonLength.f k l0).bind fun bt234 => ((impl_CommonLength.f k bt234.1 bt234.2).bind fun t236 => ((spec_CommonLength.f k bt234.1 bt234.2).bind fun t237 => (if t236 = t237 then (if t236 < 0 then (laws_FnCommonSuffix.j0 k bt234.1 bt234.2 t236 true) else (if (bt234.1.size : Int) = 60 then (laws_FnCommonSuffix.j0 k bt234.1 bt234.2 t236 true) else (laws_FnCommonSuffix.j0 k bt234.1 bt234.2 t236 ((bt234.2.size : Int) == 60)))) else (laws_FnCommonSuffix.j0 k bt234.1 bt234.2 t236 true)))))) = some r := h
 clear h
 by_cases c2 : (l0.length : Int) > 1048576
 ·rw [if_pos c2] at H
  have c2b0 : decide (1048576 < (l0.length : Int)) = true := decide_eq_true c2
  have c2b1 : decide (1048576 < l0.length) = true := decide_eq_true (by omega)
  clear c2
  obtain rfl := Option.some.inj H
  go_enter Try.func7, Try.ntmps7
  go_wp2
  go_ret
  exact ⟨by first | rfl | (simp [errW_none, errW_some] <;> rfl) | (simp [*, errW_none, errW_some] <;> rfl), by repeat (first | (with_reducible first | exact HB.out | apply below_alloc | apply pw_below_drewN | apply below_drew1) | exact HB.out)⟩
 ·rw [if_neg c2] at H
  have c2b0 : decide (1048576 < (l0.length : Int)) = false := decide_eq_false c2
  have c2b1 : decide (1048576 < l0.length) = false := decide_eq_false (by omega)
  clear c2
  replace H := Option.bind_eq_some_iff.mp H
  obtain ⟨⟨t234, t235⟩, A30, H⟩ := H
  replace H : ((impl_CommonLength.f k t234 t235).bind fun t236 => ((spec_CommonLength.f k t234 t235).bind fun t237 => (if t236 = t237 then (if t236 < 0 then (laws_FnCommonSuffix.j0 k t234 t235 t236 true) else (if (t234.size : Int) = 60 then (laws_FnCommonSuffix.j0 k t234 t235 t236 true) else (laws_FnCommonSuffix.j0 k t234 t235 t236 ((t235.size : Int) == 60)))) else (laws_FnCommonSuffix.j0 k t234 t235 t236 true)))) = some r := H
  have A3 := Aside0.mk A30
  clear A30
  replace H := Option.bind_eq_some_iff.mp H
  obtain ⟨t236, A40, H⟩ := H
  replace H : ((spec_CommonLength.f k t234 t235).bind fun t237 => (if t236 = t237 then (if t236 < 0 then (laws_FnCommonSuffix.j0 k t234 t235 t236 true) else (if (t234.size : Int) = 60 then (laws_FnCommonSuffix.j0 k t234 t235 t236 true) else (laws_FnCommonSuffix.j0 k t234 t235 t236 ((t235.size : Int) == 60)))) else (laws_FnCommonSuffix.j0 k t234 t235 t236 true))) = some r := H
  have A4 := Aside0.mk A40
  clear A40
  have HC5 := Aside0.mk H
  clear H
  go_enter Try.func7, Try.ntmps7
  go_upto_region 5 with (first | ((with_reducible refine gate_callee (f := 25) rfl ?_); refine goesL_ (some 11) rfl rfl Try.func25 (by kernel_rfl) rfl #[.slice A0 l0.length c0] rfl (by (try simp only [List.map_toArray, List.map_cons, List.map_nil]); first | done | rfl | (simp only [List.length_drop, List.length_take]; rfl)) ?_; (with_reducible refine (spec_DrawCommonLength.calls k _ _ l0 t234 t235 _ ?side1 ?side2 A3.out).mono ?_); (case side1 => repeat (first | exact HR0.out | (with_reducible refine Kd.C_alloc ?_ _) | (with_reducible refine Kd.C_drewN ?_ _) | (with_reducible refine Kd.C_drew ?_))); (case side2 => exact HC0.out); rintro e w6 ⟨rfl, hb⟩; refine ⟨_, rfl, ?_⟩; have n0_ := Aside0.mk (below_step (by repeat (first | (with_reducible first | exact HB.out | apply below_alloc | apply pw_below_drewN | apply below_drew1) | exact HB.out)) hb); clear HB; have HB := n0_; clear n0_; (try clear hb); (try clear hb2); (try clear hk); (try clear hi)) | ((with_reducible refine gate_callee (f := 19) rfl ?_); refine goesL_ (some 16) rfl rfl Try.func19 (by kernel_rfl) rfl #[.string t234, .string t235] rfl (by (try simp only [List.map_toArray, List.map_cons, List.map_nil]); first | done | rfl | (simp only [List.length_drop, List.length_take]; rfl)) ?_; (with_reducible refine (impl_CommonLength.calls k t234 t235 t236 _ A4.out).mono ?_); rintro e w7 ⟨rfl, hb⟩; refine ⟨_, rfl, ?_⟩; have n0_ := Aside0.mk (below_step (by repeat (first | (with_reducible first | exact HB.out | apply below_alloc | apply pw_below_drewN | apply below_drew1) | exact HB.out)) hb); clear HB; have HB := n0_; clear n0_; (try clear hb); (try clear hb2); (try clear hk); (try clear hi)))
  (try simp only [Act.put, List.setIfInBounds_toArray, List.set_cons_zero, List.set_cons_succ])
  go_cut [35] (fun v35 wc => ∃ (kq : Nat) (x35_4 : Bool), v35 = .bool x35_4 ∧ Aside0 (laws_FnCommonSuffix.j0 kq t234 t235 t236 x35_4 = some r) ∧ Aside0 (kq ≤ k) ∧ Aside0 (Below w.heap.size w wc))
  case first =>
   have H := HC5.out
   clear HC5
   replace H := Option.bind_eq_some_iff.mp H
   obtain ⟨t237, A80, H⟩ := H
   replace H : (if t236 = t237 then (if t236 < 0 then (laws_FnCommonSuffix.j0 k t234 t235 t236 true) else (if (t234.size : Int) = 60 then (laws_FnCommonSuffix.j0 k t234 t235 t236 true) else (laws_FnCommonSuffix.j0 k t234 t235 t236 ((t235.size : Int) == 60)))) else (laws_FnCommonSuffix.j0 k t234 t235 t236 true)) = some r := H
   have A8 := Aside0.mk A80
   clear A80
   by_cases c9 : t236 = t237
   ·rw [if_pos c9] at H
    have c9b0 : (t236 == t237) = true := beq_iff_eq.mpr c9
    have c9b1 : (t236 != t237) = false := bne_eq_false_iff_eq.mpr c9
    clear c9
    (first | rw [c9b0] | (simp only [i64_w, i32_w]; rw [c9b0]) | skip)
    by_cases c10 : t236 < 0
    ·rw [if_pos c10] at H
     have c10b0 : decide (t236 < 0) = true := decide_eq_true c10
     clear c10
     have H' := Aside0.mk H
     clear H
     go_wp2_with (first | ((with_reducible refine gate_callee (f := 18) rfl ?_); refine goesL_ (some 20) rfl rfl Try.func18 (by kernel_rfl) rfl #[.string t234, .string t235] rfl (by (try simp only [List.map_toArray, List.map_cons, List.map_nil]); first | done | rfl | (simp only [List.length_drop, List.length_take]; rfl)) ?_; (with_reducible refine (spec_CommonLength.calls k t234 t235 t237 _ A8.out).mono ?_); rintro e w11 ⟨rfl, hb⟩; refine ⟨_, rfl, ?_⟩; have n0_ := Aside0.mk (below_step (by repeat (first | (with_reducible first | exact HB.out | apply below_alloc | apply pw_below_drewN | apply below_drew1) | exact HB.out)) hb); clear HB; have HB := n0_; clear n0_; (try clear hb); (try clear hb2); (try clear hk); (try clear hi)))
     go_meet
     case rel => exact ⟨_, (true), (by first | rfl | (simp; done) | (simp [*]; done)), H', ⟨by first | omega | exact Nat.le_refl _⟩, ⟨by repeat (first | (with_reducible first | exact HB.out | apply below_alloc | apply pw_below_drewN | apply below_drew1) | exact HB.out)⟩⟩
    ·rw [if_neg c10] at H
     have c10b0 : decide (t236 < 0) = false := decide_eq_false c10
     clear c10
     by_cases c12 : (t234.size : Int) = 60
     ·rw [if_pos c12] at H
      have c12b0 : ((t234.size : Int) == 60) = true := beq_iff_eq.mpr c12
      have c12b1 : ((t234.size : Int) != 60) = false := bne_eq_false_iff_eq.mpr c12
      clear c12
      have H' := Aside0.mk H
      clear H
      go_wp2_with (first | ((with_reducible refine gate_callee (f := 18) rfl ?_); refine goesL_ (some 20) rfl rfl Try.func18 (by kernel_rfl) rfl #[.string t234, .string t235] rfl (by (try simp only [List.map_toArray, List.map_cons, List.map_nil]); first | done | rfl | (simp only [List.length_drop, List.length_take]; rfl)) ?_; (with_reducible refine (spec_CommonLength.calls k t234 t235 t237 _ A8.out).mono ?_); rintro e w13 ⟨rfl, hb⟩; refine ⟨_, rfl, ?_⟩; have n0_ := Aside0.mk (below_step (by repeat (first | (with_reducible first | exact HB.out | apply below_alloc | apply pw_below_drewN | apply below_drew1) | exact HB.out)) hb); clear HB; have HB := n0_; clear n0_; (try clear hb); (try clear hb2); (try clear hk); (try clear hi)))
      go_meet
      case rel => exact ⟨_, (true), (by first | rfl | (simp; done) | (simp [*]; done)), H', ⟨by first | omega | exact Nat.le_refl _⟩, ⟨by repeat (first | (with_reducible first | exact HB.out | apply below_alloc | apply pw_below_drewN | apply below_drew1) | exact HB.out)⟩⟩
     ·rw [if_neg c12] at H
      have c12b0 : ((t234.size : Int) == 60) = false := beq_eq_false_iff_ne.mpr c12
      have c12b1 : ((t234.size : Int) != 60) = true := bne_iff_ne.mpr c12
      have H' := Aside0.mk H
      clear H
      go_wp2_with (first | ((with_reducible refine gate_callee (f := 18) rfl ?_); refine goesL_ (some 20) rfl rfl Try.func18 (by kernel_rfl) rfl #[.string t234, .string t235] rfl (by (try simp only [List.map_toArray, List.map_cons, List.map_nil]); first | done | rfl | (simp only [List.length_drop, List.length_take]; rfl)) ?_; (with_reducible refine (spec_CommonLength.calls k t234 t235 t237 _ A8.out).mono ?_); rintro e w14 ⟨rfl, hb⟩; refine ⟨_, rfl, ?_⟩; have n0_ := Aside0.mk (below_step (by repeat (first | (with_reducible first | exact HB.out | apply below_alloc | apply pw_below_drewN | apply below_drew1) | exact HB.out)) hb); clear HB; have HB := n0_; clear n0_; (try clear hb); (try clear hb2); (try clear hk); (try clear hi)))
      go_meet
      case rel => exact ⟨_, (((t235.size : Int) == 60)), (by first | rfl | (simp; done) | (simp [*]; done)), H', ⟨by first | omega | exact Nat.le_refl _⟩, ⟨by repeat (first | (with_reducible first | exact HB.out | apply below_alloc | apply pw_below_drewN | apply below_drew1) | exact HB.out)⟩⟩
   ·rw [if_neg c9] at H
    have c9b0 : (t236 == t237) = false := beq_eq_false_iff_ne.mpr c9
    have c9b1 : (t236 != t237) = true := bne_iff_ne.mpr c9
    (first | rw [c9b0] | (simp only [i64_w, i32_w]; rw [c9b0]) | skip)
    have H' := Aside0.mk H
    clear H
    go_wp2_with (first | ((with_reducible refine gate_callee (f := 18) rfl ?_); refine goesL_ (some 20) rfl rfl Try.func18 (by kernel_rfl) rfl #[.string t234, .string t235] rfl (by (try simp only [List.map_toArray, List.map_cons, List.map_nil]); first | done | rfl | (simp only [List.length_drop, List.length_take]; rfl)) ?_; (with_reducible refine (spec_CommonLength.calls k t234 t235 t237 _ A8.out).mono ?_); rintro e w15 ⟨rfl, hb⟩; refine ⟨_, rfl, ?_⟩; have n0_ := Aside0.mk (below_step (by repeat (first | (with_reducible first | exact HB.out | apply below_alloc | apply pw_below_drewN | apply below_drew1) | exact HB.out)) hb); clear HB; have HB := n0_; clear n0_; (try clear hb); (try clear hb2); (try clear hk); (try clear hi)))
    go_meet
    case rel => exact ⟨_, (true), (by first | rfl | (simp; done) | (simp [*]; done)), H', ⟨by first | omega | exact Nat.le_refl _⟩, ⟨by repeat (first | (with_reducible first | exact HB.out | apply below_alloc | apply pw_below_drewN | apply below_drew1) | exact HB.out)⟩⟩
  case rest =>
   clear HC5
   try clear c1
   try clear c2
   try clear c2b0
   try clear c2b1
   try clear p2
   try clear c7
   try clear c9
   try clear c9b0
   try clear c9b1
   try clear c10
   try clear c10b0
   try clear c12
   try clear c12b0
   try clear c12b1
   obtain ⟨kq, x35_4, rfl, HA, HJ4, HB⟩ := hcut
   cases kq with
   | zero => exact absurd HA.out (by simp [laws_FnCommonSuffix.j0])
   | succ kj4 =>
    have H := HA.out
    clear HA
    simp only [laws_FnCommonSuffix.j0] at H
    by_cases c16 : x35_4 = true
    ·subst c16
     have H1 : ((spec_CommonLength.f kj4 t234 t235).bind fun t238 => (some (t236 == t238))) = some r := by rw [if_pos rfl] at H; exact H
     clear H
     have H := H1
     clear H1
     replace H := Option.bind_eq_some_iff.mp H
     obtain ⟨t238, A170, H⟩ := H
     replace H : (some (t236 == t238)) = some r := H
     have A17 := Aside0.mk A170
     clear A170
     obtain rfl := Option.some.inj H
     go_wp2_with (first | ((with_reducible refine gate_callee (f := 18) rfl ?_); refine goesL_ (some 39) rfl rfl Try.func18 (by kernel_rfl) rfl #[.string t234, .string t235] rfl (by (try simp only [List.map_toArray, List.map_cons, List.map_nil]); first | done | rfl | (simp only [List.length_drop, List.length_take]; rfl)) ?_; (with_reducible refine (spec_CommonLength.calls kj4 t234 t235 t238 _ A17.out).mono ?_); rintro e w18 ⟨rfl, hb⟩; refine ⟨_, rfl, ?_⟩; have n0_ := Aside0.mk (below_step (by repeat (first | (with_reducible first | exact HB.out | apply below_alloc | apply pw_below_drewN | apply below_drew1) | exact HB.out)) hb); clear HB; have HB := n0_; clear n0_; (try clear hb); (try clear hb2); (try clear hk); (try clear hi)))
     go_ret
     exact ⟨by first | rfl | (simp [errW_none, errW_some] <;> rfl) | (simp [*, errW_none, errW_some] <;> rfl), by repeat (first | (with_reducible first | exact HB.out | apply below_alloc | apply pw_below_drewN | apply below_drew1) | exact HB.out)⟩
    ·replace c16 := Bool.eq_false_iff.mpr c16
     subst c16
     have H1 : (if t234.size + 1 ≤ 9223372036854775807 then (if t235.size + 1 ≤ 9223372036854775807 then ((impl_CommonLength.f kj4 (t234 ++ (⟨#[113]⟩ : ByteArray)) (t235 ++ (⟨#[113]⟩ : ByteArray))).bind fun t239 => (if t239 = (wrap64 (t236 + 1)) then (if 1 + t234.size ≤ 9223372036854775807 then (if 1 + t235.size ≤ 9223372036854775807 then ((impl_CommonLength.f kj4 ((⟨#[113]⟩ : ByteArray) ++ t234) ((⟨#[113]⟩ : ByteArray) ++ t235)).bind fun t240 => (some (t240 == (wrap64 (t236 + 1))))) else (none)) else (none)) else (some false))) else (none)) else (none)) = some r := by rw [if_neg (show ¬ (false = true) by decide)] at H; exact H
     clear H
     have H := H1
     clear H1
     by_cases c19 : t234.size + 1 ≤ 9223372036854775807
     ·rw [if_pos c19] at H
      have c19b0 := eq_true c19
      have c19b1 : decide (t234.size + 1 ≤ 9223372036854775807) = true := decide_eq_true c19
      try have c19b2 : (9223372036854775807 < t234.size + 1) = False := eq_false (Nat.not_lt.2 c19)
      by_cases c20 : t235.size + 1 ≤ 9223372036854775807
      ·rw [if_pos c20] at H
       have c20b0 := eq_true c20
       have c20b1 : decide (t235.size + 1 ≤ 9223372036854775807) = true := decide_eq_true c20
       try have c20b2 : (9223372036854775807 < t235.size + 1) = False := eq_false (Nat.not_lt.2 c20)
       replace H := Option.bind_eq_some_iff.mp H
       obtain ⟨t239, A210, H⟩ := H
       replace H : (if t239 = (wrap64 (t236 + 1)) then (if 1 + t234.size ≤ 9223372036854775807 then (if 1 + t235.size ≤ 9223372036854775807 then ((impl_CommonLength.f kj4 ((⟨#[113]⟩ : ByteArray) ++ t234) ((⟨#[113]⟩ : ByteArray) ++ t235)).bind fun t240 => (some (t240 == (wrap64 (t236 + 1))))) else (none)) else (none)) else (some false)) = some r := H
       have A21 := Aside0.mk A210
       clear A210
       by_cases c22 : t239 = (wrap64 (t236 + 1))
       ·rw [if_pos c22] at H
        have c22b0 : (t239 == (wrap64 (t236 + 1))) = true := beq_iff_eq.mpr c22
        have c22b1 : (t239 != (wrap64 (t236 + 1))) = false := bne_eq_false_iff_eq.mpr c22
        clear c22
        by_cases c23 : 1 + t234.size ≤ 9223372036854775807
        ·rw [if_pos c23] at H
         have c23b0 := eq_true c23
         have c23b1 : decide (1 + t234.size ≤ 9223372036854775807) = true := decide_eq_true c23
         try have c23b2 : (9223372036854775807 < 1 + t234.size) = False := eq_false (Nat.not_lt.2 c23)
         by_cases c24 : 1 + t235.size ≤ 9223372036854775807
         ·rw [if_pos c24] at H
          have c24b0 := eq_true c24
          have c24b1 : decide (1 + t235.size ≤ 9223372036854775807) = true := decide_eq_true c24
          try have c24b2 : (9223372036854775807 < 1 + t235.size) = False := eq_false (Nat.not_lt.2 c24)
          replace H := Option.bind_eq_some_iff.mp H
          obtain ⟨t240, A250, H⟩ := H
          replace H : (some (t240 == (wrap64 (t236 + 1)))) = some r := H
          have A25 := Aside0.mk A250
          clear A250
          obtain rfl := Option.some.inj H
          go_wp2_with (first | ((with_reducible refine gate_callee (f := 19) rfl ?_); refine goesL_ (some 45) rfl rfl Try.func19 (by kernel_rfl) rfl #[.string (t234 ++ (⟨#[113]⟩ : ByteArray)), .string (t235 ++ (⟨#[113]⟩ : ByteArray))] rfl (by (try simp only [List.map_toArray, List.map_cons, List.map_nil]); first | done | rfl | (simp only [List.length_drop, List.length_take]; rfl)) ?_; (with_reducible refine (impl_CommonLength.calls kj4 (t234 ++ (⟨#[113]⟩ : ByteArray)) (t235 ++ (⟨#[113]⟩ : ByteArray)) t239 _ A21.out).mono ?_); rintro e w26 ⟨rfl, hb⟩; refine ⟨_, rfl, ?_⟩; have n0_ := Aside0.mk (below_step (by repeat (first | (with_reducible first | exact HB.out | apply below_alloc | apply pw_below_drewN | apply below_drew1) | exact HB.out)) hb); clear HB; have HB := n0_; clear n0_; (try clear hb); (try clear hb2); (try clear hk); (try clear hi)) | (go_at_call 19; (with_reducible refine (impl_CommonLength.calls kj4 ((⟨#[113]⟩ : ByteArray) ++ t234) ((⟨#[113]⟩ : ByteArray) ++ t235) t240 _ A25.out).mono ?_); rintro e w27 ⟨rfl, hb⟩; have n0_ := Aside0.mk (below_step (by repeat (first | (with_reducible first | exact HB.out | apply below_alloc | apply pw_below_drewN | apply below_drew1) | exact HB.out)) hb); clear HB; have HB := n0_; clear n0_; (try clear hb); (try clear hb2); (try clear hk); (try clear hi)))
          go_ret
          exact ⟨by first | rfl | (simp [errW_none, errW_some] <;> rfl) | (simp [*, errW_none, errW_some] <;> rfl), by repeat (first | (with_reducible first | exact HB.out | apply below_alloc | apply pw_below_drewN | apply below_drew1) | exact HB.out)⟩
         ·rw [if_neg c24] at H
          exact absurd H (by simp)
        ·rw [if_neg c23] at H
         exact absurd H (by simp)
       ·rw [if_neg c22] at H
        have c22b0 : (t239 == (wrap64 (t236 + 1))) = false := beq_eq_false_iff_ne.mpr c22
        have c22b1 : (t239 != (wrap64 (t236 + 1))) = true := bne_iff_ne.mpr c22
        obtain rfl := Option.some.inj H
        go_wp2_with (first | ((with_reducible refine gate_callee (f := 19) rfl ?_); refine goesL_ (some 45) rfl rfl Try.func19 (by kernel_rfl) rfl #[.string (t234 ++ (⟨#[113]⟩ : ByteArray)), .string (t235 ++ (⟨#[113]⟩ : ByteArray))] rfl (by (try simp only [List.map_toArray, List.map_cons, List.map_nil]); first | done | rfl | (simp only [List.length_drop, List.length_take]; rfl)) ?_; (with_reducible refine (impl_CommonLength.calls kj4 (t234 ++ (⟨#[113]⟩ : ByteArray)) (t235 ++ (⟨#[113]⟩ : ByteArray)) t239 _ A21.out).mono ?_); rintro e w28 ⟨rfl, hb⟩; refine ⟨_, rfl, ?_⟩; have n0_ := Aside0.mk (below_step (by repeat (first | (with_reducible first | exact HB.out | apply below_alloc | apply pw_below_drewN | apply below_drew1) | exact HB.out)) hb); clear HB; have HB := n0_; clear n0_; (try clear hb); (try clear hb2); (try clear hk); (try clear hi)))
        go_ret
        exact ⟨by first | rfl | (simp [errW_none, errW_some] <;> rfl) | (simp [*, errW_none, errW_some] <;> rfl), by repeat (first | (with_reducible first | exact HB.out | apply below_alloc | apply pw_below_drewN | apply below_drew1) | exact HB.out)⟩
      ·rw [if_neg c20] at H
       exact absurd H (by simp)
     ·rw [if_neg c19] at H
      exact absurd H (by simp)

/-- THE ONE PURE STATEMENT of laws_FnCommonSuffix: yours. -/
def laws_FnCommonSuffix.Pure : Prop := ∀ (l0 : List Int), l0.length ≤ maxLen → l0.length * 1 ≤ 140737488351232 → (∀ x ∈ l0, (Lit.int .u8 x).wf = true) → ∃ k, laws_FnCommonSuffix.f k l0 = some true
theorem laws_FnCommonSuffix.walk (P : laws_FnCommonSuffix.Pure) (a0 : Option Addr) (len0 cap0 : Nat) (z0 : List Int) (w : World) (w0 : (a0 = none ∧ len0 = 0 ∧ cap0 = 0 ∧ z0 = []) ∨ ∃ x, a0 = some x ∧ len0 ≤ cap0 ∧ cap0 ≤ maxLen ∧ z0.length = cap0 ∧ (∀ i, i < z0.length → w.cell? (x.add i) = some (.int .u8 (z0.getD i 0))) ∧ ∀ n ∈ z0, (Lit.int .u8 n).wf = true) (y0 : len0 * 1 ≤ 140737488351232) :
  Calls Try.prog 7 #[.slice a0 len0 cap0] w fun e w' => e = .returned (.bool true) ∧ Below w.heap.size w w' := by
 obtain ⟨l0, rfl, hr0, hm0, hw0, hc0⟩ := ReadsInt.ofRowC w0
 obtain ⟨k, h⟩ := P l0 hm0 y0 hw0
 refine (laws_FnCommonSuffix.calls k _ _ l0 true w (Kd.C_of_reads (d := (0 : Int)) (h1 := fun _ => rfl) hr0) hc0 h).mono ?_
 rintro e w' ⟨rfl, hd⟩
 exact ⟨rfl, hd⟩

end Go.Proofs.Ytnlfmbdnleclfaa.Q
