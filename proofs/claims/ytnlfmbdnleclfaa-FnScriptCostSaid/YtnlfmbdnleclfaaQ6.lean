import Derived.Test.YtnlfmbdnleclfaaQ0
import Derived.Test.YtnlfmbdnleclfaaQ5
namespace Go.Proofs.Ytnlfmbdnleclfaa.Q
open Go.RowKit Go.Proofs.YtnlfmbdnleclfaaW.PrintWords Go.Proofs.YtnlfmbdnleclfaaW.PrintLast Go.Proofs.YtnlfmbdnleclfaaW.PrintMore
attribute [local go_sem] max2_int min2_int max_two min_two max_three min_three max_four min_four
set_option linter.unusedVariables false
set_option linter.unusedSimpArgs false

/-! ### impl_CommonLength: function 19 -/
def impl_CommonLength.f (k : Nat) (a0 : ByteArray) (a1 : ByteArray) : Option (Int) := if (a0.size : Int) > 60 then (some (-1)) else (if (a1.size : Int) > 60 then (some (-1)) else ((impl_commonTable.f k a0 a1).bind fun t149 => (if 0 < (t149.length : Int) then (if 0 < ((rd_L1 t149 0).length : Int) then (some (rd (rd_L1 t149 0) 0)) else (none)) else (none))))
theorem impl_CommonLength.mono : ∀ a0 a1 k, LeO (impl_CommonLength.f k a0 a1) (impl_CommonLength.f (k + 1) a0 a1) := by
 intro a0 a1 k
 unfold impl_CommonLength.f
 repeat' first
   | (with_reducible exact impl_commonTable.mono _ _ _)
   | (with_reducible exact LeO.refl _)
   | (with_reducible exact LeO.none _)
   | (with_reducible refine LeO.ite ?_ ?_)
   | (with_reducible refine LeO.bind ?_ (fun _ => ?_))
   | exact impl_commonTable.mono _ _ _
   | exact LeO.none _
   | refine LeO.ite ?_ ?_
   | refine LeO.bind ?_ (fun _ => ?_)
set_option maxHeartbeats 8000000 in
set_option maxRecDepth 100000 in
theorem impl_CommonLength.calls (k : Nat) (a0 : ByteArray) (a1 : ByteArray) (r : Int) (w : World) (h : impl_CommonLength.f k a0 a1 = some r) :
  Calls Try.prog 19 #[.string a0, .string a1] w fun e w' => e = .returned (.int .i64 r) ∧ Below w.heap.size w w' := by
 have HB := Aside0.mk (Below.refl w.heap.size w)
 have H : (if (a0.size : Int) > 60 then (some (-1)) else (if (a1.size : Int) > 60 then (some (-1)) else ((impl_commonTable.f k a0 a1).bind fun t149 => (if 0 < (t149.length : Int) then (if 0 < ((rd_L1 t149 0).length : Int) then (some (rd (rd_L1 t149 0) 0)) else (none)) else (none))))) = some r := h
 clear h
 by_cases c3 : (a0.size : Int) > 60
 ·rw [if_pos c3] at H
  have c3b0 : decide (60 < (a0.size : Int)) = true := decide_eq_true c3
  have c3b1 : decide (60 < a0.size) = true := decide_eq_true (by omega)
  clear c3
  obtain rfl := Option.some.inj H
  go_enter Try.func19, Try.ntmps19
  go_wp2
  go_ret
  exact ⟨by first | rfl | (simp [errW_none, errW_some] <;> rfl) | (simp [*, errW_none, errW_some] <;> rfl), by repeat (first | (with_reducible first | exact HB.out | apply below_alloc | apply pw_below_drewN | apply below_drew1) | exact HB.out)⟩
 ·rw [if_neg c3] at H
  have c3b0 : decide (60 < (a0.size : Int)) = false := decide_eq_false c3
  have c3b1 : decide (60 < a0.size) = false := decide_eq_false (by omega)
  clear c3
  by_cases c4 : (a1.size : Int) > 60
  ·rw [if_pos c4] at H
   have c4b0 : decide (60 < (a1.size : Int)) = true := decide_eq_true c4
   have c4b1 : decide (60 < a1.size) = true := decide_eq_true (by omega)
   clear c4
   obtain rfl := Option.some.inj H
   go_enter Try.func19, Try.ntmps19
   go_wp2
   go_ret
   exact ⟨by first | rfl | (simp [errW_none, errW_some] <;> rfl) | (simp [*, errW_none, errW_some] <;> rfl), by repeat (first | (with_reducible first | exact HB.out | apply below_alloc | apply pw_below_drewN | apply below_drew1) | exact HB.out)⟩
  ·rw [if_neg c4] at H
   have c4b0 : decide (60 < (a1.size : Int)) = false := decide_eq_false c4
   have c4b1 : decide (60 < a1.size) = false := decide_eq_false (by omega)
   clear c4
   replace H := Option.bind_eq_some_iff.mp H
   obtain ⟨t149, A50, H⟩ := H
   replace H : (if 0 < (t149.length : Int) then (if 0 < ((rd_L1 t149 0).length : Int) then (some (rd (rd_L1 t149 0) 0)) else (none)) else (none)) = some r := H
   have A5 := Aside0.mk A50
   clear A50
   by_cases c6 : 0 < (t149.length : Int)
   ·rw [if_pos c6] at H
    have c6b0 : decide (0 < (t149.length : Int)) = true := decide_eq_true c6
    have c6b1 : decide (0 < t149.length) = true := decide_eq_true (by omega)
    clear c6
    by_cases c7 : 0 < ((rd_L1 t149 0).length : Int)
    ·rw [if_pos c7] at H
     have c7b0 : decide (0 < ((rd_L1 t149 0).length : Int)) = true := decide_eq_true c7
     have c7b1 : decide (0 < (rd_L1 t149 0).length) = true := decide_eq_true (by omega)
     clear c7
     obtain rfl := Option.some.inj H
     go_enter Try.func19, Try.ntmps19
     go_wp2_with (first | ((with_reducible refine gate_callee (f := 39) rfl ?_); refine goesL_ (some 15) rfl rfl Try.func39 (by kernel_rfl) rfl #[.string a0, .string a1] rfl (by (try simp only [List.map_toArray, List.map_cons, List.map_nil]); first | done | rfl | (simp only [List.length_drop, List.length_take]; rfl)) ?_; (with_reducible refine (impl_commonTable.calls k a0 a1 t149 _ A5.out).mono ?_); rintro e w8 ⟨v150, rfl, ho0, hb⟩; refine ⟨_, rfl, ?_⟩; have n0_ := Aside0.mk (Kd.S_lower ho0 (below_size (by repeat (first | (with_reducible first | exact HB.out | apply below_alloc | apply pw_below_drewN | apply below_drew1) | exact HB.out)))); have n1_ := Aside0.mk (below_step (by repeat (first | (with_reducible first | exact HB.out | apply below_alloc | apply pw_below_drewN | apply below_drew1) | exact HB.out)) hb); clear HB; have HO151 := n0_; have HB := n1_; clear n0_ n1_; (try clear hb); (try clear hb2); (try clear hk); (try clear hi); (try clear ho0); obtain ⟨Ao9, co9, eo9⟩ := Kd.S_slice HO151.out; subst eo9; have p152 : 0 ≤ (0 : Int) := (by omega); have q152 : 0 < (t149.length : Int) := of_decide_eq_true (by first | (with_reducible assumption) | assumption); obtain ⟨ad152, A152_0, c152_0, e152, hx152_0, hl152_0, hi152_0⟩ := at_L1 (Kd.S_reads' HO151.out).2.2 0 p152 q152; cases e152; obtain ⟨ce152, hce152, hMe152, hcc152⟩ := Kd.S_get HO151.out [] 0 p152 (by first | exact q152 | exact of_decide_eq_true (by first | (with_reducible assumption) | assumption) | (have e_ := (Kd.S_reads' HO151.out).1; omega)); obtain ⟨ve152_0, rfl, ge152_0⟩ := hMe152; have hv152_0 := hcc152 0 _ rfl; rw [Nat.add_zero, show ((Kd.slice 3 (Kd.int .i64))).sz = 1 from rfl, Nat.mul_one] at hv152_0; replace hv152_0 := Option.some.inj (hv152_0.symm.trans hx152_0); rw [hv152_0] at ge152_0; have HL152_0 := Aside0.mk (show Kd.R (Kd.int .i64) 3 _ _ _ _ (rd_L1 t149 0) from ge152_0); clear hv152_0 ge152_0; clear hcc152 hce152; have qi152 : (0 < t149.length) = True := eq_true (by omega); (try rw [show ((0 : Int)).toNat = 0 from rfl] at hx152_0); (try rw [Addr.add_zero'] at hx152_0); have HR152_0 := Aside0.mk hi152_0; have HC152_0 := Aside0.mk hl152_0; clear hi152_0 hl152_0; replace p152 := eq_true p152; replace q152 := eq_true q152; have p153 : 0 ≤ (0 : Int) := (by omega); have q153 : 0 < ((rd_L1 t149 0).length : Int) := of_decide_eq_true (by first | (with_reducible assumption) | assumption); obtain ⟨ad153, e153, hx153_0⟩ := Kd.at_int (by repeat (first | (with_reducible exact HR152_0.out) | (with_reducible refine Kd.C_alloc ?_ _) | (with_reducible refine Kd.C_drewN ?_ _) | (with_reducible refine Kd.C_drew ?_) | exact HR152_0.out)) 0 p153 q153; cases e153; have qi153 : (0 < (rd_L1 t149 0).length) = True := eq_true (by omega); (try rw [show ((0 : Int)).toNat = 0 from rfl] at hx153_0); (try rw [Addr.add_zero'] at hx153_0); replace p153 := eq_true p153; replace q153 := eq_true q153))
     go_ret
     exact ⟨by first | rfl | (simp [errW_none, errW_some] <;> rfl) | (simp [*, errW_none, errW_some] <;> rfl), by repeat (first | (with_reducible first | exact HB.out | apply below_alloc | apply pw_below_drewN | apply below_drew1) | exact HB.out)⟩
    ·rw [if_neg c7] at H
     exact absurd H (by simp)
   ·rw [if_neg c6] at H
    exact absurd H (by simp)

end Go.Proofs.Ytnlfmbdnleclfaa.Q
