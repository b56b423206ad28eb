import Derived.Test.YtnlfmbdnleclfaaQ0
import Derived.Test.YtnlfmbdnleclfaaQ26
namespace Go.Proofs.Ytnlfmbdnleclfaa.Q
open Go.RowKit Go.Proofs.YtnlfmbdnleclfaaW.PrintWords Go.Proofs.YtnlfmbdnleclfaaW.PrintLast Go.Proofs.YtnlfmbdnleclfaaW.PrintMore
attribute [local go_sem] max2_int min2_int max_two min_two max_three min_three max_four min_four
set_option linter.unusedVariables false
set_option linter.unusedSimpArgs false

/-! ### spec_applyEdit: function 45 -/
def spec_applyEdit.j0 : Nat → ByteArray → Bool → Int → Int → ByteArray → Option (ByteArray × Bool)
 | 0, _, _, _, _, _ => none
 | k + 1, x0, x16, x242000, x242001, x242002 => if x16 = true then (some ((⟨#[]⟩ : ByteArray), false)) else (if x242000 = 1 then (if 0 ≤ x242001 then (if x242001 ≤ (x0.size : Int) then (if (x0.extract 0 (x242001 : Int).toNat).size + x242002.size ≤ 9223372036854775807 then (if ((x0.extract 0 (x242001 : Int).toNat) ++ x242002).size + (x0.extract (x242001 : Int).toNat x0.size).size ≤ 9223372036854775807 then (some (((x0.extract 0 (x242001 : Int).toNat) ++ x242002) ++ (x0.extract (x242001 : Int).toNat x0.size), true)) else (none)) else (none)) else (none)) else (none)) else (if x242000 = 2 then (if (x242002.size : Int) ≤ (wrap64 ((x0.size : Int) - x242001)) then (if 0 ≤ x242001 then (if x242001 ≤ (wrap64 (x242001 + (x242002.size : Int))) then (if (wrap64 (x242001 + (x242002.size : Int))) ≤ (x0.size : Int) then (if (x0.extract (x242001 : Int).toNat ((wrap64 (x242001 + (x242002.size : Int))) : Int).toNat).toList = x242002.toList then (if x242001 ≤ (x0.size : Int) then (if 0 ≤ (wrap64 (x242001 + (x242002.size : Int))) then (if (x0.extract 0 (x242001 : Int).toNat).size + (x0.extract ((wrap64 (x242001 + (x242002.size : Int))) : Int).toNat x0.size).size ≤ 9223372036854775807 then (some ((x0.extract 0 (x242001 : Int).toNat) ++ (x0.extract ((wrap64 (x242001 + (x242002.size : Int))) : Int).toNat x0.size), true)) else (none)) else (none)) else (none)) else (some ((⟨#[]⟩ : ByteArray), false))) else (none)) else (none)) else (none)) else (some ((⟨#[]⟩ : ByteArray), false))) else (some ((⟨#[]⟩ : ByteArray), false))))
def spec_applyEdit.f (k : Nat) (a0 : ByteArray) (a1_0 : Int) (a1_1 : Int) (a1_2 : ByteArray) : Option (ByteArray × Bool) := (spec_inRange.f a1_1 0 (a0.size : Int)).bind fun t242 => (if t242 = true then (spec_applyEdit.j0 k a0 (a1_2.toList == ([] : List UInt8)) a1_0 a1_1 a1_2) else (spec_applyEdit.j0 k a0 true a1_0 a1_1 a1_2))
theorem spec_applyEdit.mono_l : ∀ k, (∀ y0 y1 y2 y3 y4, LeO (spec_applyEdit.j0 k y0 y1 y2 y3 y4) (spec_applyEdit.j0 (k + 1) y0 y1 y2 y3 y4))
 | 0 => fun _ _ _ _ _ r h => by simp [spec_applyEdit.j0] at h
 | k + 1 => by
  have ih0 := spec_applyEdit.mono_l k
  ·intro y0 y1 y2 y3 y4
   unfold spec_applyEdit.j0
   repeat' first
   | (with_reducible exact ih0 _ _ _ _ _)
   | (with_reducible exact LeO.refl _)
   | (with_reducible exact LeO.none _)
   | (with_reducible refine LeO.ite ?_ ?_)
   | (with_reducible refine LeO.bind ?_ (fun _ => ?_))
   | exact ih0 _ _ _ _ _
   | exact LeO.none _
   | refine LeO.ite ?_ ?_
   | refine LeO.bind ?_ (fun _ => ?_)
theorem spec_applyEdit.mono : ∀ a0 a1 a2 a3 k, LeO (spec_applyEdit.f k a0 a1 a2 a3) (spec_applyEdit.f (k + 1) a0 a1 a2 a3) := by
 intro a0 a1 a2 a3 k
 have ih0 := spec_applyEdit.mono_l k
 unfold spec_applyEdit.f
 repeat' first
   | (with_reducible exact ih0 _ _ _ _ _)
   | (with_reducible exact LeO.refl _)
   | (with_reducible exact LeO.none _)
   | (with_reducible refine LeO.ite ?_ ?_)
   | (with_reducible refine LeO.bind ?_ (fun _ => ?_))
   | exact ih0 _ _ _ _ _
   | exact LeO.none _
   | refine LeO.ite ?_ ?_
   | refine LeO.bind ?_ (fun _ => ?_)
set_option maxHeartbeats 8000000 in
set_option maxRecDepth 100000 in
theorem spec_applyEdit.calls (k : Nat) (a0 : ByteArray) (a1_0 : Int) (a1_1 : Int) (a1_2 : ByteArray) (r1 : ByteArray) (r2 : Bool) (w : World) (h : spec_applyEdit.f k a0 a1_0 a1_1 a1_2 = some (r1, r2)) :
  Calls Try.prog 45 #[.string a0, .agg #[.int .i64 a1_0, .int .i64 a1_1, .string a1_2]] w fun e w' => e = .returned (.tuple #[.string r1, .bool r2]) ∧ Below w.heap.size w w' := by
 have hu43 := Try.underlying43
 have HB := Aside0.mk (Below.refl w.heap.size w)
 have H : ((spec_inRange.f a1_1 0 (a0.size : Int)).bind fun t242 => (if t242 = true then (spec_applyEdit.j0 k a0 (a1_2.toList == ([] : List UInt8)) a1_0 a1_1 a1_2) else (spec_applyEdit.j0 k a0 true a1_0 a1_1 a1_2))) = some (r1, r2) := h
 clear h
 have HC3 := Aside0.mk H
 clear H
 go_enter Try.func45, Try.ntmps45
 go_upto_region 1 with (first | ((with_reducible refine gate_dst (N := 3) rfl ?_); (try (refine gate_guard (by rfl) ?_; dsimp only)); refine box_event ?hg (N := 3) ?hd (cs := #[.int .i64 a1_0, .int .i64 a1_1, .string a1_2]) (t := 43) ?hr ?_; (case hd => rfl); (case hg => rfl); (case hr => first | (go_simp; done) | (go_simp; rfl)); intro gb241 hg w4 hbox hb; have n0_ := Aside0.mk (below_step (by repeat (first | (with_reducible first | exact HB.out | apply below_alloc | apply pw_below_drewN | apply below_drew1) | exact HB.out)) hb); have n1_ := Aside0.mk (hbox); have n2_ := Aside0.mk ((by rw [hg]; exact (below_size (by repeat (first | (with_reducible first | exact HB.out | apply below_alloc | apply pw_below_drewN | apply below_drew1) | exact HB.out))) : w.heap.size ≤ gb241)); have n3_ := Aside0.mk ((by rw [hg]; exact (below_size (by repeat (first | (with_reducible first | exact HB.out | apply below_alloc | apply pw_below_drewN | apply below_drew1) | exact HB.out))) : w.heap.size ≤ gb241)); clear HB; have HB := n0_; have BK241 := n1_; have GW241 := n2_; have GE241 := n3_; clear n0_ n1_ n2_ n3_; clear hb hbox hg))
 repeat (go_quiet (first | ((with_reducible refine gate_dst (N := 3) rfl ?_); (try (refine gate_guard (by rfl) ?_; dsimp only)); refine box_event ?hg (N := 3) ?hd (cs := #[.int .i64 a1_0, .int .i64 a1_1, .string a1_2]) (t := 43) ?hr ?_; (case hd => rfl); (case hg => rfl); (case hr => first | (go_simp; done) | (go_simp; rfl)); intro gb241 hg w4 hbox hb; have n0_ := Aside0.mk (below_step (by repeat (first | (with_reducible first | exact HB.out | apply below_alloc | apply pw_below_drewN | apply below_drew1) | exact HB.out)) hb); have n1_ := Aside0.mk (hbox); have n2_ := Aside0.mk ((by rw [hg]; exact (below_size (by repeat (first | (with_reducible first | exact HB.out | apply below_alloc | apply pw_below_drewN | apply below_drew1) | exact HB.out))) : w.heap.size ≤ gb241)); have n3_ := Aside0.mk ((by rw [hg]; exact (below_size (by repeat (first | (with_reducible first | exact HB.out | apply below_alloc | apply pw_below_drewN | apply below_drew1) | exact HB.out))) : w.heap.size ≤ gb241)); clear HB; have HB := n0_; have BK241 := n1_; have GW241 := n2_; have GE241 := n3_; clear n0_ n1_ n2_ n3_; clear hb hbox hg)); go_upto_region 1 with (first | ((with_reducible refine gate_dst (N := 3) rfl ?_); (try (refine gate_guard (by rfl) ?_; dsimp only)); refine box_event ?hg (N := 3) ?hd (cs := #[.int .i64 a1_0, .int .i64 a1_1, .string a1_2]) (t := 43) ?hr ?_; (case hd => rfl); (case hg => rfl); (case hr => first | (go_simp; done) | (go_simp; rfl)); intro gb241 hg w4 hbox hb; have n0_ := Aside0.mk (below_step (by repeat (first | (with_reducible first | exact HB.out | apply below_alloc | apply pw_below_drewN | apply below_drew1) | exact HB.out)) hb); have n1_ := Aside0.mk (hbox); have n2_ := Aside0.mk ((by rw [hg]; exact (below_size (by repeat (first | (with_reducible first | exact HB.out | apply below_alloc | apply pw_below_drewN | apply below_drew1) | exact HB.out))) : w.heap.size ≤ gb241)); have n3_ := Aside0.mk ((by rw [hg]; exact (below_size (by repeat (first | (with_reducible first | exact HB.out | apply below_alloc | apply pw_below_drewN | apply below_drew1) | exact HB.out))) : w.heap.size ≤ gb241)); clear HB; have HB := n0_; have BK241 := n1_; have GW241 := n2_; have GE241 := n3_; clear n0_ n1_ n2_ n3_; clear hb hbox hg)))
 (try simp only [Act.put, List.setIfInBounds_toArray, List.set_cons_zero, List.set_cons_succ])
 go_cut [16] (fun v16 wc => ∃ (kq : Nat) (x16_2 : Bool), v16 = .bool x16_2 ∧ Aside0 (spec_applyEdit.j0 kq a0 x16_2 a1_0 a1_1 a1_2 = some (r1, r2)) ∧ Aside0 (kq ≤ k) ∧ Aside0 (wc.heap[gb241]? = some (.cells #[.int .i64 a1_0, .int .i64 a1_1, .string a1_2] 43 (0, 0))) ∧ Aside0 (Below w.heap.size w wc))
 case first =>
  have H := HC3.out
  clear HC3
  replace H := Option.bind_eq_some_iff.mp H
  obtain ⟨t242, A50, H⟩ := H
  replace H : (if t242 = true then (spec_applyEdit.j0 k a0 (a1_2.toList == ([] : List UInt8)) a1_0 a1_1 a1_2) else (spec_applyEdit.j0 k a0 true a1_0 a1_1 a1_2)) = some (r1, r2) := H
  have A5 := Aside0.mk A50
  clear A50
  by_cases c6 : t242 = true
  ·subst c6
   have H1 : (spec_applyEdit.j0 k a0 (a1_2.toList == ([] : List UInt8)) a1_0 a1_1 a1_2) = some (r1, r2) := by rw [if_pos rfl] at H; exact H
   clear H
   have H := H1
   clear H1
   have H' := Aside0.mk H
   clear H
   have hcz7_0 : w4.cell? ⟨gb241, 0, none⟩ = some (.int .i64 a1_0) := (blk_cell BK241.out 0).trans rfl
   have hcz7_1 : w4.cell? ⟨gb241, 1, none⟩ = some (.int .i64 a1_1) := (blk_cell BK241.out 1).trans rfl
   have hcz7_2 : w4.cell? ⟨gb241, 2, none⟩ = some (.string a1_2) := (blk_cell BK241.out 2).trans rfl
   have hfz7_0 := blk_frozen BK241.out 0
   have hfz7_1 := blk_frozen BK241.out 1
   have hfz7_2 := blk_frozen BK241.out 2
   go_wp2_with (first | (go_at_call 52; (with_reducible refine (spec_inRange.calls a1_1 0 (a0.size : Int) true _ A5.out).mono ?_); rintro e w' ⟨rfl, ⟨nd, rfl⟩⟩; (try first | exact ⟨rfl, _, World.drewN_drewN _ _ _⟩ | exact ⟨rfl, _, Eq.trans (World.drewN_drewN _ _ _) (congrArg (World.drewN _) (Nat.add_assoc _ _ _))⟩)))
   repeat (go_quiet (first | (go_at_call 52; (with_reducible refine (spec_inRange.calls a1_1 0 (a0.size : Int) true _ A5.out).mono ?_); rintro e w' ⟨rfl, ⟨nd, rfl⟩⟩; (try first | exact ⟨rfl, _, World.drewN_drewN _ _ _⟩ | exact ⟨rfl, _, Eq.trans (World.drewN_drewN _ _ _) (congrArg (World.drewN _) (Nat.add_assoc _ _ _))⟩))); try go_wp2_with (first | (go_at_call 52; (with_reducible refine (spec_inRange.calls a1_1 0 (a0.size : Int) true _ A5.out).mono ?_); rintro e w' ⟨rfl, ⟨nd, rfl⟩⟩; (try first | exact ⟨rfl, _, World.drewN_drewN _ _ _⟩ | exact ⟨rfl, _, Eq.trans (World.drewN_drewN _ _ _) (congrArg (World.drewN _) (Nat.add_assoc _ _ _))⟩))))
   go_meet
   case rel => exact ⟨_, ((a1_2.toList == ([] : List UInt8))), (by first | rfl | (simp; done) | (simp [*]; done)), H', ⟨by first | omega | exact Nat.le_refl _⟩, ⟨by (with_reducible repeat (first | refine blk_drewN ?_ _ | refine blk_drew ?_ | refine blk_alloc ?_ _)); exact BK241.out⟩, ⟨by repeat (first | (with_reducible first | exact HB.out | apply below_alloc | apply pw_below_drewN | apply below_drew1 | refine below_set ?_ GE241.out) | exact HB.out)⟩⟩
  ·replace c6 := Bool.eq_false_iff.mpr c6
   subst c6
   have H1 : (spec_applyEdit.j0 k a0 true a1_0 a1_1 a1_2) = some (r1, r2) := by rw [if_neg (show ¬ (false = true) by decide)] at H; exact H
   clear H
   have H := H1
   clear H1
   have H' := Aside0.mk H
   clear H
   have hcz8_0 : w4.cell? ⟨gb241, 0, none⟩ = some (.int .i64 a1_0) := (blk_cell BK241.out 0).trans rfl
   have hcz8_1 : w4.cell? ⟨gb241, 1, none⟩ = some (.int .i64 a1_1) := (blk_cell BK241.out 1).trans rfl
   have hcz8_2 : w4.cell? ⟨gb241, 2, none⟩ = some (.string a1_2) := (blk_cell BK241.out 2).trans rfl
   have hfz8_0 := blk_frozen BK241.out 0
   have hfz8_1 := blk_frozen BK241.out 1
   have hfz8_2 := blk_frozen BK241.out 2
   go_wp2_with (first | (go_at_call 52; (with_reducible refine (spec_inRange.calls a1_1 0 (a0.size : Int) false _ A5.out).mono ?_); rintro e w' ⟨rfl, ⟨nd, rfl⟩⟩; (try first | exact ⟨rfl, _, World.drewN_drewN _ _ _⟩ | exact ⟨rfl, _, Eq.trans (World.drewN_drewN _ _ _) (congrArg (World.drewN _) (Nat.add_assoc _ _ _))⟩)))
   repeat (go_quiet (first | (go_at_call 52; (with_reducible refine (spec_inRange.calls a1_1 0 (a0.size : Int) false _ A5.out).mono ?_); rintro e w' ⟨rfl, ⟨nd, rfl⟩⟩; (try first | exact ⟨rfl, _, World.drewN_drewN _ _ _⟩ | exact ⟨rfl, _, Eq.trans (World.drewN_drewN _ _ _) (congrArg (World.drewN _) (Nat.add_assoc _ _ _))⟩))); try go_wp2_with (first | (go_at_call 52; (with_reducible refine (spec_inRange.calls a1_1 0 (a0.size : Int) false _ A5.out).mono ?_); rintro e w' ⟨rfl, ⟨nd, rfl⟩⟩; (try first | exact ⟨rfl, _, World.drewN_drewN _ _ _⟩ | exact ⟨rfl, _, Eq.trans (World.drewN_drewN _ _ _) (congrArg (World.drewN _) (Nat.add_assoc _ _ _))⟩))))
   go_meet
   case rel => exact ⟨_, (true), (by first | rfl | (simp; done) | (simp [*]; done)), H', ⟨by first | omega | exact Nat.le_refl _⟩, ⟨by (with_reducible repeat (first | refine blk_drewN ?_ _ | refine blk_drew ?_ | refine blk_alloc ?_ _)); exact BK241.out⟩, ⟨by repeat (first | (with_reducible first | exact HB.out | apply below_alloc | apply pw_below_drewN | apply below_drew1 | refine below_set ?_ GE241.out) | exact HB.out)⟩⟩
 case rest =>
  clear HC3
  try clear p2
  try clear c4
  try clear c6
  try clear hcz7_0
  try clear hcz7_1
  try clear hcz7_2
  try clear hcz8_0
  try clear hcz8_1
  try clear hcz8_2
  try clear hfz7_0
  try clear hfz7_1
  try clear hfz7_2
  try clear hfz8_0
  try clear hfz8_1
  try clear hfz8_2
  obtain ⟨kq, x16_2, rfl, HA, HJ2, BK241, HB⟩ := hcut
  cases kq with
  | zero => exact absurd HA.out (by simp [spec_applyEdit.j0])
  | succ kj2 =>
   have H := HA.out
   clear HA
   simp only [spec_applyEdit.j0] at H
   by_cases c9 : x16_2 = true
   ·subst c9
    have H1 : (some ((⟨#[]⟩ : ByteArray), false)) = some (r1, r2) := by rw [if_pos rfl] at H; exact H
    clear H
    have H := H1
    clear H1
    simp only [Option.some.injEq, Prod.mk.injEq] at H
    obtain ⟨rfl, rfl⟩ := H
    go_wp2
    repeat (go_quiet (fail); try go_wp2)
    go_ret2
    exact ⟨by first | rfl | (simp [errW_none, errW_some] <;> rfl) | (simp [*, errW_none, errW_some] <;> rfl), by repeat (first | (with_reducible first | exact HB.out | apply below_alloc | apply pw_below_drewN | apply below_drew1 | refine below_set ?_ GE241.out) | exact HB.out)⟩
   ·replace c9 := Bool.eq_false_iff.mpr c9
    subst c9
    have H1 : (if a1_0 = 1 then (if 0 ≤ a1_1 then (if a1_1 ≤ (a0.size : Int) then (if (a0.extract 0 (a1_1 : Int).toNat).size + a1_2.size ≤ 9223372036854775807 then (if ((a0.extract 0 (a1_1 : Int).toNat) ++ a1_2).size + (a0.extract (a1_1 : Int).toNat a0.size).size ≤ 9223372036854775807 then (some (((a0.extract 0 (a1_1 : Int).toNat) ++ a1_2) ++ (a0.extract (a1_1 : Int).toNat a0.size), true)) else (none)) else (none)) else (none)) else (none)) else (if a1_0 = 2 then (if (a1_2.size : Int) ≤ (wrap64 ((a0.size : Int) - a1_1)) then (if 0 ≤ a1_1 then (if a1_1 ≤ (wrap64 (a1_1 + (a1_2.size : Int))) then (if (wrap64 (a1_1 + (a1_2.size : Int))) ≤ (a0.size : Int) then (if (a0.extract (a1_1 : Int).toNat ((wrap64 (a1_1 + (a1_2.size : Int))) : Int).toNat).toList = a1_2.toList then (if a1_1 ≤ (a0.size : Int) then (if 0 ≤ (wrap64 (a1_1 + (a1_2.size : Int))) then (if (a0.extract 0 (a1_1 : Int).toNat).size + (a0.extract ((wrap64 (a1_1 + (a1_2.size : Int))) : Int).toNat a0.size).size ≤ 9223372036854775807 then (some ((a0.extract 0 (a1_1 : Int).toNat) ++ (a0.extract ((wrap64 (a1_1 + (a1_2.size : Int))) : Int).toNat a0.size), true)) else (none)) else (none)) else (none)) else (some ((⟨#[]⟩ : ByteArray), false))) else (none)) else (none)) else (none)) else (some ((⟨#[]⟩ : ByteArray), false))) else (some ((⟨#[]⟩ : ByteArray), false)))) = some (r1, r2) := by rw [if_neg (show ¬ (false = true) by decide)] at H; exact H
    clear H
    have H := H1
    clear H1
    by_cases c10 : a1_0 = 1
    ·rw [if_pos c10] at H
     have c10b0 : (a1_0 == 1) = true := beq_iff_eq.mpr c10
     have c10b1 : (a1_0 != 1) = false := bne_eq_false_iff_eq.mpr c10
     clear c10
     by_cases c11 : 0 ≤ a1_1
     ·rw [if_pos c11] at H
      have c11b0 := eq_true c11
      have c11b1 : decide (0 ≤ a1_1) = true := decide_eq_true c11
      clear c11
      by_cases c12 : a1_1 ≤ (a0.size : Int)
      ·rw [if_pos c12] at H
       have c12b0 := eq_true c12
       have c12b1 : decide (a1_1 ≤ (a0.size : Int)) = true := decide_eq_true c12
       clear c12
       by_cases c13 : (a0.extract 0 (a1_1 : Int).toNat).size + a1_2.size ≤ 9223372036854775807
       ·rw [if_pos c13] at H
        try (have c13b3 := c13; simp [*, -c13, -H] at c13b3)
        try (have c13b4 := eq_false (Nat.not_lt.2 c13b3))
        have c13b0 := eq_true c13
        have c13b1 : decide ((a0.extract 0 (a1_1 : Int).toNat).size + a1_2.size ≤ 9223372036854775807) = true := decide_eq_true c13
        try have c13b2 : (9223372036854775807 < (a0.extract 0 (a1_1 : Int).toNat).size + a1_2.size) = False := eq_false (Nat.not_lt.2 c13)
        have c14b0 := eq_true (of_decide_eq_true (by first | (with_reducible assumption) | assumption) : 0 ≤ a1_1)
        have c15b0 := eq_true (of_decide_eq_true (by first | (with_reducible assumption) | assumption) : a1_1 ≤ (a0.size : Int))
        by_cases c16 : ((a0.extract 0 (a1_1 : Int).toNat) ++ a1_2).size + (a0.extract (a1_1 : Int).toNat a0.size).size ≤ 9223372036854775807
        ·rw [if_pos c16] at H
         try (have c16b3 := c16; simp [*, -c16, -H] at c16b3)
         try (have c16b4 := eq_false (Nat.not_lt.2 c16b3))
         have c16b0 := eq_true c16
         have c16b1 : decide (((a0.extract 0 (a1_1 : Int).toNat) ++ a1_2).size + (a0.extract (a1_1 : Int).toNat a0.size).size ≤ 9223372036854775807) = true := decide_eq_true c16
         try have c16b2 : (9223372036854775807 < ((a0.extract 0 (a1_1 : Int).toNat) ++ a1_2).size + (a0.extract (a1_1 : Int).toNat a0.size).size) = False := eq_false (Nat.not_lt.2 c16)
         simp only [Option.some.injEq, Prod.mk.injEq] at H
         obtain ⟨rfl, rfl⟩ := H
         have hcz17_0 : wc.cell? ⟨gb241, 0, none⟩ = some (.int .i64 a1_0) := (blk_cell BK241.out 0).trans rfl
         have hcz17_1 : wc.cell? ⟨gb241, 1, none⟩ = some (.int .i64 a1_1) := (blk_cell BK241.out 1).trans rfl
         have hcz17_2 : wc.cell? ⟨gb241, 2, none⟩ = some (.string a1_2) := (blk_cell BK241.out 2).trans rfl
         have hfz17_0 := blk_frozen BK241.out 0
         have hfz17_1 := blk_frozen BK241.out 1
         have hfz17_2 := blk_frozen BK241.out 2
         go_wp2
         repeat (go_quiet (fail); try go_wp2)
         go_ret2
         exact ⟨by first | rfl | (simp [errW_none, errW_some] <;> rfl) | (simp [*, errW_none, errW_some] <;> rfl), by repeat (first | (with_reducible first | exact HB.out | apply below_alloc | apply pw_below_drewN | apply below_drew1 | refine below_set ?_ GE241.out) | exact HB.out)⟩
        ·rw [if_neg c16] at H
         try (have c16b3 := c16; simp [*, -c16, -H] at c16b3)
         try (have c16b4 := eq_false (Nat.not_lt.2 c16b3))
         exact absurd H (by simp)
       ·rw [if_neg c13] at H
        try (have c13b3 := c13; simp [*, -c13, -H] at c13b3)
        try (have c13b4 := eq_false (Nat.not_lt.2 c13b3))
        exact absurd H (by simp)
      ·rw [if_neg c12] at H
       exact absurd H (by simp)
     ·rw [if_neg c11] at H
      exact absurd H (by simp)
    ·rw [if_neg c10] at H
     have c10b0 : (a1_0 == 1) = false := beq_eq_false_iff_ne.mpr c10
     have c10b1 : (a1_0 != 1) = true := bne_iff_ne.mpr c10
     by_cases c18 : a1_0 = 2
     ·rw [if_pos c18] at H
      have c18b0 : (a1_0 == 2) = true := beq_iff_eq.mpr c18
      have c18b1 : (a1_0 != 2) = false := bne_eq_false_iff_eq.mpr c18
      clear c18
      by_cases c19 : (a1_2.size : Int) ≤ (wrap64 ((a0.size : Int) - a1_1))
      ·rw [if_pos c19] at H
       have c19b0 : decide ((a1_2.size : Int) ≤ (wrap64 ((a0.size : Int) - a1_1))) = true := decide_eq_true c19
       clear c19
       by_cases c20 : 0 ≤ a1_1
       ·rw [if_pos c20] at H
        have c20b0 := eq_true c20
        have c20b1 : decide (0 ≤ a1_1) = true := decide_eq_true c20
        clear c20
        by_cases c21 : a1_1 ≤ (wrap64 (a1_1 + (a1_2.size : Int)))
        ·rw [if_pos c21] at H
         have c21b0 := eq_true c21
         have c21b1 : decide (a1_1 ≤ (wrap64 (a1_1 + (a1_2.size : Int)))) = true := decide_eq_true c21
         by_cases c22 : (wrap64 (a1_1 + (a1_2.size : Int))) ≤ (a0.size : Int)
         ·rw [if_pos c22] at H
          have c22b0 := eq_true c22
          have c22b1 : decide ((wrap64 (a1_1 + (a1_2.size : Int))) ≤ (a0.size : Int)) = true := decide_eq_true c22
          by_cases c23 : (a0.extract (a1_1 : Int).toNat ((wrap64 (a1_1 + (a1_2.size : Int))) : Int).toNat).toList = a1_2.toList
          ·rw [if_pos c23] at H
           try (have c23b3 := c23; simp [*, -c23, -H] at c23b3)
           try (have c23b4 := eq_false (Nat.not_lt.2 c23b3))
           have c23b0 : ((a0.extract (a1_1 : Int).toNat ((wrap64 (a1_1 + (a1_2.size : Int))) : Int).toNat).toList == a1_2.toList) = true := beq_iff_eq.mpr c23
           have c23b1 : ((a0.extract (a1_1 : Int).toNat ((wrap64 (a1_1 + (a1_2.size : Int))) : Int).toNat).toList != a1_2.toList) = false := bne_eq_false_iff_eq.mpr c23
           clear c23
           have c24b0 := eq_true (of_decide_eq_true (by first | (with_reducible assumption) | assumption) : 0 ≤ a1_1)
           by_cases c25 : a1_1 ≤ (a0.size : Int)
           ·rw [if_pos c25] at H
            have c25b0 := eq_true c25
            have c25b1 : decide (a1_1 ≤ (a0.size : Int)) = true := decide_eq_true c25
            clear c25
            obtain ⟨ji26, hji26⟩ : ∃ j_ : Int, (wrap64 (a1_1 + (a1_2.size : Int))) = j_ := ⟨_, rfl⟩
            replace H : (if 0 ≤ (ji26) then (if (a0.extract 0 (a1_1 : Int).toNat).size + (a0.extract ((ji26) : Int).toNat a0.size).size ≤ 9223372036854775807 then (some ((a0.extract 0 (a1_1 : Int).toNat) ++ (a0.extract ((ji26) : Int).toNat a0.size), true)) else (none)) else (none)) = some (r1, r2) := by first | (rw [hji26] at H; exact H) | (simp only [hji26] at H ⊢; exact H)
            (try rw [hji26] at c21b0)
            (try rw [hji26] at c21b1)
            (try rw [hji26] at c21)
            (try rw [hji26] at c22b0)
            (try rw [hji26] at c22b1)
            (try rw [hji26] at c22)
            (try rw [hji26] at c23b0)
            (try rw [hji26] at c23b1)
            have hji26w : (IntKind.i64.wrap (a1_1 + (a1_2.size : Int))) = ji26 := (i64_w _).trans hji26
            by_cases c27 : 0 ≤ (ji26)
            ·rw [if_pos c27] at H
             have c27b0 := eq_true c27
             have c27b1 : decide (0 ≤ (ji26)) = true := decide_eq_true c27
             clear c27
             have c28b0 := eq_true (of_decide_eq_true (by first | (with_reducible assumption) | assumption) : (ji26) ≤ (a0.size : Int))
             by_cases c29 : (a0.extract 0 (a1_1 : Int).toNat).size + (a0.extract ((ji26) : Int).toNat a0.size).size ≤ 9223372036854775807
             ·rw [if_pos c29] at H
              try (have c29b3 := c29; simp [*, -c29, -H] at c29b3)
              try (have c29b4 := eq_false (Nat.not_lt.2 c29b3))
              have c29b0 := eq_true c29
              have c29b1 : decide ((a0.extract 0 (a1_1 : Int).toNat).size + (a0.extract ((ji26) : Int).toNat a0.size).size ≤ 9223372036854775807) = true := decide_eq_true c29
              try have c29b2 : (9223372036854775807 < (a0.extract 0 (a1_1 : Int).toNat).size + (a0.extract ((ji26) : Int).toNat a0.size).size) = False := eq_false (Nat.not_lt.2 c29)
              simp only [Option.some.injEq, Prod.mk.injEq] at H
              obtain ⟨rfl, rfl⟩ := H
              have hcz30_0 : wc.cell? ⟨gb241, 0, none⟩ = some (.int .i64 a1_0) := (blk_cell BK241.out 0).trans rfl
              have hcz30_1 : wc.cell? ⟨gb241, 1, none⟩ = some (.int .i64 a1_1) := (blk_cell BK241.out 1).trans rfl
              have hcz30_2 : wc.cell? ⟨gb241, 2, none⟩ = some (.string a1_2) := (blk_cell BK241.out 2).trans rfl
              have hfz30_0 := blk_frozen BK241.out 0
              have hfz30_1 := blk_frozen BK241.out 1
              have hfz30_2 := blk_frozen BK241.out 2
              go_wp2
              repeat (go_quiet (fail); try go_wp2)
              go_ret2
              exact ⟨by first | rfl | (simp [errW_none, errW_some] <;> rfl) | (simp only [← hji26]; first | rfl | (simp [errW_none, errW_some] <;> rfl)) | (simp [*, errW_none, errW_some] <;> rfl), by repeat (first | (with_reducible first | exact HB.out | apply below_alloc | apply pw_below_drewN | apply below_drew1 | refine below_set ?_ GE241.out) | exact HB.out)⟩
             ·rw [if_neg c29] at H
              try (have c29b3 := c29; simp [*, -c29, -H] at c29b3)
              try (have c29b4 := eq_false (Nat.not_lt.2 c29b3))
              exact absurd H (by simp)
            ·rw [if_neg c27] at H
             exact absurd H (by simp)
           ·rw [if_neg c25] at H
            exact absurd H (by simp)
          ·rw [if_neg c23] at H
           try (have c23b3 := c23; simp [*, -c23, -H] at c23b3)
           try (have c23b4 := eq_false (Nat.not_lt.2 c23b3))
           have c23b0 : ((a0.extract (a1_1 : Int).toNat ((wrap64 (a1_1 + (a1_2.size : Int))) : Int).toNat).toList == a1_2.toList) = false := beq_eq_false_iff_ne.mpr c23
           have c23b1 : ((a0.extract (a1_1 : Int).toNat ((wrap64 (a1_1 + (a1_2.size : Int))) : Int).toNat).toList != a1_2.toList) = true := bne_iff_ne.mpr c23
           simp only [Option.some.injEq, Prod.mk.injEq] at H
           obtain ⟨rfl, rfl⟩ := H
           have hcz31_0 : wc.cell? ⟨gb241, 0, none⟩ = some (.int .i64 a1_0) := (blk_cell BK241.out 0).trans rfl
           have hcz31_1 : wc.cell? ⟨gb241, 1, none⟩ = some (.int .i64 a1_1) := (blk_cell BK241.out 1).trans rfl
           have hcz31_2 : wc.cell? ⟨gb241, 2, none⟩ = some (.string a1_2) := (blk_cell BK241.out 2).trans rfl
           have hfz31_0 := blk_frozen BK241.out 0
           have hfz31_1 := blk_frozen BK241.out 1
           have hfz31_2 := blk_frozen BK241.out 2
           go_wp2
           repeat (go_quiet (fail); try go_wp2)
           go_ret2
           exact ⟨by first | rfl | (simp [errW_none, errW_some] <;> rfl) | (simp [*, errW_none, errW_some] <;> rfl), by repeat (first | (with_reducible first | exact HB.out | apply below_alloc | apply pw_below_drewN | apply below_drew1 | refine below_set ?_ GE241.out) | exact HB.out)⟩
         ·rw [if_neg c22] at H
          exact absurd H (by simp)
        ·rw [if_neg c21] at H
         exact absurd H (by simp)
       ·rw [if_neg c20] at H
        exact absurd H (by simp)
      ·rw [if_neg c19] at H
       have c19b0 : decide ((a1_2.size : Int) ≤ (wrap64 ((a0.size : Int) - a1_1))) = false := decide_eq_false c19
       clear c19
       simp only [Option.some.injEq, Prod.mk.injEq] at H
       obtain ⟨rfl, rfl⟩ := H
       have hcz32_0 : wc.cell? ⟨gb241, 0, none⟩ = some (.int .i64 a1_0) := (blk_cell BK241.out 0).trans rfl
       have hcz32_1 : wc.cell? ⟨gb241, 1, none⟩ = some (.int .i64 a1_1) := (blk_cell BK241.out 1).trans rfl
       have hcz32_2 : wc.cell? ⟨gb241, 2, none⟩ = some (.string a1_2) := (blk_cell BK241.out 2).trans rfl
       have hfz32_0 := blk_frozen BK241.out 0
       have hfz32_1 := blk_frozen BK241.out 1
       have hfz32_2 := blk_frozen BK241.out 2
       go_wp2
       repeat (go_quiet (fail); try go_wp2)
       go_ret2
       exact ⟨by first | rfl | (simp [errW_none, errW_some] <;> rfl) | (simp [*, errW_none, errW_some] <;> rfl), by repeat (first | (with_reducible first | exact HB.out | apply below_alloc | apply pw_below_drewN | apply below_drew1 | refine below_set ?_ GE241.out) | exact HB.out)⟩
     ·rw [if_neg c18] at H
      have c18b0 : (a1_0 == 2) = false := beq_eq_false_iff_ne.mpr c18
      have c18b1 : (a1_0 != 2) = true := bne_iff_ne.mpr c18
      simp only [Option.some.injEq, Prod.mk.injEq] at H
      obtain ⟨rfl, rfl⟩ := H
      have hcz33_0 : wc.cell? ⟨gb241, 0, none⟩ = some (.int .i64 a1_0) := (blk_cell BK241.out 0).trans rfl
      have hcz33_1 : wc.cell? ⟨gb241, 1, none⟩ = some (.int .i64 a1_1) := (blk_cell BK241.out 1).trans rfl
      have hcz33_2 : wc.cell? ⟨gb241, 2, none⟩ = some (.string a1_2) := (blk_cell BK241.out 2).trans rfl
      have hfz33_0 := blk_frozen BK241.out 0
      have hfz33_1 := blk_frozen BK241.out 1
      have hfz33_2 := blk_frozen BK241.out 2
      go_wp2
      repeat (go_quiet (fail); try go_wp2)
      go_ret2
      exact ⟨by first | rfl | (simp [errW_none, errW_some] <;> rfl) | (simp [*, errW_none, errW_some] <;> rfl), by repeat (first | (with_reducible first | exact HB.out | apply below_alloc | apply pw_below_drewN | apply below_drew1 | refine below_set ?_ GE241.out) | exact HB.out)⟩

end Go.Proofs.Ytnlfmbdnleclfaa.Q
