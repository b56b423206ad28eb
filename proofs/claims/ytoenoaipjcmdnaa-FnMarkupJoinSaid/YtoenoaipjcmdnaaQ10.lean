import Derived.Test.YtoenoaipjcmdnaaQ0
namespace Go.Proofs.Ytoenoaipjcmdnaa.Q
open Go.RowKit Go.Proofs.YtoenoaipjcmdnaaW.PrintWords Go.Proofs.YtoenoaipjcmdnaaW.PrintLast Go.Proofs.YtoenoaipjcmdnaaW.PrintMore
attribute [local go_sem] max2_int min2_int max_two min_two max_three min_three max_four min_four
set_option linter.unusedVariables false
set_option linter.unusedSimpArgs false

/-! ### spec_markupRow: function 38 -/
def spec_markupRow.l0 : Nat → ByteArray → Int → Int → Int → Int → Int → ByteArray → Option (ByteArray)
 | 0, _, _, _, _, _, _, _ => none
 | k + 1, x3, x4, x149000, x149001, x149002, x149003, x149004 => if x4 < x149003 then (if x3.size + 2 ≤ 9223372036854775807 then (spec_markupRow.l0 k (x3 ++ (⟨#[32, 32]⟩ : ByteArray)) (wrap64 (x4 + 1)) x149000 x149001 x149002 x149003 x149004) else (none)) else (if 0 ≤ (wrap64 (x149002 - 1)) then (if (wrap64 (x149002 - 1)) ≤ x149002 then (if x149002 ≤ 4 then (if x3.size + ((⟨#[112, 104, 108, 105]⟩ : ByteArray).extract ((wrap64 (x149002 - 1)) : Int).toNat (x149002 : Int).toNat).size ≤ 9223372036854775807 then (if (x3 ++ ((⟨#[112, 104, 108, 105]⟩ : ByteArray).extract ((wrap64 (x149002 - 1)) : Int).toNat (x149002 : Int).toNat)).size + 1 ≤ 9223372036854775807 then (if ((x3 ++ ((⟨#[112, 104, 108, 105]⟩ : ByteArray).extract ((wrap64 (x149002 - 1)) : Int).toNat (x149002 : Int).toNat)) ++ (⟨#[32]⟩ : ByteArray)).size + x149004.size ≤ 9223372036854775807 then (if (((x3 ++ ((⟨#[112, 104, 108, 105]⟩ : ByteArray).extract ((wrap64 (x149002 - 1)) : Int).toNat (x149002 : Int).toNat)) ++ (⟨#[32]⟩ : ByteArray)) ++ x149004).size + 1 ≤ 9223372036854775807 then (some ((((x3 ++ ((⟨#[112, 104, 108, 105]⟩ : ByteArray).extract ((wrap64 (x149002 - 1)) : Int).toNat (x149002 : Int).toNat)) ++ (⟨#[32]⟩ : ByteArray)) ++ x149004) ++ (⟨#[10]⟩ : ByteArray))) else (none)) else (none)) else (none)) else (none)) else (none)) else (none)) else (none))
def spec_markupRow.f (k : Nat) (a0_0 : Int) (a0_1 : Int) (a0_2 : Int) (a0_3 : Int) (a0_4 : ByteArray) : Option (ByteArray) := spec_markupRow.l0 k (⟨#[]⟩ : ByteArray) 0 a0_0 a0_1 a0_2 a0_3 a0_4
theorem spec_markupRow.mono_l : ∀ k, (∀ y0 y1 y2 y3 y4 y5 y6, LeO (spec_markupRow.l0 k y0 y1 y2 y3 y4 y5 y6) (spec_markupRow.l0 (k + 1) y0 y1 y2 y3 y4 y5 y6))
 | 0 => fun _ _ _ _ _ _ _ r h => by simp [spec_markupRow.l0] at h
 | k + 1 => by
  have ih0 := spec_markupRow.mono_l k
  ·intro y0 y1 y2 y3 y4 y5 y6
   unfold spec_markupRow.l0
   repeat' first
   | (with_reducible exact ih0 _ _ _ _ _ _ _)
   | (with_reducible exact LeO.refl _)
   | (with_reducible exact LeO.none _)
   | (with_reducible refine LeO.ite ?_ ?_)
   | (with_reducible refine LeO.bind ?_ (fun _ => ?_))
   | exact ih0 _ _ _ _ _ _ _
   | exact LeO.none _
   | refine LeO.ite ?_ ?_
   | refine LeO.bind ?_ (fun _ => ?_)
theorem spec_markupRow.mono : ∀ a0 a1 a2 a3 a4 k, LeO (spec_markupRow.f k a0 a1 a2 a3 a4) (spec_markupRow.f (k + 1) a0 a1 a2 a3 a4) := by
 intro a0 a1 a2 a3 a4 k
 have ih0 := spec_markupRow.mono_l k
 unfold spec_markupRow.f
 repeat' first
   | (with_reducible exact ih0 _ _ _ _ _ _ _)
   | (with_reducible exact LeO.refl _)
   | (with_reducible exact LeO.none _)
   | (with_reducible refine LeO.ite ?_ ?_)
   | (with_reducible refine LeO.bind ?_ (fun _ => ?_))
   | exact ih0 _ _ _ _ _ _ _
   | exact LeO.none _
   | refine LeO.ite ?_ ?_
   | refine LeO.bind ?_ (fun _ => ?_)
set_option maxHeartbeats 8000000 in
set_option maxRecDepth 100000 in
theorem spec_markupRow.calls (k : Nat) (a0_0 : Int) (a0_1 : Int) (a0_2 : Int) (a0_3 : Int) (a0_4 : ByteArray) (r : ByteArray) (w : World) (h : spec_markupRow.f k a0_0 a0_1 a0_2 a0_3 a0_4 = some r) :
  Calls Try.prog 38 #[.agg #[.int .i64 a0_0, .int .i64 a0_1, .int .i64 a0_2, .int .i64 a0_3, .string a0_4]] w fun e w' => e = .returned (.string r) ∧ Below w.heap.size w w' := by
 have hu42 := Try.underlying42
 have HB := Aside0.mk (Below.refl w.heap.size w)
 have H : (spec_markupRow.l0 k (⟨#[]⟩ : ByteArray) 0 a0_0 a0_1 a0_2 a0_3 a0_4) = some r := h
 clear h
 have H' := Aside0.mk H
 clear H
 go_enter Try.func38, Try.ntmps38
 go_wp2_with (first | ((with_reducible refine gate_dst (N := 1) rfl ?_); refine box_event ?hg (N := 1) ?hd (cs := #[.int .i64 a0_0, .int .i64 a0_1, .int .i64 a0_2, .int .i64 a0_3, .string a0_4]) (t := 42) ?hr ?_; (case hd => rfl); (case hg => rfl); (case hr => first | (go_simp; done) | (go_simp; rfl)); intro gb148 hg w2 hbox hb; have n0_ := Aside0.mk (below_step (by repeat (first | (with_reducible first | exact HB.out | apply below_alloc | apply pw_below_drewN | apply below_drew1) | exact HB.out)) hb); have n1_ := Aside0.mk (hbox); have n2_ := Aside0.mk ((by rw [hg]; exact (below_size (by repeat (first | (with_reducible first | exact HB.out | apply below_alloc | apply pw_below_drewN | apply below_drew1) | exact HB.out))) : w.heap.size ≤ gb148)); have n3_ := Aside0.mk ((by rw [hg]; exact (below_size (by repeat (first | (with_reducible first | exact HB.out | apply below_alloc | apply pw_below_drewN | apply below_drew1) | exact HB.out))) : w.heap.size ≤ gb148)); clear HB; have HB := n0_; have BK148 := n1_; have GW148 := n2_; have GE148 := n3_; clear n0_ n1_ n2_ n3_; clear hb hbox hg))
 repeat (go_quiet (first | ((with_reducible refine gate_dst (N := 1) rfl ?_); refine box_event ?hg (N := 1) ?hd (cs := #[.int .i64 a0_0, .int .i64 a0_1, .int .i64 a0_2, .int .i64 a0_3, .string a0_4]) (t := 42) ?hr ?_; (case hd => rfl); (case hg => rfl); (case hr => first | (go_simp; done) | (go_simp; rfl)); intro gb148 hg w2 hbox hb; have n0_ := Aside0.mk (below_step (by repeat (first | (with_reducible first | exact HB.out | apply below_alloc | apply pw_below_drewN | apply below_drew1) | exact HB.out)) hb); have n1_ := Aside0.mk (hbox); have n2_ := Aside0.mk ((by rw [hg]; exact (below_size (by repeat (first | (with_reducible first | exact HB.out | apply below_alloc | apply pw_below_drewN | apply below_drew1) | exact HB.out))) : w.heap.size ≤ gb148)); have n3_ := Aside0.mk ((by rw [hg]; exact (below_size (by repeat (first | (with_reducible first | exact HB.out | apply below_alloc | apply pw_below_drewN | apply below_drew1) | exact HB.out))) : w.heap.size ≤ gb148)); clear HB; have HB := n0_; have BK148 := n1_; have GW148 := n2_; have GE148 := n3_; clear n0_ n1_ n2_ n3_; clear hb hbox hg)); try go_wp2_with (first | ((with_reducible refine gate_dst (N := 1) rfl ?_); refine box_event ?hg (N := 1) ?hd (cs := #[.int .i64 a0_0, .int .i64 a0_1, .int .i64 a0_2, .int .i64 a0_3, .string a0_4]) (t := 42) ?hr ?_; (case hd => rfl); (case hg => rfl); (case hr => first | (go_simp; done) | (go_simp; rfl)); intro gb148 hg w2 hbox hb; have n0_ := Aside0.mk (below_step (by repeat (first | (with_reducible first | exact HB.out | apply below_alloc | apply pw_below_drewN | apply below_drew1) | exact HB.out)) hb); have n1_ := Aside0.mk (hbox); have n2_ := Aside0.mk ((by rw [hg]; exact (below_size (by repeat (first | (with_reducible first | exact HB.out | apply below_alloc | apply pw_below_drewN | apply below_drew1) | exact HB.out))) : w.heap.size ≤ gb148)); have n3_ := Aside0.mk ((by rw [hg]; exact (below_size (by repeat (first | (with_reducible first | exact HB.out | apply below_alloc | apply pw_below_drewN | apply below_drew1) | exact HB.out))) : w.heap.size ≤ gb148)); clear HB; have HB := n0_; have BK148 := n1_; have GW148 := n2_; have GE148 := n3_; clear n0_ n1_ n2_ n3_; clear hb hbox hg)))
 go_loopg [3, 4] k (fun kq v3 v4 w' => ∃ (x3_1 : ByteArray) (x4_1 : Int), v3 = .string x3_1 ∧ v4 = .int .i64 x4_1 ∧ Aside0 (spec_markupRow.l0 kq x3_1 x4_1 a0_0 a0_1 a0_2 a0_3 a0_4 = some r) ∧ Aside0 (kq ≤ k) ∧ Aside0 (w'.heap[gb148]? = some (.cells #[.int .i64 a0_0, .int .i64 a0_1, .int .i64 a0_2, .int .i64 a0_3, .string a0_4] 42 (0, 0))) ∧ Aside0 (Below w.heap.size w w'))
 case atStart => exact ⟨((⟨#[]⟩ : ByteArray)), (0), (by first | rfl | (simp; done) | (simp [*]; done)), (by first | rfl | (simp; done) | (simp [*]; done)), H', ⟨Nat.le_refl _⟩, ⟨by (with_reducible repeat (first | refine blk_drewN ?_ _ | refine blk_drew ?_ | refine blk_alloc ?_ _)); exact BK148.out⟩, ⟨by repeat (first | (with_reducible first | exact HB.out | apply below_alloc | apply pw_below_drewN | apply below_drew1 | refine below_set ?_ GE148.out) | exact HB.out)⟩⟩
 case round =>
  clear H'
  try clear p2
  obtain ⟨x3_1, x4_1, rfl, rfl, HA, HK1, BK148, HB⟩ := hrel
  cases gk with
  | zero => exact absurd HA.out (by simp [spec_markupRow.l0])
  | succ k1 =>
   have H := HA.out
   clear HA
   simp only [spec_markupRow.l0] at H
   by_cases c3 : x4_1 < a0_3
   ·rw [if_pos c3] at H
    have c3b0 : decide (x4_1 < a0_3) = true := decide_eq_true c3
    clear c3
    by_cases c4 : x3_1.size + 2 ≤ 9223372036854775807
    ·rw [if_pos c4] at H
     have c4b0 := eq_true c4
     have c4b1 : decide (x3_1.size + 2 ≤ 9223372036854775807) = true := decide_eq_true c4
     try have c4b2 : (9223372036854775807 < x3_1.size + 2) = False := eq_false (Nat.not_lt.2 c4)
     have H' := Aside0.mk H
     clear H
     have hcz5_0 : wr.cell? ⟨gb148, 0, none⟩ = some (.int .i64 a0_0) := (blk_cell BK148.out 0).trans rfl
     have hcz5_1 : wr.cell? ⟨gb148, 1, none⟩ = some (.int .i64 a0_1) := (blk_cell BK148.out 1).trans rfl
     have hcz5_2 : wr.cell? ⟨gb148, 2, none⟩ = some (.int .i64 a0_2) := (blk_cell BK148.out 2).trans rfl
     have hcz5_3 : wr.cell? ⟨gb148, 3, none⟩ = some (.int .i64 a0_3) := (blk_cell BK148.out 3).trans rfl
     have hcz5_4 : wr.cell? ⟨gb148, 4, none⟩ = some (.string a0_4) := (blk_cell BK148.out 4).trans rfl
     have hfz5_0 := blk_frozen BK148.out 0
     have hfz5_1 := blk_frozen BK148.out 1
     have hfz5_2 := blk_frozen BK148.out 2
     have hfz5_3 := blk_frozen BK148.out 3
     have hfz5_4 := blk_frozen BK148.out 4
     go_wp2
     repeat (go_quiet (fail); try go_wp2)
     go_roundg k1
     case measure => have := HK1.out; omega
     case rel => exact ⟨(x3_1 ++ (⟨#[32, 32]⟩ : ByteArray)), (wrap64 (x4_1 + 1)), (by first | rfl | (simp; done) | (simp [*]; done)), (by first | rfl | (simp; done) | (simp [*]; done)), H', ⟨by have := HK1.out; omega⟩, ⟨by (with_reducible repeat (first | refine blk_drewN ?_ _ | refine blk_drew ?_ | refine blk_alloc ?_ _)); exact BK148.out⟩, ⟨by repeat (first | (with_reducible first | exact HB.out | apply below_alloc | apply pw_below_drewN | apply below_drew1 | refine below_set ?_ GE148.out) | exact HB.out)⟩⟩
    ·rw [if_neg c4] at H
     exact absurd H (by simp)
   ·rw [if_neg c3] at H
    have c3b0 : decide (x4_1 < a0_3) = false := decide_eq_false c3
    clear c3
    obtain ⟨ji6, hji6⟩ : ∃ j_ : Int, (wrap64 (a0_2 - 1)) = j_ := ⟨_, rfl⟩
    replace H : (if 0 ≤ (ji6) then (if (ji6) ≤ a0_2 then (if a0_2 ≤ 4 then (if x3_1.size + ((⟨#[112, 104, 108, 105]⟩ : ByteArray).extract ((ji6) : Int).toNat (a0_2 : Int).toNat).size ≤ 9223372036854775807 then (if (x3_1 ++ ((⟨#[112, 104, 108, 105]⟩ : ByteArray).extract ((ji6) : Int).toNat (a0_2 : Int).toNat)).size + 1 ≤ 9223372036854775807 then (if ((x3_1 ++ ((⟨#[112, 104, 108, 105]⟩ : ByteArray).extract ((ji6) : Int).toNat (a0_2 : Int).toNat)) ++ (⟨#[32]⟩ : ByteArray)).size + a0_4.size ≤ 9223372036854775807 then (if (((x3_1 ++ ((⟨#[112, 104, 108, 105]⟩ : ByteArray).extract ((ji6) : Int).toNat (a0_2 : Int).toNat)) ++ (⟨#[32]⟩ : ByteArray)) ++ a0_4).size + 1 ≤ 9223372036854775807 then (some ((((x3_1 ++ ((⟨#[112, 104, 108, 105]⟩ : ByteArray).extract ((ji6) : Int).toNat (a0_2 : Int).toNat)) ++ (⟨#[32]⟩ : ByteArray)) ++ a0_4) ++ (⟨#[10]⟩ : ByteArray))) else (none)) else (none)) else (none)) else (none)) else (none)) else (none)) else (none)) = some r := by first | (rw [hji6] at H; exact H) | (simp only [hji6] at H ⊢; exact H)
    have hji6w : (IntKind.i64.wrap (a0_2 - 1)) = ji6 := (i64_w _).trans hji6
    by_cases c7 : 0 ≤ (ji6)
    ·rw [if_pos c7] at H
     have c7b0 := eq_true c7
     have c7b1 : decide (0 ≤ (ji6)) = true := decide_eq_true c7
     clear c7
     by_cases c8 : (ji6) ≤ a0_2
     ·rw [if_pos c8] at H
      have c8b0 := eq_true c8
      have c8b1 : decide ((ji6) ≤ a0_2) = true := decide_eq_true c8
      clear c8
      by_cases c9 : a0_2 ≤ 4
      ·rw [if_pos c9] at H
       have c9b0 := eq_true c9
       have c9b1 : decide (a0_2 ≤ 4) = true := decide_eq_true c9
       clear c9
       have X1_ : ((⟨#[112, 104, 108, 105]⟩ : ByteArray).extract ((ji6) : Int).toNat (a0_2 : Int).toNat).size = (a0_2 : Int).toNat - ((ji6) : Int).toNat := by (have y_ := of_eq_true c9b0; rw [ByteArray.size_extract]; show min _ 4 - _ = _; omega)
       by_cases c10 : x3_1.size + ((⟨#[112, 104, 108, 105]⟩ : ByteArray).extract ((ji6) : Int).toNat (a0_2 : Int).toNat).size ≤ 9223372036854775807
       ·rw [if_pos c10] at H
        try (have c10b3 := c10; simp [*, -c10, -H] at c10b3)
        try (have c10b4 := eq_false (Nat.not_lt.2 c10b3))
        have c10b0 := eq_true c10
        have c10b1 : decide (x3_1.size + ((⟨#[112, 104, 108, 105]⟩ : ByteArray).extract ((ji6) : Int).toNat (a0_2 : Int).toNat).size ≤ 9223372036854775807) = true := decide_eq_true c10
        try have c10b2 : (9223372036854775807 < x3_1.size + ((⟨#[112, 104, 108, 105]⟩ : ByteArray).extract ((ji6) : Int).toNat (a0_2 : Int).toNat).size) = False := eq_false (Nat.not_lt.2 c10)
        try (have c10b5 := c10b2; simp only [ByteArray.size_append, (show (⟨#[32]⟩ : ByteArray).size = 1 from rfl), (show (⟨#[10]⟩ : ByteArray).size = 1 from rfl), X1_] at c10b5)
        by_cases c11 : (x3_1 ++ ((⟨#[112, 104, 108, 105]⟩ : ByteArray).extract ((ji6) : Int).toNat (a0_2 : Int).toNat)).size + 1 ≤ 9223372036854775807
        ·rw [if_pos c11] at H
         try (have c11b3 := c11; simp [*, -c11, -H] at c11b3)
         try (have c11b4 := eq_false (Nat.not_lt.2 c11b3))
         have c11b0 := eq_true c11
         have c11b1 : decide ((x3_1 ++ ((⟨#[112, 104, 108, 105]⟩ : ByteArray).extract ((ji6) : Int).toNat (a0_2 : Int).toNat)).size + 1 ≤ 9223372036854775807) = true := decide_eq_true c11
         try have c11b2 : (9223372036854775807 < (x3_1 ++ ((⟨#[112, 104, 108, 105]⟩ : ByteArray).extract ((ji6) : Int).toNat (a0_2 : Int).toNat)).size + 1) = False := eq_false (Nat.not_lt.2 c11)
         try (have c11b5 := c11b2; simp only [ByteArray.size_append, (show (⟨#[32]⟩ : ByteArray).size = 1 from rfl), (show (⟨#[10]⟩ : ByteArray).size = 1 from rfl), X1_] at c11b5)
         by_cases c12 : ((x3_1 ++ ((⟨#[112, 104, 108, 105]⟩ : ByteArray).extract ((ji6) : Int).toNat (a0_2 : Int).toNat)) ++ (⟨#[32]⟩ : ByteArray)).size + a0_4.size ≤ 9223372036854775807
         ·rw [if_pos c12] at H
          try (have c12b3 := c12; simp [*, -c12, -H] at c12b3)
          try (have c12b4 := eq_false (Nat.not_lt.2 c12b3))
          have c12b0 := eq_true c12
          have c12b1 : decide (((x3_1 ++ ((⟨#[112, 104, 108, 105]⟩ : ByteArray).extract ((ji6) : Int).toNat (a0_2 : Int).toNat)) ++ (⟨#[32]⟩ : ByteArray)).size + a0_4.size ≤ 9223372036854775807) = true := decide_eq_true c12
          try have c12b2 : (9223372036854775807 < ((x3_1 ++ ((⟨#[112, 104, 108, 105]⟩ : ByteArray).extract ((ji6) : Int).toNat (a0_2 : Int).toNat)) ++ (⟨#[32]⟩ : ByteArray)).size + a0_4.size) = False := eq_false (Nat.not_lt.2 c12)
          try (have c12b5 := c12b2; simp only [ByteArray.size_append, (show (⟨#[32]⟩ : ByteArray).size = 1 from rfl), (show (⟨#[10]⟩ : ByteArray).size = 1 from rfl), X1_] at c12b5)
          by_cases c13 : (((x3_1 ++ ((⟨#[112, 104, 108, 105]⟩ : ByteArray).extract ((ji6) : Int).toNat (a0_2 : Int).toNat)) ++ (⟨#[32]⟩ : ByteArray)) ++ a0_4).size + 1 ≤ 9223372036854775807
          ·rw [if_pos c13] at H
           try (have c13b3 := c13; simp [*, -c13, -H] at c13b3)
           try (have c13b4 := eq_false (Nat.not_lt.2 c13b3))
           have c13b0 := eq_true c13
           have c13b1 : decide ((((x3_1 ++ ((⟨#[112, 104, 108, 105]⟩ : ByteArray).extract ((ji6) : Int).toNat (a0_2 : Int).toNat)) ++ (⟨#[32]⟩ : ByteArray)) ++ a0_4).size + 1 ≤ 9223372036854775807) = true := decide_eq_true c13
           try have c13b2 : (9223372036854775807 < (((x3_1 ++ ((⟨#[112, 104, 108, 105]⟩ : ByteArray).extract ((ji6) : Int).toNat (a0_2 : Int).toNat)) ++ (⟨#[32]⟩ : ByteArray)) ++ a0_4).size + 1) = False := eq_false (Nat.not_lt.2 c13)
           try (have c13b5 := c13b2; simp only [ByteArray.size_append, (show (⟨#[32]⟩ : ByteArray).size = 1 from rfl), (show (⟨#[10]⟩ : ByteArray).size = 1 from rfl), X1_] at c13b5)
           obtain rfl := Option.some.inj H
           have hcz14_0 : wr.cell? ⟨gb148, 0, none⟩ = some (.int .i64 a0_0) := (blk_cell BK148.out 0).trans rfl
           have hcz14_1 : wr.cell? ⟨gb148, 1, none⟩ = some (.int .i64 a0_1) := (blk_cell BK148.out 1).trans rfl
           have hcz14_2 : wr.cell? ⟨gb148, 2, none⟩ = some (.int .i64 a0_2) := (blk_cell BK148.out 2).trans rfl
           have hcz14_3 : wr.cell? ⟨gb148, 3, none⟩ = some (.int .i64 a0_3) := (blk_cell BK148.out 3).trans rfl
           have hcz14_4 : wr.cell? ⟨gb148, 4, none⟩ = some (.string a0_4) := (blk_cell BK148.out 4).trans rfl
           have hfz14_0 := blk_frozen BK148.out 0
           have hfz14_1 := blk_frozen BK148.out 1
           have hfz14_2 := blk_frozen BK148.out 2
           have hfz14_3 := blk_frozen BK148.out 3
           have hfz14_4 := blk_frozen BK148.out 4
           go_wp2
           repeat (go_quiet (fail); try go_wp2)
           go_ret
           exact ⟨by first | rfl | (simp [errW_none, errW_some] <;> rfl) | (simp only [← hji6]; first | rfl | (simp [errW_none, errW_some] <;> rfl)) | (simp [*, errW_none, errW_some] <;> rfl), by repeat (first | (with_reducible first | exact HB.out | apply below_alloc | apply pw_below_drewN | apply below_drew1 | refine below_set ?_ GE148.out) | exact HB.out)⟩
          ·rw [if_neg c13] at H
           try (have c13b3 := c13; simp [*, -c13, -H] at c13b3)
           try (have c13b4 := eq_false (Nat.not_lt.2 c13b3))
           exact absurd H (by simp)
         ·rw [if_neg c12] at H
          try (have c12b3 := c12; simp [*, -c12, -H] at c12b3)
          try (have c12b4 := eq_false (Nat.not_lt.2 c12b3))
          exact absurd H (by simp)
        ·rw [if_neg c11] at H
         try (have c11b3 := c11; simp [*, -c11, -H] at c11b3)
         try (have c11b4 := eq_false (Nat.not_lt.2 c11b3))
         exact absurd H (by simp)
       ·rw [if_neg c10] at H
        try (have c10b3 := c10; simp [*, -c10, -H] at c10b3)
        try (have c10b4 := eq_false (Nat.not_lt.2 c10b3))
        exact absurd H (by simp)
      ·rw [if_neg c9] at H
       exact absurd H (by simp)
     ·rw [if_neg c8] at H
      exact absurd H (by simp)
    ·rw [if_neg c7] at H
     exact absurd H (by simp)

end Go.Proofs.Ytoenoaipjcmdnaa.Q
