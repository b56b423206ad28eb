import Derived.Test.YtoenoaipjcmdnaaQ0
import Derived.Test.YtoenoaipjcmdnaaQ17
import Derived.Test.YtoenoaipjcmdnaaQ31
import Derived.Test.YtoenoaipjcmdnaaBld
namespace Go.Proofs.Ytoenoaipjcmdnaa.Q
open Go.RowKit Go.Proofs.YtoenoaipjcmdnaaW.PrintWords Go.Proofs.YtoenoaipjcmdnaaW.PrintLast Go.Proofs.YtoenoaipjcmdnaaW.PrintMore
attribute [local go_sem] max2_int min2_int max_two min_two max_three min_three max_four min_four
set_option linter.unusedVariables false
set_option linter.unusedSimpArgs false

/-! ### impl_RowsMarkup: function 15 -/
mutual
def impl_RowsMarkup.j0 : Nat → List (S42) → Bool → Option (ByteArray)
 | 0, _, _ => none
 | k + 1, x0, x14 => if x14 = true then (some (⟨#[]⟩ : ByteArray)) else (impl_RowsMarkup.l0 k (⟨#[]⟩ : ByteArray) x0 (x0.length : Int) 0)
def impl_RowsMarkup.l0 : Nat → ByteArray → List (S42) → Int → Int → Option (ByteArray)
 | 0, _, _, _, _ => none
 | k + 1, x3, x15, x16, x17 => if x17 < x16 then (if 0 ≤ x17 then (if x17 < (x15.length : Int) then (impl_RowsMarkup.l1 k x3 0 x15 x16 x17 ((rd_T42 x15 x17).f0.f0) ((rd_T42 x15 x17).f0.f1) ((rd_T42 x15 x17).f1) ((rd_T42 x15 x17).f2) ((rd_T42 x15 x17).f3)) else (none)) else (none)) else (some x3)
def impl_RowsMarkup.l1 : Nat → ByteArray → Int → List (S42) → Int → Int → Int → Int → Int → Int → ByteArray → Option (ByteArray)
 | 0, _, _, _, _, _, _, _, _, _, _ => none
 | k + 1, x3, x6, x15, x16, x17, x186000, x186001, x186002, x186003, x186004 => if x6 < (x186004.size : Int) then (if 0 ≤ x6 then (if (bt x186004 x6) < 32 then (some (⟨#[]⟩ : ByteArray)) else (if (bt x186004 x6) > 126 then (some (⟨#[]⟩ : ByteArray)) else (impl_RowsMarkup.l1 k x3 (wrap64 (x6 + 1)) x15 x16 x17 x186000 x186001 x186002 x186003 x186004))) else (none)) else ((strings_Repeat.f (⟨#[32, 32]⟩ : ByteArray) x186003).bind fun t186 => (if 0 ≤ (wrap64 (x186002 - 1)) then (if (wrap64 (x186002 - 1)) ≤ x186002 then (if x186002 ≤ 4 then (if t186.size + ((⟨#[112, 104, 108, 105]⟩ : ByteArray).extract ((wrap64 (x186002 - 1)) : Int).toNat (x186002 : Int).toNat).size ≤ 9223372036854775807 then (if (t186 ++ ((⟨#[112, 104, 108, 105]⟩ : ByteArray).extract ((wrap64 (x186002 - 1)) : Int).toNat (x186002 : Int).toNat)).size + 1 ≤ 9223372036854775807 then (if ((t186 ++ ((⟨#[112, 104, 108, 105]⟩ : ByteArray).extract ((wrap64 (x186002 - 1)) : Int).toNat (x186002 : Int).toNat)) ++ (⟨#[32]⟩ : ByteArray)).size + x186004.size ≤ 9223372036854775807 then (if (((t186 ++ ((⟨#[112, 104, 108, 105]⟩ : ByteArray).extract ((wrap64 (x186002 - 1)) : Int).toNat (x186002 : Int).toNat)) ++ (⟨#[32]⟩ : ByteArray)) ++ x186004).size + 1 ≤ 9223372036854775807 then (if x3.size + ((((t186 ++ ((⟨#[112, 104, 108, 105]⟩ : ByteArray).extract ((wrap64 (x186002 - 1)) : Int).toNat (x186002 : Int).toNat)) ++ (⟨#[32]⟩ : ByteArray)) ++ x186004) ++ (⟨#[10]⟩ : ByteArray)).size ≤ 140737488355328 then (impl_RowsMarkup.l0 k (x3 ++ ((((t186 ++ ((⟨#[112, 104, 108, 105]⟩ : ByteArray).extract ((wrap64 (x186002 - 1)) : Int).toNat (x186002 : Int).toNat)) ++ (⟨#[32]⟩ : ByteArray)) ++ x186004) ++ (⟨#[10]⟩ : ByteArray))) x15 x16 (wrap64 (x17 + 1))) else (none)) else (none)) else (none)) else (none)) else (none)) else (none)) else (none)) else (none)))
end
def impl_RowsMarkup.f (k : Nat) (l0 : List (S42)) : Option (ByteArray) := if (l0.length : Int) > 40 then (impl_RowsMarkup.j0 k l0 true) else ((impl_ValidRows.f k l0).bind fun t183 => (impl_RowsMarkup.j0 k l0 (!t183)))
theorem impl_RowsMarkup.mono_l : ∀ k, (∀ y0 y1, LeO (impl_RowsMarkup.j0 k y0 y1) (impl_RowsMarkup.j0 (k + 1) y0 y1)) ∧ (∀ y0 y1 y2 y3, LeO (impl_RowsMarkup.l0 k y0 y1 y2 y3) (impl_RowsMarkup.l0 (k + 1) y0 y1 y2 y3)) ∧ (∀ y0 y1 y2 y3 y4 y5 y6 y7 y8 y9, LeO (impl_RowsMarkup.l1 k y0 y1 y2 y3 y4 y5 y6 y7 y8 y9) (impl_RowsMarkup.l1 (k + 1) y0 y1 y2 y3 y4 y5 y6 y7 y8 y9))
 | 0 => ⟨fun _ _ r h => by simp [impl_RowsMarkup.j0] at h, fun _ _ _ _ r h => by simp [impl_RowsMarkup.l0] at h, fun _ _ _ _ _ _ _ _ _ _ r h => by simp [impl_RowsMarkup.l1] at h⟩
 | k + 1 => by
  obtain ⟨ih0, ih1, ih2⟩ := impl_RowsMarkup.mono_l k
  refine ⟨?_, ?_, ?_⟩
  ·intro y0 y1
   unfold impl_RowsMarkup.j0
   repeat' first
   | (with_reducible exact ih0 _ _)
   | (with_reducible exact ih1 _ _ _ _)
   | (with_reducible exact ih2 _ _ _ _ _ _ _ _ _ _)
   | (with_reducible exact impl_ValidRows.mono _ _)
   | (with_reducible exact LeO.refl _)
   | (with_reducible exact LeO.none _)
   | (with_reducible refine LeO.ite ?_ ?_)
   | (with_reducible refine LeO.bind ?_ (fun _ => ?_))
   | exact ih0 _ _
   | exact ih1 _ _ _ _
   | exact ih2 _ _ _ _ _ _ _ _ _ _
   | exact impl_ValidRows.mono _ _
   | exact LeO.none _
   | refine LeO.ite ?_ ?_
   | refine LeO.bind ?_ (fun _ => ?_)
  ·intro y0 y1 y2 y3
   unfold impl_RowsMarkup.l0
   repeat' first
   | (with_reducible exact ih0 _ _)
   | (with_reducible exact ih1 _ _ _ _)
   | (with_reducible exact ih2 _ _ _ _ _ _ _ _ _ _)
   | (with_reducible exact impl_ValidRows.mono _ _)
   | (with_reducible exact LeO.refl _)
   | (with_reducible exact LeO.none _)
   | (with_reducible refine LeO.ite ?_ ?_)
   | (with_reducible refine LeO.bind ?_ (fun _ => ?_))
   | exact ih0 _ _
   | exact ih1 _ _ _ _
   | exact ih2 _ _ _ _ _ _ _ _ _ _
   | exact impl_ValidRows.mono _ _
   | exact LeO.none _
   | refine LeO.ite ?_ ?_
   | refine LeO.bind ?_ (fun _ => ?_)
  ·intro y0 y1 y2 y3 y4 y5 y6 y7 y8 y9
   unfold impl_RowsMarkup.l1
   repeat' first
   | (with_reducible exact ih0 _ _)
   | (with_reducible exact ih1 _ _ _ _)
   | (with_reducible exact ih2 _ _ _ _ _ _ _ _ _ _)
   | (with_reducible exact impl_ValidRows.mono _ _)
   | (with_reducible exact LeO.refl _)
   | (with_reducible exact LeO.none _)
   | (with_reducible refine LeO.ite ?_ ?_)
   | (with_reducible refine LeO.bind ?_ (fun _ => ?_))
   | exact ih0 _ _
   | exact ih1 _ _ _ _
   | exact ih2 _ _ _ _ _ _ _ _ _ _
   | exact impl_ValidRows.mono _ _
   | exact LeO.none _
   | refine LeO.ite ?_ ?_
   | refine LeO.bind ?_ (fun _ => ?_)
theorem impl_RowsMarkup.mono : ∀ a0 k, LeO (impl_RowsMarkup.f k a0) (impl_RowsMarkup.f (k + 1) a0) := by
 intro a0 k
 obtain ⟨ih0, ih1, ih2⟩ := impl_RowsMarkup.mono_l k
 unfold impl_RowsMarkup.f
 repeat' first
   | (with_reducible exact ih0 _ _)
   | (with_reducible exact ih1 _ _ _ _)
   | (with_reducible exact ih2 _ _ _ _ _ _ _ _ _ _)
   | (with_reducible exact impl_ValidRows.mono _ _)
   | (with_reducible exact LeO.refl _)
   | (with_reducible exact LeO.none _)
   | (with_reducible refine LeO.ite ?_ ?_)
   | (with_reducible refine LeO.bind ?_ (fun _ => ?_))
   | exact ih0 _ _
   | exact ih1 _ _ _ _
   | exact ih2 _ _ _ _ _ _ _ _ _ _
   | exact impl_ValidRows.mono _ _
   | exact LeO.none _
   | refine LeO.ite ?_ ?_
   | refine LeO.bind ?_ (fun _ => ?_)
def impl_RowsMarkup.T12 : Bool × List (List Nat × List Nat) := (true, [([], []), ([0], [0]), ([1], [1]), ([], []), ([3], [3]), ([4], [4]), ([], []), ([6], [6]), ([5, 7], [5, 7]), ([2, 8], [2, 8]), ([9], [9]), ([], []), ([11], [11]), ([10, 12], [10, 12]), ([13], [13]), ([14, 2], [14])])
def impl_RowsMarkup.B12 : List Nat := [0, 1, 3, 0, 8, 24, 0, 64, 248, 511, 1023, 0, 2048, 8191, 16383, 32767]
theorem impl_RowsMarkup.tab12 : rtab .any (opsOf Try.f15 12) = impl_RowsMarkup.T12 := by kernel_rfl
theorem impl_RowsMarkup.bits12 : waitsOk impl_RowsMarkup.T12.2 impl_RowsMarkup.B12 = true := by kernel_rfl
set_option maxHeartbeats 8000000 in
set_option maxRecDepth 100000 in
theorem impl_RowsMarkup.calls (k : Nat) (A0 : Option Addr) (c0 : Nat) (l0 : List (S42)) (r : ByteArray) (w : World) (hr0 : Kd.C k42 w A0 l0.length l0) (hc0 : l0.length ≤ c0) (h : impl_RowsMarkup.f k l0 = some r) :
  Calls Try.prog 15 #[.slice A0 l0.length c0] w fun e w' => e = .returned (.string r) ∧ Below w.heap.size w w' := by
 have hu42 := Try.underlying42
 have HR0 := Aside0.mk hr0
 have HC0 := Aside0.mk hc0
 clear hr0 hc0
 have HB := Aside0.mk (Below.refl w.heap.size w)
 have H : (if (l0.length : Int) > 40 then (impl_RowsMarkup.j0 k l0 true) else ((impl_ValidRows.f k l0).bind fun t183 => (impl_RowsMarkup.j0 k l0 (!t183)))) = some r := h
 clear h
 have HC2 := Aside0.mk H
 clear H
 go_enter Try.func15, Try.ntmps15
 go_upto_region 1 with (fail)
 go_cut [14] (fun v14 wc => ∃ (kq : Nat) (x14_1 : Bool), v14 = .bool x14_1 ∧ Aside0 (impl_RowsMarkup.j0 kq l0 x14_1 = some r) ∧ Aside0 (kq ≤ k) ∧ Aside0 (Below w.heap.size w wc))
 case first =>
  have H := HC2.out
  clear HC2
  by_cases c3 : (l0.length : Int) > 40
  ·rw [if_pos c3] at H
   have c3b0 : decide (40 < (l0.length : Int)) = true := decide_eq_true c3
   have c3b1 : decide (40 < l0.length) = true := decide_eq_true (by omega)
   clear c3
   (first | rw [c3b0] | (simp only [i64_w, i32_w]; rw [c3b0]) | skip)
   have H' := Aside0.mk H
   clear H
   go_wp2
   go_meet
   case rel => exact ⟨_, (true), (by first | rfl | (simp; done) | (simp [*]; done)), H', ⟨by first | omega | exact Nat.le_refl _⟩, ⟨by repeat (first | (with_reducible first | exact HB.out | apply below_alloc | apply pw_below_drewN | apply below_drew1) | exact HB.out)⟩⟩
  ·rw [if_neg c3] at H
   have c3b0 : decide (40 < (l0.length : Int)) = false := decide_eq_false c3
   have c3b1 : decide (40 < l0.length) = false := decide_eq_false (by omega)
   clear c3
   (first | rw [c3b0] | (simp only [i64_w, i32_w]; rw [c3b0]) | skip)
   replace H := Option.bind_eq_some_iff.mp H
   obtain ⟨t183, A40, H⟩ := H
   replace H : (impl_RowsMarkup.j0 k l0 (!t183)) = some r := H
   have A4 := Aside0.mk A40
   clear A40
   have H' := Aside0.mk H
   clear H
   go_wp2_with (first | (go_at_call 27; (with_reducible refine (impl_ValidRows.calls k _ _ l0 t183 _ ?side1 ?side2 A4.out).mono ?_); (case side1 => repeat (first | exact (Kd.C_below HR0.out HB.out) | (with_reducible refine Kd.C_alloc ?_ _) | (with_reducible refine Kd.C_drewN ?_ _) | (with_reducible refine Kd.C_drew ?_))); (case side2 => exact HC0.out); rintro e w5 ⟨rfl, hb⟩; have n0_ := Aside0.mk (below_step (by repeat (first | (with_reducible first | exact HB.out | apply below_alloc | apply pw_below_drewN | apply below_drew1) | exact HB.out)) hb); clear HB; have HB := n0_; clear n0_; (try clear hb); (try clear hb2); (try clear hk); (try clear hi)))
   go_meet
   case rel => exact ⟨_, (!t183), (by first | rfl | (simp; done) | (simp [*]; done)), H', ⟨by first | omega | exact Nat.le_refl _⟩, ⟨by repeat (first | (with_reducible first | exact HB.out | apply below_alloc | apply pw_below_drewN | apply below_drew1) | exact HB.out)⟩⟩
 case rest =>
  clear HC2
  try clear c1
  try clear p2
  try clear c3
  try clear c3b0
  try clear c3b1
  obtain ⟨kq, x14_1, rfl, HA, HJ1, HB⟩ := hcut
  cases kq with
  | zero => exact absurd HA.out (by simp [impl_RowsMarkup.j0])
  | succ kj1 =>
   have H := HA.out
   clear HA
   simp only [impl_RowsMarkup.j0] at H
   by_cases c6 : x14_1 = true
   ·subst c6
    have H1 : (some (⟨#[]⟩ : ByteArray)) = some r := by rw [if_pos rfl] at H; exact H
    clear H
    have H := H1
    clear H1
    obtain rfl := Option.some.inj H
    go_wp2
    go_ret
    exact ⟨by first | rfl | (simp [errW_none, errW_some] <;> rfl) | (simp [*, errW_none, errW_some] <;> rfl), by repeat (first | (with_reducible first | exact HB.out | apply below_alloc | apply pw_below_drewN | apply below_drew1) | exact HB.out)⟩
   ·replace c6 := Bool.eq_false_iff.mpr c6
    subst c6
    have H1 : (impl_RowsMarkup.l0 kj1 (⟨#[]⟩ : ByteArray) l0 (l0.length : Int) 0) = some r := by rw [if_neg (show ¬ (false = true) by decide)] at H; exact H
    clear H
    have H := H1
    clear H1
    have H' := Aside0.mk H
    clear H
    go_wp2
    have GBo := Aside0.mk (below_size HB.out)
    have HSo := Aside0.mk (show wc.heap.size < (wc.alloc (.cells #[.pointer none, .slice none 0 0] 60)).heap.size by show _ < (wc.heap.push _).size; rw [Array.size_push]; exact Nat.lt_succ_self _)
    have HI0 := Aside0.mk (Lib.IsBuilderF.of (Lib.fresh_isBuilder 60 5 wc))
    go_loopg [17] kj1 (fun kq v17 w' => ∃ (x3_2 : ByteArray) (x17_2 : Int), v17 = .int .i64 x17_2 ∧ Aside0 (impl_RowsMarkup.l0 kq x3_2 l0 (l0.length : Int) x17_2 = some r) ∧ Aside0 (kq ≤ kj1) ∧ Aside0 (Below w.heap.size w w') ∧ Aside0 (Lib.IsBuilderF 60 5 wc.heap.size wc.heap.size (Lib.byteCells x3_2.data.toList) w') ∧ Aside0 (wc.heap.size < w'.heap.size))
    case atStart => exact ⟨(⟨#[]⟩ : ByteArray), 0, rfl, H', ⟨Nat.le_refl _⟩, ⟨below_alloc HB.out _⟩, HI0, HSo⟩
    case round =>
     clear H'
     clear HI0 HSo
     try clear c1
     try clear p2
     try clear c3
     try clear c3b0
     try clear c3b1
     try clear c6
     try clear p2
     obtain ⟨x3_2, x17_2, rfl, HA, HK2, HBo, HI, HSo⟩ := hrel
     have hN_ : ∃ wo, wo = wr := ⟨_, rfl⟩
     obtain ⟨wo, e_⟩ := hN_
     rw [← e_] at HBo HI HSo ⊢
     clear e_ wr
     have HR1 := Aside0.mk (Kd.C_below HR0.out HBo.out)
     have HB := Aside0.mk (Below.refl wo.heap.size wo)
     cases gk with
     | zero => exact absurd HA.out (by simp [impl_RowsMarkup.l0])
     | succ k2 =>
      have H := HA.out
      clear HA
      simp only [impl_RowsMarkup.l0] at H
      by_cases c7 : x17_2 < (l0.length : Int)
      ·rw [if_pos c7] at H
       have c7b0 : decide (x17_2 < (l0.length : Int)) = true := decide_eq_true c7
       clear c7
       by_cases c8 : 0 ≤ x17_2
       ·rw [if_pos c8] at H
        have c8b0 : decide (0 ≤ x17_2) = true := decide_eq_true c8
        clear c8
        by_cases c9 : x17_2 < (l0.length : Int)
        ·rw [if_pos c9] at H
         have c9b0 : decide (x17_2 < (l0.length : Int)) = true := decide_eq_true c9
         clear c9
         have H' := Aside0.mk H
         clear H
         have p184 : 0 ≤ (x17_2 : Int) := of_decide_eq_true (by first | (with_reducible assumption) | assumption)
         have q184 : x17_2 < (l0.length : Int) := of_decide_eq_true (by first | (with_reducible assumption) | assumption)
         obtain ⟨ad184, e184, hx184_0, hx184_1, hx184_2, hx184_3, hx184_4⟩ := at_T42 HR1.out x17_2 p184 q184
         cases e184
         replace hx184_0 := (HB.out.cell (World.block_lt_of_cell? wo _ hx184_0)).trans hx184_0
         replace hx184_1 := (HB.out.cell (World.block_lt_of_cell? wo _ hx184_1)).trans hx184_1
         replace hx184_2 := (HB.out.cell (World.block_lt_of_cell? wo _ hx184_2)).trans hx184_2
         replace hx184_3 := (HB.out.cell (World.block_lt_of_cell? wo _ hx184_3)).trans hx184_3
         replace hx184_4 := (HB.out.cell (World.block_lt_of_cell? wo _ hx184_4)).trans hx184_4
         replace p184 := eq_true p184
         replace q184 := eq_true q184
         go_wp2_with (first | ((with_reducible refine gate_dst (N := 5) rfl ?_); refine box_event ?hg (N := 5) ?hd (cs := #[.int .i64 0, .int .i64 0, .int .i64 0, .int .i64 0, .string (⟨#[]⟩ : ByteArray)]) (t := 42) ?hr ?_; (case hd => rfl); (case hg => rfl); (case hr => first | (go_simp; done) | (go_simp; rfl)); intro gb185 hg w10 hbox hb; have n0_ := Aside0.mk (below_step (by repeat (first | (with_reducible first | exact HB.out | apply below_alloc | apply pw_below_drewN | apply below_drew1) | exact HB.out)) hb); have n1_ := Aside0.mk (hbox); have n2_ := Aside0.mk ((by rw [hg]; exact (below_size (by repeat (first | (with_reducible first | exact HB.out | apply below_alloc | apply pw_below_drewN | apply below_drew1) | exact HB.out))) : wo.heap.size ≤ gb185)); have n3_ := Aside0.mk ((by rw [hg]; exact (below_size (by repeat (first | (with_reducible first | exact HB.out | apply below_alloc | apply pw_below_drewN | apply below_drew1) | exact HB.out))) : wo.heap.size ≤ gb185)); clear HB; have HB := n0_; have BK185 := n1_; have GW185 := n2_; have GE185 := n3_; clear n0_ n1_ n2_ n3_; clear hb hbox hg; have hcz11_0 : w10.cell? ⟨gb185, 0, none⟩ = some (.int .i64 0) := (blk_cell BK185.out 0).trans rfl; have hcz11_1 : w10.cell? ⟨gb185, 1, none⟩ = some (.int .i64 0) := (blk_cell BK185.out 1).trans rfl; have hcz11_2 : w10.cell? ⟨gb185, 2, none⟩ = some (.int .i64 0) := (blk_cell BK185.out 2).trans rfl; have hcz11_3 : w10.cell? ⟨gb185, 3, none⟩ = some (.int .i64 0) := (blk_cell BK185.out 3).trans rfl; have hcz11_4 : w10.cell? ⟨gb185, 4, none⟩ = some (.string (⟨#[]⟩ : ByteArray)) := (blk_cell BK185.out 4).trans rfl; have hfz11_0 := blk_frozen BK185.out 0; have hfz11_1 := blk_frozen BK185.out 1; have hfz11_2 := blk_frozen BK185.out 2; have hfz11_3 := blk_frozen BK185.out 3; have hfz11_4 := blk_frozen BK185.out 4))
         go_loopg [6] k2 (fun kq v6 w' => ∃ (x6_3 : Int), v6 = .int .i64 x6_3 ∧ Aside0 (impl_RowsMarkup.l1 kq x3_2 x6_3 l0 (l0.length : Int) x17_2 ((rd_T42 l0 x17_2).f0.f0) ((rd_T42 l0 x17_2).f0.f1) ((rd_T42 l0 x17_2).f1) ((rd_T42 l0 x17_2).f2) ((rd_T42 l0 x17_2).f3) = some r) ∧ Aside0 (kq ≤ k2) ∧ Aside0 (w'.heap[gb185]? = some (.cells #[.int .i64 ((rd_T42 l0 x17_2).f0.f0), .int .i64 ((rd_T42 l0 x17_2).f0.f1), .int .i64 ((rd_T42 l0 x17_2).f1), .int .i64 ((rd_T42 l0 x17_2).f2), .string ((rd_T42 l0 x17_2).f3)] 42 (0, 0))) ∧ Aside0 (Below wo.heap.size wo w'))
         case atStart => exact ⟨(0), (by first | rfl | (simp; done) | (simp [*]; done)), H', ⟨Nat.le_refl _⟩, ⟨by (with_reducible repeat (first | refine blk_drewN ?_ _ | refine blk_drew ?_ | refine blk_alloc ?_ _)); refine blk_put (cs := #[.int .i64 ((rd_T42 l0 x17_2).f0.f0), .int .i64 ((rd_T42 l0 x17_2).f0.f1), .int .i64 ((rd_T42 l0 x17_2).f1), .int .i64 ((rd_T42 l0 x17_2).f2), .string (⟨#[]⟩ : ByteArray)]) ?_ 4 _ rfl; (with_reducible repeat (first | refine blk_drewN ?_ _ | refine blk_drew ?_ | refine blk_alloc ?_ _)); refine blk_put (cs := #[.int .i64 ((rd_T42 l0 x17_2).f0.f0), .int .i64 ((rd_T42 l0 x17_2).f0.f1), .int .i64 ((rd_T42 l0 x17_2).f1), .int .i64 0, .string (⟨#[]⟩ : ByteArray)]) ?_ 3 _ rfl; (with_reducible repeat (first | refine blk_drewN ?_ _ | refine blk_drew ?_ | refine blk_alloc ?_ _)); refine blk_put (cs := #[.int .i64 ((rd_T42 l0 x17_2).f0.f0), .int .i64 ((rd_T42 l0 x17_2).f0.f1), .int .i64 0, .int .i64 0, .string (⟨#[]⟩ : ByteArray)]) ?_ 2 _ rfl; (with_reducible repeat (first | refine blk_drewN ?_ _ | refine blk_drew ?_ | refine blk_alloc ?_ _)); refine blk_put (cs := #[.int .i64 ((rd_T42 l0 x17_2).f0.f0), .int .i64 0, .int .i64 0, .int .i64 0, .string (⟨#[]⟩ : ByteArray)]) ?_ 1 _ rfl; (with_reducible repeat (first | refine blk_drewN ?_ _ | refine blk_drew ?_ | refine blk_alloc ?_ _)); refine blk_put (cs := #[.int .i64 0, .int .i64 0, .int .i64 0, .int .i64 0, .string (⟨#[]⟩ : ByteArray)]) ?_ 0 _ rfl; (with_reducible repeat (first | refine blk_drewN ?_ _ | refine blk_drew ?_ | refine blk_alloc ?_ _)); exact BK185.out⟩, ⟨by repeat (first | (with_reducible first | exact HB.out | apply below_alloc | apply pw_below_drewN | apply below_drew1 | refine below_set ?_ GE185.out) | exact HB.out)⟩⟩
         case round =>
          clear H'
          try clear c1
          try clear p1
          try clear q1
          try clear hx1
          try clear p2
          try clear c3
          try clear c3b0
          try clear c3b1
          try clear c6
          try clear c7
          try clear c7b0
          try clear c8
          try clear c8b0
          try clear c9
          try clear c9b0
          try clear hcz11_0
          try clear hcz11_1
          try clear hcz11_2
          try clear hcz11_3
          try clear hcz11_4
          try clear hfz11_0
          try clear hfz11_1
          try clear hfz11_2
          try clear hfz11_3
          try clear hfz11_4
          try clear hx184_0
          try clear hx184_1
          try clear hx184_2
          try clear hx184_3
          try clear hx184_4
          try clear p184
          try clear p2
          try clear q184
          obtain ⟨x6_3, rfl, HA, HK3, BK185, HB⟩ := hrel
          cases gk with
          | zero => exact absurd HA.out (by simp [impl_RowsMarkup.l1])
          | succ k3 =>
           have H := HA.out
           clear HA
           simp only [impl_RowsMarkup.l1] at H
           by_cases c12 : x6_3 < (((rd_T42 l0 x17_2).f3).size : Int)
           ·rw [if_pos c12] at H
            have c12b0 : decide (x6_3 < (((rd_T42 l0 x17_2).f3).size : Int)) = true := decide_eq_true c12
            clear c12
            by_cases c13 : 0 ≤ x6_3
            ·rw [if_pos c13] at H
             have c13b0 : decide (0 ≤ x6_3) = true := decide_eq_true c13
             clear c13
             by_cases c15 : (bt ((rd_T42 l0 x17_2).f3) x6_3) < 32
             ·rw [if_pos c15] at H
              have c15b0 : decide ((bt ((rd_T42 l0 x17_2).f3) x6_3) < 32) = true := decide_eq_true c15
              clear c15
              obtain rfl := Option.some.inj H
              have hcz16_0 : wr.cell? ⟨gb185, 0, none⟩ = some (.int .i64 ((rd_T42 l0 x17_2).f0.f0)) := (blk_cell BK185.out 0).trans rfl
              have hcz16_1 : wr.cell? ⟨gb185, 1, none⟩ = some (.int .i64 ((rd_T42 l0 x17_2).f0.f1)) := (blk_cell BK185.out 1).trans rfl
              have hcz16_2 : wr.cell? ⟨gb185, 2, none⟩ = some (.int .i64 ((rd_T42 l0 x17_2).f1)) := (blk_cell BK185.out 2).trans rfl
              have hcz16_3 : wr.cell? ⟨gb185, 3, none⟩ = some (.int .i64 ((rd_T42 l0 x17_2).f2)) := (blk_cell BK185.out 3).trans rfl
              have hcz16_4 : wr.cell? ⟨gb185, 4, none⟩ = some (.string ((rd_T42 l0 x17_2).f3)) := (blk_cell BK185.out 4).trans rfl
              have hfz16_0 := blk_frozen BK185.out 0
              have hfz16_1 := blk_frozen BK185.out 1
              have hfz16_2 := blk_frozen BK185.out 2
              have hfz16_3 := blk_frozen BK185.out 3
              have hfz16_4 := blk_frozen BK185.out 4
              have p14 : 0 ≤ (x6_3 : Int) := of_decide_eq_true (by first | (with_reducible assumption) | assumption)
              have q14 : x6_3 < (((rd_T42 l0 x17_2).f3).size : Int) := of_decide_eq_true (by first | (with_reducible assumption) | assumption)
              have hx14 := bt_at ((rd_T42 l0 x17_2).f3) x6_3
              replace p14 := eq_true p14
              replace q14 := eq_true q14
              go_wp2
              go_ret
              exact ⟨by first | rfl | (simp [errW_none, errW_some] <;> rfl) | (simp [*, errW_none, errW_some] <;> rfl), below_step HBo.out (by repeat (first | (with_reducible first | exact HB.out | apply below_alloc | apply pw_below_drewN | apply below_drew1 | refine below_set ?_ GE185.out) | exact HB.out))⟩
             ·rw [if_neg c15] at H
              have c15b0 : decide ((bt ((rd_T42 l0 x17_2).f3) x6_3) < 32) = false := decide_eq_false c15
              clear c15
              by_cases c18 : (bt ((rd_T42 l0 x17_2).f3) x6_3) > 126
              ·rw [if_pos c18] at H
               have c18b0 : decide (126 < (bt ((rd_T42 l0 x17_2).f3) x6_3)) = true := decide_eq_true c18
               clear c18
               obtain rfl := Option.some.inj H
               have hcz19_0 : wr.cell? ⟨gb185, 0, none⟩ = some (.int .i64 ((rd_T42 l0 x17_2).f0.f0)) := (blk_cell BK185.out 0).trans rfl
               have hcz19_1 : wr.cell? ⟨gb185, 1, none⟩ = some (.int .i64 ((rd_T42 l0 x17_2).f0.f1)) := (blk_cell BK185.out 1).trans rfl
               have hcz19_2 : wr.cell? ⟨gb185, 2, none⟩ = some (.int .i64 ((rd_T42 l0 x17_2).f1)) := (blk_cell BK185.out 2).trans rfl
               have hcz19_3 : wr.cell? ⟨gb185, 3, none⟩ = some (.int .i64 ((rd_T42 l0 x17_2).f2)) := (blk_cell BK185.out 3).trans rfl
               have hcz19_4 : wr.cell? ⟨gb185, 4, none⟩ = some (.string ((rd_T42 l0 x17_2).f3)) := (blk_cell BK185.out 4).trans rfl
               have hfz19_0 := blk_frozen BK185.out 0
               have hfz19_1 := blk_frozen BK185.out 1
               have hfz19_2 := blk_frozen BK185.out 2
               have hfz19_3 := blk_frozen BK185.out 3
               have hfz19_4 := blk_frozen BK185.out 4
               have p14 : 0 ≤ (x6_3 : Int) := of_decide_eq_true (by first | (with_reducible assumption) | assumption)
               have q14 : x6_3 < (((rd_T42 l0 x17_2).f3).size : Int) := of_decide_eq_true (by first | (with_reducible assumption) | assumption)
               have hx14 := bt_at ((rd_T42 l0 x17_2).f3) x6_3
               replace p14 := eq_true p14
               replace q14 := eq_true q14
               have p17 : 0 ≤ (x6_3 : Int) := of_decide_eq_true (by first | (with_reducible assumption) | assumption)
               have q17 : x6_3 < (((rd_T42 l0 x17_2).f3).size : Int) := of_decide_eq_true (by first | (with_reducible assumption) | assumption)
               have hx17 := bt_at ((rd_T42 l0 x17_2).f3) x6_3
               replace p17 := eq_true p17
               replace q17 := eq_true q17
               go_wp2
               go_ret
               exact ⟨by first | rfl | (simp [errW_none, errW_some] <;> rfl) | (simp [*, errW_none, errW_some] <;> rfl), below_step HBo.out (by repeat (first | (with_reducible first | exact HB.out | apply below_alloc | apply pw_below_drewN | apply below_drew1 | refine below_set ?_ GE185.out) | exact HB.out))⟩
              ·rw [if_neg c18] at H
               have c18b0 : decide (126 < (bt ((rd_T42 l0 x17_2).f3) x6_3)) = false := decide_eq_false c18
               clear c18
               have H' := Aside0.mk H
               clear H
               have hcz20_0 : wr.cell? ⟨gb185, 0, none⟩ = some (.int .i64 ((rd_T42 l0 x17_2).f0.f0)) := (blk_cell BK185.out 0).trans rfl
               have hcz20_1 : wr.cell? ⟨gb185, 1, none⟩ = some (.int .i64 ((rd_T42 l0 x17_2).f0.f1)) := (blk_cell BK185.out 1).trans rfl
               have hcz20_2 : wr.cell? ⟨gb185, 2, none⟩ = some (.int .i64 ((rd_T42 l0 x17_2).f1)) := (blk_cell BK185.out 2).trans rfl
               have hcz20_3 : wr.cell? ⟨gb185, 3, none⟩ = some (.int .i64 ((rd_T42 l0 x17_2).f2)) := (blk_cell BK185.out 3).trans rfl
               have hcz20_4 : wr.cell? ⟨gb185, 4, none⟩ = some (.string ((rd_T42 l0 x17_2).f3)) := (blk_cell BK185.out 4).trans rfl
               have hfz20_0 := blk_frozen BK185.out 0
               have hfz20_1 := blk_frozen BK185.out 1
               have hfz20_2 := blk_frozen BK185.out 2
               have hfz20_3 := blk_frozen BK185.out 3
               have hfz20_4 := blk_frozen BK185.out 4
               have p14 : 0 ≤ (x6_3 : Int) := of_decide_eq_true (by first | (with_reducible assumption) | assumption)
               have q14 : x6_3 < (((rd_T42 l0 x17_2).f3).size : Int) := of_decide_eq_true (by first | (with_reducible assumption) | assumption)
               have hx14 := bt_at ((rd_T42 l0 x17_2).f3) x6_3
               replace p14 := eq_true p14
               replace q14 := eq_true q14
               have p17 : 0 ≤ (x6_3 : Int) := of_decide_eq_true (by first | (with_reducible assumption) | assumption)
               have q17 : x6_3 < (((rd_T42 l0 x17_2).f3).size : Int) := of_decide_eq_true (by first | (with_reducible assumption) | assumption)
               have hx17 := bt_at ((rd_T42 l0 x17_2).f3) x6_3
               replace p17 := eq_true p17
               replace q17 := eq_true q17
               go_wp2
               go_roundg k3
               case measure => have := HJ1.out; have := HK2.out; have := HK3.out; omega
               case rel => exact ⟨(wrap64 (x6_3 + 1)), (by first | rfl | (simp; done) | (simp [*]; done)), H', ⟨by have := HJ1.out; have := HK2.out; have := HK3.out; omega⟩, ⟨by (with_reducible repeat (first | refine blk_drewN ?_ _ | refine blk_drew ?_ | refine blk_alloc ?_ _)); exact BK185.out⟩, ⟨by repeat (first | (with_reducible first | exact HB.out | apply below_alloc | apply pw_below_drewN | apply below_drew1 | refine below_set ?_ GE185.out) | exact HB.out)⟩⟩
            ·rw [if_neg c13] at H
             exact absurd H (by simp)
           ·rw [if_neg c12] at H
            have c12b0 : decide (x6_3 < (((rd_T42 l0 x17_2).f3).size : Int)) = false := decide_eq_false c12
            clear c12
            replace H := Option.bind_eq_some_iff.mp H
            obtain ⟨t186, A210, H⟩ := H
            replace H : (if 0 ≤ (wrap64 (((rd_T42 l0 x17_2).f1) - 1)) then (if (wrap64 (((rd_T42 l0 x17_2).f1) - 1)) ≤ ((rd_T42 l0 x17_2).f1) then (if ((rd_T42 l0 x17_2).f1) ≤ 4 then (if t186.size + ((⟨#[112, 104, 108, 105]⟩ : ByteArray).extract ((wrap64 (((rd_T42 l0 x17_2).f1) - 1)) : Int).toNat (((rd_T42 l0 x17_2).f1) : Int).toNat).size ≤ 9223372036854775807 then (if (t186 ++ ((⟨#[112, 104, 108, 105]⟩ : ByteArray).extract ((wrap64 (((rd_T42 l0 x17_2).f1) - 1)) : Int).toNat (((rd_T42 l0 x17_2).f1) : Int).toNat)).size + 1 ≤ 9223372036854775807 then (if ((t186 ++ ((⟨#[112, 104, 108, 105]⟩ : ByteArray).extract ((wrap64 (((rd_T42 l0 x17_2).f1) - 1)) : Int).toNat (((rd_T42 l0 x17_2).f1) : Int).toNat)) ++ (⟨#[32]⟩ : ByteArray)).size + ((rd_T42 l0 x17_2).f3).size ≤ 9223372036854775807 then (if (((t186 ++ ((⟨#[112, 104, 108, 105]⟩ : ByteArray).extract ((wrap64 (((rd_T42 l0 x17_2).f1) - 1)) : Int).toNat (((rd_T42 l0 x17_2).f1) : Int).toNat)) ++ (⟨#[32]⟩ : ByteArray)) ++ ((rd_T42 l0 x17_2).f3)).size + 1 ≤ 9223372036854775807 then (if x3_2.size + ((((t186 ++ ((⟨#[112, 104, 108, 105]⟩ : ByteArray).extract ((wrap64 (((rd_T42 l0 x17_2).f1) - 1)) : Int).toNat (((rd_T42 l0 x17_2).f1) : Int).toNat)) ++ (⟨#[32]⟩ : ByteArray)) ++ ((rd_T42 l0 x17_2).f3)) ++ (⟨#[10]⟩ : ByteArray)).size ≤ 140737488355328 then (impl_RowsMarkup.l0 k3 (x3_2 ++ ((((t186 ++ ((⟨#[112, 104, 108, 105]⟩ : ByteArray).extract ((wrap64 (((rd_T42 l0 x17_2).f1) - 1)) : Int).toNat (((rd_T42 l0 x17_2).f1) : Int).toNat)) ++ (⟨#[32]⟩ : ByteArray)) ++ ((rd_T42 l0 x17_2).f3)) ++ (⟨#[10]⟩ : ByteArray))) l0 (l0.length : Int) (wrap64 (x17_2 + 1))) else (none)) else (none)) else (none)) else (none)) else (none)) else (none)) else (none)) else (none)) = some r := H
            have A21 := Aside0.mk A210
            clear A210
            obtain ⟨ji22, hji22⟩ : ∃ j_ : Int, (wrap64 (((rd_T42 l0 x17_2).f1) - 1)) = j_ := ⟨_, rfl⟩
            replace H : (if 0 ≤ (ji22) then (if (ji22) ≤ ((rd_T42 l0 x17_2).f1) then (if ((rd_T42 l0 x17_2).f1) ≤ 4 then (if t186.size + ((⟨#[112, 104, 108, 105]⟩ : ByteArray).extract ((ji22) : Int).toNat (((rd_T42 l0 x17_2).f1) : Int).toNat).size ≤ 9223372036854775807 then (if (t186 ++ ((⟨#[112, 104, 108, 105]⟩ : ByteArray).extract ((ji22) : Int).toNat (((rd_T42 l0 x17_2).f1) : Int).toNat)).size + 1 ≤ 9223372036854775807 then (if ((t186 ++ ((⟨#[112, 104, 108, 105]⟩ : ByteArray).extract ((ji22) : Int).toNat (((rd_T42 l0 x17_2).f1) : Int).toNat)) ++ (⟨#[32]⟩ : ByteArray)).size + ((rd_T42 l0 x17_2).f3).size ≤ 9223372036854775807 then (if (((t186 ++ ((⟨#[112, 104, 108, 105]⟩ : ByteArray).extract ((ji22) : Int).toNat (((rd_T42 l0 x17_2).f1) : Int).toNat)) ++ (⟨#[32]⟩ : ByteArray)) ++ ((rd_T42 l0 x17_2).f3)).size + 1 ≤ 9223372036854775807 then (if x3_2.size + ((((t186 ++ ((⟨#[112, 104, 108, 105]⟩ : ByteArray).extract ((ji22) : Int).toNat (((rd_T42 l0 x17_2).f1) : Int).toNat)) ++ (⟨#[32]⟩ : ByteArray)) ++ ((rd_T42 l0 x17_2).f3)) ++ (⟨#[10]⟩ : ByteArray)).size ≤ 140737488355328 then (impl_RowsMarkup.l0 k3 (x3_2 ++ ((((t186 ++ ((⟨#[112, 104, 108, 105]⟩ : ByteArray).extract ((ji22) : Int).toNat (((rd_T42 l0 x17_2).f1) : Int).toNat)) ++ (⟨#[32]⟩ : ByteArray)) ++ ((rd_T42 l0 x17_2).f3)) ++ (⟨#[10]⟩ : ByteArray))) l0 (l0.length : Int) (wrap64 (x17_2 + 1))) else (none)) else (none)) else (none)) else (none)) else (none)) else (none)) else (none)) else (none)) = some r := by first | (rw [hji22] at H; exact H) | (simp only [hji22] at H ⊢; exact H)
            (try rw [hji22] at A21)
            have hji22w : (IntKind.i64.wrap (((rd_T42 l0 x17_2).f1) - 1)) = ji22 := (i64_w _).trans hji22
            by_cases c23 : 0 ≤ (ji22)
            ·rw [if_pos c23] at H
             have c23b0 := eq_true c23
             have c23b1 : decide (0 ≤ (ji22)) = true := decide_eq_true c23
             clear c23
             by_cases c24 : (ji22) ≤ ((rd_T42 l0 x17_2).f1)
             ·rw [if_pos c24] at H
              have c24b0 := eq_true c24
              have c24b1 : decide ((ji22) ≤ ((rd_T42 l0 x17_2).f1)) = true := decide_eq_true c24
              clear c24
              by_cases c25 : ((rd_T42 l0 x17_2).f1) ≤ 4
              ·rw [if_pos c25] at H
               have c25b0 := eq_true c25
               have c25b1 : decide (((rd_T42 l0 x17_2).f1) ≤ 4) = true := decide_eq_true c25
               clear c25
               have X1_ : ((⟨#[112, 104, 108, 105]⟩ : ByteArray).extract ((ji22) : Int).toNat (((rd_T42 l0 x17_2).f1) : Int).toNat).size = (((rd_T42 l0 x17_2).f1) : Int).toNat - ((ji22) : Int).toNat := by (have y_ := of_eq_true c25b0; rw [ByteArray.size_extract]; show min _ 4 - _ = _; omega)
               by_cases c26 : t186.size + ((⟨#[112, 104, 108, 105]⟩ : ByteArray).extract ((ji22) : Int).toNat (((rd_T42 l0 x17_2).f1) : Int).toNat).size ≤ 9223372036854775807
               ·rw [if_pos c26] at H
                try (have c26b3 := c26; simp [*, -c26, -H] at c26b3)
                try (have c26b4 := eq_false (Nat.not_lt.2 c26b3))
                have c26b0 := eq_true c26
                have c26b1 : decide (t186.size + ((⟨#[112, 104, 108, 105]⟩ : ByteArray).extract ((ji22) : Int).toNat (((rd_T42 l0 x17_2).f1) : Int).toNat).size ≤ 9223372036854775807) = true := decide_eq_true c26
                try have c26b2 : (9223372036854775807 < t186.size + ((⟨#[112, 104, 108, 105]⟩ : ByteArray).extract ((ji22) : Int).toNat (((rd_T42 l0 x17_2).f1) : Int).toNat).size) = False := eq_false (Nat.not_lt.2 c26)
                try (have c26b5 := c26b2; simp only [ByteArray.size_append, (show (⟨#[32]⟩ : ByteArray).size = 1 from rfl), (show (⟨#[10]⟩ : ByteArray).size = 1 from rfl), X1_] at c26b5)
                by_cases c27 : (t186 ++ ((⟨#[112, 104, 108, 105]⟩ : ByteArray).extract ((ji22) : Int).toNat (((rd_T42 l0 x17_2).f1) : Int).toNat)).size + 1 ≤ 9223372036854775807
                ·rw [if_pos c27] at H
                 try (have c27b3 := c27; simp [*, -c27, -H] at c27b3)
                 try (have c27b4 := eq_false (Nat.not_lt.2 c27b3))
                 have c27b0 := eq_true c27
                 have c27b1 : decide ((t186 ++ ((⟨#[112, 104, 108, 105]⟩ : ByteArray).extract ((ji22) : Int).toNat (((rd_T42 l0 x17_2).f1) : Int).toNat)).size + 1 ≤ 9223372036854775807) = true := decide_eq_true c27
                 try have c27b2 : (9223372036854775807 < (t186 ++ ((⟨#[112, 104, 108, 105]⟩ : ByteArray).extract ((ji22) : Int).toNat (((rd_T42 l0 x17_2).f1) : Int).toNat)).size + 1) = False := eq_false (Nat.not_lt.2 c27)
                 try (have c27b5 := c27b2; simp only [ByteArray.size_append, (show (⟨#[32]⟩ : ByteArray).size = 1 from rfl), (show (⟨#[10]⟩ : ByteArray).size = 1 from rfl), X1_] at c27b5)
                 by_cases c28 : ((t186 ++ ((⟨#[112, 104, 108, 105]⟩ : ByteArray).extract ((ji22) : Int).toNat (((rd_T42 l0 x17_2).f1) : Int).toNat)) ++ (⟨#[32]⟩ : ByteArray)).size + ((rd_T42 l0 x17_2).f3).size ≤ 9223372036854775807
                 ·rw [if_pos c28] at H
                  try (have c28b3 := c28; simp [*, -c28, -H] at c28b3)
                  try (have c28b4 := eq_false (Nat.not_lt.2 c28b3))
                  have c28b0 := eq_true c28
                  have c28b1 : decide (((t186 ++ ((⟨#[112, 104, 108, 105]⟩ : ByteArray).extract ((ji22) : Int).toNat (((rd_T42 l0 x17_2).f1) : Int).toNat)) ++ (⟨#[32]⟩ : ByteArray)).size + ((rd_T42 l0 x17_2).f3).size ≤ 9223372036854775807) = true := decide_eq_true c28
                  try have c28b2 : (9223372036854775807 < ((t186 ++ ((⟨#[112, 104, 108, 105]⟩ : ByteArray).extract ((ji22) : Int).toNat (((rd_T42 l0 x17_2).f1) : Int).toNat)) ++ (⟨#[32]⟩ : ByteArray)).size + ((rd_T42 l0 x17_2).f3).size) = False := eq_false (Nat.not_lt.2 c28)
                  try (have c28b5 := c28b2; simp only [ByteArray.size_append, (show (⟨#[32]⟩ : ByteArray).size = 1 from rfl), (show (⟨#[10]⟩ : ByteArray).size = 1 from rfl), X1_] at c28b5)
                  by_cases c29 : (((t186 ++ ((⟨#[112, 104, 108, 105]⟩ : ByteArray).extract ((ji22) : Int).toNat (((rd_T42 l0 x17_2).f1) : Int).toNat)) ++ (⟨#[32]⟩ : ByteArray)) ++ ((rd_T42 l0 x17_2).f3)).size + 1 ≤ 9223372036854775807
                  ·rw [if_pos c29] at H
                   try (have c29b3 := c29; simp [*, -c29, -H] at c29b3)
                   try (have c29b4 := eq_false (Nat.not_lt.2 c29b3))
                   have c29b0 := eq_true c29
                   have c29b1 : decide ((((t186 ++ ((⟨#[112, 104, 108, 105]⟩ : ByteArray).extract ((ji22) : Int).toNat (((rd_T42 l0 x17_2).f1) : Int).toNat)) ++ (⟨#[32]⟩ : ByteArray)) ++ ((rd_T42 l0 x17_2).f3)).size + 1 ≤ 9223372036854775807) = true := decide_eq_true c29
                   try have c29b2 : (9223372036854775807 < (((t186 ++ ((⟨#[112, 104, 108, 105]⟩ : ByteArray).extract ((ji22) : Int).toNat (((rd_T42 l0 x17_2).f1) : Int).toNat)) ++ (⟨#[32]⟩ : ByteArray)) ++ ((rd_T42 l0 x17_2).f3)).size + 1) = False := eq_false (Nat.not_lt.2 c29)
                   try (have c29b5 := c29b2; simp only [ByteArray.size_append, (show (⟨#[32]⟩ : ByteArray).size = 1 from rfl), (show (⟨#[10]⟩ : ByteArray).size = 1 from rfl), X1_] at c29b5)
                   by_cases c30 : x3_2.size + ((((t186 ++ ((⟨#[112, 104, 108, 105]⟩ : ByteArray).extract ((ji22) : Int).toNat (((rd_T42 l0 x17_2).f1) : Int).toNat)) ++ (⟨#[32]⟩ : ByteArray)) ++ ((rd_T42 l0 x17_2).f3)) ++ (⟨#[10]⟩ : ByteArray)).size ≤ 140737488355328
                   ·rw [if_pos c30] at H
                    try (have c30b3 := c30; simp [*, -c30, -H] at c30b3)
                    try (have c30b4 := eq_false (Nat.not_lt.2 c30b3))
                    have c30b0 := eq_true c30
                    have c30b1 : decide (x3_2.size + ((((t186 ++ ((⟨#[112, 104, 108, 105]⟩ : ByteArray).extract ((ji22) : Int).toNat (((rd_T42 l0 x17_2).f1) : Int).toNat)) ++ (⟨#[32]⟩ : ByteArray)) ++ ((rd_T42 l0 x17_2).f3)) ++ (⟨#[10]⟩ : ByteArray)).size ≤ 140737488355328) = true := decide_eq_true c30
                    try have c30b2 : (140737488355328 < x3_2.size + ((((t186 ++ ((⟨#[112, 104, 108, 105]⟩ : ByteArray).extract ((ji22) : Int).toNat (((rd_T42 l0 x17_2).f1) : Int).toNat)) ++ (⟨#[32]⟩ : ByteArray)) ++ ((rd_T42 l0 x17_2).f3)) ++ (⟨#[10]⟩ : ByteArray)).size) = False := eq_false (Nat.not_lt.2 c30)
                    try (have c30b5 := c30b2; simp only [ByteArray.size_append, (show (⟨#[32]⟩ : ByteArray).size = 1 from rfl), (show (⟨#[10]⟩ : ByteArray).size = 1 from rfl), X1_] at c30b5)
                    have H' := Aside0.mk H
                    clear H
                    have hcz31_0 : wr.cell? ⟨gb185, 0, none⟩ = some (.int .i64 ((rd_T42 l0 x17_2).f0.f0)) := (blk_cell BK185.out 0).trans rfl
                    have hcz31_1 : wr.cell? ⟨gb185, 1, none⟩ = some (.int .i64 ((rd_T42 l0 x17_2).f0.f1)) := (blk_cell BK185.out 1).trans rfl
                    have hcz31_2 : wr.cell? ⟨gb185, 2, none⟩ = some (.int .i64 ((rd_T42 l0 x17_2).f1)) := (blk_cell BK185.out 2).trans rfl
                    have hcz31_3 : wr.cell? ⟨gb185, 3, none⟩ = some (.int .i64 ((rd_T42 l0 x17_2).f2)) := (blk_cell BK185.out 3).trans rfl
                    have hcz31_4 : wr.cell? ⟨gb185, 4, none⟩ = some (.string ((rd_T42 l0 x17_2).f3)) := (blk_cell BK185.out 4).trans rfl
                    have hfz31_0 := blk_frozen BK185.out 0
                    have hfz31_1 := blk_frozen BK185.out 1
                    have hfz31_2 := blk_frozen BK185.out 2
                    have hfz31_3 := blk_frozen BK185.out 3
                    have hfz31_4 := blk_frozen BK185.out 4
                    try go_wp2
                    have n0_ := Aside0.mk (blk_drew BK185.out)
                    have n1_ := Aside0.mk (below_drew1 HB.out)
                    clear BK185
                    clear HB
                    have BK185 := n0_
                    have HB := n1_
                    clear n0_ n1_
                    refine start_ (n := 16) (S := fun w' => w'.cell? ⟨gb185, 0, none⟩ = some (.int .i64 ((rd_T42 l0 x17_2).f0.f0)) ∧ w'.cell? ⟨gb185, 1, none⟩ = some (.int .i64 ((rd_T42 l0 x17_2).f0.f1)) ∧ w'.cell? ⟨gb185, 2, none⟩ = some (.int .i64 ((rd_T42 l0 x17_2).f1)) ∧ w'.cell? ⟨gb185, 3, none⟩ = some (.int .i64 ((rd_T42 l0 x17_2).f2)) ∧ w'.cell? ⟨gb185, 4, none⟩ = some (.string ((rd_T42 l0 x17_2).f3))) (ds := []) #[false, false, false, false, false, false, false, false, false, false, false, false, false, false, false, false] (by kernel_rfl) rfl rfl ⟨(blk_cell BK185.out 0).trans rfl, (blk_cell BK185.out 1).trans rfl, (blk_cell BK185.out 2).trans rfl, (blk_cell BK185.out 3).trans rfl, (blk_cell BK185.out 4).trans rfl⟩ (fun hHeld => ?_); refine with_tabW impl_RowsMarkup.tab12 impl_RowsMarkup.bits12 (fun HT_ HW_ => ?_)
                    generalize wr.drew = w32 at BK185 HB hHeld ⊢
                    refine pure_ (i := 0) (N := some 40) (v := ?_) (a' := ?_) #[true, false, false, false, false, false, false, false, false, false, false, false, false, false, false, false] rfl rfl (any_of HT_.out (by kernel_rfl)) (fun _ _ _ h => h) (Or.inl ⟨by rfl, ?_⟩) ?_ ?_
                    rotate_left
                    ·intro w'
                     go_simp
                     with_reducible rfl
                    rotate_left
                    ·simp only [Act.put, List.setIfInBounds_toArray, List.set_cons_zero, List.set_cons_succ, i64_w, i32_w]
                     rfl
                    refine pure_ (i := 3) (N := some 43) (v := ?_) (a' := ?_) #[true, false, false, true, false, false, false, false, false, false, false, false, false, false, false, false] rfl rfl (any_of HT_.out (by kernel_rfl)) (fun _ _ _ h => h) (Or.inl ⟨by rfl, ?_⟩) ?_ ?_
                    rotate_left
                    ·intro w'
                     go_simp
                     with_reducible rfl
                    rotate_left
                    ·simp only [Act.put, List.setIfInBounds_toArray, List.set_cons_zero, List.set_cons_succ, i64_w, i32_w]
                     rfl
                    refine pure_ (i := 6) (N := some 46) (v := ?_) (a' := ?_) #[true, false, false, true, false, false, true, false, false, false, false, false, false, false, false, false] rfl rfl (any_of HT_.out (by kernel_rfl)) (fun _ _ _ h => h) (Or.inl ⟨by rfl, ?_⟩) ?_ ?_
                    rotate_left
                    ·intro w'
                     go_simp
                     with_reducible rfl
                    rotate_left
                    ·simp only [Act.put, List.setIfInBounds_toArray, List.set_cons_zero, List.set_cons_succ, i64_w, i32_w]
                     rfl
                    refine pure_ (i := 11) (N := some 51) (v := ?_) (a' := ?_) #[true, false, false, true, false, false, true, false, false, false, false, true, false, false, false, false] rfl rfl (any_of HT_.out (by kernel_rfl)) (fun _ _ _ h => h) (Or.inl ⟨by rfl, ?_⟩) ?_ ?_
                    rotate_left
                    ·intro w'
                     go_simp
                     with_reducible rfl
                    rotate_left
                    ·simp only [Act.put, List.setIfInBounds_toArray, List.set_cons_zero, List.set_cons_succ, i64_w, i32_w]
                     rfl
                    refine take_ (i := 1) (N := some 41) (v := ?_) (a' := ?_) #[true, true, false, true, false, false, true, false, false, false, false, true, false, false, false, false] rfl rfl (take_ofW HT_.out HW_.out (by kernel_rfl)) (fun _ _ _ h => h) (Or.inl ⟨by rfl, ?_⟩) hHeld ?_ ?_
                    rotate_left
                    ·rintro w' ⟨s0, s1, s2, s3, s4⟩
                     go_simp
                     with_reducible rfl
                    rotate_left
                    ·simp only [Act.put, List.setIfInBounds_toArray, List.set_cons_zero, List.set_cons_succ, i64_w, i32_w]
                     rfl
                    refine take_ (i := 4) (N := some 44) (v := ?_) (a' := ?_) #[true, true, false, true, true, false, true, false, false, false, false, true, false, false, false, false] rfl rfl (take_ofW HT_.out HW_.out (by kernel_rfl)) (fun _ _ _ h => h) (Or.inl ⟨by rfl, ?_⟩) hHeld ?_ ?_
                    rotate_left
                    ·rintro w' ⟨s0, s1, s2, s3, s4⟩
                     go_simp
                     with_reducible rfl
                    rotate_left
                    ·simp only [Act.put, List.setIfInBounds_toArray, List.set_cons_zero, List.set_cons_succ, i64_w, i32_w]
                     rfl
                    refine pure_ (i := 5) (N := some 45) (v := ?_) (a' := ?_) #[true, true, false, true, true, true, true, false, false, false, false, true, false, false, false, false] rfl rfl (any_of HT_.out (by kernel_rfl)) (fun _ _ _ h => h) (Or.inl ⟨by rfl, ?_⟩) ?_ ?_
                    rotate_left
                    ·intro w'
                     go_simp
                     with_reducible rfl
                    rotate_left
                    ·simp only [Act.put, List.setIfInBounds_toArray, List.set_cons_zero, List.set_cons_succ, i64_w, i32_w]
                     rfl
                    refine take_ (i := 7) (N := some 47) (v := ?_) (a' := ?_) #[true, true, false, true, true, true, true, true, false, false, false, true, false, false, false, false] rfl rfl (take_ofW HT_.out HW_.out (by kernel_rfl)) (fun _ _ _ h => h) (Or.inl ⟨by rfl, ?_⟩) hHeld ?_ ?_
                    rotate_left
                    ·rintro w' ⟨s0, s1, s2, s3, s4⟩
                     go_simp
                     with_reducible rfl
                    rotate_left
                    ·simp only [Act.put, List.setIfInBounds_toArray, List.set_cons_zero, List.set_cons_succ, i64_w, i32_w]
                     rfl
                    refine pure_ (i := 8) (N := some 48) (v := ?_) (a' := ?_) #[true, true, false, true, true, true, true, true, true, false, false, true, false, false, false, false] rfl rfl (any_of HT_.out (by kernel_rfl)) (fun _ _ _ h => h) (Or.inl ⟨by rfl, ?_⟩) ?_ ?_
                    rotate_left
                    ·intro w'
                     go_simp
                     with_reducible rfl
                    rotate_left
                    ·simp only [Act.put, List.setIfInBounds_toArray, List.set_cons_zero, List.set_cons_succ, i64_w, i32_w]
                     rfl
                    refine take_ (i := 12) (N := some 52) (v := ?_) (a' := ?_) #[true, true, false, true, true, true, true, true, true, false, false, true, true, false, false, false] rfl rfl (take_ofW HT_.out HW_.out (by kernel_rfl)) (fun _ _ _ h => h) (Or.inl ⟨by rfl, ?_⟩) hHeld ?_ ?_
                    rotate_left
                    ·rintro w' ⟨s0, s1, s2, s3, s4⟩
                     go_simp
                     with_reducible rfl
                    rotate_left
                    ·simp only [Act.put, List.setIfInBounds_toArray, List.set_cons_zero, List.set_cons_succ, i64_w, i32_w]
                     rfl
                    refine one_ (i := 2) (N := some 42) #[true, true, true, true, true, true, true, true, true, false, false, true, true, false, false, false] rfl rfl (one_of HT_.out (by kernel_rfl)) (by decide) (fun K hK => ?_)
                    refine goes_ Try.func41 (by kernel_rfl) rfl #[.string (⟨#[32, 32]⟩ : ByteArray), .int .i64 ((rd_T42 l0 x17_2).f2)] (by rfl) rfl rfl (by (try simp only [List.map_toArray, List.map_cons, List.map_nil]); first | done | rfl | (simp only [List.length_drop, List.length_take]; rfl)) ?_
                    with_reducible refine (strings_Repeat.calls (⟨#[32, 32]⟩ : ByteArray) ((rd_T42 l0 x17_2).f2) t186 _ A21.out).mono ?_
                    rintro e w33 ⟨rfl, hb⟩
                    refine ⟨_, rfl, ?_⟩
                    have n0_ := Aside0.mk (blk_below (g := gb185) (o := .cells #[.int .i64 ((rd_T42 l0 x17_2).f0.f0), .int .i64 ((rd_T42 l0 x17_2).f0.f1), .int .i64 ((rd_T42 l0 x17_2).f1), .int .i64 ((rd_T42 l0 x17_2).f2), .string ((rd_T42 l0 x17_2).f3)] 42 (0, 0)) (by (with_reducible repeat (first | refine blk_drewN ?_ _ | refine blk_drew ?_ | refine blk_alloc ?_ _)); exact BK185.out) hb)
                    have n1_ := Aside0.mk (below_step (by repeat (first | (with_reducible first | exact HB.out | apply below_alloc | apply pw_below_drewN | apply below_drew1 | refine below_set ?_ GE185.out) | exact HB.out)) hb)
                    clear BK185
                    clear HB
                    have BK185 := n0_
                    have HB := n1_
                    clear n0_ n1_
                    (try clear hb)
                    (try clear hb2)
                    (try clear hk)
                    (try clear hi)
                    refine hK.out _ _ ⟨(blk_cell BK185.out 0).trans rfl, (blk_cell BK185.out 1).trans rfl, (blk_cell BK185.out 2).trans rfl, (blk_cell BK185.out 3).trans rfl, (blk_cell BK185.out 4).trans rfl⟩ (fun hHeld => ?_)
                    clear hK K
                    refine norm_ (a' := ?_) ?_ ?_
                    rotate_left
                    ·show Act.put _ (some 42) _ = _
                     simp only [Act.put, List.setIfInBounds_toArray, List.set_cons_zero, List.set_cons_succ, i64_w, i32_w]
                     rfl
                    refine pure_ (i := 9) (N := some 49) (v := ?_) (a' := ?_) #[true, true, true, true, true, true, true, true, true, true, false, true, true, false, false, false] rfl rfl (any_of HT_.out (by kernel_rfl)) (fun _ _ _ h => h) (Or.inl ⟨by rfl, ?_⟩) ?_ ?_
                    rotate_left
                    ·intro w'
                     go_simp
                     with_reducible rfl
                    rotate_left
                    ·simp only [Act.put, List.setIfInBounds_toArray, List.set_cons_zero, List.set_cons_succ, i64_w, i32_w]
                     rfl
                    refine pure_ (i := 10) (N := some 50) (v := ?_) (a' := ?_) #[true, true, true, true, true, true, true, true, true, true, true, true, true, false, false, false] rfl rfl (any_of HT_.out (by kernel_rfl)) (fun _ _ _ h => h) (Or.inl ⟨by rfl, ?_⟩) ?_ ?_
                    rotate_left
                    ·intro w'
                     go_simp
                     with_reducible rfl
                    rotate_left
                    ·simp only [Act.put, List.setIfInBounds_toArray, List.set_cons_zero, List.set_cons_succ, i64_w, i32_w]
                     rfl
                    refine pure_ (i := 13) (N := some 53) (v := ?_) (a' := ?_) #[true, true, true, true, true, true, true, true, true, true, true, true, true, true, false, false] rfl rfl (any_of HT_.out (by kernel_rfl)) (fun _ _ _ h => h) (Or.inl ⟨by rfl, ?_⟩) ?_ ?_
                    rotate_left
                    ·intro w'
                     go_simp
                     with_reducible rfl
                    rotate_left
                    ·simp only [Act.put, List.setIfInBounds_toArray, List.set_cons_zero, List.set_cons_succ, i64_w, i32_w]
                     rfl
                    refine pure_ (i := 14) (N := some 54) (v := ?_) (a' := ?_) #[true, true, true, true, true, true, true, true, true, true, true, true, true, true, true, false] rfl rfl (any_of HT_.out (by kernel_rfl)) (fun _ _ _ h => h) (Or.inl ⟨by rfl, ?_⟩) ?_ ?_
                    rotate_left
                    ·intro w'
                     go_simp
                     with_reducible rfl
                    rotate_left
                    ·simp only [Act.put, List.setIfInBounds_toArray, List.set_cons_zero, List.set_cons_succ, i64_w, i32_w]
                     rfl
                    have LT_ : wc.heap.size < gb185 := Nat.lt_of_lt_of_le HSo.out GE185.out
                    refine one_ (i := 15) (N := some 55) #[true, true, true, true, true, true, true, true, true, true, true, true, true, true, true, true] rfl rfl (one_of HT_.out (by kernel_rfl)) (by decide) (fun K hK => ?_)
                    refine goes_ Try.func40 (by kernel_rfl) rfl #[.pointer (some ⟨wc.heap.size, 0, none⟩), .string ((((t186 ++ ((⟨#[112, 104, 108, 105]⟩ : ByteArray).extract ((ji22) : Int).toNat (((rd_T42 l0 x17_2).f1) : Int).toNat)) ++ (⟨#[32]⟩ : ByteArray)) ++ ((rd_T42 l0 x17_2).f3)) ++ (⟨#[10]⟩ : ByteArray))] (by rfl) rfl rfl (by (try simp only [List.map_toArray, List.map_cons, List.map_nil]); first | done | rfl) ?_
                    refine (Ytoenoaipjcmdnaa.Bld.write wc.heap.size wc.heap.size _ _ _ (Ytoenoaipjcmdnaa.Bld.isBelow HI.out HB.out) (by rw [Lib.byteCells_length, ← Lib.size_eq]; exact c30) (Nat.le_trans (Nat.le_of_lt HSo.out) (below_size HB.out))).mono ?_
                    rintro e w34 ⟨rfl, hI2, hb, ho⟩
                    refine ⟨_, rfl, ?_⟩
                    have n0_ := Aside0.mk (ho _ _ BK185.out (by intro h_; exact absurd (Option.some.inj h_) (Nat.ne_of_gt LT_)) (by intro c fz h_; injection h_ with _ h2 _; exact absurd h2 (by decide)))
                    have n1_ := Aside0.mk ((below_step HBo.out HB.out).trans (hb.mono GBo.out))
                    have n2_ := Aside0.mk (show Lib.IsBuilderF 60 5 wc.heap.size wc.heap.size (Lib.byteCells (x3_2 ++ ((((t186 ++ ((⟨#[112, 104, 108, 105]⟩ : ByteArray).extract ((ji22) : Int).toNat (((rd_T42 l0 x17_2).f1) : Int).toNat)) ++ (⟨#[32]⟩ : ByteArray)) ++ ((rd_T42 l0 x17_2).f3)) ++ (⟨#[10]⟩ : ByteArray))).data.toList) w34 from Or.inr (by rw [Lib.strCells_eq, ← Lib.byteCells_append] at hI2; rw [ByteArray.data_append, Array.toList_append]; exact hI2))
                    have n3_ := Aside0.mk (Nat.lt_of_lt_of_le (Nat.lt_of_lt_of_le HSo.out (below_size HB.out)) hb.size)
                    have BK185 := n0_
                    have HB := n1_
                    have HI2 := n2_
                    have HS2 := n3_
                    clear n0_ n1_ n2_ n3_
                    refine hK.out _ _ ⟨(blk_cell BK185.out 0).trans rfl, (blk_cell BK185.out 1).trans rfl, (blk_cell BK185.out 2).trans rfl, (blk_cell BK185.out 3).trans rfl, (blk_cell BK185.out 4).trans rfl⟩ (fun hHeld => ?_)
                    clear hK K
                    refine norm_ (a' := ?_) ?_ ?_
                    rotate_left
                    ·show Act.put _ (some 55) _ = _
                     simp only [Act.put, List.setIfInBounds_toArray, List.set_cons_zero, List.set_cons_succ, i64_w, i32_w]
                     rfl
                    refine done_ (done_of HT_.out (by kernel_rfl)) ?_
                    try go_wp2
                    go_roundg k3
                    case measure => have := HJ1.out; have := HK2.out; have := HK3.out; omega
                    case rel => exact ⟨(x3_2 ++ ((((t186 ++ ((⟨#[112, 104, 108, 105]⟩ : ByteArray).extract ((ji22) : Int).toNat (((rd_T42 l0 x17_2).f1) : Int).toNat)) ++ (⟨#[32]⟩ : ByteArray)) ++ ((rd_T42 l0 x17_2).f3)) ++ (⟨#[10]⟩ : ByteArray))), (wrap64 (x17_2 + 1)), (by first | rfl | (simp; done) | (simp [*]; done)), H', ⟨by have := HJ1.out; have := HK2.out; have := HK3.out; omega⟩, HB, HI2, HS2⟩
                   ·rw [if_neg c30] at H
                    try (have c30b3 := c30; simp [*, -c30, -H] at c30b3)
                    try (have c30b4 := eq_false (Nat.not_lt.2 c30b3))
                    exact absurd H (by simp)
                  ·rw [if_neg c29] at H
                   try (have c29b3 := c29; simp [*, -c29, -H] at c29b3)
                   try (have c29b4 := eq_false (Nat.not_lt.2 c29b3))
                   exact absurd H (by simp)
                 ·rw [if_neg c28] at H
                  try (have c28b3 := c28; simp [*, -c28, -H] at c28b3)
                  try (have c28b4 := eq_false (Nat.not_lt.2 c28b3))
                  exact absurd H (by simp)
                ·rw [if_neg c27] at H
                 try (have c27b3 := c27; simp [*, -c27, -H] at c27b3)
                 try (have c27b4 := eq_false (Nat.not_lt.2 c27b3))
                 exact absurd H (by simp)
               ·rw [if_neg c26] at H
                try (have c26b3 := c26; simp [*, -c26, -H] at c26b3)
                try (have c26b4 := eq_false (Nat.not_lt.2 c26b3))
                exact absurd H (by simp)
              ·rw [if_neg c25] at H
               exact absurd H (by simp)
             ·rw [if_neg c24] at H
              exact absurd H (by simp)
            ·rw [if_neg c23] at H
             exact absurd H (by simp)
        ·rw [if_neg c9] at H
         exact absurd H (by simp)
       ·rw [if_neg c8] at H
        exact absurd H (by simp)
      ·rw [if_neg c7] at H
       have c7b0 : decide (x17_2 < (l0.length : Int)) = false := decide_eq_false c7
       clear c7
       obtain rfl := Option.some.inj H
       go_wp2_with (go_at_call 42; refine (Try.Builder_String_any_k wc.heap.size wc.heap.size x3_2.data.toList _ HI.out (Nat.le_of_lt HSo.out)).mono ?_; rintro e w' ⟨rfl, hq_, hb, ho_⟩; have HBn := Aside0.mk (HBo.out.trans (hb.mono GBo.out)); clear hq_ hb ho_)
       go_wp2
       go_ret
       exact ⟨by rfl, by repeat (first | exact HBn.out | apply below_alloc | apply pw_below_drewN | apply below_drew1)⟩

end Go.Proofs.Ytoenoaipjcmdnaa.Q
