import Derived.Test.YtnlfmbdnleclfaaQ0
import Derived.Test.YtnlfmbdnleclfaaQ30
namespace Go.Proofs.Ytnlfmbdnleclfaa.Q
open Go.RowKit Go.Proofs.YtnlfmbdnleclfaaW.PrintWords Go.Proofs.YtnlfmbdnleclfaaW.PrintLast Go.Proofs.YtnlfmbdnleclfaaW.PrintMore
attribute [local go_sem] max2_int min2_int max_two min_two max_three min_three max_four min_four
set_option linter.unusedVariables false
set_option linter.unusedSimpArgs false

/-! ### impl_ApplyScript: function 27 -/
mutual
def impl_ApplyScript.j0 : Nat → ByteArray → List (S43) → Bool → Option (ByteArray × Bool)
 | 0, _, _, _ => none
 | k + 1, x0, x1, x15 => if x15 = true then (some ((⟨#[]⟩ : ByteArray), false)) else (impl_ApplyScript.l0 k x0 x1 (x1.length : Int) 0)
def impl_ApplyScript.l0 : Nat → ByteArray → List (S43) → Int → Int → Option (ByteArray × Bool)
 | 0, _, _, _, _ => none
 | k + 1, x0, x16, x17, x18 => if x18 < x17 then (if 0 ≤ x18 then (if x18 < (x16.length : Int) then (if ((rd_T43 x16 x18).f2).toList = ([] : List UInt8) then (impl_ApplyScript.j2 k x0 x16 x17 x18 true ((rd_T43 x16 x18).f0) ((rd_T43 x16 x18).f1) ((rd_T43 x16 x18).f2)) else (if ((rd_T43 x16 x18).f1) < 0 then (impl_ApplyScript.j2 k x0 x16 x17 x18 true ((rd_T43 x16 x18).f0) ((rd_T43 x16 x18).f1) ((rd_T43 x16 x18).f2)) else (impl_ApplyScript.j2 k x0 x16 x17 x18 (decide (((rd_T43 x16 x18).f1) > (x0.size : Int))) ((rd_T43 x16 x18).f0) ((rd_T43 x16 x18).f1) ((rd_T43 x16 x18).f2)))) else (none)) else (none)) else (some (x0, true))
def impl_ApplyScript.j2 : Nat → ByteArray → List (S43) → Int → Int → Bool → Int → Int → ByteArray → Option (ByteArray × Bool)
 | 0, _, _, _, _, _, _, _, _ => none
 | k + 1, x0, x16, x17, x18, x36, x249000, x249001, x249002 => if x36 = true then (some ((⟨#[]⟩ : ByteArray), false)) else (if x249000 = 1 then (if 0 ≤ x249001 then (if x249001 ≤ (x0.size : Int) then (if (x0.extract 0 (x249001 : Int).toNat).size + x249002.size ≤ 9223372036854775807 then (if ((x0.extract 0 (x249001 : Int).toNat) ++ x249002).size + (x0.extract (x249001 : Int).toNat x0.size).size ≤ 9223372036854775807 then (if ((((x0.extract 0 (x249001 : Int).toNat) ++ x249002) ++ (x0.extract (x249001 : Int).toNat x0.size)).size : Int) > 120 then (some ((⟨#[]⟩ : ByteArray), false)) else (impl_ApplyScript.l0 k (((x0.extract 0 (x249001 : Int).toNat) ++ x249002) ++ (x0.extract (x249001 : Int).toNat x0.size)) x16 x17 (wrap64 (x18 + 1)))) else (none)) else (none)) else (none)) else (none)) else (if x249000 = 2 then (if 0 ≤ x249001 then (if x249001 ≤ (x0.size : Int) then ((strings_HasPrefix.f (x0.extract (x249001 : Int).toNat x0.size) x249002).bind fun t249 => (if t249 = true then (if 0 ≤ (wrap64 (x249001 + (x249002.size : Int))) then (if (wrap64 (x249001 + (x249002.size : Int))) ≤ (x0.size : Int) then (if (x0.extract 0 (x249001 : Int).toNat).size + (x0.extract ((wrap64 (x249001 + (x249002.size : Int))) : Int).toNat x0.size).size ≤ 9223372036854775807 then (if (((x0.extract 0 (x249001 : Int).toNat) ++ (x0.extract ((wrap64 (x249001 + (x249002.size : Int))) : Int).toNat x0.size)).size : Int) > 120 then (some ((⟨#[]⟩ : ByteArray), false)) else (impl_ApplyScript.l0 k ((x0.extract 0 (x249001 : Int).toNat) ++ (x0.extract ((wrap64 (x249001 + (x249002.size : Int))) : Int).toNat x0.size)) x16 x17 (wrap64 (x18 + 1)))) else (none)) else (none)) else (none)) else (some ((⟨#[]⟩ : ByteArray), false)))) else (none)) else (none)) else (some ((⟨#[]⟩ : ByteArray), false))))
end
def impl_ApplyScript.f (k : Nat) (a0 : ByteArray) (l1 : List (S43)) : Option (ByteArray × Bool) := if (a0.size : Int) > 120 then (impl_ApplyScript.j0 k a0 l1 true) else (impl_ApplyScript.j0 k a0 l1 (decide ((l1.length : Int) > 120)))
theorem impl_ApplyScript.mono_l : ∀ k, (∀ y0 y1 y2, LeO (impl_ApplyScript.j0 k y0 y1 y2) (impl_ApplyScript.j0 (k + 1) y0 y1 y2)) ∧ (∀ y0 y1 y2 y3, LeO (impl_ApplyScript.l0 k y0 y1 y2 y3) (impl_ApplyScript.l0 (k + 1) y0 y1 y2 y3)) ∧ (∀ y0 y1 y2 y3 y4 y5 y6 y7, LeO (impl_ApplyScript.j2 k y0 y1 y2 y3 y4 y5 y6 y7) (impl_ApplyScript.j2 (k + 1) y0 y1 y2 y3 y4 y5 y6 y7))
 | 0 => ⟨fun _ _ _ r h => by simp [impl_ApplyScript.j0] at h, fun _ _ _ _ r h => by simp [impl_ApplyScript.l0] at h, fun _ _ _ _ _ _ _ _ r h => by simp [impl_ApplyScript.j2] at h⟩
 | k + 1 => by
  obtain ⟨ih0, ih1, ih2⟩ := impl_ApplyScript.mono_l k
  refine ⟨?_, ?_, ?_⟩
  ·intro y0 y1 y2
   unfold impl_ApplyScript.j0
   repeat' first
   | (with_reducible exact ih0 _ _ _)
   | (with_reducible exact ih1 _ _ _ _)
   | (with_reducible exact ih2 _ _ _ _ _ _ _ _)
   | (with_reducible exact LeO.refl _)
   | (with_reducible exact LeO.none _)
   | (with_reducible refine LeO.ite ?_ ?_)
   | (with_reducible refine LeO.bind ?_ (fun _ => ?_))
   | exact ih0 _ _ _
   | exact ih1 _ _ _ _
   | exact ih2 _ _ _ _ _ _ _ _
   | exact LeO.none _
   | refine LeO.ite ?_ ?_
   | refine LeO.bind ?_ (fun _ => ?_)
  ·intro y0 y1 y2 y3
   unfold impl_ApplyScript.l0
   repeat' first
   | (with_reducible exact ih0 _ _ _)
   | (with_reducible exact ih1 _ _ _ _)
   | (with_reducible exact ih2 _ _ _ _ _ _ _ _)
   | (with_reducible exact LeO.refl _)
   | (with_reducible exact LeO.none _)
   | (with_reducible refine LeO.ite ?_ ?_)
   | (with_reducible refine LeO.bind ?_ (fun _ => ?_))
   | exact ih0 _ _ _
   | exact ih1 _ _ _ _
   | exact ih2 _ _ _ _ _ _ _ _
   | exact LeO.none _
   | refine LeO.ite ?_ ?_
   | refine LeO.bind ?_ (fun _ => ?_)
  ·intro y0 y1 y2 y3 y4 y5 y6 y7
   unfold impl_ApplyScript.j2
   repeat' first
   | (with_reducible exact ih0 _ _ _)
   | (with_reducible exact ih1 _ _ _ _)
   | (with_reducible exact ih2 _ _ _ _ _ _ _ _)
   | (with_reducible exact LeO.refl _)
   | (with_reducible exact LeO.none _)
   | (with_reducible refine LeO.ite ?_ ?_)
   | (with_reducible refine LeO.bind ?_ (fun _ => ?_))
   | exact ih0 _ _ _
   | exact ih1 _ _ _ _
   | exact ih2 _ _ _ _ _ _ _ _
   | exact LeO.none _
   | refine LeO.ite ?_ ?_
   | refine LeO.bind ?_ (fun _ => ?_)
theorem impl_ApplyScript.mono : ∀ a0 a1 k, LeO (impl_ApplyScript.f k a0 a1) (impl_ApplyScript.f (k + 1) a0 a1) := by
 intro a0 a1 k
 obtain ⟨ih0, ih1, ih2⟩ := impl_ApplyScript.mono_l k
 unfold impl_ApplyScript.f
 repeat' first
   | (with_reducible exact ih0 _ _ _)
   | (with_reducible exact ih1 _ _ _ _)
   | (with_reducible exact ih2 _ _ _ _ _ _ _ _)
   | (with_reducible exact LeO.refl _)
   | (with_reducible exact LeO.none _)
   | (with_reducible refine LeO.ite ?_ ?_)
   | (with_reducible refine LeO.bind ?_ (fun _ => ?_))
   | exact ih0 _ _ _
   | exact ih1 _ _ _ _
   | exact ih2 _ _ _ _ _ _ _ _
   | exact LeO.none _
   | refine LeO.ite ?_ ?_
   | refine LeO.bind ?_ (fun _ => ?_)
set_option maxHeartbeats 8000000 in
set_option maxRecDepth 100000 in
theorem impl_ApplyScript.calls (k : Nat) (a0 : ByteArray) (A1 : Option Addr) (c1 : Nat) (l1 : List (S43)) (r1 : ByteArray) (r2 : Bool) (w : World) (hr1 : Kd.C k43 w A1 l1.length l1) (hc1 : l1.length ≤ c1) (h : impl_ApplyScript.f k a0 l1 = some (r1, r2)) :
  Calls Try.prog 27 #[.string a0, .slice A1 l1.length c1] w fun e w' => e = .returned (.tuple #[.string r1, .bool r2]) ∧ Below w.heap.size w w' := by
 have hu43 := Try.underlying43
 have HR1 := Aside0.mk hr1
 have HC1 := Aside0.mk hc1
 clear hr1 hc1
 have HB := Aside0.mk (Below.refl w.heap.size w)
 have H : (if (a0.size : Int) > 120 then (impl_ApplyScript.j0 k a0 l1 true) else (impl_ApplyScript.j0 k a0 l1 (decide ((l1.length : Int) > 120)))) = some (r1, r2) := h
 clear h
 have HC3 := Aside0.mk H
 clear H
 go_enter Try.func27, Try.ntmps27
 go_upto_region 1 with (fail)
 repeat (go_quiet (fail); go_upto_region 1 with (fail))
 go_cut [15] (fun v15 wc => ∃ (kq : Nat) (x15_2 : Bool), v15 = .bool x15_2 ∧ Aside0 (impl_ApplyScript.j0 kq a0 l1 x15_2 = some (r1, r2)) ∧ Aside0 (kq ≤ k) ∧ Aside0 (Below w.heap.size w wc))
 case first =>
  have H := HC3.out
  clear HC3
  by_cases c4 : (a0.size : Int) > 120
  ·rw [if_pos c4] at H
   have c4b0 : decide (120 < (a0.size : Int)) = true := decide_eq_true c4
   have c4b1 : decide (120 < a0.size) = true := decide_eq_true (by omega)
   clear c4
   (first | rw [c4b0] | (simp only [i64_w, i32_w]; rw [c4b0]) | skip)
   have H' := Aside0.mk H
   clear H
   go_wp2
   repeat (go_quiet (fail); try go_wp2)
   go_meet
   case rel => exact ⟨_, (true), (by first | rfl | (simp; done) | (simp [*]; done)), H', ⟨by first | omega | exact Nat.le_refl _⟩, ⟨by repeat (first | (with_reducible first | exact HB.out | apply below_alloc | apply pw_below_drewN | apply below_drew1) | exact HB.out)⟩⟩
  ·rw [if_neg c4] at H
   have c4b0 : decide (120 < (a0.size : Int)) = false := decide_eq_false c4
   have c4b1 : decide (120 < a0.size) = false := decide_eq_false (by omega)
   clear c4
   (first | rw [c4b0] | (simp only [i64_w, i32_w]; rw [c4b0]) | skip)
   have H' := Aside0.mk H
   clear H
   go_wp2
   repeat (go_quiet (fail); try go_wp2)
   go_meet
   case rel => exact ⟨_, (decide ((l1.length : Int) > 120)), (by first | rfl | (simp; done) | (simp [*]; done)), H', ⟨by first | omega | exact Nat.le_refl _⟩, ⟨by repeat (first | (with_reducible first | exact HB.out | apply below_alloc | apply pw_below_drewN | apply below_drew1) | exact HB.out)⟩⟩
 case rest =>
  clear HC3
  try clear c1
  try clear c2
  try clear p2
  try clear c4
  try clear c4b0
  try clear c4b1
  obtain ⟨kq, x15_2, rfl, HA, HJ2, HB⟩ := hcut
  cases kq with
  | zero => exact absurd HA.out (by simp [impl_ApplyScript.j0])
  | succ kj2 =>
   have H := HA.out
   clear HA
   simp only [impl_ApplyScript.j0] at H
   by_cases c5 : x15_2 = true
   ·subst c5
    have H1 : (some ((⟨#[]⟩ : ByteArray), false)) = some (r1, r2) := by rw [if_pos rfl] at H; exact H
    clear H
    have H := H1
    clear H1
    simp only [Option.some.injEq, Prod.mk.injEq] at H
    obtain ⟨rfl, rfl⟩ := H
    go_wp2
    repeat (go_quiet (fail); try go_wp2)
    go_ret2
    exact ⟨by first | rfl | (simp [errW_none, errW_some] <;> rfl) | (simp [*, errW_none, errW_some] <;> rfl), by repeat (first | (with_reducible first | exact HB.out | apply below_alloc | apply pw_below_drewN | apply below_drew1) | exact HB.out)⟩
   ·replace c5 := Bool.eq_false_iff.mpr c5
    subst c5
    have H1 : (impl_ApplyScript.l0 kj2 a0 l1 (l1.length : Int) 0) = some (r1, r2) := by rw [if_neg (show ¬ (false = true) by decide)] at H; exact H
    clear H
    have H := H1
    clear H1
    have H' := Aside0.mk H
    clear H
    go_wp2
    repeat (go_quiet (fail); try go_wp2)
    go_loopg [0, 18] kj2 (fun kq v0 v18 w' => ∃ (x0_2 : ByteArray) (x18_2 : Int), v0 = .string x0_2 ∧ v18 = .int .i64 x18_2 ∧ Aside0 (impl_ApplyScript.l0 kq x0_2 l1 (l1.length : Int) x18_2 = some (r1, r2)) ∧ Aside0 (kq ≤ kj2) ∧ Aside0 (Below w.heap.size w w'))
    case atStart => exact ⟨(a0), (0), (by first | rfl | (simp; done) | (simp [*]; done)), (by first | rfl | (simp; done) | (simp [*]; done)), H', ⟨Nat.le_refl _⟩, ⟨by repeat (first | (with_reducible first | exact HB.out | apply below_alloc | apply pw_below_drewN | apply below_drew1) | exact HB.out)⟩⟩
    case round =>
     clear H'
     try clear c1
     try clear c2
     try clear p2
     try clear c4
     try clear c4b0
     try clear c4b1
     try clear c5
     try clear p2
     obtain ⟨x0_2, x18_2, rfl, rfl, HA, HK2, HB⟩ := hrel
     cases gk with
     | zero => exact absurd HA.out (by simp [impl_ApplyScript.l0])
     | succ k2 =>
      have H := HA.out
      clear HA
      simp only [impl_ApplyScript.l0] at H
      by_cases c6 : x18_2 < (l1.length : Int)
      ·rw [if_pos c6] at H
       have c6b0 : decide (x18_2 < (l1.length : Int)) = true := decide_eq_true c6
       clear c6
       by_cases c7 : 0 ≤ x18_2
       ·rw [if_pos c7] at H
        have c7b0 : decide (0 ≤ x18_2) = true := decide_eq_true c7
        clear c7
        by_cases c8 : x18_2 < (l1.length : Int)
        ·rw [if_pos c8] at H
         have c8b0 : decide (x18_2 < (l1.length : Int)) = true := decide_eq_true c8
         clear c8
         have HC9 := Aside0.mk H
         clear H
         have p247 : 0 ≤ (x18_2 : Int) := of_decide_eq_true (by first | (with_reducible assumption) | assumption)
         have q247 : x18_2 < (l1.length : Int) := of_decide_eq_true (by first | (with_reducible assumption) | assumption)
         obtain ⟨ad247, e247, hx247_0, hx247_1, hx247_2⟩ := at_T43 HR1.out x18_2 p247 q247
         cases e247
         replace hx247_0 := (HB.out.cell (World.block_lt_of_cell? w _ hx247_0)).trans hx247_0
         replace hx247_1 := (HB.out.cell (World.block_lt_of_cell? w _ hx247_1)).trans hx247_1
         replace hx247_2 := (HB.out.cell (World.block_lt_of_cell? w _ hx247_2)).trans hx247_2
         replace p247 := eq_true p247
         replace q247 := eq_true q247
         go_upto_region 6 with (first | ((with_reducible refine gate_dst (N := 7) rfl ?_); (try (refine gate_guard (by rfl) ?_; dsimp only)); refine box_event ?hg (N := 7) ?hd (cs := #[.int .i64 0, .int .i64 0, .string (⟨#[]⟩ : ByteArray)]) (t := 43) ?hr ?_; (case hd => rfl); (case hg => rfl); (case hr => first | (go_simp; done) | (go_simp; rfl)); intro gb248 hg w10 hbox hb; have n0_ := Aside0.mk (below_step (by repeat (first | (with_reducible first | exact HB.out | apply below_alloc | apply pw_below_drewN | apply below_drew1) | exact HB.out)) hb); have n1_ := Aside0.mk (hbox); have n2_ := Aside0.mk ((by rw [hg]; exact (below_size (by repeat (first | (with_reducible first | exact HB.out | apply below_alloc | apply pw_below_drewN | apply below_drew1) | exact HB.out))) : w.heap.size ≤ gb248)); have n3_ := Aside0.mk ((by rw [hg]; exact (below_size (by repeat (first | (with_reducible first | exact HB.out | apply below_alloc | apply pw_below_drewN | apply below_drew1) | exact HB.out))) : w.heap.size ≤ gb248)); clear HB; have HB := n0_; have BK248 := n1_; have GW248 := n2_; have GE248 := n3_; clear n0_ n1_ n2_ n3_; clear hb hbox hg; have hcz11_0 : w10.cell? ⟨gb248, 0, none⟩ = some (.int .i64 0) := (blk_cell BK248.out 0).trans rfl; have hcz11_1 : w10.cell? ⟨gb248, 1, none⟩ = some (.int .i64 0) := (blk_cell BK248.out 1).trans rfl; have hcz11_2 : w10.cell? ⟨gb248, 2, none⟩ = some (.string (⟨#[]⟩ : ByteArray)) := (blk_cell BK248.out 2).trans rfl; have hfz11_0 := blk_frozen BK248.out 0; have hfz11_1 := blk_frozen BK248.out 1; have hfz11_2 := blk_frozen BK248.out 2))
         repeat (go_quiet (first | ((with_reducible refine gate_dst (N := 7) rfl ?_); (try (refine gate_guard (by rfl) ?_; dsimp only)); refine box_event ?hg (N := 7) ?hd (cs := #[.int .i64 0, .int .i64 0, .string (⟨#[]⟩ : ByteArray)]) (t := 43) ?hr ?_; (case hd => rfl); (case hg => rfl); (case hr => first | (go_simp; done) | (go_simp; rfl)); intro gb248 hg w10 hbox hb; have n0_ := Aside0.mk (below_step (by repeat (first | (with_reducible first | exact HB.out | apply below_alloc | apply pw_below_drewN | apply below_drew1) | exact HB.out)) hb); have n1_ := Aside0.mk (hbox); have n2_ := Aside0.mk ((by rw [hg]; exact (below_size (by repeat (first | (with_reducible first | exact HB.out | apply below_alloc | apply pw_below_drewN | apply below_drew1) | exact HB.out))) : w.heap.size ≤ gb248)); have n3_ := Aside0.mk ((by rw [hg]; exact (below_size (by repeat (first | (with_reducible first | exact HB.out | apply below_alloc | apply pw_below_drewN | apply below_drew1) | exact HB.out))) : w.heap.size ≤ gb248)); clear HB; have HB := n0_; have BK248 := n1_; have GW248 := n2_; have GE248 := n3_; clear n0_ n1_ n2_ n3_; clear hb hbox hg; have hcz11_0 : w10.cell? ⟨gb248, 0, none⟩ = some (.int .i64 0) := (blk_cell BK248.out 0).trans rfl; have hcz11_1 : w10.cell? ⟨gb248, 1, none⟩ = some (.int .i64 0) := (blk_cell BK248.out 1).trans rfl; have hcz11_2 : w10.cell? ⟨gb248, 2, none⟩ = some (.string (⟨#[]⟩ : ByteArray)) := (blk_cell BK248.out 2).trans rfl; have hfz11_0 := blk_frozen BK248.out 0; have hfz11_1 := blk_frozen BK248.out 1; have hfz11_2 := blk_frozen BK248.out 2)); go_upto_region 6 with (first | ((with_reducible refine gate_dst (N := 7) rfl ?_); (try (refine gate_guard (by rfl) ?_; dsimp only)); refine box_event ?hg (N := 7) ?hd (cs := #[.int .i64 0, .int .i64 0, .string (⟨#[]⟩ : ByteArray)]) (t := 43) ?hr ?_; (case hd => rfl); (case hg => rfl); (case hr => first | (go_simp; done) | (go_simp; rfl)); intro gb248 hg w10 hbox hb; have n0_ := Aside0.mk (below_step (by repeat (first | (with_reducible first | exact HB.out | apply below_alloc | apply pw_below_drewN | apply below_drew1) | exact HB.out)) hb); have n1_ := Aside0.mk (hbox); have n2_ := Aside0.mk ((by rw [hg]; exact (below_size (by repeat (first | (with_reducible first | exact HB.out | apply below_alloc | apply pw_below_drewN | apply below_drew1) | exact HB.out))) : w.heap.size ≤ gb248)); have n3_ := Aside0.mk ((by rw [hg]; exact (below_size (by repeat (first | (with_reducible first | exact HB.out | apply below_alloc | apply pw_below_drewN | apply below_drew1) | exact HB.out))) : w.heap.size ≤ gb248)); clear HB; have HB := n0_; have BK248 := n1_; have GW248 := n2_; have GE248 := n3_; clear n0_ n1_ n2_ n3_; clear hb hbox hg; have hcz11_0 : w10.cell? ⟨gb248, 0, none⟩ = some (.int .i64 0) := (blk_cell BK248.out 0).trans rfl; have hcz11_1 : w10.cell? ⟨gb248, 1, none⟩ = some (.int .i64 0) := (blk_cell BK248.out 1).trans rfl; have hcz11_2 : w10.cell? ⟨gb248, 2, none⟩ = some (.string (⟨#[]⟩ : ByteArray)) := (blk_cell BK248.out 2).trans rfl; have hfz11_0 := blk_frozen BK248.out 0; have hfz11_1 := blk_frozen BK248.out 1; have hfz11_2 := blk_frozen BK248.out 2)))
         (try simp only [Act.put, List.setIfInBounds_toArray, List.set_cons_zero, List.set_cons_succ])
         go_cut [36] (fun v36 wc => ∃ (kq : Nat) (x36_8 : Bool), v36 = .bool x36_8 ∧ Aside0 (impl_ApplyScript.j2 kq x0_2 l1 (l1.length : Int) x18_2 x36_8 ((rd_T43 l1 x18_2).f0) ((rd_T43 l1 x18_2).f1) ((rd_T43 l1 x18_2).f2) = some (r1, r2)) ∧ Aside0 (kq ≤ k2) ∧ Aside0 (wc.heap[gb248]? = some (.cells #[.int .i64 ((rd_T43 l1 x18_2).f0), .int .i64 ((rd_T43 l1 x18_2).f1), .string ((rd_T43 l1 x18_2).f2)] 43 (0, 0))) ∧ Aside0 (Below w.heap.size w wc))
         case first =>
          have H := HC9.out
          clear HC9
          by_cases c12 : ((rd_T43 l1 x18_2).f2).toList = ([] : List UInt8)
          ·rw [if_pos c12] at H
           have c12b0 : (((rd_T43 l1 x18_2).f2).toList == ([] : List UInt8)) = true := beq_iff_eq.mpr c12
           have c12b1 : (((rd_T43 l1 x18_2).f2).toList != ([] : List UInt8)) = false := bne_eq_false_iff_eq.mpr c12
           clear c12
           (first | rw [c12b0] | (simp only [i64_w, i32_w]; rw [c12b0]) | skip)
           have H' := Aside0.mk H
           clear H
           have hcz13_0 : w10.cell? ⟨gb248, 0, none⟩ = some (.int .i64 0) := (blk_cell BK248.out 0).trans rfl
           have hcz13_1 : w10.cell? ⟨gb248, 1, none⟩ = some (.int .i64 0) := (blk_cell BK248.out 1).trans rfl
           have hcz13_2 : w10.cell? ⟨gb248, 2, none⟩ = some (.string (⟨#[]⟩ : ByteArray)) := (blk_cell BK248.out 2).trans rfl
           have hfz13_0 := blk_frozen BK248.out 0
           have hfz13_1 := blk_frozen BK248.out 1
           have hfz13_2 := blk_frozen BK248.out 2
           go_wp2
           repeat (go_quiet (fail); try go_wp2)
           go_meet
           case rel => exact ⟨_, (true), (by first | rfl | (simp; done) | (simp [*]; done)), H', ⟨by have := HJ2.out; have := HK2.out; first | omega | exact Nat.le_refl _⟩, ⟨by (with_reducible repeat (first | refine blk_drewN ?_ _ | refine blk_drew ?_ | refine blk_alloc ?_ _)); refine blk_put (cs := #[.int .i64 ((rd_T43 l1 x18_2).f0), .int .i64 ((rd_T43 l1 x18_2).f1), .string (⟨#[]⟩ : ByteArray)]) ?_ 2 _ rfl; (with_reducible repeat (first | refine blk_drewN ?_ _ | refine blk_drew ?_ | refine blk_alloc ?_ _)); refine blk_put (cs := #[.int .i64 ((rd_T43 l1 x18_2).f0), .int .i64 0, .string (⟨#[]⟩ : ByteArray)]) ?_ 1 _ rfl; (with_reducible repeat (first | refine blk_drewN ?_ _ | refine blk_drew ?_ | refine blk_alloc ?_ _)); refine blk_put (cs := #[.int .i64 0, .int .i64 0, .string (⟨#[]⟩ : ByteArray)]) ?_ 0 _ rfl; (with_reducible repeat (first | refine blk_drewN ?_ _ | refine blk_drew ?_ | refine blk_alloc ?_ _)); exact BK248.out⟩, ⟨by repeat (first | (with_reducible first | exact HB.out | apply below_alloc | apply pw_below_drewN | apply below_drew1 | refine below_set ?_ GE248.out) | exact HB.out)⟩⟩
          ·rw [if_neg c12] at H
           have c12b0 : (((rd_T43 l1 x18_2).f2).toList == ([] : List UInt8)) = false := beq_eq_false_iff_ne.mpr c12
           have c12b1 : (((rd_T43 l1 x18_2).f2).toList != ([] : List UInt8)) = true := bne_iff_ne.mpr c12
           (first | rw [c12b0] | (simp only [i64_w, i32_w]; rw [c12b0]) | skip)
           by_cases c14 : ((rd_T43 l1 x18_2).f1) < 0
           ·rw [if_pos c14] at H
            have c14b0 : decide (((rd_T43 l1 x18_2).f1) < 0) = true := decide_eq_true c14
            clear c14
            have H' := Aside0.mk H
            clear H
            have hcz15_0 : w10.cell? ⟨gb248, 0, none⟩ = some (.int .i64 0) := (blk_cell BK248.out 0).trans rfl
            have hcz15_1 : w10.cell? ⟨gb248, 1, none⟩ = some (.int .i64 0) := (blk_cell BK248.out 1).trans rfl
            have hcz15_2 : w10.cell? ⟨gb248, 2, none⟩ = some (.string (⟨#[]⟩ : ByteArray)) := (blk_cell BK248.out 2).trans rfl
            have hfz15_0 := blk_frozen BK248.out 0
            have hfz15_1 := blk_frozen BK248.out 1
            have hfz15_2 := blk_frozen BK248.out 2
            go_wp2
            repeat (go_quiet (fail); try go_wp2)
            go_meet
            case rel => exact ⟨_, (true), (by first | rfl | (simp; done) | (simp [*]; done)), H', ⟨by have := HJ2.out; have := HK2.out; first | omega | exact Nat.le_refl _⟩, ⟨by (with_reducible repeat (first | refine blk_drewN ?_ _ | refine blk_drew ?_ | refine blk_alloc ?_ _)); refine blk_put (cs := #[.int .i64 ((rd_T43 l1 x18_2).f0), .int .i64 ((rd_T43 l1 x18_2).f1), .string (⟨#[]⟩ : ByteArray)]) ?_ 2 _ rfl; (with_reducible repeat (first | refine blk_drewN ?_ _ | refine blk_drew ?_ | refine blk_alloc ?_ _)); refine blk_put (cs := #[.int .i64 ((rd_T43 l1 x18_2).f0), .int .i64 0, .string (⟨#[]⟩ : ByteArray)]) ?_ 1 _ rfl; (with_reducible repeat (first | refine blk_drewN ?_ _ | refine blk_drew ?_ | refine blk_alloc ?_ _)); refine blk_put (cs := #[.int .i64 0, .int .i64 0, .string (⟨#[]⟩ : ByteArray)]) ?_ 0 _ rfl; (with_reducible repeat (first | refine blk_drewN ?_ _ | refine blk_drew ?_ | refine blk_alloc ?_ _)); exact BK248.out⟩, ⟨by repeat (first | (with_reducible first | exact HB.out | apply below_alloc | apply pw_below_drewN | apply below_drew1 | refine below_set ?_ GE248.out) | exact HB.out)⟩⟩
           ·rw [if_neg c14] at H
            have c14b0 : decide (((rd_T43 l1 x18_2).f1) < 0) = false := decide_eq_false c14
            clear c14
            have H' := Aside0.mk H
            clear H
            have hcz16_0 : w10.cell? ⟨gb248, 0, none⟩ = some (.int .i64 0) := (blk_cell BK248.out 0).trans rfl
            have hcz16_1 : w10.cell? ⟨gb248, 1, none⟩ = some (.int .i64 0) := (blk_cell BK248.out 1).trans rfl
            have hcz16_2 : w10.cell? ⟨gb248, 2, none⟩ = some (.string (⟨#[]⟩ : ByteArray)) := (blk_cell BK248.out 2).trans rfl
            have hfz16_0 := blk_frozen BK248.out 0
            have hfz16_1 := blk_frozen BK248.out 1
            have hfz16_2 := blk_frozen BK248.out 2
            go_wp2
            repeat (go_quiet (fail); try go_wp2)
            go_meet
            case rel => exact ⟨_, (decide (((rd_T43 l1 x18_2).f1) > (x0_2.size : Int))), (by first | rfl | (simp; done) | (simp [*]; done)), H', ⟨by have := HJ2.out; have := HK2.out; first | omega | exact Nat.le_refl _⟩, ⟨by (with_reducible repeat (first | refine blk_drewN ?_ _ | refine blk_drew ?_ | refine blk_alloc ?_ _)); refine blk_put (cs := #[.int .i64 ((rd_T43 l1 x18_2).f0), .int .i64 ((rd_T43 l1 x18_2).f1), .string (⟨#[]⟩ : ByteArray)]) ?_ 2 _ rfl; (with_reducible repeat (first | refine blk_drewN ?_ _ | refine blk_drew ?_ | refine blk_alloc ?_ _)); refine blk_put (cs := #[.int .i64 ((rd_T43 l1 x18_2).f0), .int .i64 0, .string (⟨#[]⟩ : ByteArray)]) ?_ 1 _ rfl; (with_reducible repeat (first | refine blk_drewN ?_ _ | refine blk_drew ?_ | refine blk_alloc ?_ _)); refine blk_put (cs := #[.int .i64 0, .int .i64 0, .string (⟨#[]⟩ : ByteArray)]) ?_ 0 _ rfl; (with_reducible repeat (first | refine blk_drewN ?_ _ | refine blk_drew ?_ | refine blk_alloc ?_ _)); exact BK248.out⟩, ⟨by repeat (first | (with_reducible first | exact HB.out | apply below_alloc | apply pw_below_drewN | apply below_drew1 | refine below_set ?_ GE248.out) | exact HB.out)⟩⟩
         case rest =>
          clear HC9
          try clear c1
          try clear c2
          try clear p2
          try clear q2
          try clear hx2
          try clear c4
          try clear c4b0
          try clear c4b1
          try clear c5
          try clear c6
          try clear c6b0
          try clear c7
          try clear c7b0
          try clear c8
          try clear c8b0
          try clear c12
          try clear c12b0
          try clear c12b1
          try clear c14
          try clear c14b0
          try clear hcz11_0
          try clear hcz11_1
          try clear hcz11_2
          try clear hcz13_0
          try clear hcz13_1
          try clear hcz13_2
          try clear hcz15_0
          try clear hcz15_1
          try clear hcz15_2
          try clear hcz16_0
          try clear hcz16_1
          try clear hcz16_2
          try clear hfz11_0
          try clear hfz11_1
          try clear hfz11_2
          try clear hfz13_0
          try clear hfz13_1
          try clear hfz13_2
          try clear hfz15_0
          try clear hfz15_1
          try clear hfz15_2
          try clear hfz16_0
          try clear hfz16_1
          try clear hfz16_2
          try clear hx247_0
          try clear hx247_1
          try clear hx247_2
          try clear p2
          try clear p247
          try clear q247
          obtain ⟨kq, x36_8, rfl, HA, HJ8, BK248, HB⟩ := hcut
          cases kq with
          | zero => exact absurd HA.out (by simp [impl_ApplyScript.j2])
          | succ kj8 =>
           have H := HA.out
           clear HA
           simp only [impl_ApplyScript.j2] at H
           by_cases c17 : x36_8 = true
           ·subst c17
            have H1 : (some ((⟨#[]⟩ : ByteArray), false)) = some (r1, r2) := by rw [if_pos rfl] at H; exact H
            clear H
            have H := H1
            clear H1
            simp only [Option.some.injEq, Prod.mk.injEq] at H
            obtain ⟨rfl, rfl⟩ := H
            go_wp2
            repeat (go_quiet (fail); try go_wp2)
            go_ret2
            exact ⟨by first | rfl | (simp [errW_none, errW_some] <;> rfl) | (simp [*, errW_none, errW_some] <;> rfl), by repeat (first | (with_reducible first | exact HB.out | apply below_alloc | apply pw_below_drewN | apply below_drew1 | refine below_set ?_ GE248.out) | exact HB.out)⟩
           ·replace c17 := Bool.eq_false_iff.mpr c17
            subst c17
            have H1 : (if ((rd_T43 l1 x18_2).f0) = 1 then (if 0 ≤ ((rd_T43 l1 x18_2).f1) then (if ((rd_T43 l1 x18_2).f1) ≤ (x0_2.size : Int) then (if (x0_2.extract 0 (((rd_T43 l1 x18_2).f1) : Int).toNat).size + ((rd_T43 l1 x18_2).f2).size ≤ 9223372036854775807 then (if ((x0_2.extract 0 (((rd_T43 l1 x18_2).f1) : Int).toNat) ++ ((rd_T43 l1 x18_2).f2)).size + (x0_2.extract (((rd_T43 l1 x18_2).f1) : Int).toNat x0_2.size).size ≤ 9223372036854775807 then (if ((((x0_2.extract 0 (((rd_T43 l1 x18_2).f1) : Int).toNat) ++ ((rd_T43 l1 x18_2).f2)) ++ (x0_2.extract (((rd_T43 l1 x18_2).f1) : Int).toNat x0_2.size)).size : Int) > 120 then (some ((⟨#[]⟩ : ByteArray), false)) else (impl_ApplyScript.l0 kj8 (((x0_2.extract 0 (((rd_T43 l1 x18_2).f1) : Int).toNat) ++ ((rd_T43 l1 x18_2).f2)) ++ (x0_2.extract (((rd_T43 l1 x18_2).f1) : Int).toNat x0_2.size)) l1 (l1.length : Int) (wrap64 (x18_2 + 1)))) else (none)) else (none)) else (none)) else (none)) else (if ((rd_T43 l1 x18_2).f0) = 2 then (if 0 ≤ ((rd_T43 l1 x18_2).f1) then (if ((rd_T43 l1 x18_2).f1) ≤ (x0_2.size : Int) then ((strings_HasPrefix.f (x0_2.extract (((rd_T43 l1 x18_2).f1) : Int).toNat x0_2.size) ((rd_T43 l1 x18_2).f2)).bind fun t249 => (if t249 = true then (if 0 ≤ (wrap64 (((rd_T43 l1 x18_2).f1) + (((rd_T43 l1 x18_2).f2).size : Int))) then (if (wrap64 (((rd_T43 l1 x18_2).f1) + (((rd_T43 l1 x18_2).f2).size : Int))) ≤ (x0_2.size : Int) then (if (x0_2.extract 0 (((rd_T43 l1 x18_2).f1) : Int).toNat).size + (x0_2.extract ((wrap64 (((rd_T43 l1 x18_2).f1) + (((rd_T43 l1 x18_2).f2).size : Int))) : Int).toNat x0_2.size).size ≤ 9223372036854775807 then (if (((x0_2.extract 0 (((rd_T43 l1 x18_2).f1) : Int).toNat) ++ (x0_2.extract ((wrap64 (((rd_T43 l1 x18_2).f1) + (((rd_T43 l1 x18_2).f2).size : Int))) : Int).toNat x0_2.size)).size : Int) > 120 then (some ((⟨#[]⟩ : ByteArray), false)) else (impl_ApplyScript.l0 kj8 ((x0_2.extract 0 (((rd_T43 l1 x18_2).f1) : Int).toNat) ++ (x0_2.extract ((wrap64 (((rd_T43 l1 x18_2).f1) + (((rd_T43 l1 x18_2).f2).size : Int))) : Int).toNat x0_2.size)) l1 (l1.length : Int) (wrap64 (x18_2 + 1)))) else (none)) else (none)) else (none)) else (some ((⟨#[]⟩ : ByteArray), false)))) else (none)) else (none)) else (some ((⟨#[]⟩ : ByteArray), false)))) = some (r1, r2) := by rw [if_neg (show ¬ (false = true) by decide)] at H; exact H
            clear H
            have H := H1
            clear H1
            by_cases c18 : ((rd_T43 l1 x18_2).f0) = 1
            ·rw [if_pos c18] at H
             have c18b0 : (((rd_T43 l1 x18_2).f0) == 1) = true := beq_iff_eq.mpr c18
             have c18b1 : (((rd_T43 l1 x18_2).f0) != 1) = false := bne_eq_false_iff_eq.mpr c18
             clear c18
             by_cases c19 : 0 ≤ ((rd_T43 l1 x18_2).f1)
             ·rw [if_pos c19] at H
              have c19b0 := eq_true c19
              have c19b1 : decide (0 ≤ ((rd_T43 l1 x18_2).f1)) = true := decide_eq_true c19
              clear c19
              by_cases c20 : ((rd_T43 l1 x18_2).f1) ≤ (x0_2.size : Int)
              ·rw [if_pos c20] at H
               have c20b0 := eq_true c20
               have c20b1 : decide (((rd_T43 l1 x18_2).f1) ≤ (x0_2.size : Int)) = true := decide_eq_true c20
               clear c20
               by_cases c21 : (x0_2.extract 0 (((rd_T43 l1 x18_2).f1) : Int).toNat).size + ((rd_T43 l1 x18_2).f2).size ≤ 9223372036854775807
               ·rw [if_pos c21] at H
                try (have c21b3 := c21; simp [*, -c21, -H] at c21b3)
                try (have c21b4 := eq_false (Nat.not_lt.2 c21b3))
                have c21b0 := eq_true c21
                have c21b1 : decide ((x0_2.extract 0 (((rd_T43 l1 x18_2).f1) : Int).toNat).size + ((rd_T43 l1 x18_2).f2).size ≤ 9223372036854775807) = true := decide_eq_true c21
                try have c21b2 : (9223372036854775807 < (x0_2.extract 0 (((rd_T43 l1 x18_2).f1) : Int).toNat).size + ((rd_T43 l1 x18_2).f2).size) = False := eq_false (Nat.not_lt.2 c21)
                have c22b0 := eq_true (of_decide_eq_true (by first | (with_reducible assumption) | assumption) : 0 ≤ ((rd_T43 l1 x18_2).f1))
                have c23b0 := eq_true (of_decide_eq_true (by first | (with_reducible assumption) | assumption) : ((rd_T43 l1 x18_2).f1) ≤ (x0_2.size : Int))
                by_cases c24 : ((x0_2.extract 0 (((rd_T43 l1 x18_2).f1) : Int).toNat) ++ ((rd_T43 l1 x18_2).f2)).size + (x0_2.extract (((rd_T43 l1 x18_2).f1) : Int).toNat x0_2.size).size ≤ 9223372036854775807
                ·rw [if_pos c24] at H
                 try (have c24b3 := c24; simp [*, -c24, -H] at c24b3)
                 try (have c24b4 := eq_false (Nat.not_lt.2 c24b3))
                 have c24b0 := eq_true c24
                 have c24b1 : decide (((x0_2.extract 0 (((rd_T43 l1 x18_2).f1) : Int).toNat) ++ ((rd_T43 l1 x18_2).f2)).size + (x0_2.extract (((rd_T43 l1 x18_2).f1) : Int).toNat x0_2.size).size ≤ 9223372036854775807) = true := decide_eq_true c24
                 try have c24b2 : (9223372036854775807 < ((x0_2.extract 0 (((rd_T43 l1 x18_2).f1) : Int).toNat) ++ ((rd_T43 l1 x18_2).f2)).size + (x0_2.extract (((rd_T43 l1 x18_2).f1) : Int).toNat x0_2.size).size) = False := eq_false (Nat.not_lt.2 c24)
                 by_cases c25 : ((((x0_2.extract 0 (((rd_T43 l1 x18_2).f1) : Int).toNat) ++ ((rd_T43 l1 x18_2).f2)) ++ (x0_2.extract (((rd_T43 l1 x18_2).f1) : Int).toNat x0_2.size)).size : Int) > 120
                 ·rw [if_pos c25] at H
                  try (have c25b3 := c25; simp [*, -c25, -H] at c25b3)
                  try (have c25b4 := eq_false (Nat.not_lt.2 c25b3))
                  have c25b0 : decide (120 < ((((x0_2.extract 0 (((rd_T43 l1 x18_2).f1) : Int).toNat) ++ ((rd_T43 l1 x18_2).f2)) ++ (x0_2.extract (((rd_T43 l1 x18_2).f1) : Int).toNat x0_2.size)).size : Int)) = true := decide_eq_true c25
                  have c25b1 : decide (120 < (((x0_2.extract 0 (((rd_T43 l1 x18_2).f1) : Int).toNat) ++ ((rd_T43 l1 x18_2).f2)) ++ (x0_2.extract (((rd_T43 l1 x18_2).f1) : Int).toNat x0_2.size)).size) = true := decide_eq_true (by omega)
                  clear c25
                  simp only [Option.some.injEq, Prod.mk.injEq] at H
                  obtain ⟨rfl, rfl⟩ := H
                  have hcz26_0 : wc.cell? ⟨gb248, 0, none⟩ = some (.int .i64 ((rd_T43 l1 x18_2).f0)) := (blk_cell BK248.out 0).trans rfl
                  have hcz26_1 : wc.cell? ⟨gb248, 1, none⟩ = some (.int .i64 ((rd_T43 l1 x18_2).f1)) := (blk_cell BK248.out 1).trans rfl
                  have hcz26_2 : wc.cell? ⟨gb248, 2, none⟩ = some (.string ((rd_T43 l1 x18_2).f2)) := (blk_cell BK248.out 2).trans rfl
                  have hfz26_0 := blk_frozen BK248.out 0
                  have hfz26_1 := blk_frozen BK248.out 1
                  have hfz26_2 := blk_frozen BK248.out 2
                  go_wp2
                  repeat (go_quiet (fail); try go_wp2)
                  go_ret2
                  exact ⟨by first | rfl | (simp [errW_none, errW_some] <;> rfl) | (simp [*, errW_none, errW_some] <;> rfl), by repeat (first | (with_reducible first | exact HB.out | apply below_alloc | apply pw_below_drewN | apply below_drew1 | refine below_set ?_ GE248.out) | exact HB.out)⟩
                 ·rw [if_neg c25] at H
                  try (have c25b3 := c25; simp [*, -c25, -H] at c25b3)
                  try (have c25b4 := eq_false (Nat.not_lt.2 c25b3))
                  have c25b0 : decide (120 < ((((x0_2.extract 0 (((rd_T43 l1 x18_2).f1) : Int).toNat) ++ ((rd_T43 l1 x18_2).f2)) ++ (x0_2.extract (((rd_T43 l1 x18_2).f1) : Int).toNat x0_2.size)).size : Int)) = false := decide_eq_false c25
                  have c25b1 : decide (120 < (((x0_2.extract 0 (((rd_T43 l1 x18_2).f1) : Int).toNat) ++ ((rd_T43 l1 x18_2).f2)) ++ (x0_2.extract (((rd_T43 l1 x18_2).f1) : Int).toNat x0_2.size)).size) = false := decide_eq_false (by omega)
                  clear c25
                  have H' := Aside0.mk H
                  clear H
                  have hcz27_0 : wc.cell? ⟨gb248, 0, none⟩ = some (.int .i64 ((rd_T43 l1 x18_2).f0)) := (blk_cell BK248.out 0).trans rfl
                  have hcz27_1 : wc.cell? ⟨gb248, 1, none⟩ = some (.int .i64 ((rd_T43 l1 x18_2).f1)) := (blk_cell BK248.out 1).trans rfl
                  have hcz27_2 : wc.cell? ⟨gb248, 2, none⟩ = some (.string ((rd_T43 l1 x18_2).f2)) := (blk_cell BK248.out 2).trans rfl
                  have hfz27_0 := blk_frozen BK248.out 0
                  have hfz27_1 := blk_frozen BK248.out 1
                  have hfz27_2 := blk_frozen BK248.out 2
                  go_wp2
                  repeat (go_quiet (fail); try go_wp2)
                  go_roundg kj8
                  case measure => have := HJ2.out; have := HK2.out; have := HJ8.out; omega
                  case rel => exact ⟨(((x0_2.extract 0 (((rd_T43 l1 x18_2).f1) : Int).toNat) ++ ((rd_T43 l1 x18_2).f2)) ++ (x0_2.extract (((rd_T43 l1 x18_2).f1) : Int).toNat x0_2.size)), (wrap64 (x18_2 + 1)), (by first | rfl | (simp; done) | (simp [*]; done)), (by first | rfl | (simp; done) | (simp [*]; done)), H', ⟨by have := HJ2.out; have := HK2.out; have := HJ8.out; omega⟩, ⟨by repeat (first | (with_reducible first | exact HB.out | apply below_alloc | apply pw_below_drewN | apply below_drew1 | refine below_set ?_ GE248.out) | exact HB.out)⟩⟩
                ·rw [if_neg c24] at H
                 try (have c24b3 := c24; simp [*, -c24, -H] at c24b3)
                 try (have c24b4 := eq_false (Nat.not_lt.2 c24b3))
                 exact absurd H (by simp)
               ·rw [if_neg c21] at H
                try (have c21b3 := c21; simp [*, -c21, -H] at c21b3)
                try (have c21b4 := eq_false (Nat.not_lt.2 c21b3))
                exact absurd H (by simp)
              ·rw [if_neg c20] at H
               exact absurd H (by simp)
             ·rw [if_neg c19] at H
              exact absurd H (by simp)
            ·rw [if_neg c18] at H
             have c18b0 : (((rd_T43 l1 x18_2).f0) == 1) = false := beq_eq_false_iff_ne.mpr c18
             have c18b1 : (((rd_T43 l1 x18_2).f0) != 1) = true := bne_iff_ne.mpr c18
             by_cases c28 : ((rd_T43 l1 x18_2).f0) = 2
             ·rw [if_pos c28] at H
              have c28b0 : (((rd_T43 l1 x18_2).f0) == 2) = true := beq_iff_eq.mpr c28
              have c28b1 : (((rd_T43 l1 x18_2).f0) != 2) = false := bne_eq_false_iff_eq.mpr c28
              clear c28
              by_cases c29 : 0 ≤ ((rd_T43 l1 x18_2).f1)
              ·rw [if_pos c29] at H
               have c29b0 := eq_true c29
               have c29b1 : decide (0 ≤ ((rd_T43 l1 x18_2).f1)) = true := decide_eq_true c29
               clear c29
               by_cases c30 : ((rd_T43 l1 x18_2).f1) ≤ (x0_2.size : Int)
               ·rw [if_pos c30] at H
                have c30b0 := eq_true c30
                have c30b1 : decide (((rd_T43 l1 x18_2).f1) ≤ (x0_2.size : Int)) = true := decide_eq_true c30
                clear c30
                replace H := Option.bind_eq_some_iff.mp H
                obtain ⟨t249, A310, H⟩ := H
                replace H : (if t249 = true then (if 0 ≤ (wrap64 (((rd_T43 l1 x18_2).f1) + (((rd_T43 l1 x18_2).f2).size : Int))) then (if (wrap64 (((rd_T43 l1 x18_2).f1) + (((rd_T43 l1 x18_2).f2).size : Int))) ≤ (x0_2.size : Int) then (if (x0_2.extract 0 (((rd_T43 l1 x18_2).f1) : Int).toNat).size + (x0_2.extract ((wrap64 (((rd_T43 l1 x18_2).f1) + (((rd_T43 l1 x18_2).f2).size : Int))) : Int).toNat x0_2.size).size ≤ 9223372036854775807 then (if (((x0_2.extract 0 (((rd_T43 l1 x18_2).f1) : Int).toNat) ++ (x0_2.extract ((wrap64 (((rd_T43 l1 x18_2).f1) + (((rd_T43 l1 x18_2).f2).size : Int))) : Int).toNat x0_2.size)).size : Int) > 120 then (some ((⟨#[]⟩ : ByteArray), false)) else (impl_ApplyScript.l0 kj8 ((x0_2.extract 0 (((rd_T43 l1 x18_2).f1) : Int).toNat) ++ (x0_2.extract ((wrap64 (((rd_T43 l1 x18_2).f1) + (((rd_T43 l1 x18_2).f2).size : Int))) : Int).toNat x0_2.size)) l1 (l1.length : Int) (wrap64 (x18_2 + 1)))) else (none)) else (none)) else (none)) else (some ((⟨#[]⟩ : ByteArray), false))) = some (r1, r2) := H
                have A31 := Aside0.mk A310
                clear A310
                by_cases c32 : t249 = true
                ·subst c32
                 have H1 : (if 0 ≤ (wrap64 (((rd_T43 l1 x18_2).f1) + (((rd_T43 l1 x18_2).f2).size : Int))) then (if (wrap64 (((rd_T43 l1 x18_2).f1) + (((rd_T43 l1 x18_2).f2).size : Int))) ≤ (x0_2.size : Int) then (if (x0_2.extract 0 (((rd_T43 l1 x18_2).f1) : Int).toNat).size + (x0_2.extract ((wrap64 (((rd_T43 l1 x18_2).f1) + (((rd_T43 l1 x18_2).f2).size : Int))) : Int).toNat x0_2.size).size ≤ 9223372036854775807 then (if (((x0_2.extract 0 (((rd_T43 l1 x18_2).f1) : Int).toNat) ++ (x0_2.extract ((wrap64 (((rd_T43 l1 x18_2).f1) + (((rd_T43 l1 x18_2).f2).size : Int))) : Int).toNat x0_2.size)).size : Int) > 120 then (some ((⟨#[]⟩ : ByteArray), false)) else (impl_ApplyScript.l0 kj8 ((x0_2.extract 0 (((rd_T43 l1 x18_2).f1) : Int).toNat) ++ (x0_2.extract ((wrap64 (((rd_T43 l1 x18_2).f1) + (((rd_T43 l1 x18_2).f2).size : Int))) : Int).toNat x0_2.size)) l1 (l1.length : Int) (wrap64 (x18_2 + 1)))) else (none)) else (none)) else (none)) = some (r1, r2) := by rw [if_pos rfl] at H; exact H
                 clear H
                 have H := H1
                 clear H1
                 have c33b0 := eq_true (of_decide_eq_true (by first | (with_reducible assumption) | assumption) : 0 ≤ ((rd_T43 l1 x18_2).f1))
                 have c34b0 := eq_true (of_decide_eq_true (by first | (with_reducible assumption) | assumption) : ((rd_T43 l1 x18_2).f1) ≤ (x0_2.size : Int))
                 obtain ⟨ji35, hji35⟩ : ∃ j_ : Int, (wrap64 (((rd_T43 l1 x18_2).f1) + (((rd_T43 l1 x18_2).f2).size : Int))) = j_ := ⟨_, rfl⟩
                 replace H : (if 0 ≤ (ji35) then (if (ji35) ≤ (x0_2.size : Int) then (if (x0_2.extract 0 (((rd_T43 l1 x18_2).f1) : Int).toNat).size + (x0_2.extract ((ji35) : Int).toNat x0_2.size).size ≤ 9223372036854775807 then (if (((x0_2.extract 0 (((rd_T43 l1 x18_2).f1) : Int).toNat) ++ (x0_2.extract ((ji35) : Int).toNat x0_2.size)).size : Int) > 120 then (some ((⟨#[]⟩ : ByteArray), false)) else (impl_ApplyScript.l0 kj8 ((x0_2.extract 0 (((rd_T43 l1 x18_2).f1) : Int).toNat) ++ (x0_2.extract ((ji35) : Int).toNat x0_2.size)) l1 (l1.length : Int) (wrap64 (x18_2 + 1)))) else (none)) else (none)) else (none)) = some (r1, r2) := by first | (rw [hji35] at H; exact H) | (simp only [hji35] at H ⊢; exact H)
                 (try rw [hji35] at A31)
                 have hji35w : (IntKind.i64.wrap (((rd_T43 l1 x18_2).f1) + (((rd_T43 l1 x18_2).f2).size : Int))) = ji35 := (i64_w _).trans hji35
                 by_cases c36 : 0 ≤ (ji35)
                 ·rw [if_pos c36] at H
                  have c36b0 := eq_true c36
                  have c36b1 : decide (0 ≤ (ji35)) = true := decide_eq_true c36
                  clear c36
                  by_cases c37 : (ji35) ≤ (x0_2.size : Int)
                  ·rw [if_pos c37] at H
                   have c37b0 := eq_true c37
                   have c37b1 : decide ((ji35) ≤ (x0_2.size : Int)) = true := decide_eq_true c37
                   clear c37
                   by_cases c38 : (x0_2.extract 0 (((rd_T43 l1 x18_2).f1) : Int).toNat).size + (x0_2.extract ((ji35) : Int).toNat x0_2.size).size ≤ 9223372036854775807
                   ·rw [if_pos c38] at H
                    try (have c38b3 := c38; simp [*, -c38, -H] at c38b3)
                    try (have c38b4 := eq_false (Nat.not_lt.2 c38b3))
                    have c38b0 := eq_true c38
                    have c38b1 : decide ((x0_2.extract 0 (((rd_T43 l1 x18_2).f1) : Int).toNat).size + (x0_2.extract ((ji35) : Int).toNat x0_2.size).size ≤ 9223372036854775807) = true := decide_eq_true c38
                    try have c38b2 : (9223372036854775807 < (x0_2.extract 0 (((rd_T43 l1 x18_2).f1) : Int).toNat).size + (x0_2.extract ((ji35) : Int).toNat x0_2.size).size) = False := eq_false (Nat.not_lt.2 c38)
                    by_cases c39 : (((x0_2.extract 0 (((rd_T43 l1 x18_2).f1) : Int).toNat) ++ (x0_2.extract ((ji35) : Int).toNat x0_2.size)).size : Int) > 120
                    ·rw [if_pos c39] at H
                     try (have c39b3 := c39; simp [*, -c39, -H] at c39b3)
                     try (have c39b4 := eq_false (Nat.not_lt.2 c39b3))
                     have c39b0 : decide (120 < (((x0_2.extract 0 (((rd_T43 l1 x18_2).f1) : Int).toNat) ++ (x0_2.extract ((ji35) : Int).toNat x0_2.size)).size : Int)) = true := decide_eq_true c39
                     have c39b1 : decide (120 < ((x0_2.extract 0 (((rd_T43 l1 x18_2).f1) : Int).toNat) ++ (x0_2.extract ((ji35) : Int).toNat x0_2.size)).size) = true := decide_eq_true (by omega)
                     clear c39
                     simp only [Option.some.injEq, Prod.mk.injEq] at H
                     obtain ⟨rfl, rfl⟩ := H
                     have hcz40_0 : wc.cell? ⟨gb248, 0, none⟩ = some (.int .i64 ((rd_T43 l1 x18_2).f0)) := (blk_cell BK248.out 0).trans rfl
                     have hcz40_1 : wc.cell? ⟨gb248, 1, none⟩ = some (.int .i64 ((rd_T43 l1 x18_2).f1)) := (blk_cell BK248.out 1).trans rfl
                     have hcz40_2 : wc.cell? ⟨gb248, 2, none⟩ = some (.string ((rd_T43 l1 x18_2).f2)) := (blk_cell BK248.out 2).trans rfl
                     have hfz40_0 := blk_frozen BK248.out 0
                     have hfz40_1 := blk_frozen BK248.out 1
                     have hfz40_2 := blk_frozen BK248.out 2
                     go_wp2_with (first | (go_at_call 46; (with_reducible refine (strings_HasPrefix.calls (x0_2.extract (((rd_T43 l1 x18_2).f1) : Int).toNat x0_2.size) ((rd_T43 l1 x18_2).f2) true _ A31.out).mono ?_); rintro e w' ⟨rfl, ⟨nd, rfl⟩⟩; (try first | exact ⟨rfl, _, World.drewN_drewN _ _ _⟩ | exact ⟨rfl, _, Eq.trans (World.drewN_drewN _ _ _) (congrArg (World.drewN _) (Nat.add_assoc _ _ _))⟩)))
                     repeat (go_quiet (first | (go_at_call 46; (with_reducible refine (strings_HasPrefix.calls (x0_2.extract (((rd_T43 l1 x18_2).f1) : Int).toNat x0_2.size) ((rd_T43 l1 x18_2).f2) true _ A31.out).mono ?_); rintro e w' ⟨rfl, ⟨nd, rfl⟩⟩; (try first | exact ⟨rfl, _, World.drewN_drewN _ _ _⟩ | exact ⟨rfl, _, Eq.trans (World.drewN_drewN _ _ _) (congrArg (World.drewN _) (Nat.add_assoc _ _ _))⟩))); try go_wp2_with (first | (go_at_call 46; (with_reducible refine (strings_HasPrefix.calls (x0_2.extract (((rd_T43 l1 x18_2).f1) : Int).toNat x0_2.size) ((rd_T43 l1 x18_2).f2) true _ A31.out).mono ?_); rintro e w' ⟨rfl, ⟨nd, rfl⟩⟩; (try first | exact ⟨rfl, _, World.drewN_drewN _ _ _⟩ | exact ⟨rfl, _, Eq.trans (World.drewN_drewN _ _ _) (congrArg (World.drewN _) (Nat.add_assoc _ _ _))⟩))))
                     go_ret2
                     exact ⟨by first | rfl | (simp [errW_none, errW_some] <;> rfl) | (simp only [← hji35]; first | rfl | (simp [errW_none, errW_some] <;> rfl)) | (simp [*, errW_none, errW_some] <;> rfl), by repeat (first | (with_reducible first | exact HB.out | apply below_alloc | apply pw_below_drewN | apply below_drew1 | refine below_set ?_ GE248.out) | exact HB.out)⟩
                    ·rw [if_neg c39] at H
                     try (have c39b3 := c39; simp [*, -c39, -H] at c39b3)
                     try (have c39b4 := eq_false (Nat.not_lt.2 c39b3))
                     have c39b0 : decide (120 < (((x0_2.extract 0 (((rd_T43 l1 x18_2).f1) : Int).toNat) ++ (x0_2.extract ((ji35) : Int).toNat x0_2.size)).size : Int)) = false := decide_eq_false c39
                     have c39b1 : decide (120 < ((x0_2.extract 0 (((rd_T43 l1 x18_2).f1) : Int).toNat) ++ (x0_2.extract ((ji35) : Int).toNat x0_2.size)).size) = false := decide_eq_false (by omega)
                     clear c39
                     have H' := Aside0.mk H
                     clear H
                     have hcz41_0 : wc.cell? ⟨gb248, 0, none⟩ = some (.int .i64 ((rd_T43 l1 x18_2).f0)) := (blk_cell BK248.out 0).trans rfl
                     have hcz41_1 : wc.cell? ⟨gb248, 1, none⟩ = some (.int .i64 ((rd_T43 l1 x18_2).f1)) := (blk_cell BK248.out 1).trans rfl
                     have hcz41_2 : wc.cell? ⟨gb248, 2, none⟩ = some (.string ((rd_T43 l1 x18_2).f2)) := (blk_cell BK248.out 2).trans rfl
                     have hfz41_0 := blk_frozen BK248.out 0
                     have hfz41_1 := blk_frozen BK248.out 1
                     have hfz41_2 := blk_frozen BK248.out 2
                     go_wp2_with (first | (go_at_call 46; (with_reducible refine (strings_HasPrefix.calls (x0_2.extract (((rd_T43 l1 x18_2).f1) : Int).toNat x0_2.size) ((rd_T43 l1 x18_2).f2) true _ A31.out).mono ?_); rintro e w' ⟨rfl, ⟨nd, rfl⟩⟩; (try first | exact ⟨rfl, _, World.drewN_drewN _ _ _⟩ | exact ⟨rfl, _, Eq.trans (World.drewN_drewN _ _ _) (congrArg (World.drewN _) (Nat.add_assoc _ _ _))⟩)))
                     repeat (go_quiet (first | (go_at_call 46; (with_reducible refine (strings_HasPrefix.calls (x0_2.extract (((rd_T43 l1 x18_2).f1) : Int).toNat x0_2.size) ((rd_T43 l1 x18_2).f2) true _ A31.out).mono ?_); rintro e w' ⟨rfl, ⟨nd, rfl⟩⟩; (try first | exact ⟨rfl, _, World.drewN_drewN _ _ _⟩ | exact ⟨rfl, _, Eq.trans (World.drewN_drewN _ _ _) (congrArg (World.drewN _) (Nat.add_assoc _ _ _))⟩))); try go_wp2_with (first | (go_at_call 46; (with_reducible refine (strings_HasPrefix.calls (x0_2.extract (((rd_T43 l1 x18_2).f1) : Int).toNat x0_2.size) ((rd_T43 l1 x18_2).f2) true _ A31.out).mono ?_); rintro e w' ⟨rfl, ⟨nd, rfl⟩⟩; (try first | exact ⟨rfl, _, World.drewN_drewN _ _ _⟩ | exact ⟨rfl, _, Eq.trans (World.drewN_drewN _ _ _) (congrArg (World.drewN _) (Nat.add_assoc _ _ _))⟩))))
                     go_roundg kj8
                     case measure => have := HJ2.out; have := HK2.out; have := HJ8.out; omega
                     case rel => exact ⟨((x0_2.extract 0 (((rd_T43 l1 x18_2).f1) : Int).toNat) ++ (x0_2.extract ((ji35) : Int).toNat x0_2.size)), (wrap64 (x18_2 + 1)), (by first | rfl | (simp; done) | (simp only [← hji35] <;> (first | rfl | simp)) | (simp [*]; done)), (by first | rfl | (simp; done) | (simp [*]; done)), H', ⟨by have := HJ2.out; have := HK2.out; have := HJ8.out; omega⟩, ⟨by repeat (first | (with_reducible first | exact HB.out | apply below_alloc | apply pw_below_drewN | apply below_drew1 | refine below_set ?_ GE248.out) | exact HB.out)⟩⟩
                   ·rw [if_neg c38] at H
                    try (have c38b3 := c38; simp [*, -c38, -H] at c38b3)
                    try (have c38b4 := eq_false (Nat.not_lt.2 c38b3))
                    exact absurd H (by simp)
                  ·rw [if_neg c37] at H
                   exact absurd H (by simp)
                 ·rw [if_neg c36] at H
                  exact absurd H (by simp)
                ·replace c32 := Bool.eq_false_iff.mpr c32
                 subst c32
                 have H1 : (some ((⟨#[]⟩ : ByteArray), false)) = some (r1, r2) := by rw [if_neg (show ¬ (false = true) by decide)] at H; exact H
                 clear H
                 have H := H1
                 clear H1
                 simp only [Option.some.injEq, Prod.mk.injEq] at H
                 obtain ⟨rfl, rfl⟩ := H
                 have hcz42_0 : wc.cell? ⟨gb248, 0, none⟩ = some (.int .i64 ((rd_T43 l1 x18_2).f0)) := (blk_cell BK248.out 0).trans rfl
                 have hcz42_1 : wc.cell? ⟨gb248, 1, none⟩ = some (.int .i64 ((rd_T43 l1 x18_2).f1)) := (blk_cell BK248.out 1).trans rfl
                 have hcz42_2 : wc.cell? ⟨gb248, 2, none⟩ = some (.string ((rd_T43 l1 x18_2).f2)) := (blk_cell BK248.out 2).trans rfl
                 have hfz42_0 := blk_frozen BK248.out 0
                 have hfz42_1 := blk_frozen BK248.out 1
                 have hfz42_2 := blk_frozen BK248.out 2
                 go_wp2_with (first | (go_at_call 46; (with_reducible refine (strings_HasPrefix.calls (x0_2.extract (((rd_T43 l1 x18_2).f1) : Int).toNat x0_2.size) ((rd_T43 l1 x18_2).f2) false _ A31.out).mono ?_); rintro e w' ⟨rfl, ⟨nd, rfl⟩⟩; (try first | exact ⟨rfl, _, World.drewN_drewN _ _ _⟩ | exact ⟨rfl, _, Eq.trans (World.drewN_drewN _ _ _) (congrArg (World.drewN _) (Nat.add_assoc _ _ _))⟩)))
                 repeat (go_quiet (first | (go_at_call 46; (with_reducible refine (strings_HasPrefix.calls (x0_2.extract (((rd_T43 l1 x18_2).f1) : Int).toNat x0_2.size) ((rd_T43 l1 x18_2).f2) false _ A31.out).mono ?_); rintro e w' ⟨rfl, ⟨nd, rfl⟩⟩; (try first | exact ⟨rfl, _, World.drewN_drewN _ _ _⟩ | exact ⟨rfl, _, Eq.trans (World.drewN_drewN _ _ _) (congrArg (World.drewN _) (Nat.add_assoc _ _ _))⟩))); try go_wp2_with (first | (go_at_call 46; (with_reducible refine (strings_HasPrefix.calls (x0_2.extract (((rd_T43 l1 x18_2).f1) : Int).toNat x0_2.size) ((rd_T43 l1 x18_2).f2) false _ A31.out).mono ?_); rintro e w' ⟨rfl, ⟨nd, rfl⟩⟩; (try first | exact ⟨rfl, _, World.drewN_drewN _ _ _⟩ | exact ⟨rfl, _, Eq.trans (World.drewN_drewN _ _ _) (congrArg (World.drewN _) (Nat.add_assoc _ _ _))⟩))))
                 go_ret2
                 exact ⟨by first | rfl | (simp [errW_none, errW_some] <;> rfl) | (simp [*, errW_none, errW_some] <;> rfl), by repeat (first | (with_reducible first | exact HB.out | apply below_alloc | apply pw_below_drewN | apply below_drew1 | refine below_set ?_ GE248.out) | exact HB.out)⟩
               ·rw [if_neg c30] at H
                exact absurd H (by simp)
              ·rw [if_neg c29] at H
               exact absurd H (by simp)
             ·rw [if_neg c28] at H
              have c28b0 : (((rd_T43 l1 x18_2).f0) == 2) = false := beq_eq_false_iff_ne.mpr c28
              have c28b1 : (((rd_T43 l1 x18_2).f0) != 2) = true := bne_iff_ne.mpr c28
              simp only [Option.some.injEq, Prod.mk.injEq] at H
              obtain ⟨rfl, rfl⟩ := H
              have hcz43_0 : wc.cell? ⟨gb248, 0, none⟩ = some (.int .i64 ((rd_T43 l1 x18_2).f0)) := (blk_cell BK248.out 0).trans rfl
              have hcz43_1 : wc.cell? ⟨gb248, 1, none⟩ = some (.int .i64 ((rd_T43 l1 x18_2).f1)) := (blk_cell BK248.out 1).trans rfl
              have hcz43_2 : wc.cell? ⟨gb248, 2, none⟩ = some (.string ((rd_T43 l1 x18_2).f2)) := (blk_cell BK248.out 2).trans rfl
              have hfz43_0 := blk_frozen BK248.out 0
              have hfz43_1 := blk_frozen BK248.out 1
              have hfz43_2 := blk_frozen BK248.out 2
              go_wp2
              repeat (go_quiet (fail); try go_wp2)
              go_ret2
              exact ⟨by first | rfl | (simp [errW_none, errW_some] <;> rfl) | (simp [*, errW_none, errW_some] <;> rfl), by repeat (first | (with_reducible first | exact HB.out | apply below_alloc | apply pw_below_drewN | apply below_drew1 | refine below_set ?_ GE248.out) | exact HB.out)⟩
        ·rw [if_neg c8] at H
         exact absurd H (by simp)
       ·rw [if_neg c7] at H
        exact absurd H (by simp)
      ·rw [if_neg c6] at H
       have c6b0 : decide (x18_2 < (l1.length : Int)) = false := decide_eq_false c6
       clear c6
       simp only [Option.some.injEq, Prod.mk.injEq] at H
       obtain ⟨rfl, rfl⟩ := H
       go_wp2
       repeat (go_quiet (fail); try go_wp2)
       go_ret2
       exact ⟨by first | rfl | (simp [errW_none, errW_some] <;> rfl) | (simp [*, errW_none, errW_some] <;> rfl), by repeat (first | (with_reducible first | exact HB.out | apply below_alloc | apply pw_below_drewN | apply below_drew1) | exact HB.out)⟩

end Go.Proofs.Ytnlfmbdnleclfaa.Q
