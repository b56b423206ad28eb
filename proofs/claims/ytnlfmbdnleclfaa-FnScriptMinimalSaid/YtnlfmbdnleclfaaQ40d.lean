import Derived.Test.YtnlfmbdnleclfaaQ0
import Derived.Test.YtnlfmbdnleclfaaQ5
namespace Go.Proofs.Ytnlfmbdnleclfaa.Q
open Go.RowKit Go.Proofs.YtnlfmbdnleclfaaW.PrintWords Go.Proofs.YtnlfmbdnleclfaaW.PrintLast Go.Proofs.YtnlfmbdnleclfaaW.PrintMore
attribute [local go_sem] max2_int min2_int max_two min_two max_three min_three max_four min_four
set_option linter.unusedVariables false
set_option linter.unusedSimpArgs false

/-! ### impl_EditScript: function 33 -/
mutual
def impl_EditScript.j0 : Nat → ByteArray → ByteArray → Bool → Option ((List (S43)))
 | 0, _, _, _ => none
 | k + 1, x0, x1, x17 => if x17 = true then (some ([] : List (S43))) else ((impl_commonTable.f k x0 x1).bind fun t343 => (impl_EditScript.l0 k x0 x1 t343 (([] : List (S43))) 0 0))
def impl_EditScript.l0 : Nat → ByteArray → ByteArray → List (List Int) → List (S43) → Int → Int → Option ((List (S43)))
 | 0, _, _, _, _, _, _ => none
 | k + 1, x0, x1, x5, x6, x7, x8 => if x7 < (x0.size : Int) then (impl_EditScript.j2 k x0 x1 x5 x6 x7 x8 true) else (impl_EditScript.j2 k x0 x1 x5 x6 x7 x8 (decide (x8 < (x1.size : Int))))
def impl_EditScript.j2 : Nat → ByteArray → ByteArray → List (List Int) → List (S43) → Int → Int → Bool → Option ((List (S43)))
 | 0, _, _, _, _, _, _, _ => none
 | k + 1, x0, x1, x5, x6, x7, x8, x31 => if x31 = true then (if x7 < (x0.size : Int) then (if x8 < (x1.size : Int) then (if 0 ≤ x7 then (if 0 ≤ x8 then (impl_EditScript.j3 k x0 x1 x5 x6 x7 x8 (wrap64 ((x6.length : Int) - 1)) ((bt x0 x7) == (bt x1 x8))) else (none)) else (none)) else (impl_EditScript.j3 k x0 x1 x5 x6 x7 x8 (wrap64 ((x6.length : Int) - 1)) false)) else (impl_EditScript.j3 k x0 x1 x5 x6 x7 x8 (wrap64 ((x6.length : Int) - 1)) false)) else (some x6)
def impl_EditScript.j3 : Nat → ByteArray → ByteArray → List (List Int) → List (S43) → Int → Int → Int → Bool → Option ((List (S43)))
 | 0, _, _, _, _, _, _, _, _ => none
 | k + 1, x0, x1, x5, x6, x7, x8, x9, x86 => if x86 = true then (impl_EditScript.l0 k x0 x1 x5 x6 (wrap64 (x7 + 1)) (wrap64 (x8 + 1))) else (if x7 < (x0.size : Int) then (if x8 = (x1.size : Int) then (impl_EditScript.j4 k x0 x1 x5 x6 x7 x8 x9 true) else (if 0 ≤ (wrap64 (x7 + 1)) then (if (wrap64 (x7 + 1)) < (x5.length : Int) then (if 0 ≤ x8 then (if x8 < ((rd_L1 x5 (wrap64 (x7 + 1))).length : Int) then (if 0 ≤ x7 then (if x7 < (x5.length : Int) then (if 0 ≤ (wrap64 (x8 + 1)) then (if (wrap64 (x8 + 1)) < ((rd_L1 x5 x7).length : Int) then (impl_EditScript.j4 k x0 x1 x5 x6 x7 x8 x9 (decide ((rd (rd_L1 x5 (wrap64 (x7 + 1))) x8) ≥ (rd (rd_L1 x5 x7) (wrap64 (x8 + 1)))))) else (none)) else (none)) else (none)) else (none)) else (none)) else (none)) else (none)) else (none))) else (impl_EditScript.j4 k x0 x1 x5 x6 x7 x8 x9 false))
def impl_EditScript.j4 : Nat → ByteArray → ByteArray → List (List Int) → List (S43) → Int → Int → Int → Bool → Option ((List (S43)))
 | 0, _, _, _, _, _, _, _, _ => none
 | k + 1, x0, x1, x5, x6, x7, x8, x9, x110 => if x110 = true then (if x9 ≥ 0 then (if 0 ≤ x9 then (if x9 < (x6.length : Int) then (if ((rd_T43 x6 x9).f0) = 2 then (if ((rd_T43 x6 x9).f1) = x8 then (if 0 ≤ x7 then (if x7 ≤ (wrap64 (x7 + 1)) then (if (wrap64 (x7 + 1)) ≤ (x0.size : Int) then (if ((rd_T43 x6 x9).f2).size + (x0.extract (x7 : Int).toNat ((wrap64 (x7 + 1)) : Int).toNat).size ≤ 9223372036854775807 then (impl_EditScript.l0 k x0 x1 x5 (x6.set (x9 : Int).toNat (⟨(rd_T43 x6 x9).f0, (rd_T43 x6 x9).f1, ((rd_T43 x6 x9).f2) ++ (x0.extract (x7 : Int).toNat ((wrap64 (x7 + 1)) : Int).toNat)⟩ : S43)) (wrap64 (x7 + 1)) x8) else (none)) else (none)) else (none)) else (none)) else (if 0 ≤ x7 then (if x7 ≤ (wrap64 (x7 + 1)) then (if (wrap64 (x7 + 1)) ≤ (x0.size : Int) then (if x6.length < 4398046511104 then (impl_EditScript.l0 k x0 x1 x5 (x6 ++ [(⟨2, x8, x0.extract (x7 : Int).toNat ((wrap64 (x7 + 1)) : Int).toNat⟩ : S43)]) (wrap64 (x7 + 1)) x8) else (none)) else (none)) else (none)) else (none))) else (if 0 ≤ x7 then (if x7 ≤ (wrap64 (x7 + 1)) then (if (wrap64 (x7 + 1)) ≤ (x0.size : Int) then (if x6.length < 4398046511104 then (impl_EditScript.l0 k x0 x1 x5 (x6 ++ [(⟨2, x8, x0.extract (x7 : Int).toNat ((wrap64 (x7 + 1)) : Int).toNat⟩ : S43)]) (wrap64 (x7 + 1)) x8) else (none)) else (none)) else (none)) else (none))) else (none)) else (none)) else (if 0 ≤ x7 then (if x7 ≤ (wrap64 (x7 + 1)) then (if (wrap64 (x7 + 1)) ≤ (x0.size : Int) then (if x6.length < 4398046511104 then (impl_EditScript.l0 k x0 x1 x5 (x6 ++ [(⟨2, x8, x0.extract (x7 : Int).toNat ((wrap64 (x7 + 1)) : Int).toNat⟩ : S43)]) (wrap64 (x7 + 1)) x8) else (none)) else (none)) else (none)) else (none))) else (if x9 ≥ 0 then (if 0 ≤ x9 then (if x9 < (x6.length : Int) then (if ((rd_T43 x6 x9).f0) = 1 then (if (wrap64 (((rd_T43 x6 x9).f1) + (((rd_T43 x6 x9).f2).size : Int))) = x8 then (if 0 ≤ x8 then (if x8 ≤ (wrap64 (x8 + 1)) then (if (wrap64 (x8 + 1)) ≤ (x1.size : Int) then (if ((rd_T43 x6 x9).f2).size + (x1.extract (x8 : Int).toNat ((wrap64 (x8 + 1)) : Int).toNat).size ≤ 9223372036854775807 then (impl_EditScript.l0 k x0 x1 x5 (x6.set (x9 : Int).toNat (⟨(rd_T43 x6 x9).f0, (rd_T43 x6 x9).f1, ((rd_T43 x6 x9).f2) ++ (x1.extract (x8 : Int).toNat ((wrap64 (x8 + 1)) : Int).toNat)⟩ : S43)) x7 (wrap64 (x8 + 1))) else (none)) else (none)) else (none)) else (none)) else (if 0 ≤ x8 then (if x8 ≤ (wrap64 (x8 + 1)) then (if (wrap64 (x8 + 1)) ≤ (x1.size : Int) then (if x6.length < 4398046511104 then (impl_EditScript.l0 k x0 x1 x5 (x6 ++ [(⟨1, x8, x1.extract (x8 : Int).toNat ((wrap64 (x8 + 1)) : Int).toNat⟩ : S43)]) x7 (wrap64 (x8 + 1))) else (none)) else (none)) else (none)) else (none))) else (if 0 ≤ x8 then (if x8 ≤ (wrap64 (x8 + 1)) then (if (wrap64 (x8 + 1)) ≤ (x1.size : Int) then (if x6.length < 4398046511104 then (impl_EditScript.l0 k x0 x1 x5 (x6 ++ [(⟨1, x8, x1.extract (x8 : Int).toNat ((wrap64 (x8 + 1)) : Int).toNat⟩ : S43)]) x7 (wrap64 (x8 + 1))) else (none)) else (none)) else (none)) else (none))) else (none)) else (none)) else (if 0 ≤ x8 then (if x8 ≤ (wrap64 (x8 + 1)) then (if (wrap64 (x8 + 1)) ≤ (x1.size : Int) then (if x6.length < 4398046511104 then (impl_EditScript.l0 k x0 x1 x5 (x6 ++ [(⟨1, x8, x1.extract (x8 : Int).toNat ((wrap64 (x8 + 1)) : Int).toNat⟩ : S43)]) x7 (wrap64 (x8 + 1))) else (none)) else (none)) else (none)) else (none)))
end
def impl_EditScript.f (k : Nat) (a0 : ByteArray) (a1 : ByteArray) : Option ((List (S43))) := if (a0.size : Int) > 60 then (impl_EditScript.j0 k a0 a1 true) else (impl_EditScript.j0 k a0 a1 (decide ((a1.size : Int) > 60)))
theorem impl_EditScript.mono_l : ∀ k, (∀ y0 y1 y2, LeO (impl_EditScript.j0 k y0 y1 y2) (impl_EditScript.j0 (k + 1) y0 y1 y2)) ∧ (∀ y0 y1 y2 y3 y4 y5, LeO (impl_EditScript.l0 k y0 y1 y2 y3 y4 y5) (impl_EditScript.l0 (k + 1) y0 y1 y2 y3 y4 y5)) ∧ (∀ y0 y1 y2 y3 y4 y5 y6, LeO (impl_EditScript.j2 k y0 y1 y2 y3 y4 y5 y6) (impl_EditScript.j2 (k + 1) y0 y1 y2 y3 y4 y5 y6)) ∧ (∀ y0 y1 y2 y3 y4 y5 y6 y7, LeO (impl_EditScript.j3 k y0 y1 y2 y3 y4 y5 y6 y7) (impl_EditScript.j3 (k + 1) y0 y1 y2 y3 y4 y5 y6 y7)) ∧ (∀ y0 y1 y2 y3 y4 y5 y6 y7, LeO (impl_EditScript.j4 k y0 y1 y2 y3 y4 y5 y6 y7) (impl_EditScript.j4 (k + 1) y0 y1 y2 y3 y4 y5 y6 y7))
 | 0 => ⟨fun _ _ _ r h => by simp [impl_EditScript.j0] at h, fun _ _ _ _ _ _ r h => by simp [impl_EditScript.l0] at h, fun _ _ _ _ _ _ _ r h => by simp [impl_EditScript.j2] at h, fun _ _ _ _ _ _ _ _ r h => by simp [impl_EditScript.j3] at h, fun _ _ _ _ _ _ _ _ r h => by simp [impl_EditScript.j4] at h⟩
 | k + 1 => by
  obtain ⟨ih0, ih1, ih2, ih3, ih4⟩ := impl_EditScript.mono_l k
  refine ⟨?_, ?_, ?_, ?_, ?_⟩
  ·intro y0 y1 y2
   unfold impl_EditScript.j0
   repeat' first
   | (with_reducible exact ih0 _ _ _)
   | (with_reducible exact ih1 _ _ _ _ _ _)
   | (with_reducible exact ih2 _ _ _ _ _ _ _)
   | (with_reducible exact ih3 _ _ _ _ _ _ _ _)
   | (with_reducible exact ih4 _ _ _ _ _ _ _ _)
   | (with_reducible exact impl_commonTable.mono _ _ _)
   | (with_reducible exact LeO.refl _)
   | (with_reducible exact LeO.none _)
   | (with_reducible refine LeO.ite ?_ ?_)
   | (with_reducible refine LeO.bind ?_ (fun _ => ?_))
   | exact ih0 _ _ _
   | exact ih1 _ _ _ _ _ _
   | exact ih2 _ _ _ _ _ _ _
   | exact ih3 _ _ _ _ _ _ _ _
   | exact ih4 _ _ _ _ _ _ _ _
   | exact impl_commonTable.mono _ _ _
   | exact LeO.none _
   | refine LeO.ite ?_ ?_
   | refine LeO.bind ?_ (fun _ => ?_)
  ·intro y0 y1 y2 y3 y4 y5
   unfold impl_EditScript.l0
   repeat' first
   | (with_reducible exact ih0 _ _ _)
   | (with_reducible exact ih1 _ _ _ _ _ _)
   | (with_reducible exact ih2 _ _ _ _ _ _ _)
   | (with_reducible exact ih3 _ _ _ _ _ _ _ _)
   | (with_reducible exact ih4 _ _ _ _ _ _ _ _)
   | (with_reducible exact impl_commonTable.mono _ _ _)
   | (with_reducible exact LeO.refl _)
   | (with_reducible exact LeO.none _)
   | (with_reducible refine LeO.ite ?_ ?_)
   | (with_reducible refine LeO.bind ?_ (fun _ => ?_))
   | exact ih0 _ _ _
   | exact ih1 _ _ _ _ _ _
   | exact ih2 _ _ _ _ _ _ _
   | exact ih3 _ _ _ _ _ _ _ _
   | exact ih4 _ _ _ _ _ _ _ _
   | exact impl_commonTable.mono _ _ _
   | exact LeO.none _
   | refine LeO.ite ?_ ?_
   | refine LeO.bind ?_ (fun _ => ?_)
  ·intro y0 y1 y2 y3 y4 y5 y6
   unfold impl_EditScript.j2
   repeat' first
   | (with_reducible exact ih0 _ _ _)
   | (with_reducible exact ih1 _ _ _ _ _ _)
   | (with_reducible exact ih2 _ _ _ _ _ _ _)
   | (with_reducible exact ih3 _ _ _ _ _ _ _ _)
   | (with_reducible exact ih4 _ _ _ _ _ _ _ _)
   | (with_reducible exact impl_commonTable.mono _ _ _)
   | (with_reducible exact LeO.refl _)
   | (with_reducible exact LeO.none _)
   | (with_reducible refine LeO.ite ?_ ?_)
   | (with_reducible refine LeO.bind ?_ (fun _ => ?_))
   | exact ih0 _ _ _
   | exact ih1 _ _ _ _ _ _
   | exact ih2 _ _ _ _ _ _ _
   | exact ih3 _ _ _ _ _ _ _ _
   | exact ih4 _ _ _ _ _ _ _ _
   | exact impl_commonTable.mono _ _ _
   | exact LeO.none _
   | refine LeO.ite ?_ ?_
   | refine LeO.bind ?_ (fun _ => ?_)
  ·intro y0 y1 y2 y3 y4 y5 y6 y7
   unfold impl_EditScript.j3
   repeat' first
   | (with_reducible exact ih0 _ _ _)
   | (with_reducible exact ih1 _ _ _ _ _ _)
   | (with_reducible exact ih2 _ _ _ _ _ _ _)
   | (with_reducible exact ih3 _ _ _ _ _ _ _ _)
   | (with_reducible exact ih4 _ _ _ _ _ _ _ _)
   | (with_reducible exact impl_commonTable.mono _ _ _)
   | (with_reducible exact LeO.refl _)
   | (with_reducible exact LeO.none _)
   | (with_reducible refine LeO.ite ?_ ?_)
   | (with_reducible refine LeO.bind ?_ (fun _ => ?_))
   | exact ih0 _ _ _
   | exact ih1 _ _ _ _ _ _
   | exact ih2 _ _ _ _ _ _ _
   | exact ih3 _ _ _ _ _ _ _ _
   | exact ih4 _ _ _ _ _ _ _ _
   | exact impl_commonTable.mono _ _ _
   | exact LeO.none _
   | refine LeO.ite ?_ ?_
   | refine LeO.bind ?_ (fun _ => ?_)
  ·intro y0 y1 y2 y3 y4 y5 y6 y7
   unfold impl_EditScript.j4
   repeat' first
   | (with_reducible exact ih0 _ _ _)
   | (with_reducible exact ih1 _ _ _ _ _ _)
   | (with_reducible exact ih2 _ _ _ _ _ _ _)
   | (with_reducible exact ih3 _ _ _ _ _ _ _ _)
   | (with_reducible exact ih4 _ _ _ _ _ _ _ _)
   | (with_reducible exact impl_commonTable.mono _ _ _)
   | (with_reducible exact LeO.refl _)
   | (with_reducible exact LeO.none _)
   | (with_reducible refine LeO.ite ?_ ?_)
   | (with_reducible refine LeO.bind ?_ (fun _ => ?_))
   | exact ih0 _ _ _
   | exact ih1 _ _ _ _ _ _
   | exact ih2 _ _ _ _ _ _ _
   | exact ih3 _ _ _ _ _ _ _ _
   | exact ih4 _ _ _ _ _ _ _ _
   | exact impl_commonTable.mono _ _ _
   | exact LeO.none _
   | refine LeO.ite ?_ ?_
   | refine LeO.bind ?_ (fun _ => ?_)
theorem impl_EditScript.mono : ∀ a0 a1 k, LeO (impl_EditScript.f k a0 a1) (impl_EditScript.f (k + 1) a0 a1) := by
 intro a0 a1 k
 obtain ⟨ih0, ih1, ih2, ih3, ih4⟩ := impl_EditScript.mono_l k
 unfold impl_EditScript.f
 repeat' first
   | (with_reducible exact ih0 _ _ _)
   | (with_reducible exact ih1 _ _ _ _ _ _)
   | (with_reducible exact ih2 _ _ _ _ _ _ _)
   | (with_reducible exact ih3 _ _ _ _ _ _ _ _)
   | (with_reducible exact ih4 _ _ _ _ _ _ _ _)
   | (with_reducible exact impl_commonTable.mono _ _ _)
   | (with_reducible exact LeO.refl _)
   | (with_reducible exact LeO.none _)
   | (with_reducible refine LeO.ite ?_ ?_)
   | (with_reducible refine LeO.bind ?_ (fun _ => ?_))
   | exact ih0 _ _ _
   | exact ih1 _ _ _ _ _ _
   | exact ih2 _ _ _ _ _ _ _
   | exact ih3 _ _ _ _ _ _ _ _
   | exact ih4 _ _ _ _ _ _ _ _
   | exact impl_commonTable.mono _ _ _
   | exact LeO.none _
   | refine LeO.ite ?_ ?_
   | refine LeO.bind ?_ (fun _ => ?_)
def impl_EditScript.T8 : Bool × List (List Nat × List Nat) := (true, [([], []), ([0], [0]), ([1], [1]), ([2], [2]), ([2], [2]), ([3, 4, 2], [2, 3, 4]), ([5, 2], [2, 5]), ([6, 2], [2, 6]), ([7, 2], [2, 7]), ([2, 8], [2, 8]), ([9, 2], [9]), ([10], [10]), ([10], [10]), ([11, 12, 10], [10, 11, 12]), ([13, 10], [10, 13]), ([14, 10], [10, 14]), ([10], [10]), ([10], [10]), ([16, 17, 10], [10, 16, 17]), ([18, 10], [10, 18]), ([19, 10], [10, 19]), ([20, 10], [10, 20]), ([15, 21, 10], [10, 15, 21]), ([10], [10]), ([22, 23, 10], [10, 22, 23]), ([10, 24], [10, 24])])
def impl_EditScript.B8 : List Nat := [0, 1, 3, 7, 7, 31, 63, 127, 255, 511, 1023, 2047, 2047, 8191, 16383, 32767, 2047, 2047, 198655, 460799, 985087, 2033663, 4194303, 2047, 16777215, 33554431]
theorem impl_EditScript.tab8 : rtab .any (opsOf Try.f33 8) = impl_EditScript.T8 := by kernel_rfl
theorem impl_EditScript.bits8 : waitsOk impl_EditScript.T8.2 impl_EditScript.B8 = true := by kernel_rfl
def impl_EditScript.T9 : Bool × List (List Nat × List Nat) := (true, [([], []), ([], []), ([0, 1], [0, 1]), ([2], [2]), ([3], [3]), ([], []), ([], []), ([], []), ([7], [7]), ([5, 6, 8], [5, 6, 8]), ([4, 9], [4, 9]), ([0, 1, 0, 1, 2, 3, 4, 5, 6, 7, 8, 9, 10], [0, 1]), ([11, 0, 1, 2, 3, 4, 5, 6, 7, 8, 9, 10], [11]), ([12, 10, 0, 1, 2, 3, 4, 5, 6, 7, 8, 9, 10], [10, 12])])
def impl_EditScript.B9 : List Nat := [0, 0, 3, 7, 15, 0, 0, 0, 128, 480, 1023, 2047, 4095, 8191]
theorem impl_EditScript.tab9 : rtab .any (opsOf Try.f33 9) = impl_EditScript.T9 := by kernel_rfl
theorem impl_EditScript.bits9 : waitsOk impl_EditScript.T9.2 impl_EditScript.B9 = true := by kernel_rfl
def impl_EditScript.T12 : Bool × List (List Nat × List Nat) := (true, [([], []), ([], []), ([1], [1]), ([0, 2], [0, 2]), ([3], [3]), ([4], [4]), ([4], [4]), ([6, 4], [4, 6]), ([5, 7, 4], [4, 5, 7]), ([4, 8], [4, 8]), ([9, 4], [9]), ([10], [10]), ([10], [10]), ([11, 12, 10], [10, 11, 12]), ([10], [10]), ([10], [10]), ([14, 15, 10], [10, 14, 15]), ([13, 16, 10], [10, 13, 16]), ([10, 17], [10, 17]), ([18, 10], [18])])
def impl_EditScript.B12 : List Nat := [0, 0, 2, 7, 15, 31, 31, 95, 255, 511, 1023, 2047, 2047, 8191, 2047, 2047, 51199, 131071, 262143, 524287]
theorem impl_EditScript.tab12 : rtab .any (opsOf Try.f33 12) = impl_EditScript.T12 := by kernel_rfl
theorem impl_EditScript.bits12 : waitsOk impl_EditScript.T12.2 impl_EditScript.B12 = true := by kernel_rfl
def impl_EditScript.T15 : Bool × List (List Nat × List Nat) := (true, [([], []), ([], []), ([1], [1]), ([0, 2], [0, 2]), ([3], [3]), ([4], [4]), ([4], [4]), ([6, 4], [4, 6]), ([5, 7, 4], [4, 5, 7]), ([8, 4, 4], [4, 8]), ([9], [9]), ([9], [9]), ([11, 9], [9, 11]), ([10, 12, 9], [9, 10, 12]), ([13, 9], [9, 13]), ([9], [9]), ([14, 15, 9], [9, 14, 15]), ([16, 9], [9, 16]), ([9], [9]), ([9], [9]), ([18, 19, 9], [9, 18, 19]), ([20, 9], [9, 20]), ([9], [9]), ([22, 9], [9, 22]), ([21, 23, 9], [9, 21, 23]), ([24, 9], [9, 24]), ([17, 25, 9], [9, 17, 25]), ([9, 26, 4], [4, 9, 26]), ([4, 27], [4, 27]), ([28, 9], [28])])
def impl_EditScript.B15 : List Nat := [0, 0, 2, 7, 15, 31, 31, 95, 255, 511, 1023, 1023, 3071, 8191, 16383, 1023, 65535, 131071, 1023, 1023, 787455, 1836031, 1023, 4195327, 16516095, 33293311, 67108863, 134217727, 268435455, 536870911]
theorem impl_EditScript.tab15 : rtab .any (opsOf Try.f33 15) = impl_EditScript.T15 := by kernel_rfl
theorem impl_EditScript.bits15 : waitsOk impl_EditScript.T15.2 impl_EditScript.B15 = true := by kernel_rfl
def impl_EditScript.T17 : Bool × List (List Nat × List Nat) := (true, [([], []), ([], []), ([0, 1], [0, 1]), ([2], [2]), ([3], [3]), ([], []), ([], []), ([], []), ([7], [7]), ([5, 6, 8], [5, 6, 8]), ([4, 9], [4, 9]), ([0, 1, 0, 1, 2, 3, 4, 5, 6, 7, 8, 9, 10], [0, 1]), ([11, 0, 1, 2, 3, 4, 5, 6, 7, 8, 9, 10], [11]), ([12, 10, 0, 1, 2, 3, 4, 5, 6, 7, 8, 9, 10], [10, 12])])
def impl_EditScript.B17 : List Nat := [0, 0, 3, 7, 15, 0, 0, 0, 128, 480, 1023, 2047, 4095, 8191]
theorem impl_EditScript.tab17 : rtab .any (opsOf Try.f33 17) = impl_EditScript.T17 := by kernel_rfl
theorem impl_EditScript.bits17 : waitsOk impl_EditScript.T17.2 impl_EditScript.B17 = true := by kernel_rfl
end Go.Proofs.Ytnlfmbdnleclfaa.Q
