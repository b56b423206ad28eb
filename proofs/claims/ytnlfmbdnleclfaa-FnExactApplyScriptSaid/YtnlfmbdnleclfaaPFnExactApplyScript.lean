import Derived.Test.YtnlfmbdnleclfaaWB
import Derived.Test.YtnlfmbdnleclfaaQ0
import Derived.Test.YtnlfmbdnleclfaaQ12
import Derived.Test.YtnlfmbdnleclfaaQ14
import Derived.Test.YtnlfmbdnleclfaaQ15
import Derived.Test.YtnlfmbdnleclfaaQ26
import Derived.Test.YtnlfmbdnleclfaaQ27
import Derived.Test.YtnlfmbdnleclfaaQ28
import Derived.Test.YtnlfmbdnleclfaaQ29
import Derived.Test.YtnlfmbdnleclfaaQ30
import Derived.Test.YtnlfmbdnleclfaaQ31
import Derived.Test.YtnlfmbdnleclfaaQ32
import Derived.Test.YtnlfmbdnleclfaaQ8
import Derived.Test.YtnlfmbdnleclfaaQ9
set_option linter.unusedVariables false
set_option linter.unusedSimpArgs false
set_option linter.unusedSectionVars false
namespace Go.Proofs.Ytnlfmbdnleclfaa.Q
open Go.RowKit Go.Proofs.YtnlfmbdnleclfaaW.PrintWords Go.Proofs.YtnlfmbdnleclfaaW.PrintLast Go.Proofs.YtnlfmbdnleclfaaW.PrintMore
theorem Ev.pos {α : Type} {c : Prop} [Decidable c] {A B : Nat → Option α} {r : α} (h : c) (e : Ev A r) : Ev (fun k => if c then A k else B k) r := by
  obtain ⟨K, e⟩ := e
  exact ⟨K, fun k hk => by simp only [if_pos h]; exact e k hk⟩
theorem Ev.neg {α : Type} {c : Prop} [Decidable c] {A B : Nat → Option α} {r : α} (h : ¬ c) (e : Ev B r) : Ev (fun k => if c then A k else B k) r := by
  obtain ⟨K, e⟩ := e
  exact ⟨K, fun k hk => by simp only [if_neg h]; exact e k hk⟩
theorem Ev.bindv {α β : Type} {g : Option α} {f : Nat → α → Option β} {a : α} {r : β} (h : g = some a) (k : Ev (fun n => f n a) r) : Ev (fun n => g.bind (f n)) r := by
  subst h; exact k
theorem w64 {n : Int} (h0 : -9223372036854775808 ≤ n) (h1 : n ≤ 9223372036854775807) : wrap64 n = n := by unfold wrap64; omega
theorem Ev.eqr {α : Type} {A : Nat → Option α} {r r' : α} (h : Ev A r') (e : r' = r) : Ev A r := e ▸ h
abbrev by_ (a : ByteArray) : List UInt8 := a.data.toList
theorem by_len (a : ByteArray) : (by_ a).length = a.size := data_length a
theorem toList_by (a : ByteArray) : a.toList = by_ a := ByteArray.toList_eq a
theorem by_append (a b : ByteArray) : by_ (a ++ b) = by_ a ++ by_ b := by simp [by_]
theorem by_extract (a : ByteArray) (i j : Nat) : by_ (a.extract i j) = ((by_ a).take j).drop i := by
  simp [by_, ByteArray.data_extract, Array.toList_extract, List.drop_take]
theorem by_take (a : ByteArray) (j : Nat) : by_ (a.extract 0 j) = (by_ a).take j := by rw [by_extract]; rfl
def mkb (l : List UInt8) : ByteArray := ⟨l.toArray⟩
theorem by_mkb (l : List UInt8) : by_ (mkb l) = l := rfl
theorem mkb_size (l : List UInt8) : (mkb l).size = l.length := by rw [← by_len, by_mkb]
theorem eq_mkb {a : ByteArray} {l : List UInt8} (h : by_ a = l) : a = mkb l := by rw [← h]; rfl

def apL (s : List UInt8) (e : S43) : Option (List UInt8) :=
  if e.f2.size = 0 ∨ e.f1 < 0 ∨ e.f1 > s.length then none
  else if e.f0 = 1 then some (s.take e.f1.toNat ++ by_ e.f2 ++ s.drop e.f1.toNat)
  else if e.f0 = 2 then (if (s.drop e.f1.toNat).take e.f2.size = by_ e.f2 then some (s.take e.f1.toNat ++ s.drop (e.f1.toNat + e.f2.size)) else none)
  else none
def run : List UInt8 → List S43 → Option (List UInt8)
  | s, [] => some s
  | s, e :: es => (apL s e).bind fun x => if x.length > 120 then none else run x es
def apS (s : List UInt8) (es : List S43) : Option (List UInt8) := if s.length > 120 ∨ es.length > 120 then none else run s es
def ans : Option (List UInt8) → ByteArray × Bool
  | some l => (mkb l, true)
  | none => (⟨#[]⟩, false)
theorem toList_nil (a : ByteArray) : (a.toList = ([] : List UInt8)) ↔ a.size = 0 := by
  rw [toList_by, ← by_len]; exact List.length_eq_zero_iff.symm
theorem beq_nil (a : ByteArray) : (a.toList == ([] : List UInt8)) = decide (a.size = 0) := by
  rw [Bool.eq_iff_iff, beq_iff_eq, decide_eq_true_iff]; exact toList_nil a
theorem spec_applyEdit_ev (a : ByteArray) (x y : Int) (t : ByteArray) (ha : a.size ≤ 1099511627776) (ht : t.size ≤ 1099511627776) :
    Ev (fun k => spec_applyEdit.f k a x y t) (ans (apL (by_ a) ⟨x, y, t⟩)) := by
  have hr : spec_inRange.f y 0 (a.size : Int) = some (decide (0 ≤ y ∧ y ≤ a.size)) := by
    unfold spec_inRange.f
    by_cases h : 0 ≤ y
    · rw [if_pos h]; congr 1; rw [decide_eq_decide]; omega
    · rw [if_neg (by omega)]; congr 1; simp; omega
  have bad : (t.size = 0 ∨ y < 0 ∨ y > (a.size : Int)) → ∀ b, b = true → Ev (fun k => spec_applyEdit.j0 k a b x y t) (ans (apL (by_ a) ⟨x, y, t⟩)) := by
    intro h b hb
    subst hb
    refine Ev.step (fun k => by rw [spec_applyEdit.j0]) (Ev.pos rfl (Ev.eqr (Ev.now _) ?_))
    unfold apL
    rw [if_pos (by rw [by_len]; exact h)]; rfl
  unfold spec_applyEdit.f
  refine Ev.bindv hr ?_
  by_cases h1 : 0 ≤ y ∧ y ≤ a.size
  · refine Ev.pos (decide_eq_true h1) ?_
    rw [beq_nil]
    by_cases h2 : t.size = 0
    · exact bad (.inl h2) _ (decide_eq_true h2)
    rw [decide_eq_false h2]
    obtain ⟨n, rfl⟩ := Int.eq_ofNat_of_zero_le h1.1
    have z1 : (a.extract 0 n).size = n := by rw [ByteArray.size_extract]; omega
    have z2 : (a.extract n a.size).size = a.size - n := by rw [ByteArray.size_extract]; omega
    have d2 : by_ (a.extract n a.size) = (by_ a).drop n := by rw [by_extract, List.take_of_length_le (by rw [by_len]; omega)]
    have e0 : apL (by_ a) ⟨x, n, t⟩ = (if x = 1 then some ((by_ a).take n ++ by_ t ++ (by_ a).drop n)
        else if x = 2 then (if ((by_ a).drop n).take t.size = by_ t then some ((by_ a).take n ++ (by_ a).drop (n + t.size)) else none) else none) := by
      unfold apL
      rw [if_neg (by rw [by_len]; dsimp only; omega)]; dsimp only; rw [Int.toNat_natCast]
    rw [e0]
    refine Ev.step (fun k => by rw [spec_applyEdit.j0]) (Ev.neg (by simp) ?_)
    rw [Int.toNat_natCast]
    by_cases hx : x = 1
    · refine Ev.pos hx (Ev.pos (by omega) (Ev.pos (by omega) (Ev.pos (by omega) (Ev.pos (by rw [ByteArray.size_append]; omega) (Ev.eqr (Ev.now _) ?_)))))
      rw [if_pos hx]
      refine Prod.ext (eq_mkb ?_) rfl
      rw [by_append, by_append, by_take, d2]
    refine Ev.neg hx ?_
    rw [if_neg hx]
    by_cases hx2 : x = 2
    · refine Ev.pos hx2 ?_
      rw [if_pos hx2, w64 (n := (a.size : Int) - (n : Int)) (by omega) (by omega), w64 (n := (n : Int) + (t.size : Int)) (by omega) (by omega), show (n : Int) + (t.size : Int) = ((n + t.size : Nat) : Int) by omega, Int.toNat_natCast]
      by_cases hs : n + t.size ≤ a.size
      · have d3 : by_ (a.extract n (n + t.size)) = ((by_ a).drop n).take t.size := by rw [by_extract, List.take_drop, Nat.add_comm]
        have z3 : (a.extract (n + t.size) a.size).size = a.size - (n + t.size) := by rw [ByteArray.size_extract]; omega
        have d4 : by_ (a.extract (n + t.size) a.size) = (by_ a).drop (n + t.size) := by rw [by_extract, List.take_of_length_le (by rw [by_len]; omega)]
        refine Ev.pos (by omega) (Ev.pos (by omega) (Ev.pos (by omega) (Ev.pos (by omega) ?_)))
        rw [toList_by, toList_by, d3]
        by_cases hq : ((by_ a).drop n).take t.size = by_ t
        · refine Ev.pos hq (Ev.pos (by omega) (Ev.pos (by omega) (Ev.pos (by omega) (Ev.eqr (Ev.now _) ?_))))
          rw [if_pos hq]
          refine Prod.ext (eq_mkb ?_) rfl
          rw [by_append, by_take, d4]
        · refine Ev.neg hq (Ev.eqr (Ev.now _) ?_)
          rw [if_neg hq]; rfl
      · refine Ev.neg (by omega) (Ev.eqr (Ev.now _) ?_)
        rw [if_neg]
        · rfl
        · intro h
          have := congrArg List.length h
          rw [List.length_take, List.length_drop, by_len, by_len] at this
          omega
    · refine Ev.neg hx2 (Ev.eqr (Ev.now _) ?_)
      rw [if_neg hx2]; rfl
  · rw [decide_eq_false h1]
    exact Ev.neg (by simp) (bad (by omega) _ rfl)
def short (es : List S43) : Prop := ∀ e ∈ es, e.f2.size ≤ 1099511627776
theorem rdT_get (es : List S43) (i : Nat) (h : i < es.length) : rd_T43 es (i : Int) = es[i] := by
  unfold rd_T43 List.getD; rw [Int.toNat_natCast, List.getElem?_eq_getElem h]; rfl
theorem succ64 (i : Nat) (h : i ≤ 4611686018427387904) : wrap64 ((i : Int) + 1) = ((i + 1 : Nat) : Int) := by rw [w64 (by omega) (by omega)]; rfl
theorem spec_run_ev (es : List S43) (hes : es.length ≤ 120) (hsh : short es) : ∀ (d i : Nat) (a : ByteArray), i + d = es.length → a.size ≤ 1099511627776 →
    Ev (fun k => spec_ApplyScript.l0 k a es (i : Int)) (ans (if a.size > 120 then none else run (by_ a) (es.drop i))) := by
  intro d
  induction d with
  | zero =>
    intro i a hi ha
    refine Ev.step (fun k => by rw [spec_ApplyScript.l0]) (Ev.neg (by omega) ?_)
    rw [List.drop_of_length_le (by omega)]
    by_cases h : a.size > 120
    · refine Ev.pos (by omega) (Ev.eqr (Ev.now _) ?_); rw [if_pos h]; rfl
    · refine Ev.neg (by omega) (Ev.eqr (Ev.now _) ?_); rw [if_neg h]; rfl
  | succ d ih =>
    intro i a hi ha
    have hi' : i < es.length := by omega
    refine Ev.step (fun k => by rw [spec_ApplyScript.l0]) (Ev.pos (by omega) (Ev.pos (by omega) ?_))
    have ht := hsh es[i] (List.getElem_mem hi')
    rw [rdT_get es i hi', succ64 i (by omega), List.drop_eq_getElem_cons hi']
    generalize es[i] = e at *
    refine Ev.bind (spec_applyEdit_ev a e.f0 e.f1 e.f2 ha ht) ?_
    have hee : (⟨e.f0, e.f1, e.f2⟩ : S43) = e := rfl
    rw [hee]
    unfold run
    cases hx : apL (by_ a) e with
    | none =>
      refine Ev.neg (by simp [ans]) (Ev.eqr (Ev.now _) ?_)
      split <;> rfl
    | some x =>
      refine Ev.pos rfl ?_
      by_cases h : a.size > 120
      · refine Ev.pos (by omega) (Ev.eqr (Ev.now _) ?_); rw [if_pos h]; rfl
      refine Ev.neg (by omega) ?_
      rw [if_neg h]
      simp only [ans, mkb_size, Option.bind_some]
      by_cases h' : x.length > 120
      · refine Ev.pos (by omega) (Ev.eqr (Ev.now _) ?_); rw [if_pos h']
      refine Ev.neg (by omega) ?_
      rw [if_neg h']
      have := ih (i + 1) (mkb x) (by omega) (by rw [mkb_size]; omega)
      rw [mkb_size, if_neg h', by_mkb] at this
      exact this
theorem spec_apply_ev (a : ByteArray) (es : List S43) (ha : a.size ≤ 1099511627776) (hsh : short es) : Ev (fun k => spec_ApplyScript.f k a es) (ans (apS (by_ a) es)) := by
  unfold spec_ApplyScript.f
  by_cases h : es.length > 120
  · refine Ev.pos (by omega) (Ev.eqr (Ev.now _) ?_)
    unfold apS; rw [if_pos (.inr h)]; rfl
  · refine Ev.neg (by omega) ?_
    have := spec_run_ev es (by omega) hsh es.length 0 a (by omega) ha
    refine Ev.eqr this ?_
    unfold apS
    rw [by_len, List.drop_zero]
    by_cases h2 : a.size > 120
    · rw [if_pos h2, if_pos (.inl h2)]
    · rw [if_neg h2, if_neg (by omega)]
theorem hasPrefix_ev (a b : ByteArray) : strings_HasPrefix.f a b = some (decide ((by_ a).take b.size = by_ b)) := by
  unfold strings_HasPrefix.f stringslite_HasPrefix.f
  by_cases h : (a.size : Int) ≥ (b.size : Int)
  · rw [if_pos h, if_pos (by omega), if_pos (by omega), Int.toNat_natCast, toList_by, toList_by, by_take]
    simp only [Option.bind_some]
    congr 1
    rw [Bool.eq_iff_iff, beq_iff_eq, decide_eq_true_iff]
  · rw [if_neg h]
    simp only [Option.bind_some]
    congr 1
    symm
    rw [decide_eq_false_iff_not]
    intro he
    have := congrArg List.length he
    rw [List.length_take, by_len, by_len] at this
    omega
theorem impl_run_ev (es : List S43) (hes : es.length ≤ 120) (hsh : short es) : ∀ (d i : Nat) (a : ByteArray), i + d = es.length → a.size ≤ 120 →
    Ev (fun k => impl_ApplyScript.l0 k a es (es.length : Int) (i : Int)) (ans (run (by_ a) (es.drop i))) := by
  intro d
  induction d with
  | zero =>
    intro i a hi ha
    refine Ev.step (fun k => by rw [impl_ApplyScript.l0]) (Ev.neg (by omega) ?_)
    rw [List.drop_of_length_le (by omega)]
    exact Ev.now _
  | succ d ih =>
    intro i a hi ha
    have hi' : i < es.length := by omega
    refine Ev.step (fun k => by rw [impl_ApplyScript.l0]) (Ev.pos (by omega) (Ev.pos (by omega) (Ev.pos (by omega) ?_)))
    have ht := hsh es[i] (List.getElem_mem hi')
    rw [rdT_get es i hi', List.drop_eq_getElem_cons hi']
    generalize es[i] = e at *
    unfold run
    have bad : (e.f2.size = 0 ∨ e.f1 < 0 ∨ e.f1 > (a.size : Int)) → ∀ b, b = true → Ev (fun k => impl_ApplyScript.j2 k a es (es.length : Int) (i : Int) b e.f0 e.f1 e.f2) (ans ((apL (by_ a) e).bind fun x => if x.length > 120 then none else run x (es.drop (i + 1)))) := by
      intro h b hb
      subst hb
      refine Ev.step (fun k => by rw [impl_ApplyScript.j2]) (Ev.pos rfl (Ev.eqr (Ev.now _) ?_))
      unfold apL
      rw [if_pos (by rw [by_len]; exact h)]; rfl
    by_cases h0 : e.f2.size = 0
    · exact Ev.pos ((toList_nil _).2 h0) (bad (.inl h0) _ rfl)
    refine Ev.neg (fun h => h0 ((toList_nil _).1 h)) ?_
    by_cases h1 : e.f1 < 0
    · exact Ev.pos h1 (bad (.inr (.inl h1)) _ rfl)
    refine Ev.neg h1 ?_
    by_cases h2 : e.f1 > (a.size : Int)
    · exact bad (.inr (.inr h2)) _ (decide_eq_true h2)
    rw [decide_eq_false h2]
    obtain ⟨n, hn⟩ := Int.eq_ofNat_of_zero_le (show 0 ≤ e.f1 by omega)
    rw [hn] at h1 h2 ⊢
    have z1 : (a.extract 0 n).size = n := by rw [ByteArray.size_extract]; omega
    have z2 : (a.extract n a.size).size = a.size - n := by rw [ByteArray.size_extract]; omega
    have d2 : by_ (a.extract n a.size) = (by_ a).drop n := by rw [by_extract, List.take_of_length_le (by rw [by_len]; omega)]
    have e0 : apL (by_ a) e = (if e.f0 = 1 then some ((by_ a).take n ++ by_ e.f2 ++ (by_ a).drop n)
        else if e.f0 = 2 then (if ((by_ a).drop n).take e.f2.size = by_ e.f2 then some ((by_ a).take n ++ (by_ a).drop (n + e.f2.size)) else none) else none) := by
      unfold apL
      rw [if_neg (by rw [by_len]; omega)]; rw [hn, Int.toNat_natCast]
    rw [e0]
    have next : ∀ (c : ByteArray) (l : List UInt8), by_ c = l → Ev (fun k => if (c.size : Int) > 120 then some ((⟨#[]⟩ : ByteArray), false) else impl_ApplyScript.l0 k c es (es.length : Int) (wrap64 ((i : Int) + 1)))
        (ans ((some l).bind fun x => if x.length > 120 then none else run x (es.drop (i + 1)))) := by
      intro c l hc
      rw [succ64 i (by omega)]
      simp only [Option.bind_some]
      have hcl : c.size = l.length := by rw [← by_len, hc]
      by_cases h : l.length > 120
      · refine Ev.pos (by omega) (Ev.eqr (Ev.now _) ?_); rw [if_pos h]; rfl
      · refine Ev.neg (by omega) ?_
        rw [if_neg h, ← hc]
        exact ih (i + 1) c (by omega) (by omega)
    refine Ev.step (fun k => by rw [impl_ApplyScript.j2]) (Ev.neg (by simp) ?_)
    rw [Int.toNat_natCast]
    by_cases hx : e.f0 = 1
    · refine Ev.pos hx (Ev.pos (by omega) (Ev.pos (by omega) (Ev.pos (by omega) (Ev.pos (by rw [ByteArray.size_append]; omega) ?_))))
      rw [if_pos hx]
      exact next _ _ (by rw [by_append, by_append, by_take, d2])
    refine Ev.neg hx ?_
    rw [if_neg hx]
    by_cases hx2 : e.f0 = 2
    · refine Ev.pos hx2 (Ev.pos (by omega) (Ev.pos (by omega) (Ev.bindv (hasPrefix_ev _ _) ?_)))
      rw [if_pos hx2, w64 (n := (n : Int) + (e.f2.size : Int)) (by omega) (by omega), show (n : Int) + (e.f2.size : Int) = ((n + e.f2.size : Nat) : Int) by omega, Int.toNat_natCast, d2]
      by_cases hq : ((by_ a).drop n).take e.f2.size = by_ e.f2
      · have hl := congrArg List.length hq
        rw [List.length_take, List.length_drop, by_len, by_len] at hl
        have z3 : (a.extract (n + e.f2.size) a.size).size = a.size - (n + e.f2.size) := by rw [ByteArray.size_extract]; omega
        have d4 : by_ (a.extract (n + e.f2.size) a.size) = (by_ a).drop (n + e.f2.size) := by rw [by_extract, List.take_of_length_le (by rw [by_len]; omega)]
        refine Ev.pos (decide_eq_true hq) (Ev.pos (by omega) (Ev.pos (by omega) (Ev.pos (by omega) ?_)))
        rw [if_pos hq]
        exact next _ _ (by rw [by_append, by_take, d4])
      · refine Ev.neg (by simpa using hq) (Ev.eqr (Ev.now _) ?_)
        rw [if_neg hq]; rfl
    · refine Ev.neg hx2 (Ev.eqr (Ev.now _) ?_)
      rw [if_neg hx2]; rfl
theorem impl_apply_ev (a : ByteArray) (es : List S43) (hsh : short es) : Ev (fun k => impl_ApplyScript.f k a es) (ans (apS (by_ a) es)) := by
  have bad : (a.size > 120 ∨ es.length > 120) → ∀ b, b = true → Ev (fun k => impl_ApplyScript.j0 k a es b) (ans (apS (by_ a) es)) := by
    intro h b hb
    subst hb
    refine Ev.step (fun k => by rw [impl_ApplyScript.j0]) (Ev.pos rfl (Ev.eqr (Ev.now _) ?_))
    unfold apS; rw [if_pos (by rw [by_len]; exact h)]; rfl
  unfold impl_ApplyScript.f
  by_cases h : a.size > 120
  · exact Ev.pos (by omega) (bad (.inl h) _ rfl)
  refine Ev.neg (by omega) ?_
  by_cases h2 : es.length > 120
  · exact bad (.inr h2) _ (decide_eq_true (by omega))
  rw [decide_eq_false (by omega)]
  refine Ev.step (fun k => by rw [impl_ApplyScript.j0]) (Ev.neg (by simp) ?_)
  have := impl_run_ev es (by omega) hsh es.length 0 a (by omega) (by omega)
  refine Ev.eqr this ?_
  unfold apS
  rw [by_len, List.drop_zero, if_neg (by omega)]
def cost (es : List S43) : Nat := (es.map fun e => e.f2.size).sum
theorem size_le_cost {es : List S43} {e : S43} (h : e ∈ es) : e.f2.size ≤ cost es := by
  induction es with
  | nil => cases h
  | cons f es ih =>
    rw [show cost (f :: es) = f.f2.size + cost es from rfl]
    rcases List.mem_cons.1 h with rfl | h
    · omega
    · have := ih h; omega
theorem eqEditS_refl (es : List S43) (hl : es.length ≤ 1048576) : Ev (fun n => laws_eqEditS.f n es es) true := by
  have go : ∀ (d i : Nat), i + d = es.length → Ev (fun n => laws_eqEditS.l0 n es es (i : Int)) true := by
    intro d
    induction d with
    | zero => intro i hi; exact Ev.step (fun k => by rw [laws_eqEditS.l0]) (Ev.neg (by omega) (Ev.now _))
    | succ d ih =>
      intro i hi
      refine Ev.step (fun k => by rw [laws_eqEditS.l0]) (Ev.pos (by omega) (Ev.pos (by omega) (Ev.pos (by omega) (Ev.bindv (a := true) (by unfold laws_eqEdit.f; rw [if_pos rfl, if_pos rfl, if_pos rfl]) (Ev.pos rfl ?_)))))
      rw [succ64 i (by omega)]
      exact ih (i + 1) (by omega)
  unfold laws_eqEditS.f
  exact Ev.pos rfl (go es.length 0 (by omega))

def conv (es : List S50) : List S43 := es.map fun e => ⟨e.f0, e.f1, e.f2⟩
def cost50 (es : List S50) : Nat := (es.map fun e => e.f2.size).sum
theorem conv_cost (es : List S50) : cost (conv es) = cost50 es := by simp only [cost, conv, cost50, List.map_map]; rfl
theorem rd50_get (es : List S50) (i : Nat) (h : i < es.length) : rd_T50 es (i : Int) = es[i] := by
  unfold rd_T50 List.getD; rw [Int.toNat_natCast, List.getElem?_eq_getElem h]; rfl
theorem toEditS_ev (es : List S50) (hl : es.length ≤ 1048576) : Ev (fun n => laws_toEditS.f n es) (conv es) := by
  have go : ∀ (d i : Nat) (T : List S43), i + d = es.length → T.length = es.length → T.take i = (conv es).take i → Ev (fun n => laws_toEditS.l0 n es T (i : Int)) (conv es) := by
    intro d
    induction d with
    | zero =>
      intro i T hi hT hp
      refine Ev.step (fun k => by rw [laws_toEditS.l0]) (Ev.neg (by omega) (Ev.eqr (Ev.now _) ?_))
      rw [List.take_of_length_le (by omega), List.take_of_length_le (by simp [conv]; omega)] at hp
      exact hp
    | succ d ih =>
      intro i T hi hT hp
      have hi' : i < es.length := by omega
      refine Ev.step (fun k => by rw [laws_toEditS.l0]) (Ev.pos (by omega) (Ev.pos (by omega) ?_))
      rw [rd50_get es i hi']
      refine Ev.bindv rfl (Ev.pos (by omega) ?_)
      rw [succ64 i (by omega), Int.toNat_natCast]
      refine ih (i + 1) _ (by omega) (by simpa using hT) ?_
      rw [List.take_succ_eq_append_getElem (by simpa [hT] using hi'), List.take_succ_eq_append_getElem (by simpa [conv] using hi'), List.take_set_of_le (Nat.le_refl _), hp]
      simp [conv]
  unfold laws_toEditS.f
  refine Ev.pos (by omega) (Ev.pos (by omega) ?_)
  exact go es.length 0 _ (by omega) (by simp) (by simp)
theorem szEditS_ev (es : List S50) (hl : es.length ≤ 9223372036854775807) (hs : ∀ e ∈ es, e.f2.size ≤ 9223372036854775807) :
    ∃ r, Ev (fun n => laws_szEditS.f n es 1048576) r ∧ (¬ r < 0 → es.length ≤ 1048576 ∧ cost50 es ≤ 1048576) := by
  have go : es.length ≤ 1048576 → ∀ (d i : Nat) (x : Nat), i + d = es.length → x ≤ 1048576 → ∃ r, Ev (fun n => laws_szEditS.l0 n es (x : Int) (i : Int)) r ∧ (¬ r < 0 → cost50 (es.drop i) ≤ x) := by
    intro hlen d
    induction d with
    | zero =>
      intro i x hi hx
      refine ⟨x, Ev.step (fun k => by rw [laws_szEditS.l0]) (Ev.neg (by omega) (Ev.now _)), fun _ => ?_⟩
      rw [List.drop_of_length_le (by omega)]; simp [cost50]
    | succ d ih =>
      intro i x hi hx
      have hi' : i < es.length := by omega
      have hsi := hs es[i] (List.getElem_mem hi')
      rw [List.drop_eq_getElem_cons hi', show cost50 (es[i] :: es.drop (i + 1)) = es[i].f2.size + cost50 (es.drop (i + 1)) from rfl]
      have hw : wrap64 ((x : Int) - (es[i].f2.size : Int)) = (x : Int) - (es[i].f2.size : Int) := w64 (by omega) (by omega)
      by_cases c : es[i].f2.size ≤ x
      · obtain ⟨r, e, h⟩ := ih (i + 1) (x - es[i].f2.size) (by omega) (by omega)
        refine ⟨r, Ev.step (fun k => by rw [laws_szEditS.l0]) (Ev.pos (by omega) (Ev.pos (by omega) ?_)), fun hr => by have := h hr; omega⟩
        rw [rd50_get es i hi']
        refine Ev.bindv (a := ((x - es[i].f2.size : Nat) : Int)) (by unfold laws_szEdit.f; rw [hw, if_neg (by omega)]; congr 1; omega) (Ev.neg (by omega) ?_)
        rw [succ64 i (by omega)]; exact e
      · refine ⟨-1, Ev.step (fun k => by rw [laws_szEditS.l0]) (Ev.pos (by omega) (Ev.pos (by omega) ?_)), fun h => absurd (by omega) h⟩
        rw [rd50_get es i hi']
        exact Ev.bindv (a := -1) (by unfold laws_szEdit.f; rw [hw, if_pos (by omega)]) (Ev.pos (by omega) (Ev.now _))
  unfold laws_szEditS.f
  rw [w64 (n := (1048576 : Int) - (es.length : Int)) (by omega) (by omega)]
  by_cases c : es.length ≤ 1048576
  · obtain ⟨r, e, h⟩ := go c es.length 0 (1048576 - es.length) (by omega) (by omega)
    refine ⟨r, Ev.neg (by omega) ?_, fun hr => ⟨c, by have := h hr; rw [List.drop_zero] at this; omega⟩⟩
    rw [show (1048576 : Int) - (es.length : Int) = ((1048576 - es.length : Nat) : Int) by omega]; exact e
  · exact ⟨-1, Ev.pos (by omega) (Ev.now _), fun h => absurd (by omega) h⟩
theorem conv_len (es : List S50) : (conv es).length = es.length := by simp [conv]
theorem conv_small {es : List S50} (h : cost50 es ≤ 1048576) : short (conv es) := by
  intro e he
  have := size_le_cost he
  rw [conv_cost] at this
  omega

def Pure_ExactApplyScript : Prop := ∀ (a : ByteArray), a.size ≤ 9223372036854775807 → ∀ (es : List S50), es.length ≤ 9223372036854775807 → (∀ e ∈ es, (Lit.int .i64 e.f0).wf = true ∧ (Lit.int .i64 e.f1).wf = true ∧ e.f2.size ≤ maxLen) → ∃ k, laws_FnExactApplyScript.f k a es = some true
theorem pure_ExactApplyScript : Pure_ExactApplyScript := by
  intro a ha es hl hs
  obtain ⟨r, er, hr⟩ := szEditS_ev es hl fun e he => (hs e he).2.2
  refine Ev.rounds ?_
  unfold laws_FnExactApplyScript.f
  by_cases c0 : (a.size : Int) > 1048576
  · exact Ev.pos c0 (Ev.now _)
  refine Ev.neg c0 (Ev.bind er ?_)
  by_cases c : r < 0
  · exact Ev.pos c (Ev.now _)
  obtain ⟨h1, h2⟩ := hr c
  have hl' : (conv es).length ≤ 1048576 := by rw [conv_len]; exact h1
  refine Ev.neg c (Ev.bind (toEditS_ev es h1) (Ev.bind (spec_apply_ev a _ (by omega) (conv_small h2)) (Ev.bind (toEditS_ev es h1) (Ev.bind (impl_apply_ev a _ (conv_small h2)) (Ev.pos rfl ?_)))))
  refine Ev.step (fun k => by rw [laws_FnExactApplyScript.j0]) (Ev.neg (by simp) ?_)
  exact Ev.bind (toEditS_ev es h1) (Ev.bind (eqEditS_refl _ hl') (Ev.pos rfl (Ev.now _)))
end Go.Proofs.Ytnlfmbdnleclfaa.Q
