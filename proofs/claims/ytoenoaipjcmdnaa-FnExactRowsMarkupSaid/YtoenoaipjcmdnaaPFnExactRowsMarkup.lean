import Derived.Laws.BitsLemmas
import Derived.Lib.IndexLaws
import Derived.Test.YtoenoaipjcmdnaaWB
import Derived.Test.YtoenoaipjcmdnaaQ0
import Derived.Test.YtoenoaipjcmdnaaQ10
import Derived.Test.YtoenoaipjcmdnaaQ11
import Derived.Test.YtoenoaipjcmdnaaQ14
import Derived.Test.YtoenoaipjcmdnaaQ15
import Derived.Test.YtoenoaipjcmdnaaQ16
import Derived.Test.YtoenoaipjcmdnaaQ17
import Derived.Test.YtoenoaipjcmdnaaQ31
import Derived.Test.YtoenoaipjcmdnaaQ32
import Derived.Test.YtoenoaipjcmdnaaQ33
import Derived.Test.YtoenoaipjcmdnaaQ34
import Derived.Test.YtoenoaipjcmdnaaQ35
import Derived.Test.YtoenoaipjcmdnaaQ36
import Derived.Test.YtoenoaipjcmdnaaQ4
import Derived.Test.YtoenoaipjcmdnaaQ5
import Derived.Test.YtoenoaipjcmdnaaQ6
import Derived.Test.YtoenoaipjcmdnaaQ7
import Derived.Test.YtoenoaipjcmdnaaQ8
import Derived.Test.YtoenoaipjcmdnaaQ9
set_option linter.unusedVariables false
set_option linter.unusedSimpArgs false
set_option linter.unusedSectionVars false
namespace Go.Proofs.Ytoenoaipjcmdnaa.Q
open Go.RowKit Go.Proofs.YtoenoaipjcmdnaaW.PrintWords Go.Proofs.YtoenoaipjcmdnaaW.PrintLast Go.Proofs.YtoenoaipjcmdnaaW.PrintMore
theorem Ev.pos {α : Type} {c : Prop} [Decidable c] {A B : Nat → Option α} {r : α} (h : c) (e : Ev A r) : Ev (fun k => if c then A k else B k) r := by
  obtain ⟨K, e⟩ := e
  exact ⟨K, fun k hk => by simp only [if_pos h]; exact e k hk⟩
theorem Ev.neg {α : Type} {c : Prop} [Decidable c] {A B : Nat → Option α} {r : α} (h : ¬ c) (e : Ev B r) : Ev (fun k => if c then A k else B k) r := by
  obtain ⟨K, e⟩ := e
  exact ⟨K, fun k hk => by simp only [if_neg h]; exact e k hk⟩
theorem Ev.bindv {α β : Type} {g : Option α} {f : Nat → α → Option β} {a : α} {r : β} (h : g = some a) (k : Ev (fun n => f n a) r) : Ev (fun n => g.bind (f n)) r := by
  subst h; exact k
theorem w64 {n : Int} (h0 : -9223372036854775808 ≤ n) (h1 : n ≤ 9223372036854775807) : wrap64 n = n := by unfold wrap64; omega
theorem Ev.eqr {α : Type} {A : Nat → Option α} {r r' : α} (h : Ev A r') (e : r' = r) : Ev A r := e ▸ h
abbrev by_ (a : ByteArray) : List UInt8 := a.data.toList
theorem by_len (a : ByteArray) : (by_ a).length = a.size := data_length a
theorem bt_get (a : ByteArray) (i : Nat) (h : i < a.size) : bt a (i : Int) = (((by_ a)[i]'(by rw [by_len]; exact h)).toNat : Int) := by
  unfold bt
  rw [dif_pos (by simpa using h)]
  rfl
theorem rd_nat (xs : List Int) (i : Nat) : rd xs (i : Int) = xs.getD i 0 := by unfold rd; rw [Int.toNat_natCast]
def sch (p k : Int) : Bool := if p = 0 then (if k = 1 then true else if k = 2 then true else k == 3) else if p = 3 then k == 4 else if p = 4 then (if k = 1 then true else k == 3) else false
theorem spec_sch (p k : Int) : spec_schemaAllows.f p k = some (sch p k) := by
  unfold spec_schemaAllows.f sch
  repeat' split
  all_goals rfl
theorem impl_sch (p k : Int) : impl_SchemaAllows.f p k = some (sch p k) := spec_sch p k
theorem sch_kind {p k : Int} (h : sch p k = true) : 1 ≤ k ∧ k ≤ 4 := by
  unfold sch at h
  repeat' split at h
  all_goals (try (simp only [beq_iff_eq] at h)); (try omega); (try (simp at h))
def vr : List Int → List S42 → Bool
  | _, [] => true
  | ch, r :: rs => if r.f2 < 0 then false else if r.f2 > (ch.length : Int) then false else if sch (if r.f2 > 0 then ch.getD (r.f2.toNat - 1) 0 else 0) r.f1 = true then vr (ch.take r.f2.toNat ++ [r.f1]) rs else false
theorem rdT (x : List S42) (i : Nat) : rd_T42 x (i : Int) = x.getD i z42 := by unfold rd_T42; rw [Int.toNat_natCast]
theorem drop_getD {α : Type} (d : α) (x : List α) (i : Nat) (h : i < x.length) : x.drop i = x.getD i d :: x.drop (i + 1) := by
  rw [List.drop_eq_getElem_cons h]
  simp [List.getD, h]
theorem wi {i : Nat} (h : i ≤ 100000000000) : wrap64 ((i : Int) + 1) = ((i + 1 : Nat) : Int) := by rw [w64 (by omega) (by omega)]; rfl
theorem spec_valid (x : List S42) (hn : x.length ≤ 2000000) : ∀ (m i : Nat) (ch : List Int), i + m = x.length → ch.length ≤ i → Ev (fun k => spec_ValidRows.l0 k x ch i) (vr ch (x.drop i)) := by
  intro m
  induction m with
  | zero =>
    intro i ch hi hc
    refine Ev.step (fun k => by rw [spec_ValidRows.l0]) (Ev.neg (by omega) (Ev.eqr (Ev.now _) ?_))
    rw [List.drop_of_length_le (by omega)]; rfl
  | succ m ih =>
    intro i ch hi hc
    rw [drop_getD z42 x i (by omega)]
    refine Ev.step (fun k => by rw [spec_ValidRows.l0]) (Ev.pos (by omega) (Ev.pos (by omega) ?_))
    simp only [rdT]
    generalize x.getD i z42 = r
    unfold vr
    by_cases h0 : r.f2 < 0
    · rw [if_pos h0]
      exact Ev.pos h0 (Ev.step (fun k => by rw [spec_ValidRows.j1]) (Ev.pos rfl (Ev.now _)))
    rw [if_neg h0]
    refine Ev.neg h0 ?_
    by_cases h1 : r.f2 > (ch.length : Int)
    · rw [if_pos h1, decide_eq_true h1]
      exact Ev.step (fun k => by rw [spec_ValidRows.j1]) (Ev.pos rfl (Ev.now _))
    rw [if_neg h1, decide_eq_false h1]
    refine Ev.step (fun k => by rw [spec_ValidRows.j1]) (Ev.neg (by simp) ?_)
    simp only [Option.bind_some, List.nil_append, wi (show i ≤ 100000000000 by omega)]
    have hl : (ch.take r.f2.toNat).length ≤ i := by rw [List.length_take]; omega
    have tail : sch (if r.f2 > 0 then ch.getD (r.f2.toNat - 1) 0 else 0) r.f1 = true → Ev (fun k => spec_ValidRows.l0 k x (ch.take r.f2.toNat ++ [r.f1]) ((i + 1 : Nat) : Int)) (vr (ch.take r.f2.toNat ++ [r.f1]) (x.drop (i + 1))) := fun _ =>
      ih (i + 1) _ (by omega) (by rw [List.length_append, List.length_take, List.length_singleton]; omega)
    by_cases h2 : r.f2 > 0
    · rw [if_pos h2] at tail ⊢
      have ew : wrap64 (r.f2 - 1) = ((r.f2.toNat - 1 : Nat) : Int) := by rw [w64 (by omega) (by omega)]; omega
      refine Ev.pos h2 ?_
      rw [ew]
      refine Ev.pos (by omega) (Ev.pos (by omega) (Ev.bindv (spec_sch _ _) ?_))
      rw [rd_nat]
      by_cases h3 : sch (ch.getD (r.f2.toNat - 1) 0) r.f1 = true
      · rw [if_pos h3]
        refine Ev.pos h3 (Ev.pos (by omega) (Ev.pos (by omega) (Ev.pos ?_ (Ev.pos ?_ (tail h3)))))
        · simp only [List.length_nil]; omega
        · simp only [List.length_singleton]; omega
      · rw [if_neg h3]
        exact Ev.neg h3 (Ev.now _)
    · rw [if_neg h2] at tail ⊢
      refine Ev.neg h2 (Ev.bindv (spec_sch _ _) ?_)
      by_cases h3 : sch 0 r.f1 = true
      · rw [if_pos h3]
        refine Ev.pos h3 (Ev.pos (by omega) (Ev.pos (by omega) (Ev.pos ?_ (Ev.pos ?_ (tail h3)))))
        · simp only [List.length_nil]; omega
        · simp only [List.length_singleton]; omega
      · rw [if_neg h3]
        exact Ev.neg h3 (Ev.now _)
theorem spec_validf (x : List S42) (hn : x.length ≤ 2000000) : Ev (fun k => spec_ValidRows.f k x) (vr [] x) := by
  unfold spec_ValidRows.f
  exact spec_valid x hn x.length 0 [] (by omega) (by simp)

def lastK (x : List S42) (d : Int) : Nat → Int
  | 0 => -1
  | i + 1 => if (x.getD i z42).f2 = d then (x.getD i z42).f1 else lastK x d i
theorem impl_parent (x : List S42) (hn : x.length ≤ 2000000) (d : Int) (h0 : 0 ≤ d) (h1 : d ≤ 100000000) (hd : d ≠ 0) : ∀ i : Nat, i ≤ x.length → Ev (fun k => impl_parentKind.l0 k x d ((i : Int) - 1)) (lastK x (d - 1) i) := by
  intro i
  induction i with
  | zero =>
    intro _
    show Ev (fun k => impl_parentKind.l0 k x d (((0 : Nat) : Int) - 1)) (-1)
    exact Ev.step (fun k => by rw [impl_parentKind.l0]) (Ev.neg (by omega) (Ev.now _))
  | succ i ih =>
    intro hi
    have e : ((i + 1 : Nat) : Int) - 1 = (i : Int) := by omega
    rw [e]
    refine Ev.step (fun k => by rw [impl_parentKind.l0]) (Ev.pos (by omega) (Ev.pos (by omega) (Ev.pos (by omega) ?_)))
    rw [rdT, w64 (n := d - 1) (by omega) (by omega), w64 (n := (i : Int) - 1) (by omega) (by omega)]
    unfold lastK
    by_cases h : (x.getD i z42).f2 = d - 1
    · rw [if_pos h]; exact Ev.pos h (Ev.now _)
    · rw [if_neg h]; exact Ev.neg h (ih (by omega))
theorem lastK_take (x : List S42) (d : Int) (j : Nat) : ∀ i, i ≤ j → j ≤ x.length → lastK (x.take j) d i = lastK x d i := by
  intro i
  induction i with
  | zero => intros; rfl
  | succ i ih =>
    intro h1 h2
    unfold lastK
    have e : (x.take j).getD i z42 = x.getD i z42 := by
      simp only [List.getD, List.getElem?_take, if_pos (show i < j by omega)]
    rw [e, ih (by omega) h2]
theorem impl_valid (x : List S42) (hn : x.length ≤ 2000000) : ∀ (m i : Nat) (ch : List Int), i + m = x.length → ch.length ≤ i → (∀ d : Nat, d < ch.length → lastK x d i = ch.getD d 0) →
    Ev (fun k => impl_ValidRows.l0 k x ((ch.length : Int) - 1) x (x.length : Int) i) (vr ch (x.drop i)) := by
  intro m
  induction m with
  | zero =>
    intro i ch hi hc _
    refine Ev.step (fun k => by rw [impl_ValidRows.l0]) (Ev.neg (by omega) (Ev.eqr (Ev.now _) ?_))
    rw [List.drop_of_length_le (by omega)]; rfl
  | succ m ih =>
    intro i ch hi hc hk
    rw [drop_getD z42 x i (by omega)]
    refine Ev.step (fun k => by rw [impl_ValidRows.l0]) (Ev.pos (by omega) (Ev.pos (by omega) (Ev.pos (by omega) ?_)))
    simp only [rdT]
    have ih' := ih (i + 1)
    generalize hr : x.getD i z42 = r
    unfold vr
    by_cases h0 : r.f2 < 0
    · rw [if_pos h0]
      exact Ev.pos h0 (Ev.now _)
    rw [if_neg h0]
    refine Ev.neg h0 ?_
    rw [w64 (n := (ch.length : Int) - 1 + 1) (by omega) (by omega)]
    by_cases h1 : r.f2 > (ch.length : Int)
    · rw [if_pos h1]
      exact Ev.pos (by omega) (Ev.now _)
    rw [if_neg h1]
    refine Ev.neg (by omega) (Ev.pos (by omega) ?_)
    rw [Int.toNat_natCast, wi (by omega)]
    have hpar : Ev (fun k => impl_parentKind.f k (x.take i) r.f2) (if r.f2 > 0 then ch.getD (r.f2.toNat - 1) 0 else 0) := by
      unfold impl_parentKind.f
      by_cases h2 : r.f2 = 0
      · rw [if_neg (by omega)]; exact Ev.pos h2 (Ev.now _)
      · rw [if_pos (by omega)]
        refine Ev.neg h2 ?_
        have hl : (x.take i).length = i := by rw [List.length_take]; omega
        rw [hl, w64 (n := (i : Int) - 1) (by omega) (by omega)]
        refine Ev.eqr (impl_parent (x.take i) (by omega) r.f2 (by omega) (by omega) h2 i (by omega)) ?_
        rw [lastK_take x _ i i (Nat.le_refl _) (by omega), show r.f2 - 1 = ((r.f2.toNat - 1 : Nat) : Int) by omega]
        exact hk _ (by omega)
    refine Ev.bind hpar (Ev.bindv (impl_sch _ _) ?_)
    by_cases h3 : sch (if r.f2 > 0 then ch.getD (r.f2.toNat - 1) 0 else 0) r.f1 = true
    · rw [if_pos h3]
      refine Ev.pos h3 ?_
      have hlen : (ch.take r.f2.toNat ++ [r.f1]).length = r.f2.toNat + 1 := by rw [List.length_append, List.length_take, List.length_singleton]; omega
      have := ih' (ch.take r.f2.toNat ++ [r.f1]) (by omega) (by rw [hlen]; omega) (by
        intro d hd
        rw [hlen] at hd
        unfold lastK
        rw [hr]
        by_cases e : r.f2 = d
        · rw [if_pos e]
          have : r.f2.toNat = d := by omega
          simp [List.getD, List.length_take, this, show min d ch.length = d by omega]
        · rw [if_neg e, hk d (by omega)]
          have h4 : d < (ch.take r.f2.toNat).length := by rw [List.length_take]; omega
          simp only [List.getD, List.getElem?_append_left h4, List.getElem?_take, if_pos (show d < r.f2.toNat by omega)])
      rw [hlen] at this
      rw [show (((r.f2.toNat + 1 : Nat) : Int)) - 1 = r.f2 by omega] at this
      exact this
    · rw [if_neg h3]
      exact Ev.neg h3 (Ev.now _)
theorem impl_validf (x : List S42) (hn : x.length ≤ 2000000) : Ev (fun k => impl_ValidRows.f k x) (vr [] x) := by
  unfold impl_ValidRows.f
  exact impl_valid x hn x.length 0 [] (by omega) (by simp) (by simp)
theorem baext {a b : ByteArray} (h : by_ a = by_ b) : a = b := by
  obtain ⟨⟨a⟩⟩ := a
  obtain ⟨⟨b⟩⟩ := b
  simpa [by_] using h
theorem by_app (a b : ByteArray) : by_ (a ++ b) = by_ a ++ by_ b := by simp [by_, ByteArray.data_append]
theorem by_mk (l : List UInt8) : by_ ⟨l.toArray⟩ = l := rfl
def pc (c : UInt8) : Bool := decide (32 ≤ c.toNat) && decide (c.toNat ≤ 126)
def prn (t : ByteArray) : Bool := (by_ t).all pc
def good (x : List S42) : Bool := x.all (fun r => prn r.f3) && (vr [] x && decide (x.length ≤ 40))
def letter (k : Int) : UInt8 := ([112, 104, 108, 105] : List UInt8).getD (k - 1).toNat 0
def line (r : S42) : List UInt8 := List.replicate (2 * r.f2.toNat) 32 ++ [letter r.f1] ++ [32] ++ by_ r.f3 ++ [10]
def mk (x : List S42) : ByteArray := ⟨(x.flatMap line).toArray⟩
theorem vr_row : ∀ (x : List S42) (ch : List Int), vr ch x = true → ∀ r ∈ x, 1 ≤ r.f1 ∧ r.f1 ≤ 4 ∧ 0 ≤ r.f2 ∧ r.f2 < (ch.length + x.length : Nat) := by
  intro x
  induction x with
  | nil => intro ch _ r hr; simp at hr
  | cons a x ih =>
    intro ch h r hr
    unfold vr at h
    by_cases h0 : a.f2 < 0
    · rw [if_pos h0] at h; simp at h
    rw [if_neg h0] at h
    by_cases h1 : a.f2 > (ch.length : Int)
    · rw [if_pos h1] at h; simp at h
    rw [if_neg h1] at h
    by_cases h2 : sch (if a.f2 > 0 then ch.getD (a.f2.toNat - 1) 0 else 0) a.f1 = true
    · rw [if_pos h2] at h
      rw [List.length_cons]
      rcases List.mem_cons.1 hr with e | e
      · subst e
        have := sch_kind h2
        omega
      · have := ih _ h r e
        rw [List.length_append, List.length_take, List.length_singleton] at this
        omega
    · rw [if_neg h2] at h; simp at h
theorem bt_nat (a : ByteArray) (i : Nat) (h : i < a.size) : bt a (i : Int) = (((by_ a).getD i 0).toNat : Int) := by
  rw [bt_get a i h]
  simp [List.getD, by_len, h]
theorem bt_hi (a : ByteArray) (i : Nat) (h : i < a.size) : 0 ≤ bt a (i : Int) ∧ bt a (i : Int) ≤ 255 := by
  rw [bt_nat a i h]
  have := UInt8.toNat_lt ((by_ a).getD i 0)
  omega
theorem content_inner (x : List S42) (hn : x.length ≤ 2000000) (i : Nat) (hi : i < x.length) (hs : (x.getD i z42).f3.size ≤ 2000000) (r : Bool) (hr : Ev (fun k => spec_validContent.l0 k x ((i + 1 : Nat) : Int)) r) :
    ∀ m j : Nat, j + m = (x.getD i z42).f3.size → Ev (fun k => spec_validContent.l1 k x i j) (if ((by_ (x.getD i z42).f3).drop j).all pc = true then r else false) := by
  intro m
  induction m with
  | zero =>
    intro j hj
    refine Ev.step (fun k => by rw [spec_validContent.l1]) (Ev.pos (by omega) (Ev.pos (by omega) ?_))
    simp only [rdT]
    refine Ev.neg (by omega) ?_
    rw [wi (by omega), List.drop_of_length_le (by rw [by_len]; omega), List.all_nil, if_pos rfl]
    exact hr
  | succ m ih =>
    intro j hj
    refine Ev.step (fun k => by rw [spec_validContent.l1]) (Ev.pos (by omega) (Ev.pos (by omega) ?_))
    simp only [rdT]
    refine Ev.pos (by omega) (Ev.pos (by omega) ?_)
    rw [drop_getD 0 (by_ (x.getD i z42).f3) j (by rw [by_len]; omega), List.all_cons]
    have hb := bt_nat (x.getD i z42).f3 j (by omega)
    have hh := bt_hi (x.getD i z42).f3 j (by omega)
    rw [w64 (n := bt _ _) (by omega) (by omega), hb, wi (by omega)]
    generalize hc : (by_ (x.getD i z42).f3).getD j 0 = c
    rw [hc] at hb
    by_cases h1 : 32 ≤ c.toNat
    · by_cases h2 : c.toNat ≤ 126
      · have hp : pc c = true := by unfold pc; simp [h1, h2]
        rw [hp, Bool.true_and]
        refine Ev.bindv (a := true) ?_ (Ev.pos rfl (ih (j + 1) (by omega)))
        unfold spec_inRange.f
        rw [if_pos (by omega), decide_eq_true (by omega)]
      · have hp : pc c = false := by unfold pc; simp [h2]
        rw [hp, Bool.false_and, if_neg (by simp)]
        refine Ev.bindv (a := false) ?_ (Ev.neg (by simp) (Ev.now _))
        unfold spec_inRange.f
        rw [if_pos (by omega), decide_eq_false (by omega)]
    · have hp : pc c = false := by unfold pc; simp [h1]
      rw [hp, Bool.false_and, if_neg (by simp)]
      refine Ev.bindv (a := false) ?_ (Ev.neg (by simp) (Ev.now _))
      unfold spec_inRange.f
      rw [if_neg (by omega)]
theorem content_outer (x : List S42) (hn : x.length ≤ 2000000) (hs : ∀ r ∈ x, r.f3.size ≤ 2000000) :
    ∀ m i : Nat, i + m = x.length → Ev (fun k => spec_validContent.l0 k x i) ((x.drop i).all (fun r => prn r.f3) && (vr [] x && decide (x.length ≤ 40))) := by
  intro m
  induction m with
  | zero =>
    intro i hi
    rw [List.drop_of_length_le (by omega), List.all_nil, Bool.true_and]
    refine Ev.step (fun k => by rw [spec_validContent.l0]) (Ev.neg (by omega) (Ev.bind (spec_validf x hn) ?_))
    cases vr [] x with
    | true => exact Ev.pos rfl (Ev.eqr (Ev.now _) (by rw [Bool.true_and]; congr 1; exact propext (by omega)))
    | false => exact Ev.neg (by simp) (Ev.now _)
  | succ m ih =>
    intro i hi
    refine Ev.step (fun k => by rw [spec_validContent.l0]) (Ev.pos (by omega) ?_)
    have hmem : x.getD i z42 ∈ x := by
      have : x.getD i z42 = x[i]'(by omega) := by simp [List.getD, show i < x.length by omega]
      rw [this]; exact List.getElem_mem _
    have := content_inner x hn i (by omega) (hs _ hmem) _ (ih (i + 1) (by omega)) _ 0 (Nat.zero_add _)
    rw [drop_getD z42 x i (by omega), List.all_cons]
    refine Ev.eqr this ?_
    rw [List.drop_zero]
    show _ = ((by_ (x.getD i z42).f3).all pc && _ && _)
    cases (by_ (x.getD i z42).f3).all pc <;> simp
theorem contentf (x : List S42) (hn : x.length ≤ 2000000) (hs : ∀ r ∈ x, r.f3.size ≤ 2000000) : Ev (fun k => spec_validContent.f k x) (good x) := by
  unfold spec_validContent.f
  exact content_outer x hn hs x.length 0 (by omega)
theorem letters {k : Int} (h1 : 1 ≤ k) (h4 : k ≤ 4) : (⟨#[112, 104, 108, 105]⟩ : ByteArray).extract (k - 1).toNat k.toNat = ⟨#[letter k]⟩ := by
  have : k = 1 ∨ k = 2 ∨ k = 3 ∨ k = 4 := by omega
  rcases this with rfl | rfl | rfl | rfl <;> rfl
theorem row_loop (d : Nat) (hd : d ≤ 1000) (i0 i1 kd : Int) (h1 : 1 ≤ kd) (h4 : kd ≤ 4) (t : ByteArray) (ht : t.size ≤ 2000000) : ∀ (m i : Nat) (a : ByteArray), i + m = d → by_ a = List.replicate (2 * i) 32 →
    Ev (fun k => spec_markupRow.l0 k a i i0 i1 kd d t) ⟨(List.replicate (2 * d) 32 ++ [letter kd] ++ [32] ++ by_ t ++ [10]).toArray⟩ := by
  intro m
  induction m with
  | zero =>
    intro i a hi ha
    obtain rfl : i = d := by omega
    have hsz : a.size = 2 * i := by rw [← by_len, ha, List.length_replicate]
    have hL := letters h1 h4
    refine Ev.step (fun k => by rw [spec_markupRow.l0]) (Ev.neg (by omega) ?_)
    rw [w64 (n := kd - 1) (by omega) (by omega)]
    rw [hL]
    have z1 : (⟨#[letter kd]⟩ : ByteArray).size = 1 := rfl
    have z2 : (⟨#[32]⟩ : ByteArray).size = 1 := rfl
    refine Ev.pos (by omega) (Ev.pos (by omega) (Ev.pos (by omega) (Ev.pos ?_ (Ev.pos ?_ (Ev.pos ?_ (Ev.pos ?_ (Ev.eqr (Ev.now _) ?_)))))))
    · rw [z1]; omega
    · rw [ByteArray.size_append, z1]; omega
    · rw [ByteArray.size_append, ByteArray.size_append, z1, z2]; omega
    · rw [ByteArray.size_append, ByteArray.size_append, ByteArray.size_append, z1, z2]; omega
    · apply baext
      rw [by_app, by_app, by_app, by_app, ha, by_mk]
  | succ m ih =>
    intro i a hi ha
    have hsz : a.size = 2 * i := by rw [← by_len, ha, List.length_replicate]
    refine Ev.step (fun k => by rw [spec_markupRow.l0]) (Ev.pos (by omega) (Ev.pos (by omega) ?_))
    rw [wi (by omega)]
    refine ih (i + 1) _ (by omega) ?_
    rw [by_app, ha]
    show List.replicate (2 * i) 32 ++ List.replicate 2 32 = _
    rw [List.replicate_append_replicate]; congr 1
theorem rowf (r : S42) (h1 : 1 ≤ r.f1) (h4 : r.f1 ≤ 4) (h0 : 0 ≤ r.f2) (hd : r.f2 ≤ 1000) (ht : r.f3.size ≤ 2000000) : Ev (fun k => spec_markupRow.f k r.f0.f0 r.f0.f1 r.f1 r.f2 r.f3) ⟨(line r).toArray⟩ := by
  unfold spec_markupRow.f
  have := row_loop r.f2.toNat (by omega) r.f0.f0 r.f0.f1 r.f1 h1 h4 r.f3 ht r.f2.toNat 0 (⟨#[]⟩) (by omega) rfl
  rw [show ((r.f2.toNat : Nat) : Int) = r.f2 by omega] at this
  exact this
theorem line_len (r : S42) : (line r).length = 2 * r.f2.toNat + r.f3.size + 3 := by
  unfold line
  simp only [List.length_append, List.length_replicate, List.length_singleton, by_len]
  omega
theorem mk_snoc (x : List S42) (i : Nat) (h : i < x.length) : mk (x.take (i + 1)) = mk (x.take i) ++ ⟨(line (x.getD i z42)).toArray⟩ := by
  apply baext
  rw [by_app]
  show (List.flatMap line (x.take (i + 1))) = (List.flatMap line (x.take i)) ++ line _
  rw [List.take_succ_eq_append_getElem h, List.flatMap_append]
  simp [List.getD, h]
theorem mk_size (x : List S42) (B : Nat) (h : ∀ r ∈ x, (line r).length ≤ B) : (mk x).size ≤ x.length * B := by
  rw [← by_len]
  show (List.flatMap line x).length ≤ _
  induction x with
  | nil => simp
  | cons a x ih =>
    have h1 := h a (List.mem_cons_self ..)
    have h2 := ih (fun r hr => h r (List.mem_cons_of_mem _ hr))
    simp only [List.flatMap_cons, List.length_append, List.length_cons, Nat.succ_mul]
    omega
def fit (x : List S42) : Prop := x.length ≤ 40 ∧ ∀ r ∈ x, 1 ≤ r.f1 ∧ r.f1 ≤ 4 ∧ 0 ≤ r.f2 ∧ r.f2 ≤ 1000 ∧ r.f3.size ≤ 2000000
theorem fit_size {x : List S42} (h : fit x) (i : Nat) : (mk (x.take i)).size ≤ 90000000 := by
  have := mk_size (x.take i) 2002003 (fun r hr => by
    have := h.2 r (List.mem_of_mem_take hr)
    rw [line_len]; omega)
  have hl : (x.take i).length ≤ 40 := by rw [List.length_take]; have := h.1; omega
  have := Nat.mul_le_mul_right 2002003 hl
  omega
theorem fit_get {x : List S42} (h : fit x) {i : Nat} (hi : i < x.length) : 1 ≤ (x.getD i z42).f1 ∧ (x.getD i z42).f1 ≤ 4 ∧ 0 ≤ (x.getD i z42).f2 ∧ (x.getD i z42).f2 ≤ 1000 ∧ (x.getD i z42).f3.size ≤ 2000000 := by
  have : x.getD i z42 = x[i] := by simp [List.getD, hi]
  rw [this]; exact h.2 _ (List.getElem_mem _)
theorem rows_loop (x : List S42) (hx : fit x) : ∀ m i : Nat, i + m = x.length → Ev (fun k => spec_RowsMarkup.l0 k x (mk (x.take i)) i) (mk x) := by
  intro m
  induction m with
  | zero =>
    intro i hi
    refine Ev.step (fun k => by rw [spec_RowsMarkup.l0]) (Ev.neg (by omega) (Ev.eqr (Ev.now _) ?_))
    rw [List.take_of_length_le (by omega)]
  | succ m ih =>
    intro i hi
    have hg := fit_get hx (show i < x.length by omega)
    have h40 := hx.1
    refine Ev.step (fun k => by rw [spec_RowsMarkup.l0]) (Ev.pos (by omega) (Ev.pos (by omega) ?_))
    rw [rdT]
    refine Ev.bind (rowf _ hg.1 hg.2.1 hg.2.2.1 hg.2.2.2.1 hg.2.2.2.2) (Ev.pos ?_ ?_)
    · have h1 := fit_size hx (i + 1)
      rw [mk_snoc x i (by omega), ByteArray.size_append] at h1
      omega
    · rw [← mk_snoc x i (by omega), wi (by omega)]
      exact ih (i + 1) (by omega)
theorem good_fit {x : List S42} (h : good x = true) (hs : ∀ r ∈ x, r.f3.size ≤ 2000000) : fit x := by
  unfold good at h
  simp only [Bool.and_eq_true, decide_eq_true_eq] at h
  refine ⟨h.2.2, fun r hr => ?_⟩
  have := vr_row x [] h.2.1 r hr
  have h2 := h.2.2
  simp only [List.length_nil] at this
  exact ⟨this.1, this.2.1, this.2.2.1, by omega, hs r hr⟩
def wr (x : List S42) : ByteArray := if good x = true then mk x else ⟨#[]⟩
theorem spec_rows (x : List S42) (hn : x.length ≤ 2000000) (hs : ∀ r ∈ x, r.f3.size ≤ 2000000) : Ev (fun k => spec_RowsMarkup.f k x) (wr x) := by
  unfold spec_RowsMarkup.f wr
  refine Ev.bind (contentf x hn hs) ?_
  by_cases h : good x = true
  · rw [if_pos h]
    exact Ev.pos h (rows_loop x (good_fit h hs) x.length 0 (by omega))
  · rw [if_neg h]
    exact Ev.neg h (Ev.now _)
theorem rep_spaces : ∀ d : Nat, Lib.repeatL [32, 32] d = List.replicate (2 * d) 32 := by
  intro d
  induction d with
  | zero => rfl
  | succ d ih =>
    show [32, 32] ++ Lib.repeatL [32, 32] d = _
    rw [ih]
    show List.replicate 2 32 ++ _ = _
    rw [List.replicate_append_replicate]; congr 1; omega
theorem impl_inner (x : List S42) (r : S42) (h1 : 1 ≤ r.f1) (h4 : r.f1 ≤ 4) (h0 : 0 ≤ r.f2) (hd : r.f2 ≤ 1000) (ht : r.f3.size ≤ 2000000) (acc : ByteArray) (ha : acc.size ≤ 90000000) (n : Int) (i : Nat) (hi : i ≤ 100) (R : ByteArray)
    (hR : Ev (fun k => impl_RowsMarkup.l0 k (acc ++ ⟨(line r).toArray⟩) x n ((i + 1 : Nat) : Int)) R) :
    ∀ m j : Nat, j + m = r.f3.size → Ev (fun k => impl_RowsMarkup.l1 k acc j x n i r.f0.f0 r.f0.f1 r.f1 r.f2 r.f3) (if ((by_ r.f3).drop j).all pc = true then R else ⟨#[]⟩) := by
  intro m
  induction m with
  | zero =>
    intro j hj
    rw [List.drop_of_length_le (by rw [by_len]; omega), List.all_nil, if_pos rfl]
    have hL := letters h1 h4
    have z0 : (⟨(Lib.repeatL ([32, 32] : List UInt8) r.f2.toNat).toArray⟩ : ByteArray).size = 2 * r.f2.toNat := by
      rw [← by_len, by_mk, rep_spaces, List.length_replicate]
    have z1 : (⟨#[letter r.f1]⟩ : ByteArray).size = 1 := rfl
    have z2 : (⟨#[32]⟩ : ByteArray).size = 1 := rfl
    have z3 : (⟨#[10]⟩ : ByteArray).size = 1 := rfl
    have zs : (⟨#[32, 32]⟩ : ByteArray).size = 2 := rfl
    refine Ev.step (fun k => by rw [impl_RowsMarkup.l1]) (Ev.neg (by omega) (Ev.bindv (a := (⟨(Lib.repeatL ([32, 32] : List UInt8) r.f2.toNat).toArray⟩ : ByteArray)) ?_ ?_))
    · unfold strings_Repeat.f
      rw [if_pos (by rw [zs]; omega)]
    · rw [w64 (n := r.f1 - 1) (by omega) (by omega), hL, wi (by omega)]
      refine Ev.pos (by omega) (Ev.pos (by omega) (Ev.pos (by omega) (Ev.pos ?_ (Ev.pos ?_ (Ev.pos ?_ (Ev.pos ?_ (Ev.pos ?_ ?_)))))))
      · rw [z0, z1]; omega
      · rw [ByteArray.size_append, z0, z1]; omega
      · rw [ByteArray.size_append, ByteArray.size_append, z0, z1, z2]; omega
      · rw [ByteArray.size_append, ByteArray.size_append, ByteArray.size_append, z0, z1, z2]; omega
      · rw [ByteArray.size_append, ByteArray.size_append, ByteArray.size_append, ByteArray.size_append, z0, z1, z2, z3]; omega
      · have e : (((⟨(Lib.repeatL ([32, 32] : List UInt8) r.f2.toNat).toArray⟩ : ByteArray) ++ ⟨#[letter r.f1]⟩ ++ ⟨#[32]⟩ ++ r.f3) ++ ⟨#[10]⟩) = (⟨(line r).toArray⟩ : ByteArray) := by
          apply baext
          rw [by_app, by_app, by_app, by_app, by_mk, rep_spaces]; rfl
        rw [e]
        exact hR
  | succ m ih =>
    intro j hj
    refine Ev.step (fun k => by rw [impl_RowsMarkup.l1]) (Ev.pos (by omega) (Ev.pos (by omega) ?_))
    rw [drop_getD 0 (by_ r.f3) j (by rw [by_len]; omega), List.all_cons]
    have hb := bt_nat r.f3 j (by omega)
    rw [hb, wi (by omega)]
    generalize (by_ r.f3).getD j 0 = c
    by_cases c1 : c.toNat < 32
    · have hp : pc c = false := by unfold pc; rw [decide_eq_false (by omega : ¬ 32 ≤ c.toNat), Bool.false_and]
      rw [hp, Bool.false_and, if_neg (by simp)]
      exact Ev.pos (by omega) (Ev.now _)
    refine Ev.neg (by omega) ?_
    by_cases c2 : c.toNat > 126
    · have hp : pc c = false := by unfold pc; rw [decide_eq_false (by omega : ¬ c.toNat ≤ 126), Bool.and_false]
      rw [hp, Bool.false_and, if_neg (by simp)]
      exact Ev.pos (by omega) (Ev.now _)
    have hp : pc c = true := by unfold pc; rw [decide_eq_true (by omega : 32 ≤ c.toNat), decide_eq_true (by omega : c.toNat ≤ 126)]; rfl
    rw [hp, Bool.true_and]
    exact Ev.neg (by omega) (ih (j + 1) (by omega))
theorem impl_outer (x : List S42) (hx : fit x) : ∀ m i : Nat, i + m = x.length → Ev (fun k => impl_RowsMarkup.l0 k (mk (x.take i)) x (x.length : Int) i) (if (x.drop i).all (fun r => prn r.f3) = true then mk x else ⟨#[]⟩) := by
  intro m
  induction m with
  | zero =>
    intro i hi
    rw [List.drop_of_length_le (by omega), List.all_nil, if_pos rfl]
    refine Ev.step (fun k => by rw [impl_RowsMarkup.l0]) (Ev.neg (by omega) (Ev.eqr (Ev.now _) ?_))
    rw [List.take_of_length_le (by omega)]
  | succ m ih =>
    intro i hi
    have hg := fit_get hx (show i < x.length by omega)
    have h40 := hx.1
    refine Ev.step (fun k => by rw [impl_RowsMarkup.l0]) (Ev.pos (by omega) (Ev.pos (by omega) (Ev.pos (by omega) ?_)))
    rw [rdT]
    have hR := ih (i + 1) (by omega)
    rw [mk_snoc x i (by omega)] at hR
    have h := impl_inner x (x.getD i z42) hg.1 hg.2.1 hg.2.2.1 hg.2.2.2.1 hg.2.2.2.2 (mk (x.take i)) (fit_size hx i) (x.length : Int) i (by omega) _ hR _ 0 (Nat.zero_add _)
    refine Ev.eqr h ?_
    rw [drop_getD z42 x i (by omega), List.all_cons, List.drop_zero]
    show _ = if ((by_ (x.getD i z42).f3).all pc && _) = true then _ else _
    cases (by_ (x.getD i z42).f3).all pc <;> simp
theorem vr_fit {x : List S42} (h : vr [] x = true) (h40 : x.length ≤ 40) (hs : ∀ r ∈ x, r.f3.size ≤ 2000000) : fit x := by
  refine ⟨h40, fun r hr => ?_⟩
  have := vr_row x [] h r hr
  simp only [List.length_nil] at this
  exact ⟨this.1, this.2.1, this.2.2.1, by omega, hs r hr⟩
theorem impl_rows (x : List S42) (hn : x.length ≤ 2000000) (hs : ∀ r ∈ x, r.f3.size ≤ 2000000) : Ev (fun k => impl_RowsMarkup.f k x) (wr x) := by
  unfold impl_RowsMarkup.f
  by_cases h40 : (x.length : Int) > 40
  · have : good x = false := by unfold good; rw [decide_eq_false (by omega : ¬ x.length ≤ 40)]; simp
    unfold wr
    rw [if_neg (by rw [this]; simp)]
    exact Ev.pos h40 (Ev.step (fun k => by rw [impl_RowsMarkup.j0]) (Ev.pos rfl (Ev.now _)))
  refine Ev.neg h40 (Ev.bind (impl_validf x hn) ?_)
  by_cases hv : vr [] x = true
  · rw [hv]
    refine Ev.step (fun k => by rw [impl_RowsMarkup.j0]) (Ev.neg (by simp) ?_)
    refine Ev.eqr (impl_outer x (vr_fit hv (by omega) hs) x.length 0 (by omega)) ?_
    unfold wr good
    rw [hv, decide_eq_true (by omega : x.length ≤ 40), Bool.and_true, Bool.and_true, List.drop_zero]
  · have hv' : vr [] x = false := by simpa using hv
    rw [hv']
    have : good x = false := by unfold good; rw [hv']; simp
    unfold wr
    rw [if_neg (by rw [this]; simp)]
    exact Ev.step (fun k => by rw [impl_RowsMarkup.j0]) (Ev.pos (by simp) (Ev.now _))
theorem rd55 (x : List S55) (i : Nat) : rd_T55 x (i : Int) = x.getD i z55 := by unfold rd_T55; rw [Int.toNat_natCast]
def conv (r : S55) : S42 := ⟨⟨r.f0.f0, r.f0.f1⟩, r.f1, r.f2, r.f3⟩
theorem toRowS_ev (es : List S55) (hl : es.length ≤ 1048576) : Ev (fun n => laws_toRowS.f n es) (es.map conv) := by
  have go : ∀ (m i : Nat) (a : List S42), i + m = es.length → a.length = es.length → a.take i = (es.map conv).take i → Ev (fun n => laws_toRowS.l0 n es a i) (es.map conv) := by
    intro m
    induction m with
    | zero =>
      intro i a hi ha hp
      refine Ev.step (fun k => by rw [laws_toRowS.l0]) (Ev.neg (by omega) (Ev.eqr (Ev.now _) ?_))
      rwa [List.take_of_length_le (by omega), List.take_of_length_le (by rw [List.length_map]; omega)] at hp
    | succ m ih =>
      intro i a hi ha hp
      refine Ev.step (fun k => by rw [laws_toRowS.l0]) (Ev.pos (by omega) (Ev.pos (by omega) ?_))
      rw [rd55]
      refine Ev.bindv (a := ((es.getD i z55).f0.f0, (es.getD i z55).f0.f1, (es.getD i z55).f1, (es.getD i z55).f2, (es.getD i z55).f3)) rfl (Ev.pos (by omega) ?_)
      rw [wi (by omega), Int.toNat_natCast]
      have he : es.getD i z55 = es[i]'(by omega) := by simp [List.getD, show i < es.length by omega]
      refine ih (i + 1) _ (by omega) (by rw [List.length_set]; exact ha) ?_
      rw [List.take_succ_eq_append_getElem (by rw [List.length_set]; omega), List.take_succ_eq_append_getElem (by rw [List.length_map]; omega), List.take_set_of_le (Nat.le_refl _), hp]
      rw [he]; simp [conv]
  unfold laws_toRowS.f
  refine Ev.pos (by omega) (Ev.pos (by omega) ?_)
  exact go es.length 0 _ (by omega) (by simp) (by simp)
theorem szRowS_ev (es : List S55) (hl : es.length ≤ 9223372036854775807) (hs : ∀ e ∈ es, e.f3.size ≤ 9223372036854775807) :
    ∃ r, Ev (fun n => laws_szRowS.f n es 1048576) r ∧ (¬ r < 0 → es.length ≤ 1048576 ∧ ∀ e ∈ es, e.f3.size ≤ 1048576) := by
  have go : es.length ≤ 1048576 → ∀ (d i : Nat) (x : Nat), i + d = es.length → x ≤ 1048576 → ∃ r, Ev (fun n => laws_szRowS.l0 n es (x : Int) (i : Int)) r ∧ (¬ r < 0 → ∀ e ∈ es.drop i, e.f3.size ≤ 1048576) := by
    intro hlen d
    induction d with
    | zero =>
      intro i x hi hx
      refine ⟨x, Ev.step (fun k => by rw [laws_szRowS.l0]) (Ev.neg (by omega) (Ev.now _)), fun _ => ?_⟩
      rw [List.drop_of_length_le (by omega)]; simp
    | succ d ih =>
      intro i x hi hx
      have hi' : i < es.length := by omega
      have hsi := hs es[i] (List.getElem_mem hi')
      have hget : es.getD i z55 = es[i] := by simp [List.getD, hi']
      rw [List.drop_eq_getElem_cons hi']
      have hw : wrap64 ((x : Int) - (es[i].f3.size : Int)) = (x : Int) - (es[i].f3.size : Int) := w64 (by omega) (by omega)
      by_cases c : es[i].f3.size ≤ x
      · obtain ⟨r, e, h⟩ := ih (i + 1) (x - es[i].f3.size) (by omega) (by omega)
        refine ⟨r, Ev.step (fun k => by rw [laws_szRowS.l0]) (Ev.pos (by omega) (Ev.pos (by omega) ?_)), fun hr e he => ?_⟩
        · rw [rd55, hget]
          refine Ev.bindv (a := ((x - es[i].f3.size : Nat) : Int)) (by unfold laws_szRow.f; rw [hw, if_neg (by omega)]; congr 1; omega) (Ev.neg (by omega) ?_)
          rw [wi (by omega)]; exact e
        · rcases List.mem_cons.1 he with rfl | he
          · omega
          · exact h hr e he
      · refine ⟨-1, Ev.step (fun k => by rw [laws_szRowS.l0]) (Ev.pos (by omega) (Ev.pos (by omega) ?_)), fun h => absurd (by omega) h⟩
        rw [rd55, hget]
        exact Ev.bindv (a := -1) (by unfold laws_szRow.f; rw [hw, if_pos (by omega)]) (Ev.pos (by omega) (Ev.now _))
  unfold laws_szRowS.f
  rw [w64 (n := (1048576 : Int) - (es.length : Int)) (by omega) (by omega)]
  by_cases c : es.length ≤ 1048576
  · obtain ⟨r, e, h⟩ := go c es.length 0 (1048576 - es.length) (by omega) (by omega)
    refine ⟨r, Ev.neg (by omega) ?_, fun hr => ⟨c, by have := h hr; rwa [List.drop_zero] at this⟩⟩
    rw [show (1048576 : Int) - (es.length : Int) = ((1048576 - es.length : Nat) : Int) by omega]; exact e
  · exact ⟨-1, Ev.pos (by omega) (Ev.now _), fun h => absurd (by omega) h⟩
theorem eqRow_self (r : S42) : laws_eqRow.f r.f0.f0 r.f0.f1 r.f1 r.f2 r.f3 r.f0.f0 r.f0.f1 r.f1 r.f2 r.f3 = some true := by
  unfold laws_eqRow.f laws_eqStamp.f
  simp
theorem eqRowS_self (x : List S42) (hn : x.length ≤ 2000000) : Ev (fun n => laws_eqRowS.f n x x) true := by
  have go : ∀ m i : Nat, i + m = x.length → Ev (fun n => laws_eqRowS.l0 n x x i) true := by
    intro m
    induction m with
    | zero =>
      intro i hi
      exact Ev.step (fun k => by rw [laws_eqRowS.l0]) (Ev.neg (by omega) (Ev.now _))
    | succ m ih =>
      intro i hi
      refine Ev.step (fun k => by rw [laws_eqRowS.l0]) (Ev.pos (by omega) (Ev.pos (by omega) (Ev.pos (by omega) (Ev.bindv (eqRow_self _) (Ev.pos rfl ?_)))))
      rw [wi (by omega)]
      exact ih (i + 1) (by omega)
  unfold laws_eqRowS.f
  exact Ev.pos rfl (go x.length 0 (by omega))
def Pure_ExactRowsMarkup : Prop := ∀ es : List S55, es.length ≤ 9223372036854775807 → (∀ e ∈ es, ((Lit.int .i64 e.f0.f0).wf = true ∧ (Lit.int .i64 e.f0.f1).wf = true) ∧ (Lit.int .i64 e.f1).wf = true ∧ (Lit.int .i64 e.f2).wf = true ∧ e.f3.size ≤ maxLen) → ∃ k, laws_FnExactRowsMarkup.f k es = some true
theorem pure_ExactRowsMarkup : Pure_ExactRowsMarkup := by
  intro es hl hs
  obtain ⟨r, er, hr⟩ := szRowS_ev es hl fun e he => (hs e he).2.2.2
  refine Ev.rounds ?_
  unfold laws_FnExactRowsMarkup.f
  refine Ev.bind er ?_
  by_cases c : r < 0
  · exact Ev.pos c (Ev.now _)
  obtain ⟨hn, hz⟩ := hr c
  refine Ev.neg c ?_
  have ht := toRowS_ev es hn
  have hn' : (es.map conv).length ≤ 2000000 := by rw [List.length_map]; omega
  have hz' : ∀ r ∈ es.map conv, r.f3.size ≤ 2000000 := by
    intro r hr
    obtain ⟨e, he, rfl⟩ := List.mem_map.1 hr
    have := hz e he
    show e.f3.size ≤ _
    omega
  refine Ev.bind ht (Ev.bind (spec_rows _ hn' hz') (Ev.bind ht (Ev.bind (impl_rows _ hn' hz') (Ev.pos rfl (Ev.bind ht (Ev.bind (eqRowS_self _ hn') (Ev.pos rfl (Ev.now _))))))))
end Go.Proofs.Ytoenoaipjcmdnaa.Q
