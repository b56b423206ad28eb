/- Plain lists: the length of the longest common subsequence. -/
namespace Cd
variable {α : Type} [DecidableEq α]

def lcs : List α → List α → Nat
  | [], _ => 0
  | _ :: _, [] => 0
  | a :: as, b :: bs => if a = b then lcs as bs + 1 else max (lcs as (b :: bs)) (lcs (a :: as) bs)
termination_by a b => a.length + b.length

theorem lcs_nil_left (b : List α) : lcs [] b = 0 := by unfold lcs; rfl
theorem lcs_nil_right (a : List α) : lcs a [] = 0 := by cases a <;> (unfold lcs; rfl)
theorem lcs_eq (a : α) (as bs : List α) : lcs (a :: as) (a :: bs) = lcs as bs + 1 := by
  rw [lcs, if_pos rfl]
theorem lcs_ne {a b : α} (h : a ≠ b) (as bs : List α) : lcs (a :: as) (b :: bs) = max (lcs as (b :: bs)) (lcs (a :: as) bs) := by
  rw [lcs, if_neg h]

theorem lcs_ge : ∀ (n : Nat) (a b s : List α), a.length + b.length ≤ n → s.Sublist a → s.Sublist b → s.length ≤ lcs a b := by
  intro n
  induction n with
  | zero =>
    intro a b s hn ha hb
    have h1 : a = [] := List.eq_nil_of_length_eq_zero (by omega)
    subst h1
    have := List.sublist_nil.1 ha
    subst this; simp
  | succ n ih =>
    intro a b s hn ha hb
    match a, b, s with
    | [], _, s => have := List.sublist_nil.1 ha; subst this; simp
    | _ :: _, [], s => have := List.sublist_nil.1 hb; subst this; simp
    | _, _, [] => simp
    | x :: as, y :: bs, c :: s =>
      simp only [List.length_cons] at hn
      by_cases h : x = y
      · subst h
        rw [lcs_eq]
        have h1 : s.Sublist as := by
          cases ha with
          | cons _ h => exact (List.sublist_cons_self c s).trans h
          | cons_cons _ h => exact h
        have h2 : s.Sublist bs := by
          cases hb with
          | cons _ h => exact (List.sublist_cons_self c s).trans h
          | cons_cons _ h => exact h
        have := ih as bs s (by omega) h1 h2
        simp; omega
      · rw [lcs_ne h]
        cases ha with
        | cons _ h1 =>
          have := ih as (y :: bs) (c :: s) (by simp; omega) h1 hb
          omega
        | cons_cons _ h1 =>
          cases hb with
          | cons _ h2 =>
            have := ih (x :: as) bs (x :: s) (by simp; omega) (List.Sublist.cons_cons x h1) h2
            omega
          | cons_cons _ h2 => exact absurd rfl h

theorem lcs_get : ∀ (n : Nat) (a b : List α), a.length + b.length ≤ n → ∃ s : List α, s.Sublist a ∧ s.Sublist b ∧ s.length = lcs a b := by
  intro n
  induction n with
  | zero =>
    intro a b hn
    have h1 : a = [] := List.eq_nil_of_length_eq_zero (by omega)
    subst h1
    exact ⟨[], List.Sublist.refl _, List.nil_sublist _, by rw [lcs_nil_left]; rfl⟩
  | succ n ih =>
    intro a b hn
    match a, b with
    | [], b => exact ⟨[], List.Sublist.refl _, List.nil_sublist _, by rw [lcs_nil_left]; rfl⟩
    | x :: as, [] => exact ⟨[], List.nil_sublist _, List.Sublist.refl _, by rw [lcs_nil_right]; rfl⟩
    | x :: as, y :: bs =>
      simp only [List.length_cons] at hn
      by_cases h : x = y
      · subst h
        obtain ⟨s, h1, h2, h3⟩ := ih as bs (by omega)
        exact ⟨x :: s, List.Sublist.cons_cons x h1, List.Sublist.cons_cons x h2, by rw [lcs_eq]; simp [h3]⟩
      · rw [lcs_ne h]
        obtain ⟨s, h1, h2, h3⟩ := ih as (y :: bs) (by simp; omega)
        obtain ⟨t, g1, g2, g3⟩ := ih (x :: as) bs (by simp; omega)
        by_cases hm : lcs as (y :: bs) ≤ lcs (x :: as) bs
        · exact ⟨t, g1, List.Sublist.cons y g2, by omega⟩
        · exact ⟨s, List.Sublist.cons x h1, h2, by omega⟩

theorem sub_le_lcs {a b s : List α} (ha : s.Sublist a) (hb : s.Sublist b) : s.length ≤ lcs a b := lcs_ge _ a b s (Nat.le_refl _) ha hb
theorem lcs_sub (a b : List α) : ∃ s : List α, s.Sublist a ∧ s.Sublist b ∧ s.length = lcs a b := lcs_get _ a b (Nat.le_refl _)

theorem lcs_le_left (a b : List α) : lcs a b ≤ a.length := by
  obtain ⟨s, h1, _, h3⟩ := lcs_sub a b; have := h1.length_le; omega
theorem lcs_le_right (a b : List α) : lcs a b ≤ b.length := by
  obtain ⟨s, _, h2, h3⟩ := lcs_sub a b; have := h2.length_le; omega
theorem lcs_comm (a b : List α) : lcs a b = lcs b a := by
  obtain ⟨s, h1, h2, h3⟩ := lcs_sub a b
  obtain ⟨t, g1, g2, g3⟩ := lcs_sub b a
  have := sub_le_lcs h2 h1; have := sub_le_lcs g2 g1; omega
theorem lcs_self (a : List α) : lcs a a = a.length := by
  have := sub_le_lcs (List.Sublist.refl a) (List.Sublist.refl a); have := lcs_le_left a a; omega
theorem lcs_mono {a a' b b' : List α} (ha : a.Sublist a') (hb : b.Sublist b') : lcs a b ≤ lcs a' b' := by
  obtain ⟨s, h1, h2, h3⟩ := lcs_sub a b; have := sub_le_lcs (h1.trans ha) (h2.trans hb); omega
/-- a common subsequence as long as a text is the text -/
theorem eq_of_lcs {a b : List α} (h1 : lcs a b = a.length) (h2 : lcs a b = b.length) : a = b := by
  obtain ⟨s, g1, g2, g3⟩ := lcs_sub a b
  rw [← g1.eq_of_length (by omega), ← g2.eq_of_length (by omega)]
/-- a part less takes away at most its length -/
theorem lcs_append_le (x p y b : List α) : lcs (x ++ p ++ y) b ≤ lcs (x ++ y) b + p.length := by
  obtain ⟨s, h1, h2, h3⟩ := lcs_sub (x ++ p ++ y) b
  obtain ⟨s12, s3, rfl, h12, hy⟩ := List.sublist_append_iff.1 h1
  obtain ⟨s1, s2, rfl, hx, hp⟩ := List.sublist_append_iff.1 h12
  have h := sub_le_lcs (a := x ++ y) (b := b) (s := s1 ++ s3) (List.Sublist.append hx hy) (by
    refine List.Sublist.trans ?_ h2
    exact List.Sublist.append (List.sublist_append_left _ _) (List.Sublist.refl _))
  have := hp.length_le
  simp only [List.length_append] at *
  omega
theorem lcs_le_append (x p y b : List α) : lcs (x ++ y) b ≤ lcs (x ++ p ++ y) b :=
  lcs_mono (List.Sublist.append (List.sublist_append_left _ _) (List.Sublist.refl _)) (List.Sublist.refl _)
theorem lcs_snoc (c : α) (a b : List α) : lcs (a ++ [c]) (b ++ [c]) = lcs a b + 1 := by
  obtain ⟨s, h1, h2, h3⟩ := lcs_sub a b
  have g := sub_le_lcs (List.Sublist.append h1 (List.Sublist.refl [c])) (List.Sublist.append h2 (List.Sublist.refl [c]))
  obtain ⟨t, g1, g2, g3⟩ := lcs_sub (a ++ [c]) (b ++ [c])
  obtain ⟨t1, t2, rfl, ha, hc⟩ := List.sublist_append_iff.1 g1
  have hc' := hc.length_le
  simp only [List.length_append, List.length_cons, List.length_nil] at *
  -- the shortened sequence lies in both
  have key : ∃ u : List α, u.Sublist a ∧ u.Sublist b ∧ t1.length + t2.length ≤ u.length + 1 := by
    rcases List.eq_nil_or_concat (t1 ++ t2) with h | ⟨u, z, h⟩
    · exact ⟨[], List.nil_sublist _, List.nil_sublist _, by have := congrArg List.length h; simp only [List.length_append, List.length_nil] at this ⊢; omega⟩
    · refine ⟨u, ?_, ?_, by have := congrArg List.length h; simp only [List.length_append, List.concat_eq_append, List.length_cons, List.length_nil] at this; omega⟩
      · rw [h] at g1
        have hl := g1
        rw [List.concat_eq_append] at hl
        have := List.Sublist.reverse hl
        simp only [List.reverse_append, List.reverse_cons, List.reverse_nil, List.nil_append, List.singleton_append] at this
        have h' : u.reverse.Sublist a.reverse := by
          cases this with
          | cons _ q => exact (List.sublist_cons_self _ _).trans q
          | cons_cons _ q => exact q
        simpa using List.Sublist.reverse h'
      · rw [h] at g2
        have hl := g2
        rw [List.concat_eq_append] at hl
        have := List.Sublist.reverse hl
        simp only [List.reverse_append, List.reverse_cons, List.reverse_nil, List.nil_append, List.singleton_append] at this
        have h' : u.reverse.Sublist b.reverse := by
          cases this with
          | cons _ q => exact (List.sublist_cons_self _ _).trans q
          | cons_cons _ q => exact q
        simpa using List.Sublist.reverse h'
  obtain ⟨u, u1, u2, u3⟩ := key
  have := sub_le_lcs u1 u2
  omega
/-- the distance -/
def dist (a b : List α) : Nat := a.length + b.length - 2 * lcs a b
theorem dist_insert (a x p y : List α) : dist a (x ++ p ++ y) ≤ dist a (x ++ y) + p.length := by
  unfold dist
  have h1 := lcs_le_append x p y a; rw [lcs_comm (x ++ y), lcs_comm (x ++ p ++ y)] at h1
  simp only [List.length_append]; omega
theorem dist_delete (a x p y : List α) : dist a (x ++ y) ≤ dist a (x ++ p ++ y) + p.length := by
  unfold dist
  have h1 := lcs_append_le x p y a; rw [lcs_comm (x ++ y), lcs_comm (x ++ p ++ y)] at h1
  have := lcs_le_left a (x ++ y); have := lcs_le_right a (x ++ y)
  have := lcs_le_left a (x ++ p ++ y); have := lcs_le_right a (x ++ p ++ y)
  simp only [List.length_append] at *; omega
end Cd
