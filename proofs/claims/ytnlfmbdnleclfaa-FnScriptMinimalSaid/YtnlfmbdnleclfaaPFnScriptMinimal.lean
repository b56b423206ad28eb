import Derived.Laws.BitsLemmas
import Derived.Test.YtnlfmbdnleclfaaWB
import Derived.Test.YtnlfmbdnleclfaaQ0
import Derived.Test.YtnlfmbdnleclfaaQ13
import Derived.Test.YtnlfmbdnleclfaaQ17
import Derived.Test.YtnlfmbdnleclfaaQ18
import Derived.Test.YtnlfmbdnleclfaaQ19
import Derived.Test.YtnlfmbdnleclfaaQ2
import Derived.Test.YtnlfmbdnleclfaaQ20
import Derived.Test.YtnlfmbdnleclfaaQ21
import Derived.Test.YtnlfmbdnleclfaaQ26
import Derived.Test.YtnlfmbdnleclfaaQ27
import Derived.Test.YtnlfmbdnleclfaaQ28
import Derived.Test.YtnlfmbdnleclfaaQ29
import Derived.Test.YtnlfmbdnleclfaaQ3
import Derived.Test.YtnlfmbdnleclfaaQ30
import Derived.Test.YtnlfmbdnleclfaaQ31
import Derived.Test.YtnlfmbdnleclfaaQ40d
import Derived.Test.YtnlfmbdnleclfaaQ42
import Derived.Test.YtnlfmbdnleclfaaQ43
import Derived.Test.YtnlfmbdnleclfaaQ44
import Derived.Test.YtnlfmbdnleclfaaQ48
import Derived.Test.YtnlfmbdnleclfaaQ49
import Derived.Test.YtnlfmbdnleclfaaQ5
import Derived.Test.YtnlfmbdnleclfaaQ50
import Derived.Test.YtnlfmbdnleclfaaQ55
set_option linter.unusedVariables false
set_option linter.unusedSimpArgs false
set_option linter.unusedSectionVars false
namespace Cd
variable {α : Type} [DecidableEq α]
def lcs : List α → List α → Nat
  | [], _ => 0
  | _ :: _, [] => 0
  | a :: aa, b :: bb => if a = b then lcs aa bb + 1 else max (lcs aa (b :: bb)) (lcs (a :: aa) bb)
termination_by a b => a.length + b.length
theorem lcs_nil_left (b : List α) : lcs [] b = 0 := by unfold lcs; rfl
theorem lcs_nil_right (a : List α) : lcs a [] = 0 := by cases a <;> (unfold lcs; rfl)
theorem lcs_eq (a : α) (aa bb : List α) : lcs (a :: aa) (a :: bb) = lcs aa bb + 1 := by
  rw [lcs, if_pos rfl]
theorem lcs_ne {a b : α} (h : a ≠ b) (aa bb : List α) : lcs (a :: aa) (b :: bb) = max (lcs aa (b :: bb)) (lcs (a :: aa) bb) := by
  rw [lcs, if_neg h]
theorem lcs_ge : ∀ (n : Nat) (a b s : List α), a.length + b.length ≤ n → s.Sublist a → s.Sublist b → s.length ≤ lcs a b := by
  intro n
  induction n with
  | zero =>
    intro a b s hn ha hb
    have h1 : a = [] := List.eq_nil_of_length_eq_zero (by omega)
    subst h1
    have := List.sublist_nil.1 ha
    subst this; simp
  | succ n ih =>
    intro a b s hn ha hb
    match a, b, s with
    | [], _, s => have := List.sublist_nil.1 ha; subst this; simp
    | _ :: _, [], s => have := List.sublist_nil.1 hb; subst this; simp
    | _, _, [] => simp
    | x :: aa, y :: bb, c :: s =>
      simp only [List.length_cons] at hn
      by_cases h : x = y
      · subst h
        rw [lcs_eq]
        have h1 : s.Sublist aa := by
          cases ha with
          | cons _ h => exact (List.sublist_cons_self c s).trans h
          | cons_cons _ h => exact h
        have h2 : s.Sublist bb := by
          cases hb with
          | cons _ h => exact (List.sublist_cons_self c s).trans h
          | cons_cons _ h => exact h
        have := ih aa bb s (by omega) h1 h2
        simp; omega
      · rw [lcs_ne h]
        cases ha with
        | cons _ h1 =>
          have := ih aa (y :: bb) (c :: s) (by simp; omega) h1 hb
          omega
        | cons_cons _ h1 =>
          cases hb with
          | cons _ h2 =>
            have := ih (x :: aa) bb (x :: s) (by simp; omega) (List.Sublist.cons_cons x h1) h2
            omega
          | cons_cons _ h2 => exact absurd rfl h
theorem lcs_get : ∀ (n : Nat) (a b : List α), a.length + b.length ≤ n → ∃ s : List α, s.Sublist a ∧ s.Sublist b ∧ s.length = lcs a b := by
  intro n
  induction n with
  | zero =>
    intro a b hn
    have h1 : a = [] := List.eq_nil_of_length_eq_zero (by omega)
    subst h1
    exact ⟨[], List.Sublist.refl _, List.nil_sublist _, by rw [lcs_nil_left]; rfl⟩
  | succ n ih =>
    intro a b hn
    match a, b with
    | [], b => exact ⟨[], List.Sublist.refl _, List.nil_sublist _, by rw [lcs_nil_left]; rfl⟩
    | x :: aa, [] => exact ⟨[], List.nil_sublist _, List.Sublist.refl _, by rw [lcs_nil_right]; rfl⟩
    | x :: aa, y :: bb =>
      simp only [List.length_cons] at hn
      by_cases h : x = y
      · subst h
        obtain ⟨s, h1, h2, h3⟩ := ih aa bb (by omega)
        exact ⟨x :: s, List.Sublist.cons_cons x h1, List.Sublist.cons_cons x h2, by rw [lcs_eq]; simp [h3]⟩
      · rw [lcs_ne h]
        obtain ⟨s, h1, h2, h3⟩ := ih aa (y :: bb) (by simp; omega)
        obtain ⟨t, g1, g2, g3⟩ := ih (x :: aa) bb (by simp; omega)
        by_cases hm : lcs aa (y :: bb) ≤ lcs (x :: aa) bb
        · exact ⟨t, g1, List.Sublist.cons y g2, by omega⟩
        · exact ⟨s, List.Sublist.cons x h1, h2, by omega⟩
theorem sub_le_lcs {a b s : List α} (ha : s.Sublist a) (hb : s.Sublist b) : s.length ≤ lcs a b := lcs_ge _ a b s (Nat.le_refl _) ha hb
theorem lcs_sub (a b : List α) : ∃ s : List α, s.Sublist a ∧ s.Sublist b ∧ s.length = lcs a b := lcs_get _ a b (Nat.le_refl _)
theorem lcs_le_left (a b : List α) : lcs a b ≤ a.length := by
  obtain ⟨s, h1, _, h3⟩ := lcs_sub a b; have := h1.length_le; omega
theorem lcs_le_right (a b : List α) : lcs a b ≤ b.length := by
  obtain ⟨s, _, h2, h3⟩ := lcs_sub a b; have := h2.length_le; omega
theorem lcs_comm (a b : List α) : lcs a b = lcs b a := by
  obtain ⟨s, h1, h2, h3⟩ := lcs_sub a b
  obtain ⟨t, g1, g2, g3⟩ := lcs_sub b a
  have := sub_le_lcs h2 h1; have := sub_le_lcs g2 g1; omega
theorem lcs_self (a : List α) : lcs a a = a.length := by
  have := sub_le_lcs (List.Sublist.refl a) (List.Sublist.refl a); have := lcs_le_left a a; omega
theorem lcs_mono {a a' b b' : List α} (ha : a.Sublist a') (hb : b.Sublist b') : lcs a b ≤ lcs a' b' := by
  obtain ⟨s, h1, h2, h3⟩ := lcs_sub a b; have := sub_le_lcs (h1.trans ha) (h2.trans hb); omega
theorem lcs_append_le (x p y b : List α) : lcs (x ++ p ++ y) b ≤ lcs (x ++ y) b + p.length := by
  obtain ⟨s, h1, h2, h3⟩ := lcs_sub (x ++ p ++ y) b
  obtain ⟨s12, s3, rfl, h12, hy⟩ := List.sublist_append_iff.1 h1
  obtain ⟨s1, s2, rfl, hx, hp⟩ := List.sublist_append_iff.1 h12
  have h := sub_le_lcs (a := x ++ y) (b := b) (s := s1 ++ s3) (List.Sublist.append hx hy) (by
    refine List.Sublist.trans ?_ h2
    exact List.Sublist.append (List.sublist_append_left _ _) (List.Sublist.refl _))
  have := hp.length_le
  simp only [List.length_append] at *
  omega
theorem lcs_le_append (x p y b : List α) : lcs (x ++ y) b ≤ lcs (x ++ p ++ y) b :=
  lcs_mono (List.Sublist.append (List.sublist_append_left _ _) (List.Sublist.refl _)) (List.Sublist.refl _)
def dist (a b : List α) : Nat := a.length + b.length - 2 * lcs a b
theorem dist_insert (a x p y : List α) : dist a (x ++ p ++ y) ≤ dist a (x ++ y) + p.length := by
  unfold dist
  have h1 := lcs_le_append x p y a; rw [lcs_comm (x ++ y), lcs_comm (x ++ p ++ y)] at h1
  simp only [List.length_append]; omega
theorem dist_delete (a x p y : List α) : dist a (x ++ y) ≤ dist a (x ++ p ++ y) + p.length := by
  unfold dist
  have h1 := lcs_append_le x p y a; rw [lcs_comm (x ++ y), lcs_comm (x ++ p ++ y)] at h1
  have := lcs_le_left a (x ++ y); have := lcs_le_right a (x ++ y)
  have := lcs_le_left a (x ++ p ++ y); have := lcs_le_right a (x ++ p ++ y)
  simp only [List.length_append] at *; omega
end Cd
namespace Go.Proofs.Ytnlfmbdnleclfaa.Q
open Go.RowKit Go.Proofs.YtnlfmbdnleclfaaW.PrintWords Go.Proofs.YtnlfmbdnleclfaaW.PrintLast Go.Proofs.YtnlfmbdnleclfaaW.PrintMore
theorem Ev.pos {α : Type} {c : Prop} [Decidable c] {A B : Nat → Option α} {r : α} (h : c) (e : Ev A r) : Ev (fun k => if c then A k else B k) r := by
  obtain ⟨K, e⟩ := e
  exact ⟨K, fun k hk => by simp only [if_pos h]; exact e k hk⟩
theorem Ev.neg {α : Type} {c : Prop} [Decidable c] {A B : Nat → Option α} {r : α} (h : ¬ c) (e : Ev B r) : Ev (fun k => if c then A k else B k) r := by
  obtain ⟨K, e⟩ := e
  exact ⟨K, fun k hk => by simp only [if_neg h]; exact e k hk⟩
theorem Ev.bindv {α β : Type} {g : Option α} {f : Nat → α → Option β} {a : α} {r : β} (h : g = some a) (k : Ev (fun n => f n a) r) : Ev (fun n => g.bind (f n)) r := by
  subst h; exact k
theorem w64 {n : Int} (h0 : -9223372036854775808 ≤ n) (h1 : n ≤ 9223372036854775807) : wrap64 n = n := by unfold wrap64; omega
theorem Ev.eqr {α : Type} {A : Nat → Option α} {r r' : α} (h : Ev A r') (e : r' = r) : Ev A r := e ▸ h
theorem getD_set_self {α : Type} {d : α} {l : List α} {i : Nat} {v : α} (h : i < l.length) : (l.set i v).getD i d = v := by
  simp [List.getD, h]
theorem getD_set_ne {α : Type} {d : α} {l : List α} {i j : Nat} {v : α} (h : i ≠ j) : (l.set i v).getD j d = l.getD j d := by
  simp [List.getD, h]
theorem getD_repl {α : Type} (n m : Nat) (v : α) : (List.replicate n v).getD m v = v := by
  simp only [List.getD, List.getElem?_replicate]; split <;> rfl
theorem ext_getD {α : Type} {d : α} {l m : List α} (hl : l.length = m.length) (h : ∀ i, i < l.length → l.getD i d = m.getD i d) : l = m := by
  refine List.ext_getElem hl fun i h1 h2 => ?_
  have := h i h1
  simpa [List.getD, h1, h2] using this
abbrev by_ (a : ByteArray) : List UInt8 := a.data.toList
theorem by_len (a : ByteArray) : (by_ a).length = a.size := data_length a
theorem bt_get (a : ByteArray) (i : Nat) (h : i < a.size) : bt a (i : Int) = (((by_ a)[i]'(by rw [by_len]; exact h)).toNat : Int) := by
  unfold bt
  rw [dif_pos (by simpa using h)]
  rfl
def L (a b : ByteArray) (i k : Nat) : Int := (Cd.lcs ((by_ a).drop i) ((by_ b).drop k) : Nat)
theorem L_eq {a b : ByteArray} {i k : Nat} (hi : i < a.size) (hk : k < b.size) (h : bt a i = bt b k) : L a b i k = L a b (i + 1) (k + 1) + 1 := by
  rw [bt_get a i hi, bt_get b k hk] at h
  have h' : (by_ a)[i]'(by rw [by_len]; exact hi) = (by_ b)[k]'(by rw [by_len]; exact hk) := UInt8.toNat_inj.1 (by omega)
  unfold L
  rw [List.drop_eq_getElem_cons (by rw [by_len]; exact hi : i < (by_ a).length), List.drop_eq_getElem_cons (by rw [by_len]; exact hk : k < (by_ b).length), h', Cd.lcs_eq]
  omega
theorem L_ne {a b : ByteArray} {i k : Nat} (hi : i < a.size) (hk : k < b.size) (h : bt a i ≠ bt b k) : L a b i k = mx (L a b (i + 1) k) (L a b i (k + 1)) := by
  rw [bt_get a i hi, bt_get b k hk] at h
  have h' : (by_ a)[i]'(by rw [by_len]; exact hi) ≠ (by_ b)[k]'(by rw [by_len]; exact hk) := fun e => h (by rw [e])
  unfold L mx
  rw [List.drop_eq_getElem_cons (by rw [by_len]; exact hi : i < (by_ a).length), List.drop_eq_getElem_cons (by rw [by_len]; exact hk : k < (by_ b).length), Cd.lcs_ne h']
  split <;> omega
theorem L_end (a b : ByteArray) {i k : Nat} (h : a.size ≤ i ∨ b.size ≤ k) : L a b i k = 0 := by
  unfold L
  rcases h with h | h
  · rw [List.drop_of_length_le (by rw [by_len]; exact h), Cd.lcs_nil_left]; rfl
  · rw [List.drop_of_length_le (by rw [by_len]; exact h : (by_ b).length ≤ k), Cd.lcs_nil_right]; rfl
theorem L_bound (a b : ByteArray) (i k : Nat) : 0 ≤ L a b i k ∧ L a b i k ≤ a.size := by
  unfold L
  have := Cd.lcs_le_left ((by_ a).drop i) ((by_ b).drop k)
  rw [List.length_drop, by_len] at this
  omega
def rowL (a b : ByteArray) (i : Nat) : List Int := (List.range (b.size + 1)).map (L a b i)
theorem rowL_len (a b : ByteArray) (i : Nat) : (rowL a b i).length = b.size + 1 := by simp [rowL]
theorem rowL_get (a b : ByteArray) (i k : Nat) (h : k ≤ b.size) : (rowL a b i).getD k 0 = L a b i k := by
  simp [rowL, List.getD, show k < b.size + 1 by omega]
def tabL (a b : ByteArray) : List (List Int) := (List.range (a.size + 1)).map (rowL a b)
theorem tabL_len (a b : ByteArray) : (tabL a b).length = a.size + 1 := by simp [tabL]
theorem tabL_get (a b : ByteArray) (i : Nat) (h : i ≤ a.size) : (tabL a b).getD i [] = rowL a b i := by
  simp [tabL, List.getD, show i < a.size + 1 by omega]
theorem rd_nat (xs : List Int) (i : Nat) : rd xs (i : Int) = xs.getD i 0 := by unfold rd; rw [Int.toNat_natCast]
theorem rdL_nat (xs : List (List Int)) (i : Nat) : rd_L1 xs (i : Int) = xs.getD i [] := by unfold rd_L1; rw [Int.toNat_natCast]
theorem spec_inner (a b : ByteArray) (ha : a.size ≤ 60) (hb : b.size ≤ 60) (i : Nat) (hi : i < a.size) (r : List (List Int)) : ∀ (j : Nat) (T : List (List Int)), j ≤ b.size → T.length = a.size + 1 →
    T.getD (i + 1) [] = rowL a b (i + 1) → (T.getD i []).length = b.size + 1 → (∀ m, j ≤ m → m ≤ b.size → (T.getD i []).getD m 0 = L a b i m) →
    Ev (fun k => spec_lcsTable.l0 k a b (T.set i (rowL a b i)) ((i : Int) - 1)) r → Ev (fun k => spec_lcsTable.l1 k a b T i ((j : Int) - 1)) r := by
  intro j
  induction j with
  | zero =>
    intro T hj hT h1 h2 h3 he
    refine Ev.step (fun k => by rw [spec_lcsTable.l1]) ?_
    refine Ev.neg (by omega) ?_
    refine Ev.step (fun k => by rw [spec_lcsTable.j2]) ?_
    refine Ev.neg (by simp) ?_
    rw [w64 (by omega) (by omega)]
    have e : T.set i (rowL a b i) = T := by
      have : T.getD i [] = rowL a b i := ext_getD (d := 0) (by rw [h2, rowL_len]) fun m hm => by
        rw [h3 m (by omega) (by omega), rowL_get _ _ _ _ (by omega)]
      refine ext_getD (d := []) (by simp) fun m hm => ?_
      rw [List.length_set] at hm
      by_cases hmi : i = m
      · subst hmi; rw [getD_set_self hm, this]
      · rw [getD_set_ne hmi]
    rw [e] at he
    exact he
  | succ j ih =>
    intro T hj hT h1 h2 h3 he
    have hlb := fun i k => L_bound a b i k
    refine Ev.step (fun k => by rw [spec_lcsTable.l1]) ?_
    refine Ev.pos (by omega) ?_
    have ej : ((j + 1 : Nat) : Int) - 1 = (j : Int) := by omega
    have ei : wrap64 ((i : Int) + 1) = ((i + 1 : Nat) : Int) := by rw [w64 (by omega) (by omega)]; rfl
    have ek : wrap64 ((j : Int) + 1) = ((j + 1 : Nat) : Int) := by rw [w64 (by omega) (by omega)]; rfl
    have em : wrap64 ((j : Int) - 1) = (j : Int) - 1 := w64 (by omega) (by omega)
    rw [ej, show decide ((i : Int) < (a.size : Int)) = true from decide_eq_true (by omega)]
    refine Ev.step (fun k => by rw [spec_lcsTable.j2]) ?_
    simp only [ei, ek, em, rdL_nat, rd_nat]
    refine Ev.pos trivial (Ev.pos (by omega) (Ev.pos (by omega) (Ev.pos (by omega) (Ev.pos (by omega) ?_))))
    have hget : (T.getD i []).getD (j + 1) 0 = L a b i (j + 1) := h3 _ (by omega) (by omega)
    have key : ∀ v, v = L a b i j → Ev (fun k => spec_lcsTable.l1 k a b (T.set (i : Int).toNat ((T.getD i []).set (j : Int).toNat v)) i ((j : Int) - 1)) r := by
      intro v hv
      rw [Int.toNat_natCast, Int.toNat_natCast]
      refine ih _ (by omega) (by simpa using hT) ?_ ?_ ?_ ?_
      · rw [getD_set_ne (by omega)]; exact h1
      · rw [getD_set_self (by omega)]; simpa using h2
      · intro m hm1 hm2
        rw [getD_set_self (by omega)]
        by_cases hmj : j = m
        · subst hmj; rw [getD_set_self (by omega)]; exact hv
        · rw [getD_set_ne hmj]; exact h3 m (by omega) hm2
      · rw [List.set_set]; exact he
    by_cases hc : bt a i = bt b j
    · refine Ev.pos hc (Ev.pos (by omega) (Ev.pos (by omega) (Ev.pos (by omega) (Ev.pos (by omega) ?_))))
      rw [h1]
      refine Ev.pos (by rw [rowL_len]; omega) (Ev.pos (by omega) ?_)
      refine key _ ?_
      rw [rowL_get _ _ _ _ (by omega), w64 (by have := hlb (i + 1) (j + 1); omega) (by have := hlb (i + 1) (j + 1); omega), L_eq hi (by omega) hc]
    · refine Ev.neg hc (Ev.pos (by omega) (Ev.pos (by omega) (Ev.pos (by omega) ?_)))
      rw [h1]
      refine Ev.pos (by rw [rowL_len]; omega) (Ev.pos (by omega) (Ev.pos (by omega) (Ev.pos (by omega) ?_)))
      refine key _ ?_
      rw [rowL_get _ _ _ _ (by omega), hget, L_ne hi (by omega) hc]
theorem zrow_len (b : ByteArray) (hb : b.size ≤ 60) : wrap64 ((b.size : Int) + 1) = ((b.size + 1 : Nat) : Int) := by rw [w64 (by omega) (by omega)]; rfl
theorem spec_outer (a b : ByteArray) (ha : a.size ≤ 60) (hb : b.size ≤ 60) : ∀ (i : Nat) (T : List (List Int)), i ≤ a.size + 1 → T.length = a.size + 1 →
    (∀ m, i ≤ m → m ≤ a.size → T.getD m [] = rowL a b m) → Ev (fun k => spec_lcsTable.l0 k a b T ((i : Int) - 1)) (tabL a b) := by
  intro i
  induction i with
  | zero =>
    intro T _ hT h
    refine Ev.step (fun k => by rw [spec_lcsTable.l0]) ?_
    refine Ev.neg (by omega) (Ev.eqr (Ev.now _) ?_)
    exact ext_getD (d := []) (by rw [hT, tabL_len]) fun m hm => by rw [h m (by omega) (by omega), tabL_get _ _ _ (by omega)]
  | succ i ih =>
    intro T hi hT h
    have ei : ((i + 1 : Nat) : Int) - 1 = (i : Int) := by omega
    have ew : wrap64 ((i : Int) - 1) = (i : Int) - 1 := w64 (by omega) (by omega)
    rw [ei]
    refine Ev.step (fun k => by rw [spec_lcsTable.l0]) ?_
    simp only [zrow_len b hb, Int.toNat_natCast]
    refine Ev.pos (by omega) (Ev.pos (by omega) (Ev.pos (by omega) (Ev.pos (by omega) (Ev.pos (by omega) ?_))))
    rw [w64 (n := (b.size : Int) - 1) (by omega) (by omega)]
    have hz : (T.set i (List.replicate (b.size + 1) 0)).getD i [] = List.replicate (b.size + 1) 0 := getD_set_self (by omega)
    have fin : ∀ T', T'.length = a.size + 1 → (∀ m, i ≤ m → m ≤ a.size → T'.getD m [] = rowL a b m) → Ev (fun k => spec_lcsTable.l0 k a b T' ((i : Int) - 1)) (tabL a b) :=
      fun T' h1 h2 => ih T' (by omega) h1 h2
    by_cases hia : i < a.size
    · refine spec_inner a b ha hb i hia _ b.size _ (Nat.le_refl _) (by simpa using hT) ?_ ?_ ?_ ?_
      · rw [getD_set_ne (by omega)]; exact h _ (Nat.le_refl _) (by omega)
      · rw [hz]; simp
      · intro m h1 h2; rw [hz, L_end a b (.inr h1), getD_repl]
      · rw [List.set_set]
        refine fin _ (by simpa using hT) fun m h1 h2 => ?_
        by_cases hmi : i = m
        · subst hmi; rw [getD_set_self (by omega)]
        · rw [getD_set_ne hmi]; exact h m (by omega) h2
    · refine Ev.step (fun k => by rw [spec_lcsTable.l1]) ?_
      have hz0 : List.replicate (b.size + 1) 0 = rowL a b i := ext_getD (d := 0) (by simp [rowL_len]) fun m hm => by
        rw [List.length_replicate] at hm
        rw [rowL_get _ _ _ _ (by omega), L_end a b (.inl (by omega)), getD_repl]
      have fin' : Ev (fun k => spec_lcsTable.j2 k a b (T.set i (List.replicate (b.size + 1) 0)) i ((b.size : Int) - 1) false) (tabL a b) := by
        refine Ev.step (fun k => by rw [spec_lcsTable.j2]) ?_
        refine Ev.neg (by simp) ?_
        rw [ew]
        refine fin _ (by simpa using hT) fun m h1 h2 => ?_
        by_cases hmi : i = m
        · subst hmi; rw [getD_set_self (by omega), hz0]
        · rw [getD_set_ne hmi]; exact h m (by omega) h2
      by_cases hb0 : (b.size : Int) - 1 ≥ 0
      · refine Ev.pos hb0 ?_
        rw [show decide ((i : Int) < (a.size : Int)) = false from decide_eq_false (by omega)]
        exact fin'
      · exact Ev.neg hb0 fin'
theorem spec_table (a b : ByteArray) (ha : a.size ≤ 60) (hb : b.size ≤ 60) : Ev (fun k => spec_lcsTable.f k a b) (tabL a b) := by
  unfold spec_lcsTable.f
  simp only [zrow_len a ha, Int.toNat_natCast]
  refine Ev.pos (by omega) (Ev.pos (by omega) ?_)
  have := spec_outer a b ha hb (a.size + 1) (List.replicate (a.size + 1) []) (Nat.le_refl _) (by simp) (fun m h1 h2 => by omega)
  rw [show ((a.size + 1 : Nat) : Int) - 1 = (a.size : Int) by omega] at this
  exact this
theorem impl_inner (a b : ByteArray) (ha : a.size ≤ 60) (hb : b.size ≤ 60) (i : Nat) (hi : i < a.size) (r : List (List Int)) : ∀ (j : Nat) (T : List (List Int)), j ≤ b.size → T.length = a.size + 1 →
    T.getD (i + 1) [] = rowL a b (i + 1) → (T.getD i []).length = b.size + 1 → (∀ m, j ≤ m → m ≤ b.size → (T.getD i []).getD m 0 = L a b i m) →
    Ev (fun k => impl_commonTable.l1 k a b (T.set i (rowL a b i)) ((i : Int) - 1)) r → Ev (fun k => impl_commonTable.l2 k a b T i ((j : Int) - 1)) r := by
  intro j
  induction j with
  | zero =>
    intro T hj hT h1 h2 h3 he
    refine Ev.step (fun k => by rw [impl_commonTable.l2]) ?_
    refine Ev.neg (by omega) ?_
    rw [w64 (by omega) (by omega)]
    have e : T.set i (rowL a b i) = T := by
      have : T.getD i [] = rowL a b i := ext_getD (d := 0) (by rw [h2, rowL_len]) fun m hm => by
        rw [h3 m (by omega) (by omega), rowL_get _ _ _ _ (by omega)]
      refine ext_getD (d := []) (by simp) fun m hm => ?_
      rw [List.length_set] at hm
      by_cases hmi : i = m
      · subst hmi; rw [getD_set_self hm, this]
      · rw [getD_set_ne hmi]
    rw [e] at he
    exact he
  | succ j ih =>
    intro T hj hT h1 h2 h3 he
    have hlb := fun i k => L_bound a b i k
    have ej : ((j + 1 : Nat) : Int) - 1 = (j : Int) := by omega
    have ei : wrap64 ((i : Int) + 1) = ((i + 1 : Nat) : Int) := by rw [w64 (by omega) (by omega)]; rfl
    have ek : wrap64 ((j : Int) + 1) = ((j + 1 : Nat) : Int) := by rw [w64 (by omega) (by omega)]; rfl
    have em : wrap64 ((j : Int) - 1) = (j : Int) - 1 := w64 (by omega) (by omega)
    rw [ej]
    refine Ev.step (fun k => by rw [impl_commonTable.l2]) ?_
    simp only [ei, ek, em, rdL_nat, rd_nat]
    refine Ev.pos (by omega) (Ev.pos (by omega) (Ev.pos (by omega) (Ev.pos (by omega) (Ev.pos (by omega) ?_))))
    have hget : (T.getD i []).getD (j + 1) 0 = L a b i (j + 1) := h3 _ (by omega) (by omega)
    have key : ∀ v, v = L a b i j → Ev (fun k => impl_commonTable.l2 k a b (T.set (i : Int).toNat ((T.getD i []).set (j : Int).toNat v)) i ((j : Int) - 1)) r := by
      intro v hv
      rw [Int.toNat_natCast, Int.toNat_natCast]
      refine ih _ (by omega) (by simpa using hT) ?_ ?_ ?_ ?_
      · rw [getD_set_ne (by omega)]; exact h1
      · rw [getD_set_self (by omega)]; simpa using h2
      · intro m hm1 hm2
        rw [getD_set_self (by omega)]
        by_cases hmj : j = m
        · subst hmj; rw [getD_set_self (by omega)]; exact hv
        · rw [getD_set_ne hmj]; exact h3 m (by omega) hm2
      · rw [List.set_set]; exact he
    by_cases hc : bt a i = bt b j
    · refine Ev.pos hc (Ev.pos (by omega) (Ev.pos (by omega) (Ev.pos (by omega) (Ev.pos (by omega) ?_))))
      rw [h1]
      refine Ev.pos (by rw [rowL_len]; omega) (Ev.pos (by omega) ?_)
      refine key _ ?_
      rw [rowL_get _ _ _ _ (by omega), w64 (by have := hlb (i + 1) (j + 1); omega) (by have := hlb (i + 1) (j + 1); omega), L_eq hi (by omega) hc]
    · refine Ev.neg hc (Ev.pos (by omega) (Ev.pos (by omega) (Ev.pos (by omega) ?_)))
      rw [h1]
      refine Ev.pos (by rw [rowL_len]; omega) (Ev.pos (by omega) (Ev.pos (by omega) (Ev.pos (by omega) ?_)))
      refine key _ ?_
      rw [rowL_get _ _ _ _ (by omega), hget, L_ne hi (by omega) hc]
theorem impl_outer (a b : ByteArray) (ha : a.size ≤ 60) (hb : b.size ≤ 60) : ∀ (i : Nat) (T : List (List Int)), i ≤ a.size → T.length = a.size + 1 →
    (∀ m, i ≤ m → m ≤ a.size → T.getD m [] = rowL a b m) → (∀ m, m < i → T.getD m [] = List.replicate (b.size + 1) 0) → Ev (fun k => impl_commonTable.l1 k a b T ((i : Int) - 1)) (tabL a b) := by
  intro i
  induction i with
  | zero =>
    intro T _ hT h _
    refine Ev.step (fun k => by rw [impl_commonTable.l1]) ?_
    refine Ev.neg (by omega) (Ev.eqr (Ev.now _) ?_)
    exact ext_getD (d := []) (by rw [hT, tabL_len]) fun m hm => by rw [h m (by omega) (by omega), tabL_get _ _ _ (by omega)]
  | succ i ih =>
    intro T hi hT h hz
    have ei : ((i + 1 : Nat) : Int) - 1 = (i : Int) := by omega
    rw [ei]
    refine Ev.step (fun k => by rw [impl_commonTable.l1]) ?_
    refine Ev.pos (by omega) ?_
    rw [w64 (n := (b.size : Int) - 1) (by omega) (by omega)]
    have hzi := hz i (by omega)
    refine impl_inner a b ha hb i (by omega) _ b.size _ (Nat.le_refl _) hT (h _ (Nat.le_refl _) (by omega)) ?_ ?_ ?_
    · rw [hzi]; simp
    · intro m h1 h2; rw [hzi, L_end a b (.inr h1), getD_repl]
    · refine ih _ (by omega) (by simpa using hT) (fun m h1 h2 => ?_) (fun m h1 => ?_)
      · by_cases hmi : i = m
        · subst hmi; rw [getD_set_self (by omega)]
        · rw [getD_set_ne hmi]; exact h m (by omega) h2
      · rw [getD_set_ne (by omega)]; exact hz m (by omega)
theorem impl_fill (a b : ByteArray) (ha : a.size ≤ 60) (hb : b.size ≤ 60) : ∀ (d i : Nat) (T : List (List Int)), i + d = a.size + 1 → T.length = a.size + 1 →
    (∀ m, m < i → T.getD m [] = List.replicate (b.size + 1) 0) → Ev (fun k => impl_commonTable.l0 k a b T ((a.size + 1 : Nat) : Int) (i : Int)) (tabL a b) := by
  intro d
  induction d with
  | zero =>
    intro i T hi hT hz
    refine Ev.step (fun k => by rw [impl_commonTable.l0]) ?_
    refine Ev.neg (by omega) ?_
    rw [w64 (by omega) (by omega)]
    refine impl_outer a b ha hb a.size T (Nat.le_refl _) hT (fun m h1 h2 => ?_) (fun m h => hz m (by omega))
    rw [hz m (by omega)]
    exact ext_getD (d := 0) (by simp [rowL_len]) fun q hm => by
        rw [List.length_replicate] at hm
        rw [rowL_get _ _ _ _ (by omega), L_end a b (.inl (by omega)), getD_repl]
  | succ d ih =>
    intro i T hi hT hz
    refine Ev.step (fun k => by rw [impl_commonTable.l0]) ?_
    simp only [zrow_len b hb, Int.toNat_natCast]
    refine Ev.pos (by omega) (Ev.pos (by omega) (Ev.pos (by omega) (Ev.pos (by omega) (Ev.pos (by omega) ?_))))
    rw [show wrap64 ((i : Int) + 1) = ((i + 1 : Nat) : Int) by rw [w64 (by omega) (by omega)]; rfl]
    refine ih (i + 1) _ (by omega) (by simpa using hT) fun m h => ?_
    by_cases hmi : i = m
    · subst hmi; rw [getD_set_self (by omega)]
    · rw [getD_set_ne hmi]; exact hz m (by omega)
theorem impl_table (a b : ByteArray) (ha : a.size ≤ 60) (hb : b.size ≤ 60) : Ev (fun k => impl_commonTable.f k a b) (tabL a b) := by
  unfold impl_commonTable.f
  simp only [zrow_len a ha, Int.toNat_natCast]
  refine Ev.pos (by omega) (Ev.pos (by omega) ?_)
  refine Ev.bindv rfl ?_
  have := impl_fill a b ha hb (a.size + 1) 0 (List.replicate (a.size + 1) []) (by omega) (by simp) (fun m h1 => by omega)
  simpa using this

theorem short_ev (a b : ByteArray) : spec_shortTexts.f a b = some (decide (a.size ≤ 60 ∧ b.size ≤ 60)) := by
  unfold spec_shortTexts.f
  by_cases h : a.size ≤ 60
  · rw [if_pos (by omega)]; congr 1; rw [decide_eq_decide]; omega
  · rw [if_neg (by omega)]; congr 1; simp; omega
theorem xor_nonneg (x y : Int) (hx : 0 ≤ x) (hx' : x < 4611686018427387904) (hy : 0 ≤ y) (hy' : y < 4611686018427387904) : 0 ≤ Go.bits .xor .i64 x y := by
  obtain ⟨a, rfl⟩ := Int.eq_ofNat_of_zero_le hx
  obtain ⟨b, rfl⟩ := Int.eq_ofNat_of_zero_le hy
  have ha : a < 2 ^ 62 := by omega
  have hb : b < 2 ^ 62 := by omega
  have hc := Nat.xor_lt_two_pow ha hb
  have ha' : a % 2 ^ IntKind.i64.bits = a := Nat.mod_eq_of_lt (show a < 2 ^ 64 by omega)
  have hb' : b % 2 ^ IntKind.i64.bits = b := Nat.mod_eq_of_lt (show b < 2 ^ 64 by omega)
  simp only [Go.bits, BitVec.ofInt_natCast, BitVec.toNat_xor, BitVec.toNat_ofNat, ha', hb']
  rw [IntKind.wrap_i64]
  omega

def RB (b : List Int) : Prop := (∀ x ∈ b, 0 ≤ x ∧ x ≤ 255) ∧ b.length ≤ 2000
theorem rd_byte {b : List Int} (h : RB b) (i : Int) : 0 ≤ rd b i ∧ rd b i ≤ 255 := by
  unfold rd List.getD
  cases e : b[i.toNat]? with
  | none => simp
  | some v => exact h.1 v (List.mem_of_getElem? e)
theorem pick_ev {b : List Int} (hb : RB b) {p : Int} (hp : 0 ≤ p) (hp' : p ≤ 1000000000) (n : Int) (hn : n ≤ 1000000000) :
    ∃ v, Ev (fun k => spec_reader_pick.f k b p n) (v, p + 1) ∧ 0 ≤ v ∧ (1 ≤ n → v < n) ∧ (n < 1 → v = 0) := by
  unfold spec_reader_pick.f
  have e1 : wrap64 (p + 1) = p + 1 := w64 (by omega) (by omega)
  have e2 : wrap64 (p + 1 - 1) = p := by rw [w64 (by omega) (by omega)]; omega
  have hl := hb.2
  by_cases h1 : n < 1
  · refine ⟨0, Ev.pos h1 (Ev.step (fun k => by rw [spec_reader_pick.j0]) ?_), by omega, by omega, fun _ => rfl⟩
    rw [e1]
    exact Ev.pos rfl (Ev.now _)
  by_cases h2 : b.length = 0
  · refine ⟨0, Ev.neg h1 (Ev.step (fun k => by rw [spec_reader_pick.j0]) ?_), by omega, by omega, fun _ => rfl⟩
    rw [e1]
    exact Ev.pos (by simp [h2]) (Ev.now _)
  have hne : ((b.length : Int) == 0) = false := by simp; intro h; exact h2 (by rw [h]; rfl)
  by_cases h3 : p < (b.length : Int)
  · have hr := rd_byte hb p
    refine ⟨Int.tmod (rd b p) n, Ev.neg h1 (Ev.step (fun k => by rw [spec_reader_pick.j0]) ?_), Int.tmod_nonneg _ hr.1, fun h => Int.tmod_lt_of_pos _ (by omega), by omega⟩
    rw [e1, e2, hne]
    refine Ev.neg (by simp) (Ev.pos h3 (Ev.pos hp (Ev.neg (by omega) ?_)))
    rw [w64 (by omega) (by omega)]
    exact Ev.now _
  · have hlen : (0 : Int) < (b.length : Int) := by omega
    have f1 : wrap64 (p * 7) = p * 7 := w64 (by omega) (by omega)
    have f2 : wrap64 (p * 7 + 3) = p * 7 + 3 := w64 (by omega) (by omega)
    have m1 := Int.tmod_nonneg (b.length : Int) hp
    have m2 := Int.tmod_lt_of_pos p hlen
    have m3 := Int.tmod_nonneg (b.length : Int) (show (0 : Int) ≤ p * 7 + 3 by omega)
    have m4 := Int.tmod_lt_of_pos (p * 7 + 3) hlen
    have r1 := rd_byte hb (Int.tmod p (b.length : Int))
    have r2 := rd_byte hb (Int.tmod (p * 7 + 3) (b.length : Int))
    have q0 : 0 ≤ Int.tdiv p (b.length : Int) := Int.tdiv_nonneg hp (by omega)
    have q1 : Int.tdiv p (b.length : Int) ≤ p := by
      rw [Int.tdiv_eq_ediv_of_nonneg hp]; exact Int.ediv_le_self _ hp
    have go : ∀ k, ∃ v, spec_reader_pick.j0 (k + 1) n false b (p + 1) = spec_reader_pick.j0 1 n false b (p + 1) ∧ spec_reader_pick.j0 1 n false b (p + 1) = some (v, p + 1) ∧ 0 ≤ v ∧ (1 ≤ n → v < n) ∧ (n < 1 → v = 0) := by
      intro k
      simp only [spec_reader_pick.j0, e2, f1, f2, Bool.false_eq_true, if_false, if_neg h3, if_neg (show ¬ (b.length : Int) = 0 by omega), if_pos m1, if_pos m2, if_pos m3, if_pos m4, if_neg (show ¬ n = 0 by omega)]
      generalize rd b (Int.tmod p (b.length : Int)) = x at *
      generalize rd b (Int.tmod (p * 7 + 3) (b.length : Int)) = y at *
      generalize Int.tdiv p (b.length : Int) = z at *
      rw [w64 (n := x) (by omega) (by omega), w64 (n := y) (by omega) (by omega), w64 (n := z) (by omega) (by omega), w64 (n := x * 131) (by omega) (by omega), w64 (n := y * 1117) (by omega) (by omega),
        w64 (n := p * 29) (by omega) (by omega), w64 (n := z * 53) (by omega) (by omega), w64 (n := x * 131 + y * 1117) (by omega) (by omega), w64 (n := x * 131 + y * 1117 + p * 29) (by omega) (by omega),
        w64 (n := x * 131 + y * 1117 + p * 29 + z * 53) (by omega) (by omega)]
      have hs0 : 0 ≤ x * 131 + y * 1117 + p * 29 + z * 53 := by omega
      have hs1 : x * 131 + y * 1117 + p * 29 + z * 53 < 1000000000000 := by omega
      generalize x * 131 + y * 1117 + p * 29 + z * 53 = s at *
      have hd0 : 0 ≤ Int.tdiv s 64 := Int.tdiv_nonneg hs0 (by omega)
      have hd1 : Int.tdiv s 64 ≤ s := by rw [Int.tdiv_eq_ediv_of_nonneg hs0]; exact Int.ediv_le_self _ hs0
      rw [w64 (n := Int.tdiv s 64) (by omega) (by omega)]
      have hx := xor_nonneg s (Int.tdiv s 64) hs0 (by omega) hd0 (by omega)
      exact ⟨_, trivial, rfl, Int.tmod_nonneg _ hx, fun h => Int.tmod_lt_of_pos _ (by omega), by omega⟩
    obtain ⟨v, -, hv, hr⟩ := go 0
    refine ⟨v, Ev.neg h1 ?_, hr⟩
    rw [e1, hne]
    refine Ev.step (f := fun _ => some (v, p + 1)) (fun k => ?_) (Ev.now _)
    obtain ⟨v', h1, h2, -⟩ := go k
    rw [h1, hv]
theorem of_ev {b : List Int} (hb : RB b) {p : Int} (hp : 0 ≤ p) (hp' : p ≤ 1000000000) (l : List ByteArray) (h0 : 1 ≤ l.length) (h1 : l.length ≤ 1000) :
    ∃ s, Ev (fun k => spec_reader_of.f k b p l) (s, p + 1) ∧ s ∈ l := by
  obtain ⟨v, e, v0, v1, -⟩ := pick_ev hb hp hp' (l.length : Int) (by omega)
  have hv := v1 (by omega)
  have hv' : v.toNat < l.length := by omega
  refine ⟨rdOf ByteArray.empty l v, ?_, ?_⟩
  · unfold spec_reader_of.f
    exact Ev.bind e (Ev.pos v0 (Ev.pos hv (Ev.now _)))
  · unfold rdOf List.getD
    rw [List.getElem?_eq_getElem hv']
    exact List.getElem_mem hv'
theorem one_ev {b : List Int} (hb : RB b) {p : Int} (hp : 0 ≤ p) (hp' : p ≤ 1000000000) (l : List Int) (h0 : 1 ≤ l.length) (h1 : l.length ≤ 1000) :
    ∃ s, Ev (fun k => spec_reader_one.f k b p l) (s, p + 1) ∧ s ∈ l := by
  obtain ⟨v, e, v0, v1, -⟩ := pick_ev hb hp hp' (l.length : Int) (by omega)
  have hv := v1 (by omega)
  have hv' : v.toNat < l.length := by omega
  refine ⟨rd l v, ?_, ?_⟩
  · unfold spec_reader_one.f
    exact Ev.bind e (Ev.pos v0 (Ev.pos hv (Ev.now _)))
  · unfold rd List.getD
    rw [List.getElem?_eq_getElem hv']
    exact List.getElem_mem hv'
theorem short_loop {b : List Int} (hb : RB b) : ∀ (n : Nat) (x : ByteArray) (p : Int), 0 ≤ p → p + n ≤ 1000000000 → x.size + 2 * n ≤ 1000 →
    ∃ s, Ev (fun k => spec_shortText.l0 k x (n : Int) b p) (s, p + n) ∧ s.size ≤ x.size + 2 * n := by
  intro n
  induction n with
  | zero =>
    intro x p h0 h1 h2
    exact ⟨x, Ev.step (fun k => by rw [spec_shortText.l0]) (Ev.neg (by omega) (by rw [Int.natCast_zero, Int.add_zero]; exact Ev.now _)), by omega⟩
  | succ n ih =>
    intro x p h0 h1 h2
    obtain ⟨s, e, hs⟩ := of_ev hb h0 (by omega) [(⟨#[97]⟩ : ByteArray), (⟨#[98]⟩ : ByteArray), (⟨#[99]⟩ : ByteArray), (⟨#[97]⟩ : ByteArray), (⟨#[97, 98]⟩ : ByteArray)] (by simp) (by simp)
    have hsz : s.size ≤ 2 := by
      simp only [List.mem_cons, List.not_mem_nil, or_false] at hs
      rcases hs with rfl | rfl | rfl | rfl | rfl <;> decide
    obtain ⟨t, e2, ht⟩ := ih (x ++ s) (p + 1) (by omega) (by omega) (by rw [ByteArray.size_append]; omega)
    refine ⟨t, Ev.step (fun k => by rw [spec_shortText.l0]) (Ev.pos (by omega) (Ev.bind e ?_)), by rw [ByteArray.size_append] at ht; omega⟩
    rw [show wrap64 (((n + 1 : Nat) : Int) - 1) = (n : Int) by rw [w64 (by omega) (by omega)]; omega, show p + ((n + 1 : Nat) : Int) = p + 1 + (n : Int) by omega]
    exact Ev.pos (by dsimp only; omega) e2
theorem shortText_ev {b : List Int} (hb : RB b) {p : Int} (hp : 0 ≤ p) (hp' : p ≤ 900000000) :
    ∃ s p', Ev (fun k => spec_shortText.f k b p) (s, p') ∧ s.size ≤ 22 ∧ p ≤ p' ∧ p' ≤ p + 12 := by
  obtain ⟨v, e, v0, v1, -⟩ := pick_ev hb hp (by omega) 12 (by omega)
  have hv := v1 (by omega)
  obtain ⟨n, rfl⟩ := Int.eq_ofNat_of_zero_le v0
  obtain ⟨s, e2, hs⟩ := short_loop hb n ⟨#[]⟩ (p + 1) (by omega) (by omega) (by rw [show (⟨#[]⟩ : ByteArray).size = 0 from rfl]; omega)
  refine ⟨s, p + 1 + n, ?_, by rw [show (⟨#[]⟩ : ByteArray).size = 0 from rfl] at hs; omega, by omega, by omega⟩
  unfold spec_shortText.f
  exact Ev.bind e e2
theorem twoTexts_ev {b : List Int} (hb : RB b) {p : Int} (hp : 0 ≤ p) (hp' : p ≤ 800000000) :
    ∃ s t p', Ev (fun k => spec_twoTexts.f k b p) (s, t, p') ∧ s.size ≤ 22 ∧ t.size ≤ 61 ∧ p ≤ p' ∧ p' ≤ p + 30 := by
  obtain ⟨s, p1, e1, hs, h1, h1'⟩ := shortText_ev hb hp (by omega)
  obtain ⟨t, p2, e2, ht, h2, h2'⟩ := shortText_ev hb (p := p1) (by omega) (by omega)
  obtain ⟨v, e3, v0, v1, -⟩ := pick_ev hb (p := p2) (by omega) (by omega) 8 (by omega)
  unfold spec_twoTexts.f
  by_cases c0 : v = 0
  · exact ⟨s, s, p2 + 1, Ev.bind e1 (Ev.bind e2 (Ev.bind e3 (Ev.pos c0 (Ev.now _)))), hs, by omega, by omega, by omega⟩
  by_cases c1 : v = 1
  · exact ⟨s, s ++ t, p2 + 1, Ev.bind e1 (Ev.bind e2 (Ev.bind e3 (Ev.neg c0 (Ev.pos c1 (Ev.pos (by dsimp only; omega) (Ev.now _)))))), hs, by rw [ByteArray.size_append]; omega, by omega, by omega⟩
  by_cases c2 : v = 2
  · obtain ⟨u, e4, u0, u1, -⟩ := pick_ev hb (p := p2 + 1) (by omega) (by omega) ((s.size : Int) + 1) (by omega)
    have hu := u1 (by omega)
    have z1 : (s.extract 0 u.toNat).size = u.toNat := by rw [ByteArray.size_extract]; omega
    have z2 : (s.extract u.toNat s.size).size = s.size - u.toNat := by rw [ByteArray.size_extract]; omega
    refine ⟨s, (s.extract 0 u.toNat ++ ⟨#[120]⟩) ++ s.extract u.toNat s.size, p2 + 1 + 1, Ev.bind e1 (Ev.bind e2 (Ev.bind e3 (Ev.neg c0 (Ev.neg c1 (Ev.pos c2 ?_))))), hs, ?_, by omega, by omega⟩
    · dsimp only
      rw [w64 (by omega) (by omega)]
      refine Ev.bind e4 (Ev.pos u0 (Ev.pos (by dsimp only; omega) (Ev.pos ?_ (Ev.pos ?_ (Ev.now _)))))
      · dsimp only; rw [z1]; omega
      · dsimp only; rw [ByteArray.size_append, z1, z2, show (⟨#[120]⟩ : ByteArray).size = 1 from rfl]; omega
    · rw [ByteArray.size_append, ByteArray.size_append, z1, z2, show (⟨#[120]⟩ : ByteArray).size = 1 from rfl]; omega
  by_cases c3 : v = 3
  · exact ⟨s, _, p2 + 1, Ev.bind e1 (Ev.bind e2 (Ev.bind e3 (Ev.neg c0 (Ev.neg c1 (Ev.neg c2 (Ev.pos c3 (Ev.now _))))))), hs, by decide, by omega, by omega⟩
  · exact ⟨s, t, p2 + 1, Ev.bind e1 (Ev.bind e2 (Ev.bind e3 (Ev.neg c0 (Ev.neg c1 (Ev.neg c2 (Ev.neg c3 (Ev.now _))))))), hs, by omega, by omega, by omega⟩
theorem wf_u8 {x : Int} (h : (Lit.int .u8 x).wf = true) : 0 ≤ x ∧ x ≤ 255 := by
  simp [Lit.wf, IntKind.min, IntKind.max, IntKind.signed, IntKind.bits] at h
  omega
theorem newReader_ev (l : List Int) (hl : ∀ x ∈ l, (Lit.int .u8 x).wf = true) : ∃ b, spec_newReader.f l = some (b, 0) ∧ RB b := by
  unfold spec_newReader.f
  by_cases h : (l.length : Int) > 2000
  · refine ⟨l.take 2000, by rw [if_pos h, if_pos (by omega)], fun x hx => wf_u8 (hl x (List.mem_of_mem_take hx)), by rw [List.length_take]; omega⟩
  · exact ⟨l, by rw [if_neg h], fun x hx => wf_u8 (hl x hx), by omega⟩
theorem toList_by (a : ByteArray) : a.toList = by_ a := ByteArray.toList_eq a
theorem by_append (a b : ByteArray) : by_ (a ++ b) = by_ a ++ by_ b := by simp [by_]
theorem by_extract (a : ByteArray) (i j : Nat) : by_ (a.extract i j) = ((by_ a).take j).drop i := by
  simp [by_, ByteArray.data_extract, Array.toList_extract, List.drop_take]
theorem by_take (a : ByteArray) (j : Nat) : by_ (a.extract 0 j) = (by_ a).take j := by rw [by_extract]; rfl
def mkb (l : List UInt8) : ByteArray := ⟨l.toArray⟩
theorem by_mkb (l : List UInt8) : by_ (mkb l) = l := rfl
theorem mkb_size (l : List UInt8) : (mkb l).size = l.length := by rw [← by_len, by_mkb]
theorem eq_mkb {a : ByteArray} {l : List UInt8} (h : by_ a = l) : a = mkb l := by rw [← h]; rfl

def apL (s : List UInt8) (e : S43) : Option (List UInt8) :=
  if e.f2.size = 0 ∨ e.f1 < 0 ∨ e.f1 > s.length then none
  else if e.f0 = 1 then some (s.take e.f1.toNat ++ by_ e.f2 ++ s.drop e.f1.toNat)
  else if e.f0 = 2 then (if (s.drop e.f1.toNat).take e.f2.size = by_ e.f2 then some (s.take e.f1.toNat ++ s.drop (e.f1.toNat + e.f2.size)) else none)
  else none
def run : List UInt8 → List S43 → Option (List UInt8)
  | s, [] => some s
  | s, e :: es => (apL s e).bind fun x => if x.length > 120 then none else run x es
def apS (s : List UInt8) (es : List S43) : Option (List UInt8) := if s.length > 120 ∨ es.length > 120 then none else run s es
def ans : Option (List UInt8) → ByteArray × Bool
  | some l => (mkb l, true)
  | none => (⟨#[]⟩, false)
theorem toList_nil (a : ByteArray) : (a.toList = ([] : List UInt8)) ↔ a.size = 0 := by
  rw [toList_by, ← by_len]; exact List.length_eq_zero_iff.symm
theorem beq_nil (a : ByteArray) : (a.toList == ([] : List UInt8)) = decide (a.size = 0) := by
  rw [Bool.eq_iff_iff, beq_iff_eq, decide_eq_true_iff]; exact toList_nil a
theorem spec_applyEdit_ev (a : ByteArray) (x y : Int) (t : ByteArray) (ha : a.size ≤ 1099511627776) (ht : t.size ≤ 1099511627776) :
    Ev (fun k => spec_applyEdit.f k a x y t) (ans (apL (by_ a) ⟨x, y, t⟩)) := by
  have hr : spec_inRange.f y 0 (a.size : Int) = some (decide (0 ≤ y ∧ y ≤ a.size)) := by
    unfold spec_inRange.f
    by_cases h : 0 ≤ y
    · rw [if_pos h]; congr 1; rw [decide_eq_decide]; omega
    · rw [if_neg (by omega)]; congr 1; simp; omega
  have bad : (t.size = 0 ∨ y < 0 ∨ y > (a.size : Int)) → ∀ b, b = true → Ev (fun k => spec_applyEdit.j0 k a b x y t) (ans (apL (by_ a) ⟨x, y, t⟩)) := by
    intro h b hb
    subst hb
    refine Ev.step (fun k => by rw [spec_applyEdit.j0]) (Ev.pos rfl (Ev.eqr (Ev.now _) ?_))
    unfold apL
    rw [if_pos (by rw [by_len]; exact h)]; rfl
  unfold spec_applyEdit.f
  refine Ev.bindv hr ?_
  by_cases h1 : 0 ≤ y ∧ y ≤ a.size
  · refine Ev.pos (decide_eq_true h1) ?_
    rw [beq_nil]
    by_cases h2 : t.size = 0
    · exact bad (.inl h2) _ (decide_eq_true h2)
    rw [decide_eq_false h2]
    obtain ⟨n, rfl⟩ := Int.eq_ofNat_of_zero_le h1.1
    have z1 : (a.extract 0 n).size = n := by rw [ByteArray.size_extract]; omega
    have z2 : (a.extract n a.size).size = a.size - n := by rw [ByteArray.size_extract]; omega
    have d2 : by_ (a.extract n a.size) = (by_ a).drop n := by rw [by_extract, List.take_of_length_le (by rw [by_len]; omega)]
    have e0 : apL (by_ a) ⟨x, n, t⟩ = (if x = 1 then some ((by_ a).take n ++ by_ t ++ (by_ a).drop n)
        else if x = 2 then (if ((by_ a).drop n).take t.size = by_ t then some ((by_ a).take n ++ (by_ a).drop (n + t.size)) else none) else none) := by
      unfold apL
      rw [if_neg (by rw [by_len]; dsimp only; omega)]; dsimp only; rw [Int.toNat_natCast]
    rw [e0]
    refine Ev.step (fun k => by rw [spec_applyEdit.j0]) (Ev.neg (by simp) ?_)
    rw [Int.toNat_natCast]
    by_cases hx : x = 1
    · refine Ev.pos hx (Ev.pos (by omega) (Ev.pos (by omega) (Ev.pos (by omega) (Ev.pos (by rw [ByteArray.size_append]; omega) (Ev.eqr (Ev.now _) ?_)))))
      rw [if_pos hx]
      refine Prod.ext (eq_mkb ?_) rfl
      rw [by_append, by_append, by_take, d2]
    refine Ev.neg hx ?_
    rw [if_neg hx]
    by_cases hx2 : x = 2
    · refine Ev.pos hx2 ?_
      rw [if_pos hx2, w64 (n := (a.size : Int) - (n : Int)) (by omega) (by omega), w64 (n := (n : Int) + (t.size : Int)) (by omega) (by omega), show (n : Int) + (t.size : Int) = ((n + t.size : Nat) : Int) by omega, Int.toNat_natCast]
      by_cases hs : n + t.size ≤ a.size
      · have d3 : by_ (a.extract n (n + t.size)) = ((by_ a).drop n).take t.size := by rw [by_extract, List.take_drop, Nat.add_comm]
        have z3 : (a.extract (n + t.size) a.size).size = a.size - (n + t.size) := by rw [ByteArray.size_extract]; omega
        have d4 : by_ (a.extract (n + t.size) a.size) = (by_ a).drop (n + t.size) := by rw [by_extract, List.take_of_length_le (by rw [by_len]; omega)]
        refine Ev.pos (by omega) (Ev.pos (by omega) (Ev.pos (by omega) (Ev.pos (by omega) ?_)))
        rw [toList_by, toList_by, d3]
        by_cases hq : ((by_ a).drop n).take t.size = by_ t
        · refine Ev.pos hq (Ev.pos (by omega) (Ev.pos (by omega) (Ev.pos (by omega) (Ev.eqr (Ev.now _) ?_))))
          rw [if_pos hq]
          refine Prod.ext (eq_mkb ?_) rfl
          rw [by_append, by_take, d4]
        · refine Ev.neg hq (Ev.eqr (Ev.now _) ?_)
          rw [if_neg hq]; rfl
      · refine Ev.neg (by omega) (Ev.eqr (Ev.now _) ?_)
        rw [if_neg]
        · rfl
        · intro h
          have := congrArg List.length h
          rw [List.length_take, List.length_drop, by_len, by_len] at this
          omega
    · refine Ev.neg hx2 (Ev.eqr (Ev.now _) ?_)
      rw [if_neg hx2]; rfl
  · rw [decide_eq_false h1]
    exact Ev.neg (by simp) (bad (by omega) _ rfl)
def short (es : List S43) : Prop := ∀ e ∈ es, e.f2.size ≤ 1099511627776
theorem rdT_get (es : List S43) (i : Nat) (h : i < es.length) : rd_T43 es (i : Int) = es[i] := by
  unfold rd_T43 List.getD; rw [Int.toNat_natCast, List.getElem?_eq_getElem h]; rfl
theorem succ64 (i : Nat) (h : i ≤ 4611686018427387904) : wrap64 ((i : Int) + 1) = ((i + 1 : Nat) : Int) := by rw [w64 (by omega) (by omega)]; rfl
theorem spec_run_ev (es : List S43) (hes : es.length ≤ 120) (hsh : short es) : ∀ (d i : Nat) (a : ByteArray), i + d = es.length → a.size ≤ 1099511627776 →
    Ev (fun k => spec_ApplyScript.l0 k a es (i : Int)) (ans (if a.size > 120 then none else run (by_ a) (es.drop i))) := by
  intro d
  induction d with
  | zero =>
    intro i a hi ha
    refine Ev.step (fun k => by rw [spec_ApplyScript.l0]) (Ev.neg (by omega) ?_)
    rw [List.drop_of_length_le (by omega)]
    by_cases h : a.size > 120
    · refine Ev.pos (by omega) (Ev.eqr (Ev.now _) ?_); rw [if_pos h]; rfl
    · refine Ev.neg (by omega) (Ev.eqr (Ev.now _) ?_); rw [if_neg h]; rfl
  | succ d ih =>
    intro i a hi ha
    have hi' : i < es.length := by omega
    refine Ev.step (fun k => by rw [spec_ApplyScript.l0]) (Ev.pos (by omega) (Ev.pos (by omega) ?_))
    have ht := hsh es[i] (List.getElem_mem hi')
    rw [rdT_get es i hi', succ64 i (by omega), List.drop_eq_getElem_cons hi']
    generalize es[i] = e at *
    refine Ev.bind (spec_applyEdit_ev a e.f0 e.f1 e.f2 ha ht) ?_
    have hee : (⟨e.f0, e.f1, e.f2⟩ : S43) = e := rfl
    rw [hee]
    unfold run
    cases hx : apL (by_ a) e with
    | none =>
      refine Ev.neg (by simp [ans]) (Ev.eqr (Ev.now _) ?_)
      split <;> rfl
    | some x =>
      refine Ev.pos rfl ?_
      by_cases h : a.size > 120
      · refine Ev.pos (by omega) (Ev.eqr (Ev.now _) ?_); rw [if_pos h]; rfl
      refine Ev.neg (by omega) ?_
      rw [if_neg h]
      simp only [ans, mkb_size, Option.bind_some]
      by_cases h' : x.length > 120
      · refine Ev.pos (by omega) (Ev.eqr (Ev.now _) ?_); rw [if_pos h']
      refine Ev.neg (by omega) ?_
      rw [if_neg h']
      have := ih (i + 1) (mkb x) (by omega) (by rw [mkb_size]; omega)
      rw [mkb_size, if_neg h', by_mkb] at this
      exact this
theorem spec_apply_ev (a : ByteArray) (es : List S43) (ha : a.size ≤ 1099511627776) (hsh : short es) : Ev (fun k => spec_ApplyScript.f k a es) (ans (apS (by_ a) es)) := by
  unfold spec_ApplyScript.f
  by_cases h : es.length > 120
  · refine Ev.pos (by omega) (Ev.eqr (Ev.now _) ?_)
    unfold apS; rw [if_pos (.inr h)]; rfl
  · refine Ev.neg (by omega) ?_
    have := spec_run_ev es (by omega) hsh es.length 0 a (by omega) ha
    refine Ev.eqr this ?_
    unfold apS
    rw [by_len, List.drop_zero]
    by_cases h2 : a.size > 120
    · rw [if_pos h2, if_pos (.inl h2)]
    · rw [if_neg h2, if_neg (by omega)]
theorem hasPrefix_ev (a b : ByteArray) : strings_HasPrefix.f a b = some (decide ((by_ a).take b.size = by_ b)) := by
  unfold strings_HasPrefix.f stringslite_HasPrefix.f
  by_cases h : (a.size : Int) ≥ (b.size : Int)
  · rw [if_pos h, if_pos (by omega), if_pos (by omega), Int.toNat_natCast, toList_by, toList_by, by_take]
    simp only [Option.bind_some]
    congr 1
    rw [Bool.eq_iff_iff, beq_iff_eq, decide_eq_true_iff]
  · rw [if_neg h]
    simp only [Option.bind_some]
    congr 1
    symm
    rw [decide_eq_false_iff_not]
    intro he
    have := congrArg List.length he
    rw [List.length_take, by_len, by_len] at this
    omega
theorem impl_run_ev (es : List S43) (hes : es.length ≤ 120) (hsh : short es) : ∀ (d i : Nat) (a : ByteArray), i + d = es.length → a.size ≤ 120 →
    Ev (fun k => impl_ApplyScript.l0 k a es (es.length : Int) (i : Int)) (ans (run (by_ a) (es.drop i))) := by
  intro d
  induction d with
  | zero =>
    intro i a hi ha
    refine Ev.step (fun k => by rw [impl_ApplyScript.l0]) (Ev.neg (by omega) ?_)
    rw [List.drop_of_length_le (by omega)]
    exact Ev.now _
  | succ d ih =>
    intro i a hi ha
    have hi' : i < es.length := by omega
    refine Ev.step (fun k => by rw [impl_ApplyScript.l0]) (Ev.pos (by omega) (Ev.pos (by omega) (Ev.pos (by omega) ?_)))
    have ht := hsh es[i] (List.getElem_mem hi')
    rw [rdT_get es i hi', List.drop_eq_getElem_cons hi']
    generalize es[i] = e at *
    unfold run
    have bad : (e.f2.size = 0 ∨ e.f1 < 0 ∨ e.f1 > (a.size : Int)) → ∀ b, b = true → Ev (fun k => impl_ApplyScript.j2 k a es (es.length : Int) (i : Int) b e.f0 e.f1 e.f2) (ans ((apL (by_ a) e).bind fun x => if x.length > 120 then none else run x (es.drop (i + 1)))) := by
      intro h b hb
      subst hb
      refine Ev.step (fun k => by rw [impl_ApplyScript.j2]) (Ev.pos rfl (Ev.eqr (Ev.now _) ?_))
      unfold apL
      rw [if_pos (by rw [by_len]; exact h)]; rfl
    by_cases h0 : e.f2.size = 0
    · exact Ev.pos ((toList_nil _).2 h0) (bad (.inl h0) _ rfl)
    refine Ev.neg (fun h => h0 ((toList_nil _).1 h)) ?_
    by_cases h1 : e.f1 < 0
    · exact Ev.pos h1 (bad (.inr (.inl h1)) _ rfl)
    refine Ev.neg h1 ?_
    by_cases h2 : e.f1 > (a.size : Int)
    · exact bad (.inr (.inr h2)) _ (decide_eq_true h2)
    rw [decide_eq_false h2]
    obtain ⟨n, hn⟩ := Int.eq_ofNat_of_zero_le (show 0 ≤ e.f1 by omega)
    rw [hn] at h1 h2 ⊢
    have z1 : (a.extract 0 n).size = n := by rw [ByteArray.size_extract]; omega
    have z2 : (a.extract n a.size).size = a.size - n := by rw [ByteArray.size_extract]; omega
    have d2 : by_ (a.extract n a.size) = (by_ a).drop n := by rw [by_extract, List.take_of_length_le (by rw [by_len]; omega)]
    have e0 : apL (by_ a) e = (if e.f0 = 1 then some ((by_ a).take n ++ by_ e.f2 ++ (by_ a).drop n)
        else if e.f0 = 2 then (if ((by_ a).drop n).take e.f2.size = by_ e.f2 then some ((by_ a).take n ++ (by_ a).drop (n + e.f2.size)) else none) else none) := by
      unfold apL
      rw [if_neg (by rw [by_len]; omega)]; rw [hn, Int.toNat_natCast]
    rw [e0]
    have next : ∀ (c : ByteArray) (l : List UInt8), by_ c = l → Ev (fun k => if (c.size : Int) > 120 then some ((⟨#[]⟩ : ByteArray), false) else impl_ApplyScript.l0 k c es (es.length : Int) (wrap64 ((i : Int) + 1)))
        (ans ((some l).bind fun x => if x.length > 120 then none else run x (es.drop (i + 1)))) := by
      intro c l hc
      rw [succ64 i (by omega)]
      simp only [Option.bind_some]
      have hcl : c.size = l.length := by rw [← by_len, hc]
      by_cases h : l.length > 120
      · refine Ev.pos (by omega) (Ev.eqr (Ev.now _) ?_); rw [if_pos h]; rfl
      · refine Ev.neg (by omega) ?_
        rw [if_neg h, ← hc]
        exact ih (i + 1) c (by omega) (by omega)
    refine Ev.step (fun k => by rw [impl_ApplyScript.j2]) (Ev.neg (by simp) ?_)
    rw [Int.toNat_natCast]
    by_cases hx : e.f0 = 1
    · refine Ev.pos hx (Ev.pos (by omega) (Ev.pos (by omega) (Ev.pos (by omega) (Ev.pos (by rw [ByteArray.size_append]; omega) ?_))))
      rw [if_pos hx]
      exact next _ _ (by rw [by_append, by_append, by_take, d2])
    refine Ev.neg hx ?_
    rw [if_neg hx]
    by_cases hx2 : e.f0 = 2
    · refine Ev.pos hx2 (Ev.pos (by omega) (Ev.pos (by omega) (Ev.bindv (hasPrefix_ev _ _) ?_)))
      rw [if_pos hx2, w64 (n := (n : Int) + (e.f2.size : Int)) (by omega) (by omega), show (n : Int) + (e.f2.size : Int) = ((n + e.f2.size : Nat) : Int) by omega, Int.toNat_natCast, d2]
      by_cases hq : ((by_ a).drop n).take e.f2.size = by_ e.f2
      · have hl := congrArg List.length hq
        rw [List.length_take, List.length_drop, by_len, by_len] at hl
        have z3 : (a.extract (n + e.f2.size) a.size).size = a.size - (n + e.f2.size) := by rw [ByteArray.size_extract]; omega
        have d4 : by_ (a.extract (n + e.f2.size) a.size) = (by_ a).drop (n + e.f2.size) := by rw [by_extract, List.take_of_length_le (by rw [by_len]; omega)]
        refine Ev.pos (decide_eq_true hq) (Ev.pos (by omega) (Ev.pos (by omega) (Ev.pos (by omega) ?_)))
        rw [if_pos hq]
        exact next _ _ (by rw [by_append, by_take, d4])
      · refine Ev.neg (by simpa using hq) (Ev.eqr (Ev.now _) ?_)
        rw [if_neg hq]; rfl
    · refine Ev.neg hx2 (Ev.eqr (Ev.now _) ?_)
      rw [if_neg hx2]; rfl
theorem impl_apply_ev (a : ByteArray) (es : List S43) (hsh : short es) : Ev (fun k => impl_ApplyScript.f k a es) (ans (apS (by_ a) es)) := by
  have bad : (a.size > 120 ∨ es.length > 120) → ∀ b, b = true → Ev (fun k => impl_ApplyScript.j0 k a es b) (ans (apS (by_ a) es)) := by
    intro h b hb
    subst hb
    refine Ev.step (fun k => by rw [impl_ApplyScript.j0]) (Ev.pos rfl (Ev.eqr (Ev.now _) ?_))
    unfold apS; rw [if_pos (by rw [by_len]; exact h)]; rfl
  unfold impl_ApplyScript.f
  by_cases h : a.size > 120
  · exact Ev.pos (by omega) (bad (.inl h) _ rfl)
  refine Ev.neg (by omega) ?_
  by_cases h2 : es.length > 120
  · exact bad (.inr h2) _ (decide_eq_true (by omega))
  rw [decide_eq_false (by omega)]
  refine Ev.step (fun k => by rw [impl_ApplyScript.j0]) (Ev.neg (by simp) ?_)
  have := impl_run_ev es (by omega) hsh es.length 0 a (by omega) (by omega)
  refine Ev.eqr this ?_
  unfold apS
  rw [by_len, List.drop_zero, if_neg (by omega)]
def joins (p e : S43) : Prop := p.f0 = e.f0 ∧ (e.f0 = 2 ∧ p.f1 = e.f1 ∨ e.f0 = 1 ∧ p.f1 + p.f2.size = e.f1)
instance (p e : S43) : Decidable (joins p e) := by unfold joins; exact inferInstance
def addE (out : List S43) (x y : Int) (c : ByteArray) : List S43 :=
  let e := rd_T43 out ((out.length : Int) - 1)
  if 0 < out.length ∧ joins e ⟨x, y, c⟩ then out.set (out.length - 1) ⟨e.f0, e.f1, e.f2 ++ c⟩ else out ++ [⟨x, y, c⟩]
theorem snoc_cases (out : List S43) : out = [] ∨ ∃ es e, out = es ++ [e] := by
  rcases List.eq_nil_or_concat out with h | ⟨es, e, h⟩
  · exact .inl h
  · exact .inr ⟨es, e, by rw [h, List.concat_eq_append]⟩
theorem rd_last (es : List S43) (e : S43) : rd_T43 (es ++ [e]) (((es ++ [e]).length : Int) - 1) = e := by
  rw [List.length_append, List.length_singleton, show ((es.length + 1 : Nat) : Int) - 1 = (es.length : Int) by omega, rdT_get _ _ (by simp)]
  simp
theorem addE_snoc (es : List S43) (e : S43) (x y : Int) (c : ByteArray) : addE (es ++ [e]) x y c = if joins e ⟨x, y, c⟩ then es ++ [⟨e.f0, e.f1, e.f2 ++ c⟩] else es ++ [e] ++ [⟨x, y, c⟩] := by
  unfold addE
  dsimp only
  rw [rd_last]
  by_cases h : joins e ⟨x, y, c⟩
  · rw [if_pos ⟨by simp, h⟩, if_pos h, List.length_append, List.length_singleton, Nat.add_sub_cancel, List.set_append_right _ _ (Nat.le_refl _)]
    simp
  · rw [if_neg (fun g => h g.2), if_neg h]
theorem addE_nil (x y : Int) (c : ByteArray) : addE [] x y c = [⟨x, y, c⟩] := rfl
def small (out : List S43) : Prop := out.length ≤ 1000 ∧ ∀ e ∈ out, e.f2.size ≤ 1000 ∧ 0 ≤ e.f1 ∧ e.f1 ≤ 1000
theorem spec_addEdit_ev (out : List S43) (x y : Int) (c : ByteArray) (hx : x = 1 ∨ x = 2) (hs : small out) (hc : c.size ≤ 1000) : spec_addEdit.f out x y c = some (addE out x y c) := by
  have hl := hs.1
  have ew : wrap64 ((out.length : Int) - 1) = (out.length : Int) - 1 := w64 (by omega) (by omega)
  unfold spec_addEdit.f
  rw [ew]
  rcases snoc_cases out with rfl | ⟨es, e, rfl⟩
  · rw [if_neg (by simp), if_pos (by simp), addE_nil]; rfl
  · have he := hs.2 e (by simp)
    rw [rd_last, addE_snoc]
    have hn : ((es ++ [e]).length : Int) - 1 = (es.length : Int) := by simp
    have hset : ∀ v : S43, (es ++ [e]).set es.length v = es ++ [v] := fun v => by rw [List.set_append_right _ _ (Nat.le_refl _)]; simp
    rw [if_pos (by omega), if_pos (by omega), if_pos (by omega), hn, Int.toNat_natCast, hset, w64 (n := e.f1 + (e.f2.size : Int)) (by omega) (by omega)]
    have hroom : (es ++ [e]).length < 4398046511104 := by omega
    have hcat : e.f2.size + c.size ≤ 9223372036854775807 := by omega
    simp only [if_pos hroom, if_pos hcat]
    unfold joins
    dsimp only
    rcases hx with rfl | rfl
    · by_cases h1 : e.f0 = 1
      · by_cases h2 : e.f1 + (e.f2.size : Int) = y
        · simp [h1, h2]
        · simp [h1, h2]
      · simp [h1]
    · by_cases h1 : e.f0 = 2
      · by_cases h2 : e.f1 = y
        · simp [h1, h2]
        · simp [h1, h2]
      · simp [h1]
def cost (es : List S43) : Nat := (es.map fun e => e.f2.size).sum
theorem cost_append (a b : List S43) : cost (a ++ b) = cost a + cost b := by simp [cost]
theorem cost_one (e : S43) : cost [e] = e.f2.size := by simp [cost]
theorem size_le_cost {es : List S43} {e : S43} (h : e ∈ es) : e.f2.size ≤ cost es := by
  induction es with
  | nil => cases h
  | cons f es ih =>
    rw [show cost (f :: es) = f.f2.size + cost es from rfl]
    rcases List.mem_cons.1 h with rfl | h
    · omega
    · have := ih h; omega
theorem run_append (s : List UInt8) (es fs : List S43) : run s (es ++ fs) = (run s es).bind fun x => run x fs := by
  induction es generalizing s with
  | nil => rfl
  | cons e es ih =>
    rw [List.cons_append, run, run]
    cases apL s e with
    | none => rfl
    | some x =>
      simp only [Option.bind_some]
      split
      · rfl
      · exact ih x
theorem run_one (s : List UInt8) (e : S43) : run s [e] = (apL s e).bind fun x => if x.length > 120 then none else some x := rfl
def seamless (out : List S43) : Prop := ∀ n e f, out[n]? = some e → out[n + 1]? = some f → ¬ joins e f
structure Inv (a b : ByteArray) (i k m : Nat) (out : List S43) : Prop where
  hi : i ≤ a.size
  hk : k ≤ b.size
  run : run (by_ a) out = some ((by_ b).take k ++ (by_ a).drop i)
  cost : cost out + 2 * m = i + k
  opt : m + Cd.lcs ((by_ a).drop i) ((by_ b).drop k) = Cd.lcs (by_ a) (by_ b)
  len : out.length ≤ i + k
  good : ∀ e ∈ out, 0 < e.f2.size ∧ 0 ≤ e.f1 ∧ e.f1 ≤ b.size ∧ (e.f0 = 1 ∨ e.f0 = 2)
  seam : seamless out
theorem Inv.small {a b : ByteArray} {i k m : Nat} {out : List S43} (h : Inv a b i k m out) (ha : a.size ≤ 60) (hb : b.size ≤ 60) : small out := by
  have h1 := h.hi; have h2 := h.hk; have h3 := h.cost
  refine ⟨by have := h.len; omega, fun e he => ?_⟩
  have := size_le_cost he
  have := h.good e he
  omega
theorem seamless_snoc {es : List S43} {e : S43} (h : seamless es) (hl : ∀ p, es.getLast? = some p → ¬ joins p e) : seamless (es ++ [e]) := by
  intro n p f hp hf
  have hn : n + 1 < (es ++ [e]).length := by
    rcases Nat.lt_or_ge (n + 1) (es ++ [e]).length with g | g
    · exact g
    · rw [List.getElem?_eq_none g] at hf; cases hf
  rw [List.length_append, List.length_singleton] at hn
  rw [List.getElem?_append_left (by omega)] at hp
  by_cases hc : n + 1 < es.length
  · rw [List.getElem?_append_left hc] at hf
    exact h n p f hp hf
  · rw [List.getElem?_append_right (by omega), show n + 1 - es.length = 0 by omega] at hf
    simp at hf
    subst hf
    refine hl p ?_
    rw [List.getLast?_eq_getElem?, show es.length - 1 = n by omega]
    exact hp
theorem seamless_left {es : List S43} {e : S43} (h : seamless (es ++ [e])) : seamless es ∧ ∀ p, es.getLast? = some p → ¬ joins p e := by
  refine ⟨fun n p f hp hf => ?_, fun p hp => ?_⟩
  · refine h n p f ?_ ?_
    · rw [List.getElem?_append_left]; exact hp; exact (List.getElem?_eq_some_iff.1 hp).1
    · rw [List.getElem?_append_left]; exact hf; exact (List.getElem?_eq_some_iff.1 hf).1
  · rw [List.getLast?_eq_getElem?] at hp
    have hl := (List.getElem?_eq_some_iff.1 hp).1
    refine h (es.length - 1) p e ?_ ?_
    · rw [List.getElem?_append_left hl]; exact hp
    · rw [List.getElem?_append_right (by omega), show es.length - 1 + 1 - es.length = 0 by omega]; rfl
theorem take_len (b : ByteArray) {k : Nat} (h : k ≤ b.size) : ((by_ b).take k).length = k := by rw [List.length_take, by_len]; omega
theorem apL_del (s P Q : List UInt8) (t : ByteArray) (n : Nat) (ht : 0 < t.size) (hs : s = P ++ by_ t ++ Q) (hn : P.length = n) : apL s ⟨2, n, t⟩ = some (P ++ Q) := by
  subst hs hn
  have hl := by_len t
  unfold apL
  rw [if_neg (by simp only [List.length_append]; omega), if_neg (by dsimp only; omega), if_pos rfl]
  dsimp only
  rw [Int.toNat_natCast, List.append_assoc, List.drop_left, List.take_append_of_le_length (by omega), List.take_of_length_le (by omega), if_pos rfl, List.take_left, ← List.append_assoc,
    show P.length + t.size = (P ++ by_ t).length by rw [List.length_append, by_len], List.drop_left]
theorem apL_ins (s P Q : List UInt8) (t : ByteArray) (n : Nat) (ht : 0 < t.size) (hs : s = P ++ Q) (hn : P.length = n) : apL s ⟨1, n, t⟩ = some (P ++ by_ t ++ Q) := by
  subst hs hn
  unfold apL
  rw [if_neg (by simp only [List.length_append]; omega), if_pos rfl]
  dsimp only
  rw [Int.toNat_natCast, List.take_left, List.drop_left]
theorem apL_inv {s y : List UInt8} {e : S43} (h : apL s e = some y) : ∃ P Q : List UInt8, (P.length : Int) = e.f1 ∧ 0 < e.f2.size ∧
    ((e.f0 = 1 ∧ s = P ++ Q ∧ y = P ++ by_ e.f2 ++ Q) ∨ (e.f0 = 2 ∧ s = P ++ by_ e.f2 ++ Q ∧ y = P ++ Q)) := by
  unfold apL at h
  by_cases h0 : e.f2.size = 0 ∨ e.f1 < 0 ∨ e.f1 > s.length
  · rw [if_pos h0] at h; cases h
  rw [if_neg h0] at h
  obtain ⟨n, hn⟩ := Int.eq_ofNat_of_zero_le (show 0 ≤ e.f1 by omega)
  rw [hn, Int.toNat_natCast] at h
  have htl : (s.take n).length = n := by rw [List.length_take]; omega
  by_cases h1 : e.f0 = 1
  · rw [if_pos h1] at h
    exact ⟨s.take n, s.drop n, by omega, by omega, .inl ⟨h1, by rw [List.take_append_drop], (Option.some.inj h).symm⟩⟩
  rw [if_neg h1] at h
  by_cases h2 : e.f0 = 2
  · rw [if_pos h2] at h
    by_cases h3 : (s.drop n).take e.f2.size = by_ e.f2
    · rw [if_pos h3] at h
      refine ⟨s.take n, s.drop (n + e.f2.size), by omega, by omega, .inr ⟨h2, ?_, (Option.some.inj h).symm⟩⟩
      rw [← h3, List.append_assoc, ← List.drop_drop, List.take_append_drop, List.take_append_drop]
    · rw [if_neg h3] at h; cases h
  · rw [if_neg h2] at h; cases h
theorem Inv.start (a b : ByteArray) (ha : a.size ≤ 60) : Inv a b 0 0 0 [] :=
  ⟨by omega, by omega, by simp [Q.run], rfl, by simp, by simp, (fun e h => by cases h), (fun n e f h => by simp at h)⟩
theorem Inv.same {a b : ByteArray} {i k m : Nat} {out : List S43} (h : Inv a b i k m out) (hi : i < a.size) (hk : k < b.size) (e : bt a i = bt b k) : Inv a b (i + 1) (k + 1) (m + 1) out := by
  have hL := L_eq hi hk e
  unfold L at hL
  rw [bt_get a i hi, bt_get b k hk] at e
  have h' : (by_ a)[i]'(by rw [by_len]; exact hi) = (by_ b)[k]'(by rw [by_len]; exact hk) := UInt8.toNat_inj.1 (by omega)
  refine ⟨by omega, by omega, ?_, by have := h.cost; omega, by have := h.opt; omega, by have := h.len; omega, h.good, h.seam⟩
  rw [h.run, List.take_succ_eq_append_getElem (by rw [by_len]; exact hk), List.drop_eq_getElem_cons (by rw [by_len]; exact hi), h', List.append_assoc]
  rfl
theorem one_byte (a : ByteArray) (i : Nat) (hi : i < a.size) : by_ (a.extract i (i + 1)) = [(by_ a)[i]'(by rw [by_len]; exact hi)] := by
  rw [by_extract, List.drop_take, show i + 1 - i = 1 by omega, List.drop_eq_getElem_cons (by rw [by_len]; exact hi)]
  rfl
theorem one_size (a : ByteArray) (i : Nat) (hi : i < a.size) : (a.extract i (i + 1)).size = 1 := by rw [ByteArray.size_extract]; omega
theorem Inv.del {a b : ByteArray} {i k m : Nat} {out : List S43} (h : Inv a b i k m out) (ha : a.size ≤ 60) (hb : b.size ≤ 60) (hi : i < a.size) (hL : L a b i k = L a b (i + 1) k) :
    Inv a b (i + 1) k m (addE out 2 k (a.extract i (i + 1))) := by
  have hk := h.hk
  have hc := h.cost
  have hopt := h.opt
  have hlen := h.len
  have hone := one_byte a i hi
  have hsz := one_size a i hi
  have hd : (by_ a).drop i = (by_ a)[i]'(by rw [by_len]; exact hi) :: (by_ a).drop (i + 1) := List.drop_eq_getElem_cons (by rw [by_len]; exact hi)
  have hfit : ¬ ((by_ b).take k ++ (by_ a).drop (i + 1)).length > 120 := by rw [List.length_append, take_len b hk, List.length_drop, by_len]; omega
  unfold L at hL
  have hopt' : m + Cd.lcs ((by_ a).drop (i + 1)) ((by_ b).drop k) = Cd.lcs (by_ a) (by_ b) := by omega
  have fresh : (∀ p, out.getLast? = some p → ¬ joins p ⟨2, k, a.extract i (i + 1)⟩) → Inv a b (i + 1) k m (out ++ [⟨2, k, a.extract i (i + 1)⟩]) := by
    intro hj
    refine ⟨by omega, hk, ?_, by rw [cost_append, cost_one]; dsimp only; omega, hopt', by rw [List.length_append, List.length_singleton]; omega, ?_, seamless_snoc h.seam hj⟩
    · rw [run_append, h.run, Option.bind_some, run_one, apL_del _ ((by_ b).take k) ((by_ a).drop (i + 1)) _ k (by omega) ?_ (take_len b hk), Option.bind_some, if_neg hfit]
      rw [hone, hd, List.append_assoc]; rfl
    · intro e he
      rcases List.mem_append.1 he with he | he
      · exact h.good e he
      · rw [List.mem_singleton] at he; subst he
        exact ⟨by dsimp only; omega, by dsimp only; omega, by dsimp only; omega, .inr rfl⟩
  rcases snoc_cases out with rfl | ⟨es, e, rfl⟩
  · rw [addE_nil]
    exact fresh (fun p hp => by simp at hp)
  · rw [addE_snoc]
    by_cases hj : joins e ⟨2, k, a.extract i (i + 1)⟩
    · rw [if_pos hj]
      obtain ⟨j0, j1⟩ := hj
      dsimp only at j0 j1
      have j2 : e.f1 = k := by omega
      have hge := h.good e (by simp)
      have hr := h.run
      rw [run_append] at hr
      obtain ⟨x, hx, hr⟩ := Option.bind_eq_some_iff.1 hr
      rw [run_one] at hr
      obtain ⟨y, hy, hr⟩ := Option.bind_eq_some_iff.1 hr
      by_cases hy' : y.length > 120
      · rw [if_pos hy'] at hr; cases hr
      rw [if_neg hy'] at hr
      have hr := Option.some.inj hr
      obtain ⟨P, Q', hP, hes, hcase⟩ := apL_inv hy
      rcases hcase with ⟨h1, -, -⟩ | ⟨-, hxe, hye⟩
      · omega
      rw [hye] at hr
      obtain ⟨hPk, hQ⟩ := List.append_inj hr (by rw [take_len b hk]; omega)
      refine ⟨by omega, hk, ?_, ?_, hopt', by rw [List.length_append, List.length_singleton] at hlen ⊢; omega, ?_, ?_⟩
      · rw [run_append, hx, Option.bind_some, run_one, j0, j2, apL_del x P ((by_ a).drop (i + 1)) _ k (by rw [ByteArray.size_append]; omega) ?_ (by omega), Option.bind_some, hPk, if_neg hfit]
        rw [hxe, hQ, by_append, hone, hd]; simp
      · rw [cost_append, cost_one] at hc ⊢; dsimp only; rw [ByteArray.size_append]; omega
      · intro f hf
        rcases List.mem_append.1 hf with hf | hf
        · exact h.good f (by simp [hf])
        · rw [List.mem_singleton] at hf; subst hf
          exact ⟨by dsimp only; rw [ByteArray.size_append]; omega, hge.2.1, hge.2.2.1, hge.2.2.2⟩
      · have := seamless_left h.seam
        exact seamless_snoc this.1 fun p hp => this.2 p hp
    · rw [if_neg hj]
      exact fresh (fun p hp => by simp at hp; subst hp; exact hj)
theorem Inv.ins {a b : ByteArray} {i k m : Nat} {out : List S43} (h : Inv a b i k m out) (ha : a.size ≤ 60) (hb : b.size ≤ 60) (hk : k < b.size) (hL : L a b i k = L a b i (k + 1)) :
    Inv a b i (k + 1) m (addE out 1 k (b.extract k (k + 1))) := by
  have hi := h.hi
  have hc := h.cost
  have hopt := h.opt
  have hlen := h.len
  have hone := one_byte b k hk
  have hsz := one_size b k hk
  have hd : (by_ b).take (k + 1) = (by_ b).take k ++ [(by_ b)[k]'(by rw [by_len]; exact hk)] := List.take_succ_eq_append_getElem (by rw [by_len]; exact hk)
  have hfit : ¬ ((by_ b).take (k + 1) ++ (by_ a).drop i).length > 120 := by rw [List.length_append, take_len b hk, List.length_drop, by_len]; omega
  unfold L at hL
  have hopt' : m + Cd.lcs ((by_ a).drop i) ((by_ b).drop (k + 1)) = Cd.lcs (by_ a) (by_ b) := by omega
  have fresh : (∀ p, out.getLast? = some p → ¬ joins p ⟨1, k, b.extract k (k + 1)⟩) → Inv a b i (k + 1) m (out ++ [⟨1, k, b.extract k (k + 1)⟩]) := by
    intro hj
    refine ⟨hi, hk, ?_, by rw [cost_append, cost_one]; dsimp only; omega, hopt', by rw [List.length_append, List.length_singleton]; omega, ?_, seamless_snoc h.seam hj⟩
    · rw [run_append, h.run, Option.bind_some, run_one, apL_ins _ ((by_ b).take k) ((by_ a).drop i) _ k (by omega) rfl (take_len b (by omega)), Option.bind_some, hone, ← hd, if_neg hfit]
    · intro e he
      rcases List.mem_append.1 he with he | he
      · exact h.good e he
      · rw [List.mem_singleton] at he; subst he
        exact ⟨by dsimp only; omega, by dsimp only; omega, by dsimp only; omega, .inl rfl⟩
  rcases snoc_cases out with rfl | ⟨es, e, rfl⟩
  · rw [addE_nil]
    exact fresh (fun p hp => by simp at hp)
  · rw [addE_snoc]
    by_cases hj : joins e ⟨1, k, b.extract k (k + 1)⟩
    · rw [if_pos hj]
      obtain ⟨j0, j1⟩ := hj
      dsimp only at j0 j1
      have j2 : e.f1 + e.f2.size = k := by omega
      have hge := h.good e (by simp)
      obtain ⟨n, hn⟩ := Int.eq_ofNat_of_zero_le hge.2.1
      have hr := h.run
      rw [run_append] at hr
      obtain ⟨x, hx, hr⟩ := Option.bind_eq_some_iff.1 hr
      rw [run_one] at hr
      obtain ⟨y, hy, hr⟩ := Option.bind_eq_some_iff.1 hr
      by_cases hy' : y.length > 120
      · rw [if_pos hy'] at hr; cases hr
      rw [if_neg hy'] at hr
      have hr := Option.some.inj hr
      obtain ⟨P, Q', hP, hes, hcase⟩ := apL_inv hy
      rcases hcase with ⟨-, hxe, hye⟩ | ⟨h1, -, -⟩
      · rw [hye] at hr
        obtain ⟨hPk, hQ⟩ := List.append_inj hr (by rw [take_len b (by omega), List.length_append, by_len]; omega)
        refine ⟨hi, hk, ?_, ?_, hopt', by rw [List.length_append, List.length_singleton] at hlen ⊢; omega, ?_, ?_⟩
        · rw [run_append, hx, Option.bind_some, run_one, j0, hn, apL_ins x P Q' _ n (by rw [ByteArray.size_append]; omega) hxe (by omega), Option.bind_some, by_append, ← List.append_assoc, hPk, hone, ← hd, hQ, if_neg hfit]
        · rw [cost_append, cost_one] at hc ⊢; dsimp only; rw [ByteArray.size_append]; omega
        · intro f hf
          rcases List.mem_append.1 hf with hf | hf
          · exact h.good f (by simp [hf])
          · rw [List.mem_singleton] at hf; subst hf
            exact ⟨by dsimp only; rw [ByteArray.size_append]; omega, hge.2.1, hge.2.2.1, hge.2.2.2⟩
        · have := seamless_left h.seam
          exact seamless_snoc this.1 fun p hp => this.2 p hp
      · omega
    · rw [if_neg hj]
      exact fresh (fun p hp => by simp at hp; subst hp; exact hj)
section
variable {a b : ByteArray} (ha : a.size ≤ 60) (hb : b.size ≤ 60)
theorem row_at (i : Nat) (h : i ≤ a.size) : rd_L1 (tabL a b) (i : Int) = rowL a b i := by rw [rdL_nat, tabL_get _ _ _ h]
theorem cell_at (i k : Nat) (h : i ≤ a.size) (h' : k ≤ b.size) : rd (rd_L1 (tabL a b) (i : Int)) (k : Int) = L a b i k := by rw [row_at i h, rd_nat, rowL_get _ _ _ _ h']
include ha hb
theorem impl_del_ev {out : List S43} {i k : Nat} {r : List S43} (hi : i < a.size) (hk : k ≤ b.size) (hs : small out)
    (h : Ev (fun n => impl_EditScript.l0 n a b (tabL a b) (addE out 2 k (a.extract i (i + 1))) ((i + 1 : Nat) : Int) (k : Int)) r) :
    Ev (fun n => impl_EditScript.j4 n a b (tabL a b) out (i : Int) (k : Int) (wrap64 ((out.length : Int) - 1)) true) r := by
  have hl := hs.1
  have hsz := one_size a i hi
  refine Ev.step (fun k => by rw [impl_EditScript.j4]) (Ev.pos rfl ?_)
  rw [w64 (n := (out.length : Int) - 1) (by omega) (by omega), succ64 i (by omega), Int.toNat_natCast, Int.toNat_natCast]
  have room : ∀ A B : Nat → Option (List S43), Ev A r → Ev (fun n => if 0 ≤ (i : Int) then (if (i : Int) ≤ ((i + 1 : Nat) : Int) then (if ((i + 1 : Nat) : Int) ≤ (a.size : Int) then (if out.length < 4398046511104 then A n else none) else none) else none) else none) r :=
    fun A B e => Ev.pos (by omega) (Ev.pos (by omega) (Ev.pos (by omega) (Ev.pos (by omega) e)))
  rcases snoc_cases out with rfl | ⟨es, e, rfl⟩
  · rw [addE_nil] at h
    exact Ev.neg (by simp) (room _ (fun _ => none) h)
  · have he := hs.2 e (by simp)
    rw [addE_snoc] at h
    rw [rd_last]
    have hn : ((es ++ [e]).length : Int) - 1 = (es.length : Int) := by simp
    have hset : ∀ v : S43, (es ++ [e]).set es.length v = es ++ [v] := fun v => by rw [List.set_append_right _ _ (Nat.le_refl _)]; simp
    refine Ev.pos (by omega) (Ev.pos (by omega) (Ev.pos (by omega) ?_))
    rw [hn, Int.toNat_natCast, hset]
    by_cases h1 : e.f0 = 2
    · by_cases h2 : e.f1 = (k : Int)
      · rw [if_pos (show joins e ⟨2, k, a.extract i (i + 1)⟩ from ⟨h1, .inl ⟨rfl, h2⟩⟩)] at h
        exact Ev.pos h1 (Ev.pos h2 (Ev.pos (by omega) (Ev.pos (by omega) (Ev.pos (by omega) (Ev.pos (by omega) h)))))
      · rw [if_neg (show ¬ joins e ⟨2, k, a.extract i (i + 1)⟩ from fun g => by rcases g.2 with g | g; exact h2 g.2; exact absurd g.1 (show ¬ (2 : Int) = 1 by decide))] at h
        exact Ev.pos h1 (Ev.neg h2 (room _ (fun _ => none) h))
    · rw [if_neg (show ¬ joins e ⟨2, k, a.extract i (i + 1)⟩ from fun g => h1 g.1)] at h
      exact Ev.neg h1 (room _ (fun _ => none) h)
theorem impl_ins_ev {out : List S43} {i k : Nat} {r : List S43} (hk : k < b.size) (hs : small out)
    (h : Ev (fun n => impl_EditScript.l0 n a b (tabL a b) (addE out 1 k (b.extract k (k + 1))) (i : Int) ((k + 1 : Nat) : Int)) r) :
    Ev (fun n => impl_EditScript.j4 n a b (tabL a b) out (i : Int) (k : Int) (wrap64 ((out.length : Int) - 1)) false) r := by
  have hl := hs.1
  have hsz := one_size b k hk
  refine Ev.step (fun k => by rw [impl_EditScript.j4]) (Ev.neg (by simp) ?_)
  rw [w64 (n := (out.length : Int) - 1) (by omega) (by omega), succ64 k (by omega), Int.toNat_natCast, Int.toNat_natCast]
  have room : ∀ A B : Nat → Option (List S43), Ev A r → Ev (fun n => if 0 ≤ (k : Int) then (if (k : Int) ≤ ((k + 1 : Nat) : Int) then (if ((k + 1 : Nat) : Int) ≤ (b.size : Int) then (if out.length < 4398046511104 then A n else none) else none) else none) else none) r :=
    fun A B e => Ev.pos (by omega) (Ev.pos (by omega) (Ev.pos (by omega) (Ev.pos (by omega) e)))
  rcases snoc_cases out with rfl | ⟨es, e, rfl⟩
  · rw [addE_nil] at h
    exact Ev.neg (by simp) (room _ (fun _ => none) h)
  · have he := hs.2 e (by simp)
    rw [addE_snoc] at h
    rw [rd_last, w64 (n := e.f1 + (e.f2.size : Int)) (by omega) (by omega)]
    have hn : ((es ++ [e]).length : Int) - 1 = (es.length : Int) := by simp
    have hset : ∀ v : S43, (es ++ [e]).set es.length v = es ++ [v] := fun v => by rw [List.set_append_right _ _ (Nat.le_refl _)]; simp
    refine Ev.pos (by omega) (Ev.pos (by omega) (Ev.pos (by omega) ?_))
    rw [hn, Int.toNat_natCast, hset]
    by_cases h1 : e.f0 = 1
    · by_cases h2 : e.f1 + (e.f2.size : Int) = (k : Int)
      · rw [if_pos (show joins e ⟨1, k, b.extract k (k + 1)⟩ from ⟨h1, .inr ⟨rfl, h2⟩⟩)] at h
        exact Ev.pos h1 (Ev.pos h2 (Ev.pos (by omega) (Ev.pos (by omega) (Ev.pos (by omega) (Ev.pos (by omega) h)))))
      · rw [if_neg (show ¬ joins e ⟨1, k, b.extract k (k + 1)⟩ from fun g => by rcases g.2 with g | g; exact absurd g.1 (show ¬ (1 : Int) = 2 by decide); exact h2 g.2)] at h
        exact Ev.pos h1 (Ev.neg h2 (room _ (fun _ => none) h))
    · rw [if_neg (show ¬ joins e ⟨1, k, b.extract k (k + 1)⟩ from fun g => h1 g.1)] at h
      exact Ev.neg h1 (room _ (fun _ => none) h)

theorem edit_loop : ∀ (d i k m : Nat) (out : List S43), (a.size - i) + (b.size - k) ≤ d → Inv a b i k m out →
    ∃ r m', Inv a b a.size b.size m' r ∧ Ev (fun n => impl_EditScript.l0 n a b (tabL a b) out (i : Int) (k : Int)) r ∧ Ev (fun n => spec_editScript.l0 n a b out (tabL a b) (i : Int) (k : Int)) r := by
  intro d
  induction d with
  | zero =>
    intro i k m out hd h
    have hi := h.hi; have hk := h.hk
    obtain rfl : i = a.size := by omega
    obtain rfl : k = b.size := by omega
    refine ⟨out, m, h, ?_, ?_⟩
    · refine Ev.step (fun k => by rw [impl_EditScript.l0]) (Ev.neg (by omega) ?_)
      rw [decide_eq_false (by omega)]
      exact Ev.step (fun k => by rw [impl_EditScript.j2]) (Ev.neg (by simp) (Ev.now _))
    · refine Ev.step (fun k => by rw [spec_editScript.l0]) (Ev.neg (by omega) ?_)
      rw [decide_eq_false (by omega)]
      exact Ev.step (fun k => by rw [spec_editScript.j1]) (Ev.neg (by simp) (Ev.now _))
  | succ d ih =>
    intro i k m out hd h
    have hi := h.hi; have hk := h.hk
    have hs := h.small ha hb
    by_cases hend : i = a.size ∧ k = b.size
    · exact ih i k m out (by omega) h
    -- both loops come to their bodies
    have tl := tabL_len a b
    have toI : ∀ r, Ev (fun n => impl_EditScript.j2 n a b (tabL a b) out (i : Int) (k : Int) true) r → Ev (fun n => impl_EditScript.l0 n a b (tabL a b) out (i : Int) (k : Int)) r := by
      intro r e
      refine Ev.step (fun k => by rw [impl_EditScript.l0]) ?_
      by_cases c : i < a.size
      · exact Ev.pos (by omega) e
      · refine Ev.neg (by omega) ?_; rw [decide_eq_true (by omega)]; exact e
    have toS : ∀ r, Ev (fun n => spec_editScript.j1 n a b out (tabL a b) (i : Int) (k : Int) true) r → Ev (fun n => spec_editScript.l0 n a b out (tabL a b) (i : Int) (k : Int)) r := by
      intro r e
      refine Ev.step (fun k => by rw [spec_editScript.l0]) ?_
      by_cases c : i < a.size
      · exact Ev.pos (by omega) e
      · refine Ev.neg (by omega) ?_; rw [decide_eq_true (by omega)]; exact e
    by_cases heq : i < a.size ∧ k < b.size ∧ bt a i = bt b k
    · obtain ⟨c1, c2, c3⟩ := heq
      obtain ⟨r, m', hr, e1, e2⟩ := ih (i + 1) (k + 1) (m + 1) out (by omega) (h.same c1 c2 c3)
      refine ⟨r, m', hr, toI _ ?_, toS _ ?_⟩
      · refine Ev.step (fun k => by rw [impl_EditScript.j2]) (Ev.pos rfl (Ev.pos (by omega) (Ev.pos (by omega) (Ev.pos (by omega) (Ev.pos (by omega) ?_)))))
        refine Ev.step (fun k => by rw [impl_EditScript.j3]) (Ev.pos (by simpa using c3) ?_)
        rw [succ64 i (by omega), succ64 k (by omega)]; exact e1
      · refine Ev.step (fun k => by rw [spec_editScript.j1]) (Ev.pos rfl (Ev.pos (by omega) (Ev.pos (by omega) (Ev.pos (by omega) (Ev.pos (by omega) ?_)))))
        refine Ev.step (fun k => by rw [spec_editScript.j2]) (Ev.pos (by simpa using c3) ?_)
        rw [succ64 i (by omega), succ64 k (by omega)]; exact e2
    have toI3 : ∀ r, Ev (fun n => impl_EditScript.j3 n a b (tabL a b) out (i : Int) (k : Int) (wrap64 ((out.length : Int) - 1)) false) r → Ev (fun n => impl_EditScript.l0 n a b (tabL a b) out (i : Int) (k : Int)) r := by
      intro r e
      refine toI _ (Ev.step (fun k => by rw [impl_EditScript.j2]) (Ev.pos rfl ?_))
      by_cases c1 : i < a.size
      · refine Ev.pos (by omega) ?_
        by_cases c2 : k < b.size
        · refine Ev.pos (by omega) (Ev.pos (by omega) (Ev.pos (by omega) ?_))
          rw [show (bt a i == bt b k) = false by simp; exact fun g => heq ⟨c1, c2, g⟩]
          exact e
        · exact Ev.neg (by omega) e
      · exact Ev.neg (by omega) e
    have toS2 : ∀ r, Ev (fun n => spec_editScript.j2 n a b out (tabL a b) (i : Int) (k : Int) false) r → Ev (fun n => spec_editScript.l0 n a b out (tabL a b) (i : Int) (k : Int)) r := by
      intro r e
      refine toS _ (Ev.step (fun k => by rw [spec_editScript.j1]) (Ev.pos rfl ?_))
      by_cases c1 : i < a.size
      · refine Ev.pos (by omega) ?_
        by_cases c2 : k < b.size
        · refine Ev.pos (by omega) (Ev.pos (by omega) (Ev.pos (by omega) ?_))
          rw [show (bt a i == bt b k) = false by simp; exact fun g => heq ⟨c1, c2, g⟩]
          exact e
        · exact Ev.neg (by omega) e
      · exact Ev.neg (by omega) e
    by_cases hdel : i < a.size ∧ (k = b.size ∨ L a b (i + 1) k ≥ L a b i (k + 1))
    · obtain ⟨c1, c2⟩ := hdel
      have hL : L a b i k = L a b (i + 1) k := by
        by_cases ck : k < b.size
        · rw [L_ne c1 ck (fun g => heq ⟨c1, ck, g⟩)]
          unfold mx; rw [if_neg (by omega)]
        · rw [L_end a b (.inr (by omega)), L_end a b (.inr (by omega))]
      obtain ⟨r, m', hr, e1, e2⟩ := ih (i + 1) k m _ (by omega) (h.del ha hb c1 hL)
      refine ⟨r, m', hr, toI3 _ ?_, toS2 _ ?_⟩
      · have fin := impl_del_ev ha hb c1 hk hs e1
        refine Ev.step (fun k => by rw [impl_EditScript.j3]) (Ev.neg (by simp) (Ev.pos (by omega) ?_))
        by_cases ck : k = b.size
        · exact Ev.pos (by omega) fin
        · rw [succ64 i (by omega), succ64 k (by omega)]
          refine Ev.neg (by omega) (Ev.pos (by omega) (Ev.pos (by omega) (Ev.pos (by omega) (Ev.pos (by rw [row_at _ (by omega), rowL_len]; omega) (Ev.pos (by omega) (Ev.pos (by omega) (Ev.pos (by omega) (Ev.pos (by rw [row_at _ (by omega), rowL_len]; omega) ?_))))))))
          rw [cell_at _ _ (by omega) (by omega), cell_at _ _ (by omega) (by omega), decide_eq_true (by omega)]
          exact fin
      · have fin : Ev (fun n => spec_editScript.j3 n a b out (tabL a b) (i : Int) (k : Int) true) r := by
          refine Ev.step (fun k => by rw [spec_editScript.j3]) (Ev.pos rfl ?_)
          rw [succ64 i (by omega), Int.toNat_natCast, Int.toNat_natCast]
          exact Ev.pos (by omega) (Ev.pos (by omega) (Ev.pos (by omega) (Ev.bindv (spec_addEdit_ev out 2 k _ (.inr rfl) hs (by rw [one_size a i c1]; omega)) e2)))
        refine Ev.step (fun k => by rw [spec_editScript.j2]) (Ev.neg (by simp) (Ev.pos (by omega) ?_))
        by_cases ck : k = b.size
        · exact Ev.pos (by omega) fin
        · rw [succ64 i (by omega), succ64 k (by omega)]
          refine Ev.neg (by omega) (Ev.pos (by omega) (Ev.pos (by omega) (Ev.pos (by omega) (Ev.pos (by rw [row_at _ (by omega), rowL_len]; omega) (Ev.pos (by omega) (Ev.pos (by omega) (Ev.pos (by omega) (Ev.pos (by rw [row_at _ (by omega), rowL_len]; omega) ?_))))))))
          rw [cell_at _ _ (by omega) (by omega), cell_at _ _ (by omega) (by omega), decide_eq_true (by omega)]
          exact fin
    · have ck : k < b.size := by omega
      have hL : L a b i k = L a b i (k + 1) := by
        by_cases ci : i < a.size
        · rw [L_ne ci ck (fun g => heq ⟨ci, ck, g⟩)]
          unfold mx; rw [if_pos (by omega)]
        · rw [L_end a b (.inl (by omega)), L_end a b (.inl (by omega))]
      obtain ⟨r, m', hr, e1, e2⟩ := ih i (k + 1) m _ (by omega) (h.ins ha hb ck hL)
      refine ⟨r, m', hr, toI3 _ ?_, toS2 _ ?_⟩
      · have fin := impl_ins_ev (i := i) ha hb ck hs e1
        refine Ev.step (fun k => by rw [impl_EditScript.j3]) (Ev.neg (by simp) ?_)
        by_cases ci : i < a.size
        · rw [succ64 i (by omega), succ64 k (by omega)]
          refine Ev.pos (by omega) (Ev.neg (by omega) (Ev.pos (by omega) (Ev.pos (by omega) (Ev.pos (by omega) (Ev.pos (by rw [row_at _ (by omega), rowL_len]; omega) (Ev.pos (by omega) (Ev.pos (by omega) (Ev.pos (by omega) (Ev.pos (by rw [row_at _ (by omega), rowL_len]; omega) ?_)))))))))
          rw [cell_at _ _ (by omega) (by omega), cell_at _ _ (by omega) (by omega), decide_eq_false (by omega)]
          exact fin
        · exact Ev.neg (by omega) fin
      · have fin : Ev (fun n => spec_editScript.j3 n a b out (tabL a b) (i : Int) (k : Int) false) r := by
          refine Ev.step (fun k => by rw [spec_editScript.j3]) (Ev.neg (by simp) ?_)
          rw [succ64 k (by omega), Int.toNat_natCast, Int.toNat_natCast]
          exact Ev.pos (by omega) (Ev.pos (by omega) (Ev.pos (by omega) (Ev.bindv (spec_addEdit_ev out 1 k _ (.inl rfl) hs (by rw [one_size b k ck]; omega)) e2)))
        refine Ev.step (fun k => by rw [spec_editScript.j2]) (Ev.neg (by simp) ?_)
        by_cases ci : i < a.size
        · rw [succ64 i (by omega), succ64 k (by omega)]
          refine Ev.pos (by omega) (Ev.neg (by omega) (Ev.pos (by omega) (Ev.pos (by omega) (Ev.pos (by omega) (Ev.pos (by rw [row_at _ (by omega), rowL_len]; omega) (Ev.pos (by omega) (Ev.pos (by omega) (Ev.pos (by omega) (Ev.pos (by rw [row_at _ (by omega), rowL_len]; omega) ?_)))))))))
          rw [cell_at _ _ (by omega) (by omega), cell_at _ _ (by omega) (by omega), decide_eq_false (by omega)]
          exact fin
        · exact Ev.neg (by omega) fin
end
theorem edit_ev (a b : ByteArray) (ha : a.size ≤ 60) (hb : b.size ≤ 60) : ∃ r m, Inv a b a.size b.size m r ∧ Ev (fun n => impl_EditScript.f n a b) r ∧ Ev (fun n => spec_EditScript.f n a b) r := by
  obtain ⟨r, m, h, e1, e2⟩ := edit_loop ha hb (a.size + b.size) 0 0 0 [] (by omega) (Inv.start a b ha)
  refine ⟨r, m, h, ?_, ?_⟩
  · unfold impl_EditScript.f
    refine Ev.neg (by omega) ?_
    rw [decide_eq_false (by omega)]
    exact Ev.step (fun k => by rw [impl_EditScript.j0]) (Ev.neg (by simp) (Ev.bind (impl_table a b ha hb) e1))
  · unfold spec_EditScript.f
    refine Ev.bindv (short_ev a b) (Ev.pos (decide_eq_true ⟨ha, hb⟩) (Ev.bind (a := r) ?_ (Ev.now _)))
    unfold spec_editScript.f
    exact Ev.bind (spec_table a b ha hb) e2
theorem edit_long (a b : ByteArray) (h : ¬ (a.size ≤ 60 ∧ b.size ≤ 60)) : Ev (fun n => impl_EditScript.f n a b) [] ∧ Ev (fun n => spec_EditScript.f n a b) [] := by
  have j : Ev (fun n => impl_EditScript.j0 n a b true) [] := Ev.step (fun k => by rw [impl_EditScript.j0]) (Ev.pos rfl (Ev.now _))
  constructor
  · unfold impl_EditScript.f
    by_cases c : a.size ≤ 60
    · refine Ev.neg (by omega) ?_; rw [decide_eq_true (by omega)]; exact j
    · exact Ev.pos (by omega) j
  · unfold spec_EditScript.f
    exact Ev.bindv (short_ev a b) (Ev.neg (by simpa using h) (Ev.now _))
theorem edit_any (a b : ByteArray) : ∃ r, Ev (fun n => impl_EditScript.f n a b) r ∧ Ev (fun n => spec_EditScript.f n a b) r ∧ r.length ≤ 120 ∧ (∀ e ∈ r, e.f2.size ≤ 120) := by
  by_cases h : a.size ≤ 60 ∧ b.size ≤ 60
  · obtain ⟨r, m, hi, e1, e2⟩ := edit_ev a b h.1 h.2
    exact ⟨r, e1, e2, by have := hi.len; omega, fun e he => by have := size_le_cost he; have := hi.cost; omega⟩
  · have := edit_long a b h
    exact ⟨[], this.1, this.2, by simp, by simp⟩
theorem cost_take_succ (es : List S43) (i : Nat) (h : i < es.length) : cost (es.take (i + 1)) = cost (es.take i) + es[i].f2.size := by
  rw [List.take_succ_eq_append_getElem h, cost_append, cost_one]
theorem cost_le_mul (es : List S43) (B : Nat) (h : ∀ e ∈ es, e.f2.size ≤ B) : cost es ≤ es.length * B := by
  induction es with
  | nil => simp [cost]
  | cons e es ih =>
    rw [show cost (e :: es) = e.f2.size + cost es from rfl, List.length_cons, Nat.add_mul]
    have := ih fun f hf => h f (by simp [hf])
    have := h e (by simp)
    omega
theorem cost_take_le (es : List S43) (i : Nat) : cost (es.take i) ≤ cost es := by
  have := cost_append (es.take i) (es.drop i)
  rw [List.take_append_drop] at this
  omega
theorem impl_cost_ev (es : List S43) (hl : es.length ≤ 1048576) (hc : cost es ≤ 1099511627776) : Ev (fun n => impl_ScriptCost.f n es) (cost es : Int) := by
  have go : ∀ (d i : Nat), i + d = es.length → Ev (fun n => impl_ScriptCost.l0 n (cost (es.take i) : Int) es (es.length : Int) (i : Int)) (cost es : Int) := by
    intro d
    induction d with
    | zero =>
      intro i hi
      refine Ev.step (fun k => by rw [impl_ScriptCost.l0]) (Ev.neg (by omega) ?_)
      rw [List.take_of_length_le (by omega)]; exact Ev.now _
    | succ d ih =>
      intro i hi
      have hi' : i < es.length := by omega
      have h1 := cost_take_succ es i hi'
      have h2 := cost_take_le es (i + 1)
      refine Ev.step (fun k => by rw [impl_ScriptCost.l0]) (Ev.pos (by omega) (Ev.pos (by omega) (Ev.pos (by omega) ?_)))
      rw [rdT_get es i hi', succ64 i (by omega), w64 (by omega) (by omega), show (cost (es.take i) : Int) + (es[i].f2.size : Int) = (cost (es.take (i + 1)) : Int) by omega]
      exact ih (i + 1) (by omega)
  exact go es.length 0 (by omega)
theorem Inv.fin {a b : ByteArray} {m : Nat} {r : List S43} (h : Inv a b a.size b.size m r) : m = Cd.lcs (by_ a) (by_ b) ∧ Q.run (by_ a) r = some (by_ b) := by
  have h1 := h.opt
  have h2 := h.run
  rw [List.drop_of_length_le (by rw [by_len]; omega), Cd.lcs_nil_left] at h1
  rw [List.drop_of_length_le (by rw [by_len]; omega), List.take_of_length_le (by rw [by_len]; omega), List.append_nil] at h2
  exact ⟨by omega, h2⟩
theorem drawAS_ev (l : List Int) (hl : ∀ x ∈ l, (Lit.int .u8 x).wf = true) : ∃ a es, Ev (fun k => spec_DrawApplyScript.f k l) (a, es) ∧ a.size ≤ 22 ∧ es.length ≤ 120 ∧ (∀ e ∈ es, e.f2.size ≤ 120) := by
  obtain ⟨b, e0, hb⟩ := newReader_ev l hl
  obtain ⟨a, t, p, e1, ha, ht, hp0, hp1⟩ := twoTexts_ev hb (p := 0) (by omega) (by omega)
  obtain ⟨r, -, e2, hrl, hrs⟩ := edit_any a t
  have fin : ∀ x : ByteArray × List S43 × Int, x.1.size ≤ 22 → x.2.1.length ≤ 120 → (∀ e ∈ x.2.1, e.f2.size ≤ 120) → Ev (fun k => spec_anyEdits.f k b 0) x →
      ∃ a es, Ev (fun k => spec_DrawApplyScript.f k l) (a, es) ∧ a.size ≤ 22 ∧ es.length ≤ 120 ∧ (∀ e ∈ es, e.f2.size ≤ 120) := by
    intro x h1 h2 h3 h4
    refine ⟨x.1, x.2.1, ?_, h1, h2, h3⟩
    unfold spec_DrawApplyScript.f
    exact Ev.bindv e0 (Ev.bind h4 (Ev.now _))
  by_cases c0 : (r.length : Int) > 0
  · obtain ⟨v, e3, v0, v1, -⟩ := pick_ev hb (p := p) (by omega) (by omega) (r.length : Int) (by omega)
    have hv := v1 (by omega)
    obtain ⟨n, rfl⟩ := Int.eq_ofNat_of_zero_le v0
    obtain ⟨u, e4, u0, u1, -⟩ := pick_ev hb (p := p + 1) (by omega) (by omega) 8 (by omega)
    have hn : n < r.length := by omega
    have hget := hrs r[n] (List.getElem_mem hn)
    have hmem : ∀ (w : S43) e, w.f2.size ≤ 120 → e ∈ r.set n w → e.f2.size ≤ 120 := by
      intro w e hw he
      rcases List.mem_or_eq_of_mem_set he with h | rfl
      · exact hrs e h
      · exact hw
    by_cases q0 : u = 0
    · obtain ⟨s, e5, -⟩ := one_ev hb (p := p + 1 + 1) (by omega) (by omega) [(-1), 0, 9, 100] (by simp) (by simp)
      refine fin (a, r.set n ⟨r[n].f0, s, r[n].f2⟩, p + 1 + 1 + 1) ha (by simpa using hrl) (fun e he => hmem ⟨r[n].f0, s, r[n].f2⟩ e hget he) ?_
      unfold spec_anyEdits.f
      refine Ev.bind e1 (Ev.bind e2 (Ev.pos c0 (Ev.bind e3 (Ev.bind e4 (Ev.pos q0 (Ev.bind e5 (Ev.pos (by dsimp only; omega) (Ev.pos (by dsimp only; omega) ?_))))))))
      dsimp only
      rw [rdT_get r n hn, Int.toNat_natCast]
      exact Ev.now _
    by_cases q1 : u = 1
    · obtain ⟨s, e5, -⟩ := one_ev hb (p := p + 1 + 1) (by omega) (by omega) [0, 1, 2, 3] (by simp) (by simp)
      refine fin (a, r.set n ⟨s, r[n].f1, r[n].f2⟩, p + 1 + 1 + 1) ha (by simpa using hrl) (fun e he => hmem ⟨s, r[n].f1, r[n].f2⟩ e hget he) ?_
      unfold spec_anyEdits.f
      refine Ev.bind e1 (Ev.bind e2 (Ev.pos c0 (Ev.bind e3 (Ev.bind e4 (Ev.neg q0 (Ev.pos q1 (Ev.bind e5 (Ev.pos (by dsimp only; omega) (Ev.pos (by dsimp only; omega) ?_)))))))))
      dsimp only
      rw [rdT_get r n hn, Int.toNat_natCast]
      exact Ev.now _
    by_cases q2 : u = 2
    · obtain ⟨s, e5, hs⟩ := of_ev hb (p := p + 1 + 1) (by omega) (by omega) [(⟨#[]⟩ : ByteArray), (⟨#[113]⟩ : ByteArray), (⟨#[97]⟩ : ByteArray)] (by simp) (by simp)
      have hsz : s.size ≤ 120 := by
        simp only [List.mem_cons, List.not_mem_nil, or_false] at hs
        rcases hs with rfl | rfl | rfl <;> decide
      refine fin (a, r.set n ⟨r[n].f0, r[n].f1, s⟩, p + 1 + 1 + 1) ha (by simpa using hrl) (fun e he => hmem _ e hsz he) ?_
      unfold spec_anyEdits.f
      refine Ev.bind e1 (Ev.bind e2 (Ev.pos c0 (Ev.bind e3 (Ev.bind e4 (Ev.neg q0 (Ev.neg q1 (Ev.pos q2 (Ev.bind e5 (Ev.pos (by dsimp only; omega) (Ev.pos (by dsimp only; omega) ?_))))))))))
      dsimp only
      rw [rdT_get r n hn, Int.toNat_natCast]
      exact Ev.now _
    · refine fin (a, r, p + 1 + 1) ha hrl hrs ?_
      unfold spec_anyEdits.f
      exact Ev.bind e1 (Ev.bind e2 (Ev.pos c0 (Ev.bind e3 (Ev.bind e4 (Ev.neg q0 (Ev.neg q1 (Ev.neg q2 (Ev.now _))))))))
  · refine fin (a, r, p) ha hrl hrs ?_
    unfold spec_anyEdits.f
    exact Ev.bind e1 (Ev.bind e2 (Ev.neg c0 (Ev.now _)))

theorem apS_some {s t : List UInt8} {es : List S43} (h : apS s es = some t) : s.length ≤ 120 ∧ es.length ≤ 120 ∧ run s es = some t := by
  unfold apS at h
  by_cases c : s.length > 120 ∨ es.length > 120
  · rw [if_pos c] at h; cases h
  · rw [if_neg c] at h; exact ⟨by omega, by omega, h⟩
theorem pure_ScriptMinimal : laws_FnScriptMinimal.Pure := by
  intro l _ _ hl
  refine Ev.rounds ?_
  unfold laws_FnScriptMinimal.f
  by_cases c0 : (l.length : Int) > 1048576
  · exact Ev.pos c0 (Ev.now _)
  obtain ⟨a, es, e, ha, hel, hes⟩ := drawAS_ev l hl
  have hsh : short es := fun e he => by have := hes e he; omega
  refine Ev.neg c0 (Ev.bind e (Ev.bind (impl_apply_ev a es hsh) (Ev.bind (spec_apply_ev a es (by omega) hsh) (Ev.neg (by simp) (Ev.pos rfl ?_)))))
  dsimp only
  have same : Ev (fun k => laws_FnScriptMinimal.j0 k a es (ans (apS (by_ a) es)).1 (ans (apS (by_ a) es)).2 (ans (apS (by_ a) es)).1 (ans (apS (by_ a) es)).2 true) true := by
    refine Ev.step (fun k => by rw [laws_FnScriptMinimal.j0]) ?_
    refine Ev.pos rfl ?_
    refine Ev.pos (by simp) ?_
    exact Ev.eqr (Ev.now _) (by simp)
  cases hr : apS (by_ a) es with
  | none => rw [hr] at same; exact Ev.neg (by simp [ans]) same
  | some t =>
    rw [hr] at same
    obtain ⟨-, -, hrun⟩ := apS_some hr
    refine Ev.pos rfl (Ev.neg (by omega) ?_)
    by_cases c : t.length > 60
    · rw [decide_eq_true (by simp only [ans, mkb_size]; omega)]; exact same
    rw [decide_eq_false (by simp only [ans, mkb_size]; omega)]
    obtain ⟨r, m, hi, e1, -⟩ := edit_ev a (mkb t) (by omega) (by rw [mkb_size]; omega)
    have hs := hi.small (by omega) (by rw [mkb_size]; omega)
    have hc := hi.cost
    obtain ⟨hm, -⟩ := hi.fin
    have hce := cost_le_mul es 120 hes
    have hmul : es.length * 120 ≤ 120 * 120 := Nat.mul_le_mul_right _ hel
    have hi1 := hi.hi
    refine Ev.step (fun k => by rw [laws_FnScriptMinimal.j0]) ?_
    refine Ev.neg (by simp) ?_
    refine Ev.bind e1 ?_
    refine Ev.bind (impl_cost_ev r (by have := hs.1; omega) (by rw [mkb_size] at hc; omega)) ?_
    refine Ev.bind (impl_cost_ev es (by omega) (by omega)) ?_
    refine Ev.eqr (Ev.now _) ?_
    rw [decide_eq_true_iff]
    have key : ∀ (es : List S43) (s u : List UInt8), run s es = some u → Cd.dist (by_ a) u ≤ Cd.dist (by_ a) s + cost es := by
      intro es
      induction es with
      | nil => intro s u h; rw [run] at h; obtain rfl := Option.some.inj h; omega
      | cons e es ih =>
        intro s u h
        rw [run] at h
        obtain ⟨x, hx, h⟩ := Option.bind_eq_some_iff.1 h
        by_cases c : x.length > 120
        · rw [if_pos c] at h; cases h
        rw [if_neg c] at h
        have := ih x u h
        obtain ⟨P, R, hP, hs, hc⟩ := apL_inv hx
        rw [show cost (e :: es) = e.f2.size + cost es from rfl]
        rcases hc with ⟨h1, rfl, rfl⟩ | ⟨h1, rfl, rfl⟩
        · have := Cd.dist_insert (by_ a) P (by_ e.f2) R; rw [by_len] at this; omega
        · have := Cd.dist_delete (by_ a) P (by_ e.f2) R; rw [by_len] at this; omega
    have h1 := key es _ _ hrun
    have h2 : Cd.dist (by_ a) (by_ a) = 0 := by unfold Cd.dist; rw [Cd.lcs_self]; omega
    have h3 : Cd.dist (by_ a) t + 2 * m = a.size + t.length := by
      unfold Cd.dist
      rw [hm, by_mkb, by_len]
      have l1 := Cd.lcs_le_left (by_ a) t; rw [by_len] at l1
      have l2 := Cd.lcs_le_right (by_ a) t
      omega
    rw [mkb_size] at hc
    omega
end Go.Proofs.Ytnlfmbdnleclfaa.Q
