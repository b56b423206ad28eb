import Derived.Test.YtnlfmbdnleclfaaWB
import Derived.Test.YtnlfmbdnleclfaaQ0
import Derived.Test.YtnlfmbdnleclfaaQ14
import Derived.Test.YtnlfmbdnleclfaaQ15
import Derived.Test.YtnlfmbdnleclfaaQ2
import Derived.Test.YtnlfmbdnleclfaaQ3
import Derived.Test.YtnlfmbdnleclfaaQ35
import Derived.Test.YtnlfmbdnleclfaaQ36
import Derived.Test.YtnlfmbdnleclfaaQ37
import Derived.Test.YtnlfmbdnleclfaaQ40d
import Derived.Test.YtnlfmbdnleclfaaQ42
import Derived.Test.YtnlfmbdnleclfaaQ43
import Derived.Test.YtnlfmbdnleclfaaQ44
import Derived.Test.YtnlfmbdnleclfaaQ46
import Derived.Test.YtnlfmbdnleclfaaQ5
set_option linter.unusedVariables false
set_option linter.unusedSimpArgs false
set_option linter.unusedSectionVars false
namespace Cd
variable {α : Type} [DecidableEq α]
def lcs : List α → List α → Nat
  | [], _ => 0
  | _ :: _, [] => 0
  | a :: aa, b :: bb => if a = b then lcs aa bb + 1 else max (lcs aa (b :: bb)) (lcs (a :: aa) bb)
termination_by a b => a.length + b.length
theorem lcs_nil_left (b : List α) : lcs [] b = 0 := by unfold lcs; rfl
theorem lcs_nil_right (a : List α) : lcs a [] = 0 := by cases a <;> (unfold lcs; rfl)
theorem lcs_eq (a : α) (aa bb : List α) : lcs (a :: aa) (a :: bb) = lcs aa bb + 1 := by
  rw [lcs, if_pos rfl]
theorem lcs_ne {a b : α} (h : a ≠ b) (aa bb : List α) : lcs (a :: aa) (b :: bb) = max (lcs aa (b :: bb)) (lcs (a :: aa) bb) := by
  rw [lcs, if_neg h]
theorem lcs_get : ∀ (n : Nat) (a b : List α), a.length + b.length ≤ n → ∃ s : List α, s.Sublist a ∧ s.Sublist b ∧ s.length = lcs a b := by
  intro n
  induction n with
  | zero =>
    intro a b hn
    have h1 : a = [] := List.eq_nil_of_length_eq_zero (by omega)
    subst h1
    exact ⟨[], List.Sublist.refl _, List.nil_sublist _, by rw [lcs_nil_left]; rfl⟩
  | succ n ih =>
    intro a b hn
    match a, b with
    | [], b => exact ⟨[], List.Sublist.refl _, List.nil_sublist _, by rw [lcs_nil_left]; rfl⟩
    | x :: aa, [] => exact ⟨[], List.nil_sublist _, List.Sublist.refl _, by rw [lcs_nil_right]; rfl⟩
    | x :: aa, y :: bb =>
      simp only [List.length_cons] at hn
      by_cases h : x = y
      · subst h
        obtain ⟨s, h1, h2, h3⟩ := ih aa bb (by omega)
        exact ⟨x :: s, List.Sublist.cons_cons x h1, List.Sublist.cons_cons x h2, by rw [lcs_eq]; simp [h3]⟩
      · rw [lcs_ne h]
        obtain ⟨s, h1, h2, h3⟩ := ih aa (y :: bb) (by simp; omega)
        obtain ⟨t, g1, g2, g3⟩ := ih (x :: aa) bb (by simp; omega)
        by_cases hm : lcs aa (y :: bb) ≤ lcs (x :: aa) bb
        · exact ⟨t, g1, List.Sublist.cons y g2, by omega⟩
        · exact ⟨s, List.Sublist.cons x h1, h2, by omega⟩
theorem lcs_sub (a b : List α) : ∃ s : List α, s.Sublist a ∧ s.Sublist b ∧ s.length = lcs a b := lcs_get _ a b (Nat.le_refl _)
theorem lcs_le_left (a b : List α) : lcs a b ≤ a.length := by
  obtain ⟨s, h1, _, h3⟩ := lcs_sub a b; have := h1.length_le; omega
end Cd
namespace Go.Proofs.Ytnlfmbdnleclfaa.Q
open Go.RowKit Go.Proofs.YtnlfmbdnleclfaaW.PrintWords Go.Proofs.YtnlfmbdnleclfaaW.PrintLast Go.Proofs.YtnlfmbdnleclfaaW.PrintMore
theorem Ev.pos {α : Type} {c : Prop} [Decidable c] {A B : Nat → Option α} {r : α} (h : c) (e : Ev A r) : Ev (fun k => if c then A k else B k) r := by
  obtain ⟨K, e⟩ := e
  exact ⟨K, fun k hk => by simp only [if_pos h]; exact e k hk⟩
theorem Ev.neg {α : Type} {c : Prop} [Decidable c] {A B : Nat → Option α} {r : α} (h : ¬ c) (e : Ev B r) : Ev (fun k => if c then A k else B k) r := by
  obtain ⟨K, e⟩ := e
  exact ⟨K, fun k hk => by simp only [if_neg h]; exact e k hk⟩
theorem Ev.bindv {α β : Type} {g : Option α} {f : Nat → α → Option β} {a : α} {r : β} (h : g = some a) (k : Ev (fun n => f n a) r) : Ev (fun n => g.bind (f n)) r := by
  subst h; exact k
theorem w64 {n : Int} (h0 : -9223372036854775808 ≤ n) (h1 : n ≤ 9223372036854775807) : wrap64 n = n := by unfold wrap64; omega
theorem Ev.eqr {α : Type} {A : Nat → Option α} {r r' : α} (h : Ev A r') (e : r' = r) : Ev A r := e ▸ h
theorem getD_set_self {α : Type} {d : α} {l : List α} {i : Nat} {v : α} (h : i < l.length) : (l.set i v).getD i d = v := by
  simp [List.getD, h]
theorem getD_set_ne {α : Type} {d : α} {l : List α} {i j : Nat} {v : α} (h : i ≠ j) : (l.set i v).getD j d = l.getD j d := by
  simp [List.getD, h]
theorem getD_repl {α : Type} (n m : Nat) (v : α) : (List.replicate n v).getD m v = v := by
  simp only [List.getD, List.getElem?_replicate]; split <;> rfl
theorem ext_getD {α : Type} {d : α} {l m : List α} (hl : l.length = m.length) (h : ∀ i, i < l.length → l.getD i d = m.getD i d) : l = m := by
  refine List.ext_getElem hl fun i h1 h2 => ?_
  have := h i h1
  simpa [List.getD, h1, h2] using this
abbrev by_ (a : ByteArray) : List UInt8 := a.data.toList
theorem by_len (a : ByteArray) : (by_ a).length = a.size := data_length a
theorem bt_get (a : ByteArray) (i : Nat) (h : i < a.size) : bt a (i : Int) = (((by_ a)[i]'(by rw [by_len]; exact h)).toNat : Int) := by
  unfold bt
  rw [dif_pos (by simpa using h)]
  rfl
def L (a b : ByteArray) (i k : Nat) : Int := (Cd.lcs ((by_ a).drop i) ((by_ b).drop k) : Nat)
theorem L_eq {a b : ByteArray} {i k : Nat} (hi : i < a.size) (hk : k < b.size) (h : bt a i = bt b k) : L a b i k = L a b (i + 1) (k + 1) + 1 := by
  rw [bt_get a i hi, bt_get b k hk] at h
  have h' : (by_ a)[i]'(by rw [by_len]; exact hi) = (by_ b)[k]'(by rw [by_len]; exact hk) := UInt8.toNat_inj.1 (by omega)
  unfold L
  rw [List.drop_eq_getElem_cons (by rw [by_len]; exact hi : i < (by_ a).length), List.drop_eq_getElem_cons (by rw [by_len]; exact hk : k < (by_ b).length), h', Cd.lcs_eq]
  omega
theorem L_ne {a b : ByteArray} {i k : Nat} (hi : i < a.size) (hk : k < b.size) (h : bt a i ≠ bt b k) : L a b i k = mx (L a b (i + 1) k) (L a b i (k + 1)) := by
  rw [bt_get a i hi, bt_get b k hk] at h
  have h' : (by_ a)[i]'(by rw [by_len]; exact hi) ≠ (by_ b)[k]'(by rw [by_len]; exact hk) := fun e => h (by rw [e])
  unfold L mx
  rw [List.drop_eq_getElem_cons (by rw [by_len]; exact hi : i < (by_ a).length), List.drop_eq_getElem_cons (by rw [by_len]; exact hk : k < (by_ b).length), Cd.lcs_ne h']
  split <;> omega
theorem L_end (a b : ByteArray) {i k : Nat} (h : a.size ≤ i ∨ b.size ≤ k) : L a b i k = 0 := by
  unfold L
  rcases h with h | h
  · rw [List.drop_of_length_le (by rw [by_len]; exact h), Cd.lcs_nil_left]; rfl
  · rw [List.drop_of_length_le (by rw [by_len]; exact h : (by_ b).length ≤ k), Cd.lcs_nil_right]; rfl
theorem L_bound (a b : ByteArray) (i k : Nat) : 0 ≤ L a b i k ∧ L a b i k ≤ a.size := by
  unfold L
  have := Cd.lcs_le_left ((by_ a).drop i) ((by_ b).drop k)
  rw [List.length_drop, by_len] at this
  omega
def rowL (a b : ByteArray) (i : Nat) : List Int := (List.range (b.size + 1)).map (L a b i)
theorem rowL_len (a b : ByteArray) (i : Nat) : (rowL a b i).length = b.size + 1 := by simp [rowL]
theorem rowL_get (a b : ByteArray) (i k : Nat) (h : k ≤ b.size) : (rowL a b i).getD k 0 = L a b i k := by
  simp [rowL, List.getD, show k < b.size + 1 by omega]
def tabL (a b : ByteArray) : List (List Int) := (List.range (a.size + 1)).map (rowL a b)
theorem tabL_len (a b : ByteArray) : (tabL a b).length = a.size + 1 := by simp [tabL]
theorem tabL_get (a b : ByteArray) (i : Nat) (h : i ≤ a.size) : (tabL a b).getD i [] = rowL a b i := by
  simp [tabL, List.getD, show i < a.size + 1 by omega]
theorem rd_nat (xs : List Int) (i : Nat) : rd xs (i : Int) = xs.getD i 0 := by unfold rd; rw [Int.toNat_natCast]
theorem rdL_nat (xs : List (List Int)) (i : Nat) : rd_L1 xs (i : Int) = xs.getD i [] := by unfold rd_L1; rw [Int.toNat_natCast]
theorem spec_inner (a b : ByteArray) (ha : a.size ≤ 60) (hb : b.size ≤ 60) (i : Nat) (hi : i < a.size) (r : List (List Int)) : ∀ (j : Nat) (T : List (List Int)), j ≤ b.size → T.length = a.size + 1 →
    T.getD (i + 1) [] = rowL a b (i + 1) → (T.getD i []).length = b.size + 1 → (∀ m, j ≤ m → m ≤ b.size → (T.getD i []).getD m 0 = L a b i m) →
    Ev (fun k => spec_lcsTable.l0 k a b (T.set i (rowL a b i)) ((i : Int) - 1)) r → Ev (fun k => spec_lcsTable.l1 k a b T i ((j : Int) - 1)) r := by
  intro j
  induction j with
  | zero =>
    intro T hj hT h1 h2 h3 he
    refine Ev.step (fun k => by rw [spec_lcsTable.l1]) ?_
    refine Ev.neg (by omega) ?_
    refine Ev.step (fun k => by rw [spec_lcsTable.j2]) ?_
    refine Ev.neg (by simp) ?_
    rw [w64 (by omega) (by omega)]
    have e : T.set i (rowL a b i) = T := by
      have : T.getD i [] = rowL a b i := ext_getD (d := 0) (by rw [h2, rowL_len]) fun m hm => by
        rw [h3 m (by omega) (by omega), rowL_get _ _ _ _ (by omega)]
      refine ext_getD (d := []) (by simp) fun m hm => ?_
      rw [List.length_set] at hm
      by_cases hmi : i = m
      · subst hmi; rw [getD_set_self hm, this]
      · rw [getD_set_ne hmi]
    rw [e] at he
    exact he
  | succ j ih =>
    intro T hj hT h1 h2 h3 he
    have hlb := fun i k => L_bound a b i k
    refine Ev.step (fun k => by rw [spec_lcsTable.l1]) ?_
    refine Ev.pos (by omega) ?_
    have ej : ((j + 1 : Nat) : Int) - 1 = (j : Int) := by omega
    have ei : wrap64 ((i : Int) + 1) = ((i + 1 : Nat) : Int) := by rw [w64 (by omega) (by omega)]; rfl
    have ek : wrap64 ((j : Int) + 1) = ((j + 1 : Nat) : Int) := by rw [w64 (by omega) (by omega)]; rfl
    have em : wrap64 ((j : Int) - 1) = (j : Int) - 1 := w64 (by omega) (by omega)
    rw [ej, show decide ((i : Int) < (a.size : Int)) = true from decide_eq_true (by omega)]
    refine Ev.step (fun k => by rw [spec_lcsTable.j2]) ?_
    simp only [ei, ek, em, rdL_nat, rd_nat]
    refine Ev.pos trivial (Ev.pos (by omega) (Ev.pos (by omega) (Ev.pos (by omega) (Ev.pos (by omega) ?_))))
    have hget : (T.getD i []).getD (j + 1) 0 = L a b i (j + 1) := h3 _ (by omega) (by omega)
    have key : ∀ v, v = L a b i j → Ev (fun k => spec_lcsTable.l1 k a b (T.set (i : Int).toNat ((T.getD i []).set (j : Int).toNat v)) i ((j : Int) - 1)) r := by
      intro v hv
      rw [Int.toNat_natCast, Int.toNat_natCast]
      refine ih _ (by omega) (by simpa using hT) ?_ ?_ ?_ ?_
      · rw [getD_set_ne (by omega)]; exact h1
      · rw [getD_set_self (by omega)]; simpa using h2
      · intro m hm1 hm2
        rw [getD_set_self (by omega)]
        by_cases hmj : j = m
        · subst hmj; rw [getD_set_self (by omega)]; exact hv
        · rw [getD_set_ne hmj]; exact h3 m (by omega) hm2
      · rw [List.set_set]; exact he
    by_cases hc : bt a i = bt b j
    · refine Ev.pos hc (Ev.pos (by omega) (Ev.pos (by omega) (Ev.pos (by omega) (Ev.pos (by omega) ?_))))
      rw [h1]
      refine Ev.pos (by rw [rowL_len]; omega) (Ev.pos (by omega) ?_)
      refine key _ ?_
      rw [rowL_get _ _ _ _ (by omega), w64 (by have := hlb (i + 1) (j + 1); omega) (by have := hlb (i + 1) (j + 1); omega), L_eq hi (by omega) hc]
    · refine Ev.neg hc (Ev.pos (by omega) (Ev.pos (by omega) (Ev.pos (by omega) ?_)))
      rw [h1]
      refine Ev.pos (by rw [rowL_len]; omega) (Ev.pos (by omega) (Ev.pos (by omega) (Ev.pos (by omega) ?_)))
      refine key _ ?_
      rw [rowL_get _ _ _ _ (by omega), hget, L_ne hi (by omega) hc]
theorem zrow_len (b : ByteArray) (hb : b.size ≤ 60) : wrap64 ((b.size : Int) + 1) = ((b.size + 1 : Nat) : Int) := by rw [w64 (by omega) (by omega)]; rfl
theorem spec_outer (a b : ByteArray) (ha : a.size ≤ 60) (hb : b.size ≤ 60) : ∀ (i : Nat) (T : List (List Int)), i ≤ a.size + 1 → T.length = a.size + 1 →
    (∀ m, i ≤ m → m ≤ a.size → T.getD m [] = rowL a b m) → Ev (fun k => spec_lcsTable.l0 k a b T ((i : Int) - 1)) (tabL a b) := by
  intro i
  induction i with
  | zero =>
    intro T _ hT h
    refine Ev.step (fun k => by rw [spec_lcsTable.l0]) ?_
    refine Ev.neg (by omega) (Ev.eqr (Ev.now _) ?_)
    exact ext_getD (d := []) (by rw [hT, tabL_len]) fun m hm => by rw [h m (by omega) (by omega), tabL_get _ _ _ (by omega)]
  | succ i ih =>
    intro T hi hT h
    have ei : ((i + 1 : Nat) : Int) - 1 = (i : Int) := by omega
    have ew : wrap64 ((i : Int) - 1) = (i : Int) - 1 := w64 (by omega) (by omega)
    rw [ei]
    refine Ev.step (fun k => by rw [spec_lcsTable.l0]) ?_
    simp only [zrow_len b hb, Int.toNat_natCast]
    refine Ev.pos (by omega) (Ev.pos (by omega) (Ev.pos (by omega) (Ev.pos (by omega) (Ev.pos (by omega) ?_))))
    rw [w64 (n := (b.size : Int) - 1) (by omega) (by omega)]
    have hz : (T.set i (List.replicate (b.size + 1) 0)).getD i [] = List.replicate (b.size + 1) 0 := getD_set_self (by omega)
    have fin : ∀ T', T'.length = a.size + 1 → (∀ m, i ≤ m → m ≤ a.size → T'.getD m [] = rowL a b m) → Ev (fun k => spec_lcsTable.l0 k a b T' ((i : Int) - 1)) (tabL a b) :=
      fun T' h1 h2 => ih T' (by omega) h1 h2
    by_cases hia : i < a.size
    · refine spec_inner a b ha hb i hia _ b.size _ (Nat.le_refl _) (by simpa using hT) ?_ ?_ ?_ ?_
      · rw [getD_set_ne (by omega)]; exact h _ (Nat.le_refl _) (by omega)
      · rw [hz]; simp
      · intro m h1 h2; rw [hz, L_end a b (.inr h1), getD_repl]
      · rw [List.set_set]
        refine fin _ (by simpa using hT) fun m h1 h2 => ?_
        by_cases hmi : i = m
        · subst hmi; rw [getD_set_self (by omega)]
        · rw [getD_set_ne hmi]; exact h m (by omega) h2
    · refine Ev.step (fun k => by rw [spec_lcsTable.l1]) ?_
      have hz0 : List.replicate (b.size + 1) 0 = rowL a b i := ext_getD (d := 0) (by simp [rowL_len]) fun m hm => by
        rw [List.length_replicate] at hm
        rw [rowL_get _ _ _ _ (by omega), L_end a b (.inl (by omega)), getD_repl]
      have fin' : Ev (fun k => spec_lcsTable.j2 k a b (T.set i (List.replicate (b.size + 1) 0)) i ((b.size : Int) - 1) false) (tabL a b) := by
        refine Ev.step (fun k => by rw [spec_lcsTable.j2]) ?_
        refine Ev.neg (by simp) ?_
        rw [ew]
        refine fin _ (by simpa using hT) fun m h1 h2 => ?_
        by_cases hmi : i = m
        · subst hmi; rw [getD_set_self (by omega), hz0]
        · rw [getD_set_ne hmi]; exact h m (by omega) h2
      by_cases hb0 : (b.size : Int) - 1 ≥ 0
      · refine Ev.pos hb0 ?_
        rw [show decide ((i : Int) < (a.size : Int)) = false from decide_eq_false (by omega)]
        exact fin'
      · exact Ev.neg hb0 fin'
theorem spec_table (a b : ByteArray) (ha : a.size ≤ 60) (hb : b.size ≤ 60) : Ev (fun k => spec_lcsTable.f k a b) (tabL a b) := by
  unfold spec_lcsTable.f
  simp only [zrow_len a ha, Int.toNat_natCast]
  refine Ev.pos (by omega) (Ev.pos (by omega) ?_)
  have := spec_outer a b ha hb (a.size + 1) (List.replicate (a.size + 1) []) (Nat.le_refl _) (by simp) (fun m h1 h2 => by omega)
  rw [show ((a.size + 1 : Nat) : Int) - 1 = (a.size : Int) by omega] at this
  exact this
theorem impl_inner (a b : ByteArray) (ha : a.size ≤ 60) (hb : b.size ≤ 60) (i : Nat) (hi : i < a.size) (r : List (List Int)) : ∀ (j : Nat) (T : List (List Int)), j ≤ b.size → T.length = a.size + 1 →
    T.getD (i + 1) [] = rowL a b (i + 1) → (T.getD i []).length = b.size + 1 → (∀ m, j ≤ m → m ≤ b.size → (T.getD i []).getD m 0 = L a b i m) →
    Ev (fun k => impl_commonTable.l1 k a b (T.set i (rowL a b i)) ((i : Int) - 1)) r → Ev (fun k => impl_commonTable.l2 k a b T i ((j : Int) - 1)) r := by
  intro j
  induction j with
  | zero =>
    intro T hj hT h1 h2 h3 he
    refine Ev.step (fun k => by rw [impl_commonTable.l2]) ?_
    refine Ev.neg (by omega) ?_
    rw [w64 (by omega) (by omega)]
    have e : T.set i (rowL a b i) = T := by
      have : T.getD i [] = rowL a b i := ext_getD (d := 0) (by rw [h2, rowL_len]) fun m hm => by
        rw [h3 m (by omega) (by omega), rowL_get _ _ _ _ (by omega)]
      refine ext_getD (d := []) (by simp) fun m hm => ?_
      rw [List.length_set] at hm
      by_cases hmi : i = m
      · subst hmi; rw [getD_set_self hm, this]
      · rw [getD_set_ne hmi]
    rw [e] at he
    exact he
  | succ j ih =>
    intro T hj hT h1 h2 h3 he
    have hlb := fun i k => L_bound a b i k
    have ej : ((j + 1 : Nat) : Int) - 1 = (j : Int) := by omega
    have ei : wrap64 ((i : Int) + 1) = ((i + 1 : Nat) : Int) := by rw [w64 (by omega) (by omega)]; rfl
    have ek : wrap64 ((j : Int) + 1) = ((j + 1 : Nat) : Int) := by rw [w64 (by omega) (by omega)]; rfl
    have em : wrap64 ((j : Int) - 1) = (j : Int) - 1 := w64 (by omega) (by omega)
    rw [ej]
    refine Ev.step (fun k => by rw [impl_commonTable.l2]) ?_
    simp only [ei, ek, em, rdL_nat, rd_nat]
    refine Ev.pos (by omega) (Ev.pos (by omega) (Ev.pos (by omega) (Ev.pos (by omega) (Ev.pos (by omega) ?_))))
    have hget : (T.getD i []).getD (j + 1) 0 = L a b i (j + 1) := h3 _ (by omega) (by omega)
    have key : ∀ v, v = L a b i j → Ev (fun k => impl_commonTable.l2 k a b (T.set (i : Int).toNat ((T.getD i []).set (j : Int).toNat v)) i ((j : Int) - 1)) r := by
      intro v hv
      rw [Int.toNat_natCast, Int.toNat_natCast]
      refine ih _ (by omega) (by simpa using hT) ?_ ?_ ?_ ?_
      · rw [getD_set_ne (by omega)]; exact h1
      · rw [getD_set_self (by omega)]; simpa using h2
      · intro m hm1 hm2
        rw [getD_set_self (by omega)]
        by_cases hmj : j = m
        · subst hmj; rw [getD_set_self (by omega)]; exact hv
        · rw [getD_set_ne hmj]; exact h3 m (by omega) hm2
      · rw [List.set_set]; exact he
    by_cases hc : bt a i = bt b j
    · refine Ev.pos hc (Ev.pos (by omega) (Ev.pos (by omega) (Ev.pos (by omega) (Ev.pos (by omega) ?_))))
      rw [h1]
      refine Ev.pos (by rw [rowL_len]; omega) (Ev.pos (by omega) ?_)
      refine key _ ?_
      rw [rowL_get _ _ _ _ (by omega), w64 (by have := hlb (i + 1) (j + 1); omega) (by have := hlb (i + 1) (j + 1); omega), L_eq hi (by omega) hc]
    · refine Ev.neg hc (Ev.pos (by omega) (Ev.pos (by omega) (Ev.pos (by omega) ?_)))
      rw [h1]
      refine Ev.pos (by rw [rowL_len]; omega) (Ev.pos (by omega) (Ev.pos (by omega) (Ev.pos (by omega) ?_)))
      refine key _ ?_
      rw [rowL_get _ _ _ _ (by omega), hget, L_ne hi (by omega) hc]
theorem impl_outer (a b : ByteArray) (ha : a.size ≤ 60) (hb : b.size ≤ 60) : ∀ (i : Nat) (T : List (List Int)), i ≤ a.size → T.length = a.size + 1 →
    (∀ m, i ≤ m → m ≤ a.size → T.getD m [] = rowL a b m) → (∀ m, m < i → T.getD m [] = List.replicate (b.size + 1) 0) → Ev (fun k => impl_commonTable.l1 k a b T ((i : Int) - 1)) (tabL a b) := by
  intro i
  induction i with
  | zero =>
    intro T _ hT h _
    refine Ev.step (fun k => by rw [impl_commonTable.l1]) ?_
    refine Ev.neg (by omega) (Ev.eqr (Ev.now _) ?_)
    exact ext_getD (d := []) (by rw [hT, tabL_len]) fun m hm => by rw [h m (by omega) (by omega), tabL_get _ _ _ (by omega)]
  | succ i ih =>
    intro T hi hT h hz
    have ei : ((i + 1 : Nat) : Int) - 1 = (i : Int) := by omega
    rw [ei]
    refine Ev.step (fun k => by rw [impl_commonTable.l1]) ?_
    refine Ev.pos (by omega) ?_
    rw [w64 (n := (b.size : Int) - 1) (by omega) (by omega)]
    have hzi := hz i (by omega)
    refine impl_inner a b ha hb i (by omega) _ b.size _ (Nat.le_refl _) hT (h _ (Nat.le_refl _) (by omega)) ?_ ?_ ?_
    · rw [hzi]; simp
    · intro m h1 h2; rw [hzi, L_end a b (.inr h1), getD_repl]
    · refine ih _ (by omega) (by simpa using hT) (fun m h1 h2 => ?_) (fun m h1 => ?_)
      · by_cases hmi : i = m
        · subst hmi; rw [getD_set_self (by omega)]
        · rw [getD_set_ne hmi]; exact h m (by omega) h2
      · rw [getD_set_ne (by omega)]; exact hz m (by omega)
theorem impl_fill (a b : ByteArray) (ha : a.size ≤ 60) (hb : b.size ≤ 60) : ∀ (d i : Nat) (T : List (List Int)), i + d = a.size + 1 → T.length = a.size + 1 →
    (∀ m, m < i → T.getD m [] = List.replicate (b.size + 1) 0) → Ev (fun k => impl_commonTable.l0 k a b T ((a.size + 1 : Nat) : Int) (i : Int)) (tabL a b) := by
  intro d
  induction d with
  | zero =>
    intro i T hi hT hz
    refine Ev.step (fun k => by rw [impl_commonTable.l0]) ?_
    refine Ev.neg (by omega) ?_
    rw [w64 (by omega) (by omega)]
    refine impl_outer a b ha hb a.size T (Nat.le_refl _) hT (fun m h1 h2 => ?_) (fun m h => hz m (by omega))
    rw [hz m (by omega)]
    exact ext_getD (d := 0) (by simp [rowL_len]) fun q hm => by
        rw [List.length_replicate] at hm
        rw [rowL_get _ _ _ _ (by omega), L_end a b (.inl (by omega)), getD_repl]
  | succ d ih =>
    intro i T hi hT hz
    refine Ev.step (fun k => by rw [impl_commonTable.l0]) ?_
    simp only [zrow_len b hb, Int.toNat_natCast]
    refine Ev.pos (by omega) (Ev.pos (by omega) (Ev.pos (by omega) (Ev.pos (by omega) (Ev.pos (by omega) ?_))))
    rw [show wrap64 ((i : Int) + 1) = ((i + 1 : Nat) : Int) by rw [w64 (by omega) (by omega)]; rfl]
    refine ih (i + 1) _ (by omega) (by simpa using hT) fun m h => ?_
    by_cases hmi : i = m
    · subst hmi; rw [getD_set_self (by omega)]
    · rw [getD_set_ne hmi]; exact hz m (by omega)
theorem impl_table (a b : ByteArray) (ha : a.size ≤ 60) (hb : b.size ≤ 60) : Ev (fun k => impl_commonTable.f k a b) (tabL a b) := by
  unfold impl_commonTable.f
  simp only [zrow_len a ha, Int.toNat_natCast]
  refine Ev.pos (by omega) (Ev.pos (by omega) ?_)
  refine Ev.bindv rfl ?_
  have := impl_fill a b ha hb (a.size + 1) 0 (List.replicate (a.size + 1) []) (by omega) (by simp) (fun m h1 => by omega)
  simpa using this

theorem short_ev (a b : ByteArray) : spec_shortTexts.f a b = some (decide (a.size ≤ 60 ∧ b.size ≤ 60)) := by
  unfold spec_shortTexts.f
  by_cases h : a.size ≤ 60
  · rw [if_pos (by omega)]; congr 1; rw [decide_eq_decide]; omega
  · rw [if_neg (by omega)]; congr 1; simp; omega
theorem by_append (a b : ByteArray) : by_ (a ++ b) = by_ a ++ by_ b := by simp [by_]
theorem by_extract (a : ByteArray) (i j : Nat) : by_ (a.extract i j) = ((by_ a).take j).drop i := by
  simp [by_, ByteArray.data_extract, Array.toList_extract, List.drop_take]
def apL (s : List UInt8) (e : S43) : Option (List UInt8) :=
  if e.f2.size = 0 ∨ e.f1 < 0 ∨ e.f1 > s.length then none
  else if e.f0 = 1 then some (s.take e.f1.toNat ++ by_ e.f2 ++ s.drop e.f1.toNat)
  else if e.f0 = 2 then (if (s.drop e.f1.toNat).take e.f2.size = by_ e.f2 then some (s.take e.f1.toNat ++ s.drop (e.f1.toNat + e.f2.size)) else none)
  else none
def run : List UInt8 → List S43 → Option (List UInt8)
  | s, [] => some s
  | s, e :: es => (apL s e).bind fun x => if x.length > 120 then none else run x es
theorem rdT_get (es : List S43) (i : Nat) (h : i < es.length) : rd_T43 es (i : Int) = es[i] := by
  unfold rd_T43 List.getD; rw [Int.toNat_natCast, List.getElem?_eq_getElem h]; rfl
theorem succ64 (i : Nat) (h : i ≤ 4611686018427387904) : wrap64 ((i : Int) + 1) = ((i + 1 : Nat) : Int) := by rw [w64 (by omega) (by omega)]; rfl
def joins (p e : S43) : Prop := p.f0 = e.f0 ∧ (e.f0 = 2 ∧ p.f1 = e.f1 ∨ e.f0 = 1 ∧ p.f1 + p.f2.size = e.f1)
instance (p e : S43) : Decidable (joins p e) := by unfold joins; exact inferInstance
def addE (out : List S43) (x y : Int) (c : ByteArray) : List S43 :=
  let e := rd_T43 out ((out.length : Int) - 1)
  if 0 < out.length ∧ joins e ⟨x, y, c⟩ then out.set (out.length - 1) ⟨e.f0, e.f1, e.f2 ++ c⟩ else out ++ [⟨x, y, c⟩]
theorem snoc_cases (out : List S43) : out = [] ∨ ∃ es e, out = es ++ [e] := by
  rcases List.eq_nil_or_concat out with h | ⟨es, e, h⟩
  · exact .inl h
  · exact .inr ⟨es, e, by rw [h, List.concat_eq_append]⟩
theorem rd_last (es : List S43) (e : S43) : rd_T43 (es ++ [e]) (((es ++ [e]).length : Int) - 1) = e := by
  rw [List.length_append, List.length_singleton, show ((es.length + 1 : Nat) : Int) - 1 = (es.length : Int) by omega, rdT_get _ _ (by simp)]
  simp
theorem addE_snoc (es : List S43) (e : S43) (x y : Int) (c : ByteArray) : addE (es ++ [e]) x y c = if joins e ⟨x, y, c⟩ then es ++ [⟨e.f0, e.f1, e.f2 ++ c⟩] else es ++ [e] ++ [⟨x, y, c⟩] := by
  unfold addE
  dsimp only
  rw [rd_last]
  by_cases h : joins e ⟨x, y, c⟩
  · rw [if_pos ⟨by simp, h⟩, if_pos h, List.length_append, List.length_singleton, Nat.add_sub_cancel, List.set_append_right _ _ (Nat.le_refl _)]
    simp
  · rw [if_neg (fun g => h g.2), if_neg h]
theorem addE_nil (x y : Int) (c : ByteArray) : addE [] x y c = [⟨x, y, c⟩] := rfl
def small (out : List S43) : Prop := out.length ≤ 1000 ∧ ∀ e ∈ out, e.f2.size ≤ 1000 ∧ 0 ≤ e.f1 ∧ e.f1 ≤ 1000
theorem spec_addEdit_ev (out : List S43) (x y : Int) (c : ByteArray) (hx : x = 1 ∨ x = 2) (hs : small out) (hc : c.size ≤ 1000) : spec_addEdit.f out x y c = some (addE out x y c) := by
  have hl := hs.1
  have ew : wrap64 ((out.length : Int) - 1) = (out.length : Int) - 1 := w64 (by omega) (by omega)
  unfold spec_addEdit.f
  rw [ew]
  rcases snoc_cases out with rfl | ⟨es, e, rfl⟩
  · rw [if_neg (by simp), if_pos (by simp), addE_nil]; rfl
  · have he := hs.2 e (by simp)
    rw [rd_last, addE_snoc]
    have hn : ((es ++ [e]).length : Int) - 1 = (es.length : Int) := by simp
    have hset : ∀ v : S43, (es ++ [e]).set es.length v = es ++ [v] := fun v => by rw [List.set_append_right _ _ (Nat.le_refl _)]; simp
    rw [if_pos (by omega), if_pos (by omega), if_pos (by omega), hn, Int.toNat_natCast, hset, w64 (n := e.f1 + (e.f2.size : Int)) (by omega) (by omega)]
    have hroom : (es ++ [e]).length < 4398046511104 := by omega
    have hcat : e.f2.size + c.size ≤ 9223372036854775807 := by omega
    simp only [if_pos hroom, if_pos hcat]
    unfold joins
    dsimp only
    rcases hx with rfl | rfl
    · by_cases h1 : e.f0 = 1
      · by_cases h2 : e.f1 + (e.f2.size : Int) = y
        · simp [h1, h2]
        · simp [h1, h2]
      · simp [h1]
    · by_cases h1 : e.f0 = 2
      · by_cases h2 : e.f1 = y
        · simp [h1, h2]
        · simp [h1, h2]
      · simp [h1]
def cost (es : List S43) : Nat := (es.map fun e => e.f2.size).sum
theorem cost_append (a b : List S43) : cost (a ++ b) = cost a + cost b := by simp [cost]
theorem cost_one (e : S43) : cost [e] = e.f2.size := by simp [cost]
theorem size_le_cost {es : List S43} {e : S43} (h : e ∈ es) : e.f2.size ≤ cost es := by
  induction es with
  | nil => cases h
  | cons f es ih =>
    rw [show cost (f :: es) = f.f2.size + cost es from rfl]
    rcases List.mem_cons.1 h with rfl | h
    · omega
    · have := ih h; omega
theorem run_append (s : List UInt8) (es fs : List S43) : run s (es ++ fs) = (run s es).bind fun x => run x fs := by
  induction es generalizing s with
  | nil => rfl
  | cons e es ih =>
    rw [List.cons_append, run, run]
    cases apL s e with
    | none => rfl
    | some x =>
      simp only [Option.bind_some]
      split
      · rfl
      · exact ih x
theorem run_one (s : List UInt8) (e : S43) : run s [e] = (apL s e).bind fun x => if x.length > 120 then none else some x := rfl
def seamless (out : List S43) : Prop := ∀ n e f, out[n]? = some e → out[n + 1]? = some f → ¬ joins e f
structure Inv (a b : ByteArray) (i k m : Nat) (out : List S43) : Prop where
  hi : i ≤ a.size
  hk : k ≤ b.size
  run : run (by_ a) out = some ((by_ b).take k ++ (by_ a).drop i)
  cost : cost out + 2 * m = i + k
  opt : m + Cd.lcs ((by_ a).drop i) ((by_ b).drop k) = Cd.lcs (by_ a) (by_ b)
  len : out.length ≤ i + k
  good : ∀ e ∈ out, 0 < e.f2.size ∧ 0 ≤ e.f1 ∧ e.f1 ≤ b.size ∧ (e.f0 = 1 ∨ e.f0 = 2)
  seam : seamless out
theorem Inv.small {a b : ByteArray} {i k m : Nat} {out : List S43} (h : Inv a b i k m out) (ha : a.size ≤ 60) (hb : b.size ≤ 60) : small out := by
  have h1 := h.hi; have h2 := h.hk; have h3 := h.cost
  refine ⟨by have := h.len; omega, fun e he => ?_⟩
  have := size_le_cost he
  have := h.good e he
  omega
theorem seamless_snoc {es : List S43} {e : S43} (h : seamless es) (hl : ∀ p, es.getLast? = some p → ¬ joins p e) : seamless (es ++ [e]) := by
  intro n p f hp hf
  have hn : n + 1 < (es ++ [e]).length := by
    rcases Nat.lt_or_ge (n + 1) (es ++ [e]).length with g | g
    · exact g
    · rw [List.getElem?_eq_none g] at hf; cases hf
  rw [List.length_append, List.length_singleton] at hn
  rw [List.getElem?_append_left (by omega)] at hp
  by_cases hc : n + 1 < es.length
  · rw [List.getElem?_append_left hc] at hf
    exact h n p f hp hf
  · rw [List.getElem?_append_right (by omega), show n + 1 - es.length = 0 by omega] at hf
    simp at hf
    subst hf
    refine hl p ?_
    rw [List.getLast?_eq_getElem?, show es.length - 1 = n by omega]
    exact hp
theorem seamless_left {es : List S43} {e : S43} (h : seamless (es ++ [e])) : seamless es ∧ ∀ p, es.getLast? = some p → ¬ joins p e := by
  refine ⟨fun n p f hp hf => ?_, fun p hp => ?_⟩
  · refine h n p f ?_ ?_
    · rw [List.getElem?_append_left]; exact hp; exact (List.getElem?_eq_some_iff.1 hp).1
    · rw [List.getElem?_append_left]; exact hf; exact (List.getElem?_eq_some_iff.1 hf).1
  · rw [List.getLast?_eq_getElem?] at hp
    have hl := (List.getElem?_eq_some_iff.1 hp).1
    refine h (es.length - 1) p e ?_ ?_
    · rw [List.getElem?_append_left hl]; exact hp
    · rw [List.getElem?_append_right (by omega), show es.length - 1 + 1 - es.length = 0 by omega]; rfl
theorem take_len (b : ByteArray) {k : Nat} (h : k ≤ b.size) : ((by_ b).take k).length = k := by rw [List.length_take, by_len]; omega
theorem apL_del (s P Q : List UInt8) (t : ByteArray) (n : Nat) (ht : 0 < t.size) (hs : s = P ++ by_ t ++ Q) (hn : P.length = n) : apL s ⟨2, n, t⟩ = some (P ++ Q) := by
  subst hs hn
  have hl := by_len t
  unfold apL
  rw [if_neg (by simp only [List.length_append]; omega), if_neg (by dsimp only; omega), if_pos rfl]
  dsimp only
  rw [Int.toNat_natCast, List.append_assoc, List.drop_left, List.take_append_of_le_length (by omega), List.take_of_length_le (by omega), if_pos rfl, List.take_left, ← List.append_assoc,
    show P.length + t.size = (P ++ by_ t).length by rw [List.length_append, by_len], List.drop_left]
theorem apL_ins (s P Q : List UInt8) (t : ByteArray) (n : Nat) (ht : 0 < t.size) (hs : s = P ++ Q) (hn : P.length = n) : apL s ⟨1, n, t⟩ = some (P ++ by_ t ++ Q) := by
  subst hs hn
  unfold apL
  rw [if_neg (by simp only [List.length_append]; omega), if_pos rfl]
  dsimp only
  rw [Int.toNat_natCast, List.take_left, List.drop_left]
theorem apL_inv {s y : List UInt8} {e : S43} (h : apL s e = some y) : ∃ P Q : List UInt8, (P.length : Int) = e.f1 ∧ 0 < e.f2.size ∧
    ((e.f0 = 1 ∧ s = P ++ Q ∧ y = P ++ by_ e.f2 ++ Q) ∨ (e.f0 = 2 ∧ s = P ++ by_ e.f2 ++ Q ∧ y = P ++ Q)) := by
  unfold apL at h
  by_cases h0 : e.f2.size = 0 ∨ e.f1 < 0 ∨ e.f1 > s.length
  · rw [if_pos h0] at h; cases h
  rw [if_neg h0] at h
  obtain ⟨n, hn⟩ := Int.eq_ofNat_of_zero_le (show 0 ≤ e.f1 by omega)
  rw [hn, Int.toNat_natCast] at h
  have htl : (s.take n).length = n := by rw [List.length_take]; omega
  by_cases h1 : e.f0 = 1
  · rw [if_pos h1] at h
    exact ⟨s.take n, s.drop n, by omega, by omega, .inl ⟨h1, by rw [List.take_append_drop], (Option.some.inj h).symm⟩⟩
  rw [if_neg h1] at h
  by_cases h2 : e.f0 = 2
  · rw [if_pos h2] at h
    by_cases h3 : (s.drop n).take e.f2.size = by_ e.f2
    · rw [if_pos h3] at h
      refine ⟨s.take n, s.drop (n + e.f2.size), by omega, by omega, .inr ⟨h2, ?_, (Option.some.inj h).symm⟩⟩
      rw [← h3, List.append_assoc, ← List.drop_drop, List.take_append_drop, List.take_append_drop]
    · rw [if_neg h3] at h; cases h
  · rw [if_neg h2] at h; cases h
theorem Inv.start (a b : ByteArray) (ha : a.size ≤ 60) : Inv a b 0 0 0 [] :=
  ⟨by omega, by omega, by simp [Q.run], rfl, by simp, by simp, (fun e h => by cases h), (fun n e f h => by simp at h)⟩
theorem Inv.same {a b : ByteArray} {i k m : Nat} {out : List S43} (h : Inv a b i k m out) (hi : i < a.size) (hk : k < b.size) (e : bt a i = bt b k) : Inv a b (i + 1) (k + 1) (m + 1) out := by
  have hL := L_eq hi hk e
  unfold L at hL
  rw [bt_get a i hi, bt_get b k hk] at e
  have h' : (by_ a)[i]'(by rw [by_len]; exact hi) = (by_ b)[k]'(by rw [by_len]; exact hk) := UInt8.toNat_inj.1 (by omega)
  refine ⟨by omega, by omega, ?_, by have := h.cost; omega, by have := h.opt; omega, by have := h.len; omega, h.good, h.seam⟩
  rw [h.run, List.take_succ_eq_append_getElem (by rw [by_len]; exact hk), List.drop_eq_getElem_cons (by rw [by_len]; exact hi), h', List.append_assoc]
  rfl
theorem one_byte (a : ByteArray) (i : Nat) (hi : i < a.size) : by_ (a.extract i (i + 1)) = [(by_ a)[i]'(by rw [by_len]; exact hi)] := by
  rw [by_extract, List.drop_take, show i + 1 - i = 1 by omega, List.drop_eq_getElem_cons (by rw [by_len]; exact hi)]
  rfl
theorem one_size (a : ByteArray) (i : Nat) (hi : i < a.size) : (a.extract i (i + 1)).size = 1 := by rw [ByteArray.size_extract]; omega
theorem Inv.del {a b : ByteArray} {i k m : Nat} {out : List S43} (h : Inv a b i k m out) (ha : a.size ≤ 60) (hb : b.size ≤ 60) (hi : i < a.size) (hL : L a b i k = L a b (i + 1) k) :
    Inv a b (i + 1) k m (addE out 2 k (a.extract i (i + 1))) := by
  have hk := h.hk
  have hc := h.cost
  have hopt := h.opt
  have hlen := h.len
  have hone := one_byte a i hi
  have hsz := one_size a i hi
  have hd : (by_ a).drop i = (by_ a)[i]'(by rw [by_len]; exact hi) :: (by_ a).drop (i + 1) := List.drop_eq_getElem_cons (by rw [by_len]; exact hi)
  have hfit : ¬ ((by_ b).take k ++ (by_ a).drop (i + 1)).length > 120 := by rw [List.length_append, take_len b hk, List.length_drop, by_len]; omega
  unfold L at hL
  have hopt' : m + Cd.lcs ((by_ a).drop (i + 1)) ((by_ b).drop k) = Cd.lcs (by_ a) (by_ b) := by omega
  have fresh : (∀ p, out.getLast? = some p → ¬ joins p ⟨2, k, a.extract i (i + 1)⟩) → Inv a b (i + 1) k m (out ++ [⟨2, k, a.extract i (i + 1)⟩]) := by
    intro hj
    refine ⟨by omega, hk, ?_, by rw [cost_append, cost_one]; dsimp only; omega, hopt', by rw [List.length_append, List.length_singleton]; omega, ?_, seamless_snoc h.seam hj⟩
    · rw [run_append, h.run, Option.bind_some, run_one, apL_del _ ((by_ b).take k) ((by_ a).drop (i + 1)) _ k (by omega) ?_ (take_len b hk), Option.bind_some, if_neg hfit]
      rw [hone, hd, List.append_assoc]; rfl
    · intro e he
      rcases List.mem_append.1 he with he | he
      · exact h.good e he
      · rw [List.mem_singleton] at he; subst he
        exact ⟨by dsimp only; omega, by dsimp only; omega, by dsimp only; omega, .inr rfl⟩
  rcases snoc_cases out with rfl | ⟨es, e, rfl⟩
  · rw [addE_nil]
    exact fresh (fun p hp => by simp at hp)
  · rw [addE_snoc]
    by_cases hj : joins e ⟨2, k, a.extract i (i + 1)⟩
    · rw [if_pos hj]
      obtain ⟨j0, j1⟩ := hj
      dsimp only at j0 j1
      have j2 : e.f1 = k := by omega
      have hge := h.good e (by simp)
      have hr := h.run
      rw [run_append] at hr
      obtain ⟨x, hx, hr⟩ := Option.bind_eq_some_iff.1 hr
      rw [run_one] at hr
      obtain ⟨y, hy, hr⟩ := Option.bind_eq_some_iff.1 hr
      by_cases hy' : y.length > 120
      · rw [if_pos hy'] at hr; cases hr
      rw [if_neg hy'] at hr
      have hr := Option.some.inj hr
      obtain ⟨P, Q', hP, hes, hcase⟩ := apL_inv hy
      rcases hcase with ⟨h1, -, -⟩ | ⟨-, hxe, hye⟩
      · omega
      rw [hye] at hr
      obtain ⟨hPk, hQ⟩ := List.append_inj hr (by rw [take_len b hk]; omega)
      refine ⟨by omega, hk, ?_, ?_, hopt', by rw [List.length_append, List.length_singleton] at hlen ⊢; omega, ?_, ?_⟩
      · rw [run_append, hx, Option.bind_some, run_one, j0, j2, apL_del x P ((by_ a).drop (i + 1)) _ k (by rw [ByteArray.size_append]; omega) ?_ (by omega), Option.bind_some, hPk, if_neg hfit]
        rw [hxe, hQ, by_append, hone, hd]; simp
      · rw [cost_append, cost_one] at hc ⊢; dsimp only; rw [ByteArray.size_append]; omega
      · intro f hf
        rcases List.mem_append.1 hf with hf | hf
        · exact h.good f (by simp [hf])
        · rw [List.mem_singleton] at hf; subst hf
          exact ⟨by dsimp only; rw [ByteArray.size_append]; omega, hge.2.1, hge.2.2.1, hge.2.2.2⟩
      · have := seamless_left h.seam
        exact seamless_snoc this.1 fun p hp => this.2 p hp
    · rw [if_neg hj]
      exact fresh (fun p hp => by simp at hp; subst hp; exact hj)
theorem Inv.ins {a b : ByteArray} {i k m : Nat} {out : List S43} (h : Inv a b i k m out) (ha : a.size ≤ 60) (hb : b.size ≤ 60) (hk : k < b.size) (hL : L a b i k = L a b i (k + 1)) :
    Inv a b i (k + 1) m (addE out 1 k (b.extract k (k + 1))) := by
  have hi := h.hi
  have hc := h.cost
  have hopt := h.opt
  have hlen := h.len
  have hone := one_byte b k hk
  have hsz := one_size b k hk
  have hd : (by_ b).take (k + 1) = (by_ b).take k ++ [(by_ b)[k]'(by rw [by_len]; exact hk)] := List.take_succ_eq_append_getElem (by rw [by_len]; exact hk)
  have hfit : ¬ ((by_ b).take (k + 1) ++ (by_ a).drop i).length > 120 := by rw [List.length_append, take_len b hk, List.length_drop, by_len]; omega
  unfold L at hL
  have hopt' : m + Cd.lcs ((by_ a).drop i) ((by_ b).drop (k + 1)) = Cd.lcs (by_ a) (by_ b) := by omega
  have fresh : (∀ p, out.getLast? = some p → ¬ joins p ⟨1, k, b.extract k (k + 1)⟩) → Inv a b i (k + 1) m (out ++ [⟨1, k, b.extract k (k + 1)⟩]) := by
    intro hj
    refine ⟨hi, hk, ?_, by rw [cost_append, cost_one]; dsimp only; omega, hopt', by rw [List.length_append, List.length_singleton]; omega, ?_, seamless_snoc h.seam hj⟩
    · rw [run_append, h.run, Option.bind_some, run_one, apL_ins _ ((by_ b).take k) ((by_ a).drop i) _ k (by omega) rfl (take_len b (by omega)), Option.bind_some, hone, ← hd, if_neg hfit]
    · intro e he
      rcases List.mem_append.1 he with he | he
      · exact h.good e he
      · rw [List.mem_singleton] at he; subst he
        exact ⟨by dsimp only; omega, by dsimp only; omega, by dsimp only; omega, .inl rfl⟩
  rcases snoc_cases out with rfl | ⟨es, e, rfl⟩
  · rw [addE_nil]
    exact fresh (fun p hp => by simp at hp)
  · rw [addE_snoc]
    by_cases hj : joins e ⟨1, k, b.extract k (k + 1)⟩
    · rw [if_pos hj]
      obtain ⟨j0, j1⟩ := hj
      dsimp only at j0 j1
      have j2 : e.f1 + e.f2.size = k := by omega
      have hge := h.good e (by simp)
      obtain ⟨n, hn⟩ := Int.eq_ofNat_of_zero_le hge.2.1
      have hr := h.run
      rw [run_append] at hr
      obtain ⟨x, hx, hr⟩ := Option.bind_eq_some_iff.1 hr
      rw [run_one] at hr
      obtain ⟨y, hy, hr⟩ := Option.bind_eq_some_iff.1 hr
      by_cases hy' : y.length > 120
      · rw [if_pos hy'] at hr; cases hr
      rw [if_neg hy'] at hr
      have hr := Option.some.inj hr
      obtain ⟨P, Q', hP, hes, hcase⟩ := apL_inv hy
      rcases hcase with ⟨-, hxe, hye⟩ | ⟨h1, -, -⟩
      · rw [hye] at hr
        obtain ⟨hPk, hQ⟩ := List.append_inj hr (by rw [take_len b (by omega), List.length_append, by_len]; omega)
        refine ⟨hi, hk, ?_, ?_, hopt', by rw [List.length_append, List.length_singleton] at hlen ⊢; omega, ?_, ?_⟩
        · rw [run_append, hx, Option.bind_some, run_one, j0, hn, apL_ins x P Q' _ n (by rw [ByteArray.size_append]; omega) hxe (by omega), Option.bind_some, by_append, ← List.append_assoc, hPk, hone, ← hd, hQ, if_neg hfit]
        · rw [cost_append, cost_one] at hc ⊢; dsimp only; rw [ByteArray.size_append]; omega
        · intro f hf
          rcases List.mem_append.1 hf with hf | hf
          · exact h.good f (by simp [hf])
          · rw [List.mem_singleton] at hf; subst hf
            exact ⟨by dsimp only; rw [ByteArray.size_append]; omega, hge.2.1, hge.2.2.1, hge.2.2.2⟩
        · have := seamless_left h.seam
          exact seamless_snoc this.1 fun p hp => this.2 p hp
      · omega
    · rw [if_neg hj]
      exact fresh (fun p hp => by simp at hp; subst hp; exact hj)
section
variable {a b : ByteArray} (ha : a.size ≤ 60) (hb : b.size ≤ 60)
theorem row_at (i : Nat) (h : i ≤ a.size) : rd_L1 (tabL a b) (i : Int) = rowL a b i := by rw [rdL_nat, tabL_get _ _ _ h]
theorem cell_at (i k : Nat) (h : i ≤ a.size) (h' : k ≤ b.size) : rd (rd_L1 (tabL a b) (i : Int)) (k : Int) = L a b i k := by rw [row_at i h, rd_nat, rowL_get _ _ _ _ h']
include ha hb
theorem impl_del_ev {out : List S43} {i k : Nat} {r : List S43} (hi : i < a.size) (hk : k ≤ b.size) (hs : small out)
    (h : Ev (fun n => impl_EditScript.l0 n a b (tabL a b) (addE out 2 k (a.extract i (i + 1))) ((i + 1 : Nat) : Int) (k : Int)) r) :
    Ev (fun n => impl_EditScript.j4 n a b (tabL a b) out (i : Int) (k : Int) (wrap64 ((out.length : Int) - 1)) true) r := by
  have hl := hs.1
  have hsz := one_size a i hi
  refine Ev.step (fun k => by rw [impl_EditScript.j4]) (Ev.pos rfl ?_)
  rw [w64 (n := (out.length : Int) - 1) (by omega) (by omega), succ64 i (by omega), Int.toNat_natCast, Int.toNat_natCast]
  have room : ∀ A B : Nat → Option (List S43), Ev A r → Ev (fun n => if 0 ≤ (i : Int) then (if (i : Int) ≤ ((i + 1 : Nat) : Int) then (if ((i + 1 : Nat) : Int) ≤ (a.size : Int) then (if out.length < 4398046511104 then A n else none) else none) else none) else none) r :=
    fun A B e => Ev.pos (by omega) (Ev.pos (by omega) (Ev.pos (by omega) (Ev.pos (by omega) e)))
  rcases snoc_cases out with rfl | ⟨es, e, rfl⟩
  · rw [addE_nil] at h
    exact Ev.neg (by simp) (room _ (fun _ => none) h)
  · have he := hs.2 e (by simp)
    rw [addE_snoc] at h
    rw [rd_last]
    have hn : ((es ++ [e]).length : Int) - 1 = (es.length : Int) := by simp
    have hset : ∀ v : S43, (es ++ [e]).set es.length v = es ++ [v] := fun v => by rw [List.set_append_right _ _ (Nat.le_refl _)]; simp
    refine Ev.pos (by omega) (Ev.pos (by omega) (Ev.pos (by omega) ?_))
    rw [hn, Int.toNat_natCast, hset]
    by_cases h1 : e.f0 = 2
    · by_cases h2 : e.f1 = (k : Int)
      · rw [if_pos (show joins e ⟨2, k, a.extract i (i + 1)⟩ from ⟨h1, .inl ⟨rfl, h2⟩⟩)] at h
        exact Ev.pos h1 (Ev.pos h2 (Ev.pos (by omega) (Ev.pos (by omega) (Ev.pos (by omega) (Ev.pos (by omega) h)))))
      · rw [if_neg (show ¬ joins e ⟨2, k, a.extract i (i + 1)⟩ from fun g => by rcases g.2 with g | g; exact h2 g.2; exact absurd g.1 (show ¬ (2 : Int) = 1 by decide))] at h
        exact Ev.pos h1 (Ev.neg h2 (room _ (fun _ => none) h))
    · rw [if_neg (show ¬ joins e ⟨2, k, a.extract i (i + 1)⟩ from fun g => h1 g.1)] at h
      exact Ev.neg h1 (room _ (fun _ => none) h)
theorem impl_ins_ev {out : List S43} {i k : Nat} {r : List S43} (hk : k < b.size) (hs : small out)
    (h : Ev (fun n => impl_EditScript.l0 n a b (tabL a b) (addE out 1 k (b.extract k (k + 1))) (i : Int) ((k + 1 : Nat) : Int)) r) :
    Ev (fun n => impl_EditScript.j4 n a b (tabL a b) out (i : Int) (k : Int) (wrap64 ((out.length : Int) - 1)) false) r := by
  have hl := hs.1
  have hsz := one_size b k hk
  refine Ev.step (fun k => by rw [impl_EditScript.j4]) (Ev.neg (by simp) ?_)
  rw [w64 (n := (out.length : Int) - 1) (by omega) (by omega), succ64 k (by omega), Int.toNat_natCast, Int.toNat_natCast]
  have room : ∀ A B : Nat → Option (List S43), Ev A r → Ev (fun n => if 0 ≤ (k : Int) then (if (k : Int) ≤ ((k + 1 : Nat) : Int) then (if ((k + 1 : Nat) : Int) ≤ (b.size : Int) then (if out.length < 4398046511104 then A n else none) else none) else none) else none) r :=
    fun A B e => Ev.pos (by omega) (Ev.pos (by omega) (Ev.pos (by omega) (Ev.pos (by omega) e)))
  rcases snoc_cases out with rfl | ⟨es, e, rfl⟩
  · rw [addE_nil] at h
    exact Ev.neg (by simp) (room _ (fun _ => none) h)
  · have he := hs.2 e (by simp)
    rw [addE_snoc] at h
    rw [rd_last, w64 (n := e.f1 + (e.f2.size : Int)) (by omega) (by omega)]
    have hn : ((es ++ [e]).length : Int) - 1 = (es.length : Int) := by simp
    have hset : ∀ v : S43, (es ++ [e]).set es.length v = es ++ [v] := fun v => by rw [List.set_append_right _ _ (Nat.le_refl _)]; simp
    refine Ev.pos (by omega) (Ev.pos (by omega) (Ev.pos (by omega) ?_))
    rw [hn, Int.toNat_natCast, hset]
    by_cases h1 : e.f0 = 1
    · by_cases h2 : e.f1 + (e.f2.size : Int) = (k : Int)
      · rw [if_pos (show joins e ⟨1, k, b.extract k (k + 1)⟩ from ⟨h1, .inr ⟨rfl, h2⟩⟩)] at h
        exact Ev.pos h1 (Ev.pos h2 (Ev.pos (by omega) (Ev.pos (by omega) (Ev.pos (by omega) (Ev.pos (by omega) h)))))
      · rw [if_neg (show ¬ joins e ⟨1, k, b.extract k (k + 1)⟩ from fun g => by rcases g.2 with g | g; exact absurd g.1 (show ¬ (1 : Int) = 2 by decide); exact h2 g.2)] at h
        exact Ev.pos h1 (Ev.neg h2 (room _ (fun _ => none) h))
    · rw [if_neg (show ¬ joins e ⟨1, k, b.extract k (k + 1)⟩ from fun g => h1 g.1)] at h
      exact Ev.neg h1 (room _ (fun _ => none) h)

theorem edit_loop : ∀ (d i k m : Nat) (out : List S43), (a.size - i) + (b.size - k) ≤ d → Inv a b i k m out →
    ∃ r m', Inv a b a.size b.size m' r ∧ Ev (fun n => impl_EditScript.l0 n a b (tabL a b) out (i : Int) (k : Int)) r ∧ Ev (fun n => spec_editScript.l0 n a b out (tabL a b) (i : Int) (k : Int)) r := by
  intro d
  induction d with
  | zero =>
    intro i k m out hd h
    have hi := h.hi; have hk := h.hk
    obtain rfl : i = a.size := by omega
    obtain rfl : k = b.size := by omega
    refine ⟨out, m, h, ?_, ?_⟩
    · refine Ev.step (fun k => by rw [impl_EditScript.l0]) (Ev.neg (by omega) ?_)
      rw [decide_eq_false (by omega)]
      exact Ev.step (fun k => by rw [impl_EditScript.j2]) (Ev.neg (by simp) (Ev.now _))
    · refine Ev.step (fun k => by rw [spec_editScript.l0]) (Ev.neg (by omega) ?_)
      rw [decide_eq_false (by omega)]
      exact Ev.step (fun k => by rw [spec_editScript.j1]) (Ev.neg (by simp) (Ev.now _))
  | succ d ih =>
    intro i k m out hd h
    have hi := h.hi; have hk := h.hk
    have hs := h.small ha hb
    by_cases hend : i = a.size ∧ k = b.size
    · exact ih i k m out (by omega) h
    -- both loops come to their bodies
    have tl := tabL_len a b
    have toI : ∀ r, Ev (fun n => impl_EditScript.j2 n a b (tabL a b) out (i : Int) (k : Int) true) r → Ev (fun n => impl_EditScript.l0 n a b (tabL a b) out (i : Int) (k : Int)) r := by
      intro r e
      refine Ev.step (fun k => by rw [impl_EditScript.l0]) ?_
      by_cases c : i < a.size
      · exact Ev.pos (by omega) e
      · refine Ev.neg (by omega) ?_; rw [decide_eq_true (by omega)]; exact e
    have toS : ∀ r, Ev (fun n => spec_editScript.j1 n a b out (tabL a b) (i : Int) (k : Int) true) r → Ev (fun n => spec_editScript.l0 n a b out (tabL a b) (i : Int) (k : Int)) r := by
      intro r e
      refine Ev.step (fun k => by rw [spec_editScript.l0]) ?_
      by_cases c : i < a.size
      · exact Ev.pos (by omega) e
      · refine Ev.neg (by omega) ?_; rw [decide_eq_true (by omega)]; exact e
    by_cases heq : i < a.size ∧ k < b.size ∧ bt a i = bt b k
    · obtain ⟨c1, c2, c3⟩ := heq
      obtain ⟨r, m', hr, e1, e2⟩ := ih (i + 1) (k + 1) (m + 1) out (by omega) (h.same c1 c2 c3)
      refine ⟨r, m', hr, toI _ ?_, toS _ ?_⟩
      · refine Ev.step (fun k => by rw [impl_EditScript.j2]) (Ev.pos rfl (Ev.pos (by omega) (Ev.pos (by omega) (Ev.pos (by omega) (Ev.pos (by omega) ?_)))))
        refine Ev.step (fun k => by rw [impl_EditScript.j3]) (Ev.pos (by simpa using c3) ?_)
        rw [succ64 i (by omega), succ64 k (by omega)]; exact e1
      · refine Ev.step (fun k => by rw [spec_editScript.j1]) (Ev.pos rfl (Ev.pos (by omega) (Ev.pos (by omega) (Ev.pos (by omega) (Ev.pos (by omega) ?_)))))
        refine Ev.step (fun k => by rw [spec_editScript.j2]) (Ev.pos (by simpa using c3) ?_)
        rw [succ64 i (by omega), succ64 k (by omega)]; exact e2
    have toI3 : ∀ r, Ev (fun n => impl_EditScript.j3 n a b (tabL a b) out (i : Int) (k : Int) (wrap64 ((out.length : Int) - 1)) false) r → Ev (fun n => impl_EditScript.l0 n a b (tabL a b) out (i : Int) (k : Int)) r := by
      intro r e
      refine toI _ (Ev.step (fun k => by rw [impl_EditScript.j2]) (Ev.pos rfl ?_))
      by_cases c1 : i < a.size
      · refine Ev.pos (by omega) ?_
        by_cases c2 : k < b.size
        · refine Ev.pos (by omega) (Ev.pos (by omega) (Ev.pos (by omega) ?_))
          rw [show (bt a i == bt b k) = false by simp; exact fun g => heq ⟨c1, c2, g⟩]
          exact e
        · exact Ev.neg (by omega) e
      · exact Ev.neg (by omega) e
    have toS2 : ∀ r, Ev (fun n => spec_editScript.j2 n a b out (tabL a b) (i : Int) (k : Int) false) r → Ev (fun n => spec_editScript.l0 n a b out (tabL a b) (i : Int) (k : Int)) r := by
      intro r e
      refine toS _ (Ev.step (fun k => by rw [spec_editScript.j1]) (Ev.pos rfl ?_))
      by_cases c1 : i < a.size
      · refine Ev.pos (by omega) ?_
        by_cases c2 : k < b.size
        · refine Ev.pos (by omega) (Ev.pos (by omega) (Ev.pos (by omega) ?_))
          rw [show (bt a i == bt b k) = false by simp; exact fun g => heq ⟨c1, c2, g⟩]
          exact e
        · exact Ev.neg (by omega) e
      · exact Ev.neg (by omega) e
    by_cases hdel : i < a.size ∧ (k = b.size ∨ L a b (i + 1) k ≥ L a b i (k + 1))
    · obtain ⟨c1, c2⟩ := hdel
      have hL : L a b i k = L a b (i + 1) k := by
        by_cases ck : k < b.size
        · rw [L_ne c1 ck (fun g => heq ⟨c1, ck, g⟩)]
          unfold mx; rw [if_neg (by omega)]
        · rw [L_end a b (.inr (by omega)), L_end a b (.inr (by omega))]
      obtain ⟨r, m', hr, e1, e2⟩ := ih (i + 1) k m _ (by omega) (h.del ha hb c1 hL)
      refine ⟨r, m', hr, toI3 _ ?_, toS2 _ ?_⟩
      · have fin := impl_del_ev ha hb c1 hk hs e1
        refine Ev.step (fun k => by rw [impl_EditScript.j3]) (Ev.neg (by simp) (Ev.pos (by omega) ?_))
        by_cases ck : k = b.size
        · exact Ev.pos (by omega) fin
        · rw [succ64 i (by omega), succ64 k (by omega)]
          refine Ev.neg (by omega) (Ev.pos (by omega) (Ev.pos (by omega) (Ev.pos (by omega) (Ev.pos (by rw [row_at _ (by omega), rowL_len]; omega) (Ev.pos (by omega) (Ev.pos (by omega) (Ev.pos (by omega) (Ev.pos (by rw [row_at _ (by omega), rowL_len]; omega) ?_))))))))
          rw [cell_at _ _ (by omega) (by omega), cell_at _ _ (by omega) (by omega), decide_eq_true (by omega)]
          exact fin
      · have fin : Ev (fun n => spec_editScript.j3 n a b out (tabL a b) (i : Int) (k : Int) true) r := by
          refine Ev.step (fun k => by rw [spec_editScript.j3]) (Ev.pos rfl ?_)
          rw [succ64 i (by omega), Int.toNat_natCast, Int.toNat_natCast]
          exact Ev.pos (by omega) (Ev.pos (by omega) (Ev.pos (by omega) (Ev.bindv (spec_addEdit_ev out 2 k _ (.inr rfl) hs (by rw [one_size a i c1]; omega)) e2)))
        refine Ev.step (fun k => by rw [spec_editScript.j2]) (Ev.neg (by simp) (Ev.pos (by omega) ?_))
        by_cases ck : k = b.size
        · exact Ev.pos (by omega) fin
        · rw [succ64 i (by omega), succ64 k (by omega)]
          refine Ev.neg (by omega) (Ev.pos (by omega) (Ev.pos (by omega) (Ev.pos (by omega) (Ev.pos (by rw [row_at _ (by omega), rowL_len]; omega) (Ev.pos (by omega) (Ev.pos (by omega) (Ev.pos (by omega) (Ev.pos (by rw [row_at _ (by omega), rowL_len]; omega) ?_))))))))
          rw [cell_at _ _ (by omega) (by omega), cell_at _ _ (by omega) (by omega), decide_eq_true (by omega)]
          exact fin
    · have ck : k < b.size := by omega
      have hL : L a b i k = L a b i (k + 1) := by
        by_cases ci : i < a.size
        · rw [L_ne ci ck (fun g => heq ⟨ci, ck, g⟩)]
          unfold mx; rw [if_pos (by omega)]
        · rw [L_end a b (.inl (by omega)), L_end a b (.inl (by omega))]
      obtain ⟨r, m', hr, e1, e2⟩ := ih i (k + 1) m _ (by omega) (h.ins ha hb ck hL)
      refine ⟨r, m', hr, toI3 _ ?_, toS2 _ ?_⟩
      · have fin := impl_ins_ev (i := i) ha hb ck hs e1
        refine Ev.step (fun k => by rw [impl_EditScript.j3]) (Ev.neg (by simp) ?_)
        by_cases ci : i < a.size
        · rw [succ64 i (by omega), succ64 k (by omega)]
          refine Ev.pos (by omega) (Ev.neg (by omega) (Ev.pos (by omega) (Ev.pos (by omega) (Ev.pos (by omega) (Ev.pos (by rw [row_at _ (by omega), rowL_len]; omega) (Ev.pos (by omega) (Ev.pos (by omega) (Ev.pos (by omega) (Ev.pos (by rw [row_at _ (by omega), rowL_len]; omega) ?_)))))))))
          rw [cell_at _ _ (by omega) (by omega), cell_at _ _ (by omega) (by omega), decide_eq_false (by omega)]
          exact fin
        · exact Ev.neg (by omega) fin
      · have fin : Ev (fun n => spec_editScript.j3 n a b out (tabL a b) (i : Int) (k : Int) false) r := by
          refine Ev.step (fun k => by rw [spec_editScript.j3]) (Ev.neg (by simp) ?_)
          rw [succ64 k (by omega), Int.toNat_natCast, Int.toNat_natCast]
          exact Ev.pos (by omega) (Ev.pos (by omega) (Ev.pos (by omega) (Ev.bindv (spec_addEdit_ev out 1 k _ (.inl rfl) hs (by rw [one_size b k ck]; omega)) e2)))
        refine Ev.step (fun k => by rw [spec_editScript.j2]) (Ev.neg (by simp) ?_)
        by_cases ci : i < a.size
        · rw [succ64 i (by omega), succ64 k (by omega)]
          refine Ev.pos (by omega) (Ev.neg (by omega) (Ev.pos (by omega) (Ev.pos (by omega) (Ev.pos (by omega) (Ev.pos (by rw [row_at _ (by omega), rowL_len]; omega) (Ev.pos (by omega) (Ev.pos (by omega) (Ev.pos (by omega) (Ev.pos (by rw [row_at _ (by omega), rowL_len]; omega) ?_)))))))))
          rw [cell_at _ _ (by omega) (by omega), cell_at _ _ (by omega) (by omega), decide_eq_false (by omega)]
          exact fin
        · exact Ev.neg (by omega) fin
end
theorem edit_ev (a b : ByteArray) (ha : a.size ≤ 60) (hb : b.size ≤ 60) : ∃ r m, Inv a b a.size b.size m r ∧ Ev (fun n => impl_EditScript.f n a b) r ∧ Ev (fun n => spec_EditScript.f n a b) r := by
  obtain ⟨r, m, h, e1, e2⟩ := edit_loop ha hb (a.size + b.size) 0 0 0 [] (by omega) (Inv.start a b ha)
  refine ⟨r, m, h, ?_, ?_⟩
  · unfold impl_EditScript.f
    refine Ev.neg (by omega) ?_
    rw [decide_eq_false (by omega)]
    exact Ev.step (fun k => by rw [impl_EditScript.j0]) (Ev.neg (by simp) (Ev.bind (impl_table a b ha hb) e1))
  · unfold spec_EditScript.f
    refine Ev.bindv (short_ev a b) (Ev.pos (decide_eq_true ⟨ha, hb⟩) (Ev.bind (a := r) ?_ (Ev.now _)))
    unfold spec_editScript.f
    exact Ev.bind (spec_table a b ha hb) e2
theorem edit_long (a b : ByteArray) (h : ¬ (a.size ≤ 60 ∧ b.size ≤ 60)) : Ev (fun n => impl_EditScript.f n a b) [] ∧ Ev (fun n => spec_EditScript.f n a b) [] := by
  have j : Ev (fun n => impl_EditScript.j0 n a b true) [] := Ev.step (fun k => by rw [impl_EditScript.j0]) (Ev.pos rfl (Ev.now _))
  constructor
  · unfold impl_EditScript.f
    by_cases c : a.size ≤ 60
    · refine Ev.neg (by omega) ?_; rw [decide_eq_true (by omega)]; exact j
    · exact Ev.pos (by omega) j
  · unfold spec_EditScript.f
    exact Ev.bindv (short_ev a b) (Ev.neg (by simpa using h) (Ev.now _))
theorem edit_any (a b : ByteArray) : ∃ r, Ev (fun n => impl_EditScript.f n a b) r ∧ Ev (fun n => spec_EditScript.f n a b) r ∧ r.length ≤ 120 ∧ (∀ e ∈ r, e.f2.size ≤ 120) := by
  by_cases h : a.size ≤ 60 ∧ b.size ≤ 60
  · obtain ⟨r, m, hi, e1, e2⟩ := edit_ev a b h.1 h.2
    exact ⟨r, e1, e2, by have := hi.len; omega, fun e he => by have := size_le_cost he; have := hi.cost; omega⟩
  · have := edit_long a b h
    exact ⟨[], this.1, this.2, by simp, by simp⟩
theorem eqEditS_refl (es : List S43) (hl : es.length ≤ 1048576) : Ev (fun n => laws_eqEditS.f n es es) true := by
  have go : ∀ (d i : Nat), i + d = es.length → Ev (fun n => laws_eqEditS.l0 n es es (i : Int)) true := by
    intro d
    induction d with
    | zero => intro i hi; exact Ev.step (fun k => by rw [laws_eqEditS.l0]) (Ev.neg (by omega) (Ev.now _))
    | succ d ih =>
      intro i hi
      refine Ev.step (fun k => by rw [laws_eqEditS.l0]) (Ev.pos (by omega) (Ev.pos (by omega) (Ev.pos (by omega) (Ev.bindv (a := true) (by unfold laws_eqEdit.f; rw [if_pos rfl, if_pos rfl, if_pos rfl]) (Ev.pos rfl ?_)))))
      rw [succ64 i (by omega)]
      exact ih (i + 1) (by omega)
  unfold laws_eqEditS.f
  exact Ev.pos rfl (go es.length 0 (by omega))

theorem strOf_one (v : Int) : (strOfNums [v]).size = 1 := rfl
theorem markText_loop : ∀ (d : Nat) (x : Int) (s : ByteArray), 0 ≤ x → x ≤ 9223372036854775807 → x < 10 ^ d → s.size + d ≤ 1000 → ∃ t, Ev (fun n => laws_markText.l0 n x s) t := by
  intro d
  induction d with
  | zero =>
    intro x s h0 _ h1 h2
    refine ⟨_, Ev.step (fun k => by rw [laws_markText.l0]) (Ev.neg (by simp at h1; omega) (Ev.pos (by omega) (Ev.now _)))⟩
  | succ d ih =>
    intro x s h0 hm h1 h2
    by_cases hx : x > 0
    · have hq : wrap64 (Int.tdiv x 10) = x / 10 := by rw [Int.tdiv_eq_ediv_of_nonneg h0, w64 (by omega) (by omega)]
      have hb : x / 10 < 10 ^ d := by
        rw [Int.pow_succ] at h1; omega
      obtain ⟨t, e⟩ := ih (x / 10) (strOfNums [(wrap64 (48 + (Int.tmod x 10))) % 256] ++ s) (by omega) (by omega) hb (by rw [ByteArray.size_append, strOf_one]; omega)
      refine ⟨t, Ev.step (fun k => by rw [laws_markText.l0]) (Ev.pos hx ?_)⟩
      refine Ev.bindv rfl ?_
      refine Ev.pos (by rw [strOf_one]; omega) ?_
      rw [hq]; exact e
    · exact ⟨_, Ev.step (fun k => by rw [laws_markText.l0]) (Ev.neg hx (Ev.pos (by omega) (Ev.now _)))⟩
theorem markText_ev (x : Int) (h0 : 0 ≤ x) (h1 : x ≤ 9223372036854775807) : ∃ t, Ev (fun n => laws_markText.f n x) t := by
  unfold laws_markText.f
  by_cases h : x ≤ 0
  · exact ⟨_, Ev.pos h (Ev.now _)⟩
  · obtain ⟨t, e⟩ := markText_loop 20 x ⟨#[]⟩ h0 h1 (by omega) (by decide)
    exact ⟨t, Ev.neg h e⟩
theorem rdT_set_self (es : List S43) (i : Nat) (v : S43) (h : i < es.length) : rd_T43 (es.set i v) (i : Int) = v := by
  rw [rdT_get _ _ (by simpa using h)]; simp
theorem mark_held (N : Nat) (hN : N ≤ 1048576) : ∀ (d i : Nat) (es : List S43) (c : Nat), i + d = N → es.length = N → c + 3 * d ≤ 4611686018427387904 →
    ∃ M, Ev (fun n => laws_markEditS.l0 n es (c : Int) (i : Int)) (((c + 3 * d : Nat) : Int), M) ∧ M.length = N ∧ (∀ j, j < i → M[j]? = es[j]?) ∧ Ev (fun n => laws_heldEditS.l0 n M (c : Int) (i : Int)) ((c + 3 * d : Nat) : Int) := by
  intro d
  induction d with
  | zero =>
    intro i es c hi hl hc
    rw [show c + 3 * 0 = c by omega]
    exact ⟨es, Ev.step (fun k => by rw [laws_markEditS.l0]) (Ev.neg (by omega) (Ev.now _)), hl, fun _ _ => rfl, Ev.step (fun k => by rw [laws_heldEditS.l0]) (Ev.neg (by omega) (Ev.now _))⟩
  | succ d ih =>
    intro i es c hi hl hc
    have hi' : i < es.length := by omega
    obtain ⟨t, ht⟩ := markText_ev ((c + 1 + 1 : Nat) : Int) (by omega) (by omega)
    obtain ⟨M, e1, hM, hp, e2⟩ := ih (i + 1) (es.set i ⟨(c : Int), ((c + 1 : Nat) : Int), t⟩) (c + 1 + 1 + 1) (by omega) (by simpa using hl) (by omega)
    have hMi : M[i]? = some ⟨(c : Int), ((c + 1 : Nat) : Int), t⟩ := by rw [hp i (by omega)]; simp [hi']
    have hMr : rd_T43 M (i : Int) = ⟨(c : Int), ((c + 1 : Nat) : Int), t⟩ := by
      unfold rd_T43 List.getD; rw [Int.toNat_natCast, hMi]; rfl
    refine ⟨M, ?_, hM, fun j hj => ?_, ?_⟩
    · refine Ev.step (fun k => by rw [laws_markEditS.l0]) (Ev.pos (by omega) (Ev.pos (by omega) ?_))
      rw [Int.toNat_natCast]
      refine Ev.bindv rfl ?_
      refine Ev.bindv rfl ?_
      rw [succ64 c (by omega), succ64 (c + 1) (by omega), rdT_set_self _ _ _ hi', List.set_set]
      refine Ev.bind ht ?_
      rw [rdT_set_self _ _ _ hi', List.set_set, succ64 i (by omega), succ64 (c + 1 + 1) (by omega), show c + 3 * (d + 1) = c + 1 + 1 + 1 + 3 * d by omega]
      exact e1
    · rw [hp j (by omega), List.getElem?_set_ne (by omega)]
    · refine Ev.step (fun k => by rw [laws_heldEditS.l0]) (Ev.pos (by omega) (Ev.pos (by omega) ?_))
      rw [hMr, succ64 c (by omega), succ64 (c + 1) (by omega)]
      refine Ev.pos rfl (Ev.pos rfl (Ev.bind ht (Ev.pos rfl ?_)))
      rw [succ64 i (by omega), succ64 (c + 1 + 1) (by omega), show c + 3 * (d + 1) = c + 1 + 1 + 1 + 3 * d by omega]
      exact e2
theorem mark_ev (es : List S43) (hl : es.length ≤ 1048576) : ∃ (n : Nat) (M : List S43), Ev (fun k => laws_markEditS.f k es 1) ((n : Int), M) ∧ Ev (fun k => laws_heldEditS.f k M 1) (n : Int) := by
  obtain ⟨M, e1, -, -, e2⟩ := mark_held es.length hl es.length 0 es 1 (by omega) rfl (by omega)
  exact ⟨_, M, e1, e2⟩

theorem pure_ExactEditScript : laws_FnExactEditScript.Pure := by
  intro a b _ _
  refine Ev.rounds ?_
  unfold laws_FnExactEditScript.f
  by_cases c0 : (a.size : Int) > 1048576
  · exact Ev.pos c0 (Ev.now _)
  by_cases c1 : (b.size : Int) > 1048576
  · exact Ev.neg c0 (Ev.pos c1 (Ev.now _))
  obtain ⟨r, e1, e2, hl, -⟩ := edit_any a b
  obtain ⟨n, M, m1, m2⟩ := mark_ev r (by omega)
  exact Ev.neg c0 (Ev.neg c1 (Ev.bind e2 (Ev.bind e1 (Ev.bind (eqEditS_refl _ (by omega)) (Ev.pos rfl (Ev.bind m1 (Ev.bind m2 (Ev.neg (by omega) (Ev.pos rfl (Ev.bind e1 (Ev.bind (eqEditS_refl _ (by omega)) (Ev.pos rfl (Ev.bind m2 (Ev.neg (by omega) (Ev.pos rfl (Ev.now _))))))))))))))))
theorem Inv.fin {a b : ByteArray} {m : Nat} {r : List S43} (h : Inv a b a.size b.size m r) : m = Cd.lcs (by_ a) (by_ b) ∧ Q.run (by_ a) r = some (by_ b) := by
  have h1 := h.opt
  have h2 := h.run
  rw [List.drop_of_length_le (by rw [by_len]; omega), Cd.lcs_nil_left] at h1
  rw [List.drop_of_length_le (by rw [by_len]; omega), List.take_of_length_le (by rw [by_len]; omega), List.append_nil] at h2
  exact ⟨by omega, h2⟩
end Go.Proofs.Ytnlfmbdnleclfaa.Q
