import Derived.Test.YtnlfmbdnleclfaaWB
import Derived.Test.YtnlfmbdnleclfaaQ0
import Derived.Test.YtnlfmbdnleclfaaQ2
import Derived.Test.YtnlfmbdnleclfaaQ3
import Derived.Test.YtnlfmbdnleclfaaQ4
import Derived.Test.YtnlfmbdnleclfaaQ5
import Derived.Test.YtnlfmbdnleclfaaQ6
import Derived.Test.YtnlfmbdnleclfaaPLcs
namespace Go.Proofs.Ytnlfmbdnleclfaa.Q
open Go.RowKit Go.Proofs.YtnlfmbdnleclfaaW.PrintWords Go.Proofs.YtnlfmbdnleclfaaW.PrintLast Go.Proofs.YtnlfmbdnleclfaaW.PrintMore
set_option linter.unusedVariables false
set_option linter.unusedSimpArgs false
set_option linter.unusedSectionVars false
theorem Ev.pos {α : Type} {c : Prop} [Decidable c] {A B : Nat → Option α} {r : α} (h : c) (e : Ev A r) : Ev (fun k => if c then A k else B k) r := by
  obtain ⟨K, e⟩ := e
  exact ⟨K, fun k hk => by simp only [if_pos h]; exact e k hk⟩
theorem Ev.neg {α : Type} {c : Prop} [Decidable c] {A B : Nat → Option α} {r : α} (h : ¬ c) (e : Ev B r) : Ev (fun k => if c then A k else B k) r := by
  obtain ⟨K, e⟩ := e
  exact ⟨K, fun k hk => by simp only [if_neg h]; exact e k hk⟩
theorem Ev.val {α : Type} {A : Nat → Option α} {r : α} (h : ∀ k, A k = some r) : Ev A r := ⟨0, fun k _ => h k⟩
theorem Ev.bindv {α β : Type} {g : Option α} {f : Nat → α → Option β} {a : α} {r : β} (h : g = some a) (k : Ev (fun n => f n a) r) : Ev (fun n => g.bind (f n)) r := by
  subst h; exact k
theorem w64 {n : Int} (h0 : -9223372036854775808 ≤ n) (h1 : n ≤ 9223372036854775807) : wrap64 n = n := by unfold wrap64; omega
theorem Ev.eqr {α : Type} {A : Nat → Option α} {r r' : α} (h : Ev A r') (e : r' = r) : Ev A r := e ▸ h

theorem getD_set_self {α : Type} {d : α} {l : List α} {i : Nat} {v : α} (h : i < l.length) : (l.set i v).getD i d = v := by
  simp [List.getD, h]
theorem getD_set_ne {α : Type} {d : α} {l : List α} {i j : Nat} {v : α} (h : i ≠ j) : (l.set i v).getD j d = l.getD j d := by
  simp [List.getD, h]
theorem getD_repl {α : Type} (n m : Nat) (v : α) : (List.replicate n v).getD m v = v := by
  simp only [List.getD, List.getElem?_replicate]; split <;> rfl
theorem ext_getD {α : Type} {d : α} {l m : List α} (hl : l.length = m.length) (h : ∀ i, i < l.length → l.getD i d = m.getD i d) : l = m := by
  refine List.ext_getElem hl fun i h1 h2 => ?_
  have := h i h1
  simpa [List.getD, h1, h2] using this

abbrev by_ (a : ByteArray) : List UInt8 := a.data.toList
theorem by_len (a : ByteArray) : (by_ a).length = a.size := data_length a
theorem bt_get (a : ByteArray) (i : Nat) (h : i < a.size) : bt a (i : Int) = (((by_ a)[i]'(by rw [by_len]; exact h)).toNat : Int) := by
  unfold bt
  rw [dif_pos (by simpa using h)]
  rfl
def L (a b : ByteArray) (i k : Nat) : Int := (Cd.lcs ((by_ a).drop i) ((by_ b).drop k) : Nat)
theorem L_eq {a b : ByteArray} {i k : Nat} (hi : i < a.size) (hk : k < b.size) (h : bt a i = bt b k) : L a b i k = L a b (i + 1) (k + 1) + 1 := by
  rw [bt_get a i hi, bt_get b k hk] at h
  have h' : (by_ a)[i]'(by rw [by_len]; exact hi) = (by_ b)[k]'(by rw [by_len]; exact hk) := UInt8.toNat_inj.1 (by omega)
  unfold L
  rw [List.drop_eq_getElem_cons (by rw [by_len]; exact hi : i < (by_ a).length), List.drop_eq_getElem_cons (by rw [by_len]; exact hk : k < (by_ b).length), h', Cd.lcs_eq]
  omega
theorem L_ne {a b : ByteArray} {i k : Nat} (hi : i < a.size) (hk : k < b.size) (h : bt a i ≠ bt b k) : L a b i k = mx (L a b (i + 1) k) (L a b i (k + 1)) := by
  rw [bt_get a i hi, bt_get b k hk] at h
  have h' : (by_ a)[i]'(by rw [by_len]; exact hi) ≠ (by_ b)[k]'(by rw [by_len]; exact hk) := fun e => h (by rw [e])
  unfold L mx
  rw [List.drop_eq_getElem_cons (by rw [by_len]; exact hi : i < (by_ a).length), List.drop_eq_getElem_cons (by rw [by_len]; exact hk : k < (by_ b).length), Cd.lcs_ne h']
  split <;> omega
theorem L_end (a b : ByteArray) {i k : Nat} (h : a.size ≤ i ∨ b.size ≤ k) : L a b i k = 0 := by
  unfold L
  rcases h with h | h
  · rw [List.drop_of_length_le (by rw [by_len]; exact h), Cd.lcs_nil_left]; rfl
  · rw [List.drop_of_length_le (by rw [by_len]; exact h : (by_ b).length ≤ k), Cd.lcs_nil_right]; rfl
theorem L_bound (a b : ByteArray) (i k : Nat) : 0 ≤ L a b i k ∧ L a b i k ≤ a.size := by
  unfold L
  have := Cd.lcs_le_left ((by_ a).drop i) ((by_ b).drop k)
  rw [List.length_drop, by_len] at this
  omega
def rowL (a b : ByteArray) (i : Nat) : List Int := (List.range (b.size + 1)).map (L a b i)
theorem rowL_len (a b : ByteArray) (i : Nat) : (rowL a b i).length = b.size + 1 := by simp [rowL]
theorem rowL_get (a b : ByteArray) (i k : Nat) (h : k ≤ b.size) : (rowL a b i).getD k 0 = L a b i k := by
  simp [rowL, List.getD, show k < b.size + 1 by omega]
def tabL (a b : ByteArray) : List (List Int) := (List.range (a.size + 1)).map (rowL a b)
theorem tabL_len (a b : ByteArray) : (tabL a b).length = a.size + 1 := by simp [tabL]
theorem tabL_get (a b : ByteArray) (i : Nat) (h : i ≤ a.size) : (tabL a b).getD i [] = rowL a b i := by
  simp [tabL, List.getD, show i < a.size + 1 by omega]
theorem rd_nat (xs : List Int) (i : Nat) : rd xs (i : Int) = xs.getD i 0 := by unfold rd; rw [Int.toNat_natCast]
theorem rdL_nat (xs : List (List Int)) (i : Nat) : rd_L1 xs (i : Int) = xs.getD i [] := by unfold rd_L1; rw [Int.toNat_natCast]

theorem spec_inner (a b : ByteArray) (ha : a.size ≤ 60) (hb : b.size ≤ 60) (i : Nat) (hi : i < a.size) (r : List (List Int)) : ∀ (j : Nat) (T : List (List Int)), j ≤ b.size → T.length = a.size + 1 →
    T.getD (i + 1) [] = rowL a b (i + 1) → (T.getD i []).length = b.size + 1 → (∀ m, j ≤ m → m ≤ b.size → (T.getD i []).getD m 0 = L a b i m) →
    Ev (fun k => spec_lcsTable.l0 k a b (T.set i (rowL a b i)) ((i : Int) - 1)) r → Ev (fun k => spec_lcsTable.l1 k a b T i ((j : Int) - 1)) r := by
  intro j
  induction j with
  | zero =>
    intro T hj hT h1 h2 h3 he
    refine Ev.step (fun k => by rw [spec_lcsTable.l1]) ?_
    refine Ev.neg (by omega) ?_
    refine Ev.step (fun k => by rw [spec_lcsTable.j2]) ?_
    refine Ev.neg (by simp) ?_
    rw [w64 (by omega) (by omega)]
    have e : T.set i (rowL a b i) = T := by
      have : T.getD i [] = rowL a b i := ext_getD (d := 0) (by rw [h2, rowL_len]) fun m hm => by
        rw [h3 m (by omega) (by omega), rowL_get _ _ _ _ (by omega)]
      refine ext_getD (d := []) (by simp) fun m hm => ?_
      rw [List.length_set] at hm
      by_cases hmi : i = m
      · subst hmi; rw [getD_set_self hm, this]
      · rw [getD_set_ne hmi]
    rw [e] at he
    exact he
  | succ j ih =>
    intro T hj hT h1 h2 h3 he
    have hlb := fun i k => L_bound a b i k
    refine Ev.step (fun k => by rw [spec_lcsTable.l1]) ?_
    refine Ev.pos (by omega) ?_
    have ej : ((j + 1 : Nat) : Int) - 1 = (j : Int) := by omega
    have ei : wrap64 ((i : Int) + 1) = ((i + 1 : Nat) : Int) := by rw [w64 (by omega) (by omega)]; rfl
    have ek : wrap64 ((j : Int) + 1) = ((j + 1 : Nat) : Int) := by rw [w64 (by omega) (by omega)]; rfl
    have em : wrap64 ((j : Int) - 1) = (j : Int) - 1 := w64 (by omega) (by omega)
    rw [ej, show decide ((i : Int) < (a.size : Int)) = true from decide_eq_true (by omega)]
    refine Ev.step (fun k => by rw [spec_lcsTable.j2]) ?_
    simp only [ei, ek, em, rdL_nat, rd_nat]
    refine Ev.pos trivial (Ev.pos (by omega) (Ev.pos (by omega) (Ev.pos (by omega) (Ev.pos (by omega) ?_))))
    have hget : (T.getD i []).getD (j + 1) 0 = L a b i (j + 1) := h3 _ (by omega) (by omega)
    have key : ∀ v, v = L a b i j → Ev (fun k => spec_lcsTable.l1 k a b (T.set (i : Int).toNat ((T.getD i []).set (j : Int).toNat v)) i ((j : Int) - 1)) r := by
      intro v hv
      rw [Int.toNat_natCast, Int.toNat_natCast]
      refine ih _ (by omega) (by simpa using hT) ?_ ?_ ?_ ?_
      · rw [getD_set_ne (by omega)]; exact h1
      · rw [getD_set_self (by omega)]; simpa using h2
      · intro m hm1 hm2
        rw [getD_set_self (by omega)]
        by_cases hmj : j = m
        · subst hmj; rw [getD_set_self (by omega)]; exact hv
        · rw [getD_set_ne hmj]; exact h3 m (by omega) hm2
      · rw [List.set_set]; exact he
    by_cases hc : bt a i = bt b j
    · refine Ev.pos hc (Ev.pos (by omega) (Ev.pos (by omega) (Ev.pos (by omega) (Ev.pos (by omega) ?_))))
      rw [h1]
      refine Ev.pos (by rw [rowL_len]; omega) (Ev.pos (by omega) ?_)
      refine key _ ?_
      rw [rowL_get _ _ _ _ (by omega), w64 (by have := hlb (i + 1) (j + 1); omega) (by have := hlb (i + 1) (j + 1); omega), L_eq hi (by omega) hc]
    · refine Ev.neg hc (Ev.pos (by omega) (Ev.pos (by omega) (Ev.pos (by omega) ?_)))
      rw [h1]
      refine Ev.pos (by rw [rowL_len]; omega) (Ev.pos (by omega) (Ev.pos (by omega) (Ev.pos (by omega) ?_)))
      refine key _ ?_
      rw [rowL_get _ _ _ _ (by omega), hget, L_ne hi (by omega) hc]


theorem zrow_len (b : ByteArray) (hb : b.size ≤ 60) : wrap64 ((b.size : Int) + 1) = ((b.size + 1 : Nat) : Int) := by rw [w64 (by omega) (by omega)]; rfl

theorem spec_outer (a b : ByteArray) (ha : a.size ≤ 60) (hb : b.size ≤ 60) : ∀ (i : Nat) (T : List (List Int)), i ≤ a.size + 1 → T.length = a.size + 1 →
    (∀ m, i ≤ m → m ≤ a.size → T.getD m [] = rowL a b m) → Ev (fun k => spec_lcsTable.l0 k a b T ((i : Int) - 1)) (tabL a b) := by
  intro i
  induction i with
  | zero =>
    intro T _ hT h
    refine Ev.step (fun k => by rw [spec_lcsTable.l0]) ?_
    refine Ev.neg (by omega) (Ev.eqr (Ev.now _) ?_)
    exact ext_getD (d := []) (by rw [hT, tabL_len]) fun m hm => by rw [h m (by omega) (by omega), tabL_get _ _ _ (by omega)]
  | succ i ih =>
    intro T hi hT h
    have ei : ((i + 1 : Nat) : Int) - 1 = (i : Int) := by omega
    have ew : wrap64 ((i : Int) - 1) = (i : Int) - 1 := w64 (by omega) (by omega)
    rw [ei]
    refine Ev.step (fun k => by rw [spec_lcsTable.l0]) ?_
    simp only [zrow_len b hb, Int.toNat_natCast]
    refine Ev.pos (by omega) (Ev.pos (by omega) (Ev.pos (by omega) (Ev.pos (by omega) (Ev.pos (by omega) ?_))))
    rw [w64 (n := (b.size : Int) - 1) (by omega) (by omega)]
    have hz : (T.set i (List.replicate (b.size + 1) 0)).getD i [] = List.replicate (b.size + 1) 0 := getD_set_self (by omega)
    have fin : ∀ T', T'.length = a.size + 1 → (∀ m, i ≤ m → m ≤ a.size → T'.getD m [] = rowL a b m) → Ev (fun k => spec_lcsTable.l0 k a b T' ((i : Int) - 1)) (tabL a b) :=
      fun T' h1 h2 => ih T' (by omega) h1 h2
    by_cases hia : i < a.size
    · refine spec_inner a b ha hb i hia _ b.size _ (Nat.le_refl _) (by simpa using hT) ?_ ?_ ?_ ?_
      · rw [getD_set_ne (by omega)]; exact h _ (Nat.le_refl _) (by omega)
      · rw [hz]; simp
      · intro m h1 h2; rw [hz, L_end a b (.inr h1), getD_repl]
      · rw [List.set_set]
        refine fin _ (by simpa using hT) fun m h1 h2 => ?_
        by_cases hmi : i = m
        · subst hmi; rw [getD_set_self (by omega)]
        · rw [getD_set_ne hmi]; exact h m (by omega) h2
    · refine Ev.step (fun k => by rw [spec_lcsTable.l1]) ?_
      have hz0 : List.replicate (b.size + 1) 0 = rowL a b i := ext_getD (d := 0) (by simp [rowL_len]) fun m hm => by
        rw [List.length_replicate] at hm
        rw [rowL_get _ _ _ _ (by omega), L_end a b (.inl (by omega)), getD_repl]
      have fin' : Ev (fun k => spec_lcsTable.j2 k a b (T.set i (List.replicate (b.size + 1) 0)) i ((b.size : Int) - 1) false) (tabL a b) := by
        refine Ev.step (fun k => by rw [spec_lcsTable.j2]) ?_
        refine Ev.neg (by simp) ?_
        rw [ew]
        refine fin _ (by simpa using hT) fun m h1 h2 => ?_
        by_cases hmi : i = m
        · subst hmi; rw [getD_set_self (by omega), hz0]
        · rw [getD_set_ne hmi]; exact h m (by omega) h2
      by_cases hb0 : (b.size : Int) - 1 ≥ 0
      · refine Ev.pos hb0 ?_
        rw [show decide ((i : Int) < (a.size : Int)) = false from decide_eq_false (by omega)]
        exact fin'
      · exact Ev.neg hb0 fin'

theorem spec_table (a b : ByteArray) (ha : a.size ≤ 60) (hb : b.size ≤ 60) : Ev (fun k => spec_lcsTable.f k a b) (tabL a b) := by
  unfold spec_lcsTable.f
  simp only [zrow_len a ha, Int.toNat_natCast]
  refine Ev.pos (by omega) (Ev.pos (by omega) ?_)
  have := spec_outer a b ha hb (a.size + 1) (List.replicate (a.size + 1) []) (Nat.le_refl _) (by simp) (fun m h1 h2 => by omega)
  rw [show ((a.size + 1 : Nat) : Int) - 1 = (a.size : Int) by omega] at this
  exact this

theorem impl_inner (a b : ByteArray) (ha : a.size ≤ 60) (hb : b.size ≤ 60) (i : Nat) (hi : i < a.size) (r : List (List Int)) : ∀ (j : Nat) (T : List (List Int)), j ≤ b.size → T.length = a.size + 1 →
    T.getD (i + 1) [] = rowL a b (i + 1) → (T.getD i []).length = b.size + 1 → (∀ m, j ≤ m → m ≤ b.size → (T.getD i []).getD m 0 = L a b i m) →
    Ev (fun k => impl_commonTable.l1 k a b (T.set i (rowL a b i)) ((i : Int) - 1)) r → Ev (fun k => impl_commonTable.l2 k a b T i ((j : Int) - 1)) r := by
  intro j
  induction j with
  | zero =>
    intro T hj hT h1 h2 h3 he
    refine Ev.step (fun k => by rw [impl_commonTable.l2]) ?_
    refine Ev.neg (by omega) ?_
    rw [w64 (by omega) (by omega)]
    have e : T.set i (rowL a b i) = T := by
      have : T.getD i [] = rowL a b i := ext_getD (d := 0) (by rw [h2, rowL_len]) fun m hm => by
        rw [h3 m (by omega) (by omega), rowL_get _ _ _ _ (by omega)]
      refine ext_getD (d := []) (by simp) fun m hm => ?_
      rw [List.length_set] at hm
      by_cases hmi : i = m
      · subst hmi; rw [getD_set_self hm, this]
      · rw [getD_set_ne hmi]
    rw [e] at he
    exact he
  | succ j ih =>
    intro T hj hT h1 h2 h3 he
    have hlb := fun i k => L_bound a b i k
    have ej : ((j + 1 : Nat) : Int) - 1 = (j : Int) := by omega
    have ei : wrap64 ((i : Int) + 1) = ((i + 1 : Nat) : Int) := by rw [w64 (by omega) (by omega)]; rfl
    have ek : wrap64 ((j : Int) + 1) = ((j + 1 : Nat) : Int) := by rw [w64 (by omega) (by omega)]; rfl
    have em : wrap64 ((j : Int) - 1) = (j : Int) - 1 := w64 (by omega) (by omega)
    rw [ej]
    refine Ev.step (fun k => by rw [impl_commonTable.l2]) ?_
    simp only [ei, ek, em, rdL_nat, rd_nat]
    refine Ev.pos (by omega) (Ev.pos (by omega) (Ev.pos (by omega) (Ev.pos (by omega) (Ev.pos (by omega) ?_))))
    have hget : (T.getD i []).getD (j + 1) 0 = L a b i (j + 1) := h3 _ (by omega) (by omega)
    have key : ∀ v, v = L a b i j → Ev (fun k => impl_commonTable.l2 k a b (T.set (i : Int).toNat ((T.getD i []).set (j : Int).toNat v)) i ((j : Int) - 1)) r := by
      intro v hv
      rw [Int.toNat_natCast, Int.toNat_natCast]
      refine ih _ (by omega) (by simpa using hT) ?_ ?_ ?_ ?_
      · rw [getD_set_ne (by omega)]; exact h1
      · rw [getD_set_self (by omega)]; simpa using h2
      · intro m hm1 hm2
        rw [getD_set_self (by omega)]
        by_cases hmj : j = m
        · subst hmj; rw [getD_set_self (by omega)]; exact hv
        · rw [getD_set_ne hmj]; exact h3 m (by omega) hm2
      · rw [List.set_set]; exact he
    by_cases hc : bt a i = bt b j
    · refine Ev.pos hc (Ev.pos (by omega) (Ev.pos (by omega) (Ev.pos (by omega) (Ev.pos (by omega) ?_))))
      rw [h1]
      refine Ev.pos (by rw [rowL_len]; omega) (Ev.pos (by omega) ?_)
      refine key _ ?_
      rw [rowL_get _ _ _ _ (by omega), w64 (by have := hlb (i + 1) (j + 1); omega) (by have := hlb (i + 1) (j + 1); omega), L_eq hi (by omega) hc]
    · refine Ev.neg hc (Ev.pos (by omega) (Ev.pos (by omega) (Ev.pos (by omega) ?_)))
      rw [h1]
      refine Ev.pos (by rw [rowL_len]; omega) (Ev.pos (by omega) (Ev.pos (by omega) (Ev.pos (by omega) ?_)))
      refine key _ ?_
      rw [rowL_get _ _ _ _ (by omega), hget, L_ne hi (by omega) hc]

theorem impl_outer (a b : ByteArray) (ha : a.size ≤ 60) (hb : b.size ≤ 60) : ∀ (i : Nat) (T : List (List Int)), i ≤ a.size → T.length = a.size + 1 →
    (∀ m, i ≤ m → m ≤ a.size → T.getD m [] = rowL a b m) → (∀ m, m < i → T.getD m [] = List.replicate (b.size + 1) 0) → Ev (fun k => impl_commonTable.l1 k a b T ((i : Int) - 1)) (tabL a b) := by
  intro i
  induction i with
  | zero =>
    intro T _ hT h _
    refine Ev.step (fun k => by rw [impl_commonTable.l1]) ?_
    refine Ev.neg (by omega) (Ev.eqr (Ev.now _) ?_)
    exact ext_getD (d := []) (by rw [hT, tabL_len]) fun m hm => by rw [h m (by omega) (by omega), tabL_get _ _ _ (by omega)]
  | succ i ih =>
    intro T hi hT h hz
    have ei : ((i + 1 : Nat) : Int) - 1 = (i : Int) := by omega
    rw [ei]
    refine Ev.step (fun k => by rw [impl_commonTable.l1]) ?_
    refine Ev.pos (by omega) ?_
    rw [w64 (n := (b.size : Int) - 1) (by omega) (by omega)]
    have hzi := hz i (by omega)
    refine impl_inner a b ha hb i (by omega) _ b.size _ (Nat.le_refl _) hT (h _ (Nat.le_refl _) (by omega)) ?_ ?_ ?_
    · rw [hzi]; simp
    · intro m h1 h2; rw [hzi, L_end a b (.inr h1), getD_repl]
    · refine ih _ (by omega) (by simpa using hT) (fun m h1 h2 => ?_) (fun m h1 => ?_)
      · by_cases hmi : i = m
        · subst hmi; rw [getD_set_self (by omega)]
        · rw [getD_set_ne hmi]; exact h m (by omega) h2
      · rw [getD_set_ne (by omega)]; exact hz m (by omega)

theorem impl_fill (a b : ByteArray) (ha : a.size ≤ 60) (hb : b.size ≤ 60) : ∀ (d i : Nat) (T : List (List Int)), i + d = a.size + 1 → T.length = a.size + 1 →
    (∀ m, m < i → T.getD m [] = List.replicate (b.size + 1) 0) → Ev (fun k => impl_commonTable.l0 k a b T ((a.size + 1 : Nat) : Int) (i : Int)) (tabL a b) := by
  intro d
  induction d with
  | zero =>
    intro i T hi hT hz
    refine Ev.step (fun k => by rw [impl_commonTable.l0]) ?_
    refine Ev.neg (by omega) ?_
    rw [w64 (by omega) (by omega)]
    refine impl_outer a b ha hb a.size T (Nat.le_refl _) hT (fun m h1 h2 => ?_) (fun m h => hz m (by omega))
    rw [hz m (by omega)]
    exact ext_getD (d := 0) (by simp [rowL_len]) fun q hm => by
        rw [List.length_replicate] at hm
        rw [rowL_get _ _ _ _ (by omega), L_end a b (.inl (by omega)), getD_repl]
  | succ d ih =>
    intro i T hi hT hz
    refine Ev.step (fun k => by rw [impl_commonTable.l0]) ?_
    simp only [zrow_len b hb, Int.toNat_natCast]
    refine Ev.pos (by omega) (Ev.pos (by omega) (Ev.pos (by omega) (Ev.pos (by omega) (Ev.pos (by omega) ?_))))
    rw [show wrap64 ((i : Int) + 1) = ((i + 1 : Nat) : Int) by rw [w64 (by omega) (by omega)]; rfl]
    refine ih (i + 1) _ (by omega) (by simpa using hT) fun m h => ?_
    by_cases hmi : i = m
    · subst hmi; rw [getD_set_self (by omega)]
    · rw [getD_set_ne hmi]; exact hz m (by omega)

theorem impl_table (a b : ByteArray) (ha : a.size ≤ 60) (hb : b.size ≤ 60) : Ev (fun k => impl_commonTable.f k a b) (tabL a b) := by
  unfold impl_commonTable.f
  simp only [zrow_len a ha, Int.toNat_natCast]
  refine Ev.pos (by omega) (Ev.pos (by omega) ?_)
  refine Ev.bindv rfl ?_
  have := impl_fill a b ha hb (a.size + 1) 0 (List.replicate (a.size + 1) []) (by omega) (by simp) (fun m h1 => by omega)
  simpa using this

/-- What both programs' CommonLength answer. -/
def cl (a b : ByteArray) : Int := if a.size ≤ 60 ∧ b.size ≤ 60 then (Cd.lcs (by_ a) (by_ b) : Nat) else -1
theorem cl_L (a b : ByteArray) : L a b 0 0 = (Cd.lcs (by_ a) (by_ b) : Nat) := by unfold L; simp
theorem short_ev (a b : ByteArray) : spec_shortTexts.f a b = some (decide (a.size ≤ 60 ∧ b.size ≤ 60)) := by
  unfold spec_shortTexts.f
  by_cases h : a.size ≤ 60
  · rw [if_pos (by omega)]; congr 1; rw [decide_eq_decide]; omega
  · rw [if_neg (by omega)]; congr 1; simp; omega
theorem tab00 (a b : ByteArray) : rd (rd_L1 (tabL a b) 0) 0 = L a b 0 0 := by
  have := rdL_nat (tabL a b) 0; rw [Int.natCast_zero] at this; rw [this, tabL_get _ _ _ (by omega)]
  have := rd_nat (rowL a b 0) 0; rw [Int.natCast_zero] at this; rw [this, rowL_get _ _ _ _ (by omega)]
theorem rd0 (a b : ByteArray) : rd_L1 (tabL a b) 0 = rowL a b 0 := by
  have := rdL_nat (tabL a b) 0; rw [Int.natCast_zero] at this; rw [this, tabL_get _ _ _ (by omega)]
theorem spec_cl (a b : ByteArray) : Ev (fun k => spec_CommonLength.f k a b) (cl a b) := by
  unfold spec_CommonLength.f
  refine Ev.bindv (short_ev a b) ?_
  by_cases h : a.size ≤ 60 ∧ b.size ≤ 60
  · rw [decide_eq_true h]
    refine Ev.pos rfl ?_
    refine Ev.bind (spec_table a b h.1 h.2) ?_
    refine Ev.pos (by rw [tabL_len]; omega) (Ev.pos (by rw [rd0, rowL_len]; omega) (Ev.eqr (Ev.now _) ?_))
    rw [tab00, cl_L, cl, if_pos h]
  · rw [decide_eq_false h]
    refine Ev.neg (by simp) (Ev.eqr (Ev.now _) ?_)
    rw [cl, if_neg h]
theorem impl_cl (a b : ByteArray) : Ev (fun k => impl_CommonLength.f k a b) (cl a b) := by
  unfold impl_CommonLength.f
  by_cases h1 : a.size ≤ 60
  · refine Ev.neg (by omega) ?_
    by_cases h2 : b.size ≤ 60
    · refine Ev.neg (by omega) ?_
      refine Ev.bind (impl_table a b h1 h2) ?_
      refine Ev.pos (by rw [tabL_len]; omega) (Ev.pos (by rw [rd0, rowL_len]; omega) (Ev.eqr (Ev.now _) ?_))
      rw [tab00, cl_L, cl, if_pos ⟨h1, h2⟩]
    · refine Ev.pos (by omega) (Ev.eqr (Ev.now _) ?_)
      rw [cl, if_neg (by omega)]
  · refine Ev.pos (by omega) (Ev.eqr (Ev.now _) ?_)
    rw [cl, if_neg (by omega)]
end Go.Proofs.Ytnlfmbdnleclfaa.Q
