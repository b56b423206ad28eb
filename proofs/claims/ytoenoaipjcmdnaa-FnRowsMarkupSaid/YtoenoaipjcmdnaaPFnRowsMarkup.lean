import Derived.Laws.BitsLemmas
import Derived.Lib.IndexLaws
import Derived.Test.YtoenoaipjcmdnaaWB
import Derived.Test.YtoenoaipjcmdnaaQ0
import Derived.Test.YtoenoaipjcmdnaaQ10
import Derived.Test.YtoenoaipjcmdnaaQ11
import Derived.Test.YtoenoaipjcmdnaaQ15
import Derived.Test.YtoenoaipjcmdnaaQ16
import Derived.Test.YtoenoaipjcmdnaaQ17
import Derived.Test.YtoenoaipjcmdnaaQ22
import Derived.Test.YtoenoaipjcmdnaaQ23
import Derived.Test.YtoenoaipjcmdnaaQ31
import Derived.Test.YtoenoaipjcmdnaaQ32
import Derived.Test.YtoenoaipjcmdnaaQ47
import Derived.Test.YtoenoaipjcmdnaaQ48
import Derived.Test.YtoenoaipjcmdnaaQ49
import Derived.Test.YtoenoaipjcmdnaaQ50
import Derived.Test.YtoenoaipjcmdnaaQ51
import Derived.Test.YtoenoaipjcmdnaaQ54
import Derived.Test.YtoenoaipjcmdnaaQ55
import Derived.Test.YtoenoaipjcmdnaaQ56
import Derived.Test.YtoenoaipjcmdnaaQ57
import Derived.Test.YtoenoaipjcmdnaaQ58
import Derived.Test.YtoenoaipjcmdnaaQ59
import Derived.Test.YtoenoaipjcmdnaaQ6
import Derived.Test.YtoenoaipjcmdnaaQ60
import Derived.Test.YtoenoaipjcmdnaaQ61
import Derived.Test.YtoenoaipjcmdnaaQ7
import Derived.Test.YtoenoaipjcmdnaaQ8
import Derived.Test.YtoenoaipjcmdnaaQ9
set_option linter.unusedVariables false
set_option linter.unusedSimpArgs false
set_option linter.unusedSectionVars false
namespace Go.Proofs.Ytoenoaipjcmdnaa.Q
open Go.RowKit Go.Proofs.YtoenoaipjcmdnaaW.PrintWords Go.Proofs.YtoenoaipjcmdnaaW.PrintLast Go.Proofs.YtoenoaipjcmdnaaW.PrintMore
theorem Ev.pos {α : Type} {c : Prop} [Decidable c] {A B : Nat → Option α} {r : α} (h : c) (e : Ev A r) : Ev (fun k => if c then A k else B k) r := by
  obtain ⟨K, e⟩ := e
  exact ⟨K, fun k hk => by simp only [if_pos h]; exact e k hk⟩
theorem Ev.neg {α : Type} {c : Prop} [Decidable c] {A B : Nat → Option α} {r : α} (h : ¬ c) (e : Ev B r) : Ev (fun k => if c then A k else B k) r := by
  obtain ⟨K, e⟩ := e
  exact ⟨K, fun k hk => by simp only [if_neg h]; exact e k hk⟩
theorem Ev.bindv {α β : Type} {g : Option α} {f : Nat → α → Option β} {a : α} {r : β} (h : g = some a) (k : Ev (fun n => f n a) r) : Ev (fun n => g.bind (f n)) r := by
  subst h; exact k
theorem w64 {n : Int} (h0 : -9223372036854775808 ≤ n) (h1 : n ≤ 9223372036854775807) : wrap64 n = n := by unfold wrap64; omega
theorem Ev.eqr {α : Type} {A : Nat → Option α} {r r' : α} (h : Ev A r') (e : r' = r) : Ev A r := e ▸ h
abbrev by_ (a : ByteArray) : List UInt8 := a.data.toList
theorem by_len (a : ByteArray) : (by_ a).length = a.size := data_length a
theorem bt_get (a : ByteArray) (i : Nat) (h : i < a.size) : bt a (i : Int) = (((by_ a)[i]'(by rw [by_len]; exact h)).toNat : Int) := by
  unfold bt
  rw [dif_pos (by simpa using h)]
  rfl
theorem rd_nat (xs : List Int) (i : Nat) : rd xs (i : Int) = xs.getD i 0 := by unfold rd; rw [Int.toNat_natCast]
theorem xor_nonneg (x y : Int) (hx : 0 ≤ x) (hx' : x < 4611686018427387904) (hy : 0 ≤ y) (hy' : y < 4611686018427387904) : 0 ≤ Go.bits .xor .i64 x y := by
  obtain ⟨a, rfl⟩ := Int.eq_ofNat_of_zero_le hx
  obtain ⟨b, rfl⟩ := Int.eq_ofNat_of_zero_le hy
  have ha : a < 2 ^ 62 := by omega
  have hb : b < 2 ^ 62 := by omega
  have hc := Nat.xor_lt_two_pow ha hb
  have ha' : a % 2 ^ IntKind.i64.bits = a := Nat.mod_eq_of_lt (show a < 2 ^ 64 by omega)
  have hb' : b % 2 ^ IntKind.i64.bits = b := Nat.mod_eq_of_lt (show b < 2 ^ 64 by omega)
  simp only [Go.bits, BitVec.ofInt_natCast, BitVec.toNat_xor, BitVec.toNat_ofNat, ha', hb']
  rw [IntKind.wrap_i64]
  omega

def RB (b : List Int) : Prop := (∀ x ∈ b, 0 ≤ x ∧ x ≤ 255) ∧ b.length ≤ 2000
theorem rd_byte {b : List Int} (h : RB b) (i : Int) : 0 ≤ rd b i ∧ rd b i ≤ 255 := by
  unfold rd List.getD
  cases e : b[i.toNat]? with
  | none => simp
  | some v => exact h.1 v (List.mem_of_getElem? e)
theorem pick_ev {b : List Int} (hb : RB b) {p : Int} (hp : 0 ≤ p) (hp' : p ≤ 1000000000) (n : Int) (hn : n ≤ 1000000000) :
    ∃ v, Ev (fun k => spec_reader_pick.f k b p n) (v, p + 1) ∧ 0 ≤ v ∧ (1 ≤ n → v < n) ∧ (n < 1 → v = 0) := by
  unfold spec_reader_pick.f
  have e1 : wrap64 (p + 1) = p + 1 := w64 (by omega) (by omega)
  have e2 : wrap64 (p + 1 - 1) = p := by rw [w64 (by omega) (by omega)]; omega
  have hl := hb.2
  by_cases h1 : n < 1
  · refine ⟨0, Ev.pos h1 (Ev.step (fun k => by rw [spec_reader_pick.j0]) ?_), by omega, by omega, fun _ => rfl⟩
    rw [e1]
    exact Ev.pos rfl (Ev.now _)
  by_cases h2 : b.length = 0
  · refine ⟨0, Ev.neg h1 (Ev.step (fun k => by rw [spec_reader_pick.j0]) ?_), by omega, by omega, fun _ => rfl⟩
    rw [e1]
    exact Ev.pos (by simp [h2]) (Ev.now _)
  have hne : ((b.length : Int) == 0) = false := by simp; intro h; exact h2 (by rw [h]; rfl)
  by_cases h3 : p < (b.length : Int)
  · have hr := rd_byte hb p
    refine ⟨Int.tmod (rd b p) n, Ev.neg h1 (Ev.step (fun k => by rw [spec_reader_pick.j0]) ?_), Int.tmod_nonneg _ hr.1, fun h => Int.tmod_lt_of_pos _ (by omega), by omega⟩
    rw [e1, e2, hne]
    refine Ev.neg (by simp) (Ev.pos h3 (Ev.pos hp (Ev.neg (by omega) ?_)))
    rw [w64 (by omega) (by omega)]
    exact Ev.now _
  · have hlen : (0 : Int) < (b.length : Int) := by omega
    have f1 : wrap64 (p * 7) = p * 7 := w64 (by omega) (by omega)
    have f2 : wrap64 (p * 7 + 3) = p * 7 + 3 := w64 (by omega) (by omega)
    have m1 := Int.tmod_nonneg (b.length : Int) hp
    have m2 := Int.tmod_lt_of_pos p hlen
    have m3 := Int.tmod_nonneg (b.length : Int) (show (0 : Int) ≤ p * 7 + 3 by omega)
    have m4 := Int.tmod_lt_of_pos (p * 7 + 3) hlen
    have r1 := rd_byte hb (Int.tmod p (b.length : Int))
    have r2 := rd_byte hb (Int.tmod (p * 7 + 3) (b.length : Int))
    have q0 : 0 ≤ Int.tdiv p (b.length : Int) := Int.tdiv_nonneg hp (by omega)
    have q1 : Int.tdiv p (b.length : Int) ≤ p := by
      rw [Int.tdiv_eq_ediv_of_nonneg hp]; exact Int.ediv_le_self _ hp
    have go : ∀ k, ∃ v, spec_reader_pick.j0 (k + 1) n false b (p + 1) = spec_reader_pick.j0 1 n false b (p + 1) ∧ spec_reader_pick.j0 1 n false b (p + 1) = some (v, p + 1) ∧ 0 ≤ v ∧ (1 ≤ n → v < n) ∧ (n < 1 → v = 0) := by
      intro k
      simp only [spec_reader_pick.j0, e2, f1, f2, Bool.false_eq_true, if_false, if_neg h3, if_neg (show ¬ (b.length : Int) = 0 by omega), if_pos m1, if_pos m2, if_pos m3, if_pos m4, if_neg (show ¬ n = 0 by omega)]
      generalize rd b (Int.tmod p (b.length : Int)) = x at *
      generalize rd b (Int.tmod (p * 7 + 3) (b.length : Int)) = y at *
      generalize Int.tdiv p (b.length : Int) = z at *
      rw [w64 (n := x) (by omega) (by omega), w64 (n := y) (by omega) (by omega), w64 (n := z) (by omega) (by omega), w64 (n := x * 131) (by omega) (by omega), w64 (n := y * 1117) (by omega) (by omega),
        w64 (n := p * 29) (by omega) (by omega), w64 (n := z * 53) (by omega) (by omega), w64 (n := x * 131 + y * 1117) (by omega) (by omega), w64 (n := x * 131 + y * 1117 + p * 29) (by omega) (by omega),
        w64 (n := x * 131 + y * 1117 + p * 29 + z * 53) (by omega) (by omega)]
      have hs0 : 0 ≤ x * 131 + y * 1117 + p * 29 + z * 53 := by omega
      have hs1 : x * 131 + y * 1117 + p * 29 + z * 53 < 1000000000000 := by omega
      generalize x * 131 + y * 1117 + p * 29 + z * 53 = s at *
      have hd0 : 0 ≤ Int.tdiv s 64 := Int.tdiv_nonneg hs0 (by omega)
      have hd1 : Int.tdiv s 64 ≤ s := by rw [Int.tdiv_eq_ediv_of_nonneg hs0]; exact Int.ediv_le_self _ hs0
      rw [w64 (n := Int.tdiv s 64) (by omega) (by omega)]
      have hx := xor_nonneg s (Int.tdiv s 64) hs0 (by omega) hd0 (by omega)
      exact ⟨_, trivial, rfl, Int.tmod_nonneg _ hx, fun h => Int.tmod_lt_of_pos _ (by omega), by omega⟩
    obtain ⟨v, -, hv, hr⟩ := go 0
    refine ⟨v, Ev.neg h1 ?_, hr⟩
    rw [e1, hne]
    refine Ev.step (f := fun _ => some (v, p + 1)) (fun k => ?_) (Ev.now _)
    obtain ⟨v', h1, h2, -⟩ := go k
    rw [h1, hv]
theorem of_ev {b : List Int} (hb : RB b) {p : Int} (hp : 0 ≤ p) (hp' : p ≤ 1000000000) (l : List ByteArray) (h0 : 1 ≤ l.length) (h1 : l.length ≤ 1000) :
    ∃ s, Ev (fun k => spec_reader_of.f k b p l) (s, p + 1) ∧ s ∈ l := by
  obtain ⟨v, e, v0, v1, -⟩ := pick_ev hb hp hp' (l.length : Int) (by omega)
  have hv := v1 (by omega)
  have hv' : v.toNat < l.length := by omega
  refine ⟨rdOf ByteArray.empty l v, ?_, ?_⟩
  · unfold spec_reader_of.f
    exact Ev.bind e (Ev.pos v0 (Ev.pos hv (Ev.now _)))
  · unfold rdOf List.getD
    rw [List.getElem?_eq_getElem hv']
    exact List.getElem_mem hv'
theorem one_ev {b : List Int} (hb : RB b) {p : Int} (hp : 0 ≤ p) (hp' : p ≤ 1000000000) (l : List Int) (h0 : 1 ≤ l.length) (h1 : l.length ≤ 1000) :
    ∃ s, Ev (fun k => spec_reader_one.f k b p l) (s, p + 1) ∧ s ∈ l := by
  obtain ⟨v, e, v0, v1, -⟩ := pick_ev hb hp hp' (l.length : Int) (by omega)
  have hv := v1 (by omega)
  have hv' : v.toNat < l.length := by omega
  refine ⟨rd l v, ?_, ?_⟩
  · unfold spec_reader_one.f
    exact Ev.bind e (Ev.pos v0 (Ev.pos hv (Ev.now _)))
  · unfold rd List.getD
    rw [List.getElem?_eq_getElem hv']
    exact List.getElem_mem hv'
def sch (p k : Int) : Bool := if p = 0 then (if k = 1 then true else if k = 2 then true else k == 3) else if p = 3 then k == 4 else if p = 4 then (if k = 1 then true else k == 3) else false
theorem spec_sch (p k : Int) : spec_schemaAllows.f p k = some (sch p k) := by
  unfold spec_schemaAllows.f sch
  repeat' split
  all_goals rfl
theorem impl_sch (p k : Int) : impl_SchemaAllows.f p k = some (sch p k) := spec_sch p k
theorem sch_kind {p k : Int} (h : sch p k = true) : 1 ≤ k ∧ k ≤ 4 := by
  unfold sch at h
  repeat' split at h
  all_goals (try (simp only [beq_iff_eq] at h)); (try omega); (try (simp at h))
def vr : List Int → List S42 → Bool
  | _, [] => true
  | ch, r :: rs => if r.f2 < 0 then false else if r.f2 > (ch.length : Int) then false else if sch (if r.f2 > 0 then ch.getD (r.f2.toNat - 1) 0 else 0) r.f1 = true then vr (ch.take r.f2.toNat ++ [r.f1]) rs else false
theorem rdT (x : List S42) (i : Nat) : rd_T42 x (i : Int) = x.getD i z42 := by unfold rd_T42; rw [Int.toNat_natCast]
theorem drop_getD {α : Type} (d : α) (x : List α) (i : Nat) (h : i < x.length) : x.drop i = x.getD i d :: x.drop (i + 1) := by
  rw [List.drop_eq_getElem_cons h]
  simp [List.getD, h]
theorem wi {i : Nat} (h : i ≤ 100000000000) : wrap64 ((i : Int) + 1) = ((i + 1 : Nat) : Int) := by rw [w64 (by omega) (by omega)]; rfl
theorem spec_valid (x : List S42) (hn : x.length ≤ 2000000) : ∀ (m i : Nat) (ch : List Int), i + m = x.length → ch.length ≤ i → Ev (fun k => spec_ValidRows.l0 k x ch i) (vr ch (x.drop i)) := by
  intro m
  induction m with
  | zero =>
    intro i ch hi hc
    refine Ev.step (fun k => by rw [spec_ValidRows.l0]) (Ev.neg (by omega) (Ev.eqr (Ev.now _) ?_))
    rw [List.drop_of_length_le (by omega)]; rfl
  | succ m ih =>
    intro i ch hi hc
    rw [drop_getD z42 x i (by omega)]
    refine Ev.step (fun k => by rw [spec_ValidRows.l0]) (Ev.pos (by omega) (Ev.pos (by omega) ?_))
    simp only [rdT]
    generalize x.getD i z42 = r
    unfold vr
    by_cases h0 : r.f2 < 0
    · rw [if_pos h0]
      exact Ev.pos h0 (Ev.step (fun k => by rw [spec_ValidRows.j1]) (Ev.pos rfl (Ev.now _)))
    rw [if_neg h0]
    refine Ev.neg h0 ?_
    by_cases h1 : r.f2 > (ch.length : Int)
    · rw [if_pos h1, decide_eq_true h1]
      exact Ev.step (fun k => by rw [spec_ValidRows.j1]) (Ev.pos rfl (Ev.now _))
    rw [if_neg h1, decide_eq_false h1]
    refine Ev.step (fun k => by rw [spec_ValidRows.j1]) (Ev.neg (by simp) ?_)
    simp only [Option.bind_some, List.nil_append, wi (show i ≤ 100000000000 by omega)]
    have hl : (ch.take r.f2.toNat).length ≤ i := by rw [List.length_take]; omega
    have tail : sch (if r.f2 > 0 then ch.getD (r.f2.toNat - 1) 0 else 0) r.f1 = true → Ev (fun k => spec_ValidRows.l0 k x (ch.take r.f2.toNat ++ [r.f1]) ((i + 1 : Nat) : Int)) (vr (ch.take r.f2.toNat ++ [r.f1]) (x.drop (i + 1))) := fun _ =>
      ih (i + 1) _ (by omega) (by rw [List.length_append, List.length_take, List.length_singleton]; omega)
    by_cases h2 : r.f2 > 0
    · rw [if_pos h2] at tail ⊢
      have ew : wrap64 (r.f2 - 1) = ((r.f2.toNat - 1 : Nat) : Int) := by rw [w64 (by omega) (by omega)]; omega
      refine Ev.pos h2 ?_
      rw [ew]
      refine Ev.pos (by omega) (Ev.pos (by omega) (Ev.bindv (spec_sch _ _) ?_))
      rw [rd_nat]
      by_cases h3 : sch (ch.getD (r.f2.toNat - 1) 0) r.f1 = true
      · rw [if_pos h3]
        refine Ev.pos h3 (Ev.pos (by omega) (Ev.pos (by omega) (Ev.pos ?_ (Ev.pos ?_ (tail h3)))))
        · simp only [List.length_nil]; omega
        · simp only [List.length_singleton]; omega
      · rw [if_neg h3]
        exact Ev.neg h3 (Ev.now _)
    · rw [if_neg h2] at tail ⊢
      refine Ev.neg h2 (Ev.bindv (spec_sch _ _) ?_)
      by_cases h3 : sch 0 r.f1 = true
      · rw [if_pos h3]
        refine Ev.pos h3 (Ev.pos (by omega) (Ev.pos (by omega) (Ev.pos ?_ (Ev.pos ?_ (tail h3)))))
        · simp only [List.length_nil]; omega
        · simp only [List.length_singleton]; omega
      · rw [if_neg h3]
        exact Ev.neg h3 (Ev.now _)
theorem spec_validf (x : List S42) (hn : x.length ≤ 2000000) : Ev (fun k => spec_ValidRows.f k x) (vr [] x) := by
  unfold spec_ValidRows.f
  exact spec_valid x hn x.length 0 [] (by omega) (by simp)

def lastK (x : List S42) (d : Int) : Nat → Int
  | 0 => -1
  | i + 1 => if (x.getD i z42).f2 = d then (x.getD i z42).f1 else lastK x d i
theorem impl_parent (x : List S42) (hn : x.length ≤ 2000000) (d : Int) (h0 : 0 ≤ d) (h1 : d ≤ 100000000) (hd : d ≠ 0) : ∀ i : Nat, i ≤ x.length → Ev (fun k => impl_parentKind.l0 k x d ((i : Int) - 1)) (lastK x (d - 1) i) := by
  intro i
  induction i with
  | zero =>
    intro _
    show Ev (fun k => impl_parentKind.l0 k x d (((0 : Nat) : Int) - 1)) (-1)
    exact Ev.step (fun k => by rw [impl_parentKind.l0]) (Ev.neg (by omega) (Ev.now _))
  | succ i ih =>
    intro hi
    have e : ((i + 1 : Nat) : Int) - 1 = (i : Int) := by omega
    rw [e]
    refine Ev.step (fun k => by rw [impl_parentKind.l0]) (Ev.pos (by omega) (Ev.pos (by omega) (Ev.pos (by omega) ?_)))
    rw [rdT, w64 (n := d - 1) (by omega) (by omega), w64 (n := (i : Int) - 1) (by omega) (by omega)]
    unfold lastK
    by_cases h : (x.getD i z42).f2 = d - 1
    · rw [if_pos h]; exact Ev.pos h (Ev.now _)
    · rw [if_neg h]; exact Ev.neg h (ih (by omega))
theorem lastK_take (x : List S42) (d : Int) (j : Nat) : ∀ i, i ≤ j → j ≤ x.length → lastK (x.take j) d i = lastK x d i := by
  intro i
  induction i with
  | zero => intros; rfl
  | succ i ih =>
    intro h1 h2
    unfold lastK
    have e : (x.take j).getD i z42 = x.getD i z42 := by
      simp only [List.getD, List.getElem?_take, if_pos (show i < j by omega)]
    rw [e, ih (by omega) h2]
theorem impl_valid (x : List S42) (hn : x.length ≤ 2000000) : ∀ (m i : Nat) (ch : List Int), i + m = x.length → ch.length ≤ i → (∀ d : Nat, d < ch.length → lastK x d i = ch.getD d 0) →
    Ev (fun k => impl_ValidRows.l0 k x ((ch.length : Int) - 1) x (x.length : Int) i) (vr ch (x.drop i)) := by
  intro m
  induction m with
  | zero =>
    intro i ch hi hc _
    refine Ev.step (fun k => by rw [impl_ValidRows.l0]) (Ev.neg (by omega) (Ev.eqr (Ev.now _) ?_))
    rw [List.drop_of_length_le (by omega)]; rfl
  | succ m ih =>
    intro i ch hi hc hk
    rw [drop_getD z42 x i (by omega)]
    refine Ev.step (fun k => by rw [impl_ValidRows.l0]) (Ev.pos (by omega) (Ev.pos (by omega) (Ev.pos (by omega) ?_)))
    simp only [rdT]
    have ih' := ih (i + 1)
    generalize hr : x.getD i z42 = r
    unfold vr
    by_cases h0 : r.f2 < 0
    · rw [if_pos h0]
      exact Ev.pos h0 (Ev.now _)
    rw [if_neg h0]
    refine Ev.neg h0 ?_
    rw [w64 (n := (ch.length : Int) - 1 + 1) (by omega) (by omega)]
    by_cases h1 : r.f2 > (ch.length : Int)
    · rw [if_pos h1]
      exact Ev.pos (by omega) (Ev.now _)
    rw [if_neg h1]
    refine Ev.neg (by omega) (Ev.pos (by omega) ?_)
    rw [Int.toNat_natCast, wi (by omega)]
    have hpar : Ev (fun k => impl_parentKind.f k (x.take i) r.f2) (if r.f2 > 0 then ch.getD (r.f2.toNat - 1) 0 else 0) := by
      unfold impl_parentKind.f
      by_cases h2 : r.f2 = 0
      · rw [if_neg (by omega)]; exact Ev.pos h2 (Ev.now _)
      · rw [if_pos (by omega)]
        refine Ev.neg h2 ?_
        have hl : (x.take i).length = i := by rw [List.length_take]; omega
        rw [hl, w64 (n := (i : Int) - 1) (by omega) (by omega)]
        refine Ev.eqr (impl_parent (x.take i) (by omega) r.f2 (by omega) (by omega) h2 i (by omega)) ?_
        rw [lastK_take x _ i i (Nat.le_refl _) (by omega), show r.f2 - 1 = ((r.f2.toNat - 1 : Nat) : Int) by omega]
        exact hk _ (by omega)
    refine Ev.bind hpar (Ev.bindv (impl_sch _ _) ?_)
    by_cases h3 : sch (if r.f2 > 0 then ch.getD (r.f2.toNat - 1) 0 else 0) r.f1 = true
    · rw [if_pos h3]
      refine Ev.pos h3 ?_
      have hlen : (ch.take r.f2.toNat ++ [r.f1]).length = r.f2.toNat + 1 := by rw [List.length_append, List.length_take, List.length_singleton]; omega
      have := ih' (ch.take r.f2.toNat ++ [r.f1]) (by omega) (by rw [hlen]; omega) (by
        intro d hd
        rw [hlen] at hd
        unfold lastK
        rw [hr]
        by_cases e : r.f2 = d
        · rw [if_pos e]
          have : r.f2.toNat = d := by omega
          simp [List.getD, List.length_take, this, show min d ch.length = d by omega]
        · rw [if_neg e, hk d (by omega)]
          have h4 : d < (ch.take r.f2.toNat).length := by rw [List.length_take]; omega
          simp only [List.getD, List.getElem?_append_left h4, List.getElem?_take, if_pos (show d < r.f2.toNat by omega)])
      rw [hlen] at this
      rw [show (((r.f2.toNat + 1 : Nat) : Int)) - 1 = r.f2 by omega] at this
      exact this
    · rw [if_neg h3]
      exact Ev.neg h3 (Ev.now _)
theorem impl_validf (x : List S42) (hn : x.length ≤ 2000000) : Ev (fun k => impl_ValidRows.f k x) (vr [] x) := by
  unfold impl_ValidRows.f
  exact impl_valid x hn x.length 0 [] (by omega) (by simp) (by simp)
theorem baext {a b : ByteArray} (h : by_ a = by_ b) : a = b := by
  obtain ⟨⟨a⟩⟩ := a
  obtain ⟨⟨b⟩⟩ := b
  simpa [by_] using h
theorem by_app (a b : ByteArray) : by_ (a ++ b) = by_ a ++ by_ b := by simp [by_, ByteArray.data_append]
theorem by_mk (l : List UInt8) : by_ ⟨l.toArray⟩ = l := rfl
theorem toList_by (a : ByteArray) : a.toList = by_ a := by
  first | exact ByteArray.toList_eq a | exact Lib.toList_eq a | simp [by_]
def pc (c : UInt8) : Bool := decide (32 ≤ c.toNat) && decide (c.toNat ≤ 126)
def prn (t : ByteArray) : Bool := (by_ t).all pc
def good (x : List S42) : Bool := x.all (fun r => prn r.f3) && (vr [] x && decide (x.length ≤ 40))
def letter (k : Int) : UInt8 := ([112, 104, 108, 105] : List UInt8).getD (k - 1).toNat 0
def line (r : S42) : List UInt8 := List.replicate (2 * r.f2.toNat) 32 ++ [letter r.f1] ++ [32] ++ by_ r.f3 ++ [10]
def mk (x : List S42) : ByteArray := ⟨(x.flatMap line).toArray⟩
theorem vr_row : ∀ (x : List S42) (ch : List Int), vr ch x = true → ∀ r ∈ x, 1 ≤ r.f1 ∧ r.f1 ≤ 4 ∧ 0 ≤ r.f2 ∧ r.f2 < (ch.length + x.length : Nat) := by
  intro x
  induction x with
  | nil => intro ch _ r hr; simp at hr
  | cons a x ih =>
    intro ch h r hr
    unfold vr at h
    by_cases h0 : a.f2 < 0
    · rw [if_pos h0] at h; simp at h
    rw [if_neg h0] at h
    by_cases h1 : a.f2 > (ch.length : Int)
    · rw [if_pos h1] at h; simp at h
    rw [if_neg h1] at h
    by_cases h2 : sch (if a.f2 > 0 then ch.getD (a.f2.toNat - 1) 0 else 0) a.f1 = true
    · rw [if_pos h2] at h
      rw [List.length_cons]
      rcases List.mem_cons.1 hr with e | e
      · subst e
        have := sch_kind h2
        omega
      · have := ih _ h r e
        rw [List.length_append, List.length_take, List.length_singleton] at this
        omega
    · rw [if_neg h2] at h; simp at h
theorem bt_nat (a : ByteArray) (i : Nat) (h : i < a.size) : bt a (i : Int) = (((by_ a).getD i 0).toNat : Int) := by
  rw [bt_get a i h]
  simp [List.getD, by_len, h]
theorem bt_hi (a : ByteArray) (i : Nat) (h : i < a.size) : 0 ≤ bt a (i : Int) ∧ bt a (i : Int) ≤ 255 := by
  rw [bt_nat a i h]
  have := UInt8.toNat_lt ((by_ a).getD i 0)
  omega
theorem content_inner (x : List S42) (hn : x.length ≤ 2000000) (i : Nat) (hi : i < x.length) (hs : (x.getD i z42).f3.size ≤ 2000000) (r : Bool) (hr : Ev (fun k => spec_validContent.l0 k x ((i + 1 : Nat) : Int)) r) :
    ∀ m j : Nat, j + m = (x.getD i z42).f3.size → Ev (fun k => spec_validContent.l1 k x i j) (if ((by_ (x.getD i z42).f3).drop j).all pc = true then r else false) := by
  intro m
  induction m with
  | zero =>
    intro j hj
    refine Ev.step (fun k => by rw [spec_validContent.l1]) (Ev.pos (by omega) (Ev.pos (by omega) ?_))
    simp only [rdT]
    refine Ev.neg (by omega) ?_
    rw [wi (by omega), List.drop_of_length_le (by rw [by_len]; omega), List.all_nil, if_pos rfl]
    exact hr
  | succ m ih =>
    intro j hj
    refine Ev.step (fun k => by rw [spec_validContent.l1]) (Ev.pos (by omega) (Ev.pos (by omega) ?_))
    simp only [rdT]
    refine Ev.pos (by omega) (Ev.pos (by omega) ?_)
    rw [drop_getD 0 (by_ (x.getD i z42).f3) j (by rw [by_len]; omega), List.all_cons]
    have hb := bt_nat (x.getD i z42).f3 j (by omega)
    have hh := bt_hi (x.getD i z42).f3 j (by omega)
    rw [w64 (n := bt _ _) (by omega) (by omega), hb, wi (by omega)]
    generalize hc : (by_ (x.getD i z42).f3).getD j 0 = c
    rw [hc] at hb
    by_cases h1 : 32 ≤ c.toNat
    · by_cases h2 : c.toNat ≤ 126
      · have hp : pc c = true := by unfold pc; simp [h1, h2]
        rw [hp, Bool.true_and]
        refine Ev.bindv (a := true) ?_ (Ev.pos rfl (ih (j + 1) (by omega)))
        unfold spec_inRange.f
        rw [if_pos (by omega), decide_eq_true (by omega)]
      · have hp : pc c = false := by unfold pc; simp [h2]
        rw [hp, Bool.false_and, if_neg (by simp)]
        refine Ev.bindv (a := false) ?_ (Ev.neg (by simp) (Ev.now _))
        unfold spec_inRange.f
        rw [if_pos (by omega), decide_eq_false (by omega)]
    · have hp : pc c = false := by unfold pc; simp [h1]
      rw [hp, Bool.false_and, if_neg (by simp)]
      refine Ev.bindv (a := false) ?_ (Ev.neg (by simp) (Ev.now _))
      unfold spec_inRange.f
      rw [if_neg (by omega)]
theorem content_outer (x : List S42) (hn : x.length ≤ 2000000) (hs : ∀ r ∈ x, r.f3.size ≤ 2000000) :
    ∀ m i : Nat, i + m = x.length → Ev (fun k => spec_validContent.l0 k x i) ((x.drop i).all (fun r => prn r.f3) && (vr [] x && decide (x.length ≤ 40))) := by
  intro m
  induction m with
  | zero =>
    intro i hi
    rw [List.drop_of_length_le (by omega), List.all_nil, Bool.true_and]
    refine Ev.step (fun k => by rw [spec_validContent.l0]) (Ev.neg (by omega) (Ev.bind (spec_validf x hn) ?_))
    cases vr [] x with
    | true => exact Ev.pos rfl (Ev.eqr (Ev.now _) (by rw [Bool.true_and]; congr 1; exact propext (by omega)))
    | false => exact Ev.neg (by simp) (Ev.now _)
  | succ m ih =>
    intro i hi
    refine Ev.step (fun k => by rw [spec_validContent.l0]) (Ev.pos (by omega) ?_)
    have hmem : x.getD i z42 ∈ x := by
      have : x.getD i z42 = x[i]'(by omega) := by simp [List.getD, show i < x.length by omega]
      rw [this]; exact List.getElem_mem _
    have := content_inner x hn i (by omega) (hs _ hmem) _ (ih (i + 1) (by omega)) _ 0 (Nat.zero_add _)
    rw [drop_getD z42 x i (by omega), List.all_cons]
    refine Ev.eqr this ?_
    rw [List.drop_zero]
    show _ = ((by_ (x.getD i z42).f3).all pc && _ && _)
    cases (by_ (x.getD i z42).f3).all pc <;> simp
theorem contentf (x : List S42) (hn : x.length ≤ 2000000) (hs : ∀ r ∈ x, r.f3.size ≤ 2000000) : Ev (fun k => spec_validContent.f k x) (good x) := by
  unfold spec_validContent.f
  exact content_outer x hn hs x.length 0 (by omega)
theorem letters {k : Int} (h1 : 1 ≤ k) (h4 : k ≤ 4) : (⟨#[112, 104, 108, 105]⟩ : ByteArray).extract (k - 1).toNat k.toNat = ⟨#[letter k]⟩ := by
  have : k = 1 ∨ k = 2 ∨ k = 3 ∨ k = 4 := by omega
  rcases this with rfl | rfl | rfl | rfl <;> rfl
theorem row_loop (d : Nat) (hd : d ≤ 1000) (i0 i1 kd : Int) (h1 : 1 ≤ kd) (h4 : kd ≤ 4) (t : ByteArray) (ht : t.size ≤ 2000000) : ∀ (m i : Nat) (a : ByteArray), i + m = d → by_ a = List.replicate (2 * i) 32 →
    Ev (fun k => spec_markupRow.l0 k a i i0 i1 kd d t) ⟨(List.replicate (2 * d) 32 ++ [letter kd] ++ [32] ++ by_ t ++ [10]).toArray⟩ := by
  intro m
  induction m with
  | zero =>
    intro i a hi ha
    obtain rfl : i = d := by omega
    have hsz : a.size = 2 * i := by rw [← by_len, ha, List.length_replicate]
    have hL := letters h1 h4
    refine Ev.step (fun k => by rw [spec_markupRow.l0]) (Ev.neg (by omega) ?_)
    rw [w64 (n := kd - 1) (by omega) (by omega)]
    rw [hL]
    have z1 : (⟨#[letter kd]⟩ : ByteArray).size = 1 := rfl
    have z2 : (⟨#[32]⟩ : ByteArray).size = 1 := rfl
    refine Ev.pos (by omega) (Ev.pos (by omega) (Ev.pos (by omega) (Ev.pos ?_ (Ev.pos ?_ (Ev.pos ?_ (Ev.pos ?_ (Ev.eqr (Ev.now _) ?_)))))))
    · rw [z1]; omega
    · rw [ByteArray.size_append, z1]; omega
    · rw [ByteArray.size_append, ByteArray.size_append, z1, z2]; omega
    · rw [ByteArray.size_append, ByteArray.size_append, ByteArray.size_append, z1, z2]; omega
    · apply baext
      rw [by_app, by_app, by_app, by_app, ha, by_mk]
  | succ m ih =>
    intro i a hi ha
    have hsz : a.size = 2 * i := by rw [← by_len, ha, List.length_replicate]
    refine Ev.step (fun k => by rw [spec_markupRow.l0]) (Ev.pos (by omega) (Ev.pos (by omega) ?_))
    rw [wi (by omega)]
    refine ih (i + 1) _ (by omega) ?_
    rw [by_app, ha]
    show List.replicate (2 * i) 32 ++ List.replicate 2 32 = _
    rw [List.replicate_append_replicate]; congr 1
theorem rowf (r : S42) (h1 : 1 ≤ r.f1) (h4 : r.f1 ≤ 4) (h0 : 0 ≤ r.f2) (hd : r.f2 ≤ 1000) (ht : r.f3.size ≤ 2000000) : Ev (fun k => spec_markupRow.f k r.f0.f0 r.f0.f1 r.f1 r.f2 r.f3) ⟨(line r).toArray⟩ := by
  unfold spec_markupRow.f
  have := row_loop r.f2.toNat (by omega) r.f0.f0 r.f0.f1 r.f1 h1 h4 r.f3 ht r.f2.toNat 0 (⟨#[]⟩) (by omega) rfl
  rw [show ((r.f2.toNat : Nat) : Int) = r.f2 by omega] at this
  exact this
theorem line_len (r : S42) : (line r).length = 2 * r.f2.toNat + r.f3.size + 3 := by
  unfold line
  simp only [List.length_append, List.length_replicate, List.length_singleton, by_len]
  omega
theorem mk_snoc (x : List S42) (i : Nat) (h : i < x.length) : mk (x.take (i + 1)) = mk (x.take i) ++ ⟨(line (x.getD i z42)).toArray⟩ := by
  apply baext
  rw [by_app]
  show (List.flatMap line (x.take (i + 1))) = (List.flatMap line (x.take i)) ++ line _
  rw [List.take_succ_eq_append_getElem h, List.flatMap_append]
  simp [List.getD, h]
theorem mk_size (x : List S42) (B : Nat) (h : ∀ r ∈ x, (line r).length ≤ B) : (mk x).size ≤ x.length * B := by
  rw [← by_len]
  show (List.flatMap line x).length ≤ _
  induction x with
  | nil => simp
  | cons a x ih =>
    have h1 := h a (List.mem_cons_self ..)
    have h2 := ih (fun r hr => h r (List.mem_cons_of_mem _ hr))
    simp only [List.flatMap_cons, List.length_append, List.length_cons, Nat.succ_mul]
    omega
def fit (x : List S42) : Prop := x.length ≤ 40 ∧ ∀ r ∈ x, 1 ≤ r.f1 ∧ r.f1 ≤ 4 ∧ 0 ≤ r.f2 ∧ r.f2 ≤ 1000 ∧ r.f3.size ≤ 2000000
theorem fit_size {x : List S42} (h : fit x) (i : Nat) : (mk (x.take i)).size ≤ 90000000 := by
  have := mk_size (x.take i) 2002003 (fun r hr => by
    have := h.2 r (List.mem_of_mem_take hr)
    rw [line_len]; omega)
  have hl : (x.take i).length ≤ 40 := by rw [List.length_take]; have := h.1; omega
  have := Nat.mul_le_mul_right 2002003 hl
  omega
theorem fit_get {x : List S42} (h : fit x) {i : Nat} (hi : i < x.length) : 1 ≤ (x.getD i z42).f1 ∧ (x.getD i z42).f1 ≤ 4 ∧ 0 ≤ (x.getD i z42).f2 ∧ (x.getD i z42).f2 ≤ 1000 ∧ (x.getD i z42).f3.size ≤ 2000000 := by
  have : x.getD i z42 = x[i] := by simp [List.getD, hi]
  rw [this]; exact h.2 _ (List.getElem_mem _)
theorem rows_loop (x : List S42) (hx : fit x) : ∀ m i : Nat, i + m = x.length → Ev (fun k => spec_RowsMarkup.l0 k x (mk (x.take i)) i) (mk x) := by
  intro m
  induction m with
  | zero =>
    intro i hi
    refine Ev.step (fun k => by rw [spec_RowsMarkup.l0]) (Ev.neg (by omega) (Ev.eqr (Ev.now _) ?_))
    rw [List.take_of_length_le (by omega)]
  | succ m ih =>
    intro i hi
    have hg := fit_get hx (show i < x.length by omega)
    have h40 := hx.1
    refine Ev.step (fun k => by rw [spec_RowsMarkup.l0]) (Ev.pos (by omega) (Ev.pos (by omega) ?_))
    rw [rdT]
    refine Ev.bind (rowf _ hg.1 hg.2.1 hg.2.2.1 hg.2.2.2.1 hg.2.2.2.2) (Ev.pos ?_ ?_)
    · have h1 := fit_size hx (i + 1)
      rw [mk_snoc x i (by omega), ByteArray.size_append] at h1
      omega
    · rw [← mk_snoc x i (by omega), wi (by omega)]
      exact ih (i + 1) (by omega)
theorem good_fit {x : List S42} (h : good x = true) (hs : ∀ r ∈ x, r.f3.size ≤ 2000000) : fit x := by
  unfold good at h
  simp only [Bool.and_eq_true, decide_eq_true_eq] at h
  refine ⟨h.2.2, fun r hr => ?_⟩
  have := vr_row x [] h.2.1 r hr
  have h2 := h.2.2
  simp only [List.length_nil] at this
  exact ⟨this.1, this.2.1, this.2.2.1, by omega, hs r hr⟩
def wr (x : List S42) : ByteArray := if good x = true then mk x else ⟨#[]⟩
theorem spec_rows (x : List S42) (hn : x.length ≤ 2000000) (hs : ∀ r ∈ x, r.f3.size ≤ 2000000) : Ev (fun k => spec_RowsMarkup.f k x) (wr x) := by
  unfold spec_RowsMarkup.f wr
  refine Ev.bind (contentf x hn hs) ?_
  by_cases h : good x = true
  · rw [if_pos h]
    exact Ev.pos h (rows_loop x (good_fit h hs) x.length 0 (by omega))
  · rw [if_neg h]
    exact Ev.neg h (Ev.now _)
theorem rep_spaces : ∀ d : Nat, Lib.repeatL [32, 32] d = List.replicate (2 * d) 32 := by
  intro d
  induction d with
  | zero => rfl
  | succ d ih =>
    show [32, 32] ++ Lib.repeatL [32, 32] d = _
    rw [ih]
    show List.replicate 2 32 ++ _ = _
    rw [List.replicate_append_replicate]; congr 1; omega
theorem impl_inner (x : List S42) (r : S42) (h1 : 1 ≤ r.f1) (h4 : r.f1 ≤ 4) (h0 : 0 ≤ r.f2) (hd : r.f2 ≤ 1000) (ht : r.f3.size ≤ 2000000) (acc : ByteArray) (ha : acc.size ≤ 90000000) (n : Int) (i : Nat) (hi : i ≤ 100) (R : ByteArray)
    (hR : Ev (fun k => impl_RowsMarkup.l0 k (acc ++ ⟨(line r).toArray⟩) x n ((i + 1 : Nat) : Int)) R) :
    ∀ m j : Nat, j + m = r.f3.size → Ev (fun k => impl_RowsMarkup.l1 k acc j x n i r.f0.f0 r.f0.f1 r.f1 r.f2 r.f3) (if ((by_ r.f3).drop j).all pc = true then R else ⟨#[]⟩) := by
  intro m
  induction m with
  | zero =>
    intro j hj
    rw [List.drop_of_length_le (by rw [by_len]; omega), List.all_nil, if_pos rfl]
    have hL := letters h1 h4
    have z0 : (⟨(Lib.repeatL ([32, 32] : List UInt8) r.f2.toNat).toArray⟩ : ByteArray).size = 2 * r.f2.toNat := by
      rw [← by_len, by_mk, rep_spaces, List.length_replicate]
    have z1 : (⟨#[letter r.f1]⟩ : ByteArray).size = 1 := rfl
    have z2 : (⟨#[32]⟩ : ByteArray).size = 1 := rfl
    have z3 : (⟨#[10]⟩ : ByteArray).size = 1 := rfl
    have zs : (⟨#[32, 32]⟩ : ByteArray).size = 2 := rfl
    refine Ev.step (fun k => by rw [impl_RowsMarkup.l1]) (Ev.neg (by omega) (Ev.bindv (a := (⟨(Lib.repeatL ([32, 32] : List UInt8) r.f2.toNat).toArray⟩ : ByteArray)) ?_ ?_))
    · unfold strings_Repeat.f
      rw [if_pos (by rw [zs]; omega)]
    · rw [w64 (n := r.f1 - 1) (by omega) (by omega), hL, wi (by omega)]
      refine Ev.pos (by omega) (Ev.pos (by omega) (Ev.pos (by omega) (Ev.pos ?_ (Ev.pos ?_ (Ev.pos ?_ (Ev.pos ?_ (Ev.pos ?_ ?_)))))))
      · rw [z0, z1]; omega
      · rw [ByteArray.size_append, z0, z1]; omega
      · rw [ByteArray.size_append, ByteArray.size_append, z0, z1, z2]; omega
      · rw [ByteArray.size_append, ByteArray.size_append, ByteArray.size_append, z0, z1, z2]; omega
      · rw [ByteArray.size_append, ByteArray.size_append, ByteArray.size_append, ByteArray.size_append, z0, z1, z2, z3]; omega
      · have e : (((⟨(Lib.repeatL ([32, 32] : List UInt8) r.f2.toNat).toArray⟩ : ByteArray) ++ ⟨#[letter r.f1]⟩ ++ ⟨#[32]⟩ ++ r.f3) ++ ⟨#[10]⟩) = (⟨(line r).toArray⟩ : ByteArray) := by
          apply baext
          rw [by_app, by_app, by_app, by_app, by_mk, rep_spaces]; rfl
        rw [e]
        exact hR
  | succ m ih =>
    intro j hj
    refine Ev.step (fun k => by rw [impl_RowsMarkup.l1]) (Ev.pos (by omega) (Ev.pos (by omega) ?_))
    rw [drop_getD 0 (by_ r.f3) j (by rw [by_len]; omega), List.all_cons]
    have hb := bt_nat r.f3 j (by omega)
    rw [hb, wi (by omega)]
    generalize (by_ r.f3).getD j 0 = c
    by_cases c1 : c.toNat < 32
    · have hp : pc c = false := by unfold pc; rw [decide_eq_false (by omega : ¬ 32 ≤ c.toNat), Bool.false_and]
      rw [hp, Bool.false_and, if_neg (by simp)]
      exact Ev.pos (by omega) (Ev.now _)
    refine Ev.neg (by omega) ?_
    by_cases c2 : c.toNat > 126
    · have hp : pc c = false := by unfold pc; rw [decide_eq_false (by omega : ¬ c.toNat ≤ 126), Bool.and_false]
      rw [hp, Bool.false_and, if_neg (by simp)]
      exact Ev.pos (by omega) (Ev.now _)
    have hp : pc c = true := by unfold pc; rw [decide_eq_true (by omega : 32 ≤ c.toNat), decide_eq_true (by omega : c.toNat ≤ 126)]; rfl
    rw [hp, Bool.true_and]
    exact Ev.neg (by omega) (ih (j + 1) (by omega))
theorem impl_outer (x : List S42) (hx : fit x) : ∀ m i : Nat, i + m = x.length → Ev (fun k => impl_RowsMarkup.l0 k (mk (x.take i)) x (x.length : Int) i) (if (x.drop i).all (fun r => prn r.f3) = true then mk x else ⟨#[]⟩) := by
  intro m
  induction m with
  | zero =>
    intro i hi
    rw [List.drop_of_length_le (by omega), List.all_nil, if_pos rfl]
    refine Ev.step (fun k => by rw [impl_RowsMarkup.l0]) (Ev.neg (by omega) (Ev.eqr (Ev.now _) ?_))
    rw [List.take_of_length_le (by omega)]
  | succ m ih =>
    intro i hi
    have hg := fit_get hx (show i < x.length by omega)
    have h40 := hx.1
    refine Ev.step (fun k => by rw [impl_RowsMarkup.l0]) (Ev.pos (by omega) (Ev.pos (by omega) (Ev.pos (by omega) ?_)))
    rw [rdT]
    have hR := ih (i + 1) (by omega)
    rw [mk_snoc x i (by omega)] at hR
    have h := impl_inner x (x.getD i z42) hg.1 hg.2.1 hg.2.2.1 hg.2.2.2.1 hg.2.2.2.2 (mk (x.take i)) (fit_size hx i) (x.length : Int) i (by omega) _ hR _ 0 (Nat.zero_add _)
    refine Ev.eqr h ?_
    rw [drop_getD z42 x i (by omega), List.all_cons, List.drop_zero]
    show _ = if ((by_ (x.getD i z42).f3).all pc && _) = true then _ else _
    cases (by_ (x.getD i z42).f3).all pc <;> simp
theorem vr_fit {x : List S42} (h : vr [] x = true) (h40 : x.length ≤ 40) (hs : ∀ r ∈ x, r.f3.size ≤ 2000000) : fit x := by
  refine ⟨h40, fun r hr => ?_⟩
  have := vr_row x [] h r hr
  simp only [List.length_nil] at this
  exact ⟨this.1, this.2.1, this.2.2.1, by omega, hs r hr⟩
theorem impl_rows (x : List S42) (hn : x.length ≤ 2000000) (hs : ∀ r ∈ x, r.f3.size ≤ 2000000) : Ev (fun k => impl_RowsMarkup.f k x) (wr x) := by
  unfold impl_RowsMarkup.f
  by_cases h40 : (x.length : Int) > 40
  · have : good x = false := by unfold good; rw [decide_eq_false (by omega : ¬ x.length ≤ 40)]; simp
    unfold wr
    rw [if_neg (by rw [this]; simp)]
    exact Ev.pos h40 (Ev.step (fun k => by rw [impl_RowsMarkup.j0]) (Ev.pos rfl (Ev.now _)))
  refine Ev.neg h40 (Ev.bind (impl_validf x hn) ?_)
  by_cases hv : vr [] x = true
  · rw [hv]
    refine Ev.step (fun k => by rw [impl_RowsMarkup.j0]) (Ev.neg (by simp) ?_)
    refine Ev.eqr (impl_outer x (vr_fit hv (by omega) hs) x.length 0 (by omega)) ?_
    unfold wr good
    rw [hv, decide_eq_true (by omega : x.length ≤ 40), Bool.and_true, Bool.and_true, List.drop_zero]
  · have hv' : vr [] x = false := by simpa using hv
    rw [hv']
    have : good x = false := by unfold good; rw [hv']; simp
    unfold wr
    rw [if_neg (by rw [this]; simp)]
    exact Ev.step (fun k => by rw [impl_RowsMarkup.j0]) (Ev.pos (by simp) (Ev.now _))
theorem by_ext (a : ByteArray) (i j : Nat) : by_ (a.extract i j) = ((by_ a).take j).drop i := by
  simp only [by_, ByteArray.data_extract, Array.toList_extract, List.extract_eq_take_drop]
  rw [List.drop_take]
theorem hasp (a : ByteArray) : strings_HasPrefix.f a ⟨#[32, 32]⟩ = some (decide ((by_ a).take 2 = [32, 32])) := by
  unfold strings_HasPrefix.f stringslite_HasPrefix.f
  have z : (⟨#[32, 32]⟩ : ByteArray).size = 2 := rfl
  simp only [z]
  by_cases h : (a.size : Int) ≥ ((2 : Nat) : Int)
  · rw [if_pos h, if_pos (by omega), if_pos (by omega)]
    simp only [Option.bind_some, toList_by, by_ext, List.drop_zero]
    congr 1
    rw [show (((2 : Nat) : Int)).toNat = 2 from rfl, show by_ (⟨#[32, 32]⟩ : ByteArray) = [32, 32] from rfl]
    by_cases e : List.take 2 (by_ a) = [32, 32]
    · rw [e]; rfl
    · rw [decide_eq_false e]; exact beq_false_of_ne e
  · rw [if_neg h]
    simp only [Option.bind_some]
    congr 1
    have hl := by_len a
    rw [decide_eq_false]
    intro e
    have := congrArg List.length e
    rw [List.length_take] at this
    simp at this
    omega
theorem impl_strip (s more : ByteArray) (rows : List S42) (hrows : rows.length ≤ 1000) (kd : Int) (h1 : 1 ≤ kd) (h4 : kd ≤ 4) (t : ByteArray) (R : List S42 × Bool) (d0 : Nat) (hd : d0 ≤ 1000)
    (hR : Ev (fun k => impl_ParseMarkup.l0 k s (rows ++ [(⟨⟨0, 0⟩, kd, (d0 : Int), t⟩ : S42)]) more) R) : ∀ (m d : Nat) (cur : ByteArray), d + m = d0 → by_ cur = List.replicate (2 * m) 32 ++ letter kd :: 32 :: by_ t →
    Ev (fun k => impl_ParseMarkup.l1 k s rows more cur 0 0 0 d ⟨#[]⟩) R := by
  have hk : kd = 1 ∨ kd = 2 ∨ kd = 3 ∨ kd = 4 := by omega
  intro m
  induction m with
  | zero =>
    intro d cur hdm hc
    obtain rfl : d = d0 := by omega
    rw [show 2 * 0 = 0 from rfl, List.replicate_zero, List.nil_append] at hc
    have hsz : cur.size = (by_ t).length + 2 := by rw [← by_len, hc]; rfl
    have b0 : bt cur ((0 : Nat) : Int) = ((letter kd).toNat : Int) := by rw [bt_nat cur 0 (by omega), hc]; rfl
    have b1 : bt cur ((1 : Nat) : Int) = 32 := by rw [bt_nat cur 1 (by omega), hc]; rfl
    have hp : decide ((by_ cur).take 2 = [32, 32]) = false := by
      rw [hc]
      rcases hk with rfl | rfl | rfl | rfl <;> rfl
    refine Ev.step (fun k => by rw [impl_ParseMarkup.l1]) (Ev.bindv (hasp cur) ?_)
    rw [hp]
    refine Ev.neg (by simp) (Ev.neg (by omega) (Ev.pos (by omega) (Ev.pos b1 (Ev.pos (by omega) ?_))))
    have hi : strings_IndexByte.f (⟨#[112, 104, 108, 105]⟩ : ByteArray) (bt cur 0) = some (kd - 1) := by
      unfold strings_IndexByte.f
      rw [show bt cur 0 = bt cur ((0 : Nat) : Int) from rfl, b0]
      rcases hk with rfl | rfl | rfl | rfl <;> rfl
    refine Ev.bindv hi (Ev.pos (by omega) (Ev.pos (by omega) ?_))
    rw [show kd - 1 + 1 = kd by omega, w64 (n := kd) (by omega) (by omega)]
    have he : cur.extract 2 cur.size = t := by
      apply baext
      rw [by_ext, List.take_of_length_le (by rw [by_len]; omega), hc]; rfl
    rw [he]
    exact hR
  | succ m ih =>
    intro d cur hdm hc
    have hc' : by_ cur = 32 :: 32 :: (List.replicate (2 * m) 32 ++ letter kd :: 32 :: by_ t) := by
      rw [hc, show 2 * (m + 1) = 2 * m + 1 + 1 by omega, List.replicate_succ, List.replicate_succ]; rfl
    have hsz : 2 ≤ cur.size := by rw [← by_len, hc']; simp
    refine Ev.step (fun k => by rw [impl_ParseMarkup.l1]) (Ev.bindv (hasp cur) ?_)
    rw [hc']
    refine Ev.pos (by rfl) (Ev.pos (by omega) ?_)
    rw [wi (by omega)]
    refine ih (d + 1) _ (by omega) ?_
    rw [by_ext, List.take_of_length_le (by rw [by_len]; omega), hc']; rfl
theorem ib_app (a b : List UInt8) (c : UInt8) (h : c ∉ a) : Lib.indexByte (a ++ c :: b) c = (a.length : Int) := by
  induction a with
  | nil => simp [Lib.indexByte]
  | cons x a ih =>
    have hx : x ≠ c := fun e => h (by rw [e]; exact List.mem_cons_self ..)
    have := ih (fun hm => h (List.mem_cons_of_mem _ hm))
    show (if (x == c) = true then (0 : Int) else if (Lib.indexByte (a ++ c :: b) c == -1) = true then -1 else Lib.indexByte (a ++ c :: b) c + 1) = _
    rw [if_neg (by simpa using hx), this, if_neg (by simp <;> omega), List.length_cons]
    rfl
theorem cut_nl (s : ByteArray) (a b : List UInt8) (h : (10 : UInt8) ∉ a) (hs : by_ s = a ++ 10 :: b) (hz : s.size ≤ 1000000000) : strings_Cut.f s ⟨#[10]⟩ = some (⟨a.toArray⟩, ⟨b.toArray⟩, true) := by
  unfold strings_Cut.f stringslite_Cut.f stringslite_Index.f
  have z : (⟨#[10]⟩ : ByteArray).size = 1 := rfl
  have hl : s.size = a.length + (b.length + 1) := by rw [← by_len, hs, List.length_append, List.length_cons]
  rw [if_pos z, show ((⟨#[10]⟩ : ByteArray).data.toList.headD 0) = 10 from rfl, show s.data.toList = by_ s from rfl, hs, ib_app a b 10 h]
  simp only [Option.bind_some, z]
  rw [w64 (by omega) (by omega), if_pos (by omega), if_pos (by omega), if_pos (by omega), if_pos (by omega), if_pos (by omega)]
  simp only [Option.bind_some]
  congr 2
  · apply baext
    rw [by_ext, hs, by_mk, Int.toNat_natCast, List.take_left, List.drop_zero]
  · congr 1
    apply baext
    rw [by_ext, List.take_of_length_le (by rw [by_len]; omega), hs, by_mk, show ((a.length : Int) + ((1 : Nat) : Int)).toNat = a.length + 1 by omega]
    rw [← List.drop_drop, List.drop_left]; rfl
theorem pc_ne {c : UInt8} (h : pc c = true) : c ≠ 10 := by
  rintro rfl
  exact absurd h (by decide)
def body (r : S42) : List UInt8 := List.replicate (2 * r.f2.toNat) 32 ++ letter r.f1 :: 32 :: by_ r.f3
theorem line_body (r : S42) : line r = body r ++ [10] := by unfold line body; simp
theorem body_nl (r : S42) (h1 : 1 ≤ r.f1) (h4 : r.f1 ≤ 4) (hp : prn r.f3 = true) : (10 : UInt8) ∉ body r := by
  have hk : r.f1 = 1 ∨ r.f1 = 2 ∨ r.f1 = 3 ∨ r.f1 = 4 := by omega
  unfold body
  intro h
  rcases List.mem_append.1 h with h | h
  · have := List.eq_of_mem_replicate h
    exact absurd this (by decide)
  · rcases List.mem_cons.1 h with h | h
    · rcases hk with e | e | e | e <;> rw [e] at h <;> exact absurd h (by decide)
    · rcases List.mem_cons.1 h with h | h
      · exact absurd h (by decide)
      · exact pc_ne (List.all_eq_true.1 hp 10 h) rfl
theorem impl_parse_back (s : ByteArray) (x : List S42) (hx : fit x) (hp : x.all (fun r => prn r.f3) = true) (hz : ∀ r ∈ x, r.f0 = ⟨0, 0⟩) (R : List S42 × Bool)
    (hR : Ev (fun k => impl_ParseMarkup.l0 k s x ⟨#[]⟩) R) : ∀ m i : Nat, i + m = x.length → Ev (fun k => impl_ParseMarkup.l0 k s (x.take i) (mk (x.drop i))) R := by
  intro m
  induction m with
  | zero =>
    intro i hi
    rw [List.take_of_length_le (by omega), List.drop_of_length_le (by omega)]
    exact hR
  | succ m ih =>
    intro i hi
    have h40 := hx.1
    have hi' : i < x.length := by omega
    have hg := fit_get hx hi'
    have hget : x.getD i z42 = x[i] := by simp [List.getD, hi']
    have hm : x.getD i z42 ∈ x := by rw [hget]; exact List.getElem_mem _
    have hpr := List.all_eq_true.1 hp _ hm
    have hid := hz _ hm
    have hsn : x.take (i + 1) = x.take i ++ [x.getD i z42] := by rw [List.take_succ_eq_append_getElem hi', hget]
    have hR' := ih (i + 1) (by omega)
    rw [hsn] at hR'
    generalize hr : x.getD i z42 = r at *
    have hsb : by_ (mk (x.drop i)) = body r ++ 10 :: (x.drop (i + 1)).flatMap line := by
      rw [drop_getD z42 x i hi', hr]
      show List.flatMap line (r :: x.drop (i + 1)) = _
      rw [List.flatMap_cons, line_body]; simp
    have hne : by_ (mk (x.drop i)) ≠ [] := by rw [hsb]; simp
    have hsz : (mk (x.drop i)).size ≤ 1000000000 := by
      have := mk_size (x.drop i) 2002003 (fun r hr => by
        have := hx.2 r (List.mem_of_mem_drop hr)
        rw [line_len]; omega)
      have hl : (x.drop i).length ≤ 40 := by rw [List.length_drop]; omega
      have := Nat.mul_le_mul_right 2002003 hl
      omega
    refine Ev.step (fun k => by rw [impl_ParseMarkup.l0]) (Ev.neg (by rw [toList_by]; exact hne) ?_)
    refine Ev.bindv (cut_nl _ _ _ (body_nl r hg.1 hg.2.1 hpr) hsb hsz) (Ev.pos rfl ?_)
    have hlt : (x.take i).length ≤ 39 := by rw [List.length_take]; omega
    rw [decide_eq_false (by omega)]
    refine Ev.step (fun k => by rw [impl_ParseMarkup.j1]) (Ev.neg (by simp) ?_)
    refine impl_strip s _ (x.take i) (by omega) r.f1 hg.1 hg.2.1 r.f3 R r.f2.toNat (by omega) ?_ r.f2.toNat 0 _ (by omega) rfl
    have : (⟨⟨0, 0⟩, r.f1, ((r.f2.toNat : Nat) : Int), r.f3⟩ : S42) = r := by
      obtain ⟨a, b, c, d⟩ := r
      simp only at hid hg ⊢
      rw [hid, show ((c.toNat : Nat) : Int) = c by omega]
    rw [this]
    exact hR'
theorem impl_back (x : List S42) (hx : good x = true) (hz : ∀ r ∈ x, r.f0 = ⟨0, 0⟩ ∧ r.f3.size ≤ 2000000) : Ev (fun k => impl_ParseMarkup.f k (mk x)) (x, true) := by
  have hf := good_fit hx fun r h => (hz r h).2
  have h40 := hf.1
  have hp : x.all (fun r => prn r.f3) = true := by unfold good at hx; simp only [Bool.and_eq_true] at hx; exact hx.1
  have hw : wr x = mk x := if_pos hx
  unfold impl_ParseMarkup.f
  refine impl_parse_back (mk x) x hf hp (fun r h => (hz r h).1) (x, true) ?_ x.length 0 (by omega)
  refine Ev.step (fun k => by rw [impl_ParseMarkup.l0]) (Ev.pos ((toList_by _).trans rfl) (Ev.bind (impl_rows x (by omega) fun r h => (hz r h).2) (Ev.pos (congrArg ByteArray.toList hw) (Ev.now _))))
theorem wf_u8 {x : Int} (h : (Lit.int .u8 x).wf = true) : 0 ≤ x ∧ x ≤ 255 := by
  simp [Lit.wf, IntKind.min, IntKind.max, IntKind.signed, IntKind.bits] at h
  omega
theorem newReader_ev (l : List Int) (hl : ∀ x ∈ l, (Lit.int .u8 x).wf = true) : ∃ b, spec_newReader.f l = some (b, 0) ∧ RB b := by
  have hb : ∀ x ∈ l, 0 ≤ x ∧ x ≤ 255 := by
    intro x hx
    exact wf_u8 (hl x hx)
  unfold spec_newReader.f
  by_cases c : (l.length : Int) > 2000
  · exact ⟨l.take 2000, by rw [if_pos c, if_pos (by omega)], fun x hx => hb x (List.mem_of_mem_take hx), by rw [List.length_take]; omega⟩
  · exact ⟨l, by rw [if_neg c], hb, by omega⟩
def RR (x : List S42) : Prop := x.length ≤ 6 ∧ ∀ r ∈ x, r.f3.size ≤ 10
theorem RR_snoc {x : List S42} {r : S42} {n : Nat} (h : ∀ r ∈ x, r.f3.size ≤ 10) (hr : r.f3.size ≤ 10) : ∀ r' ∈ x ++ [r], r'.f3.size ≤ 10 := by
  intro r' h'
  rcases List.mem_append.1 h' with h1 | h1
  · exact h r' h1
  · rw [List.mem_singleton.1 h1]; exact hr
theorem RR_set {x : List S42} (h : RR x) (i : Nat) (r : S42) (hr : r.f3.size ≤ 10) : RR (x.set i r) := by
  refine ⟨by rw [List.length_set]; exact h.1, fun r' h' => ?_⟩
  rcases List.mem_or_eq_of_mem_set h' with h1 | rfl
  · exact h.2 r' h1
  · exact hr
theorem RR_get {x : List S42} (h : ∀ r ∈ x, r.f3.size ≤ 10) (i : Int) : (rd_T42 x i).f3.size ≤ 10 := by
  unfold rd_T42 List.getD
  cases e : x[i.toNat]? with
  | none => show (z42).f3.size ≤ 10; decide
  | some v => exact h v (List.mem_of_getElem? e)
theorem rows_draw {b : List Int} (hb : RB b) : ∀ (m : Nat) (x : List S42) (p : Int), x.length + m ≤ 6 → (∀ r ∈ x, r.f3.size ≤ 10) → 0 ≤ p → p ≤ 1000 + 100 * (10 - m) → ∃ R q, Ev (fun k => spec_randomRows.l0 k x m b p) (R, q) ∧ RR R ∧ 0 ≤ q ∧ q ≤ 10000 := by
  intro m
  induction m with
  | zero =>
    intro x p hx hs p0 p1
    by_cases h0 : x.length = 0
    · exact ⟨x, p, Ev.step (fun k => by rw [spec_randomRows.l0]) (Ev.neg (by omega) (Ev.neg (by omega) (Ev.now _))), ⟨by omega, hs⟩, p0, by omega⟩
    obtain ⟨v, e1, v0, v1, -⟩ := pick_ev hb (p := p) p0 (by omega) (x.length : Int) (by omega)
    have hv := v1 (by omega)
    obtain ⟨u, e2, -⟩ := pick_ev hb (p := p + 1) (by omega) (by omega) 12 (by omega)
    have hR : RR x := ⟨by omega, hs⟩
    by_cases c0 : u = 0
    · refine ⟨_, p + 1 + 1, Ev.step (fun k => by rw [spec_randomRows.l0]) (Ev.neg (by omega) (Ev.pos (by omega) (Ev.bind e1 (Ev.bind e2 (Ev.pos c0 (Ev.pos v0 (Ev.pos hv (Ev.now _)))))))), ?_, by omega, by omega⟩
      exact RR_set hR _ _ (RR_get hs _)
    by_cases c1 : u = 1
    · obtain ⟨w, e3, -⟩ := one_ev hb (p := p + 1 + 1) (by omega) (by omega) [0, 5, 4] (by simp) (by simp)
      refine ⟨_, p + 1 + 1 + 1, Ev.step (fun k => by rw [spec_randomRows.l0]) (Ev.neg (by omega) (Ev.pos (by omega) (Ev.bind e1 (Ev.bind e2 (Ev.neg c0 (Ev.pos c1 (Ev.bind e3 (Ev.pos v0 (Ev.pos hv (Ev.now _)))))))))), ?_, by omega, by omega⟩
      exact RR_set hR _ _ (RR_get hs _)
    by_cases c2 : u = 2
    · refine ⟨_, p + 1 + 1, Ev.step (fun k => by rw [spec_randomRows.l0]) (Ev.neg (by omega) (Ev.pos (by omega) (Ev.bind e1 (Ev.bind e2 (Ev.neg c0 (Ev.neg c1 (Ev.pos c2 (Ev.pos v0 (Ev.pos hv (Ev.now _)))))))))), ?_, by omega, by omega⟩
      exact RR_set hR _ _ (show (⟨#[97, 10]⟩ : ByteArray).size ≤ 10 by decide)
    · exact ⟨x, p + 1 + 1, Ev.step (fun k => by rw [spec_randomRows.l0]) (Ev.neg (by omega) (Ev.pos (by omega) (Ev.bind e1 (Ev.bind e2 (Ev.neg c0 (Ev.neg c1 (Ev.neg c2 (Ev.now _)))))))), hR, by omega, by omega⟩
  | succ m ih =>
    intro x p hx hs p0 p1
    obtain ⟨kd, e1, -⟩ := one_ev hb (p := p) p0 (by omega) [1, 2, 3, 3, 1] (by simp) (by simp)
    obtain ⟨t, e2, ht⟩ := of_ev hb (p := p + 1) (by omega) (by omega) [(⟨#[]⟩ : ByteArray), (⟨#[97]⟩ : ByteArray), (⟨#[112, 32, 120]⟩ : ByteArray), (⟨#[32, 32, 98]⟩ : ByteArray), (⟨#[104, 105]⟩ : ByteArray)] (by simp) (by simp)
    have ht' : t.size ≤ 10 := by
      simp only [List.mem_cons, List.not_mem_nil, or_false] at ht
      rcases ht with rfl | rfl | rfl | rfl | rfl <;> decide
    have wm : wrap64 (((m + 1 : Nat) : Int) - 1) = (m : Int) := by rw [w64 (by omega) (by omega)]; omega
    have next : ∀ (r : S42) (q : Int), r.f3.size ≤ 10 → 0 ≤ q → q ≤ p + 10 → ∃ R q', Ev (fun k => if x.length < 2932031007402 then (spec_randomRows.l0 k (x ++ [r]) (wrap64 (((m + 1 : Nat) : Int) - 1)) b q) else none) (R, q') ∧ RR R ∧ 0 ≤ q' ∧ q' ≤ 10000 := by
      intro r q hr q0 q1
      obtain ⟨R, q', e, h⟩ := ih (x ++ [r]) q (by rw [List.length_append, List.length_singleton]; omega) (RR_snoc (n := 0) hs hr) q0 (by omega)
      refine ⟨R, q', Ev.pos (by omega) ?_, h⟩
      rw [wm]; exact e
    by_cases h0 : x.length = 0
    · obtain ⟨R, q', e, h⟩ := next (⟨(⟨0, 0⟩ : S40), kd, 0, t⟩ : S42) (p + 1 + 1) ht' (by omega) (by omega)
      exact ⟨R, q', Ev.step (fun k => by rw [spec_randomRows.l0]) (Ev.pos (by omega) (Ev.bind e1 (Ev.bind e2 (Ev.neg (show ¬ (x.length : Int) > 0 by omega) e)))), h⟩
    have ew : wrap64 ((x.length : Int) - 1) = (x.length : Int) - 1 := w64 (by omega) (by omega)
    have body : ∀ a0 a1 kd dd : Int, ∀ g0 g1 g2 g3 : Int, ∀ gt : ByteArray, ∃ R q', Ev (fun k => spec_randomRows.j1 k x ((m + 1 : Nat) : Int) b (p + 1 + 1) a0 a1 kd dd t g0 g1 g2 g3 gt) (R, q') ∧ RR R ∧ 0 ≤ q' ∧ q' ≤ 10000 := by
      intro a0 a1 kd dd g0 g1 g2 g3 gt
      by_cases c4 : g2 = 4
      · obtain ⟨u, e3, -⟩ := pick_ev hb (p := p + 1 + 1) (by omega) (by omega) 2 (by omega)
        by_cases cu : u = 0
        · obtain ⟨kd', e4, -⟩ := one_ev hb (p := p + 1 + 1 + 1) (by omega) (by omega) [1, 3] (by simp) (by simp)
          obtain ⟨R, q', e, h⟩ := next (⟨(⟨a0, a1⟩ : S40), kd', wrap64 (g3 + 1), t⟩ : S42) (p + 1 + 1 + 1 + 1) ht' (by omega) (by omega)
          exact ⟨R, q', Ev.step (fun k => by rw [spec_randomRows.j1]) (Ev.pos c4 (Ev.bind e3 (Ev.pos cu (Ev.bind e4 e)))), h⟩
        · obtain ⟨R, q', e, h⟩ := next (⟨(⟨a0, a1⟩ : S40), kd, dd, t⟩ : S42) (p + 1 + 1 + 1) ht' (by omega) (by omega)
          exact ⟨R, q', Ev.step (fun k => by rw [spec_randomRows.j1]) (Ev.pos c4 (Ev.bind e3 (Ev.neg cu e))), h⟩
      · obtain ⟨R, q', e, h⟩ := next (⟨(⟨a0, a1⟩ : S40), kd, dd, t⟩ : S42) (p + 1 + 1) ht' (by omega) (by omega)
        exact ⟨R, q', Ev.step (fun k => by rw [spec_randomRows.j1]) (Ev.neg c4 e), h⟩
    by_cases c3 : (rd_T42 x (wrap64 ((x.length : Int) - 1))).f1 = 3
    · obtain ⟨R, q', e, h⟩ := body 0 0 4 (wrap64 (((rd_T42 x (wrap64 ((x.length : Int) - 1))).f2) + 1)) ((rd_T42 x (wrap64 ((x.length : Int) - 1))).f0.f0) ((rd_T42 x (wrap64 ((x.length : Int) - 1))).f0.f1) ((rd_T42 x (wrap64 ((x.length : Int) - 1))).f1) ((rd_T42 x (wrap64 ((x.length : Int) - 1))).f2) ((rd_T42 x (wrap64 ((x.length : Int) - 1))).f3)
      exact ⟨R, q', Ev.step (fun k => by rw [spec_randomRows.l0]) (Ev.pos (by omega) (Ev.bind e1 (Ev.bind e2 (Ev.pos (show (x.length : Int) > 0 by omega) (Ev.pos (show 0 ≤ wrap64 ((x.length : Int) - 1) by omega) (Ev.pos (show wrap64 ((x.length : Int) - 1) < (x.length : Int) by omega) (Ev.pos c3 e))))))), h⟩
    · obtain ⟨R, q', e, h⟩ := body 0 0 kd 0 ((rd_T42 x (wrap64 ((x.length : Int) - 1))).f0.f0) ((rd_T42 x (wrap64 ((x.length : Int) - 1))).f0.f1) ((rd_T42 x (wrap64 ((x.length : Int) - 1))).f1) ((rd_T42 x (wrap64 ((x.length : Int) - 1))).f2) ((rd_T42 x (wrap64 ((x.length : Int) - 1))).f3)
      exact ⟨R, q', Ev.step (fun k => by rw [spec_randomRows.l0]) (Ev.pos (by omega) (Ev.bind e1 (Ev.bind e2 (Ev.pos (show (x.length : Int) > 0 by omega) (Ev.pos (show 0 ≤ wrap64 ((x.length : Int) - 1) by omega) (Ev.pos (show wrap64 ((x.length : Int) - 1) < (x.length : Int) by omega) (Ev.neg c3 e))))))), h⟩
theorem randomRows_ev {b : List Int} (hb : RB b) : ∃ R q, Ev (fun k => spec_randomRows.f k b 0) (R, q) ∧ RR R ∧ 0 ≤ q ∧ q ≤ 10000 := by
  obtain ⟨v, e1, v0, v1, -⟩ := pick_ev hb (p := 0) (by omega) (by omega) 6 (by omega)
  have hv := v1 (by omega)
  obtain ⟨m, rfl⟩ := Int.eq_ofNat_of_zero_le v0
  obtain ⟨R, q, e, h⟩ := rows_draw hb m [] (0 + 1) (by simp; omega) (by simp) (by omega) (by omega)
  refine ⟨R, q, ?_, h⟩
  unfold spec_randomRows.f
  exact Ev.bind e1 e
theorem drawRows_ev (l : List Int) (hl : ∀ x ∈ l, (Lit.int .u8 x).wf = true) : ∃ R, Ev (fun k => spec_DrawRowsMarkup.f k l) R ∧ RR R := by
  obtain ⟨b, e, hb⟩ := newReader_ev l hl
  obtain ⟨R, q, e2, h, -⟩ := randomRows_ev hb
  refine ⟨R, ?_, h⟩
  unfold spec_DrawRowsMarkup.f
  exact Ev.bindv e (Ev.bind e2 (Ev.now _))
theorem wr_size {x : List S42} (h : RR x) : (wr x).size ≤ 600 := by
  unfold wr
  by_cases c : good x = true
  · rw [if_pos c]
    have hv : vr [] x = true := by unfold good at c; simp only [Bool.and_eq_true] at c; exact c.2.1
    have h1 := h.1
    have := mk_size x 100 fun r hr => by
      have h2 := h.2 r hr
      have h3 := vr_row x [] hv r hr
      simp only [List.length_nil] at h3
      rw [line_len]; omega
    have := Nat.mul_le_mul_right 100 h1
    omega
  · rw [if_neg c]; decide
theorem good_iff {x : List S42} : good x = true ↔ (x.all (fun r => prn r.f3) = true ∧ vr [] x = true ∧ x.length ≤ 40) := by
  unfold good; simp only [Bool.and_eq_true, decide_eq_true_eq]
def zid (r : S42) : S42 := ⟨⟨0, 0⟩, r.f1, r.f2, r.f3⟩
theorem vr_zid : ∀ (x : List S42) (ch : List Int), vr ch (x.map zid) = vr ch x := by
  intro x
  induction x with
  | nil => intro ch; rfl
  | cons r x ih =>
    intro ch
    rw [List.map_cons]
    unfold vr
    simp only [zid, ih]
    rfl
theorem all_zid (x : List S42) : (x.map zid).all (fun r => prn r.f3) = x.all (fun r => prn r.f3) := by
  induction x with
  | nil => rfl
  | cons r x ih => rw [List.map_cons, List.all_cons, List.all_cons, ih]; rfl
theorem good_zid (x : List S42) : good (x.map zid) = good x := by
  unfold good; rw [all_zid, vr_zid, List.length_map]
theorem mk_zid (x : List S42) : mk (x.map zid) = mk x := by
  apply baext
  show List.flatMap line (x.map zid) = List.flatMap line x
  induction x with
  | nil => rfl
  | cons r x ih => rw [List.map_cons, List.flatMap_cons, List.flatMap_cons, ih]; rfl
theorem same_ev (x y : List S42) (hn : x.length ≤ 2000000) (h : x = y.map zid) : Ev (fun n => laws_sameContent.f n x y) true := by
  have hl : x.length = y.length := by rw [h, List.length_map]
  have hg : ∀ i : Nat, i < x.length → x.getD i z42 = zid (y.getD i z42) := by
    intro i hi
    rw [h]; simp [List.getD, show i < y.length by omega]
  have go : ∀ m i : Nat, i + m = x.length → Ev (fun n => laws_sameContent.l0 n x y i) true := by
    intro m
    induction m with
    | zero =>
      intro i hi
      exact Ev.step (fun k => by rw [laws_sameContent.l0]) (Ev.neg (by omega) (Ev.now _))
    | succ m ih =>
      intro i hi
      refine Ev.step (fun k => by rw [laws_sameContent.l0]) (Ev.pos (by omega) (Ev.pos (by omega) (Ev.pos (by omega) ?_)))
      simp only [rdT, hg i (by omega)]
      refine Ev.pos rfl (Ev.pos rfl (Ev.pos rfl ?_))
      rw [wi (by omega)]
      exact ih (i + 1) (by omega)
  unfold laws_sameContent.f
  exact Ev.pos (by omega) (go x.length 0 (by omega))
theorem count_line (r : S42) (h1 : 1 ≤ r.f1) (h4 : r.f1 ≤ 4) (hp : prn r.f3 = true) : (line r).count 10 = 1 := by
  rw [line_body, List.count_append, List.count_eq_zero_of_not_mem (body_nl r h1 h4 hp)]
  rfl
theorem count_mk (x : List S42) (h : ∀ r ∈ x, 1 ≤ r.f1 ∧ r.f1 ≤ 4 ∧ prn r.f3 = true) : (by_ (mk x)).count 10 = x.length := by
  show (List.flatMap line x).count 10 = _
  induction x with
  | nil => rfl
  | cons r x ih =>
    have hr := h r (List.mem_cons_self ..)
    rw [List.flatMap_cons, List.count_append, ih fun r' h' => h r' (List.mem_cons_of_mem _ h'), count_line r hr.1 hr.2.1 hr.2.2, List.length_cons]
    omega
theorem lines_loop (x y : List S42) (s : ByteArray) (hs : s.size ≤ 1000000000) (R : Bool) (hR : ∀ n : Int, n = (((by_ s).count 10 : Nat) : Int) → Ev (fun k => (laws_sameContent.f k y x).bind fun t341 => (if t341 = true then (some (n == (x.length : Int))) else (some false))) R) :
    ∀ m i c : Nat, i + m = s.size → c + ((by_ s).drop i).count 10 = (by_ s).count 10 → c ≤ i → Ev (fun k => laws_FnRowsMarkup.l0 k x s y true c i) R := by
  intro m
  induction m with
  | zero =>
    intro i c hi hc hci
    rw [List.drop_of_length_le (by rw [by_len]; omega), List.count_nil] at hc
    exact Ev.step (fun k => by rw [laws_FnRowsMarkup.l0]) (Ev.neg (by omega) (Ev.pos rfl (hR _ (by omega))))
  | succ m ih =>
    intro i c hi hc hci
    rw [drop_getD 0 (by_ s) i (by rw [by_len]; omega), List.count_cons] at hc
    refine Ev.step (fun k => by rw [laws_FnRowsMarkup.l0]) (Ev.pos (by omega) (Ev.pos (by omega) ?_))
    rw [bt_nat s i (by omega), wi (by omega), wi (by omega)]
    generalize (by_ s).getD i 0 = b at hc
    by_cases hb : b = 10
    · subst hb
      rw [show ((10 : UInt8) == 10) = true by rfl, if_pos rfl] at hc
      exact Ev.pos rfl (ih (i + 1) (c + 1) (by omega) (by omega) (by omega))
    · rw [show (b == (10 : UInt8)) = false by simpa using hb, if_neg (by simp)] at hc
      refine Ev.neg (fun h => hb ?_) (ih (i + 1) c (by omega) (by omega) (by omega))
      exact UInt8.toNat_inj.1 (by have : b.toNat = 10 := by omega
                                  rw [this]; rfl)
theorem pure_RowsMarkup : laws_FnRowsMarkup.Pure := by
  intro l _ _ hl
  refine Ev.rounds ?_
  unfold laws_FnRowsMarkup.f
  by_cases c0 : (l.length : Int) > 1048576
  · exact Ev.pos c0 (Ev.now _)
  obtain ⟨x, e, hx⟩ := drawRows_ev l hl
  have hn : x.length ≤ 2000000 := by have := hx.1; omega
  have hs : ∀ r ∈ x, r.f3.size ≤ 2000000 := fun r hr => by have := hx.2 r hr; omega
  have e1 := impl_rows x hn hs
  have e2 := spec_rows x hn hs
  refine Ev.neg c0 (Ev.bind e (Ev.bind e1 (Ev.bind e2 (Ev.pos rfl ?_))))
  by_cases hw : (wr x).toList = []
  · rw [hw]
    refine Ev.step (fun k => by rw [laws_FnRowsMarkup.j0]) ?_
    exact Ev.pos rfl (Ev.bind e2 (Ev.eqr (Ev.now _) (by rw [hw]; rfl)))
  have hg : good x = true := by
    by_cases h : good x = true
    · exact h
    · refine absurd ?_ hw
      unfold wr; rw [if_neg h, toList_by]
  have hwr : wr x = mk x := if_pos hg
  have hsz := wr_size hx
  rw [hwr] at hw hsz ⊢
  have hb := impl_back (x.map zid) (by rw [good_zid]; exact hg) (fun r hr => by
    obtain ⟨r', h', rfl⟩ := List.mem_map.1 hr
    exact ⟨rfl, hs r' h'⟩)
  rw [mk_zid] at hb
  have h40 := (good_iff.1 hg).2.2
  rw [show ((mk x).toList == []) = false by simpa using hw]
  refine Ev.step (fun k => by rw [laws_FnRowsMarkup.j0]) (Ev.neg (by simp) (Ev.bind hb ?_))
  refine lines_loop x (x.map zid) (mk x) (by omega) true (fun n hn => ?_) (mk x).size 0 0 (by omega) (by rw [List.drop_zero]; omega) (Nat.le_refl _)
  refine Ev.bind (same_ev _ _ (by rw [List.length_map]; omega) rfl) (Ev.pos rfl (Ev.eqr (Ev.now _) ?_))
  rw [hn, count_mk x fun r hr => ?_]
  · simp
  · have hgi := good_iff.1 hg
    have := vr_row x [] hgi.2.1 r hr
    exact ⟨this.1, this.2.1, List.all_eq_true.1 hgi.1 r hr⟩
end Go.Proofs.Ytoenoaipjcmdnaa.Q
