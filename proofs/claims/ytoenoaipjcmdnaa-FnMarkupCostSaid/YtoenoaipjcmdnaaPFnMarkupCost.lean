import Derived.Laws.BitsLemmas
import Derived.Lib.IndexLaws
import Derived.Test.YtoenoaipjcmdnaaWB
import Derived.Test.YtoenoaipjcmdnaaQ0
import Derived.Test.YtoenoaipjcmdnaaQ10
import Derived.Test.YtoenoaipjcmdnaaQ11
import Derived.Test.YtoenoaipjcmdnaaQ15
import Derived.Test.YtoenoaipjcmdnaaQ16
import Derived.Test.YtoenoaipjcmdnaaQ17
import Derived.Test.YtoenoaipjcmdnaaQ22
import Derived.Test.YtoenoaipjcmdnaaQ23
import Derived.Test.YtoenoaipjcmdnaaQ31
import Derived.Test.YtoenoaipjcmdnaaQ32
import Derived.Test.YtoenoaipjcmdnaaQ37
import Derived.Test.YtoenoaipjcmdnaaQ38
import Derived.Test.YtoenoaipjcmdnaaQ39
import Derived.Test.YtoenoaipjcmdnaaQ40
import Derived.Test.YtoenoaipjcmdnaaQ47
import Derived.Test.YtoenoaipjcmdnaaQ48
import Derived.Test.YtoenoaipjcmdnaaQ49
import Derived.Test.YtoenoaipjcmdnaaQ50
import Derived.Test.YtoenoaipjcmdnaaQ51
import Derived.Test.YtoenoaipjcmdnaaQ52
import Derived.Test.YtoenoaipjcmdnaaQ54
import Derived.Test.YtoenoaipjcmdnaaQ55
import Derived.Test.YtoenoaipjcmdnaaQ56
import Derived.Test.YtoenoaipjcmdnaaQ57
import Derived.Test.YtoenoaipjcmdnaaQ58
import Derived.Test.YtoenoaipjcmdnaaQ6
import Derived.Test.YtoenoaipjcmdnaaQ66
import Derived.Test.YtoenoaipjcmdnaaQ67
import Derived.Test.YtoenoaipjcmdnaaQ7
import Derived.Test.YtoenoaipjcmdnaaQ71
import Derived.Test.YtoenoaipjcmdnaaQ72
import Derived.Test.YtoenoaipjcmdnaaQ8
import Derived.Test.YtoenoaipjcmdnaaQ9
set_option linter.unusedVariables false
set_option linter.unusedSimpArgs false
set_option linter.unusedSectionVars false
namespace Go.Proofs.Ytoenoaipjcmdnaa.Q
open Go.RowKit Go.Proofs.YtoenoaipjcmdnaaW.PrintWords Go.Proofs.YtoenoaipjcmdnaaW.PrintLast Go.Proofs.YtoenoaipjcmdnaaW.PrintMore
theorem Ev.pos {α : Type} {c : Prop} [Decidable c] {A B : Nat → Option α} {r : α} (h : c) (e : Ev A r) : Ev (fun k => if c then A k else B k) r := by
  obtain ⟨K, e⟩ := e
  exact ⟨K, fun k hk => by simp only [if_pos h]; exact e k hk⟩
theorem Ev.neg {α : Type} {c : Prop} [Decidable c] {A B : Nat → Option α} {r : α} (h : ¬ c) (e : Ev B r) : Ev (fun k => if c then A k else B k) r := by
  obtain ⟨K, e⟩ := e
  exact ⟨K, fun k hk => by simp only [if_neg h]; exact e k hk⟩
theorem Ev.bindv {α β : Type} {g : Option α} {f : Nat → α → Option β} {a : α} {r : β} (h : g = some a) (k : Ev (fun n => f n a) r) : Ev (fun n => g.bind (f n)) r := by
  subst h; exact k
theorem w64 {n : Int} (h0 : -9223372036854775808 ≤ n) (h1 : n ≤ 9223372036854775807) : wrap64 n = n := by unfold wrap64; omega
theorem Ev.eqr {α : Type} {A : Nat → Option α} {r r' : α} (h : Ev A r') (e : r' = r) : Ev A r := e ▸ h
abbrev by_ (a : ByteArray) : List UInt8 := a.data.toList
theorem by_len (a : ByteArray) : (by_ a).length = a.size := data_length a
theorem bt_get (a : ByteArray) (i : Nat) (h : i < a.size) : bt a (i : Int) = (((by_ a)[i]'(by rw [by_len]; exact h)).toNat : Int) := by
  unfold bt
  rw [dif_pos (by simpa using h)]
  rfl
theorem rd_nat (xs : List Int) (i : Nat) : rd xs (i : Int) = xs.getD i 0 := by unfold rd; rw [Int.toNat_natCast]
theorem xor_nonneg (x y : Int) (hx : 0 ≤ x) (hx' : x < 4611686018427387904) (hy : 0 ≤ y) (hy' : y < 4611686018427387904) : 0 ≤ Go.bits .xor .i64 x y := by
  obtain ⟨a, rfl⟩ := Int.eq_ofNat_of_zero_le hx
  obtain ⟨b, rfl⟩ := Int.eq_ofNat_of_zero_le hy
  have ha : a < 2 ^ 62 := by omega
  have hb : b < 2 ^ 62 := by omega
  have hc := Nat.xor_lt_two_pow ha hb
  have ha' : a % 2 ^ IntKind.i64.bits = a := Nat.mod_eq_of_lt (show a < 2 ^ 64 by omega)
  have hb' : b % 2 ^ IntKind.i64.bits = b := Nat.mod_eq_of_lt (show b < 2 ^ 64 by omega)
  simp only [Go.bits, BitVec.ofInt_natCast, BitVec.toNat_xor, BitVec.toNat_ofNat, ha', hb']
  rw [IntKind.wrap_i64]
  omega

def RB (b : List Int) : Prop := (∀ x ∈ b, 0 ≤ x ∧ x ≤ 255) ∧ b.length ≤ 2000
theorem rd_byte {b : List Int} (h : RB b) (i : Int) : 0 ≤ rd b i ∧ rd b i ≤ 255 := by
  unfold rd List.getD
  cases e : b[i.toNat]? with
  | none => simp
  | some v => exact h.1 v (List.mem_of_getElem? e)
theorem pick_ev {b : List Int} (hb : RB b) {p : Int} (hp : 0 ≤ p) (hp' : p ≤ 1000000000) (n : Int) (hn : n ≤ 1000000000) :
    ∃ v, Ev (fun k => spec_reader_pick.f k b p n) (v, p + 1) ∧ 0 ≤ v ∧ (1 ≤ n → v < n) ∧ (n < 1 → v = 0) := by
  unfold spec_reader_pick.f
  have e1 : wrap64 (p + 1) = p + 1 := w64 (by omega) (by omega)
  have e2 : wrap64 (p + 1 - 1) = p := by rw [w64 (by omega) (by omega)]; omega
  have hl := hb.2
  by_cases h1 : n < 1
  · refine ⟨0, Ev.pos h1 (Ev.step (fun k => by rw [spec_reader_pick.j0]) ?_), by omega, by omega, fun _ => rfl⟩
    rw [e1]
    exact Ev.pos rfl (Ev.now _)
  by_cases h2 : b.length = 0
  · refine ⟨0, Ev.neg h1 (Ev.step (fun k => by rw [spec_reader_pick.j0]) ?_), by omega, by omega, fun _ => rfl⟩
    rw [e1]
    exact Ev.pos (by simp [h2]) (Ev.now _)
  have hne : ((b.length : Int) == 0) = false := by simp; intro h; exact h2 (by rw [h]; rfl)
  by_cases h3 : p < (b.length : Int)
  · have hr := rd_byte hb p
    refine ⟨Int.tmod (rd b p) n, Ev.neg h1 (Ev.step (fun k => by rw [spec_reader_pick.j0]) ?_), Int.tmod_nonneg _ hr.1, fun h => Int.tmod_lt_of_pos _ (by omega), by omega⟩
    rw [e1, e2, hne]
    refine Ev.neg (by simp) (Ev.pos h3 (Ev.pos hp (Ev.neg (by omega) ?_)))
    rw [w64 (by omega) (by omega)]
    exact Ev.now _
  · have hlen : (0 : Int) < (b.length : Int) := by omega
    have f1 : wrap64 (p * 7) = p * 7 := w64 (by omega) (by omega)
    have f2 : wrap64 (p * 7 + 3) = p * 7 + 3 := w64 (by omega) (by omega)
    have m1 := Int.tmod_nonneg (b.length : Int) hp
    have m2 := Int.tmod_lt_of_pos p hlen
    have m3 := Int.tmod_nonneg (b.length : Int) (show (0 : Int) ≤ p * 7 + 3 by omega)
    have m4 := Int.tmod_lt_of_pos (p * 7 + 3) hlen
    have r1 := rd_byte hb (Int.tmod p (b.length : Int))
    have r2 := rd_byte hb (Int.tmod (p * 7 + 3) (b.length : Int))
    have q0 : 0 ≤ Int.tdiv p (b.length : Int) := Int.tdiv_nonneg hp (by omega)
    have q1 : Int.tdiv p (b.length : Int) ≤ p := by
      rw [Int.tdiv_eq_ediv_of_nonneg hp]; exact Int.ediv_le_self _ hp
    have go : ∀ k, ∃ v, spec_reader_pick.j0 (k + 1) n false b (p + 1) = spec_reader_pick.j0 1 n false b (p + 1) ∧ spec_reader_pick.j0 1 n false b (p + 1) = some (v, p + 1) ∧ 0 ≤ v ∧ (1 ≤ n → v < n) ∧ (n < 1 → v = 0) := by
      intro k
      simp only [spec_reader_pick.j0, e2, f1, f2, Bool.false_eq_true, if_false, if_neg h3, if_neg (show ¬ (b.length : Int) = 0 by omega), if_pos m1, if_pos m2, if_pos m3, if_pos m4, if_neg (show ¬ n = 0 by omega)]
      generalize rd b (Int.tmod p (b.length : Int)) = x at *
      generalize rd b (Int.tmod (p * 7 + 3) (b.length : Int)) = y at *
      generalize Int.tdiv p (b.length : Int) = z at *
      rw [w64 (n := x) (by omega) (by omega), w64 (n := y) (by omega) (by omega), w64 (n := z) (by omega) (by omega), w64 (n := x * 131) (by omega) (by omega), w64 (n := y * 1117) (by omega) (by omega),
        w64 (n := p * 29) (by omega) (by omega), w64 (n := z * 53) (by omega) (by omega), w64 (n := x * 131 + y * 1117) (by omega) (by omega), w64 (n := x * 131 + y * 1117 + p * 29) (by omega) (by omega),
        w64 (n := x * 131 + y * 1117 + p * 29 + z * 53) (by omega) (by omega)]
      have hs0 : 0 ≤ x * 131 + y * 1117 + p * 29 + z * 53 := by omega
      have hs1 : x * 131 + y * 1117 + p * 29 + z * 53 < 1000000000000 := by omega
      generalize x * 131 + y * 1117 + p * 29 + z * 53 = s at *
      have hd0 : 0 ≤ Int.tdiv s 64 := Int.tdiv_nonneg hs0 (by omega)
      have hd1 : Int.tdiv s 64 ≤ s := by rw [Int.tdiv_eq_ediv_of_nonneg hs0]; exact Int.ediv_le_self _ hs0
      rw [w64 (n := Int.tdiv s 64) (by omega) (by omega)]
      have hx := xor_nonneg s (Int.tdiv s 64) hs0 (by omega) hd0 (by omega)
      exact ⟨_, trivial, rfl, Int.tmod_nonneg _ hx, fun h => Int.tmod_lt_of_pos _ (by omega), by omega⟩
    obtain ⟨v, -, hv, hr⟩ := go 0
    refine ⟨v, Ev.neg h1 ?_, hr⟩
    rw [e1, hne]
    refine Ev.step (f := fun _ => some (v, p + 1)) (fun k => ?_) (Ev.now _)
    obtain ⟨v', h1, h2, -⟩ := go k
    rw [h1, hv]
theorem of_ev {b : List Int} (hb : RB b) {p : Int} (hp : 0 ≤ p) (hp' : p ≤ 1000000000) (l : List ByteArray) (h0 : 1 ≤ l.length) (h1 : l.length ≤ 1000) :
    ∃ s, Ev (fun k => spec_reader_of.f k b p l) (s, p + 1) ∧ s ∈ l := by
  obtain ⟨v, e, v0, v1, -⟩ := pick_ev hb hp hp' (l.length : Int) (by omega)
  have hv := v1 (by omega)
  have hv' : v.toNat < l.length := by omega
  refine ⟨rdOf ByteArray.empty l v, ?_, ?_⟩
  · unfold spec_reader_of.f
    exact Ev.bind e (Ev.pos v0 (Ev.pos hv (Ev.now _)))
  · unfold rdOf List.getD
    rw [List.getElem?_eq_getElem hv']
    exact List.getElem_mem hv'
theorem one_ev {b : List Int} (hb : RB b) {p : Int} (hp : 0 ≤ p) (hp' : p ≤ 1000000000) (l : List Int) (h0 : 1 ≤ l.length) (h1 : l.length ≤ 1000) :
    ∃ s, Ev (fun k => spec_reader_one.f k b p l) (s, p + 1) ∧ s ∈ l := by
  obtain ⟨v, e, v0, v1, -⟩ := pick_ev hb hp hp' (l.length : Int) (by omega)
  have hv := v1 (by omega)
  have hv' : v.toNat < l.length := by omega
  refine ⟨rd l v, ?_, ?_⟩
  · unfold spec_reader_one.f
    exact Ev.bind e (Ev.pos v0 (Ev.pos hv (Ev.now _)))
  · unfold rd List.getD
    rw [List.getElem?_eq_getElem hv']
    exact List.getElem_mem hv'
def sch (p k : Int) : Bool := if p = 0 then (if k = 1 then true else if k = 2 then true else k == 3) else if p = 3 then k == 4 else if p = 4 then (if k = 1 then true else k == 3) else false
theorem spec_sch (p k : Int) : spec_schemaAllows.f p k = some (sch p k) := by
  unfold spec_schemaAllows.f sch
  repeat' split
  all_goals rfl
theorem impl_sch (p k : Int) : impl_SchemaAllows.f p k = some (sch p k) := spec_sch p k
theorem sch_kind {p k : Int} (h : sch p k = true) : 1 ≤ k ∧ k ≤ 4 := by
  unfold sch at h
  repeat' split at h
  all_goals (try (simp only [beq_iff_eq] at h)); (try omega); (try (simp at h))
def vr : List Int → List S42 → Bool
  | _, [] => true
  | ch, r :: rs => if r.f2 < 0 then false else if r.f2 > (ch.length : Int) then false else if sch (if r.f2 > 0 then ch.getD (r.f2.toNat - 1) 0 else 0) r.f1 = true then vr (ch.take r.f2.toNat ++ [r.f1]) rs else false
theorem rdT (x : List S42) (i : Nat) : rd_T42 x (i : Int) = x.getD i z42 := by unfold rd_T42; rw [Int.toNat_natCast]
theorem drop_getD {α : Type} (d : α) (x : List α) (i : Nat) (h : i < x.length) : x.drop i = x.getD i d :: x.drop (i + 1) := by
  rw [List.drop_eq_getElem_cons h]
  simp [List.getD, h]
theorem wi {i : Nat} (h : i ≤ 100000000000) : wrap64 ((i : Int) + 1) = ((i + 1 : Nat) : Int) := by rw [w64 (by omega) (by omega)]; rfl
theorem spec_valid (x : List S42) (hn : x.length ≤ 2000000) : ∀ (m i : Nat) (ch : List Int), i + m = x.length → ch.length ≤ i → Ev (fun k => spec_ValidRows.l0 k x ch i) (vr ch (x.drop i)) := by
  intro m
  induction m with
  | zero =>
    intro i ch hi hc
    refine Ev.step (fun k => by rw [spec_ValidRows.l0]) (Ev.neg (by omega) (Ev.eqr (Ev.now _) ?_))
    rw [List.drop_of_length_le (by omega)]; rfl
  | succ m ih =>
    intro i ch hi hc
    rw [drop_getD z42 x i (by omega)]
    refine Ev.step (fun k => by rw [spec_ValidRows.l0]) (Ev.pos (by omega) (Ev.pos (by omega) ?_))
    simp only [rdT]
    generalize x.getD i z42 = r
    unfold vr
    by_cases h0 : r.f2 < 0
    · rw [if_pos h0]
      exact Ev.pos h0 (Ev.step (fun k => by rw [spec_ValidRows.j1]) (Ev.pos rfl (Ev.now _)))
    rw [if_neg h0]
    refine Ev.neg h0 ?_
    by_cases h1 : r.f2 > (ch.length : Int)
    · rw [if_pos h1, decide_eq_true h1]
      exact Ev.step (fun k => by rw [spec_ValidRows.j1]) (Ev.pos rfl (Ev.now _))
    rw [if_neg h1, decide_eq_false h1]
    refine Ev.step (fun k => by rw [spec_ValidRows.j1]) (Ev.neg (by simp) ?_)
    simp only [Option.bind_some, List.nil_append, wi (show i ≤ 100000000000 by omega)]
    have hl : (ch.take r.f2.toNat).length ≤ i := by rw [List.length_take]; omega
    have tail : sch (if r.f2 > 0 then ch.getD (r.f2.toNat - 1) 0 else 0) r.f1 = true → Ev (fun k => spec_ValidRows.l0 k x (ch.take r.f2.toNat ++ [r.f1]) ((i + 1 : Nat) : Int)) (vr (ch.take r.f2.toNat ++ [r.f1]) (x.drop (i + 1))) := fun _ =>
      ih (i + 1) _ (by omega) (by rw [List.length_append, List.length_take, List.length_singleton]; omega)
    by_cases h2 : r.f2 > 0
    · rw [if_pos h2] at tail ⊢
      have ew : wrap64 (r.f2 - 1) = ((r.f2.toNat - 1 : Nat) : Int) := by rw [w64 (by omega) (by omega)]; omega
      refine Ev.pos h2 ?_
      rw [ew]
      refine Ev.pos (by omega) (Ev.pos (by omega) (Ev.bindv (spec_sch _ _) ?_))
      rw [rd_nat]
      by_cases h3 : sch (ch.getD (r.f2.toNat - 1) 0) r.f1 = true
      · rw [if_pos h3]
        refine Ev.pos h3 (Ev.pos (by omega) (Ev.pos (by omega) (Ev.pos ?_ (Ev.pos ?_ (tail h3)))))
        · simp only [List.length_nil]; omega
        · simp only [List.length_singleton]; omega
      · rw [if_neg h3]
        exact Ev.neg h3 (Ev.now _)
    · rw [if_neg h2] at tail ⊢
      refine Ev.neg h2 (Ev.bindv (spec_sch _ _) ?_)
      by_cases h3 : sch 0 r.f1 = true
      · rw [if_pos h3]
        refine Ev.pos h3 (Ev.pos (by omega) (Ev.pos (by omega) (Ev.pos ?_ (Ev.pos ?_ (tail h3)))))
        · simp only [List.length_nil]; omega
        · simp only [List.length_singleton]; omega
      · rw [if_neg h3]
        exact Ev.neg h3 (Ev.now _)
theorem spec_validf (x : List S42) (hn : x.length ≤ 2000000) : Ev (fun k => spec_ValidRows.f k x) (vr [] x) := by
  unfold spec_ValidRows.f
  exact spec_valid x hn x.length 0 [] (by omega) (by simp)

def lastK (x : List S42) (d : Int) : Nat → Int
  | 0 => -1
  | i + 1 => if (x.getD i z42).f2 = d then (x.getD i z42).f1 else lastK x d i
theorem impl_parent (x : List S42) (hn : x.length ≤ 2000000) (d : Int) (h0 : 0 ≤ d) (h1 : d ≤ 100000000) (hd : d ≠ 0) : ∀ i : Nat, i ≤ x.length → Ev (fun k => impl_parentKind.l0 k x d ((i : Int) - 1)) (lastK x (d - 1) i) := by
  intro i
  induction i with
  | zero =>
    intro _
    show Ev (fun k => impl_parentKind.l0 k x d (((0 : Nat) : Int) - 1)) (-1)
    exact Ev.step (fun k => by rw [impl_parentKind.l0]) (Ev.neg (by omega) (Ev.now _))
  | succ i ih =>
    intro hi
    have e : ((i + 1 : Nat) : Int) - 1 = (i : Int) := by omega
    rw [e]
    refine Ev.step (fun k => by rw [impl_parentKind.l0]) (Ev.pos (by omega) (Ev.pos (by omega) (Ev.pos (by omega) ?_)))
    rw [rdT, w64 (n := d - 1) (by omega) (by omega), w64 (n := (i : Int) - 1) (by omega) (by omega)]
    unfold lastK
    by_cases h : (x.getD i z42).f2 = d - 1
    · rw [if_pos h]; exact Ev.pos h (Ev.now _)
    · rw [if_neg h]; exact Ev.neg h (ih (by omega))
theorem lastK_take (x : List S42) (d : Int) (j : Nat) : ∀ i, i ≤ j → j ≤ x.length → lastK (x.take j) d i = lastK x d i := by
  intro i
  induction i with
  | zero => intros; rfl
  | succ i ih =>
    intro h1 h2
    unfold lastK
    have e : (x.take j).getD i z42 = x.getD i z42 := by
      simp only [List.getD, List.getElem?_take, if_pos (show i < j by omega)]
    rw [e, ih (by omega) h2]
theorem impl_valid (x : List S42) (hn : x.length ≤ 2000000) : ∀ (m i : Nat) (ch : List Int), i + m = x.length → ch.length ≤ i → (∀ d : Nat, d < ch.length → lastK x d i = ch.getD d 0) →
    Ev (fun k => impl_ValidRows.l0 k x ((ch.length : Int) - 1) x (x.length : Int) i) (vr ch (x.drop i)) := by
  intro m
  induction m with
  | zero =>
    intro i ch hi hc _
    refine Ev.step (fun k => by rw [impl_ValidRows.l0]) (Ev.neg (by omega) (Ev.eqr (Ev.now _) ?_))
    rw [List.drop_of_length_le (by omega)]; rfl
  | succ m ih =>
    intro i ch hi hc hk
    rw [drop_getD z42 x i (by omega)]
    refine Ev.step (fun k => by rw [impl_ValidRows.l0]) (Ev.pos (by omega) (Ev.pos (by omega) (Ev.pos (by omega) ?_)))
    simp only [rdT]
    have ih' := ih (i + 1)
    generalize hr : x.getD i z42 = r
    unfold vr
    by_cases h0 : r.f2 < 0
    · rw [if_pos h0]
      exact Ev.pos h0 (Ev.now _)
    rw [if_neg h0]
    refine Ev.neg h0 ?_
    rw [w64 (n := (ch.length : Int) - 1 + 1) (by omega) (by omega)]
    by_cases h1 : r.f2 > (ch.length : Int)
    · rw [if_pos h1]
      exact Ev.pos (by omega) (Ev.now _)
    rw [if_neg h1]
    refine Ev.neg (by omega) (Ev.pos (by omega) ?_)
    rw [Int.toNat_natCast, wi (by omega)]
    have hpar : Ev (fun k => impl_parentKind.f k (x.take i) r.f2) (if r.f2 > 0 then ch.getD (r.f2.toNat - 1) 0 else 0) := by
      unfold impl_parentKind.f
      by_cases h2 : r.f2 = 0
      · rw [if_neg (by omega)]; exact Ev.pos h2 (Ev.now _)
      · rw [if_pos (by omega)]
        refine Ev.neg h2 ?_
        have hl : (x.take i).length = i := by rw [List.length_take]; omega
        rw [hl, w64 (n := (i : Int) - 1) (by omega) (by omega)]
        refine Ev.eqr (impl_parent (x.take i) (by omega) r.f2 (by omega) (by omega) h2 i (by omega)) ?_
        rw [lastK_take x _ i i (Nat.le_refl _) (by omega), show r.f2 - 1 = ((r.f2.toNat - 1 : Nat) : Int) by omega]
        exact hk _ (by omega)
    refine Ev.bind hpar (Ev.bindv (impl_sch _ _) ?_)
    by_cases h3 : sch (if r.f2 > 0 then ch.getD (r.f2.toNat - 1) 0 else 0) r.f1 = true
    · rw [if_pos h3]
      refine Ev.pos h3 ?_
      have hlen : (ch.take r.f2.toNat ++ [r.f1]).length = r.f2.toNat + 1 := by rw [List.length_append, List.length_take, List.length_singleton]; omega
      have := ih' (ch.take r.f2.toNat ++ [r.f1]) (by omega) (by rw [hlen]; omega) (by
        intro d hd
        rw [hlen] at hd
        unfold lastK
        rw [hr]
        by_cases e : r.f2 = d
        · rw [if_pos e]
          have : r.f2.toNat = d := by omega
          simp [List.getD, List.length_take, this, show min d ch.length = d by omega]
        · rw [if_neg e, hk d (by omega)]
          have h4 : d < (ch.take r.f2.toNat).length := by rw [List.length_take]; omega
          simp only [List.getD, List.getElem?_append_left h4, List.getElem?_take, if_pos (show d < r.f2.toNat by omega)])
      rw [hlen] at this
      rw [show (((r.f2.toNat + 1 : Nat) : Int)) - 1 = r.f2 by omega] at this
      exact this
    · rw [if_neg h3]
      exact Ev.neg h3 (Ev.now _)
theorem impl_validf (x : List S42) (hn : x.length ≤ 2000000) : Ev (fun k => impl_ValidRows.f k x) (vr [] x) := by
  unfold impl_ValidRows.f
  exact impl_valid x hn x.length 0 [] (by omega) (by simp) (by simp)
theorem baext {a b : ByteArray} (h : by_ a = by_ b) : a = b := by
  obtain ⟨⟨a⟩⟩ := a
  obtain ⟨⟨b⟩⟩ := b
  simpa [by_] using h
theorem by_app (a b : ByteArray) : by_ (a ++ b) = by_ a ++ by_ b := by simp [by_, ByteArray.data_append]
theorem by_mk (l : List UInt8) : by_ ⟨l.toArray⟩ = l := rfl
theorem toList_by (a : ByteArray) : a.toList = by_ a := by
  first | exact ByteArray.toList_eq a | exact Lib.toList_eq a | simp [by_]
def pc (c : UInt8) : Bool := decide (32 ≤ c.toNat) && decide (c.toNat ≤ 126)
def prn (t : ByteArray) : Bool := (by_ t).all pc
def good (x : List S42) : Bool := x.all (fun r => prn r.f3) && (vr [] x && decide (x.length ≤ 40))
def letter (k : Int) : UInt8 := ([112, 104, 108, 105] : List UInt8).getD (k - 1).toNat 0
def line (r : S42) : List UInt8 := List.replicate (2 * r.f2.toNat) 32 ++ [letter r.f1] ++ [32] ++ by_ r.f3 ++ [10]
def mk (x : List S42) : ByteArray := ⟨(x.flatMap line).toArray⟩
theorem vr_row : ∀ (x : List S42) (ch : List Int), vr ch x = true → ∀ r ∈ x, 1 ≤ r.f1 ∧ r.f1 ≤ 4 ∧ 0 ≤ r.f2 ∧ r.f2 < (ch.length + x.length : Nat) := by
  intro x
  induction x with
  | nil => intro ch _ r hr; simp at hr
  | cons a x ih =>
    intro ch h r hr
    unfold vr at h
    by_cases h0 : a.f2 < 0
    · rw [if_pos h0] at h; simp at h
    rw [if_neg h0] at h
    by_cases h1 : a.f2 > (ch.length : Int)
    · rw [if_pos h1] at h; simp at h
    rw [if_neg h1] at h
    by_cases h2 : sch (if a.f2 > 0 then ch.getD (a.f2.toNat - 1) 0 else 0) a.f1 = true
    · rw [if_pos h2] at h
      rw [List.length_cons]
      rcases List.mem_cons.1 hr with e | e
      · subst e
        have := sch_kind h2
        omega
      · have := ih _ h r e
        rw [List.length_append, List.length_take, List.length_singleton] at this
        omega
    · rw [if_neg h2] at h; simp at h
theorem bt_nat (a : ByteArray) (i : Nat) (h : i < a.size) : bt a (i : Int) = (((by_ a).getD i 0).toNat : Int) := by
  rw [bt_get a i h]
  simp [List.getD, by_len, h]
theorem bt_hi (a : ByteArray) (i : Nat) (h : i < a.size) : 0 ≤ bt a (i : Int) ∧ bt a (i : Int) ≤ 255 := by
  rw [bt_nat a i h]
  have := UInt8.toNat_lt ((by_ a).getD i 0)
  omega
theorem content_inner (x : List S42) (hn : x.length ≤ 2000000) (i : Nat) (hi : i < x.length) (hs : (x.getD i z42).f3.size ≤ 2000000) (r : Bool) (hr : Ev (fun k => spec_validContent.l0 k x ((i + 1 : Nat) : Int)) r) :
    ∀ m j : Nat, j + m = (x.getD i z42).f3.size → Ev (fun k => spec_validContent.l1 k x i j) (if ((by_ (x.getD i z42).f3).drop j).all pc = true then r else false) := by
  intro m
  induction m with
  | zero =>
    intro j hj
    refine Ev.step (fun k => by rw [spec_validContent.l1]) (Ev.pos (by omega) (Ev.pos (by omega) ?_))
    simp only [rdT]
    refine Ev.neg (by omega) ?_
    rw [wi (by omega), List.drop_of_length_le (by rw [by_len]; omega), List.all_nil, if_pos rfl]
    exact hr
  | succ m ih =>
    intro j hj
    refine Ev.step (fun k => by rw [spec_validContent.l1]) (Ev.pos (by omega) (Ev.pos (by omega) ?_))
    simp only [rdT]
    refine Ev.pos (by omega) (Ev.pos (by omega) ?_)
    rw [drop_getD 0 (by_ (x.getD i z42).f3) j (by rw [by_len]; omega), List.all_cons]
    have hb := bt_nat (x.getD i z42).f3 j (by omega)
    have hh := bt_hi (x.getD i z42).f3 j (by omega)
    rw [w64 (n := bt _ _) (by omega) (by omega), hb, wi (by omega)]
    generalize hc : (by_ (x.getD i z42).f3).getD j 0 = c
    rw [hc] at hb
    by_cases h1 : 32 ≤ c.toNat
    · by_cases h2 : c.toNat ≤ 126
      · have hp : pc c = true := by unfold pc; simp [h1, h2]
        rw [hp, Bool.true_and]
        refine Ev.bindv (a := true) ?_ (Ev.pos rfl (ih (j + 1) (by omega)))
        unfold spec_inRange.f
        rw [if_pos (by omega), decide_eq_true (by omega)]
      · have hp : pc c = false := by unfold pc; simp [h2]
        rw [hp, Bool.false_and, if_neg (by simp)]
        refine Ev.bindv (a := false) ?_ (Ev.neg (by simp) (Ev.now _))
        unfold spec_inRange.f
        rw [if_pos (by omega), decide_eq_false (by omega)]
    · have hp : pc c = false := by unfold pc; simp [h1]
      rw [hp, Bool.false_and, if_neg (by simp)]
      refine Ev.bindv (a := false) ?_ (Ev.neg (by simp) (Ev.now _))
      unfold spec_inRange.f
      rw [if_neg (by omega)]
theorem content_outer (x : List S42) (hn : x.length ≤ 2000000) (hs : ∀ r ∈ x, r.f3.size ≤ 2000000) :
    ∀ m i : Nat, i + m = x.length → Ev (fun k => spec_validContent.l0 k x i) ((x.drop i).all (fun r => prn r.f3) && (vr [] x && decide (x.length ≤ 40))) := by
  intro m
  induction m with
  | zero =>
    intro i hi
    rw [List.drop_of_length_le (by omega), List.all_nil, Bool.true_and]
    refine Ev.step (fun k => by rw [spec_validContent.l0]) (Ev.neg (by omega) (Ev.bind (spec_validf x hn) ?_))
    cases vr [] x with
    | true => exact Ev.pos rfl (Ev.eqr (Ev.now _) (by rw [Bool.true_and]; congr 1; exact propext (by omega)))
    | false => exact Ev.neg (by simp) (Ev.now _)
  | succ m ih =>
    intro i hi
    refine Ev.step (fun k => by rw [spec_validContent.l0]) (Ev.pos (by omega) ?_)
    have hmem : x.getD i z42 ∈ x := by
      have : x.getD i z42 = x[i]'(by omega) := by simp [List.getD, show i < x.length by omega]
      rw [this]; exact List.getElem_mem _
    have := content_inner x hn i (by omega) (hs _ hmem) _ (ih (i + 1) (by omega)) _ 0 (Nat.zero_add _)
    rw [drop_getD z42 x i (by omega), List.all_cons]
    refine Ev.eqr this ?_
    rw [List.drop_zero]
    show _ = ((by_ (x.getD i z42).f3).all pc && _ && _)
    cases (by_ (x.getD i z42).f3).all pc <;> simp
theorem contentf (x : List S42) (hn : x.length ≤ 2000000) (hs : ∀ r ∈ x, r.f3.size ≤ 2000000) : Ev (fun k => spec_validContent.f k x) (good x) := by
  unfold spec_validContent.f
  exact content_outer x hn hs x.length 0 (by omega)
theorem letters {k : Int} (h1 : 1 ≤ k) (h4 : k ≤ 4) : (⟨#[112, 104, 108, 105]⟩ : ByteArray).extract (k - 1).toNat k.toNat = ⟨#[letter k]⟩ := by
  have : k = 1 ∨ k = 2 ∨ k = 3 ∨ k = 4 := by omega
  rcases this with rfl | rfl | rfl | rfl <;> rfl
theorem row_loop (d : Nat) (hd : d ≤ 1000) (i0 i1 kd : Int) (h1 : 1 ≤ kd) (h4 : kd ≤ 4) (t : ByteArray) (ht : t.size ≤ 2000000) : ∀ (m i : Nat) (a : ByteArray), i + m = d → by_ a = List.replicate (2 * i) 32 →
    Ev (fun k => spec_markupRow.l0 k a i i0 i1 kd d t) ⟨(List.replicate (2 * d) 32 ++ [letter kd] ++ [32] ++ by_ t ++ [10]).toArray⟩ := by
  intro m
  induction m with
  | zero =>
    intro i a hi ha
    obtain rfl : i = d := by omega
    have hsz : a.size = 2 * i := by rw [← by_len, ha, List.length_replicate]
    have hL := letters h1 h4
    refine Ev.step (fun k => by rw [spec_markupRow.l0]) (Ev.neg (by omega) ?_)
    rw [w64 (n := kd - 1) (by omega) (by omega)]
    rw [hL]
    have z1 : (⟨#[letter kd]⟩ : ByteArray).size = 1 := rfl
    have z2 : (⟨#[32]⟩ : ByteArray).size = 1 := rfl
    refine Ev.pos (by omega) (Ev.pos (by omega) (Ev.pos (by omega) (Ev.pos ?_ (Ev.pos ?_ (Ev.pos ?_ (Ev.pos ?_ (Ev.eqr (Ev.now _) ?_)))))))
    · rw [z1]; omega
    · rw [ByteArray.size_append, z1]; omega
    · rw [ByteArray.size_append, ByteArray.size_append, z1, z2]; omega
    · rw [ByteArray.size_append, ByteArray.size_append, ByteArray.size_append, z1, z2]; omega
    · apply baext
      rw [by_app, by_app, by_app, by_app, ha, by_mk]
  | succ m ih =>
    intro i a hi ha
    have hsz : a.size = 2 * i := by rw [← by_len, ha, List.length_replicate]
    refine Ev.step (fun k => by rw [spec_markupRow.l0]) (Ev.pos (by omega) (Ev.pos (by omega) ?_))
    rw [wi (by omega)]
    refine ih (i + 1) _ (by omega) ?_
    rw [by_app, ha]
    show List.replicate (2 * i) 32 ++ List.replicate 2 32 = _
    rw [List.replicate_append_replicate]; congr 1
theorem rowf (r : S42) (h1 : 1 ≤ r.f1) (h4 : r.f1 ≤ 4) (h0 : 0 ≤ r.f2) (hd : r.f2 ≤ 1000) (ht : r.f3.size ≤ 2000000) : Ev (fun k => spec_markupRow.f k r.f0.f0 r.f0.f1 r.f1 r.f2 r.f3) ⟨(line r).toArray⟩ := by
  unfold spec_markupRow.f
  have := row_loop r.f2.toNat (by omega) r.f0.f0 r.f0.f1 r.f1 h1 h4 r.f3 ht r.f2.toNat 0 (⟨#[]⟩) (by omega) rfl
  rw [show ((r.f2.toNat : Nat) : Int) = r.f2 by omega] at this
  exact this
theorem line_len (r : S42) : (line r).length = 2 * r.f2.toNat + r.f3.size + 3 := by
  unfold line
  simp only [List.length_append, List.length_replicate, List.length_singleton, by_len]
  omega
theorem mk_snoc (x : List S42) (i : Nat) (h : i < x.length) : mk (x.take (i + 1)) = mk (x.take i) ++ ⟨(line (x.getD i z42)).toArray⟩ := by
  apply baext
  rw [by_app]
  show (List.flatMap line (x.take (i + 1))) = (List.flatMap line (x.take i)) ++ line _
  rw [List.take_succ_eq_append_getElem h, List.flatMap_append]
  simp [List.getD, h]
theorem mk_size (x : List S42) (B : Nat) (h : ∀ r ∈ x, (line r).length ≤ B) : (mk x).size ≤ x.length * B := by
  rw [← by_len]
  show (List.flatMap line x).length ≤ _
  induction x with
  | nil => simp
  | cons a x ih =>
    have h1 := h a (List.mem_cons_self ..)
    have h2 := ih (fun r hr => h r (List.mem_cons_of_mem _ hr))
    simp only [List.flatMap_cons, List.length_append, List.length_cons, Nat.succ_mul]
    omega
def fit (x : List S42) : Prop := x.length ≤ 40 ∧ ∀ r ∈ x, 1 ≤ r.f1 ∧ r.f1 ≤ 4 ∧ 0 ≤ r.f2 ∧ r.f2 ≤ 1000 ∧ r.f3.size ≤ 2000000
theorem fit_size {x : List S42} (h : fit x) (i : Nat) : (mk (x.take i)).size ≤ 90000000 := by
  have := mk_size (x.take i) 2002003 (fun r hr => by
    have := h.2 r (List.mem_of_mem_take hr)
    rw [line_len]; omega)
  have hl : (x.take i).length ≤ 40 := by rw [List.length_take]; have := h.1; omega
  have := Nat.mul_le_mul_right 2002003 hl
  omega
theorem fit_get {x : List S42} (h : fit x) {i : Nat} (hi : i < x.length) : 1 ≤ (x.getD i z42).f1 ∧ (x.getD i z42).f1 ≤ 4 ∧ 0 ≤ (x.getD i z42).f2 ∧ (x.getD i z42).f2 ≤ 1000 ∧ (x.getD i z42).f3.size ≤ 2000000 := by
  have : x.getD i z42 = x[i] := by simp [List.getD, hi]
  rw [this]; exact h.2 _ (List.getElem_mem _)
theorem rows_loop (x : List S42) (hx : fit x) : ∀ m i : Nat, i + m = x.length → Ev (fun k => spec_RowsMarkup.l0 k x (mk (x.take i)) i) (mk x) := by
  intro m
  induction m with
  | zero =>
    intro i hi
    refine Ev.step (fun k => by rw [spec_RowsMarkup.l0]) (Ev.neg (by omega) (Ev.eqr (Ev.now _) ?_))
    rw [List.take_of_length_le (by omega)]
  | succ m ih =>
    intro i hi
    have hg := fit_get hx (show i < x.length by omega)
    have h40 := hx.1
    refine Ev.step (fun k => by rw [spec_RowsMarkup.l0]) (Ev.pos (by omega) (Ev.pos (by omega) ?_))
    rw [rdT]
    refine Ev.bind (rowf _ hg.1 hg.2.1 hg.2.2.1 hg.2.2.2.1 hg.2.2.2.2) (Ev.pos ?_ ?_)
    · have h1 := fit_size hx (i + 1)
      rw [mk_snoc x i (by omega), ByteArray.size_append] at h1
      omega
    · rw [← mk_snoc x i (by omega), wi (by omega)]
      exact ih (i + 1) (by omega)
theorem good_fit {x : List S42} (h : good x = true) (hs : ∀ r ∈ x, r.f3.size ≤ 2000000) : fit x := by
  unfold good at h
  simp only [Bool.and_eq_true, decide_eq_true_eq] at h
  refine ⟨h.2.2, fun r hr => ?_⟩
  have := vr_row x [] h.2.1 r hr
  have h2 := h.2.2
  simp only [List.length_nil] at this
  exact ⟨this.1, this.2.1, this.2.2.1, by omega, hs r hr⟩
def wr (x : List S42) : ByteArray := if good x = true then mk x else ⟨#[]⟩
theorem spec_rows (x : List S42) (hn : x.length ≤ 2000000) (hs : ∀ r ∈ x, r.f3.size ≤ 2000000) : Ev (fun k => spec_RowsMarkup.f k x) (wr x) := by
  unfold spec_RowsMarkup.f wr
  refine Ev.bind (contentf x hn hs) ?_
  by_cases h : good x = true
  · rw [if_pos h]
    exact Ev.pos h (rows_loop x (good_fit h hs) x.length 0 (by omega))
  · rw [if_neg h]
    exact Ev.neg h (Ev.now _)
theorem rep_spaces : ∀ d : Nat, Lib.repeatL [32, 32] d = List.replicate (2 * d) 32 := by
  intro d
  induction d with
  | zero => rfl
  | succ d ih =>
    show [32, 32] ++ Lib.repeatL [32, 32] d = _
    rw [ih]
    show List.replicate 2 32 ++ _ = _
    rw [List.replicate_append_replicate]; congr 1; omega
theorem impl_inner (x : List S42) (r : S42) (h1 : 1 ≤ r.f1) (h4 : r.f1 ≤ 4) (h0 : 0 ≤ r.f2) (hd : r.f2 ≤ 1000) (ht : r.f3.size ≤ 2000000) (acc : ByteArray) (ha : acc.size ≤ 90000000) (n : Int) (i : Nat) (hi : i ≤ 100) (R : ByteArray)
    (hR : Ev (fun k => impl_RowsMarkup.l0 k (acc ++ ⟨(line r).toArray⟩) x n ((i + 1 : Nat) : Int)) R) :
    ∀ m j : Nat, j + m = r.f3.size → Ev (fun k => impl_RowsMarkup.l1 k acc j x n i r.f0.f0 r.f0.f1 r.f1 r.f2 r.f3) (if ((by_ r.f3).drop j).all pc = true then R else ⟨#[]⟩) := by
  intro m
  induction m with
  | zero =>
    intro j hj
    rw [List.drop_of_length_le (by rw [by_len]; omega), List.all_nil, if_pos rfl]
    have hL := letters h1 h4
    have z0 : (⟨(Lib.repeatL ([32, 32] : List UInt8) r.f2.toNat).toArray⟩ : ByteArray).size = 2 * r.f2.toNat := by
      rw [← by_len, by_mk, rep_spaces, List.length_replicate]
    have z1 : (⟨#[letter r.f1]⟩ : ByteArray).size = 1 := rfl
    have z2 : (⟨#[32]⟩ : ByteArray).size = 1 := rfl
    have z3 : (⟨#[10]⟩ : ByteArray).size = 1 := rfl
    have zs : (⟨#[32, 32]⟩ : ByteArray).size = 2 := rfl
    refine Ev.step (fun k => by rw [impl_RowsMarkup.l1]) (Ev.neg (by omega) (Ev.bindv (a := (⟨(Lib.repeatL ([32, 32] : List UInt8) r.f2.toNat).toArray⟩ : ByteArray)) ?_ ?_))
    · unfold strings_Repeat.f
      rw [if_pos (by rw [zs]; omega)]
    · rw [w64 (n := r.f1 - 1) (by omega) (by omega), hL, wi (by omega)]
      refine Ev.pos (by omega) (Ev.pos (by omega) (Ev.pos (by omega) (Ev.pos ?_ (Ev.pos ?_ (Ev.pos ?_ (Ev.pos ?_ (Ev.pos ?_ ?_)))))))
      · rw [z0, z1]; omega
      · rw [ByteArray.size_append, z0, z1]; omega
      · rw [ByteArray.size_append, ByteArray.size_append, z0, z1, z2]; omega
      · rw [ByteArray.size_append, ByteArray.size_append, ByteArray.size_append, z0, z1, z2]; omega
      · rw [ByteArray.size_append, ByteArray.size_append, ByteArray.size_append, ByteArray.size_append, z0, z1, z2, z3]; omega
      · have e : (((⟨(Lib.repeatL ([32, 32] : List UInt8) r.f2.toNat).toArray⟩ : ByteArray) ++ ⟨#[letter r.f1]⟩ ++ ⟨#[32]⟩ ++ r.f3) ++ ⟨#[10]⟩) = (⟨(line r).toArray⟩ : ByteArray) := by
          apply baext
          rw [by_app, by_app, by_app, by_app, by_mk, rep_spaces]; rfl
        rw [e]
        exact hR
  | succ m ih =>
    intro j hj
    refine Ev.step (fun k => by rw [impl_RowsMarkup.l1]) (Ev.pos (by omega) (Ev.pos (by omega) ?_))
    rw [drop_getD 0 (by_ r.f3) j (by rw [by_len]; omega), List.all_cons]
    have hb := bt_nat r.f3 j (by omega)
    rw [hb, wi (by omega)]
    generalize (by_ r.f3).getD j 0 = c
    by_cases c1 : c.toNat < 32
    · have hp : pc c = false := by unfold pc; rw [decide_eq_false (by omega : ¬ 32 ≤ c.toNat), Bool.false_and]
      rw [hp, Bool.false_and, if_neg (by simp)]
      exact Ev.pos (by omega) (Ev.now _)
    refine Ev.neg (by omega) ?_
    by_cases c2 : c.toNat > 126
    · have hp : pc c = false := by unfold pc; rw [decide_eq_false (by omega : ¬ c.toNat ≤ 126), Bool.and_false]
      rw [hp, Bool.false_and, if_neg (by simp)]
      exact Ev.pos (by omega) (Ev.now _)
    have hp : pc c = true := by unfold pc; rw [decide_eq_true (by omega : 32 ≤ c.toNat), decide_eq_true (by omega : c.toNat ≤ 126)]; rfl
    rw [hp, Bool.true_and]
    exact Ev.neg (by omega) (ih (j + 1) (by omega))
theorem impl_outer (x : List S42) (hx : fit x) : ∀ m i : Nat, i + m = x.length → Ev (fun k => impl_RowsMarkup.l0 k (mk (x.take i)) x (x.length : Int) i) (if (x.drop i).all (fun r => prn r.f3) = true then mk x else ⟨#[]⟩) := by
  intro m
  induction m with
  | zero =>
    intro i hi
    rw [List.drop_of_length_le (by omega), List.all_nil, if_pos rfl]
    refine Ev.step (fun k => by rw [impl_RowsMarkup.l0]) (Ev.neg (by omega) (Ev.eqr (Ev.now _) ?_))
    rw [List.take_of_length_le (by omega)]
  | succ m ih =>
    intro i hi
    have hg := fit_get hx (show i < x.length by omega)
    have h40 := hx.1
    refine Ev.step (fun k => by rw [impl_RowsMarkup.l0]) (Ev.pos (by omega) (Ev.pos (by omega) (Ev.pos (by omega) ?_)))
    rw [rdT]
    have hR := ih (i + 1) (by omega)
    rw [mk_snoc x i (by omega)] at hR
    have h := impl_inner x (x.getD i z42) hg.1 hg.2.1 hg.2.2.1 hg.2.2.2.1 hg.2.2.2.2 (mk (x.take i)) (fit_size hx i) (x.length : Int) i (by omega) _ hR _ 0 (Nat.zero_add _)
    refine Ev.eqr h ?_
    rw [drop_getD z42 x i (by omega), List.all_cons, List.drop_zero]
    show _ = if ((by_ (x.getD i z42).f3).all pc && _) = true then _ else _
    cases (by_ (x.getD i z42).f3).all pc <;> simp
theorem vr_fit {x : List S42} (h : vr [] x = true) (h40 : x.length ≤ 40) (hs : ∀ r ∈ x, r.f3.size ≤ 2000000) : fit x := by
  refine ⟨h40, fun r hr => ?_⟩
  have := vr_row x [] h r hr
  simp only [List.length_nil] at this
  exact ⟨this.1, this.2.1, this.2.2.1, by omega, hs r hr⟩
theorem impl_rows (x : List S42) (hn : x.length ≤ 2000000) (hs : ∀ r ∈ x, r.f3.size ≤ 2000000) : Ev (fun k => impl_RowsMarkup.f k x) (wr x) := by
  unfold impl_RowsMarkup.f
  by_cases h40 : (x.length : Int) > 40
  · have : good x = false := by unfold good; rw [decide_eq_false (by omega : ¬ x.length ≤ 40)]; simp
    unfold wr
    rw [if_neg (by rw [this]; simp)]
    exact Ev.pos h40 (Ev.step (fun k => by rw [impl_RowsMarkup.j0]) (Ev.pos rfl (Ev.now _)))
  refine Ev.neg h40 (Ev.bind (impl_validf x hn) ?_)
  by_cases hv : vr [] x = true
  · rw [hv]
    refine Ev.step (fun k => by rw [impl_RowsMarkup.j0]) (Ev.neg (by simp) ?_)
    refine Ev.eqr (impl_outer x (vr_fit hv (by omega) hs) x.length 0 (by omega)) ?_
    unfold wr good
    rw [hv, decide_eq_true (by omega : x.length ≤ 40), Bool.and_true, Bool.and_true, List.drop_zero]
  · have hv' : vr [] x = false := by simpa using hv
    rw [hv']
    have : good x = false := by unfold good; rw [hv']; simp
    unfold wr
    rw [if_neg (by rw [this]; simp)]
    exact Ev.step (fun k => by rw [impl_RowsMarkup.j0]) (Ev.pos (by simp) (Ev.now _))
def conv (r : S55) : S42 := ⟨⟨r.f0.f0, r.f0.f1⟩, r.f1, r.f2, r.f3⟩
theorem by_ext (a : ByteArray) (i j : Nat) : by_ (a.extract i j) = ((by_ a).take j).drop i := by
  simp only [by_, ByteArray.data_extract, Array.toList_extract, List.extract_eq_take_drop]
  rw [List.drop_take]
theorem hasp (a : ByteArray) : strings_HasPrefix.f a ⟨#[32, 32]⟩ = some (decide ((by_ a).take 2 = [32, 32])) := by
  unfold strings_HasPrefix.f stringslite_HasPrefix.f
  have z : (⟨#[32, 32]⟩ : ByteArray).size = 2 := rfl
  simp only [z]
  by_cases h : (a.size : Int) ≥ ((2 : Nat) : Int)
  · rw [if_pos h, if_pos (by omega), if_pos (by omega)]
    simp only [Option.bind_some, toList_by, by_ext, List.drop_zero]
    congr 1
    rw [show (((2 : Nat) : Int)).toNat = 2 from rfl, show by_ (⟨#[32, 32]⟩ : ByteArray) = [32, 32] from rfl]
    by_cases e : List.take 2 (by_ a) = [32, 32]
    · rw [e]; rfl
    · rw [decide_eq_false e]; exact beq_false_of_ne e
  · rw [if_neg h]
    simp only [Option.bind_some]
    congr 1
    have hl := by_len a
    rw [decide_eq_false]
    intro e
    have := congrArg List.length e
    rw [List.length_take] at this
    simp at this
    omega
theorem impl_strip (s more : ByteArray) (rows : List S42) (hrows : rows.length ≤ 1000) (kd : Int) (h1 : 1 ≤ kd) (h4 : kd ≤ 4) (t : ByteArray) (R : List S42 × Bool) (d0 : Nat) (hd : d0 ≤ 1000)
    (hR : Ev (fun k => impl_ParseMarkup.l0 k s (rows ++ [(⟨⟨0, 0⟩, kd, (d0 : Int), t⟩ : S42)]) more) R) : ∀ (m d : Nat) (cur : ByteArray), d + m = d0 → by_ cur = List.replicate (2 * m) 32 ++ letter kd :: 32 :: by_ t →
    Ev (fun k => impl_ParseMarkup.l1 k s rows more cur 0 0 0 d ⟨#[]⟩) R := by
  have hk : kd = 1 ∨ kd = 2 ∨ kd = 3 ∨ kd = 4 := by omega
  intro m
  induction m with
  | zero =>
    intro d cur hdm hc
    obtain rfl : d = d0 := by omega
    rw [show 2 * 0 = 0 from rfl, List.replicate_zero, List.nil_append] at hc
    have hsz : cur.size = (by_ t).length + 2 := by rw [← by_len, hc]; rfl
    have b0 : bt cur ((0 : Nat) : Int) = ((letter kd).toNat : Int) := by rw [bt_nat cur 0 (by omega), hc]; rfl
    have b1 : bt cur ((1 : Nat) : Int) = 32 := by rw [bt_nat cur 1 (by omega), hc]; rfl
    have hp : decide ((by_ cur).take 2 = [32, 32]) = false := by
      rw [hc]
      rcases hk with rfl | rfl | rfl | rfl <;> rfl
    refine Ev.step (fun k => by rw [impl_ParseMarkup.l1]) (Ev.bindv (hasp cur) ?_)
    rw [hp]
    refine Ev.neg (by simp) (Ev.neg (by omega) (Ev.pos (by omega) (Ev.pos b1 (Ev.pos (by omega) ?_))))
    have hi : strings_IndexByte.f (⟨#[112, 104, 108, 105]⟩ : ByteArray) (bt cur 0) = some (kd - 1) := by
      unfold strings_IndexByte.f
      rw [show bt cur 0 = bt cur ((0 : Nat) : Int) from rfl, b0]
      rcases hk with rfl | rfl | rfl | rfl <;> rfl
    refine Ev.bindv hi (Ev.pos (by omega) (Ev.pos (by omega) ?_))
    rw [show kd - 1 + 1 = kd by omega, w64 (n := kd) (by omega) (by omega)]
    have he : cur.extract 2 cur.size = t := by
      apply baext
      rw [by_ext, List.take_of_length_le (by rw [by_len]; omega), hc]; rfl
    rw [he]
    exact hR
  | succ m ih =>
    intro d cur hdm hc
    have hc' : by_ cur = 32 :: 32 :: (List.replicate (2 * m) 32 ++ letter kd :: 32 :: by_ t) := by
      rw [hc, show 2 * (m + 1) = 2 * m + 1 + 1 by omega, List.replicate_succ, List.replicate_succ]; rfl
    have hsz : 2 ≤ cur.size := by rw [← by_len, hc']; simp
    refine Ev.step (fun k => by rw [impl_ParseMarkup.l1]) (Ev.bindv (hasp cur) ?_)
    rw [hc']
    refine Ev.pos (by rfl) (Ev.pos (by omega) ?_)
    rw [wi (by omega)]
    refine ih (d + 1) _ (by omega) ?_
    rw [by_ext, List.take_of_length_le (by rw [by_len]; omega), hc']; rfl
theorem ib_app (a b : List UInt8) (c : UInt8) (h : c ∉ a) : Lib.indexByte (a ++ c :: b) c = (a.length : Int) := by
  induction a with
  | nil => simp [Lib.indexByte]
  | cons x a ih =>
    have hx : x ≠ c := fun e => h (by rw [e]; exact List.mem_cons_self ..)
    have := ih (fun hm => h (List.mem_cons_of_mem _ hm))
    show (if (x == c) = true then (0 : Int) else if (Lib.indexByte (a ++ c :: b) c == -1) = true then -1 else Lib.indexByte (a ++ c :: b) c + 1) = _
    rw [if_neg (by simpa using hx), this, if_neg (by simp <;> omega), List.length_cons]
    rfl
theorem ib_none (a : List UInt8) (c : UInt8) (h : c ∉ a) : Lib.indexByte a c = -1 := by
  induction a with
  | nil => rfl
  | cons x a ih =>
    have hx : x ≠ c := fun e => h (by rw [e]; exact List.mem_cons_self ..)
    have := ih (fun hm => h (List.mem_cons_of_mem _ hm))
    show (if (x == c) = true then (0 : Int) else if (Lib.indexByte a c == -1) = true then -1 else Lib.indexByte a c + 1) = _
    rw [if_neg (by simpa using hx), this, if_pos (by rfl)]
theorem cut_nl (s : ByteArray) (a b : List UInt8) (h : (10 : UInt8) ∉ a) (hs : by_ s = a ++ 10 :: b) (hz : s.size ≤ 1000000000) : strings_Cut.f s ⟨#[10]⟩ = some (⟨a.toArray⟩, ⟨b.toArray⟩, true) := by
  unfold strings_Cut.f stringslite_Cut.f stringslite_Index.f
  have z : (⟨#[10]⟩ : ByteArray).size = 1 := rfl
  have hl : s.size = a.length + (b.length + 1) := by rw [← by_len, hs, List.length_append, List.length_cons]
  rw [if_pos z, show ((⟨#[10]⟩ : ByteArray).data.toList.headD 0) = 10 from rfl, show s.data.toList = by_ s from rfl, hs, ib_app a b 10 h]
  simp only [Option.bind_some, z]
  rw [w64 (by omega) (by omega), if_pos (by omega), if_pos (by omega), if_pos (by omega), if_pos (by omega), if_pos (by omega)]
  simp only [Option.bind_some]
  congr 2
  · apply baext
    rw [by_ext, hs, by_mk, Int.toNat_natCast, List.take_left, List.drop_zero]
  · congr 1
    apply baext
    rw [by_ext, List.take_of_length_le (by rw [by_len]; omega), hs, by_mk, show ((a.length : Int) + ((1 : Nat) : Int)).toNat = a.length + 1 by omega]
    rw [← List.drop_drop, List.drop_left]; rfl
theorem cut_no (s : ByteArray) (h : (10 : UInt8) ∉ by_ s) : strings_Cut.f s ⟨#[10]⟩ = some (s, ⟨#[]⟩, false) := by
  unfold strings_Cut.f stringslite_Cut.f stringslite_Index.f
  have z : (⟨#[10]⟩ : ByteArray).size = 1 := rfl
  rw [if_pos z, show ((⟨#[10]⟩ : ByteArray).data.toList.headD 0) = 10 from rfl, show s.data.toList = by_ s from rfl, ib_none _ _ h]
  simp only [Option.bind_some]
  rw [if_neg (by omega)]
  rfl
theorem pc_ne {c : UInt8} (h : pc c = true) : c ≠ 10 := by
  rintro rfl
  exact absurd h (by decide)
def body (r : S42) : List UInt8 := List.replicate (2 * r.f2.toNat) 32 ++ letter r.f1 :: 32 :: by_ r.f3
theorem line_body (r : S42) : line r = body r ++ [10] := by unfold line body; simp
theorem body_nl (r : S42) (h1 : 1 ≤ r.f1) (h4 : r.f1 ≤ 4) (hp : prn r.f3 = true) : (10 : UInt8) ∉ body r := by
  have hk : r.f1 = 1 ∨ r.f1 = 2 ∨ r.f1 = 3 ∨ r.f1 = 4 := by omega
  unfold body
  intro h
  rcases List.mem_append.1 h with h | h
  · have := List.eq_of_mem_replicate h
    exact absurd this (by decide)
  · rcases List.mem_cons.1 h with h | h
    · rcases hk with e | e | e | e <;> rw [e] at h <;> exact absurd h (by decide)
    · rcases List.mem_cons.1 h with h | h
      · exact absurd h (by decide)
      · exact pc_ne (List.all_eq_true.1 hp 10 h) rfl
theorem impl_parse_back (s : ByteArray) (x : List S42) (hx : fit x) (hp : x.all (fun r => prn r.f3) = true) (hz : ∀ r ∈ x, r.f0 = ⟨0, 0⟩) (R : List S42 × Bool)
    (hR : Ev (fun k => impl_ParseMarkup.l0 k s x ⟨#[]⟩) R) : ∀ m i : Nat, i + m = x.length → Ev (fun k => impl_ParseMarkup.l0 k s (x.take i) (mk (x.drop i))) R := by
  intro m
  induction m with
  | zero =>
    intro i hi
    rw [List.take_of_length_le (by omega), List.drop_of_length_le (by omega)]
    exact hR
  | succ m ih =>
    intro i hi
    have h40 := hx.1
    have hi' : i < x.length := by omega
    have hg := fit_get hx hi'
    have hget : x.getD i z42 = x[i] := by simp [List.getD, hi']
    have hm : x.getD i z42 ∈ x := by rw [hget]; exact List.getElem_mem _
    have hpr := List.all_eq_true.1 hp _ hm
    have hid := hz _ hm
    have hsn : x.take (i + 1) = x.take i ++ [x.getD i z42] := by rw [List.take_succ_eq_append_getElem hi', hget]
    have hR' := ih (i + 1) (by omega)
    rw [hsn] at hR'
    generalize hr : x.getD i z42 = r at *
    have hsb : by_ (mk (x.drop i)) = body r ++ 10 :: (x.drop (i + 1)).flatMap line := by
      rw [drop_getD z42 x i hi', hr]
      show List.flatMap line (r :: x.drop (i + 1)) = _
      rw [List.flatMap_cons, line_body]; simp
    have hne : by_ (mk (x.drop i)) ≠ [] := by rw [hsb]; simp
    have hsz : (mk (x.drop i)).size ≤ 1000000000 := by
      have := mk_size (x.drop i) 2002003 (fun r hr => by
        have := hx.2 r (List.mem_of_mem_drop hr)
        rw [line_len]; omega)
      have hl : (x.drop i).length ≤ 40 := by rw [List.length_drop]; omega
      have := Nat.mul_le_mul_right 2002003 hl
      omega
    refine Ev.step (fun k => by rw [impl_ParseMarkup.l0]) (Ev.neg (by rw [toList_by]; exact hne) ?_)
    refine Ev.bindv (cut_nl _ _ _ (body_nl r hg.1 hg.2.1 hpr) hsb hsz) (Ev.pos rfl ?_)
    have hlt : (x.take i).length ≤ 39 := by rw [List.length_take]; omega
    rw [decide_eq_false (by omega)]
    refine Ev.step (fun k => by rw [impl_ParseMarkup.j1]) (Ev.neg (by simp) ?_)
    refine impl_strip s _ (x.take i) (by omega) r.f1 hg.1 hg.2.1 r.f3 R r.f2.toNat (by omega) ?_ r.f2.toNat 0 _ (by omega) rfl
    have : (⟨⟨0, 0⟩, r.f1, ((r.f2.toNat : Nat) : Int), r.f3⟩ : S42) = r := by
      obtain ⟨a, b, c, d⟩ := r
      simp only at hid hg ⊢
      rw [hid, show ((c.toNat : Nat) : Int) = c by omega]
    rw [this]
    exact hR'
def PR (s : ByteArray) (R : List S42 × Bool) : Prop :=
  R = ([], false) ∨ (R.2 = true ∧ R.1.length ≤ 41 ∧ (∀ r ∈ R.1, r.f0 = ⟨0, 0⟩ ∧ r.f3.size ≤ 2000000) ∧ wr R.1 = s)
theorem impl_strip_tot (s more : ByteArray) (rows : List S42) (hrows : rows.length ≤ 1000)
    (hR : ∀ (kd dd : Int) (t : ByteArray), t.size ≤ 2000000 → ∃ R, Ev (fun k => impl_ParseMarkup.l0 k s (rows ++ [(⟨⟨0, 0⟩, kd, dd, t⟩ : S42)]) more) R ∧ PR s R) : ∀ (n : Nat) (d : Int) (cur : ByteArray), cur.size ≤ n → n ≤ 2000000 →
    ∃ R, Ev (fun k => impl_ParseMarkup.l1 k s rows more cur 0 0 0 d ⟨#[]⟩) R ∧ PR s R := by
  intro n
  induction n with
  | zero =>
    intro d cur hc hn
    have hp : decide ((by_ cur).take 2 = [32, 32]) = false := by
      rw [List.eq_nil_of_length_eq_zero (by rw [by_len]; omega : (by_ cur).length = 0)]; rfl
    refine ⟨([], false), Ev.step (fun k => by rw [impl_ParseMarkup.l1]) (Ev.bindv (hasp cur) ?_), .inl rfl⟩
    rw [hp]
    exact Ev.neg (by simp) (Ev.pos (by omega) (Ev.now _))
  | succ n ih =>
    intro d cur hc hn
    by_cases hp : (by_ cur).take 2 = [32, 32]
    · have h2 : 2 ≤ cur.size := by
        have := congrArg List.length hp
        rw [List.length_take, by_len] at this
        simp at this
        omega
      have hsz : (cur.extract 2 cur.size).size ≤ n := by rw [ByteArray.size_extract]; omega
      obtain ⟨R, hE, hP⟩ := ih (wrap64 (d + 1)) _ hsz (by omega)
      refine ⟨R, Ev.step (fun k => by rw [impl_ParseMarkup.l1]) (Ev.bindv (hasp cur) ?_), hP⟩
      rw [decide_eq_true hp]
      exact Ev.pos rfl (Ev.pos (by omega) hE)
    · by_cases h2 : (cur.size : Int) < 2
      · refine ⟨([], false), Ev.step (fun k => by rw [impl_ParseMarkup.l1]) (Ev.bindv (hasp cur) ?_), .inl rfl⟩
        rw [decide_eq_false hp]
        exact Ev.neg (by simp) (Ev.pos h2 (Ev.now _))
      · by_cases hb : bt cur 1 = 32
        · obtain ⟨R, hE, hP⟩ := hR (wrap64 (Lib.indexByte (⟨#[112, 104, 108, 105]⟩ : ByteArray).data.toList (bt cur 0).toNat.toUInt8 + 1)) d (cur.extract 2 cur.size) (by rw [ByteArray.size_extract]; omega)
          refine ⟨R, Ev.step (fun k => by rw [impl_ParseMarkup.l1]) (Ev.bindv (hasp cur) ?_), hP⟩
          rw [decide_eq_false hp]
          exact Ev.neg (by simp) (Ev.neg h2 (Ev.pos (by omega) (Ev.pos hb (Ev.pos (by omega) (Ev.bindv rfl (Ev.pos (by omega) (Ev.pos (by omega) hE)))))))
        · refine ⟨([], false), Ev.step (fun k => by rw [impl_ParseMarkup.l1]) (Ev.bindv (hasp cur) ?_), .inl rfl⟩
          rw [decide_eq_false hp]
          exact Ev.neg (by simp) (Ev.neg h2 (Ev.pos (by omega) (Ev.neg hb (Ev.now _))))
theorem split_nl (l : List UInt8) (h : (10 : UInt8) ∈ l) : ∃ a b, l = a ++ 10 :: b ∧ (10 : UInt8) ∉ a := by
  induction l with
  | nil => simp at h
  | cons x l ih =>
    by_cases e : x = 10
    · exact ⟨[], l, by rw [e]; rfl, by simp⟩
    · obtain ⟨a, b, hl, ha⟩ := ih (by rcases List.mem_cons.1 h with h | h; exact absurd h.symm e; exact h)
      exact ⟨x :: a, b, by rw [hl]; rfl, by
        intro hm
        rcases List.mem_cons.1 hm with h | h
        · exact e h.symm
        · exact ha h⟩
theorem impl_tot (s : ByteArray) : ∀ (n : Nat) (rows : List S42) (rest : ByteArray), rest.size ≤ n → n ≤ 2000000 → rows.length ≤ 41 → (∀ r ∈ rows, r.f0 = ⟨0, 0⟩ ∧ r.f3.size ≤ 2000000) →
    ∃ R, Ev (fun k => impl_ParseMarkup.l0 k s rows rest) R ∧ PR s R := by
  intro n
  induction n with
  | zero =>
    intro rows rest hn _ hl hr
    have he : by_ rest = [] := List.eq_nil_of_length_eq_zero (by rw [by_len]; omega)
    by_cases c : by_ (wr rows) = by_ s
    · exact ⟨(rows, true), Ev.step (fun k => by rw [impl_ParseMarkup.l0]) (Ev.pos (by rw [toList_by]; exact he) (Ev.bind (impl_rows rows (by omega) fun r h => (hr r h).2) (Ev.pos ((toList_by _).trans (c.trans (toList_by _).symm)) (Ev.now _)))), .inr ⟨rfl, hl, hr, baext c⟩⟩
    · exact ⟨([], false), Ev.step (fun k => by rw [impl_ParseMarkup.l0]) (Ev.pos (by rw [toList_by]; exact he) (Ev.bind (impl_rows rows (by omega) fun r h => (hr r h).2) (Ev.neg (fun (e : (wr rows).toList = s.toList) => c ((toList_by _).symm.trans (e.trans (toList_by _)))) (Ev.now _)))), .inl rfl⟩
  | succ n ih =>
    intro rows rest hn hn2 hl hr
    by_cases he : by_ rest = []
    · exact ih rows rest (by rw [← by_len, he]; simp) (by omega) hl hr
    by_cases h10 : (10 : UInt8) ∈ by_ rest
    · obtain ⟨a, b, hab, ha⟩ := split_nl _ h10
      have hcut := cut_nl rest a b ha hab (by omega)
      have hlen : rest.size = a.length + (b.length + 1) := by rw [← by_len, hab, List.length_append, List.length_cons]
      by_cases h40 : (rows.length : Int) ≥ 40
      · refine ⟨([], false), Ev.step (fun k => by rw [impl_ParseMarkup.l0]) (Ev.neg (by rw [toList_by]; exact he) (Ev.bindv hcut (Ev.pos rfl ?_))), .inl rfl⟩
        rw [decide_eq_true h40]
        exact Ev.step (fun k => by rw [impl_ParseMarkup.j1]) (Ev.pos rfl (Ev.now _))
      · obtain ⟨R, hE, hP⟩ := impl_strip_tot s ⟨b.toArray⟩ rows (by omega) (fun kd dd t ht => ih _ ⟨b.toArray⟩ (by rw [← by_len, by_mk]; omega) (by omega) (by rw [List.length_append, List.length_singleton]; omega) (by
          intro r hm
          rcases List.mem_append.1 hm with h | h
          · exact hr r h
          · rw [List.mem_singleton.1 h]; exact ⟨rfl, ht⟩)) a.length 0 ⟨a.toArray⟩ (by rw [← by_len, by_mk]; omega) (by omega)
        refine ⟨R, Ev.step (fun k => by rw [impl_ParseMarkup.l0]) (Ev.neg (by rw [toList_by]; exact he) (Ev.bindv hcut (Ev.pos rfl ?_))), hP⟩
        rw [decide_eq_false h40]
        exact Ev.step (fun k => by rw [impl_ParseMarkup.j1]) (Ev.neg (by simp) hE)
    · refine ⟨([], false), Ev.step (fun k => by rw [impl_ParseMarkup.l0]) (Ev.neg (by rw [toList_by]; exact he) (Ev.bindv (cut_no rest h10) (Ev.neg Bool.false_ne_true ?_))), .inl rfl⟩
      exact Ev.step (fun k => by rw [impl_ParseMarkup.j1]) (Ev.pos rfl (Ev.now _))
def klet (b : Int) : Int := if b = 112 then 1 else if b = 104 then 2 else if b = 108 then 3 else if b = 105 then 4 else 0
def kend (a : ByteArray) (kd d : Int) : Int × Int × Int × Int × ByteArray := if kd > 0 then (0, 0, kd, d, a.extract 2 a.size) else (0, 0, kd, d, ⟨#[]⟩)
theorem kinds_end (a : ByteArray) (h : 2 ≤ a.size) (kd d : Int) : Ev (fun k => spec_markupLine.j3 k a 5 false 0 0 kd d ⟨#[]⟩) (kend a kd d) := by
  refine Ev.step (fun k => by rw [spec_markupLine.j3]) (Ev.neg (by simp) ?_)
  unfold kend
  by_cases c : kd > 0
  · rw [if_pos c, if_pos c]; exact Ev.pos (by omega) (Ev.now _)
  · rw [if_neg c, if_neg c]; exact Ev.now _
theorem kind_step (a : ByteArray) (h : 2 ≤ a.size) (i : Int) (h1 : 1 ≤ i) (h4 : i ≤ 4) (kd d : Int) (R : Int × Int × Int × Int × ByteArray)
    (hR : Ev (fun k => spec_markupLine.l1 k a (i + 1) 0 0 (if bt a 0 = bt (⟨#[112, 104, 108, 105]⟩ : ByteArray) (i - 1) then i else kd) d ⟨#[]⟩) R) : Ev (fun k => spec_markupLine.l1 k a i 0 0 kd d ⟨#[]⟩) R := by
  refine Ev.step (fun k => by rw [spec_markupLine.l1]) (Ev.pos h4 ?_)
  rw [decide_eq_true (by omega)]
  refine Ev.step (fun k => by rw [spec_markupLine.j3]) (Ev.pos rfl ?_)
  rw [w64 (n := i - 1) (by omega) (by omega), w64 (n := i + 1) (by omega) (by omega)]
  refine Ev.pos (by omega) (Ev.pos (by omega) (Ev.pos (by omega) ?_))
  by_cases c : bt a 0 = bt (⟨#[112, 104, 108, 105]⟩ : ByteArray) (i - 1)
  · rw [if_pos c] at hR; exact Ev.pos c hR
  · rw [if_neg c] at hR; exact Ev.neg c hR
theorem kinds_ev (a : ByteArray) (h : 2 ≤ a.size) (d : Int) : Ev (fun k => spec_markupLine.l1 k a 1 0 0 0 d ⟨#[]⟩) (kend a (klet (bt a 0)) d) := by
  refine kind_step a h 1 (by omega) (by omega) _ _ _ (kind_step a h 2 (by omega) (by omega) _ _ _ (kind_step a h 3 (by omega) (by omega) _ _ _ (kind_step a h 4 (by omega) (by omega) _ _ _ ?_)))
  have e1 : bt (⟨#[112, 104, 108, 105]⟩ : ByteArray) (1 - 1) = 112 := by rfl
  have e2 : bt (⟨#[112, 104, 108, 105]⟩ : ByteArray) (2 - 1) = 104 := by rfl
  have e3 : bt (⟨#[112, 104, 108, 105]⟩ : ByteArray) (3 - 1) = 108 := by rfl
  have e4 : bt (⟨#[112, 104, 108, 105]⟩ : ByteArray) (4 - 1) = 105 := by rfl
  simp only [e1, e2, e3, e4]
  refine Ev.step (fun k => by rw [spec_markupLine.l1]) (Ev.neg (by omega) ?_)
  refine Ev.eqr (kinds_end a h _ d) ?_
  congr 1
  unfold klet
  generalize bt a 0 = b
  by_cases c1 : b = 112
  · subst c1; rfl
  by_cases c2 : b = 104
  · subst c2; rfl
  by_cases c3 : b = 108
  · subst c3; rfl
  by_cases c4 : b = 105
  · subst c4; rfl
  simp [c1, c2, c3, c4]
theorem kinds_short (a : ByteArray) (h : ¬ 2 ≤ a.size) (d : Int) : Ev (fun k => spec_markupLine.l1 k a 1 0 0 0 d ⟨#[]⟩) (0, 0, 0, d, ⟨#[]⟩) := by
  refine Ev.step (fun k => by rw [spec_markupLine.l1]) (Ev.pos (by omega) ?_)
  rw [decide_eq_false (by omega)]
  exact Ev.step (fun k => by rw [spec_markupLine.j3]) (Ev.neg (by simp) (Ev.neg (by omega) (Ev.now _)))
theorem line_end (a : ByteArray) (hp : ¬ (2 ≤ a.size ∧ (by_ a).take 2 = [32, 32])) (d : Int) (R : Int × Int × Int × Int × ByteArray) (hR : Ev (fun k => spec_markupLine.l1 k a 1 0 0 0 d ⟨#[]⟩) R) : Ev (fun k => spec_markupLine.l0 k a 0 0 0 d ⟨#[]⟩) R := by
  have hj : Ev (fun k => spec_markupLine.j1 k a 0 0 0 d ⟨#[]⟩) R := Ev.step (fun k => by rw [spec_markupLine.j1]) hR
  by_cases h2 : (a.size : Int) ≥ 2
  · have hn : (a.extract 0 2).toList ≠ ([32, 32] : List UInt8) := by
      rw [toList_by, by_ext, List.drop_zero]; exact fun e => hp ⟨by omega, e⟩
    exact Ev.step (fun k => by rw [spec_markupLine.l0]) (Ev.pos h2 (Ev.pos (by omega) (Ev.pos (by omega) (Ev.neg hn hj))))
  · exact Ev.step (fun k => by rw [spec_markupLine.l0]) (Ev.neg h2 hj)
theorem line_strip (a : ByteArray) (h2 : 2 ≤ a.size) (hp : (by_ a).take 2 = [32, 32]) (d : Int) (R : Int × Int × Int × Int × ByteArray) (hR : Ev (fun k => spec_markupLine.l0 k (a.extract 2 a.size) 0 0 0 (wrap64 (d + 1)) ⟨#[]⟩) R) :
    Ev (fun k => spec_markupLine.l0 k a 0 0 0 d ⟨#[]⟩) R := by
  have hn : (a.extract 0 2).toList = ([32, 32] : List UInt8) := by rw [toList_by, by_ext, List.drop_zero]; exact hp
  exact Ev.step (fun k => by rw [spec_markupLine.l0]) (Ev.pos (by omega) (Ev.pos (by omega) (Ev.pos (by omega) (Ev.pos hn hR))))
theorem line_tot : ∀ (n : Nat) (a : ByteArray) (d : Int), a.size ≤ n → ∃ (kd dd : Int) (t : ByteArray), Ev (fun k => spec_markupLine.l0 k a 0 0 0 d ⟨#[]⟩) (0, 0, kd, dd, t) ∧ t.size ≤ a.size := by
  intro n
  induction n with
  | zero =>
    intro a d hn
    exact ⟨0, d, ⟨#[]⟩, line_end a (by omega) d _ (kinds_short a (by omega) d), Nat.zero_le _⟩
  | succ n ih =>
    intro a d hn
    by_cases h2 : 2 ≤ a.size
    · by_cases hp : (by_ a).take 2 = [32, 32]
      · have hs : (a.extract 2 a.size).size = a.size - 2 := by rw [ByteArray.size_extract]; omega
        obtain ⟨kd, dd, t, hE, ht⟩ := ih (a.extract 2 a.size) (wrap64 (d + 1)) (by omega)
        exact ⟨kd, dd, t, line_strip a h2 hp d _ hE, by omega⟩
      · have hk := line_end a (fun h => hp h.2) d _ (kinds_ev a h2 d)
        unfold kend at hk
        by_cases c : klet (bt a 0) > 0
        · rw [if_pos c] at hk
          exact ⟨_, _, _, hk, by rw [ByteArray.size_extract]; omega⟩
        · rw [if_neg c] at hk
          exact ⟨_, _, _, hk, Nat.zero_le _⟩
    · exact ⟨0, d, ⟨#[]⟩, line_end a (fun h => h2 h.1) d _ (kinds_short a h2 d), Nat.zero_le _⟩
theorem line_back (kd : Int) (h1 : 1 ≤ kd) (h4 : kd ≤ 4) (t : ByteArray) (d0 : Nat) (hd : d0 ≤ 1000) : ∀ (m d : Nat) (cur : ByteArray), d + m = d0 → by_ cur = List.replicate (2 * m) 32 ++ letter kd :: 32 :: by_ t →
    Ev (fun k => spec_markupLine.l0 k cur 0 0 0 d ⟨#[]⟩) (0, 0, kd, (d0 : Int), t) := by
  have hk : kd = 1 ∨ kd = 2 ∨ kd = 3 ∨ kd = 4 := by omega
  intro m
  induction m with
  | zero =>
    intro d cur hdm hc
    obtain rfl : d = d0 := by omega
    rw [show 2 * 0 = 0 from rfl, List.replicate_zero, List.nil_append] at hc
    have hsz : cur.size = (by_ t).length + 2 := by rw [← by_len, hc]; rfl
    have b0 : bt cur ((0 : Nat) : Int) = ((letter kd).toNat : Int) := by rw [bt_nat cur 0 (by omega), hc]; rfl
    have hkl : klet (bt cur 0) = kd := by
      rw [show bt cur 0 = bt cur ((0 : Nat) : Int) from rfl, b0]
      rcases hk with rfl | rfl | rfl | rfl <;> rfl
    have hp : (by_ cur).take 2 ≠ [32, 32] := by
      rw [hc]
      rcases hk with rfl | rfl | rfl | rfl <;> simp [letter]
    have h := line_end cur (fun h => hp h.2) (d : Int) _ (kinds_ev cur (by omega) (d : Int))
    rw [hkl] at h
    unfold kend at h
    rw [if_pos (by omega)] at h
    have he : cur.extract 2 cur.size = t := by
      apply baext
      rw [by_ext, List.take_of_length_le (by rw [by_len]; omega), hc]; rfl
    rw [he] at h
    exact h
  | succ m ih =>
    intro d cur hdm hc
    have hc' : by_ cur = 32 :: 32 :: (List.replicate (2 * m) 32 ++ letter kd :: 32 :: by_ t) := by
      rw [hc, show 2 * (m + 1) = 2 * m + 1 + 1 by omega, List.replicate_succ, List.replicate_succ]; rfl
    have hsz : 2 ≤ cur.size := by rw [← by_len, hc']; simp
    refine line_strip cur hsz (by rw [hc']; rfl) (d : Int) _ ?_
    rw [wi (by omega)]
    refine ih (d + 1) _ (by omega) ?_
    rw [by_ext, List.take_of_length_le (by rw [by_len]; omega), hc']; rfl
theorem scan_on (s : ByteArray) (hs : s.size ≤ 1000000000) (rows : List S42) (hl : rows.length ≤ 40) (f i : Nat) (hi : i < s.size) (hb : (by_ s).getD i 0 ≠ 10) (R : List S42 × Bool)
    (hR : Ev (fun k => spec_ParseMarkup.l0 k s rows f ((i + 1 : Nat) : Int)) R) : Ev (fun k => spec_ParseMarkup.l0 k s rows f i) R := by
  refine Ev.step (fun k => by rw [spec_ParseMarkup.l0]) (Ev.pos (by omega) ?_)
  rw [decide_eq_true (by omega)]
  refine Ev.step (fun k => by rw [spec_ParseMarkup.j1]) (Ev.pos rfl (Ev.pos (by omega) (Ev.pos (by omega) (Ev.neg ?_ ?_))))
  · rw [bt_nat s i hi]
    intro e
    apply hb
    apply UInt8.toNat_inj.1
    show _ = 10
    omega
  · rw [wi (by omega)]; exact hR
theorem scan_nl (s : ByteArray) (hs : s.size ≤ 1000000000) (rows : List S42) (hl : rows.length ≤ 40) (f i : Nat) (hf : f ≤ i) (hi : i < s.size) (hb : (by_ s).getD i 0 = 10) (kd dd : Int) (t : ByteArray)
    (hE : Ev (fun k => spec_markupLine.l0 k (s.extract f i) 0 0 0 0 ⟨#[]⟩) (0, 0, kd, dd, t)) (R : List S42 × Bool)
    (hR : Ev (fun k => spec_ParseMarkup.l0 k s (rows ++ [(⟨⟨0, 0⟩, kd, dd, t⟩ : S42)]) ((i + 1 : Nat) : Int) ((i + 1 : Nat) : Int)) R) : Ev (fun k => spec_ParseMarkup.l0 k s rows f i) R := by
  refine Ev.step (fun k => by rw [spec_ParseMarkup.l0]) (Ev.pos (by omega) ?_)
  rw [decide_eq_true (by omega)]
  refine Ev.step (fun k => by rw [spec_ParseMarkup.j1]) (Ev.pos rfl (Ev.pos (by omega) (Ev.pos (by omega) (Ev.pos ?_ (Ev.pos (by omega) (Ev.pos (by omega) (Ev.pos (by omega) ?_)))))))
  · rw [bt_nat s i hi, hb]; rfl
  · unfold spec_markupLine.f
    rw [Int.toNat_natCast, Int.toNat_natCast, wi (by omega)]
    exact Ev.bind hE (Ev.pos (by omega) hR)
theorem scan_end (s : ByteArray) (rows : List S42) (hl : rows.length ≤ 41) (hz : ∀ r ∈ rows, r.f3.size ≤ 2000000) (f i : Int) (h : ¬ (i < (s.size : Int)) ∨ ¬ (rows.length : Int) ≤ 40) :
    Ev (fun k => spec_ParseMarkup.l0 k s rows f i) (if good rows = true ∧ wr rows = s then (rows, true) else ([], false)) := by
  have hj : Ev (fun k => spec_ParseMarkup.j1 k s rows f i false) (if good rows = true ∧ wr rows = s then (rows, true) else ([], false)) := by
    refine Ev.step (fun k => by rw [spec_ParseMarkup.j1]) (Ev.neg (by simp) (Ev.bind (contentf rows (by omega) hz) ?_))
    by_cases c : good rows = true
    · refine Ev.pos c (Ev.bind (spec_rows rows (by omega) hz) ?_)
      by_cases e : wr rows = s
      · have q : (if good rows = true ∧ wr rows = s then (rows, true) else (([] : List S42), false)) = (rows, true) := if_pos ⟨c, e⟩
        rw [q]; exact Ev.pos (congrArg ByteArray.toList e) (Ev.now _)
      · have q : (if good rows = true ∧ wr rows = s then (rows, true) else (([] : List S42), false)) = ([], false) := if_neg (fun h => e h.2)
        rw [q]
        exact Ev.neg (fun h : (wr rows).toList = s.toList => e (baext ((toList_by _).symm.trans (h.trans (toList_by _))))) (Ev.now _)
    · have q : (if good rows = true ∧ wr rows = s then (rows, true) else (([] : List S42), false)) = ([], false) := if_neg (fun h => c h.1)
      rw [q]; exact Ev.neg c (Ev.now _)
  by_cases c : i < (s.size : Int)
  · refine Ev.step (fun k => by rw [spec_ParseMarkup.l0]) (Ev.pos c ?_)
    rw [decide_eq_false (by omega)]; exact hj
  · exact Ev.step (fun k => by rw [spec_ParseMarkup.l0]) (Ev.neg c hj)
theorem spec_tot (s : ByteArray) (hs : s.size ≤ 2000000) : ∀ (m i f : Nat) (rows : List S42), i + m = s.size → f ≤ i → rows.length ≤ 41 → (∀ r ∈ rows, r.f0 = ⟨0, 0⟩ ∧ r.f3.size ≤ 2000000) →
    ∃ R, Ev (fun k => spec_ParseMarkup.l0 k s rows f i) R ∧ PR s R := by
  have ending : ∀ (i f : Nat) (rows : List S42), rows.length ≤ 41 → (∀ r ∈ rows, r.f0 = ⟨0, 0⟩ ∧ r.f3.size ≤ 2000000) → (¬ ((i : Int) < (s.size : Int)) ∨ ¬ (rows.length : Int) ≤ 40) → ∃ R, Ev (fun k => spec_ParseMarkup.l0 k s rows f i) R ∧ PR s R := by
    intro i f rows hl hr h
    refine ⟨_, scan_end s rows hl (fun r hm => (hr r hm).2) f i h, ?_⟩
    by_cases c : good rows = true ∧ wr rows = s
    · rw [if_pos c]; exact .inr ⟨rfl, hl, hr, c.2⟩
    · rw [if_neg c]; exact .inl rfl
  intro m
  induction m with
  | zero => intro i f rows hi hf hl hr; exact ending i f rows hl hr (.inl (by omega))
  | succ m ih =>
    intro i f rows hi hf hl hr
    by_cases h40 : rows.length ≤ 40
    · by_cases hb : (by_ s).getD i 0 = 10
      · obtain ⟨kd, dd, t, hE, ht⟩ := line_tot _ (s.extract f i) 0 (Nat.le_refl _)
        have hsz : (s.extract f i).size ≤ 2000000 := by rw [ByteArray.size_extract]; omega
        obtain ⟨R, hR, hP⟩ := ih (i + 1) (i + 1) (rows ++ [(⟨⟨0, 0⟩, kd, dd, t⟩ : S42)]) (by omega) (Nat.le_refl _) (by rw [List.length_append, List.length_singleton]; omega) (by
          intro r hm
          rcases List.mem_append.1 hm with h | h
          · exact hr r h
          · rw [List.mem_singleton.1 h]; exact ⟨rfl, Nat.le_trans ht hsz⟩)
        exact ⟨R, scan_nl s (by omega) rows h40 f i hf (by omega) hb kd dd t hE R hR, hP⟩
      · obtain ⟨R, hR, hP⟩ := ih (i + 1) f rows (by omega) (by omega) hl hr
        exact ⟨R, scan_on s (by omega) rows h40 f i (by omega) hb R hR, hP⟩
    · exact ending i f rows hl hr (.inr (by omega))
theorem scan_run (s : ByteArray) (hs : s.size ≤ 1000000000) (rows : List S42) (hl : rows.length ≤ 40) (f : Nat) (R : List S42 × Bool) (j : Nat) (hj : j ≤ s.size) (hR : Ev (fun k => spec_ParseMarkup.l0 k s rows f j) R) :
    ∀ m i : Nat, i + m = j → (∀ n, i ≤ n → n < j → (by_ s).getD n 0 ≠ 10) → Ev (fun k => spec_ParseMarkup.l0 k s rows f i) R := by
  intro m
  induction m with
  | zero => intro i hi _; rw [show i = j by omega]; exact hR
  | succ m ih =>
    intro i hi hn
    exact scan_on s hs rows hl f i (by omega) (hn i (Nat.le_refl _) (by omega)) R (ih (i + 1) (by omega) fun n h1 h2 => hn n (by omega) h2)
theorem spec_back (x : List S42) (hx : good x = true) (hz : ∀ r ∈ x, r.f0 = ⟨0, 0⟩ ∧ r.f3.size ≤ 2000000) : Ev (fun k => spec_ParseMarkup.f k (mk x)) (x, true) := by
  have hf := good_fit hx fun r h => (hz r h).2
  have h40 := hf.1
  have hp : x.all (fun r => prn r.f3) = true := by unfold good at hx; simp only [Bool.and_eq_true] at hx; exact hx.1
  have hsz : (mk x).size ≤ 90000000 := by have := fit_size hf x.length; rwa [List.take_of_length_le (Nat.le_refl _)] at this
  have hw : wr x = mk x := if_pos hx
  have go : ∀ m i : Nat, i + m = x.length → Ev (fun k => spec_ParseMarkup.l0 k (mk x) (x.take i) (((x.take i).flatMap line).length : Nat) (((x.take i).flatMap line).length : Nat)) (x, true) := by
    intro m
    induction m with
    | zero =>
      intro i hi
      rw [List.take_of_length_le (by omega)]
      refine Ev.eqr (scan_end (mk x) x (by omega) (fun r h => (hz r h).2) _ _ (.inl ?_)) (if_pos ⟨hx, hw⟩)
      rw [← by_len]
      show ¬ (((x.flatMap line).length : Nat) : Int) < (((x.flatMap line).length : Nat) : Int)
      omega
    | succ m ih =>
      intro i hi
      have hi' : i < x.length := by omega
      have hget : x.getD i z42 = x[i] := by simp [List.getD, hi']
      have hm : x.getD i z42 ∈ x := by rw [hget]; exact List.getElem_mem _
      have hg := fit_get hf hi'
      have hpr := List.all_eq_true.1 hp _ hm
      have hid := (hz _ hm).1
      have hsn : x.take (i + 1) = x.take i ++ [x.getD i z42] := by rw [List.take_succ_eq_append_getElem hi', hget]
      have hR := ih (i + 1) (by omega)
      rw [hsn] at hR
      have hsplit : by_ (mk x) = (x.take i).flatMap line ++ (body (x.getD i z42) ++ 10 :: (x.drop (i + 1)).flatMap line) := by
        show List.flatMap line x = _
        conv => lhs; rw [← List.take_append_drop i x, List.flatMap_append, drop_getD z42 x i hi', List.flatMap_cons, line_body]
        simp
      generalize hr : x.getD i z42 = r at *
      generalize hP : (x.take i).flatMap line = P at *
      generalize hQ : (x.drop (i + 1)).flatMap line = Q at *
      have hnb := body_nl r hg.1 hg.2.1 hpr
      have hl : (x.take i).length ≤ 40 := by rw [List.length_take]; omega
      have hS : (mk x).size = P.length + ((body r).length + (Q.length + 1)) := by rw [← by_len, hsplit, List.length_append, List.length_append, List.length_cons]
      have hg10 : (by_ (mk x)).getD (P.length + (body r).length) 0 = 10 := by
        rw [hsplit]
        simp [List.getD]
      refine scan_run (mk x) (by omega) (x.take i) hl P.length (x, true) (P.length + (body r).length) (by omega) ?_ _ P.length rfl ?_
      · refine scan_nl (mk x) (by omega) (x.take i) hl P.length _ (by omega) (by omega) hg10 r.f1 ((r.f2.toNat : Nat) : Int) r.f3 ?_ (x, true) ?_
        · refine line_back r.f1 hg.1 hg.2.1 r.f3 r.f2.toNat (by omega) r.f2.toNat 0 _ (by omega) ?_
          rw [by_ext, hsplit, ← List.append_assoc, ← List.length_append, List.take_left, List.drop_left]; rfl
        · have e : (⟨⟨0, 0⟩, r.f1, ((r.f2.toNat : Nat) : Int), r.f3⟩ : S42) = r := by
            obtain ⟨a, b, c, d⟩ := r
            simp only at hid hg ⊢
            rw [hid, show ((c.toNat : Nat) : Int) = c by omega]
          rw [e]
          have e2 : ((x.take i ++ [r]).flatMap line).length = P.length + (body r).length + 1 := by
            rw [List.flatMap_append, hP]
            simp [line_body]; omega
          rw [e2] at hR
          exact hR
      · intro n h1 h2 e
        apply hnb
        rw [hsplit] at e
        have : (body r).getD (n - P.length) 0 = 10 := by
          rw [← e]
          simp only [List.getD]
          rw [List.getElem?_append_right h1, List.getElem?_append_left (by omega)]
        rw [← this]
        have hlt : n - P.length < (body r).length := by omega
        simp only [List.getD, List.getElem?_eq_getElem hlt, Option.getD_some]
        exact List.getElem_mem _
  unfold spec_ParseMarkup.f
  exact go x.length 0 (by omega)
theorem impl_back (x : List S42) (hx : good x = true) (hz : ∀ r ∈ x, r.f0 = ⟨0, 0⟩ ∧ r.f3.size ≤ 2000000) : Ev (fun k => impl_ParseMarkup.f k (mk x)) (x, true) := by
  have hf := good_fit hx fun r h => (hz r h).2
  have h40 := hf.1
  have hp : x.all (fun r => prn r.f3) = true := by unfold good at hx; simp only [Bool.and_eq_true] at hx; exact hx.1
  have hw : wr x = mk x := if_pos hx
  unfold impl_ParseMarkup.f
  refine impl_parse_back (mk x) x hf hp (fun r h => (hz r h).1) (x, true) ?_ x.length 0 (by omega)
  refine Ev.step (fun k => by rw [impl_ParseMarkup.l0]) (Ev.pos ((toList_by _).trans rfl) (Ev.bind (impl_rows x (by omega) fun r h => (hz r h).2) (Ev.pos (congrArg ByteArray.toList hw) (Ev.now _))))
theorem parse_ev (s : ByteArray) (hs : s.size ≤ 2000000) : ∃ R : List S42 × Bool, Ev (fun k => impl_ParseMarkup.f k s) R ∧ Ev (fun k => spec_ParseMarkup.f k s) R ∧
    (R = ([], false) ∨ (R.2 = true ∧ (∀ r ∈ R.1, r.f0 = ⟨0, 0⟩ ∧ r.f3.size ≤ 2000000) ∧ good R.1 = true ∧ mk R.1 = s)) := by
  by_cases h : ∃ x : List S42, good x = true ∧ (∀ r ∈ x, r.f0 = ⟨0, 0⟩ ∧ r.f3.size ≤ 2000000) ∧ mk x = s
  · obtain ⟨x, hx, hz, rfl⟩ := h
    exact ⟨(x, true), impl_back x hx hz, spec_back x hx hz, .inr ⟨rfl, hz, hx, rfl⟩⟩
  · have no : ∀ R : List S42 × Bool, PR s R → R = ([], false) := by
      intro R hP
      rcases hP with hP | ⟨_, _, hz, hw⟩
      · exact hP
      · by_cases hg : good R.1 = true
        · exact absurd ⟨R.1, hg, hz, by rw [← hw]; exact (if_pos hg).symm⟩ h
        · refine absurd ⟨[], rfl, fun r hm => absurd hm (by simp), ?_⟩ h
          rw [← hw]; exact (if_neg hg).symm
    obtain ⟨R, hE, hP⟩ := impl_tot s s.size [] s (Nat.le_refl _) hs (by simp) (fun r hm => absurd hm (by simp))
    obtain ⟨R', hE', hP'⟩ := spec_tot s hs s.size 0 0 [] (by omega) (Nat.le_refl _) (by simp) (fun r hm => absurd hm (by simp))
    rw [no R hP] at hE
    rw [no R' hP'] at hE'
    exact ⟨([], false), hE, hE', .inl rfl⟩
def txt (x : List S42) : Nat := (x.map fun r => r.f3.size).sum
theorem txt_le (x : List S42) (B : Nat) (h : ∀ r ∈ x, r.f3.size ≤ B) : txt x ≤ x.length * B := by
  induction x with
  | nil => simp [txt]
  | cons a x ih =>
    have h1 := h a (List.mem_cons_self ..)
    have h2 := ih fun r hr => h r (List.mem_cons_of_mem _ hr)
    simp only [txt, List.map_cons, List.sum_cons, List.length_cons, Nat.succ_mul] at h2 ⊢
    omega
theorem txt_drop (x : List S42) (i : Nat) (h : i < x.length) : txt (x.drop i) = (x.getD i z42).f3.size + txt (x.drop (i + 1)) := by
  rw [drop_getD z42 x i h]; simp [txt]
theorem spec_cost (x : List S42) (hn : x.length ≤ 2000000) : ∀ (m i c : Nat), i + m = x.length → c + txt (x.drop i) ≤ 1000000000000 → Ev (fun k => spec_markupCost.l0 k x c i) ((c + txt (x.drop i) : Nat) : Int) := by
  intro m
  induction m with
  | zero =>
    intro i c hi hc
    refine Ev.step (fun k => by rw [spec_markupCost.l0]) (Ev.neg (by omega) (Ev.eqr (Ev.now _) ?_))
    rw [List.drop_of_length_le (by omega)]; simp [txt]
  | succ m ih =>
    intro i c hi hc
    rw [txt_drop x i (by omega)] at hc ⊢
    refine Ev.step (fun k => by rw [spec_markupCost.l0]) (Ev.pos (by omega) (Ev.pos (by omega) ?_))
    rw [rdT, wi (by omega), w64 (by omega) (by omega)]
    have := ih (i + 1) (c + (x.getD i z42).f3.size) (by omega) (by omega)
    rw [Nat.add_assoc] at this
    exact this
theorem impl_cost (x : List S42) (hn : x.length ≤ 2000000) : ∀ (m i c : Nat), i + m = x.length → c + txt (x.drop i) ≤ 1000000000000 → Ev (fun k => impl_MarkupCost.l0 k c x x.length i) ((c + txt (x.drop i) : Nat) : Int) := by
  intro m
  induction m with
  | zero =>
    intro i c hi hc
    refine Ev.step (fun k => by rw [impl_MarkupCost.l0]) (Ev.neg (by omega) (Ev.eqr (Ev.now _) ?_))
    rw [List.drop_of_length_le (by omega)]; simp [txt]
  | succ m ih =>
    intro i c hi hc
    rw [txt_drop x i (by omega)] at hc ⊢
    refine Ev.step (fun k => by rw [impl_MarkupCost.l0]) (Ev.pos (by omega) (Ev.pos (by omega) (Ev.pos (by omega) ?_)))
    rw [rdT, wi (by omega), w64 (by omega) (by omega)]
    have := ih (i + 1) (c + (x.getD i z42).f3.size) (by omega) (by omega)
    rw [Nat.add_assoc] at this
    exact this
theorem good_len {x : List S42} (h : good x = true) : x.length ≤ 40 := by
  unfold good at h; simp only [Bool.and_eq_true, decide_eq_true_eq] at h; exact h.2.2
def costR (R : List S42 × Bool) : Int := if R.2 = true then ((R.1.length + txt R.1 : Nat) : Int) else -1
theorem cost_ev (s : ByteArray) (hs : s.size ≤ 2000000) {R : List S42 × Bool} (h1 : Ev (fun k => impl_ParseMarkup.f k s) R) (h2 : Ev (fun k => spec_ParseMarkup.f k s) R)
    (hR : R = ([], false) ∨ (R.2 = true ∧ (∀ r ∈ R.1, r.f0 = ⟨0, 0⟩ ∧ r.f3.size ≤ 2000000) ∧ good R.1 = true ∧ mk R.1 = s)) : Ev (fun k => impl_MarkupCost.f k s) (costR R) ∧ Ev (fun k => spec_MarkupCost.f k s) (costR R) := by
  unfold impl_MarkupCost.f spec_MarkupCost.f
  rcases hR with rfl | ⟨h, hz, hg, -⟩
  · exact ⟨Ev.bind h1 (Ev.neg (by simp) (Ev.now _)), Ev.bind h2 (Ev.neg (by simp) (Ev.now _))⟩
  · have hl := good_len hg
    have ht := txt_le R.1 2000000 fun r hr => (hz r hr).2
    have := Nat.mul_le_mul_right 2000000 hl
    have e : costR R = ((R.1.length + txt (R.1.drop 0) : Nat) : Int) := by unfold costR; rw [if_pos h]; rfl
    rw [e]
    refine ⟨Ev.bind h1 (Ev.pos h (impl_cost R.1 (by omega) R.1.length 0 R.1.length (by omega) (by rw [List.drop_zero]; omega))), Ev.bind h2 (Ev.pos h (Ev.bind ?_ (Ev.now _)))⟩
    unfold spec_markupCost.f
    exact spec_cost R.1 (by omega) R.1.length 0 R.1.length (by omega) (by rw [List.drop_zero]; omega)
theorem R_len {s : ByteArray} {R : List S42 × Bool} (hR : R = ([], false) ∨ (R.2 = true ∧ (∀ r ∈ R.1, r.f0 = ⟨0, 0⟩ ∧ r.f3.size ≤ 2000000) ∧ good R.1 = true ∧ mk R.1 = s)) : R.1.length ≤ 40 := by
  rcases hR with rfl | ⟨_, _, hg, -⟩
  · simp
  · exact good_len hg
theorem wf_u8 {x : Int} (h : (Lit.int .u8 x).wf = true) : 0 ≤ x ∧ x ≤ 255 := by
  simp [Lit.wf, IntKind.min, IntKind.max, IntKind.signed, IntKind.bits] at h
  omega
theorem newReader_ev (l : List Int) (hl : ∀ x ∈ l, (Lit.int .u8 x).wf = true) : ∃ b, spec_newReader.f l = some (b, 0) ∧ RB b := by
  have hb : ∀ x ∈ l, 0 ≤ x ∧ x ≤ 255 := by
    intro x hx
    exact wf_u8 (hl x hx)
  unfold spec_newReader.f
  by_cases c : (l.length : Int) > 2000
  · exact ⟨l.take 2000, by rw [if_pos c, if_pos (by omega)], fun x hx => hb x (List.mem_of_mem_take hx), by rw [List.length_take]; omega⟩
  · exact ⟨l, by rw [if_neg c], hb, by omega⟩
def RR (x : List S42) : Prop := x.length ≤ 6 ∧ ∀ r ∈ x, r.f3.size ≤ 10
theorem RR_snoc {x : List S42} {r : S42} {n : Nat} (h : ∀ r ∈ x, r.f3.size ≤ 10) (hr : r.f3.size ≤ 10) : ∀ r' ∈ x ++ [r], r'.f3.size ≤ 10 := by
  intro r' h'
  rcases List.mem_append.1 h' with h1 | h1
  · exact h r' h1
  · rw [List.mem_singleton.1 h1]; exact hr
theorem RR_set {x : List S42} (h : RR x) (i : Nat) (r : S42) (hr : r.f3.size ≤ 10) : RR (x.set i r) := by
  refine ⟨by rw [List.length_set]; exact h.1, fun r' h' => ?_⟩
  rcases List.mem_or_eq_of_mem_set h' with h1 | rfl
  · exact h.2 r' h1
  · exact hr
theorem RR_get {x : List S42} (h : ∀ r ∈ x, r.f3.size ≤ 10) (i : Int) : (rd_T42 x i).f3.size ≤ 10 := by
  unfold rd_T42 List.getD
  cases e : x[i.toNat]? with
  | none => show (z42).f3.size ≤ 10; decide
  | some v => exact h v (List.mem_of_getElem? e)
theorem rows_draw {b : List Int} (hb : RB b) : ∀ (m : Nat) (x : List S42) (p : Int), x.length + m ≤ 6 → (∀ r ∈ x, r.f3.size ≤ 10) → 0 ≤ p → p ≤ 1000 + 100 * (10 - m) → ∃ R q, Ev (fun k => spec_randomRows.l0 k x m b p) (R, q) ∧ RR R ∧ 0 ≤ q ∧ q ≤ 10000 := by
  intro m
  induction m with
  | zero =>
    intro x p hx hs p0 p1
    by_cases h0 : x.length = 0
    · exact ⟨x, p, Ev.step (fun k => by rw [spec_randomRows.l0]) (Ev.neg (by omega) (Ev.neg (by omega) (Ev.now _))), ⟨by omega, hs⟩, p0, by omega⟩
    obtain ⟨v, e1, v0, v1, -⟩ := pick_ev hb (p := p) p0 (by omega) (x.length : Int) (by omega)
    have hv := v1 (by omega)
    obtain ⟨u, e2, -⟩ := pick_ev hb (p := p + 1) (by omega) (by omega) 12 (by omega)
    have hR : RR x := ⟨by omega, hs⟩
    by_cases c0 : u = 0
    · refine ⟨_, p + 1 + 1, Ev.step (fun k => by rw [spec_randomRows.l0]) (Ev.neg (by omega) (Ev.pos (by omega) (Ev.bind e1 (Ev.bind e2 (Ev.pos c0 (Ev.pos v0 (Ev.pos hv (Ev.now _)))))))), ?_, by omega, by omega⟩
      exact RR_set hR _ _ (RR_get hs _)
    by_cases c1 : u = 1
    · obtain ⟨w, e3, -⟩ := one_ev hb (p := p + 1 + 1) (by omega) (by omega) [0, 5, 4] (by simp) (by simp)
      refine ⟨_, p + 1 + 1 + 1, Ev.step (fun k => by rw [spec_randomRows.l0]) (Ev.neg (by omega) (Ev.pos (by omega) (Ev.bind e1 (Ev.bind e2 (Ev.neg c0 (Ev.pos c1 (Ev.bind e3 (Ev.pos v0 (Ev.pos hv (Ev.now _)))))))))), ?_, by omega, by omega⟩
      exact RR_set hR _ _ (RR_get hs _)
    by_cases c2 : u = 2
    · refine ⟨_, p + 1 + 1, Ev.step (fun k => by rw [spec_randomRows.l0]) (Ev.neg (by omega) (Ev.pos (by omega) (Ev.bind e1 (Ev.bind e2 (Ev.neg c0 (Ev.neg c1 (Ev.pos c2 (Ev.pos v0 (Ev.pos hv (Ev.now _)))))))))), ?_, by omega, by omega⟩
      exact RR_set hR _ _ (show (⟨#[97, 10]⟩ : ByteArray).size ≤ 10 by decide)
    · exact ⟨x, p + 1 + 1, Ev.step (fun k => by rw [spec_randomRows.l0]) (Ev.neg (by omega) (Ev.pos (by omega) (Ev.bind e1 (Ev.bind e2 (Ev.neg c0 (Ev.neg c1 (Ev.neg c2 (Ev.now _)))))))), hR, by omega, by omega⟩
  | succ m ih =>
    intro x p hx hs p0 p1
    obtain ⟨kd, e1, -⟩ := one_ev hb (p := p) p0 (by omega) [1, 2, 3, 3, 1] (by simp) (by simp)
    obtain ⟨t, e2, ht⟩ := of_ev hb (p := p + 1) (by omega) (by omega) [(⟨#[]⟩ : ByteArray), (⟨#[97]⟩ : ByteArray), (⟨#[112, 32, 120]⟩ : ByteArray), (⟨#[32, 32, 98]⟩ : ByteArray), (⟨#[104, 105]⟩ : ByteArray)] (by simp) (by simp)
    have ht' : t.size ≤ 10 := by
      simp only [List.mem_cons, List.not_mem_nil, or_false] at ht
      rcases ht with rfl | rfl | rfl | rfl | rfl <;> decide
    have wm : wrap64 (((m + 1 : Nat) : Int) - 1) = (m : Int) := by rw [w64 (by omega) (by omega)]; omega
    have next : ∀ (r : S42) (q : Int), r.f3.size ≤ 10 → 0 ≤ q → q ≤ p + 10 → ∃ R q', Ev (fun k => if x.length < 2932031007402 then (spec_randomRows.l0 k (x ++ [r]) (wrap64 (((m + 1 : Nat) : Int) - 1)) b q) else none) (R, q') ∧ RR R ∧ 0 ≤ q' ∧ q' ≤ 10000 := by
      intro r q hr q0 q1
      obtain ⟨R, q', e, h⟩ := ih (x ++ [r]) q (by rw [List.length_append, List.length_singleton]; omega) (RR_snoc (n := 0) hs hr) q0 (by omega)
      refine ⟨R, q', Ev.pos (by omega) ?_, h⟩
      rw [wm]; exact e
    by_cases h0 : x.length = 0
    · obtain ⟨R, q', e, h⟩ := next (⟨(⟨0, 0⟩ : S40), kd, 0, t⟩ : S42) (p + 1 + 1) ht' (by omega) (by omega)
      exact ⟨R, q', Ev.step (fun k => by rw [spec_randomRows.l0]) (Ev.pos (by omega) (Ev.bind e1 (Ev.bind e2 (Ev.neg (show ¬ (x.length : Int) > 0 by omega) e)))), h⟩
    have ew : wrap64 ((x.length : Int) - 1) = (x.length : Int) - 1 := w64 (by omega) (by omega)
    have body : ∀ a0 a1 kd dd : Int, ∀ g0 g1 g2 g3 : Int, ∀ gt : ByteArray, ∃ R q', Ev (fun k => spec_randomRows.j1 k x ((m + 1 : Nat) : Int) b (p + 1 + 1) a0 a1 kd dd t g0 g1 g2 g3 gt) (R, q') ∧ RR R ∧ 0 ≤ q' ∧ q' ≤ 10000 := by
      intro a0 a1 kd dd g0 g1 g2 g3 gt
      by_cases c4 : g2 = 4
      · obtain ⟨u, e3, -⟩ := pick_ev hb (p := p + 1 + 1) (by omega) (by omega) 2 (by omega)
        by_cases cu : u = 0
        · obtain ⟨kd', e4, -⟩ := one_ev hb (p := p + 1 + 1 + 1) (by omega) (by omega) [1, 3] (by simp) (by simp)
          obtain ⟨R, q', e, h⟩ := next (⟨(⟨a0, a1⟩ : S40), kd', wrap64 (g3 + 1), t⟩ : S42) (p + 1 + 1 + 1 + 1) ht' (by omega) (by omega)
          exact ⟨R, q', Ev.step (fun k => by rw [spec_randomRows.j1]) (Ev.pos c4 (Ev.bind e3 (Ev.pos cu (Ev.bind e4 e)))), h⟩
        · obtain ⟨R, q', e, h⟩ := next (⟨(⟨a0, a1⟩ : S40), kd, dd, t⟩ : S42) (p + 1 + 1 + 1) ht' (by omega) (by omega)
          exact ⟨R, q', Ev.step (fun k => by rw [spec_randomRows.j1]) (Ev.pos c4 (Ev.bind e3 (Ev.neg cu e))), h⟩
      · obtain ⟨R, q', e, h⟩ := next (⟨(⟨a0, a1⟩ : S40), kd, dd, t⟩ : S42) (p + 1 + 1) ht' (by omega) (by omega)
        exact ⟨R, q', Ev.step (fun k => by rw [spec_randomRows.j1]) (Ev.neg c4 e), h⟩
    by_cases c3 : (rd_T42 x (wrap64 ((x.length : Int) - 1))).f1 = 3
    · obtain ⟨R, q', e, h⟩ := body 0 0 4 (wrap64 (((rd_T42 x (wrap64 ((x.length : Int) - 1))).f2) + 1)) ((rd_T42 x (wrap64 ((x.length : Int) - 1))).f0.f0) ((rd_T42 x (wrap64 ((x.length : Int) - 1))).f0.f1) ((rd_T42 x (wrap64 ((x.length : Int) - 1))).f1) ((rd_T42 x (wrap64 ((x.length : Int) - 1))).f2) ((rd_T42 x (wrap64 ((x.length : Int) - 1))).f3)
      exact ⟨R, q', Ev.step (fun k => by rw [spec_randomRows.l0]) (Ev.pos (by omega) (Ev.bind e1 (Ev.bind e2 (Ev.pos (show (x.length : Int) > 0 by omega) (Ev.pos (show 0 ≤ wrap64 ((x.length : Int) - 1) by omega) (Ev.pos (show wrap64 ((x.length : Int) - 1) < (x.length : Int) by omega) (Ev.pos c3 e))))))), h⟩
    · obtain ⟨R, q', e, h⟩ := body 0 0 kd 0 ((rd_T42 x (wrap64 ((x.length : Int) - 1))).f0.f0) ((rd_T42 x (wrap64 ((x.length : Int) - 1))).f0.f1) ((rd_T42 x (wrap64 ((x.length : Int) - 1))).f1) ((rd_T42 x (wrap64 ((x.length : Int) - 1))).f2) ((rd_T42 x (wrap64 ((x.length : Int) - 1))).f3)
      exact ⟨R, q', Ev.step (fun k => by rw [spec_randomRows.l0]) (Ev.pos (by omega) (Ev.bind e1 (Ev.bind e2 (Ev.pos (show (x.length : Int) > 0 by omega) (Ev.pos (show 0 ≤ wrap64 ((x.length : Int) - 1) by omega) (Ev.pos (show wrap64 ((x.length : Int) - 1) < (x.length : Int) by omega) (Ev.neg c3 e))))))), h⟩
theorem randomRows_ev {b : List Int} (hb : RB b) : ∃ R q, Ev (fun k => spec_randomRows.f k b 0) (R, q) ∧ RR R ∧ 0 ≤ q ∧ q ≤ 10000 := by
  obtain ⟨v, e1, v0, v1, -⟩ := pick_ev hb (p := 0) (by omega) (by omega) 6 (by omega)
  have hv := v1 (by omega)
  obtain ⟨m, rfl⟩ := Int.eq_ofNat_of_zero_le v0
  obtain ⟨R, q, e, h⟩ := rows_draw hb m [] (0 + 1) (by simp; omega) (by simp) (by omega) (by omega)
  refine ⟨R, q, ?_, h⟩
  unfold spec_randomRows.f
  exact Ev.bind e1 e
theorem wr_size {x : List S42} (h : RR x) : (wr x).size ≤ 600 := by
  unfold wr
  by_cases c : good x = true
  · rw [if_pos c]
    have hv : vr [] x = true := by unfold good at c; simp only [Bool.and_eq_true] at c; exact c.2.1
    have h1 := h.1
    have := mk_size x 100 fun r hr => by
      have h2 := h.2 r hr
      have h3 := vr_row x [] hv r hr
      simp only [List.length_nil] at h3
      rw [line_len]; omega
    have := Nat.mul_le_mul_right 100 h1
    omega
  · rw [if_neg c]; decide
theorem mutate_ev {b : List Int} (hb : RB b) {p : Int} (p0 : 0 ≤ p) (p1 : p ≤ 10000000) (s : ByteArray) (hs : s.size ≤ 100000000) : ∃ t q, Ev (fun k => spec_mutate.f k b p s) (t, q) ∧ t.size ≤ s.size + 10 := by
  obtain ⟨v, e1, v0, v1, -⟩ := pick_ev hb (p := p) p0 (by omega) (wrap64 ((s.size : Int) + 1)) (by rw [w64 (by omega) (by omega)]; omega)
  rw [w64 (n := (s.size : Int) + 1) (by omega) (by omega)] at v1
  have hv := v1 (by omega)
  obtain ⟨u, e2, -⟩ := pick_ev hb (p := p + 1) (by omega) (by omega) 5 (by omega)
  obtain ⟨n, rfl⟩ := Int.eq_ofNat_of_zero_le v0
  unfold spec_mutate.f
  have el : ∀ l : List ByteArray, l.all (fun x => decide (x.size ≤ 1)) = true → ∀ t ∈ l, t.size ≤ 1 := fun l h t ht => of_decide_eq_true (List.all_eq_true.1 h t ht)
  by_cases c0 : u = 0
  · by_cases cn : (n : Int) < (s.size : Int)
    · obtain ⟨w, e3, hw⟩ := of_ev hb (p := p + 1 + 1) (by omega) (by omega) [(⟨#[48]⟩ : ByteArray), (⟨#[49]⟩ : ByteArray), (⟨#[32]⟩ : ByteArray), (⟨#[45]⟩ : ByteArray), (⟨#[97]⟩ : ByteArray), (⟨#[98]⟩ : ByteArray), (⟨#[10]⟩ : ByteArray), (⟨#[120]⟩ : ByteArray)] (by simp) (by simp)
      have hw' := el _ (by decide) w hw
      have a1 : (s.extract 0 n).size ≤ n := by rw [ByteArray.size_extract]; omega
      have a2 : (s.extract (n + 1) s.size).size ≤ s.size - (n + 1) := by rw [ByteArray.size_extract]; omega
      refine ⟨_, _, Ev.bind e1 (Ev.bind e2 (Ev.pos c0 (Ev.pos cn (Ev.pos (by omega) (Ev.pos (by dsimp only; omega) (Ev.bind e3 (Ev.pos ?_ (Ev.pos ?_ (Ev.pos ?_ (Ev.pos ?_ (Ev.now _))))))))))), ?_⟩
      · dsimp only; rw [Int.toNat_natCast]; omega
      · rw [wi (by omega)]; omega
      · rw [wi (by omega)]; omega
      · dsimp only; rw [wi (by omega), Int.toNat_natCast, Int.toNat_natCast, ByteArray.size_append]; omega
      · dsimp only; rw [wi (by omega), Int.toNat_natCast, Int.toNat_natCast, ByteArray.size_append, ByteArray.size_append]; omega
    · exact ⟨s, _, Ev.bind e1 (Ev.bind e2 (Ev.pos c0 (Ev.neg cn (Ev.now _)))), by omega⟩
  by_cases c1 : u = 1
  · refine ⟨_, _, Ev.bind e1 (Ev.bind e2 (Ev.neg c0 (Ev.pos c1 (Ev.pos (by omega) (Ev.pos (by dsimp only; omega) (Ev.now _)))))), ?_⟩
    rw [ByteArray.size_extract]; omega
  by_cases c2 : u = 2
  · obtain ⟨w, e3, hw⟩ := of_ev hb (p := p + 1 + 1) (by omega) (by omega) [(⟨#[48]⟩ : ByteArray), (⟨#[32]⟩ : ByteArray), (⟨#[10]⟩ : ByteArray), (⟨#[120]⟩ : ByteArray)] (by simp) (by simp)
    have hw' := el _ (by decide) w hw
    refine ⟨_, _, Ev.bind e1 (Ev.bind e2 (Ev.neg c0 (Ev.neg c1 (Ev.pos c2 (Ev.bind e3 (Ev.pos (by dsimp only; omega) (Ev.now _))))))), ?_⟩
    dsimp only; rw [ByteArray.size_append]; omega
  · exact ⟨s, _, Ev.bind e1 (Ev.bind e2 (Ev.neg c0 (Ev.neg c1 (Ev.neg c2 (Ev.now _))))), by omega⟩
theorem drawParse_ev (l : List Int) (hl : ∀ x ∈ l, (Lit.int .u8 x).wf = true) : ∃ s, Ev (fun k => spec_DrawParseMarkup.f k l) s ∧ s.size ≤ 1000 := by
  obtain ⟨b, e, hb⟩ := newReader_ev l hl
  obtain ⟨R, q, e2, h, q0, q1⟩ := randomRows_ev hb
  have hw := wr_size h
  have e3 := spec_rows R (by have := h.1; omega) fun r hr => by have := h.2 r hr; omega
  obtain ⟨v, e4, -⟩ := pick_ev hb (p := q) q0 (by omega) 3 (by omega)
  by_cases c : v > 0
  · refine ⟨wr R, ?_, by omega⟩
    unfold spec_DrawParseMarkup.f
    exact Ev.bindv e (Ev.bind e2 (Ev.bind e3 (Ev.bind e4 (Ev.pos c (Ev.now _)))))
  · obtain ⟨t, q', e5, ht⟩ := mutate_ev hb (p := q + 1) (by omega) (by omega) (wr R) (by omega)
    refine ⟨t, ?_, by omega⟩
    unfold spec_DrawParseMarkup.f
    exact Ev.bindv e (Ev.bind e2 (Ev.bind e3 (Ev.bind e4 (Ev.neg c (Ev.bind e5 (Ev.now _))))))
theorem law_cost (x : List S42) (hn : x.length ≤ 2000000) (n : Int) : ∀ (m i c : Nat), i + m = x.length → c + txt (x.drop i) ≤ 1000000000000 → Ev (fun k => laws_FnMarkupCost.l0 k n x c i) (n == ((c + txt (x.drop i) : Nat) : Int)) := by
  intro m
  induction m with
  | zero =>
    intro i c hi hc
    refine Ev.step (fun k => by rw [laws_FnMarkupCost.l0]) (Ev.neg (by omega) (Ev.eqr (Ev.now _) ?_))
    rw [List.drop_of_length_le (by omega)]; simp [txt]
  | succ m ih =>
    intro i c hi hc
    rw [txt_drop x i (by omega)] at hc ⊢
    refine Ev.step (fun k => by rw [laws_FnMarkupCost.l0]) (Ev.pos (by omega) (Ev.pos (by omega) ?_))
    rw [rdT, wi (by omega), w64 (by omega) (by omega)]
    have := ih (i + 1) (c + (x.getD i z42).f3.size) (by omega) (by omega)
    rw [Nat.add_assoc] at this
    exact this
theorem pure_MarkupCost : laws_FnMarkupCost.Pure := by
  intro l _ _ hl
  refine Ev.rounds ?_
  unfold laws_FnMarkupCost.f
  by_cases c0 : (l.length : Int) > 1048576
  · exact Ev.pos c0 (Ev.now _)
  obtain ⟨s, e, hs⟩ := drawParse_ev l hl
  obtain ⟨R, h1, h2, hR⟩ := parse_ev s (by omega)
  have hc := cost_ev s (by omega) h1 h2 hR
  have hl := R_len hR
  refine Ev.neg c0 (Ev.bind (by unfold spec_DrawMarkupCost.f; exact Ev.bind e (Ev.now _)) (Ev.bind hc.1 (Ev.bind h1 (Ev.bind hc.2 (Ev.pos rfl ?_)))))
  rcases hR with rfl | ⟨h, hz, hg, hm⟩
  · refine Ev.step (fun k => by rw [laws_FnMarkupCost.j0]) ?_
    exact Ev.pos rfl (Ev.bind hc.2 (Ev.pos rfl (Ev.now _)))
  · rw [h]
    have ht := txt_le R.1 2000000 fun r hr => (hz r hr).2
    have := Nat.mul_le_mul_right 2000000 hl
    refine Ev.step (fun k => by rw [laws_FnMarkupCost.j0]) (Ev.neg (by simp) ?_)
    refine Ev.eqr (law_cost R.1 (by omega) _ R.1.length 0 R.1.length (by omega) (by rw [List.drop_zero]; omega)) ?_
    unfold costR
    rw [if_pos h, List.drop_zero]
    simp
end Go.Proofs.Ytoenoaipjcmdnaa.Q
