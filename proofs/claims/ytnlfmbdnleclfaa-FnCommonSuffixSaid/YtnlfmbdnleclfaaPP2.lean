import Derived.Laws.BitsLemmas
import Derived.Test.YtnlfmbdnleclfaaWB
import Derived.Test.YtnlfmbdnleclfaaQ17
import Derived.Test.YtnlfmbdnleclfaaQ18
import Derived.Test.YtnlfmbdnleclfaaQ19
import Derived.Test.YtnlfmbdnleclfaaQ20
import Derived.Test.YtnlfmbdnleclfaaQ21
import Derived.Test.YtnlfmbdnleclfaaQ22
import Derived.Test.YtnlfmbdnleclfaaQ48
import Derived.Test.YtnlfmbdnleclfaaPP1
namespace Go.Proofs.Ytnlfmbdnleclfaa.Q
open Go.RowKit Go.Proofs.YtnlfmbdnleclfaaW.PrintWords Go.Proofs.YtnlfmbdnleclfaaW.PrintLast Go.Proofs.YtnlfmbdnleclfaaW.PrintMore
set_option linter.unusedVariables false
set_option linter.unusedSimpArgs false
set_option linter.unusedSectionVars false
theorem xor_nonneg (x y : Int) (hx : 0 ≤ x) (hx' : x < 4611686018427387904) (hy : 0 ≤ y) (hy' : y < 4611686018427387904) : 0 ≤ Go.bits .xor .i64 x y := by
  obtain ⟨a, rfl⟩ := Int.eq_ofNat_of_zero_le hx
  obtain ⟨b, rfl⟩ := Int.eq_ofNat_of_zero_le hy
  have ha : a < 2 ^ 62 := by omega
  have hb : b < 2 ^ 62 := by omega
  have hc := Nat.xor_lt_two_pow ha hb
  have ha' : a % 2 ^ IntKind.i64.bits = a := Nat.mod_eq_of_lt (show a < 2 ^ 64 by omega)
  have hb' : b % 2 ^ IntKind.i64.bits = b := Nat.mod_eq_of_lt (show b < 2 ^ 64 by omega)
  simp only [Go.bits, BitVec.ofInt_natCast, BitVec.toNat_xor, BitVec.toNat_ofNat, ha', hb']
  rw [IntKind.wrap_i64]
  omega

/-- The bytes that a reader holds. -/
def RB (b : List Int) : Prop := (∀ x ∈ b, 0 ≤ x ∧ x ≤ 255) ∧ b.length ≤ 2000
theorem rd_byte {b : List Int} (h : RB b) (i : Int) : 0 ≤ rd b i ∧ rd b i ≤ 255 := by
  unfold rd List.getD
  cases e : b[i.toNat]? with
  | none => simp
  | some v => exact h.1 v (List.mem_of_getElem? e)

theorem pick_ev {b : List Int} (hb : RB b) {p : Int} (hp : 0 ≤ p) (hp' : p ≤ 1000000000) (n : Int) (hn : n ≤ 1000000000) :
    ∃ v, Ev (fun k => spec_reader_pick.f k b p n) (v, p + 1) ∧ 0 ≤ v ∧ (1 ≤ n → v < n) ∧ (n < 1 → v = 0) := by
  unfold spec_reader_pick.f
  have e1 : wrap64 (p + 1) = p + 1 := w64 (by omega) (by omega)
  have e2 : wrap64 (p + 1 - 1) = p := by rw [w64 (by omega) (by omega)]; omega
  have hl := hb.2
  by_cases h1 : n < 1
  · refine ⟨0, Ev.pos h1 (Ev.step (fun k => by rw [spec_reader_pick.j0]) ?_), by omega, by omega, fun _ => rfl⟩
    rw [e1]
    exact Ev.pos rfl (Ev.now _)
  by_cases h2 : b.length = 0
  · refine ⟨0, Ev.neg h1 (Ev.step (fun k => by rw [spec_reader_pick.j0]) ?_), by omega, by omega, fun _ => rfl⟩
    rw [e1]
    exact Ev.pos (by simp [h2]) (Ev.now _)
  have hne : ((b.length : Int) == 0) = false := by simp; intro h; exact h2 (by rw [h]; rfl)
  by_cases h3 : p < (b.length : Int)
  · have hr := rd_byte hb p
    refine ⟨Int.tmod (rd b p) n, Ev.neg h1 (Ev.step (fun k => by rw [spec_reader_pick.j0]) ?_), Int.tmod_nonneg _ hr.1, fun h => Int.tmod_lt_of_pos _ (by omega), by omega⟩
    rw [e1, e2, hne]
    refine Ev.neg (by simp) (Ev.pos h3 (Ev.pos hp (Ev.neg (by omega) ?_)))
    rw [w64 (by omega) (by omega)]
    exact Ev.now _
  · have hlen : (0 : Int) < (b.length : Int) := by omega
    have f1 : wrap64 (p * 7) = p * 7 := w64 (by omega) (by omega)
    have f2 : wrap64 (p * 7 + 3) = p * 7 + 3 := w64 (by omega) (by omega)
    have m1 := Int.tmod_nonneg (b.length : Int) hp
    have m2 := Int.tmod_lt_of_pos p hlen
    have m3 := Int.tmod_nonneg (b.length : Int) (show (0 : Int) ≤ p * 7 + 3 by omega)
    have m4 := Int.tmod_lt_of_pos (p * 7 + 3) hlen
    have r1 := rd_byte hb (Int.tmod p (b.length : Int))
    have r2 := rd_byte hb (Int.tmod (p * 7 + 3) (b.length : Int))
    have q0 : 0 ≤ Int.tdiv p (b.length : Int) := Int.tdiv_nonneg hp (by omega)
    have q1 : Int.tdiv p (b.length : Int) ≤ p := by
      rw [Int.tdiv_eq_ediv_of_nonneg hp]; exact Int.ediv_le_self _ hp
    have go : ∀ k, ∃ v, spec_reader_pick.j0 (k + 1) n false b (p + 1) = spec_reader_pick.j0 1 n false b (p + 1) ∧ spec_reader_pick.j0 1 n false b (p + 1) = some (v, p + 1) ∧ 0 ≤ v ∧ (1 ≤ n → v < n) ∧ (n < 1 → v = 0) := by
      intro k
      simp only [spec_reader_pick.j0, e2, f1, f2, Bool.false_eq_true, if_false, if_neg h3, if_neg (show ¬ (b.length : Int) = 0 by omega), if_pos m1, if_pos m2, if_pos m3, if_pos m4, if_neg (show ¬ n = 0 by omega)]
      generalize rd b (Int.tmod p (b.length : Int)) = x at *
      generalize rd b (Int.tmod (p * 7 + 3) (b.length : Int)) = y at *
      generalize Int.tdiv p (b.length : Int) = z at *
      rw [w64 (n := x) (by omega) (by omega), w64 (n := y) (by omega) (by omega), w64 (n := z) (by omega) (by omega), w64 (n := x * 131) (by omega) (by omega), w64 (n := y * 1117) (by omega) (by omega),
        w64 (n := p * 29) (by omega) (by omega), w64 (n := z * 53) (by omega) (by omega), w64 (n := x * 131 + y * 1117) (by omega) (by omega), w64 (n := x * 131 + y * 1117 + p * 29) (by omega) (by omega),
        w64 (n := x * 131 + y * 1117 + p * 29 + z * 53) (by omega) (by omega)]
      have hs0 : 0 ≤ x * 131 + y * 1117 + p * 29 + z * 53 := by omega
      have hs1 : x * 131 + y * 1117 + p * 29 + z * 53 < 1000000000000 := by omega
      generalize x * 131 + y * 1117 + p * 29 + z * 53 = s at *
      have hd0 : 0 ≤ Int.tdiv s 64 := Int.tdiv_nonneg hs0 (by omega)
      have hd1 : Int.tdiv s 64 ≤ s := by rw [Int.tdiv_eq_ediv_of_nonneg hs0]; exact Int.ediv_le_self _ hs0
      rw [w64 (n := Int.tdiv s 64) (by omega) (by omega)]
      have hx := xor_nonneg s (Int.tdiv s 64) hs0 (by omega) hd0 (by omega)
      exact ⟨_, trivial, rfl, Int.tmod_nonneg _ hx, fun h => Int.tmod_lt_of_pos _ (by omega), by omega⟩
    obtain ⟨v, -, hv, hr⟩ := go 0
    refine ⟨v, Ev.neg h1 ?_, hr⟩
    rw [e1, hne]
    refine Ev.step (f := fun _ => some (v, p + 1)) (fun k => ?_) (Ev.now _)
    obtain ⟨v', h1, h2, -⟩ := go k
    rw [h1, hv]

theorem of_ev {b : List Int} (hb : RB b) {p : Int} (hp : 0 ≤ p) (hp' : p ≤ 1000000000) (l : List ByteArray) (h0 : 1 ≤ l.length) (h1 : l.length ≤ 1000) :
    ∃ s, Ev (fun k => spec_reader_of.f k b p l) (s, p + 1) ∧ s ∈ l := by
  obtain ⟨v, e, v0, v1, -⟩ := pick_ev hb hp hp' (l.length : Int) (by omega)
  have hv := v1 (by omega)
  have hv' : v.toNat < l.length := by omega
  refine ⟨rdOf ByteArray.empty l v, ?_, ?_⟩
  · unfold spec_reader_of.f
    exact Ev.bind e (Ev.pos v0 (Ev.pos hv (Ev.now _)))
  · unfold rdOf List.getD
    rw [List.getElem?_eq_getElem hv']
    exact List.getElem_mem hv'
theorem one_ev {b : List Int} (hb : RB b) {p : Int} (hp : 0 ≤ p) (hp' : p ≤ 1000000000) (l : List Int) (h0 : 1 ≤ l.length) (h1 : l.length ≤ 1000) :
    ∃ s, Ev (fun k => spec_reader_one.f k b p l) (s, p + 1) ∧ s ∈ l := by
  obtain ⟨v, e, v0, v1, -⟩ := pick_ev hb hp hp' (l.length : Int) (by omega)
  have hv := v1 (by omega)
  have hv' : v.toNat < l.length := by omega
  refine ⟨rd l v, ?_, ?_⟩
  · unfold spec_reader_one.f
    exact Ev.bind e (Ev.pos v0 (Ev.pos hv (Ev.now _)))
  · unfold rd List.getD
    rw [List.getElem?_eq_getElem hv']
    exact List.getElem_mem hv'

theorem short_loop {b : List Int} (hb : RB b) : ∀ (n : Nat) (x : ByteArray) (p : Int), 0 ≤ p → p + n ≤ 1000000000 → x.size + 2 * n ≤ 1000 →
    ∃ s, Ev (fun k => spec_shortText.l0 k x (n : Int) b p) (s, p + n) ∧ s.size ≤ x.size + 2 * n := by
  intro n
  induction n with
  | zero =>
    intro x p h0 h1 h2
    exact ⟨x, Ev.step (fun k => by rw [spec_shortText.l0]) (Ev.neg (by omega) (by rw [Int.natCast_zero, Int.add_zero]; exact Ev.now _)), by omega⟩
  | succ n ih =>
    intro x p h0 h1 h2
    obtain ⟨s, e, hs⟩ := of_ev hb h0 (by omega) [(⟨#[97]⟩ : ByteArray), (⟨#[98]⟩ : ByteArray), (⟨#[99]⟩ : ByteArray), (⟨#[97]⟩ : ByteArray), (⟨#[97, 98]⟩ : ByteArray)] (by simp) (by simp)
    have hsz : s.size ≤ 2 := by
      simp only [List.mem_cons, List.not_mem_nil, or_false] at hs
      rcases hs with rfl | rfl | rfl | rfl | rfl <;> decide
    obtain ⟨t, e2, ht⟩ := ih (x ++ s) (p + 1) (by omega) (by omega) (by rw [ByteArray.size_append]; omega)
    refine ⟨t, Ev.step (fun k => by rw [spec_shortText.l0]) (Ev.pos (by omega) (Ev.bind e ?_)), by rw [ByteArray.size_append] at ht; omega⟩
    rw [show wrap64 (((n + 1 : Nat) : Int) - 1) = (n : Int) by rw [w64 (by omega) (by omega)]; omega, show p + ((n + 1 : Nat) : Int) = p + 1 + (n : Int) by omega]
    exact Ev.pos (by dsimp only; omega) e2
theorem shortText_ev {b : List Int} (hb : RB b) {p : Int} (hp : 0 ≤ p) (hp' : p ≤ 900000000) :
    ∃ s p', Ev (fun k => spec_shortText.f k b p) (s, p') ∧ s.size ≤ 22 ∧ p ≤ p' ∧ p' ≤ p + 12 := by
  obtain ⟨v, e, v0, v1, -⟩ := pick_ev hb hp (by omega) 12 (by omega)
  have hv := v1 (by omega)
  obtain ⟨n, rfl⟩ := Int.eq_ofNat_of_zero_le v0
  obtain ⟨s, e2, hs⟩ := short_loop hb n ⟨#[]⟩ (p + 1) (by omega) (by omega) (by rw [show (⟨#[]⟩ : ByteArray).size = 0 from rfl]; omega)
  refine ⟨s, p + 1 + n, ?_, by rw [show (⟨#[]⟩ : ByteArray).size = 0 from rfl] at hs; omega, by omega, by omega⟩
  unfold spec_shortText.f
  exact Ev.bind e e2
theorem twoTexts_ev {b : List Int} (hb : RB b) {p : Int} (hp : 0 ≤ p) (hp' : p ≤ 800000000) :
    ∃ s t p', Ev (fun k => spec_twoTexts.f k b p) (s, t, p') ∧ s.size ≤ 22 ∧ t.size ≤ 61 ∧ p ≤ p' ∧ p' ≤ p + 30 := by
  obtain ⟨s, p1, e1, hs, h1, h1'⟩ := shortText_ev hb hp (by omega)
  obtain ⟨t, p2, e2, ht, h2, h2'⟩ := shortText_ev hb (p := p1) (by omega) (by omega)
  obtain ⟨v, e3, v0, v1, -⟩ := pick_ev hb (p := p2) (by omega) (by omega) 8 (by omega)
  unfold spec_twoTexts.f
  by_cases c0 : v = 0
  · exact ⟨s, s, p2 + 1, Ev.bind e1 (Ev.bind e2 (Ev.bind e3 (Ev.pos c0 (Ev.now _)))), hs, by omega, by omega, by omega⟩
  by_cases c1 : v = 1
  · exact ⟨s, s ++ t, p2 + 1, Ev.bind e1 (Ev.bind e2 (Ev.bind e3 (Ev.neg c0 (Ev.pos c1 (Ev.pos (by dsimp only; omega) (Ev.now _)))))), hs, by rw [ByteArray.size_append]; omega, by omega, by omega⟩
  by_cases c2 : v = 2
  · obtain ⟨u, e4, u0, u1, -⟩ := pick_ev hb (p := p2 + 1) (by omega) (by omega) ((s.size : Int) + 1) (by omega)
    have hu := u1 (by omega)
    have z1 : (s.extract 0 u.toNat).size = u.toNat := by rw [ByteArray.size_extract]; omega
    have z2 : (s.extract u.toNat s.size).size = s.size - u.toNat := by rw [ByteArray.size_extract]; omega
    refine ⟨s, (s.extract 0 u.toNat ++ ⟨#[120]⟩) ++ s.extract u.toNat s.size, p2 + 1 + 1, Ev.bind e1 (Ev.bind e2 (Ev.bind e3 (Ev.neg c0 (Ev.neg c1 (Ev.pos c2 ?_))))), hs, ?_, by omega, by omega⟩
    · dsimp only
      rw [w64 (by omega) (by omega)]
      refine Ev.bind e4 (Ev.pos u0 (Ev.pos (by dsimp only; omega) (Ev.pos ?_ (Ev.pos ?_ (Ev.now _)))))
      · dsimp only; rw [z1]; omega
      · dsimp only; rw [ByteArray.size_append, z1, z2, show (⟨#[120]⟩ : ByteArray).size = 1 from rfl]; omega
    · rw [ByteArray.size_append, ByteArray.size_append, z1, z2, show (⟨#[120]⟩ : ByteArray).size = 1 from rfl]; omega
  by_cases c3 : v = 3
  · exact ⟨s, _, p2 + 1, Ev.bind e1 (Ev.bind e2 (Ev.bind e3 (Ev.neg c0 (Ev.neg c1 (Ev.neg c2 (Ev.pos c3 (Ev.now _))))))), hs, by decide, by omega, by omega⟩
  · exact ⟨s, t, p2 + 1, Ev.bind e1 (Ev.bind e2 (Ev.bind e3 (Ev.neg c0 (Ev.neg c1 (Ev.neg c2 (Ev.neg c3 (Ev.now _))))))), hs, by omega, by omega, by omega⟩

theorem wf_u8 {x : Int} (h : (Lit.int .u8 x).wf = true) : 0 ≤ x ∧ x ≤ 255 := by
  simp [Lit.wf, IntKind.min, IntKind.max, IntKind.signed, IntKind.bits] at h
  omega
theorem newReader_ev (l : List Int) (hl : ∀ x ∈ l, (Lit.int .u8 x).wf = true) : ∃ b, spec_newReader.f l = some (b, 0) ∧ RB b := by
  unfold spec_newReader.f
  by_cases h : (l.length : Int) > 2000
  · refine ⟨l.take 2000, by rw [if_pos h, if_pos (by omega)], fun x hx => wf_u8 (hl x (List.mem_of_mem_take hx)), by rw [List.length_take]; omega⟩
  · exact ⟨l, by rw [if_neg h], fun x hx => wf_u8 (hl x hx), by omega⟩
theorem drawCL_ev (l : List Int) (hl : ∀ x ∈ l, (Lit.int .u8 x).wf = true) : ∃ s t, Ev (fun k => spec_DrawCommonLength.f k l) (s, t) ∧ s.size ≤ 22 ∧ t.size ≤ 61 := by
  obtain ⟨b, e, hb⟩ := newReader_ev l hl
  obtain ⟨s, t, p, e2, hs, ht, -, -⟩ := twoTexts_ev hb (p := 0) (by omega) (by omega)
  refine ⟨s, t, ?_, hs, ht⟩
  unfold spec_DrawCommonLength.f
  exact Ev.bindv e (Ev.bind e2 (Ev.now _))
end Go.Proofs.Ytnlfmbdnleclfaa.Q
