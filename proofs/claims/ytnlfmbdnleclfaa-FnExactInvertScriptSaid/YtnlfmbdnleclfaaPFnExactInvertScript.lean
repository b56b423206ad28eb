import Derived.Test.YtnlfmbdnleclfaaWB
import Derived.Test.YtnlfmbdnleclfaaQ0
import Derived.Test.YtnlfmbdnleclfaaQ12
import Derived.Test.YtnlfmbdnleclfaaQ14
import Derived.Test.YtnlfmbdnleclfaaQ15
import Derived.Test.YtnlfmbdnleclfaaQ33
import Derived.Test.YtnlfmbdnleclfaaQ34
import Derived.Test.YtnlfmbdnleclfaaQ35
import Derived.Test.YtnlfmbdnleclfaaQ36
import Derived.Test.YtnlfmbdnleclfaaQ37
import Derived.Test.YtnlfmbdnleclfaaQ38
import Derived.Test.YtnlfmbdnleclfaaQ8
import Derived.Test.YtnlfmbdnleclfaaQ9
set_option linter.unusedVariables false
set_option linter.unusedSimpArgs false
set_option linter.unusedSectionVars false
namespace Go.Proofs.Ytnlfmbdnleclfaa.Q
open Go.RowKit Go.Proofs.YtnlfmbdnleclfaaW.PrintWords Go.Proofs.YtnlfmbdnleclfaaW.PrintLast Go.Proofs.YtnlfmbdnleclfaaW.PrintMore
theorem Ev.pos {α : Type} {c : Prop} [Decidable c] {A B : Nat → Option α} {r : α} (h : c) (e : Ev A r) : Ev (fun k => if c then A k else B k) r := by
  obtain ⟨K, e⟩ := e
  exact ⟨K, fun k hk => by simp only [if_pos h]; exact e k hk⟩
theorem Ev.neg {α : Type} {c : Prop} [Decidable c] {A B : Nat → Option α} {r : α} (h : ¬ c) (e : Ev B r) : Ev (fun k => if c then A k else B k) r := by
  obtain ⟨K, e⟩ := e
  exact ⟨K, fun k hk => by simp only [if_neg h]; exact e k hk⟩
theorem Ev.bindv {α β : Type} {g : Option α} {f : Nat → α → Option β} {a : α} {r : β} (h : g = some a) (k : Ev (fun n => f n a) r) : Ev (fun n => g.bind (f n)) r := by
  subst h; exact k
theorem w64 {n : Int} (h0 : -9223372036854775808 ≤ n) (h1 : n ≤ 9223372036854775807) : wrap64 n = n := by unfold wrap64; omega
theorem Ev.eqr {α : Type} {A : Nat → Option α} {r r' : α} (h : Ev A r') (e : r' = r) : Ev A r := e ▸ h
theorem rdT_get (es : List S43) (i : Nat) (h : i < es.length) : rd_T43 es (i : Int) = es[i] := by
  unfold rd_T43 List.getD; rw [Int.toNat_natCast, List.getElem?_eq_getElem h]; rfl
theorem succ64 (i : Nat) (h : i ≤ 4611686018427387904) : wrap64 ((i : Int) + 1) = ((i + 1 : Nat) : Int) := by rw [w64 (by omega) (by omega)]; rfl
theorem eqEditS_refl (es : List S43) (hl : es.length ≤ 1048576) : Ev (fun n => laws_eqEditS.f n es es) true := by
  have go : ∀ (d i : Nat), i + d = es.length → Ev (fun n => laws_eqEditS.l0 n es es (i : Int)) true := by
    intro d
    induction d with
    | zero => intro i hi; exact Ev.step (fun k => by rw [laws_eqEditS.l0]) (Ev.neg (by omega) (Ev.now _))
    | succ d ih =>
      intro i hi
      refine Ev.step (fun k => by rw [laws_eqEditS.l0]) (Ev.pos (by omega) (Ev.pos (by omega) (Ev.pos (by omega) (Ev.bindv (a := true) (by unfold laws_eqEdit.f; rw [if_pos rfl, if_pos rfl, if_pos rfl]) (Ev.pos rfl ?_)))))
      rw [succ64 i (by omega)]
      exact ih (i + 1) (by omega)
  unfold laws_eqEditS.f
  exact Ev.pos rfl (go es.length 0 (by omega))

def flip (e : S43) : S43 := ⟨if e.f0 = 1 then 2 else if e.f0 = 2 then 1 else e.f0, e.f1, e.f2⟩
def inv (es : List S43) : List S43 := es.reverse.map flip
theorem inv_len (es : List S43) : (inv es).length = es.length := by simp [inv]
theorem inv_ev (es : List S43) (hl : es.length ≤ 1048576) : Ev (fun n => impl_InvertScript.f n es) (inv es) ∧ Ev (fun n => spec_InvertScript.f n es) (inv es) := by
  have hd : ∀ i (hi : i < es.length), (es.drop (i + 1)).reverse.map flip ++ [flip es[i]] = (es.drop i).reverse.map flip := by
    intro i hi
    rw [List.drop_eq_getElem_cons hi, List.reverse_cons, List.map_append]; rfl
  have stepf : ∀ e : S43, (e.f0 = 1 → (⟨2, e.f1, e.f2⟩ : S43) = flip e) ∧ (e.f0 ≠ 1 → e.f0 = 2 → (⟨1, e.f1, e.f2⟩ : S43) = flip e) ∧ (e.f0 ≠ 1 → e.f0 ≠ 2 → e = flip e) := by
    intro e
    unfold flip
    exact ⟨fun h => by rw [if_pos h], fun h h2 => by rw [if_neg h, if_pos h2], fun h h2 => by rw [if_neg h, if_neg h2]⟩
  have go : ∀ (i : Nat), i ≤ es.length → Ev (fun n => impl_InvertScript.l0 n es ((es.drop i).reverse.map flip) ((i : Int) - 1)) (inv es) ∧ Ev (fun n => spec_InvertScript.l0 n es ((es.drop i).reverse.map flip) ((i : Int) - 1)) (inv es) := by
    intro i
    induction i with
    | zero =>
      intro _
      constructor
      · exact Ev.step (fun k => by rw [impl_InvertScript.l0]) (Ev.neg (by omega) (Ev.eqr (Ev.now _) (by rw [List.drop_zero]; rfl)))
      · exact Ev.step (fun k => by rw [spec_InvertScript.l0]) (Ev.neg (by omega) (Ev.eqr (Ev.now _) (by rw [List.drop_zero]; rfl)))
    | succ i ih =>
      intro hi
      obtain ⟨e1, e2⟩ := ih (by omega)
      rw [← hd i (by omega)] at e1 e2
      have hn : ((es.drop (i + 1)).reverse.map flip).length < 4398046511104 := by simp; omega
      rw [show ((i + 1 : Nat) : Int) - 1 = (i : Int) by omega]
      obtain ⟨s1, s2, s3⟩ := stepf es[i]
      constructor
      · refine Ev.step (fun k => by rw [impl_InvertScript.l0]) (Ev.pos (by omega) (Ev.pos (by omega) (Ev.pos (by omega) ?_)))
        rw [rdT_get es i (by omega), w64 (n := (i : Int) - 1) (by omega) (by omega)]
        by_cases c1 : es[i].f0 = 1
        · refine Ev.pos c1 (Ev.pos hn ?_); rw [s1 c1]; exact e1
        by_cases c2 : es[i].f0 = 2
        · refine Ev.neg c1 (Ev.pos c2 (Ev.pos hn ?_)); rw [s2 c1 c2]; exact e1
        · refine Ev.neg c1 (Ev.neg c2 (Ev.pos hn ?_)); rw [← s3 c1 c2] at e1; exact e1
      · refine Ev.step (fun k => by rw [spec_InvertScript.l0]) (Ev.pos (by omega) (Ev.pos (by omega) (Ev.pos (by omega) ?_)))
        rw [rdT_get es i (by omega), w64 (n := (i : Int) - 1) (by omega) (by omega)]
        by_cases c1 : es[i].f0 = 1
        · refine Ev.pos c1 (Ev.pos hn ?_); rw [s1 c1]; exact e2
        by_cases c2 : es[i].f0 = 2
        · refine Ev.neg c1 (Ev.pos c2 (Ev.pos hn ?_)); rw [s2 c1 c2]; exact e2
        · refine Ev.neg c1 (Ev.neg c2 (Ev.pos hn ?_)); rw [← s3 c1 c2] at e2; exact e2
  have := go es.length (Nat.le_refl _)
  rw [List.drop_length] at this
  unfold impl_InvertScript.f spec_InvertScript.f
  rw [w64 (n := (es.length : Int) - 1) (by omega) (by omega)]
  exact this
theorem strOf_one (v : Int) : (strOfNums [v]).size = 1 := rfl
theorem markText_loop : ∀ (d : Nat) (x : Int) (s : ByteArray), 0 ≤ x → x ≤ 9223372036854775807 → x < 10 ^ d → s.size + d ≤ 1000 → ∃ t, Ev (fun n => laws_markText.l0 n x s) t := by
  intro d
  induction d with
  | zero =>
    intro x s h0 _ h1 h2
    refine ⟨_, Ev.step (fun k => by rw [laws_markText.l0]) (Ev.neg (by simp at h1; omega) (Ev.pos (by omega) (Ev.now _)))⟩
  | succ d ih =>
    intro x s h0 hm h1 h2
    by_cases hx : x > 0
    · have hq : wrap64 (Int.tdiv x 10) = x / 10 := by rw [Int.tdiv_eq_ediv_of_nonneg h0, w64 (by omega) (by omega)]
      have hb : x / 10 < 10 ^ d := by
        rw [Int.pow_succ] at h1; omega
      obtain ⟨t, e⟩ := ih (x / 10) (strOfNums [(wrap64 (48 + (Int.tmod x 10))) % 256] ++ s) (by omega) (by omega) hb (by rw [ByteArray.size_append, strOf_one]; omega)
      refine ⟨t, Ev.step (fun k => by rw [laws_markText.l0]) (Ev.pos hx ?_)⟩
      refine Ev.bindv rfl ?_
      refine Ev.pos (by rw [strOf_one]; omega) ?_
      rw [hq]; exact e
    · exact ⟨_, Ev.step (fun k => by rw [laws_markText.l0]) (Ev.neg hx (Ev.pos (by omega) (Ev.now _)))⟩
theorem markText_ev (x : Int) (h0 : 0 ≤ x) (h1 : x ≤ 9223372036854775807) : ∃ t, Ev (fun n => laws_markText.f n x) t := by
  unfold laws_markText.f
  by_cases h : x ≤ 0
  · exact ⟨_, Ev.pos h (Ev.now _)⟩
  · obtain ⟨t, e⟩ := markText_loop 20 x ⟨#[]⟩ h0 h1 (by omega) (by decide)
    exact ⟨t, Ev.neg h e⟩
theorem rdT_set_self (es : List S43) (i : Nat) (v : S43) (h : i < es.length) : rd_T43 (es.set i v) (i : Int) = v := by
  rw [rdT_get _ _ (by simpa using h)]; simp
theorem mark_held (N : Nat) (hN : N ≤ 1048576) : ∀ (d i : Nat) (es : List S43) (c : Nat), i + d = N → es.length = N → c + 3 * d ≤ 4611686018427387904 →
    ∃ M, Ev (fun n => laws_markEditS.l0 n es (c : Int) (i : Int)) (((c + 3 * d : Nat) : Int), M) ∧ M.length = N ∧ (∀ j, j < i → M[j]? = es[j]?) ∧ Ev (fun n => laws_heldEditS.l0 n M (c : Int) (i : Int)) ((c + 3 * d : Nat) : Int) := by
  intro d
  induction d with
  | zero =>
    intro i es c hi hl hc
    rw [show c + 3 * 0 = c by omega]
    exact ⟨es, Ev.step (fun k => by rw [laws_markEditS.l0]) (Ev.neg (by omega) (Ev.now _)), hl, fun _ _ => rfl, Ev.step (fun k => by rw [laws_heldEditS.l0]) (Ev.neg (by omega) (Ev.now _))⟩
  | succ d ih =>
    intro i es c hi hl hc
    have hi' : i < es.length := by omega
    obtain ⟨t, ht⟩ := markText_ev ((c + 1 + 1 : Nat) : Int) (by omega) (by omega)
    obtain ⟨M, e1, hM, hp, e2⟩ := ih (i + 1) (es.set i ⟨(c : Int), ((c + 1 : Nat) : Int), t⟩) (c + 1 + 1 + 1) (by omega) (by simpa using hl) (by omega)
    have hMi : M[i]? = some ⟨(c : Int), ((c + 1 : Nat) : Int), t⟩ := by rw [hp i (by omega)]; simp [hi']
    have hMr : rd_T43 M (i : Int) = ⟨(c : Int), ((c + 1 : Nat) : Int), t⟩ := by
      unfold rd_T43 List.getD; rw [Int.toNat_natCast, hMi]; rfl
    refine ⟨M, ?_, hM, fun j hj => ?_, ?_⟩
    · refine Ev.step (fun k => by rw [laws_markEditS.l0]) (Ev.pos (by omega) (Ev.pos (by omega) ?_))
      rw [Int.toNat_natCast]
      refine Ev.bindv rfl ?_
      refine Ev.bindv rfl ?_
      rw [succ64 c (by omega), succ64 (c + 1) (by omega), rdT_set_self _ _ _ hi', List.set_set]
      refine Ev.bind ht ?_
      rw [rdT_set_self _ _ _ hi', List.set_set, succ64 i (by omega), succ64 (c + 1 + 1) (by omega), show c + 3 * (d + 1) = c + 1 + 1 + 1 + 3 * d by omega]
      exact e1
    · rw [hp j (by omega), List.getElem?_set_ne (by omega)]
    · refine Ev.step (fun k => by rw [laws_heldEditS.l0]) (Ev.pos (by omega) (Ev.pos (by omega) ?_))
      rw [hMr, succ64 c (by omega), succ64 (c + 1) (by omega)]
      refine Ev.pos rfl (Ev.pos rfl (Ev.bind ht (Ev.pos rfl ?_)))
      rw [succ64 i (by omega), succ64 (c + 1 + 1) (by omega), show c + 3 * (d + 1) = c + 1 + 1 + 1 + 3 * d by omega]
      exact e2
theorem mark_ev (es : List S43) (hl : es.length ≤ 1048576) : ∃ (n : Nat) (M : List S43), Ev (fun k => laws_markEditS.f k es 1) ((n : Int), M) ∧ Ev (fun k => laws_heldEditS.f k M 1) (n : Int) := by
  obtain ⟨M, e1, -, -, e2⟩ := mark_held es.length hl es.length 0 es 1 (by omega) rfl (by omega)
  exact ⟨_, M, e1, e2⟩

def conv (es : List S50) : List S43 := es.map fun e => ⟨e.f0, e.f1, e.f2⟩
def cost50 (es : List S50) : Nat := (es.map fun e => e.f2.size).sum
theorem rd50_get (es : List S50) (i : Nat) (h : i < es.length) : rd_T50 es (i : Int) = es[i] := by
  unfold rd_T50 List.getD; rw [Int.toNat_natCast, List.getElem?_eq_getElem h]; rfl
theorem toEditS_ev (es : List S50) (hl : es.length ≤ 1048576) : Ev (fun n => laws_toEditS.f n es) (conv es) := by
  have go : ∀ (d i : Nat) (T : List S43), i + d = es.length → T.length = es.length → T.take i = (conv es).take i → Ev (fun n => laws_toEditS.l0 n es T (i : Int)) (conv es) := by
    intro d
    induction d with
    | zero =>
      intro i T hi hT hp
      refine Ev.step (fun k => by rw [laws_toEditS.l0]) (Ev.neg (by omega) (Ev.eqr (Ev.now _) ?_))
      rw [List.take_of_length_le (by omega), List.take_of_length_le (by simp [conv]; omega)] at hp
      exact hp
    | succ d ih =>
      intro i T hi hT hp
      have hi' : i < es.length := by omega
      refine Ev.step (fun k => by rw [laws_toEditS.l0]) (Ev.pos (by omega) (Ev.pos (by omega) ?_))
      rw [rd50_get es i hi']
      refine Ev.bindv rfl (Ev.pos (by omega) ?_)
      rw [succ64 i (by omega), Int.toNat_natCast]
      refine ih (i + 1) _ (by omega) (by simpa using hT) ?_
      rw [List.take_succ_eq_append_getElem (by simpa [hT] using hi'), List.take_succ_eq_append_getElem (by simpa [conv] using hi'), List.take_set_of_le (Nat.le_refl _), hp]
      simp [conv]
  unfold laws_toEditS.f
  refine Ev.pos (by omega) (Ev.pos (by omega) ?_)
  exact go es.length 0 _ (by omega) (by simp) (by simp)
theorem szEditS_ev (es : List S50) (hl : es.length ≤ 9223372036854775807) (hs : ∀ e ∈ es, e.f2.size ≤ 9223372036854775807) :
    ∃ r, Ev (fun n => laws_szEditS.f n es 1048576) r ∧ (¬ r < 0 → es.length ≤ 1048576 ∧ cost50 es ≤ 1048576) := by
  have go : es.length ≤ 1048576 → ∀ (d i : Nat) (x : Nat), i + d = es.length → x ≤ 1048576 → ∃ r, Ev (fun n => laws_szEditS.l0 n es (x : Int) (i : Int)) r ∧ (¬ r < 0 → cost50 (es.drop i) ≤ x) := by
    intro hlen d
    induction d with
    | zero =>
      intro i x hi hx
      refine ⟨x, Ev.step (fun k => by rw [laws_szEditS.l0]) (Ev.neg (by omega) (Ev.now _)), fun _ => ?_⟩
      rw [List.drop_of_length_le (by omega)]; simp [cost50]
    | succ d ih =>
      intro i x hi hx
      have hi' : i < es.length := by omega
      have hsi := hs es[i] (List.getElem_mem hi')
      rw [List.drop_eq_getElem_cons hi', show cost50 (es[i] :: es.drop (i + 1)) = es[i].f2.size + cost50 (es.drop (i + 1)) from rfl]
      have hw : wrap64 ((x : Int) - (es[i].f2.size : Int)) = (x : Int) - (es[i].f2.size : Int) := w64 (by omega) (by omega)
      by_cases c : es[i].f2.size ≤ x
      · obtain ⟨r, e, h⟩ := ih (i + 1) (x - es[i].f2.size) (by omega) (by omega)
        refine ⟨r, Ev.step (fun k => by rw [laws_szEditS.l0]) (Ev.pos (by omega) (Ev.pos (by omega) ?_)), fun hr => by have := h hr; omega⟩
        rw [rd50_get es i hi']
        refine Ev.bindv (a := ((x - es[i].f2.size : Nat) : Int)) (by unfold laws_szEdit.f; rw [hw, if_neg (by omega)]; congr 1; omega) (Ev.neg (by omega) ?_)
        rw [succ64 i (by omega)]; exact e
      · refine ⟨-1, Ev.step (fun k => by rw [laws_szEditS.l0]) (Ev.pos (by omega) (Ev.pos (by omega) ?_)), fun h => absurd (by omega) h⟩
        rw [rd50_get es i hi']
        exact Ev.bindv (a := -1) (by unfold laws_szEdit.f; rw [hw, if_pos (by omega)]) (Ev.pos (by omega) (Ev.now _))
  unfold laws_szEditS.f
  rw [w64 (n := (1048576 : Int) - (es.length : Int)) (by omega) (by omega)]
  by_cases c : es.length ≤ 1048576
  · obtain ⟨r, e, h⟩ := go c es.length 0 (1048576 - es.length) (by omega) (by omega)
    refine ⟨r, Ev.neg (by omega) ?_, fun hr => ⟨c, by have := h hr; rw [List.drop_zero] at this; omega⟩⟩
    rw [show (1048576 : Int) - (es.length : Int) = ((1048576 - es.length : Nat) : Int) by omega]; exact e
  · exact ⟨-1, Ev.pos (by omega) (Ev.now _), fun h => absurd (by omega) h⟩
theorem conv_len (es : List S50) : (conv es).length = es.length := by simp [conv]
def Pure_ExactInvertScript : Prop := ∀ es : List S50, es.length ≤ 9223372036854775807 → (∀ e ∈ es, (Lit.int .i64 e.f0).wf = true ∧ (Lit.int .i64 e.f1).wf = true ∧ e.f2.size ≤ maxLen) → ∃ k, laws_FnExactInvertScript.f k es = some true
theorem pure_ExactInvertScript : Pure_ExactInvertScript := by
  intro es hl hs
  obtain ⟨r, er, hr⟩ := szEditS_ev es hl fun e he => (hs e he).2.2
  refine Ev.rounds ?_
  unfold laws_FnExactInvertScript.f
  refine Ev.bind er ?_
  by_cases c : r < 0
  · exact Ev.pos c (Ev.now _)
  obtain ⟨h1, h2⟩ := hr c
  have hl' : (conv es).length ≤ 1048576 := by rw [conv_len]; exact h1
  have hli : (inv (conv es)).length ≤ 1048576 := by rw [inv_len]; exact hl'
  have hi := inv_ev (conv es) hl'
  obtain ⟨n, M, m1, m2⟩ := mark_ev (conv es) hl'
  obtain ⟨n', M', m1', m2'⟩ := mark_ev (inv (conv es)) hli
  refine Ev.neg c (Ev.bind (toEditS_ev es h1) (Ev.bind hi.2 (Ev.bind (toEditS_ev es h1) (Ev.bind hi.1 (Ev.bind (eqEditS_refl _ hli) (Ev.pos rfl (Ev.bind (toEditS_ev es h1) (Ev.bind (eqEditS_refl _ hl') (Ev.pos rfl (Ev.bind m1 (Ev.neg (by dsimp only; omega) (Ev.bind (eqEditS_refl _ hli) ?_))))))))))))
  refine Ev.step (fun k => by rw [laws_FnExactInvertScript.j0]) (Ev.neg (by simp) ?_)
  exact Ev.bind m1' (Ev.bind m2' (Ev.neg (by omega) (Ev.pos rfl (Ev.bind (toEditS_ev es h1) (Ev.bind hi.1 (Ev.bind (eqEditS_refl _ hli) (Ev.pos rfl (Ev.bind m2' (Ev.neg (by omega) (Ev.pos rfl (Ev.now _)))))))))))
end Go.Proofs.Ytnlfmbdnleclfaa.Q
