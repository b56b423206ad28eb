import Derived.Test.YtnlfmbdnleclfaaWB
import Derived.Test.YtnlfmbdnleclfaaQ0
import Derived.Test.YtnlfmbdnleclfaaQ10
import Derived.Test.YtnlfmbdnleclfaaQ12
import Derived.Test.YtnlfmbdnleclfaaQ13
import Derived.Test.YtnlfmbdnleclfaaQ14
import Derived.Test.YtnlfmbdnleclfaaQ15
import Derived.Test.YtnlfmbdnleclfaaQ16
import Derived.Test.YtnlfmbdnleclfaaQ8
import Derived.Test.YtnlfmbdnleclfaaQ9
set_option linter.unusedVariables false
set_option linter.unusedSimpArgs false
set_option linter.unusedSectionVars false
namespace Go.Proofs.Ytnlfmbdnleclfaa.Q
open Go.RowKit Go.Proofs.YtnlfmbdnleclfaaW.PrintWords Go.Proofs.YtnlfmbdnleclfaaW.PrintLast Go.Proofs.YtnlfmbdnleclfaaW.PrintMore
theorem Ev.pos {α : Type} {c : Prop} [Decidable c] {A B : Nat → Option α} {r : α} (h : c) (e : Ev A r) : Ev (fun k => if c then A k else B k) r := by
  obtain ⟨K, e⟩ := e
  exact ⟨K, fun k hk => by simp only [if_pos h]; exact e k hk⟩
theorem Ev.neg {α : Type} {c : Prop} [Decidable c] {A B : Nat → Option α} {r : α} (h : ¬ c) (e : Ev B r) : Ev (fun k => if c then A k else B k) r := by
  obtain ⟨K, e⟩ := e
  exact ⟨K, fun k hk => by simp only [if_neg h]; exact e k hk⟩
theorem Ev.bindv {α β : Type} {g : Option α} {f : Nat → α → Option β} {a : α} {r : β} (h : g = some a) (k : Ev (fun n => f n a) r) : Ev (fun n => g.bind (f n)) r := by
  subst h; exact k
theorem w64 {n : Int} (h0 : -9223372036854775808 ≤ n) (h1 : n ≤ 9223372036854775807) : wrap64 n = n := by unfold wrap64; omega
theorem Ev.eqr {α : Type} {A : Nat → Option α} {r r' : α} (h : Ev A r') (e : r' = r) : Ev A r := e ▸ h
theorem rdT_get (es : List S43) (i : Nat) (h : i < es.length) : rd_T43 es (i : Int) = es[i] := by
  unfold rd_T43 List.getD; rw [Int.toNat_natCast, List.getElem?_eq_getElem h]; rfl
theorem succ64 (i : Nat) (h : i ≤ 4611686018427387904) : wrap64 ((i : Int) + 1) = ((i + 1 : Nat) : Int) := by rw [w64 (by omega) (by omega)]; rfl
def cost (es : List S43) : Nat := (es.map fun e => e.f2.size).sum
theorem cost_append (a b : List S43) : cost (a ++ b) = cost a + cost b := by simp [cost]
theorem cost_one (e : S43) : cost [e] = e.f2.size := by simp [cost]
theorem cost_take_succ (es : List S43) (i : Nat) (h : i < es.length) : cost (es.take (i + 1)) = cost (es.take i) + es[i].f2.size := by
  rw [List.take_succ_eq_append_getElem h, cost_append, cost_one]
theorem cost_take_le (es : List S43) (i : Nat) : cost (es.take i) ≤ cost es := by
  have := cost_append (es.take i) (es.drop i)
  rw [List.take_append_drop] at this
  omega
theorem impl_cost_ev (es : List S43) (hl : es.length ≤ 1048576) (hc : cost es ≤ 1099511627776) : Ev (fun n => impl_ScriptCost.f n es) (cost es : Int) := by
  have go : ∀ (d i : Nat), i + d = es.length → Ev (fun n => impl_ScriptCost.l0 n (cost (es.take i) : Int) es (es.length : Int) (i : Int)) (cost es : Int) := by
    intro d
    induction d with
    | zero =>
      intro i hi
      refine Ev.step (fun k => by rw [impl_ScriptCost.l0]) (Ev.neg (by omega) ?_)
      rw [List.take_of_length_le (by omega)]; exact Ev.now _
    | succ d ih =>
      intro i hi
      have hi' : i < es.length := by omega
      have h1 := cost_take_succ es i hi'
      have h2 := cost_take_le es (i + 1)
      refine Ev.step (fun k => by rw [impl_ScriptCost.l0]) (Ev.pos (by omega) (Ev.pos (by omega) (Ev.pos (by omega) ?_)))
      rw [rdT_get es i hi', succ64 i (by omega), w64 (by omega) (by omega), show (cost (es.take i) : Int) + (es[i].f2.size : Int) = (cost (es.take (i + 1)) : Int) by omega]
      exact ih (i + 1) (by omega)
  exact go es.length 0 (by omega)
theorem spec_cost_ev (es : List S43) (hl : es.length ≤ 1048576) (hc : cost es ≤ 1099511627776) : Ev (fun n => spec_ScriptCost.f n es) (cost es : Int) := by
  have go : ∀ (d i : Nat), i + d = es.length → Ev (fun n => spec_ScriptCost.l0 n es (cost (es.take i) : Int) (i : Int)) (cost es : Int) := by
    intro d
    induction d with
    | zero =>
      intro i hi
      refine Ev.step (fun k => by rw [spec_ScriptCost.l0]) (Ev.neg (by omega) ?_)
      rw [List.take_of_length_le (by omega)]; exact Ev.now _
    | succ d ih =>
      intro i hi
      have hi' : i < es.length := by omega
      have h1 := cost_take_succ es i hi'
      have h2 := cost_take_le es (i + 1)
      refine Ev.step (fun k => by rw [spec_ScriptCost.l0]) (Ev.pos (by omega) (Ev.pos (by omega) ?_))
      rw [rdT_get es i hi', succ64 i (by omega), w64 (by omega) (by omega), show (cost (es.take i) : Int) + (es[i].f2.size : Int) = (cost (es.take (i + 1)) : Int) by omega]
      exact ih (i + 1) (by omega)
  exact go es.length 0 (by omega)
theorem eqEditS_refl (es : List S43) (hl : es.length ≤ 1048576) : Ev (fun n => laws_eqEditS.f n es es) true := by
  have go : ∀ (d i : Nat), i + d = es.length → Ev (fun n => laws_eqEditS.l0 n es es (i : Int)) true := by
    intro d
    induction d with
    | zero => intro i hi; exact Ev.step (fun k => by rw [laws_eqEditS.l0]) (Ev.neg (by omega) (Ev.now _))
    | succ d ih =>
      intro i hi
      refine Ev.step (fun k => by rw [laws_eqEditS.l0]) (Ev.pos (by omega) (Ev.pos (by omega) (Ev.pos (by omega) (Ev.bindv (a := true) (by unfold laws_eqEdit.f; rw [if_pos rfl, if_pos rfl, if_pos rfl]) (Ev.pos rfl ?_)))))
      rw [succ64 i (by omega)]
      exact ih (i + 1) (by omega)
  unfold laws_eqEditS.f
  exact Ev.pos rfl (go es.length 0 (by omega))

def conv (es : List S50) : List S43 := es.map fun e => ⟨e.f0, e.f1, e.f2⟩
def cost50 (es : List S50) : Nat := (es.map fun e => e.f2.size).sum
theorem conv_cost (es : List S50) : cost (conv es) = cost50 es := by simp only [cost, conv, cost50, List.map_map]; rfl
theorem rd50_get (es : List S50) (i : Nat) (h : i < es.length) : rd_T50 es (i : Int) = es[i] := by
  unfold rd_T50 List.getD; rw [Int.toNat_natCast, List.getElem?_eq_getElem h]; rfl
theorem toEditS_ev (es : List S50) (hl : es.length ≤ 1048576) : Ev (fun n => laws_toEditS.f n es) (conv es) := by
  have go : ∀ (d i : Nat) (T : List S43), i + d = es.length → T.length = es.length → T.take i = (conv es).take i → Ev (fun n => laws_toEditS.l0 n es T (i : Int)) (conv es) := by
    intro d
    induction d with
    | zero =>
      intro i T hi hT hp
      refine Ev.step (fun k => by rw [laws_toEditS.l0]) (Ev.neg (by omega) (Ev.eqr (Ev.now _) ?_))
      rw [List.take_of_length_le (by omega), List.take_of_length_le (by simp [conv]; omega)] at hp
      exact hp
    | succ d ih =>
      intro i T hi hT hp
      have hi' : i < es.length := by omega
      refine Ev.step (fun k => by rw [laws_toEditS.l0]) (Ev.pos (by omega) (Ev.pos (by omega) ?_))
      rw [rd50_get es i hi']
      refine Ev.bindv rfl (Ev.pos (by omega) ?_)
      rw [succ64 i (by omega), Int.toNat_natCast]
      refine ih (i + 1) _ (by omega) (by simpa using hT) ?_
      rw [List.take_succ_eq_append_getElem (by simpa [hT] using hi'), List.take_succ_eq_append_getElem (by simpa [conv] using hi'), List.take_set_of_le (Nat.le_refl _), hp]
      simp [conv]
  unfold laws_toEditS.f
  refine Ev.pos (by omega) (Ev.pos (by omega) ?_)
  exact go es.length 0 _ (by omega) (by simp) (by simp)
theorem szEditS_ev (es : List S50) (hl : es.length ≤ 9223372036854775807) (hs : ∀ e ∈ es, e.f2.size ≤ 9223372036854775807) :
    ∃ r, Ev (fun n => laws_szEditS.f n es 1048576) r ∧ (¬ r < 0 → es.length ≤ 1048576 ∧ cost50 es ≤ 1048576) := by
  have go : es.length ≤ 1048576 → ∀ (d i : Nat) (x : Nat), i + d = es.length → x ≤ 1048576 → ∃ r, Ev (fun n => laws_szEditS.l0 n es (x : Int) (i : Int)) r ∧ (¬ r < 0 → cost50 (es.drop i) ≤ x) := by
    intro hlen d
    induction d with
    | zero =>
      intro i x hi hx
      refine ⟨x, Ev.step (fun k => by rw [laws_szEditS.l0]) (Ev.neg (by omega) (Ev.now _)), fun _ => ?_⟩
      rw [List.drop_of_length_le (by omega)]; simp [cost50]
    | succ d ih =>
      intro i x hi hx
      have hi' : i < es.length := by omega
      have hsi := hs es[i] (List.getElem_mem hi')
      rw [List.drop_eq_getElem_cons hi', show cost50 (es[i] :: es.drop (i + 1)) = es[i].f2.size + cost50 (es.drop (i + 1)) from rfl]
      have hw : wrap64 ((x : Int) - (es[i].f2.size : Int)) = (x : Int) - (es[i].f2.size : Int) := w64 (by omega) (by omega)
      by_cases c : es[i].f2.size ≤ x
      · obtain ⟨r, e, h⟩ := ih (i + 1) (x - es[i].f2.size) (by omega) (by omega)
        refine ⟨r, Ev.step (fun k => by rw [laws_szEditS.l0]) (Ev.pos (by omega) (Ev.pos (by omega) ?_)), fun hr => by have := h hr; omega⟩
        rw [rd50_get es i hi']
        refine Ev.bindv (a := ((x - es[i].f2.size : Nat) : Int)) (by unfold laws_szEdit.f; rw [hw, if_neg (by omega)]; congr 1; omega) (Ev.neg (by omega) ?_)
        rw [succ64 i (by omega)]; exact e
      · refine ⟨-1, Ev.step (fun k => by rw [laws_szEditS.l0]) (Ev.pos (by omega) (Ev.pos (by omega) ?_)), fun h => absurd (by omega) h⟩
        rw [rd50_get es i hi']
        exact Ev.bindv (a := -1) (by unfold laws_szEdit.f; rw [hw, if_pos (by omega)]) (Ev.pos (by omega) (Ev.now _))
  unfold laws_szEditS.f
  rw [w64 (n := (1048576 : Int) - (es.length : Int)) (by omega) (by omega)]
  by_cases c : es.length ≤ 1048576
  · obtain ⟨r, e, h⟩ := go c es.length 0 (1048576 - es.length) (by omega) (by omega)
    refine ⟨r, Ev.neg (by omega) ?_, fun hr => ⟨c, by have := h hr; rw [List.drop_zero] at this; omega⟩⟩
    rw [show (1048576 : Int) - (es.length : Int) = ((1048576 - es.length : Nat) : Int) by omega]; exact e
  · exact ⟨-1, Ev.pos (by omega) (Ev.now _), fun h => absurd (by omega) h⟩
theorem conv_len (es : List S50) : (conv es).length = es.length := by simp [conv]
def Pure_ExactScriptCost : Prop := ∀ es : List S50, es.length ≤ 9223372036854775807 → (∀ e ∈ es, (Lit.int .i64 e.f0).wf = true ∧ (Lit.int .i64 e.f1).wf = true ∧ e.f2.size ≤ maxLen) → ∃ k, laws_FnExactScriptCost.f k es = some true
theorem pure_ExactScriptCost : Pure_ExactScriptCost := by
  intro es hl hs
  obtain ⟨r, er, hr⟩ := szEditS_ev es hl fun e he => (hs e he).2.2
  refine Ev.rounds ?_
  unfold laws_FnExactScriptCost.f
  refine Ev.bind er ?_
  by_cases c : r < 0
  · exact Ev.pos c (Ev.now _)
  obtain ⟨h1, h2⟩ := hr c
  have hc : cost (conv es) ≤ 1099511627776 := by rw [conv_cost]; omega
  have hl' : (conv es).length ≤ 1048576 := by rw [conv_len]; exact h1
  exact Ev.neg c (Ev.bind (toEditS_ev es h1) (Ev.bind (spec_cost_ev _ hl' hc) (Ev.bind (toEditS_ev es h1) (Ev.bind (impl_cost_ev _ hl' hc) (Ev.pos rfl (Ev.bind (toEditS_ev es h1) (Ev.bind (eqEditS_refl _ hl') (Ev.pos rfl (Ev.now _)))))))))
end Go.Proofs.Ytnlfmbdnleclfaa.Q
