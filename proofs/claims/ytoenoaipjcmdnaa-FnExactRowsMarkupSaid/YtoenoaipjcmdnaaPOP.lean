import Derived.Test.YtoenoaipjcmdnaaWB
import Derived.Deep.Slices
import Derived.Deep.Fields
import Derived.ChangeSame
import Derived.ChangeArms
namespace Go.Proofs.Ytoenoaipjcmdnaa.Op
open Go.RowKit Go.ChangeShapes Go.WideShapes Go.Deep Go.Proofs.YtoenoaipjcmdnaaW.PrintWords
section
variable {H : Type} {enc : TypeId × Value → H} {P : Program} {w : World} {base : Nat} {spare : Nat → Bool} {held : Bool}
/-- What is read at a type is of a kind, and in order. -/
def Opens (enc : TypeId × Value → H) (P : Program) (w : World) (base : Nat) (spare : Nat → Bool) (held : Bool) (T : TypeId) {α : Type} (d : Kd α) (ok : α → Prop) : Prop :=
  ∀ fuel cs x, DataW.trod enc P w base spare held fuel T cs = some x → ∃ a, d.K w a cs ∧ ok a
theorem opens_int {T : TypeId} {k : IntKind} (h : P.underlying T = some (.int k)) : Opens enc P w base spare held T (Kd.int k) (fun n => (Lit.int k n).wf = true) := by
  intro fuel cs x hx
  obtain ⟨n, rfl, -, hw⟩ := DataW.trod_int h hx
  exact ⟨n, rfl, hw⟩
theorem opens_bool {T : TypeId} (h : P.underlying T = some .bool) : Opens enc P w base spare held T Kd.bool (fun _ => True) := by
  intro fuel cs x hx
  obtain ⟨n, rfl, -⟩ := DataW.trod_bool h hx
  exact ⟨n, rfl, trivial⟩
theorem opens_string {T : TypeId} (h : P.underlying T = some .string) : Opens enc P w base spare held T Kd.string (fun s => s.size ≤ maxLen) := by
  intro fuel cs x hx
  obtain ⟨n, rfl, -, hw⟩ := DataW.trod_string h hx
  exact ⟨n, rfl, hw⟩
/-- What the fields of a struct from an offset on are of. -/
def OpenF (enc : TypeId × Value → H) (P : Program) (w : World) (base : Nat) (spare : Nat → Bool) (held : Bool) (n o : Nat) (fs : List Field) {α : Type} (d : Kd α) (ok : α → Prop) : Prop :=
  ∀ cs : List Value, cs.length = n → (∀ f ∈ fs, ∃ fuel y, DataW.trod enc P w base spare held fuel f.type ((cs.drop f.offset).take (P.cellsOf f.type)) = some y) → ∃ a, d.K w a (cs.drop o) ∧ ok a
theorem openF_last {n o : Nat} {f : Field} {α : Type} {d : Kd α} {ok : α → Prop} (h : Opens enc P w base spare held f.type d ok) (ho : f.offset = o) (hn : o + P.cellsOf f.type = n) : OpenF enc P w base spare held n o [f] d ok := by
  intro cs hl hf
  obtain ⟨fuel, y, hy⟩ := hf f (by simp)
  rw [ho, List.take_of_length_le (by rw [List.length_drop]; omega)] at hy
  exact h fuel _ y hy
theorem openF_cons {n o : Nat} {f : Field} {fs : List Field} {α β : Type} {d : Kd α} {d' : Kd β} {ok : α → Prop} {ok' : β → Prop} (h : Opens enc P w base spare held f.type d ok) (ho : f.offset = o)
    (hr : OpenF enc P w base spare held n (o + P.cellsOf f.type) fs d' ok') : OpenF enc P w base spare held n o (f :: fs) (Kd.pair d d') (fun x => ok x.1 ∧ ok' x.2) := by
  intro cs hl hf
  obtain ⟨fuel, y, hy⟩ := hf f (by simp)
  rw [ho] at hy
  obtain ⟨a, ka, oa⟩ := h fuel _ y hy
  obtain ⟨b, kb, ob⟩ := hr cs hl fun g hg => hf g (by simp [hg])
  refine ⟨(a, b), ⟨_, _, ?_, ka, kb⟩, oa, ob⟩
  rw [← List.drop_drop, List.take_append_drop]
theorem opens_struct {T : TypeId} {fs : Array Field} {α β : Type} {d : Kd α} {ok : α → Prop} (f : β → α) (g : α → β) (hfg : ∀ a, f (g a) = a) (hu : P.underlying T = some (.struct fs)) (h : OpenF enc P w base spare held (P.cellsOf T) 0 fs.toList d ok) :
    Opens enc P w base spare held T (Kd.iso d f) (fun x => ok (f x)) := by
  intro fuel cs x hx
  obtain ⟨xs, n, -, -, hl, hlen, hf⟩ := DataW.trod_struct hu hx
  obtain ⟨a, ka, oa⟩ := h cs hl fun fd hfd => by
    obtain ⟨i, hi, rfl⟩ := List.mem_iff_getElem.1 hfd
    have hi' : i < fs.size := by simpa using hi
    have := hf i fs[i] (Array.getElem?_eq_getElem hi')
    rw [List.getElem?_eq_getElem (by omega)] at this
    exact ⟨n, _, this⟩
  refine ⟨g a, ?_, ?_⟩
  · show d.K w (f (g a)) cs
    rw [hfg]; rw [List.drop_zero] at ka; exact ka
  · show ok (f (g a))
    rw [hfg]; exact oa
theorem list_of {α : Type} {Q : Nat → α → Prop} : ∀ n : Nat, (∀ i, i < n → ∃ a, Q i a) → ∃ xs : List α, xs.length = n ∧ ∀ i a, xs[i]? = some a → Q i a := by
  intro n
  induction n with
  | zero => intro _; exact ⟨[], rfl, fun i a h => by simp at h⟩
  | succ n ih =>
    intro h
    obtain ⟨xs, hl, hx⟩ := ih fun i hi => h i (by omega)
    obtain ⟨a, ha⟩ := h n (by omega)
    refine ⟨xs ++ [a], by simp [hl], fun i b hb => ?_⟩
    rcases Nat.lt_or_ge i xs.length with hi | hi
    · rw [List.getElem?_append_left hi] at hb; exact hx i b hb
    · rw [List.getElem?_append_right hi] at hb
      have hin : i = n := by
        rcases Nat.lt_or_ge 0 (i - xs.length) with q | q
        · rw [List.getElem?_eq_none (by simp only [List.length_singleton]; omega)] at hb; cases hb
        · omega
      subst hin
      rw [show i - xs.length = 0 by omega] at hb
      obtain rfl := Option.some.inj hb
      exact ha
/-- A slice that came in, as a list. -/
theorem opens_slice {T e : TypeId} {α : Type} {d : Kd α} {ok : α → Prop} {fuel : Nat} {A : Option Addr} {len cap : Nat} {x : DataW H × List MemPlace} (ht : P.underlying T = some (.slice e)) (hsz : P.cellsOf e = d.sz)
    (h : Opens enc P w base spare held e d ok) (hx : DataW.trod enc P w base spare held fuel T [.slice A len cap] = some x) :
    ∃ xs : List α, xs.length = len ∧ len ≤ cap ∧ len ≤ 9223372036854775807 ∧ d.C w A xs.length xs ∧ ∀ a ∈ xs, ok a := by
  rcases open_slice ht hx with ⟨hcs, -⟩ | ⟨a, l, c, m, n, D, Pl, hcs, -, hl, hm, hmm, -, hi⟩
  · simp at hcs
    obtain ⟨rfl, rfl, rfl⟩ := hcs
    exact ⟨[], rfl, Nat.le_refl _, by omega, ⟨rfl, by simp, fun h => by simp at h⟩, by simp⟩
  · simp at hcs
    obtain ⟨rfl, rfl, rfl⟩ := hcs
    obtain ⟨xs, hxl, hxs⟩ := list_of (Q := fun i b => ok b ∧ ∃ c, c.length = d.sz ∧ d.K w b c ∧ ∀ j u, c[j]? = some u → w.cell? (a.add (i * d.sz + j)) = some u) len fun i hil => by
      obtain ⟨cs', h1, h2⟩ := hi i (by rw [hmm]; split <;> omega)
      obtain ⟨b, kb, ob⟩ := h n _ _ h2
      obtain ⟨-, hcl, hat⟩ := World.cells?_some h1
      refine ⟨b, ob, cs', d.K_len kb, kb, fun j u hu => ?_⟩
      have hj : j < cs'.length := (List.getElem?_eq_some_iff.1 hu).1
      have := hat j (by omega)
      rw [hsz] at this
      rw [← Go.Deep.add_add, this, hu]
    have hml : len ≤ 9223372036854775807 := by unfold maxLen at hm; omega
    refine ⟨xs, hxl, hl, hml, ⟨rfl, by omega, fun _ => ⟨a, rfl, fun j p hp => ?_⟩⟩, fun b hb => ?_⟩
    · exact (hxs j p hp).2
    · obtain ⟨i, hi', rfl⟩ := List.mem_iff_getElem.1 hb
      exact (hxs i _ (List.getElem?_eq_getElem hi')).1
end
end Go.Proofs.Ytoenoaipjcmdnaa.Op
