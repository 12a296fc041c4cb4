/- What reads as data of a type is a value of that type's kind: words by which a row opens arguments of any plain type. -/
import Derived.Deep.Slices
import Derived.WideShapes
import Derived.ChangeArms
import Derived.Test.YtidfhfaekdahpaaWWords
namespace Go.Proofs.Ytidfhfaekdahpaa.RdW
open Go.ChangeShapes Go.WideShapes Go.Deep Go.Proofs.YtidfhfaekdahpaaW.PrintWords
set_option linter.unusedVariables false

/-- Cells that read as data of type t are those of a value of the kind d, of which q is known. -/
def Rd {α : Type} (P : Program) (d : Kd α) (t : TypeId) (q : α → Prop) : Prop :=
  ∀ (H : Type) (enc : TypeId × Value → H) (w : World) (base : Nat) (spare : Nat → Bool) (held : Bool) (fuel : Nat) (cs : List Value) (x : DataW H × List MemPlace),
    DataW.trod enc P w base spare held fuel t cs = some x → ∃ a, d.K w a cs ∧ q a
theorem rd_int {P : Program} {k : IntKind} {t : TypeId} (ht : P.underlying t = some (.int k)) : Rd P (Kd.int k) t (fun n => (Lit.int k n).wf = true) := by
  intro H enc w base spare held fuel cs x h
  obtain ⟨n, hc, _, hw⟩ := DataW.trod_int ht h
  exact ⟨n, hc, hw⟩
theorem choose_list {α : Type} {p : Nat → α → Prop} : ∀ (n : Nat), (∀ i, i < n → ∃ a, p i a) → ∃ l : List α, l.length = n ∧ ∀ (i : Nat) (a : α), l[i]? = some a → p i a
  | 0, _ => ⟨[], rfl, fun i a h => by simp at h⟩
  | n + 1, h => by
    obtain ⟨l, hl, hp⟩ := choose_list n (fun i hi => h i (by omega))
    obtain ⟨a, ha⟩ := h n (by omega)
    refine ⟨l ++ [a], by rw [List.length_append, hl]; rfl, fun i b hb => ?_⟩
    rcases Nat.lt_or_ge i l.length with hi | hi
    · rw [List.getElem?_append_left hi] at hb
      exact hp i b hb
    · have hlt := (List.getElem?_eq_some_iff.1 hb).1
      rw [List.length_append, List.length_singleton] at hlt
      have hin : i = l.length := by omega
      subst hin
      have : a = b := by simpa using hb
      subst this
      rw [hl]
      exact ha
theorem rd_slice {α : Type} {P : Program} {d : Kd α} {t e : TypeId} {q : α → Prop} (ht : P.underlying t = some (.slice e)) (hsz : P.cellsOf e = d.sz) (hd : Rd P d e q) :
    Rd P (Kd.slice e d) t (fun l => l.length ≤ maxLen ∧ ∀ x ∈ l, q x) := by
  intro H enc w base spare held fuel cs x h
  rcases open_slice ht h with ⟨rfl, _⟩ | ⟨a, len, cap, m, n, D, Pl, rfl, hb, hl, hm, hmm, hx, hi⟩
  · exact ⟨[], ⟨none, 0, rfl, Nat.le_refl _, Kd.C_nil d w⟩, by simp, fun x hx => by cases hx⟩
  · have hlen : len ≤ m := by rw [hmm]; split <;> omega
    obtain ⟨l, hll, hp⟩ := choose_list (p := fun i (y : α) => q y ∧ ∃ c, c.length = d.sz ∧ d.K w y c ∧ ∀ j u, c[j]? = some u → w.cell? (a.add (i * d.sz + j)) = some u) len (fun i hil => by
      obtain ⟨c, hc, hr⟩ := hi i (by omega)
      obtain ⟨y, hy, hq⟩ := hd H enc w base spare held n c _ hr
      obtain ⟨_, hcl, hat⟩ := World.cells?_some hc
      refine ⟨y, hq, c, d.K_len hy, hy, fun j u hju => ?_⟩
      have hjl := (List.getElem?_eq_some_iff.1 hju).1
      have := hat j (by omega)
      rw [hju, hsz] at this
      rwa [Go.Deep.add_add] at this)
    have hmax : len ≤ maxLen := by omega
    refine ⟨l, ⟨some a, cap, by rw [hll], by omega, ?_⟩, by omega, fun y hy => ?_⟩
    · refine ⟨rfl, by rw [hll]; unfold maxLen at hmax; omega, fun _ => ⟨a, rfl, fun j y hy => ?_⟩⟩
      exact (hp j y hy).2
    · obtain ⟨i, hi'⟩ := List.getElem?_of_mem hy
      exact (hp i y hi').1
end Go.Proofs.Ytidfhfaekdahpaa.RdW
