/- What reads as data of a type is a value of that type's kind: words by which a row opens arguments of any plain type. -/
import Derived.Deep.Slices
import Derived.WideShapes
import Derived.ChangeArms
import Derived.Test.YthomiofokkkhgaaGreatDoorWWords
namespace Go.Proofs.YthomiofokkkhgaaGreatDoor.RdW
open Go.ChangeShapes Go.WideShapes Go.Deep Go.Proofs.YthomiofokkkhgaaGreatDoorW.PrintWords
set_option linter.unusedVariables false

/-- Cells that read as data of type t are those of a value of the kind d, of which q is known. -/
def Rd {α : Type} (P : Program) (d : Kd α) (t : TypeId) (q : α → Prop) : Prop :=
  ∀ (H : Type) (enc : TypeId × Value → H) (w : World) (base : Nat) (spare : Nat → Bool) (held : Bool) (fuel : Nat) (cs : List Value) (x : DataW H × List MemPlace),
    DataW.trod enc P w base spare held fuel t cs = some x → ∃ a, d.K w a cs ∧ q a
theorem rd_int {P : Program} {k : IntKind} {t : TypeId} (ht : P.underlying t = some (.int k)) : Rd P (Kd.int k) t (fun n => (Lit.int k n).wf = true) := by
  intro H enc w base spare held fuel cs x h
  obtain ⟨n, hc, _, hw⟩ := DataW.trod_int ht h
  exact ⟨n, hc, hw⟩
theorem rd_bool {P : Program} {t : TypeId} (ht : P.underlying t = some .bool) : Rd P Kd.bool t (fun _ => True) := by
  intro H enc w base spare held fuel cs x h
  obtain ⟨b, hc, _⟩ := DataW.trod_bool ht h
  exact ⟨b, hc, trivial⟩
theorem rd_str {P : Program} {t : TypeId} (ht : P.underlying t = some .string) : Rd P Kd.string t (fun s => s.size ≤ maxLen) := by
  intro H enc w base spare held fuel cs x h
  obtain ⟨s, hc, _, hs⟩ := DataW.trod_string ht h
  exact ⟨s, hc, hs⟩
theorem choose_list {α : Type} {p : Nat → α → Prop} : ∀ (n : Nat), (∀ i, i < n → ∃ a, p i a) → ∃ l : List α, l.length = n ∧ ∀ (i : Nat) (a : α), l[i]? = some a → p i a
  | 0, _ => ⟨[], rfl, fun i a h => by simp at h⟩
  | n + 1, h => by
    obtain ⟨l, hl, hp⟩ := choose_list n (fun i hi => h i (by omega))
    obtain ⟨a, ha⟩ := h n (by omega)
    refine ⟨l ++ [a], by rw [List.length_append, hl]; rfl, fun i b hb => ?_⟩
    rcases Nat.lt_or_ge i l.length with hi | hi
    · rw [List.getElem?_append_left hi] at hb
      exact hp i b hb
    · have hlt := (List.getElem?_eq_some_iff.1 hb).1
      rw [List.length_append, List.length_singleton] at hlt
      have hin : i = l.length := by omega
      subst hin
      have : a = b := by simpa using hb
      subst this
      rw [hl]
      exact ha
theorem rd_slice {α : Type} {P : Program} {d : Kd α} {t e : TypeId} {q : α → Prop} (ht : P.underlying t = some (.slice e)) (hsz : P.cellsOf e = d.sz) (hd : Rd P d e q) :
    Rd P (Kd.slice e d) t (fun l => l.length ≤ maxLen ∧ ∀ x ∈ l, q x) := by
  intro H enc w base spare held fuel cs x h
  rcases open_slice ht h with ⟨rfl, _⟩ | ⟨a, len, cap, m, n, D, Pl, rfl, hb, hl, hm, hmm, hx, hi⟩
  · exact ⟨[], ⟨none, 0, rfl, Nat.le_refl _, Kd.C_nil d w⟩, by simp, fun x hx => by cases hx⟩
  · have hlen : len ≤ m := by rw [hmm]; split <;> omega
    obtain ⟨l, hll, hp⟩ := choose_list (p := fun i (y : α) => q y ∧ ∃ c, c.length = d.sz ∧ d.K w y c ∧ ∀ j u, c[j]? = some u → w.cell? (a.add (i * d.sz + j)) = some u) len (fun i hil => by
      obtain ⟨c, hc, hr⟩ := hi i (by omega)
      obtain ⟨y, hy, hq⟩ := hd H enc w base spare held n c _ hr
      obtain ⟨_, hcl, hat⟩ := World.cells?_some hc
      refine ⟨y, hq, c, d.K_len hy, hy, fun j u hju => ?_⟩
      have hjl := (List.getElem?_eq_some_iff.1 hju).1
      have := hat j (by omega)
      rw [hju, hsz] at this
      rwa [Go.Deep.add_add] at this)
    have hmax : len ≤ maxLen := by omega
    refine ⟨l, ⟨some a, cap, by rw [hll], by omega, ?_⟩, by omega, fun y hy => ?_⟩
    · refine ⟨rfl, by rw [hll]; unfold maxLen at hmax; omega, fun _ => ⟨a, rfl, fun j y hy => ?_⟩⟩
      exact (hp j y hy).2
    · obtain ⟨i, hi'⟩ := List.getElem?_of_mem hy
      exact (hp i y hi').1
/-- The fields of a struct, from one of them on. -/
def RdF {α : Type} (P : Program) (d : Kd α) (fs : List Field) (off : Nat) (q : α → Prop) : Prop :=
  ∀ (H : Type) (enc : TypeId × Value → H) (w : World) (base : Nat) (spare : Nat → Bool) (held : Bool) (n : Nat) (cs : List Value),
    cs.length = off + d.sz → (∀ f ∈ fs, ∃ y, DataW.trod enc P w base spare held n f.type ((cs.drop f.offset).take (P.cellsOf f.type)) = some y) → ∃ a, d.K w a (cs.drop off) ∧ q a
theorem rdf_one {α : Type} {P : Program} {d : Kd α} {f : Field} {off : Nat} {q : α → Prop} (hd : Rd P d f.type q) (ho : f.offset = off) (hc : P.cellsOf f.type = d.sz) : RdF P d [f] off q := by
  intro H enc w base spare held n cs hl h
  obtain ⟨y, hy⟩ := h f (List.mem_singleton.2 rfl)
  obtain ⟨a, ha, hq⟩ := hd H enc w base spare held n _ y hy
  rw [ho, hc, List.take_of_length_le (by rw [List.length_drop]; omega)] at ha
  exact ⟨a, ha, hq⟩
theorem rdf_cons {α β : Type} {P : Program} {d : Kd α} {d' : Kd β} {f : Field} {fs : List Field} {off : Nat} {q : α → Prop} {q' : β → Prop} (hd : Rd P d f.type q) (ho : f.offset = off) (hc : P.cellsOf f.type = d.sz)
    (hr : RdF P d' fs (off + d.sz) q') : RdF P (Kd.pair d d') (f :: fs) off (fun x => q x.1 ∧ q' x.2) := by
  intro H enc w base spare held n cs hl h
  have hl' : cs.length = off + (d.sz + d'.sz) := hl
  obtain ⟨y, hy⟩ := h f (List.mem_cons_self ..)
  obtain ⟨a, ha, hq⟩ := hd H enc w base spare held n _ y hy
  obtain ⟨b, hb, hq'⟩ := hr H enc w base spare held n cs (by omega) (fun g hg => h g (List.mem_cons_of_mem _ hg))
  rw [ho, hc] at ha
  refine ⟨(a, b), ⟨_, _, ?_, ha, hb⟩, hq, hq'⟩
  rw [← List.drop_drop, List.take_append_drop]
theorem rd_struct {α : Type} {P : Program} {d : Kd α} {t : TypeId} {fs : List Field} {q : α → Prop} (ht : P.underlying t = some (.struct fs.toArray)) (hc : P.cellsOf t = d.sz) (hf : RdF P d fs 0 q) : Rd P d t q := by
  intro H enc w base spare held fuel cs x h
  obtain ⟨xs, n, _, _, hlen, hxl, hg⟩ := DataW.trod_struct ht h
  obtain ⟨a, ha, hq⟩ := hf H enc w base spare held n cs (by omega) (fun f hfm => by
    obtain ⟨i, hi⟩ := List.getElem?_of_mem hfm
    have h1 := hg i f (by simpa using hi)
    have hil : i < fs.length := (List.getElem?_eq_some_iff.1 hi).1
    have hxi : i < xs.length := by rw [hxl]; simpa using hil
    exact ⟨xs[i], by rw [h1]; exact List.getElem?_eq_getElem hxi⟩)
  exact ⟨a, by simpa using ha, hq⟩
theorem rd_iso {α β : Type} {P : Program} {d : Kd α} {t : TypeId} {q : α → Prop} (f : β → α) (g : α → β) (hfg : ∀ a, f (g a) = a) (h : Rd P d t q) : Rd P (Kd.iso d f) t (fun b => q (f b)) := by
  intro H enc w base spare held fuel cs x hx
  obtain ⟨a, ha, hq⟩ := h H enc w base spare held fuel cs x hx
  refine ⟨g a, ?_, ?_⟩
  · show d.K w (f (g a)) cs
    rw [hfg]; exact ha
  · show q (f (g a))
    rw [hfg]; exact hq
end Go.Proofs.YthomiofokkkhgaaGreatDoor.RdW
