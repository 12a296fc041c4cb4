/- What strings.Split hands back is a row of its own, wherever the library's variable MaxLen holds a whole number. -/
import Derived.Test.YtmhkghmfoggaeaaDoorShelfS
import Derived.Test.YtmhkghmfoggaeaaDoorQOwn
import Derived.Lib.SplitLaws
import Derived.WalkKit
import Derived.KernelRfl
namespace Go.Proofs.YtmhkghmfoggaeaaDoor.Spl
open Go.RowKit Go.Proofs.YtmhkghmfoggaeaaDoorW.PrintWords
set_option linter.unusedVariables false
set_option linter.unusedSimpArgs false
/-- the library's variable MaxLen holds a whole number -/
def Mx (w : World) : Prop := ∃ m, w.cell? ⟨0, 0, none⟩ = some (.int .i64 m)
theorem mx_on {w w' : World} (h : Mx w) (hb : Below w.heap.size w w') : Mx w' := by
  obtain ⟨m, hm⟩ := h
  have hlt : 0 < w.heap.size := by
    rcases Nat.eq_zero_or_pos w.heap.size with h0 | h0
    · have : w.heap[0]? = none := Array.getElem?_eq_none (by omega)
      simp [World.cell?, this] at hm
    · exact h0
  have e : w'.heap[0]? = w.heap[0]? := hb.block 0 hlt
  exact ⟨m, by simpa [World.cell?, e] using hm⟩
theorem reps_strings (w : World) (base : Nat) (ok : Nat → Prop) (l : List ByteArray) : Reps (Kd.string.M w base ok) 1 l (l.map Value.string) := by
  refine ⟨by simp, fun j p hj => ?_⟩
  have hl : j < l.length := (List.getElem?_eq_some_iff.1 hj).1
  have e : l[j] = p := (List.getElem?_eq_some_iff.1 hj).2
  show _ = [Value.string p]
  rw [Nat.mul_one, List.drop_eq_getElem_cons (by simpa using hl)]
  simp [e]
theorem split (s sep : ByteArray) (w : World) (hs : s.size < 4294967281) (h1 : 1 ≤ sep.size) (hm : Mx w) :
    Calls Tryd.prog 36 #[.string s, .string sep] w fun e w' => ∃ v0_ : Value, e = .returned (v0_) ∧ Kd.R Kd.string 9 w' w.heap.size (fun _ => True) v0_ (Lib.splitB sep 0 (Lib.countB s sep) s) ∧ Below w.heap.size w w' := by
  obtain ⟨m, hm⟩ := hm
  refine (Tryd.strings_Split s sep m w hs hm h1).mono ?_
  rintro e w' ⟨rfl, rfl⟩
  have hlen : (Lib.splitB sep 0 (Lib.countB s sep) s).length = Lib.countB s sep + 1 := Lib.splitB_all sep h1 0 _ s rfl
  have hcnt := Lib.countB_le sep h1 s.size s (Nat.le_refl _)
  refine ⟨_, rfl, ⟨fun k hk => trivial, (Lib.splitB sep 0 (Lib.countB s sep) s).map Value.string, ?_, reps_strings _ _ _ _⟩, (Below.refl _ _).alloc (Nat.le_refl _) _⟩
  have h2 := World.ownsRow_lit (base := w.heap.size) (e := 9) (size := 1) w ((Lib.splitB sep 0 (Lib.countB s sep) s).map Value.string).toArray (Lib.countB s sep + 1) (Nat.le_refl _) (by simp [maxLen]; omega) (by simp [hlen])
  rw [hlen]
  simp only [List.toList_toArray] at h2
  exact h2
end Go.Proofs.YtmhkghmfoggaeaaDoor.Spl
