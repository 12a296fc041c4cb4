/- The library's table of tens and its variable MaxLen, as the calls read them; what Decimal, Split hand back. -/
import Derived.Test.YthomiofokkkhgaaGreatDoorShelf
import Derived.Test.YthomiofokkkhgaaGreatDoorRows
import Derived.Test.YthomiofokkkhgaaGreatDoorQOwn
import Derived.Lib.LaidTab
import Derived.Lib.AppendIntMem
import Derived.Lib.SmallJoins
import Derived.Lib.SplitLaws
import Derived.Stop.LaidErr
import Derived.MakeChecks
import Derived.WalkKit
import Derived.KernelRfl
import Derived.BigCall
namespace Go.Proofs.YthomiofokkkhgaaGreatDoor.Cx
open Go.RowKit Go.Proofs.YthomiofokkkhgaaGreatDoorW.PrintWords
set_option linter.unusedVariables false
set_option linter.unusedSimpArgs false
/-- the library's table of tens reads as it is laid -/
def Tab (w : World) : Prop := Lib.TabIs Tryz.prog w "internal/strconv.uint64pow10" .u64 Lib.pow10Tab
theorem gTab : Tryz.prog.globalNamed "internal/strconv.uint64pow10" = some 1 := by kernel_rfl
theorem tab_on {w w' : World} (h : Tab w) (hb : Below w.heap.size w w') : Tab w' := Go.Joins.var_stays gTab h hb (Nat.le_refl _)
set_option maxRecDepth 100000 in
theorem decimal (n : Int) (h0 : -9223372036854775808 ≤ n) (h1 : n ≤ 9223372036854775807) (w : World) (htab : Tab w) :
    Calls Tryz.prog 19 #[.int .i64 n] w fun e w' => e = .returned (.string ⟨(Lib.itoa n).toArray⟩) ∧ Below w.heap.size w w' := by
  have HT := Aside0.mk htab
  clear htab
  go_enter Tryz.func19, Tryz.ntmps19
  go_wp2_with (first | (go_at_call 34; refine (Tryz.strconv_Itoa n h0 h1 _ HT.out).mono ?_; rintro e w1 ⟨rfl, kk, os, hw⟩; have HB := Aside0.mk (show Below w.heap.size w w1 by rw [hw]; exact Lib.below_grow _ w (Nat.le_refl _) kk os); clear hw))
  go_ret
  exact ⟨rfl, HB.out⟩
/-- the library's variable MaxLen holds a whole number -/
def Mx (w : World) : Prop := ∃ m, w.cell? ⟨0, 0, none⟩ = some (.int .i64 m)
theorem mx_on {w w' : World} (h : Mx w) (hb : Below w.heap.size w w') : Mx w' := by
  obtain ⟨m, hm⟩ := h
  have hlt : 0 < w.heap.size := by
    rcases Nat.eq_zero_or_pos w.heap.size with h0 | h0
    · have : w.heap[0]? = none := Array.getElem?_eq_none (by omega)
      simp [World.cell?, this] at hm
    · exact h0
  have e : w'.heap[0]? = w.heap[0]? := hb.block 0 hlt
  exact ⟨m, by simpa [World.cell?, e] using hm⟩
theorem reps_strings (w : World) (base : Nat) (ok : Nat → Prop) (l : List ByteArray) : Reps (Kd.string.M w base ok) 1 l (l.map Value.string) := by
  refine ⟨by simp, fun j p hj => ?_⟩
  have hl : j < l.length := (List.getElem?_eq_some_iff.1 hj).1
  have e : l[j] = p := (List.getElem?_eq_some_iff.1 hj).2
  show _ = [Value.string p]
  rw [Nat.mul_one, List.drop_eq_getElem_cons (by simpa using hl)]
  simp [e]
theorem split (s sep : ByteArray) (w : World) (hs : s.size < 4294967281) (h1 : 1 ≤ sep.size) (hm : Mx w) :
    Calls Tryz.prog 38 #[.string s, .string sep] w fun e w' => ∃ v0_ : Value, e = .returned (v0_) ∧ Kd.R Kd.string 9 w' w.heap.size (fun _ => True) v0_ (Lib.splitB sep 0 (Lib.countB s sep) s) ∧ Below w.heap.size w w' := by
  obtain ⟨m, hm⟩ := hm
  refine (Tryz.strings_Split s sep m w hs hm h1).mono ?_
  rintro e w' ⟨rfl, rfl⟩
  have hlen : (Lib.splitB sep 0 (Lib.countB s sep) s).length = Lib.countB s sep + 1 := Lib.splitB_all sep h1 0 _ s rfl
  have hcnt := Lib.countB_le sep h1 s.size s (Nat.le_refl _)
  refine ⟨_, rfl, ⟨fun k hk => trivial, (Lib.splitB sep 0 (Lib.countB s sep) s).map Value.string, ?_, reps_strings _ _ _ _⟩, (Below.refl _ _).alloc (Nat.le_refl _) _⟩
  have h2 := World.ownsRow_lit (base := w.heap.size) (e := 9) (size := 1) w ((Lib.splitB sep 0 (Lib.countB s sep) s).map Value.string).toArray (Lib.countB s sep + 1) (Nat.le_refl _) (by simp [maxLen]; omega) (by simp [hlen])
  rw [hlen]
  simp only [List.toList_toArray] at h2
  exact h2
/-- what the calls read of the library's variables -/
def Ok (w : World) : Prop := Tab w ∧ Mx w
theorem on {w w' : World} (h : Ok w) (hb : Below w.heap.size w w') : Ok w' := ⟨tab_on h.1 hb, mx_on h.2 hb⟩
end Go.Proofs.YthomiofokkkhgaaGreatDoor.Cx
