/- The program's Decimal hands back the decimal numeral, wherever the library's table of tens reads as it is laid. -/
import Derived.Test.YtmhkghmfoggaeaaDoorShelf
import Derived.Test.YtmhkghmfoggaeaaDoorRows
import Derived.Test.YtmhkghmfoggaeaaDoorQOwn
import Derived.Lib.LaidTab
import Derived.Lib.AppendIntMem
import Derived.Lib.SmallJoins
import Derived.Stop.LaidErr
import Derived.MakeChecks
import Derived.WalkKit
import Derived.KernelRfl
import Derived.BigCall
namespace Go.Proofs.YtmhkghmfoggaeaaDoor.Dec
open Go.RowKit Go.Proofs.YtmhkghmfoggaeaaDoorW.PrintWords
set_option linter.unusedVariables false
set_option linter.unusedSimpArgs false
/-- the library's table of tens reads as it is laid -/
def Tab (w : World) : Prop := Lib.TabIs Tryd.prog w "internal/strconv.uint64pow10" .u64 Lib.pow10Tab
theorem gTab : Tryd.prog.globalNamed "internal/strconv.uint64pow10" = some 1 := by kernel_rfl
theorem tab_on {w w' : World} (h : Tab w) (hb : Below w.heap.size w w') : Tab w' := Go.Joins.var_stays gTab h hb (Nat.le_refl _)
theorem tab_of {W : World} (h : laidMetH Tryd.prog Rows.fnExactDecimalRow.laid W) : Tab W := by
  rw [MakeChecks.laidMetH_plain _ _ _ (by kernel_rfl)] at h
  have h3 : laidMet Tryd.prog [("internal/strconv.uint64pow10", Lib.tabData .u64 Lib.pow10Tab)] W := h.tail.tail
  exact Lib.tabIs_of_head (g := 1) (t := 74) (e := 64) (n := 20) (by kernel_rfl) (by kernel_rfl) Tryd.underlying74 Tryd.underlying64 (by kernel_rfl) (by kernel_rfl) h3
theorem wf64 {n : Int} (h : (Lit.int .i64 n).wf = true) : -9223372036854775808 ≤ n ∧ n ≤ 9223372036854775807 := by simpa [Lit.wf, IntKind.min, IntKind.max, IntKind.bits, IntKind.signed] using h
set_option maxRecDepth 100000 in
theorem impl_Decimal (n : Int) (h0 : -9223372036854775808 ≤ n) (h1 : n ≤ 9223372036854775807) (w : World) (htab : Tab w) :
    Calls Tryd.prog 10 #[.int .i64 n] w fun e w' => e = .returned (.string ⟨(Lib.itoa n).toArray⟩) ∧ Below w.heap.size w w' := by
  have HT := Aside0.mk htab
  clear htab
  go_enter Tryd.func10, Tryd.ntmps10
  go_wp2_with (first | (go_at_call 32; refine (Tryd.strconv_Itoa n h0 h1 _ HT.out).mono ?_; rintro e w1 ⟨rfl, kk, os, hw⟩; have HB := Aside0.mk (show Below w.heap.size w w1 by rw [hw]; exact Lib.below_grow _ w (Nat.le_refl _) kk os); clear hw))
  go_ret
  exact ⟨rfl, HB.out⟩
end Go.Proofs.YtmhkghmfoggaeaaDoor.Dec
