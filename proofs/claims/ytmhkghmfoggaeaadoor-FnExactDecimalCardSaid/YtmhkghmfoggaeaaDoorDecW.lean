/- The law of Decimal returns true, wherever the library's table of tens reads as it is laid. -/
import Derived.Test.YtmhkghmfoggaeaaDoorPureFnExactDecimal
import Derived.Test.YtmhkghmfoggaeaaDoorDecT
namespace Go.Proofs.YtmhkghmfoggaeaaDoor.Dec
open Go.RowKit Go.Proofs.YtmhkghmfoggaeaaDoor.QFnExactDecimal Go.Proofs.YtmhkghmfoggaeaaDoorW.PrintWords
set_option linter.unusedVariables false
set_option linter.unusedSimpArgs false
set_option maxRecDepth 100000 in
theorem law (n : Int) (h0 : -9223372036854775808 ≤ n) (h1 : n ≤ 9223372036854775807) (w : World) (htab : Tab w) :
    Calls Tryd.prog 3 #[.int .i64 n] w fun e w' => e = .returned (.bool true) ∧ Below w.heap.size w w' := by
  obtain ⟨k, hk⟩ := Pure.FnExactDecimal n h0 h1
  have HT := Aside0.mk htab
  have HK := Aside0.mk hk
  clear htab hk
  go_enter Tryd.func3, Tryd.ntmps3
  go_wp2_with (first | (go_at_call 9; refine (spec_Decimal.calls k n _ _ HK.out).mono ?_; rintro e w1 ⟨rfl, hb_⟩; have H1 := Aside0.mk hb_; clear hb_) | (go_at_call 10; refine (impl_Decimal n h0 h1 _ (tab_on HT.out H1.out)).mono ?_; rintro e w2 ⟨rfl, hb_⟩; have H2 := Aside0.mk (below_step H1.out hb_); clear hb_))
  go_ret
  exact ⟨rfl, H2.out⟩
end Go.Proofs.YtmhkghmfoggaeaaDoor.Dec
