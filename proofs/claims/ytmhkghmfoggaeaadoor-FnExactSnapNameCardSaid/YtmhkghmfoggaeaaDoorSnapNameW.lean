/- The law of SnapName returns true, wherever the library's table of tens reads as it is laid. -/
import Derived.Test.YtmhkghmfoggaeaaDoorPureFnExactSnapName
import Derived.Test.YtmhkghmfoggaeaaDoorDecT
namespace Go.Proofs.YtmhkghmfoggaeaaDoor.SnapName
open Go.RowKit Go.Proofs.YtmhkghmfoggaeaaDoor.QFnExactSnapName Go.Proofs.YtmhkghmfoggaeaaDoorW.PrintWords Go.Proofs.YtmhkghmfoggaeaaDoor.Dec
set_option linter.unusedVariables false
set_option linter.unusedSimpArgs false
def V (n : Int) : ByteArray := if 0 ≤ n ∧ n ≤ 1000000 then ⟨(115 :: Lib.itoa n).toArray⟩ else ⟨#[]⟩
theorem chk (n : Int) : impl_isIndex.f n = some (decide (0 ≤ n ∧ n ≤ 1000000)) := by
  first | unfold impl_isIndex.f | skip
  unfold impl_inRange.f
  by_cases h : 0 ≤ n
  · simp [h]
  · simp [h]
set_option maxRecDepth 100000 in
theorem impl_name (n : Int) (h0 : -9223372036854775808 ≤ n) (h1 : n ≤ 9223372036854775807) (w : World) (htab : Tab w) :
    Calls Tryd.prog 14 #[.int .i64 n] w fun e w' => e = .returned (.string (V n)) ∧ Below w.heap.size w w' := by
  have HT := Aside0.mk htab
  have HC := Aside0.mk (chk n)
  clear htab
  by_cases hr : 0 ≤ n ∧ n ≤ 1000000
  · have HV := Aside0.mk (show V n = ⟨#[115]⟩ ++ (⟨(Lib.itoa n).toArray⟩ : ByteArray) by
      unfold V
      rw [if_pos hr]
      apply ByteArray.ext
      rw [ByteArray.data_append, ← Array.toList_inj]
      simp)
    obtain ⟨s, hs⟩ : ∃ s : ByteArray, s = ⟨(Lib.itoa n).toArray⟩ := ⟨_, rfl⟩
    have hsz : s.size ≤ 21 := by
      have hl := Lib.itoa_length_le n h0 h1
      rw [hs]
      simpa [ByteArray.size] using hl
    have hcat : ¬ 9223372036854775807 < 1 + s.size := by omega
    have hcat2 : ¬ 9223372036854775807 < s.size + 1 := by omega
    rw [← hs] at HV
    have HS := Aside0.mk hs
    have HC2 := Aside0.mk (HC.out.trans (congrArg some (decide_eq_true hr)))
    clear hs hsz hr HC
    go_enter Tryd.func14, Tryd.ntmps14
    go_wp2_with (first | (go_at_call 35; refine (impl_isIndex.calls n true _ HC2.out).mono ?_; rintro e w1 ⟨rfl, hd_⟩; have H1 : Aside0 (Below w.heap.size w w1) := ⟨by first | exact hd_ | (obtain ⟨nd, hnd⟩ := hd_.out; rw [hnd]; exact pw_below_drewN (Below.refl _ _) nd)⟩; clear hd_) | (go_at_call 10; refine (impl_Decimal n h0 h1 _ (tab_on HT.out H1.out)).mono ?_; rintro e w2 ⟨rfl, hb_⟩; rw [← HS.out]; have H2 := Aside0.mk (below_step H1.out hb_); clear hb_))
    go_ret
    exact ⟨by rw [HV.out]; rfl, H2.out⟩
  · have HV := Aside0.mk (show V n = ⟨#[]⟩ by unfold V; rw [if_neg hr])
    have HC2 := Aside0.mk (HC.out.trans (congrArg some (decide_eq_false hr)))
    clear hr HC
    go_enter Tryd.func14, Tryd.ntmps14
    go_wp2_with (first | (go_at_call 35; refine (impl_isIndex.calls n false _ HC2.out).mono ?_; rintro e w1 ⟨rfl, hd_⟩; have H1 : Aside0 (Below w.heap.size w w1) := ⟨by first | exact hd_ | (obtain ⟨nd, hnd⟩ := hd_.out; rw [hnd]; exact pw_below_drewN (Below.refl _ _) nd)⟩; clear hd_))
    go_ret
    exact ⟨by rw [HV.out]; rfl, H1.out⟩
set_option maxRecDepth 100000 in
theorem law (n : Int) (h0 : -9223372036854775808 ≤ n) (h1 : n ≤ 9223372036854775807) (w : World) (htab : Tab w) :
    Calls Tryd.prog 5 #[.int .i64 n] w fun e w' => e = .returned (.bool true) ∧ Below w.heap.size w w' := by
  obtain ⟨k, hk⟩ := Pure.FnExactSnapName n h0 h1
  have HT := Aside0.mk htab
  have HK := Aside0.mk (show spec_SnapName.f k n = some (V n) from hk)
  clear htab hk
  generalize hv : V n = v at HK
  have HV := Aside0.mk hv
  clear hv
  go_enter Tryd.func5, Tryd.ntmps5
  go_wp2_with (first | (go_at_call 13; refine (spec_SnapName.calls k n _ _ HK.out).mono ?_; rintro e w1 ⟨rfl, hb_⟩; have H1 := Aside0.mk hb_; clear hb_) | (go_at_call 14; refine (impl_name n h0 h1 _ (tab_on HT.out H1.out)).mono ?_; rintro e w2 ⟨rfl, hb_⟩; rw [HV.out]; have H2 := Aside0.mk (below_step H1.out hb_); clear hb_))
  go_ret
  exact ⟨rfl, H2.out⟩
end Go.Proofs.YtmhkghmfoggaeaaDoor.SnapName
