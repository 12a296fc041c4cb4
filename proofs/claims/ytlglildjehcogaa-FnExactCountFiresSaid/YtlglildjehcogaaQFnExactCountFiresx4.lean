-- Written by a program of this session's own (wip/turnprint.py over the kit's print); Lean checks it.
import Derived.Test.YtlglildjehcogaaQFnExactCountFiresx0
import Derived.Test.YtlglildjehcogaaQFnExactCountFiresx1
import Derived.Test.YtlglildjehcogaaQFnExactCountFiresx2
import Derived.Test.YtlglildjehcogaaQFnExactCountFiresx3
namespace Go.Proofs.Ytlglildjehcogaa.QFnExactCountFires
open Go.RowKit Go.Proofs.YtlglildjehcogaaW.PrintWords Go.Proofs.YtlglildjehcogaaW.PrintLast Go.Proofs.YtlglildjehcogaaW.PrintMore
attribute [local go_sem] max2_int min2_int max_two min_two max_three min_three max_four min_four   -- for this text's walks alone
attribute [local go_sem] Go.Proofs.YtlglildjehcogaaQWords.run_lss_str
attribute [local go_sem] Go.Proofs.YtlglildjehcogaaQWords.run_geq_str
attribute [local go_sem] Go.Proofs.YtlglildjehcogaaQWords.run_leq_str
attribute [local go_sem] Go.Proofs.YtlglildjehcogaaQWords.run_gtr_str
set_option linter.unusedVariables false
set_option linter.unusedSimpArgs false

/-! ### spec_CountFires: function 17 -/
mutual
def spec_CountFires.j0 : Nat → Int → Int → Int → Bool → List Int → List Int → List Int → List Int → List Int → Option (Int)
  | 0, _, _, _, _, _, _, _, _, _ => none
  | k + 1, x1, x2, x7, x29, x183000, x183001, x183002, x183003, x183004 => if x29 = true then (some 0) else (spec_CountFires.l0 k x2 x7 x1 x183000 x183001 x183002 x183003 x183004)
def spec_CountFires.l0 : Nat → Int → Int → Int → List Int → List Int → List Int → List Int → List Int → Option (Int)
  | 0, _, _, _, _, _, _, _, _ => none
  | k + 1, x2, x7, x8, x183000, x183001, x183002, x183003, x183004 => if x8 < x2 then ((spec_NextFire.f k x183000 x183001 x183002 x183003 x183004 x8 20).bind fun bt186 => (if bt186.2 = true then (if bt186.1 ≥ x2 then (some x7) else (spec_CountFires.l0 k x2 (wrap64 (x7 + 1)) (wrap64 (bt186.1 + 1)) x183000 x183001 x183002 x183003 x183004)) else (some x7))) else (some x7)
end
def spec_CountFires.f (k : Nat) (l0_0 : List Int) (l0_1 : List Int) (l0_2 : List Int) (l0_3 : List Int) (l0_4 : List Int) (a1 : Int) (a2 : Int) : Option (Int) := (spec_l01In.f a1 0 68374079).bind fun t183 => (if t183 = true then ((spec_l01In.f a2 0 68374079).bind fun t184 => (if t184 = true then (if (wrap64 (a2 - a1)) > 20000 then (spec_CountFires.j0 k a1 a2 0 true l0_0 l0_1 l0_2 l0_3 l0_4) else ((spec_CronOk.f k l0_0 l0_1 l0_2 l0_3 l0_4).bind fun t185 => (spec_CountFires.j0 k a1 a2 0 (!t185) l0_0 l0_1 l0_2 l0_3 l0_4))) else (spec_CountFires.j0 k a1 a2 0 true l0_0 l0_1 l0_2 l0_3 l0_4))) else (spec_CountFires.j0 k a1 a2 0 true l0_0 l0_1 l0_2 l0_3 l0_4))
theorem spec_CountFires.mono_l : ∀ k, (∀ y0 y1 y2 y3 y4 y5 y6 y7 y8, LeO (spec_CountFires.j0 k y0 y1 y2 y3 y4 y5 y6 y7 y8) (spec_CountFires.j0 (k + 1) y0 y1 y2 y3 y4 y5 y6 y7 y8)) ∧ (∀ y0 y1 y2 y3 y4 y5 y6 y7, LeO (spec_CountFires.l0 k y0 y1 y2 y3 y4 y5 y6 y7) (spec_CountFires.l0 (k + 1) y0 y1 y2 y3 y4 y5 y6 y7))
  | 0 => ⟨fun _ _ _ _ _ _ _ _ _ r h => by simp [spec_CountFires.j0] at h, fun _ _ _ _ _ _ _ _ r h => by simp [spec_CountFires.l0] at h⟩
  | k + 1 => by
    obtain ⟨ih0, ih1⟩ := spec_CountFires.mono_l k
    refine ⟨?_, ?_⟩
    · intro y0 y1 y2 y3 y4 y5 y6 y7 y8
      unfold spec_CountFires.j0
      repeat' first
      | (with_reducible exact ih0 _ _ _ _ _ _ _ _ _)
      | (with_reducible exact ih1 _ _ _ _ _ _ _ _)
      | (with_reducible exact spec_CronOk.mono _ _ _ _ _ _)
      | (with_reducible exact spec_NextFire.mono _ _ _ _ _ _ _ _)
      | (with_reducible exact LeO.refl _)
      | (with_reducible exact LeO.none _)
      | (with_reducible refine LeO.ite ?_ ?_)
      | (with_reducible refine LeO.bind ?_ (fun _ => ?_))
      | exact ih0 _ _ _ _ _ _ _ _ _
      | exact ih1 _ _ _ _ _ _ _ _
      | exact spec_CronOk.mono _ _ _ _ _ _
      | exact spec_NextFire.mono _ _ _ _ _ _ _ _
      | exact LeO.none _
      | refine LeO.ite ?_ ?_
      | refine LeO.bind ?_ (fun _ => ?_)
    · intro y0 y1 y2 y3 y4 y5 y6 y7
      unfold spec_CountFires.l0
      repeat' first
      | (with_reducible exact ih0 _ _ _ _ _ _ _ _ _)
      | (with_reducible exact ih1 _ _ _ _ _ _ _ _)
      | (with_reducible exact spec_CronOk.mono _ _ _ _ _ _)
      | (with_reducible exact spec_NextFire.mono _ _ _ _ _ _ _ _)
      | (with_reducible exact LeO.refl _)
      | (with_reducible exact LeO.none _)
      | (with_reducible refine LeO.ite ?_ ?_)
      | (with_reducible refine LeO.bind ?_ (fun _ => ?_))
      | exact ih0 _ _ _ _ _ _ _ _ _
      | exact ih1 _ _ _ _ _ _ _ _
      | exact spec_CronOk.mono _ _ _ _ _ _
      | exact spec_NextFire.mono _ _ _ _ _ _ _ _
      | exact LeO.none _
      | refine LeO.ite ?_ ?_
      | refine LeO.bind ?_ (fun _ => ?_)
theorem spec_CountFires.mono : ∀ a0 a1 a2 a3 a4 a5 a6 k, LeO (spec_CountFires.f k a0 a1 a2 a3 a4 a5 a6) (spec_CountFires.f (k + 1) a0 a1 a2 a3 a4 a5 a6) := by
  intro a0 a1 a2 a3 a4 a5 a6 k
  obtain ⟨ih0, ih1⟩ := spec_CountFires.mono_l k
  unfold spec_CountFires.f
  repeat' first
      | (with_reducible exact ih0 _ _ _ _ _ _ _ _ _)
      | (with_reducible exact ih1 _ _ _ _ _ _ _ _)
      | (with_reducible exact spec_CronOk.mono _ _ _ _ _ _)
      | (with_reducible exact spec_NextFire.mono _ _ _ _ _ _ _ _)
      | (with_reducible exact LeO.refl _)
      | (with_reducible exact LeO.none _)
      | (with_reducible refine LeO.ite ?_ ?_)
      | (with_reducible refine LeO.bind ?_ (fun _ => ?_))
      | exact ih0 _ _ _ _ _ _ _ _ _
      | exact ih1 _ _ _ _ _ _ _ _
      | exact spec_CronOk.mono _ _ _ _ _ _
      | exact spec_NextFire.mono _ _ _ _ _ _ _ _
      | exact LeO.none _
      | refine LeO.ite ?_ ?_
      | refine LeO.bind ?_ (fun _ => ?_)
set_option maxHeartbeats 8000000 in
set_option maxRecDepth 100000 in
theorem spec_CountFires.calls (k : Nat) (A0_0 : Option Addr) (c0_0 : Nat) (l0_0 : List Int) (A0_1 : Option Addr) (c0_1 : Nat) (l0_1 : List Int) (A0_2 : Option Addr) (c0_2 : Nat) (l0_2 : List Int) (A0_3 : Option Addr) (c0_3 : Nat) (l0_3 : List Int) (A0_4 : Option Addr) (c0_4 : Nat) (l0_4 : List Int) (a1 : Int) (a2 : Int) (r : Int) (w : World) (hr0_0 : Kd.C (Kd.int .i64) w A0_0 l0_0.length l0_0) (hc0_0 : l0_0.length ≤ c0_0) (hr0_1 : Kd.C (Kd.int .i64) w A0_1 l0_1.length l0_1) (hc0_1 : l0_1.length ≤ c0_1) (hr0_2 : Kd.C (Kd.int .i64) w A0_2 l0_2.length l0_2) (hc0_2 : l0_2.length ≤ c0_2) (hr0_3 : Kd.C (Kd.int .i64) w A0_3 l0_3.length l0_3) (hc0_3 : l0_3.length ≤ c0_3) (hr0_4 : Kd.C (Kd.int .i64) w A0_4 l0_4.length l0_4) (hc0_4 : l0_4.length ≤ c0_4) (h : spec_CountFires.f k l0_0 l0_1 l0_2 l0_3 l0_4 a1 a2 = some r) :
    Calls Try.prog 17 #[.agg #[.slice A0_0 l0_0.length c0_0, .slice A0_1 l0_1.length c0_1, .slice A0_2 l0_2.length c0_2, .slice A0_3 l0_3.length c0_3, .slice A0_4 l0_4.length c0_4], .int .i64 a1, .int .i64 a2] w fun e w' => e = .returned (.int .i64 r) ∧ Below w.heap.size w w' := by
  have hu27 := Try.underlying27
  have HR0_0 := aM hr0_0
  have HC0_0 := aM hc0_0
  clear hr0_0 hc0_0
  have HR0_1 := aM hr0_1
  have HC0_1 := aM hc0_1
  clear hr0_1 hc0_1
  have HR0_2 := aM hr0_2
  have HC0_2 := aM hc0_2
  clear hr0_2 hc0_2
  have HR0_3 := aM hr0_3
  have HC0_3 := aM hc0_3
  clear hr0_3 hc0_3
  have HR0_4 := aM hr0_4
  have HC0_4 := aM hc0_4
  clear hr0_4 hc0_4
  have HB := aM (Below.refl w.heap.size w)
  have H : ((spec_l01In.f a1 0 68374079).bind fun t183 => (if t183 = true then ((spec_l01In.f a2 0 68374079).bind fun t184 => (if t184 = true then (if (wrap64 (a2 - a1)) > 20000 then (spec_CountFires.j0 k a1 a2 0 true l0_0 l0_1 l0_2 l0_3 l0_4) else ((spec_CronOk.f k l0_0 l0_1 l0_2 l0_3 l0_4).bind fun t185 => (spec_CountFires.j0 k a1 a2 0 (!t185) l0_0 l0_1 l0_2 l0_3 l0_4))) else (spec_CountFires.j0 k a1 a2 0 true l0_0 l0_1 l0_2 l0_3 l0_4))) else (spec_CountFires.j0 k a1 a2 0 true l0_0 l0_1 l0_2 l0_3 l0_4))) = some r := h
  clear h
  have HC4 := aM H
  clear H
  go_enter Try.func17, Try.ntmps17
  go_upto_region 2 with (first | ((with_reducible refine gate_dst (N := 3) rfl ?_); refine box_event ?hg (N := 3) ?hd (cs := #[.slice A0_0 l0_0.length c0_0, .slice A0_1 l0_1.length c0_1, .slice A0_2 l0_2.length c0_2, .slice A0_3 l0_3.length c0_3, .slice A0_4 l0_4.length c0_4]) (t := 27) ?hr ?_; (case hd => rfl); (case hg => rfl); (case hr => first | (go_simp; done) | (go_simp; rfl)); intro gb182 hg w5 hbox hb; have n0_ := aM (below_step (by repeat (first | (with_reducible first | exact HB.out | apply lA | apply lN | apply lD) | exact HB.out)) hb); have n1_ := aM (hbox); have n2_ := aM ((by rw [hg]; exact (below_size (by repeat (first | (with_reducible first | exact HB.out | apply lA | apply lN | apply lD) | exact HB.out))) : w.heap.size ≤ gb182)); have n3_ := aM ((by rw [hg]; exact (below_size (by repeat (first | (with_reducible first | exact HB.out | apply lA | apply lN | apply lD) | exact HB.out))) : w.heap.size ≤ gb182)); clear HB; have HB := n0_; have BK182 := n1_; have GW182 := n2_; have GE182 := n3_; clear n0_ n1_ n2_ n3_; clear hb hbox hg))
  (try simp only [Act.put, List.setIfInBounds_toArray, List.set_cons_zero, List.set_cons_succ])
  go_cut [29] (fun v29 wc => ∃ (kq : Nat) (x29_3 : Bool), v29 = .bool x29_3 ∧ Aside0 (spec_CountFires.j0 kq a1 a2 0 x29_3 l0_0 l0_1 l0_2 l0_3 l0_4 = some r) ∧ Aside0 (kq ≤ k) ∧ Aside0 (wc.heap[gb182]? = some (.cells #[(.slice A0_0 l0_0.length c0_0), (.slice A0_1 l0_1.length c0_1), (.slice A0_2 l0_2.length c0_2), (.slice A0_3 l0_3.length c0_3), (.slice A0_4 l0_4.length c0_4)] 27 (0, 0))) ∧ Aside0 (Below w.heap.size w wc))
  case first =>
    have H := HC4.out
    clear HC4
    replace H := Option.bind_eq_some_iff.mp H
    obtain ⟨t183, A60, H⟩ := H
    replace H : (if t183 = true then ((spec_l01In.f a2 0 68374079).bind fun t184 => (if t184 = true then (if (wrap64 (a2 - a1)) > 20000 then (spec_CountFires.j0 k a1 a2 0 true l0_0 l0_1 l0_2 l0_3 l0_4) else ((spec_CronOk.f k l0_0 l0_1 l0_2 l0_3 l0_4).bind fun t185 => (spec_CountFires.j0 k a1 a2 0 (!t185) l0_0 l0_1 l0_2 l0_3 l0_4))) else (spec_CountFires.j0 k a1 a2 0 true l0_0 l0_1 l0_2 l0_3 l0_4))) else (spec_CountFires.j0 k a1 a2 0 true l0_0 l0_1 l0_2 l0_3 l0_4)) = some r := H
    have A6 := aM A60
    clear A60
    refine Classical.byCases (p := t183 = true) (fun c7 => ?L1p) (fun c7 => ?L1n)
    case' L1p =>
      subst c7
      have H1 : ((spec_l01In.f a2 0 68374079).bind fun t184 => (if t184 = true then (if (wrap64 (a2 - a1)) > 20000 then (spec_CountFires.j0 k a1 a2 0 true l0_0 l0_1 l0_2 l0_3 l0_4) else ((spec_CronOk.f k l0_0 l0_1 l0_2 l0_3 l0_4).bind fun t185 => (spec_CountFires.j0 k a1 a2 0 (!t185) l0_0 l0_1 l0_2 l0_3 l0_4))) else (spec_CountFires.j0 k a1 a2 0 true l0_0 l0_1 l0_2 l0_3 l0_4))) = some r := by rw [if_pos rfl] at H; exact H
      clear H
      have H := H1
      clear H1
      replace H := Option.bind_eq_some_iff.mp H
      obtain ⟨t184, A80, H⟩ := H
      replace H : (if t184 = true then (if (wrap64 (a2 - a1)) > 20000 then (spec_CountFires.j0 k a1 a2 0 true l0_0 l0_1 l0_2 l0_3 l0_4) else ((spec_CronOk.f k l0_0 l0_1 l0_2 l0_3 l0_4).bind fun t185 => (spec_CountFires.j0 k a1 a2 0 (!t185) l0_0 l0_1 l0_2 l0_3 l0_4))) else (spec_CountFires.j0 k a1 a2 0 true l0_0 l0_1 l0_2 l0_3 l0_4)) = some r := H
      have A8 := aM A80
      clear A80
      refine Classical.byCases (p := t184 = true) (fun c9 => ?L2p) (fun c9 => ?L2n)
      case' L2p =>
        subst c9
        have H1 : (if (wrap64 (a2 - a1)) > 20000 then (spec_CountFires.j0 k a1 a2 0 true l0_0 l0_1 l0_2 l0_3 l0_4) else ((spec_CronOk.f k l0_0 l0_1 l0_2 l0_3 l0_4).bind fun t185 => (spec_CountFires.j0 k a1 a2 0 (!t185) l0_0 l0_1 l0_2 l0_3 l0_4))) = some r := by rw [if_pos rfl] at H; exact H
        clear H
        have H := H1
        clear H1
        refine Classical.byCases (p := (wrap64 (a2 - a1)) > 20000) (fun c10 => ?L3p) (fun c10 => ?L3n)
        case' L3p =>
          rw [if_pos c10] at H
          have c10b0 : decide (20000 < (wrap64 (a2 - a1))) = true := decide_eq_true c10
          clear c10
          (first | rw [c10b0] | (simp only [i64_w, i32_w]; rw [c10b0]) | skip)
          have H' := aM H
          clear H
        case' L3n =>
          rw [if_neg c10] at H
          have c10b0 : decide (20000 < (wrap64 (a2 - a1))) = false := decide_eq_false c10
          clear c10
          (first | rw [c10b0] | (simp only [i64_w, i32_w]; rw [c10b0]) | skip)
          replace H := Option.bind_eq_some_iff.mp H
          obtain ⟨t185, A110, H⟩ := H
          replace H : (spec_CountFires.j0 k a1 a2 0 (!t185) l0_0 l0_1 l0_2 l0_3 l0_4) = some r := H
          have A11 := aM A110
          clear A110
          have H' := aM H
          clear H
          go_wp2_with (first | ((with_reducible refine gate_callee (f := 29) rfl ?_); refine goesL_ (some 12) rfl rfl Try.func29 (by kernel_rfl) rfl #[.int .i64 a1, .int .i64 0, .int .i64 68374079] rfl (by (try simp only [mT, mC, mN]); first | done | rfl | (simp only [lDr, lTk]; rfl)) ?_; (with_reducible refine (spec_l01In.calls a1 0 68374079 true _ A6.out).mono ?_); rintro e w' ⟨rfl, ⟨nd, rfl⟩⟩; refine ⟨_, rfl, ?_⟩) | (go_at_call 29; (with_reducible refine (spec_l01In.calls a2 0 68374079 true _ A8.out).mono ?_); rintro e w' ⟨rfl, ⟨nd, rfl⟩⟩; have hcz12_0 : w5.cell? ⟨gb182, 0, none⟩ = some (.slice A0_0 l0_0.length c0_0) := (blk_cell BK182.out 0).trans rfl; have hcz12_1 : w5.cell? ⟨gb182, 1, none⟩ = some (.slice A0_1 l0_1.length c0_1) := (blk_cell BK182.out 1).trans rfl; have hcz12_2 : w5.cell? ⟨gb182, 2, none⟩ = some (.slice A0_2 l0_2.length c0_2) := (blk_cell BK182.out 2).trans rfl; have hcz12_3 : w5.cell? ⟨gb182, 3, none⟩ = some (.slice A0_3 l0_3.length c0_3) := (blk_cell BK182.out 3).trans rfl; have hcz12_4 : w5.cell? ⟨gb182, 4, none⟩ = some (.slice A0_4 l0_4.length c0_4) := (blk_cell BK182.out 4).trans rfl; have hfz12_0 := blk_frozen BK182.out 0; have hfz12_1 := blk_frozen BK182.out 1; have hfz12_2 := blk_frozen BK182.out 2; have hfz12_3 := blk_frozen BK182.out 3; have hfz12_4 := blk_frozen BK182.out 4) | (go_at_call 9; (with_reducible refine (spec_CronOk.calls k _ _ l0_0 _ _ l0_1 _ _ l0_2 _ _ l0_3 _ _ l0_4 t185 _ ?side1 ?side2 ?side3 ?side4 ?side5 ?side6 ?side7 ?side8 ?side9 ?side10 A11.out).mono ?_); (case side1 => repeat (first | exact (Kd.C_below HR0_0.out (by repeat (first | (with_reducible first | exact HB.out | apply lA | apply lN | apply lD | refine lS ?_ GE182.out) | exact HB.out))) | (with_reducible refine cA ?_ _) | (with_reducible refine cN ?_ _) | (with_reducible refine cD ?_))); (case side2 => exact HC0_0.out); (case side3 => repeat (first | exact (Kd.C_below HR0_1.out (by repeat (first | (with_reducible first | exact HB.out | apply lA | apply lN | apply lD | refine lS ?_ GE182.out) | exact HB.out))) | (with_reducible refine cA ?_ _) | (with_reducible refine cN ?_ _) | (with_reducible refine cD ?_))); (case side4 => exact HC0_1.out); (case side5 => repeat (first | exact (Kd.C_below HR0_2.out (by repeat (first | (with_reducible first | exact HB.out | apply lA | apply lN | apply lD | refine lS ?_ GE182.out) | exact HB.out))) | (with_reducible refine cA ?_ _) | (with_reducible refine cN ?_ _) | (with_reducible refine cD ?_))); (case side6 => exact HC0_2.out); (case side7 => repeat (first | exact (Kd.C_below HR0_3.out (by repeat (first | (with_reducible first | exact HB.out | apply lA | apply lN | apply lD | refine lS ?_ GE182.out) | exact HB.out))) | (with_reducible refine cA ?_ _) | (with_reducible refine cN ?_ _) | (with_reducible refine cD ?_))); (case side8 => exact HC0_3.out); (case side9 => repeat (first | exact (Kd.C_below HR0_4.out (by repeat (first | (with_reducible first | exact HB.out | apply lA | apply lN | apply lD | refine lS ?_ GE182.out) | exact HB.out))) | (with_reducible refine cA ?_ _) | (with_reducible refine cN ?_ _) | (with_reducible refine cD ?_))); (case side10 => exact HC0_4.out); rintro e w13 ⟨rfl, hb⟩; have n0_ := aM (blk_below (g := gb182) (o := .cells #[.slice A0_0 l0_0.length c0_0, .slice A0_1 l0_1.length c0_1, .slice A0_2 l0_2.length c0_2, .slice A0_3 l0_3.length c0_3, .slice A0_4 l0_4.length c0_4] 27 (0, 0)) (by (with_reducible repeat first | apply bN | apply bD | apply bA); exact BK182.out) hb); have n1_ := aM (below_step (by repeat (first | (with_reducible first | exact HB.out | apply lA | apply lN | apply lD | refine lS ?_ GE182.out) | exact HB.out)) hb); clear BK182; clear HB; have BK182 := n0_; have HB := n1_; clear n0_ n1_; (try clear hb); (try clear hb2); (try clear hk); (try clear hi)))
          go_meet
          case rel => exact ⟨_, (!t185), (by first | rfl | (simp; done) | (simp [*]; done)), H', ⟨by first | omega | exact Nat.le_refl _⟩, ⟨by (with_reducible repeat first | apply bN | apply bD | apply bA); exact BK182.out⟩, ⟨by repeat (first | (with_reducible first | exact HB.out | apply lA | apply lN | apply lD | refine lS ?_ GE182.out) | exact HB.out)⟩⟩
      case' L2n =>
        replace c9 := Bool.eq_false_iff.mpr c9
        subst c9
        have H1 : (spec_CountFires.j0 k a1 a2 0 true l0_0 l0_1 l0_2 l0_3 l0_4) = some r := by rw [if_neg (show ¬ (false = true) by decide)] at H; exact H
        clear H
        have H := H1
        clear H1
        have H' := aM H
        clear H
    case' L1n =>
      replace c7 := Bool.eq_false_iff.mpr c7
      subst c7
      have H1 : (spec_CountFires.j0 k a1 a2 0 true l0_0 l0_1 l0_2 l0_3 l0_4) = some r := by rw [if_neg (show ¬ (false = true) by decide)] at H; exact H
      clear H
      have H := H1
      clear H1
      have H' := aM H
      clear H
      go_wp2_with (first | ((with_reducible refine gate_callee (f := 29) rfl ?_); refine goesL_ (some 12) rfl rfl Try.func29 (by kernel_rfl) rfl #[.int .i64 a1, .int .i64 0, .int .i64 68374079] rfl (by (try simp only [mT, mC, mN]); first | done | rfl | (simp only [lDr, lTk]; rfl)) ?_; (with_reducible refine (spec_l01In.calls a1 0 68374079 false _ A6.out).mono ?_); rintro e w' ⟨rfl, ⟨nd, rfl⟩⟩; refine ⟨_, rfl, ?_⟩))
      go_meet
      case rel => exact ⟨_, (true), (by first | rfl | (simp; done) | (simp [*]; done)), H', ⟨by first | omega | exact Nat.le_refl _⟩, ⟨by (with_reducible repeat first | apply bN | apply bD | apply bA); exact BK182.out⟩, ⟨by repeat (first | (with_reducible first | exact HB.out | apply lA | apply lN | apply lD | refine lS ?_ GE182.out) | exact HB.out)⟩⟩
    case L2p | L2n =>
      go_wp2_with (first | ((with_reducible refine gate_callee (f := 29) rfl ?_); refine goesL_ (some 12) rfl rfl Try.func29 (by kernel_rfl) rfl #[.int .i64 a1, .int .i64 0, .int .i64 68374079] rfl (by (try simp only [mT, mC, mN]); first | done | rfl | (simp only [lDr, lTk]; rfl)) ?_; (with_reducible refine (spec_l01In.calls a1 0 68374079 true _ A6.out).mono ?_); rintro e w' ⟨rfl, ⟨nd, rfl⟩⟩; refine ⟨_, rfl, ?_⟩) | (go_at_call 29; (with_reducible refine (spec_l01In.calls a2 0 68374079 _ _ A8.out).mono ?_); rintro e w' ⟨rfl, ⟨nd, rfl⟩⟩))
      go_meet
      case rel => exact ⟨_, (true), (by first | rfl | (simp; done) | (simp [*]; done)), H', ⟨by first | omega | exact Nat.le_refl _⟩, ⟨by (with_reducible repeat first | apply bN | apply bD | apply bA); exact BK182.out⟩, ⟨by repeat (first | (with_reducible first | exact HB.out | apply lA | apply lN | apply lD | refine lS ?_ GE182.out) | exact HB.out)⟩⟩
  case rest =>
    clear HC4
    try clear c1
    try clear c2
    try clear p2
    try clear p6
    try clear c7
    try clear c9
    try clear c10
    try clear c10b0
    try clear hcz12_0
    try clear hcz12_1
    try clear hcz12_2
    try clear hcz12_3
    try clear hcz12_4
    try clear hfz12_0
    try clear hfz12_1
    try clear hfz12_2
    try clear hfz12_3
    try clear hfz12_4
    obtain ⟨kq, x29_3, rfl, HA, HJ3, BK182, HB⟩ := hcut
    cases kq with
    | zero => exact absurd HA.out (by simp [spec_CountFires.j0])
    | succ kj3 =>
      have H := HA.out
      clear HA
      simp only [spec_CountFires.j0] at H
      by_cases c14 : x29_3 = true
      · subst c14
        have H1 : (some 0) = some r := by rw [if_pos rfl] at H; exact H
        clear H
        have H := H1
        clear H1
        obtain rfl := Option.some.inj H
        go_wp2
        go_ret
        exact ⟨by first | rfl | (simp [errW_none, errW_some] <;> rfl) | (simp [*, errW_none, errW_some] <;> rfl), by repeat (first | (with_reducible first | exact HB.out | apply lA | apply lN | apply lD | refine lS ?_ GE182.out) | exact HB.out)⟩
      · replace c14 := Bool.eq_false_iff.mpr c14
        subst c14
        have H1 : (spec_CountFires.l0 kj3 a2 0 a1 l0_0 l0_1 l0_2 l0_3 l0_4) = some r := by rw [if_neg (show ¬ (false = true) by decide)] at H; exact H
        clear H
        have H := H1
        clear H1
        have H' := aM H
        clear H
        go_wp2
        go_loopg [7, 8] kj3 (fun kq v7 v8 w' => ∃ (x7_2 : Int) (x8_2 : Int), v7 = .int .i64 x7_2 ∧ v8 = .int .i64 x8_2 ∧ Aside0 (spec_CountFires.l0 kq a2 x7_2 x8_2 l0_0 l0_1 l0_2 l0_3 l0_4 = some r) ∧ Aside0 (kq ≤ kj3) ∧ Aside0 (w'.heap[gb182]? = some (.cells #[(.slice A0_0 l0_0.length c0_0), (.slice A0_1 l0_1.length c0_1), (.slice A0_2 l0_2.length c0_2), (.slice A0_3 l0_3.length c0_3), (.slice A0_4 l0_4.length c0_4)] 27 (0, 0))) ∧ Aside0 (Below w.heap.size w w'))
        case atStart => exact ⟨(0), (a1), (by first | rfl | (simp; done) | (simp [*]; done)), (by first | rfl | (simp; done) | (simp [*]; done)), H', ⟨Nat.le_refl _⟩, ⟨by (with_reducible repeat first | apply bN | apply bD | apply bA); exact BK182.out⟩, ⟨by repeat (first | (with_reducible first | exact HB.out | apply lA | apply lN | apply lD | refine lS ?_ GE182.out) | exact HB.out)⟩⟩
        case round =>
          clear H'
          try clear c1
          try clear c2
          try clear p2
          try clear p6
          try clear c7
          try clear c9
          try clear c10
          try clear c10b0
          try clear c14
          try clear hcz12_0
          try clear hcz12_1
          try clear hcz12_2
          try clear hcz12_3
          try clear hcz12_4
          try clear hfz12_0
          try clear hfz12_1
          try clear hfz12_2
          try clear hfz12_3
          try clear hfz12_4
          try clear p2
          try clear p6
          obtain ⟨x7_2, x8_2, rfl, rfl, HA, HK2, BK182, HB⟩ := hrel
          cases gk with
          | zero => exact absurd HA.out (by simp [spec_CountFires.l0])
          | succ k2 =>
            have H := HA.out
            clear HA
            simp only [spec_CountFires.l0] at H
            refine Classical.byCases (p := x8_2 < a2) (fun c15 => ?L4p) (fun c15 => ?L4n)
            case' L4p =>
              rw [if_pos c15] at H
              have c15b0 : decide (x8_2 < a2) = true := decide_eq_true c15
              clear c15
              replace H := Option.bind_eq_some_iff.mp H
              obtain ⟨⟨t186, t187⟩, A160, H⟩ := H
              replace H : (if t187 = true then (if t186 ≥ a2 then (some x7_2) else (spec_CountFires.l0 k2 a2 (wrap64 (x7_2 + 1)) (wrap64 (t186 + 1)) l0_0 l0_1 l0_2 l0_3 l0_4)) else (some x7_2)) = some r := H
              have A16 := aM A160
              clear A160
              refine Classical.byCases (p := t187 = true) (fun c17 => ?L5p) (fun c17 => ?L5n)
              case' L5p =>
                subst c17
                have H1 : (if t186 ≥ a2 then (some x7_2) else (spec_CountFires.l0 k2 a2 (wrap64 (x7_2 + 1)) (wrap64 (t186 + 1)) l0_0 l0_1 l0_2 l0_3 l0_4)) = some r := by rw [if_pos rfl] at H; exact H
                clear H
                have H := H1
                clear H1
                refine Classical.byCases (p := t186 ≥ a2) (fun c18 => ?L6p) (fun c18 => ?L6n)
                case' L6p =>
                  rw [if_pos c18] at H
                  have c18b0 : decide (a2 ≤ t186) = true := decide_eq_true c18
                  clear c18
                  obtain rfl := Option.some.inj H
                  have hcz19_0 : wr.cell? ⟨gb182, 0, none⟩ = some (.slice A0_0 l0_0.length c0_0) := (blk_cell BK182.out 0).trans rfl
                  have hcz19_1 : wr.cell? ⟨gb182, 1, none⟩ = some (.slice A0_1 l0_1.length c0_1) := (blk_cell BK182.out 1).trans rfl
                  have hcz19_2 : wr.cell? ⟨gb182, 2, none⟩ = some (.slice A0_2 l0_2.length c0_2) := (blk_cell BK182.out 2).trans rfl
                  have hcz19_3 : wr.cell? ⟨gb182, 3, none⟩ = some (.slice A0_3 l0_3.length c0_3) := (blk_cell BK182.out 3).trans rfl
                  have hcz19_4 : wr.cell? ⟨gb182, 4, none⟩ = some (.slice A0_4 l0_4.length c0_4) := (blk_cell BK182.out 4).trans rfl
                  have hfz19_0 := blk_frozen BK182.out 0
                  have hfz19_1 := blk_frozen BK182.out 1
                  have hfz19_2 := blk_frozen BK182.out 2
                  have hfz19_3 := blk_frozen BK182.out 3
                  have hfz19_4 := blk_frozen BK182.out 4
                case' L6n =>
                  rw [if_neg c18] at H
                  have c18b0 : decide (a2 ≤ t186) = false := decide_eq_false c18
                  clear c18
                  have H' := aM H
                  clear H
                  have hcz21_0 : wr.cell? ⟨gb182, 0, none⟩ = some (.slice A0_0 l0_0.length c0_0) := (blk_cell BK182.out 0).trans rfl
                  have hcz21_1 : wr.cell? ⟨gb182, 1, none⟩ = some (.slice A0_1 l0_1.length c0_1) := (blk_cell BK182.out 1).trans rfl
                  have hcz21_2 : wr.cell? ⟨gb182, 2, none⟩ = some (.slice A0_2 l0_2.length c0_2) := (blk_cell BK182.out 2).trans rfl
                  have hcz21_3 : wr.cell? ⟨gb182, 3, none⟩ = some (.slice A0_3 l0_3.length c0_3) := (blk_cell BK182.out 3).trans rfl
                  have hcz21_4 : wr.cell? ⟨gb182, 4, none⟩ = some (.slice A0_4 l0_4.length c0_4) := (blk_cell BK182.out 4).trans rfl
                  have hfz21_0 := blk_frozen BK182.out 0
                  have hfz21_1 := blk_frozen BK182.out 1
                  have hfz21_2 := blk_frozen BK182.out 2
                  have hfz21_3 := blk_frozen BK182.out 3
                  have hfz21_4 := blk_frozen BK182.out 4
                  go_wp2_with (first | ((with_reducible refine gate_callee (f := 15) rfl ?_); refine goesL_ (some 37) rfl rfl Try.func15 (by kernel_rfl) rfl #[.agg #[.slice A0_0 l0_0.length c0_0, .slice A0_1 l0_1.length c0_1, .slice A0_2 l0_2.length c0_2, .slice A0_3 l0_3.length c0_3, .slice A0_4 l0_4.length c0_4], .int .i64 x8_2, .int .i64 20] rfl (by (try simp only [mT, mC, mN]); first | done | rfl | (simp only [lDr, lTk]; rfl)) ?_; (with_reducible refine (spec_NextFire.calls k2 _ _ l0_0 _ _ l0_1 _ _ l0_2 _ _ l0_3 _ _ l0_4 x8_2 20 t186 true _ ?side1 ?side2 ?side3 ?side4 ?side5 ?side6 ?side7 ?side8 ?side9 ?side10 A16.out).mono ?_); (case side1 => repeat (first | exact (Kd.C_below HR0_0.out HB.out) | (with_reducible refine cA ?_ _) | (with_reducible refine cN ?_ _) | (with_reducible refine cD ?_))); (case side2 => exact HC0_0.out); (case side3 => repeat (first | exact (Kd.C_below HR0_1.out HB.out) | (with_reducible refine cA ?_ _) | (with_reducible refine cN ?_ _) | (with_reducible refine cD ?_))); (case side4 => exact HC0_1.out); (case side5 => repeat (first | exact (Kd.C_below HR0_2.out HB.out) | (with_reducible refine cA ?_ _) | (with_reducible refine cN ?_ _) | (with_reducible refine cD ?_))); (case side6 => exact HC0_2.out); (case side7 => repeat (first | exact (Kd.C_below HR0_3.out HB.out) | (with_reducible refine cA ?_ _) | (with_reducible refine cN ?_ _) | (with_reducible refine cD ?_))); (case side8 => exact HC0_3.out); (case side9 => repeat (first | exact (Kd.C_below HR0_4.out HB.out) | (with_reducible refine cA ?_ _) | (with_reducible refine cN ?_ _) | (with_reducible refine cD ?_))); (case side10 => exact HC0_4.out); rintro e w22 ⟨rfl, hb⟩; refine ⟨_, rfl, ?_⟩; have n0_ := aM (blk_below (g := gb182) (o := .cells #[.slice A0_0 l0_0.length c0_0, .slice A0_1 l0_1.length c0_1, .slice A0_2 l0_2.length c0_2, .slice A0_3 l0_3.length c0_3, .slice A0_4 l0_4.length c0_4] 27 (0, 0)) (by (with_reducible repeat first | apply bN | apply bD | apply bA); exact BK182.out) hb); have n1_ := aM (below_step (by repeat (first | (with_reducible first | exact HB.out | apply lA | apply lN | apply lD | refine lS ?_ GE182.out) | exact HB.out)) hb); clear BK182; clear HB; have BK182 := n0_; have HB := n1_; clear n0_ n1_; (try clear hb); (try clear hb2); (try clear hk); (try clear hi)))
                  go_roundg k2
                  case measure => have := HJ3.out; have := HK2.out; omega
                  case rel => exact ⟨(wrap64 (x7_2 + 1)), (wrap64 (t186 + 1)), (by first | rfl | (simp; done) | (simp [*]; done)), (by first | rfl | (simp; done) | (simp [*]; done)), H', ⟨by have := HJ3.out; have := HK2.out; omega⟩, ⟨by (with_reducible repeat first | apply bN | apply bD | apply bA); exact BK182.out⟩, ⟨by repeat (first | (with_reducible first | exact HB.out | apply lA | apply lN | apply lD | refine lS ?_ GE182.out) | exact HB.out)⟩⟩
              case' L5n =>
                replace c17 := Bool.eq_false_iff.mpr c17
                subst c17
                have H1 : (some x7_2) = some r := by rw [if_neg (show ¬ (false = true) by decide)] at H; exact H
                clear H
                have H := H1
                clear H1
                obtain rfl := Option.some.inj H
                have hcz23_0 : wr.cell? ⟨gb182, 0, none⟩ = some (.slice A0_0 l0_0.length c0_0) := (blk_cell BK182.out 0).trans rfl
                have hcz23_1 : wr.cell? ⟨gb182, 1, none⟩ = some (.slice A0_1 l0_1.length c0_1) := (blk_cell BK182.out 1).trans rfl
                have hcz23_2 : wr.cell? ⟨gb182, 2, none⟩ = some (.slice A0_2 l0_2.length c0_2) := (blk_cell BK182.out 2).trans rfl
                have hcz23_3 : wr.cell? ⟨gb182, 3, none⟩ = some (.slice A0_3 l0_3.length c0_3) := (blk_cell BK182.out 3).trans rfl
                have hcz23_4 : wr.cell? ⟨gb182, 4, none⟩ = some (.slice A0_4 l0_4.length c0_4) := (blk_cell BK182.out 4).trans rfl
                have hfz23_0 := blk_frozen BK182.out 0
                have hfz23_1 := blk_frozen BK182.out 1
                have hfz23_2 := blk_frozen BK182.out 2
                have hfz23_3 := blk_frozen BK182.out 3
                have hfz23_4 := blk_frozen BK182.out 4
            case' L4n =>
              rw [if_neg c15] at H
              have c15b0 : decide (x8_2 < a2) = false := decide_eq_false c15
              clear c15
              obtain rfl := Option.some.inj H
              go_wp2
              go_ret
              exact ⟨by first | rfl | (simp [errW_none, errW_some] <;> rfl) | (simp [*, errW_none, errW_some] <;> rfl), by repeat (first | (with_reducible first | exact HB.out | apply lA | apply lN | apply lD | refine lS ?_ GE182.out) | exact HB.out)⟩
            case L5p | L5n =>
              go_wp2_with (first | ((with_reducible refine gate_callee (f := 15) rfl ?_); refine goesL_ (some 37) rfl rfl Try.func15 (by kernel_rfl) rfl #[.agg #[.slice A0_0 l0_0.length c0_0, .slice A0_1 l0_1.length c0_1, .slice A0_2 l0_2.length c0_2, .slice A0_3 l0_3.length c0_3, .slice A0_4 l0_4.length c0_4], .int .i64 x8_2, .int .i64 20] rfl (by (try simp only [mT, mC, mN]); first | done | rfl | (simp only [lDr, lTk]; rfl)) ?_; (with_reducible refine (spec_NextFire.calls k2 _ _ l0_0 _ _ l0_1 _ _ l0_2 _ _ l0_3 _ _ l0_4 x8_2 20 t186 _ _ ?side1 ?side2 ?side3 ?side4 ?side5 ?side6 ?side7 ?side8 ?side9 ?side10 A16.out).mono ?_); (case side1 => repeat (first | exact (Kd.C_below HR0_0.out HB.out) | (with_reducible refine cA ?_ _) | (with_reducible refine cN ?_ _) | (with_reducible refine cD ?_))); (case side2 => exact HC0_0.out); (case side3 => repeat (first | exact (Kd.C_below HR0_1.out HB.out) | (with_reducible refine cA ?_ _) | (with_reducible refine cN ?_ _) | (with_reducible refine cD ?_))); (case side4 => exact HC0_1.out); (case side5 => repeat (first | exact (Kd.C_below HR0_2.out HB.out) | (with_reducible refine cA ?_ _) | (with_reducible refine cN ?_ _) | (with_reducible refine cD ?_))); (case side6 => exact HC0_2.out); (case side7 => repeat (first | exact (Kd.C_below HR0_3.out HB.out) | (with_reducible refine cA ?_ _) | (with_reducible refine cN ?_ _) | (with_reducible refine cD ?_))); (case side8 => exact HC0_3.out); (case side9 => repeat (first | exact (Kd.C_below HR0_4.out HB.out) | (with_reducible refine cA ?_ _) | (with_reducible refine cN ?_ _) | (with_reducible refine cD ?_))); (case side10 => exact HC0_4.out); rintro e w20 ⟨rfl, hb⟩; refine ⟨_, rfl, ?_⟩; have n0_ := aM (blk_below (g := gb182) (o := .cells #[.slice A0_0 l0_0.length c0_0, .slice A0_1 l0_1.length c0_1, .slice A0_2 l0_2.length c0_2, .slice A0_3 l0_3.length c0_3, .slice A0_4 l0_4.length c0_4] 27 (0, 0)) (by (with_reducible repeat first | apply bN | apply bD | apply bA); exact BK182.out) hb); have n1_ := aM (below_step (by repeat (first | (with_reducible first | exact HB.out | apply lA | apply lN | apply lD | refine lS ?_ GE182.out) | exact HB.out)) hb); clear BK182; clear HB; have BK182 := n0_; have HB := n1_; clear n0_ n1_; (try clear hb); (try clear hb2); (try clear hk); (try clear hi)))
              go_ret
              exact ⟨by first | rfl | (simp [errW_none, errW_some] <;> rfl) | (simp [*, errW_none, errW_some] <;> rfl), by repeat (first | (with_reducible first | exact HB.out | apply lA | apply lN | apply lD | refine lS ?_ GE182.out) | exact HB.out)⟩

/-! ### impl_CronOk: function 11 (given by the session) -/
/-- ascending numbers of a .. b behind what p tells of -/
def impl_CronOk.rise (a b : Int) : Option Int → List Int → Bool
  | _, [] => true
  | p, x :: xs => decide (a ≤ x ∧ x ≤ b) && ((match p with | none => true | some y => decide (y < x)) && impl_CronOk.rise a b (some x) xs)
def impl_CronOk.prev (l : List Int) (i : Nat) : Option Int := if i = 0 then none else some (l.getD (i - 1) 0)
theorem impl_CronOk.rise_at (a b : Int) (l : List Int) (i : Nat) (h : i < l.length) :
    impl_CronOk.rise a b (impl_CronOk.prev l i) (l.drop i) = (decide (a ≤ l.getD i 0 ∧ l.getD i 0 ≤ b) && ((if i = 0 then true else decide (l.getD (i - 1) 0 < l.getD i 0)) && impl_CronOk.rise a b (impl_CronOk.prev l (i + 1)) (l.drop (i + 1)))) := by
  have e : impl_CronOk.prev l (i + 1) = some (l.getD i 0) := by simp [impl_CronOk.prev]
  have e2 : l.drop i = l.getD i 0 :: l.drop (i + 1) := by
    rw [List.drop_eq_getElem_cons h, List.getD_eq_getElem?_getD, List.getElem?_eq_getElem h]
    rfl
  rw [e, e2]
  simp only [impl_CronOk.rise, impl_CronOk.prev]
  by_cases h0 : i = 0
  · simp [h0]
  · simp [h0]
def impl_CronOk.fld (a b : Int) (l : List Int) : Bool := decide (1 ≤ l.length) && impl_CronOk.rise a b none l
def impl_CronOk.f (l0 l1 l2 l3 l4 : List Int) : Option Bool := some (impl_CronOk.fld 0 59 l0 && (impl_CronOk.fld 0 23 l1 && (impl_CronOk.fld 1 31 l2 && (impl_CronOk.fld 1 12 l3 && impl_CronOk.fld 0 6 l4))))
/-- the fields' addresses -/
theorem impl_CronOk.fields (g : Nat) (w : World) :
    Calls Try.prog 25 #[.pointer (some ⟨g, 0, none⟩)] w fun e w' => e = .returned (.agg #[.pointer (some ⟨g, 0, none⟩), .pointer (some ⟨g, 1, none⟩), .pointer (some ⟨g, 2, none⟩), .pointer (some ⟨g, 3, none⟩), .pointer (some ⟨g, 4, none⟩)]) ∧ Below w.heap.size w w' := by
  have HB := Aside0.mk (Below.refl w.heap.size w)
  go_enter Try.func25, Try.ntmps25
  go_wp2_with ((with_reducible refine gate_dst (N := 2) rfl ?_); refine box_event ?hg (N := 2) ?hd (cs := #[.pointer none, .pointer none, .pointer none, .pointer none, .pointer none]) (t := 46) ?hr ?_; (case hd => rfl); (case hg => rfl); (case hr => first | (go_simp; done) | (go_simp; rfl)); intro gb hg w2 hbox hb; have HB2 := Aside0.mk hb; have BK := Aside0.mk hbox; have GE := Aside0.mk (show w.heap.size ≤ gb by rw [hg]; exact Nat.le_refl _); clear hb hbox hg)
  go_still_tail 16, (by kernel_rfl)
  have HB3 := Aside0.mk (below_drew1 HB2.out)
  have BK3 := Aside0.mk (blk_drew BK.out)
  clear HB2 BK
  refine store_blk rfl rfl 46 (.tmp 2) (.tmp 18) rfl (.agg #[.pointer (some ⟨g, 0, none⟩), .pointer (some ⟨g, 1, none⟩), .pointer (some ⟨g, 2, none⟩), .pointer (some ⟨g, 3, none⟩), .pointer (some ⟨g, 4, none⟩)]) [.pointer (some ⟨g, 0, none⟩), .pointer (some ⟨g, 1, none⟩), .pointer (some ⟨g, 2, none⟩), .pointer (some ⟨g, 3, none⟩), .pointer (some ⟨g, 4, none⟩)] rfl rfl rfl (by kernel_rfl) BK3.out (by simp) (by intro q hq; simp at hq; rcases hq with rfl | rfl | rfl | rfl | rfl <;> rfl) ?_
  intro w4 cur hc hcl hg
  have HG := Aside0.mk hg
  obtain rfl : cur = #[.pointer (some ⟨g, 0, none⟩), .pointer (some ⟨g, 1, none⟩), .pointer (some ⟨g, 2, none⟩), .pointer (some ⟨g, 3, none⟩), .pointer (some ⟨g, 4, none⟩)] := Array.toList_inj.mp (hcl.trans rfl)
  have BK4 := Aside0.mk hc
  clear hcl hc hg BK3
  go_wp2
  refine bodyPost_ret (results_cell_row rfl _ _ gb 46 _ (0, 0) _ rfl BK4.out Try.underlying46 rfl (by kernel_rfl)) rfl ⟨rfl, ?_⟩
  exact (HB3.out).grown HG.out (below_size HB3.out) (fun k hk => by injection hk with hk; subst hk; exact GE.out)
/-- the bounds of a field -/
def impl_CronOk.lo (i : Nat) : Int := if i = 2 ∨ i = 3 then 1 else 0
def impl_CronOk.hi (i : Nat) : Int := if i = 0 then 59 else if i = 1 then 23 else if i = 2 then 31 else if i = 3 then 12 else 6
set_option maxHeartbeats 2000000 in
theorem impl_CronOk.bnd (i : Nat) (w : World) (hi : i < 5) :
    Calls Try.prog 26 #[.int .i64 (i : Int)] w fun e w' => e = .returned (.tuple #[.int .i64 (impl_CronOk.lo i), .int .i64 (impl_CronOk.hi i)]) ∧ w = w' := by
  obtain rfl | rfl | rfl | rfl | rfl : i = 0 ∨ i = 1 ∨ i = 2 ∨ i = 3 ∨ i = 4 := by omega
  all_goals
    go_enter Try.func26, Try.ntmps26
    go_wp2
    go_ret2
    exact ⟨rfl, rfl⟩
theorem impl_CronOk.inr (x a b : Int) (z : Bool) (w : World) (hz : decide (a ≤ x ∧ x ≤ b) = z) :
    Calls Try.prog 27 #[.int .i64 x, .int .i64 a, .int .i64 b] w fun e w' => e = .returned (.bool z) ∧ w = w' := by
  by_cases h1 : a ≤ x
  · by_cases h2 : x ≤ b
    · rw [decide_eq_true (show a ≤ x ∧ x ≤ b from ⟨h1, h2⟩)] at hz
      subst hz
      go_enter Try.func27, Try.ntmps27
      go_wp2
      go_ret
      exact ⟨rfl, rfl⟩
    · rw [decide_eq_false (show ¬ (a ≤ x ∧ x ≤ b) from fun h => h2 h.2)] at hz
      subst hz
      go_enter Try.func27, Try.ntmps27
      go_wp2
      go_ret
      exact ⟨rfl, rfl⟩
  · rw [decide_eq_false (show ¬ (a ≤ x ∧ x ≤ b) from fun h => h1 h.1)] at hz
    subst hz
    go_enter Try.func27, Try.ntmps27
    go_wp2
    go_ret
    exact ⟨rfl, rfl⟩
/-- the field's list -/
def impl_CronOk.nth (l0 l1 l2 l3 l4 : List Int) (i : Nat) : List Int := if i = 0 then l0 else if i = 1 then l1 else if i = 2 then l2 else if i = 3 then l3 else l4
/-- the fields of the last d places are as they are wanted -/
def impl_CronOk.rest (L : Nat → List Int) : Nat → Bool
  | 0 => true
  | d + 1 => impl_CronOk.fld (impl_CronOk.lo (4 - d)) (impl_CronOk.hi (4 - d)) (L (4 - d)) && impl_CronOk.rest L d
theorem impl_CronOk.rest_at (L : Nat → List Int) (i : Nat) (h : i < 5) : impl_CronOk.rest L (5 - i) = (impl_CronOk.fld (impl_CronOk.lo i) (impl_CronOk.hi i) (L i) && impl_CronOk.rest L (5 - (i + 1))) := by
  have e : 5 - i = (5 - (i + 1)) + 1 := by omega
  rw [e]
  show (impl_CronOk.fld (impl_CronOk.lo (4 - (5 - (i + 1)))) (impl_CronOk.hi (4 - (5 - (i + 1)))) (L (4 - (5 - (i + 1)))) && _) = _
  rw [show 4 - (5 - (i + 1)) = i by omega]
theorem impl_CronOk.index5 (g i : Nat) (h : i < 5) (W : World) : (Instr.index 46 (.agg #[.pointer (some ⟨g, 0, none⟩), .pointer (some ⟨g, 1, none⟩), .pointer (some ⟨g, 2, none⟩), .pointer (some ⟨g, 3, none⟩), .pointer (some ⟨g, 4, none⟩)]) (.int .i64 (i : Int))).run Try.prog W = .ok (.pointer (some ⟨g, i, none⟩)) W := by
  obtain rfl | rfl | rfl | rfl | rfl : i = 0 ∨ i = 1 ∨ i = 2 ∨ i = 3 ∨ i = 4 := by omega
  all_goals kernel_rfl
/-- what lies behind a field -/
def impl_CronOk.Row (W : World) (g : Nat) (l : List Int) (i : Nat) : Prop := ∃ A c, W.cell? ⟨g, i, none⟩ = some (.slice A l.length c) ∧ l.length ≤ c ∧ Kd.C (Kd.int .i64) W A l.length l
theorem impl_CronOk.fld_nil (a b : Int) (l : List Int) (h : l.length = 0) : impl_CronOk.fld a b l = false := by
  unfold impl_CronOk.fld
  rw [decide_eq_false (by omega), Bool.false_and]
theorem impl_CronOk.fld_rise (a b : Int) (l : List Int) (h : ¬ l.length = 0) : impl_CronOk.fld a b l = impl_CronOk.rise a b none l := by
  unfold impl_CronOk.fld
  rw [decide_eq_true (by omega), Bool.true_and]
set_option maxHeartbeats 8000000 in
set_option maxRecDepth 100000 in
theorem impl_CronOk.calls (A0 : Option Addr) (c0 : Nat) (l0 : List Int) (A1 : Option Addr) (c1 : Nat) (l1 : List Int) (A2 : Option Addr) (c2 : Nat) (l2 : List Int) (A3 : Option Addr) (c3 : Nat) (l3 : List Int) (A4 : Option Addr) (c4 : Nat) (l4 : List Int) (r : Bool) (w : World)
    (hr0 : Kd.C (Kd.int .i64) w A0 l0.length l0) (hc0 : l0.length ≤ c0) (hr1 : Kd.C (Kd.int .i64) w A1 l1.length l1) (hc1 : l1.length ≤ c1) (hr2 : Kd.C (Kd.int .i64) w A2 l2.length l2) (hc2 : l2.length ≤ c2) (hr3 : Kd.C (Kd.int .i64) w A3 l3.length l3) (hc3 : l3.length ≤ c3) (hr4 : Kd.C (Kd.int .i64) w A4 l4.length l4) (hc4 : l4.length ≤ c4)
    (h : impl_CronOk.f l0 l1 l2 l3 l4 = some r) :
    Calls Try.prog 11 #[.agg #[.slice A0 l0.length c0, .slice A1 l1.length c1, .slice A2 l2.length c2, .slice A3 l3.length c3, .slice A4 l4.length c4]] w fun e w' => e = .returned (.bool r) ∧ Below w.heap.size w w' := by
  have hL : impl_CronOk.rest (impl_CronOk.nth l0 l1 l2 l3 l4) (5 - 0) = r := Option.some.inj ((show some (impl_CronOk.rest (impl_CronOk.nth l0 l1 l2 l3 l4) (5 - 0)) = impl_CronOk.f l0 l1 l2 l3 l4 by simp [impl_CronOk.rest, impl_CronOk.f, impl_CronOk.nth, impl_CronOk.lo, impl_CronOk.hi]).trans h)
  clear h
  have HL := Aside0.mk hL
  clear hL
  have HR0 := Aside0.mk hr0
  have HR1 := Aside0.mk hr1
  have HR2 := Aside0.mk hr2
  have HR3 := Aside0.mk hr3
  have HR4 := Aside0.mk hr4
  clear hr0 hr1 hr2 hr3 hr4
  have HC := Aside0.mk (⟨hc0, hc1, hc2, hc3, hc4⟩ : l0.length ≤ c0 ∧ l1.length ≤ c1 ∧ l2.length ≤ c2 ∧ l3.length ≤ c3 ∧ l4.length ≤ c4)
  clear hc0 hc1 hc2 hc3 hc4
  go_enter Try.func11, Try.ntmps11
  go_wp2_with (first | ((with_reducible refine gate_dst (N := 1) rfl ?_); refine box_event ?hg (N := 1) ?hd (cs := #[.slice A0 l0.length c0, .slice A1 l1.length c1, .slice A2 l2.length c2, .slice A3 l3.length c3, .slice A4 l4.length c4]) (t := 27) ?hr ?_; (case hd => rfl); (case hg => rfl); (case hr => first | (go_simp; done) | (go_simp; rfl)); intro gb hg w2 hbox hb; have HB2 := Aside0.mk hb; have BK := Aside0.mk hbox; clear hb hbox hg) | (go_at_call 25; refine (impl_CronOk.fields _ _).mono ?_; rintro e w4 ⟨rfl, hb4⟩; have HB4 := Aside0.mk hb4; clear hb4))
  have HB := Aside0.mk (below_step HB2.out HB4.out)
  have BK4 := Aside0.mk (blk_below BK.out HB4.out)
  have HRow : Aside0 (∀ i, i < 5 → impl_CronOk.Row w4 gb (impl_CronOk.nth l0 l1 l2 l3 l4 i) i) := ⟨by
    have b : ∀ {A n l}, Kd.C (Kd.int .i64) w A n l → Kd.C (Kd.int .i64) w4 A n l := fun h => Kd.C_below h HB.out
    intro i hi
    obtain rfl | rfl | rfl | rfl | rfl : i = 0 ∨ i = 1 ∨ i = 2 ∨ i = 3 ∨ i = 4 := by omega
    · exact ⟨_, _, (blk_cell BK4.out 0).trans rfl, HC.out.1, b HR0.out⟩
    · exact ⟨_, _, (blk_cell BK4.out 1).trans rfl, HC.out.2.1, b HR1.out⟩
    · exact ⟨_, _, (blk_cell BK4.out 2).trans rfl, HC.out.2.2.1, b HR2.out⟩
    · exact ⟨_, _, (blk_cell BK4.out 3).trans rfl, HC.out.2.2.2.1, b HR3.out⟩
    · exact ⟨_, _, (blk_cell BK4.out 4).trans rfl, HC.out.2.2.2.2, b HR4.out⟩⟩
  clear HR0 HR1 HR2 HR3 HR4 HC BK BK4 HB2 HB4
  generalize impl_CronOk.nth l0 l1 l2 l3 l4 = L at HRow HL
  go_loop [11] (fun v11 => ∃ i : Nat, i ≤ 5 ∧ v11 = .int .i64 (i : Int) ∧ Aside0 (impl_CronOk.rest L (5 - i) = r)) (fun v11 => 5 - (intOf v11).toNat)
  case atStart => exact ⟨0, by omega, rfl, HL⟩
  case round =>
    clear HL
    obtain ⟨i, hi, rfl, HI⟩ := hrel
    by_cases hlt : i < 5
    · have hix := impl_CronOk.index5 gb i hlt
      have HI2 := Aside0.mk ((impl_CronOk.rest_at L i hlt).symm.trans HI.out)
      obtain ⟨A, c, hcell, hc, hC⟩ := HRow.out i hlt
      have HC := Aside0.mk hC
      clear hC
      by_cases h0 : (L i).length = 0
      · have HF := Aside0.mk (show false = r by rw [← HI2.out, impl_CronOk.fld_nil _ _ _ h0, Bool.false_and])
        have hq0 : decide ((0 : Int) < ((L i).length : Int)) = false := decide_eq_false (by omega)
        rw [h0] at hcell
        clear hc HI HI2
        go_wp2_with (first | (go_at_call 26; refine (impl_CronOk.bnd i _ hlt).mono ?_; rintro e w' ⟨rfl, rfl⟩))
        go_loop [25] (fun v25 => v25 = .int .i64 0) (fun _ => 0)
        case atStart => rfl
        case round =>
          obtain rfl := hrel
          go_wp2
          go_ret
          exact ⟨congrArg (fun b_ => Ending.returned (Value.bool b_)) HF.out, HB.out⟩
      · obtain ⟨ad, hA, _⟩ := HC.out.2.2 (by omega)
        subst hA
        have HI3 := Aside0.mk (show (impl_CronOk.rise (impl_CronOk.lo i) (impl_CronOk.hi i) none (L i) && impl_CronOk.rest L (5 - (i + 1))) = r by rw [← HI2.out, impl_CronOk.fld_rise _ _ _ h0])
        clear HI HI2
        have hlen : ((L i).length : Int) ≤ 9223372036854775807 := by have := HC.out.2.1; omega
        go_wp2_with (first | (go_at_call 26; refine (impl_CronOk.bnd i _ hlt).mono ?_; rintro e w' ⟨rfl, rfl⟩))
        go_loop [25] (fun v25 => ∃ k : Nat, k ≤ (L i).length ∧ v25 = .int .i64 (k : Int) ∧ Aside0 (impl_CronOk.rise (impl_CronOk.lo i) (impl_CronOk.hi i) (impl_CronOk.prev (L i) k) ((L i).drop k) = impl_CronOk.rise (impl_CronOk.lo i) (impl_CronOk.hi i) none (L i))) (fun v25 => (L i).length - (intOf v25).toNat)
        case atStart => exact ⟨0, Nat.zero_le _, rfl, ⟨rfl⟩⟩
        case round =>
          obtain ⟨k, hk, rfl, HK⟩ := hrel
          by_cases hkl : k < (L i).length
          · have HK2 := Aside0.mk ((impl_CronOk.rise_at (impl_CronOk.lo i) (impl_CronOk.hi i) (L i) k hkl).symm.trans HK.out)
            have hx : w4.cell? (ad.add k) = some (.int .i64 ((L i).getD k 0)) := by
              obtain ⟨ad2, he, h1⟩ := Kd.at_int HC.out (k : Int) (by omega) (by omega)
              injection he with he
              subst he
              exact h1
            obtain ⟨x, hxv⟩ : ∃ x, x = (L i).getD k 0 := ⟨_, rfl⟩
            rw [← hxv] at hx HK2
            clear hxv HK
            by_cases hr : impl_CronOk.lo i ≤ x ∧ x ≤ impl_CronOk.hi i
            · by_cases hz : k = 0
              · subst hz
                have hx : w4.cell? ad = some (.int .i64 x) := by simpa [Addr.add] using hx
                have HK3 := Aside0.mk (show impl_CronOk.rise (impl_CronOk.lo i) (impl_CronOk.hi i) (impl_CronOk.prev (L i) (0 + 1)) ((L i).drop (0 + 1)) = impl_CronOk.rise (impl_CronOk.lo i) (impl_CronOk.hi i) none (L i) by rw [← HK2.out, decide_eq_true hr, if_pos rfl, Bool.true_and, Bool.true_and])
                clear HK2
                have HD := Aside0.mk (decide_eq_true hr)
                clear hr
                go_wp2_with (first | (go_at_call 27; refine (impl_CronOk.inr _ _ _ _ _ HD.out).mono ?_; rintro e w' ⟨rfl, rfl⟩))
                go_round
                case rel => exact ⟨0 + 1, by omega, by go_num, HK3⟩
                case measure => simp [intOf]; omega
              · have hy : w4.cell? (ad.add (k - 1)) = some (.int .i64 ((L i).getD (k - 1) 0)) := by
                  obtain ⟨ad2, he, h1⟩ := Kd.at_int HC.out ((k - 1 : Nat) : Int) (by omega) (by omega)
                  injection he with he
                  subst he
                  exact h1
                obtain ⟨y, hyv⟩ : ∃ y, y = (L i).getD (k - 1) 0 := ⟨_, rfl⟩
                rw [← hyv] at hy HK2
                clear hyv
                have HD := Aside0.mk (decide_eq_true hr)
                by_cases hp : y < x
                · have HK3 := Aside0.mk (show impl_CronOk.rise (impl_CronOk.lo i) (impl_CronOk.hi i) (impl_CronOk.prev (L i) (k + 1)) ((L i).drop (k + 1)) = impl_CronOk.rise (impl_CronOk.lo i) (impl_CronOk.hi i) none (L i) by rw [← HK2.out, decide_eq_true hr, if_neg hz, decide_eq_true hp, Bool.true_and, Bool.true_and])
                  clear HK2 hr
                  go_wp2_with (first | (go_at_call 27; refine (impl_CronOk.inr _ _ _ _ _ HD.out).mono ?_; rintro e w' ⟨rfl, rfl⟩))
                  go_round
                  case rel => exact ⟨k + 1, by omega, by go_num, HK3⟩
                  case measure => simp [intOf]; omega
                · have HF := Aside0.mk (show false = r by rw [← HI3.out, ← HK2.out, decide_eq_true hr, if_neg hz, decide_eq_false hp]; simp)
                  clear HK2 hr HI3
                  go_wp2_with (first | (go_at_call 27; refine (impl_CronOk.inr _ _ _ _ _ HD.out).mono ?_; rintro e w' ⟨rfl, rfl⟩))
                  go_ret
                  exact ⟨congrArg (fun b_ => Ending.returned (Value.bool b_)) HF.out, HB.out⟩
            · have HD := Aside0.mk (decide_eq_false hr)
              have HF := Aside0.mk (show false = r by rw [← HI3.out, ← HK2.out, decide_eq_false hr]; simp)
              clear HK2 hr HI3
              go_wp2_with (first | (go_at_call 27; refine (impl_CronOk.inr _ _ _ _ _ HD.out).mono ?_; rintro e w' ⟨rfl, rfl⟩))
              go_ret
              exact ⟨congrArg (fun b_ => Ending.returned (Value.bool b_)) HF.out, HB.out⟩
          · obtain rfl : k = (L i).length := by omega
            have HN := Aside0.mk (show impl_CronOk.rest L (5 - (i + 1)) = r by
              rw [← HI3.out, ← HK.out, List.drop_eq_nil_of_le (Nat.le_refl _)]
              cases impl_CronOk.prev (L i) (L i).length <;> simp [impl_CronOk.rise])
            clear HK HI3
            go_wp2
            go_round
            case rel => exact ⟨i + 1, by omega, by go_num, HN⟩
            case measure => simp [intOf]; omega
    · obtain rfl : i = 5 := by omega
      have HF := Aside0.mk (show true = r from HI.out)
      clear HI
      go_wp2
      go_ret
      exact ⟨congrArg (fun b_ => Ending.returned (Value.bool b_)) HF.out, HB.out⟩

/-! ### impl_inRange: function 27 -/
def impl_inRange.f (a0 : Int) (a1 : Int) (a2 : Int) : Option (Bool) := if a0 ≥ a1 then (some (decide (a0 ≤ a2))) else (some false)
set_option maxHeartbeats 8000000 in
set_option maxRecDepth 100000 in
theorem impl_inRange.calls (a0 : Int) (a1 : Int) (a2 : Int) (r : Bool) (w : World) (h : impl_inRange.f a0 a1 a2 = some r) :
    Calls Try.prog 27 #[.int .i64 a0, .int .i64 a1, .int .i64 a2] w fun e w' => e = .returned (.bool r) ∧ Drawn0 w w' := by
  have H : (if a0 ≥ a1 then (some (decide (a0 ≤ a2))) else (some false)) = some r := h
  clear h
  by_cases c4 : a0 ≥ a1
  · rw [if_pos c4] at H
    have c4b0 : decide (a1 ≤ a0) = true := decide_eq_true c4
    clear c4
    obtain rfl := Option.some.inj H
    go_enter Try.func27, Try.ntmps27
    go_wp2
    go_ret
    exact ⟨by first | rfl | (simp; done) | (simp [*]; done), by repeat (first | exact Drawn0.refl _ | apply Drawn0.step)⟩
  · rw [if_neg c4] at H
    have c4b0 : decide (a1 ≤ a0) = false := decide_eq_false c4
    clear c4
    obtain rfl := Option.some.inj H
    go_enter Try.func27, Try.ntmps27
    go_wp2
    go_ret
    exact ⟨by first | rfl | (simp; done) | (simp [*]; done), by repeat (first | exact Drawn0.refl _ | apply Drawn0.step)⟩

/-! ### impl_isMinute: function 36 -/
def impl_isMinute.f (a0 : Int) : Option (Bool) := (impl_inRange.f a0 0 68374079).bind fun t188 => (some t188)
set_option maxHeartbeats 8000000 in
set_option maxRecDepth 100000 in
theorem impl_isMinute.calls (a0 : Int) (r : Bool) (w : World) (h : impl_isMinute.f a0 = some r) :
    Calls Try.prog 36 #[.int .i64 a0] w fun e w' => e = .returned (.bool r) ∧ Drawn0 w w' := by
  have H : ((impl_inRange.f a0 0 68374079).bind fun t188 => (some t188)) = some r := h
  clear h
  replace H := Option.bind_eq_some_iff.mp H
  obtain ⟨t188, A20, H⟩ := H
  replace H : (some t188) = some r := H
  have A2 := aM A20
  clear A20
  obtain rfl := Option.some.inj H
  go_enter Try.func36, Try.ntmps36
  go_wp2_with (first | ((with_reducible refine gate_callee (f := 27) rfl ?_); refine goesL_ (some 4) rfl rfl Try.func27 (by kernel_rfl) rfl #[.int .i64 a0, .int .i64 0, .int .i64 68374079] rfl (by (try simp only [mT, mC, mN]); first | done | rfl | (simp only [lDr, lTk]; rfl)) ?_; (with_reducible refine (impl_inRange.calls a0 0 68374079 t188 _ A2.out).mono ?_); rintro e w' ⟨rfl, ⟨nd, rfl⟩⟩; refine ⟨_, rfl, ?_⟩))
  go_ret
  exact ⟨by first | rfl | (simp; done) | (simp [*]; done), by repeat (first | exact Drawn0.refl _ | apply Drawn0.step)⟩

/-! ### impl_LeapYear: function 52 -/
def impl_LeapYear.f (a0 : Int) : Option (Bool) := if (Int.tmod a0 4) = 0 then (if (Int.tmod a0 100) = 0 then (some ((Int.tmod a0 400) == 0)) else (some true)) else (some ((Int.tmod a0 400) == 0))
set_option maxHeartbeats 8000000 in
set_option maxRecDepth 100000 in
theorem impl_LeapYear.calls (a0 : Int) (r : Bool) (w : World) (h : impl_LeapYear.f a0 = some r) :
    Calls Try.prog 52 #[.int .i64 a0] w fun e w' => e = .returned (.bool r) ∧ Drawn0 w w' := by
  have H : (if (Int.tmod a0 4) = 0 then (if (Int.tmod a0 100) = 0 then (some ((Int.tmod a0 400) == 0)) else (some true)) else (some ((Int.tmod a0 400) == 0))) = some r := h
  clear h
  by_cases c2 : (Int.tmod a0 4) = 0
  · rw [if_pos c2] at H
    have c2b0 : ((Int.tmod a0 4) == 0) = true := beq_iff_eq.mpr c2
    have c2b1 : ((Int.tmod a0 4) != 0) = false := bne_eq_false_iff_eq.mpr c2
    clear c2
    by_cases c3 : (Int.tmod a0 100) = 0
    · rw [if_pos c3] at H
      have c3b0 : ((Int.tmod a0 100) == 0) = true := beq_iff_eq.mpr c3
      have c3b1 : ((Int.tmod a0 100) != 0) = false := bne_eq_false_iff_eq.mpr c3
      clear c3
      obtain rfl := Option.some.inj H
      go_enter Try.func52, Try.ntmps52
      go_wp2
      go_ret
      exact ⟨by first | rfl | (simp; done) | (simp [*]; done), by repeat (first | exact Drawn0.refl _ | apply Drawn0.step)⟩
    · rw [if_neg c3] at H
      have c3b0 : ((Int.tmod a0 100) == 0) = false := beq_eq_false_iff_ne.mpr c3
      have c3b1 : ((Int.tmod a0 100) != 0) = true := bne_iff_ne.mpr c3
      obtain rfl := Option.some.inj H
      go_enter Try.func52, Try.ntmps52
      go_wp2
      go_ret
      exact ⟨by first | rfl | (simp; done) | (simp [*]; done), by repeat (first | exact Drawn0.refl _ | apply Drawn0.step)⟩
  · rw [if_neg c2] at H
    have c2b0 : ((Int.tmod a0 4) == 0) = false := beq_eq_false_iff_ne.mpr c2
    have c2b1 : ((Int.tmod a0 4) != 0) = true := bne_iff_ne.mpr c2
    obtain rfl := Option.some.inj H
    go_enter Try.func52, Try.ntmps52
    go_wp2
    go_ret
    exact ⟨by first | rfl | (simp; done) | (simp [*]; done), by repeat (first | exact Drawn0.refl _ | apply Drawn0.step)⟩

/-! ### impl_daysOf: function 43 -/
def impl_daysOf.f (a0 : Int) : Option (Int) := (impl_LeapYear.f a0).bind fun t189 => (if t189 = true then (some 366) else (some 365))
set_option maxHeartbeats 8000000 in
set_option maxRecDepth 100000 in
theorem impl_daysOf.calls (a0 : Int) (r : Int) (w : World) (h : impl_daysOf.f a0 = some r) :
    Calls Try.prog 43 #[.int .i64 a0] w fun e w' => e = .returned (.int .i64 r) ∧ Drawn0 w w' := by
  have H : ((impl_LeapYear.f a0).bind fun t189 => (if t189 = true then (some 366) else (some 365))) = some r := h
  clear h
  replace H := Option.bind_eq_some_iff.mp H
  obtain ⟨t189, A20, H⟩ := H
  replace H : (if t189 = true then (some 366) else (some 365)) = some r := H
  have A2 := aM A20
  clear A20
  refine Classical.byCases (p := t189 = true) (fun c3 => ?L1p) (fun c3 => ?L1n)
  case' L1p =>
    subst c3
    have H1 : (some 366) = some r := by rw [if_pos rfl] at H; exact H
    clear H
    have H := H1
    clear H1
    obtain rfl := Option.some.inj H
  case' L1n =>
    replace c3 := Bool.eq_false_iff.mpr c3
    subst c3
    have H1 : (some 365) = some r := by rw [if_neg (show ¬ (false = true) by decide)] at H; exact H
    clear H
    have H := H1
    clear H1
    obtain rfl := Option.some.inj H
  case L1p | L1n =>
    go_enter Try.func43, Try.ntmps43
    go_wp2_with (first | ((with_reducible refine gate_callee (f := 52) rfl ?_); refine goesL_ (some 4) rfl rfl Try.func52 (by kernel_rfl) rfl #[.int .i64 a0] rfl (by (try simp only [mT, mC, mN]); first | done | rfl | (simp only [lDr, lTk]; rfl)) ?_; (with_reducible refine (impl_LeapYear.calls a0 _ _ A2.out).mono ?_); rintro e w' ⟨rfl, ⟨nd, rfl⟩⟩; refine ⟨_, rfl, ?_⟩))
    go_ret
    exact ⟨by first | rfl | (simp; done) | (simp [*]; done), by repeat (first | exact Drawn0.refl _ | apply Drawn0.step)⟩

end Go.Proofs.Ytlglildjehcogaa.QFnExactCountFires
