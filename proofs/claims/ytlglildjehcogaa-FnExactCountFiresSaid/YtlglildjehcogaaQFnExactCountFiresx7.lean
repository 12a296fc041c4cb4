-- Written by a program of this session's own (wip/turnprint.py over the kit's print); Lean checks it.
import Derived.Test.YtlglildjehcogaaQFnExactCountFiresx0
import Derived.Test.YtlglildjehcogaaQFnExactCountFiresx1
import Derived.Test.YtlglildjehcogaaQFnExactCountFiresx4
import Derived.Test.YtlglildjehcogaaQFnExactCountFiresx6
namespace Go.Proofs.Ytlglildjehcogaa.QFnExactCountFires
open Go.RowKit Go.Proofs.YtlglildjehcogaaW.PrintWords Go.Proofs.YtlglildjehcogaaW.PrintLast Go.Proofs.YtlglildjehcogaaW.PrintMore
attribute [local go_sem] max2_int min2_int max_two min_two max_three min_three max_four min_four   -- for this text's walks alone
attribute [local go_sem] Go.Proofs.YtlglildjehcogaaQWords.run_lss_str
attribute [local go_sem] Go.Proofs.YtlglildjehcogaaQWords.run_geq_str
attribute [local go_sem] Go.Proofs.YtlglildjehcogaaQWords.run_leq_str
attribute [local go_sem] Go.Proofs.YtlglildjehcogaaQWords.run_gtr_str
set_option linter.unusedVariables false
set_option linter.unusedSimpArgs false

/-! ### impl_CountFires: function 18 -/
mutual
def impl_CountFires.j0 : Nat → Int → Int → Bool → List Int → List Int → List Int → List Int → List Int → Option (Int)
  | 0, _, _, _, _, _, _, _, _ => none
  | k + 1, x1, x2, x29, x227000, x227001, x227002, x227003, x227004 => if x29 = true then (some 0) else (impl_CountFires.l0 k x2 0 x1 x227000 x227001 x227002 x227003 x227004)
def impl_CountFires.l0 : Nat → Int → Int → Int → List Int → List Int → List Int → List Int → List Int → Option (Int)
  | 0, _, _, _, _, _, _, _, _ => none
  | k + 1, x2, x7, x8, x227000, x227001, x227002, x227003, x227004 => if x8 < x2 then ((impl_nextFire.f k x227000 x227001 x227002 x227003 x227004 x8 20).bind fun bt230 => (if bt230.2 = true then (if bt230.1 ≥ x2 then (some x7) else (impl_CountFires.l0 k x2 (wrap64 (x7 + 1)) (wrap64 (bt230.1 + 1)) x227000 x227001 x227002 x227003 x227004)) else (some x7))) else (some x7)
end
def impl_CountFires.f (k : Nat) (l0_0 : List Int) (l0_1 : List Int) (l0_2 : List Int) (l0_3 : List Int) (l0_4 : List Int) (a1 : Int) (a2 : Int) : Option (Int) := (impl_isMinute.f a1).bind fun t227 => (if t227 = true then ((impl_isMinute.f a2).bind fun t228 => (if t228 = true then (if (wrap64 (a2 - a1)) > 20000 then (impl_CountFires.j0 k a1 a2 true l0_0 l0_1 l0_2 l0_3 l0_4) else ((impl_CronOk.f l0_0 l0_1 l0_2 l0_3 l0_4).bind fun t229 => (impl_CountFires.j0 k a1 a2 (!t229) l0_0 l0_1 l0_2 l0_3 l0_4))) else (impl_CountFires.j0 k a1 a2 true l0_0 l0_1 l0_2 l0_3 l0_4))) else (impl_CountFires.j0 k a1 a2 true l0_0 l0_1 l0_2 l0_3 l0_4))
theorem impl_CountFires.mono_l : ∀ k, (∀ y0 y1 y2 y3 y4 y5 y6 y7, LeO (impl_CountFires.j0 k y0 y1 y2 y3 y4 y5 y6 y7) (impl_CountFires.j0 (k + 1) y0 y1 y2 y3 y4 y5 y6 y7)) ∧ (∀ y0 y1 y2 y3 y4 y5 y6 y7, LeO (impl_CountFires.l0 k y0 y1 y2 y3 y4 y5 y6 y7) (impl_CountFires.l0 (k + 1) y0 y1 y2 y3 y4 y5 y6 y7))
  | 0 => ⟨fun _ _ _ _ _ _ _ _ r h => by simp [impl_CountFires.j0] at h, fun _ _ _ _ _ _ _ _ r h => by simp [impl_CountFires.l0] at h⟩
  | k + 1 => by
    obtain ⟨ih0, ih1⟩ := impl_CountFires.mono_l k
    refine ⟨?_, ?_⟩
    · intro y0 y1 y2 y3 y4 y5 y6 y7
      unfold impl_CountFires.j0
      repeat' first
      | (with_reducible exact ih0 _ _ _ _ _ _ _ _)
      | (with_reducible exact ih1 _ _ _ _ _ _ _ _)
      | (with_reducible exact impl_nextFire.mono _ _ _ _ _ _ _ _)
      | (with_reducible exact LeO.refl _)
      | (with_reducible exact LeO.none _)
      | (with_reducible refine LeO.ite ?_ ?_)
      | (with_reducible refine LeO.bind ?_ (fun _ => ?_))
      | exact ih0 _ _ _ _ _ _ _ _
      | exact ih1 _ _ _ _ _ _ _ _
      | exact impl_nextFire.mono _ _ _ _ _ _ _ _
      | exact LeO.none _
      | refine LeO.ite ?_ ?_
      | refine LeO.bind ?_ (fun _ => ?_)
    · intro y0 y1 y2 y3 y4 y5 y6 y7
      unfold impl_CountFires.l0
      repeat' first
      | (with_reducible exact ih0 _ _ _ _ _ _ _ _)
      | (with_reducible exact ih1 _ _ _ _ _ _ _ _)
      | (with_reducible exact impl_nextFire.mono _ _ _ _ _ _ _ _)
      | (with_reducible exact LeO.refl _)
      | (with_reducible exact LeO.none _)
      | (with_reducible refine LeO.ite ?_ ?_)
      | (with_reducible refine LeO.bind ?_ (fun _ => ?_))
      | exact ih0 _ _ _ _ _ _ _ _
      | exact ih1 _ _ _ _ _ _ _ _
      | exact impl_nextFire.mono _ _ _ _ _ _ _ _
      | exact LeO.none _
      | refine LeO.ite ?_ ?_
      | refine LeO.bind ?_ (fun _ => ?_)
theorem impl_CountFires.mono : ∀ a0 a1 a2 a3 a4 a5 a6 k, LeO (impl_CountFires.f k a0 a1 a2 a3 a4 a5 a6) (impl_CountFires.f (k + 1) a0 a1 a2 a3 a4 a5 a6) := by
  intro a0 a1 a2 a3 a4 a5 a6 k
  obtain ⟨ih0, ih1⟩ := impl_CountFires.mono_l k
  unfold impl_CountFires.f
  repeat' first
      | (with_reducible exact ih0 _ _ _ _ _ _ _ _)
      | (with_reducible exact ih1 _ _ _ _ _ _ _ _)
      | (with_reducible exact impl_nextFire.mono _ _ _ _ _ _ _ _)
      | (with_reducible exact LeO.refl _)
      | (with_reducible exact LeO.none _)
      | (with_reducible refine LeO.ite ?_ ?_)
      | (with_reducible refine LeO.bind ?_ (fun _ => ?_))
      | exact ih0 _ _ _ _ _ _ _ _
      | exact ih1 _ _ _ _ _ _ _ _
      | exact impl_nextFire.mono _ _ _ _ _ _ _ _
      | exact LeO.none _
      | refine LeO.ite ?_ ?_
      | refine LeO.bind ?_ (fun _ => ?_)
set_option maxHeartbeats 8000000 in
set_option maxRecDepth 100000 in
theorem impl_CountFires.calls (k : Nat) (A0_0 : Option Addr) (c0_0 : Nat) (l0_0 : List Int) (A0_1 : Option Addr) (c0_1 : Nat) (l0_1 : List Int) (A0_2 : Option Addr) (c0_2 : Nat) (l0_2 : List Int) (A0_3 : Option Addr) (c0_3 : Nat) (l0_3 : List Int) (A0_4 : Option Addr) (c0_4 : Nat) (l0_4 : List Int) (a1 : Int) (a2 : Int) (r : Int) (w : World) (hr0_0 : Kd.C (Kd.int .i64) w A0_0 l0_0.length l0_0) (hc0_0 : l0_0.length ≤ c0_0) (hr0_1 : Kd.C (Kd.int .i64) w A0_1 l0_1.length l0_1) (hc0_1 : l0_1.length ≤ c0_1) (hr0_2 : Kd.C (Kd.int .i64) w A0_2 l0_2.length l0_2) (hc0_2 : l0_2.length ≤ c0_2) (hr0_3 : Kd.C (Kd.int .i64) w A0_3 l0_3.length l0_3) (hc0_3 : l0_3.length ≤ c0_3) (hr0_4 : Kd.C (Kd.int .i64) w A0_4 l0_4.length l0_4) (hc0_4 : l0_4.length ≤ c0_4) (h : impl_CountFires.f k l0_0 l0_1 l0_2 l0_3 l0_4 a1 a2 = some r) :
    Calls Try.prog 18 #[.agg #[.slice A0_0 l0_0.length c0_0, .slice A0_1 l0_1.length c0_1, .slice A0_2 l0_2.length c0_2, .slice A0_3 l0_3.length c0_3, .slice A0_4 l0_4.length c0_4], .int .i64 a1, .int .i64 a2] w fun e w' => e = .returned (.int .i64 r) ∧ Below w.heap.size w w' := by
  have hu27 := Try.underlying27
  have HR0_0 := aM hr0_0
  have HC0_0 := aM hc0_0
  clear hr0_0 hc0_0
  have HR0_1 := aM hr0_1
  have HC0_1 := aM hc0_1
  clear hr0_1 hc0_1
  have HR0_2 := aM hr0_2
  have HC0_2 := aM hc0_2
  clear hr0_2 hc0_2
  have HR0_3 := aM hr0_3
  have HC0_3 := aM hc0_3
  clear hr0_3 hc0_3
  have HR0_4 := aM hr0_4
  have HC0_4 := aM hc0_4
  clear hr0_4 hc0_4
  have HB := aM (Below.refl w.heap.size w)
  have H : ((impl_isMinute.f a1).bind fun t227 => (if t227 = true then ((impl_isMinute.f a2).bind fun t228 => (if t228 = true then (if (wrap64 (a2 - a1)) > 20000 then (impl_CountFires.j0 k a1 a2 true l0_0 l0_1 l0_2 l0_3 l0_4) else ((impl_CronOk.f l0_0 l0_1 l0_2 l0_3 l0_4).bind fun t229 => (impl_CountFires.j0 k a1 a2 (!t229) l0_0 l0_1 l0_2 l0_3 l0_4))) else (impl_CountFires.j0 k a1 a2 true l0_0 l0_1 l0_2 l0_3 l0_4))) else (impl_CountFires.j0 k a1 a2 true l0_0 l0_1 l0_2 l0_3 l0_4))) = some r := h
  clear h
  have HC4 := aM H
  clear H
  go_enter Try.func18, Try.ntmps18
  go_upto_region 1 with (first | ((with_reducible refine gate_dst (N := 3) rfl ?_); refine box_event ?hg (N := 3) ?hd (cs := #[.slice A0_0 l0_0.length c0_0, .slice A0_1 l0_1.length c0_1, .slice A0_2 l0_2.length c0_2, .slice A0_3 l0_3.length c0_3, .slice A0_4 l0_4.length c0_4]) (t := 27) ?hr ?_; (case hd => rfl); (case hg => rfl); (case hr => first | (go_simp; done) | (go_simp; rfl)); intro gb226 hg w5 hbox hb; have n0_ := aM (below_step (by repeat (first | (with_reducible first | exact HB.out | apply lA | apply lN | apply lD) | exact HB.out)) hb); have n1_ := aM (hbox); have n2_ := aM ((by rw [hg]; exact (below_size (by repeat (first | (with_reducible first | exact HB.out | apply lA | apply lN | apply lD) | exact HB.out))) : w.heap.size ≤ gb226)); have n3_ := aM ((by rw [hg]; exact (below_size (by repeat (first | (with_reducible first | exact HB.out | apply lA | apply lN | apply lD) | exact HB.out))) : w.heap.size ≤ gb226)); clear HB; have HB := n0_; have BK226 := n1_; have GW226 := n2_; have GE226 := n3_; clear n0_ n1_ n2_ n3_; clear hb hbox hg))
  (try simp only [Act.put, List.setIfInBounds_toArray, List.set_cons_zero, List.set_cons_succ])
  go_cut [29] (fun v29 wc => ∃ (kq : Nat) (x29_3 : Bool), v29 = .bool x29_3 ∧ Aside0 (impl_CountFires.j0 kq a1 a2 x29_3 l0_0 l0_1 l0_2 l0_3 l0_4 = some r) ∧ Aside0 (kq ≤ k) ∧ Aside0 (wc.heap[gb226]? = some (.cells #[(.slice A0_0 l0_0.length c0_0), (.slice A0_1 l0_1.length c0_1), (.slice A0_2 l0_2.length c0_2), (.slice A0_3 l0_3.length c0_3), (.slice A0_4 l0_4.length c0_4)] 27 (0, 0))) ∧ Aside0 (Below w.heap.size w wc))
  case first =>
    have H := HC4.out
    clear HC4
    replace H := Option.bind_eq_some_iff.mp H
    obtain ⟨t227, A60, H⟩ := H
    replace H : (if t227 = true then ((impl_isMinute.f a2).bind fun t228 => (if t228 = true then (if (wrap64 (a2 - a1)) > 20000 then (impl_CountFires.j0 k a1 a2 true l0_0 l0_1 l0_2 l0_3 l0_4) else ((impl_CronOk.f l0_0 l0_1 l0_2 l0_3 l0_4).bind fun t229 => (impl_CountFires.j0 k a1 a2 (!t229) l0_0 l0_1 l0_2 l0_3 l0_4))) else (impl_CountFires.j0 k a1 a2 true l0_0 l0_1 l0_2 l0_3 l0_4))) else (impl_CountFires.j0 k a1 a2 true l0_0 l0_1 l0_2 l0_3 l0_4)) = some r := H
    have A6 := aM A60
    clear A60
    refine Classical.byCases (p := t227 = true) (fun c7 => ?L1p) (fun c7 => ?L1n)
    case' L1p =>
      subst c7
      have H1 : ((impl_isMinute.f a2).bind fun t228 => (if t228 = true then (if (wrap64 (a2 - a1)) > 20000 then (impl_CountFires.j0 k a1 a2 true l0_0 l0_1 l0_2 l0_3 l0_4) else ((impl_CronOk.f l0_0 l0_1 l0_2 l0_3 l0_4).bind fun t229 => (impl_CountFires.j0 k a1 a2 (!t229) l0_0 l0_1 l0_2 l0_3 l0_4))) else (impl_CountFires.j0 k a1 a2 true l0_0 l0_1 l0_2 l0_3 l0_4))) = some r := by rw [if_pos rfl] at H; exact H
      clear H
      have H := H1
      clear H1
      replace H := Option.bind_eq_some_iff.mp H
      obtain ⟨t228, A80, H⟩ := H
      replace H : (if t228 = true then (if (wrap64 (a2 - a1)) > 20000 then (impl_CountFires.j0 k a1 a2 true l0_0 l0_1 l0_2 l0_3 l0_4) else ((impl_CronOk.f l0_0 l0_1 l0_2 l0_3 l0_4).bind fun t229 => (impl_CountFires.j0 k a1 a2 (!t229) l0_0 l0_1 l0_2 l0_3 l0_4))) else (impl_CountFires.j0 k a1 a2 true l0_0 l0_1 l0_2 l0_3 l0_4)) = some r := H
      have A8 := aM A80
      clear A80
      refine Classical.byCases (p := t228 = true) (fun c9 => ?L2p) (fun c9 => ?L2n)
      case' L2p =>
        subst c9
        have H1 : (if (wrap64 (a2 - a1)) > 20000 then (impl_CountFires.j0 k a1 a2 true l0_0 l0_1 l0_2 l0_3 l0_4) else ((impl_CronOk.f l0_0 l0_1 l0_2 l0_3 l0_4).bind fun t229 => (impl_CountFires.j0 k a1 a2 (!t229) l0_0 l0_1 l0_2 l0_3 l0_4))) = some r := by rw [if_pos rfl] at H; exact H
        clear H
        have H := H1
        clear H1
        refine Classical.byCases (p := (wrap64 (a2 - a1)) > 20000) (fun c10 => ?L3p) (fun c10 => ?L3n)
        case' L3p =>
          rw [if_pos c10] at H
          have c10b0 : decide (20000 < (wrap64 (a2 - a1))) = true := decide_eq_true c10
          clear c10
          (first | rw [c10b0] | (simp only [i64_w, i32_w]; rw [c10b0]) | skip)
          have H' := aM H
          clear H
        case' L3n =>
          rw [if_neg c10] at H
          have c10b0 : decide (20000 < (wrap64 (a2 - a1))) = false := decide_eq_false c10
          clear c10
          (first | rw [c10b0] | (simp only [i64_w, i32_w]; rw [c10b0]) | skip)
          replace H := Option.bind_eq_some_iff.mp H
          obtain ⟨t229, A110, H⟩ := H
          replace H : (impl_CountFires.j0 k a1 a2 (!t229) l0_0 l0_1 l0_2 l0_3 l0_4) = some r := H
          have A11 := aM A110
          clear A110
          have H' := aM H
          clear H
          go_wp2_with (first | ((with_reducible refine gate_callee (f := 36) rfl ?_); refine goesL_ (some 12) rfl rfl Try.func36 (by kernel_rfl) rfl #[.int .i64 a1] rfl (by (try simp only [mT, mC, mN]); first | done | rfl | (simp only [lDr, lTk]; rfl)) ?_; (with_reducible refine (impl_isMinute.calls a1 true _ A6.out).mono ?_); rintro e w' ⟨rfl, ⟨nd, rfl⟩⟩; refine ⟨_, rfl, ?_⟩) | (go_at_call 36; (with_reducible refine (impl_isMinute.calls a2 true _ A8.out).mono ?_); rintro e w' ⟨rfl, ⟨nd, rfl⟩⟩; have hcz12_0 : w5.cell? ⟨gb226, 0, none⟩ = some (.slice A0_0 l0_0.length c0_0) := (blk_cell BK226.out 0).trans rfl; have hcz12_1 : w5.cell? ⟨gb226, 1, none⟩ = some (.slice A0_1 l0_1.length c0_1) := (blk_cell BK226.out 1).trans rfl; have hcz12_2 : w5.cell? ⟨gb226, 2, none⟩ = some (.slice A0_2 l0_2.length c0_2) := (blk_cell BK226.out 2).trans rfl; have hcz12_3 : w5.cell? ⟨gb226, 3, none⟩ = some (.slice A0_3 l0_3.length c0_3) := (blk_cell BK226.out 3).trans rfl; have hcz12_4 : w5.cell? ⟨gb226, 4, none⟩ = some (.slice A0_4 l0_4.length c0_4) := (blk_cell BK226.out 4).trans rfl; have hfz12_0 := blk_frozen BK226.out 0; have hfz12_1 := blk_frozen BK226.out 1; have hfz12_2 := blk_frozen BK226.out 2; have hfz12_3 := blk_frozen BK226.out 3; have hfz12_4 := blk_frozen BK226.out 4) | (go_at_call 11; (with_reducible refine (impl_CronOk.calls _ _ l0_0 _ _ l0_1 _ _ l0_2 _ _ l0_3 _ _ l0_4 t229 _ ?side1 ?side2 ?side3 ?side4 ?side5 ?side6 ?side7 ?side8 ?side9 ?side10 A11.out).mono ?_); (case side1 => repeat (first | exact (Kd.C_below HR0_0.out (by repeat (first | (with_reducible first | exact HB.out | apply lA | apply lN | apply lD | refine lS ?_ GE226.out) | exact HB.out))) | (with_reducible refine cA ?_ _) | (with_reducible refine cN ?_ _) | (with_reducible refine cD ?_))); (case side2 => exact HC0_0.out); (case side3 => repeat (first | exact (Kd.C_below HR0_1.out (by repeat (first | (with_reducible first | exact HB.out | apply lA | apply lN | apply lD | refine lS ?_ GE226.out) | exact HB.out))) | (with_reducible refine cA ?_ _) | (with_reducible refine cN ?_ _) | (with_reducible refine cD ?_))); (case side4 => exact HC0_1.out); (case side5 => repeat (first | exact (Kd.C_below HR0_2.out (by repeat (first | (with_reducible first | exact HB.out | apply lA | apply lN | apply lD | refine lS ?_ GE226.out) | exact HB.out))) | (with_reducible refine cA ?_ _) | (with_reducible refine cN ?_ _) | (with_reducible refine cD ?_))); (case side6 => exact HC0_2.out); (case side7 => repeat (first | exact (Kd.C_below HR0_3.out (by repeat (first | (with_reducible first | exact HB.out | apply lA | apply lN | apply lD | refine lS ?_ GE226.out) | exact HB.out))) | (with_reducible refine cA ?_ _) | (with_reducible refine cN ?_ _) | (with_reducible refine cD ?_))); (case side8 => exact HC0_3.out); (case side9 => repeat (first | exact (Kd.C_below HR0_4.out (by repeat (first | (with_reducible first | exact HB.out | apply lA | apply lN | apply lD | refine lS ?_ GE226.out) | exact HB.out))) | (with_reducible refine cA ?_ _) | (with_reducible refine cN ?_ _) | (with_reducible refine cD ?_))); (case side10 => exact HC0_4.out); rintro e w13 ⟨rfl, hb⟩; have n0_ := aM (blk_below (g := gb226) (o := .cells #[.slice A0_0 l0_0.length c0_0, .slice A0_1 l0_1.length c0_1, .slice A0_2 l0_2.length c0_2, .slice A0_3 l0_3.length c0_3, .slice A0_4 l0_4.length c0_4] 27 (0, 0)) (by (with_reducible repeat first | apply bN | apply bD | apply bA); exact BK226.out) hb); have n1_ := aM (below_step (by repeat (first | (with_reducible first | exact HB.out | apply lA | apply lN | apply lD | refine lS ?_ GE226.out) | exact HB.out)) hb); clear BK226; clear HB; have BK226 := n0_; have HB := n1_; clear n0_ n1_; (try clear hb); (try clear hb2); (try clear hk); (try clear hi)))
          go_meet
          case rel => exact ⟨_, (!t229), (by first | rfl | (simp; done) | (simp [*]; done)), H', ⟨by first | omega | exact Nat.le_refl _⟩, ⟨by (with_reducible repeat first | apply bN | apply bD | apply bA); exact BK226.out⟩, ⟨by repeat (first | (with_reducible first | exact HB.out | apply lA | apply lN | apply lD | refine lS ?_ GE226.out) | exact HB.out)⟩⟩
      case' L2n =>
        replace c9 := Bool.eq_false_iff.mpr c9
        subst c9
        have H1 : (impl_CountFires.j0 k a1 a2 true l0_0 l0_1 l0_2 l0_3 l0_4) = some r := by rw [if_neg (show ¬ (false = true) by decide)] at H; exact H
        clear H
        have H := H1
        clear H1
        have H' := aM H
        clear H
    case' L1n =>
      replace c7 := Bool.eq_false_iff.mpr c7
      subst c7
      have H1 : (impl_CountFires.j0 k a1 a2 true l0_0 l0_1 l0_2 l0_3 l0_4) = some r := by rw [if_neg (show ¬ (false = true) by decide)] at H; exact H
      clear H
      have H := H1
      clear H1
      have H' := aM H
      clear H
      go_wp2_with (first | ((with_reducible refine gate_callee (f := 36) rfl ?_); refine goesL_ (some 12) rfl rfl Try.func36 (by kernel_rfl) rfl #[.int .i64 a1] rfl (by (try simp only [mT, mC, mN]); first | done | rfl | (simp only [lDr, lTk]; rfl)) ?_; (with_reducible refine (impl_isMinute.calls a1 false _ A6.out).mono ?_); rintro e w' ⟨rfl, ⟨nd, rfl⟩⟩; refine ⟨_, rfl, ?_⟩))
      go_meet
      case rel => exact ⟨_, (true), (by first | rfl | (simp; done) | (simp [*]; done)), H', ⟨by first | omega | exact Nat.le_refl _⟩, ⟨by (with_reducible repeat first | apply bN | apply bD | apply bA); exact BK226.out⟩, ⟨by repeat (first | (with_reducible first | exact HB.out | apply lA | apply lN | apply lD | refine lS ?_ GE226.out) | exact HB.out)⟩⟩
    case L2p | L2n =>
      go_wp2_with (first | ((with_reducible refine gate_callee (f := 36) rfl ?_); refine goesL_ (some 12) rfl rfl Try.func36 (by kernel_rfl) rfl #[.int .i64 a1] rfl (by (try simp only [mT, mC, mN]); first | done | rfl | (simp only [lDr, lTk]; rfl)) ?_; (with_reducible refine (impl_isMinute.calls a1 true _ A6.out).mono ?_); rintro e w' ⟨rfl, ⟨nd, rfl⟩⟩; refine ⟨_, rfl, ?_⟩) | (go_at_call 36; (with_reducible refine (impl_isMinute.calls a2 _ _ A8.out).mono ?_); rintro e w' ⟨rfl, ⟨nd, rfl⟩⟩))
      go_meet
      case rel => exact ⟨_, (true), (by first | rfl | (simp; done) | (simp [*]; done)), H', ⟨by first | omega | exact Nat.le_refl _⟩, ⟨by (with_reducible repeat first | apply bN | apply bD | apply bA); exact BK226.out⟩, ⟨by repeat (first | (with_reducible first | exact HB.out | apply lA | apply lN | apply lD | refine lS ?_ GE226.out) | exact HB.out)⟩⟩
  case rest =>
    clear HC4
    try clear c1
    try clear p2
    try clear c3
    try clear p6
    try clear c7
    try clear c9
    try clear c10
    try clear c10b0
    try clear hcz12_0
    try clear hcz12_1
    try clear hcz12_2
    try clear hcz12_3
    try clear hcz12_4
    try clear hfz12_0
    try clear hfz12_1
    try clear hfz12_2
    try clear hfz12_3
    try clear hfz12_4
    obtain ⟨kq, x29_3, rfl, HA, HJ3, BK226, HB⟩ := hcut
    cases kq with
    | zero => exact absurd HA.out (by simp [impl_CountFires.j0])
    | succ kj3 =>
      have H := HA.out
      clear HA
      simp only [impl_CountFires.j0] at H
      by_cases c14 : x29_3 = true
      · subst c14
        have H1 : (some 0) = some r := by rw [if_pos rfl] at H; exact H
        clear H
        have H := H1
        clear H1
        obtain rfl := Option.some.inj H
        go_wp2
        go_ret
        exact ⟨by first | rfl | (simp [errW_none, errW_some] <;> rfl) | (simp [*, errW_none, errW_some] <;> rfl), by repeat (first | (with_reducible first | exact HB.out | apply lA | apply lN | apply lD | refine lS ?_ GE226.out) | exact HB.out)⟩
      · replace c14 := Bool.eq_false_iff.mpr c14
        subst c14
        have H1 : (impl_CountFires.l0 kj3 a2 0 a1 l0_0 l0_1 l0_2 l0_3 l0_4) = some r := by rw [if_neg (show ¬ (false = true) by decide)] at H; exact H
        clear H
        have H := H1
        clear H1
        have H' := aM H
        clear H
        go_wp2
        go_loopg [7, 8] kj3 (fun kq v7 v8 w' => ∃ (x7_2 : Int) (x8_2 : Int), v7 = .int .i64 x7_2 ∧ v8 = .int .i64 x8_2 ∧ Aside0 (impl_CountFires.l0 kq a2 x7_2 x8_2 l0_0 l0_1 l0_2 l0_3 l0_4 = some r) ∧ Aside0 (kq ≤ kj3) ∧ Aside0 (w'.heap[gb226]? = some (.cells #[(.slice A0_0 l0_0.length c0_0), (.slice A0_1 l0_1.length c0_1), (.slice A0_2 l0_2.length c0_2), (.slice A0_3 l0_3.length c0_3), (.slice A0_4 l0_4.length c0_4)] 27 (0, 0))) ∧ Aside0 (Below w.heap.size w w'))
        case atStart => exact ⟨(0), (a1), (by first | rfl | (simp; done) | (simp [*]; done)), (by first | rfl | (simp; done) | (simp [*]; done)), H', ⟨Nat.le_refl _⟩, ⟨by (with_reducible repeat first | apply bN | apply bD | apply bA); exact BK226.out⟩, ⟨by repeat (first | (with_reducible first | exact HB.out | apply lA | apply lN | apply lD | refine lS ?_ GE226.out) | exact HB.out)⟩⟩
        case round =>
          clear H'
          try clear c1
          try clear p2
          try clear c3
          try clear p6
          try clear c7
          try clear c9
          try clear c10
          try clear c10b0
          try clear c14
          try clear hcz12_0
          try clear hcz12_1
          try clear hcz12_2
          try clear hcz12_3
          try clear hcz12_4
          try clear hfz12_0
          try clear hfz12_1
          try clear hfz12_2
          try clear hfz12_3
          try clear hfz12_4
          try clear p2
          try clear p6
          obtain ⟨x7_2, x8_2, rfl, rfl, HA, HK2, BK226, HB⟩ := hrel
          cases gk with
          | zero => exact absurd HA.out (by simp [impl_CountFires.l0])
          | succ k2 =>
            have H := HA.out
            clear HA
            simp only [impl_CountFires.l0] at H
            refine Classical.byCases (p := x8_2 < a2) (fun c15 => ?L4p) (fun c15 => ?L4n)
            case' L4p =>
              rw [if_pos c15] at H
              have c15b0 : decide (x8_2 < a2) = true := decide_eq_true c15
              clear c15
              replace H := Option.bind_eq_some_iff.mp H
              obtain ⟨⟨t230, t231⟩, A160, H⟩ := H
              replace H : (if t231 = true then (if t230 ≥ a2 then (some x7_2) else (impl_CountFires.l0 k2 a2 (wrap64 (x7_2 + 1)) (wrap64 (t230 + 1)) l0_0 l0_1 l0_2 l0_3 l0_4)) else (some x7_2)) = some r := H
              have A16 := aM A160
              clear A160
              refine Classical.byCases (p := t231 = true) (fun c17 => ?L5p) (fun c17 => ?L5n)
              case' L5p =>
                subst c17
                have H1 : (if t230 ≥ a2 then (some x7_2) else (impl_CountFires.l0 k2 a2 (wrap64 (x7_2 + 1)) (wrap64 (t230 + 1)) l0_0 l0_1 l0_2 l0_3 l0_4)) = some r := by rw [if_pos rfl] at H; exact H
                clear H
                have H := H1
                clear H1
                refine Classical.byCases (p := t230 ≥ a2) (fun c18 => ?L6p) (fun c18 => ?L6n)
                case' L6p =>
                  rw [if_pos c18] at H
                  have c18b0 : decide (a2 ≤ t230) = true := decide_eq_true c18
                  clear c18
                  obtain rfl := Option.some.inj H
                  have hcz19_0 : wr.cell? ⟨gb226, 0, none⟩ = some (.slice A0_0 l0_0.length c0_0) := (blk_cell BK226.out 0).trans rfl
                  have hcz19_1 : wr.cell? ⟨gb226, 1, none⟩ = some (.slice A0_1 l0_1.length c0_1) := (blk_cell BK226.out 1).trans rfl
                  have hcz19_2 : wr.cell? ⟨gb226, 2, none⟩ = some (.slice A0_2 l0_2.length c0_2) := (blk_cell BK226.out 2).trans rfl
                  have hcz19_3 : wr.cell? ⟨gb226, 3, none⟩ = some (.slice A0_3 l0_3.length c0_3) := (blk_cell BK226.out 3).trans rfl
                  have hcz19_4 : wr.cell? ⟨gb226, 4, none⟩ = some (.slice A0_4 l0_4.length c0_4) := (blk_cell BK226.out 4).trans rfl
                  have hfz19_0 := blk_frozen BK226.out 0
                  have hfz19_1 := blk_frozen BK226.out 1
                  have hfz19_2 := blk_frozen BK226.out 2
                  have hfz19_3 := blk_frozen BK226.out 3
                  have hfz19_4 := blk_frozen BK226.out 4
                case' L6n =>
                  rw [if_neg c18] at H
                  have c18b0 : decide (a2 ≤ t230) = false := decide_eq_false c18
                  clear c18
                  have H' := aM H
                  clear H
                  have hcz21_0 : wr.cell? ⟨gb226, 0, none⟩ = some (.slice A0_0 l0_0.length c0_0) := (blk_cell BK226.out 0).trans rfl
                  have hcz21_1 : wr.cell? ⟨gb226, 1, none⟩ = some (.slice A0_1 l0_1.length c0_1) := (blk_cell BK226.out 1).trans rfl
                  have hcz21_2 : wr.cell? ⟨gb226, 2, none⟩ = some (.slice A0_2 l0_2.length c0_2) := (blk_cell BK226.out 2).trans rfl
                  have hcz21_3 : wr.cell? ⟨gb226, 3, none⟩ = some (.slice A0_3 l0_3.length c0_3) := (blk_cell BK226.out 3).trans rfl
                  have hcz21_4 : wr.cell? ⟨gb226, 4, none⟩ = some (.slice A0_4 l0_4.length c0_4) := (blk_cell BK226.out 4).trans rfl
                  have hfz21_0 := blk_frozen BK226.out 0
                  have hfz21_1 := blk_frozen BK226.out 1
                  have hfz21_2 := blk_frozen BK226.out 2
                  have hfz21_3 := blk_frozen BK226.out 3
                  have hfz21_4 := blk_frozen BK226.out 4
                  go_wp2_with (first | ((with_reducible refine gate_callee (f := 35) rfl ?_); refine goesL_ (some 39) rfl rfl Try.func35 (by kernel_rfl) rfl #[.agg #[.slice A0_0 l0_0.length c0_0, .slice A0_1 l0_1.length c0_1, .slice A0_2 l0_2.length c0_2, .slice A0_3 l0_3.length c0_3, .slice A0_4 l0_4.length c0_4], .int .i64 x8_2, .int .i64 20] rfl (by (try simp only [mT, mC, mN]); first | done | rfl | (simp only [lDr, lTk]; rfl)) ?_; (with_reducible refine (impl_nextFire.calls k2 _ _ l0_0 _ _ l0_1 _ _ l0_2 _ _ l0_3 _ _ l0_4 x8_2 20 t230 true _ ?side1 ?side2 ?side3 ?side4 ?side5 ?side6 ?side7 ?side8 ?side9 ?side10 A16.out).mono ?_); (case side1 => repeat (first | exact (Kd.C_below HR0_0.out HB.out) | (with_reducible refine cA ?_ _) | (with_reducible refine cN ?_ _) | (with_reducible refine cD ?_))); (case side2 => exact HC0_0.out); (case side3 => repeat (first | exact (Kd.C_below HR0_1.out HB.out) | (with_reducible refine cA ?_ _) | (with_reducible refine cN ?_ _) | (with_reducible refine cD ?_))); (case side4 => exact HC0_1.out); (case side5 => repeat (first | exact (Kd.C_below HR0_2.out HB.out) | (with_reducible refine cA ?_ _) | (with_reducible refine cN ?_ _) | (with_reducible refine cD ?_))); (case side6 => exact HC0_2.out); (case side7 => repeat (first | exact (Kd.C_below HR0_3.out HB.out) | (with_reducible refine cA ?_ _) | (with_reducible refine cN ?_ _) | (with_reducible refine cD ?_))); (case side8 => exact HC0_3.out); (case side9 => repeat (first | exact (Kd.C_below HR0_4.out HB.out) | (with_reducible refine cA ?_ _) | (with_reducible refine cN ?_ _) | (with_reducible refine cD ?_))); (case side10 => exact HC0_4.out); rintro e w22 ⟨rfl, hb⟩; refine ⟨_, rfl, ?_⟩; have n0_ := aM (blk_below (g := gb226) (o := .cells #[.slice A0_0 l0_0.length c0_0, .slice A0_1 l0_1.length c0_1, .slice A0_2 l0_2.length c0_2, .slice A0_3 l0_3.length c0_3, .slice A0_4 l0_4.length c0_4] 27 (0, 0)) (by (with_reducible repeat first | apply bN | apply bD | apply bA); exact BK226.out) hb); have n1_ := aM (below_step (by repeat (first | (with_reducible first | exact HB.out | apply lA | apply lN | apply lD | refine lS ?_ GE226.out) | exact HB.out)) hb); clear BK226; clear HB; have BK226 := n0_; have HB := n1_; clear n0_ n1_; (try clear hb); (try clear hb2); (try clear hk); (try clear hi)))
                  go_roundg k2
                  case measure => have := HJ3.out; have := HK2.out; omega
                  case rel => exact ⟨(wrap64 (x7_2 + 1)), (wrap64 (t230 + 1)), (by first | rfl | (simp; done) | (simp [*]; done)), (by first | rfl | (simp; done) | (simp [*]; done)), H', ⟨by have := HJ3.out; have := HK2.out; omega⟩, ⟨by (with_reducible repeat first | apply bN | apply bD | apply bA); exact BK226.out⟩, ⟨by repeat (first | (with_reducible first | exact HB.out | apply lA | apply lN | apply lD | refine lS ?_ GE226.out) | exact HB.out)⟩⟩
              case' L5n =>
                replace c17 := Bool.eq_false_iff.mpr c17
                subst c17
                have H1 : (some x7_2) = some r := by rw [if_neg (show ¬ (false = true) by decide)] at H; exact H
                clear H
                have H := H1
                clear H1
                obtain rfl := Option.some.inj H
                have hcz23_0 : wr.cell? ⟨gb226, 0, none⟩ = some (.slice A0_0 l0_0.length c0_0) := (blk_cell BK226.out 0).trans rfl
                have hcz23_1 : wr.cell? ⟨gb226, 1, none⟩ = some (.slice A0_1 l0_1.length c0_1) := (blk_cell BK226.out 1).trans rfl
                have hcz23_2 : wr.cell? ⟨gb226, 2, none⟩ = some (.slice A0_2 l0_2.length c0_2) := (blk_cell BK226.out 2).trans rfl
                have hcz23_3 : wr.cell? ⟨gb226, 3, none⟩ = some (.slice A0_3 l0_3.length c0_3) := (blk_cell BK226.out 3).trans rfl
                have hcz23_4 : wr.cell? ⟨gb226, 4, none⟩ = some (.slice A0_4 l0_4.length c0_4) := (blk_cell BK226.out 4).trans rfl
                have hfz23_0 := blk_frozen BK226.out 0
                have hfz23_1 := blk_frozen BK226.out 1
                have hfz23_2 := blk_frozen BK226.out 2
                have hfz23_3 := blk_frozen BK226.out 3
                have hfz23_4 := blk_frozen BK226.out 4
            case' L4n =>
              rw [if_neg c15] at H
              have c15b0 : decide (x8_2 < a2) = false := decide_eq_false c15
              clear c15
              obtain rfl := Option.some.inj H
              go_wp2
              go_ret
              exact ⟨by first | rfl | (simp [errW_none, errW_some] <;> rfl) | (simp [*, errW_none, errW_some] <;> rfl), by repeat (first | (with_reducible first | exact HB.out | apply lA | apply lN | apply lD | refine lS ?_ GE226.out) | exact HB.out)⟩
            case L5p | L5n =>
              go_wp2_with (first | ((with_reducible refine gate_callee (f := 35) rfl ?_); refine goesL_ (some 39) rfl rfl Try.func35 (by kernel_rfl) rfl #[.agg #[.slice A0_0 l0_0.length c0_0, .slice A0_1 l0_1.length c0_1, .slice A0_2 l0_2.length c0_2, .slice A0_3 l0_3.length c0_3, .slice A0_4 l0_4.length c0_4], .int .i64 x8_2, .int .i64 20] rfl (by (try simp only [mT, mC, mN]); first | done | rfl | (simp only [lDr, lTk]; rfl)) ?_; (with_reducible refine (impl_nextFire.calls k2 _ _ l0_0 _ _ l0_1 _ _ l0_2 _ _ l0_3 _ _ l0_4 x8_2 20 t230 _ _ ?side1 ?side2 ?side3 ?side4 ?side5 ?side6 ?side7 ?side8 ?side9 ?side10 A16.out).mono ?_); (case side1 => repeat (first | exact (Kd.C_below HR0_0.out HB.out) | (with_reducible refine cA ?_ _) | (with_reducible refine cN ?_ _) | (with_reducible refine cD ?_))); (case side2 => exact HC0_0.out); (case side3 => repeat (first | exact (Kd.C_below HR0_1.out HB.out) | (with_reducible refine cA ?_ _) | (with_reducible refine cN ?_ _) | (with_reducible refine cD ?_))); (case side4 => exact HC0_1.out); (case side5 => repeat (first | exact (Kd.C_below HR0_2.out HB.out) | (with_reducible refine cA ?_ _) | (with_reducible refine cN ?_ _) | (with_reducible refine cD ?_))); (case side6 => exact HC0_2.out); (case side7 => repeat (first | exact (Kd.C_below HR0_3.out HB.out) | (with_reducible refine cA ?_ _) | (with_reducible refine cN ?_ _) | (with_reducible refine cD ?_))); (case side8 => exact HC0_3.out); (case side9 => repeat (first | exact (Kd.C_below HR0_4.out HB.out) | (with_reducible refine cA ?_ _) | (with_reducible refine cN ?_ _) | (with_reducible refine cD ?_))); (case side10 => exact HC0_4.out); rintro e w20 ⟨rfl, hb⟩; refine ⟨_, rfl, ?_⟩; have n0_ := aM (blk_below (g := gb226) (o := .cells #[.slice A0_0 l0_0.length c0_0, .slice A0_1 l0_1.length c0_1, .slice A0_2 l0_2.length c0_2, .slice A0_3 l0_3.length c0_3, .slice A0_4 l0_4.length c0_4] 27 (0, 0)) (by (with_reducible repeat first | apply bN | apply bD | apply bA); exact BK226.out) hb); have n1_ := aM (below_step (by repeat (first | (with_reducible first | exact HB.out | apply lA | apply lN | apply lD | refine lS ?_ GE226.out) | exact HB.out)) hb); clear BK226; clear HB; have BK226 := n0_; have HB := n1_; clear n0_ n1_; (try clear hb); (try clear hb2); (try clear hk); (try clear hi)))
              go_ret
              exact ⟨by first | rfl | (simp [errW_none, errW_some] <;> rfl) | (simp [*, errW_none, errW_some] <;> rfl), by repeat (first | (with_reducible first | exact HB.out | apply lA | apply lN | apply lD | refine lS ?_ GE226.out) | exact HB.out)⟩

/-! ### laws_FnExactCountFires: function 6 -/
def laws_FnExactCountFires.f (k : Nat) (l0_0 : List Int) (l0_1 : List Int) (l0_2 : List Int) (l0_3 : List Int) (l0_4 : List Int) (a1 : Int) (a2 : Int) : Option (Bool) := (laws_szCron.f l0_0 l0_1 l0_2 l0_3 l0_4 1048576).bind fun t233 => (if t233 < 0 then (some true) else ((laws_toCron.f k l0_0 l0_1 l0_2 l0_3 l0_4).bind fun bt234 => ((spec_CountFires.f k bt234.1 bt234.2.1 bt234.2.2.1 bt234.2.2.2.1 bt234.2.2.2.2 a1 a2).bind fun t249 => ((laws_toCron.f k l0_0 l0_1 l0_2 l0_3 l0_4).bind fun bt250 => ((impl_CountFires.f k bt250.1 bt250.2.1 bt250.2.2.1 bt250.2.2.2.1 bt250.2.2.2.2 a1 a2).bind fun t266 => (if t266 = t249 then ((laws_toCron.f k l0_0 l0_1 l0_2 l0_3 l0_4).bind fun bt267 => ((laws_eqCron.f k bt250.1 bt250.2.1 bt250.2.2.1 bt250.2.2.2.1 bt250.2.2.2.2 bt267.1 bt267.2.1 bt267.2.2.1 bt267.2.2.2.1 bt267.2.2.2.2).bind fun t282 => (if t282 = true then (some true) else (none)))) else (none)))))))
theorem laws_FnExactCountFires.mono : ∀ a0 a1 a2 a3 a4 a5 a6 k, LeO (laws_FnExactCountFires.f k a0 a1 a2 a3 a4 a5 a6) (laws_FnExactCountFires.f (k + 1) a0 a1 a2 a3 a4 a5 a6) := by
  intro a0 a1 a2 a3 a4 a5 a6 k
  unfold laws_FnExactCountFires.f
  repeat' first
      | (with_reducible exact impl_CountFires.mono _ _ _ _ _ _ _ _)
      | (with_reducible exact laws_eqCron.mono _ _ _ _ _ _ _ _ _ _ _)
      | (with_reducible exact laws_toCron.mono _ _ _ _ _ _)
      | (with_reducible exact spec_CountFires.mono _ _ _ _ _ _ _ _)
      | (with_reducible exact LeO.refl _)
      | (with_reducible exact LeO.none _)
      | (with_reducible refine LeO.ite ?_ ?_)
      | (with_reducible refine LeO.bind ?_ (fun _ => ?_))
      | exact impl_CountFires.mono _ _ _ _ _ _ _ _
      | exact laws_eqCron.mono _ _ _ _ _ _ _ _ _ _ _
      | exact laws_toCron.mono _ _ _ _ _ _
      | exact spec_CountFires.mono _ _ _ _ _ _ _ _
      | exact LeO.none _
      | refine LeO.ite ?_ ?_
      | refine LeO.bind ?_ (fun _ => ?_)
set_option maxHeartbeats 8000000 in
set_option maxRecDepth 100000 in
theorem laws_FnExactCountFires.calls (k : Nat) (A0_0 : Option Addr) (c0_0 : Nat) (l0_0 : List Int) (A0_1 : Option Addr) (c0_1 : Nat) (l0_1 : List Int) (A0_2 : Option Addr) (c0_2 : Nat) (l0_2 : List Int) (A0_3 : Option Addr) (c0_3 : Nat) (l0_3 : List Int) (A0_4 : Option Addr) (c0_4 : Nat) (l0_4 : List Int) (a1 : Int) (a2 : Int) (r : Bool) (w : World) (hr0_0 : Kd.C (Kd.int .i64) w A0_0 l0_0.length l0_0) (hc0_0 : l0_0.length ≤ c0_0) (hr0_1 : Kd.C (Kd.int .i64) w A0_1 l0_1.length l0_1) (hc0_1 : l0_1.length ≤ c0_1) (hr0_2 : Kd.C (Kd.int .i64) w A0_2 l0_2.length l0_2) (hc0_2 : l0_2.length ≤ c0_2) (hr0_3 : Kd.C (Kd.int .i64) w A0_3 l0_3.length l0_3) (hc0_3 : l0_3.length ≤ c0_3) (hr0_4 : Kd.C (Kd.int .i64) w A0_4 l0_4.length l0_4) (hc0_4 : l0_4.length ≤ c0_4) (h : laws_FnExactCountFires.f k l0_0 l0_1 l0_2 l0_3 l0_4 a1 a2 = some r) :
    Calls Try.prog 6 #[.agg #[.slice A0_0 l0_0.length c0_0, .slice A0_1 l0_1.length c0_1, .slice A0_2 l0_2.length c0_2, .slice A0_3 l0_3.length c0_3, .slice A0_4 l0_4.length c0_4], .int .i64 a1, .int .i64 a2] w fun e w' => e = .returned (.bool r) ∧ Below w.heap.size w w' := by
  have hu24 := Try.underlying24
  have hu27 := Try.underlying27
  have HR0_0 := aM hr0_0
  have HC0_0 := aM hc0_0
  clear hr0_0 hc0_0
  have HR0_1 := aM hr0_1
  have HC0_1 := aM hc0_1
  clear hr0_1 hc0_1
  have HR0_2 := aM hr0_2
  have HC0_2 := aM hc0_2
  clear hr0_2 hc0_2
  have HR0_3 := aM hr0_3
  have HC0_3 := aM hc0_3
  clear hr0_3 hc0_3
  have HR0_4 := aM hr0_4
  have HC0_4 := aM hc0_4
  clear hr0_4 hc0_4
  have HB := aM (Below.refl w.heap.size w)
  have H : ((laws_szCron.f l0_0 l0_1 l0_2 l0_3 l0_4 1048576).bind fun t233 => (if t233 < 0 then (some true) else ((laws_toCron.f k l0_0 l0_1 l0_2 l0_3 l0_4).bind fun bt234 => ((spec_CountFires.f k bt234.1 bt234.2.1 bt234.2.2.1 bt234.2.2.2.1 bt234.2.2.2.2 a1 a2).bind fun t249 => ((laws_toCron.f k l0_0 l0_1 l0_2 l0_3 l0_4).bind fun bt250 => ((impl_CountFires.f k bt250.1 bt250.2.1 bt250.2.2.1 bt250.2.2.2.1 bt250.2.2.2.2 a1 a2).bind fun t266 => (if t266 = t249 then ((laws_toCron.f k l0_0 l0_1 l0_2 l0_3 l0_4).bind fun bt267 => ((laws_eqCron.f k bt250.1 bt250.2.1 bt250.2.2.1 bt250.2.2.2.1 bt250.2.2.2.2 bt267.1 bt267.2.1 bt267.2.2.1 bt267.2.2.2.1 bt267.2.2.2.2).bind fun t282 => (if t282 = true then (some true) else (none)))) else (none)))))))) = some r := h
  clear h
  replace H := Option.bind_eq_some_iff.mp H
  obtain ⟨t233, A40, H⟩ := H
  replace H : (if t233 < 0 then (some true) else ((laws_toCron.f k l0_0 l0_1 l0_2 l0_3 l0_4).bind fun bt234 => ((spec_CountFires.f k bt234.1 bt234.2.1 bt234.2.2.1 bt234.2.2.2.1 bt234.2.2.2.2 a1 a2).bind fun t249 => ((laws_toCron.f k l0_0 l0_1 l0_2 l0_3 l0_4).bind fun bt250 => ((impl_CountFires.f k bt250.1 bt250.2.1 bt250.2.2.1 bt250.2.2.2.1 bt250.2.2.2.2 a1 a2).bind fun t266 => (if t266 = t249 then ((laws_toCron.f k l0_0 l0_1 l0_2 l0_3 l0_4).bind fun bt267 => ((laws_eqCron.f k bt250.1 bt250.2.1 bt250.2.2.1 bt250.2.2.2.1 bt250.2.2.2.2 bt267.1 bt267.2.1 bt267.2.2.1 bt267.2.2.2.1 bt267.2.2.2.2).bind fun t282 => (if t282 = true then (some true) else (none)))) else (none))))))) = some r := H
  have A4 := aM A40
  clear A40
  by_cases c5 : t233 < 0
  · rw [if_pos c5] at H
    have c5b0 : decide (t233 < 0) = true := decide_eq_true c5
    clear c5
    obtain rfl := Option.some.inj H
    go_enter Try.func6, Try.ntmps6
    go_wp2_with (first | ((with_reducible refine gate_dst (N := 3) rfl ?_); refine box_event ?hg (N := 3) ?hd (cs := #[.slice A0_0 l0_0.length c0_0, .slice A0_1 l0_1.length c0_1, .slice A0_2 l0_2.length c0_2, .slice A0_3 l0_3.length c0_3, .slice A0_4 l0_4.length c0_4]) (t := 24) ?hr ?_; (case hd => rfl); (case hg => rfl); (case hr => first | (go_simp; done) | (go_simp; rfl)); intro gb232 hg w6 hbox hb; have n0_ := aM (below_step (by repeat (first | (with_reducible first | exact HB.out | apply lA | apply lN | apply lD) | exact HB.out)) hb); have n1_ := aM (hbox); have n2_ := aM ((by rw [hg]; exact (below_size (by repeat (first | (with_reducible first | exact HB.out | apply lA | apply lN | apply lD) | exact HB.out))) : w.heap.size ≤ gb232)); have n3_ := aM ((by rw [hg]; exact (below_size (by repeat (first | (with_reducible first | exact HB.out | apply lA | apply lN | apply lD) | exact HB.out))) : w.heap.size ≤ gb232)); clear HB; have HB := n0_; have BK232 := n1_; have GW232 := n2_; have GE232 := n3_; clear n0_ n1_ n2_ n3_; clear hb hbox hg; have hcz7_0 : w6.cell? ⟨gb232, 0, none⟩ = some (.slice A0_0 l0_0.length c0_0) := (blk_cell BK232.out 0).trans rfl; have hcz7_1 : w6.cell? ⟨gb232, 1, none⟩ = some (.slice A0_1 l0_1.length c0_1) := (blk_cell BK232.out 1).trans rfl; have hcz7_2 : w6.cell? ⟨gb232, 2, none⟩ = some (.slice A0_2 l0_2.length c0_2) := (blk_cell BK232.out 2).trans rfl; have hcz7_3 : w6.cell? ⟨gb232, 3, none⟩ = some (.slice A0_3 l0_3.length c0_3) := (blk_cell BK232.out 3).trans rfl; have hcz7_4 : w6.cell? ⟨gb232, 4, none⟩ = some (.slice A0_4 l0_4.length c0_4) := (blk_cell BK232.out 4).trans rfl; have hfz7_0 := blk_frozen BK232.out 0; have hfz7_1 := blk_frozen BK232.out 1; have hfz7_2 := blk_frozen BK232.out 2; have hfz7_3 := blk_frozen BK232.out 3; have hfz7_4 := blk_frozen BK232.out 4) | ((with_reducible refine gate_callee (f := 8) rfl ?_); refine goesL_ (some 13) rfl rfl Try.func8 (by kernel_rfl) rfl #[.agg #[.slice A0_0 l0_0.length c0_0, .slice A0_1 l0_1.length c0_1, .slice A0_2 l0_2.length c0_2, .slice A0_3 l0_3.length c0_3, .slice A0_4 l0_4.length c0_4], .int .i64 1048576] rfl (by (try simp only [mT, mC, mN]); first | done | rfl | (simp only [lDr, lTk]; rfl)) ?_; (with_reducible refine (laws_szCron.calls _ _ l0_0 _ _ l0_1 _ _ l0_2 _ _ l0_3 _ _ l0_4 1048576 t233 _ ?side1 ?side2 ?side3 ?side4 ?side5 ?side6 ?side7 ?side8 ?side9 ?side10 A4.out).mono ?_); (case side1 => repeat (first | exact (Kd.C_below HR0_0.out HB.out) | (with_reducible refine cA ?_ _) | (with_reducible refine cN ?_ _) | (with_reducible refine cD ?_))); (case side2 => exact HC0_0.out); (case side3 => repeat (first | exact (Kd.C_below HR0_1.out HB.out) | (with_reducible refine cA ?_ _) | (with_reducible refine cN ?_ _) | (with_reducible refine cD ?_))); (case side4 => exact HC0_1.out); (case side5 => repeat (first | exact (Kd.C_below HR0_2.out HB.out) | (with_reducible refine cA ?_ _) | (with_reducible refine cN ?_ _) | (with_reducible refine cD ?_))); (case side6 => exact HC0_2.out); (case side7 => repeat (first | exact (Kd.C_below HR0_3.out HB.out) | (with_reducible refine cA ?_ _) | (with_reducible refine cN ?_ _) | (with_reducible refine cD ?_))); (case side8 => exact HC0_3.out); (case side9 => repeat (first | exact (Kd.C_below HR0_4.out HB.out) | (with_reducible refine cA ?_ _) | (with_reducible refine cN ?_ _) | (with_reducible refine cD ?_))); (case side10 => exact HC0_4.out); rintro e w8 ⟨rfl, hb⟩; refine ⟨_, rfl, ?_⟩; have n0_ := aM (blk_below (g := gb232) (o := .cells #[.slice A0_0 l0_0.length c0_0, .slice A0_1 l0_1.length c0_1, .slice A0_2 l0_2.length c0_2, .slice A0_3 l0_3.length c0_3, .slice A0_4 l0_4.length c0_4] 24 (0, 0)) (by (with_reducible repeat first | apply bN | apply bD | apply bA); exact BK232.out) hb); have n1_ := aM (below_step (by repeat (first | (with_reducible first | exact HB.out | apply lA | apply lN | apply lD | refine lS ?_ GE232.out) | exact HB.out)) hb); clear BK232; clear HB; have BK232 := n0_; have HB := n1_; clear n0_ n1_; (try clear hb); (try clear hb2); (try clear hk); (try clear hi)))
    go_ret
    exact ⟨by first | rfl | (simp [errW_none, errW_some] <;> rfl) | (simp [*, errW_none, errW_some] <;> rfl), by repeat (first | (with_reducible first | exact HB.out | apply lA | apply lN | apply lD | refine lS ?_ GE232.out) | exact HB.out)⟩
  · rw [if_neg c5] at H
    have c5b0 : decide (t233 < 0) = false := decide_eq_false c5
    clear c5
    replace H := Option.bind_eq_some_iff.mp H
    obtain ⟨⟨t234, t237, t240, t243, t246⟩, A90, H⟩ := H
    replace H : ((spec_CountFires.f k t234 t237 t240 t243 t246 a1 a2).bind fun t249 => ((laws_toCron.f k l0_0 l0_1 l0_2 l0_3 l0_4).bind fun bt250 => ((impl_CountFires.f k bt250.1 bt250.2.1 bt250.2.2.1 bt250.2.2.2.1 bt250.2.2.2.2 a1 a2).bind fun t266 => (if t266 = t249 then ((laws_toCron.f k l0_0 l0_1 l0_2 l0_3 l0_4).bind fun bt267 => ((laws_eqCron.f k bt250.1 bt250.2.1 bt250.2.2.1 bt250.2.2.2.1 bt250.2.2.2.2 bt267.1 bt267.2.1 bt267.2.2.1 bt267.2.2.2.1 bt267.2.2.2.2).bind fun t282 => (if t282 = true then (some true) else (none)))) else (none))))) = some r := H
    have A9 := aM A90
    clear A90
    replace H := Option.bind_eq_some_iff.mp H
    obtain ⟨t249, A100, H⟩ := H
    replace H : ((laws_toCron.f k l0_0 l0_1 l0_2 l0_3 l0_4).bind fun bt250 => ((impl_CountFires.f k bt250.1 bt250.2.1 bt250.2.2.1 bt250.2.2.2.1 bt250.2.2.2.2 a1 a2).bind fun t266 => (if t266 = t249 then ((laws_toCron.f k l0_0 l0_1 l0_2 l0_3 l0_4).bind fun bt267 => ((laws_eqCron.f k bt250.1 bt250.2.1 bt250.2.2.1 bt250.2.2.2.1 bt250.2.2.2.2 bt267.1 bt267.2.1 bt267.2.2.1 bt267.2.2.2.1 bt267.2.2.2.2).bind fun t282 => (if t282 = true then (some true) else (none)))) else (none)))) = some r := H
    have A10 := aM A100
    clear A100
    replace H := Option.bind_eq_some_iff.mp H
    obtain ⟨⟨t250, t253, t256, t259, t262⟩, A110, H⟩ := H
    replace H : ((impl_CountFires.f k t250 t253 t256 t259 t262 a1 a2).bind fun t266 => (if t266 = t249 then ((laws_toCron.f k l0_0 l0_1 l0_2 l0_3 l0_4).bind fun bt267 => ((laws_eqCron.f k t250 t253 t256 t259 t262 bt267.1 bt267.2.1 bt267.2.2.1 bt267.2.2.2.1 bt267.2.2.2.2).bind fun t282 => (if t282 = true then (some true) else (none)))) else (none))) = some r := H
    have A11 := aM A110
    clear A110
    replace H := Option.bind_eq_some_iff.mp H
    obtain ⟨t266, A120, H⟩ := H
    replace H : (if t266 = t249 then ((laws_toCron.f k l0_0 l0_1 l0_2 l0_3 l0_4).bind fun bt267 => ((laws_eqCron.f k t250 t253 t256 t259 t262 bt267.1 bt267.2.1 bt267.2.2.1 bt267.2.2.2.1 bt267.2.2.2.2).bind fun t282 => (if t282 = true then (some true) else (none)))) else (none)) = some r := H
    have A12 := aM A120
    clear A120
    by_cases c13 : t266 = t249
    · rw [if_pos c13] at H
      have c13b0 : (t266 == t249) = true := beq_iff_eq.mpr c13
      have c13b1 : (t266 != t249) = false := bne_eq_false_iff_eq.mpr c13
      clear c13
      replace H := Option.bind_eq_some_iff.mp H
      obtain ⟨⟨t267, t270, t273, t276, t279⟩, A140, H⟩ := H
      replace H : ((laws_eqCron.f k t250 t253 t256 t259 t262 t267 t270 t273 t276 t279).bind fun t282 => (if t282 = true then (some true) else (none))) = some r := H
      have A14 := aM A140
      clear A140
      replace H := Option.bind_eq_some_iff.mp H
      obtain ⟨t282, A150, H⟩ := H
      replace H : (if t282 = true then (some true) else (none)) = some r := H
      have A15 := aM A150
      clear A150
      by_cases c16 : t282 = true
      · subst c16
        have H1 : (some true) = some r := by rw [if_pos rfl] at H; exact H
        clear H
        have H := H1
        clear H1
        obtain rfl := Option.some.inj H
        go_enter Try.func6, Try.ntmps6
        try go_wp2_with (first | ((with_reducible refine gate_dst (N := 3) rfl ?_); refine box_event ?hg (N := 3) ?hd (cs := #[.slice A0_0 l0_0.length c0_0, .slice A0_1 l0_1.length c0_1, .slice A0_2 l0_2.length c0_2, .slice A0_3 l0_3.length c0_3, .slice A0_4 l0_4.length c0_4]) (t := 24) ?hr ?_; (case hd => rfl); (case hg => rfl); (case hr => first | (go_simp; done) | (go_simp; rfl)); intro gb232 hg w17 hbox hb; have n0_ := aM (below_step (by repeat (first | (with_reducible first | exact HB.out | apply lA | apply lN | apply lD) | exact HB.out)) hb); have n1_ := aM (hbox); have n2_ := aM ((by rw [hg]; exact (below_size (by repeat (first | (with_reducible first | exact HB.out | apply lA | apply lN | apply lD) | exact HB.out))) : w.heap.size ≤ gb232)); have n3_ := aM ((by rw [hg]; exact (below_size (by repeat (first | (with_reducible first | exact HB.out | apply lA | apply lN | apply lD) | exact HB.out))) : w.heap.size ≤ gb232)); clear HB; have HB := n0_; have BK232 := n1_; have GW232 := n2_; have GE232 := n3_; clear n0_ n1_ n2_ n3_; clear hb hbox hg; have hcz18_0 : w17.cell? ⟨gb232, 0, none⟩ = some (.slice A0_0 l0_0.length c0_0) := (blk_cell BK232.out 0).trans rfl; have hcz18_1 : w17.cell? ⟨gb232, 1, none⟩ = some (.slice A0_1 l0_1.length c0_1) := (blk_cell BK232.out 1).trans rfl; have hcz18_2 : w17.cell? ⟨gb232, 2, none⟩ = some (.slice A0_2 l0_2.length c0_2) := (blk_cell BK232.out 2).trans rfl; have hcz18_3 : w17.cell? ⟨gb232, 3, none⟩ = some (.slice A0_3 l0_3.length c0_3) := (blk_cell BK232.out 3).trans rfl; have hcz18_4 : w17.cell? ⟨gb232, 4, none⟩ = some (.slice A0_4 l0_4.length c0_4) := (blk_cell BK232.out 4).trans rfl; have hfz18_0 := blk_frozen BK232.out 0; have hfz18_1 := blk_frozen BK232.out 1; have hfz18_2 := blk_frozen BK232.out 2; have hfz18_3 := blk_frozen BK232.out 3; have hfz18_4 := blk_frozen BK232.out 4) | ((with_reducible refine gate_callee (f := 8) rfl ?_); refine goesL_ (some 13) rfl rfl Try.func8 (by kernel_rfl) rfl #[.agg #[.slice A0_0 l0_0.length c0_0, .slice A0_1 l0_1.length c0_1, .slice A0_2 l0_2.length c0_2, .slice A0_3 l0_3.length c0_3, .slice A0_4 l0_4.length c0_4], .int .i64 1048576] rfl (by (try simp only [mT, mC, mN]); first | done | rfl | (simp only [lDr, lTk]; rfl)) ?_; (with_reducible refine (laws_szCron.calls _ _ l0_0 _ _ l0_1 _ _ l0_2 _ _ l0_3 _ _ l0_4 1048576 t233 _ ?side1 ?side2 ?side3 ?side4 ?side5 ?side6 ?side7 ?side8 ?side9 ?side10 A4.out).mono ?_); (case side1 => repeat (first | exact (Kd.C_below HR0_0.out HB.out) | (with_reducible refine cA ?_ _) | (with_reducible refine cN ?_ _) | (with_reducible refine cD ?_))); (case side2 => exact HC0_0.out); (case side3 => repeat (first | exact (Kd.C_below HR0_1.out HB.out) | (with_reducible refine cA ?_ _) | (with_reducible refine cN ?_ _) | (with_reducible refine cD ?_))); (case side4 => exact HC0_1.out); (case side5 => repeat (first | exact (Kd.C_below HR0_2.out HB.out) | (with_reducible refine cA ?_ _) | (with_reducible refine cN ?_ _) | (with_reducible refine cD ?_))); (case side6 => exact HC0_2.out); (case side7 => repeat (first | exact (Kd.C_below HR0_3.out HB.out) | (with_reducible refine cA ?_ _) | (with_reducible refine cN ?_ _) | (with_reducible refine cD ?_))); (case side8 => exact HC0_3.out); (case side9 => repeat (first | exact (Kd.C_below HR0_4.out HB.out) | (with_reducible refine cA ?_ _) | (with_reducible refine cN ?_ _) | (with_reducible refine cD ?_))); (case side10 => exact HC0_4.out); rintro e w19 ⟨rfl, hb⟩; refine ⟨_, rfl, ?_⟩; have n0_ := aM (blk_below (g := gb232) (o := .cells #[.slice A0_0 l0_0.length c0_0, .slice A0_1 l0_1.length c0_1, .slice A0_2 l0_2.length c0_2, .slice A0_3 l0_3.length c0_3, .slice A0_4 l0_4.length c0_4] 24 (0, 0)) (by (with_reducible repeat first | apply bN | apply bD | apply bA); exact BK232.out) hb); have n1_ := aM (below_step (by repeat (first | (with_reducible first | exact HB.out | apply lA | apply lN | apply lD | refine lS ?_ GE232.out) | exact HB.out)) hb); clear BK232; clear HB; have BK232 := n0_; have HB := n1_; clear n0_ n1_; (try clear hb); (try clear hb2); (try clear hk); (try clear hi); have hcz20_0 : w19.cell? ⟨gb232, 0, none⟩ = some (.slice A0_0 l0_0.length c0_0) := (blk_cell BK232.out 0).trans rfl; have hcz20_1 : w19.cell? ⟨gb232, 1, none⟩ = some (.slice A0_1 l0_1.length c0_1) := (blk_cell BK232.out 1).trans rfl; have hcz20_2 : w19.cell? ⟨gb232, 2, none⟩ = some (.slice A0_2 l0_2.length c0_2) := (blk_cell BK232.out 2).trans rfl; have hcz20_3 : w19.cell? ⟨gb232, 3, none⟩ = some (.slice A0_3 l0_3.length c0_3) := (blk_cell BK232.out 3).trans rfl; have hcz20_4 : w19.cell? ⟨gb232, 4, none⟩ = some (.slice A0_4 l0_4.length c0_4) := (blk_cell BK232.out 4).trans rfl; have hfz20_0 := blk_frozen BK232.out 0; have hfz20_1 := blk_frozen BK232.out 1; have hfz20_2 := blk_frozen BK232.out 2; have hfz20_3 := blk_frozen BK232.out 3; have hfz20_4 := blk_frozen BK232.out 4) | ((with_reducible refine gate_callee (f := 10) rfl ?_); refine goesL_ (some 17) rfl rfl Try.func10 (by kernel_rfl) rfl #[.agg #[.slice A0_0 l0_0.length c0_0, .slice A0_1 l0_1.length c0_1, .slice A0_2 l0_2.length c0_2, .slice A0_3 l0_3.length c0_3, .slice A0_4 l0_4.length c0_4]] rfl (by (try simp only [mT, mC, mN]); first | done | rfl | (simp only [lDr, lTk]; rfl)) ?_; (with_reducible refine (laws_toCron.calls k _ _ l0_0 _ _ l0_1 _ _ l0_2 _ _ l0_3 _ _ l0_4 t234 t237 t240 t243 t246 _ ?side1 ?side2 ?side3 ?side4 ?side5 ?side6 ?side7 ?side8 ?side9 ?side10 A9.out).mono ?_); (case side1 => repeat (first | exact (Kd.C_below HR0_0.out HB.out) | (with_reducible refine cA ?_ _) | (with_reducible refine cN ?_ _) | (with_reducible refine cD ?_))); (case side2 => exact HC0_0.out); (case side3 => repeat (first | exact (Kd.C_below HR0_1.out HB.out) | (with_reducible refine cA ?_ _) | (with_reducible refine cN ?_ _) | (with_reducible refine cD ?_))); (case side4 => exact HC0_1.out); (case side5 => repeat (first | exact (Kd.C_below HR0_2.out HB.out) | (with_reducible refine cA ?_ _) | (with_reducible refine cN ?_ _) | (with_reducible refine cD ?_))); (case side6 => exact HC0_2.out); (case side7 => repeat (first | exact (Kd.C_below HR0_3.out HB.out) | (with_reducible refine cA ?_ _) | (with_reducible refine cN ?_ _) | (with_reducible refine cD ?_))); (case side8 => exact HC0_3.out); (case side9 => repeat (first | exact (Kd.C_below HR0_4.out HB.out) | (with_reducible refine cA ?_ _) | (with_reducible refine cN ?_ _) | (with_reducible refine cD ?_))); (case side10 => exact HC0_4.out); rintro e w21 ⟨v235, v238, v241, v244, v247, rfl, ho0, ho1, ho2, ho3, ho4, hb⟩; refine ⟨_, rfl, ?_⟩; have n0_ := aM (Kd.R_lower ho0 (below_size (by repeat (first | (with_reducible first | exact HB.out | apply lA | apply lN | apply lD | refine lS ?_ GE232.out) | exact HB.out)))); have n1_ := aM (Kd.R_lower ho1 (below_size (by repeat (first | (with_reducible first | exact HB.out | apply lA | apply lN | apply lD | refine lS ?_ GE232.out) | exact HB.out)))); have n2_ := aM (Kd.R_lower ho2 (below_size (by repeat (first | (with_reducible first | exact HB.out | apply lA | apply lN | apply lD | refine lS ?_ GE232.out) | exact HB.out)))); have n3_ := aM (Kd.R_lower ho3 (below_size (by repeat (first | (with_reducible first | exact HB.out | apply lA | apply lN | apply lD | refine lS ?_ GE232.out) | exact HB.out)))); have n4_ := aM (Kd.R_lower ho4 (below_size (by repeat (first | (with_reducible first | exact HB.out | apply lA | apply lN | apply lD | refine lS ?_ GE232.out) | exact HB.out)))); have n5_ := aM (blk_below (g := gb232) (o := .cells #[.slice A0_0 l0_0.length c0_0, .slice A0_1 l0_1.length c0_1, .slice A0_2 l0_2.length c0_2, .slice A0_3 l0_3.length c0_3, .slice A0_4 l0_4.length c0_4] 24 (0, 0)) (by (with_reducible repeat first | apply bN | apply bD | apply bA); exact BK232.out) hb); have n6_ := aM (below_step (by repeat (first | (with_reducible first | exact HB.out | apply lA | apply lN | apply lD | refine lS ?_ GE232.out) | exact HB.out)) hb); clear BK232; clear HB; have HO236 := n0_; have HO239 := n1_; have HO242 := n2_; have HO245 := n3_; have HO248 := n4_; have BK232 := n5_; have HB := n6_; clear n0_ n1_ n2_ n3_ n4_ n5_ n6_; (try clear hb); (try clear hb2); (try clear hk); (try clear hi); (try clear ho0); (try clear ho1); (try clear ho2); (try clear ho3); (try clear ho4); obtain ⟨Ao22, co22, eo22⟩ := Kd.R_slice HO236.out; subst eo22; obtain ⟨Ao23, co23, eo23⟩ := Kd.R_slice HO239.out; subst eo23; obtain ⟨Ao24, co24, eo24⟩ := Kd.R_slice HO242.out; subst eo24; obtain ⟨Ao25, co25, eo25⟩ := Kd.R_slice HO245.out; subst eo25; obtain ⟨Ao26, co26, eo26⟩ := Kd.R_slice HO248.out; subst eo26) | ((with_reducible refine gate_callee (f := 17) rfl ?_); refine goesL_ (some 20) rfl rfl Try.func17 (by kernel_rfl) rfl #[.agg #[.slice Ao22 t234.length co22, .slice Ao23 t237.length co23, .slice Ao24 t240.length co24, .slice Ao25 t243.length co25, .slice Ao26 t246.length co26], .int .i64 a1, .int .i64 a2] rfl (by (try simp only [mT, mC, mN]); first | done | rfl | (simp only [lDr, lTk]; rfl)) ?_; (with_reducible refine (spec_CountFires.calls k _ _ t234 _ _ t237 _ _ t240 _ _ t243 _ _ t246 a1 a2 t249 _ ?side1 ?side2 ?side3 ?side4 ?side5 ?side6 ?side7 ?side8 ?side9 ?side10 A10.out).mono ?_); (case side1 => repeat (first | exact (Kd.R_reads' HO236.out).2.2 | (with_reducible refine cA ?_ _) | (with_reducible refine cN ?_ _) | (with_reducible refine cD ?_))); (case side2 => exact (Kd.R_reads' HO236.out).2.1); (case side3 => repeat (first | exact (Kd.R_reads' HO239.out).2.2 | (with_reducible refine cA ?_ _) | (with_reducible refine cN ?_ _) | (with_reducible refine cD ?_))); (case side4 => exact (Kd.R_reads' HO239.out).2.1); (case side5 => repeat (first | exact (Kd.R_reads' HO242.out).2.2 | (with_reducible refine cA ?_ _) | (with_reducible refine cN ?_ _) | (with_reducible refine cD ?_))); (case side6 => exact (Kd.R_reads' HO242.out).2.1); (case side7 => repeat (first | exact (Kd.R_reads' HO245.out).2.2 | (with_reducible refine cA ?_ _) | (with_reducible refine cN ?_ _) | (with_reducible refine cD ?_))); (case side8 => exact (Kd.R_reads' HO245.out).2.1); (case side9 => repeat (first | exact (Kd.R_reads' HO248.out).2.2 | (with_reducible refine cA ?_ _) | (with_reducible refine cN ?_ _) | (with_reducible refine cD ?_))); (case side10 => exact (Kd.R_reads' HO248.out).2.1); rintro e w27 ⟨rfl, hb⟩; refine ⟨_, rfl, ?_⟩; have n0_ := aM (Kd.R_below (by (with_reducible repeat first | apply rA | apply rN | apply rD); exact HO236.out) hb); have n1_ := aM (Kd.R_below (by (with_reducible repeat first | apply rA | apply rN | apply rD); exact HO239.out) hb); have n2_ := aM (Kd.R_below (by (with_reducible repeat first | apply rA | apply rN | apply rD); exact HO242.out) hb); have n3_ := aM (Kd.R_below (by (with_reducible repeat first | apply rA | apply rN | apply rD); exact HO245.out) hb); have n4_ := aM (Kd.R_below (by (with_reducible repeat first | apply rA | apply rN | apply rD); exact HO248.out) hb); have n5_ := aM (blk_below (g := gb232) (o := .cells #[.slice A0_0 l0_0.length c0_0, .slice A0_1 l0_1.length c0_1, .slice A0_2 l0_2.length c0_2, .slice A0_3 l0_3.length c0_3, .slice A0_4 l0_4.length c0_4] 24 (0, 0)) (by (with_reducible repeat first | apply bN | apply bD | apply bA); exact BK232.out) hb); have n6_ := aM (below_step (by repeat (first | (with_reducible first | exact HB.out | apply lA | apply lN | apply lD | refine lS ?_ GE232.out) | exact HB.out)) hb); clear HO236; clear HO239; clear HO242; clear HO245; clear HO248; clear BK232; clear HB; have HO236 := n0_; have HO239 := n1_; have HO242 := n2_; have HO245 := n3_; have HO248 := n4_; have BK232 := n5_; have HB := n6_; clear n0_ n1_ n2_ n3_ n4_ n5_ n6_; (try clear hb); (try clear hb2); (try clear hk); (try clear hi); have hcz28_0 : w27.cell? ⟨gb232, 0, none⟩ = some (.slice A0_0 l0_0.length c0_0) := (blk_cell BK232.out 0).trans rfl; have hcz28_1 : w27.cell? ⟨gb232, 1, none⟩ = some (.slice A0_1 l0_1.length c0_1) := (blk_cell BK232.out 1).trans rfl; have hcz28_2 : w27.cell? ⟨gb232, 2, none⟩ = some (.slice A0_2 l0_2.length c0_2) := (blk_cell BK232.out 2).trans rfl; have hcz28_3 : w27.cell? ⟨gb232, 3, none⟩ = some (.slice A0_3 l0_3.length c0_3) := (blk_cell BK232.out 3).trans rfl; have hcz28_4 : w27.cell? ⟨gb232, 4, none⟩ = some (.slice A0_4 l0_4.length c0_4) := (blk_cell BK232.out 4).trans rfl; have hfz28_0 := blk_frozen BK232.out 0; have hfz28_1 := blk_frozen BK232.out 1; have hfz28_2 := blk_frozen BK232.out 2; have hfz28_3 := blk_frozen BK232.out 3; have hfz28_4 := blk_frozen BK232.out 4) | ((with_reducible refine gate_callee (f := 10) rfl ?_); refine goesL_ (some 22) rfl rfl Try.func10 (by kernel_rfl) rfl #[.agg #[.slice A0_0 l0_0.length c0_0, .slice A0_1 l0_1.length c0_1, .slice A0_2 l0_2.length c0_2, .slice A0_3 l0_3.length c0_3, .slice A0_4 l0_4.length c0_4]] rfl (by (try simp only [mT, mC, mN]); first | done | rfl | (simp only [lDr, lTk]; rfl)) ?_; (with_reducible refine (laws_toCron.calls k _ _ l0_0 _ _ l0_1 _ _ l0_2 _ _ l0_3 _ _ l0_4 t250 t253 t256 t259 t262 _ ?side1 ?side2 ?side3 ?side4 ?side5 ?side6 ?side7 ?side8 ?side9 ?side10 A11.out).mono ?_); (case side1 => repeat (first | exact (Kd.C_below HR0_0.out HB.out) | (with_reducible refine cA ?_ _) | (with_reducible refine cN ?_ _) | (with_reducible refine cD ?_))); (case side2 => exact HC0_0.out); (case side3 => repeat (first | exact (Kd.C_below HR0_1.out HB.out) | (with_reducible refine cA ?_ _) | (with_reducible refine cN ?_ _) | (with_reducible refine cD ?_))); (case side4 => exact HC0_1.out); (case side5 => repeat (first | exact (Kd.C_below HR0_2.out HB.out) | (with_reducible refine cA ?_ _) | (with_reducible refine cN ?_ _) | (with_reducible refine cD ?_))); (case side6 => exact HC0_2.out); (case side7 => repeat (first | exact (Kd.C_below HR0_3.out HB.out) | (with_reducible refine cA ?_ _) | (with_reducible refine cN ?_ _) | (with_reducible refine cD ?_))); (case side8 => exact HC0_3.out); (case side9 => repeat (first | exact (Kd.C_below HR0_4.out HB.out) | (with_reducible refine cA ?_ _) | (with_reducible refine cN ?_ _) | (with_reducible refine cD ?_))); (case side10 => exact HC0_4.out); rintro e w29 ⟨v251, v254, v257, v260, v263, rfl, ho0, ho1, ho2, ho3, ho4, hb⟩; refine ⟨_, rfl, ?_⟩; have n0_ := aM (Kd.R_mono (Kd.R_told (Kd.R_told (Kd.R_told (Kd.R_told (Kd.R_told (Kd.R_old (by (with_reducible repeat first | apply rA | apply rN | apply rD); exact HO236.out) hb) (Kd.R_base ho0)) (Kd.R_base ho1)) (Kd.R_base ho2)) (Kd.R_base ho3)) (Kd.R_base ho4)) (fun _ h_ => h_.1)); have n1_ := aM (Kd.R_mono (Kd.R_told (Kd.R_told (Kd.R_told (Kd.R_told (Kd.R_told (Kd.R_old (by (with_reducible repeat first | apply rA | apply rN | apply rD); exact HO239.out) hb) (Kd.R_base ho0)) (Kd.R_base ho1)) (Kd.R_base ho2)) (Kd.R_base ho3)) (Kd.R_base ho4)) (fun _ h_ => h_.1)); have n2_ := aM (Kd.R_mono (Kd.R_told (Kd.R_told (Kd.R_told (Kd.R_told (Kd.R_told (Kd.R_old (by (with_reducible repeat first | apply rA | apply rN | apply rD); exact HO242.out) hb) (Kd.R_base ho0)) (Kd.R_base ho1)) (Kd.R_base ho2)) (Kd.R_base ho3)) (Kd.R_base ho4)) (fun _ h_ => h_.1)); have n3_ := aM (Kd.R_mono (Kd.R_told (Kd.R_told (Kd.R_told (Kd.R_told (Kd.R_told (Kd.R_old (by (with_reducible repeat first | apply rA | apply rN | apply rD); exact HO245.out) hb) (Kd.R_base ho0)) (Kd.R_base ho1)) (Kd.R_base ho2)) (Kd.R_base ho3)) (Kd.R_base ho4)) (fun _ h_ => h_.1)); have n4_ := aM (Kd.R_mono (Kd.R_told (Kd.R_told (Kd.R_told (Kd.R_told (Kd.R_told (Kd.R_old (by (with_reducible repeat first | apply rA | apply rN | apply rD); exact HO248.out) hb) (Kd.R_base ho0)) (Kd.R_base ho1)) (Kd.R_base ho2)) (Kd.R_base ho3)) (Kd.R_base ho4)) (fun _ h_ => h_.1)); have n5_ := aM (Kd.R_lower (Kd.R_new' (Kd.R_new' (Kd.R_new' (Kd.R_new' (Kd.R_new' ho0 (Kd.R_lt (by (with_reducible repeat first | apply rA | apply rN | apply rD); exact HO236.out))) (Kd.R_lt (by (with_reducible repeat first | apply rA | apply rN | apply rD); exact HO239.out))) (Kd.R_lt (by (with_reducible repeat first | apply rA | apply rN | apply rD); exact HO242.out))) (Kd.R_lt (by (with_reducible repeat first | apply rA | apply rN | apply rD); exact HO245.out))) (Kd.R_lt (by (with_reducible repeat first | apply rA | apply rN | apply rD); exact HO248.out))) (below_size (by repeat (first | (with_reducible first | exact HB.out | apply lA | apply lN | apply lD | refine lS ?_ GE232.out) | exact HB.out)))); have n6_ := aM (Kd.R_lower (Kd.R_new' (Kd.R_new' (Kd.R_new' (Kd.R_new' (Kd.R_new' ho1 (Kd.R_lt (by (with_reducible repeat first | apply rA | apply rN | apply rD); exact HO236.out))) (Kd.R_lt (by (with_reducible repeat first | apply rA | apply rN | apply rD); exact HO239.out))) (Kd.R_lt (by (with_reducible repeat first | apply rA | apply rN | apply rD); exact HO242.out))) (Kd.R_lt (by (with_reducible repeat first | apply rA | apply rN | apply rD); exact HO245.out))) (Kd.R_lt (by (with_reducible repeat first | apply rA | apply rN | apply rD); exact HO248.out))) (below_size (by repeat (first | (with_reducible first | exact HB.out | apply lA | apply lN | apply lD | refine lS ?_ GE232.out) | exact HB.out)))); have n7_ := aM (Kd.R_lower (Kd.R_new' (Kd.R_new' (Kd.R_new' (Kd.R_new' (Kd.R_new' ho2 (Kd.R_lt (by (with_reducible repeat first | apply rA | apply rN | apply rD); exact HO236.out))) (Kd.R_lt (by (with_reducible repeat first | apply rA | apply rN | apply rD); exact HO239.out))) (Kd.R_lt (by (with_reducible repeat first | apply rA | apply rN | apply rD); exact HO242.out))) (Kd.R_lt (by (with_reducible repeat first | apply rA | apply rN | apply rD); exact HO245.out))) (Kd.R_lt (by (with_reducible repeat first | apply rA | apply rN | apply rD); exact HO248.out))) (below_size (by repeat (first | (with_reducible first | exact HB.out | apply lA | apply lN | apply lD | refine lS ?_ GE232.out) | exact HB.out)))); have n8_ := aM (Kd.R_lower (Kd.R_new' (Kd.R_new' (Kd.R_new' (Kd.R_new' (Kd.R_new' ho3 (Kd.R_lt (by (with_reducible repeat first | apply rA | apply rN | apply rD); exact HO236.out))) (Kd.R_lt (by (with_reducible repeat first | apply rA | apply rN | apply rD); exact HO239.out))) (Kd.R_lt (by (with_reducible repeat first | apply rA | apply rN | apply rD); exact HO242.out))) (Kd.R_lt (by (with_reducible repeat first | apply rA | apply rN | apply rD); exact HO245.out))) (Kd.R_lt (by (with_reducible repeat first | apply rA | apply rN | apply rD); exact HO248.out))) (below_size (by repeat (first | (with_reducible first | exact HB.out | apply lA | apply lN | apply lD | refine lS ?_ GE232.out) | exact HB.out)))); have n9_ := aM (Kd.R_lower (Kd.R_new' (Kd.R_new' (Kd.R_new' (Kd.R_new' (Kd.R_new' ho4 (Kd.R_lt (by (with_reducible repeat first | apply rA | apply rN | apply rD); exact HO236.out))) (Kd.R_lt (by (with_reducible repeat first | apply rA | apply rN | apply rD); exact HO239.out))) (Kd.R_lt (by (with_reducible repeat first | apply rA | apply rN | apply rD); exact HO242.out))) (Kd.R_lt (by (with_reducible repeat first | apply rA | apply rN | apply rD); exact HO245.out))) (Kd.R_lt (by (with_reducible repeat first | apply rA | apply rN | apply rD); exact HO248.out))) (below_size (by repeat (first | (with_reducible first | exact HB.out | apply lA | apply lN | apply lD | refine lS ?_ GE232.out) | exact HB.out)))); have n10_ := aM (blk_below (g := gb232) (o := .cells #[.slice A0_0 l0_0.length c0_0, .slice A0_1 l0_1.length c0_1, .slice A0_2 l0_2.length c0_2, .slice A0_3 l0_3.length c0_3, .slice A0_4 l0_4.length c0_4] 24 (0, 0)) (by (with_reducible repeat first | apply bN | apply bD | apply bA); exact BK232.out) hb); have n11_ := aM (below_step (by repeat (first | (with_reducible first | exact HB.out | apply lA | apply lN | apply lD | refine lS ?_ GE232.out) | exact HB.out)) hb); clear HO236; clear HO239; clear HO242; clear HO245; clear HO248; clear BK232; clear HB; have HO236 := n0_; have HO239 := n1_; have HO242 := n2_; have HO245 := n3_; have HO248 := n4_; have HO252 := n5_; have HO255 := n6_; have HO258 := n7_; have HO261 := n8_; have HO264 := n9_; have BK232 := n10_; have HB := n11_; clear n0_ n1_ n2_ n3_ n4_ n5_ n6_ n7_ n8_ n9_ n10_ n11_; (try clear hb); (try clear hb2); (try clear hk); (try clear hi); (try clear ho0); (try clear ho1); (try clear ho2); (try clear ho3); (try clear ho4)) | ((with_reducible refine gate_dst (N := 9) rfl ?_); refine box_event ?hg (N := 9) ?hd (cs := #[.slice none 0 0, .slice none 0 0, .slice none 0 0, .slice none 0 0, .slice none 0 0]) (t := 27) ?hr ?_; (case hd => rfl); (case hg => rfl); (case hr => first | (go_simp; done) | (go_simp; rfl)); intro gb265 hg w30 hbox hb; have n0_ := aM (Kd.R_below (by (with_reducible repeat first | apply rA | apply rN | apply rD); exact HO236.out) hb); have n1_ := aM (Kd.R_below (by (with_reducible repeat first | apply rA | apply rN | apply rD); exact HO239.out) hb); have n2_ := aM (Kd.R_below (by (with_reducible repeat first | apply rA | apply rN | apply rD); exact HO242.out) hb); have n3_ := aM (Kd.R_below (by (with_reducible repeat first | apply rA | apply rN | apply rD); exact HO245.out) hb); have n4_ := aM (Kd.R_below (by (with_reducible repeat first | apply rA | apply rN | apply rD); exact HO248.out) hb); have n5_ := aM (Kd.R_below (by (with_reducible repeat first | apply rA | apply rN | apply rD); exact HO252.out) hb); have n6_ := aM (Kd.R_below (by (with_reducible repeat first | apply rA | apply rN | apply rD); exact HO255.out) hb); have n7_ := aM (Kd.R_below (by (with_reducible repeat first | apply rA | apply rN | apply rD); exact HO258.out) hb); have n8_ := aM (Kd.R_below (by (with_reducible repeat first | apply rA | apply rN | apply rD); exact HO261.out) hb); have n9_ := aM (Kd.R_below (by (with_reducible repeat first | apply rA | apply rN | apply rD); exact HO264.out) hb); have n10_ := aM (blk_below (g := gb232) (o := .cells #[.slice A0_0 l0_0.length c0_0, .slice A0_1 l0_1.length c0_1, .slice A0_2 l0_2.length c0_2, .slice A0_3 l0_3.length c0_3, .slice A0_4 l0_4.length c0_4] 24 (0, 0)) (by (with_reducible repeat first | apply bN | apply bD | apply bA); exact BK232.out) hb); have n11_ := aM (below_step (by repeat (first | (with_reducible first | exact HB.out | apply lA | apply lN | apply lD | refine lS ?_ GE232.out) | exact HB.out)) hb); have n12_ := aM (hbox); have n13_ := aM ((by rw [hg]; exact (below_size (by repeat (first | (with_reducible first | exact HB.out | apply lA | apply lN | apply lD | refine lS ?_ GE232.out) | exact HB.out))) : w.heap.size ≤ gb265)); have n14_ := aM ((by rw [hg]; exact (below_size (by repeat (first | (with_reducible first | exact HB.out | apply lA | apply lN | apply lD | refine lS ?_ GE232.out) | exact HB.out))) : w.heap.size ≤ gb265)); have n15_ := aM ((by rw [hg]; exact Nat.ne_of_lt (blk_lt (g := gb232) (o := .cells #[.slice A0_0 l0_0.length c0_0, .slice A0_1 l0_1.length c0_1, .slice A0_2 l0_2.length c0_2, .slice A0_3 l0_3.length c0_3, .slice A0_4 l0_4.length c0_4] 24 (0, 0)) (by (with_reducible repeat first | apply bN | apply bD | apply bA); exact BK232.out)) : gb232 ≠ gb265)); have n16_ := aM ((by rw [hg]; exact Nat.ne_of_gt (blk_lt (g := gb232) (o := .cells #[.slice A0_0 l0_0.length c0_0, .slice A0_1 l0_1.length c0_1, .slice A0_2 l0_2.length c0_2, .slice A0_3 l0_3.length c0_3, .slice A0_4 l0_4.length c0_4] 24 (0, 0)) (by (with_reducible repeat first | apply bN | apply bD | apply bA); exact BK232.out)) : gb265 ≠ gb232)); clear HO236; clear HO239; clear HO242; clear HO245; clear HO248; clear HO252; clear HO255; clear HO258; clear HO261; clear HO264; clear BK232; clear HB; have HO236 := n0_; have HO239 := n1_; have HO242 := n2_; have HO245 := n3_; have HO248 := n4_; have HO252 := n5_; have HO255 := n6_; have HO258 := n7_; have HO261 := n8_; have HO264 := n9_; have BK232 := n10_; have HB := n11_; have BK265 := n12_; have GW265 := n13_; have GE265 := n14_; have NB232_265 := n15_; have NB265_232 := n16_; clear n0_ n1_ n2_ n3_ n4_ n5_ n6_ n7_ n8_ n9_ n10_ n11_ n12_ n13_ n14_ n15_ n16_; clear hb hbox hg; obtain ⟨Ao31, co31, eo31⟩ := Kd.R_slice HO252.out; subst eo31; have hnb32 := NB265_232.out; have hnc32 := NB232_265.out; have hcz33_0 : w30.cell? ⟨gb265, 0, none⟩ = some (.slice none 0 0) := (blk_cell BK265.out 0).trans rfl; have hcz33_1 : w30.cell? ⟨gb265, 1, none⟩ = some (.slice none 0 0) := (blk_cell BK265.out 1).trans rfl; have hcz33_2 : w30.cell? ⟨gb265, 2, none⟩ = some (.slice none 0 0) := (blk_cell BK265.out 2).trans rfl; have hcz33_3 : w30.cell? ⟨gb265, 3, none⟩ = some (.slice none 0 0) := (blk_cell BK265.out 3).trans rfl; have hcz33_4 : w30.cell? ⟨gb265, 4, none⟩ = some (.slice none 0 0) := (blk_cell BK265.out 4).trans rfl; have hfz33_0 := blk_frozen BK265.out 0; have hfz33_1 := blk_frozen BK265.out 1; have hfz33_2 := blk_frozen BK265.out 2; have hfz33_3 := blk_frozen BK265.out 3; have hfz33_4 := blk_frozen BK265.out 4; obtain ⟨Ao34, co34, eo34⟩ := Kd.R_slice HO255.out; subst eo34; obtain ⟨Ao35, co35, eo35⟩ := Kd.R_slice HO258.out; subst eo35; obtain ⟨Ao36, co36, eo36⟩ := Kd.R_slice HO261.out; subst eo36; obtain ⟨Ao37, co37, eo37⟩ := Kd.R_slice HO264.out; subst eo37) | ((with_reducible refine gate_callee (f := 18) rfl ?_); refine goesL_ (some 26) rfl rfl Try.func18 (by kernel_rfl) rfl #[.agg #[.slice Ao31 t250.length co31, .slice Ao34 t253.length co34, .slice Ao35 t256.length co35, .slice Ao36 t259.length co36, .slice Ao37 t262.length co37], .int .i64 a1, .int .i64 a2] rfl (by (try simp only [mT, mC, mN]); first | done | rfl | (simp only [lDr, lTk]; rfl)) ?_; (with_reducible refine (impl_CountFires.calls k _ _ t250 _ _ t253 _ _ t256 _ _ t259 _ _ t262 a1 a2 t266 _ ?side1 ?side2 ?side3 ?side4 ?side5 ?side6 ?side7 ?side8 ?side9 ?side10 A12.out).mono ?_); (case side1 => refine (Kd.R_reads' (e := 3) (base := w.heap.size) (ok := fun k_ => ((((((some k_ ≠ (.slice Ao34 t253.length co34 : Value).ownBlock ∧ (some k_ ≠ (.slice Ao35 t256.length co35 : Value).ownBlock ∧ (some k_ ≠ (.slice Ao36 t259.length co36 : Value).ownBlock ∧ some k_ ≠ (.slice Ao37 t262.length co37 : Value).ownBlock))) ∧ some k_ ≠ (.slice Ao22 t234.length co22 : Value).ownBlock) ∧ some k_ ≠ (.slice Ao23 t237.length co23 : Value).ownBlock) ∧ some k_ ≠ (.slice Ao24 t240.length co24 : Value).ownBlock) ∧ some k_ ≠ (.slice Ao25 t243.length co25 : Value).ownBlock) ∧ some k_ ≠ (.slice Ao26 t246.length co26 : Value).ownBlock)) (n := t250.length) (c := co31) ?_).2.2; exact (by (with_reducible repeat first | apply rA | apply rN | apply rD); exact (Kd.R_mono (Kd.R_far (p := ⟨gb265, 4, none⟩) (Kd.R_far (p := ⟨gb265, 3, none⟩) (Kd.R_far (p := ⟨gb265, 2, none⟩) (Kd.R_far (p := ⟨gb265, 1, none⟩) (Kd.R_far (p := ⟨gb265, 0, none⟩) (Kd.R_types HO252.out BK265.out (by decide)) (fun _ hk => hk.2) (.slice Ao31 t250.length co31)) (fun _ hk => hk.2) (.slice Ao34 t253.length co34)) (fun _ hk => hk.2) (.slice Ao35 t256.length co35)) (fun _ hk => hk.2) (.slice Ao36 t259.length co36)) (fun _ hk => hk.2) (.slice Ao37 t262.length co37)) (fun _ h_ => h_.1)))); (case side2 => exact (Kd.R_reads' HO252.out).2.1); (case side3 => refine (Kd.R_reads' (e := 3) (base := w.heap.size) (ok := fun k_ => ((((((some k_ ≠ (.slice Ao31 t250.length co31 : Value).ownBlock ∧ (some k_ ≠ (.slice Ao35 t256.length co35 : Value).ownBlock ∧ (some k_ ≠ (.slice Ao36 t259.length co36 : Value).ownBlock ∧ some k_ ≠ (.slice Ao37 t262.length co37 : Value).ownBlock))) ∧ some k_ ≠ (.slice Ao22 t234.length co22 : Value).ownBlock) ∧ some k_ ≠ (.slice Ao23 t237.length co23 : Value).ownBlock) ∧ some k_ ≠ (.slice Ao24 t240.length co24 : Value).ownBlock) ∧ some k_ ≠ (.slice Ao25 t243.length co25 : Value).ownBlock) ∧ some k_ ≠ (.slice Ao26 t246.length co26 : Value).ownBlock)) (n := t253.length) (c := co34) ?_).2.2; exact (by (with_reducible repeat first | apply rA | apply rN | apply rD); exact (Kd.R_mono (Kd.R_far (p := ⟨gb265, 4, none⟩) (Kd.R_far (p := ⟨gb265, 3, none⟩) (Kd.R_far (p := ⟨gb265, 2, none⟩) (Kd.R_far (p := ⟨gb265, 1, none⟩) (Kd.R_far (p := ⟨gb265, 0, none⟩) (Kd.R_types HO255.out BK265.out (by decide)) (fun _ hk => hk.2) (.slice Ao31 t250.length co31)) (fun _ hk => hk.2) (.slice Ao34 t253.length co34)) (fun _ hk => hk.2) (.slice Ao35 t256.length co35)) (fun _ hk => hk.2) (.slice Ao36 t259.length co36)) (fun _ hk => hk.2) (.slice Ao37 t262.length co37)) (fun _ h_ => h_.1)))); (case side4 => exact (Kd.R_reads' HO255.out).2.1); (case side5 => refine (Kd.R_reads' (e := 3) (base := w.heap.size) (ok := fun k_ => ((((((some k_ ≠ (.slice Ao31 t250.length co31 : Value).ownBlock ∧ (some k_ ≠ (.slice Ao34 t253.length co34 : Value).ownBlock ∧ (some k_ ≠ (.slice Ao36 t259.length co36 : Value).ownBlock ∧ some k_ ≠ (.slice Ao37 t262.length co37 : Value).ownBlock))) ∧ some k_ ≠ (.slice Ao22 t234.length co22 : Value).ownBlock) ∧ some k_ ≠ (.slice Ao23 t237.length co23 : Value).ownBlock) ∧ some k_ ≠ (.slice Ao24 t240.length co24 : Value).ownBlock) ∧ some k_ ≠ (.slice Ao25 t243.length co25 : Value).ownBlock) ∧ some k_ ≠ (.slice Ao26 t246.length co26 : Value).ownBlock)) (n := t256.length) (c := co35) ?_).2.2; exact (by (with_reducible repeat first | apply rA | apply rN | apply rD); exact (Kd.R_mono (Kd.R_far (p := ⟨gb265, 4, none⟩) (Kd.R_far (p := ⟨gb265, 3, none⟩) (Kd.R_far (p := ⟨gb265, 2, none⟩) (Kd.R_far (p := ⟨gb265, 1, none⟩) (Kd.R_far (p := ⟨gb265, 0, none⟩) (Kd.R_types HO258.out BK265.out (by decide)) (fun _ hk => hk.2) (.slice Ao31 t250.length co31)) (fun _ hk => hk.2) (.slice Ao34 t253.length co34)) (fun _ hk => hk.2) (.slice Ao35 t256.length co35)) (fun _ hk => hk.2) (.slice Ao36 t259.length co36)) (fun _ hk => hk.2) (.slice Ao37 t262.length co37)) (fun _ h_ => h_.1)))); (case side6 => exact (Kd.R_reads' HO258.out).2.1); (case side7 => refine (Kd.R_reads' (e := 3) (base := w.heap.size) (ok := fun k_ => ((((((some k_ ≠ (.slice Ao31 t250.length co31 : Value).ownBlock ∧ (some k_ ≠ (.slice Ao34 t253.length co34 : Value).ownBlock ∧ (some k_ ≠ (.slice Ao35 t256.length co35 : Value).ownBlock ∧ some k_ ≠ (.slice Ao37 t262.length co37 : Value).ownBlock))) ∧ some k_ ≠ (.slice Ao22 t234.length co22 : Value).ownBlock) ∧ some k_ ≠ (.slice Ao23 t237.length co23 : Value).ownBlock) ∧ some k_ ≠ (.slice Ao24 t240.length co24 : Value).ownBlock) ∧ some k_ ≠ (.slice Ao25 t243.length co25 : Value).ownBlock) ∧ some k_ ≠ (.slice Ao26 t246.length co26 : Value).ownBlock)) (n := t259.length) (c := co36) ?_).2.2; exact (by (with_reducible repeat first | apply rA | apply rN | apply rD); exact (Kd.R_mono (Kd.R_far (p := ⟨gb265, 4, none⟩) (Kd.R_far (p := ⟨gb265, 3, none⟩) (Kd.R_far (p := ⟨gb265, 2, none⟩) (Kd.R_far (p := ⟨gb265, 1, none⟩) (Kd.R_far (p := ⟨gb265, 0, none⟩) (Kd.R_types HO261.out BK265.out (by decide)) (fun _ hk => hk.2) (.slice Ao31 t250.length co31)) (fun _ hk => hk.2) (.slice Ao34 t253.length co34)) (fun _ hk => hk.2) (.slice Ao35 t256.length co35)) (fun _ hk => hk.2) (.slice Ao36 t259.length co36)) (fun _ hk => hk.2) (.slice Ao37 t262.length co37)) (fun _ h_ => h_.1)))); (case side8 => exact (Kd.R_reads' HO261.out).2.1); (case side9 => refine (Kd.R_reads' (e := 3) (base := w.heap.size) (ok := fun k_ => ((((((some k_ ≠ (.slice Ao31 t250.length co31 : Value).ownBlock ∧ (some k_ ≠ (.slice Ao34 t253.length co34 : Value).ownBlock ∧ (some k_ ≠ (.slice Ao35 t256.length co35 : Value).ownBlock ∧ some k_ ≠ (.slice Ao36 t259.length co36 : Value).ownBlock))) ∧ some k_ ≠ (.slice Ao22 t234.length co22 : Value).ownBlock) ∧ some k_ ≠ (.slice Ao23 t237.length co23 : Value).ownBlock) ∧ some k_ ≠ (.slice Ao24 t240.length co24 : Value).ownBlock) ∧ some k_ ≠ (.slice Ao25 t243.length co25 : Value).ownBlock) ∧ some k_ ≠ (.slice Ao26 t246.length co26 : Value).ownBlock)) (n := t262.length) (c := co37) ?_).2.2; exact (by (with_reducible repeat first | apply rA | apply rN | apply rD); exact (Kd.R_mono (Kd.R_far (p := ⟨gb265, 4, none⟩) (Kd.R_far (p := ⟨gb265, 3, none⟩) (Kd.R_far (p := ⟨gb265, 2, none⟩) (Kd.R_far (p := ⟨gb265, 1, none⟩) (Kd.R_far (p := ⟨gb265, 0, none⟩) (Kd.R_types HO264.out BK265.out (by decide)) (fun _ hk => hk.2) (.slice Ao31 t250.length co31)) (fun _ hk => hk.2) (.slice Ao34 t253.length co34)) (fun _ hk => hk.2) (.slice Ao35 t256.length co35)) (fun _ hk => hk.2) (.slice Ao36 t259.length co36)) (fun _ hk => hk.2) (.slice Ao37 t262.length co37)) (fun _ h_ => h_.1)))); (case side10 => exact (Kd.R_reads' HO264.out).2.1); rintro e w38 ⟨rfl, hb⟩; refine ⟨_, rfl, ?_⟩; have n0_ := aM (Kd.R_below (by (with_reducible repeat first | apply rA | apply rN | apply rD); exact (Kd.R_mono (Kd.R_far (p := ⟨gb265, 4, none⟩) (Kd.R_far (p := ⟨gb265, 3, none⟩) (Kd.R_far (p := ⟨gb265, 2, none⟩) (Kd.R_far (p := ⟨gb265, 1, none⟩) (Kd.R_far (p := ⟨gb265, 0, none⟩) (Kd.R_types HO236.out BK265.out (by decide)) (fun _ hk => hk.2) (.slice Ao31 t250.length co31)) (fun _ hk => hk.2) (.slice Ao34 t253.length co34)) (fun _ hk => hk.2) (.slice Ao35 t256.length co35)) (fun _ hk => hk.2) (.slice Ao36 t259.length co36)) (fun _ hk => hk.2) (.slice Ao37 t262.length co37)) (fun _ h_ => h_.1))) hb); have n1_ := aM (Kd.R_below (by (with_reducible repeat first | apply rA | apply rN | apply rD); exact (Kd.R_mono (Kd.R_far (p := ⟨gb265, 4, none⟩) (Kd.R_far (p := ⟨gb265, 3, none⟩) (Kd.R_far (p := ⟨gb265, 2, none⟩) (Kd.R_far (p := ⟨gb265, 1, none⟩) (Kd.R_far (p := ⟨gb265, 0, none⟩) (Kd.R_types HO239.out BK265.out (by decide)) (fun _ hk => hk.2) (.slice Ao31 t250.length co31)) (fun _ hk => hk.2) (.slice Ao34 t253.length co34)) (fun _ hk => hk.2) (.slice Ao35 t256.length co35)) (fun _ hk => hk.2) (.slice Ao36 t259.length co36)) (fun _ hk => hk.2) (.slice Ao37 t262.length co37)) (fun _ h_ => h_.1))) hb); have n2_ := aM (Kd.R_below (by (with_reducible repeat first | apply rA | apply rN | apply rD); exact (Kd.R_mono (Kd.R_far (p := ⟨gb265, 4, none⟩) (Kd.R_far (p := ⟨gb265, 3, none⟩) (Kd.R_far (p := ⟨gb265, 2, none⟩) (Kd.R_far (p := ⟨gb265, 1, none⟩) (Kd.R_far (p := ⟨gb265, 0, none⟩) (Kd.R_types HO242.out BK265.out (by decide)) (fun _ hk => hk.2) (.slice Ao31 t250.length co31)) (fun _ hk => hk.2) (.slice Ao34 t253.length co34)) (fun _ hk => hk.2) (.slice Ao35 t256.length co35)) (fun _ hk => hk.2) (.slice Ao36 t259.length co36)) (fun _ hk => hk.2) (.slice Ao37 t262.length co37)) (fun _ h_ => h_.1))) hb); have n3_ := aM (Kd.R_below (by (with_reducible repeat first | apply rA | apply rN | apply rD); exact (Kd.R_mono (Kd.R_far (p := ⟨gb265, 4, none⟩) (Kd.R_far (p := ⟨gb265, 3, none⟩) (Kd.R_far (p := ⟨gb265, 2, none⟩) (Kd.R_far (p := ⟨gb265, 1, none⟩) (Kd.R_far (p := ⟨gb265, 0, none⟩) (Kd.R_types HO245.out BK265.out (by decide)) (fun _ hk => hk.2) (.slice Ao31 t250.length co31)) (fun _ hk => hk.2) (.slice Ao34 t253.length co34)) (fun _ hk => hk.2) (.slice Ao35 t256.length co35)) (fun _ hk => hk.2) (.slice Ao36 t259.length co36)) (fun _ hk => hk.2) (.slice Ao37 t262.length co37)) (fun _ h_ => h_.1))) hb); have n4_ := aM (Kd.R_below (by (with_reducible repeat first | apply rA | apply rN | apply rD); exact (Kd.R_mono (Kd.R_far (p := ⟨gb265, 4, none⟩) (Kd.R_far (p := ⟨gb265, 3, none⟩) (Kd.R_far (p := ⟨gb265, 2, none⟩) (Kd.R_far (p := ⟨gb265, 1, none⟩) (Kd.R_far (p := ⟨gb265, 0, none⟩) (Kd.R_types HO248.out BK265.out (by decide)) (fun _ hk => hk.2) (.slice Ao31 t250.length co31)) (fun _ hk => hk.2) (.slice Ao34 t253.length co34)) (fun _ hk => hk.2) (.slice Ao35 t256.length co35)) (fun _ hk => hk.2) (.slice Ao36 t259.length co36)) (fun _ hk => hk.2) (.slice Ao37 t262.length co37)) (fun _ h_ => h_.1))) hb); have n5_ := aM (Kd.R_below (by (with_reducible repeat first | apply rA | apply rN | apply rD); exact (Kd.R_mono (Kd.R_far (p := ⟨gb265, 4, none⟩) (Kd.R_far (p := ⟨gb265, 3, none⟩) (Kd.R_far (p := ⟨gb265, 2, none⟩) (Kd.R_far (p := ⟨gb265, 1, none⟩) (Kd.R_far (p := ⟨gb265, 0, none⟩) (Kd.R_types HO252.out BK265.out (by decide)) (fun _ hk => hk.2) (.slice Ao31 t250.length co31)) (fun _ hk => hk.2) (.slice Ao34 t253.length co34)) (fun _ hk => hk.2) (.slice Ao35 t256.length co35)) (fun _ hk => hk.2) (.slice Ao36 t259.length co36)) (fun _ hk => hk.2) (.slice Ao37 t262.length co37)) (fun _ h_ => h_.1))) hb); have n6_ := aM (Kd.R_below (by (with_reducible repeat first | apply rA | apply rN | apply rD); exact (Kd.R_mono (Kd.R_far (p := ⟨gb265, 4, none⟩) (Kd.R_far (p := ⟨gb265, 3, none⟩) (Kd.R_far (p := ⟨gb265, 2, none⟩) (Kd.R_far (p := ⟨gb265, 1, none⟩) (Kd.R_far (p := ⟨gb265, 0, none⟩) (Kd.R_types HO255.out BK265.out (by decide)) (fun _ hk => hk.2) (.slice Ao31 t250.length co31)) (fun _ hk => hk.2) (.slice Ao34 t253.length co34)) (fun _ hk => hk.2) (.slice Ao35 t256.length co35)) (fun _ hk => hk.2) (.slice Ao36 t259.length co36)) (fun _ hk => hk.2) (.slice Ao37 t262.length co37)) (fun _ h_ => h_.1))) hb); have n7_ := aM (Kd.R_below (by (with_reducible repeat first | apply rA | apply rN | apply rD); exact (Kd.R_mono (Kd.R_far (p := ⟨gb265, 4, none⟩) (Kd.R_far (p := ⟨gb265, 3, none⟩) (Kd.R_far (p := ⟨gb265, 2, none⟩) (Kd.R_far (p := ⟨gb265, 1, none⟩) (Kd.R_far (p := ⟨gb265, 0, none⟩) (Kd.R_types HO258.out BK265.out (by decide)) (fun _ hk => hk.2) (.slice Ao31 t250.length co31)) (fun _ hk => hk.2) (.slice Ao34 t253.length co34)) (fun _ hk => hk.2) (.slice Ao35 t256.length co35)) (fun _ hk => hk.2) (.slice Ao36 t259.length co36)) (fun _ hk => hk.2) (.slice Ao37 t262.length co37)) (fun _ h_ => h_.1))) hb); have n8_ := aM (Kd.R_below (by (with_reducible repeat first | apply rA | apply rN | apply rD); exact (Kd.R_mono (Kd.R_far (p := ⟨gb265, 4, none⟩) (Kd.R_far (p := ⟨gb265, 3, none⟩) (Kd.R_far (p := ⟨gb265, 2, none⟩) (Kd.R_far (p := ⟨gb265, 1, none⟩) (Kd.R_far (p := ⟨gb265, 0, none⟩) (Kd.R_types HO261.out BK265.out (by decide)) (fun _ hk => hk.2) (.slice Ao31 t250.length co31)) (fun _ hk => hk.2) (.slice Ao34 t253.length co34)) (fun _ hk => hk.2) (.slice Ao35 t256.length co35)) (fun _ hk => hk.2) (.slice Ao36 t259.length co36)) (fun _ hk => hk.2) (.slice Ao37 t262.length co37)) (fun _ h_ => h_.1))) hb); have n9_ := aM (Kd.R_below (by (with_reducible repeat first | apply rA | apply rN | apply rD); exact (Kd.R_mono (Kd.R_far (p := ⟨gb265, 4, none⟩) (Kd.R_far (p := ⟨gb265, 3, none⟩) (Kd.R_far (p := ⟨gb265, 2, none⟩) (Kd.R_far (p := ⟨gb265, 1, none⟩) (Kd.R_far (p := ⟨gb265, 0, none⟩) (Kd.R_types HO264.out BK265.out (by decide)) (fun _ hk => hk.2) (.slice Ao31 t250.length co31)) (fun _ hk => hk.2) (.slice Ao34 t253.length co34)) (fun _ hk => hk.2) (.slice Ao35 t256.length co35)) (fun _ hk => hk.2) (.slice Ao36 t259.length co36)) (fun _ hk => hk.2) (.slice Ao37 t262.length co37)) (fun _ h_ => h_.1))) hb); have n10_ := aM (blk_below (g := gb232) (o := .cells #[.slice A0_0 l0_0.length c0_0, .slice A0_1 l0_1.length c0_1, .slice A0_2 l0_2.length c0_2, .slice A0_3 l0_3.length c0_3, .slice A0_4 l0_4.length c0_4] 24 (0, 0)) (by (with_reducible repeat first | apply bN | apply bD | apply bA); refine blk_far ?_ NB232_265.out _; (with_reducible repeat first | apply bN | apply bD | apply bA); refine blk_far ?_ NB232_265.out _; (with_reducible repeat first | apply bN | apply bD | apply bA); refine blk_far ?_ NB232_265.out _; (with_reducible repeat first | apply bN | apply bD | apply bA); refine blk_far ?_ NB232_265.out _; (with_reducible repeat first | apply bN | apply bD | apply bA); refine blk_far ?_ NB232_265.out _; (with_reducible repeat first | apply bN | apply bD | apply bA); exact BK232.out) hb); have n11_ := aM (blk_below (g := gb265) (o := .cells #[.slice Ao31 t250.length co31, .slice Ao34 t253.length co34, .slice Ao35 t256.length co35, .slice Ao36 t259.length co36, .slice Ao37 t262.length co37] 27 (0, 0)) (by (with_reducible repeat first | apply bN | apply bD | apply bA); refine blk_put (cs := #[.slice Ao31 t250.length co31, .slice Ao34 t253.length co34, .slice Ao35 t256.length co35, .slice Ao36 t259.length co36, .slice none 0 0]) ?_ 4 _ rfl; (with_reducible repeat first | apply bN | apply bD | apply bA); refine blk_put (cs := #[.slice Ao31 t250.length co31, .slice Ao34 t253.length co34, .slice Ao35 t256.length co35, .slice none 0 0, .slice none 0 0]) ?_ 3 _ rfl; (with_reducible repeat first | apply bN | apply bD | apply bA); refine blk_put (cs := #[.slice Ao31 t250.length co31, .slice Ao34 t253.length co34, .slice none 0 0, .slice none 0 0, .slice none 0 0]) ?_ 2 _ rfl; (with_reducible repeat first | apply bN | apply bD | apply bA); refine blk_put (cs := #[.slice Ao31 t250.length co31, .slice none 0 0, .slice none 0 0, .slice none 0 0, .slice none 0 0]) ?_ 1 _ rfl; (with_reducible repeat first | apply bN | apply bD | apply bA); refine blk_put (cs := #[.slice none 0 0, .slice none 0 0, .slice none 0 0, .slice none 0 0, .slice none 0 0]) ?_ 0 _ rfl; (with_reducible repeat first | apply bN | apply bD | apply bA); exact BK265.out) hb); have n12_ := aM (below_step (by repeat (first | (with_reducible first | exact HB.out | apply lA | apply lN | apply lD | refine lS ?_ GE232.out | refine lS ?_ GE265.out) | exact HB.out)) hb); clear HO236; clear HO239; clear HO242; clear HO245; clear HO248; clear HO252; clear HO255; clear HO258; clear HO261; clear HO264; clear BK232; clear BK265; clear HB; have HO236 := n0_; have HO239 := n1_; have HO242 := n2_; have HO245 := n3_; have HO248 := n4_; have HO252 := n5_; have HO255 := n6_; have HO258 := n7_; have HO261 := n8_; have HO264 := n9_; have BK232 := n10_; have BK265 := n11_; have HB := n12_; clear n0_ n1_ n2_ n3_ n4_ n5_ n6_ n7_ n8_ n9_ n10_ n11_ n12_; (try clear hb); (try clear hb2); (try clear hk); (try clear hi)))
        have n0_ := aM (Kd.R_drew HO236.out)
        have n1_ := aM (Kd.R_drew HO239.out)
        have n2_ := aM (Kd.R_drew HO242.out)
        have n3_ := aM (Kd.R_drew HO245.out)
        have n4_ := aM (Kd.R_drew HO248.out)
        have n5_ := aM (Kd.R_drew HO252.out)
        have n6_ := aM (Kd.R_drew HO255.out)
        have n7_ := aM (Kd.R_drew HO258.out)
        have n8_ := aM (Kd.R_drew HO261.out)
        have n9_ := aM (Kd.R_drew HO264.out)
        have n10_ := aM (blk_drew BK232.out)
        have n11_ := aM (blk_drew BK265.out)
        have n12_ := aM (below_drew1 HB.out)
        clear HO236
        clear HO239
        clear HO242
        clear HO245
        clear HO248
        clear HO252
        clear HO255
        clear HO258
        clear HO261
        clear HO264
        clear BK232
        clear BK265
        clear HB
        have HO236 := n0_
        have HO239 := n1_
        have HO242 := n2_
        have HO245 := n3_
        have HO248 := n4_
        have HO252 := n5_
        have HO255 := n6_
        have HO258 := n7_
        have HO261 := n8_
        have HO264 := n9_
        have BK232 := n10_
        have BK265 := n11_
        have HB := n12_
        clear n0_ n1_ n2_ n3_ n4_ n5_ n6_ n7_ n8_ n9_ n10_ n11_ n12_
        refine start_ (n := 5) (S := fun w' => w'.cell? ⟨gb265, 0, none⟩ = some (.slice Ao31 t250.length co31) ∧ w'.cell? ⟨gb265, 1, none⟩ = some (.slice Ao34 t253.length co34) ∧ w'.cell? ⟨gb265, 2, none⟩ = some (.slice Ao35 t256.length co35) ∧ w'.cell? ⟨gb265, 3, none⟩ = some (.slice Ao36 t259.length co36) ∧ w'.cell? ⟨gb265, 4, none⟩ = some (.slice Ao37 t262.length co37) ∧ w'.cell? ⟨gb232, 0, none⟩ = some (.slice A0_0 l0_0.length c0_0) ∧ w'.cell? ⟨gb232, 1, none⟩ = some (.slice A0_1 l0_1.length c0_1) ∧ w'.cell? ⟨gb232, 2, none⟩ = some (.slice A0_2 l0_2.length c0_2) ∧ w'.cell? ⟨gb232, 3, none⟩ = some (.slice A0_3 l0_3.length c0_3) ∧ w'.cell? ⟨gb232, 4, none⟩ = some (.slice A0_4 l0_4.length c0_4)) (ds := []) #[false, false, false, false, false] (by kernel_rfl) rfl rfl ⟨(blk_cell BK265.out 0).trans rfl, (blk_cell BK265.out 1).trans rfl, (blk_cell BK265.out 2).trans rfl, (blk_cell BK265.out 3).trans rfl, (blk_cell BK265.out 4).trans rfl, (blk_cell BK232.out 0).trans rfl, (blk_cell BK232.out 1).trans rfl, (blk_cell BK232.out 2).trans rfl, (blk_cell BK232.out 3).trans rfl, (blk_cell BK232.out 4).trans rfl⟩ (fun hHeld => ?_)
        generalize w38.drew = w39 at HO236 HO239 HO242 HO245 HO248 HO252 HO255 HO258 HO261 HO264 BK232 BK265 HB hHeld ⊢
        refine take_ (i := 0) (N := some 30) (v := ?_) (a' := ?_) #[true, false, false, false, false] rfl rfl (by kernel_rfl) (fun _ _ _ h => h) (Or.inl ⟨by rfl, ?_⟩) hHeld ?_ ?_
        rotate_left
        · rintro w' ⟨s0, s1, s2, s3, s4, s5, s6, s7, s8, s9⟩
          go_simp
          with_reducible rfl
        rotate_left
        · simp only [aP, aQ, sT, sZ, sU, i64_w, i32_w]
          rfl
        refine take_ (i := 1) (N := some 31) (v := ?_) (a' := ?_) #[true, true, false, false, false] rfl rfl (by kernel_rfl) (fun _ _ _ h => h) (Or.inl ⟨by rfl, ?_⟩) hHeld ?_ ?_
        rotate_left
        · rintro w' ⟨s0, s1, s2, s3, s4, s5, s6, s7, s8, s9⟩
          go_simp
          with_reducible rfl
        rotate_left
        · simp only [aP, aQ, sT, sZ, sU, i64_w, i32_w]
          rfl
        refine one_ (i := 2) (N := some 32) #[true, true, true, false, false] rfl rfl (by kernel_rfl) (by decide) (fun K hK => ?_)
        refine goes_ Try.func10 (by kernel_rfl) rfl #[.agg #[.slice A0_0 l0_0.length c0_0, .slice A0_1 l0_1.length c0_1, .slice A0_2 l0_2.length c0_2, .slice A0_3 l0_3.length c0_3, .slice A0_4 l0_4.length c0_4]] (by rfl) rfl rfl (by (try simp only [mT, mC, mN]); first | done | rfl | (simp only [lDr, lTk]; rfl)) ?_
        with_reducible refine (laws_toCron.calls k _ _ l0_0 _ _ l0_1 _ _ l0_2 _ _ l0_3 _ _ l0_4 t267 t270 t273 t276 t279 _ ?side1 ?side2 ?side3 ?side4 ?side5 ?side6 ?side7 ?side8 ?side9 ?side10 A14.out).mono ?_
        (case side1 => repeat (first | exact (Kd.C_below HR0_0.out HB.out) | (with_reducible refine cA ?_ _) | (with_reducible refine cN ?_ _) | (with_reducible refine cD ?_)))
        (case side2 => exact HC0_0.out)
        (case side3 => repeat (first | exact (Kd.C_below HR0_1.out HB.out) | (with_reducible refine cA ?_ _) | (with_reducible refine cN ?_ _) | (with_reducible refine cD ?_)))
        (case side4 => exact HC0_1.out)
        (case side5 => repeat (first | exact (Kd.C_below HR0_2.out HB.out) | (with_reducible refine cA ?_ _) | (with_reducible refine cN ?_ _) | (with_reducible refine cD ?_)))
        (case side6 => exact HC0_2.out)
        (case side7 => repeat (first | exact (Kd.C_below HR0_3.out HB.out) | (with_reducible refine cA ?_ _) | (with_reducible refine cN ?_ _) | (with_reducible refine cD ?_)))
        (case side8 => exact HC0_3.out)
        (case side9 => repeat (first | exact (Kd.C_below HR0_4.out HB.out) | (with_reducible refine cA ?_ _) | (with_reducible refine cN ?_ _) | (with_reducible refine cD ?_)))
        (case side10 => exact HC0_4.out)
        rintro e w40 ⟨v268, v271, v274, v277, v280, rfl, ho0, ho1, ho2, ho3, ho4, hb⟩
        refine ⟨_, rfl, ?_⟩
        have n0_ := aM (Kd.R_mono (Kd.R_told (Kd.R_told (Kd.R_told (Kd.R_told (Kd.R_told (Kd.R_old (by (with_reducible repeat first | apply rA | apply rN | apply rD); exact HO236.out) hb) (Kd.R_base ho0)) (Kd.R_base ho1)) (Kd.R_base ho2)) (Kd.R_base ho3)) (Kd.R_base ho4)) (fun _ h_ => h_.1))
        have n1_ := aM (Kd.R_mono (Kd.R_told (Kd.R_told (Kd.R_told (Kd.R_told (Kd.R_told (Kd.R_old (by (with_reducible repeat first | apply rA | apply rN | apply rD); exact HO239.out) hb) (Kd.R_base ho0)) (Kd.R_base ho1)) (Kd.R_base ho2)) (Kd.R_base ho3)) (Kd.R_base ho4)) (fun _ h_ => h_.1))
        have n2_ := aM (Kd.R_mono (Kd.R_told (Kd.R_told (Kd.R_told (Kd.R_told (Kd.R_told (Kd.R_old (by (with_reducible repeat first | apply rA | apply rN | apply rD); exact HO242.out) hb) (Kd.R_base ho0)) (Kd.R_base ho1)) (Kd.R_base ho2)) (Kd.R_base ho3)) (Kd.R_base ho4)) (fun _ h_ => h_.1))
        have n3_ := aM (Kd.R_mono (Kd.R_told (Kd.R_told (Kd.R_told (Kd.R_told (Kd.R_told (Kd.R_old (by (with_reducible repeat first | apply rA | apply rN | apply rD); exact HO245.out) hb) (Kd.R_base ho0)) (Kd.R_base ho1)) (Kd.R_base ho2)) (Kd.R_base ho3)) (Kd.R_base ho4)) (fun _ h_ => h_.1))
        have n4_ := aM (Kd.R_mono (Kd.R_told (Kd.R_told (Kd.R_told (Kd.R_told (Kd.R_told (Kd.R_old (by (with_reducible repeat first | apply rA | apply rN | apply rD); exact HO248.out) hb) (Kd.R_base ho0)) (Kd.R_base ho1)) (Kd.R_base ho2)) (Kd.R_base ho3)) (Kd.R_base ho4)) (fun _ h_ => h_.1))
        have n5_ := aM (Kd.R_mono (Kd.R_told (Kd.R_told (Kd.R_told (Kd.R_told (Kd.R_told (Kd.R_old (by (with_reducible repeat first | apply rA | apply rN | apply rD); exact HO252.out) hb) (Kd.R_base ho0)) (Kd.R_base ho1)) (Kd.R_base ho2)) (Kd.R_base ho3)) (Kd.R_base ho4)) (fun _ h_ => h_.1))
        have n6_ := aM (Kd.R_mono (Kd.R_told (Kd.R_told (Kd.R_told (Kd.R_told (Kd.R_told (Kd.R_old (by (with_reducible repeat first | apply rA | apply rN | apply rD); exact HO255.out) hb) (Kd.R_base ho0)) (Kd.R_base ho1)) (Kd.R_base ho2)) (Kd.R_base ho3)) (Kd.R_base ho4)) (fun _ h_ => h_.1))
        have n7_ := aM (Kd.R_mono (Kd.R_told (Kd.R_told (Kd.R_told (Kd.R_told (Kd.R_told (Kd.R_old (by (with_reducible repeat first | apply rA | apply rN | apply rD); exact HO258.out) hb) (Kd.R_base ho0)) (Kd.R_base ho1)) (Kd.R_base ho2)) (Kd.R_base ho3)) (Kd.R_base ho4)) (fun _ h_ => h_.1))
        have n8_ := aM (Kd.R_mono (Kd.R_told (Kd.R_told (Kd.R_told (Kd.R_told (Kd.R_told (Kd.R_old (by (with_reducible repeat first | apply rA | apply rN | apply rD); exact HO261.out) hb) (Kd.R_base ho0)) (Kd.R_base ho1)) (Kd.R_base ho2)) (Kd.R_base ho3)) (Kd.R_base ho4)) (fun _ h_ => h_.1))
        have n9_ := aM (Kd.R_mono (Kd.R_told (Kd.R_told (Kd.R_told (Kd.R_told (Kd.R_told (Kd.R_old (by (with_reducible repeat first | apply rA | apply rN | apply rD); exact HO264.out) hb) (Kd.R_base ho0)) (Kd.R_base ho1)) (Kd.R_base ho2)) (Kd.R_base ho3)) (Kd.R_base ho4)) (fun _ h_ => h_.1))
        have n10_ := aM (Kd.R_lower (Kd.R_new' (Kd.R_new' (Kd.R_new' (Kd.R_new' (Kd.R_new' (Kd.R_new' (Kd.R_new' (Kd.R_new' (Kd.R_new' (Kd.R_new' ho0 (Kd.R_lt (by (with_reducible repeat first | apply rA | apply rN | apply rD); exact HO236.out))) (Kd.R_lt (by (with_reducible repeat first | apply rA | apply rN | apply rD); exact HO239.out))) (Kd.R_lt (by (with_reducible repeat first | apply rA | apply rN | apply rD); exact HO242.out))) (Kd.R_lt (by (with_reducible repeat first | apply rA | apply rN | apply rD); exact HO245.out))) (Kd.R_lt (by (with_reducible repeat first | apply rA | apply rN | apply rD); exact HO248.out))) (Kd.R_lt (by (with_reducible repeat first | apply rA | apply rN | apply rD); exact HO252.out))) (Kd.R_lt (by (with_reducible repeat first | apply rA | apply rN | apply rD); exact HO255.out))) (Kd.R_lt (by (with_reducible repeat first | apply rA | apply rN | apply rD); exact HO258.out))) (Kd.R_lt (by (with_reducible repeat first | apply rA | apply rN | apply rD); exact HO261.out))) (Kd.R_lt (by (with_reducible repeat first | apply rA | apply rN | apply rD); exact HO264.out))) (below_size (by repeat (first | (with_reducible first | exact HB.out | apply lA | apply lN | apply lD | refine lS ?_ GE232.out | refine lS ?_ GE265.out) | exact HB.out))))
        have n11_ := aM (Kd.R_lower (Kd.R_new' (Kd.R_new' (Kd.R_new' (Kd.R_new' (Kd.R_new' (Kd.R_new' (Kd.R_new' (Kd.R_new' (Kd.R_new' (Kd.R_new' ho1 (Kd.R_lt (by (with_reducible repeat first | apply rA | apply rN | apply rD); exact HO236.out))) (Kd.R_lt (by (with_reducible repeat first | apply rA | apply rN | apply rD); exact HO239.out))) (Kd.R_lt (by (with_reducible repeat first | apply rA | apply rN | apply rD); exact HO242.out))) (Kd.R_lt (by (with_reducible repeat first | apply rA | apply rN | apply rD); exact HO245.out))) (Kd.R_lt (by (with_reducible repeat first | apply rA | apply rN | apply rD); exact HO248.out))) (Kd.R_lt (by (with_reducible repeat first | apply rA | apply rN | apply rD); exact HO252.out))) (Kd.R_lt (by (with_reducible repeat first | apply rA | apply rN | apply rD); exact HO255.out))) (Kd.R_lt (by (with_reducible repeat first | apply rA | apply rN | apply rD); exact HO258.out))) (Kd.R_lt (by (with_reducible repeat first | apply rA | apply rN | apply rD); exact HO261.out))) (Kd.R_lt (by (with_reducible repeat first | apply rA | apply rN | apply rD); exact HO264.out))) (below_size (by repeat (first | (with_reducible first | exact HB.out | apply lA | apply lN | apply lD | refine lS ?_ GE232.out | refine lS ?_ GE265.out) | exact HB.out))))
        have n12_ := aM (Kd.R_lower (Kd.R_new' (Kd.R_new' (Kd.R_new' (Kd.R_new' (Kd.R_new' (Kd.R_new' (Kd.R_new' (Kd.R_new' (Kd.R_new' (Kd.R_new' ho2 (Kd.R_lt (by (with_reducible repeat first | apply rA | apply rN | apply rD); exact HO236.out))) (Kd.R_lt (by (with_reducible repeat first | apply rA | apply rN | apply rD); exact HO239.out))) (Kd.R_lt (by (with_reducible repeat first | apply rA | apply rN | apply rD); exact HO242.out))) (Kd.R_lt (by (with_reducible repeat first | apply rA | apply rN | apply rD); exact HO245.out))) (Kd.R_lt (by (with_reducible repeat first | apply rA | apply rN | apply rD); exact HO248.out))) (Kd.R_lt (by (with_reducible repeat first | apply rA | apply rN | apply rD); exact HO252.out))) (Kd.R_lt (by (with_reducible repeat first | apply rA | apply rN | apply rD); exact HO255.out))) (Kd.R_lt (by (with_reducible repeat first | apply rA | apply rN | apply rD); exact HO258.out))) (Kd.R_lt (by (with_reducible repeat first | apply rA | apply rN | apply rD); exact HO261.out))) (Kd.R_lt (by (with_reducible repeat first | apply rA | apply rN | apply rD); exact HO264.out))) (below_size (by repeat (first | (with_reducible first | exact HB.out | apply lA | apply lN | apply lD | refine lS ?_ GE232.out | refine lS ?_ GE265.out) | exact HB.out))))
        have n13_ := aM (Kd.R_lower (Kd.R_new' (Kd.R_new' (Kd.R_new' (Kd.R_new' (Kd.R_new' (Kd.R_new' (Kd.R_new' (Kd.R_new' (Kd.R_new' (Kd.R_new' ho3 (Kd.R_lt (by (with_reducible repeat first | apply rA | apply rN | apply rD); exact HO236.out))) (Kd.R_lt (by (with_reducible repeat first | apply rA | apply rN | apply rD); exact HO239.out))) (Kd.R_lt (by (with_reducible repeat first | apply rA | apply rN | apply rD); exact HO242.out))) (Kd.R_lt (by (with_reducible repeat first | apply rA | apply rN | apply rD); exact HO245.out))) (Kd.R_lt (by (with_reducible repeat first | apply rA | apply rN | apply rD); exact HO248.out))) (Kd.R_lt (by (with_reducible repeat first | apply rA | apply rN | apply rD); exact HO252.out))) (Kd.R_lt (by (with_reducible repeat first | apply rA | apply rN | apply rD); exact HO255.out))) (Kd.R_lt (by (with_reducible repeat first | apply rA | apply rN | apply rD); exact HO258.out))) (Kd.R_lt (by (with_reducible repeat first | apply rA | apply rN | apply rD); exact HO261.out))) (Kd.R_lt (by (with_reducible repeat first | apply rA | apply rN | apply rD); exact HO264.out))) (below_size (by repeat (first | (with_reducible first | exact HB.out | apply lA | apply lN | apply lD | refine lS ?_ GE232.out | refine lS ?_ GE265.out) | exact HB.out))))
        have n14_ := aM (Kd.R_lower (Kd.R_new' (Kd.R_new' (Kd.R_new' (Kd.R_new' (Kd.R_new' (Kd.R_new' (Kd.R_new' (Kd.R_new' (Kd.R_new' (Kd.R_new' ho4 (Kd.R_lt (by (with_reducible repeat first | apply rA | apply rN | apply rD); exact HO236.out))) (Kd.R_lt (by (with_reducible repeat first | apply rA | apply rN | apply rD); exact HO239.out))) (Kd.R_lt (by (with_reducible repeat first | apply rA | apply rN | apply rD); exact HO242.out))) (Kd.R_lt (by (with_reducible repeat first | apply rA | apply rN | apply rD); exact HO245.out))) (Kd.R_lt (by (with_reducible repeat first | apply rA | apply rN | apply rD); exact HO248.out))) (Kd.R_lt (by (with_reducible repeat first | apply rA | apply rN | apply rD); exact HO252.out))) (Kd.R_lt (by (with_reducible repeat first | apply rA | apply rN | apply rD); exact HO255.out))) (Kd.R_lt (by (with_reducible repeat first | apply rA | apply rN | apply rD); exact HO258.out))) (Kd.R_lt (by (with_reducible repeat first | apply rA | apply rN | apply rD); exact HO261.out))) (Kd.R_lt (by (with_reducible repeat first | apply rA | apply rN | apply rD); exact HO264.out))) (below_size (by repeat (first | (with_reducible first | exact HB.out | apply lA | apply lN | apply lD | refine lS ?_ GE232.out | refine lS ?_ GE265.out) | exact HB.out))))
        have n15_ := aM (blk_below (g := gb232) (o := .cells #[.slice A0_0 l0_0.length c0_0, .slice A0_1 l0_1.length c0_1, .slice A0_2 l0_2.length c0_2, .slice A0_3 l0_3.length c0_3, .slice A0_4 l0_4.length c0_4] 24 (0, 0)) (by (with_reducible repeat first | apply bN | apply bD | apply bA); exact BK232.out) hb)
        have n16_ := aM (blk_below (g := gb265) (o := .cells #[.slice Ao31 t250.length co31, .slice Ao34 t253.length co34, .slice Ao35 t256.length co35, .slice Ao36 t259.length co36, .slice Ao37 t262.length co37] 27 (0, 0)) (by (with_reducible repeat first | apply bN | apply bD | apply bA); exact BK265.out) hb)
        have n17_ := aM (below_step (by repeat (first | (with_reducible first | exact HB.out | apply lA | apply lN | apply lD | refine lS ?_ GE232.out | refine lS ?_ GE265.out) | exact HB.out)) hb)
        clear HO236
        clear HO239
        clear HO242
        clear HO245
        clear HO248
        clear HO252
        clear HO255
        clear HO258
        clear HO261
        clear HO264
        clear BK232
        clear BK265
        clear HB
        have HO236 := n0_
        have HO239 := n1_
        have HO242 := n2_
        have HO245 := n3_
        have HO248 := n4_
        have HO252 := n5_
        have HO255 := n6_
        have HO258 := n7_
        have HO261 := n8_
        have HO264 := n9_
        have HO269 := n10_
        have HO272 := n11_
        have HO275 := n12_
        have HO278 := n13_
        have HO281 := n14_
        have BK232 := n15_
        have BK265 := n16_
        have HB := n17_
        clear n0_ n1_ n2_ n3_ n4_ n5_ n6_ n7_ n8_ n9_ n10_ n11_ n12_ n13_ n14_ n15_ n16_ n17_
        (try clear hb)
        (try clear hb2)
        (try clear hk)
        (try clear hi)
        (try clear ho0)
        (try clear ho1)
        (try clear ho2)
        (try clear ho3)
        (try clear ho4)
        obtain ⟨Ao41, co41, eo41⟩ := Kd.R_slice HO269.out
        (first | subst eo41 | (injection eo41 with f1_ f2_ f3_; have f4_ := f1_.symm; have f5_ := f3_.symm; clear f1_ f2_ f3_; subst f4_; subst f5_))
        obtain ⟨Ao42, co42, eo42⟩ := Kd.R_slice HO272.out
        (first | subst eo42 | (injection eo42 with f1_ f2_ f3_; have f4_ := f1_.symm; have f5_ := f3_.symm; clear f1_ f2_ f3_; subst f4_; subst f5_))
        obtain ⟨Ao43, co43, eo43⟩ := Kd.R_slice HO275.out
        (first | subst eo43 | (injection eo43 with f1_ f2_ f3_; have f4_ := f1_.symm; have f5_ := f3_.symm; clear f1_ f2_ f3_; subst f4_; subst f5_))
        obtain ⟨Ao44, co44, eo44⟩ := Kd.R_slice HO278.out
        (first | subst eo44 | (injection eo44 with f1_ f2_ f3_; have f4_ := f1_.symm; have f5_ := f3_.symm; clear f1_ f2_ f3_; subst f4_; subst f5_))
        obtain ⟨Ao45, co45, eo45⟩ := Kd.R_slice HO281.out
        (first | subst eo45 | (injection eo45 with f1_ f2_ f3_; have f4_ := f1_.symm; have f5_ := f3_.symm; clear f1_ f2_ f3_; subst f4_; subst f5_))
        refine hK.out _ _ ⟨(blk_cell BK265.out 0).trans rfl, (blk_cell BK265.out 1).trans rfl, (blk_cell BK265.out 2).trans rfl, (blk_cell BK265.out 3).trans rfl, (blk_cell BK265.out 4).trans rfl, (blk_cell BK232.out 0).trans rfl, (blk_cell BK232.out 1).trans rfl, (blk_cell BK232.out 2).trans rfl, (blk_cell BK232.out 3).trans rfl, (blk_cell BK232.out 4).trans rfl⟩ (fun hHeld => ?_)
        clear hK K
        refine norm_ (a' := ?_) ?_ ?_
        rotate_left
        · show Act.put _ (some 32) _ = _
          simp only [aP, aQ, sT, sZ, sU, i64_w, i32_w]
          rfl
        refine one_ (i := 3) (N := some 33) #[true, true, true, true, false] rfl rfl (by kernel_rfl) (by decide) (fun K hK => ?_)
        refine goes_ Try.func12 (by kernel_rfl) rfl #[.agg #[.slice Ao31 t250.length co31, .slice Ao34 t253.length co34, .slice Ao35 t256.length co35, .slice Ao36 t259.length co36, .slice Ao37 t262.length co37], .agg #[.slice Ao41 t267.length co41, .slice Ao42 t270.length co42, .slice Ao43 t273.length co43, .slice Ao44 t276.length co44, .slice Ao45 t279.length co45]] (by rfl) rfl rfl (by (try simp only [mT, mC, mN]); first | done | rfl | (simp only [lDr, lTk]; rfl)) ?_
        with_reducible refine (laws_eqCron.calls k _ _ t250 _ _ t253 _ _ t256 _ _ t259 _ _ t262 _ _ t267 _ _ t270 _ _ t273 _ _ t276 _ _ t279 true _ ?side1 ?side2 ?side3 ?side4 ?side5 ?side6 ?side7 ?side8 ?side9 ?side10 ?side11 ?side12 ?side13 ?side14 ?side15 ?side16 ?side17 ?side18 ?side19 ?side20 A15.out).mono ?_
        (case side1 => repeat (first | exact (Kd.R_reads' HO252.out).2.2 | (with_reducible refine cA ?_ _) | (with_reducible refine cN ?_ _) | (with_reducible refine cD ?_)))
        (case side2 => exact (Kd.R_reads' HO252.out).2.1)
        (case side3 => repeat (first | exact (Kd.R_reads' HO255.out).2.2 | (with_reducible refine cA ?_ _) | (with_reducible refine cN ?_ _) | (with_reducible refine cD ?_)))
        (case side4 => exact (Kd.R_reads' HO255.out).2.1)
        (case side5 => repeat (first | exact (Kd.R_reads' HO258.out).2.2 | (with_reducible refine cA ?_ _) | (with_reducible refine cN ?_ _) | (with_reducible refine cD ?_)))
        (case side6 => exact (Kd.R_reads' HO258.out).2.1)
        (case side7 => repeat (first | exact (Kd.R_reads' HO261.out).2.2 | (with_reducible refine cA ?_ _) | (with_reducible refine cN ?_ _) | (with_reducible refine cD ?_)))
        (case side8 => exact (Kd.R_reads' HO261.out).2.1)
        (case side9 => repeat (first | exact (Kd.R_reads' HO264.out).2.2 | (with_reducible refine cA ?_ _) | (with_reducible refine cN ?_ _) | (with_reducible refine cD ?_)))
        (case side10 => exact (Kd.R_reads' HO264.out).2.1)
        (case side11 => repeat (first | exact (Kd.R_reads' HO269.out).2.2 | (with_reducible refine cA ?_ _) | (with_reducible refine cN ?_ _) | (with_reducible refine cD ?_)))
        (case side12 => exact (Kd.R_reads' HO269.out).2.1)
        (case side13 => repeat (first | exact (Kd.R_reads' HO272.out).2.2 | (with_reducible refine cA ?_ _) | (with_reducible refine cN ?_ _) | (with_reducible refine cD ?_)))
        (case side14 => exact (Kd.R_reads' HO272.out).2.1)
        (case side15 => repeat (first | exact (Kd.R_reads' HO275.out).2.2 | (with_reducible refine cA ?_ _) | (with_reducible refine cN ?_ _) | (with_reducible refine cD ?_)))
        (case side16 => exact (Kd.R_reads' HO275.out).2.1)
        (case side17 => repeat (first | exact (Kd.R_reads' HO278.out).2.2 | (with_reducible refine cA ?_ _) | (with_reducible refine cN ?_ _) | (with_reducible refine cD ?_)))
        (case side18 => exact (Kd.R_reads' HO278.out).2.1)
        (case side19 => repeat (first | exact (Kd.R_reads' HO281.out).2.2 | (with_reducible refine cA ?_ _) | (with_reducible refine cN ?_ _) | (with_reducible refine cD ?_)))
        (case side20 => exact (Kd.R_reads' HO281.out).2.1)
        rintro e w46 ⟨rfl, hb⟩
        refine ⟨_, rfl, ?_⟩
        have n0_ := aM (Kd.R_below (by (with_reducible repeat first | apply rA | apply rN | apply rD); exact HO236.out) hb)
        have n1_ := aM (Kd.R_below (by (with_reducible repeat first | apply rA | apply rN | apply rD); exact HO239.out) hb)
        have n2_ := aM (Kd.R_below (by (with_reducible repeat first | apply rA | apply rN | apply rD); exact HO242.out) hb)
        have n3_ := aM (Kd.R_below (by (with_reducible repeat first | apply rA | apply rN | apply rD); exact HO245.out) hb)
        have n4_ := aM (Kd.R_below (by (with_reducible repeat first | apply rA | apply rN | apply rD); exact HO248.out) hb)
        have n5_ := aM (Kd.R_below (by (with_reducible repeat first | apply rA | apply rN | apply rD); exact HO252.out) hb)
        have n6_ := aM (Kd.R_below (by (with_reducible repeat first | apply rA | apply rN | apply rD); exact HO255.out) hb)
        have n7_ := aM (Kd.R_below (by (with_reducible repeat first | apply rA | apply rN | apply rD); exact HO258.out) hb)
        have n8_ := aM (Kd.R_below (by (with_reducible repeat first | apply rA | apply rN | apply rD); exact HO261.out) hb)
        have n9_ := aM (Kd.R_below (by (with_reducible repeat first | apply rA | apply rN | apply rD); exact HO264.out) hb)
        have n10_ := aM (Kd.R_below (by (with_reducible repeat first | apply rA | apply rN | apply rD); exact HO269.out) hb)
        have n11_ := aM (Kd.R_below (by (with_reducible repeat first | apply rA | apply rN | apply rD); exact HO272.out) hb)
        have n12_ := aM (Kd.R_below (by (with_reducible repeat first | apply rA | apply rN | apply rD); exact HO275.out) hb)
        have n13_ := aM (Kd.R_below (by (with_reducible repeat first | apply rA | apply rN | apply rD); exact HO278.out) hb)
        have n14_ := aM (Kd.R_below (by (with_reducible repeat first | apply rA | apply rN | apply rD); exact HO281.out) hb)
        have n15_ := aM (blk_below (g := gb232) (o := .cells #[.slice A0_0 l0_0.length c0_0, .slice A0_1 l0_1.length c0_1, .slice A0_2 l0_2.length c0_2, .slice A0_3 l0_3.length c0_3, .slice A0_4 l0_4.length c0_4] 24 (0, 0)) (by (with_reducible repeat first | apply bN | apply bD | apply bA); exact BK232.out) hb)
        have n16_ := aM (blk_below (g := gb265) (o := .cells #[.slice Ao31 t250.length co31, .slice Ao34 t253.length co34, .slice Ao35 t256.length co35, .slice Ao36 t259.length co36, .slice Ao37 t262.length co37] 27 (0, 0)) (by (with_reducible repeat first | apply bN | apply bD | apply bA); exact BK265.out) hb)
        have n17_ := aM (below_step (by repeat (first | (with_reducible first | exact HB.out | apply lA | apply lN | apply lD | refine lS ?_ GE232.out | refine lS ?_ GE265.out) | exact HB.out)) hb)
        clear HO236
        clear HO239
        clear HO242
        clear HO245
        clear HO248
        clear HO252
        clear HO255
        clear HO258
        clear HO261
        clear HO264
        clear HO269
        clear HO272
        clear HO275
        clear HO278
        clear HO281
        clear BK232
        clear BK265
        clear HB
        have HO236 := n0_
        have HO239 := n1_
        have HO242 := n2_
        have HO245 := n3_
        have HO248 := n4_
        have HO252 := n5_
        have HO255 := n6_
        have HO258 := n7_
        have HO261 := n8_
        have HO264 := n9_
        have HO269 := n10_
        have HO272 := n11_
        have HO275 := n12_
        have HO278 := n13_
        have HO281 := n14_
        have BK232 := n15_
        have BK265 := n16_
        have HB := n17_
        clear n0_ n1_ n2_ n3_ n4_ n5_ n6_ n7_ n8_ n9_ n10_ n11_ n12_ n13_ n14_ n15_ n16_ n17_
        (try clear hb)
        (try clear hb2)
        (try clear hk)
        (try clear hi)
        refine hK.out _ _ ⟨(blk_cell BK265.out 0).trans rfl, (blk_cell BK265.out 1).trans rfl, (blk_cell BK265.out 2).trans rfl, (blk_cell BK265.out 3).trans rfl, (blk_cell BK265.out 4).trans rfl, (blk_cell BK232.out 0).trans rfl, (blk_cell BK232.out 1).trans rfl, (blk_cell BK232.out 2).trans rfl, (blk_cell BK232.out 3).trans rfl, (blk_cell BK232.out 4).trans rfl⟩ (fun hHeld => ?_)
        clear hK K
        refine norm_ (a' := ?_) ?_ ?_
        rotate_left
        · show Act.put _ (some 33) _ = _
          simp only [aP, aQ, sT, sZ, sU, i64_w, i32_w]
          rfl
        refine pure_ (i := 4) (N := some 34) (v := ?_) (a' := ?_) #[true, true, true, true, true] rfl rfl (by kernel_rfl) (fun _ _ _ h => h) (Or.inl ⟨by rfl, ?_⟩) ?_ ?_
        rotate_left
        · intro w'
          go_simp
          with_reducible rfl
        rotate_left
        · simp only [aP, aQ, sT, sZ, sU, i64_w, i32_w]
          rfl
        refine done_ (by kernel_rfl) ?_
        try go_wp2
        go_ret
        exact ⟨by first | rfl | (simp [errW_none, errW_some] <;> rfl) | (simp [*, errW_none, errW_some] <;> rfl), by repeat (first | (with_reducible first | exact HB.out | apply lA | apply lN | apply lD | refine lS ?_ GE232.out | refine lS ?_ GE265.out) | exact HB.out)⟩
      · replace c16 := Bool.eq_false_iff.mpr c16
        subst c16
        have H1 : (none) = some r := by rw [if_neg (show ¬ (false = true) by decide)] at H; exact H
        clear H
        have H := H1
        clear H1
        exact absurd H (by simp)
    · rw [if_neg c13] at H
      exact absurd H (by simp)

end Go.Proofs.Ytlglildjehcogaa.QFnExactCountFires
