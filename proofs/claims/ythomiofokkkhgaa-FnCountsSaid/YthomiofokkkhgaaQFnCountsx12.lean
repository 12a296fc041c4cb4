-- Own work (wip/turnprint.py over the kit's print).
import Derived.Test.YthomiofokkkhgaaQFnCountsx0
import Derived.Test.YthomiofokkkhgaaQFnCountsx6
import Derived.Test.YthomiofokkkhgaaQFnCountsx7
import Derived.Test.YthomiofokkkhgaaQFnCountsx8
import Derived.Test.YthomiofokkkhgaaQFnCountsx9
import Derived.Test.YthomiofokkkhgaaQFnCountsx11
namespace Go.Proofs.Ythomiofokkkhgaa.QFnCounts
open Go.RowKit Go.Proofs.YthomiofokkkhgaaW.PrintWords Go.Proofs.YthomiofokkkhgaaW.PrintLast Go.Proofs.YthomiofokkkhgaaW.PrintMore
attribute [local go_sem] max2_int min2_int max_two min_two max_three min_three max_four min_four   -- for this text's walks alone
set_option linter.unusedVariables false
set_option linter.unusedSimpArgs false

/-! ### spec_CountFires: function 9 -/
mutual
def spec_CountFires.j0 : Nat → Int → Int → Int → Bool → List Int → List Int → List Int → List Int → List Int → Option (Int)
 | 0, _, _, _, _, _, _, _, _, _ => none
 | k + 1, x1, x2, x7, x29, x405000, x405001, x405002, x405003, x405004 => if x29 = true then (some 0) else (spec_CountFires.l0 k x2 x7 x1 x405000 x405001 x405002 x405003 x405004)
def spec_CountFires.l0 : Nat → Int → Int → Int → List Int → List Int → List Int → List Int → List Int → Option (Int)
 | 0, _, _, _, _, _, _, _, _ => none
 | k + 1, x2, x7, x8, x405000, x405001, x405002, x405003, x405004 => if x8 < x2 then ((spec_NextFire.f k x405000 x405001 x405002 x405003 x405004 x8 20).bind fun bt408 => (if bt408.2 = true then (if bt408.1 ≥ x2 then (some x7) else (spec_CountFires.l0 k x2 (wrap64 (x7 + 1)) (wrap64 (bt408.1 + 1)) x405000 x405001 x405002 x405003 x405004)) else (some x7))) else (some x7)
end
def spec_CountFires.f (k : Nat) (l0_0 : List Int) (l0_1 : List Int) (l0_2 : List Int) (l0_3 : List Int) (l0_4 : List Int) (a1 : Int) (a2 : Int) : Option (Int) := (spec_l01In.f a1 0 68374079).bind fun t405 => (if t405 = true then ((spec_l01In.f a2 0 68374079).bind fun t406 => (if t406 = true then (if (wrap64 (a2 - a1)) > 20000 then (spec_CountFires.j0 k a1 a2 0 true l0_0 l0_1 l0_2 l0_3 l0_4) else ((spec_CronOk.f k l0_0 l0_1 l0_2 l0_3 l0_4).bind fun t407 => (spec_CountFires.j0 k a1 a2 0 (!t407) l0_0 l0_1 l0_2 l0_3 l0_4))) else (spec_CountFires.j0 k a1 a2 0 true l0_0 l0_1 l0_2 l0_3 l0_4))) else (spec_CountFires.j0 k a1 a2 0 true l0_0 l0_1 l0_2 l0_3 l0_4))
theorem spec_CountFires.mono_l : ∀ k, (∀ y0 y1 y2 y3 y4 y5 y6 y7 y8, LeO (spec_CountFires.j0 k y0 y1 y2 y3 y4 y5 y6 y7 y8) (spec_CountFires.j0 (k + 1) y0 y1 y2 y3 y4 y5 y6 y7 y8)) ∧ (∀ y0 y1 y2 y3 y4 y5 y6 y7, LeO (spec_CountFires.l0 k y0 y1 y2 y3 y4 y5 y6 y7) (spec_CountFires.l0 (k + 1) y0 y1 y2 y3 y4 y5 y6 y7))
 | 0 => ⟨fun _ _ _ _ _ _ _ _ _ r h => by simp [spec_CountFires.j0] at h, fun _ _ _ _ _ _ _ _ r h => by simp [spec_CountFires.l0] at h⟩
 | k + 1 => by
  obtain ⟨ih0, ih1⟩ := spec_CountFires.mono_l k
  refine ⟨?_, ?_⟩
  ·intro y0 y1 y2 y3 y4 y5 y6 y7 y8
   unfold spec_CountFires.j0
   repeat' first
   | (with_reducible exact ih0 _ _ _ _ _ _ _ _ _)
   | (with_reducible exact ih1 _ _ _ _ _ _ _ _)
   | (with_reducible exact spec_CronOk.mono _ _ _ _ _ _)
   | (with_reducible exact spec_NextFire.mono _ _ _ _ _ _ _ _)
   | (with_reducible exact LeO.refl _)
   | (with_reducible exact LeO.none _)
   | (with_reducible refine LeO.ite ?_ ?_)
   | (with_reducible refine LeO.bind ?_ (fun _ => ?_))
   | exact ih0 _ _ _ _ _ _ _ _ _
   | exact ih1 _ _ _ _ _ _ _ _
   | exact spec_CronOk.mono _ _ _ _ _ _
   | exact spec_NextFire.mono _ _ _ _ _ _ _ _
   | exact LeO.none _
   | refine LeO.ite ?_ ?_
   | refine LeO.bind ?_ (fun _ => ?_)
  ·intro y0 y1 y2 y3 y4 y5 y6 y7
   unfold spec_CountFires.l0
   repeat' first
   | (with_reducible exact ih0 _ _ _ _ _ _ _ _ _)
   | (with_reducible exact ih1 _ _ _ _ _ _ _ _)
   | (with_reducible exact spec_CronOk.mono _ _ _ _ _ _)
   | (with_reducible exact spec_NextFire.mono _ _ _ _ _ _ _ _)
   | (with_reducible exact LeO.refl _)
   | (with_reducible exact LeO.none _)
   | (with_reducible refine LeO.ite ?_ ?_)
   | (with_reducible refine LeO.bind ?_ (fun _ => ?_))
   | exact ih0 _ _ _ _ _ _ _ _ _
   | exact ih1 _ _ _ _ _ _ _ _
   | exact spec_CronOk.mono _ _ _ _ _ _
   | exact spec_NextFire.mono _ _ _ _ _ _ _ _
   | exact LeO.none _
   | refine LeO.ite ?_ ?_
   | refine LeO.bind ?_ (fun _ => ?_)
theorem spec_CountFires.mono : ∀ a0 a1 a2 a3 a4 a5 a6 k, LeO (spec_CountFires.f k a0 a1 a2 a3 a4 a5 a6) (spec_CountFires.f (k + 1) a0 a1 a2 a3 a4 a5 a6) := by
 intro a0 a1 a2 a3 a4 a5 a6 k
 obtain ⟨ih0, ih1⟩ := spec_CountFires.mono_l k
 unfold spec_CountFires.f
 repeat' first
  | (with_reducible exact ih0 _ _ _ _ _ _ _ _ _)
  | (with_reducible exact ih1 _ _ _ _ _ _ _ _)
  | (with_reducible exact spec_CronOk.mono _ _ _ _ _ _)
  | (with_reducible exact spec_NextFire.mono _ _ _ _ _ _ _ _)
  | (with_reducible exact LeO.refl _)
  | (with_reducible exact LeO.none _)
  | (with_reducible refine LeO.ite ?_ ?_)
  | (with_reducible refine LeO.bind ?_ (fun _ => ?_))
  | exact ih0 _ _ _ _ _ _ _ _ _
  | exact ih1 _ _ _ _ _ _ _ _
  | exact spec_CronOk.mono _ _ _ _ _ _
  | exact spec_NextFire.mono _ _ _ _ _ _ _ _
  | exact LeO.none _
  | refine LeO.ite ?_ ?_
  | refine LeO.bind ?_ (fun _ => ?_)
set_option maxHeartbeats 8000000 in
set_option maxRecDepth 100000 in
theorem spec_CountFires.calls (k : Nat) (A0_0 : Option Addr) (c0_0 : Nat) (l0_0 : List Int) (A0_1 : Option Addr) (c0_1 : Nat) (l0_1 : List Int) (A0_2 : Option Addr) (c0_2 : Nat) (l0_2 : List Int) (A0_3 : Option Addr) (c0_3 : Nat) (l0_3 : List Int) (A0_4 : Option Addr) (c0_4 : Nat) (l0_4 : List Int) (a1 : Int) (a2 : Int) (r : Int) (w : World) (hr0_0 : Kd.C (Kd.int .i64) w A0_0 l0_0.length l0_0) (hc0_0 : l0_0.length ≤ c0_0) (hr0_1 : Kd.C (Kd.int .i64) w A0_1 l0_1.length l0_1) (hc0_1 : l0_1.length ≤ c0_1) (hr0_2 : Kd.C (Kd.int .i64) w A0_2 l0_2.length l0_2) (hc0_2 : l0_2.length ≤ c0_2) (hr0_3 : Kd.C (Kd.int .i64) w A0_3 l0_3.length l0_3) (hc0_3 : l0_3.length ≤ c0_3) (hr0_4 : Kd.C (Kd.int .i64) w A0_4 l0_4.length l0_4) (hc0_4 : l0_4.length ≤ c0_4) (h : spec_CountFires.f k l0_0 l0_1 l0_2 l0_3 l0_4 a1 a2 = some r) :
 Calls Try.prog 9 #[.agg #[.slice A0_0 l0_0.length c0_0, .slice A0_1 l0_1.length c0_1, .slice A0_2 l0_2.length c0_2, .slice A0_3 l0_3.length c0_3, .slice A0_4 l0_4.length c0_4], .int .i64 a1, .int .i64 a2] w fun e w' => e = .returned (.int .i64 r) ∧ Below w.heap.size w w' := by
 have hu26 := Try.underlying26
 have HR0_0 := aM hr0_0
 have HC0_0 := aM hc0_0
 clear hr0_0 hc0_0
 have HR0_1 := aM hr0_1
 have HC0_1 := aM hc0_1
 clear hr0_1 hc0_1
 have HR0_2 := aM hr0_2
 have HC0_2 := aM hc0_2
 clear hr0_2 hc0_2
 have HR0_3 := aM hr0_3
 have HC0_3 := aM hc0_3
 clear hr0_3 hc0_3
 have HR0_4 := aM hr0_4
 have HC0_4 := aM hc0_4
 clear hr0_4 hc0_4
 have HB := aM (Below.refl w.heap.size w)
 have H : ((spec_l01In.f a1 0 68374079).bind fun t405 => (if t405 = true then ((spec_l01In.f a2 0 68374079).bind fun t406 => (if t406 = true then (if (wrap64 (a2 - a1)) > 20000 then (spec_CountFires.j0 k a1 a2 0 true l0_0 l0_1 l0_2 l0_3 l0_4) else ((spec_CronOk.f k l0_0 l0_1 l0_2 l0_3 l0_4).bind fun t407 => (spec_CountFires.j0 k a1 a2 0 (!t407) l0_0 l0_1 l0_2 l0_3 l0_4))) else (spec_CountFires.j0 k a1 a2 0 true l0_0 l0_1 l0_2 l0_3 l0_4))) else (spec_CountFires.j0 k a1 a2 0 true l0_0 l0_1 l0_2 l0_3 l0_4))) = some r := h
 clear h
 have HC4 := aM H
 clear H
 go_enter Try.func9, Try.ntmps9
 go_upto_region 2 with (first | ((with_reducible refine gate_dst (N := 3) rfl ?_); refine bxE 3 #[.slice A0_0 l0_0.length c0_0, .slice A0_1 l0_1.length c0_1, .slice A0_2 l0_2.length c0_2, .slice A0_3 l0_3.length c0_3, .slice A0_4 l0_4.length c0_4] 26 ?_; intro gb404 hg w5 hbox hb; have BK404 := aM (hbox); have GW404 := szG hg (uL HB); have GE404 := szG hg (uL HB); replace HB := aM (below_step (uL HB) hb); clear hb hbox hg))
 (try simp only [Act.put, List.setIfInBounds_toArray, List.set_cons_zero, List.set_cons_succ])
 go_cut [29] (fun v29 wc => ∃ (kq : Nat) (x29_3 : Bool), v29 = .bool x29_3 ∧ Aside0 (spec_CountFires.j0 kq a1 a2 0 x29_3 l0_0 l0_1 l0_2 l0_3 l0_4 = some r) ∧ Aside0 (kq ≤ k) ∧ Aside0 (wc.heap[gb404]? = some (.cells #[(.slice A0_0 l0_0.length c0_0), (.slice A0_1 l0_1.length c0_1), (.slice A0_2 l0_2.length c0_2), (.slice A0_3 l0_3.length c0_3), (.slice A0_4 l0_4.length c0_4)] 26 (0, 0))) ∧ Aside0 (Below w.heap.size w wc))
 case first =>
  have H := HC4.out
  clear HC4
  replace H := Option.bind_eq_some_iff.mp H
  obtain ⟨t405, A60, H⟩ := H
  try dsimp only at H
  have A6 := aM A60
  clear A60
  refine Classical.byCases (p := t405 = true) (fun c7 => ?L1p) (fun c7 => ?L1n)
  case' L1p =>
   subst c7
   rw [if_pos rfl] at H
   replace H := Option.bind_eq_some_iff.mp H
   obtain ⟨t406, A80, H⟩ := H
   try dsimp only at H
   have A8 := aM A80
   clear A80
   refine Classical.byCases (p := t406 = true) (fun c9 => ?L2p) (fun c9 => ?L2n)
   case' L2p =>
    subst c9
    rw [if_pos rfl] at H
    refine Classical.byCases (p := (wrap64 (a2 - a1)) > 20000) (fun c10 => ?L3p) (fun c10 => ?L3n)
    case' L3p =>
     rw [if_pos c10] at H
     have c10b0 : decide (20000 < (wrap64 (a2 - a1))) = true := decide_eq_true c10
     clear c10
     (first | rw [c10b0] | (simp only [i64_w, i32_w]; rw [c10b0]) | skip)
     have H' := aM H
     clear H
    case' L3n =>
     rw [if_neg c10] at H
     have c10b0 : decide (20000 < (wrap64 (a2 - a1))) = false := decide_eq_false c10
     clear c10
     (first | rw [c10b0] | (simp only [i64_w, i32_w]; rw [c10b0]) | skip)
     replace H := Option.bind_eq_some_iff.mp H
     obtain ⟨t407, A110, H⟩ := H
     replace H : (spec_CountFires.j0 k a1 a2 0 (!t407) l0_0 l0_1 l0_2 l0_3 l0_4) = some r := H
     have A11 := aM A110
     clear A110
     have H' := aM H
     clear H
     go_wp2_with (first | ((with_reducible refine gate_callee (f := 20) rfl ?_); refine gL (some 12) Try.func20 #[.int .i64 a1, .int .i64 0, .int .i64 68374079] ?_; (with_reducible refine (spec_l01In.calls a1 0 68374079 true _ A6.out).mono ?_); rintro e w' ⟨rfl, ⟨nd, rfl⟩⟩; refine ⟨_, rfl, ?_⟩) | (go_at_call 20; (with_reducible refine (spec_l01In.calls a2 0 68374079 true _ A8.out).mono ?_); rintro e w' ⟨rfl, ⟨nd, rfl⟩⟩; have hcz12_0 := czA BK404.out 0 (.slice A0_0 l0_0.length c0_0); have hcz12_1 := czA BK404.out 1 (.slice A0_1 l0_1.length c0_1); have hcz12_2 := czA BK404.out 2 (.slice A0_2 l0_2.length c0_2); have hcz12_3 := czA BK404.out 3 (.slice A0_3 l0_3.length c0_3); have hcz12_4 := czA BK404.out 4 (.slice A0_4 l0_4.length c0_4); have hfz12_0 := blk_frozen BK404.out 0; have hfz12_1 := blk_frozen BK404.out 1; have hfz12_2 := blk_frozen BK404.out 2; have hfz12_3 := blk_frozen BK404.out 3; have hfz12_4 := blk_frozen BK404.out 4) | (go_at_call 21; (with_reducible refine (spec_CronOk.calls k _ _ l0_0 _ _ l0_1 _ _ l0_2 _ _ l0_3 _ _ l0_4 t407 _ ?side1 ?side2 ?side3 ?side4 ?side5 ?side6 ?side7 ?side8 ?side9 ?side10 A11.out).mono ?_); (case side1 => repeat (first | exact (Kd.C_below HR0_0.out (uL HB)) | (with_reducible refine cA ?_ _) | (with_reducible refine cN ?_ _) | (with_reducible refine cD ?_))); (case side2 => exact HC0_0.out); (case side3 => repeat (first | exact (Kd.C_below HR0_1.out (uL HB)) | (with_reducible refine cA ?_ _) | (with_reducible refine cN ?_ _) | (with_reducible refine cD ?_))); (case side4 => exact HC0_1.out); (case side5 => repeat (first | exact (Kd.C_below HR0_2.out (uL HB)) | (with_reducible refine cA ?_ _) | (with_reducible refine cN ?_ _) | (with_reducible refine cD ?_))); (case side6 => exact HC0_2.out); (case side7 => repeat (first | exact (Kd.C_below HR0_3.out (uL HB)) | (with_reducible refine cA ?_ _) | (with_reducible refine cN ?_ _) | (with_reducible refine cD ?_))); (case side8 => exact HC0_3.out); (case side9 => repeat (first | exact (Kd.C_below HR0_4.out (uL HB)) | (with_reducible refine cA ?_ _) | (with_reducible refine cN ?_ _) | (with_reducible refine cD ?_))); (case side10 => exact HC0_4.out); rintro e w13 ⟨rfl, hb⟩; replace BK404 := blkB BK404 hb; replace HB := aM (below_step (uL HB) hb); try clear hb))
     go_meet
     case rel => exact ⟨_, (!t407), (by first | rfl | (simp; done) | (simp [*]; done)), H', ⟨by first | omega | exact Nat.le_refl _⟩, ⟨by exact nB BK404.out⟩, ⟨uL HB⟩⟩
   case' L2n =>
    replace c9 := Bool.eq_false_iff.mpr c9
    subst c9
    have H1 : (spec_CountFires.j0 k a1 a2 0 true l0_0 l0_1 l0_2 l0_3 l0_4) = some r := by rw [if_neg (show ¬ (false = true) by decide)] at H; exact H
    clear H; have H := H1; clear H1
    have H' := aM H
    clear H
  case' L1n =>
   replace c7 := Bool.eq_false_iff.mpr c7
   subst c7
   have H1 : (spec_CountFires.j0 k a1 a2 0 true l0_0 l0_1 l0_2 l0_3 l0_4) = some r := by rw [if_neg (show ¬ (false = true) by decide)] at H; exact H
   clear H; have H := H1; clear H1
   have H' := aM H
   clear H
   go_wp2_with (first | ((with_reducible refine gate_callee (f := 20) rfl ?_); refine gL (some 12) Try.func20 #[.int .i64 a1, .int .i64 0, .int .i64 68374079] ?_; (with_reducible refine (spec_l01In.calls a1 0 68374079 false _ A6.out).mono ?_); rintro e w' ⟨rfl, ⟨nd, rfl⟩⟩; refine ⟨_, rfl, ?_⟩))
   go_meet
   case rel => exact ⟨_, (true), (by first | rfl | (simp; done) | (simp [*]; done)), H', ⟨by first | omega | exact Nat.le_refl _⟩, ⟨by exact nB BK404.out⟩, ⟨uL HB⟩⟩
  case L2p | L2n =>
   go_wp2_with (first | ((with_reducible refine gate_callee (f := 20) rfl ?_); refine gL (some 12) Try.func20 #[.int .i64 a1, .int .i64 0, .int .i64 68374079] ?_; (with_reducible refine (spec_l01In.calls a1 0 68374079 true _ A6.out).mono ?_); rintro e w' ⟨rfl, ⟨nd, rfl⟩⟩; refine ⟨_, rfl, ?_⟩) | (go_at_call 20; (with_reducible refine (spec_l01In.calls a2 0 68374079 _ _ A8.out).mono ?_); rintro e w' ⟨rfl, ⟨nd, rfl⟩⟩))
   go_meet
   case rel => exact ⟨_, (true), (by first | rfl | (simp; done) | (simp [*]; done)), H', ⟨by first | omega | exact Nat.le_refl _⟩, ⟨by exact nB BK404.out⟩, ⟨uL HB⟩⟩
 case rest =>
  clear HC4
  try clear c1; try clear c2; try clear p2; try clear p6; try clear c7; try clear c9; try clear c10; try clear c10b0; try clear hcz12_0; try clear hcz12_1; try clear hcz12_2; try clear hcz12_3; try clear hcz12_4; try clear hfz12_0; try clear hfz12_1; try clear hfz12_2; try clear hfz12_3; try clear hfz12_4
  obtain ⟨kq, x29_3, rfl, HA, HJ3, BK404, HB⟩ := hcut
  cases kq with
  | zero => exact absurd HA.out (by simp [spec_CountFires.j0])
  | succ kj3 =>
   have H := HA.out
   clear HA
   simp only [spec_CountFires.j0] at H
   by_cases c14 : x29_3 = true
   ·subst c14
    have H1 : (some 0) = some r := by rw [if_pos rfl] at H; exact H
    clear H; have H := H1; clear H1
    obtain rfl := Option.some.inj H
    go_wp2
    go_ret
    exact rX HB
   ·replace c14 := Bool.eq_false_iff.mpr c14
    subst c14
    have H1 : (spec_CountFires.l0 kj3 a2 0 a1 l0_0 l0_1 l0_2 l0_3 l0_4) = some r := by rw [if_neg (show ¬ (false = true) by decide)] at H; exact H
    clear H; have H := H1; clear H1
    have H' := aM H
    clear H
    go_wp2
    go_loopg [7, 8] kj3 (fun kq v7 v8 w' => ∃ (x7_2 : Int) (x8_2 : Int), v7 = .int .i64 x7_2 ∧ v8 = .int .i64 x8_2 ∧ Aside0 (spec_CountFires.l0 kq a2 x7_2 x8_2 l0_0 l0_1 l0_2 l0_3 l0_4 = some r) ∧ Aside0 (kq ≤ kj3) ∧ Aside0 (w'.heap[gb404]? = some (.cells #[(.slice A0_0 l0_0.length c0_0), (.slice A0_1 l0_1.length c0_1), (.slice A0_2 l0_2.length c0_2), (.slice A0_3 l0_3.length c0_3), (.slice A0_4 l0_4.length c0_4)] 26 (0, 0))) ∧ Aside0 (Below w.heap.size w w'))
    case atStart => exact ⟨(0), (a1), (by first | rfl | (simp; done) | (simp [*]; done)), (by first | rfl | (simp; done) | (simp [*]; done)), H', ⟨Nat.le_refl _⟩, ⟨by exact nB BK404.out⟩, ⟨uL HB⟩⟩
    case round =>
     clear H'
     try clear c1; try clear c2; try clear p2; try clear p6; try clear c7; try clear c9; try clear c10; try clear c10b0; try clear c14; try clear hcz12_0; try clear hcz12_1; try clear hcz12_2; try clear hcz12_3; try clear hcz12_4; try clear hfz12_0; try clear hfz12_1; try clear hfz12_2; try clear hfz12_3; try clear hfz12_4; try clear p2; try clear p6
     obtain ⟨x7_2, x8_2, rfl, rfl, HA, HK2, BK404, HB⟩ := hrel
     cases gk with
     | zero => exact absurd HA.out (by simp [spec_CountFires.l0])
     | succ k2 =>
      have H := HA.out
      clear HA
      simp only [spec_CountFires.l0] at H
      refine Classical.byCases (p := x8_2 < a2) (fun c15 => ?L4p) (fun c15 => ?L4n)
      case' L4p =>
       rw [if_pos c15] at H
       have c15b0 : decide (x8_2 < a2) = true := decide_eq_true c15
       clear c15
       replace H := Option.bind_eq_some_iff.mp H
       obtain ⟨⟨t408, t409⟩, A160, H⟩ := H
       try dsimp only at H
       have A16 := aM A160
       clear A160
       refine Classical.byCases (p := t409 = true) (fun c17 => ?L5p) (fun c17 => ?L5n)
       case' L5p =>
        subst c17
        rw [if_pos rfl] at H
        refine Classical.byCases (p := t408 ≥ a2) (fun c18 => ?L6p) (fun c18 => ?L6n)
        case' L6p =>
         rw [if_pos c18] at H
         have c18b0 : decide (a2 ≤ t408) = true := decide_eq_true c18
         clear c18
         obtain rfl := Option.some.inj H
         have hcz19_0 := czA BK404.out 0 (.slice A0_0 l0_0.length c0_0)
         have hcz19_1 := czA BK404.out 1 (.slice A0_1 l0_1.length c0_1)
         have hcz19_2 := czA BK404.out 2 (.slice A0_2 l0_2.length c0_2)
         have hcz19_3 := czA BK404.out 3 (.slice A0_3 l0_3.length c0_3)
         have hcz19_4 := czA BK404.out 4 (.slice A0_4 l0_4.length c0_4)
         have hfz19_0 := blk_frozen BK404.out 0; have hfz19_1 := blk_frozen BK404.out 1; have hfz19_2 := blk_frozen BK404.out 2; have hfz19_3 := blk_frozen BK404.out 3; have hfz19_4 := blk_frozen BK404.out 4
        case' L6n =>
         rw [if_neg c18] at H
         have c18b0 : decide (a2 ≤ t408) = false := decide_eq_false c18
         clear c18
         have H' := aM H
         clear H
         have hcz21_0 := czA BK404.out 0 (.slice A0_0 l0_0.length c0_0)
         have hcz21_1 := czA BK404.out 1 (.slice A0_1 l0_1.length c0_1)
         have hcz21_2 := czA BK404.out 2 (.slice A0_2 l0_2.length c0_2)
         have hcz21_3 := czA BK404.out 3 (.slice A0_3 l0_3.length c0_3)
         have hcz21_4 := czA BK404.out 4 (.slice A0_4 l0_4.length c0_4)
         have hfz21_0 := blk_frozen BK404.out 0; have hfz21_1 := blk_frozen BK404.out 1; have hfz21_2 := blk_frozen BK404.out 2; have hfz21_3 := blk_frozen BK404.out 3; have hfz21_4 := blk_frozen BK404.out 4
         go_wp2_with (first | ((with_reducible refine gate_callee (f := 22) rfl ?_); refine gL (some 37) Try.func22 #[.agg #[.slice A0_0 l0_0.length c0_0, .slice A0_1 l0_1.length c0_1, .slice A0_2 l0_2.length c0_2, .slice A0_3 l0_3.length c0_3, .slice A0_4 l0_4.length c0_4], .int .i64 x8_2, .int .i64 20] ?_; (with_reducible refine (spec_NextFire.calls k2 _ _ l0_0 _ _ l0_1 _ _ l0_2 _ _ l0_3 _ _ l0_4 x8_2 20 t408 true _ ?side1 ?side2 ?side3 ?side4 ?side5 ?side6 ?side7 ?side8 ?side9 ?side10 A16.out).mono ?_); (case side1 => exact uC HR0_0 HB); (case side2 => exact HC0_0.out); (case side3 => exact uC HR0_1 HB); (case side4 => exact HC0_1.out); (case side5 => exact uC HR0_2 HB); (case side6 => exact HC0_2.out); (case side7 => exact uC HR0_3 HB); (case side8 => exact HC0_3.out); (case side9 => exact uC HR0_4 HB); (case side10 => exact HC0_4.out); rintro e w22 ⟨rfl, hb⟩; refine ⟨_, rfl, ?_⟩; replace BK404 := blkB BK404 hb; replace HB := aM (below_step (uL HB) hb); try clear hb))
         go_roundg k2
         case measure => have := HJ3.out; have := HK2.out; omega
         case rel => exact ⟨(wrap64 (x7_2 + 1)), (wrap64 (t408 + 1)), (by first | rfl | (simp; done) | (simp [*]; done)), (by first | rfl | (simp; done) | (simp [*]; done)), H', ⟨by have := HJ3.out; have := HK2.out; omega⟩, ⟨by exact nB BK404.out⟩, ⟨uL HB⟩⟩
       case' L5n =>
        replace c17 := Bool.eq_false_iff.mpr c17
        subst c17
        have H1 : (some x7_2) = some r := by rw [if_neg (show ¬ (false = true) by decide)] at H; exact H
        clear H; have H := H1; clear H1
        obtain rfl := Option.some.inj H
        have hcz23_0 := czA BK404.out 0 (.slice A0_0 l0_0.length c0_0)
        have hcz23_1 := czA BK404.out 1 (.slice A0_1 l0_1.length c0_1)
        have hcz23_2 := czA BK404.out 2 (.slice A0_2 l0_2.length c0_2)
        have hcz23_3 := czA BK404.out 3 (.slice A0_3 l0_3.length c0_3)
        have hcz23_4 := czA BK404.out 4 (.slice A0_4 l0_4.length c0_4)
        have hfz23_0 := blk_frozen BK404.out 0; have hfz23_1 := blk_frozen BK404.out 1; have hfz23_2 := blk_frozen BK404.out 2; have hfz23_3 := blk_frozen BK404.out 3; have hfz23_4 := blk_frozen BK404.out 4
      case' L4n =>
       rw [if_neg c15] at H
       have c15b0 : decide (x8_2 < a2) = false := decide_eq_false c15
       clear c15
       obtain rfl := Option.some.inj H
       go_wp2
       go_ret
       exact rX HB
      case L5p | L5n =>
       go_wp2_with (first | ((with_reducible refine gate_callee (f := 22) rfl ?_); refine gL (some 37) Try.func22 #[.agg #[.slice A0_0 l0_0.length c0_0, .slice A0_1 l0_1.length c0_1, .slice A0_2 l0_2.length c0_2, .slice A0_3 l0_3.length c0_3, .slice A0_4 l0_4.length c0_4], .int .i64 x8_2, .int .i64 20] ?_; (with_reducible refine (spec_NextFire.calls k2 _ _ l0_0 _ _ l0_1 _ _ l0_2 _ _ l0_3 _ _ l0_4 x8_2 20 t408 _ _ ?side1 ?side2 ?side3 ?side4 ?side5 ?side6 ?side7 ?side8 ?side9 ?side10 A16.out).mono ?_); (case side1 => exact uC HR0_0 HB); (case side2 => exact HC0_0.out); (case side3 => exact uC HR0_1 HB); (case side4 => exact HC0_1.out); (case side5 => exact uC HR0_2 HB); (case side6 => exact HC0_2.out); (case side7 => exact uC HR0_3 HB); (case side8 => exact HC0_3.out); (case side9 => exact uC HR0_4 HB); (case side10 => exact HC0_4.out); rintro e w20 ⟨rfl, hb⟩; refine ⟨_, rfl, ?_⟩; replace BK404 := blkB BK404 hb; replace HB := aM (below_step (uL HB) hb); try clear hb))
       go_ret
       exact rX HB

/-! ### impl_Fires: function 10 -/
def impl_Fires.j0 : Nat → Int → Bool → List Int → List Int → List Int → List Int → List Int → Int → Int → Int → Int → Int → Option (Bool)
 | 0, _, _, _, _, _, _, _, _, _, _, _, _ => none
 | k + 1, x1, x18, x411000, x411001, x411002, x411003, x411004, x418000, x418001, x418002, x418003, x418004 => if x18 = true then (some false) else ((impl_dayFires.f k x411000 x411001 x411002 x411003 x411004 x1 x418000 x418001 x418002 x418003 x418004).bind fun t419 => (if t419 = true then ((slices_Contains_int_int.f k x411001 x418003).bind fun t420 => (if t420 = true then ((slices_Contains_int_int.f k x411000 x418004).bind fun t421 => (some t421)) else (some false))) else (some false)))
def impl_Fires.f (k : Nat) (l0_0 : List Int) (l0_1 : List Int) (l0_2 : List Int) (l0_3 : List Int) (l0_4 : List Int) (a1 : Int) : Option (Bool) := (impl_CivilOf.f k a1).bind fun bt411 => (if bt411.2.2.2.2.2 = true then ((impl_CronOk.f l0_0 l0_1 l0_2 l0_3 l0_4).bind fun t418 => (impl_Fires.j0 k a1 (!t418) l0_0 l0_1 l0_2 l0_3 l0_4 bt411.1 bt411.2.1 bt411.2.2.1 bt411.2.2.2.1 bt411.2.2.2.2.1)) else (impl_Fires.j0 k a1 true l0_0 l0_1 l0_2 l0_3 l0_4 bt411.1 bt411.2.1 bt411.2.2.1 bt411.2.2.2.1 bt411.2.2.2.2.1))
theorem impl_Fires.mono_l : ∀ k, (∀ y0 y1 y2 y3 y4 y5 y6 y7 y8 y9 y10 y11, LeO (impl_Fires.j0 k y0 y1 y2 y3 y4 y5 y6 y7 y8 y9 y10 y11) (impl_Fires.j0 (k + 1) y0 y1 y2 y3 y4 y5 y6 y7 y8 y9 y10 y11))
 | 0 => fun _ _ _ _ _ _ _ _ _ _ _ _ r h => by simp [impl_Fires.j0] at h
 | k + 1 => by
  have ih0 := impl_Fires.mono_l k
  ·intro y0 y1 y2 y3 y4 y5 y6 y7 y8 y9 y10 y11
   unfold impl_Fires.j0
   repeat' first
   | (with_reducible exact ih0 _ _ _ _ _ _ _ _ _ _ _ _)
   | (with_reducible exact impl_CivilOf.mono _ _)
   | (with_reducible exact impl_dayFires.mono _ _ _ _ _ _ _ _ _ _ _ _)
   | (with_reducible exact slices_Contains_int_int.mono _ _ _)
   | (with_reducible exact LeO.refl _)
   | (with_reducible exact LeO.none _)
   | (with_reducible refine LeO.ite ?_ ?_)
   | (with_reducible refine LeO.bind ?_ (fun _ => ?_))
   | exact ih0 _ _ _ _ _ _ _ _ _ _ _ _
   | exact impl_CivilOf.mono _ _
   | exact impl_dayFires.mono _ _ _ _ _ _ _ _ _ _ _ _
   | exact slices_Contains_int_int.mono _ _ _
   | exact LeO.none _
   | refine LeO.ite ?_ ?_
   | refine LeO.bind ?_ (fun _ => ?_)
theorem impl_Fires.mono : ∀ a0 a1 a2 a3 a4 a5 k, LeO (impl_Fires.f k a0 a1 a2 a3 a4 a5) (impl_Fires.f (k + 1) a0 a1 a2 a3 a4 a5) := by
 intro a0 a1 a2 a3 a4 a5 k
 have ih0 := impl_Fires.mono_l k
 unfold impl_Fires.f
 repeat' first
  | (with_reducible exact ih0 _ _ _ _ _ _ _ _ _ _ _ _)
  | (with_reducible exact impl_CivilOf.mono _ _)
  | (with_reducible exact impl_dayFires.mono _ _ _ _ _ _ _ _ _ _ _ _)
  | (with_reducible exact slices_Contains_int_int.mono _ _ _)
  | (with_reducible exact LeO.refl _)
  | (with_reducible exact LeO.none _)
  | (with_reducible refine LeO.ite ?_ ?_)
  | (with_reducible refine LeO.bind ?_ (fun _ => ?_))
  | exact ih0 _ _ _ _ _ _ _ _ _ _ _ _
  | exact impl_CivilOf.mono _ _
  | exact impl_dayFires.mono _ _ _ _ _ _ _ _ _ _ _ _
  | exact slices_Contains_int_int.mono _ _ _
  | exact LeO.none _
  | refine LeO.ite ?_ ?_
  | refine LeO.bind ?_ (fun _ => ?_)
set_option maxHeartbeats 8000000 in
set_option maxRecDepth 100000 in
theorem impl_Fires.calls (k : Nat) (A0_0 : Option Addr) (c0_0 : Nat) (l0_0 : List Int) (A0_1 : Option Addr) (c0_1 : Nat) (l0_1 : List Int) (A0_2 : Option Addr) (c0_2 : Nat) (l0_2 : List Int) (A0_3 : Option Addr) (c0_3 : Nat) (l0_3 : List Int) (A0_4 : Option Addr) (c0_4 : Nat) (l0_4 : List Int) (a1 : Int) (r : Bool) (w : World) (hr0_0 : Kd.C (Kd.int .i64) w A0_0 l0_0.length l0_0) (hc0_0 : l0_0.length ≤ c0_0) (hr0_1 : Kd.C (Kd.int .i64) w A0_1 l0_1.length l0_1) (hc0_1 : l0_1.length ≤ c0_1) (hr0_2 : Kd.C (Kd.int .i64) w A0_2 l0_2.length l0_2) (hc0_2 : l0_2.length ≤ c0_2) (hr0_3 : Kd.C (Kd.int .i64) w A0_3 l0_3.length l0_3) (hc0_3 : l0_3.length ≤ c0_3) (hr0_4 : Kd.C (Kd.int .i64) w A0_4 l0_4.length l0_4) (hc0_4 : l0_4.length ≤ c0_4) (h : impl_Fires.f k l0_0 l0_1 l0_2 l0_3 l0_4 a1 = some r) :
 Calls Try.prog 10 #[.agg #[.slice A0_0 l0_0.length c0_0, .slice A0_1 l0_1.length c0_1, .slice A0_2 l0_2.length c0_2, .slice A0_3 l0_3.length c0_3, .slice A0_4 l0_4.length c0_4], .int .i64 a1] w fun e w' => e = .returned (.bool r) ∧ Below w.heap.size w w' := by
 have hu26 := Try.underlying26
 have hu51 := Try.underlying51
 have HR0_0 := aM hr0_0
 have HC0_0 := aM hc0_0
 clear hr0_0 hc0_0
 have HR0_1 := aM hr0_1
 have HC0_1 := aM hc0_1
 clear hr0_1 hc0_1
 have HR0_2 := aM hr0_2
 have HC0_2 := aM hc0_2
 clear hr0_2 hc0_2
 have HR0_3 := aM hr0_3
 have HC0_3 := aM hc0_3
 clear hr0_3 hc0_3
 have HR0_4 := aM hr0_4
 have HC0_4 := aM hc0_4
 clear hr0_4 hc0_4
 have HB := aM (Below.refl w.heap.size w)
 have H : ((impl_CivilOf.f k a1).bind fun bt411 => (if bt411.2.2.2.2.2 = true then ((impl_CronOk.f l0_0 l0_1 l0_2 l0_3 l0_4).bind fun t418 => (impl_Fires.j0 k a1 (!t418) l0_0 l0_1 l0_2 l0_3 l0_4 bt411.1 bt411.2.1 bt411.2.2.1 bt411.2.2.2.1 bt411.2.2.2.2.1)) else (impl_Fires.j0 k a1 true l0_0 l0_1 l0_2 l0_3 l0_4 bt411.1 bt411.2.1 bt411.2.2.1 bt411.2.2.2.1 bt411.2.2.2.2.1))) = some r := h
 clear h
 replace H := Option.bind_eq_some_iff.mp H
 obtain ⟨⟨t411, t412, t413, t414, t415, t416⟩, A30, H⟩ := H
 try dsimp only at H
 have A3 := aM A30
 clear A30
 have HC4 := aM H
 clear H
 go_enter Try.func10, Try.ntmps10
 go_upto_region 2 with (first | ((with_reducible refine gate_dst (N := 2) rfl ?_); refine bxE 2 #[.slice A0_0 l0_0.length c0_0, .slice A0_1 l0_1.length c0_1, .slice A0_2 l0_2.length c0_2, .slice A0_3 l0_3.length c0_3, .slice A0_4 l0_4.length c0_4] 26 ?_; intro gb410 hg w5 hbox hb; have BK410 := aM (hbox); have GW410 := szG hg (uL HB); have GE410 := szG hg (uL HB); replace HB := aM (below_step (uL HB) hb); clear hb hbox hg) | ((with_reducible refine gate_callee (f := 23) rfl ?_); refine gL (some 9) Try.func23 #[.int .i64 a1] ?_; (with_reducible refine (impl_CivilOf.calls k a1 t411 t412 t413 t414 t415 t416 _ A3.out).mono ?_); rintro e w6 ⟨rfl, hb⟩; refine ⟨_, rfl, ?_⟩; replace BK410 := blkB BK410 hb; replace HB := aM (below_step (uL HB) hb); try clear hb) | ((with_reducible refine gate_dst (N := 5) rfl ?_); refine bxE 5 #[.int .i64 0, .int .i64 0, .int .i64 0, .int .i64 0, .int .i64 0] 51 ?_; intro gb417 hg w7 hbox hb; have BK417 := aM (hbox); have GW417 := szG hg (uL HB); have GE417 := szG hg (uL HB); have NB410_417 := neL hg BK410; have NB417_410 := neG hg BK410; replace BK410 := blkB BK410 hb; replace HB := aM (below_step (uL HB) hb); clear hb hbox hg; have hnb8 := NB417_410.out; have hnc8 := NB410_417.out; have hcz9_0 := czA BK417.out 0 (.int .i64 0); have hcz9_1 := czA BK417.out 1 (.int .i64 0); have hcz9_2 := czA BK417.out 2 (.int .i64 0); have hcz9_3 := czA BK417.out 3 (.int .i64 0); have hcz9_4 := czA BK417.out 4 (.int .i64 0); have hfz9_0 := blk_frozen BK417.out 0; have hfz9_1 := blk_frozen BK417.out 1; have hfz9_2 := blk_frozen BK417.out 2; have hfz9_3 := blk_frozen BK417.out 3; have hfz9_4 := blk_frozen BK417.out 4))
 (try simp only [Act.put, List.setIfInBounds_toArray, List.set_cons_zero, List.set_cons_succ])
 go_cut [18] (fun v18 wc => ∃ (kq : Nat) (x18_3 : Bool), v18 = .bool x18_3 ∧ Aside0 (impl_Fires.j0 kq a1 x18_3 l0_0 l0_1 l0_2 l0_3 l0_4 t411 t412 t413 t414 t415 = some r) ∧ Aside0 (kq ≤ k) ∧ Aside0 (wc.heap[gb410]? = some (.cells #[(.slice A0_0 l0_0.length c0_0), (.slice A0_1 l0_1.length c0_1), (.slice A0_2 l0_2.length c0_2), (.slice A0_3 l0_3.length c0_3), (.slice A0_4 l0_4.length c0_4)] 26 (0, 0))) ∧ Aside0 (wc.heap[gb417]? = some (.cells #[.int .i64 t411, .int .i64 t412, .int .i64 t413, .int .i64 t414, .int .i64 t415] 51 (0, 0))) ∧ Aside0 (Below w.heap.size w wc))
 case first =>
  have H := HC4.out
  clear HC4
  by_cases c10 : t416 = true
  ·subst c10
   rw [if_pos rfl] at H
   replace H := Option.bind_eq_some_iff.mp H
   obtain ⟨t418, A110, H⟩ := H
   replace H : (impl_Fires.j0 k a1 (!t418) l0_0 l0_1 l0_2 l0_3 l0_4 t411 t412 t413 t414 t415) = some r := H
   have A11 := aM A110
   clear A110
   have H' := aM H
   clear H
   have hnb12 := NB410_417.out; have hnc12 := NB417_410.out
   have hcz13_0 := czA BK410.out 0 (.slice A0_0 l0_0.length c0_0)
   have hcz13_1 := czA BK410.out 1 (.slice A0_1 l0_1.length c0_1)
   have hcz13_2 := czA BK410.out 2 (.slice A0_2 l0_2.length c0_2)
   have hcz13_3 := czA BK410.out 3 (.slice A0_3 l0_3.length c0_3)
   have hcz13_4 := czA BK410.out 4 (.slice A0_4 l0_4.length c0_4)
   have hfz13_0 := blk_frozen BK410.out 0; have hfz13_1 := blk_frozen BK410.out 1; have hfz13_2 := blk_frozen BK410.out 2; have hfz13_3 := blk_frozen BK410.out 3; have hfz13_4 := blk_frozen BK410.out 4
   go_wp2_with (first | (go_at_call 18; (with_reducible refine (impl_CronOk.calls _ _ l0_0 _ _ l0_1 _ _ l0_2 _ _ l0_3 _ _ l0_4 t418 _ ?side1 ?side2 ?side3 ?side4 ?side5 ?side6 ?side7 ?side8 ?side9 ?side10 A11.out).mono ?_); (case side1 => exact Kd.C_below HR0_0.out (uL HB)); (case side2 => exact HC0_0.out); (case side3 => exact Kd.C_below HR0_1.out (uL HB)); (case side4 => exact HC0_1.out); (case side5 => exact Kd.C_below HR0_2.out (uL HB)); (case side6 => exact HC0_2.out); (case side7 => exact Kd.C_below HR0_3.out (uL HB)); (case side8 => exact HC0_3.out); (case side9 => exact Kd.C_below HR0_4.out (uL HB)); (case side10 => exact HC0_4.out); rintro e w14 ⟨rfl, hb⟩; replace BK410 := blkB BK410 hb; replace BK417 := aM (blk_below (g := gb417) (o := .cells #[.int .i64 t411, .int .i64 t412, .int .i64 t413, .int .i64 t414, .int .i64 t415] 51 (0, 0)) (by refine nB ?_; refine blk_put (cs := #[.int .i64 t411, .int .i64 t412, .int .i64 t413, .int .i64 t414, .int .i64 0]) ?_ 4 _ rfl; refine nB ?_; refine blk_put (cs := #[.int .i64 t411, .int .i64 t412, .int .i64 t413, .int .i64 0, .int .i64 0]) ?_ 3 _ rfl; refine nB ?_; refine blk_put (cs := #[.int .i64 t411, .int .i64 t412, .int .i64 0, .int .i64 0, .int .i64 0]) ?_ 2 _ rfl; refine nB ?_; refine blk_put (cs := #[.int .i64 t411, .int .i64 0, .int .i64 0, .int .i64 0, .int .i64 0]) ?_ 1 _ rfl; refine nB ?_; refine blk_put (cs := #[.int .i64 0, .int .i64 0, .int .i64 0, .int .i64 0, .int .i64 0]) ?_ 0 _ rfl; exact nB BK417.out) hb); replace HB := aM (below_step (uL HB) hb); try clear hb))
   go_meet
   case rel => exact ⟨_, (!t418), (by first | rfl | (simp; done) | (simp [*]; done)), H', ⟨by first | omega | exact Nat.le_refl _⟩, ⟨by exact nB BK410.out⟩, ⟨by exact nB BK417.out⟩, ⟨uL HB⟩⟩
  ·replace c10 := Bool.eq_false_iff.mpr c10
   subst c10
   have H1 : (impl_Fires.j0 k a1 true l0_0 l0_1 l0_2 l0_3 l0_4 t411 t412 t413 t414 t415) = some r := by rw [if_neg (show ¬ (false = true) by decide)] at H; exact H
   clear H; have H := H1; clear H1
   have H' := aM H
   clear H
   go_wp2
   go_meet
   case rel => exact ⟨_, (true), (by first | rfl | (simp; done) | (simp [*]; done)), H', ⟨by first | omega | exact Nat.le_refl _⟩, ⟨by refine nB ?_; refine blk_far ?_ NB410_417.out _; refine nB ?_; refine blk_far ?_ NB410_417.out _; refine nB ?_; refine blk_far ?_ NB410_417.out _; refine nB ?_; refine blk_far ?_ NB410_417.out _; refine nB ?_; refine blk_far ?_ NB410_417.out _; exact nB BK410.out⟩, ⟨by refine nB ?_; refine blk_put (cs := #[.int .i64 t411, .int .i64 t412, .int .i64 t413, .int .i64 t414, .int .i64 0]) ?_ 4 _ rfl; refine nB ?_; refine blk_put (cs := #[.int .i64 t411, .int .i64 t412, .int .i64 t413, .int .i64 0, .int .i64 0]) ?_ 3 _ rfl; refine nB ?_; refine blk_put (cs := #[.int .i64 t411, .int .i64 t412, .int .i64 0, .int .i64 0, .int .i64 0]) ?_ 2 _ rfl; refine nB ?_; refine blk_put (cs := #[.int .i64 t411, .int .i64 0, .int .i64 0, .int .i64 0, .int .i64 0]) ?_ 1 _ rfl; refine nB ?_; refine blk_put (cs := #[.int .i64 0, .int .i64 0, .int .i64 0, .int .i64 0, .int .i64 0]) ?_ 0 _ rfl; exact nB BK417.out⟩, ⟨uL HB⟩⟩
 case rest =>
  clear HC4
  try clear c1; try clear c2; try clear p2; try clear c8; try clear c10; try clear c12; try clear hcz13_0; try clear hcz13_1; try clear hcz13_2; try clear hcz13_3; try clear hcz13_4; try clear hcz9_0; try clear hcz9_1; try clear hcz9_2; try clear hcz9_3; try clear hcz9_4; try clear hfz13_0; try clear hfz13_1; try clear hfz13_2; try clear hfz13_3; try clear hfz13_4; try clear hfz9_0; try clear hfz9_1; try clear hfz9_2; try clear hfz9_3; try clear hfz9_4
  obtain ⟨kq, x18_3, rfl, HA, HJ3, BK410, BK417, HB⟩ := hcut
  cases kq with
  | zero => exact absurd HA.out (by simp [impl_Fires.j0])
  | succ kj3 =>
   have H := HA.out
   clear HA
   simp only [impl_Fires.j0] at H
   by_cases c15 : x18_3 = true
   ·subst c15
    have H1 : (some false) = some r := by rw [if_pos rfl] at H; exact H
    clear H; have H := H1; clear H1
    obtain rfl := Option.some.inj H
    go_wp2
    go_ret
    exact rX HB
   ·replace c15 := Bool.eq_false_iff.mpr c15
    subst c15
    rw [if_neg (show ¬ (false = true) by decide)] at H
    replace H := Option.bind_eq_some_iff.mp H
    obtain ⟨t419, A160, H⟩ := H
    try dsimp only at H
    have A16 := aM A160
    clear A160
    by_cases c17 : t419 = true
    ·subst c17
     rw [if_pos rfl] at H
     replace H := Option.bind_eq_some_iff.mp H
     obtain ⟨t420, A180, H⟩ := H
     replace H : (if t420 = true then ((slices_Contains_int_int.f kj3 l0_0 t415).bind fun t421 => (some t421)) else (some false)) = some r := H
     have A18 := aM A180
     clear A180
     by_cases c19 : t420 = true
     ·subst c19
      have H1 : ((slices_Contains_int_int.f kj3 l0_0 t415).bind fun t421 => (some t421)) = some r := by rw [if_pos rfl] at H; exact H
      clear H; have H := H1; clear H1
      replace H := Option.bind_eq_some_iff.mp H
      obtain ⟨t421, A200, H⟩ := H
      replace H : (some t421) = some r := H
      have A20 := aM A200
      clear A200
      obtain rfl := Option.some.inj H
      have hnb21 := NB410_417.out; have hnc21 := NB417_410.out
      have hcz22_0 := czA BK410.out 0 (.slice A0_0 l0_0.length c0_0)
      have hcz22_1 := czA BK410.out 1 (.slice A0_1 l0_1.length c0_1)
      have hcz22_2 := czA BK410.out 2 (.slice A0_2 l0_2.length c0_2)
      have hcz22_3 := czA BK410.out 3 (.slice A0_3 l0_3.length c0_3)
      have hcz22_4 := czA BK410.out 4 (.slice A0_4 l0_4.length c0_4)
      have hfz22_0 := blk_frozen BK410.out 0; have hfz22_1 := blk_frozen BK410.out 1; have hfz22_2 := blk_frozen BK410.out 2; have hfz22_3 := blk_frozen BK410.out 3; have hfz22_4 := blk_frozen BK410.out 4
      have hcz23_0 := czA BK417.out 0 (.int .i64 t411)
      have hcz23_1 := czA BK417.out 1 (.int .i64 t412)
      have hcz23_2 := czA BK417.out 2 (.int .i64 t413)
      have hcz23_3 := czA BK417.out 3 (.int .i64 t414)
      have hcz23_4 := czA BK417.out 4 (.int .i64 t415)
      have hfz23_0 := blk_frozen BK417.out 0; have hfz23_1 := blk_frozen BK417.out 1; have hfz23_2 := blk_frozen BK417.out 2; have hfz23_3 := blk_frozen BK417.out 3; have hfz23_4 := blk_frozen BK417.out 4
      go_wp2_with (first | ((with_reducible refine gate_callee (f := 24) rfl ?_); refine gL (some 22) Try.func24 #[.agg #[.slice A0_0 l0_0.length c0_0, .slice A0_1 l0_1.length c0_1, .slice A0_2 l0_2.length c0_2, .slice A0_3 l0_3.length c0_3, .slice A0_4 l0_4.length c0_4], .int .i64 a1, .agg #[.int .i64 t411, .int .i64 t412, .int .i64 t413, .int .i64 t414, .int .i64 t415]] ?_; (with_reducible refine (impl_dayFires.calls kj3 _ _ l0_0 _ _ l0_1 _ _ l0_2 _ _ l0_3 _ _ l0_4 a1 t411 t412 t413 t414 t415 true _ ?side1 ?side2 ?side3 ?side4 ?side5 ?side6 ?side7 ?side8 ?side9 ?side10 A16.out).mono ?_); (case side1 => exact uC HR0_0 HB); (case side2 => exact HC0_0.out); (case side3 => exact uC HR0_1 HB); (case side4 => exact HC0_1.out); (case side5 => exact uC HR0_2 HB); (case side6 => exact HC0_2.out); (case side7 => exact uC HR0_3 HB); (case side8 => exact HC0_3.out); (case side9 => exact uC HR0_4 HB); (case side10 => exact HC0_4.out); rintro e w24 ⟨rfl, hb⟩; refine ⟨_, rfl, ?_⟩; replace BK410 := blkB BK410 hb; replace BK417 := blkB BK417 hb; replace HB := aM (below_step (uL HB) hb); try clear hb; have hcz25_0 := czA BK410.out 0 (.slice A0_0 l0_0.length c0_0); have hcz25_1 := czA BK410.out 1 (.slice A0_1 l0_1.length c0_1); have hcz25_2 := czA BK410.out 2 (.slice A0_2 l0_2.length c0_2); have hcz25_3 := czA BK410.out 3 (.slice A0_3 l0_3.length c0_3); have hcz25_4 := czA BK410.out 4 (.slice A0_4 l0_4.length c0_4); have hfz25_0 := blk_frozen BK410.out 0; have hfz25_1 := blk_frozen BK410.out 1; have hfz25_2 := blk_frozen BK410.out 2; have hfz25_3 := blk_frozen BK410.out 3; have hfz25_4 := blk_frozen BK410.out 4; have hcz26_0 := czA BK417.out 0 (.int .i64 t411); have hcz26_1 := czA BK417.out 1 (.int .i64 t412); have hcz26_2 := czA BK417.out 2 (.int .i64 t413); have hcz26_3 := czA BK417.out 3 (.int .i64 t414); have hcz26_4 := czA BK417.out 4 (.int .i64 t415); have hfz26_0 := blk_frozen BK417.out 0; have hfz26_1 := blk_frozen BK417.out 1; have hfz26_2 := blk_frozen BK417.out 2; have hfz26_3 := blk_frozen BK417.out 3; have hfz26_4 := blk_frozen BK417.out 4) | (go_at_call 25; (with_reducible refine (slices_Contains_int_int.calls kj3 _ _ l0_1 t414 true _ ?side1 ?side2 A18.out).mono ?_); (case side1 => exact uC HR0_1 HB); (case side2 => exact HC0_1.out); rintro e w' ⟨rfl, ⟨nd, rfl⟩⟩) | (go_at_call 25; (with_reducible refine (slices_Contains_int_int.calls kj3 _ _ l0_0 t415 t421 _ ?side1 ?side2 A20.out).mono ?_); (case side1 => repeat (first | exact (Kd.C_below HR0_0.out (uL HB)) | (with_reducible refine cA ?_ _) | (with_reducible refine cN ?_ _) | (with_reducible refine cD ?_))); (case side2 => exact HC0_0.out); rintro e w' ⟨rfl, ⟨nd, rfl⟩⟩))
      go_ret
      exact rX HB
     ·replace c19 := Bool.eq_false_iff.mpr c19
      subst c19
      have H1 : (some false) = some r := by rw [if_neg (show ¬ (false = true) by decide)] at H; exact H
      clear H; have H := H1; clear H1
      obtain rfl := Option.some.inj H
      have hnb27 := NB410_417.out; have hnc27 := NB417_410.out
      have hcz28_0 := czA BK410.out 0 (.slice A0_0 l0_0.length c0_0)
      have hcz28_1 := czA BK410.out 1 (.slice A0_1 l0_1.length c0_1)
      have hcz28_2 := czA BK410.out 2 (.slice A0_2 l0_2.length c0_2)
      have hcz28_3 := czA BK410.out 3 (.slice A0_3 l0_3.length c0_3)
      have hcz28_4 := czA BK410.out 4 (.slice A0_4 l0_4.length c0_4)
      have hfz28_0 := blk_frozen BK410.out 0; have hfz28_1 := blk_frozen BK410.out 1; have hfz28_2 := blk_frozen BK410.out 2; have hfz28_3 := blk_frozen BK410.out 3; have hfz28_4 := blk_frozen BK410.out 4
      have hcz29_0 := czA BK417.out 0 (.int .i64 t411)
      have hcz29_1 := czA BK417.out 1 (.int .i64 t412)
      have hcz29_2 := czA BK417.out 2 (.int .i64 t413)
      have hcz29_3 := czA BK417.out 3 (.int .i64 t414)
      have hcz29_4 := czA BK417.out 4 (.int .i64 t415)
      have hfz29_0 := blk_frozen BK417.out 0; have hfz29_1 := blk_frozen BK417.out 1; have hfz29_2 := blk_frozen BK417.out 2; have hfz29_3 := blk_frozen BK417.out 3; have hfz29_4 := blk_frozen BK417.out 4
      go_wp2_with (first | ((with_reducible refine gate_callee (f := 24) rfl ?_); refine gL (some 22) Try.func24 #[.agg #[.slice A0_0 l0_0.length c0_0, .slice A0_1 l0_1.length c0_1, .slice A0_2 l0_2.length c0_2, .slice A0_3 l0_3.length c0_3, .slice A0_4 l0_4.length c0_4], .int .i64 a1, .agg #[.int .i64 t411, .int .i64 t412, .int .i64 t413, .int .i64 t414, .int .i64 t415]] ?_; (with_reducible refine (impl_dayFires.calls kj3 _ _ l0_0 _ _ l0_1 _ _ l0_2 _ _ l0_3 _ _ l0_4 a1 t411 t412 t413 t414 t415 true _ ?side1 ?side2 ?side3 ?side4 ?side5 ?side6 ?side7 ?side8 ?side9 ?side10 A16.out).mono ?_); (case side1 => exact uC HR0_0 HB); (case side2 => exact HC0_0.out); (case side3 => exact uC HR0_1 HB); (case side4 => exact HC0_1.out); (case side5 => exact uC HR0_2 HB); (case side6 => exact HC0_2.out); (case side7 => exact uC HR0_3 HB); (case side8 => exact HC0_3.out); (case side9 => exact uC HR0_4 HB); (case side10 => exact HC0_4.out); rintro e w30 ⟨rfl, hb⟩; refine ⟨_, rfl, ?_⟩; replace BK410 := blkB BK410 hb; replace BK417 := blkB BK417 hb; replace HB := aM (below_step (uL HB) hb); try clear hb; have hcz31_0 := czA BK410.out 0 (.slice A0_0 l0_0.length c0_0); have hcz31_1 := czA BK410.out 1 (.slice A0_1 l0_1.length c0_1); have hcz31_2 := czA BK410.out 2 (.slice A0_2 l0_2.length c0_2); have hcz31_3 := czA BK410.out 3 (.slice A0_3 l0_3.length c0_3); have hcz31_4 := czA BK410.out 4 (.slice A0_4 l0_4.length c0_4); have hfz31_0 := blk_frozen BK410.out 0; have hfz31_1 := blk_frozen BK410.out 1; have hfz31_2 := blk_frozen BK410.out 2; have hfz31_3 := blk_frozen BK410.out 3; have hfz31_4 := blk_frozen BK410.out 4; have hcz32_0 := czA BK417.out 0 (.int .i64 t411); have hcz32_1 := czA BK417.out 1 (.int .i64 t412); have hcz32_2 := czA BK417.out 2 (.int .i64 t413); have hcz32_3 := czA BK417.out 3 (.int .i64 t414); have hcz32_4 := czA BK417.out 4 (.int .i64 t415); have hfz32_0 := blk_frozen BK417.out 0; have hfz32_1 := blk_frozen BK417.out 1; have hfz32_2 := blk_frozen BK417.out 2; have hfz32_3 := blk_frozen BK417.out 3; have hfz32_4 := blk_frozen BK417.out 4) | (go_at_call 25; (with_reducible refine (slices_Contains_int_int.calls kj3 _ _ l0_1 t414 false _ ?side1 ?side2 A18.out).mono ?_); (case side1 => exact uC HR0_1 HB); (case side2 => exact HC0_1.out); rintro e w' ⟨rfl, ⟨nd, rfl⟩⟩))
      go_ret
      exact rX HB
    ·replace c17 := Bool.eq_false_iff.mpr c17
     subst c17
     have H1 : (some false) = some r := by rw [if_neg (show ¬ (false = true) by decide)] at H; exact H
     clear H; have H := H1; clear H1
     obtain rfl := Option.some.inj H
     have hnb33 := NB410_417.out; have hnc33 := NB417_410.out
     have hcz34_0 := czA BK410.out 0 (.slice A0_0 l0_0.length c0_0)
     have hcz34_1 := czA BK410.out 1 (.slice A0_1 l0_1.length c0_1)
     have hcz34_2 := czA BK410.out 2 (.slice A0_2 l0_2.length c0_2)
     have hcz34_3 := czA BK410.out 3 (.slice A0_3 l0_3.length c0_3)
     have hcz34_4 := czA BK410.out 4 (.slice A0_4 l0_4.length c0_4)
     have hfz34_0 := blk_frozen BK410.out 0; have hfz34_1 := blk_frozen BK410.out 1; have hfz34_2 := blk_frozen BK410.out 2; have hfz34_3 := blk_frozen BK410.out 3; have hfz34_4 := blk_frozen BK410.out 4
     have hcz35_0 := czA BK417.out 0 (.int .i64 t411)
     have hcz35_1 := czA BK417.out 1 (.int .i64 t412)
     have hcz35_2 := czA BK417.out 2 (.int .i64 t413)
     have hcz35_3 := czA BK417.out 3 (.int .i64 t414)
     have hcz35_4 := czA BK417.out 4 (.int .i64 t415)
     have hfz35_0 := blk_frozen BK417.out 0; have hfz35_1 := blk_frozen BK417.out 1; have hfz35_2 := blk_frozen BK417.out 2; have hfz35_3 := blk_frozen BK417.out 3; have hfz35_4 := blk_frozen BK417.out 4
     go_wp2_with (first | ((with_reducible refine gate_callee (f := 24) rfl ?_); refine gL (some 22) Try.func24 #[.agg #[.slice A0_0 l0_0.length c0_0, .slice A0_1 l0_1.length c0_1, .slice A0_2 l0_2.length c0_2, .slice A0_3 l0_3.length c0_3, .slice A0_4 l0_4.length c0_4], .int .i64 a1, .agg #[.int .i64 t411, .int .i64 t412, .int .i64 t413, .int .i64 t414, .int .i64 t415]] ?_; (with_reducible refine (impl_dayFires.calls kj3 _ _ l0_0 _ _ l0_1 _ _ l0_2 _ _ l0_3 _ _ l0_4 a1 t411 t412 t413 t414 t415 false _ ?side1 ?side2 ?side3 ?side4 ?side5 ?side6 ?side7 ?side8 ?side9 ?side10 A16.out).mono ?_); (case side1 => exact uC HR0_0 HB); (case side2 => exact HC0_0.out); (case side3 => exact uC HR0_1 HB); (case side4 => exact HC0_1.out); (case side5 => exact uC HR0_2 HB); (case side6 => exact HC0_2.out); (case side7 => exact uC HR0_3 HB); (case side8 => exact HC0_3.out); (case side9 => exact uC HR0_4 HB); (case side10 => exact HC0_4.out); rintro e w36 ⟨rfl, hb⟩; refine ⟨_, rfl, ?_⟩; replace BK410 := blkB BK410 hb; replace BK417 := blkB BK417 hb; replace HB := aM (below_step (uL HB) hb); try clear hb))
     go_ret
     exact rX HB

end Go.Proofs.Ythomiofokkkhgaa.QFnCounts
