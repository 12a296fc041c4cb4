-- Own work (wip/turnprint.py over the kit's print).
import Derived.Test.YthomiofokkkhgaaQFnCountsx0
import Derived.Test.YthomiofokkkhgaaQFnCountsx5
import Derived.Test.YthomiofokkkhgaaQFnCountsx6
namespace Go.Proofs.Ythomiofokkkhgaa.QFnCounts
open Go.RowKit Go.Proofs.YthomiofokkkhgaaW.PrintWords Go.Proofs.YthomiofokkkhgaaW.PrintLast Go.Proofs.YthomiofokkkhgaaW.PrintMore
attribute [local go_sem] max2_int min2_int max_two min_two max_three min_three max_four min_four   -- for this text's walks alone
set_option linter.unusedVariables false
set_option linter.unusedSimpArgs false

/-! ### impl_CivilOf: function 23 -/
mutual
def impl_CivilOf.l0 : Nat → Int → Int → Int → Int → Int → Int → Option (Int × Int × Int × Int × Int × Bool)
 | 0, _, _, _, _, _, _ => none
 | k + 1, x4, x323000, x323001, x323002, x323003, x323004 => (impl_daysOf.f x323000).bind fun t323 => (if x4 ≥ t323 then ((impl_daysOf.f x323000).bind fun t324 => (impl_CivilOf.l0 k (wrap64 (x4 - t324)) (wrap64 (x323000 + 1)) x323001 x323002 x323003 x323004)) else (impl_CivilOf.l1 k x4 x323000 x323001 x323002 x323003 x323004))
def impl_CivilOf.l1 : Nat → Int → Int → Int → Int → Int → Int → Option (Int × Int × Int × Int × Int × Bool)
 | 0, _, _, _, _, _, _ => none
 | k + 1, x4, x323000, x323001, x323002, x323003, x323004 => (impl_DaysIn.f k x323000 x323001).bind fun t325 => (if x4 ≥ t325 then ((impl_DaysIn.f k x323000 x323001).bind fun t326 => (impl_CivilOf.l1 k (wrap64 (x4 - t326)) x323000 (wrap64 (x323001 + 1)) x323002 x323003 x323004)) else (some (x323000, x323001, wrap64 (x4 + 1), x323003, x323004, true)))
end
def impl_CivilOf.f (k : Nat) (a0 : Int) : Option (Int × Int × Int × Int × Int × Bool) := (impl_isMinute.f a0).bind fun t321 => (if t321 = true then (impl_CivilOf.l0 k (wrap64 (Int.tdiv a0 1440)) 1970 1 0 (wrap64 (Int.tdiv (Int.tmod a0 1440) 60)) (Int.tmod a0 60)) else (some (0, 0, 0, 0, 0, false)))
theorem impl_CivilOf.mono_l : ∀ k, (∀ y0 y1 y2 y3 y4 y5, LeO (impl_CivilOf.l0 k y0 y1 y2 y3 y4 y5) (impl_CivilOf.l0 (k + 1) y0 y1 y2 y3 y4 y5)) ∧ (∀ y0 y1 y2 y3 y4 y5, LeO (impl_CivilOf.l1 k y0 y1 y2 y3 y4 y5) (impl_CivilOf.l1 (k + 1) y0 y1 y2 y3 y4 y5))
 | 0 => ⟨fun _ _ _ _ _ _ r h => by simp [impl_CivilOf.l0] at h, fun _ _ _ _ _ _ r h => by simp [impl_CivilOf.l1] at h⟩
 | k + 1 => by
  obtain ⟨ih0, ih1⟩ := impl_CivilOf.mono_l k
  refine ⟨?_, ?_⟩
  ·intro y0 y1 y2 y3 y4 y5
   unfold impl_CivilOf.l0
   repeat' first
   | (with_reducible exact ih0 _ _ _ _ _ _)
   | (with_reducible exact ih1 _ _ _ _ _ _)
   | (with_reducible exact impl_DaysIn.mono _ _ _)
   | (with_reducible exact LeO.refl _)
   | (with_reducible exact LeO.none _)
   | (with_reducible refine LeO.ite ?_ ?_)
   | (with_reducible refine LeO.bind ?_ (fun _ => ?_))
   | exact ih0 _ _ _ _ _ _
   | exact ih1 _ _ _ _ _ _
   | exact impl_DaysIn.mono _ _ _
   | exact LeO.none _
   | refine LeO.ite ?_ ?_
   | refine LeO.bind ?_ (fun _ => ?_)
  ·intro y0 y1 y2 y3 y4 y5
   unfold impl_CivilOf.l1
   repeat' first
   | (with_reducible exact ih0 _ _ _ _ _ _)
   | (with_reducible exact ih1 _ _ _ _ _ _)
   | (with_reducible exact impl_DaysIn.mono _ _ _)
   | (with_reducible exact LeO.refl _)
   | (with_reducible exact LeO.none _)
   | (with_reducible refine LeO.ite ?_ ?_)
   | (with_reducible refine LeO.bind ?_ (fun _ => ?_))
   | exact ih0 _ _ _ _ _ _
   | exact ih1 _ _ _ _ _ _
   | exact impl_DaysIn.mono _ _ _
   | exact LeO.none _
   | refine LeO.ite ?_ ?_
   | refine LeO.bind ?_ (fun _ => ?_)
theorem impl_CivilOf.mono : ∀ a0 k, LeO (impl_CivilOf.f k a0) (impl_CivilOf.f (k + 1) a0) := by
 intro a0 k
 obtain ⟨ih0, ih1⟩ := impl_CivilOf.mono_l k
 unfold impl_CivilOf.f
 repeat' first
  | (with_reducible exact ih0 _ _ _ _ _ _)
  | (with_reducible exact ih1 _ _ _ _ _ _)
  | (with_reducible exact impl_DaysIn.mono _ _ _)
  | (with_reducible exact LeO.refl _)
  | (with_reducible exact LeO.none _)
  | (with_reducible refine LeO.ite ?_ ?_)
  | (with_reducible refine LeO.bind ?_ (fun _ => ?_))
  | exact ih0 _ _ _ _ _ _
  | exact ih1 _ _ _ _ _ _
  | exact impl_DaysIn.mono _ _ _
  | exact LeO.none _
  | refine LeO.ite ?_ ?_
  | refine LeO.bind ?_ (fun _ => ?_)
set_option maxHeartbeats 8000000 in
set_option maxRecDepth 100000 in
theorem impl_CivilOf.calls (k : Nat) (a0 : Int) (r1 : Int) (r2 : Int) (r3 : Int) (r4 : Int) (r5 : Int) (r6 : Bool) (w : World) (h : impl_CivilOf.f k a0 = some (r1, r2, r3, r4, r5, r6)) :
 Calls Try.prog 23 #[.int .i64 a0] w fun e w' => e = .returned (.tuple #[.agg #[.int .i64 r1, .int .i64 r2, .int .i64 r3, .int .i64 r4, .int .i64 r5], .bool r6]) ∧ Below w.heap.size w w' := by
 have hu51 := Try.underlying51
 have HB := aM (Below.refl w.heap.size w)
 have H : ((impl_isMinute.f a0).bind fun t321 => (if t321 = true then (impl_CivilOf.l0 k (wrap64 (Int.tdiv a0 1440)) 1970 1 0 (wrap64 (Int.tdiv (Int.tmod a0 1440) 60)) (Int.tmod a0 60)) else (some (0, 0, 0, 0, 0, false)))) = some (r1, r2, r3, r4, r5, r6) := h
 clear h
 replace H := Option.bind_eq_some_iff.mp H
 obtain ⟨t321, A20, H⟩ := H
 try dsimp only at H
 have A2 := aM A20
 clear A20
 by_cases c3 : t321 = true
 ·subst c3
  have H1 : (impl_CivilOf.l0 k (wrap64 (Int.tdiv a0 1440)) 1970 1 0 (wrap64 (Int.tdiv (Int.tmod a0 1440) 60)) (Int.tmod a0 60)) = some (r1, r2, r3, r4, r5, r6) := by rw [if_pos rfl] at H; exact H
  clear H; have H := H1; clear H1
  have H' := aM H
  clear H
  go_enter Try.func23, Try.ntmps23
  go_wp2_with (first | ((with_reducible refine gate_dst (N := 2) rfl ?_); refine bxE 2 #[.int .i64 0, .int .i64 0, .int .i64 0, .int .i64 0, .int .i64 0] 51 ?_; intro gb320 hg w4 hbox hb; have BK320 := aM (hbox); have GW320 := szG hg (uL HB); have GE320 := szG hg (uL HB); replace HB := aM (below_step (uL HB) hb); clear hb hbox hg) | ((with_reducible refine gate_callee (f := 17) rfl ?_); refine gL (some 8) Try.func17 #[.int .i64 a0] ?_; (with_reducible refine (impl_isMinute.calls a0 true _ A2.out).mono ?_); rintro e w' ⟨rfl, ⟨nd, rfl⟩⟩; refine ⟨_, rfl, ?_⟩; (try (rw [drewN_self w4]; generalize hq_ : World.drewN w4 _ = w4; have n0_ : Aside0 (w4.heap[gb320]? = some (.cells #[.int .i64 0, .int .i64 0, .int .i64 0, .int .i64 0, .int .i64 0] 51 (0, 0))) := ⟨by rw [← hq_]; exact (uB BK320)⟩; have n1_ : Aside0 (Below w.heap.size w w4) := ⟨by rw [← hq_]; exact (uL HB)⟩; clear BK320 HB hq_; have BK320 := n0_; have HB := n1_; clear n0_ n1_))) | ((with_reducible refine gate_dst (N := 6) rfl ?_); refine bxE 6 #[.int .i64 0, .int .i64 0, .int .i64 0, .int .i64 0, .int .i64 0] 51 ?_; intro gb322 hg w5 hbox hb; have BK322 := aM (hbox); have GW322 := szG hg (uL HB); have GE322 := szG hg (uL HB); have NB320_322 := neL hg BK320; have NB322_320 := neG hg BK320; replace BK320 := blkB BK320 hb; replace HB := aM (below_step (uL HB) hb); clear hb hbox hg; have hnb6 := NB322_320.out; have hnc6 := NB320_322.out; have hcz7_0 := czA BK322.out 0 (.int .i64 0); have hcz7_1 := czA BK322.out 1 (.int .i64 0); have hcz7_2 := czA BK322.out 2 (.int .i64 0); have hcz7_3 := czA BK322.out 3 (.int .i64 0); have hcz7_4 := czA BK322.out 4 (.int .i64 0); have hfz7_0 := blk_frozen BK322.out 0; have hfz7_1 := blk_frozen BK322.out 1; have hfz7_2 := blk_frozen BK322.out 2; have hfz7_3 := blk_frozen BK322.out 3; have hfz7_4 := blk_frozen BK322.out 4))
  go_loopg [4] k (fun kq v4 w' => ∃ (x4_1 : Int) (x323000_1 : Int), v4 = .int .i64 x4_1 ∧ Aside0 (impl_CivilOf.l0 kq x4_1 x323000_1 1 0 (wrap64 (Int.tdiv (Int.tmod a0 1440) 60)) (Int.tmod a0 60) = some (r1, r2, r3, r4, r5, r6)) ∧ Aside0 (kq ≤ k) ∧ Aside0 (w'.heap[gb320]? = some (.cells #[.int .i64 0, .int .i64 0, .int .i64 0, .int .i64 0, .int .i64 0] 51 (0, 0))) ∧ Aside0 (w'.heap[gb322]? = some (.cells #[.int .i64 x323000_1, .int .i64 1, .int .i64 0, .int .i64 (wrap64 (Int.tdiv (Int.tmod a0 1440) 60)), .int .i64 (Int.tmod a0 60)] 51 (0, 0))) ∧ Aside0 (Below w.heap.size w w'))
  case atStart => exact ⟨(wrap64 (Int.tdiv a0 1440)), (1970), (by first | rfl | (simp; done) | (simp [*]; done)), H', ⟨Nat.le_refl _⟩, ⟨by refine nB ?_; refine blk_far ?_ NB320_322.out _; refine nB ?_; refine blk_far ?_ NB320_322.out _; refine nB ?_; refine blk_far ?_ NB320_322.out _; refine nB ?_; refine blk_far ?_ NB320_322.out _; refine nB ?_; refine blk_far ?_ NB320_322.out _; exact nB BK320.out⟩, ⟨by refine nB ?_; refine blk_put (cs := #[.int .i64 1970, .int .i64 1, .int .i64 0, .int .i64 (wrap64 (Int.tdiv (Int.tmod a0 1440) 60)), .int .i64 0]) ?_ 4 _ rfl; refine nB ?_; refine blk_put (cs := #[.int .i64 1970, .int .i64 1, .int .i64 0, .int .i64 0, .int .i64 0]) ?_ 3 _ rfl; refine nB ?_; refine blk_put (cs := #[.int .i64 1970, .int .i64 1, .int .i64 0, .int .i64 0, .int .i64 0]) ?_ 2 _ rfl; refine nB ?_; refine blk_put (cs := #[.int .i64 1970, .int .i64 0, .int .i64 0, .int .i64 0, .int .i64 0]) ?_ 1 _ rfl; refine nB ?_; refine blk_put (cs := #[.int .i64 0, .int .i64 0, .int .i64 0, .int .i64 0, .int .i64 0]) ?_ 0 _ rfl; exact nB BK322.out⟩, ⟨uL HB⟩⟩
  case round =>
   clear H'
   try clear c1; try clear c2; try clear p2; try clear c3; try clear c6; try clear p6; try clear hcz7_0; try clear hcz7_1; try clear hcz7_2; try clear hcz7_3; try clear hcz7_4; try clear hfz7_0; try clear hfz7_1; try clear hfz7_2; try clear hfz7_3; try clear hfz7_4
   obtain ⟨x4_1, x323000_1, rfl, HA, HK1, BK320, BK322, HB⟩ := hrel
   cases gk with
   | zero => exact absurd HA.out (by simp [impl_CivilOf.l0])
   | succ k1 =>
    have H := HA.out
    clear HA
    simp only [impl_CivilOf.l0] at H
    replace H := Option.bind_eq_some_iff.mp H
    obtain ⟨t323, A80, H⟩ := H
    try dsimp only at H
    have A8 := aM A80
    clear A80
    by_cases c9 : x4_1 ≥ t323
    ·rw [if_pos c9] at H
     have c9b0 : decide (t323 ≤ x4_1) = true := decide_eq_true c9
     clear c9
     replace H := Option.bind_eq_some_iff.mp H
     obtain ⟨t324, A100, H⟩ := H
     try dsimp only at H
     have A10 := aM A100
     clear A100
     have H' := aM H
     clear H
     have hnb11 := NB322_320.out; have hnc11 := NB320_322.out
     have hcz12_0 := czA BK322.out 0 (.int .i64 x323000_1)
     have hcz12_1 := czA BK322.out 1 (.int .i64 1)
     have hcz12_2 := czA BK322.out 2 (.int .i64 0)
     have hcz12_3 := czA BK322.out 3 (.int .i64 (wrap64 (Int.tdiv (Int.tmod a0 1440) 60)))
     have hcz12_4 := czA BK322.out 4 (.int .i64 (Int.tmod a0 60))
     have hfz12_0 := blk_frozen BK322.out 0; have hfz12_1 := blk_frozen BK322.out 1; have hfz12_2 := blk_frozen BK322.out 2; have hfz12_3 := blk_frozen BK322.out 3; have hfz12_4 := blk_frozen BK322.out 4
     go_wp2_with (first | ((with_reducible refine gate_callee (f := 35) rfl ?_); refine gL (some 23) Try.func35 #[.int .i64 x323000_1] ?_; (with_reducible refine (impl_daysOf.calls x323000_1 t323 _ A8.out).mono ?_); rintro e w' ⟨rfl, ⟨nd, rfl⟩⟩; refine ⟨_, rfl, ?_⟩; (try (rw [drewN_self wr]; generalize hq_ : World.drewN wr _ = wr; have n0_ : Aside0 (wr.heap[gb320]? = some (.cells #[.int .i64 0, .int .i64 0, .int .i64 0, .int .i64 0, .int .i64 0] 51 (0, 0))) := ⟨by rw [← hq_]; exact (uB BK320)⟩; have n1_ : Aside0 (wr.heap[gb322]? = some (.cells #[.int .i64 x323000_1, .int .i64 1, .int .i64 0, .int .i64 (wrap64 (Int.tdiv (Int.tmod a0 1440) 60)), .int .i64 (Int.tmod a0 60)] 51 (0, 0))) := ⟨by rw [← hq_]; exact (uB BK322)⟩; have n2_ : Aside0 (Below w.heap.size w wr) := ⟨by rw [← hq_]; exact (uL HB)⟩; clear BK320 BK322 HB hq_; have BK320 := n0_; have BK322 := n1_; have HB := n2_; clear n0_ n1_ n2_)); (try clear hcz12_0 hfz12_0 hcz12_1 hfz12_1 hcz12_2 hfz12_2 hcz12_3 hfz12_3 hcz12_4 hfz12_4); (try have hcz12_0 := czA BK322.out 0 (.int .i64 x323000_1)); (try have hfz12_0 := blk_frozen BK322.out 0); (try have hcz12_1 := czA BK322.out 1 (.int .i64 1)); (try have hfz12_1 := blk_frozen BK322.out 1); (try have hcz12_2 := czA BK322.out 2 (.int .i64 0)); (try have hfz12_2 := blk_frozen BK322.out 2); (try have hcz12_3 := czA BK322.out 3 (.int .i64 (wrap64 (Int.tdiv (Int.tmod a0 1440) 60)))); (try have hfz12_3 := blk_frozen BK322.out 3); (try have hcz12_4 := czA BK322.out 4 (.int .i64 (Int.tmod a0 60))); (try have hfz12_4 := blk_frozen BK322.out 4)) | ((with_reducible refine gate_callee (f := 35) rfl ?_); refine gL (some 28) Try.func35 #[.int .i64 x323000_1] ?_; (with_reducible refine (impl_daysOf.calls x323000_1 t324 _ A10.out).mono ?_); rintro e w' ⟨rfl, ⟨nd, rfl⟩⟩; refine ⟨_, rfl, ?_⟩; (try (rw [drewN_self wr]; generalize hq_ : World.drewN wr _ = wr; have n0_ : Aside0 (wr.heap[gb320]? = some (.cells #[.int .i64 0, .int .i64 0, .int .i64 0, .int .i64 0, .int .i64 0] 51 (0, 0))) := ⟨by rw [← hq_]; exact (uB BK320)⟩; have n1_ : Aside0 (wr.heap[gb322]? = some (.cells #[.int .i64 x323000_1, .int .i64 1, .int .i64 0, .int .i64 (wrap64 (Int.tdiv (Int.tmod a0 1440) 60)), .int .i64 (Int.tmod a0 60)] 51 (0, 0))) := ⟨by rw [← hq_]; exact (uB BK322)⟩; have n2_ : Aside0 (Below w.heap.size w wr) := ⟨by rw [← hq_]; exact (uL HB)⟩; clear BK320 BK322 HB hq_; have BK320 := n0_; have BK322 := n1_; have HB := n2_; clear n0_ n1_ n2_)); (try clear hcz12_0 hfz12_0 hcz12_1 hfz12_1 hcz12_2 hfz12_2 hcz12_3 hfz12_3 hcz12_4 hfz12_4); (try have hcz12_0 := czA BK322.out 0 (.int .i64 x323000_1)); (try have hfz12_0 := blk_frozen BK322.out 0); (try have hcz12_1 := czA BK322.out 1 (.int .i64 1)); (try have hfz12_1 := blk_frozen BK322.out 1); (try have hcz12_2 := czA BK322.out 2 (.int .i64 0)); (try have hfz12_2 := blk_frozen BK322.out 2); (try have hcz12_3 := czA BK322.out 3 (.int .i64 (wrap64 (Int.tdiv (Int.tmod a0 1440) 60)))); (try have hfz12_3 := blk_frozen BK322.out 3); (try have hcz12_4 := czA BK322.out 4 (.int .i64 (Int.tmod a0 60))); (try have hfz12_4 := blk_frozen BK322.out 4)))
     go_roundg k1
     case measure => have := HK1.out; omega
     case rel => exact ⟨(wrap64 (x4_1 - t324)), (wrap64 (x323000_1 + 1)), (by first | rfl | (simp; done) | (simp [*]; done)), H', ⟨by have := HK1.out; omega⟩, ⟨by refine nB ?_; refine blk_far ?_ NB320_322.out _; exact nB BK320.out⟩, ⟨by refine nB ?_; refine blk_put (cs := #[.int .i64 x323000_1, .int .i64 1, .int .i64 0, .int .i64 (wrap64 (Int.tdiv (Int.tmod a0 1440) 60)), .int .i64 (Int.tmod a0 60)]) ?_ 0 _ rfl; exact nB BK322.out⟩, ⟨uL HB⟩⟩
    ·rw [if_neg c9] at H
     have c9b0 : decide (t323 ≤ x4_1) = false := decide_eq_false c9
     clear c9
     have H' := aM H
     clear H
     have hnb13 := NB322_320.out; have hnc13 := NB320_322.out
     have hcz14_0 := czA BK322.out 0 (.int .i64 x323000_1)
     have hcz14_1 := czA BK322.out 1 (.int .i64 1)
     have hcz14_2 := czA BK322.out 2 (.int .i64 0)
     have hcz14_3 := czA BK322.out 3 (.int .i64 (wrap64 (Int.tdiv (Int.tmod a0 1440) 60)))
     have hcz14_4 := czA BK322.out 4 (.int .i64 (Int.tmod a0 60))
     have hfz14_0 := blk_frozen BK322.out 0; have hfz14_1 := blk_frozen BK322.out 1; have hfz14_2 := blk_frozen BK322.out 2; have hfz14_3 := blk_frozen BK322.out 3; have hfz14_4 := blk_frozen BK322.out 4
     go_wp2_with (first | ((with_reducible refine gate_callee (f := 35) rfl ?_); refine gL (some 23) Try.func35 #[.int .i64 x323000_1] ?_; (with_reducible refine (impl_daysOf.calls x323000_1 t323 _ A8.out).mono ?_); rintro e w' ⟨rfl, ⟨nd, rfl⟩⟩; refine ⟨_, rfl, ?_⟩))
     go_loopg [4] k1 (fun kq v4 w' => ∃ (x4_2 : Int) (x323001_2 : Int), v4 = .int .i64 x4_2 ∧ Aside0 (impl_CivilOf.l1 kq x4_2 x323000_1 x323001_2 0 (wrap64 (Int.tdiv (Int.tmod a0 1440) 60)) (Int.tmod a0 60) = some (r1, r2, r3, r4, r5, r6)) ∧ Aside0 (kq ≤ k1) ∧ Aside0 (w'.heap[gb320]? = some (.cells #[.int .i64 0, .int .i64 0, .int .i64 0, .int .i64 0, .int .i64 0] 51 (0, 0))) ∧ Aside0 (w'.heap[gb322]? = some (.cells #[.int .i64 x323000_1, .int .i64 x323001_2, .int .i64 0, .int .i64 (wrap64 (Int.tdiv (Int.tmod a0 1440) 60)), .int .i64 (Int.tmod a0 60)] 51 (0, 0))) ∧ Aside0 (Below w.heap.size w w'))
     case atStart => exact ⟨(x4_1), (1), (by first | rfl | (simp; done) | (simp [*]; done)), H', ⟨Nat.le_refl _⟩, ⟨by exact nB BK320.out⟩, ⟨by exact nB BK322.out⟩, ⟨uL HB⟩⟩
     case round =>
      clear H'
      try clear c1; try clear c2; try clear p2; try clear c3; try clear c6; try clear p6; try clear c9; try clear c9b0; try clear c11; try clear c13; try clear hcz12_0; try clear hcz12_1; try clear hcz12_2; try clear hcz12_3; try clear hcz12_4; try clear hcz14_0; try clear hcz14_1; try clear hcz14_2; try clear hcz14_3; try clear hcz14_4; try clear hcz7_0; try clear hcz7_1; try clear hcz7_2; try clear hcz7_3; try clear hcz7_4; try clear hfz12_0; try clear hfz12_1; try clear hfz12_2; try clear hfz12_3; try clear hfz12_4; try clear hfz14_0; try clear hfz14_1; try clear hfz14_2; try clear hfz14_3; try clear hfz14_4; try clear hfz7_0; try clear hfz7_1; try clear hfz7_2; try clear hfz7_3; try clear hfz7_4; try clear p2; try clear p6
      obtain ⟨x4_2, x323001_2, rfl, HA, HK2, BK320, BK322, HB⟩ := hrel
      cases gk with
      | zero => exact absurd HA.out (by simp [impl_CivilOf.l1])
      | succ k2 =>
       have H := HA.out
       clear HA
       simp only [impl_CivilOf.l1] at H
       replace H := Option.bind_eq_some_iff.mp H
       obtain ⟨t325, A150, H⟩ := H
       try dsimp only at H
       have A15 := aM A150
       clear A150
       by_cases c16 : x4_2 ≥ t325
       ·rw [if_pos c16] at H
        have c16b0 : decide (t325 ≤ x4_2) = true := decide_eq_true c16
        clear c16
        replace H := Option.bind_eq_some_iff.mp H
        obtain ⟨t326, A170, H⟩ := H
        try dsimp only at H
        have A17 := aM A170
        clear A170
        have H' := aM H
        clear H
        have hnb18 := NB322_320.out; have hnc18 := NB320_322.out
        have hcz19_0 := czA BK322.out 0 (.int .i64 x323000_1)
        have hcz19_1 := czA BK322.out 1 (.int .i64 x323001_2)
        have hcz19_2 := czA BK322.out 2 (.int .i64 0)
        have hcz19_3 := czA BK322.out 3 (.int .i64 (wrap64 (Int.tdiv (Int.tmod a0 1440) 60)))
        have hcz19_4 := czA BK322.out 4 (.int .i64 (Int.tmod a0 60))
        have hfz19_0 := blk_frozen BK322.out 0; have hfz19_1 := blk_frozen BK322.out 1; have hfz19_2 := blk_frozen BK322.out 2; have hfz19_3 := blk_frozen BK322.out 3; have hfz19_4 := blk_frozen BK322.out 4
        go_wp2_with (first | ((with_reducible refine gate_callee (f := 36) rfl ?_); refine gL (some 39) Try.func36 #[.int .i64 x323000_1, .int .i64 x323001_2] ?_; (with_reducible refine (impl_DaysIn.calls k2 x323000_1 x323001_2 t325 _ A15.out).mono ?_); rintro e w' ⟨rfl, ⟨nd, rfl⟩⟩; refine ⟨_, rfl, ?_⟩; (try (rw [drewN_self wr]; generalize hq_ : World.drewN wr _ = wr; have n0_ : Aside0 (wr.heap[gb320]? = some (.cells #[.int .i64 0, .int .i64 0, .int .i64 0, .int .i64 0, .int .i64 0] 51 (0, 0))) := ⟨by rw [← hq_]; exact (uB BK320)⟩; have n1_ : Aside0 (wr.heap[gb322]? = some (.cells #[.int .i64 x323000_1, .int .i64 x323001_2, .int .i64 0, .int .i64 (wrap64 (Int.tdiv (Int.tmod a0 1440) 60)), .int .i64 (Int.tmod a0 60)] 51 (0, 0))) := ⟨by rw [← hq_]; exact (uB BK322)⟩; have n2_ : Aside0 (Below w.heap.size w wr) := ⟨by rw [← hq_]; exact (uL HB)⟩; clear BK320 BK322 HB hq_; have BK320 := n0_; have BK322 := n1_; have HB := n2_; clear n0_ n1_ n2_)); (try clear hcz19_0 hfz19_0 hcz19_1 hfz19_1 hcz19_2 hfz19_2 hcz19_3 hfz19_3 hcz19_4 hfz19_4); (try have hcz19_0 := czA BK322.out 0 (.int .i64 x323000_1)); (try have hfz19_0 := blk_frozen BK322.out 0); (try have hcz19_1 := czA BK322.out 1 (.int .i64 x323001_2)); (try have hfz19_1 := blk_frozen BK322.out 1); (try have hcz19_2 := czA BK322.out 2 (.int .i64 0)); (try have hfz19_2 := blk_frozen BK322.out 2); (try have hcz19_3 := czA BK322.out 3 (.int .i64 (wrap64 (Int.tdiv (Int.tmod a0 1440) 60)))); (try have hfz19_3 := blk_frozen BK322.out 3); (try have hcz19_4 := czA BK322.out 4 (.int .i64 (Int.tmod a0 60))); (try have hfz19_4 := blk_frozen BK322.out 4)) | ((with_reducible refine gate_callee (f := 36) rfl ?_); refine gL (some 46) Try.func36 #[.int .i64 x323000_1, .int .i64 x323001_2] ?_; (with_reducible refine (impl_DaysIn.calls k2 x323000_1 x323001_2 t326 _ A17.out).mono ?_); rintro e w' ⟨rfl, ⟨nd, rfl⟩⟩; refine ⟨_, rfl, ?_⟩; (try (rw [drewN_self wr]; generalize hq_ : World.drewN wr _ = wr; have n0_ : Aside0 (wr.heap[gb320]? = some (.cells #[.int .i64 0, .int .i64 0, .int .i64 0, .int .i64 0, .int .i64 0] 51 (0, 0))) := ⟨by rw [← hq_]; exact (uB BK320)⟩; have n1_ : Aside0 (wr.heap[gb322]? = some (.cells #[.int .i64 x323000_1, .int .i64 x323001_2, .int .i64 0, .int .i64 (wrap64 (Int.tdiv (Int.tmod a0 1440) 60)), .int .i64 (Int.tmod a0 60)] 51 (0, 0))) := ⟨by rw [← hq_]; exact (uB BK322)⟩; have n2_ : Aside0 (Below w.heap.size w wr) := ⟨by rw [← hq_]; exact (uL HB)⟩; clear BK320 BK322 HB hq_; have BK320 := n0_; have BK322 := n1_; have HB := n2_; clear n0_ n1_ n2_)); (try clear hcz19_0 hfz19_0 hcz19_1 hfz19_1 hcz19_2 hfz19_2 hcz19_3 hfz19_3 hcz19_4 hfz19_4); (try have hcz19_0 := czA BK322.out 0 (.int .i64 x323000_1)); (try have hfz19_0 := blk_frozen BK322.out 0); (try have hcz19_1 := czA BK322.out 1 (.int .i64 x323001_2)); (try have hfz19_1 := blk_frozen BK322.out 1); (try have hcz19_2 := czA BK322.out 2 (.int .i64 0)); (try have hfz19_2 := blk_frozen BK322.out 2); (try have hcz19_3 := czA BK322.out 3 (.int .i64 (wrap64 (Int.tdiv (Int.tmod a0 1440) 60)))); (try have hfz19_3 := blk_frozen BK322.out 3); (try have hcz19_4 := czA BK322.out 4 (.int .i64 (Int.tmod a0 60))); (try have hfz19_4 := blk_frozen BK322.out 4)))
        go_roundg k2
        case measure => have := HK1.out; have := HK2.out; omega
        case rel => exact ⟨(wrap64 (x4_2 - t326)), (wrap64 (x323001_2 + 1)), (by first | rfl | (simp; done) | (simp [*]; done)), H', ⟨by have := HK1.out; have := HK2.out; omega⟩, ⟨by refine nB ?_; refine blk_far ?_ NB320_322.out _; exact nB BK320.out⟩, ⟨by refine nB ?_; refine blk_put (cs := #[.int .i64 x323000_1, .int .i64 x323001_2, .int .i64 0, .int .i64 (wrap64 (Int.tdiv (Int.tmod a0 1440) 60)), .int .i64 (Int.tmod a0 60)]) ?_ 1 _ rfl; exact nB BK322.out⟩, ⟨uL HB⟩⟩
       ·rw [if_neg c16] at H
        have c16b0 : decide (t325 ≤ x4_2) = false := decide_eq_false c16
        clear c16
        simp only [Option.some.injEq, Prod.mk.injEq] at H
        obtain ⟨rfl, rfl, rfl, rfl, rfl, rfl⟩ := H
        have hnb20 := NB322_320.out; have hnc20 := NB320_322.out
        have hcz21_0 := czA BK322.out 0 (.int .i64 x323000_1)
        have hcz21_1 := czA BK322.out 1 (.int .i64 x323001_2)
        have hcz21_2 := czA BK322.out 2 (.int .i64 0)
        have hcz21_3 := czA BK322.out 3 (.int .i64 (wrap64 (Int.tdiv (Int.tmod a0 1440) 60)))
        have hcz21_4 := czA BK322.out 4 (.int .i64 (Int.tmod a0 60))
        have hfz21_0 := blk_frozen BK322.out 0; have hfz21_1 := blk_frozen BK322.out 1; have hfz21_2 := blk_frozen BK322.out 2; have hfz21_3 := blk_frozen BK322.out 3; have hfz21_4 := blk_frozen BK322.out 4
        go_wp2_with (first | ((with_reducible refine gate_callee (f := 36) rfl ?_); refine gL (some 39) Try.func36 #[.int .i64 x323000_1, .int .i64 x323001_2] ?_; (with_reducible refine (impl_DaysIn.calls k2 x323000_1 x323001_2 t325 _ A15.out).mono ?_); rintro e w' ⟨rfl, ⟨nd, rfl⟩⟩; refine ⟨_, rfl, ?_⟩; (try (rw [drewN_self wr]; generalize hq_ : World.drewN wr _ = wr; have n0_ : Aside0 (wr.heap[gb320]? = some (.cells #[.int .i64 0, .int .i64 0, .int .i64 0, .int .i64 0, .int .i64 0] 51 (0, 0))) := ⟨by rw [← hq_]; exact (uB BK320)⟩; have n1_ : Aside0 (wr.heap[gb322]? = some (.cells #[.int .i64 x323000_1, .int .i64 x323001_2, .int .i64 0, .int .i64 (wrap64 (Int.tdiv (Int.tmod a0 1440) 60)), .int .i64 (Int.tmod a0 60)] 51 (0, 0))) := ⟨by rw [← hq_]; exact (uB BK322)⟩; have n2_ : Aside0 (Below w.heap.size w wr) := ⟨by rw [← hq_]; exact (uL HB)⟩; clear BK320 BK322 HB hq_; have BK320 := n0_; have BK322 := n1_; have HB := n2_; clear n0_ n1_ n2_)); (try clear hcz21_0 hfz21_0 hcz21_1 hfz21_1 hcz21_2 hfz21_2 hcz21_3 hfz21_3 hcz21_4 hfz21_4); (try have hcz21_0 := czA BK322.out 0 (.int .i64 x323000_1)); (try have hfz21_0 := blk_frozen BK322.out 0); (try have hcz21_1 := czA BK322.out 1 (.int .i64 x323001_2)); (try have hfz21_1 := blk_frozen BK322.out 1); (try have hcz21_2 := czA BK322.out 2 (.int .i64 0)); (try have hfz21_2 := blk_frozen BK322.out 2); (try have hcz21_3 := czA BK322.out 3 (.int .i64 (wrap64 (Int.tdiv (Int.tmod a0 1440) 60)))); (try have hfz21_3 := blk_frozen BK322.out 3); (try have hcz21_4 := czA BK322.out 4 (.int .i64 (Int.tmod a0 60))); (try have hfz21_4 := blk_frozen BK322.out 4); have hcz22_0 := czA BK320.out 0 (.int .i64 0); have hcz22_1 := czA BK320.out 1 (.int .i64 0); have hcz22_2 := czA BK320.out 2 (.int .i64 0); have hcz22_3 := czA BK320.out 3 (.int .i64 0); have hcz22_4 := czA BK320.out 4 (.int .i64 0); have hfz22_0 := blk_frozen BK320.out 0; have hfz22_1 := blk_frozen BK320.out 1; have hfz22_2 := blk_frozen BK320.out 2; have hfz22_3 := blk_frozen BK320.out 3; have hfz22_4 := blk_frozen BK320.out 4))
        refine bodyPost_ret (results_ct rfl _ _ gb320 51 #[.int .i64 x323000_1, .int .i64 x323001_2, .int .i64 (wrap64 (x4_2 + 1)), .int .i64 (wrap64 (Int.tdiv (Int.tmod a0 1440) 60)), .int .i64 (Int.tmod a0 60)] (0, 0) _ rfl (by refine nB ?_; refine blk_put (cs := #[.int .i64 x323000_1, .int .i64 x323001_2, .int .i64 (wrap64 (x4_2 + 1)), .int .i64 (wrap64 (Int.tdiv (Int.tmod a0 1440) 60)), .int .i64 0]) ?_ 4 _ rfl; refine nB ?_; refine blk_put (cs := #[.int .i64 x323000_1, .int .i64 x323001_2, .int .i64 (wrap64 (x4_2 + 1)), .int .i64 0, .int .i64 0]) ?_ 3 _ rfl; refine nB ?_; refine blk_put (cs := #[.int .i64 x323000_1, .int .i64 x323001_2, .int .i64 0, .int .i64 0, .int .i64 0]) ?_ 2 _ rfl; refine nB ?_; refine blk_put (cs := #[.int .i64 x323000_1, .int .i64 0, .int .i64 0, .int .i64 0, .int .i64 0]) ?_ 1 _ rfl; refine nB ?_; refine blk_put (cs := #[.int .i64 0, .int .i64 0, .int .i64 0, .int .i64 0, .int .i64 0]) ?_ 0 _ rfl; refine nB ?_; refine blk_far ?_ NB320_322.out _; exact nB BK320.out) Try.underlying51 rfl (by kernel_rfl)) rfl ?_
        exact rX HB
 ·replace c3 := Bool.eq_false_iff.mpr c3
  subst c3
  have H1 : (some (0, 0, 0, 0, 0, false)) = some (r1, r2, r3, r4, r5, r6) := by rw [if_neg (show ¬ (false = true) by decide)] at H; exact H
  clear H; have H := H1; clear H1
  simp only [Option.some.injEq, Prod.mk.injEq] at H
  obtain ⟨rfl, rfl, rfl, rfl, rfl, rfl⟩ := H
  go_enter Try.func23, Try.ntmps23
  go_wp2_with (first | ((with_reducible refine gate_dst (N := 2) rfl ?_); refine bxE 2 #[.int .i64 0, .int .i64 0, .int .i64 0, .int .i64 0, .int .i64 0] 51 ?_; intro gb320 hg w23 hbox hb; have BK320 := aM (hbox); have GW320 := szG hg (uL HB); have GE320 := szG hg (uL HB); replace HB := aM (below_step (uL HB) hb); clear hb hbox hg) | ((with_reducible refine gate_callee (f := 17) rfl ?_); refine gL (some 8) Try.func17 #[.int .i64 a0] ?_; (with_reducible refine (impl_isMinute.calls a0 false _ A2.out).mono ?_); rintro e w' ⟨rfl, ⟨nd, rfl⟩⟩; refine ⟨_, rfl, ?_⟩; (try (rw [drewN_self w23]; generalize hq_ : World.drewN w23 _ = w23; have n0_ : Aside0 (w23.heap[gb320]? = some (.cells #[.int .i64 0, .int .i64 0, .int .i64 0, .int .i64 0, .int .i64 0] 51 (0, 0))) := ⟨by rw [← hq_]; exact (uB BK320)⟩; have n1_ : Aside0 (Below w.heap.size w w23) := ⟨by rw [← hq_]; exact (uL HB)⟩; clear BK320 HB hq_; have BK320 := n0_; have HB := n1_; clear n0_ n1_)); have hcz24_0 := czA BK320.out 0 (.int .i64 0); have hcz24_1 := czA BK320.out 1 (.int .i64 0); have hcz24_2 := czA BK320.out 2 (.int .i64 0); have hcz24_3 := czA BK320.out 3 (.int .i64 0); have hcz24_4 := czA BK320.out 4 (.int .i64 0); have hfz24_0 := blk_frozen BK320.out 0; have hfz24_1 := blk_frozen BK320.out 1; have hfz24_2 := blk_frozen BK320.out 2; have hfz24_3 := blk_frozen BK320.out 3; have hfz24_4 := blk_frozen BK320.out 4))
  refine bodyPost_ret (results_ct rfl _ _ gb320 51 #[.int .i64 0, .int .i64 0, .int .i64 0, .int .i64 0, .int .i64 0] (0, 0) _ rfl (by refine nB ?_; refine blk_put (cs := #[.int .i64 0, .int .i64 0, .int .i64 0, .int .i64 0, .int .i64 0]) ?_ 4 _ rfl; refine nB ?_; refine blk_put (cs := #[.int .i64 0, .int .i64 0, .int .i64 0, .int .i64 0, .int .i64 0]) ?_ 3 _ rfl; refine nB ?_; refine blk_put (cs := #[.int .i64 0, .int .i64 0, .int .i64 0, .int .i64 0, .int .i64 0]) ?_ 2 _ rfl; refine nB ?_; refine blk_put (cs := #[.int .i64 0, .int .i64 0, .int .i64 0, .int .i64 0, .int .i64 0]) ?_ 1 _ rfl; refine nB ?_; refine blk_put (cs := #[.int .i64 0, .int .i64 0, .int .i64 0, .int .i64 0, .int .i64 0]) ?_ 0 _ rfl; exact nB BK320.out) Try.underlying51 rfl (by kernel_rfl)) rfl ?_
  exact rX HB

/-! ### slices_Index_int_int: function 39 -/
def slices_Index_int_int.l0 : Nat → List Int → Int → Int → Int → Option (Int)
 | 0, _, _, _, _ => none
 | k + 1, x0, x1, x7, x8 => if x8 < x7 then (if 0 ≤ x8 then (if x8 < (x0.length : Int) then (if x1 = (rd x0 x8) then (some x8) else (slices_Index_int_int.l0 k x0 x1 x7 (wrap64 (x8 + 1)))) else (none)) else (none)) else (some (-1))
def slices_Index_int_int.f (k : Nat) (l0 : List Int) (a1 : Int) : Option (Int) := slices_Index_int_int.l0 k l0 a1 (l0.length : Int) 0
theorem slices_Index_int_int.mono_l : ∀ k, (∀ y0 y1 y2 y3, LeO (slices_Index_int_int.l0 k y0 y1 y2 y3) (slices_Index_int_int.l0 (k + 1) y0 y1 y2 y3))
 | 0 => fun _ _ _ _ r h => by simp [slices_Index_int_int.l0] at h
 | k + 1 => by
  have ih0 := slices_Index_int_int.mono_l k
  ·intro y0 y1 y2 y3
   unfold slices_Index_int_int.l0
   repeat' first
   | (with_reducible exact ih0 _ _ _ _)
   | (with_reducible exact LeO.refl _)
   | (with_reducible exact LeO.none _)
   | (with_reducible refine LeO.ite ?_ ?_)
   | (with_reducible refine LeO.bind ?_ (fun _ => ?_))
   | exact ih0 _ _ _ _
   | exact LeO.none _
   | refine LeO.ite ?_ ?_
   | refine LeO.bind ?_ (fun _ => ?_)
theorem slices_Index_int_int.mono : ∀ a0 a1 k, LeO (slices_Index_int_int.f k a0 a1) (slices_Index_int_int.f (k + 1) a0 a1) := by
 intro a0 a1 k
 have ih0 := slices_Index_int_int.mono_l k
 unfold slices_Index_int_int.f
 repeat' first
  | (with_reducible exact ih0 _ _ _ _)
  | (with_reducible exact LeO.refl _)
  | (with_reducible exact LeO.none _)
  | (with_reducible refine LeO.ite ?_ ?_)
  | (with_reducible refine LeO.bind ?_ (fun _ => ?_))
  | exact ih0 _ _ _ _
  | exact LeO.none _
  | refine LeO.ite ?_ ?_
  | refine LeO.bind ?_ (fun _ => ?_)
set_option maxHeartbeats 8000000 in
set_option maxRecDepth 100000 in
theorem slices_Index_int_int.calls (k : Nat) (A0 : Option Addr) (c0 : Nat) (l0 : List Int) (a1 : Int) (r : Int) (w : World) (hr0 : Kd.C (Kd.int .i64) w A0 l0.length l0) (hc0 : l0.length ≤ c0) (h : slices_Index_int_int.f k l0 a1 = some r) :
 Calls Try.prog 39 #[.slice A0 l0.length c0, .int .i64 a1] w fun e w' => e = .returned (.int .i64 r) ∧ Drawn0 w w' := by
 have HR0 := aM hr0
 have HC0 := aM hc0
 clear hr0 hc0
 have H : (slices_Index_int_int.l0 k l0 a1 (l0.length : Int) 0) = some r := h
 clear h
 have H' := aM H
 clear H
 go_enter Try.func39, Try.ntmps39
 go_wp2
 go_loopg [8] k (fun kq v8 w' => ∃ (x8_1 : Int), v8 = .int .i64 x8_1 ∧ Aside0 (slices_Index_int_int.l0 kq l0 a1 (l0.length : Int) x8_1 = some r) ∧ Aside0 (kq ≤ k) ∧ Drawn0 w w')
 case atStart => exact ⟨(0), (by first | rfl | (simp; done) | (simp [*]; done)), H', ⟨Nat.le_refl _⟩, by repeat (first | exact Drawn0.refl _ | apply Drawn0.step)⟩
 case round =>
  clear H'
  try clear p2
  obtain ⟨x8_1, rfl, HA, HK1, ⟨m1, rfl⟩⟩ := hrel
  cases gk with
  | zero => exact absurd HA.out (by simp [slices_Index_int_int.l0])
  | succ k1 =>
   have H := HA.out
   clear HA
   simp only [slices_Index_int_int.l0] at H
   by_cases c3 : x8_1 < (l0.length : Int)
   ·rw [if_pos c3] at H
    have c3b0 : decide (x8_1 < (l0.length : Int)) = true := decide_eq_true c3
    clear c3
    by_cases c4 : 0 ≤ x8_1
    ·rw [if_pos c4] at H
     have c4b0 : decide (0 ≤ x8_1) = true := decide_eq_true c4
     clear c4
     by_cases c5 : x8_1 < (l0.length : Int)
     ·rw [if_pos c5] at H
      have c5b0 : decide (x8_1 < (l0.length : Int)) = true := decide_eq_true c5
      clear c5
      by_cases c6 : a1 = (rd l0 x8_1)
      ·rw [if_pos c6] at H
       have c6b0 : (a1 == (rd l0 x8_1)) = true := beq_iff_eq.mpr c6
       have c6b1 : (a1 != (rd l0 x8_1)) = false := bne_eq_false_iff_eq.mpr c6
       clear c6
       obtain rfl := Option.some.inj H
       have p327 : 0 ≤ (x8_1 : Int) := of_decide_eq_true (by first | (with_reducible assumption) | assumption)
       have q327 : x8_1 < (l0.length : Int) := of_decide_eq_true (by first | (with_reducible assumption) | assumption)
       obtain ⟨ad327, e327, hx327_0⟩ := Kd.at_int HR0.out x8_1 p327 q327
       cases e327
       replace p327 := eq_true p327; replace q327 := eq_true q327
       go_wp2
       go_ret
       exact ⟨by first | rfl | (simp; done) | (simp [*]; done), by repeat (first | exact Drawn0.refl _ | apply Drawn0.step)⟩
      ·rw [if_neg c6] at H
       have c6b0 : (a1 == (rd l0 x8_1)) = false := beq_eq_false_iff_ne.mpr c6
       have c6b1 : (a1 != (rd l0 x8_1)) = true := bne_iff_ne.mpr c6
       have H' := aM H
       clear H
       have p327 : 0 ≤ (x8_1 : Int) := of_decide_eq_true (by first | (with_reducible assumption) | assumption)
       have q327 : x8_1 < (l0.length : Int) := of_decide_eq_true (by first | (with_reducible assumption) | assumption)
       obtain ⟨ad327, e327, hx327_0⟩ := Kd.at_int HR0.out x8_1 p327 q327
       cases e327
       replace p327 := eq_true p327; replace q327 := eq_true q327
       go_wp2
       go_roundg k1
       case measure => have := HK1.out; omega
       case rel => exact ⟨(wrap64 (x8_1 + 1)), (by first | rfl | (simp; done) | (simp [*]; done)), H', ⟨by have := HK1.out; omega⟩, by repeat (first | exact Drawn0.refl _ | apply Drawn0.step)⟩
     ·rw [if_neg c5] at H
      exact absurd H (by simp)
    ·rw [if_neg c4] at H
     exact absurd H (by simp)
   ·rw [if_neg c3] at H
    have c3b0 : decide (x8_1 < (l0.length : Int)) = false := decide_eq_false c3
    clear c3
    obtain rfl := Option.some.inj H
    go_wp2
    go_ret
    exact ⟨by first | rfl | (simp; done) | (simp [*]; done), by repeat (first | exact Drawn0.refl _ | apply Drawn0.step)⟩

/-! ### slices_Contains_int_int: function 25 -/
def slices_Contains_int_int.f (k : Nat) (l0 : List Int) (a1 : Int) : Option (Bool) := (slices_Index_int_int.f k l0 a1).bind fun t328 => (some (decide (t328 ≥ 0)))
theorem slices_Contains_int_int.mono : ∀ a0 a1 k, LeO (slices_Contains_int_int.f k a0 a1) (slices_Contains_int_int.f (k + 1) a0 a1) := by
 intro a0 a1 k
 unfold slices_Contains_int_int.f
 repeat' first
  | (with_reducible exact slices_Index_int_int.mono _ _ _)
  | (with_reducible exact LeO.refl _)
  | (with_reducible exact LeO.none _)
  | (with_reducible refine LeO.ite ?_ ?_)
  | (with_reducible refine LeO.bind ?_ (fun _ => ?_))
  | exact slices_Index_int_int.mono _ _ _
  | exact LeO.none _
  | refine LeO.ite ?_ ?_
  | refine LeO.bind ?_ (fun _ => ?_)
set_option maxHeartbeats 8000000 in
set_option maxRecDepth 100000 in
theorem slices_Contains_int_int.calls (k : Nat) (A0 : Option Addr) (c0 : Nat) (l0 : List Int) (a1 : Int) (r : Bool) (w : World) (hr0 : Kd.C (Kd.int .i64) w A0 l0.length l0) (hc0 : l0.length ≤ c0) (h : slices_Contains_int_int.f k l0 a1 = some r) :
 Calls Try.prog 25 #[.slice A0 l0.length c0, .int .i64 a1] w fun e w' => e = .returned (.bool r) ∧ Drawn0 w w' := by
 have HR0 := aM hr0
 have HC0 := aM hc0
 clear hr0 hc0
 have H : ((slices_Index_int_int.f k l0 a1).bind fun t328 => (some (decide (t328 ≥ 0)))) = some r := h
 clear h
 replace H := Option.bind_eq_some_iff.mp H
 obtain ⟨t328, A30, H⟩ := H
 replace H : (some (decide (t328 ≥ 0))) = some r := H
 have A3 := aM A30
 clear A30
 obtain rfl := Option.some.inj H
 go_enter Try.func25, Try.ntmps25
 go_wp2_with (first | ((with_reducible refine gate_callee (f := 39) rfl ?_); refine gL (some 7) Try.func39 #[.slice A0 l0.length c0, .int .i64 a1] ?_; (with_reducible refine (slices_Index_int_int.calls k _ _ l0 a1 t328 _ ?side1 ?side2 A3.out).mono ?_); (case side1 => repeat (first | exact HR0.out | (with_reducible refine cA ?_ _) | (with_reducible refine cN ?_ _) | (with_reducible refine cD ?_))); (case side2 => exact HC0.out); rintro e w' ⟨rfl, ⟨nd, rfl⟩⟩; refine ⟨_, rfl, ?_⟩))
 go_ret
 exact ⟨by first | rfl | (simp; done) | (simp [*]; done), by repeat (first | exact Drawn0.refl _ | apply Drawn0.step)⟩

/-! ### impl_WeekdayOf: function 37 -/
def impl_WeekdayOf.f (a0 : Int) : Option (Int) := (impl_isMinute.f a0).bind fun t329 => (if t329 = true then (some (Int.tmod (wrap64 ((wrap64 (Int.tdiv a0 1440)) + 4)) 7)) else (some (-1)))
set_option maxHeartbeats 8000000 in
set_option maxRecDepth 100000 in
theorem impl_WeekdayOf.calls (a0 : Int) (r : Int) (w : World) (h : impl_WeekdayOf.f a0 = some r) :
 Calls Try.prog 37 #[.int .i64 a0] w fun e w' => e = .returned (.int .i64 r) ∧ Drawn0 w w' := by
 have H : ((impl_isMinute.f a0).bind fun t329 => (if t329 = true then (some (Int.tmod (wrap64 ((wrap64 (Int.tdiv a0 1440)) + 4)) 7)) else (some (-1)))) = some r := h
 clear h
 replace H := Option.bind_eq_some_iff.mp H
 obtain ⟨t329, A20, H⟩ := H
 replace H : (if t329 = true then (some (Int.tmod (wrap64 ((wrap64 (Int.tdiv a0 1440)) + 4)) 7)) else (some (-1))) = some r := H
 have A2 := aM A20
 clear A20
 refine Classical.byCases (p := t329 = true) (fun c3 => ?L1p) (fun c3 => ?L1n)
 case' L1p =>
  subst c3
  have H1 : (some (Int.tmod (wrap64 ((wrap64 (Int.tdiv a0 1440)) + 4)) 7)) = some r := by rw [if_pos rfl] at H; exact H
  clear H; have H := H1; clear H1
  obtain rfl := Option.some.inj H
 case' L1n =>
  replace c3 := Bool.eq_false_iff.mpr c3
  subst c3
  have H1 : (some (-1)) = some r := by rw [if_neg (show ¬ (false = true) by decide)] at H; exact H
  clear H; have H := H1; clear H1
  obtain rfl := Option.some.inj H
 case L1p | L1n =>
  go_enter Try.func37, Try.ntmps37
  go_wp2_with (first | ((with_reducible refine gate_callee (f := 17) rfl ?_); refine gL (some 4) Try.func17 #[.int .i64 a0] ?_; (with_reducible refine (impl_isMinute.calls a0 _ _ A2.out).mono ?_); rintro e w' ⟨rfl, ⟨nd, rfl⟩⟩; refine ⟨_, rfl, ?_⟩))
  go_ret
  exact ⟨by first | rfl | (simp; done) | (simp [*]; done), by repeat (first | exact Drawn0.refl _ | apply Drawn0.step)⟩

/-! ### impl_bounds: function 31 -/
def impl_bounds.f (a0 : Int) : Option (Int × Int) := if a0 = 0 then (some (0, 59)) else (if a0 = 1 then (some (0, 23)) else (if a0 = 2 then (some (1, 31)) else (if a0 = 3 then (some (1, 12)) else (some (0, 6)))))
set_option maxHeartbeats 8000000 in
set_option maxRecDepth 100000 in
theorem impl_bounds.calls (a0 : Int) (r1 : Int) (r2 : Int) (w : World) (h : impl_bounds.f a0 = some (r1, r2)) :
 Calls Try.prog 31 #[.int .i64 a0] w fun e w' => e = .returned (.tuple #[.int .i64 r1, .int .i64 r2]) ∧ Drawn0 w w' := by
 have H : (if a0 = 0 then (some (0, 59)) else (if a0 = 1 then (some (0, 23)) else (if a0 = 2 then (some (1, 31)) else (if a0 = 3 then (some (1, 12)) else (some (0, 6)))))) = some (r1, r2) := h
 clear h
 by_cases c2 : a0 = 0
 ·rw [if_pos c2] at H
  have c2b0 : (a0 == 0) = true := beq_iff_eq.mpr c2
  have c2b1 : (a0 != 0) = false := bne_eq_false_iff_eq.mpr c2
  clear c2
  simp only [Option.some.injEq, Prod.mk.injEq] at H
  obtain ⟨rfl, rfl⟩ := H
  go_enter Try.func31, Try.ntmps31
  go_wp2
  go_ret2
  exact ⟨by first | rfl | (simp; done) | (simp [*]; done), by repeat (first | exact Drawn0.refl _ | apply Drawn0.step)⟩
 ·rw [if_neg c2] at H
  have c2b0 : (a0 == 0) = false := beq_eq_false_iff_ne.mpr c2
  have c2b1 : (a0 != 0) = true := bne_iff_ne.mpr c2
  by_cases c3 : a0 = 1
  ·rw [if_pos c3] at H
   have c3b0 : (a0 == 1) = true := beq_iff_eq.mpr c3
   have c3b1 : (a0 != 1) = false := bne_eq_false_iff_eq.mpr c3
   clear c3
   simp only [Option.some.injEq, Prod.mk.injEq] at H
   obtain ⟨rfl, rfl⟩ := H
   go_enter Try.func31, Try.ntmps31
   go_wp2
   go_ret2
   exact ⟨by first | rfl | (simp; done) | (simp [*]; done), by repeat (first | exact Drawn0.refl _ | apply Drawn0.step)⟩
  ·rw [if_neg c3] at H
   have c3b0 : (a0 == 1) = false := beq_eq_false_iff_ne.mpr c3
   have c3b1 : (a0 != 1) = true := bne_iff_ne.mpr c3
   by_cases c4 : a0 = 2
   ·rw [if_pos c4] at H
    have c4b0 : (a0 == 2) = true := beq_iff_eq.mpr c4
    have c4b1 : (a0 != 2) = false := bne_eq_false_iff_eq.mpr c4
    clear c4
    simp only [Option.some.injEq, Prod.mk.injEq] at H
    obtain ⟨rfl, rfl⟩ := H
    go_enter Try.func31, Try.ntmps31
    go_wp2
    go_ret2
    exact ⟨by first | rfl | (simp; done) | (simp [*]; done), by repeat (first | exact Drawn0.refl _ | apply Drawn0.step)⟩
   ·rw [if_neg c4] at H
    have c4b0 : (a0 == 2) = false := beq_eq_false_iff_ne.mpr c4
    have c4b1 : (a0 != 2) = true := bne_iff_ne.mpr c4
    by_cases c5 : a0 = 3
    ·rw [if_pos c5] at H
     have c5b0 : (a0 == 3) = true := beq_iff_eq.mpr c5
     have c5b1 : (a0 != 3) = false := bne_eq_false_iff_eq.mpr c5
     clear c5
     simp only [Option.some.injEq, Prod.mk.injEq] at H
     obtain ⟨rfl, rfl⟩ := H
     go_enter Try.func31, Try.ntmps31
     go_wp2
     go_ret2
     exact ⟨by first | rfl | (simp; done) | (simp [*]; done), by repeat (first | exact Drawn0.refl _ | apply Drawn0.step)⟩
    ·rw [if_neg c5] at H
     have c5b0 : (a0 == 3) = false := beq_eq_false_iff_ne.mpr c5
     have c5b1 : (a0 != 3) = true := bne_iff_ne.mpr c5
     simp only [Option.some.injEq, Prod.mk.injEq] at H
     obtain ⟨rfl, rfl⟩ := H
     go_enter Try.func31, Try.ntmps31
     go_wp2
     go_ret2
     exact ⟨by first | rfl | (simp; done) | (simp [*]; done), by repeat (first | exact Drawn0.refl _ | apply Drawn0.step)⟩

/-! ### impl_isAll: function 38 -/
def impl_isAll.f (l0 : List Int) (a1 : Int) : Option (Bool) := (impl_bounds.f a1).bind fun bt330 => (some ((l0.length : Int) == (wrap64 ((wrap64 (bt330.2 - bt330.1)) + 1))))
set_option maxHeartbeats 8000000 in
set_option maxRecDepth 100000 in
theorem impl_isAll.calls (A0 : Option Addr) (c0 : Nat) (l0 : List Int) (a1 : Int) (r : Bool) (w : World) (hr0 : Kd.C (Kd.int .i64) w A0 l0.length l0) (hc0 : l0.length ≤ c0) (h : impl_isAll.f l0 a1 = some r) :
 Calls Try.prog 38 #[.slice A0 l0.length c0, .int .i64 a1] w fun e w' => e = .returned (.bool r) ∧ Drawn0 w w' := by
 have HR0 := aM hr0
 have HC0 := aM hc0
 clear hr0 hc0
 have H : ((impl_bounds.f a1).bind fun bt330 => (some ((l0.length : Int) == (wrap64 ((wrap64 (bt330.2 - bt330.1)) + 1))))) = some r := h
 clear h
 replace H := Option.bind_eq_some_iff.mp H
 obtain ⟨⟨t330, t331⟩, A30, H⟩ := H
 replace H : (some ((l0.length : Int) == (wrap64 ((wrap64 (t331 - t330)) + 1)))) = some r := H
 have A3 := aM A30
 clear A30
 obtain rfl := Option.some.inj H
 go_enter Try.func38, Try.ntmps38
 go_wp2_with (first | ((with_reducible refine gate_callee (f := 31) rfl ?_); refine gL (some 9) Try.func31 #[.int .i64 a1] ?_; (with_reducible refine (impl_bounds.calls a1 t330 t331 _ A3.out).mono ?_); rintro e w' ⟨rfl, ⟨nd, rfl⟩⟩; refine ⟨_, rfl, ?_⟩))
 go_ret
 exact ⟨by first | rfl | (simp; done) | (simp [*]; done), by repeat (first | exact Drawn0.refl _ | apply Drawn0.step)⟩

/-! ### impl_dayFires: function 24 -/
def impl_dayFires.f (k : Nat) (l0_0 : List Int) (l0_1 : List Int) (l0_2 : List Int) (l0_3 : List Int) (l0_4 : List Int) (a1 : Int) (a2_0 : Int) (a2_1 : Int) (a2_2 : Int) (a2_3 : Int) (a2_4 : Int) : Option (Bool) := (slices_Contains_int_int.f k l0_3 a2_1).bind fun t334 => (if t334 = true then ((slices_Contains_int_int.f k l0_2 a2_2).bind fun t335 => ((impl_WeekdayOf.f a1).bind fun t336 => ((slices_Contains_int_int.f k l0_4 t336).bind fun t337 => ((impl_isAll.f l0_2 2).bind fun t338 => (if t338 = true then (if t335 = true then (some t337) else (some false)) else ((impl_isAll.f l0_4 4).bind fun t339 => (if t339 = true then (if t335 = true then (some t337) else (some false)) else (if t335 = true then (some true) else (some t337))))))))) else (some false))
theorem impl_dayFires.mono : ∀ a0 a1 a2 a3 a4 a5 a6 a7 a8 a9 a10 k, LeO (impl_dayFires.f k a0 a1 a2 a3 a4 a5 a6 a7 a8 a9 a10) (impl_dayFires.f (k + 1) a0 a1 a2 a3 a4 a5 a6 a7 a8 a9 a10) := by
 intro a0 a1 a2 a3 a4 a5 a6 a7 a8 a9 a10 k
 unfold impl_dayFires.f
 repeat' first
  | (with_reducible exact slices_Contains_int_int.mono _ _ _)
  | (with_reducible exact LeO.refl _)
  | (with_reducible exact LeO.none _)
  | (with_reducible refine LeO.ite ?_ ?_)
  | (with_reducible refine LeO.bind ?_ (fun _ => ?_))
  | exact slices_Contains_int_int.mono _ _ _
  | exact LeO.none _
  | refine LeO.ite ?_ ?_
  | refine LeO.bind ?_ (fun _ => ?_)
set_option maxHeartbeats 8000000 in
set_option maxRecDepth 100000 in
theorem impl_dayFires.calls (k : Nat) (A0_0 : Option Addr) (c0_0 : Nat) (l0_0 : List Int) (A0_1 : Option Addr) (c0_1 : Nat) (l0_1 : List Int) (A0_2 : Option Addr) (c0_2 : Nat) (l0_2 : List Int) (A0_3 : Option Addr) (c0_3 : Nat) (l0_3 : List Int) (A0_4 : Option Addr) (c0_4 : Nat) (l0_4 : List Int) (a1 : Int) (a2_0 : Int) (a2_1 : Int) (a2_2 : Int) (a2_3 : Int) (a2_4 : Int) (r : Bool) (w : World) (hr0_0 : Kd.C (Kd.int .i64) w A0_0 l0_0.length l0_0) (hc0_0 : l0_0.length ≤ c0_0) (hr0_1 : Kd.C (Kd.int .i64) w A0_1 l0_1.length l0_1) (hc0_1 : l0_1.length ≤ c0_1) (hr0_2 : Kd.C (Kd.int .i64) w A0_2 l0_2.length l0_2) (hc0_2 : l0_2.length ≤ c0_2) (hr0_3 : Kd.C (Kd.int .i64) w A0_3 l0_3.length l0_3) (hc0_3 : l0_3.length ≤ c0_3) (hr0_4 : Kd.C (Kd.int .i64) w A0_4 l0_4.length l0_4) (hc0_4 : l0_4.length ≤ c0_4) (h : impl_dayFires.f k l0_0 l0_1 l0_2 l0_3 l0_4 a1 a2_0 a2_1 a2_2 a2_3 a2_4 = some r) :
 Calls Try.prog 24 #[.agg #[.slice A0_0 l0_0.length c0_0, .slice A0_1 l0_1.length c0_1, .slice A0_2 l0_2.length c0_2, .slice A0_3 l0_3.length c0_3, .slice A0_4 l0_4.length c0_4], .int .i64 a1, .agg #[.int .i64 a2_0, .int .i64 a2_1, .int .i64 a2_2, .int .i64 a2_3, .int .i64 a2_4]] w fun e w' => e = .returned (.bool r) ∧ Below w.heap.size w w' := by
 have hu26 := Try.underlying26
 have hu51 := Try.underlying51
 have HR0_0 := aM hr0_0
 have HC0_0 := aM hc0_0
 clear hr0_0 hc0_0
 have HR0_1 := aM hr0_1
 have HC0_1 := aM hc0_1
 clear hr0_1 hc0_1
 have HR0_2 := aM hr0_2
 have HC0_2 := aM hc0_2
 clear hr0_2 hc0_2
 have HR0_3 := aM hr0_3
 have HC0_3 := aM hc0_3
 clear hr0_3 hc0_3
 have HR0_4 := aM hr0_4
 have HC0_4 := aM hc0_4
 clear hr0_4 hc0_4
 have HB := aM (Below.refl w.heap.size w)
 have H : ((slices_Contains_int_int.f k l0_3 a2_1).bind fun t334 => (if t334 = true then ((slices_Contains_int_int.f k l0_2 a2_2).bind fun t335 => ((impl_WeekdayOf.f a1).bind fun t336 => ((slices_Contains_int_int.f k l0_4 t336).bind fun t337 => ((impl_isAll.f l0_2 2).bind fun t338 => (if t338 = true then (if t335 = true then (some t337) else (some false)) else ((impl_isAll.f l0_4 4).bind fun t339 => (if t339 = true then (if t335 = true then (some t337) else (some false)) else (if t335 = true then (some true) else (some t337))))))))) else (some false))) = some r := h
 clear h
 replace H := Option.bind_eq_some_iff.mp H
 obtain ⟨t334, A40, H⟩ := H
 try dsimp only at H
 have A4 := aM A40
 clear A40
 refine Classical.byCases (p := t334 = true) (fun c5 => ?L1p) (fun c5 => ?L1n)
 case' L1p =>
  subst c5
  rw [if_pos rfl] at H
  replace H := Option.bind_eq_some_iff.mp H
  obtain ⟨t335, A60, H⟩ := H
  try dsimp only at H
  have A6 := aM A60
  clear A60
  replace H := Option.bind_eq_some_iff.mp H
  obtain ⟨t336, A70, H⟩ := H
  try dsimp only at H
  have A7 := aM A70
  clear A70
  replace H := Option.bind_eq_some_iff.mp H
  obtain ⟨t337, A80, H⟩ := H
  try dsimp only at H
  have A8 := aM A80
  clear A80
  replace H := Option.bind_eq_some_iff.mp H
  obtain ⟨t338, A90, H⟩ := H
  try dsimp only at H
  have A9 := aM A90
  clear A90
  refine Classical.byCases (p := t338 = true) (fun c10 => ?L2p) (fun c10 => ?L2n)
  case' L2p =>
   subst c10
   have H1 : (if t335 = true then (some t337) else (some false)) = some r := by rw [if_pos rfl] at H; exact H
   clear H; have H := H1; clear H1
   refine Classical.byCases (p := t335 = true) (fun c11 => ?L3p) (fun c11 => ?L3n)
   case' L3p =>
    subst c11
    have H1 : (some t337) = some r := by rw [if_pos rfl] at H; exact H
    clear H; have H := H1; clear H1
    obtain rfl := Option.some.inj H
   case' L3n =>
    replace c11 := Bool.eq_false_iff.mpr c11
    subst c11
    have H1 : (some false) = some r := by rw [if_neg (show ¬ (false = true) by decide)] at H; exact H
    clear H; have H := H1; clear H1
    obtain rfl := Option.some.inj H
  case' L2n =>
   replace c10 := Bool.eq_false_iff.mpr c10
   subst c10
   rw [if_neg (show ¬ (false = true) by decide)] at H
   replace H := Option.bind_eq_some_iff.mp H
   obtain ⟨t339, A220, H⟩ := H
   try dsimp only at H
   have A22 := aM A220
   clear A220
   refine Classical.byCases (p := t339 = true) (fun c23 => ?L4p) (fun c23 => ?L4n)
   case' L4p =>
    subst c23
    have H1 : (if t335 = true then (some t337) else (some false)) = some r := by rw [if_pos rfl] at H; exact H
    clear H; have H := H1; clear H1
    refine Classical.byCases (p := t335 = true) (fun c24 => ?L5p) (fun c24 => ?L5n)
    case' L5p =>
     subst c24
     have H1 : (some t337) = some r := by rw [if_pos rfl] at H; exact H
     clear H; have H := H1; clear H1
     obtain rfl := Option.some.inj H
    case' L5n =>
     replace c24 := Bool.eq_false_iff.mpr c24
     subst c24
     have H1 : (some false) = some r := by rw [if_neg (show ¬ (false = true) by decide)] at H; exact H
     clear H; have H := H1; clear H1
     obtain rfl := Option.some.inj H
   case' L4n =>
    replace c23 := Bool.eq_false_iff.mpr c23
    subst c23
    have H1 : (if t335 = true then (some true) else (some t337)) = some r := by rw [if_neg (show ¬ (false = true) by decide)] at H; exact H
    clear H; have H := H1; clear H1
    refine Classical.byCases (p := t335 = true) (fun c35 => ?L6p) (fun c35 => ?L6n)
    case' L6p =>
     subst c35
     have H1 : (some true) = some r := by rw [if_pos rfl] at H; exact H
     clear H; have H := H1; clear H1
     obtain rfl := Option.some.inj H
    case' L6n =>
     replace c35 := Bool.eq_false_iff.mpr c35
     subst c35
     have H1 : (some t337) = some r := by rw [if_neg (show ¬ (false = true) by decide)] at H; exact H
     clear H; have H := H1; clear H1
     obtain rfl := Option.some.inj H
 case' L1n =>
  replace c5 := Bool.eq_false_iff.mpr c5
  subst c5
  have H1 : (some false) = some r := by rw [if_neg (show ¬ (false = true) by decide)] at H; exact H
  clear H; have H := H1; clear H1
  obtain rfl := Option.some.inj H
  go_enter Try.func24, Try.ntmps24
  go_wp2_with (first | ((with_reducible refine gate_dst (N := 3) rfl ?_); refine bxE 3 #[.slice A0_0 l0_0.length c0_0, .slice A0_1 l0_1.length c0_1, .slice A0_2 l0_2.length c0_2, .slice A0_3 l0_3.length c0_3, .slice A0_4 l0_4.length c0_4] 26 ?_; intro gb332 hg w46 hbox hb; have BK332 := aM (hbox); have GW332 := szG hg (uL HB); have GE332 := szG hg (uL HB); replace HB := aM (below_step (uL HB) hb); clear hb hbox hg) | ((with_reducible refine gate_dst (N := 5) rfl ?_); refine bxE 5 #[.int .i64 a2_0, .int .i64 a2_1, .int .i64 a2_2, .int .i64 a2_3, .int .i64 a2_4] 51 ?_; intro gb333 hg w47 hbox hb; have BK333 := aM (hbox); have GW333 := szG hg (uL HB); have GE333 := szG hg (uL HB); have NB332_333 := neL hg BK332; have NB333_332 := neG hg BK332; replace BK332 := blkB BK332 hb; replace HB := aM (below_step (uL HB) hb); clear hb hbox hg; have hnb48 := NB332_333.out; have hnc48 := NB333_332.out; have hcz49_0 := czA BK332.out 0 (.slice A0_0 l0_0.length c0_0); have hcz49_1 := czA BK332.out 1 (.slice A0_1 l0_1.length c0_1); have hcz49_2 := czA BK332.out 2 (.slice A0_2 l0_2.length c0_2); have hcz49_3 := czA BK332.out 3 (.slice A0_3 l0_3.length c0_3); have hcz49_4 := czA BK332.out 4 (.slice A0_4 l0_4.length c0_4); have hfz49_0 := blk_frozen BK332.out 0; have hfz49_1 := blk_frozen BK332.out 1; have hfz49_2 := blk_frozen BK332.out 2; have hfz49_3 := blk_frozen BK332.out 3; have hfz49_4 := blk_frozen BK332.out 4; have hcz50_0 := czA BK333.out 0 (.int .i64 a2_0); have hcz50_1 := czA BK333.out 1 (.int .i64 a2_1); have hcz50_2 := czA BK333.out 2 (.int .i64 a2_2); have hcz50_3 := czA BK333.out 3 (.int .i64 a2_3); have hcz50_4 := czA BK333.out 4 (.int .i64 a2_4); have hfz50_0 := blk_frozen BK333.out 0; have hfz50_1 := blk_frozen BK333.out 1; have hfz50_2 := blk_frozen BK333.out 2; have hfz50_3 := blk_frozen BK333.out 3; have hfz50_4 := blk_frozen BK333.out 4) | (go_at_call 25; (with_reducible refine (slices_Contains_int_int.calls k _ _ l0_3 a2_1 false _ ?side1 ?side2 A4.out).mono ?_); (case side1 => exact uC HR0_3 HB); (case side2 => exact HC0_3.out); rintro e w' ⟨rfl, ⟨nd, rfl⟩⟩; (try first | exact ⟨rfl, _, World.drewN_drewN _ _ _⟩ | exact ⟨rfl, _, Eq.trans (World.drewN_drewN _ _ _) (congrArg (World.drewN _) (Nat.add_assoc _ _ _))⟩)))
  repeat (go_quiet (first | ((with_reducible refine gate_dst (N := 3) rfl ?_); refine bxE 3 #[.slice A0_0 l0_0.length c0_0, .slice A0_1 l0_1.length c0_1, .slice A0_2 l0_2.length c0_2, .slice A0_3 l0_3.length c0_3, .slice A0_4 l0_4.length c0_4] 26 ?_; intro gb332 hg w46 hbox hb; have BK332 := aM (hbox); have GW332 := szG hg (uL HB); have GE332 := szG hg (uL HB); replace HB := aM (below_step (uL HB) hb); clear hb hbox hg) | ((with_reducible refine gate_dst (N := 5) rfl ?_); refine bxE 5 #[.int .i64 a2_0, .int .i64 a2_1, .int .i64 a2_2, .int .i64 a2_3, .int .i64 a2_4] 51 ?_; intro gb333 hg w47 hbox hb; have BK333 := aM (hbox); have GW333 := szG hg (uL HB); have GE333 := szG hg (uL HB); have NB332_333 := neL hg BK332; have NB333_332 := neG hg BK332; replace BK332 := blkB BK332 hb; replace HB := aM (below_step (uL HB) hb); clear hb hbox hg; have hnb48 := NB332_333.out; have hnc48 := NB333_332.out; have hcz49_0 := czA BK332.out 0 (.slice A0_0 l0_0.length c0_0); have hcz49_1 := czA BK332.out 1 (.slice A0_1 l0_1.length c0_1); have hcz49_2 := czA BK332.out 2 (.slice A0_2 l0_2.length c0_2); have hcz49_3 := czA BK332.out 3 (.slice A0_3 l0_3.length c0_3); have hcz49_4 := czA BK332.out 4 (.slice A0_4 l0_4.length c0_4); have hfz49_0 := blk_frozen BK332.out 0; have hfz49_1 := blk_frozen BK332.out 1; have hfz49_2 := blk_frozen BK332.out 2; have hfz49_3 := blk_frozen BK332.out 3; have hfz49_4 := blk_frozen BK332.out 4; have hcz50_0 := czA BK333.out 0 (.int .i64 a2_0); have hcz50_1 := czA BK333.out 1 (.int .i64 a2_1); have hcz50_2 := czA BK333.out 2 (.int .i64 a2_2); have hcz50_3 := czA BK333.out 3 (.int .i64 a2_3); have hcz50_4 := czA BK333.out 4 (.int .i64 a2_4); have hfz50_0 := blk_frozen BK333.out 0; have hfz50_1 := blk_frozen BK333.out 1; have hfz50_2 := blk_frozen BK333.out 2; have hfz50_3 := blk_frozen BK333.out 3; have hfz50_4 := blk_frozen BK333.out 4) | (go_at_call 25; (with_reducible refine (slices_Contains_int_int.calls k _ _ l0_3 a2_1 false _ ?side1 ?side2 A4.out).mono ?_); (case side1 => exact uC HR0_3 HB); (case side2 => exact HC0_3.out); rintro e w' ⟨rfl, ⟨nd, rfl⟩⟩; (try first | exact ⟨rfl, _, World.drewN_drewN _ _ _⟩ | exact ⟨rfl, _, Eq.trans (World.drewN_drewN _ _ _) (congrArg (World.drewN _) (Nat.add_assoc _ _ _))⟩))); try go_wp2_with (first | ((with_reducible refine gate_dst (N := 3) rfl ?_); refine bxE 3 #[.slice A0_0 l0_0.length c0_0, .slice A0_1 l0_1.length c0_1, .slice A0_2 l0_2.length c0_2, .slice A0_3 l0_3.length c0_3, .slice A0_4 l0_4.length c0_4] 26 ?_; intro gb332 hg w46 hbox hb; have BK332 := aM (hbox); have GW332 := szG hg (uL HB); have GE332 := szG hg (uL HB); replace HB := aM (below_step (uL HB) hb); clear hb hbox hg) | ((with_reducible refine gate_dst (N := 5) rfl ?_); refine bxE 5 #[.int .i64 a2_0, .int .i64 a2_1, .int .i64 a2_2, .int .i64 a2_3, .int .i64 a2_4] 51 ?_; intro gb333 hg w47 hbox hb; have BK333 := aM (hbox); have GW333 := szG hg (uL HB); have GE333 := szG hg (uL HB); have NB332_333 := neL hg BK332; have NB333_332 := neG hg BK332; replace BK332 := blkB BK332 hb; replace HB := aM (below_step (uL HB) hb); clear hb hbox hg; have hnb48 := NB332_333.out; have hnc48 := NB333_332.out; have hcz49_0 := czA BK332.out 0 (.slice A0_0 l0_0.length c0_0); have hcz49_1 := czA BK332.out 1 (.slice A0_1 l0_1.length c0_1); have hcz49_2 := czA BK332.out 2 (.slice A0_2 l0_2.length c0_2); have hcz49_3 := czA BK332.out 3 (.slice A0_3 l0_3.length c0_3); have hcz49_4 := czA BK332.out 4 (.slice A0_4 l0_4.length c0_4); have hfz49_0 := blk_frozen BK332.out 0; have hfz49_1 := blk_frozen BK332.out 1; have hfz49_2 := blk_frozen BK332.out 2; have hfz49_3 := blk_frozen BK332.out 3; have hfz49_4 := blk_frozen BK332.out 4; have hcz50_0 := czA BK333.out 0 (.int .i64 a2_0); have hcz50_1 := czA BK333.out 1 (.int .i64 a2_1); have hcz50_2 := czA BK333.out 2 (.int .i64 a2_2); have hcz50_3 := czA BK333.out 3 (.int .i64 a2_3); have hcz50_4 := czA BK333.out 4 (.int .i64 a2_4); have hfz50_0 := blk_frozen BK333.out 0; have hfz50_1 := blk_frozen BK333.out 1; have hfz50_2 := blk_frozen BK333.out 2; have hfz50_3 := blk_frozen BK333.out 3; have hfz50_4 := blk_frozen BK333.out 4) | (go_at_call 25; (with_reducible refine (slices_Contains_int_int.calls k _ _ l0_3 a2_1 false _ ?side1 ?side2 A4.out).mono ?_); (case side1 => exact uC HR0_3 HB); (case side2 => exact HC0_3.out); rintro e w' ⟨rfl, ⟨nd, rfl⟩⟩; (try first | exact ⟨rfl, _, World.drewN_drewN _ _ _⟩ | exact ⟨rfl, _, Eq.trans (World.drewN_drewN _ _ _) (congrArg (World.drewN _) (Nat.add_assoc _ _ _))⟩))))
  go_ret
  exact rX HB
 case L3p | L3n =>
  go_enter Try.func24, Try.ntmps24
  go_wp2_with (first | ((with_reducible refine gate_dst (N := 3) rfl ?_); refine bxE 3 #[.slice A0_0 l0_0.length c0_0, .slice A0_1 l0_1.length c0_1, .slice A0_2 l0_2.length c0_2, .slice A0_3 l0_3.length c0_3, .slice A0_4 l0_4.length c0_4] 26 ?_; intro gb332 hg w12 hbox hb; have BK332 := aM (hbox); have GW332 := szG hg (uL HB); have GE332 := szG hg (uL HB); replace HB := aM (below_step (uL HB) hb); clear hb hbox hg) | ((with_reducible refine gate_dst (N := 5) rfl ?_); refine bxE 5 #[.int .i64 a2_0, .int .i64 a2_1, .int .i64 a2_2, .int .i64 a2_3, .int .i64 a2_4] 51 ?_; intro gb333 hg w13 hbox hb; have BK333 := aM (hbox); have GW333 := szG hg (uL HB); have GE333 := szG hg (uL HB); have NB332_333 := neL hg BK332; have NB333_332 := neG hg BK332; replace BK332 := blkB BK332 hb; replace HB := aM (below_step (uL HB) hb); clear hb hbox hg; have hnb14 := NB332_333.out; have hnc14 := NB333_332.out; have hcz15_0 := czA BK332.out 0 (.slice A0_0 l0_0.length c0_0); have hcz15_1 := czA BK332.out 1 (.slice A0_1 l0_1.length c0_1); have hcz15_2 := czA BK332.out 2 (.slice A0_2 l0_2.length c0_2); have hcz15_3 := czA BK332.out 3 (.slice A0_3 l0_3.length c0_3); have hcz15_4 := czA BK332.out 4 (.slice A0_4 l0_4.length c0_4); have hfz15_0 := blk_frozen BK332.out 0; have hfz15_1 := blk_frozen BK332.out 1; have hfz15_2 := blk_frozen BK332.out 2; have hfz15_3 := blk_frozen BK332.out 3; have hfz15_4 := blk_frozen BK332.out 4; have hcz16_0 := czA BK333.out 0 (.int .i64 a2_0); have hcz16_1 := czA BK333.out 1 (.int .i64 a2_1); have hcz16_2 := czA BK333.out 2 (.int .i64 a2_2); have hcz16_3 := czA BK333.out 3 (.int .i64 a2_3); have hcz16_4 := czA BK333.out 4 (.int .i64 a2_4); have hfz16_0 := blk_frozen BK333.out 0; have hfz16_1 := blk_frozen BK333.out 1; have hfz16_2 := blk_frozen BK333.out 2; have hfz16_3 := blk_frozen BK333.out 3; have hfz16_4 := blk_frozen BK333.out 4) | (go_at_call 25; (with_reducible refine (slices_Contains_int_int.calls k _ _ l0_3 a2_1 true _ ?side1 ?side2 A4.out).mono ?_); (case side1 => exact uC HR0_3 HB); (case side2 => exact HC0_3.out); rintro e w' ⟨rfl, ⟨nd, rfl⟩⟩; (try first | exact ⟨rfl, _, World.drewN_drewN _ _ _⟩ | exact ⟨rfl, _, Eq.trans (World.drewN_drewN _ _ _) (congrArg (World.drewN _) (Nat.add_assoc _ _ _))⟩)) | (go_at_call 25; (with_reducible refine (slices_Contains_int_int.calls k _ _ l0_2 a2_2 _ _ ?side1 ?side2 A6.out).mono ?_); (case side1 => repeat (first | exact (Kd.C_below HR0_2.out (uL HB)) | (with_reducible refine cA ?_ _) | (with_reducible refine cN ?_ _) | (with_reducible refine cD ?_))); (case side2 => exact HC0_2.out); rintro e w' ⟨rfl, ⟨nd, rfl⟩⟩; (try first | exact ⟨rfl, _, World.drewN_drewN _ _ _⟩ | exact ⟨rfl, _, Eq.trans (World.drewN_drewN _ _ _) (congrArg (World.drewN _) (Nat.add_assoc _ _ _))⟩)) | (go_at_call 37; (with_reducible refine (impl_WeekdayOf.calls a1 t336 _ A7.out).mono ?_); rintro e w' ⟨rfl, ⟨nd, rfl⟩⟩; (try first | exact ⟨rfl, _, World.drewN_drewN _ _ _⟩ | exact ⟨rfl, _, Eq.trans (World.drewN_drewN _ _ _) (congrArg (World.drewN _) (Nat.add_assoc _ _ _))⟩)) | (go_at_call 25; (with_reducible refine (slices_Contains_int_int.calls k _ _ l0_4 t336 t337 _ ?side1 ?side2 A8.out).mono ?_); (case side1 => repeat (first | exact (Kd.C_below HR0_4.out (uL HB)) | (with_reducible refine cA ?_ _) | (with_reducible refine cN ?_ _) | (with_reducible refine cD ?_))); (case side2 => exact HC0_4.out); rintro e w' ⟨rfl, ⟨nd, rfl⟩⟩; (try first | exact ⟨rfl, _, World.drewN_drewN _ _ _⟩ | exact ⟨rfl, _, Eq.trans (World.drewN_drewN _ _ _) (congrArg (World.drewN _) (Nat.add_assoc _ _ _))⟩)) | (go_at_call 38; (with_reducible refine (impl_isAll.calls _ _ l0_2 2 true _ ?side1 ?side2 A9.out).mono ?_); (case side1 => repeat (first | exact (Kd.C_below HR0_2.out (uL HB)) | (with_reducible refine cA ?_ _) | (with_reducible refine cN ?_ _) | (with_reducible refine cD ?_))); (case side2 => exact HC0_2.out); rintro e w' ⟨rfl, ⟨nd, rfl⟩⟩; (try first | exact ⟨rfl, _, World.drewN_drewN _ _ _⟩ | exact ⟨rfl, _, Eq.trans (World.drewN_drewN _ _ _) (congrArg (World.drewN _) (Nat.add_assoc _ _ _))⟩)))
  repeat (go_quiet (first | ((with_reducible refine gate_dst (N := 3) rfl ?_); refine bxE 3 #[.slice A0_0 l0_0.length c0_0, .slice A0_1 l0_1.length c0_1, .slice A0_2 l0_2.length c0_2, .slice A0_3 l0_3.length c0_3, .slice A0_4 l0_4.length c0_4] 26 ?_; intro gb332 hg w12 hbox hb; have BK332 := aM (hbox); have GW332 := szG hg (uL HB); have GE332 := szG hg (uL HB); replace HB := aM (below_step (uL HB) hb); clear hb hbox hg) | ((with_reducible refine gate_dst (N := 5) rfl ?_); refine bxE 5 #[.int .i64 a2_0, .int .i64 a2_1, .int .i64 a2_2, .int .i64 a2_3, .int .i64 a2_4] 51 ?_; intro gb333 hg w13 hbox hb; have BK333 := aM (hbox); have GW333 := szG hg (uL HB); have GE333 := szG hg (uL HB); have NB332_333 := neL hg BK332; have NB333_332 := neG hg BK332; replace BK332 := blkB BK332 hb; replace HB := aM (below_step (uL HB) hb); clear hb hbox hg; have hnb14 := NB332_333.out; have hnc14 := NB333_332.out; have hcz15_0 := czA BK332.out 0 (.slice A0_0 l0_0.length c0_0); have hcz15_1 := czA BK332.out 1 (.slice A0_1 l0_1.length c0_1); have hcz15_2 := czA BK332.out 2 (.slice A0_2 l0_2.length c0_2); have hcz15_3 := czA BK332.out 3 (.slice A0_3 l0_3.length c0_3); have hcz15_4 := czA BK332.out 4 (.slice A0_4 l0_4.length c0_4); have hfz15_0 := blk_frozen BK332.out 0; have hfz15_1 := blk_frozen BK332.out 1; have hfz15_2 := blk_frozen BK332.out 2; have hfz15_3 := blk_frozen BK332.out 3; have hfz15_4 := blk_frozen BK332.out 4; have hcz16_0 := czA BK333.out 0 (.int .i64 a2_0); have hcz16_1 := czA BK333.out 1 (.int .i64 a2_1); have hcz16_2 := czA BK333.out 2 (.int .i64 a2_2); have hcz16_3 := czA BK333.out 3 (.int .i64 a2_3); have hcz16_4 := czA BK333.out 4 (.int .i64 a2_4); have hfz16_0 := blk_frozen BK333.out 0; have hfz16_1 := blk_frozen BK333.out 1; have hfz16_2 := blk_frozen BK333.out 2; have hfz16_3 := blk_frozen BK333.out 3; have hfz16_4 := blk_frozen BK333.out 4) | (go_at_call 25; (with_reducible refine (slices_Contains_int_int.calls k _ _ l0_3 a2_1 true _ ?side1 ?side2 A4.out).mono ?_); (case side1 => exact uC HR0_3 HB); (case side2 => exact HC0_3.out); rintro e w' ⟨rfl, ⟨nd, rfl⟩⟩; (try first | exact ⟨rfl, _, World.drewN_drewN _ _ _⟩ | exact ⟨rfl, _, Eq.trans (World.drewN_drewN _ _ _) (congrArg (World.drewN _) (Nat.add_assoc _ _ _))⟩)) | (go_at_call 25; (with_reducible refine (slices_Contains_int_int.calls k _ _ l0_2 a2_2 _ _ ?side1 ?side2 A6.out).mono ?_); (case side1 => repeat (first | exact (Kd.C_below HR0_2.out (uL HB)) | (with_reducible refine cA ?_ _) | (with_reducible refine cN ?_ _) | (with_reducible refine cD ?_))); (case side2 => exact HC0_2.out); rintro e w' ⟨rfl, ⟨nd, rfl⟩⟩; (try first | exact ⟨rfl, _, World.drewN_drewN _ _ _⟩ | exact ⟨rfl, _, Eq.trans (World.drewN_drewN _ _ _) (congrArg (World.drewN _) (Nat.add_assoc _ _ _))⟩)) | (go_at_call 37; (with_reducible refine (impl_WeekdayOf.calls a1 t336 _ A7.out).mono ?_); rintro e w' ⟨rfl, ⟨nd, rfl⟩⟩; (try first | exact ⟨rfl, _, World.drewN_drewN _ _ _⟩ | exact ⟨rfl, _, Eq.trans (World.drewN_drewN _ _ _) (congrArg (World.drewN _) (Nat.add_assoc _ _ _))⟩)) | (go_at_call 25; (with_reducible refine (slices_Contains_int_int.calls k _ _ l0_4 t336 t337 _ ?side1 ?side2 A8.out).mono ?_); (case side1 => repeat (first | exact (Kd.C_below HR0_4.out (uL HB)) | (with_reducible refine cA ?_ _) | (with_reducible refine cN ?_ _) | (with_reducible refine cD ?_))); (case side2 => exact HC0_4.out); rintro e w' ⟨rfl, ⟨nd, rfl⟩⟩; (try first | exact ⟨rfl, _, World.drewN_drewN _ _ _⟩ | exact ⟨rfl, _, Eq.trans (World.drewN_drewN _ _ _) (congrArg (World.drewN _) (Nat.add_assoc _ _ _))⟩)) | (go_at_call 38; (with_reducible refine (impl_isAll.calls _ _ l0_2 2 true _ ?side1 ?side2 A9.out).mono ?_); (case side1 => repeat (first | exact (Kd.C_below HR0_2.out (uL HB)) | (with_reducible refine cA ?_ _) | (with_reducible refine cN ?_ _) | (with_reducible refine cD ?_))); (case side2 => exact HC0_2.out); rintro e w' ⟨rfl, ⟨nd, rfl⟩⟩; (try first | exact ⟨rfl, _, World.drewN_drewN _ _ _⟩ | exact ⟨rfl, _, Eq.trans (World.drewN_drewN _ _ _) (congrArg (World.drewN _) (Nat.add_assoc _ _ _))⟩))); try go_wp2_with (first | ((with_reducible refine gate_dst (N := 3) rfl ?_); refine bxE 3 #[.slice A0_0 l0_0.length c0_0, .slice A0_1 l0_1.length c0_1, .slice A0_2 l0_2.length c0_2, .slice A0_3 l0_3.length c0_3, .slice A0_4 l0_4.length c0_4] 26 ?_; intro gb332 hg w12 hbox hb; have BK332 := aM (hbox); have GW332 := szG hg (uL HB); have GE332 := szG hg (uL HB); replace HB := aM (below_step (uL HB) hb); clear hb hbox hg) | ((with_reducible refine gate_dst (N := 5) rfl ?_); refine bxE 5 #[.int .i64 a2_0, .int .i64 a2_1, .int .i64 a2_2, .int .i64 a2_3, .int .i64 a2_4] 51 ?_; intro gb333 hg w13 hbox hb; have BK333 := aM (hbox); have GW333 := szG hg (uL HB); have GE333 := szG hg (uL HB); have NB332_333 := neL hg BK332; have NB333_332 := neG hg BK332; replace BK332 := blkB BK332 hb; replace HB := aM (below_step (uL HB) hb); clear hb hbox hg; have hnb14 := NB332_333.out; have hnc14 := NB333_332.out; have hcz15_0 := czA BK332.out 0 (.slice A0_0 l0_0.length c0_0); have hcz15_1 := czA BK332.out 1 (.slice A0_1 l0_1.length c0_1); have hcz15_2 := czA BK332.out 2 (.slice A0_2 l0_2.length c0_2); have hcz15_3 := czA BK332.out 3 (.slice A0_3 l0_3.length c0_3); have hcz15_4 := czA BK332.out 4 (.slice A0_4 l0_4.length c0_4); have hfz15_0 := blk_frozen BK332.out 0; have hfz15_1 := blk_frozen BK332.out 1; have hfz15_2 := blk_frozen BK332.out 2; have hfz15_3 := blk_frozen BK332.out 3; have hfz15_4 := blk_frozen BK332.out 4; have hcz16_0 := czA BK333.out 0 (.int .i64 a2_0); have hcz16_1 := czA BK333.out 1 (.int .i64 a2_1); have hcz16_2 := czA BK333.out 2 (.int .i64 a2_2); have hcz16_3 := czA BK333.out 3 (.int .i64 a2_3); have hcz16_4 := czA BK333.out 4 (.int .i64 a2_4); have hfz16_0 := blk_frozen BK333.out 0; have hfz16_1 := blk_frozen BK333.out 1; have hfz16_2 := blk_frozen BK333.out 2; have hfz16_3 := blk_frozen BK333.out 3; have hfz16_4 := blk_frozen BK333.out 4) | (go_at_call 25; (with_reducible refine (slices_Contains_int_int.calls k _ _ l0_3 a2_1 true _ ?side1 ?side2 A4.out).mono ?_); (case side1 => exact uC HR0_3 HB); (case side2 => exact HC0_3.out); rintro e w' ⟨rfl, ⟨nd, rfl⟩⟩; (try first | exact ⟨rfl, _, World.drewN_drewN _ _ _⟩ | exact ⟨rfl, _, Eq.trans (World.drewN_drewN _ _ _) (congrArg (World.drewN _) (Nat.add_assoc _ _ _))⟩)) | (go_at_call 25; (with_reducible refine (slices_Contains_int_int.calls k _ _ l0_2 a2_2 _ _ ?side1 ?side2 A6.out).mono ?_); (case side1 => repeat (first | exact (Kd.C_below HR0_2.out (uL HB)) | (with_reducible refine cA ?_ _) | (with_reducible refine cN ?_ _) | (with_reducible refine cD ?_))); (case side2 => exact HC0_2.out); rintro e w' ⟨rfl, ⟨nd, rfl⟩⟩; (try first | exact ⟨rfl, _, World.drewN_drewN _ _ _⟩ | exact ⟨rfl, _, Eq.trans (World.drewN_drewN _ _ _) (congrArg (World.drewN _) (Nat.add_assoc _ _ _))⟩)) | (go_at_call 37; (with_reducible refine (impl_WeekdayOf.calls a1 t336 _ A7.out).mono ?_); rintro e w' ⟨rfl, ⟨nd, rfl⟩⟩; (try first | exact ⟨rfl, _, World.drewN_drewN _ _ _⟩ | exact ⟨rfl, _, Eq.trans (World.drewN_drewN _ _ _) (congrArg (World.drewN _) (Nat.add_assoc _ _ _))⟩)) | (go_at_call 25; (with_reducible refine (slices_Contains_int_int.calls k _ _ l0_4 t336 t337 _ ?side1 ?side2 A8.out).mono ?_); (case side1 => repeat (first | exact (Kd.C_below HR0_4.out (uL HB)) | (with_reducible refine cA ?_ _) | (with_reducible refine cN ?_ _) | (with_reducible refine cD ?_))); (case side2 => exact HC0_4.out); rintro e w' ⟨rfl, ⟨nd, rfl⟩⟩; (try first | exact ⟨rfl, _, World.drewN_drewN _ _ _⟩ | exact ⟨rfl, _, Eq.trans (World.drewN_drewN _ _ _) (congrArg (World.drewN _) (Nat.add_assoc _ _ _))⟩)) | (go_at_call 38; (with_reducible refine (impl_isAll.calls _ _ l0_2 2 true _ ?side1 ?side2 A9.out).mono ?_); (case side1 => repeat (first | exact (Kd.C_below HR0_2.out (uL HB)) | (with_reducible refine cA ?_ _) | (with_reducible refine cN ?_ _) | (with_reducible refine cD ?_))); (case side2 => exact HC0_2.out); rintro e w' ⟨rfl, ⟨nd, rfl⟩⟩; (try first | exact ⟨rfl, _, World.drewN_drewN _ _ _⟩ | exact ⟨rfl, _, Eq.trans (World.drewN_drewN _ _ _) (congrArg (World.drewN _) (Nat.add_assoc _ _ _))⟩))))
  go_ret
  exact rX HB
 case L5p | L5n | L6p | L6n =>
  go_enter Try.func24, Try.ntmps24
  go_wp2_with (first | ((with_reducible refine gate_dst (N := 3) rfl ?_); refine bxE 3 #[.slice A0_0 l0_0.length c0_0, .slice A0_1 l0_1.length c0_1, .slice A0_2 l0_2.length c0_2, .slice A0_3 l0_3.length c0_3, .slice A0_4 l0_4.length c0_4] 26 ?_; intro gb332 hg w25 hbox hb; have BK332 := aM (hbox); have GW332 := szG hg (uL HB); have GE332 := szG hg (uL HB); replace HB := aM (below_step (uL HB) hb); clear hb hbox hg) | ((with_reducible refine gate_dst (N := 5) rfl ?_); refine bxE 5 #[.int .i64 a2_0, .int .i64 a2_1, .int .i64 a2_2, .int .i64 a2_3, .int .i64 a2_4] 51 ?_; intro gb333 hg w26 hbox hb; have BK333 := aM (hbox); have GW333 := szG hg (uL HB); have GE333 := szG hg (uL HB); have NB332_333 := neL hg BK332; have NB333_332 := neG hg BK332; replace BK332 := blkB BK332 hb; replace HB := aM (below_step (uL HB) hb); clear hb hbox hg; have hnb27 := NB332_333.out; have hnc27 := NB333_332.out; have hcz28_0 := czA BK332.out 0 (.slice A0_0 l0_0.length c0_0); have hcz28_1 := czA BK332.out 1 (.slice A0_1 l0_1.length c0_1); have hcz28_2 := czA BK332.out 2 (.slice A0_2 l0_2.length c0_2); have hcz28_3 := czA BK332.out 3 (.slice A0_3 l0_3.length c0_3); have hcz28_4 := czA BK332.out 4 (.slice A0_4 l0_4.length c0_4); have hfz28_0 := blk_frozen BK332.out 0; have hfz28_1 := blk_frozen BK332.out 1; have hfz28_2 := blk_frozen BK332.out 2; have hfz28_3 := blk_frozen BK332.out 3; have hfz28_4 := blk_frozen BK332.out 4; have hcz29_0 := czA BK333.out 0 (.int .i64 a2_0); have hcz29_1 := czA BK333.out 1 (.int .i64 a2_1); have hcz29_2 := czA BK333.out 2 (.int .i64 a2_2); have hcz29_3 := czA BK333.out 3 (.int .i64 a2_3); have hcz29_4 := czA BK333.out 4 (.int .i64 a2_4); have hfz29_0 := blk_frozen BK333.out 0; have hfz29_1 := blk_frozen BK333.out 1; have hfz29_2 := blk_frozen BK333.out 2; have hfz29_3 := blk_frozen BK333.out 3; have hfz29_4 := blk_frozen BK333.out 4) | (go_at_call 25; (with_reducible refine (slices_Contains_int_int.calls k _ _ l0_3 a2_1 true _ ?side1 ?side2 A4.out).mono ?_); (case side1 => exact uC HR0_3 HB); (case side2 => exact HC0_3.out); rintro e w' ⟨rfl, ⟨nd, rfl⟩⟩; (try first | exact ⟨rfl, _, World.drewN_drewN _ _ _⟩ | exact ⟨rfl, _, Eq.trans (World.drewN_drewN _ _ _) (congrArg (World.drewN _) (Nat.add_assoc _ _ _))⟩)) | (go_at_call 25; (with_reducible refine (slices_Contains_int_int.calls k _ _ l0_2 a2_2 _ _ ?side1 ?side2 A6.out).mono ?_); (case side1 => repeat (first | exact (Kd.C_below HR0_2.out (uL HB)) | (with_reducible refine cA ?_ _) | (with_reducible refine cN ?_ _) | (with_reducible refine cD ?_))); (case side2 => exact HC0_2.out); rintro e w' ⟨rfl, ⟨nd, rfl⟩⟩; (try first | exact ⟨rfl, _, World.drewN_drewN _ _ _⟩ | exact ⟨rfl, _, Eq.trans (World.drewN_drewN _ _ _) (congrArg (World.drewN _) (Nat.add_assoc _ _ _))⟩)) | (go_at_call 37; (with_reducible refine (impl_WeekdayOf.calls a1 t336 _ A7.out).mono ?_); rintro e w' ⟨rfl, ⟨nd, rfl⟩⟩; (try first | exact ⟨rfl, _, World.drewN_drewN _ _ _⟩ | exact ⟨rfl, _, Eq.trans (World.drewN_drewN _ _ _) (congrArg (World.drewN _) (Nat.add_assoc _ _ _))⟩)) | (go_at_call 25; (with_reducible refine (slices_Contains_int_int.calls k _ _ l0_4 t336 t337 _ ?side1 ?side2 A8.out).mono ?_); (case side1 => repeat (first | exact (Kd.C_below HR0_4.out (uL HB)) | (with_reducible refine cA ?_ _) | (with_reducible refine cN ?_ _) | (with_reducible refine cD ?_))); (case side2 => exact HC0_4.out); rintro e w' ⟨rfl, ⟨nd, rfl⟩⟩; (try first | exact ⟨rfl, _, World.drewN_drewN _ _ _⟩ | exact ⟨rfl, _, Eq.trans (World.drewN_drewN _ _ _) (congrArg (World.drewN _) (Nat.add_assoc _ _ _))⟩)) | (go_at_call 38; (with_reducible refine (impl_isAll.calls _ _ l0_2 2 false _ ?side1 ?side2 A9.out).mono ?_); (case side1 => repeat (first | exact (Kd.C_below HR0_2.out (uL HB)) | (with_reducible refine cA ?_ _) | (with_reducible refine cN ?_ _) | (with_reducible refine cD ?_))); (case side2 => exact HC0_2.out); rintro e w' ⟨rfl, ⟨nd, rfl⟩⟩; (try first | exact ⟨rfl, _, World.drewN_drewN _ _ _⟩ | exact ⟨rfl, _, Eq.trans (World.drewN_drewN _ _ _) (congrArg (World.drewN _) (Nat.add_assoc _ _ _))⟩)) | (go_at_call 38; (with_reducible refine (impl_isAll.calls _ _ l0_4 4 _ _ ?side1 ?side2 A22.out).mono ?_); (case side1 => repeat (first | exact (Kd.C_below HR0_4.out (uL HB)) | (with_reducible refine cA ?_ _) | (with_reducible refine cN ?_ _) | (with_reducible refine cD ?_))); (case side2 => exact HC0_4.out); rintro e w' ⟨rfl, ⟨nd, rfl⟩⟩; (try first | exact ⟨rfl, _, World.drewN_drewN _ _ _⟩ | exact ⟨rfl, _, Eq.trans (World.drewN_drewN _ _ _) (congrArg (World.drewN _) (Nat.add_assoc _ _ _))⟩)))
  repeat (go_quiet (first | ((with_reducible refine gate_dst (N := 3) rfl ?_); refine bxE 3 #[.slice A0_0 l0_0.length c0_0, .slice A0_1 l0_1.length c0_1, .slice A0_2 l0_2.length c0_2, .slice A0_3 l0_3.length c0_3, .slice A0_4 l0_4.length c0_4] 26 ?_; intro gb332 hg w25 hbox hb; have BK332 := aM (hbox); have GW332 := szG hg (uL HB); have GE332 := szG hg (uL HB); replace HB := aM (below_step (uL HB) hb); clear hb hbox hg) | ((with_reducible refine gate_dst (N := 5) rfl ?_); refine bxE 5 #[.int .i64 a2_0, .int .i64 a2_1, .int .i64 a2_2, .int .i64 a2_3, .int .i64 a2_4] 51 ?_; intro gb333 hg w26 hbox hb; have BK333 := aM (hbox); have GW333 := szG hg (uL HB); have GE333 := szG hg (uL HB); have NB332_333 := neL hg BK332; have NB333_332 := neG hg BK332; replace BK332 := blkB BK332 hb; replace HB := aM (below_step (uL HB) hb); clear hb hbox hg; have hnb27 := NB332_333.out; have hnc27 := NB333_332.out; have hcz28_0 := czA BK332.out 0 (.slice A0_0 l0_0.length c0_0); have hcz28_1 := czA BK332.out 1 (.slice A0_1 l0_1.length c0_1); have hcz28_2 := czA BK332.out 2 (.slice A0_2 l0_2.length c0_2); have hcz28_3 := czA BK332.out 3 (.slice A0_3 l0_3.length c0_3); have hcz28_4 := czA BK332.out 4 (.slice A0_4 l0_4.length c0_4); have hfz28_0 := blk_frozen BK332.out 0; have hfz28_1 := blk_frozen BK332.out 1; have hfz28_2 := blk_frozen BK332.out 2; have hfz28_3 := blk_frozen BK332.out 3; have hfz28_4 := blk_frozen BK332.out 4; have hcz29_0 := czA BK333.out 0 (.int .i64 a2_0); have hcz29_1 := czA BK333.out 1 (.int .i64 a2_1); have hcz29_2 := czA BK333.out 2 (.int .i64 a2_2); have hcz29_3 := czA BK333.out 3 (.int .i64 a2_3); have hcz29_4 := czA BK333.out 4 (.int .i64 a2_4); have hfz29_0 := blk_frozen BK333.out 0; have hfz29_1 := blk_frozen BK333.out 1; have hfz29_2 := blk_frozen BK333.out 2; have hfz29_3 := blk_frozen BK333.out 3; have hfz29_4 := blk_frozen BK333.out 4) | (go_at_call 25; (with_reducible refine (slices_Contains_int_int.calls k _ _ l0_3 a2_1 true _ ?side1 ?side2 A4.out).mono ?_); (case side1 => exact uC HR0_3 HB); (case side2 => exact HC0_3.out); rintro e w' ⟨rfl, ⟨nd, rfl⟩⟩; (try first | exact ⟨rfl, _, World.drewN_drewN _ _ _⟩ | exact ⟨rfl, _, Eq.trans (World.drewN_drewN _ _ _) (congrArg (World.drewN _) (Nat.add_assoc _ _ _))⟩)) | (go_at_call 25; (with_reducible refine (slices_Contains_int_int.calls k _ _ l0_2 a2_2 _ _ ?side1 ?side2 A6.out).mono ?_); (case side1 => repeat (first | exact (Kd.C_below HR0_2.out (uL HB)) | (with_reducible refine cA ?_ _) | (with_reducible refine cN ?_ _) | (with_reducible refine cD ?_))); (case side2 => exact HC0_2.out); rintro e w' ⟨rfl, ⟨nd, rfl⟩⟩; (try first | exact ⟨rfl, _, World.drewN_drewN _ _ _⟩ | exact ⟨rfl, _, Eq.trans (World.drewN_drewN _ _ _) (congrArg (World.drewN _) (Nat.add_assoc _ _ _))⟩)) | (go_at_call 37; (with_reducible refine (impl_WeekdayOf.calls a1 t336 _ A7.out).mono ?_); rintro e w' ⟨rfl, ⟨nd, rfl⟩⟩; (try first | exact ⟨rfl, _, World.drewN_drewN _ _ _⟩ | exact ⟨rfl, _, Eq.trans (World.drewN_drewN _ _ _) (congrArg (World.drewN _) (Nat.add_assoc _ _ _))⟩)) | (go_at_call 25; (with_reducible refine (slices_Contains_int_int.calls k _ _ l0_4 t336 t337 _ ?side1 ?side2 A8.out).mono ?_); (case side1 => repeat (first | exact (Kd.C_below HR0_4.out (uL HB)) | (with_reducible refine cA ?_ _) | (with_reducible refine cN ?_ _) | (with_reducible refine cD ?_))); (case side2 => exact HC0_4.out); rintro e w' ⟨rfl, ⟨nd, rfl⟩⟩; (try first | exact ⟨rfl, _, World.drewN_drewN _ _ _⟩ | exact ⟨rfl, _, Eq.trans (World.drewN_drewN _ _ _) (congrArg (World.drewN _) (Nat.add_assoc _ _ _))⟩)) | (go_at_call 38; (with_reducible refine (impl_isAll.calls _ _ l0_2 2 false _ ?side1 ?side2 A9.out).mono ?_); (case side1 => repeat (first | exact (Kd.C_below HR0_2.out (uL HB)) | (with_reducible refine cA ?_ _) | (with_reducible refine cN ?_ _) | (with_reducible refine cD ?_))); (case side2 => exact HC0_2.out); rintro e w' ⟨rfl, ⟨nd, rfl⟩⟩; (try first | exact ⟨rfl, _, World.drewN_drewN _ _ _⟩ | exact ⟨rfl, _, Eq.trans (World.drewN_drewN _ _ _) (congrArg (World.drewN _) (Nat.add_assoc _ _ _))⟩)) | (go_at_call 38; (with_reducible refine (impl_isAll.calls _ _ l0_4 4 _ _ ?side1 ?side2 A22.out).mono ?_); (case side1 => repeat (first | exact (Kd.C_below HR0_4.out (uL HB)) | (with_reducible refine cA ?_ _) | (with_reducible refine cN ?_ _) | (with_reducible refine cD ?_))); (case side2 => exact HC0_4.out); rintro e w' ⟨rfl, ⟨nd, rfl⟩⟩; (try first | exact ⟨rfl, _, World.drewN_drewN _ _ _⟩ | exact ⟨rfl, _, Eq.trans (World.drewN_drewN _ _ _) (congrArg (World.drewN _) (Nat.add_assoc _ _ _))⟩))); try go_wp2_with (first | ((with_reducible refine gate_dst (N := 3) rfl ?_); refine bxE 3 #[.slice A0_0 l0_0.length c0_0, .slice A0_1 l0_1.length c0_1, .slice A0_2 l0_2.length c0_2, .slice A0_3 l0_3.length c0_3, .slice A0_4 l0_4.length c0_4] 26 ?_; intro gb332 hg w25 hbox hb; have BK332 := aM (hbox); have GW332 := szG hg (uL HB); have GE332 := szG hg (uL HB); replace HB := aM (below_step (uL HB) hb); clear hb hbox hg) | ((with_reducible refine gate_dst (N := 5) rfl ?_); refine bxE 5 #[.int .i64 a2_0, .int .i64 a2_1, .int .i64 a2_2, .int .i64 a2_3, .int .i64 a2_4] 51 ?_; intro gb333 hg w26 hbox hb; have BK333 := aM (hbox); have GW333 := szG hg (uL HB); have GE333 := szG hg (uL HB); have NB332_333 := neL hg BK332; have NB333_332 := neG hg BK332; replace BK332 := blkB BK332 hb; replace HB := aM (below_step (uL HB) hb); clear hb hbox hg; have hnb27 := NB332_333.out; have hnc27 := NB333_332.out; have hcz28_0 := czA BK332.out 0 (.slice A0_0 l0_0.length c0_0); have hcz28_1 := czA BK332.out 1 (.slice A0_1 l0_1.length c0_1); have hcz28_2 := czA BK332.out 2 (.slice A0_2 l0_2.length c0_2); have hcz28_3 := czA BK332.out 3 (.slice A0_3 l0_3.length c0_3); have hcz28_4 := czA BK332.out 4 (.slice A0_4 l0_4.length c0_4); have hfz28_0 := blk_frozen BK332.out 0; have hfz28_1 := blk_frozen BK332.out 1; have hfz28_2 := blk_frozen BK332.out 2; have hfz28_3 := blk_frozen BK332.out 3; have hfz28_4 := blk_frozen BK332.out 4; have hcz29_0 := czA BK333.out 0 (.int .i64 a2_0); have hcz29_1 := czA BK333.out 1 (.int .i64 a2_1); have hcz29_2 := czA BK333.out 2 (.int .i64 a2_2); have hcz29_3 := czA BK333.out 3 (.int .i64 a2_3); have hcz29_4 := czA BK333.out 4 (.int .i64 a2_4); have hfz29_0 := blk_frozen BK333.out 0; have hfz29_1 := blk_frozen BK333.out 1; have hfz29_2 := blk_frozen BK333.out 2; have hfz29_3 := blk_frozen BK333.out 3; have hfz29_4 := blk_frozen BK333.out 4) | (go_at_call 25; (with_reducible refine (slices_Contains_int_int.calls k _ _ l0_3 a2_1 true _ ?side1 ?side2 A4.out).mono ?_); (case side1 => exact uC HR0_3 HB); (case side2 => exact HC0_3.out); rintro e w' ⟨rfl, ⟨nd, rfl⟩⟩; (try first | exact ⟨rfl, _, World.drewN_drewN _ _ _⟩ | exact ⟨rfl, _, Eq.trans (World.drewN_drewN _ _ _) (congrArg (World.drewN _) (Nat.add_assoc _ _ _))⟩)) | (go_at_call 25; (with_reducible refine (slices_Contains_int_int.calls k _ _ l0_2 a2_2 _ _ ?side1 ?side2 A6.out).mono ?_); (case side1 => repeat (first | exact (Kd.C_below HR0_2.out (uL HB)) | (with_reducible refine cA ?_ _) | (with_reducible refine cN ?_ _) | (with_reducible refine cD ?_))); (case side2 => exact HC0_2.out); rintro e w' ⟨rfl, ⟨nd, rfl⟩⟩; (try first | exact ⟨rfl, _, World.drewN_drewN _ _ _⟩ | exact ⟨rfl, _, Eq.trans (World.drewN_drewN _ _ _) (congrArg (World.drewN _) (Nat.add_assoc _ _ _))⟩)) | (go_at_call 37; (with_reducible refine (impl_WeekdayOf.calls a1 t336 _ A7.out).mono ?_); rintro e w' ⟨rfl, ⟨nd, rfl⟩⟩; (try first | exact ⟨rfl, _, World.drewN_drewN _ _ _⟩ | exact ⟨rfl, _, Eq.trans (World.drewN_drewN _ _ _) (congrArg (World.drewN _) (Nat.add_assoc _ _ _))⟩)) | (go_at_call 25; (with_reducible refine (slices_Contains_int_int.calls k _ _ l0_4 t336 t337 _ ?side1 ?side2 A8.out).mono ?_); (case side1 => repeat (first | exact (Kd.C_below HR0_4.out (uL HB)) | (with_reducible refine cA ?_ _) | (with_reducible refine cN ?_ _) | (with_reducible refine cD ?_))); (case side2 => exact HC0_4.out); rintro e w' ⟨rfl, ⟨nd, rfl⟩⟩; (try first | exact ⟨rfl, _, World.drewN_drewN _ _ _⟩ | exact ⟨rfl, _, Eq.trans (World.drewN_drewN _ _ _) (congrArg (World.drewN _) (Nat.add_assoc _ _ _))⟩)) | (go_at_call 38; (with_reducible refine (impl_isAll.calls _ _ l0_2 2 false _ ?side1 ?side2 A9.out).mono ?_); (case side1 => repeat (first | exact (Kd.C_below HR0_2.out (uL HB)) | (with_reducible refine cA ?_ _) | (with_reducible refine cN ?_ _) | (with_reducible refine cD ?_))); (case side2 => exact HC0_2.out); rintro e w' ⟨rfl, ⟨nd, rfl⟩⟩; (try first | exact ⟨rfl, _, World.drewN_drewN _ _ _⟩ | exact ⟨rfl, _, Eq.trans (World.drewN_drewN _ _ _) (congrArg (World.drewN _) (Nat.add_assoc _ _ _))⟩)) | (go_at_call 38; (with_reducible refine (impl_isAll.calls _ _ l0_4 4 _ _ ?side1 ?side2 A22.out).mono ?_); (case side1 => repeat (first | exact (Kd.C_below HR0_4.out (uL HB)) | (with_reducible refine cA ?_ _) | (with_reducible refine cN ?_ _) | (with_reducible refine cD ?_))); (case side2 => exact HC0_4.out); rintro e w' ⟨rfl, ⟨nd, rfl⟩⟩; (try first | exact ⟨rfl, _, World.drewN_drewN _ _ _⟩ | exact ⟨rfl, _, Eq.trans (World.drewN_drewN _ _ _) (congrArg (World.drewN _) (Nat.add_assoc _ _ _))⟩))))
  go_ret
  exact rX HB

end Go.Proofs.Ythomiofokkkhgaa.QFnCounts
