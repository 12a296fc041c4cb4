-- Written by a program of this session's own (wip/turnprint.py over the kit's print); Lean checks it.
import Derived.Test.YtidfhfaekdahpaaQFnDaysx0
import Derived.Test.YtidfhfaekdahpaaQFnDaysx3
namespace Go.Proofs.Ytidfhfaekdahpaa.QFnDays
open Go.RowKit Go.Proofs.YtidfhfaekdahpaaW.PrintWords Go.Proofs.YtidfhfaekdahpaaW.PrintLast Go.Proofs.YtidfhfaekdahpaaW.PrintMore
attribute [local go_sem] max2_int min2_int max_two min_two max_three min_three max_four min_four   -- for this text's walks alone
attribute [local go_sem] Go.Proofs.YtidfhfaekdahpaaQWords.run_lss_str
attribute [local go_sem] Go.Proofs.YtidfhfaekdahpaaQWords.run_geq_str
attribute [local go_sem] Go.Proofs.YtidfhfaekdahpaaQWords.run_leq_str
attribute [local go_sem] Go.Proofs.YtidfhfaekdahpaaQWords.run_gtr_str
set_option linter.unusedVariables false
set_option linter.unusedSimpArgs false

/-! ### impl_isMinute: function 98 -/
def impl_isMinute.f (a0 : Int) : Option (Bool) := (impl_inRange.f a0 0 68374079).bind fun t212 => (some t212)
set_option maxHeartbeats 8000000 in
set_option maxRecDepth 100000 in
theorem impl_isMinute.calls (a0 : Int) (r : Bool) (w : World) (h : impl_isMinute.f a0 = some r) :
    Calls Try.prog 98 #[.int .i64 a0] w fun e w' => e = .returned (.bool r) ∧ Drawn0 w w' := by
  have H : ((impl_inRange.f a0 0 68374079).bind fun t212 => (some t212)) = some r := h
  clear h
  replace H := Option.bind_eq_some_iff.mp H
  obtain ⟨t212, A20, H⟩ := H
  replace H : (some t212) = some r := H
  have A2 := aM A20
  clear A20
  obtain rfl := Option.some.inj H
  go_enter Try.func98, Try.ntmps98
  go_wp2_with (first | ((with_reducible refine gate_callee (f := 94) rfl ?_); refine goesL_ (some 4) rfl rfl Try.func94 (by kernel_rfl) rfl #[.int .i64 a0, .int .i64 0, .int .i64 68374079] rfl (by (try simp only [mT, mC, mN]); first | done | rfl | (simp only [lDr, lTk]; rfl)) ?_; (with_reducible refine (impl_inRange.calls a0 0 68374079 t212 _ A2.out).mono ?_); rintro e w' ⟨rfl, ⟨nd, rfl⟩⟩; refine ⟨_, rfl, ?_⟩))
  go_ret
  exact ⟨by first | rfl | (simp; done) | (simp [*]; done), by repeat (first | exact Drawn0.refl _ | apply Drawn0.step)⟩

/-! ### impl_CivilOf: function 54 -/
mutual
def impl_CivilOf.l0 : Nat → Int → Int → Int → Int → Int → Int → Option (Int × Int × Int × Int × Int × Bool)
  | 0, _, _, _, _, _, _ => none
  | k + 1, x4, x216000, x216001, x216002, x216003, x216004 => (impl_daysOf.f x216000).bind fun t216 => (if x4 ≥ t216 then ((impl_daysOf.f x216000).bind fun t217 => (impl_CivilOf.l0 k (wrap64 (x4 - t217)) (wrap64 (x216000 + 1)) x216001 x216002 x216003 x216004)) else (impl_CivilOf.l1 k x4 x216000 x216001 x216002 x216003 x216004))
def impl_CivilOf.l1 : Nat → Int → Int → Int → Int → Int → Int → Option (Int × Int × Int × Int × Int × Bool)
  | 0, _, _, _, _, _, _ => none
  | k + 1, x4, x216000, x216001, x216002, x216003, x216004 => (impl_DaysIn.f k x216000 x216001).bind fun t218 => (if x4 ≥ t218 then ((impl_DaysIn.f k x216000 x216001).bind fun t219 => (impl_CivilOf.l1 k (wrap64 (x4 - t219)) x216000 (wrap64 (x216001 + 1)) x216002 x216003 x216004)) else (some (x216000, x216001, wrap64 (x4 + 1), x216003, x216004, true)))
end
def impl_CivilOf.f (k : Nat) (a0 : Int) : Option (Int × Int × Int × Int × Int × Bool) := (impl_isMinute.f a0).bind fun t214 => (if t214 = true then (impl_CivilOf.l0 k (wrap64 (Int.tdiv a0 1440)) 1970 1 0 (wrap64 (Int.tdiv (Int.tmod a0 1440) 60)) (Int.tmod a0 60)) else (some (0, 0, 0, 0, 0, false)))
theorem impl_CivilOf.mono_l : ∀ k, (∀ y0 y1 y2 y3 y4 y5, LeO (impl_CivilOf.l0 k y0 y1 y2 y3 y4 y5) (impl_CivilOf.l0 (k + 1) y0 y1 y2 y3 y4 y5)) ∧ (∀ y0 y1 y2 y3 y4 y5, LeO (impl_CivilOf.l1 k y0 y1 y2 y3 y4 y5) (impl_CivilOf.l1 (k + 1) y0 y1 y2 y3 y4 y5))
  | 0 => ⟨fun _ _ _ _ _ _ r h => by simp [impl_CivilOf.l0] at h, fun _ _ _ _ _ _ r h => by simp [impl_CivilOf.l1] at h⟩
  | k + 1 => by
    obtain ⟨ih0, ih1⟩ := impl_CivilOf.mono_l k
    refine ⟨?_, ?_⟩
    · intro y0 y1 y2 y3 y4 y5
      unfold impl_CivilOf.l0
      repeat' first
      | (with_reducible exact ih0 _ _ _ _ _ _)
      | (with_reducible exact ih1 _ _ _ _ _ _)
      | (with_reducible exact impl_DaysIn.mono _ _ _)
      | (with_reducible exact LeO.refl _)
      | (with_reducible exact LeO.none _)
      | (with_reducible refine LeO.ite ?_ ?_)
      | (with_reducible refine LeO.bind ?_ (fun _ => ?_))
      | exact ih0 _ _ _ _ _ _
      | exact ih1 _ _ _ _ _ _
      | exact impl_DaysIn.mono _ _ _
      | exact LeO.none _
      | refine LeO.ite ?_ ?_
      | refine LeO.bind ?_ (fun _ => ?_)
    · intro y0 y1 y2 y3 y4 y5
      unfold impl_CivilOf.l1
      repeat' first
      | (with_reducible exact ih0 _ _ _ _ _ _)
      | (with_reducible exact ih1 _ _ _ _ _ _)
      | (with_reducible exact impl_DaysIn.mono _ _ _)
      | (with_reducible exact LeO.refl _)
      | (with_reducible exact LeO.none _)
      | (with_reducible refine LeO.ite ?_ ?_)
      | (with_reducible refine LeO.bind ?_ (fun _ => ?_))
      | exact ih0 _ _ _ _ _ _
      | exact ih1 _ _ _ _ _ _
      | exact impl_DaysIn.mono _ _ _
      | exact LeO.none _
      | refine LeO.ite ?_ ?_
      | refine LeO.bind ?_ (fun _ => ?_)
theorem impl_CivilOf.mono : ∀ a0 k, LeO (impl_CivilOf.f k a0) (impl_CivilOf.f (k + 1) a0) := by
  intro a0 k
  obtain ⟨ih0, ih1⟩ := impl_CivilOf.mono_l k
  unfold impl_CivilOf.f
  repeat' first
      | (with_reducible exact ih0 _ _ _ _ _ _)
      | (with_reducible exact ih1 _ _ _ _ _ _)
      | (with_reducible exact impl_DaysIn.mono _ _ _)
      | (with_reducible exact LeO.refl _)
      | (with_reducible exact LeO.none _)
      | (with_reducible refine LeO.ite ?_ ?_)
      | (with_reducible refine LeO.bind ?_ (fun _ => ?_))
      | exact ih0 _ _ _ _ _ _
      | exact ih1 _ _ _ _ _ _
      | exact impl_DaysIn.mono _ _ _
      | exact LeO.none _
      | refine LeO.ite ?_ ?_
      | refine LeO.bind ?_ (fun _ => ?_)
set_option maxHeartbeats 8000000 in
set_option maxRecDepth 100000 in
theorem impl_CivilOf.calls (k : Nat) (a0 : Int) (r1 : Int) (r2 : Int) (r3 : Int) (r4 : Int) (r5 : Int) (r6 : Bool) (w : World) (h : impl_CivilOf.f k a0 = some (r1, r2, r3, r4, r5, r6)) :
    Calls Try.prog 54 #[.int .i64 a0] w fun e w' => e = .returned (.tuple #[.agg #[.int .i64 r1, .int .i64 r2, .int .i64 r3, .int .i64 r4, .int .i64 r5], .bool r6]) ∧ Below w.heap.size w w' := by
  have hu72 := Try.underlying72
  have HB := aM (Below.refl w.heap.size w)
  have H : ((impl_isMinute.f a0).bind fun t214 => (if t214 = true then (impl_CivilOf.l0 k (wrap64 (Int.tdiv a0 1440)) 1970 1 0 (wrap64 (Int.tdiv (Int.tmod a0 1440) 60)) (Int.tmod a0 60)) else (some (0, 0, 0, 0, 0, false)))) = some (r1, r2, r3, r4, r5, r6) := h
  clear h
  replace H := Option.bind_eq_some_iff.mp H
  obtain ⟨t214, A20, H⟩ := H
  replace H : (if t214 = true then (impl_CivilOf.l0 k (wrap64 (Int.tdiv a0 1440)) 1970 1 0 (wrap64 (Int.tdiv (Int.tmod a0 1440) 60)) (Int.tmod a0 60)) else (some (0, 0, 0, 0, 0, false))) = some (r1, r2, r3, r4, r5, r6) := H
  have A2 := aM A20
  clear A20
  by_cases c3 : t214 = true
  · subst c3
    have H1 : (impl_CivilOf.l0 k (wrap64 (Int.tdiv a0 1440)) 1970 1 0 (wrap64 (Int.tdiv (Int.tmod a0 1440) 60)) (Int.tmod a0 60)) = some (r1, r2, r3, r4, r5, r6) := by rw [if_pos rfl] at H; exact H
    clear H
    have H := H1
    clear H1
    have H' := aM H
    clear H
    go_enter Try.func54, Try.ntmps54
    go_wp2_with (first | ((with_reducible refine gate_dst (N := 2) rfl ?_); refine box_event ?hg (N := 2) ?hd (cs := #[.int .i64 0, .int .i64 0, .int .i64 0, .int .i64 0, .int .i64 0]) (t := 72) ?hr ?_; (case hd => rfl); (case hg => rfl); (case hr => first | (go_simp; done) | (go_simp; rfl)); intro gb213 hg w4 hbox hb; have n0_ := aM (below_step (by repeat (first | (with_reducible first | exact HB.out | apply lA | apply lN | apply lD) | exact HB.out)) hb); have n1_ := aM (hbox); have n2_ := aM ((by rw [hg]; exact (below_size (by repeat (first | (with_reducible first | exact HB.out | apply lA | apply lN | apply lD) | exact HB.out))) : w.heap.size ≤ gb213)); have n3_ := aM ((by rw [hg]; exact (below_size (by repeat (first | (with_reducible first | exact HB.out | apply lA | apply lN | apply lD) | exact HB.out))) : w.heap.size ≤ gb213)); clear HB; have HB := n0_; have BK213 := n1_; have GW213 := n2_; have GE213 := n3_; clear n0_ n1_ n2_ n3_; clear hb hbox hg) | ((with_reducible refine gate_callee (f := 98) rfl ?_); refine goesL_ (some 8) rfl rfl Try.func98 (by kernel_rfl) rfl #[.int .i64 a0] rfl (by (try simp only [mT, mC, mN]); first | done | rfl | (simp only [lDr, lTk]; rfl)) ?_; (with_reducible refine (impl_isMinute.calls a0 true _ A2.out).mono ?_); rintro e w' ⟨rfl, ⟨nd, rfl⟩⟩; refine ⟨_, rfl, ?_⟩; (try (rw [drewN_self w4]; generalize hq_ : World.drewN w4 _ = w4; have n0_ : Aside0 (w4.heap[gb213]? = some (.cells #[.int .i64 0, .int .i64 0, .int .i64 0, .int .i64 0, .int .i64 0] 72 (0, 0))) := ⟨by rw [← hq_]; exact (by (with_reducible repeat first | apply bN | apply bD | apply bA); exact BK213.out)⟩; have n1_ : Aside0 (Below w.heap.size w w4) := ⟨by rw [← hq_]; exact (by repeat (first | (with_reducible first | exact HB.out | apply lA | apply lN | apply lD | refine lS ?_ GE213.out) | exact HB.out))⟩; clear BK213 HB hq_; have BK213 := n0_; have HB := n1_; clear n0_ n1_))) | ((with_reducible refine gate_dst (N := 6) rfl ?_); refine box_event ?hg (N := 6) ?hd (cs := #[.int .i64 0, .int .i64 0, .int .i64 0, .int .i64 0, .int .i64 0]) (t := 72) ?hr ?_; (case hd => rfl); (case hg => rfl); (case hr => first | (go_simp; done) | (go_simp; rfl)); intro gb215 hg w5 hbox hb; have n0_ := aM (blk_below (g := gb213) (o := .cells #[.int .i64 0, .int .i64 0, .int .i64 0, .int .i64 0, .int .i64 0] 72 (0, 0)) (by (with_reducible repeat first | apply bN | apply bD | apply bA); exact BK213.out) hb); have n1_ := aM (below_step (by repeat (first | (with_reducible first | exact HB.out | apply lA | apply lN | apply lD | refine lS ?_ GE213.out) | exact HB.out)) hb); have n2_ := aM (hbox); have n3_ := aM ((by rw [hg]; exact (below_size (by repeat (first | (with_reducible first | exact HB.out | apply lA | apply lN | apply lD | refine lS ?_ GE213.out) | exact HB.out))) : w.heap.size ≤ gb215)); have n4_ := aM ((by rw [hg]; exact (below_size (by repeat (first | (with_reducible first | exact HB.out | apply lA | apply lN | apply lD | refine lS ?_ GE213.out) | exact HB.out))) : w.heap.size ≤ gb215)); have n5_ := aM ((by rw [hg]; exact Nat.ne_of_lt (blk_lt (g := gb213) (o := .cells #[.int .i64 0, .int .i64 0, .int .i64 0, .int .i64 0, .int .i64 0] 72 (0, 0)) (by (with_reducible repeat first | apply bN | apply bD | apply bA); exact BK213.out)) : gb213 ≠ gb215)); have n6_ := aM ((by rw [hg]; exact Nat.ne_of_gt (blk_lt (g := gb213) (o := .cells #[.int .i64 0, .int .i64 0, .int .i64 0, .int .i64 0, .int .i64 0] 72 (0, 0)) (by (with_reducible repeat first | apply bN | apply bD | apply bA); exact BK213.out)) : gb215 ≠ gb213)); clear BK213; clear HB; have BK213 := n0_; have HB := n1_; have BK215 := n2_; have GW215 := n3_; have GE215 := n4_; have NB213_215 := n5_; have NB215_213 := n6_; clear n0_ n1_ n2_ n3_ n4_ n5_ n6_; clear hb hbox hg; have hnb6 := NB215_213.out; have hnc6 := NB213_215.out; have hcz7_0 : w5.cell? ⟨gb215, 0, none⟩ = some (.int .i64 0) := (blk_cell BK215.out 0).trans rfl; have hcz7_1 : w5.cell? ⟨gb215, 1, none⟩ = some (.int .i64 0) := (blk_cell BK215.out 1).trans rfl; have hcz7_2 : w5.cell? ⟨gb215, 2, none⟩ = some (.int .i64 0) := (blk_cell BK215.out 2).trans rfl; have hcz7_3 : w5.cell? ⟨gb215, 3, none⟩ = some (.int .i64 0) := (blk_cell BK215.out 3).trans rfl; have hcz7_4 : w5.cell? ⟨gb215, 4, none⟩ = some (.int .i64 0) := (blk_cell BK215.out 4).trans rfl; have hfz7_0 := blk_frozen BK215.out 0; have hfz7_1 := blk_frozen BK215.out 1; have hfz7_2 := blk_frozen BK215.out 2; have hfz7_3 := blk_frozen BK215.out 3; have hfz7_4 := blk_frozen BK215.out 4))
    go_loopg [4] k (fun kq v4 w' => ∃ (x4_1 : Int) (x216000_1 : Int), v4 = .int .i64 x4_1 ∧ Aside0 (impl_CivilOf.l0 kq x4_1 x216000_1 1 0 (wrap64 (Int.tdiv (Int.tmod a0 1440) 60)) (Int.tmod a0 60) = some (r1, r2, r3, r4, r5, r6)) ∧ Aside0 (kq ≤ k) ∧ Aside0 (w'.heap[gb213]? = some (.cells #[.int .i64 0, .int .i64 0, .int .i64 0, .int .i64 0, .int .i64 0] 72 (0, 0))) ∧ Aside0 (w'.heap[gb215]? = some (.cells #[.int .i64 x216000_1, .int .i64 1, .int .i64 0, .int .i64 (wrap64 (Int.tdiv (Int.tmod a0 1440) 60)), .int .i64 (Int.tmod a0 60)] 72 (0, 0))) ∧ Aside0 (Below w.heap.size w w'))
    case atStart => exact ⟨(wrap64 (Int.tdiv a0 1440)), (1970), (by first | rfl | (simp; done) | (simp [*]; done)), H', ⟨Nat.le_refl _⟩, ⟨by (with_reducible repeat first | apply bN | apply bD | apply bA); refine blk_far ?_ NB213_215.out _; (with_reducible repeat first | apply bN | apply bD | apply bA); refine blk_far ?_ NB213_215.out _; (with_reducible repeat first | apply bN | apply bD | apply bA); refine blk_far ?_ NB213_215.out _; (with_reducible repeat first | apply bN | apply bD | apply bA); refine blk_far ?_ NB213_215.out _; (with_reducible repeat first | apply bN | apply bD | apply bA); refine blk_far ?_ NB213_215.out _; (with_reducible repeat first | apply bN | apply bD | apply bA); exact BK213.out⟩, ⟨by (with_reducible repeat first | apply bN | apply bD | apply bA); refine blk_put (cs := #[.int .i64 1970, .int .i64 1, .int .i64 0, .int .i64 (wrap64 (Int.tdiv (Int.tmod a0 1440) 60)), .int .i64 0]) ?_ 4 _ rfl; (with_reducible repeat first | apply bN | apply bD | apply bA); refine blk_put (cs := #[.int .i64 1970, .int .i64 1, .int .i64 0, .int .i64 0, .int .i64 0]) ?_ 3 _ rfl; (with_reducible repeat first | apply bN | apply bD | apply bA); refine blk_put (cs := #[.int .i64 1970, .int .i64 1, .int .i64 0, .int .i64 0, .int .i64 0]) ?_ 2 _ rfl; (with_reducible repeat first | apply bN | apply bD | apply bA); refine blk_put (cs := #[.int .i64 1970, .int .i64 0, .int .i64 0, .int .i64 0, .int .i64 0]) ?_ 1 _ rfl; (with_reducible repeat first | apply bN | apply bD | apply bA); refine blk_put (cs := #[.int .i64 0, .int .i64 0, .int .i64 0, .int .i64 0, .int .i64 0]) ?_ 0 _ rfl; (with_reducible repeat first | apply bN | apply bD | apply bA); exact BK215.out⟩, ⟨by repeat (first | (with_reducible first | exact HB.out | apply lA | apply lN | apply lD | refine lS ?_ GE213.out | refine lS ?_ GE215.out) | exact HB.out)⟩⟩
    case round =>
      clear H'
      try clear p2
      try clear c3
      try clear c5
      try clear c6
      try clear p6
      try clear hcz7_0
      try clear hcz7_1
      try clear hcz7_2
      try clear hcz7_3
      try clear hcz7_4
      try clear hfz7_0
      try clear hfz7_1
      try clear hfz7_2
      try clear hfz7_3
      try clear hfz7_4
      obtain ⟨x4_1, x216000_1, rfl, HA, HK1, BK213, BK215, HB⟩ := hrel
      cases gk with
      | zero => exact absurd HA.out (by simp [impl_CivilOf.l0])
      | succ k1 =>
        have H := HA.out
        clear HA
        simp only [impl_CivilOf.l0] at H
        replace H := Option.bind_eq_some_iff.mp H
        obtain ⟨t216, A80, H⟩ := H
        replace H : (if x4_1 ≥ t216 then ((impl_daysOf.f x216000_1).bind fun t217 => (impl_CivilOf.l0 k1 (wrap64 (x4_1 - t217)) (wrap64 (x216000_1 + 1)) 1 0 (wrap64 (Int.tdiv (Int.tmod a0 1440) 60)) (Int.tmod a0 60))) else (impl_CivilOf.l1 k1 x4_1 x216000_1 1 0 (wrap64 (Int.tdiv (Int.tmod a0 1440) 60)) (Int.tmod a0 60))) = some (r1, r2, r3, r4, r5, r6) := H
        have A8 := aM A80
        clear A80
        by_cases c9 : x4_1 ≥ t216
        · rw [if_pos c9] at H
          have c9b0 : decide (t216 ≤ x4_1) = true := decide_eq_true c9
          clear c9
          replace H := Option.bind_eq_some_iff.mp H
          obtain ⟨t217, A100, H⟩ := H
          replace H : (impl_CivilOf.l0 k1 (wrap64 (x4_1 - t217)) (wrap64 (x216000_1 + 1)) 1 0 (wrap64 (Int.tdiv (Int.tmod a0 1440) 60)) (Int.tmod a0 60)) = some (r1, r2, r3, r4, r5, r6) := H
          have A10 := aM A100
          clear A100
          have H' := aM H
          clear H
          have hnb11 := NB215_213.out
          have hnc11 := NB213_215.out
          have hcz12_0 : wr.cell? ⟨gb215, 0, none⟩ = some (.int .i64 x216000_1) := (blk_cell BK215.out 0).trans rfl
          have hcz12_1 : wr.cell? ⟨gb215, 1, none⟩ = some (.int .i64 1) := (blk_cell BK215.out 1).trans rfl
          have hcz12_2 : wr.cell? ⟨gb215, 2, none⟩ = some (.int .i64 0) := (blk_cell BK215.out 2).trans rfl
          have hcz12_3 : wr.cell? ⟨gb215, 3, none⟩ = some (.int .i64 (wrap64 (Int.tdiv (Int.tmod a0 1440) 60))) := (blk_cell BK215.out 3).trans rfl
          have hcz12_4 : wr.cell? ⟨gb215, 4, none⟩ = some (.int .i64 (Int.tmod a0 60)) := (blk_cell BK215.out 4).trans rfl
          have hfz12_0 := blk_frozen BK215.out 0
          have hfz12_1 := blk_frozen BK215.out 1
          have hfz12_2 := blk_frozen BK215.out 2
          have hfz12_3 := blk_frozen BK215.out 3
          have hfz12_4 := blk_frozen BK215.out 4
          go_wp2_with (first | ((with_reducible refine gate_callee (f := 96) rfl ?_); refine goesL_ (some 23) rfl rfl Try.func96 (by kernel_rfl) rfl #[.int .i64 x216000_1] rfl (by (try simp only [mT, mC, mN]); first | done | rfl | (simp only [lDr, lTk]; rfl)) ?_; (with_reducible refine (impl_daysOf.calls x216000_1 t216 _ A8.out).mono ?_); rintro e w' ⟨rfl, ⟨nd, rfl⟩⟩; refine ⟨_, rfl, ?_⟩; (try (rw [drewN_self wr]; generalize hq_ : World.drewN wr _ = wr; have n0_ : Aside0 (wr.heap[gb213]? = some (.cells #[.int .i64 0, .int .i64 0, .int .i64 0, .int .i64 0, .int .i64 0] 72 (0, 0))) := ⟨by rw [← hq_]; exact (by (with_reducible repeat first | apply bN | apply bD | apply bA); exact BK213.out)⟩; have n1_ : Aside0 (wr.heap[gb215]? = some (.cells #[.int .i64 x216000_1, .int .i64 1, .int .i64 0, .int .i64 (wrap64 (Int.tdiv (Int.tmod a0 1440) 60)), .int .i64 (Int.tmod a0 60)] 72 (0, 0))) := ⟨by rw [← hq_]; exact (by (with_reducible repeat first | apply bN | apply bD | apply bA); exact BK215.out)⟩; have n2_ : Aside0 (Below w.heap.size w wr) := ⟨by rw [← hq_]; exact (by repeat (first | (with_reducible first | exact HB.out | apply lA | apply lN | apply lD | refine lS ?_ GE213.out | refine lS ?_ GE215.out) | exact HB.out))⟩; clear BK213 BK215 HB hq_; have BK213 := n0_; have BK215 := n1_; have HB := n2_; clear n0_ n1_ n2_)); (try clear hcz12_0 hfz12_0 hcz12_1 hfz12_1 hcz12_2 hfz12_2 hcz12_3 hfz12_3 hcz12_4 hfz12_4); (try have hcz12_0 : wr.cell? ⟨gb215, 0, none⟩ = some (.int .i64 x216000_1) := (blk_cell BK215.out 0).trans rfl); (try have hfz12_0 := blk_frozen BK215.out 0); (try have hcz12_1 : wr.cell? ⟨gb215, 1, none⟩ = some (.int .i64 1) := (blk_cell BK215.out 1).trans rfl); (try have hfz12_1 := blk_frozen BK215.out 1); (try have hcz12_2 : wr.cell? ⟨gb215, 2, none⟩ = some (.int .i64 0) := (blk_cell BK215.out 2).trans rfl); (try have hfz12_2 := blk_frozen BK215.out 2); (try have hcz12_3 : wr.cell? ⟨gb215, 3, none⟩ = some (.int .i64 (wrap64 (Int.tdiv (Int.tmod a0 1440) 60))) := (blk_cell BK215.out 3).trans rfl); (try have hfz12_3 := blk_frozen BK215.out 3); (try have hcz12_4 : wr.cell? ⟨gb215, 4, none⟩ = some (.int .i64 (Int.tmod a0 60)) := (blk_cell BK215.out 4).trans rfl); (try have hfz12_4 := blk_frozen BK215.out 4)) | ((with_reducible refine gate_callee (f := 96) rfl ?_); refine goesL_ (some 28) rfl rfl Try.func96 (by kernel_rfl) rfl #[.int .i64 x216000_1] rfl (by (try simp only [mT, mC, mN]); first | done | rfl | (simp only [lDr, lTk]; rfl)) ?_; (with_reducible refine (impl_daysOf.calls x216000_1 t217 _ A10.out).mono ?_); rintro e w' ⟨rfl, ⟨nd, rfl⟩⟩; refine ⟨_, rfl, ?_⟩; (try (rw [drewN_self wr]; generalize hq_ : World.drewN wr _ = wr; have n0_ : Aside0 (wr.heap[gb213]? = some (.cells #[.int .i64 0, .int .i64 0, .int .i64 0, .int .i64 0, .int .i64 0] 72 (0, 0))) := ⟨by rw [← hq_]; exact (by (with_reducible repeat first | apply bN | apply bD | apply bA); exact BK213.out)⟩; have n1_ : Aside0 (wr.heap[gb215]? = some (.cells #[.int .i64 x216000_1, .int .i64 1, .int .i64 0, .int .i64 (wrap64 (Int.tdiv (Int.tmod a0 1440) 60)), .int .i64 (Int.tmod a0 60)] 72 (0, 0))) := ⟨by rw [← hq_]; exact (by (with_reducible repeat first | apply bN | apply bD | apply bA); exact BK215.out)⟩; have n2_ : Aside0 (Below w.heap.size w wr) := ⟨by rw [← hq_]; exact (by repeat (first | (with_reducible first | exact HB.out | apply lA | apply lN | apply lD | refine lS ?_ GE213.out | refine lS ?_ GE215.out) | exact HB.out))⟩; clear BK213 BK215 HB hq_; have BK213 := n0_; have BK215 := n1_; have HB := n2_; clear n0_ n1_ n2_)); (try clear hcz12_0 hfz12_0 hcz12_1 hfz12_1 hcz12_2 hfz12_2 hcz12_3 hfz12_3 hcz12_4 hfz12_4); (try have hcz12_0 : wr.cell? ⟨gb215, 0, none⟩ = some (.int .i64 x216000_1) := (blk_cell BK215.out 0).trans rfl); (try have hfz12_0 := blk_frozen BK215.out 0); (try have hcz12_1 : wr.cell? ⟨gb215, 1, none⟩ = some (.int .i64 1) := (blk_cell BK215.out 1).trans rfl); (try have hfz12_1 := blk_frozen BK215.out 1); (try have hcz12_2 : wr.cell? ⟨gb215, 2, none⟩ = some (.int .i64 0) := (blk_cell BK215.out 2).trans rfl); (try have hfz12_2 := blk_frozen BK215.out 2); (try have hcz12_3 : wr.cell? ⟨gb215, 3, none⟩ = some (.int .i64 (wrap64 (Int.tdiv (Int.tmod a0 1440) 60))) := (blk_cell BK215.out 3).trans rfl); (try have hfz12_3 := blk_frozen BK215.out 3); (try have hcz12_4 : wr.cell? ⟨gb215, 4, none⟩ = some (.int .i64 (Int.tmod a0 60)) := (blk_cell BK215.out 4).trans rfl); (try have hfz12_4 := blk_frozen BK215.out 4)))
          go_roundg k1
          case measure => have := HK1.out; omega
          case rel => exact ⟨(wrap64 (x4_1 - t217)), (wrap64 (x216000_1 + 1)), (by first | rfl | (simp; done) | (simp [*]; done)), H', ⟨by have := HK1.out; omega⟩, ⟨by (with_reducible repeat first | apply bN | apply bD | apply bA); refine blk_far ?_ NB213_215.out _; (with_reducible repeat first | apply bN | apply bD | apply bA); exact BK213.out⟩, ⟨by (with_reducible repeat first | apply bN | apply bD | apply bA); refine blk_put (cs := #[.int .i64 x216000_1, .int .i64 1, .int .i64 0, .int .i64 (wrap64 (Int.tdiv (Int.tmod a0 1440) 60)), .int .i64 (Int.tmod a0 60)]) ?_ 0 _ rfl; (with_reducible repeat first | apply bN | apply bD | apply bA); exact BK215.out⟩, ⟨by repeat (first | (with_reducible first | exact HB.out | apply lA | apply lN | apply lD | refine lS ?_ GE213.out | refine lS ?_ GE215.out) | exact HB.out)⟩⟩
        · rw [if_neg c9] at H
          have c9b0 : decide (t216 ≤ x4_1) = false := decide_eq_false c9
          clear c9
          have H' := aM H
          clear H
          have hnb13 := NB215_213.out
          have hnc13 := NB213_215.out
          have hcz14_0 : wr.cell? ⟨gb215, 0, none⟩ = some (.int .i64 x216000_1) := (blk_cell BK215.out 0).trans rfl
          have hcz14_1 : wr.cell? ⟨gb215, 1, none⟩ = some (.int .i64 1) := (blk_cell BK215.out 1).trans rfl
          have hcz14_2 : wr.cell? ⟨gb215, 2, none⟩ = some (.int .i64 0) := (blk_cell BK215.out 2).trans rfl
          have hcz14_3 : wr.cell? ⟨gb215, 3, none⟩ = some (.int .i64 (wrap64 (Int.tdiv (Int.tmod a0 1440) 60))) := (blk_cell BK215.out 3).trans rfl
          have hcz14_4 : wr.cell? ⟨gb215, 4, none⟩ = some (.int .i64 (Int.tmod a0 60)) := (blk_cell BK215.out 4).trans rfl
          have hfz14_0 := blk_frozen BK215.out 0
          have hfz14_1 := blk_frozen BK215.out 1
          have hfz14_2 := blk_frozen BK215.out 2
          have hfz14_3 := blk_frozen BK215.out 3
          have hfz14_4 := blk_frozen BK215.out 4
          go_wp2_with (first | ((with_reducible refine gate_callee (f := 96) rfl ?_); refine goesL_ (some 23) rfl rfl Try.func96 (by kernel_rfl) rfl #[.int .i64 x216000_1] rfl (by (try simp only [mT, mC, mN]); first | done | rfl | (simp only [lDr, lTk]; rfl)) ?_; (with_reducible refine (impl_daysOf.calls x216000_1 t216 _ A8.out).mono ?_); rintro e w' ⟨rfl, ⟨nd, rfl⟩⟩; refine ⟨_, rfl, ?_⟩))
          go_loopg [4] k1 (fun kq v4 w' => ∃ (x4_2 : Int) (x216001_2 : Int), v4 = .int .i64 x4_2 ∧ Aside0 (impl_CivilOf.l1 kq x4_2 x216000_1 x216001_2 0 (wrap64 (Int.tdiv (Int.tmod a0 1440) 60)) (Int.tmod a0 60) = some (r1, r2, r3, r4, r5, r6)) ∧ Aside0 (kq ≤ k1) ∧ Aside0 (w'.heap[gb213]? = some (.cells #[.int .i64 0, .int .i64 0, .int .i64 0, .int .i64 0, .int .i64 0] 72 (0, 0))) ∧ Aside0 (w'.heap[gb215]? = some (.cells #[.int .i64 x216000_1, .int .i64 x216001_2, .int .i64 0, .int .i64 (wrap64 (Int.tdiv (Int.tmod a0 1440) 60)), .int .i64 (Int.tmod a0 60)] 72 (0, 0))) ∧ Aside0 (Below w.heap.size w w'))
          case atStart => exact ⟨(x4_1), (1), (by first | rfl | (simp; done) | (simp [*]; done)), H', ⟨Nat.le_refl _⟩, ⟨by (with_reducible repeat first | apply bN | apply bD | apply bA); exact BK213.out⟩, ⟨by (with_reducible repeat first | apply bN | apply bD | apply bA); exact BK215.out⟩, ⟨by repeat (first | (with_reducible first | exact HB.out | apply lA | apply lN | apply lD | refine lS ?_ GE213.out | refine lS ?_ GE215.out) | exact HB.out)⟩⟩
          case round =>
            clear H'
            try clear c1
            try clear p2
            try clear c3
            try clear c5
            try clear c6
            try clear p6
            try clear c9
            try clear c9b0
            try clear c11
            try clear c13
            try clear hcz12_0
            try clear hcz12_1
            try clear hcz12_2
            try clear hcz12_3
            try clear hcz12_4
            try clear hcz14_0
            try clear hcz14_1
            try clear hcz14_2
            try clear hcz14_3
            try clear hcz14_4
            try clear hcz7_0
            try clear hcz7_1
            try clear hcz7_2
            try clear hcz7_3
            try clear hcz7_4
            try clear hfz12_0
            try clear hfz12_1
            try clear hfz12_2
            try clear hfz12_3
            try clear hfz12_4
            try clear hfz14_0
            try clear hfz14_1
            try clear hfz14_2
            try clear hfz14_3
            try clear hfz14_4
            try clear hfz7_0
            try clear hfz7_1
            try clear hfz7_2
            try clear hfz7_3
            try clear hfz7_4
            try clear p2
            try clear p6
            obtain ⟨x4_2, x216001_2, rfl, HA, HK2, BK213, BK215, HB⟩ := hrel
            cases gk with
            | zero => exact absurd HA.out (by simp [impl_CivilOf.l1])
            | succ k2 =>
              have H := HA.out
              clear HA
              simp only [impl_CivilOf.l1] at H
              replace H := Option.bind_eq_some_iff.mp H
              obtain ⟨t218, A150, H⟩ := H
              replace H : (if x4_2 ≥ t218 then ((impl_DaysIn.f k2 x216000_1 x216001_2).bind fun t219 => (impl_CivilOf.l1 k2 (wrap64 (x4_2 - t219)) x216000_1 (wrap64 (x216001_2 + 1)) 0 (wrap64 (Int.tdiv (Int.tmod a0 1440) 60)) (Int.tmod a0 60))) else (some (x216000_1, x216001_2, wrap64 (x4_2 + 1), (wrap64 (Int.tdiv (Int.tmod a0 1440) 60)), (Int.tmod a0 60), true))) = some (r1, r2, r3, r4, r5, r6) := H
              have A15 := aM A150
              clear A150
              by_cases c16 : x4_2 ≥ t218
              · rw [if_pos c16] at H
                have c16b0 : decide (t218 ≤ x4_2) = true := decide_eq_true c16
                clear c16
                replace H := Option.bind_eq_some_iff.mp H
                obtain ⟨t219, A170, H⟩ := H
                replace H : (impl_CivilOf.l1 k2 (wrap64 (x4_2 - t219)) x216000_1 (wrap64 (x216001_2 + 1)) 0 (wrap64 (Int.tdiv (Int.tmod a0 1440) 60)) (Int.tmod a0 60)) = some (r1, r2, r3, r4, r5, r6) := H
                have A17 := aM A170
                clear A170
                have H' := aM H
                clear H
                have hnb18 := NB215_213.out
                have hnc18 := NB213_215.out
                have hcz19_0 : wr.cell? ⟨gb215, 0, none⟩ = some (.int .i64 x216000_1) := (blk_cell BK215.out 0).trans rfl
                have hcz19_1 : wr.cell? ⟨gb215, 1, none⟩ = some (.int .i64 x216001_2) := (blk_cell BK215.out 1).trans rfl
                have hcz19_2 : wr.cell? ⟨gb215, 2, none⟩ = some (.int .i64 0) := (blk_cell BK215.out 2).trans rfl
                have hcz19_3 : wr.cell? ⟨gb215, 3, none⟩ = some (.int .i64 (wrap64 (Int.tdiv (Int.tmod a0 1440) 60))) := (blk_cell BK215.out 3).trans rfl
                have hcz19_4 : wr.cell? ⟨gb215, 4, none⟩ = some (.int .i64 (Int.tmod a0 60)) := (blk_cell BK215.out 4).trans rfl
                have hfz19_0 := blk_frozen BK215.out 0
                have hfz19_1 := blk_frozen BK215.out 1
                have hfz19_2 := blk_frozen BK215.out 2
                have hfz19_3 := blk_frozen BK215.out 3
                have hfz19_4 := blk_frozen BK215.out 4
                go_wp2_with (first | ((with_reducible refine gate_callee (f := 55) rfl ?_); refine goesL_ (some 39) rfl rfl Try.func55 (by kernel_rfl) rfl #[.int .i64 x216000_1, .int .i64 x216001_2] rfl (by (try simp only [mT, mC, mN]); first | done | rfl | (simp only [lDr, lTk]; rfl)) ?_; (with_reducible refine (impl_DaysIn.calls k2 x216000_1 x216001_2 t218 _ A15.out).mono ?_); rintro e w' ⟨rfl, ⟨nd, rfl⟩⟩; refine ⟨_, rfl, ?_⟩; (try (rw [drewN_self wr]; generalize hq_ : World.drewN wr _ = wr; have n0_ : Aside0 (wr.heap[gb213]? = some (.cells #[.int .i64 0, .int .i64 0, .int .i64 0, .int .i64 0, .int .i64 0] 72 (0, 0))) := ⟨by rw [← hq_]; exact (by (with_reducible repeat first | apply bN | apply bD | apply bA); exact BK213.out)⟩; have n1_ : Aside0 (wr.heap[gb215]? = some (.cells #[.int .i64 x216000_1, .int .i64 x216001_2, .int .i64 0, .int .i64 (wrap64 (Int.tdiv (Int.tmod a0 1440) 60)), .int .i64 (Int.tmod a0 60)] 72 (0, 0))) := ⟨by rw [← hq_]; exact (by (with_reducible repeat first | apply bN | apply bD | apply bA); exact BK215.out)⟩; have n2_ : Aside0 (Below w.heap.size w wr) := ⟨by rw [← hq_]; exact (by repeat (first | (with_reducible first | exact HB.out | apply lA | apply lN | apply lD | refine lS ?_ GE213.out | refine lS ?_ GE215.out) | exact HB.out))⟩; clear BK213 BK215 HB hq_; have BK213 := n0_; have BK215 := n1_; have HB := n2_; clear n0_ n1_ n2_)); (try clear hcz19_0 hfz19_0 hcz19_1 hfz19_1 hcz19_2 hfz19_2 hcz19_3 hfz19_3 hcz19_4 hfz19_4); (try have hcz19_0 : wr.cell? ⟨gb215, 0, none⟩ = some (.int .i64 x216000_1) := (blk_cell BK215.out 0).trans rfl); (try have hfz19_0 := blk_frozen BK215.out 0); (try have hcz19_1 : wr.cell? ⟨gb215, 1, none⟩ = some (.int .i64 x216001_2) := (blk_cell BK215.out 1).trans rfl); (try have hfz19_1 := blk_frozen BK215.out 1); (try have hcz19_2 : wr.cell? ⟨gb215, 2, none⟩ = some (.int .i64 0) := (blk_cell BK215.out 2).trans rfl); (try have hfz19_2 := blk_frozen BK215.out 2); (try have hcz19_3 : wr.cell? ⟨gb215, 3, none⟩ = some (.int .i64 (wrap64 (Int.tdiv (Int.tmod a0 1440) 60))) := (blk_cell BK215.out 3).trans rfl); (try have hfz19_3 := blk_frozen BK215.out 3); (try have hcz19_4 : wr.cell? ⟨gb215, 4, none⟩ = some (.int .i64 (Int.tmod a0 60)) := (blk_cell BK215.out 4).trans rfl); (try have hfz19_4 := blk_frozen BK215.out 4)) | ((with_reducible refine gate_callee (f := 55) rfl ?_); refine goesL_ (some 46) rfl rfl Try.func55 (by kernel_rfl) rfl #[.int .i64 x216000_1, .int .i64 x216001_2] rfl (by (try simp only [mT, mC, mN]); first | done | rfl | (simp only [lDr, lTk]; rfl)) ?_; (with_reducible refine (impl_DaysIn.calls k2 x216000_1 x216001_2 t219 _ A17.out).mono ?_); rintro e w' ⟨rfl, ⟨nd, rfl⟩⟩; refine ⟨_, rfl, ?_⟩; (try (rw [drewN_self wr]; generalize hq_ : World.drewN wr _ = wr; have n0_ : Aside0 (wr.heap[gb213]? = some (.cells #[.int .i64 0, .int .i64 0, .int .i64 0, .int .i64 0, .int .i64 0] 72 (0, 0))) := ⟨by rw [← hq_]; exact (by (with_reducible repeat first | apply bN | apply bD | apply bA); exact BK213.out)⟩; have n1_ : Aside0 (wr.heap[gb215]? = some (.cells #[.int .i64 x216000_1, .int .i64 x216001_2, .int .i64 0, .int .i64 (wrap64 (Int.tdiv (Int.tmod a0 1440) 60)), .int .i64 (Int.tmod a0 60)] 72 (0, 0))) := ⟨by rw [← hq_]; exact (by (with_reducible repeat first | apply bN | apply bD | apply bA); exact BK215.out)⟩; have n2_ : Aside0 (Below w.heap.size w wr) := ⟨by rw [← hq_]; exact (by repeat (first | (with_reducible first | exact HB.out | apply lA | apply lN | apply lD | refine lS ?_ GE213.out | refine lS ?_ GE215.out) | exact HB.out))⟩; clear BK213 BK215 HB hq_; have BK213 := n0_; have BK215 := n1_; have HB := n2_; clear n0_ n1_ n2_)); (try clear hcz19_0 hfz19_0 hcz19_1 hfz19_1 hcz19_2 hfz19_2 hcz19_3 hfz19_3 hcz19_4 hfz19_4); (try have hcz19_0 : wr.cell? ⟨gb215, 0, none⟩ = some (.int .i64 x216000_1) := (blk_cell BK215.out 0).trans rfl); (try have hfz19_0 := blk_frozen BK215.out 0); (try have hcz19_1 : wr.cell? ⟨gb215, 1, none⟩ = some (.int .i64 x216001_2) := (blk_cell BK215.out 1).trans rfl); (try have hfz19_1 := blk_frozen BK215.out 1); (try have hcz19_2 : wr.cell? ⟨gb215, 2, none⟩ = some (.int .i64 0) := (blk_cell BK215.out 2).trans rfl); (try have hfz19_2 := blk_frozen BK215.out 2); (try have hcz19_3 : wr.cell? ⟨gb215, 3, none⟩ = some (.int .i64 (wrap64 (Int.tdiv (Int.tmod a0 1440) 60))) := (blk_cell BK215.out 3).trans rfl); (try have hfz19_3 := blk_frozen BK215.out 3); (try have hcz19_4 : wr.cell? ⟨gb215, 4, none⟩ = some (.int .i64 (Int.tmod a0 60)) := (blk_cell BK215.out 4).trans rfl); (try have hfz19_4 := blk_frozen BK215.out 4)))
                go_roundg k2
                case measure => have := HK1.out; have := HK2.out; omega
                case rel => exact ⟨(wrap64 (x4_2 - t219)), (wrap64 (x216001_2 + 1)), (by first | rfl | (simp; done) | (simp [*]; done)), H', ⟨by have := HK1.out; have := HK2.out; omega⟩, ⟨by (with_reducible repeat first | apply bN | apply bD | apply bA); refine blk_far ?_ NB213_215.out _; (with_reducible repeat first | apply bN | apply bD | apply bA); exact BK213.out⟩, ⟨by (with_reducible repeat first | apply bN | apply bD | apply bA); refine blk_put (cs := #[.int .i64 x216000_1, .int .i64 x216001_2, .int .i64 0, .int .i64 (wrap64 (Int.tdiv (Int.tmod a0 1440) 60)), .int .i64 (Int.tmod a0 60)]) ?_ 1 _ rfl; (with_reducible repeat first | apply bN | apply bD | apply bA); exact BK215.out⟩, ⟨by repeat (first | (with_reducible first | exact HB.out | apply lA | apply lN | apply lD | refine lS ?_ GE213.out | refine lS ?_ GE215.out) | exact HB.out)⟩⟩
              · rw [if_neg c16] at H
                have c16b0 : decide (t218 ≤ x4_2) = false := decide_eq_false c16
                clear c16
                simp only [Option.some.injEq, Prod.mk.injEq] at H
                obtain ⟨rfl, rfl, rfl, rfl, rfl, rfl⟩ := H
                have hnb20 := NB215_213.out
                have hnc20 := NB213_215.out
                have hcz21_0 : wr.cell? ⟨gb215, 0, none⟩ = some (.int .i64 x216000_1) := (blk_cell BK215.out 0).trans rfl
                have hcz21_1 : wr.cell? ⟨gb215, 1, none⟩ = some (.int .i64 x216001_2) := (blk_cell BK215.out 1).trans rfl
                have hcz21_2 : wr.cell? ⟨gb215, 2, none⟩ = some (.int .i64 0) := (blk_cell BK215.out 2).trans rfl
                have hcz21_3 : wr.cell? ⟨gb215, 3, none⟩ = some (.int .i64 (wrap64 (Int.tdiv (Int.tmod a0 1440) 60))) := (blk_cell BK215.out 3).trans rfl
                have hcz21_4 : wr.cell? ⟨gb215, 4, none⟩ = some (.int .i64 (Int.tmod a0 60)) := (blk_cell BK215.out 4).trans rfl
                have hfz21_0 := blk_frozen BK215.out 0
                have hfz21_1 := blk_frozen BK215.out 1
                have hfz21_2 := blk_frozen BK215.out 2
                have hfz21_3 := blk_frozen BK215.out 3
                have hfz21_4 := blk_frozen BK215.out 4
                go_wp2_with (first | ((with_reducible refine gate_callee (f := 55) rfl ?_); refine goesL_ (some 39) rfl rfl Try.func55 (by kernel_rfl) rfl #[.int .i64 x216000_1, .int .i64 x216001_2] rfl (by (try simp only [mT, mC, mN]); first | done | rfl | (simp only [lDr, lTk]; rfl)) ?_; (with_reducible refine (impl_DaysIn.calls k2 x216000_1 x216001_2 t218 _ A15.out).mono ?_); rintro e w' ⟨rfl, ⟨nd, rfl⟩⟩; refine ⟨_, rfl, ?_⟩; (try (rw [drewN_self wr]; generalize hq_ : World.drewN wr _ = wr; have n0_ : Aside0 (wr.heap[gb213]? = some (.cells #[.int .i64 0, .int .i64 0, .int .i64 0, .int .i64 0, .int .i64 0] 72 (0, 0))) := ⟨by rw [← hq_]; exact (by (with_reducible repeat first | apply bN | apply bD | apply bA); exact BK213.out)⟩; have n1_ : Aside0 (wr.heap[gb215]? = some (.cells #[.int .i64 x216000_1, .int .i64 x216001_2, .int .i64 0, .int .i64 (wrap64 (Int.tdiv (Int.tmod a0 1440) 60)), .int .i64 (Int.tmod a0 60)] 72 (0, 0))) := ⟨by rw [← hq_]; exact (by (with_reducible repeat first | apply bN | apply bD | apply bA); exact BK215.out)⟩; have n2_ : Aside0 (Below w.heap.size w wr) := ⟨by rw [← hq_]; exact (by repeat (first | (with_reducible first | exact HB.out | apply lA | apply lN | apply lD | refine lS ?_ GE213.out | refine lS ?_ GE215.out) | exact HB.out))⟩; clear BK213 BK215 HB hq_; have BK213 := n0_; have BK215 := n1_; have HB := n2_; clear n0_ n1_ n2_)); (try clear hcz21_0 hfz21_0 hcz21_1 hfz21_1 hcz21_2 hfz21_2 hcz21_3 hfz21_3 hcz21_4 hfz21_4); (try have hcz21_0 : wr.cell? ⟨gb215, 0, none⟩ = some (.int .i64 x216000_1) := (blk_cell BK215.out 0).trans rfl); (try have hfz21_0 := blk_frozen BK215.out 0); (try have hcz21_1 : wr.cell? ⟨gb215, 1, none⟩ = some (.int .i64 x216001_2) := (blk_cell BK215.out 1).trans rfl); (try have hfz21_1 := blk_frozen BK215.out 1); (try have hcz21_2 : wr.cell? ⟨gb215, 2, none⟩ = some (.int .i64 0) := (blk_cell BK215.out 2).trans rfl); (try have hfz21_2 := blk_frozen BK215.out 2); (try have hcz21_3 : wr.cell? ⟨gb215, 3, none⟩ = some (.int .i64 (wrap64 (Int.tdiv (Int.tmod a0 1440) 60))) := (blk_cell BK215.out 3).trans rfl); (try have hfz21_3 := blk_frozen BK215.out 3); (try have hcz21_4 : wr.cell? ⟨gb215, 4, none⟩ = some (.int .i64 (Int.tmod a0 60)) := (blk_cell BK215.out 4).trans rfl); (try have hfz21_4 := blk_frozen BK215.out 4); have hcz22_0 : wr.cell? ⟨gb213, 0, none⟩ = some (.int .i64 0) := (blk_cell BK213.out 0).trans rfl; have hcz22_1 : wr.cell? ⟨gb213, 1, none⟩ = some (.int .i64 0) := (blk_cell BK213.out 1).trans rfl; have hcz22_2 : wr.cell? ⟨gb213, 2, none⟩ = some (.int .i64 0) := (blk_cell BK213.out 2).trans rfl; have hcz22_3 : wr.cell? ⟨gb213, 3, none⟩ = some (.int .i64 0) := (blk_cell BK213.out 3).trans rfl; have hcz22_4 : wr.cell? ⟨gb213, 4, none⟩ = some (.int .i64 0) := (blk_cell BK213.out 4).trans rfl; have hfz22_0 := blk_frozen BK213.out 0; have hfz22_1 := blk_frozen BK213.out 1; have hfz22_2 := blk_frozen BK213.out 2; have hfz22_3 := blk_frozen BK213.out 3; have hfz22_4 := blk_frozen BK213.out 4))
                refine bodyPost_ret (results_ct rfl _ _ gb213 72 #[.int .i64 x216000_1, .int .i64 x216001_2, .int .i64 (wrap64 (x4_2 + 1)), .int .i64 (wrap64 (Int.tdiv (Int.tmod a0 1440) 60)), .int .i64 (Int.tmod a0 60)] (0, 0) _ rfl (by (with_reducible repeat first | apply bN | apply bD | apply bA); refine blk_put (cs := #[.int .i64 x216000_1, .int .i64 x216001_2, .int .i64 (wrap64 (x4_2 + 1)), .int .i64 (wrap64 (Int.tdiv (Int.tmod a0 1440) 60)), .int .i64 0]) ?_ 4 _ rfl; (with_reducible repeat first | apply bN | apply bD | apply bA); refine blk_put (cs := #[.int .i64 x216000_1, .int .i64 x216001_2, .int .i64 (wrap64 (x4_2 + 1)), .int .i64 0, .int .i64 0]) ?_ 3 _ rfl; (with_reducible repeat first | apply bN | apply bD | apply bA); refine blk_put (cs := #[.int .i64 x216000_1, .int .i64 x216001_2, .int .i64 0, .int .i64 0, .int .i64 0]) ?_ 2 _ rfl; (with_reducible repeat first | apply bN | apply bD | apply bA); refine blk_put (cs := #[.int .i64 x216000_1, .int .i64 0, .int .i64 0, .int .i64 0, .int .i64 0]) ?_ 1 _ rfl; (with_reducible repeat first | apply bN | apply bD | apply bA); refine blk_put (cs := #[.int .i64 0, .int .i64 0, .int .i64 0, .int .i64 0, .int .i64 0]) ?_ 0 _ rfl; (with_reducible repeat first | apply bN | apply bD | apply bA); refine blk_far ?_ NB213_215.out _; (with_reducible repeat first | apply bN | apply bD | apply bA); exact BK213.out) Try.underlying72 rfl (by kernel_rfl)) rfl ?_
                exact ⟨by first | rfl | (simp [errW_none, errW_some] <;> rfl) | (simp [*, errW_none, errW_some] <;> rfl), by repeat (first | (with_reducible first | exact HB.out | apply lA | apply lN | apply lD | refine lS ?_ GE213.out | refine lS ?_ GE215.out) | exact HB.out)⟩
  · replace c3 := Bool.eq_false_iff.mpr c3
    subst c3
    have H1 : (some (0, 0, 0, 0, 0, false)) = some (r1, r2, r3, r4, r5, r6) := by rw [if_neg (show ¬ (false = true) by decide)] at H; exact H
    clear H
    have H := H1
    clear H1
    simp only [Option.some.injEq, Prod.mk.injEq] at H
    obtain ⟨rfl, rfl, rfl, rfl, rfl, rfl⟩ := H
    go_enter Try.func54, Try.ntmps54
    go_wp2_with (first | ((with_reducible refine gate_dst (N := 2) rfl ?_); refine box_event ?hg (N := 2) ?hd (cs := #[.int .i64 0, .int .i64 0, .int .i64 0, .int .i64 0, .int .i64 0]) (t := 72) ?hr ?_; (case hd => rfl); (case hg => rfl); (case hr => first | (go_simp; done) | (go_simp; rfl)); intro gb213 hg w23 hbox hb; have n0_ := aM (below_step (by repeat (first | (with_reducible first | exact HB.out | apply lA | apply lN | apply lD) | exact HB.out)) hb); have n1_ := aM (hbox); have n2_ := aM ((by rw [hg]; exact (below_size (by repeat (first | (with_reducible first | exact HB.out | apply lA | apply lN | apply lD) | exact HB.out))) : w.heap.size ≤ gb213)); have n3_ := aM ((by rw [hg]; exact (below_size (by repeat (first | (with_reducible first | exact HB.out | apply lA | apply lN | apply lD) | exact HB.out))) : w.heap.size ≤ gb213)); clear HB; have HB := n0_; have BK213 := n1_; have GW213 := n2_; have GE213 := n3_; clear n0_ n1_ n2_ n3_; clear hb hbox hg) | ((with_reducible refine gate_callee (f := 98) rfl ?_); refine goesL_ (some 8) rfl rfl Try.func98 (by kernel_rfl) rfl #[.int .i64 a0] rfl (by (try simp only [mT, mC, mN]); first | done | rfl | (simp only [lDr, lTk]; rfl)) ?_; (with_reducible refine (impl_isMinute.calls a0 false _ A2.out).mono ?_); rintro e w' ⟨rfl, ⟨nd, rfl⟩⟩; refine ⟨_, rfl, ?_⟩; (try (rw [drewN_self w23]; generalize hq_ : World.drewN w23 _ = w23; have n0_ : Aside0 (w23.heap[gb213]? = some (.cells #[.int .i64 0, .int .i64 0, .int .i64 0, .int .i64 0, .int .i64 0] 72 (0, 0))) := ⟨by rw [← hq_]; exact (by (with_reducible repeat first | apply bN | apply bD | apply bA); exact BK213.out)⟩; have n1_ : Aside0 (Below w.heap.size w w23) := ⟨by rw [← hq_]; exact (by repeat (first | (with_reducible first | exact HB.out | apply lA | apply lN | apply lD | refine lS ?_ GE213.out) | exact HB.out))⟩; clear BK213 HB hq_; have BK213 := n0_; have HB := n1_; clear n0_ n1_)); have hcz24_0 : w23.cell? ⟨gb213, 0, none⟩ = some (.int .i64 0) := (blk_cell BK213.out 0).trans rfl; have hcz24_1 : w23.cell? ⟨gb213, 1, none⟩ = some (.int .i64 0) := (blk_cell BK213.out 1).trans rfl; have hcz24_2 : w23.cell? ⟨gb213, 2, none⟩ = some (.int .i64 0) := (blk_cell BK213.out 2).trans rfl; have hcz24_3 : w23.cell? ⟨gb213, 3, none⟩ = some (.int .i64 0) := (blk_cell BK213.out 3).trans rfl; have hcz24_4 : w23.cell? ⟨gb213, 4, none⟩ = some (.int .i64 0) := (blk_cell BK213.out 4).trans rfl; have hfz24_0 := blk_frozen BK213.out 0; have hfz24_1 := blk_frozen BK213.out 1; have hfz24_2 := blk_frozen BK213.out 2; have hfz24_3 := blk_frozen BK213.out 3; have hfz24_4 := blk_frozen BK213.out 4))
    refine bodyPost_ret (results_ct rfl _ _ gb213 72 #[.int .i64 0, .int .i64 0, .int .i64 0, .int .i64 0, .int .i64 0] (0, 0) _ rfl (by (with_reducible repeat first | apply bN | apply bD | apply bA); refine blk_put (cs := #[.int .i64 0, .int .i64 0, .int .i64 0, .int .i64 0, .int .i64 0]) ?_ 4 _ rfl; (with_reducible repeat first | apply bN | apply bD | apply bA); refine blk_put (cs := #[.int .i64 0, .int .i64 0, .int .i64 0, .int .i64 0, .int .i64 0]) ?_ 3 _ rfl; (with_reducible repeat first | apply bN | apply bD | apply bA); refine blk_put (cs := #[.int .i64 0, .int .i64 0, .int .i64 0, .int .i64 0, .int .i64 0]) ?_ 2 _ rfl; (with_reducible repeat first | apply bN | apply bD | apply bA); refine blk_put (cs := #[.int .i64 0, .int .i64 0, .int .i64 0, .int .i64 0, .int .i64 0]) ?_ 1 _ rfl; (with_reducible repeat first | apply bN | apply bD | apply bA); refine blk_put (cs := #[.int .i64 0, .int .i64 0, .int .i64 0, .int .i64 0, .int .i64 0]) ?_ 0 _ rfl; (with_reducible repeat first | apply bN | apply bD | apply bA); exact BK213.out) Try.underlying72 rfl (by kernel_rfl)) rfl ?_
    exact ⟨by first | rfl | (simp [errW_none, errW_some] <;> rfl) | (simp [*, errW_none, errW_some] <;> rfl), by repeat (first | (with_reducible first | exact HB.out | apply lA | apply lN | apply lD | refine lS ?_ GE213.out) | exact HB.out)⟩

end Go.Proofs.Ytidfhfaekdahpaa.QFnDays
