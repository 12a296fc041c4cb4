-- Own work (wip/turnprint.py over the kit's print).
import Derived.Test.YtidfhfaekdahpaaQFnActsx0
import Derived.Test.YtidfhfaekdahpaaQFnActsx6
namespace Go.Proofs.Ytidfhfaekdahpaa.QFnActs
open Go.RowKit Go.Proofs.YtidfhfaekdahpaaW.PrintWords Go.Proofs.YtidfhfaekdahpaaW.PrintLast Go.Proofs.YtidfhfaekdahpaaW.PrintMore
attribute [local go_sem] max2_int min2_int max_two min_two max_three min_three max_four min_four   -- for this text's walks alone
attribute [local go_sem] Go.Proofs.YtidfhfaekdahpaaQWords.run_lss_str
attribute [local go_sem] Go.Proofs.YtidfhfaekdahpaaQWords.run_geq_str
attribute [local go_sem] Go.Proofs.YtidfhfaekdahpaaQWords.run_leq_str
attribute [local go_sem] Go.Proofs.YtidfhfaekdahpaaQWords.run_gtr_str
set_option linter.unusedVariables false
set_option linter.unusedSimpArgs false

/-! ### spec_DiskOk: function 20 -/
def spec_DiskOk.l0 : Nat → Int → List (S45) → Option (Bool)
 | 0, _, _ => none
 | k + 1, x3, x123000 => if x3 < (x123000.length : Int) then (if 0 ≤ x3 then ((spec_l03Name.f ((rd_T45 x123000 x3).f0)).bind fun t125 => (if t125 = true then (if (((rd_T45 x123000 x3).f1).size : Int) > 20000 then (some false) else ((spec_l01In.f ((rd_T45 x123000 x3).f2) 0 (((rd_T45 x123000 x3).f1).size : Int)).bind fun t126 => (if t126 = true then (if x3 > 0 then (if 0 ≤ (wrap64 (x3 - 1)) then (if (wrap64 (x3 - 1)) < (x123000.length : Int) then (if ((Op.bytesLess (((rd_T45 x123000 (wrap64 (x3 - 1))).f0).toList) (((rd_T45 x123000 x3).f0).toList)) = true) then (spec_DiskOk.l0 k (wrap64 (x3 + 1)) x123000) else (some false)) else (none)) else (none)) else (spec_DiskOk.l0 k (wrap64 (x3 + 1)) x123000)) else (some false)))) else (some false))) else (none)) else (some true)
def spec_DiskOk.f (k : Nat) (l0_0 : List (S45)) : Option (Bool) := if (l0_0.length : Int) > 30 then (some false) else (spec_DiskOk.l0 k 0 l0_0)
theorem spec_DiskOk.mono_l : ∀ k, (∀ y0 y1, LeO (spec_DiskOk.l0 k y0 y1) (spec_DiskOk.l0 (k + 1) y0 y1))
 | 0 => fun _ _ r h => by simp [spec_DiskOk.l0] at h
 | k + 1 => by
  have ih0 := spec_DiskOk.mono_l k
  ·intro y0 y1
   unfold spec_DiskOk.l0
   repeat' first
   | (with_reducible exact ih0 _ _)
   | (with_reducible exact LeO.refl _)
   | (with_reducible exact LeO.none _)
   | (with_reducible refine LeO.ite ?_ ?_)
   | (with_reducible refine LeO.bind ?_ (fun _ => ?_))
   | exact ih0 _ _
   | exact LeO.none _
   | refine LeO.ite ?_ ?_
   | refine LeO.bind ?_ (fun _ => ?_)
theorem spec_DiskOk.mono : ∀ a0 k, LeO (spec_DiskOk.f k a0) (spec_DiskOk.f (k + 1) a0) := by
 intro a0 k
 have ih0 := spec_DiskOk.mono_l k
 unfold spec_DiskOk.f
 repeat' first
  | (with_reducible exact ih0 _ _)
  | (with_reducible exact LeO.refl _)
  | (with_reducible exact LeO.none _)
  | (with_reducible refine LeO.ite ?_ ?_)
  | (with_reducible refine LeO.bind ?_ (fun _ => ?_))
  | exact ih0 _ _
  | exact LeO.none _
  | refine LeO.ite ?_ ?_
  | refine LeO.bind ?_ (fun _ => ?_)
def spec_DiskOk.T7 : Bool × List (List Nat × List Nat) := (true, [([], []), ([0], [0]), ([1], [1]), ([2], [2]), ([3, 2], [3]), ([4], [4]), ([5, 4], [4, 5]), ([6, 4], [4, 6]), ([7, 4], [4, 7]), ([4, 8], [4, 8]), ([9, 4], [9]), ([10], [10]), ([11, 10], [10, 11]), ([10], [10]), ([13, 10], [10, 13]), ([14, 10], [10, 14]), ([12, 15, 10, 10], [10, 12, 15]), ([16, 10], [10, 16]), ([10, 17], [10, 17]), ([18, 16], [18]), ([19], [19]), ([20, 19], [19, 20]), ([21, 19, 19], [19, 21]), ([22], [22]), ([23, 22], [22, 23]), ([22], [22]), ([25, 22], [22, 25]), ([24, 26, 22], [22, 24, 26]), ([27, 22], [22, 27]), ([28, 22], [22, 28]), ([22], [22]), ([30, 22], [22, 30]), ([29, 31, 22], [22, 29, 31]), ([22, 32, 19], [19, 22, 32]), ([19, 33], [19, 33])])
def spec_DiskOk.B7 : List Nat := [0, 1, 3, 7, 15, 31, 63, 127, 255, 511, 1023, 2047, 4095, 2047, 10239, 26623, 65535, 131071, 262143, 524287, 1048575, 2097151, 4194303, 8388607, 16777215, 8388607, 41943039, 134217727, 268435455, 536870911, 8388607, 1082130431, 4294967295, 8589934591, 17179869183]
theorem spec_DiskOk.tab7 : rtab .any (opsOf Try.f20 7) = spec_DiskOk.T7 := by kernel_rfl
theorem spec_DiskOk.bits7 : waitsOk spec_DiskOk.T7.2 spec_DiskOk.B7 = true := by kernel_rfl
set_option maxHeartbeats 8000000 in
set_option maxRecDepth 100000 in
theorem spec_DiskOk.calls (k : Nat) (A0_0 : Option Addr) (c0_0 : Nat) (l0_0 : List (S45)) (r : Bool) (w : World) (hr0_0 : Kd.C k45 w A0_0 l0_0.length l0_0) (hc0_0 : l0_0.length ≤ c0_0) (h : spec_DiskOk.f k l0_0 = some r) :
 Calls Try.prog 20 #[.agg #[.slice A0_0 l0_0.length c0_0]] w fun e w' => e = .returned (.bool r) ∧ Below w.heap.size w w' := by
 have hu30 := Try.underlying30
 have hu45 := Try.underlying45
 have HR0_0 := aM hr0_0
 have HC0_0 := aM hc0_0
 clear hr0_0 hc0_0
 have HB := aM (Below.refl w.heap.size w)
 have H : (if (l0_0.length : Int) > 30 then (some false) else (spec_DiskOk.l0 k 0 l0_0)) = some r := h
 clear h
 by_cases c2 : (l0_0.length : Int) > 30
 ·rw [if_pos c2] at H
  have c2b0 : decide (30 < (l0_0.length : Int)) = true := decide_eq_true c2
  have c2b1 : decide (30 < l0_0.length) = true := decide_eq_true (by omega)
  clear c2
  obtain rfl := Option.some.inj H
  go_enter Try.func20, Try.ntmps20
  go_wp2_with (first | ((with_reducible refine gate_dst (N := 1) rfl ?_); (try (refine gate_guard (by rfl) ?_; dsimp only)); refine bxE 1 #[.slice A0_0 l0_0.length c0_0] 30 ?_; intro gb122 hg w3 hbox hb; have BK122 := aM (hbox); have GW122 := szG hg (uL HB); have GE122 := szG hg (uL HB); replace HB := aM (below_step (uL HB) hb); clear hb hbox hg; have hcz4_0 := czA BK122.out 0 (.slice A0_0 l0_0.length c0_0); have hfz4_0 := blk_frozen BK122.out 0))
  go_ret
  exact rX HB
 ·rw [if_neg c2] at H
  have c2b0 : decide (30 < (l0_0.length : Int)) = false := decide_eq_false c2
  have c2b1 : decide (30 < l0_0.length) = false := decide_eq_false (by omega)
  clear c2
  have H' := aM H
  clear H
  go_enter Try.func20, Try.ntmps20
  go_wp2_with (first | ((with_reducible refine gate_dst (N := 1) rfl ?_); (try (refine gate_guard (by rfl) ?_; dsimp only)); refine bxE 1 #[.slice A0_0 l0_0.length c0_0] 30 ?_; intro gb122 hg w5 hbox hb; have BK122 := aM (hbox); have GW122 := szG hg (uL HB); have GE122 := szG hg (uL HB); replace HB := aM (below_step (uL HB) hb); clear hb hbox hg; have hcz6_0 := czA BK122.out 0 (.slice A0_0 l0_0.length c0_0); have hfz6_0 := blk_frozen BK122.out 0))
  go_loopg [3] k (fun kq v3 w' => ∃ (x3_1 : Int), v3 = .int .i64 x3_1 ∧ Aside0 (spec_DiskOk.l0 kq x3_1 l0_0 = some r) ∧ Aside0 (kq ≤ k) ∧ Aside0 (w'.heap[gb122]? = some (.cells #[(.slice A0_0 l0_0.length c0_0)] 30 (0, 0))) ∧ Aside0 (Below w.heap.size w w'))
  case atStart => exact ⟨(0), (by first | rfl | (simp; done) | (simp [*]; done)), H', ⟨Nat.le_refl _⟩, ⟨by exact nB BK122.out⟩, ⟨uL HB⟩⟩
  case round =>
   clear H'
   try clear c2; try clear c2b0; try clear c2b1; try clear p2; try clear hcz4_0; try clear hcz6_0; try clear hfz4_0; try clear hfz6_0
   obtain ⟨x3_1, rfl, HA, HK1, BK122, HB⟩ := hrel
   cases gk with
   | zero => exact absurd HA.out (by simp [spec_DiskOk.l0])
   | succ k1 =>
    have H := HA.out
    clear HA
    simp only [spec_DiskOk.l0] at H
    by_cases c7 : x3_1 < (l0_0.length : Int)
    ·rw [if_pos c7] at H
     have c7b0 : decide (x3_1 < (l0_0.length : Int)) = true := decide_eq_true c7
     clear c7
     by_cases c8 : 0 ≤ x3_1
     ·rw [if_pos c8] at H
      have c8b0 : decide (0 ≤ x3_1) = true := decide_eq_true c8
      clear c8
      replace H := Option.bind_eq_some_iff.mp H
      obtain ⟨t125, A90, H⟩ := H
      try dsimp only at H
      have A9 := aM A90
      clear A90
      by_cases c10 : t125 = true
      ·subst c10
       rw [if_pos rfl] at H
       by_cases c11 : (((rd_T45 l0_0 x3_1).f1).size : Int) > 20000
       ·rw [if_pos c11] at H
        have c11b0 : decide (20000 < (((rd_T45 l0_0 x3_1).f1).size : Int)) = true := decide_eq_true c11
        have c11b1 : decide (20000 < ((rd_T45 l0_0 x3_1).f1).size) = true := decide_eq_true (by omega)
        clear c11
        obtain rfl := Option.some.inj H
        have hcz12_0 := czA BK122.out 0 (.slice A0_0 l0_0.length c0_0)
        have hfz12_0 := blk_frozen BK122.out 0
        have p123 : 0 ≤ (x3_1 : Int) := of_decide_eq_true (by first | (with_reducible assumption) | assumption)
        have q123 : x3_1 < (l0_0.length : Int) := of_decide_eq_true (by first | (with_reducible assumption) | assumption)
        obtain ⟨ad123, e123, hx123_0, hx123_1, hx123_2⟩ := at_T45 HR0_0.out x3_1 p123 q123
        cases e123
        replace hx123_0 := hxB HB hx123_0; replace hx123_1 := hxB HB hx123_1; replace hx123_2 := hxB HB hx123_2; replace p123 := eq_true p123; replace q123 := eq_true q123
        try go_wp2_with (first | ((with_reducible refine gate_dst (N := 4) rfl ?_); (try (refine gate_guard (by rfl) ?_; dsimp only)); refine bxE 4 #[.string (⟨#[]⟩ : ByteArray), .string (⟨#[]⟩ : ByteArray), .int .i64 0] 45 ?_; intro gb124 hg w13 hbox hb; have BK124 := aM (hbox); have GW124 := szG hg (uL HB); have GE124 := szG hg (uL HB); have NB122_124 := neL hg BK122; have NB124_122 := neG hg BK122; replace BK122 := blkB BK122 hb; replace HB := aM (below_step (uL HB) hb); clear hb hbox hg; have hnb14 := NB124_122.out; have hnc14 := NB122_124.out; have hcz15_0 := czA BK124.out 0 (.string (⟨#[]⟩ : ByteArray)); have hcz15_1 := czA BK124.out 1 (.string (⟨#[]⟩ : ByteArray)); have hcz15_2 := czA BK124.out 2 (.int .i64 0); have hfz15_0 := blk_frozen BK124.out 0; have hfz15_1 := blk_frozen BK124.out 1; have hfz15_2 := blk_frozen BK124.out 2))
        have n0_ : Aside0 ((((w13.setCell ⟨gb124, 0, none⟩ (.string ((rd_T45 l0_0 x3_1).f0))).setCell ⟨gb124, 1, none⟩ (.string ((rd_T45 l0_0 x3_1).f1))).setCell ⟨gb124, 2, none⟩ (.int .i64 ((rd_T45 l0_0 x3_1).f2))).heap[gb122]? = some (.cells #[.slice (some ad123) l0_0.length c0_0] 30 (0, 0))) := ⟨by refine nB ?_; refine blk_far ?_ NB122_124.out _; refine nB ?_; refine blk_far ?_ NB122_124.out _; refine nB ?_; refine blk_far ?_ NB122_124.out _; exact nB BK122.out⟩
        have n1_ : Aside0 ((((w13.setCell ⟨gb124, 0, none⟩ (.string ((rd_T45 l0_0 x3_1).f0))).setCell ⟨gb124, 1, none⟩ (.string ((rd_T45 l0_0 x3_1).f1))).setCell ⟨gb124, 2, none⟩ (.int .i64 ((rd_T45 l0_0 x3_1).f2))).heap[gb124]? = some (.cells #[.string ((rd_T45 l0_0 x3_1).f0), .string ((rd_T45 l0_0 x3_1).f1), .int .i64 ((rd_T45 l0_0 x3_1).f2)] 45 (0, 0))) := ⟨by refine nB ?_; refine blk_put (cs := #[.string ((rd_T45 l0_0 x3_1).f0), .string ((rd_T45 l0_0 x3_1).f1), .int .i64 0]) ?_ 2 _ rfl; refine nB ?_; refine blk_put (cs := #[.string ((rd_T45 l0_0 x3_1).f0), .string (⟨#[]⟩ : ByteArray), .int .i64 0]) ?_ 1 _ rfl; refine nB ?_; refine blk_put (cs := #[.string (⟨#[]⟩ : ByteArray), .string (⟨#[]⟩ : ByteArray), .int .i64 0]) ?_ 0 _ rfl; exact nB BK124.out⟩
        have n2_ : Aside0 (Below w.heap.size w (((w13.setCell ⟨gb124, 0, none⟩ (.string ((rd_T45 l0_0 x3_1).f0))).setCell ⟨gb124, 1, none⟩ (.string ((rd_T45 l0_0 x3_1).f1))).setCell ⟨gb124, 2, none⟩ (.int .i64 ((rd_T45 l0_0 x3_1).f2)))) := ⟨uL HB⟩
        (try clear BK122)
        (try clear BK124)
        (try clear HB)
        generalize (((w13.setCell ⟨gb124, 0, none⟩ (.string ((rd_T45 l0_0 x3_1).f0))).setCell ⟨gb124, 1, none⟩ (.string ((rd_T45 l0_0 x3_1).f1))).setCell ⟨gb124, 2, none⟩ (.int .i64 ((rd_T45 l0_0 x3_1).f2))) = w16 at n0_ n1_ n2_ ⊢
        have BK122 := n0_; have BK124 := n1_; have HB := n2_; clear n0_ n1_ n2_
        replace BK122 := aM (blk_drew BK122.out)
        replace BK124 := aM (blk_drew BK124.out)
        replace HB := aM (below_drew1 HB.out)
        refine start_ (n := 35) (S := fun w' => w'.cell? ⟨gb124, 0, none⟩ = some (.string ((rd_T45 l0_0 x3_1).f0)) ∧ w'.cell? ⟨gb124, 1, none⟩ = some (.string ((rd_T45 l0_0 x3_1).f1)) ∧ w'.cell? ⟨gb124, 2, none⟩ = some (.int .i64 ((rd_T45 l0_0 x3_1).f2))) (ds := []) (bB 35 0) (by kernel_rfl) rfl rfl ⟨(blk_cell BK124.out 0).trans rfl, (blk_cell BK124.out 1).trans rfl, (blk_cell BK124.out 2).trans rfl⟩ (fun hHeld => ?_); refine with_tabW spec_DiskOk.tab7 spec_DiskOk.bits7 (fun HT_ HW_ => ?_)
        generalize w16.drew = w17 at BK122 BK124 HB hHeld ⊢
        refine pA HT_.out 0 21 35 1 ?_; refine tA HT_.out HW_.out 1 22 35 3 hHeld ?_
        refine oA HT_.out 2 (some 23) 35 7 (fun K hK => ?_)
        refine gX Try.func73 #[.string ((rd_T45 l0_0 x3_1).f0)] ?_
        with_reducible refine (spec_l03Name.calls ((rd_T45 l0_0 x3_1).f0) true _ A9.out).mono ?_
        rintro e w' ⟨rfl, ⟨nd, rfl⟩⟩
        refine ⟨_, rfl, ?_⟩
        refine hK.out _ _ ⟨(blk_cell BK124.out 0).trans rfl, (blk_cell BK124.out 1).trans rfl, (blk_cell BK124.out 2).trans rfl⟩ (fun hHeld => ?_)
        clear hK K
        refine nX 23 ?_; refine pA HT_.out 3 24 35 15 ?_; refine pA HT_.out 4 25 35 31 ?_; refine pA HT_.out 5 26 35 63 ?_; refine tA HT_.out HW_.out 6 27 35 127 hHeld ?_; refine pA HT_.out 7 28 35 255 ?_; refine pA HT_.out 8 29 35 511 ?_; refine pA HT_.out 9 30 35 1023 ?_; refine pA HT_.out 10 31 35 2047 ?_; refine pB HT_.out 11 32 35 4095 ?_; refine pB HT_.out 12 33 35 8191 ?_; refine pB HT_.out 13 34 35 16383 ?_; refine pB HT_.out 14 35 35 32767 ?_; refine pB HT_.out 15 36 35 65535 ?_; refine pB HT_.out 16 37 35 131071 ?_; refine pB HT_.out 17 38 35 262143 ?_; refine pA HT_.out 18 39 35 524287 ?_; refine pA HT_.out 19 40 35 1048575 ?_; refine pB HT_.out 20 41 35 2097151 ?_; refine pB HT_.out 21 42 35 4194303 ?_; refine pB HT_.out 22 43 35 8388607 ?_; refine pB HT_.out 23 44 35 16777215 ?_; refine pB HT_.out 24 45 35 33554431 ?_; refine pB HT_.out 25 46 35 67108863 ?_; refine pB HT_.out 26 47 35 134217727 ?_; refine pB HT_.out 27 48 35 268435455 ?_; refine pB HT_.out 28 49 35 536870911 ?_; refine pB HT_.out 29 50 35 1073741823 ?_; refine pB HT_.out 30 51 35 2147483647 ?_; refine pB HT_.out 31 52 35 4294967295 ?_; refine pB HT_.out 32 53 35 8589934591 ?_; refine pB HT_.out 33 54 35 17179869183 ?_; refine pA HT_.out 34 55 35 34359738367 ?_
        refine done_ (done_of HT_.out (by kernel_rfl)) ?_
        try go_wp2
        go_ret
        exact rX HB
       ·rw [if_neg c11] at H
        have c11b0 : decide (20000 < (((rd_T45 l0_0 x3_1).f1).size : Int)) = false := decide_eq_false c11
        have c11b1 : decide (20000 < ((rd_T45 l0_0 x3_1).f1).size) = false := decide_eq_false (by omega)
        clear c11
        replace H := Option.bind_eq_some_iff.mp H
        obtain ⟨t126, A180, H⟩ := H
        try dsimp only at H
        have A18 := aM A180
        clear A180
        by_cases c19 : t126 = true
        ·subst c19
         rw [if_pos rfl] at H
         by_cases c20 : x3_1 > 0
         ·rw [if_pos c20] at H
          have c20b0 : decide (0 < x3_1) = true := decide_eq_true c20
          clear c20
          obtain ⟨ji21, hji21⟩ : ∃ j_ : Int, (wrap64 (x3_1 - 1)) = j_ := ⟨_, rfl⟩
          replace H : (if 0 ≤ (ji21) then (if (ji21) < (l0_0.length : Int) then (if ((Op.bytesLess (((rd_T45 l0_0 (ji21)).f0).toList) (((rd_T45 l0_0 x3_1).f0).toList)) = true) then (spec_DiskOk.l0 k1 (wrap64 (x3_1 + 1)) l0_0) else (some false)) else (none)) else (none)) = some r := by first | (rw [hji21] at H; exact H) | (simp only [hji21] at H ⊢; exact H)
          (try rw [hji21] at A9)
          (try rw [hji21] at A18)
          have hji21w : (IntKind.i64.wrap (x3_1 - 1)) = ji21 := (i64_w _).trans hji21
          by_cases c22 : 0 ≤ (ji21)
          ·rw [if_pos c22] at H
           have c22b0 : decide (0 ≤ (ji21)) = true := decide_eq_true c22
           clear c22
           by_cases c23 : (ji21) < (l0_0.length : Int)
           ·rw [if_pos c23] at H
            have c23b0 : decide ((ji21) < (l0_0.length : Int)) = true := decide_eq_true c23
            clear c23
            by_cases c24 : ((Op.bytesLess (((rd_T45 l0_0 (ji21)).f0).toList) (((rd_T45 l0_0 x3_1).f0).toList)) = true)
            ·rw [if_pos c24] at H
             have c24b0 : (Op.bytesLess (((rd_T45 l0_0 (ji21)).f0).toList) (((rd_T45 l0_0 x3_1).f0).toList)) = true := c24
             clear c24
             have H' := aM H
             clear H
             have hcz25_0 := czA BK122.out 0 (.slice A0_0 l0_0.length c0_0)
             have hfz25_0 := blk_frozen BK122.out 0
             have p123 : 0 ≤ (x3_1 : Int) := of_decide_eq_true (by first | (with_reducible assumption) | assumption)
             have q123 : x3_1 < (l0_0.length : Int) := of_decide_eq_true (by first | (with_reducible assumption) | assumption)
             obtain ⟨ad123, e123, hx123_0, hx123_1, hx123_2⟩ := at_T45 HR0_0.out x3_1 p123 q123
             cases e123
             replace hx123_0 := hxB HB hx123_0; replace hx123_1 := hxB HB hx123_1; replace hx123_2 := hxB HB hx123_2; replace p123 := eq_true p123; replace q123 := eq_true q123
             try go_wp2_with (first | ((with_reducible refine gate_dst (N := 4) rfl ?_); (try (refine gate_guard (by rfl) ?_; dsimp only)); refine bxE 4 #[.string (⟨#[]⟩ : ByteArray), .string (⟨#[]⟩ : ByteArray), .int .i64 0] 45 ?_; intro gb124 hg w26 hbox hb; have BK124 := aM (hbox); have GW124 := szG hg (uL HB); have GE124 := szG hg (uL HB); have NB122_124 := neL hg BK122; have NB124_122 := neG hg BK122; replace BK122 := blkB BK122 hb; replace HB := aM (below_step (uL HB) hb); clear hb hbox hg; have hnb27 := NB124_122.out; have hnc27 := NB122_124.out; have hcz28_0 := czA BK124.out 0 (.string (⟨#[]⟩ : ByteArray)); have hcz28_1 := czA BK124.out 1 (.string (⟨#[]⟩ : ByteArray)); have hcz28_2 := czA BK124.out 2 (.int .i64 0); have hfz28_0 := blk_frozen BK124.out 0; have hfz28_1 := blk_frozen BK124.out 1; have hfz28_2 := blk_frozen BK124.out 2))
             have n0_ : Aside0 ((((w26.setCell ⟨gb124, 0, none⟩ (.string ((rd_T45 l0_0 x3_1).f0))).setCell ⟨gb124, 1, none⟩ (.string ((rd_T45 l0_0 x3_1).f1))).setCell ⟨gb124, 2, none⟩ (.int .i64 ((rd_T45 l0_0 x3_1).f2))).heap[gb122]? = some (.cells #[.slice (some ad123) l0_0.length c0_0] 30 (0, 0))) := ⟨by refine nB ?_; refine blk_far ?_ NB122_124.out _; refine nB ?_; refine blk_far ?_ NB122_124.out _; refine nB ?_; refine blk_far ?_ NB122_124.out _; exact nB BK122.out⟩
             have n1_ : Aside0 ((((w26.setCell ⟨gb124, 0, none⟩ (.string ((rd_T45 l0_0 x3_1).f0))).setCell ⟨gb124, 1, none⟩ (.string ((rd_T45 l0_0 x3_1).f1))).setCell ⟨gb124, 2, none⟩ (.int .i64 ((rd_T45 l0_0 x3_1).f2))).heap[gb124]? = some (.cells #[.string ((rd_T45 l0_0 x3_1).f0), .string ((rd_T45 l0_0 x3_1).f1), .int .i64 ((rd_T45 l0_0 x3_1).f2)] 45 (0, 0))) := ⟨by refine nB ?_; refine blk_put (cs := #[.string ((rd_T45 l0_0 x3_1).f0), .string ((rd_T45 l0_0 x3_1).f1), .int .i64 0]) ?_ 2 _ rfl; refine nB ?_; refine blk_put (cs := #[.string ((rd_T45 l0_0 x3_1).f0), .string (⟨#[]⟩ : ByteArray), .int .i64 0]) ?_ 1 _ rfl; refine nB ?_; refine blk_put (cs := #[.string (⟨#[]⟩ : ByteArray), .string (⟨#[]⟩ : ByteArray), .int .i64 0]) ?_ 0 _ rfl; exact nB BK124.out⟩
             have n2_ : Aside0 (Below w.heap.size w (((w26.setCell ⟨gb124, 0, none⟩ (.string ((rd_T45 l0_0 x3_1).f0))).setCell ⟨gb124, 1, none⟩ (.string ((rd_T45 l0_0 x3_1).f1))).setCell ⟨gb124, 2, none⟩ (.int .i64 ((rd_T45 l0_0 x3_1).f2)))) := ⟨uL HB⟩
             (try clear BK122)
             (try clear BK124)
             (try clear HB)
             generalize (((w26.setCell ⟨gb124, 0, none⟩ (.string ((rd_T45 l0_0 x3_1).f0))).setCell ⟨gb124, 1, none⟩ (.string ((rd_T45 l0_0 x3_1).f1))).setCell ⟨gb124, 2, none⟩ (.int .i64 ((rd_T45 l0_0 x3_1).f2))) = w29 at n0_ n1_ n2_ ⊢
             have BK122 := n0_; have BK124 := n1_; have HB := n2_; clear n0_ n1_ n2_
             replace BK122 := aM (blk_drew BK122.out)
             replace BK124 := aM (blk_drew BK124.out)
             replace HB := aM (below_drew1 HB.out)
             have p127 : 0 ≤ ((ji21) : Int) := of_decide_eq_true (by first | (with_reducible assumption) | assumption)
             have q127 : (ji21) < (l0_0.length : Int) := of_decide_eq_true (by first | (with_reducible assumption) | assumption)
             obtain ⟨ad127, e127, hx127_0, hx127_1, hx127_2⟩ := at_T45 HR0_0.out (ji21) p127 q127
             have hw127_2 := hx127_2; have hw127_1 := hx127_1; have hw127_0 := hx127_0
             obtain rfl : ad123 = ad127 := (by injection e127)
             replace hx127_0 := hxB HB hx127_0; replace hx127_1 := hxB HB hx127_1; replace hx127_2 := hxB HB hx127_2; replace p127 := eq_true p127; replace q127 := eq_true q127
             refine start_ (n := 35) (S := fun w' => w'.cell? ⟨gb124, 0, none⟩ = some (.string ((rd_T45 l0_0 x3_1).f0)) ∧ w'.cell? ⟨gb124, 1, none⟩ = some (.string ((rd_T45 l0_0 x3_1).f1)) ∧ w'.cell? ⟨gb124, 2, none⟩ = some (.int .i64 ((rd_T45 l0_0 x3_1).f2)) ∧ w'.cell? ⟨gb122, 0, none⟩ = some (.slice (some ad123) l0_0.length c0_0) ∧ w'.cell? (ad123.add (((ji21)).toNat * 3)) = some (.string ((rd_T45 l0_0 (ji21)).f0)) ∧ w'.cell? ⟨(ad123.add (((ji21)).toNat * 3)).block, (ad123.add (((ji21)).toNat * 3)).off + 1, none⟩ = some (.string ((rd_T45 l0_0 (ji21)).f1)) ∧ w'.cell? ⟨(ad123.add (((ji21)).toNat * 3)).block, (ad123.add (((ji21)).toNat * 3)).off + 2, none⟩ = some (.int .i64 ((rd_T45 l0_0 (ji21)).f2))) (ds := []) (bB 35 0) (by kernel_rfl) rfl rfl ⟨(blk_cell BK124.out 0).trans rfl, (blk_cell BK124.out 1).trans rfl, (blk_cell BK124.out 2).trans rfl, (blk_cell BK122.out 0).trans rfl, (hyB HB hw127_0), (hyB HB hw127_1), (hyB HB hw127_2)⟩ (fun hHeld => ?_); refine with_tabW spec_DiskOk.tab7 spec_DiskOk.bits7 (fun HT_ HW_ => ?_)
             generalize w29.drew = w30 at BK122 BK124 HB hx127_0 hx127_1 hx127_2 hHeld ⊢
             refine pA HT_.out 0 21 35 1 ?_; refine tA HT_.out HW_.out 1 22 35 3 hHeld ?_
             refine oA HT_.out 2 (some 23) 35 7 (fun K hK => ?_)
             refine gX Try.func73 #[.string ((rd_T45 l0_0 x3_1).f0)] ?_
             with_reducible refine (spec_l03Name.calls ((rd_T45 l0_0 x3_1).f0) true _ A9.out).mono ?_
             rintro e w' ⟨rfl, ⟨nd, rfl⟩⟩
             refine ⟨_, rfl, ?_⟩
             refine hK.out _ _ ⟨(blk_cell BK124.out 0).trans rfl, (blk_cell BK124.out 1).trans rfl, (blk_cell BK124.out 2).trans rfl, (blk_cell BK122.out 0).trans rfl, (hyB HB hw127_0), (hyB HB hw127_1), (hyB HB hw127_2)⟩ (fun hHeld => ?_)
             clear hK K
             refine nX 23 ?_; refine pA HT_.out 3 24 35 15 ?_; refine pA HT_.out 4 25 35 31 ?_; refine pA HT_.out 5 26 35 63 ?_; refine tA HT_.out HW_.out 6 27 35 127 hHeld ?_; refine pA HT_.out 7 28 35 255 ?_; refine pA HT_.out 8 29 35 511 ?_; refine pA HT_.out 9 30 35 1023 ?_; refine pA HT_.out 10 31 35 2047 ?_; refine pA HT_.out 11 32 35 4095 ?_; refine pA HT_.out 13 34 35 12287 ?_; refine tA HT_.out HW_.out 12 33 35 16383 hHeld ?_; refine tA HT_.out HW_.out 14 35 35 32767 hHeld ?_; refine pA HT_.out 15 36 35 65535 ?_
             refine oA HT_.out 16 (some 37) 35 131071 (fun K hK => ?_)
             refine gX Try.func74 #[.int .i64 ((rd_T45 l0_0 x3_1).f2), .int .i64 0, .int .i64 (((rd_T45 l0_0 x3_1).f1).size : Int)] ?_
             with_reducible refine (spec_l01In.calls ((rd_T45 l0_0 x3_1).f2) 0 (((rd_T45 l0_0 x3_1).f1).size : Int) true _ A18.out).mono ?_
             rintro e w' ⟨rfl, ⟨nd, rfl⟩⟩
             refine ⟨_, rfl, ?_⟩
             refine hK.out _ _ ⟨(blk_cell BK124.out 0).trans rfl, (blk_cell BK124.out 1).trans rfl, (blk_cell BK124.out 2).trans rfl, (blk_cell BK122.out 0).trans rfl, (hyB HB hw127_0), (hyB HB hw127_1), (hyB HB hw127_2)⟩ (fun hHeld => ?_)
             clear hK K
             refine nX 37 ?_; refine pA HT_.out 17 38 35 262143 ?_; refine pA HT_.out 18 39 35 524287 ?_; refine pA HT_.out 19 40 35 1048575 ?_; refine pA HT_.out 20 41 35 2097151 ?_; refine pA HT_.out 21 42 35 4194303 ?_; refine pA HT_.out 22 43 35 8388607 ?_; refine pA HT_.out 23 44 35 16777215 ?_; refine pA HT_.out 25 46 35 50331647 ?_; refine pA HT_.out 26 47 35 117440511 ?_; refine pA HT_.out 30 51 35 1191182335 ?_; refine tA HT_.out HW_.out 24 45 35 1207959551 hHeld ?_; refine pA HT_.out 27 48 35 1342177279 ?_; refine pA HT_.out 28 49 35 1610612735 ?_; refine tA HT_.out HW_.out 29 50 35 2147483647 hHeld ?_; refine tA HT_.out HW_.out 31 52 35 4294967295 hHeld ?_; refine pA HT_.out 32 53 35 8589934591 ?_; refine pA HT_.out 33 54 35 17179869183 ?_; refine pA HT_.out 34 55 35 34359738367 ?_
             refine done_ (done_of HT_.out (by kernel_rfl)) ?_
             try go_wp2
             go_roundg k1
             case measure => have := HK1.out; omega
             case rel => exact ⟨(wrap64 (x3_1 + 1)), (by first | rfl | (simp; done) | (simp [*]; done)), H', ⟨by have := HK1.out; omega⟩, ⟨by exact nB BK122.out⟩, ⟨uL HB⟩⟩
            ·rw [if_neg c24] at H
             have c24b0 : (Op.bytesLess (((rd_T45 l0_0 (ji21)).f0).toList) (((rd_T45 l0_0 x3_1).f0).toList)) = false := by simpa using c24
             clear c24
             obtain rfl := Option.some.inj H
             have hcz31_0 := czA BK122.out 0 (.slice A0_0 l0_0.length c0_0)
             have hfz31_0 := blk_frozen BK122.out 0
             have p123 : 0 ≤ (x3_1 : Int) := of_decide_eq_true (by first | (with_reducible assumption) | assumption)
             have q123 : x3_1 < (l0_0.length : Int) := of_decide_eq_true (by first | (with_reducible assumption) | assumption)
             obtain ⟨ad123, e123, hx123_0, hx123_1, hx123_2⟩ := at_T45 HR0_0.out x3_1 p123 q123
             cases e123
             replace hx123_0 := hxB HB hx123_0; replace hx123_1 := hxB HB hx123_1; replace hx123_2 := hxB HB hx123_2; replace p123 := eq_true p123; replace q123 := eq_true q123
             try go_wp2_with (first | ((with_reducible refine gate_dst (N := 4) rfl ?_); (try (refine gate_guard (by rfl) ?_; dsimp only)); refine bxE 4 #[.string (⟨#[]⟩ : ByteArray), .string (⟨#[]⟩ : ByteArray), .int .i64 0] 45 ?_; intro gb124 hg w32 hbox hb; have BK124 := aM (hbox); have GW124 := szG hg (uL HB); have GE124 := szG hg (uL HB); have NB122_124 := neL hg BK122; have NB124_122 := neG hg BK122; replace BK122 := blkB BK122 hb; replace HB := aM (below_step (uL HB) hb); clear hb hbox hg; have hnb33 := NB124_122.out; have hnc33 := NB122_124.out; have hcz34_0 := czA BK124.out 0 (.string (⟨#[]⟩ : ByteArray)); have hcz34_1 := czA BK124.out 1 (.string (⟨#[]⟩ : ByteArray)); have hcz34_2 := czA BK124.out 2 (.int .i64 0); have hfz34_0 := blk_frozen BK124.out 0; have hfz34_1 := blk_frozen BK124.out 1; have hfz34_2 := blk_frozen BK124.out 2))
             have n0_ : Aside0 ((((w32.setCell ⟨gb124, 0, none⟩ (.string ((rd_T45 l0_0 x3_1).f0))).setCell ⟨gb124, 1, none⟩ (.string ((rd_T45 l0_0 x3_1).f1))).setCell ⟨gb124, 2, none⟩ (.int .i64 ((rd_T45 l0_0 x3_1).f2))).heap[gb122]? = some (.cells #[.slice (some ad123) l0_0.length c0_0] 30 (0, 0))) := ⟨by refine nB ?_; refine blk_far ?_ NB122_124.out _; refine nB ?_; refine blk_far ?_ NB122_124.out _; refine nB ?_; refine blk_far ?_ NB122_124.out _; exact nB BK122.out⟩
             have n1_ : Aside0 ((((w32.setCell ⟨gb124, 0, none⟩ (.string ((rd_T45 l0_0 x3_1).f0))).setCell ⟨gb124, 1, none⟩ (.string ((rd_T45 l0_0 x3_1).f1))).setCell ⟨gb124, 2, none⟩ (.int .i64 ((rd_T45 l0_0 x3_1).f2))).heap[gb124]? = some (.cells #[.string ((rd_T45 l0_0 x3_1).f0), .string ((rd_T45 l0_0 x3_1).f1), .int .i64 ((rd_T45 l0_0 x3_1).f2)] 45 (0, 0))) := ⟨by refine nB ?_; refine blk_put (cs := #[.string ((rd_T45 l0_0 x3_1).f0), .string ((rd_T45 l0_0 x3_1).f1), .int .i64 0]) ?_ 2 _ rfl; refine nB ?_; refine blk_put (cs := #[.string ((rd_T45 l0_0 x3_1).f0), .string (⟨#[]⟩ : ByteArray), .int .i64 0]) ?_ 1 _ rfl; refine nB ?_; refine blk_put (cs := #[.string (⟨#[]⟩ : ByteArray), .string (⟨#[]⟩ : ByteArray), .int .i64 0]) ?_ 0 _ rfl; exact nB BK124.out⟩
             have n2_ : Aside0 (Below w.heap.size w (((w32.setCell ⟨gb124, 0, none⟩ (.string ((rd_T45 l0_0 x3_1).f0))).setCell ⟨gb124, 1, none⟩ (.string ((rd_T45 l0_0 x3_1).f1))).setCell ⟨gb124, 2, none⟩ (.int .i64 ((rd_T45 l0_0 x3_1).f2)))) := ⟨uL HB⟩
             (try clear BK122)
             (try clear BK124)
             (try clear HB)
             generalize (((w32.setCell ⟨gb124, 0, none⟩ (.string ((rd_T45 l0_0 x3_1).f0))).setCell ⟨gb124, 1, none⟩ (.string ((rd_T45 l0_0 x3_1).f1))).setCell ⟨gb124, 2, none⟩ (.int .i64 ((rd_T45 l0_0 x3_1).f2))) = w35 at n0_ n1_ n2_ ⊢
             have BK122 := n0_; have BK124 := n1_; have HB := n2_; clear n0_ n1_ n2_
             replace BK122 := aM (blk_drew BK122.out)
             replace BK124 := aM (blk_drew BK124.out)
             replace HB := aM (below_drew1 HB.out)
             have p127 : 0 ≤ ((ji21) : Int) := of_decide_eq_true (by first | (with_reducible assumption) | assumption)
             have q127 : (ji21) < (l0_0.length : Int) := of_decide_eq_true (by first | (with_reducible assumption) | assumption)
             obtain ⟨ad127, e127, hx127_0, hx127_1, hx127_2⟩ := at_T45 HR0_0.out (ji21) p127 q127
             have hw127_2 := hx127_2; have hw127_1 := hx127_1; have hw127_0 := hx127_0
             obtain rfl : ad123 = ad127 := (by injection e127)
             replace hx127_0 := hxB HB hx127_0; replace hx127_1 := hxB HB hx127_1; replace hx127_2 := hxB HB hx127_2; replace p127 := eq_true p127; replace q127 := eq_true q127
             refine start_ (n := 35) (S := fun w' => w'.cell? ⟨gb124, 0, none⟩ = some (.string ((rd_T45 l0_0 x3_1).f0)) ∧ w'.cell? ⟨gb124, 1, none⟩ = some (.string ((rd_T45 l0_0 x3_1).f1)) ∧ w'.cell? ⟨gb124, 2, none⟩ = some (.int .i64 ((rd_T45 l0_0 x3_1).f2)) ∧ w'.cell? ⟨gb122, 0, none⟩ = some (.slice (some ad123) l0_0.length c0_0) ∧ w'.cell? (ad123.add (((ji21)).toNat * 3)) = some (.string ((rd_T45 l0_0 (ji21)).f0)) ∧ w'.cell? ⟨(ad123.add (((ji21)).toNat * 3)).block, (ad123.add (((ji21)).toNat * 3)).off + 1, none⟩ = some (.string ((rd_T45 l0_0 (ji21)).f1)) ∧ w'.cell? ⟨(ad123.add (((ji21)).toNat * 3)).block, (ad123.add (((ji21)).toNat * 3)).off + 2, none⟩ = some (.int .i64 ((rd_T45 l0_0 (ji21)).f2))) (ds := []) (bB 35 0) (by kernel_rfl) rfl rfl ⟨(blk_cell BK124.out 0).trans rfl, (blk_cell BK124.out 1).trans rfl, (blk_cell BK124.out 2).trans rfl, (blk_cell BK122.out 0).trans rfl, (hyB HB hw127_0), (hyB HB hw127_1), (hyB HB hw127_2)⟩ (fun hHeld => ?_); refine with_tabW spec_DiskOk.tab7 spec_DiskOk.bits7 (fun HT_ HW_ => ?_)
             generalize w35.drew = w36 at BK122 BK124 HB hx127_0 hx127_1 hx127_2 hHeld ⊢
             refine pA HT_.out 0 21 35 1 ?_; refine tA HT_.out HW_.out 1 22 35 3 hHeld ?_
             refine oA HT_.out 2 (some 23) 35 7 (fun K hK => ?_)
             refine gX Try.func73 #[.string ((rd_T45 l0_0 x3_1).f0)] ?_
             with_reducible refine (spec_l03Name.calls ((rd_T45 l0_0 x3_1).f0) true _ A9.out).mono ?_
             rintro e w' ⟨rfl, ⟨nd, rfl⟩⟩
             refine ⟨_, rfl, ?_⟩
             refine hK.out _ _ ⟨(blk_cell BK124.out 0).trans rfl, (blk_cell BK124.out 1).trans rfl, (blk_cell BK124.out 2).trans rfl, (blk_cell BK122.out 0).trans rfl, (hyB HB hw127_0), (hyB HB hw127_1), (hyB HB hw127_2)⟩ (fun hHeld => ?_)
             clear hK K
             refine nX 23 ?_; refine pA HT_.out 3 24 35 15 ?_; refine pA HT_.out 4 25 35 31 ?_; refine pA HT_.out 5 26 35 63 ?_; refine tA HT_.out HW_.out 6 27 35 127 hHeld ?_; refine pA HT_.out 7 28 35 255 ?_; refine pA HT_.out 8 29 35 511 ?_; refine pA HT_.out 9 30 35 1023 ?_; refine pA HT_.out 10 31 35 2047 ?_; refine pA HT_.out 11 32 35 4095 ?_; refine pA HT_.out 13 34 35 12287 ?_; refine tA HT_.out HW_.out 12 33 35 16383 hHeld ?_; refine tA HT_.out HW_.out 14 35 35 32767 hHeld ?_; refine pA HT_.out 15 36 35 65535 ?_
             refine oA HT_.out 16 (some 37) 35 131071 (fun K hK => ?_)
             refine gX Try.func74 #[.int .i64 ((rd_T45 l0_0 x3_1).f2), .int .i64 0, .int .i64 (((rd_T45 l0_0 x3_1).f1).size : Int)] ?_
             with_reducible refine (spec_l01In.calls ((rd_T45 l0_0 x3_1).f2) 0 (((rd_T45 l0_0 x3_1).f1).size : Int) true _ A18.out).mono ?_
             rintro e w' ⟨rfl, ⟨nd, rfl⟩⟩
             refine ⟨_, rfl, ?_⟩
             refine hK.out _ _ ⟨(blk_cell BK124.out 0).trans rfl, (blk_cell BK124.out 1).trans rfl, (blk_cell BK124.out 2).trans rfl, (blk_cell BK122.out 0).trans rfl, (hyB HB hw127_0), (hyB HB hw127_1), (hyB HB hw127_2)⟩ (fun hHeld => ?_)
             clear hK K
             refine nX 37 ?_; refine pA HT_.out 17 38 35 262143 ?_; refine pA HT_.out 18 39 35 524287 ?_; refine pA HT_.out 19 40 35 1048575 ?_; refine pA HT_.out 20 41 35 2097151 ?_; refine pA HT_.out 21 42 35 4194303 ?_; refine pA HT_.out 22 43 35 8388607 ?_; refine pA HT_.out 23 44 35 16777215 ?_; refine pA HT_.out 25 46 35 50331647 ?_; refine pA HT_.out 26 47 35 117440511 ?_; refine pA HT_.out 30 51 35 1191182335 ?_; refine tA HT_.out HW_.out 24 45 35 1207959551 hHeld ?_; refine pA HT_.out 27 48 35 1342177279 ?_; refine pA HT_.out 28 49 35 1610612735 ?_; refine tA HT_.out HW_.out 29 50 35 2147483647 hHeld ?_; refine tA HT_.out HW_.out 31 52 35 4294967295 hHeld ?_; refine pA HT_.out 32 53 35 8589934591 ?_; refine pA HT_.out 33 54 35 17179869183 ?_; refine pA HT_.out 34 55 35 34359738367 ?_
             refine done_ (done_of HT_.out (by kernel_rfl)) ?_
             try go_wp2
             go_ret
             exact ⟨by first | rfl | (simp [errW_none, errW_some] <;> rfl) | (simp only [← hji21]; first | rfl | (simp [errW_none, errW_some] <;> rfl)) | (simp [*, errW_none, errW_some] <;> rfl), uL HB⟩
           ·rw [if_neg c23] at H
            exact absurd H (by simp)
          ·rw [if_neg c22] at H
           exact absurd H (by simp)
         ·rw [if_neg c20] at H
          have c20b0 : decide (0 < x3_1) = false := decide_eq_false c20
          clear c20
          have H' := aM H
          clear H
          have hcz37_0 := czA BK122.out 0 (.slice A0_0 l0_0.length c0_0)
          have hfz37_0 := blk_frozen BK122.out 0
          have p123 : 0 ≤ (x3_1 : Int) := of_decide_eq_true (by first | (with_reducible assumption) | assumption)
          have q123 : x3_1 < (l0_0.length : Int) := of_decide_eq_true (by first | (with_reducible assumption) | assumption)
          obtain ⟨ad123, e123, hx123_0, hx123_1, hx123_2⟩ := at_T45 HR0_0.out x3_1 p123 q123
          cases e123
          replace hx123_0 := hxB HB hx123_0; replace hx123_1 := hxB HB hx123_1; replace hx123_2 := hxB HB hx123_2; replace p123 := eq_true p123; replace q123 := eq_true q123
          try go_wp2_with (first | ((with_reducible refine gate_dst (N := 4) rfl ?_); (try (refine gate_guard (by rfl) ?_; dsimp only)); refine bxE 4 #[.string (⟨#[]⟩ : ByteArray), .string (⟨#[]⟩ : ByteArray), .int .i64 0] 45 ?_; intro gb124 hg w38 hbox hb; have BK124 := aM (hbox); have GW124 := szG hg (uL HB); have GE124 := szG hg (uL HB); have NB122_124 := neL hg BK122; have NB124_122 := neG hg BK122; replace BK122 := blkB BK122 hb; replace HB := aM (below_step (uL HB) hb); clear hb hbox hg; have hnb39 := NB124_122.out; have hnc39 := NB122_124.out; have hcz40_0 := czA BK124.out 0 (.string (⟨#[]⟩ : ByteArray)); have hcz40_1 := czA BK124.out 1 (.string (⟨#[]⟩ : ByteArray)); have hcz40_2 := czA BK124.out 2 (.int .i64 0); have hfz40_0 := blk_frozen BK124.out 0; have hfz40_1 := blk_frozen BK124.out 1; have hfz40_2 := blk_frozen BK124.out 2))
          have n0_ : Aside0 ((((w38.setCell ⟨gb124, 0, none⟩ (.string ((rd_T45 l0_0 x3_1).f0))).setCell ⟨gb124, 1, none⟩ (.string ((rd_T45 l0_0 x3_1).f1))).setCell ⟨gb124, 2, none⟩ (.int .i64 ((rd_T45 l0_0 x3_1).f2))).heap[gb122]? = some (.cells #[.slice (some ad123) l0_0.length c0_0] 30 (0, 0))) := ⟨by refine nB ?_; refine blk_far ?_ NB122_124.out _; refine nB ?_; refine blk_far ?_ NB122_124.out _; refine nB ?_; refine blk_far ?_ NB122_124.out _; exact nB BK122.out⟩
          have n1_ : Aside0 ((((w38.setCell ⟨gb124, 0, none⟩ (.string ((rd_T45 l0_0 x3_1).f0))).setCell ⟨gb124, 1, none⟩ (.string ((rd_T45 l0_0 x3_1).f1))).setCell ⟨gb124, 2, none⟩ (.int .i64 ((rd_T45 l0_0 x3_1).f2))).heap[gb124]? = some (.cells #[.string ((rd_T45 l0_0 x3_1).f0), .string ((rd_T45 l0_0 x3_1).f1), .int .i64 ((rd_T45 l0_0 x3_1).f2)] 45 (0, 0))) := ⟨by refine nB ?_; refine blk_put (cs := #[.string ((rd_T45 l0_0 x3_1).f0), .string ((rd_T45 l0_0 x3_1).f1), .int .i64 0]) ?_ 2 _ rfl; refine nB ?_; refine blk_put (cs := #[.string ((rd_T45 l0_0 x3_1).f0), .string (⟨#[]⟩ : ByteArray), .int .i64 0]) ?_ 1 _ rfl; refine nB ?_; refine blk_put (cs := #[.string (⟨#[]⟩ : ByteArray), .string (⟨#[]⟩ : ByteArray), .int .i64 0]) ?_ 0 _ rfl; exact nB BK124.out⟩
          have n2_ : Aside0 (Below w.heap.size w (((w38.setCell ⟨gb124, 0, none⟩ (.string ((rd_T45 l0_0 x3_1).f0))).setCell ⟨gb124, 1, none⟩ (.string ((rd_T45 l0_0 x3_1).f1))).setCell ⟨gb124, 2, none⟩ (.int .i64 ((rd_T45 l0_0 x3_1).f2)))) := ⟨uL HB⟩
          (try clear BK122)
          (try clear BK124)
          (try clear HB)
          generalize (((w38.setCell ⟨gb124, 0, none⟩ (.string ((rd_T45 l0_0 x3_1).f0))).setCell ⟨gb124, 1, none⟩ (.string ((rd_T45 l0_0 x3_1).f1))).setCell ⟨gb124, 2, none⟩ (.int .i64 ((rd_T45 l0_0 x3_1).f2))) = w41 at n0_ n1_ n2_ ⊢
          have BK122 := n0_; have BK124 := n1_; have HB := n2_; clear n0_ n1_ n2_
          replace BK122 := aM (blk_drew BK122.out)
          replace BK124 := aM (blk_drew BK124.out)
          replace HB := aM (below_drew1 HB.out)
          refine start_ (n := 35) (S := fun w' => w'.cell? ⟨gb124, 0, none⟩ = some (.string ((rd_T45 l0_0 x3_1).f0)) ∧ w'.cell? ⟨gb124, 1, none⟩ = some (.string ((rd_T45 l0_0 x3_1).f1)) ∧ w'.cell? ⟨gb124, 2, none⟩ = some (.int .i64 ((rd_T45 l0_0 x3_1).f2))) (ds := []) (bB 35 0) (by kernel_rfl) rfl rfl ⟨(blk_cell BK124.out 0).trans rfl, (blk_cell BK124.out 1).trans rfl, (blk_cell BK124.out 2).trans rfl⟩ (fun hHeld => ?_); refine with_tabW spec_DiskOk.tab7 spec_DiskOk.bits7 (fun HT_ HW_ => ?_)
          generalize w41.drew = w42 at BK122 BK124 HB hHeld ⊢
          refine pA HT_.out 0 21 35 1 ?_; refine tA HT_.out HW_.out 1 22 35 3 hHeld ?_
          refine oA HT_.out 2 (some 23) 35 7 (fun K hK => ?_)
          refine gX Try.func73 #[.string ((rd_T45 l0_0 x3_1).f0)] ?_
          with_reducible refine (spec_l03Name.calls ((rd_T45 l0_0 x3_1).f0) true _ A9.out).mono ?_
          rintro e w' ⟨rfl, ⟨nd, rfl⟩⟩
          refine ⟨_, rfl, ?_⟩
          refine hK.out _ _ ⟨(blk_cell BK124.out 0).trans rfl, (blk_cell BK124.out 1).trans rfl, (blk_cell BK124.out 2).trans rfl⟩ (fun hHeld => ?_)
          clear hK K
          refine nX 23 ?_; refine pA HT_.out 3 24 35 15 ?_; refine pA HT_.out 4 25 35 31 ?_; refine pA HT_.out 5 26 35 63 ?_; refine tA HT_.out HW_.out 6 27 35 127 hHeld ?_; refine pA HT_.out 7 28 35 255 ?_; refine pA HT_.out 8 29 35 511 ?_; refine pA HT_.out 9 30 35 1023 ?_; refine pA HT_.out 10 31 35 2047 ?_; refine pA HT_.out 11 32 35 4095 ?_; refine pA HT_.out 13 34 35 12287 ?_; refine tA HT_.out HW_.out 12 33 35 16383 hHeld ?_; refine tA HT_.out HW_.out 14 35 35 32767 hHeld ?_; refine pA HT_.out 15 36 35 65535 ?_
          refine oA HT_.out 16 (some 37) 35 131071 (fun K hK => ?_)
          refine gX Try.func74 #[.int .i64 ((rd_T45 l0_0 x3_1).f2), .int .i64 0, .int .i64 (((rd_T45 l0_0 x3_1).f1).size : Int)] ?_
          with_reducible refine (spec_l01In.calls ((rd_T45 l0_0 x3_1).f2) 0 (((rd_T45 l0_0 x3_1).f1).size : Int) true _ A18.out).mono ?_
          rintro e w' ⟨rfl, ⟨nd, rfl⟩⟩
          refine ⟨_, rfl, ?_⟩
          refine hK.out _ _ ⟨(blk_cell BK124.out 0).trans rfl, (blk_cell BK124.out 1).trans rfl, (blk_cell BK124.out 2).trans rfl⟩ (fun hHeld => ?_)
          clear hK K
          refine nX 37 ?_; refine pA HT_.out 17 38 35 262143 ?_; refine pA HT_.out 18 39 35 524287 ?_; refine pA HT_.out 19 40 35 1048575 ?_; refine pA HT_.out 20 41 35 2097151 ?_; refine pA HT_.out 21 42 35 4194303 ?_; refine pA HT_.out 22 43 35 8388607 ?_; refine pB HT_.out 23 44 35 16777215 ?_; refine pB HT_.out 24 45 35 33554431 ?_; refine pB HT_.out 25 46 35 67108863 ?_; refine pB HT_.out 26 47 35 134217727 ?_; refine pB HT_.out 27 48 35 268435455 ?_; refine pB HT_.out 28 49 35 536870911 ?_; refine pB HT_.out 29 50 35 1073741823 ?_; refine pB HT_.out 30 51 35 2147483647 ?_; refine pB HT_.out 31 52 35 4294967295 ?_; refine pB HT_.out 32 53 35 8589934591 ?_; refine pA HT_.out 33 54 35 17179869183 ?_; refine pA HT_.out 34 55 35 34359738367 ?_
          refine done_ (done_of HT_.out (by kernel_rfl)) ?_
          try go_wp2
          go_roundg k1
          case measure => have := HK1.out; omega
          case rel => exact ⟨(wrap64 (x3_1 + 1)), (by first | rfl | (simp; done) | (simp [*]; done)), H', ⟨by have := HK1.out; omega⟩, ⟨by exact nB BK122.out⟩, ⟨uL HB⟩⟩
        ·replace c19 := Bool.eq_false_iff.mpr c19
         subst c19
         have H1 : (some false) = some r := by rw [if_neg (show ¬ (false = true) by decide)] at H; exact H
         clear H; have H := H1; clear H1
         obtain rfl := Option.some.inj H
         have hcz43_0 := czA BK122.out 0 (.slice A0_0 l0_0.length c0_0)
         have hfz43_0 := blk_frozen BK122.out 0
         have p123 : 0 ≤ (x3_1 : Int) := of_decide_eq_true (by first | (with_reducible assumption) | assumption)
         have q123 : x3_1 < (l0_0.length : Int) := of_decide_eq_true (by first | (with_reducible assumption) | assumption)
         obtain ⟨ad123, e123, hx123_0, hx123_1, hx123_2⟩ := at_T45 HR0_0.out x3_1 p123 q123
         cases e123
         replace hx123_0 := hxB HB hx123_0; replace hx123_1 := hxB HB hx123_1; replace hx123_2 := hxB HB hx123_2; replace p123 := eq_true p123; replace q123 := eq_true q123
         try go_wp2_with (first | ((with_reducible refine gate_dst (N := 4) rfl ?_); (try (refine gate_guard (by rfl) ?_; dsimp only)); refine bxE 4 #[.string (⟨#[]⟩ : ByteArray), .string (⟨#[]⟩ : ByteArray), .int .i64 0] 45 ?_; intro gb124 hg w44 hbox hb; have BK124 := aM (hbox); have GW124 := szG hg (uL HB); have GE124 := szG hg (uL HB); have NB122_124 := neL hg BK122; have NB124_122 := neG hg BK122; replace BK122 := blkB BK122 hb; replace HB := aM (below_step (uL HB) hb); clear hb hbox hg; have hnb45 := NB124_122.out; have hnc45 := NB122_124.out; have hcz46_0 := czA BK124.out 0 (.string (⟨#[]⟩ : ByteArray)); have hcz46_1 := czA BK124.out 1 (.string (⟨#[]⟩ : ByteArray)); have hcz46_2 := czA BK124.out 2 (.int .i64 0); have hfz46_0 := blk_frozen BK124.out 0; have hfz46_1 := blk_frozen BK124.out 1; have hfz46_2 := blk_frozen BK124.out 2))
         have n0_ : Aside0 ((((w44.setCell ⟨gb124, 0, none⟩ (.string ((rd_T45 l0_0 x3_1).f0))).setCell ⟨gb124, 1, none⟩ (.string ((rd_T45 l0_0 x3_1).f1))).setCell ⟨gb124, 2, none⟩ (.int .i64 ((rd_T45 l0_0 x3_1).f2))).heap[gb122]? = some (.cells #[.slice (some ad123) l0_0.length c0_0] 30 (0, 0))) := ⟨by refine nB ?_; refine blk_far ?_ NB122_124.out _; refine nB ?_; refine blk_far ?_ NB122_124.out _; refine nB ?_; refine blk_far ?_ NB122_124.out _; exact nB BK122.out⟩
         have n1_ : Aside0 ((((w44.setCell ⟨gb124, 0, none⟩ (.string ((rd_T45 l0_0 x3_1).f0))).setCell ⟨gb124, 1, none⟩ (.string ((rd_T45 l0_0 x3_1).f1))).setCell ⟨gb124, 2, none⟩ (.int .i64 ((rd_T45 l0_0 x3_1).f2))).heap[gb124]? = some (.cells #[.string ((rd_T45 l0_0 x3_1).f0), .string ((rd_T45 l0_0 x3_1).f1), .int .i64 ((rd_T45 l0_0 x3_1).f2)] 45 (0, 0))) := ⟨by refine nB ?_; refine blk_put (cs := #[.string ((rd_T45 l0_0 x3_1).f0), .string ((rd_T45 l0_0 x3_1).f1), .int .i64 0]) ?_ 2 _ rfl; refine nB ?_; refine blk_put (cs := #[.string ((rd_T45 l0_0 x3_1).f0), .string (⟨#[]⟩ : ByteArray), .int .i64 0]) ?_ 1 _ rfl; refine nB ?_; refine blk_put (cs := #[.string (⟨#[]⟩ : ByteArray), .string (⟨#[]⟩ : ByteArray), .int .i64 0]) ?_ 0 _ rfl; exact nB BK124.out⟩
         have n2_ : Aside0 (Below w.heap.size w (((w44.setCell ⟨gb124, 0, none⟩ (.string ((rd_T45 l0_0 x3_1).f0))).setCell ⟨gb124, 1, none⟩ (.string ((rd_T45 l0_0 x3_1).f1))).setCell ⟨gb124, 2, none⟩ (.int .i64 ((rd_T45 l0_0 x3_1).f2)))) := ⟨uL HB⟩
         (try clear BK122)
         (try clear BK124)
         (try clear HB)
         generalize (((w44.setCell ⟨gb124, 0, none⟩ (.string ((rd_T45 l0_0 x3_1).f0))).setCell ⟨gb124, 1, none⟩ (.string ((rd_T45 l0_0 x3_1).f1))).setCell ⟨gb124, 2, none⟩ (.int .i64 ((rd_T45 l0_0 x3_1).f2))) = w47 at n0_ n1_ n2_ ⊢
         have BK122 := n0_; have BK124 := n1_; have HB := n2_; clear n0_ n1_ n2_
         replace BK122 := aM (blk_drew BK122.out)
         replace BK124 := aM (blk_drew BK124.out)
         replace HB := aM (below_drew1 HB.out)
         refine start_ (n := 35) (S := fun w' => w'.cell? ⟨gb124, 0, none⟩ = some (.string ((rd_T45 l0_0 x3_1).f0)) ∧ w'.cell? ⟨gb124, 1, none⟩ = some (.string ((rd_T45 l0_0 x3_1).f1)) ∧ w'.cell? ⟨gb124, 2, none⟩ = some (.int .i64 ((rd_T45 l0_0 x3_1).f2))) (ds := []) (bB 35 0) (by kernel_rfl) rfl rfl ⟨(blk_cell BK124.out 0).trans rfl, (blk_cell BK124.out 1).trans rfl, (blk_cell BK124.out 2).trans rfl⟩ (fun hHeld => ?_); refine with_tabW spec_DiskOk.tab7 spec_DiskOk.bits7 (fun HT_ HW_ => ?_)
         generalize w47.drew = w48 at BK122 BK124 HB hHeld ⊢
         refine pA HT_.out 0 21 35 1 ?_; refine tA HT_.out HW_.out 1 22 35 3 hHeld ?_
         refine oA HT_.out 2 (some 23) 35 7 (fun K hK => ?_)
         refine gX Try.func73 #[.string ((rd_T45 l0_0 x3_1).f0)] ?_
         with_reducible refine (spec_l03Name.calls ((rd_T45 l0_0 x3_1).f0) true _ A9.out).mono ?_
         rintro e w' ⟨rfl, ⟨nd, rfl⟩⟩
         refine ⟨_, rfl, ?_⟩
         refine hK.out _ _ ⟨(blk_cell BK124.out 0).trans rfl, (blk_cell BK124.out 1).trans rfl, (blk_cell BK124.out 2).trans rfl⟩ (fun hHeld => ?_)
         clear hK K
         refine nX 23 ?_; refine pA HT_.out 3 24 35 15 ?_; refine pA HT_.out 4 25 35 31 ?_; refine pA HT_.out 5 26 35 63 ?_; refine tA HT_.out HW_.out 6 27 35 127 hHeld ?_; refine pA HT_.out 7 28 35 255 ?_; refine pA HT_.out 8 29 35 511 ?_; refine pA HT_.out 9 30 35 1023 ?_; refine pA HT_.out 10 31 35 2047 ?_; refine pA HT_.out 11 32 35 4095 ?_; refine pA HT_.out 13 34 35 12287 ?_; refine tA HT_.out HW_.out 12 33 35 16383 hHeld ?_; refine tA HT_.out HW_.out 14 35 35 32767 hHeld ?_; refine pA HT_.out 15 36 35 65535 ?_
         refine oA HT_.out 16 (some 37) 35 131071 (fun K hK => ?_)
         refine gX Try.func74 #[.int .i64 ((rd_T45 l0_0 x3_1).f2), .int .i64 0, .int .i64 (((rd_T45 l0_0 x3_1).f1).size : Int)] ?_
         with_reducible refine (spec_l01In.calls ((rd_T45 l0_0 x3_1).f2) 0 (((rd_T45 l0_0 x3_1).f1).size : Int) false _ A18.out).mono ?_
         rintro e w' ⟨rfl, ⟨nd, rfl⟩⟩
         refine ⟨_, rfl, ?_⟩
         refine hK.out _ _ ⟨(blk_cell BK124.out 0).trans rfl, (blk_cell BK124.out 1).trans rfl, (blk_cell BK124.out 2).trans rfl⟩ (fun hHeld => ?_)
         clear hK K
         refine nX 37 ?_; refine pA HT_.out 17 38 35 262143 ?_; refine pA HT_.out 18 39 35 524287 ?_; refine pA HT_.out 19 40 35 1048575 ?_; refine pB HT_.out 20 41 35 2097151 ?_; refine pB HT_.out 21 42 35 4194303 ?_; refine pB HT_.out 22 43 35 8388607 ?_; refine pB HT_.out 23 44 35 16777215 ?_; refine pB HT_.out 24 45 35 33554431 ?_; refine pB HT_.out 25 46 35 67108863 ?_; refine pB HT_.out 26 47 35 134217727 ?_; refine pB HT_.out 27 48 35 268435455 ?_; refine pB HT_.out 28 49 35 536870911 ?_; refine pB HT_.out 29 50 35 1073741823 ?_; refine pB HT_.out 30 51 35 2147483647 ?_; refine pB HT_.out 31 52 35 4294967295 ?_; refine pB HT_.out 32 53 35 8589934591 ?_; refine pB HT_.out 33 54 35 17179869183 ?_; refine pA HT_.out 34 55 35 34359738367 ?_
         refine done_ (done_of HT_.out (by kernel_rfl)) ?_
         try go_wp2
         go_ret
         exact rX HB
      ·replace c10 := Bool.eq_false_iff.mpr c10
       subst c10
       have H1 : (some false) = some r := by rw [if_neg (show ¬ (false = true) by decide)] at H; exact H
       clear H; have H := H1; clear H1
       obtain rfl := Option.some.inj H
       have hcz49_0 := czA BK122.out 0 (.slice A0_0 l0_0.length c0_0)
       have hfz49_0 := blk_frozen BK122.out 0
       have p123 : 0 ≤ (x3_1 : Int) := of_decide_eq_true (by first | (with_reducible assumption) | assumption)
       have q123 : x3_1 < (l0_0.length : Int) := of_decide_eq_true (by first | (with_reducible assumption) | assumption)
       obtain ⟨ad123, e123, hx123_0, hx123_1, hx123_2⟩ := at_T45 HR0_0.out x3_1 p123 q123
       cases e123
       replace hx123_0 := hxB HB hx123_0; replace hx123_1 := hxB HB hx123_1; replace hx123_2 := hxB HB hx123_2; replace p123 := eq_true p123; replace q123 := eq_true q123
       try go_wp2_with (first | ((with_reducible refine gate_dst (N := 4) rfl ?_); (try (refine gate_guard (by rfl) ?_; dsimp only)); refine bxE 4 #[.string (⟨#[]⟩ : ByteArray), .string (⟨#[]⟩ : ByteArray), .int .i64 0] 45 ?_; intro gb124 hg w50 hbox hb; have BK124 := aM (hbox); have GW124 := szG hg (uL HB); have GE124 := szG hg (uL HB); have NB122_124 := neL hg BK122; have NB124_122 := neG hg BK122; replace BK122 := blkB BK122 hb; replace HB := aM (below_step (uL HB) hb); clear hb hbox hg; have hnb51 := NB124_122.out; have hnc51 := NB122_124.out; have hcz52_0 := czA BK124.out 0 (.string (⟨#[]⟩ : ByteArray)); have hcz52_1 := czA BK124.out 1 (.string (⟨#[]⟩ : ByteArray)); have hcz52_2 := czA BK124.out 2 (.int .i64 0); have hfz52_0 := blk_frozen BK124.out 0; have hfz52_1 := blk_frozen BK124.out 1; have hfz52_2 := blk_frozen BK124.out 2))
       have n0_ : Aside0 ((((w50.setCell ⟨gb124, 0, none⟩ (.string ((rd_T45 l0_0 x3_1).f0))).setCell ⟨gb124, 1, none⟩ (.string ((rd_T45 l0_0 x3_1).f1))).setCell ⟨gb124, 2, none⟩ (.int .i64 ((rd_T45 l0_0 x3_1).f2))).heap[gb122]? = some (.cells #[.slice (some ad123) l0_0.length c0_0] 30 (0, 0))) := ⟨by refine nB ?_; refine blk_far ?_ NB122_124.out _; refine nB ?_; refine blk_far ?_ NB122_124.out _; refine nB ?_; refine blk_far ?_ NB122_124.out _; exact nB BK122.out⟩
       have n1_ : Aside0 ((((w50.setCell ⟨gb124, 0, none⟩ (.string ((rd_T45 l0_0 x3_1).f0))).setCell ⟨gb124, 1, none⟩ (.string ((rd_T45 l0_0 x3_1).f1))).setCell ⟨gb124, 2, none⟩ (.int .i64 ((rd_T45 l0_0 x3_1).f2))).heap[gb124]? = some (.cells #[.string ((rd_T45 l0_0 x3_1).f0), .string ((rd_T45 l0_0 x3_1).f1), .int .i64 ((rd_T45 l0_0 x3_1).f2)] 45 (0, 0))) := ⟨by refine nB ?_; refine blk_put (cs := #[.string ((rd_T45 l0_0 x3_1).f0), .string ((rd_T45 l0_0 x3_1).f1), .int .i64 0]) ?_ 2 _ rfl; refine nB ?_; refine blk_put (cs := #[.string ((rd_T45 l0_0 x3_1).f0), .string (⟨#[]⟩ : ByteArray), .int .i64 0]) ?_ 1 _ rfl; refine nB ?_; refine blk_put (cs := #[.string (⟨#[]⟩ : ByteArray), .string (⟨#[]⟩ : ByteArray), .int .i64 0]) ?_ 0 _ rfl; exact nB BK124.out⟩
       have n2_ : Aside0 (Below w.heap.size w (((w50.setCell ⟨gb124, 0, none⟩ (.string ((rd_T45 l0_0 x3_1).f0))).setCell ⟨gb124, 1, none⟩ (.string ((rd_T45 l0_0 x3_1).f1))).setCell ⟨gb124, 2, none⟩ (.int .i64 ((rd_T45 l0_0 x3_1).f2)))) := ⟨uL HB⟩
       (try clear BK122)
       (try clear BK124)
       (try clear HB)
       generalize (((w50.setCell ⟨gb124, 0, none⟩ (.string ((rd_T45 l0_0 x3_1).f0))).setCell ⟨gb124, 1, none⟩ (.string ((rd_T45 l0_0 x3_1).f1))).setCell ⟨gb124, 2, none⟩ (.int .i64 ((rd_T45 l0_0 x3_1).f2))) = w53 at n0_ n1_ n2_ ⊢
       have BK122 := n0_; have BK124 := n1_; have HB := n2_; clear n0_ n1_ n2_
       replace BK122 := aM (blk_drew BK122.out)
       replace BK124 := aM (blk_drew BK124.out)
       replace HB := aM (below_drew1 HB.out)
       refine start_ (n := 35) (S := fun w' => w'.cell? ⟨gb124, 0, none⟩ = some (.string ((rd_T45 l0_0 x3_1).f0)) ∧ w'.cell? ⟨gb124, 1, none⟩ = some (.string ((rd_T45 l0_0 x3_1).f1)) ∧ w'.cell? ⟨gb124, 2, none⟩ = some (.int .i64 ((rd_T45 l0_0 x3_1).f2))) (ds := []) (bB 35 0) (by kernel_rfl) rfl rfl ⟨(blk_cell BK124.out 0).trans rfl, (blk_cell BK124.out 1).trans rfl, (blk_cell BK124.out 2).trans rfl⟩ (fun hHeld => ?_); refine with_tabW spec_DiskOk.tab7 spec_DiskOk.bits7 (fun HT_ HW_ => ?_)
       generalize w53.drew = w54 at BK122 BK124 HB hHeld ⊢
       refine pA HT_.out 0 21 35 1 ?_; refine tA HT_.out HW_.out 1 22 35 3 hHeld ?_
       refine oA HT_.out 2 (some 23) 35 7 (fun K hK => ?_)
       refine gX Try.func73 #[.string ((rd_T45 l0_0 x3_1).f0)] ?_
       with_reducible refine (spec_l03Name.calls ((rd_T45 l0_0 x3_1).f0) false _ A9.out).mono ?_
       rintro e w' ⟨rfl, ⟨nd, rfl⟩⟩
       refine ⟨_, rfl, ?_⟩
       refine hK.out _ _ ⟨(blk_cell BK124.out 0).trans rfl, (blk_cell BK124.out 1).trans rfl, (blk_cell BK124.out 2).trans rfl⟩ (fun hHeld => ?_)
       clear hK K
       refine nX 23 ?_; refine pA HT_.out 3 24 35 15 ?_; refine pA HT_.out 4 25 35 31 ?_; refine pB HT_.out 5 26 35 63 ?_; refine pB HT_.out 6 27 35 127 ?_; refine pB HT_.out 7 28 35 255 ?_; refine pB HT_.out 8 29 35 511 ?_; refine pA HT_.out 9 30 35 1023 ?_; refine pA HT_.out 10 31 35 2047 ?_; refine pB HT_.out 11 32 35 4095 ?_; refine pB HT_.out 12 33 35 8191 ?_; refine pB HT_.out 13 34 35 16383 ?_; refine pB HT_.out 14 35 35 32767 ?_; refine pB HT_.out 15 36 35 65535 ?_; refine pB HT_.out 16 37 35 131071 ?_; refine pB HT_.out 17 38 35 262143 ?_; refine pA HT_.out 18 39 35 524287 ?_; refine pA HT_.out 19 40 35 1048575 ?_; refine pB HT_.out 20 41 35 2097151 ?_; refine pB HT_.out 21 42 35 4194303 ?_; refine pB HT_.out 22 43 35 8388607 ?_; refine pB HT_.out 23 44 35 16777215 ?_; refine pB HT_.out 24 45 35 33554431 ?_; refine pB HT_.out 25 46 35 67108863 ?_; refine pB HT_.out 26 47 35 134217727 ?_; refine pB HT_.out 27 48 35 268435455 ?_; refine pB HT_.out 28 49 35 536870911 ?_; refine pB HT_.out 29 50 35 1073741823 ?_; refine pB HT_.out 30 51 35 2147483647 ?_; refine pB HT_.out 31 52 35 4294967295 ?_; refine pB HT_.out 32 53 35 8589934591 ?_; refine pB HT_.out 33 54 35 17179869183 ?_; refine pA HT_.out 34 55 35 34359738367 ?_
       refine done_ (done_of HT_.out (by kernel_rfl)) ?_
       try go_wp2
       go_ret
       exact rX HB
     ·rw [if_neg c8] at H
      exact absurd H (by simp)
    ·rw [if_neg c7] at H
     have c7b0 : decide (x3_1 < (l0_0.length : Int)) = false := decide_eq_false c7
     clear c7
     obtain rfl := Option.some.inj H
     have hcz55_0 := czA BK122.out 0 (.slice A0_0 l0_0.length c0_0)
     have hfz55_0 := blk_frozen BK122.out 0
     go_wp2
     go_ret
     exact rX HB

end Go.Proofs.Ytidfhfaekdahpaa.QFnActs
