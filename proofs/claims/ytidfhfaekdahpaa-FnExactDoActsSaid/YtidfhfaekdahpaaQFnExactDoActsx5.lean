-- Own work (wip/turnprint.py over the kit's print).
import Derived.Test.YtidfhfaekdahpaaQFnExactDoActsx0
import Derived.Test.YtidfhfaekdahpaaQFnExactDoActsx4
namespace Go.Proofs.Ytidfhfaekdahpaa.QFnExactDoActs
open Go.RowKit Go.Proofs.YtidfhfaekdahpaaW.PrintWords Go.Proofs.YtidfhfaekdahpaaW.PrintLast
attribute [local go_sem] Go.Proofs.YtidfhfaekdahpaaQWords.run_lss_str
attribute [local go_sem] Go.Proofs.YtidfhfaekdahpaaQWords.run_geq_str
attribute [local go_sem] Go.Proofs.YtidfhfaekdahpaaQWords.run_leq_str
attribute [local go_sem] Go.Proofs.YtidfhfaekdahpaaQWords.run_gtr_str
set_option linter.unusedVariables false
set_option linter.unusedSimpArgs false

/-! ### spec_DiskOk: function 20 -/
def spec_DiskOk.l0 : Nat → Int → List (S45) → Option (Bool)
 | 0, _, _ => none
 | k + 1, x3, x154000 => if x3 < (x154000.length : Int) then (if 0 ≤ x3 then ((spec_l03Name.f ((rd_T45 x154000 x3).f0)).bind fun t156 => (if t156 = true then (if (((rd_T45 x154000 x3).f1).size : Int) > 20000 then (some false) else ((spec_l01In.f ((rd_T45 x154000 x3).f2) 0 (((rd_T45 x154000 x3).f1).size : Int)).bind fun t157 => (if t157 = true then (if x3 > 0 then (if 0 ≤ (wrap64 (x3 - 1)) then (if (wrap64 (x3 - 1)) < (x154000.length : Int) then (if ((Op.bytesLess (((rd_T45 x154000 (wrap64 (x3 - 1))).f0).toList) (((rd_T45 x154000 x3).f0).toList)) = true) then (spec_DiskOk.l0 k (wrap64 (x3 + 1)) x154000) else (some false)) else (none)) else (none)) else (spec_DiskOk.l0 k (wrap64 (x3 + 1)) x154000)) else (some false)))) else (some false))) else (none)) else (some true)
def spec_DiskOk.f (k : Nat) (l0_0 : List (S45)) : Option (Bool) := if (l0_0.length : Int) > 30 then (some false) else (spec_DiskOk.l0 k 0 l0_0)
theorem spec_DiskOk.mono_l : ∀ k, (∀ y0 y1, LeO (spec_DiskOk.l0 k y0 y1) (spec_DiskOk.l0 (k + 1) y0 y1))
 | 0 => fun _ _ r h => by simp [spec_DiskOk.l0] at h
 | k + 1 => by
  have ih0 := spec_DiskOk.mono_l k
  ·intro y0 y1
   unfold spec_DiskOk.l0
   repeat' first
   | (with_reducible exact ih0 _ _)
   | (with_reducible exact LeO.refl _)
   | (with_reducible exact LeO.none _)
   | (with_reducible refine LeO.ite ?_ ?_)
   | (with_reducible refine LeO.bind ?_ (fun _ => ?_))
   | exact ih0 _ _
   | exact LeO.none _
   | refine LeO.ite ?_ ?_
   | refine LeO.bind ?_ (fun _ => ?_)
theorem spec_DiskOk.mono : ∀ a0 k, LeO (spec_DiskOk.f k a0) (spec_DiskOk.f (k + 1) a0) := by
 intro a0 k
 have ih0 := spec_DiskOk.mono_l k
 unfold spec_DiskOk.f
 repeat' first
   | (with_reducible exact ih0 _ _)
   | (with_reducible exact LeO.refl _)
   | (with_reducible exact LeO.none _)
   | (with_reducible refine LeO.ite ?_ ?_)
   | (with_reducible refine LeO.bind ?_ (fun _ => ?_))
   | exact ih0 _ _
   | exact LeO.none _
   | refine LeO.ite ?_ ?_
   | refine LeO.bind ?_ (fun _ => ?_)
def spec_DiskOk.T7 : Bool × List (List Nat × List Nat) := (true, [([], []), ([0], [0]), ([1], [1]), ([2], [2]), ([3, 2], [3]), ([4], [4]), ([5, 4], [4, 5]), ([6, 4], [4, 6]), ([7, 4], [4, 7]), ([4, 8], [4, 8]), ([9, 4], [9]), ([10], [10]), ([11, 10], [10, 11]), ([10], [10]), ([13, 10], [10, 13]), ([14, 10], [10, 14]), ([12, 15, 10, 10], [10, 12, 15]), ([16, 10], [10, 16]), ([10, 17], [10, 17]), ([18, 16], [18]), ([19], [19]), ([20, 19], [19, 20]), ([21, 19, 19], [19, 21]), ([22], [22]), ([23, 22], [22, 23]), ([22], [22]), ([25, 22], [22, 25]), ([24, 26, 22], [22, 24, 26]), ([27, 22], [22, 27]), ([28, 22], [22, 28]), ([22], [22]), ([30, 22], [22, 30]), ([29, 31, 22], [22, 29, 31]), ([22, 32, 19], [19, 22, 32]), ([19, 33], [19, 33])])
def spec_DiskOk.B7 : List Nat := [0, 1, 3, 7, 15, 31, 63, 127, 255, 511, 1023, 2047, 4095, 2047, 10239, 26623, 65535, 131071, 262143, 524287, 1048575, 2097151, 4194303, 8388607, 16777215, 8388607, 41943039, 134217727, 268435455, 536870911, 8388607, 1082130431, 4294967295, 8589934591, 17179869183]
theorem spec_DiskOk.tab7 : rtab .any (opsOf Try.f20 7) = spec_DiskOk.T7 := by kernel_rfl
theorem spec_DiskOk.bits7 : waitsOk spec_DiskOk.T7.2 spec_DiskOk.B7 = true := by kernel_rfl
set_option maxHeartbeats 8000000 in
set_option maxRecDepth 100000 in
theorem spec_DiskOk.calls (k : Nat) (A0_0 : Option Addr) (c0_0 : Nat) (l0_0 : List (S45)) (r : Bool) (w : World) (hr0_0 : Kd.C k45 w A0_0 l0_0.length l0_0) (hc0_0 : l0_0.length ≤ c0_0) (h : spec_DiskOk.f k l0_0 = some r) :
  Calls Try.prog 20 #[.agg #[.slice A0_0 l0_0.length c0_0]] w fun e w' => e = .returned (.bool r) ∧ Below w.heap.size w w' := by
 have hu30 := Try.underlying30
 have hu45 := Try.underlying45
 have HR0_0 := aM hr0_0
 have HC0_0 := aM hc0_0
 clear hr0_0 hc0_0
 have HB := aM (Below.refl w.heap.size w)
 have H : (if (l0_0.length : Int) > 30 then (some false) else (spec_DiskOk.l0 k 0 l0_0)) = some r := h
 clear h
 by_cases c2 : (l0_0.length : Int) > 30
 ·rw [if_pos c2] at H
  have c2b0 : decide (30 < (l0_0.length : Int)) = true := decide_eq_true c2
  have c2b1 : decide (30 < l0_0.length) = true := decide_eq_true (by omega)
  clear c2
  obtain rfl := Option.some.inj H
  go_enter Try.func20, Try.ntmps20
  go_wp2_with (first | ((with_reducible refine gate_dst (N := 1) rfl ?_); (try (refine gate_guard (by rfl) ?_; dsimp only)); refine bxE 1 #[.slice A0_0 l0_0.length c0_0] 30 ?_; intro gb153 hg w3 hbox hb; have n0_ := aM (below_step (uL HB) hb); have n1_ := aM (hbox); have n2_ := szG hg (uL HB); have n3_ := szG hg (uL HB); clear HB; have HB := n0_; have BK153 := n1_; have GW153 := n2_; have GE153 := n3_; clear n0_ n1_ n2_ n3_; clear hb hbox hg; have hcz4_0 := czA BK153.out 0 (.slice A0_0 l0_0.length c0_0); have hfz4_0 := blk_frozen BK153.out 0))
  go_ret
  exact ⟨by first | rfl | (simp [errW_none, errW_some] <;> rfl) | (simp [*, errW_none, errW_some] <;> rfl), uL HB⟩
 ·rw [if_neg c2] at H
  have c2b0 : decide (30 < (l0_0.length : Int)) = false := decide_eq_false c2
  have c2b1 : decide (30 < l0_0.length) = false := decide_eq_false (by omega)
  clear c2
  have H' := aM H
  clear H
  go_enter Try.func20, Try.ntmps20
  go_wp2_with (first | ((with_reducible refine gate_dst (N := 1) rfl ?_); (try (refine gate_guard (by rfl) ?_; dsimp only)); refine bxE 1 #[.slice A0_0 l0_0.length c0_0] 30 ?_; intro gb153 hg w5 hbox hb; have n0_ := aM (below_step (uL HB) hb); have n1_ := aM (hbox); have n2_ := szG hg (uL HB); have n3_ := szG hg (uL HB); clear HB; have HB := n0_; have BK153 := n1_; have GW153 := n2_; have GE153 := n3_; clear n0_ n1_ n2_ n3_; clear hb hbox hg; have hcz6_0 := czA BK153.out 0 (.slice A0_0 l0_0.length c0_0); have hfz6_0 := blk_frozen BK153.out 0))
  go_loopg [3] k (fun kq v3 w' => ∃ (x3_1 : Int), v3 = .int .i64 x3_1 ∧ Aside0 (spec_DiskOk.l0 kq x3_1 l0_0 = some r) ∧ Aside0 (kq ≤ k) ∧ Aside0 (w'.heap[gb153]? = some (.cells #[(.slice A0_0 l0_0.length c0_0)] 30 (0, 0))) ∧ Aside0 (Below w.heap.size w w'))
  case atStart => exact ⟨(0), (by first | rfl | (simp; done) | (simp [*]; done)), H', ⟨Nat.le_refl _⟩, ⟨by (with_reducible repeat first | apply bN | apply bD | apply bA); exact BK153.out⟩, ⟨uL HB⟩⟩
  case round =>
   clear H'
   try clear c2
   try clear c2b0
   try clear c2b1
   try clear p2
   try clear hcz4_0
   try clear hcz6_0
   try clear hfz4_0
   try clear hfz6_0
   obtain ⟨x3_1, rfl, HA, HK1, BK153, HB⟩ := hrel
   cases gk with
   | zero => exact absurd HA.out (by simp [spec_DiskOk.l0])
   | succ k1 =>
    have H := HA.out
    clear HA
    simp only [spec_DiskOk.l0] at H
    by_cases c7 : x3_1 < (l0_0.length : Int)
    ·rw [if_pos c7] at H
     have c7b0 : decide (x3_1 < (l0_0.length : Int)) = true := decide_eq_true c7
     clear c7
     by_cases c8 : 0 ≤ x3_1
     ·rw [if_pos c8] at H
      have c8b0 : decide (0 ≤ x3_1) = true := decide_eq_true c8
      clear c8
      replace H := Option.bind_eq_some_iff.mp H
      obtain ⟨t156, A90, H⟩ := H
      replace H : (if t156 = true then (if (((rd_T45 l0_0 x3_1).f1).size : Int) > 20000 then (some false) else ((spec_l01In.f ((rd_T45 l0_0 x3_1).f2) 0 (((rd_T45 l0_0 x3_1).f1).size : Int)).bind fun t157 => (if t157 = true then (if x3_1 > 0 then (if 0 ≤ (wrap64 (x3_1 - 1)) then (if (wrap64 (x3_1 - 1)) < (l0_0.length : Int) then (if ((Op.bytesLess (((rd_T45 l0_0 (wrap64 (x3_1 - 1))).f0).toList) (((rd_T45 l0_0 x3_1).f0).toList)) = true) then (spec_DiskOk.l0 k1 (wrap64 (x3_1 + 1)) l0_0) else (some false)) else (none)) else (none)) else (spec_DiskOk.l0 k1 (wrap64 (x3_1 + 1)) l0_0)) else (some false)))) else (some false)) = some r := H
      have A9 := aM A90
      clear A90
      by_cases c10 : t156 = true
      ·subst c10
       have H1 : (if (((rd_T45 l0_0 x3_1).f1).size : Int) > 20000 then (some false) else ((spec_l01In.f ((rd_T45 l0_0 x3_1).f2) 0 (((rd_T45 l0_0 x3_1).f1).size : Int)).bind fun t157 => (if t157 = true then (if x3_1 > 0 then (if 0 ≤ (wrap64 (x3_1 - 1)) then (if (wrap64 (x3_1 - 1)) < (l0_0.length : Int) then (if ((Op.bytesLess (((rd_T45 l0_0 (wrap64 (x3_1 - 1))).f0).toList) (((rd_T45 l0_0 x3_1).f0).toList)) = true) then (spec_DiskOk.l0 k1 (wrap64 (x3_1 + 1)) l0_0) else (some false)) else (none)) else (none)) else (spec_DiskOk.l0 k1 (wrap64 (x3_1 + 1)) l0_0)) else (some false)))) = some r := by rw [if_pos rfl] at H; exact H
       clear H; have H := H1; clear H1
       by_cases c11 : (((rd_T45 l0_0 x3_1).f1).size : Int) > 20000
       ·rw [if_pos c11] at H
        have c11b0 : decide (20000 < (((rd_T45 l0_0 x3_1).f1).size : Int)) = true := decide_eq_true c11
        have c11b1 : decide (20000 < ((rd_T45 l0_0 x3_1).f1).size) = true := decide_eq_true (by omega)
        clear c11
        obtain rfl := Option.some.inj H
        have hcz12_0 := czA BK153.out 0 (.slice A0_0 l0_0.length c0_0)
        have hfz12_0 := blk_frozen BK153.out 0
        have p154 : 0 ≤ (x3_1 : Int) := of_decide_eq_true (by first | (with_reducible assumption) | assumption)
        have q154 : x3_1 < (l0_0.length : Int) := of_decide_eq_true (by first | (with_reducible assumption) | assumption)
        obtain ⟨ad154, e154, hx154_0, hx154_1, hx154_2⟩ := at_T45 HR0_0.out x3_1 p154 q154
        cases e154
        replace hx154_0 := (HB.out.cell (World.block_lt_of_cell? w _ hx154_0)).trans hx154_0
        replace hx154_1 := (HB.out.cell (World.block_lt_of_cell? w _ hx154_1)).trans hx154_1
        replace hx154_2 := (HB.out.cell (World.block_lt_of_cell? w _ hx154_2)).trans hx154_2
        replace p154 := eq_true p154
        replace q154 := eq_true q154
        try go_wp2_with (first | ((with_reducible refine gate_dst (N := 4) rfl ?_); (try (refine gate_guard (by rfl) ?_; dsimp only)); refine box_event ?hg (N := 4) ?hd (cs := #[.string (⟨#[]⟩ : ByteArray), .string (⟨#[]⟩ : ByteArray), .int .i64 0]) (t := 45) ?hr ?_; (case hd => rfl); (case hg => rfl); (case hr => first | (go_simp; done) | (go_simp; rfl)); intro gb155 hg w13 hbox hb; have n0_ := blkB BK153 hb; have n1_ := aM (below_step (uL HB) hb); have n2_ := aM (hbox); have n3_ := szG hg (uL HB); have n4_ := szG hg (uL HB); have n5_ := neL hg BK153; have n6_ := neG hg BK153; clear BK153; clear HB; have BK153 := n0_; have HB := n1_; have BK155 := n2_; have GW155 := n3_; have GE155 := n4_; have NB153_155 := n5_; have NB155_153 := n6_; clear n0_ n1_ n2_ n3_ n4_ n5_ n6_; clear hb hbox hg; have hnb14 := NB155_153.out; have hnc14 := NB153_155.out; have hcz15_0 := czA BK155.out 0 (.string (⟨#[]⟩ : ByteArray)); have hcz15_1 := czA BK155.out 1 (.string (⟨#[]⟩ : ByteArray)); have hcz15_2 := czA BK155.out 2 (.int .i64 0); have hfz15_0 := blk_frozen BK155.out 0; have hfz15_1 := blk_frozen BK155.out 1; have hfz15_2 := blk_frozen BK155.out 2))
        have n0_ : Aside0 ((((w13.setCell ⟨gb155, 0, none⟩ (.string ((rd_T45 l0_0 x3_1).f0))).setCell ⟨gb155, 1, none⟩ (.string ((rd_T45 l0_0 x3_1).f1))).setCell ⟨gb155, 2, none⟩ (.int .i64 ((rd_T45 l0_0 x3_1).f2))).heap[gb153]? = some (.cells #[.slice (some ad154) l0_0.length c0_0] 30 (0, 0))) := ⟨by (with_reducible repeat first | apply bN | apply bD | apply bA); refine blk_far ?_ NB153_155.out _; (with_reducible repeat first | apply bN | apply bD | apply bA); refine blk_far ?_ NB153_155.out _; (with_reducible repeat first | apply bN | apply bD | apply bA); refine blk_far ?_ NB153_155.out _; (with_reducible repeat first | apply bN | apply bD | apply bA); exact BK153.out⟩
        have n1_ : Aside0 ((((w13.setCell ⟨gb155, 0, none⟩ (.string ((rd_T45 l0_0 x3_1).f0))).setCell ⟨gb155, 1, none⟩ (.string ((rd_T45 l0_0 x3_1).f1))).setCell ⟨gb155, 2, none⟩ (.int .i64 ((rd_T45 l0_0 x3_1).f2))).heap[gb155]? = some (.cells #[.string ((rd_T45 l0_0 x3_1).f0), .string ((rd_T45 l0_0 x3_1).f1), .int .i64 ((rd_T45 l0_0 x3_1).f2)] 45 (0, 0))) := ⟨by (with_reducible repeat first | apply bN | apply bD | apply bA); refine blk_put (cs := #[.string ((rd_T45 l0_0 x3_1).f0), .string ((rd_T45 l0_0 x3_1).f1), .int .i64 0]) ?_ 2 _ rfl; (with_reducible repeat first | apply bN | apply bD | apply bA); refine blk_put (cs := #[.string ((rd_T45 l0_0 x3_1).f0), .string (⟨#[]⟩ : ByteArray), .int .i64 0]) ?_ 1 _ rfl; (with_reducible repeat first | apply bN | apply bD | apply bA); refine blk_put (cs := #[.string (⟨#[]⟩ : ByteArray), .string (⟨#[]⟩ : ByteArray), .int .i64 0]) ?_ 0 _ rfl; (with_reducible repeat first | apply bN | apply bD | apply bA); exact BK155.out⟩
        have n2_ : Aside0 (Below w.heap.size w (((w13.setCell ⟨gb155, 0, none⟩ (.string ((rd_T45 l0_0 x3_1).f0))).setCell ⟨gb155, 1, none⟩ (.string ((rd_T45 l0_0 x3_1).f1))).setCell ⟨gb155, 2, none⟩ (.int .i64 ((rd_T45 l0_0 x3_1).f2)))) := ⟨uL HB⟩
        (try clear BK153)
        (try clear BK155)
        (try clear HB)
        generalize (((w13.setCell ⟨gb155, 0, none⟩ (.string ((rd_T45 l0_0 x3_1).f0))).setCell ⟨gb155, 1, none⟩ (.string ((rd_T45 l0_0 x3_1).f1))).setCell ⟨gb155, 2, none⟩ (.int .i64 ((rd_T45 l0_0 x3_1).f2))) = w16 at n0_ n1_ n2_ ⊢
        have BK153 := n0_; have BK155 := n1_; have HB := n2_; clear n0_ n1_ n2_
        have n0_ := aM (blk_drew BK153.out)
        have n1_ := aM (blk_drew BK155.out)
        have n2_ := aM (below_drew1 HB.out)
        clear BK153 BK155 HB; have BK153 := n0_; have BK155 := n1_; have HB := n2_; clear n0_ n1_ n2_
        refine start_ (n := 35) (S := fun w' => w'.cell? ⟨gb155, 0, none⟩ = some (.string ((rd_T45 l0_0 x3_1).f0)) ∧ w'.cell? ⟨gb155, 1, none⟩ = some (.string ((rd_T45 l0_0 x3_1).f1)) ∧ w'.cell? ⟨gb155, 2, none⟩ = some (.int .i64 ((rd_T45 l0_0 x3_1).f2))) (ds := []) #[false, false, false, false, false, false, false, false, false, false, false, false, false, false, false, false, false, false, false, false, false, false, false, false, false, false, false, false, false, false, false, false, false, false, false] (by kernel_rfl) rfl rfl ⟨(blk_cell BK155.out 0).trans rfl, (blk_cell BK155.out 1).trans rfl, (blk_cell BK155.out 2).trans rfl⟩ (fun hHeld => ?_); refine with_tabW spec_DiskOk.tab7 spec_DiskOk.bits7 (fun HT_ HW_ => ?_)
        generalize w16.drew = w17 at BK153 BK155 HB hHeld ⊢
        refine pX 0 21 (bB 35 1) (any_of HT_.out (by kernel_rfl)) ?_
        refine take_ (i := 1) (N := some 22) (v := ?_) (a' := ?_) (bB 35 3) rfl rfl (take_ofW HT_.out HW_.out (by kernel_rfl)) (fun _ _ _ h => h) (Or.inl ⟨by rfl, ?_⟩) hHeld ?_ ?_
        rotate_left
        ·rintro w' ⟨s0, s1, s2⟩
         go_simp
         with_reducible rfl
        rotate_left
        ·simp only [aP, aQ, sT, sZ, sU, i64_w, i32_w]
         rfl
        refine one_ (i := 2) (N := some 23) (bB 35 7) rfl rfl (one_of HT_.out (by kernel_rfl)) (by decide) (fun K hK => ?_)
        refine gX Try.func73 #[.string ((rd_T45 l0_0 x3_1).f0)] ?_
        with_reducible refine (spec_l03Name.calls ((rd_T45 l0_0 x3_1).f0) true _ A9.out).mono ?_
        rintro e w' ⟨rfl, ⟨nd, rfl⟩⟩
        refine ⟨_, rfl, ?_⟩
        refine hK.out _ _ ⟨(blk_cell BK155.out 0).trans rfl, (blk_cell BK155.out 1).trans rfl, (blk_cell BK155.out 2).trans rfl⟩ (fun hHeld => ?_)
        clear hK K
        refine norm_ (a' := ?_) ?_ ?_
        rotate_left
        ·show Act.put _ (some 23) _ = _
         simp only [aP, aQ, sT, sZ, sU, i64_w, i32_w]
         rfl
        refine pX 3 24 (bB 35 15) (any_of HT_.out (by kernel_rfl)) ?_
        refine pX 4 25 (bB 35 31) (any_of HT_.out (by kernel_rfl)) ?_
        refine pX 5 26 (bB 35 63) (any_of HT_.out (by kernel_rfl)) ?_
        refine take_ (i := 6) (N := some 27) (v := ?_) (a' := ?_) (bB 35 127) rfl rfl (take_ofW HT_.out HW_.out (by kernel_rfl)) (fun _ _ _ h => h) (Or.inl ⟨by rfl, ?_⟩) hHeld ?_ ?_
        rotate_left
        ·rintro w' ⟨s0, s1, s2⟩
         go_simp
         with_reducible rfl
        rotate_left
        ·simp only [aP, aQ, sT, sZ, sU, i64_w, i32_w]
         rfl
        refine pX 7 28 (bB 35 255) (any_of HT_.out (by kernel_rfl)) ?_
        refine pX 8 29 (bB 35 511) (any_of HT_.out (by kernel_rfl)) ?_
        refine pX 9 30 (bB 35 1023) (any_of HT_.out (by kernel_rfl)) ?_
        refine pX 10 31 (bB 35 2047) (any_of HT_.out (by kernel_rfl)) ?_
        refine pU 11 32 (bB 35 4095) (any_of HT_.out (by kernel_rfl)) ?_
        refine pU 12 33 (bB 35 8191) (any_of HT_.out (by kernel_rfl)) ?_
        refine pU 13 34 (bB 35 16383) (any_of HT_.out (by kernel_rfl)) ?_
        refine pU 14 35 (bB 35 32767) (any_of HT_.out (by kernel_rfl)) ?_
        refine pU 15 36 (bB 35 65535) (any_of HT_.out (by kernel_rfl)) ?_
        refine pU 16 37 (bB 35 131071) (any_of HT_.out (by kernel_rfl)) ?_
        refine pU 17 38 (bB 35 262143) (any_of HT_.out (by kernel_rfl)) ?_
        refine pX 18 39 (bB 35 524287) (any_of HT_.out (by kernel_rfl)) ?_
        refine pX 19 40 (bB 35 1048575) (any_of HT_.out (by kernel_rfl)) ?_
        refine pU 20 41 (bB 35 2097151) (any_of HT_.out (by kernel_rfl)) ?_
        refine pU 21 42 (bB 35 4194303) (any_of HT_.out (by kernel_rfl)) ?_
        refine pU 22 43 (bB 35 8388607) (any_of HT_.out (by kernel_rfl)) ?_
        refine pU 23 44 (bB 35 16777215) (any_of HT_.out (by kernel_rfl)) ?_
        refine pU 24 45 (bB 35 33554431) (any_of HT_.out (by kernel_rfl)) ?_
        refine pU 25 46 (bB 35 67108863) (any_of HT_.out (by kernel_rfl)) ?_
        refine pU 26 47 (bB 35 134217727) (any_of HT_.out (by kernel_rfl)) ?_
        refine pU 27 48 (bB 35 268435455) (any_of HT_.out (by kernel_rfl)) ?_
        refine pU 28 49 (bB 35 536870911) (any_of HT_.out (by kernel_rfl)) ?_
        refine pU 29 50 (bB 35 1073741823) (any_of HT_.out (by kernel_rfl)) ?_
        refine pU 30 51 (bB 35 2147483647) (any_of HT_.out (by kernel_rfl)) ?_
        refine pU 31 52 (bB 35 4294967295) (any_of HT_.out (by kernel_rfl)) ?_
        refine pU 32 53 (bB 35 8589934591) (any_of HT_.out (by kernel_rfl)) ?_
        refine pU 33 54 (bB 35 17179869183) (any_of HT_.out (by kernel_rfl)) ?_
        refine pX 34 55 (bB 35 34359738367) (any_of HT_.out (by kernel_rfl)) ?_
        refine done_ (done_of HT_.out (by kernel_rfl)) ?_
        try go_wp2
        go_ret
        exact ⟨by first | rfl | (simp [errW_none, errW_some] <;> rfl) | (simp [*, errW_none, errW_some] <;> rfl), uL HB⟩
       ·rw [if_neg c11] at H
        have c11b0 : decide (20000 < (((rd_T45 l0_0 x3_1).f1).size : Int)) = false := decide_eq_false c11
        have c11b1 : decide (20000 < ((rd_T45 l0_0 x3_1).f1).size) = false := decide_eq_false (by omega)
        clear c11
        replace H := Option.bind_eq_some_iff.mp H
        obtain ⟨t157, A180, H⟩ := H
        replace H : (if t157 = true then (if x3_1 > 0 then (if 0 ≤ (wrap64 (x3_1 - 1)) then (if (wrap64 (x3_1 - 1)) < (l0_0.length : Int) then (if ((Op.bytesLess (((rd_T45 l0_0 (wrap64 (x3_1 - 1))).f0).toList) (((rd_T45 l0_0 x3_1).f0).toList)) = true) then (spec_DiskOk.l0 k1 (wrap64 (x3_1 + 1)) l0_0) else (some false)) else (none)) else (none)) else (spec_DiskOk.l0 k1 (wrap64 (x3_1 + 1)) l0_0)) else (some false)) = some r := H
        have A18 := aM A180
        clear A180
        by_cases c19 : t157 = true
        ·subst c19
         have H1 : (if x3_1 > 0 then (if 0 ≤ (wrap64 (x3_1 - 1)) then (if (wrap64 (x3_1 - 1)) < (l0_0.length : Int) then (if ((Op.bytesLess (((rd_T45 l0_0 (wrap64 (x3_1 - 1))).f0).toList) (((rd_T45 l0_0 x3_1).f0).toList)) = true) then (spec_DiskOk.l0 k1 (wrap64 (x3_1 + 1)) l0_0) else (some false)) else (none)) else (none)) else (spec_DiskOk.l0 k1 (wrap64 (x3_1 + 1)) l0_0)) = some r := by rw [if_pos rfl] at H; exact H
         clear H; have H := H1; clear H1
         by_cases c20 : x3_1 > 0
         ·rw [if_pos c20] at H
          have c20b0 : decide (0 < x3_1) = true := decide_eq_true c20
          clear c20
          obtain ⟨ji21, hji21⟩ : ∃ j_ : Int, (wrap64 (x3_1 - 1)) = j_ := ⟨_, rfl⟩
          replace H : (if 0 ≤ (ji21) then (if (ji21) < (l0_0.length : Int) then (if ((Op.bytesLess (((rd_T45 l0_0 (ji21)).f0).toList) (((rd_T45 l0_0 x3_1).f0).toList)) = true) then (spec_DiskOk.l0 k1 (wrap64 (x3_1 + 1)) l0_0) else (some false)) else (none)) else (none)) = some r := by first | (rw [hji21] at H; exact H) | (simp only [hji21] at H ⊢; exact H)
          (try rw [hji21] at A9)
          (try rw [hji21] at A18)
          have hji21w : (IntKind.i64.wrap (x3_1 - 1)) = ji21 := (i64_w _).trans hji21
          by_cases c22 : 0 ≤ (ji21)
          ·rw [if_pos c22] at H
           have c22b0 : decide (0 ≤ (ji21)) = true := decide_eq_true c22
           clear c22
           by_cases c23 : (ji21) < (l0_0.length : Int)
           ·rw [if_pos c23] at H
            have c23b0 : decide ((ji21) < (l0_0.length : Int)) = true := decide_eq_true c23
            clear c23
            by_cases c24 : ((Op.bytesLess (((rd_T45 l0_0 (ji21)).f0).toList) (((rd_T45 l0_0 x3_1).f0).toList)) = true)
            ·rw [if_pos c24] at H
             have c24b0 : (Op.bytesLess (((rd_T45 l0_0 (ji21)).f0).toList) (((rd_T45 l0_0 x3_1).f0).toList)) = true := c24
             clear c24
             have H' := aM H
             clear H
             have hcz25_0 := czA BK153.out 0 (.slice A0_0 l0_0.length c0_0)
             have hfz25_0 := blk_frozen BK153.out 0
             have p154 : 0 ≤ (x3_1 : Int) := of_decide_eq_true (by first | (with_reducible assumption) | assumption)
             have q154 : x3_1 < (l0_0.length : Int) := of_decide_eq_true (by first | (with_reducible assumption) | assumption)
             obtain ⟨ad154, e154, hx154_0, hx154_1, hx154_2⟩ := at_T45 HR0_0.out x3_1 p154 q154
             cases e154
             replace hx154_0 := (HB.out.cell (World.block_lt_of_cell? w _ hx154_0)).trans hx154_0
             replace hx154_1 := (HB.out.cell (World.block_lt_of_cell? w _ hx154_1)).trans hx154_1
             replace hx154_2 := (HB.out.cell (World.block_lt_of_cell? w _ hx154_2)).trans hx154_2
             replace p154 := eq_true p154
             replace q154 := eq_true q154
             try go_wp2_with (first | ((with_reducible refine gate_dst (N := 4) rfl ?_); (try (refine gate_guard (by rfl) ?_; dsimp only)); refine box_event ?hg (N := 4) ?hd (cs := #[.string (⟨#[]⟩ : ByteArray), .string (⟨#[]⟩ : ByteArray), .int .i64 0]) (t := 45) ?hr ?_; (case hd => rfl); (case hg => rfl); (case hr => first | (go_simp; done) | (go_simp; rfl)); intro gb155 hg w26 hbox hb; have n0_ := blkB BK153 hb; have n1_ := aM (below_step (uL HB) hb); have n2_ := aM (hbox); have n3_ := szG hg (uL HB); have n4_ := szG hg (uL HB); have n5_ := neL hg BK153; have n6_ := neG hg BK153; clear BK153; clear HB; have BK153 := n0_; have HB := n1_; have BK155 := n2_; have GW155 := n3_; have GE155 := n4_; have NB153_155 := n5_; have NB155_153 := n6_; clear n0_ n1_ n2_ n3_ n4_ n5_ n6_; clear hb hbox hg; have hnb27 := NB155_153.out; have hnc27 := NB153_155.out; have hcz28_0 := czA BK155.out 0 (.string (⟨#[]⟩ : ByteArray)); have hcz28_1 := czA BK155.out 1 (.string (⟨#[]⟩ : ByteArray)); have hcz28_2 := czA BK155.out 2 (.int .i64 0); have hfz28_0 := blk_frozen BK155.out 0; have hfz28_1 := blk_frozen BK155.out 1; have hfz28_2 := blk_frozen BK155.out 2))
             have n0_ : Aside0 ((((w26.setCell ⟨gb155, 0, none⟩ (.string ((rd_T45 l0_0 x3_1).f0))).setCell ⟨gb155, 1, none⟩ (.string ((rd_T45 l0_0 x3_1).f1))).setCell ⟨gb155, 2, none⟩ (.int .i64 ((rd_T45 l0_0 x3_1).f2))).heap[gb153]? = some (.cells #[.slice (some ad154) l0_0.length c0_0] 30 (0, 0))) := ⟨by (with_reducible repeat first | apply bN | apply bD | apply bA); refine blk_far ?_ NB153_155.out _; (with_reducible repeat first | apply bN | apply bD | apply bA); refine blk_far ?_ NB153_155.out _; (with_reducible repeat first | apply bN | apply bD | apply bA); refine blk_far ?_ NB153_155.out _; (with_reducible repeat first | apply bN | apply bD | apply bA); exact BK153.out⟩
             have n1_ : Aside0 ((((w26.setCell ⟨gb155, 0, none⟩ (.string ((rd_T45 l0_0 x3_1).f0))).setCell ⟨gb155, 1, none⟩ (.string ((rd_T45 l0_0 x3_1).f1))).setCell ⟨gb155, 2, none⟩ (.int .i64 ((rd_T45 l0_0 x3_1).f2))).heap[gb155]? = some (.cells #[.string ((rd_T45 l0_0 x3_1).f0), .string ((rd_T45 l0_0 x3_1).f1), .int .i64 ((rd_T45 l0_0 x3_1).f2)] 45 (0, 0))) := ⟨by (with_reducible repeat first | apply bN | apply bD | apply bA); refine blk_put (cs := #[.string ((rd_T45 l0_0 x3_1).f0), .string ((rd_T45 l0_0 x3_1).f1), .int .i64 0]) ?_ 2 _ rfl; (with_reducible repeat first | apply bN | apply bD | apply bA); refine blk_put (cs := #[.string ((rd_T45 l0_0 x3_1).f0), .string (⟨#[]⟩ : ByteArray), .int .i64 0]) ?_ 1 _ rfl; (with_reducible repeat first | apply bN | apply bD | apply bA); refine blk_put (cs := #[.string (⟨#[]⟩ : ByteArray), .string (⟨#[]⟩ : ByteArray), .int .i64 0]) ?_ 0 _ rfl; (with_reducible repeat first | apply bN | apply bD | apply bA); exact BK155.out⟩
             have n2_ : Aside0 (Below w.heap.size w (((w26.setCell ⟨gb155, 0, none⟩ (.string ((rd_T45 l0_0 x3_1).f0))).setCell ⟨gb155, 1, none⟩ (.string ((rd_T45 l0_0 x3_1).f1))).setCell ⟨gb155, 2, none⟩ (.int .i64 ((rd_T45 l0_0 x3_1).f2)))) := ⟨uL HB⟩
             (try clear BK153)
             (try clear BK155)
             (try clear HB)
             generalize (((w26.setCell ⟨gb155, 0, none⟩ (.string ((rd_T45 l0_0 x3_1).f0))).setCell ⟨gb155, 1, none⟩ (.string ((rd_T45 l0_0 x3_1).f1))).setCell ⟨gb155, 2, none⟩ (.int .i64 ((rd_T45 l0_0 x3_1).f2))) = w29 at n0_ n1_ n2_ ⊢
             have BK153 := n0_; have BK155 := n1_; have HB := n2_; clear n0_ n1_ n2_
             have n0_ := aM (blk_drew BK153.out)
             have n1_ := aM (blk_drew BK155.out)
             have n2_ := aM (below_drew1 HB.out)
             clear BK153 BK155 HB; have BK153 := n0_; have BK155 := n1_; have HB := n2_; clear n0_ n1_ n2_
             have p158 : 0 ≤ ((ji21) : Int) := of_decide_eq_true (by first | (with_reducible assumption) | assumption)
             have q158 : (ji21) < (l0_0.length : Int) := of_decide_eq_true (by first | (with_reducible assumption) | assumption)
             obtain ⟨ad158, e158, hx158_0, hx158_1, hx158_2⟩ := at_T45 HR0_0.out (ji21) p158 q158
             have hw158_2 := hx158_2; have hw158_1 := hx158_1; have hw158_0 := hx158_0
             obtain rfl : ad154 = ad158 := (by injection e158)
             replace hx158_0 := (HB.out.cell (World.block_lt_of_cell? w _ hx158_0)).trans hx158_0
             replace hx158_1 := (HB.out.cell (World.block_lt_of_cell? w _ hx158_1)).trans hx158_1
             replace hx158_2 := (HB.out.cell (World.block_lt_of_cell? w _ hx158_2)).trans hx158_2
             replace p158 := eq_true p158
             replace q158 := eq_true q158
             refine start_ (n := 35) (S := fun w' => w'.cell? ⟨gb155, 0, none⟩ = some (.string ((rd_T45 l0_0 x3_1).f0)) ∧ w'.cell? ⟨gb155, 1, none⟩ = some (.string ((rd_T45 l0_0 x3_1).f1)) ∧ w'.cell? ⟨gb155, 2, none⟩ = some (.int .i64 ((rd_T45 l0_0 x3_1).f2)) ∧ w'.cell? ⟨gb153, 0, none⟩ = some (.slice (some ad154) l0_0.length c0_0) ∧ w'.cell? (ad154.add (((ji21)).toNat * 3)) = some (.string ((rd_T45 l0_0 (ji21)).f0)) ∧ w'.cell? ⟨(ad154.add (((ji21)).toNat * 3)).block, (ad154.add (((ji21)).toNat * 3)).off + 1, none⟩ = some (.string ((rd_T45 l0_0 (ji21)).f1)) ∧ w'.cell? ⟨(ad154.add (((ji21)).toNat * 3)).block, (ad154.add (((ji21)).toNat * 3)).off + 2, none⟩ = some (.int .i64 ((rd_T45 l0_0 (ji21)).f2))) (ds := []) #[false, false, false, false, false, false, false, false, false, false, false, false, false, false, false, false, false, false, false, false, false, false, false, false, false, false, false, false, false, false, false, false, false, false, false] (by kernel_rfl) rfl rfl ⟨(blk_cell BK155.out 0).trans rfl, (blk_cell BK155.out 1).trans rfl, (blk_cell BK155.out 2).trans rfl, (blk_cell BK153.out 0).trans rfl, ((HB.out.cell (World.block_lt_of_cell? w _ hw158_0)).trans hw158_0), ((HB.out.cell (World.block_lt_of_cell? w _ hw158_1)).trans hw158_1), ((HB.out.cell (World.block_lt_of_cell? w _ hw158_2)).trans hw158_2)⟩ (fun hHeld => ?_); refine with_tabW spec_DiskOk.tab7 spec_DiskOk.bits7 (fun HT_ HW_ => ?_)
             generalize w29.drew = w30 at BK153 BK155 HB hx158_0 hx158_1 hx158_2 hHeld ⊢
             refine pX 0 21 (bB 35 1) (any_of HT_.out (by kernel_rfl)) ?_
             refine take_ (i := 1) (N := some 22) (v := ?_) (a' := ?_) (bB 35 3) rfl rfl (take_ofW HT_.out HW_.out (by kernel_rfl)) (fun _ _ _ h => h) (Or.inl ⟨by rfl, ?_⟩) hHeld ?_ ?_
             rotate_left
             ·rintro w' ⟨s0, s1, s2, s3, s4, s5, s6⟩
              go_simp
              with_reducible rfl
             rotate_left
             ·simp only [aP, aQ, sT, sZ, sU, i64_w, i32_w]
              rfl
             refine one_ (i := 2) (N := some 23) (bB 35 7) rfl rfl (one_of HT_.out (by kernel_rfl)) (by decide) (fun K hK => ?_)
             refine gX Try.func73 #[.string ((rd_T45 l0_0 x3_1).f0)] ?_
             with_reducible refine (spec_l03Name.calls ((rd_T45 l0_0 x3_1).f0) true _ A9.out).mono ?_
             rintro e w' ⟨rfl, ⟨nd, rfl⟩⟩
             refine ⟨_, rfl, ?_⟩
             refine hK.out _ _ ⟨(blk_cell BK155.out 0).trans rfl, (blk_cell BK155.out 1).trans rfl, (blk_cell BK155.out 2).trans rfl, (blk_cell BK153.out 0).trans rfl, ((HB.out.cell (World.block_lt_of_cell? w _ hw158_0)).trans hw158_0), ((HB.out.cell (World.block_lt_of_cell? w _ hw158_1)).trans hw158_1), ((HB.out.cell (World.block_lt_of_cell? w _ hw158_2)).trans hw158_2)⟩ (fun hHeld => ?_)
             clear hK K
             refine norm_ (a' := ?_) ?_ ?_
             rotate_left
             ·show Act.put _ (some 23) _ = _
              simp only [aP, aQ, sT, sZ, sU, i64_w, i32_w]
              rfl
             refine pX 3 24 (bB 35 15) (any_of HT_.out (by kernel_rfl)) ?_
             refine pX 4 25 (bB 35 31) (any_of HT_.out (by kernel_rfl)) ?_
             refine pX 5 26 (bB 35 63) (any_of HT_.out (by kernel_rfl)) ?_
             refine take_ (i := 6) (N := some 27) (v := ?_) (a' := ?_) (bB 35 127) rfl rfl (take_ofW HT_.out HW_.out (by kernel_rfl)) (fun _ _ _ h => h) (Or.inl ⟨by rfl, ?_⟩) hHeld ?_ ?_
             rotate_left
             ·rintro w' ⟨s0, s1, s2, s3, s4, s5, s6⟩
              go_simp
              with_reducible rfl
             rotate_left
             ·simp only [aP, aQ, sT, sZ, sU, i64_w, i32_w]
              rfl
             refine pX 7 28 (bB 35 255) (any_of HT_.out (by kernel_rfl)) ?_
             refine pX 8 29 (bB 35 511) (any_of HT_.out (by kernel_rfl)) ?_
             refine pX 9 30 (bB 35 1023) (any_of HT_.out (by kernel_rfl)) ?_
             refine pX 10 31 (bB 35 2047) (any_of HT_.out (by kernel_rfl)) ?_
             refine pX 11 32 (bB 35 4095) (any_of HT_.out (by kernel_rfl)) ?_
             refine pX 13 34 (bB 35 12287) (any_of HT_.out (by kernel_rfl)) ?_
             refine take_ (i := 12) (N := some 33) (v := ?_) (a' := ?_) (bB 35 16383) rfl rfl (take_ofW HT_.out HW_.out (by kernel_rfl)) (fun _ _ _ h => h) (Or.inl ⟨by rfl, ?_⟩) hHeld ?_ ?_
             rotate_left
             ·rintro w' ⟨s0, s1, s2, s3, s4, s5, s6⟩
              go_simp
              with_reducible rfl
             rotate_left
             ·simp only [aP, aQ, sT, sZ, sU, i64_w, i32_w]
              rfl
             refine take_ (i := 14) (N := some 35) (v := ?_) (a' := ?_) (bB 35 32767) rfl rfl (take_ofW HT_.out HW_.out (by kernel_rfl)) (fun _ _ _ h => h) (Or.inl ⟨by rfl, ?_⟩) hHeld ?_ ?_
             rotate_left
             ·rintro w' ⟨s0, s1, s2, s3, s4, s5, s6⟩
              go_simp
              with_reducible rfl
             rotate_left
             ·simp only [aP, aQ, sT, sZ, sU, i64_w, i32_w]
              rfl
             refine pX 15 36 (bB 35 65535) (any_of HT_.out (by kernel_rfl)) ?_
             refine one_ (i := 16) (N := some 37) (bB 35 131071) rfl rfl (one_of HT_.out (by kernel_rfl)) (by decide) (fun K hK => ?_)
             refine gX Try.func74 #[.int .i64 ((rd_T45 l0_0 x3_1).f2), .int .i64 0, .int .i64 (((rd_T45 l0_0 x3_1).f1).size : Int)] ?_
             with_reducible refine (spec_l01In.calls ((rd_T45 l0_0 x3_1).f2) 0 (((rd_T45 l0_0 x3_1).f1).size : Int) true _ A18.out).mono ?_
             rintro e w' ⟨rfl, ⟨nd, rfl⟩⟩
             refine ⟨_, rfl, ?_⟩
             refine hK.out _ _ ⟨(blk_cell BK155.out 0).trans rfl, (blk_cell BK155.out 1).trans rfl, (blk_cell BK155.out 2).trans rfl, (blk_cell BK153.out 0).trans rfl, ((HB.out.cell (World.block_lt_of_cell? w _ hw158_0)).trans hw158_0), ((HB.out.cell (World.block_lt_of_cell? w _ hw158_1)).trans hw158_1), ((HB.out.cell (World.block_lt_of_cell? w _ hw158_2)).trans hw158_2)⟩ (fun hHeld => ?_)
             clear hK K
             refine norm_ (a' := ?_) ?_ ?_
             rotate_left
             ·show Act.put _ (some 37) _ = _
              simp only [aP, aQ, sT, sZ, sU, i64_w, i32_w]
              rfl
             refine pX 17 38 (bB 35 262143) (any_of HT_.out (by kernel_rfl)) ?_
             refine pX 18 39 (bB 35 524287) (any_of HT_.out (by kernel_rfl)) ?_
             refine pX 19 40 (bB 35 1048575) (any_of HT_.out (by kernel_rfl)) ?_
             refine pX 20 41 (bB 35 2097151) (any_of HT_.out (by kernel_rfl)) ?_
             refine pX 21 42 (bB 35 4194303) (any_of HT_.out (by kernel_rfl)) ?_
             refine pX 22 43 (bB 35 8388607) (any_of HT_.out (by kernel_rfl)) ?_
             refine pX 23 44 (bB 35 16777215) (any_of HT_.out (by kernel_rfl)) ?_
             refine pX 25 46 (bB 35 50331647) (any_of HT_.out (by kernel_rfl)) ?_
             refine pX 26 47 (bB 35 117440511) (any_of HT_.out (by kernel_rfl)) ?_
             refine pX 30 51 (bB 35 1191182335) (any_of HT_.out (by kernel_rfl)) ?_
             refine take_ (i := 24) (N := some 45) (v := ?_) (a' := ?_) (bB 35 1207959551) rfl rfl (take_ofW HT_.out HW_.out (by kernel_rfl)) (fun _ _ _ h => h) (Or.inl ⟨by rfl, ?_⟩) hHeld ?_ ?_
             rotate_left
             ·rintro w' ⟨s0, s1, s2, s3, s4, s5, s6⟩
              go_simp
              with_reducible rfl
             rotate_left
             ·simp only [aP, aQ, sT, sZ, sU, i64_w, i32_w]
              rfl
             refine pX 27 48 (bB 35 1342177279) (any_of HT_.out (by kernel_rfl)) ?_
             refine pX 28 49 (bB 35 1610612735) (any_of HT_.out (by kernel_rfl)) ?_
             refine take_ (i := 29) (N := some 50) (v := ?_) (a' := ?_) (bB 35 2147483647) rfl rfl (take_ofW HT_.out HW_.out (by kernel_rfl)) (fun _ _ _ h => h) (Or.inl ⟨by rfl, ?_⟩) hHeld ?_ ?_
             rotate_left
             ·rintro w' ⟨s0, s1, s2, s3, s4, s5, s6⟩
              go_simp
              with_reducible rfl
             rotate_left
             ·simp only [aP, aQ, sT, sZ, sU, i64_w, i32_w]
              rfl
             refine take_ (i := 31) (N := some 52) (v := ?_) (a' := ?_) (bB 35 4294967295) rfl rfl (take_ofW HT_.out HW_.out (by kernel_rfl)) (fun _ _ _ h => h) (Or.inl ⟨by rfl, ?_⟩) hHeld ?_ ?_
             rotate_left
             ·rintro w' ⟨s0, s1, s2, s3, s4, s5, s6⟩
              go_simp
              with_reducible rfl
             rotate_left
             ·simp only [aP, aQ, sT, sZ, sU, i64_w, i32_w]
              rfl
             refine pX 32 53 (bB 35 8589934591) (any_of HT_.out (by kernel_rfl)) ?_
             refine pX 33 54 (bB 35 17179869183) (any_of HT_.out (by kernel_rfl)) ?_
             refine pX 34 55 (bB 35 34359738367) (any_of HT_.out (by kernel_rfl)) ?_
             refine done_ (done_of HT_.out (by kernel_rfl)) ?_
             try go_wp2
             go_roundg k1
             case measure => have := HK1.out; omega
             case rel => exact ⟨(wrap64 (x3_1 + 1)), (by first | rfl | (simp; done) | (simp [*]; done)), H', ⟨by have := HK1.out; omega⟩, ⟨by (with_reducible repeat first | apply bN | apply bD | apply bA); exact BK153.out⟩, ⟨uL HB⟩⟩
            ·rw [if_neg c24] at H
             have c24b0 : (Op.bytesLess (((rd_T45 l0_0 (ji21)).f0).toList) (((rd_T45 l0_0 x3_1).f0).toList)) = false := by simpa using c24
             clear c24
             obtain rfl := Option.some.inj H
             have hcz31_0 := czA BK153.out 0 (.slice A0_0 l0_0.length c0_0)
             have hfz31_0 := blk_frozen BK153.out 0
             have p154 : 0 ≤ (x3_1 : Int) := of_decide_eq_true (by first | (with_reducible assumption) | assumption)
             have q154 : x3_1 < (l0_0.length : Int) := of_decide_eq_true (by first | (with_reducible assumption) | assumption)
             obtain ⟨ad154, e154, hx154_0, hx154_1, hx154_2⟩ := at_T45 HR0_0.out x3_1 p154 q154
             cases e154
             replace hx154_0 := (HB.out.cell (World.block_lt_of_cell? w _ hx154_0)).trans hx154_0
             replace hx154_1 := (HB.out.cell (World.block_lt_of_cell? w _ hx154_1)).trans hx154_1
             replace hx154_2 := (HB.out.cell (World.block_lt_of_cell? w _ hx154_2)).trans hx154_2
             replace p154 := eq_true p154
             replace q154 := eq_true q154
             try go_wp2_with (first | ((with_reducible refine gate_dst (N := 4) rfl ?_); (try (refine gate_guard (by rfl) ?_; dsimp only)); refine box_event ?hg (N := 4) ?hd (cs := #[.string (⟨#[]⟩ : ByteArray), .string (⟨#[]⟩ : ByteArray), .int .i64 0]) (t := 45) ?hr ?_; (case hd => rfl); (case hg => rfl); (case hr => first | (go_simp; done) | (go_simp; rfl)); intro gb155 hg w32 hbox hb; have n0_ := blkB BK153 hb; have n1_ := aM (below_step (uL HB) hb); have n2_ := aM (hbox); have n3_ := szG hg (uL HB); have n4_ := szG hg (uL HB); have n5_ := neL hg BK153; have n6_ := neG hg BK153; clear BK153; clear HB; have BK153 := n0_; have HB := n1_; have BK155 := n2_; have GW155 := n3_; have GE155 := n4_; have NB153_155 := n5_; have NB155_153 := n6_; clear n0_ n1_ n2_ n3_ n4_ n5_ n6_; clear hb hbox hg; have hnb33 := NB155_153.out; have hnc33 := NB153_155.out; have hcz34_0 := czA BK155.out 0 (.string (⟨#[]⟩ : ByteArray)); have hcz34_1 := czA BK155.out 1 (.string (⟨#[]⟩ : ByteArray)); have hcz34_2 := czA BK155.out 2 (.int .i64 0); have hfz34_0 := blk_frozen BK155.out 0; have hfz34_1 := blk_frozen BK155.out 1; have hfz34_2 := blk_frozen BK155.out 2))
             have n0_ : Aside0 ((((w32.setCell ⟨gb155, 0, none⟩ (.string ((rd_T45 l0_0 x3_1).f0))).setCell ⟨gb155, 1, none⟩ (.string ((rd_T45 l0_0 x3_1).f1))).setCell ⟨gb155, 2, none⟩ (.int .i64 ((rd_T45 l0_0 x3_1).f2))).heap[gb153]? = some (.cells #[.slice (some ad154) l0_0.length c0_0] 30 (0, 0))) := ⟨by (with_reducible repeat first | apply bN | apply bD | apply bA); refine blk_far ?_ NB153_155.out _; (with_reducible repeat first | apply bN | apply bD | apply bA); refine blk_far ?_ NB153_155.out _; (with_reducible repeat first | apply bN | apply bD | apply bA); refine blk_far ?_ NB153_155.out _; (with_reducible repeat first | apply bN | apply bD | apply bA); exact BK153.out⟩
             have n1_ : Aside0 ((((w32.setCell ⟨gb155, 0, none⟩ (.string ((rd_T45 l0_0 x3_1).f0))).setCell ⟨gb155, 1, none⟩ (.string ((rd_T45 l0_0 x3_1).f1))).setCell ⟨gb155, 2, none⟩ (.int .i64 ((rd_T45 l0_0 x3_1).f2))).heap[gb155]? = some (.cells #[.string ((rd_T45 l0_0 x3_1).f0), .string ((rd_T45 l0_0 x3_1).f1), .int .i64 ((rd_T45 l0_0 x3_1).f2)] 45 (0, 0))) := ⟨by (with_reducible repeat first | apply bN | apply bD | apply bA); refine blk_put (cs := #[.string ((rd_T45 l0_0 x3_1).f0), .string ((rd_T45 l0_0 x3_1).f1), .int .i64 0]) ?_ 2 _ rfl; (with_reducible repeat first | apply bN | apply bD | apply bA); refine blk_put (cs := #[.string ((rd_T45 l0_0 x3_1).f0), .string (⟨#[]⟩ : ByteArray), .int .i64 0]) ?_ 1 _ rfl; (with_reducible repeat first | apply bN | apply bD | apply bA); refine blk_put (cs := #[.string (⟨#[]⟩ : ByteArray), .string (⟨#[]⟩ : ByteArray), .int .i64 0]) ?_ 0 _ rfl; (with_reducible repeat first | apply bN | apply bD | apply bA); exact BK155.out⟩
             have n2_ : Aside0 (Below w.heap.size w (((w32.setCell ⟨gb155, 0, none⟩ (.string ((rd_T45 l0_0 x3_1).f0))).setCell ⟨gb155, 1, none⟩ (.string ((rd_T45 l0_0 x3_1).f1))).setCell ⟨gb155, 2, none⟩ (.int .i64 ((rd_T45 l0_0 x3_1).f2)))) := ⟨uL HB⟩
             (try clear BK153)
             (try clear BK155)
             (try clear HB)
             generalize (((w32.setCell ⟨gb155, 0, none⟩ (.string ((rd_T45 l0_0 x3_1).f0))).setCell ⟨gb155, 1, none⟩ (.string ((rd_T45 l0_0 x3_1).f1))).setCell ⟨gb155, 2, none⟩ (.int .i64 ((rd_T45 l0_0 x3_1).f2))) = w35 at n0_ n1_ n2_ ⊢
             have BK153 := n0_; have BK155 := n1_; have HB := n2_; clear n0_ n1_ n2_
             have n0_ := aM (blk_drew BK153.out)
             have n1_ := aM (blk_drew BK155.out)
             have n2_ := aM (below_drew1 HB.out)
             clear BK153 BK155 HB; have BK153 := n0_; have BK155 := n1_; have HB := n2_; clear n0_ n1_ n2_
             have p158 : 0 ≤ ((ji21) : Int) := of_decide_eq_true (by first | (with_reducible assumption) | assumption)
             have q158 : (ji21) < (l0_0.length : Int) := of_decide_eq_true (by first | (with_reducible assumption) | assumption)
             obtain ⟨ad158, e158, hx158_0, hx158_1, hx158_2⟩ := at_T45 HR0_0.out (ji21) p158 q158
             have hw158_2 := hx158_2; have hw158_1 := hx158_1; have hw158_0 := hx158_0
             obtain rfl : ad154 = ad158 := (by injection e158)
             replace hx158_0 := (HB.out.cell (World.block_lt_of_cell? w _ hx158_0)).trans hx158_0
             replace hx158_1 := (HB.out.cell (World.block_lt_of_cell? w _ hx158_1)).trans hx158_1
             replace hx158_2 := (HB.out.cell (World.block_lt_of_cell? w _ hx158_2)).trans hx158_2
             replace p158 := eq_true p158
             replace q158 := eq_true q158
             refine start_ (n := 35) (S := fun w' => w'.cell? ⟨gb155, 0, none⟩ = some (.string ((rd_T45 l0_0 x3_1).f0)) ∧ w'.cell? ⟨gb155, 1, none⟩ = some (.string ((rd_T45 l0_0 x3_1).f1)) ∧ w'.cell? ⟨gb155, 2, none⟩ = some (.int .i64 ((rd_T45 l0_0 x3_1).f2)) ∧ w'.cell? ⟨gb153, 0, none⟩ = some (.slice (some ad154) l0_0.length c0_0) ∧ w'.cell? (ad154.add (((ji21)).toNat * 3)) = some (.string ((rd_T45 l0_0 (ji21)).f0)) ∧ w'.cell? ⟨(ad154.add (((ji21)).toNat * 3)).block, (ad154.add (((ji21)).toNat * 3)).off + 1, none⟩ = some (.string ((rd_T45 l0_0 (ji21)).f1)) ∧ w'.cell? ⟨(ad154.add (((ji21)).toNat * 3)).block, (ad154.add (((ji21)).toNat * 3)).off + 2, none⟩ = some (.int .i64 ((rd_T45 l0_0 (ji21)).f2))) (ds := []) #[false, false, false, false, false, false, false, false, false, false, false, false, false, false, false, false, false, false, false, false, false, false, false, false, false, false, false, false, false, false, false, false, false, false, false] (by kernel_rfl) rfl rfl ⟨(blk_cell BK155.out 0).trans rfl, (blk_cell BK155.out 1).trans rfl, (blk_cell BK155.out 2).trans rfl, (blk_cell BK153.out 0).trans rfl, ((HB.out.cell (World.block_lt_of_cell? w _ hw158_0)).trans hw158_0), ((HB.out.cell (World.block_lt_of_cell? w _ hw158_1)).trans hw158_1), ((HB.out.cell (World.block_lt_of_cell? w _ hw158_2)).trans hw158_2)⟩ (fun hHeld => ?_); refine with_tabW spec_DiskOk.tab7 spec_DiskOk.bits7 (fun HT_ HW_ => ?_)
             generalize w35.drew = w36 at BK153 BK155 HB hx158_0 hx158_1 hx158_2 hHeld ⊢
             refine pX 0 21 (bB 35 1) (any_of HT_.out (by kernel_rfl)) ?_
             refine take_ (i := 1) (N := some 22) (v := ?_) (a' := ?_) (bB 35 3) rfl rfl (take_ofW HT_.out HW_.out (by kernel_rfl)) (fun _ _ _ h => h) (Or.inl ⟨by rfl, ?_⟩) hHeld ?_ ?_
             rotate_left
             ·rintro w' ⟨s0, s1, s2, s3, s4, s5, s6⟩
              go_simp
              with_reducible rfl
             rotate_left
             ·simp only [aP, aQ, sT, sZ, sU, i64_w, i32_w]
              rfl
             refine one_ (i := 2) (N := some 23) (bB 35 7) rfl rfl (one_of HT_.out (by kernel_rfl)) (by decide) (fun K hK => ?_)
             refine gX Try.func73 #[.string ((rd_T45 l0_0 x3_1).f0)] ?_
             with_reducible refine (spec_l03Name.calls ((rd_T45 l0_0 x3_1).f0) true _ A9.out).mono ?_
             rintro e w' ⟨rfl, ⟨nd, rfl⟩⟩
             refine ⟨_, rfl, ?_⟩
             refine hK.out _ _ ⟨(blk_cell BK155.out 0).trans rfl, (blk_cell BK155.out 1).trans rfl, (blk_cell BK155.out 2).trans rfl, (blk_cell BK153.out 0).trans rfl, ((HB.out.cell (World.block_lt_of_cell? w _ hw158_0)).trans hw158_0), ((HB.out.cell (World.block_lt_of_cell? w _ hw158_1)).trans hw158_1), ((HB.out.cell (World.block_lt_of_cell? w _ hw158_2)).trans hw158_2)⟩ (fun hHeld => ?_)
             clear hK K
             refine norm_ (a' := ?_) ?_ ?_
             rotate_left
             ·show Act.put _ (some 23) _ = _
              simp only [aP, aQ, sT, sZ, sU, i64_w, i32_w]
              rfl
             refine pX 3 24 (bB 35 15) (any_of HT_.out (by kernel_rfl)) ?_
             refine pX 4 25 (bB 35 31) (any_of HT_.out (by kernel_rfl)) ?_
             refine pX 5 26 (bB 35 63) (any_of HT_.out (by kernel_rfl)) ?_
             refine take_ (i := 6) (N := some 27) (v := ?_) (a' := ?_) (bB 35 127) rfl rfl (take_ofW HT_.out HW_.out (by kernel_rfl)) (fun _ _ _ h => h) (Or.inl ⟨by rfl, ?_⟩) hHeld ?_ ?_
             rotate_left
             ·rintro w' ⟨s0, s1, s2, s3, s4, s5, s6⟩
              go_simp
              with_reducible rfl
             rotate_left
             ·simp only [aP, aQ, sT, sZ, sU, i64_w, i32_w]
              rfl
             refine pX 7 28 (bB 35 255) (any_of HT_.out (by kernel_rfl)) ?_
             refine pX 8 29 (bB 35 511) (any_of HT_.out (by kernel_rfl)) ?_
             refine pX 9 30 (bB 35 1023) (any_of HT_.out (by kernel_rfl)) ?_
             refine pX 10 31 (bB 35 2047) (any_of HT_.out (by kernel_rfl)) ?_
             refine pX 11 32 (bB 35 4095) (any_of HT_.out (by kernel_rfl)) ?_
             refine pX 13 34 (bB 35 12287) (any_of HT_.out (by kernel_rfl)) ?_
             refine take_ (i := 12) (N := some 33) (v := ?_) (a' := ?_) (bB 35 16383) rfl rfl (take_ofW HT_.out HW_.out (by kernel_rfl)) (fun _ _ _ h => h) (Or.inl ⟨by rfl, ?_⟩) hHeld ?_ ?_
             rotate_left
             ·rintro w' ⟨s0, s1, s2, s3, s4, s5, s6⟩
              go_simp
              with_reducible rfl
             rotate_left
             ·simp only [aP, aQ, sT, sZ, sU, i64_w, i32_w]
              rfl
             refine take_ (i := 14) (N := some 35) (v := ?_) (a' := ?_) (bB 35 32767) rfl rfl (take_ofW HT_.out HW_.out (by kernel_rfl)) (fun _ _ _ h => h) (Or.inl ⟨by rfl, ?_⟩) hHeld ?_ ?_
             rotate_left
             ·rintro w' ⟨s0, s1, s2, s3, s4, s5, s6⟩
              go_simp
              with_reducible rfl
             rotate_left
             ·simp only [aP, aQ, sT, sZ, sU, i64_w, i32_w]
              rfl
             refine pX 15 36 (bB 35 65535) (any_of HT_.out (by kernel_rfl)) ?_
             refine one_ (i := 16) (N := some 37) (bB 35 131071) rfl rfl (one_of HT_.out (by kernel_rfl)) (by decide) (fun K hK => ?_)
             refine gX Try.func74 #[.int .i64 ((rd_T45 l0_0 x3_1).f2), .int .i64 0, .int .i64 (((rd_T45 l0_0 x3_1).f1).size : Int)] ?_
             with_reducible refine (spec_l01In.calls ((rd_T45 l0_0 x3_1).f2) 0 (((rd_T45 l0_0 x3_1).f1).size : Int) true _ A18.out).mono ?_
             rintro e w' ⟨rfl, ⟨nd, rfl⟩⟩
             refine ⟨_, rfl, ?_⟩
             refine hK.out _ _ ⟨(blk_cell BK155.out 0).trans rfl, (blk_cell BK155.out 1).trans rfl, (blk_cell BK155.out 2).trans rfl, (blk_cell BK153.out 0).trans rfl, ((HB.out.cell (World.block_lt_of_cell? w _ hw158_0)).trans hw158_0), ((HB.out.cell (World.block_lt_of_cell? w _ hw158_1)).trans hw158_1), ((HB.out.cell (World.block_lt_of_cell? w _ hw158_2)).trans hw158_2)⟩ (fun hHeld => ?_)
             clear hK K
             refine norm_ (a' := ?_) ?_ ?_
             rotate_left
             ·show Act.put _ (some 37) _ = _
              simp only [aP, aQ, sT, sZ, sU, i64_w, i32_w]
              rfl
             refine pX 17 38 (bB 35 262143) (any_of HT_.out (by kernel_rfl)) ?_
             refine pX 18 39 (bB 35 524287) (any_of HT_.out (by kernel_rfl)) ?_
             refine pX 19 40 (bB 35 1048575) (any_of HT_.out (by kernel_rfl)) ?_
             refine pX 20 41 (bB 35 2097151) (any_of HT_.out (by kernel_rfl)) ?_
             refine pX 21 42 (bB 35 4194303) (any_of HT_.out (by kernel_rfl)) ?_
             refine pX 22 43 (bB 35 8388607) (any_of HT_.out (by kernel_rfl)) ?_
             refine pX 23 44 (bB 35 16777215) (any_of HT_.out (by kernel_rfl)) ?_
             refine pX 25 46 (bB 35 50331647) (any_of HT_.out (by kernel_rfl)) ?_
             refine pX 26 47 (bB 35 117440511) (any_of HT_.out (by kernel_rfl)) ?_
             refine pX 30 51 (bB 35 1191182335) (any_of HT_.out (by kernel_rfl)) ?_
             refine take_ (i := 24) (N := some 45) (v := ?_) (a' := ?_) (bB 35 1207959551) rfl rfl (take_ofW HT_.out HW_.out (by kernel_rfl)) (fun _ _ _ h => h) (Or.inl ⟨by rfl, ?_⟩) hHeld ?_ ?_
             rotate_left
             ·rintro w' ⟨s0, s1, s2, s3, s4, s5, s6⟩
              go_simp
              with_reducible rfl
             rotate_left
             ·simp only [aP, aQ, sT, sZ, sU, i64_w, i32_w]
              rfl
             refine pX 27 48 (bB 35 1342177279) (any_of HT_.out (by kernel_rfl)) ?_
             refine pX 28 49 (bB 35 1610612735) (any_of HT_.out (by kernel_rfl)) ?_
             refine take_ (i := 29) (N := some 50) (v := ?_) (a' := ?_) (bB 35 2147483647) rfl rfl (take_ofW HT_.out HW_.out (by kernel_rfl)) (fun _ _ _ h => h) (Or.inl ⟨by rfl, ?_⟩) hHeld ?_ ?_
             rotate_left
             ·rintro w' ⟨s0, s1, s2, s3, s4, s5, s6⟩
              go_simp
              with_reducible rfl
             rotate_left
             ·simp only [aP, aQ, sT, sZ, sU, i64_w, i32_w]
              rfl
             refine take_ (i := 31) (N := some 52) (v := ?_) (a' := ?_) (bB 35 4294967295) rfl rfl (take_ofW HT_.out HW_.out (by kernel_rfl)) (fun _ _ _ h => h) (Or.inl ⟨by rfl, ?_⟩) hHeld ?_ ?_
             rotate_left
             ·rintro w' ⟨s0, s1, s2, s3, s4, s5, s6⟩
              go_simp
              with_reducible rfl
             rotate_left
             ·simp only [aP, aQ, sT, sZ, sU, i64_w, i32_w]
              rfl
             refine pX 32 53 (bB 35 8589934591) (any_of HT_.out (by kernel_rfl)) ?_
             refine pX 33 54 (bB 35 17179869183) (any_of HT_.out (by kernel_rfl)) ?_
             refine pX 34 55 (bB 35 34359738367) (any_of HT_.out (by kernel_rfl)) ?_
             refine done_ (done_of HT_.out (by kernel_rfl)) ?_
             try go_wp2
             go_ret
             exact ⟨by first | rfl | (simp [errW_none, errW_some] <;> rfl) | (simp only [← hji21]; first | rfl | (simp [errW_none, errW_some] <;> rfl)) | (simp [*, errW_none, errW_some] <;> rfl), uL HB⟩
           ·rw [if_neg c23] at H
            exact absurd H (by simp)
          ·rw [if_neg c22] at H
           exact absurd H (by simp)
         ·rw [if_neg c20] at H
          have c20b0 : decide (0 < x3_1) = false := decide_eq_false c20
          clear c20
          have H' := aM H
          clear H
          have hcz37_0 := czA BK153.out 0 (.slice A0_0 l0_0.length c0_0)
          have hfz37_0 := blk_frozen BK153.out 0
          have p154 : 0 ≤ (x3_1 : Int) := of_decide_eq_true (by first | (with_reducible assumption) | assumption)
          have q154 : x3_1 < (l0_0.length : Int) := of_decide_eq_true (by first | (with_reducible assumption) | assumption)
          obtain ⟨ad154, e154, hx154_0, hx154_1, hx154_2⟩ := at_T45 HR0_0.out x3_1 p154 q154
          cases e154
          replace hx154_0 := (HB.out.cell (World.block_lt_of_cell? w _ hx154_0)).trans hx154_0
          replace hx154_1 := (HB.out.cell (World.block_lt_of_cell? w _ hx154_1)).trans hx154_1
          replace hx154_2 := (HB.out.cell (World.block_lt_of_cell? w _ hx154_2)).trans hx154_2
          replace p154 := eq_true p154
          replace q154 := eq_true q154
          try go_wp2_with (first | ((with_reducible refine gate_dst (N := 4) rfl ?_); (try (refine gate_guard (by rfl) ?_; dsimp only)); refine box_event ?hg (N := 4) ?hd (cs := #[.string (⟨#[]⟩ : ByteArray), .string (⟨#[]⟩ : ByteArray), .int .i64 0]) (t := 45) ?hr ?_; (case hd => rfl); (case hg => rfl); (case hr => first | (go_simp; done) | (go_simp; rfl)); intro gb155 hg w38 hbox hb; have n0_ := blkB BK153 hb; have n1_ := aM (below_step (uL HB) hb); have n2_ := aM (hbox); have n3_ := szG hg (uL HB); have n4_ := szG hg (uL HB); have n5_ := neL hg BK153; have n6_ := neG hg BK153; clear BK153; clear HB; have BK153 := n0_; have HB := n1_; have BK155 := n2_; have GW155 := n3_; have GE155 := n4_; have NB153_155 := n5_; have NB155_153 := n6_; clear n0_ n1_ n2_ n3_ n4_ n5_ n6_; clear hb hbox hg; have hnb39 := NB155_153.out; have hnc39 := NB153_155.out; have hcz40_0 := czA BK155.out 0 (.string (⟨#[]⟩ : ByteArray)); have hcz40_1 := czA BK155.out 1 (.string (⟨#[]⟩ : ByteArray)); have hcz40_2 := czA BK155.out 2 (.int .i64 0); have hfz40_0 := blk_frozen BK155.out 0; have hfz40_1 := blk_frozen BK155.out 1; have hfz40_2 := blk_frozen BK155.out 2))
          have n0_ : Aside0 ((((w38.setCell ⟨gb155, 0, none⟩ (.string ((rd_T45 l0_0 x3_1).f0))).setCell ⟨gb155, 1, none⟩ (.string ((rd_T45 l0_0 x3_1).f1))).setCell ⟨gb155, 2, none⟩ (.int .i64 ((rd_T45 l0_0 x3_1).f2))).heap[gb153]? = some (.cells #[.slice (some ad154) l0_0.length c0_0] 30 (0, 0))) := ⟨by (with_reducible repeat first | apply bN | apply bD | apply bA); refine blk_far ?_ NB153_155.out _; (with_reducible repeat first | apply bN | apply bD | apply bA); refine blk_far ?_ NB153_155.out _; (with_reducible repeat first | apply bN | apply bD | apply bA); refine blk_far ?_ NB153_155.out _; (with_reducible repeat first | apply bN | apply bD | apply bA); exact BK153.out⟩
          have n1_ : Aside0 ((((w38.setCell ⟨gb155, 0, none⟩ (.string ((rd_T45 l0_0 x3_1).f0))).setCell ⟨gb155, 1, none⟩ (.string ((rd_T45 l0_0 x3_1).f1))).setCell ⟨gb155, 2, none⟩ (.int .i64 ((rd_T45 l0_0 x3_1).f2))).heap[gb155]? = some (.cells #[.string ((rd_T45 l0_0 x3_1).f0), .string ((rd_T45 l0_0 x3_1).f1), .int .i64 ((rd_T45 l0_0 x3_1).f2)] 45 (0, 0))) := ⟨by (with_reducible repeat first | apply bN | apply bD | apply bA); refine blk_put (cs := #[.string ((rd_T45 l0_0 x3_1).f0), .string ((rd_T45 l0_0 x3_1).f1), .int .i64 0]) ?_ 2 _ rfl; (with_reducible repeat first | apply bN | apply bD | apply bA); refine blk_put (cs := #[.string ((rd_T45 l0_0 x3_1).f0), .string (⟨#[]⟩ : ByteArray), .int .i64 0]) ?_ 1 _ rfl; (with_reducible repeat first | apply bN | apply bD | apply bA); refine blk_put (cs := #[.string (⟨#[]⟩ : ByteArray), .string (⟨#[]⟩ : ByteArray), .int .i64 0]) ?_ 0 _ rfl; (with_reducible repeat first | apply bN | apply bD | apply bA); exact BK155.out⟩
          have n2_ : Aside0 (Below w.heap.size w (((w38.setCell ⟨gb155, 0, none⟩ (.string ((rd_T45 l0_0 x3_1).f0))).setCell ⟨gb155, 1, none⟩ (.string ((rd_T45 l0_0 x3_1).f1))).setCell ⟨gb155, 2, none⟩ (.int .i64 ((rd_T45 l0_0 x3_1).f2)))) := ⟨uL HB⟩
          (try clear BK153)
          (try clear BK155)
          (try clear HB)
          generalize (((w38.setCell ⟨gb155, 0, none⟩ (.string ((rd_T45 l0_0 x3_1).f0))).setCell ⟨gb155, 1, none⟩ (.string ((rd_T45 l0_0 x3_1).f1))).setCell ⟨gb155, 2, none⟩ (.int .i64 ((rd_T45 l0_0 x3_1).f2))) = w41 at n0_ n1_ n2_ ⊢
          have BK153 := n0_; have BK155 := n1_; have HB := n2_; clear n0_ n1_ n2_
          have n0_ := aM (blk_drew BK153.out)
          have n1_ := aM (blk_drew BK155.out)
          have n2_ := aM (below_drew1 HB.out)
          clear BK153 BK155 HB; have BK153 := n0_; have BK155 := n1_; have HB := n2_; clear n0_ n1_ n2_
          refine start_ (n := 35) (S := fun w' => w'.cell? ⟨gb155, 0, none⟩ = some (.string ((rd_T45 l0_0 x3_1).f0)) ∧ w'.cell? ⟨gb155, 1, none⟩ = some (.string ((rd_T45 l0_0 x3_1).f1)) ∧ w'.cell? ⟨gb155, 2, none⟩ = some (.int .i64 ((rd_T45 l0_0 x3_1).f2))) (ds := []) #[false, false, false, false, false, false, false, false, false, false, false, false, false, false, false, false, false, false, false, false, false, false, false, false, false, false, false, false, false, false, false, false, false, false, false] (by kernel_rfl) rfl rfl ⟨(blk_cell BK155.out 0).trans rfl, (blk_cell BK155.out 1).trans rfl, (blk_cell BK155.out 2).trans rfl⟩ (fun hHeld => ?_); refine with_tabW spec_DiskOk.tab7 spec_DiskOk.bits7 (fun HT_ HW_ => ?_)
          generalize w41.drew = w42 at BK153 BK155 HB hHeld ⊢
          refine pX 0 21 (bB 35 1) (any_of HT_.out (by kernel_rfl)) ?_
          refine take_ (i := 1) (N := some 22) (v := ?_) (a' := ?_) (bB 35 3) rfl rfl (take_ofW HT_.out HW_.out (by kernel_rfl)) (fun _ _ _ h => h) (Or.inl ⟨by rfl, ?_⟩) hHeld ?_ ?_
          rotate_left
          ·rintro w' ⟨s0, s1, s2⟩
           go_simp
           with_reducible rfl
          rotate_left
          ·simp only [aP, aQ, sT, sZ, sU, i64_w, i32_w]
           rfl
          refine one_ (i := 2) (N := some 23) (bB 35 7) rfl rfl (one_of HT_.out (by kernel_rfl)) (by decide) (fun K hK => ?_)
          refine gX Try.func73 #[.string ((rd_T45 l0_0 x3_1).f0)] ?_
          with_reducible refine (spec_l03Name.calls ((rd_T45 l0_0 x3_1).f0) true _ A9.out).mono ?_
          rintro e w' ⟨rfl, ⟨nd, rfl⟩⟩
          refine ⟨_, rfl, ?_⟩
          refine hK.out _ _ ⟨(blk_cell BK155.out 0).trans rfl, (blk_cell BK155.out 1).trans rfl, (blk_cell BK155.out 2).trans rfl⟩ (fun hHeld => ?_)
          clear hK K
          refine norm_ (a' := ?_) ?_ ?_
          rotate_left
          ·show Act.put _ (some 23) _ = _
           simp only [aP, aQ, sT, sZ, sU, i64_w, i32_w]
           rfl
          refine pX 3 24 (bB 35 15) (any_of HT_.out (by kernel_rfl)) ?_
          refine pX 4 25 (bB 35 31) (any_of HT_.out (by kernel_rfl)) ?_
          refine pX 5 26 (bB 35 63) (any_of HT_.out (by kernel_rfl)) ?_
          refine take_ (i := 6) (N := some 27) (v := ?_) (a' := ?_) (bB 35 127) rfl rfl (take_ofW HT_.out HW_.out (by kernel_rfl)) (fun _ _ _ h => h) (Or.inl ⟨by rfl, ?_⟩) hHeld ?_ ?_
          rotate_left
          ·rintro w' ⟨s0, s1, s2⟩
           go_simp
           with_reducible rfl
          rotate_left
          ·simp only [aP, aQ, sT, sZ, sU, i64_w, i32_w]
           rfl
          refine pX 7 28 (bB 35 255) (any_of HT_.out (by kernel_rfl)) ?_
          refine pX 8 29 (bB 35 511) (any_of HT_.out (by kernel_rfl)) ?_
          refine pX 9 30 (bB 35 1023) (any_of HT_.out (by kernel_rfl)) ?_
          refine pX 10 31 (bB 35 2047) (any_of HT_.out (by kernel_rfl)) ?_
          refine pX 11 32 (bB 35 4095) (any_of HT_.out (by kernel_rfl)) ?_
          refine pX 13 34 (bB 35 12287) (any_of HT_.out (by kernel_rfl)) ?_
          refine take_ (i := 12) (N := some 33) (v := ?_) (a' := ?_) (bB 35 16383) rfl rfl (take_ofW HT_.out HW_.out (by kernel_rfl)) (fun _ _ _ h => h) (Or.inl ⟨by rfl, ?_⟩) hHeld ?_ ?_
          rotate_left
          ·rintro w' ⟨s0, s1, s2⟩
           go_simp
           with_reducible rfl
          rotate_left
          ·simp only [aP, aQ, sT, sZ, sU, i64_w, i32_w]
           rfl
          refine take_ (i := 14) (N := some 35) (v := ?_) (a' := ?_) (bB 35 32767) rfl rfl (take_ofW HT_.out HW_.out (by kernel_rfl)) (fun _ _ _ h => h) (Or.inl ⟨by rfl, ?_⟩) hHeld ?_ ?_
          rotate_left
          ·rintro w' ⟨s0, s1, s2⟩
           go_simp
           with_reducible rfl
          rotate_left
          ·simp only [aP, aQ, sT, sZ, sU, i64_w, i32_w]
           rfl
          refine pX 15 36 (bB 35 65535) (any_of HT_.out (by kernel_rfl)) ?_
          refine one_ (i := 16) (N := some 37) (bB 35 131071) rfl rfl (one_of HT_.out (by kernel_rfl)) (by decide) (fun K hK => ?_)
          refine gX Try.func74 #[.int .i64 ((rd_T45 l0_0 x3_1).f2), .int .i64 0, .int .i64 (((rd_T45 l0_0 x3_1).f1).size : Int)] ?_
          with_reducible refine (spec_l01In.calls ((rd_T45 l0_0 x3_1).f2) 0 (((rd_T45 l0_0 x3_1).f1).size : Int) true _ A18.out).mono ?_
          rintro e w' ⟨rfl, ⟨nd, rfl⟩⟩
          refine ⟨_, rfl, ?_⟩
          refine hK.out _ _ ⟨(blk_cell BK155.out 0).trans rfl, (blk_cell BK155.out 1).trans rfl, (blk_cell BK155.out 2).trans rfl⟩ (fun hHeld => ?_)
          clear hK K
          refine norm_ (a' := ?_) ?_ ?_
          rotate_left
          ·show Act.put _ (some 37) _ = _
           simp only [aP, aQ, sT, sZ, sU, i64_w, i32_w]
           rfl
          refine pX 17 38 (bB 35 262143) (any_of HT_.out (by kernel_rfl)) ?_
          refine pX 18 39 (bB 35 524287) (any_of HT_.out (by kernel_rfl)) ?_
          refine pX 19 40 (bB 35 1048575) (any_of HT_.out (by kernel_rfl)) ?_
          refine pX 20 41 (bB 35 2097151) (any_of HT_.out (by kernel_rfl)) ?_
          refine pX 21 42 (bB 35 4194303) (any_of HT_.out (by kernel_rfl)) ?_
          refine pX 22 43 (bB 35 8388607) (any_of HT_.out (by kernel_rfl)) ?_
          refine pU 23 44 (bB 35 16777215) (any_of HT_.out (by kernel_rfl)) ?_
          refine pU 24 45 (bB 35 33554431) (any_of HT_.out (by kernel_rfl)) ?_
          refine pU 25 46 (bB 35 67108863) (any_of HT_.out (by kernel_rfl)) ?_
          refine pU 26 47 (bB 35 134217727) (any_of HT_.out (by kernel_rfl)) ?_
          refine pU 27 48 (bB 35 268435455) (any_of HT_.out (by kernel_rfl)) ?_
          refine pU 28 49 (bB 35 536870911) (any_of HT_.out (by kernel_rfl)) ?_
          refine pU 29 50 (bB 35 1073741823) (any_of HT_.out (by kernel_rfl)) ?_
          refine pU 30 51 (bB 35 2147483647) (any_of HT_.out (by kernel_rfl)) ?_
          refine pU 31 52 (bB 35 4294967295) (any_of HT_.out (by kernel_rfl)) ?_
          refine pU 32 53 (bB 35 8589934591) (any_of HT_.out (by kernel_rfl)) ?_
          refine pX 33 54 (bB 35 17179869183) (any_of HT_.out (by kernel_rfl)) ?_
          refine pX 34 55 (bB 35 34359738367) (any_of HT_.out (by kernel_rfl)) ?_
          refine done_ (done_of HT_.out (by kernel_rfl)) ?_
          try go_wp2
          go_roundg k1
          case measure => have := HK1.out; omega
          case rel => exact ⟨(wrap64 (x3_1 + 1)), (by first | rfl | (simp; done) | (simp [*]; done)), H', ⟨by have := HK1.out; omega⟩, ⟨by (with_reducible repeat first | apply bN | apply bD | apply bA); exact BK153.out⟩, ⟨uL HB⟩⟩
        ·replace c19 := Bool.eq_false_iff.mpr c19
         subst c19
         have H1 : (some false) = some r := by rw [if_neg (show ¬ (false = true) by decide)] at H; exact H
         clear H; have H := H1; clear H1
         obtain rfl := Option.some.inj H
         have hcz43_0 := czA BK153.out 0 (.slice A0_0 l0_0.length c0_0)
         have hfz43_0 := blk_frozen BK153.out 0
         have p154 : 0 ≤ (x3_1 : Int) := of_decide_eq_true (by first | (with_reducible assumption) | assumption)
         have q154 : x3_1 < (l0_0.length : Int) := of_decide_eq_true (by first | (with_reducible assumption) | assumption)
         obtain ⟨ad154, e154, hx154_0, hx154_1, hx154_2⟩ := at_T45 HR0_0.out x3_1 p154 q154
         cases e154
         replace hx154_0 := (HB.out.cell (World.block_lt_of_cell? w _ hx154_0)).trans hx154_0
         replace hx154_1 := (HB.out.cell (World.block_lt_of_cell? w _ hx154_1)).trans hx154_1
         replace hx154_2 := (HB.out.cell (World.block_lt_of_cell? w _ hx154_2)).trans hx154_2
         replace p154 := eq_true p154
         replace q154 := eq_true q154
         try go_wp2_with (first | ((with_reducible refine gate_dst (N := 4) rfl ?_); (try (refine gate_guard (by rfl) ?_; dsimp only)); refine box_event ?hg (N := 4) ?hd (cs := #[.string (⟨#[]⟩ : ByteArray), .string (⟨#[]⟩ : ByteArray), .int .i64 0]) (t := 45) ?hr ?_; (case hd => rfl); (case hg => rfl); (case hr => first | (go_simp; done) | (go_simp; rfl)); intro gb155 hg w44 hbox hb; have n0_ := blkB BK153 hb; have n1_ := aM (below_step (uL HB) hb); have n2_ := aM (hbox); have n3_ := szG hg (uL HB); have n4_ := szG hg (uL HB); have n5_ := neL hg BK153; have n6_ := neG hg BK153; clear BK153; clear HB; have BK153 := n0_; have HB := n1_; have BK155 := n2_; have GW155 := n3_; have GE155 := n4_; have NB153_155 := n5_; have NB155_153 := n6_; clear n0_ n1_ n2_ n3_ n4_ n5_ n6_; clear hb hbox hg; have hnb45 := NB155_153.out; have hnc45 := NB153_155.out; have hcz46_0 := czA BK155.out 0 (.string (⟨#[]⟩ : ByteArray)); have hcz46_1 := czA BK155.out 1 (.string (⟨#[]⟩ : ByteArray)); have hcz46_2 := czA BK155.out 2 (.int .i64 0); have hfz46_0 := blk_frozen BK155.out 0; have hfz46_1 := blk_frozen BK155.out 1; have hfz46_2 := blk_frozen BK155.out 2))
         have n0_ : Aside0 ((((w44.setCell ⟨gb155, 0, none⟩ (.string ((rd_T45 l0_0 x3_1).f0))).setCell ⟨gb155, 1, none⟩ (.string ((rd_T45 l0_0 x3_1).f1))).setCell ⟨gb155, 2, none⟩ (.int .i64 ((rd_T45 l0_0 x3_1).f2))).heap[gb153]? = some (.cells #[.slice (some ad154) l0_0.length c0_0] 30 (0, 0))) := ⟨by (with_reducible repeat first | apply bN | apply bD | apply bA); refine blk_far ?_ NB153_155.out _; (with_reducible repeat first | apply bN | apply bD | apply bA); refine blk_far ?_ NB153_155.out _; (with_reducible repeat first | apply bN | apply bD | apply bA); refine blk_far ?_ NB153_155.out _; (with_reducible repeat first | apply bN | apply bD | apply bA); exact BK153.out⟩
         have n1_ : Aside0 ((((w44.setCell ⟨gb155, 0, none⟩ (.string ((rd_T45 l0_0 x3_1).f0))).setCell ⟨gb155, 1, none⟩ (.string ((rd_T45 l0_0 x3_1).f1))).setCell ⟨gb155, 2, none⟩ (.int .i64 ((rd_T45 l0_0 x3_1).f2))).heap[gb155]? = some (.cells #[.string ((rd_T45 l0_0 x3_1).f0), .string ((rd_T45 l0_0 x3_1).f1), .int .i64 ((rd_T45 l0_0 x3_1).f2)] 45 (0, 0))) := ⟨by (with_reducible repeat first | apply bN | apply bD | apply bA); refine blk_put (cs := #[.string ((rd_T45 l0_0 x3_1).f0), .string ((rd_T45 l0_0 x3_1).f1), .int .i64 0]) ?_ 2 _ rfl; (with_reducible repeat first | apply bN | apply bD | apply bA); refine blk_put (cs := #[.string ((rd_T45 l0_0 x3_1).f0), .string (⟨#[]⟩ : ByteArray), .int .i64 0]) ?_ 1 _ rfl; (with_reducible repeat first | apply bN | apply bD | apply bA); refine blk_put (cs := #[.string (⟨#[]⟩ : ByteArray), .string (⟨#[]⟩ : ByteArray), .int .i64 0]) ?_ 0 _ rfl; (with_reducible repeat first | apply bN | apply bD | apply bA); exact BK155.out⟩
         have n2_ : Aside0 (Below w.heap.size w (((w44.setCell ⟨gb155, 0, none⟩ (.string ((rd_T45 l0_0 x3_1).f0))).setCell ⟨gb155, 1, none⟩ (.string ((rd_T45 l0_0 x3_1).f1))).setCell ⟨gb155, 2, none⟩ (.int .i64 ((rd_T45 l0_0 x3_1).f2)))) := ⟨uL HB⟩
         (try clear BK153)
         (try clear BK155)
         (try clear HB)
         generalize (((w44.setCell ⟨gb155, 0, none⟩ (.string ((rd_T45 l0_0 x3_1).f0))).setCell ⟨gb155, 1, none⟩ (.string ((rd_T45 l0_0 x3_1).f1))).setCell ⟨gb155, 2, none⟩ (.int .i64 ((rd_T45 l0_0 x3_1).f2))) = w47 at n0_ n1_ n2_ ⊢
         have BK153 := n0_; have BK155 := n1_; have HB := n2_; clear n0_ n1_ n2_
         have n0_ := aM (blk_drew BK153.out)
         have n1_ := aM (blk_drew BK155.out)
         have n2_ := aM (below_drew1 HB.out)
         clear BK153 BK155 HB; have BK153 := n0_; have BK155 := n1_; have HB := n2_; clear n0_ n1_ n2_
         refine start_ (n := 35) (S := fun w' => w'.cell? ⟨gb155, 0, none⟩ = some (.string ((rd_T45 l0_0 x3_1).f0)) ∧ w'.cell? ⟨gb155, 1, none⟩ = some (.string ((rd_T45 l0_0 x3_1).f1)) ∧ w'.cell? ⟨gb155, 2, none⟩ = some (.int .i64 ((rd_T45 l0_0 x3_1).f2))) (ds := []) #[false, false, false, false, false, false, false, false, false, false, false, false, false, false, false, false, false, false, false, false, false, false, false, false, false, false, false, false, false, false, false, false, false, false, false] (by kernel_rfl) rfl rfl ⟨(blk_cell BK155.out 0).trans rfl, (blk_cell BK155.out 1).trans rfl, (blk_cell BK155.out 2).trans rfl⟩ (fun hHeld => ?_); refine with_tabW spec_DiskOk.tab7 spec_DiskOk.bits7 (fun HT_ HW_ => ?_)
         generalize w47.drew = w48 at BK153 BK155 HB hHeld ⊢
         refine pX 0 21 (bB 35 1) (any_of HT_.out (by kernel_rfl)) ?_
         refine take_ (i := 1) (N := some 22) (v := ?_) (a' := ?_) (bB 35 3) rfl rfl (take_ofW HT_.out HW_.out (by kernel_rfl)) (fun _ _ _ h => h) (Or.inl ⟨by rfl, ?_⟩) hHeld ?_ ?_
         rotate_left
         ·rintro w' ⟨s0, s1, s2⟩
          go_simp
          with_reducible rfl
         rotate_left
         ·simp only [aP, aQ, sT, sZ, sU, i64_w, i32_w]
          rfl
         refine one_ (i := 2) (N := some 23) (bB 35 7) rfl rfl (one_of HT_.out (by kernel_rfl)) (by decide) (fun K hK => ?_)
         refine gX Try.func73 #[.string ((rd_T45 l0_0 x3_1).f0)] ?_
         with_reducible refine (spec_l03Name.calls ((rd_T45 l0_0 x3_1).f0) true _ A9.out).mono ?_
         rintro e w' ⟨rfl, ⟨nd, rfl⟩⟩
         refine ⟨_, rfl, ?_⟩
         refine hK.out _ _ ⟨(blk_cell BK155.out 0).trans rfl, (blk_cell BK155.out 1).trans rfl, (blk_cell BK155.out 2).trans rfl⟩ (fun hHeld => ?_)
         clear hK K
         refine norm_ (a' := ?_) ?_ ?_
         rotate_left
         ·show Act.put _ (some 23) _ = _
          simp only [aP, aQ, sT, sZ, sU, i64_w, i32_w]
          rfl
         refine pX 3 24 (bB 35 15) (any_of HT_.out (by kernel_rfl)) ?_
         refine pX 4 25 (bB 35 31) (any_of HT_.out (by kernel_rfl)) ?_
         refine pX 5 26 (bB 35 63) (any_of HT_.out (by kernel_rfl)) ?_
         refine take_ (i := 6) (N := some 27) (v := ?_) (a' := ?_) (bB 35 127) rfl rfl (take_ofW HT_.out HW_.out (by kernel_rfl)) (fun _ _ _ h => h) (Or.inl ⟨by rfl, ?_⟩) hHeld ?_ ?_
         rotate_left
         ·rintro w' ⟨s0, s1, s2⟩
          go_simp
          with_reducible rfl
         rotate_left
         ·simp only [aP, aQ, sT, sZ, sU, i64_w, i32_w]
          rfl
         refine pX 7 28 (bB 35 255) (any_of HT_.out (by kernel_rfl)) ?_
         refine pX 8 29 (bB 35 511) (any_of HT_.out (by kernel_rfl)) ?_
         refine pX 9 30 (bB 35 1023) (any_of HT_.out (by kernel_rfl)) ?_
         refine pX 10 31 (bB 35 2047) (any_of HT_.out (by kernel_rfl)) ?_
         refine pX 11 32 (bB 35 4095) (any_of HT_.out (by kernel_rfl)) ?_
         refine pX 13 34 (bB 35 12287) (any_of HT_.out (by kernel_rfl)) ?_
         refine take_ (i := 12) (N := some 33) (v := ?_) (a' := ?_) (bB 35 16383) rfl rfl (take_ofW HT_.out HW_.out (by kernel_rfl)) (fun _ _ _ h => h) (Or.inl ⟨by rfl, ?_⟩) hHeld ?_ ?_
         rotate_left
         ·rintro w' ⟨s0, s1, s2⟩
          go_simp
          with_reducible rfl
         rotate_left
         ·simp only [aP, aQ, sT, sZ, sU, i64_w, i32_w]
          rfl
         refine take_ (i := 14) (N := some 35) (v := ?_) (a' := ?_) (bB 35 32767) rfl rfl (take_ofW HT_.out HW_.out (by kernel_rfl)) (fun _ _ _ h => h) (Or.inl ⟨by rfl, ?_⟩) hHeld ?_ ?_
         rotate_left
         ·rintro w' ⟨s0, s1, s2⟩
          go_simp
          with_reducible rfl
         rotate_left
         ·simp only [aP, aQ, sT, sZ, sU, i64_w, i32_w]
          rfl
         refine pX 15 36 (bB 35 65535) (any_of HT_.out (by kernel_rfl)) ?_
         refine one_ (i := 16) (N := some 37) (bB 35 131071) rfl rfl (one_of HT_.out (by kernel_rfl)) (by decide) (fun K hK => ?_)
         refine gX Try.func74 #[.int .i64 ((rd_T45 l0_0 x3_1).f2), .int .i64 0, .int .i64 (((rd_T45 l0_0 x3_1).f1).size : Int)] ?_
         with_reducible refine (spec_l01In.calls ((rd_T45 l0_0 x3_1).f2) 0 (((rd_T45 l0_0 x3_1).f1).size : Int) false _ A18.out).mono ?_
         rintro e w' ⟨rfl, ⟨nd, rfl⟩⟩
         refine ⟨_, rfl, ?_⟩
         refine hK.out _ _ ⟨(blk_cell BK155.out 0).trans rfl, (blk_cell BK155.out 1).trans rfl, (blk_cell BK155.out 2).trans rfl⟩ (fun hHeld => ?_)
         clear hK K
         refine norm_ (a' := ?_) ?_ ?_
         rotate_left
         ·show Act.put _ (some 37) _ = _
          simp only [aP, aQ, sT, sZ, sU, i64_w, i32_w]
          rfl
         refine pX 17 38 (bB 35 262143) (any_of HT_.out (by kernel_rfl)) ?_
         refine pX 18 39 (bB 35 524287) (any_of HT_.out (by kernel_rfl)) ?_
         refine pX 19 40 (bB 35 1048575) (any_of HT_.out (by kernel_rfl)) ?_
         refine pU 20 41 (bB 35 2097151) (any_of HT_.out (by kernel_rfl)) ?_
         refine pU 21 42 (bB 35 4194303) (any_of HT_.out (by kernel_rfl)) ?_
         refine pU 22 43 (bB 35 8388607) (any_of HT_.out (by kernel_rfl)) ?_
         refine pU 23 44 (bB 35 16777215) (any_of HT_.out (by kernel_rfl)) ?_
         refine pU 24 45 (bB 35 33554431) (any_of HT_.out (by kernel_rfl)) ?_
         refine pU 25 46 (bB 35 67108863) (any_of HT_.out (by kernel_rfl)) ?_
         refine pU 26 47 (bB 35 134217727) (any_of HT_.out (by kernel_rfl)) ?_
         refine pU 27 48 (bB 35 268435455) (any_of HT_.out (by kernel_rfl)) ?_
         refine pU 28 49 (bB 35 536870911) (any_of HT_.out (by kernel_rfl)) ?_
         refine pU 29 50 (bB 35 1073741823) (any_of HT_.out (by kernel_rfl)) ?_
         refine pU 30 51 (bB 35 2147483647) (any_of HT_.out (by kernel_rfl)) ?_
         refine pU 31 52 (bB 35 4294967295) (any_of HT_.out (by kernel_rfl)) ?_
         refine pU 32 53 (bB 35 8589934591) (any_of HT_.out (by kernel_rfl)) ?_
         refine pU 33 54 (bB 35 17179869183) (any_of HT_.out (by kernel_rfl)) ?_
         refine pX 34 55 (bB 35 34359738367) (any_of HT_.out (by kernel_rfl)) ?_
         refine done_ (done_of HT_.out (by kernel_rfl)) ?_
         try go_wp2
         go_ret
         exact ⟨by first | rfl | (simp [errW_none, errW_some] <;> rfl) | (simp [*, errW_none, errW_some] <;> rfl), uL HB⟩
      ·replace c10 := Bool.eq_false_iff.mpr c10
       subst c10
       have H1 : (some false) = some r := by rw [if_neg (show ¬ (false = true) by decide)] at H; exact H
       clear H; have H := H1; clear H1
       obtain rfl := Option.some.inj H
       have hcz49_0 := czA BK153.out 0 (.slice A0_0 l0_0.length c0_0)
       have hfz49_0 := blk_frozen BK153.out 0
       have p154 : 0 ≤ (x3_1 : Int) := of_decide_eq_true (by first | (with_reducible assumption) | assumption)
       have q154 : x3_1 < (l0_0.length : Int) := of_decide_eq_true (by first | (with_reducible assumption) | assumption)
       obtain ⟨ad154, e154, hx154_0, hx154_1, hx154_2⟩ := at_T45 HR0_0.out x3_1 p154 q154
       cases e154
       replace hx154_0 := (HB.out.cell (World.block_lt_of_cell? w _ hx154_0)).trans hx154_0
       replace hx154_1 := (HB.out.cell (World.block_lt_of_cell? w _ hx154_1)).trans hx154_1
       replace hx154_2 := (HB.out.cell (World.block_lt_of_cell? w _ hx154_2)).trans hx154_2
       replace p154 := eq_true p154
       replace q154 := eq_true q154
       try go_wp2_with (first | ((with_reducible refine gate_dst (N := 4) rfl ?_); (try (refine gate_guard (by rfl) ?_; dsimp only)); refine box_event ?hg (N := 4) ?hd (cs := #[.string (⟨#[]⟩ : ByteArray), .string (⟨#[]⟩ : ByteArray), .int .i64 0]) (t := 45) ?hr ?_; (case hd => rfl); (case hg => rfl); (case hr => first | (go_simp; done) | (go_simp; rfl)); intro gb155 hg w50 hbox hb; have n0_ := blkB BK153 hb; have n1_ := aM (below_step (uL HB) hb); have n2_ := aM (hbox); have n3_ := szG hg (uL HB); have n4_ := szG hg (uL HB); have n5_ := neL hg BK153; have n6_ := neG hg BK153; clear BK153; clear HB; have BK153 := n0_; have HB := n1_; have BK155 := n2_; have GW155 := n3_; have GE155 := n4_; have NB153_155 := n5_; have NB155_153 := n6_; clear n0_ n1_ n2_ n3_ n4_ n5_ n6_; clear hb hbox hg; have hnb51 := NB155_153.out; have hnc51 := NB153_155.out; have hcz52_0 := czA BK155.out 0 (.string (⟨#[]⟩ : ByteArray)); have hcz52_1 := czA BK155.out 1 (.string (⟨#[]⟩ : ByteArray)); have hcz52_2 := czA BK155.out 2 (.int .i64 0); have hfz52_0 := blk_frozen BK155.out 0; have hfz52_1 := blk_frozen BK155.out 1; have hfz52_2 := blk_frozen BK155.out 2))
       have n0_ : Aside0 ((((w50.setCell ⟨gb155, 0, none⟩ (.string ((rd_T45 l0_0 x3_1).f0))).setCell ⟨gb155, 1, none⟩ (.string ((rd_T45 l0_0 x3_1).f1))).setCell ⟨gb155, 2, none⟩ (.int .i64 ((rd_T45 l0_0 x3_1).f2))).heap[gb153]? = some (.cells #[.slice (some ad154) l0_0.length c0_0] 30 (0, 0))) := ⟨by (with_reducible repeat first | apply bN | apply bD | apply bA); refine blk_far ?_ NB153_155.out _; (with_reducible repeat first | apply bN | apply bD | apply bA); refine blk_far ?_ NB153_155.out _; (with_reducible repeat first | apply bN | apply bD | apply bA); refine blk_far ?_ NB153_155.out _; (with_reducible repeat first | apply bN | apply bD | apply bA); exact BK153.out⟩
       have n1_ : Aside0 ((((w50.setCell ⟨gb155, 0, none⟩ (.string ((rd_T45 l0_0 x3_1).f0))).setCell ⟨gb155, 1, none⟩ (.string ((rd_T45 l0_0 x3_1).f1))).setCell ⟨gb155, 2, none⟩ (.int .i64 ((rd_T45 l0_0 x3_1).f2))).heap[gb155]? = some (.cells #[.string ((rd_T45 l0_0 x3_1).f0), .string ((rd_T45 l0_0 x3_1).f1), .int .i64 ((rd_T45 l0_0 x3_1).f2)] 45 (0, 0))) := ⟨by (with_reducible repeat first | apply bN | apply bD | apply bA); refine blk_put (cs := #[.string ((rd_T45 l0_0 x3_1).f0), .string ((rd_T45 l0_0 x3_1).f1), .int .i64 0]) ?_ 2 _ rfl; (with_reducible repeat first | apply bN | apply bD | apply bA); refine blk_put (cs := #[.string ((rd_T45 l0_0 x3_1).f0), .string (⟨#[]⟩ : ByteArray), .int .i64 0]) ?_ 1 _ rfl; (with_reducible repeat first | apply bN | apply bD | apply bA); refine blk_put (cs := #[.string (⟨#[]⟩ : ByteArray), .string (⟨#[]⟩ : ByteArray), .int .i64 0]) ?_ 0 _ rfl; (with_reducible repeat first | apply bN | apply bD | apply bA); exact BK155.out⟩
       have n2_ : Aside0 (Below w.heap.size w (((w50.setCell ⟨gb155, 0, none⟩ (.string ((rd_T45 l0_0 x3_1).f0))).setCell ⟨gb155, 1, none⟩ (.string ((rd_T45 l0_0 x3_1).f1))).setCell ⟨gb155, 2, none⟩ (.int .i64 ((rd_T45 l0_0 x3_1).f2)))) := ⟨uL HB⟩
       (try clear BK153)
       (try clear BK155)
       (try clear HB)
       generalize (((w50.setCell ⟨gb155, 0, none⟩ (.string ((rd_T45 l0_0 x3_1).f0))).setCell ⟨gb155, 1, none⟩ (.string ((rd_T45 l0_0 x3_1).f1))).setCell ⟨gb155, 2, none⟩ (.int .i64 ((rd_T45 l0_0 x3_1).f2))) = w53 at n0_ n1_ n2_ ⊢
       have BK153 := n0_; have BK155 := n1_; have HB := n2_; clear n0_ n1_ n2_
       have n0_ := aM (blk_drew BK153.out)
       have n1_ := aM (blk_drew BK155.out)
       have n2_ := aM (below_drew1 HB.out)
       clear BK153 BK155 HB; have BK153 := n0_; have BK155 := n1_; have HB := n2_; clear n0_ n1_ n2_
       refine start_ (n := 35) (S := fun w' => w'.cell? ⟨gb155, 0, none⟩ = some (.string ((rd_T45 l0_0 x3_1).f0)) ∧ w'.cell? ⟨gb155, 1, none⟩ = some (.string ((rd_T45 l0_0 x3_1).f1)) ∧ w'.cell? ⟨gb155, 2, none⟩ = some (.int .i64 ((rd_T45 l0_0 x3_1).f2))) (ds := []) #[false, false, false, false, false, false, false, false, false, false, false, false, false, false, false, false, false, false, false, false, false, false, false, false, false, false, false, false, false, false, false, false, false, false, false] (by kernel_rfl) rfl rfl ⟨(blk_cell BK155.out 0).trans rfl, (blk_cell BK155.out 1).trans rfl, (blk_cell BK155.out 2).trans rfl⟩ (fun hHeld => ?_); refine with_tabW spec_DiskOk.tab7 spec_DiskOk.bits7 (fun HT_ HW_ => ?_)
       generalize w53.drew = w54 at BK153 BK155 HB hHeld ⊢
       refine pX 0 21 (bB 35 1) (any_of HT_.out (by kernel_rfl)) ?_
       refine take_ (i := 1) (N := some 22) (v := ?_) (a' := ?_) (bB 35 3) rfl rfl (take_ofW HT_.out HW_.out (by kernel_rfl)) (fun _ _ _ h => h) (Or.inl ⟨by rfl, ?_⟩) hHeld ?_ ?_
       rotate_left
       ·rintro w' ⟨s0, s1, s2⟩
        go_simp
        with_reducible rfl
       rotate_left
       ·simp only [aP, aQ, sT, sZ, sU, i64_w, i32_w]
        rfl
       refine one_ (i := 2) (N := some 23) (bB 35 7) rfl rfl (one_of HT_.out (by kernel_rfl)) (by decide) (fun K hK => ?_)
       refine gX Try.func73 #[.string ((rd_T45 l0_0 x3_1).f0)] ?_
       with_reducible refine (spec_l03Name.calls ((rd_T45 l0_0 x3_1).f0) false _ A9.out).mono ?_
       rintro e w' ⟨rfl, ⟨nd, rfl⟩⟩
       refine ⟨_, rfl, ?_⟩
       refine hK.out _ _ ⟨(blk_cell BK155.out 0).trans rfl, (blk_cell BK155.out 1).trans rfl, (blk_cell BK155.out 2).trans rfl⟩ (fun hHeld => ?_)
       clear hK K
       refine norm_ (a' := ?_) ?_ ?_
       rotate_left
       ·show Act.put _ (some 23) _ = _
        simp only [aP, aQ, sT, sZ, sU, i64_w, i32_w]
        rfl
       refine pX 3 24 (bB 35 15) (any_of HT_.out (by kernel_rfl)) ?_
       refine pX 4 25 (bB 35 31) (any_of HT_.out (by kernel_rfl)) ?_
       refine pU 5 26 (bB 35 63) (any_of HT_.out (by kernel_rfl)) ?_
       refine pU 6 27 (bB 35 127) (any_of HT_.out (by kernel_rfl)) ?_
       refine pU 7 28 (bB 35 255) (any_of HT_.out (by kernel_rfl)) ?_
       refine pU 8 29 (bB 35 511) (any_of HT_.out (by kernel_rfl)) ?_
       refine pX 9 30 (bB 35 1023) (any_of HT_.out (by kernel_rfl)) ?_
       refine pX 10 31 (bB 35 2047) (any_of HT_.out (by kernel_rfl)) ?_
       refine pU 11 32 (bB 35 4095) (any_of HT_.out (by kernel_rfl)) ?_
       refine pU 12 33 (bB 35 8191) (any_of HT_.out (by kernel_rfl)) ?_
       refine pU 13 34 (bB 35 16383) (any_of HT_.out (by kernel_rfl)) ?_
       refine pU 14 35 (bB 35 32767) (any_of HT_.out (by kernel_rfl)) ?_
       refine pU 15 36 (bB 35 65535) (any_of HT_.out (by kernel_rfl)) ?_
       refine pU 16 37 (bB 35 131071) (any_of HT_.out (by kernel_rfl)) ?_
       refine pU 17 38 (bB 35 262143) (any_of HT_.out (by kernel_rfl)) ?_
       refine pX 18 39 (bB 35 524287) (any_of HT_.out (by kernel_rfl)) ?_
       refine pX 19 40 (bB 35 1048575) (any_of HT_.out (by kernel_rfl)) ?_
       refine pU 20 41 (bB 35 2097151) (any_of HT_.out (by kernel_rfl)) ?_
       refine pU 21 42 (bB 35 4194303) (any_of HT_.out (by kernel_rfl)) ?_
       refine pU 22 43 (bB 35 8388607) (any_of HT_.out (by kernel_rfl)) ?_
       refine pU 23 44 (bB 35 16777215) (any_of HT_.out (by kernel_rfl)) ?_
       refine pU 24 45 (bB 35 33554431) (any_of HT_.out (by kernel_rfl)) ?_
       refine pU 25 46 (bB 35 67108863) (any_of HT_.out (by kernel_rfl)) ?_
       refine pU 26 47 (bB 35 134217727) (any_of HT_.out (by kernel_rfl)) ?_
       refine pU 27 48 (bB 35 268435455) (any_of HT_.out (by kernel_rfl)) ?_
       refine pU 28 49 (bB 35 536870911) (any_of HT_.out (by kernel_rfl)) ?_
       refine pU 29 50 (bB 35 1073741823) (any_of HT_.out (by kernel_rfl)) ?_
       refine pU 30 51 (bB 35 2147483647) (any_of HT_.out (by kernel_rfl)) ?_
       refine pU 31 52 (bB 35 4294967295) (any_of HT_.out (by kernel_rfl)) ?_
       refine pU 32 53 (bB 35 8589934591) (any_of HT_.out (by kernel_rfl)) ?_
       refine pU 33 54 (bB 35 17179869183) (any_of HT_.out (by kernel_rfl)) ?_
       refine pX 34 55 (bB 35 34359738367) (any_of HT_.out (by kernel_rfl)) ?_
       refine done_ (done_of HT_.out (by kernel_rfl)) ?_
       try go_wp2
       go_ret
       exact ⟨by first | rfl | (simp [errW_none, errW_some] <;> rfl) | (simp [*, errW_none, errW_some] <;> rfl), uL HB⟩
     ·rw [if_neg c8] at H
      exact absurd H (by simp)
    ·rw [if_neg c7] at H
     have c7b0 : decide (x3_1 < (l0_0.length : Int)) = false := decide_eq_false c7
     clear c7
     obtain rfl := Option.some.inj H
     have hcz55_0 := czA BK153.out 0 (.slice A0_0 l0_0.length c0_0)
     have hfz55_0 := blk_frozen BK153.out 0
     go_wp2
     go_ret
     exact ⟨by first | rfl | (simp [errW_none, errW_some] <;> rfl) | (simp [*, errW_none, errW_some] <;> rfl), uL HB⟩

end Go.Proofs.Ytidfhfaekdahpaa.QFnExactDoActs
