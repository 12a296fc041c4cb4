-- Written by a program of this session's own (wip/turnprint.py over the kit's print); Lean checks it.
import Derived.Test.YtidfhfaekdahpaaQFnExactDoActx0
namespace Go.Proofs.Ytidfhfaekdahpaa.QFnExactDoAct
open Go.RowKit Go.Proofs.YtidfhfaekdahpaaW.PrintWords Go.Proofs.YtidfhfaekdahpaaW.PrintLast
attribute [local go_sem] Go.Proofs.YtidfhfaekdahpaaQWords.run_lss_str
attribute [local go_sem] Go.Proofs.YtidfhfaekdahpaaQWords.run_geq_str
attribute [local go_sem] Go.Proofs.YtidfhfaekdahpaaQWords.run_leq_str
attribute [local go_sem] Go.Proofs.YtidfhfaekdahpaaQWords.run_gtr_str
set_option linter.unusedVariables false
set_option linter.unusedSimpArgs false

/-! ### spec_l03Put: function 79 -/
mutual
def spec_l03Put.l0 : Nat → Int → List (S45) → ByteArray → ByteArray → Int → List (S45) → Option ((List (S45)))
 | 0, _, _, _, _, _, _ => none
 | k + 1, x6, x160000, x161000, x161001, x161002, x163000 => if x6 < (x160000.length : Int) then (if 0 ≤ x6 then (if (Op.bytesLess (((rd_T45 x160000 x6).f0).toList) x161000.toList) = true then (if x163000.length < 3518437208883 then (spec_l03Put.l0 k (wrap64 (x6 + 1)) x160000 x161000 x161001 x161002 (x163000 ++ [(⟨(rd_T45 x160000 x6).f0, (rd_T45 x160000 x6).f1, (rd_T45 x160000 x6).f2⟩ : S45)])) else (none)) else (spec_l03Put.l0 k (wrap64 (x6 + 1)) x160000 x161000 x161001 x161002 x163000)) else (none)) else (if x163000.length < 3518437208883 then (spec_l03Put.l1 k 0 x160000 x161000 x161001 x161002 (x163000 ++ [(⟨x161000, x161001, x161002⟩ : S45)])) else (none))
def spec_l03Put.l1 : Nat → Int → List (S45) → ByteArray → ByteArray → Int → List (S45) → Option ((List (S45)))
 | 0, _, _, _, _, _, _ => none
 | k + 1, x7, x160000, x161000, x161001, x161002, x163000 => if x7 < (x160000.length : Int) then (if 0 ≤ x7 then (if (Op.bytesLess x161000.toList (((rd_T45 x160000 x7).f0).toList)) = true then (if x163000.length < 3518437208883 then (spec_l03Put.l1 k (wrap64 (x7 + 1)) x160000 x161000 x161001 x161002 (x163000 ++ [(⟨(rd_T45 x160000 x7).f0, (rd_T45 x160000 x7).f1, (rd_T45 x160000 x7).f2⟩ : S45)])) else (none)) else (spec_l03Put.l1 k (wrap64 (x7 + 1)) x160000 x161000 x161001 x161002 x163000)) else (none)) else (some x163000)
end
def spec_l03Put.f (k : Nat) (l0_0 : List (S45)) (a1_0 : ByteArray) (a1_1 : ByteArray) (a1_2 : Int) : Option ((List (S45))) := spec_l03Put.l0 k 0 l0_0 a1_0 a1_1 a1_2 ([] : List (S45))
theorem spec_l03Put.mono_l : ∀ k, (∀ y0 y1 y2 y3 y4 y5, LeO (spec_l03Put.l0 k y0 y1 y2 y3 y4 y5) (spec_l03Put.l0 (k + 1) y0 y1 y2 y3 y4 y5)) ∧ (∀ y0 y1 y2 y3 y4 y5, LeO (spec_l03Put.l1 k y0 y1 y2 y3 y4 y5) (spec_l03Put.l1 (k + 1) y0 y1 y2 y3 y4 y5))
 | 0 => ⟨fun _ _ _ _ _ _ r h => by simp [spec_l03Put.l0] at h, fun _ _ _ _ _ _ r h => by simp [spec_l03Put.l1] at h⟩
 | k + 1 => by
  obtain ⟨ih0, ih1⟩ := spec_l03Put.mono_l k
  refine ⟨?_, ?_⟩
  ·intro y0 y1 y2 y3 y4 y5
   unfold spec_l03Put.l0
   repeat' first
   | (with_reducible exact ih0 _ _ _ _ _ _)
   | (with_reducible exact ih1 _ _ _ _ _ _)
   | (with_reducible exact LeO.refl _)
   | (with_reducible exact LeO.none _)
   | (with_reducible refine LeO.ite ?_ ?_)
   | (with_reducible refine LeO.bind ?_ (fun _ => ?_))
   | exact ih0 _ _ _ _ _ _
   | exact ih1 _ _ _ _ _ _
   | exact LeO.none _
   | refine LeO.ite ?_ ?_
   | refine LeO.bind ?_ (fun _ => ?_)
  ·intro y0 y1 y2 y3 y4 y5
   unfold spec_l03Put.l1
   repeat' first
   | (with_reducible exact ih0 _ _ _ _ _ _)
   | (with_reducible exact ih1 _ _ _ _ _ _)
   | (with_reducible exact LeO.refl _)
   | (with_reducible exact LeO.none _)
   | (with_reducible refine LeO.ite ?_ ?_)
   | (with_reducible refine LeO.bind ?_ (fun _ => ?_))
   | exact ih0 _ _ _ _ _ _
   | exact ih1 _ _ _ _ _ _
   | exact LeO.none _
   | refine LeO.ite ?_ ?_
   | refine LeO.bind ?_ (fun _ => ?_)
theorem spec_l03Put.mono : ∀ a0 a1 a2 a3 k, LeO (spec_l03Put.f k a0 a1 a2 a3) (spec_l03Put.f (k + 1) a0 a1 a2 a3) := by
 intro a0 a1 a2 a3 k
 obtain ⟨ih0, ih1⟩ := spec_l03Put.mono_l k
 unfold spec_l03Put.f
 repeat' first
   | (with_reducible exact ih0 _ _ _ _ _ _)
   | (with_reducible exact ih1 _ _ _ _ _ _)
   | (with_reducible exact LeO.refl _)
   | (with_reducible exact LeO.none _)
   | (with_reducible refine LeO.ite ?_ ?_)
   | (with_reducible refine LeO.bind ?_ (fun _ => ?_))
   | exact ih0 _ _ _ _ _ _
   | exact ih1 _ _ _ _ _ _
   | exact LeO.none _
   | refine LeO.ite ?_ ?_
   | refine LeO.bind ?_ (fun _ => ?_)
def spec_l03Put.T5 : Bool × List (List Nat × List Nat) := (true, [([], []), ([0], [0]), ([], []), ([1, 2], [1, 2]), ([3], [3]), ([4], [4]), ([], []), ([6], [6]), ([5, 7], [5, 7])])
def spec_l03Put.B5 : List Nat := [0, 1, 0, 7, 15, 31, 0, 64, 255]
theorem spec_l03Put.tab5 : rtab .any (opsOf Try.f79 5) = spec_l03Put.T5 := by kernel_rfl
theorem spec_l03Put.bits5 : waitsOk spec_l03Put.T5.2 spec_l03Put.B5 = true := by kernel_rfl
def spec_l03Put.T6 : Bool × List (List Nat × List Nat) := (true, [([], []), ([0], [0]), ([], []), ([2], [2]), ([], []), ([3, 4], [3, 4]), ([5], [5]), ([6], [6]), ([1, 7], [1, 7]), ([0, 1, 2, 3, 4, 5, 6, 7, 8], []), ([9, 8, 8, 0, 1, 2, 3, 4, 5, 6, 7, 8], [8, 9])])
def spec_l03Put.B6 : List Nat := [0, 1, 0, 4, 0, 28, 60, 124, 255, 511, 1023]
theorem spec_l03Put.tab6 : rtab .any (opsOf Try.f79 6) = spec_l03Put.T6 := by kernel_rfl
theorem spec_l03Put.bits6 : waitsOk spec_l03Put.T6.2 spec_l03Put.B6 = true := by kernel_rfl
def spec_l03Put.T11 : Bool × List (List Nat × List Nat) := (true, [([], []), ([0], [0]), ([], []), ([1, 2], [1, 2]), ([3], [3]), ([4], [4]), ([], []), ([6], [6]), ([5, 7], [5, 7])])
def spec_l03Put.B11 : List Nat := [0, 1, 0, 7, 15, 31, 0, 64, 255]
theorem spec_l03Put.tab11 : rtab .any (opsOf Try.f79 11) = spec_l03Put.T11 := by kernel_rfl
theorem spec_l03Put.bits11 : waitsOk spec_l03Put.T11.2 spec_l03Put.B11 = true := by kernel_rfl
def spec_l03Put.T12 : Bool × List (List Nat × List Nat) := (true, [([], []), ([0], [0]), ([], []), ([2], [2]), ([], []), ([3, 4], [3, 4]), ([5], [5]), ([6], [6]), ([1, 7], [1, 7]), ([0, 1, 2, 3, 4, 5, 6, 7, 8], []), ([9, 8, 8, 0, 1, 2, 3, 4, 5, 6, 7, 8], [8, 9])])
def spec_l03Put.B12 : List Nat := [0, 1, 0, 4, 0, 28, 60, 124, 255, 511, 1023]
theorem spec_l03Put.tab12 : rtab .any (opsOf Try.f79 12) = spec_l03Put.T12 := by kernel_rfl
theorem spec_l03Put.bits12 : waitsOk spec_l03Put.T12.2 spec_l03Put.B12 = true := by kernel_rfl
set_option maxHeartbeats 8000000 in
set_option maxRecDepth 100000 in
theorem spec_l03Put.calls (k : Nat) (A0_0 : Option Addr) (c0_0 : Nat) (l0_0 : List (S45)) (a1_0 : ByteArray) (a1_1 : ByteArray) (a1_2 : Int) (r : List (S45)) (w : World) (hr0_0 : Kd.C k45 w A0_0 l0_0.length l0_0) (hc0_0 : l0_0.length ≤ c0_0) (h : spec_l03Put.f k l0_0 a1_0 a1_1 a1_2 = some r) :
  Calls Try.prog 79 #[.agg #[.slice A0_0 l0_0.length c0_0], .agg #[.string a1_0, .string a1_1, .int .i64 a1_2]] w fun e w' => ∃ v0_ : Value, e = .returned (.agg #[v0_]) ∧ Kd.R k45 45 w' w.heap.size (fun _ => True) v0_ r ∧ Below w.heap.size w w' := by
 have hu30 := Try.underlying30
 have hu45 := Try.underlying45
 have HR0_0 := aM hr0_0
 have HC0_0 := aM hc0_0
 clear hr0_0 hc0_0
 have HB := aM (Below.refl w.heap.size w)
 have H : (spec_l03Put.l0 k 0 l0_0 a1_0 a1_1 a1_2 ([] : List (S45))) = some r := h
 clear h
 have H' := aM H
 clear H
 go_enter Try.func79, Try.ntmps79
 go_wp2_with (first | ((with_reducible refine gate_dst (N := 2) rfl ?_); refine bxE 2 #[.slice A0_0 l0_0.length c0_0] 30 ?_; intro gb159 hg w3 hbox hb; have n0_ := aM (below_step (uL HB) hb); have n1_ := aM (hbox); have n2_ := szG hg (uL HB); have n3_ := szG hg (uL HB); clear HB; have HB := n0_; have BK159 := n1_; have GW159 := n2_; have GE159 := n3_; clear n0_ n1_ n2_ n3_; clear hb hbox hg) | ((with_reducible refine gate_dst (N := 3) rfl ?_); refine bxE 3 #[.string a1_0, .string a1_1, .int .i64 a1_2] 45 ?_; intro gb160 hg w4 hbox hb; have n0_ := blkB BK159 hb; have n1_ := aM (below_step (uL HB) hb); have n2_ := aM (hbox); have n3_ := szG hg (uL HB); have n4_ := szG hg (uL HB); have n5_ := neL hg BK159; have n6_ := neG hg BK159; clear BK159; clear HB; have BK159 := n0_; have HB := n1_; have BK160 := n2_; have GW160 := n3_; have GE160 := n4_; have NB159_160 := n5_; have NB160_159 := n6_; clear n0_ n1_ n2_ n3_ n4_ n5_ n6_; clear hb hbox hg) | ((with_reducible refine gate_dst (N := 4) rfl ?_); refine bxE 4 #[.slice none 0 0] 30 ?_; intro gb161 hg w5 hbox hb; have n0_ := blkB BK159 hb; have n1_ := blkB BK160 hb; have n2_ := aM (below_step (uL HB) hb); have n3_ := aM (hbox); have n4_ := szG hg (uL HB); have n5_ := szG hg (uL HB); have n6_ := neL hg BK159; have n7_ := neG hg BK159; have n8_ := neL hg BK160; have n9_ := neG hg BK160; clear BK159; clear BK160; clear HB; have BK159 := n0_; have BK160 := n1_; have HB := n2_; have BK161 := n3_; have GW161 := n4_; have GE161 := n5_; have NB159_161 := n6_; have NB161_159 := n7_; have NB160_161 := n8_; have NB161_160 := n9_; clear n0_ n1_ n2_ n3_ n4_ n5_ n6_ n7_ n8_ n9_; clear hb hbox hg) | ((with_reducible refine gate_dst (N := 5) rfl ?_); refine bxE 5 #[.slice none 0 0] 30 ?_; intro gb162 hg w6 hbox hb; have n0_ := blkB BK159 hb; have n1_ := blkB BK160 hb; have n2_ := blkB BK161 hb; have n3_ := aM (below_step (uL HB) hb); have n4_ := aM (hbox); have n5_ := szG hg (uL HB); have n6_ := szG hg (uL HB); have n7_ := neL hg BK159; have n8_ := neG hg BK159; have n9_ := neL hg BK160; have n10_ := neG hg BK160; have n11_ := neL hg BK161; have n12_ := neG hg BK161; clear BK159; clear BK160; clear BK161; clear HB; have BK159 := n0_; have BK160 := n1_; have BK161 := n2_; have HB := n3_; have BK162 := n4_; have GW162 := n5_; have GE162 := n6_; have NB159_162 := n7_; have NB162_159 := n8_; have NB160_162 := n9_; have NB162_160 := n10_; have NB161_162 := n11_; have NB162_161 := n12_; clear n0_ n1_ n2_ n3_ n4_ n5_ n6_ n7_ n8_ n9_ n10_ n11_ n12_; clear hb hbox hg; have hnb7 := NB162_159.out; have hnc7 := NB159_162.out; have hnb8 := NB162_160.out; have hnc8 := NB160_162.out; have hnb9 := NB162_161.out; have hnc9 := NB161_162.out; have hcz10_0 : w6.cell? ⟨gb162, 0, none⟩ = some (.slice none 0 0) := (blk_cell BK162.out 0).trans rfl; have hfz10_0 := blk_frozen BK162.out 0))
 go_loopg [6] k (fun kq v6 w' => ∃ (x6_1 : Int) (x163000_1 : List (S45)) (u163000 : Value), v6 = .int .i64 x6_1 ∧ Aside0 (spec_l03Put.l0 kq x6_1 l0_0 a1_0 a1_1 a1_2 x163000_1 = some r) ∧ Aside0 (kq ≤ k) ∧ Aside0 (Kd.R k45 45 w' w.heap.size (fun k_ => k_ ≠ gb160) u163000 x163000_1) ∧ Aside0 (w'.heap[gb159]? = some (.cells #[(.slice A0_0 l0_0.length c0_0)] 30 (0, 0))) ∧ Aside0 (w'.heap[gb160]? = some (.cells #[.string a1_0, .string a1_1, .int .i64 a1_2] 45 (0, 0))) ∧ Aside0 (w'.heap[gb161]? = some (.cells #[(.slice none 0 0)] 30 (0, 0))) ∧ Aside0 (w'.heap[gb162]? = some (.cells #[u163000] 30 (0, 0))) ∧ Aside0 (Below w.heap.size w w'))
 case atStart => exact ⟨(0), (([] : List (S45))), (.slice none 0 0), (by first | rfl | (simp; done) | (simp [*]; done)), H', ⟨Nat.le_refl _⟩, ⟨by first | exact Kd.R_nil _ _ _ _ _ | exact Kd.N_nil _ _ _ _ _ | exact Kd.V_nil _ _ _ _ _ | exact Kd.Q_nil _ _ _ _ _ | exact Kd.S_nil _ _ _ _ _⟩, ⟨by (with_reducible repeat first | apply bN | apply bD | apply bA); refine blk_far ?_ NB159_162.out _; (with_reducible repeat first | apply bN | apply bD | apply bA); exact BK159.out⟩, ⟨by (with_reducible repeat first | apply bN | apply bD | apply bA); refine blk_far ?_ NB160_162.out _; (with_reducible repeat first | apply bN | apply bD | apply bA); exact BK160.out⟩, ⟨by (with_reducible repeat first | apply bN | apply bD | apply bA); refine blk_far ?_ NB161_162.out _; (with_reducible repeat first | apply bN | apply bD | apply bA); exact BK161.out⟩, ⟨by (with_reducible repeat first | apply bN | apply bD | apply bA); refine blk_put (cs := #[.slice none 0 0]) ?_ 0 _ rfl; (with_reducible repeat first | apply bN | apply bD | apply bA); exact BK162.out⟩, ⟨uL HB⟩⟩
 case round =>
  clear H'
  try clear p2
  try clear c7
  try clear c8
  try clear c9
  try clear hcz10_0
  try clear hfz10_0
  obtain ⟨x6_1, x163000_1, u163000, rfl, HA, HK1, HO_163000, BK159, BK160, BK161, BK162, HB⟩ := hrel
  cases gk with
  | zero => exact absurd HA.out (by simp [spec_l03Put.l0])
  | succ k1 =>
   have H := HA.out
   clear HA
   simp only [spec_l03Put.l0] at H
   by_cases c11 : x6_1 < (l0_0.length : Int)
   ·rw [if_pos c11] at H
    have c11b0 : decide (x6_1 < (l0_0.length : Int)) = true := decide_eq_true c11
    clear c11
    by_cases c12 : 0 ≤ x6_1
    ·rw [if_pos c12] at H
     have c12b0 : decide (0 ≤ x6_1) = true := decide_eq_true c12
     clear c12
     by_cases c13 : (Op.bytesLess (((rd_T45 l0_0 x6_1).f0).toList) a1_0.toList) = true
     ·rw [if_pos c13] at H
      have c13b0 : (Op.bytesLess (((rd_T45 l0_0 x6_1).f0).toList) a1_0.toList) = true := c13
      clear c13
      by_cases c14 : x163000_1.length < 3518437208883
      ·rw [if_pos c14] at H
       have LMc14 := aM c14
       clear c14
       obtain ⟨y165, hy165⟩ : ∃ y_ : List (S45), y_ = (x163000_1 ++ [(⟨(rd_T45 l0_0 x6_1).f0, (rd_T45 l0_0 x6_1).f1, (rd_T45 l0_0 x6_1).f2⟩ : S45)]) := ⟨_, rfl⟩
       replace H : (spec_l03Put.l0 k1 (wrap64 (x6_1 + 1)) l0_0 a1_0 a1_1 a1_2 y165) = some r := by first | (rw [hy165]; with_reducible exact H) | (have H2_ := (Option.bind_some _ _).symm.trans H; rw [hy165]; with_reducible exact H2_) | (have H2_ := (Option.bind_some _ _).symm.trans H; with_reducible exact H2_) | with_reducible exact H | (rw [hy165]; exact H) | exact H
       have Ny165 := aM hy165
       clear hy165
       have H' := aM H
       clear H
       have hnb15 := NB159_160.out
       have hnc15 := NB160_159.out
       have hnb16 := NB159_161.out
       have hnc16 := NB161_159.out
       have hnb17 := NB159_162.out
       have hnc17 := NB162_159.out
       have hcz18_0 : wr.cell? ⟨gb159, 0, none⟩ = some (.slice A0_0 l0_0.length c0_0) := (blk_cell BK159.out 0).trans rfl
       have hfz18_0 := blk_frozen BK159.out 0
       try go_wp2
       have n0_ := aM (Kd.R_drew HO_163000.out)
       have n1_ := aM (blk_drew BK159.out)
       have n2_ := aM (blk_drew BK160.out)
       have n3_ := aM (blk_drew BK161.out)
       have n4_ := aM (blk_drew BK162.out)
       have n5_ := aM (below_drew1 HB.out)
       clear HO_163000 BK159 BK160 BK161 BK162 HB; have HO_163000 := n0_; have BK159 := n1_; have BK160 := n2_; have BK161 := n3_; have BK162 := n4_; have HB := n5_; clear n0_ n1_ n2_ n3_ n4_ n5_
       have p163 : 0 ≤ (x6_1 : Int) := of_decide_eq_true (by first | (with_reducible assumption) | assumption)
       have q163 : x6_1 < (l0_0.length : Int) := of_decide_eq_true (by first | (with_reducible assumption) | assumption)
       obtain ⟨ad163, e163, hx163_0, hx163_1, hx163_2⟩ := at_T45 HR0_0.out x6_1 p163 q163
       have hw163_2 := hx163_2; have hw163_1 := hx163_1; have hw163_0 := hx163_0
       cases e163
       replace hx163_0 := (HB.out.cell (World.block_lt_of_cell? w _ hx163_0)).trans hx163_0
       replace hx163_1 := (HB.out.cell (World.block_lt_of_cell? w _ hx163_1)).trans hx163_1
       replace hx163_2 := (HB.out.cell (World.block_lt_of_cell? w _ hx163_2)).trans hx163_2
       replace p163 := eq_true p163
       replace q163 := eq_true q163
       refine start_ (n := 9) (S := fun w' => w'.cell? ⟨gb159, 0, none⟩ = some (.slice (some ad163) l0_0.length c0_0) ∧ w'.cell? ⟨gb160, 0, none⟩ = some (.string a1_0) ∧ w'.cell? ⟨gb160, 1, none⟩ = some (.string a1_1) ∧ w'.cell? ⟨gb160, 2, none⟩ = some (.int .i64 a1_2) ∧ w'.cell? (ad163.add ((x6_1).toNat * 3)) = some (.string ((rd_T45 l0_0 x6_1).f0)) ∧ w'.cell? ⟨(ad163.add ((x6_1).toNat * 3)).block, (ad163.add ((x6_1).toNat * 3)).off + 1, none⟩ = some (.string ((rd_T45 l0_0 x6_1).f1)) ∧ w'.cell? ⟨(ad163.add ((x6_1).toNat * 3)).block, (ad163.add ((x6_1).toNat * 3)).off + 2, none⟩ = some (.int .i64 ((rd_T45 l0_0 x6_1).f2))) (ds := []) #[false, false, false, false, false, false, false, false, false] (by kernel_rfl) rfl rfl ⟨(blk_cell BK159.out 0).trans rfl, (blk_cell BK160.out 0).trans rfl, (blk_cell BK160.out 1).trans rfl, (blk_cell BK160.out 2).trans rfl, ((HB.out.cell (World.block_lt_of_cell? w _ hw163_0)).trans hw163_0), ((HB.out.cell (World.block_lt_of_cell? w _ hw163_1)).trans hw163_1), ((HB.out.cell (World.block_lt_of_cell? w _ hw163_2)).trans hw163_2)⟩ (fun hHeld => ?_); refine with_tabW spec_l03Put.tab5 spec_l03Put.bits5 (fun HT_ HW_ => ?_)
       generalize wr.drew = w19 at HO_163000 BK159 BK160 BK161 BK162 HB hx163_0 hx163_1 hx163_2 hHeld ⊢
       refine pX 0 16 (bB 9 1) (any_of HT_.out (by kernel_rfl)) ?_
       refine pX 2 18 (bB 9 5) (any_of HT_.out (by kernel_rfl)) ?_
       refine pX 6 22 (bB 9 69) (any_of HT_.out (by kernel_rfl)) ?_
       refine take_ (i := 1) (N := some 17) (v := ?_) (a' := ?_) (bB 9 71) rfl rfl (take_ofW HT_.out HW_.out (by kernel_rfl)) (fun _ _ _ h => h) (Or.inl ⟨by rfl, ?_⟩) hHeld ?_ ?_
       rotate_left
       ·rintro w' ⟨s0, s1, s2, s3, s4, s5, s6⟩
        go_simp
        with_reducible rfl
       rotate_left
       ·simp only [aP, aQ, sT, sZ, sU, i64_w, i32_w]
        rfl
       refine pX 3 19 (bB 9 79) (any_of HT_.out (by kernel_rfl)) ?_
       refine pX 4 20 (bB 9 95) (any_of HT_.out (by kernel_rfl)) ?_
       refine take_ (i := 5) (N := some 21) (v := ?_) (a' := ?_) (bB 9 127) rfl rfl (take_ofW HT_.out HW_.out (by kernel_rfl)) (fun _ _ _ h => h) (Or.inl ⟨by rfl, ?_⟩) hHeld ?_ ?_
       rotate_left
       ·rintro w' ⟨s0, s1, s2, s3, s4, s5, s6⟩
        go_simp
        with_reducible rfl
       rotate_left
       ·simp only [aP, aQ, sT, sZ, sU, i64_w, i32_w]
        rfl
       refine take_ (i := 7) (N := some 23) (v := ?_) (a' := ?_) (bB 9 255) rfl rfl (take_ofW HT_.out HW_.out (by kernel_rfl)) (fun _ _ _ h => h) (Or.inl ⟨by rfl, ?_⟩) hHeld ?_ ?_
       rotate_left
       ·rintro w' ⟨s0, s1, s2, s3, s4, s5, s6⟩
        go_simp
        with_reducible rfl
       rotate_left
       ·simp only [aP, aQ, sT, sZ, sU, i64_w, i32_w]
        rfl
       refine pX 8 24 (bB 9 511) (any_of HT_.out (by kernel_rfl)) ?_
       refine done_ (done_of HT_.out (by kernel_rfl)) ?_
       try go_wp2
       have n0_ := aM (Kd.R_drew HO_163000.out)
       have n1_ := aM (blk_drew BK159.out)
       have n2_ := aM (blk_drew BK160.out)
       have n3_ := aM (blk_drew BK161.out)
       have n4_ := aM (blk_drew BK162.out)
       have n5_ := aM (below_drew1 HB.out)
       clear HO_163000 BK159 BK160 BK161 BK162 HB; have HO_163000 := n0_; have BK159 := n1_; have BK160 := n2_; have BK161 := n3_; have BK162 := n4_; have HB := n5_; clear n0_ n1_ n2_ n3_ n4_ n5_
       have p164 : 0 ≤ (x6_1 : Int) := of_decide_eq_true (by first | (with_reducible assumption) | assumption)
       have q164 : x6_1 < (l0_0.length : Int) := of_decide_eq_true (by first | (with_reducible assumption) | assumption)
       obtain ⟨ad164, e164, hx164_0, hx164_1, hx164_2⟩ := at_T45 HR0_0.out x6_1 p164 q164
       have hw164_2 := hx164_2; have hw164_1 := hx164_1; have hw164_0 := hx164_0
       obtain rfl : ad163 = ad164 := (by injection e164)
       replace hx164_0 := (HB.out.cell (World.block_lt_of_cell? w _ hx164_0)).trans hx164_0
       replace hx164_1 := (HB.out.cell (World.block_lt_of_cell? w _ hx164_1)).trans hx164_1
       replace hx164_2 := (HB.out.cell (World.block_lt_of_cell? w _ hx164_2)).trans hx164_2
       replace p164 := eq_true p164
       replace q164 := eq_true q164
       refine start_ (n := 11) (S := fun w' => w'.cell? ⟨gb162, 0, none⟩ = some (u163000) ∧ w'.cell? ⟨gb159, 0, none⟩ = some (.slice (some ad163) l0_0.length c0_0) ∧ w'.cell? (ad163.add ((x6_1).toNat * 3)) = some (.string ((rd_T45 l0_0 x6_1).f0)) ∧ w'.cell? ⟨(ad163.add ((x6_1).toNat * 3)).block, (ad163.add ((x6_1).toNat * 3)).off + 1, none⟩ = some (.string ((rd_T45 l0_0 x6_1).f1)) ∧ w'.cell? ⟨(ad163.add ((x6_1).toNat * 3)).block, (ad163.add ((x6_1).toNat * 3)).off + 2, none⟩ = some (.int .i64 ((rd_T45 l0_0 x6_1).f2))) (ds := [10]) #[false, false, false, false, false, false, false, false, false, false, false] (by kernel_rfl) rfl rfl ⟨(blk_cell BK162.out 0).trans rfl, (blk_cell BK159.out 0).trans rfl, ((HB.out.cell (World.block_lt_of_cell? w _ hw164_0)).trans hw164_0), ((HB.out.cell (World.block_lt_of_cell? w _ hw164_1)).trans hw164_1), ((HB.out.cell (World.block_lt_of_cell? w _ hw164_2)).trans hw164_2)⟩ (fun hHeld => ?_); refine with_tabW spec_l03Put.tab6 spec_l03Put.bits6 (fun HT_ HW_ => ?_)
       generalize w19.drew = w20 at HO_163000 BK159 BK160 BK161 BK162 HB hx164_0 hx164_1 hx164_2 hHeld ⊢
       refine pX 0 25 (bB 11 1) (any_of HT_.out (by kernel_rfl)) ?_
       refine pX 2 27 (bB 11 5) (any_of HT_.out (by kernel_rfl)) ?_
       refine pX 4 29 (bB 11 21) (any_of HT_.out (by kernel_rfl)) ?_
       refine take_ (i := 1) (N := some 26) (v := ?_) (a' := ?_) (bB 11 23) rfl rfl (take_ofW HT_.out HW_.out (by kernel_rfl)) (fun _ _ _ h => h) (Or.inl ⟨by rfl, ?_⟩) hHeld ?_ ?_
       rotate_left
       ·rintro w' ⟨s0, s1, s2, s3, s4⟩
        go_simp
        with_reducible rfl
       rotate_left
       ·simp only [aP, aQ, sT, sZ, sU, i64_w, i32_w]
        rfl
       refine take_ (i := 3) (N := some 28) (v := ?_) (a' := ?_) (bB 11 31) rfl rfl (take_ofW HT_.out HW_.out (by kernel_rfl)) (fun _ _ _ h => h) (Or.inl ⟨by rfl, ?_⟩) hHeld ?_ ?_
       rotate_left
       ·rintro w' ⟨s0, s1, s2, s3, s4⟩
        go_simp
        with_reducible rfl
       rotate_left
       ·simp only [aP, aQ, sT, sZ, sU, i64_w, i32_w]
        rfl
       refine pX 5 30 (bB 11 63) (any_of HT_.out (by kernel_rfl)) ?_
       refine take_ (i := 6) (N := some 31) (v := ?_) (a' := ?_) (bB 11 127) rfl rfl (take_ofW HT_.out HW_.out (by kernel_rfl)) (fun _ _ _ h => h) (Or.inl ⟨by rfl, ?_⟩) hHeld ?_ ?_
       rotate_left
       ·rintro w' ⟨s0, s1, s2, s3, s4⟩
        go_simp
        with_reducible rfl
       rotate_left
       ·simp only [aP, aQ, sT, sZ, sU, i64_w, i32_w]
        rfl
       refine one_ (i := 7) (N := some 32) (bB 11 255) rfl rfl (one_of HT_.out (by kernel_rfl)) (by decide) (fun K hK => ?_)
       refine value_ (w1 := ?_) (v := ?_) (by rfl) rfl ?_ ?_
       rotate_left 2
       ·go_simp
        constructor
        ·rfl
        ·rfl
       refine hK.out _ _ ⟨(blk_cell (blk_alloc BK162.out _) 0).trans rfl, (blk_cell (blk_alloc BK159.out _) 0).trans rfl, (World.cell?_alloc_lt _ _ _ (World.block_lt_of_cell? _ _ (((HB.out.cell (World.block_lt_of_cell? w _ hw164_0)).trans hw164_0)))).trans (((HB.out.cell (World.block_lt_of_cell? w _ hw164_0)).trans hw164_0)), (World.cell?_alloc_lt _ _ _ (World.block_lt_of_cell? _ _ (((HB.out.cell (World.block_lt_of_cell? w _ hw164_1)).trans hw164_1)))).trans (((HB.out.cell (World.block_lt_of_cell? w _ hw164_1)).trans hw164_1)), (World.cell?_alloc_lt _ _ _ (World.block_lt_of_cell? _ _ (((HB.out.cell (World.block_lt_of_cell? w _ hw164_2)).trans hw164_2)))).trans (((HB.out.cell (World.block_lt_of_cell? w _ hw164_2)).trans hw164_2))⟩ (fun hHeld => ?_)
       clear hK K
       refine norm_ (a' := ?_) ?_ ?_
       rotate_left
       ·show Act.put _ (some 32) _ = _
        simp only [aP, aQ, sT, sZ, sU, i64_w, i32_w]
        rfl
       refine one_ (i := 8) (N := some 33) (bB 11 511) rfl rfl (one_of HT_.out (by kernel_rfl)) (by decide) (fun K hK => ?_)
       refine Kd.R_append_step k45 (w0 := w) w.heap.size (by rfl) (.tmp 26) (.tmp 32) 28 45 (.agg #[(.string ⟨#[]⟩), (.string ⟨#[]⟩), (.int .i64 0)]) 40 rfl Try.underlying28 info45 rfl (by decide) (by omega) u163000 x163000_1 (⟨(rd_T45 l0_0 x6_1).f0, (rd_T45 l0_0 x6_1).f1, (rd_T45 l0_0 x6_1).f2⟩ : S45) [.string ((rd_T45 l0_0 x6_1).f0), .string ((rd_T45 l0_0 x6_1).f1), .int .i64 ((rd_T45 l0_0 x6_1).f2)] (fun k_ => k_ ≠ gb160) (fun _ => False) rfl rfl ?aP (fun _ hk => hk.elim) ?aF ?aO ?aB ?aS ?aL ?_
       (case aP => exact k45_mkM _ _ _ (⟨(rd_T45 l0_0 x6_1).f0, (rd_T45 l0_0 x6_1).f1, (rd_T45 l0_0 x6_1).f2⟩ : S45))
       (case aB => exact (uL HB))
       (case aF => exact (fun k_ hk => Kd.freshB (g := gb160) (o := .cells #[.string a1_0, .string a1_1, .int .i64 a1_2] 45 (0, 0)) (uB BK160) k_ hk))
       (case aO => exact (uR HO_163000))
       (case aS => exact (below_size (uL HB)))
       (case aL => have := LMc14.out; omega)
       intro v166 w21 ho hb hg hat
       rw [← Ny165.out] at ho
       have n0_ := aM (blk_grown (g := gb159) (o := .cells #[.slice (some ad163) l0_0.length c0_0] 30 (0, 0)) (uB BK159) hg (Kd.R_ne HO_163000.out BK159.out (by decide)))
       have n1_ := aM (blk_grown (g := gb160) (o := .cells #[.string a1_0, .string a1_1, .int .i64 a1_2] 45 (0, 0)) (uB BK160) hg (Kd.R_away HO_163000.out (fun _ hk => hk)))
       have n2_ := aM (blk_grown (g := gb161) (o := .cells #[.slice none 0 0] 30 (0, 0)) (uB BK161) hg (Kd.R_ne HO_163000.out BK161.out (by decide)))
       have n3_ := aM (blk_grown (g := gb162) (o := .cells #[u163000] 30 (0, 0)) (uB BK162) hg (Kd.R_ne HO_163000.out BK162.out (by decide)))
       have n4_ := aM (hb)
       have n5_ := aM (ho)
       clear BK159 BK160 BK161 BK162 HB HO_163000; have BK159 := n0_; have BK160 := n1_; have BK161 := n2_; have BK162 := n3_; have HB := n4_; have HO167 := n5_; clear n0_ n1_ n2_ n3_ n4_ n5_ ho hb hg hat
       obtain ⟨Ao22, co22, eo22⟩ := Kd.R_slice HO167.out
       (first | subst eo22 | (injection eo22 with f1_ f2_ f3_; have f4_ := f1_.symm; have f5_ := f3_.symm; clear f1_ f2_ f3_; subst f4_; subst f5_))
       refine hK.out _ _ ⟨(blk_cell BK162.out 0).trans rfl, (blk_cell BK159.out 0).trans rfl, ((HB.out.cell (World.block_lt_of_cell? w _ hw164_0)).trans hw164_0), ((HB.out.cell (World.block_lt_of_cell? w _ hw164_1)).trans hw164_1), ((HB.out.cell (World.block_lt_of_cell? w _ hw164_2)).trans hw164_2)⟩ (fun hHeld => ?_)
       clear hK K
       refine norm_ (a' := ?_) ?_ ?_
       rotate_left
       ·show Act.put _ (some 33) _ = _
        simp only [aP, aQ, sT, sZ, sU, i64_w, i32_w]
        rfl
       refine pX 9 34 (bB 11 1023) (any_of HT_.out (by kernel_rfl)) ?_
       refine last_ (i := 10) (N := none) (bB 11 2047) rfl rfl (one_of HT_.out (by kernel_rfl)) (by decide) (fun K hK => ?_)
       have hs23 : w21.cell? ⟨gb162, 0, none⟩ = some (u163000) := (blk_cell BK162.out 0).trans rfl
       have hfs23 := blk_frozen BK162.out 0
       have hns23_0 := NB159_162.out
       have hns23_1 := NB160_162.out
       have hns23_2 := NB161_162.out
       have hms23_0 := NB162_159.out
       have hms23_1 := NB162_160.out
       have hms23_2 := NB162_161.out
       refine skip_ (w1 := ?_) (by rfl) rfl ?_ ?_
       rotate_left
       ·go_simp
        rfl
       refine hK.out _ _ ?_
       clear hK K
       refine done_ (done_of HT_.out (by kernel_rfl)) ?_
       try go_wp2
       go_roundg k1
       case measure => have := HK1.out; omega
       case rel => exact ⟨(wrap64 (x6_1 + 1)), (y165), (.slice Ao22 y165.length co22), (by first | rfl | (simp; done) | (simp [*]; done)), H', ⟨by have := HK1.out; omega⟩, ⟨by (with_reducible repeat first | apply rA | apply rN | apply rD); exact Kd.R_mono (Kd.R_far (p := ⟨gb162, 0, none⟩) (Kd.R_types HO167.out BK162.out (by decide)) (fun _ hk => hk.2) (.slice Ao22 y165.length co22)) (fun _ hk => hk.1)⟩, ⟨by (with_reducible repeat first | apply bN | apply bD | apply bA); refine blk_far ?_ NB159_162.out _; (with_reducible repeat first | apply bN | apply bD | apply bA); exact BK159.out⟩, ⟨by (with_reducible repeat first | apply bN | apply bD | apply bA); refine blk_far ?_ NB160_162.out _; (with_reducible repeat first | apply bN | apply bD | apply bA); exact BK160.out⟩, ⟨by (with_reducible repeat first | apply bN | apply bD | apply bA); refine blk_far ?_ NB161_162.out _; (with_reducible repeat first | apply bN | apply bD | apply bA); exact BK161.out⟩, ⟨by (with_reducible repeat first | apply bN | apply bD | apply bA); refine blk_put (cs := #[u163000]) ?_ 0 _ rfl; (with_reducible repeat first | apply bN | apply bD | apply bA); exact BK162.out⟩, ⟨uL HB⟩⟩
      ·rw [if_neg c14] at H
       exact absurd H (by simp)
     ·rw [if_neg c13] at H
      have c13b0 : (Op.bytesLess (((rd_T45 l0_0 x6_1).f0).toList) a1_0.toList) = false := by simpa using c13
      clear c13
      have H' := aM H
      clear H
      have hnb24 := NB159_160.out
      have hnc24 := NB160_159.out
      have hnb25 := NB159_161.out
      have hnc25 := NB161_159.out
      have hnb26 := NB159_162.out
      have hnc26 := NB162_159.out
      have hcz27_0 : wr.cell? ⟨gb159, 0, none⟩ = some (.slice A0_0 l0_0.length c0_0) := (blk_cell BK159.out 0).trans rfl
      have hfz27_0 := blk_frozen BK159.out 0
      try go_wp2
      have n0_ := aM (Kd.R_drew HO_163000.out)
      have n1_ := aM (blk_drew BK159.out)
      have n2_ := aM (blk_drew BK160.out)
      have n3_ := aM (blk_drew BK161.out)
      have n4_ := aM (blk_drew BK162.out)
      have n5_ := aM (below_drew1 HB.out)
      clear HO_163000 BK159 BK160 BK161 BK162 HB; have HO_163000 := n0_; have BK159 := n1_; have BK160 := n2_; have BK161 := n3_; have BK162 := n4_; have HB := n5_; clear n0_ n1_ n2_ n3_ n4_ n5_
      have p163 : 0 ≤ (x6_1 : Int) := of_decide_eq_true (by first | (with_reducible assumption) | assumption)
      have q163 : x6_1 < (l0_0.length : Int) := of_decide_eq_true (by first | (with_reducible assumption) | assumption)
      obtain ⟨ad163, e163, hx163_0, hx163_1, hx163_2⟩ := at_T45 HR0_0.out x6_1 p163 q163
      have hw163_2 := hx163_2; have hw163_1 := hx163_1; have hw163_0 := hx163_0
      cases e163
      replace hx163_0 := (HB.out.cell (World.block_lt_of_cell? w _ hx163_0)).trans hx163_0
      replace hx163_1 := (HB.out.cell (World.block_lt_of_cell? w _ hx163_1)).trans hx163_1
      replace hx163_2 := (HB.out.cell (World.block_lt_of_cell? w _ hx163_2)).trans hx163_2
      replace p163 := eq_true p163
      replace q163 := eq_true q163
      refine start_ (n := 9) (S := fun w' => w'.cell? ⟨gb159, 0, none⟩ = some (.slice (some ad163) l0_0.length c0_0) ∧ w'.cell? ⟨gb160, 0, none⟩ = some (.string a1_0) ∧ w'.cell? ⟨gb160, 1, none⟩ = some (.string a1_1) ∧ w'.cell? ⟨gb160, 2, none⟩ = some (.int .i64 a1_2) ∧ w'.cell? (ad163.add ((x6_1).toNat * 3)) = some (.string ((rd_T45 l0_0 x6_1).f0)) ∧ w'.cell? ⟨(ad163.add ((x6_1).toNat * 3)).block, (ad163.add ((x6_1).toNat * 3)).off + 1, none⟩ = some (.string ((rd_T45 l0_0 x6_1).f1)) ∧ w'.cell? ⟨(ad163.add ((x6_1).toNat * 3)).block, (ad163.add ((x6_1).toNat * 3)).off + 2, none⟩ = some (.int .i64 ((rd_T45 l0_0 x6_1).f2))) (ds := []) #[false, false, false, false, false, false, false, false, false] (by kernel_rfl) rfl rfl ⟨(blk_cell BK159.out 0).trans rfl, (blk_cell BK160.out 0).trans rfl, (blk_cell BK160.out 1).trans rfl, (blk_cell BK160.out 2).trans rfl, ((HB.out.cell (World.block_lt_of_cell? w _ hw163_0)).trans hw163_0), ((HB.out.cell (World.block_lt_of_cell? w _ hw163_1)).trans hw163_1), ((HB.out.cell (World.block_lt_of_cell? w _ hw163_2)).trans hw163_2)⟩ (fun hHeld => ?_); refine with_tabW spec_l03Put.tab5 spec_l03Put.bits5 (fun HT_ HW_ => ?_)
      generalize wr.drew = w28 at HO_163000 BK159 BK160 BK161 BK162 HB hx163_0 hx163_1 hx163_2 hHeld ⊢
      refine pX 0 16 (bB 9 1) (any_of HT_.out (by kernel_rfl)) ?_
      refine pX 2 18 (bB 9 5) (any_of HT_.out (by kernel_rfl)) ?_
      refine pX 6 22 (bB 9 69) (any_of HT_.out (by kernel_rfl)) ?_
      refine take_ (i := 1) (N := some 17) (v := ?_) (a' := ?_) (bB 9 71) rfl rfl (take_ofW HT_.out HW_.out (by kernel_rfl)) (fun _ _ _ h => h) (Or.inl ⟨by rfl, ?_⟩) hHeld ?_ ?_
      rotate_left
      ·rintro w' ⟨s0, s1, s2, s3, s4, s5, s6⟩
       go_simp
       with_reducible rfl
      rotate_left
      ·simp only [aP, aQ, sT, sZ, sU, i64_w, i32_w]
       rfl
      refine pX 3 19 (bB 9 79) (any_of HT_.out (by kernel_rfl)) ?_
      refine pX 4 20 (bB 9 95) (any_of HT_.out (by kernel_rfl)) ?_
      refine take_ (i := 5) (N := some 21) (v := ?_) (a' := ?_) (bB 9 127) rfl rfl (take_ofW HT_.out HW_.out (by kernel_rfl)) (fun _ _ _ h => h) (Or.inl ⟨by rfl, ?_⟩) hHeld ?_ ?_
      rotate_left
      ·rintro w' ⟨s0, s1, s2, s3, s4, s5, s6⟩
       go_simp
       with_reducible rfl
      rotate_left
      ·simp only [aP, aQ, sT, sZ, sU, i64_w, i32_w]
       rfl
      refine take_ (i := 7) (N := some 23) (v := ?_) (a' := ?_) (bB 9 255) rfl rfl (take_ofW HT_.out HW_.out (by kernel_rfl)) (fun _ _ _ h => h) (Or.inl ⟨by rfl, ?_⟩) hHeld ?_ ?_
      rotate_left
      ·rintro w' ⟨s0, s1, s2, s3, s4, s5, s6⟩
       go_simp
       with_reducible rfl
      rotate_left
      ·simp only [aP, aQ, sT, sZ, sU, i64_w, i32_w]
       rfl
      refine pX 8 24 (bB 9 511) (any_of HT_.out (by kernel_rfl)) ?_
      refine done_ (done_of HT_.out (by kernel_rfl)) ?_
      try go_wp2
      go_roundg k1
      case measure => have := HK1.out; omega
      case rel => exact ⟨(wrap64 (x6_1 + 1)), (x163000_1), (u163000), (by first | rfl | (simp; done) | (simp [*]; done)), H', ⟨by have := HK1.out; omega⟩, ⟨by (with_reducible repeat first | apply rA | apply rN | apply rD); exact HO_163000.out⟩, ⟨by (with_reducible repeat first | apply bN | apply bD | apply bA); exact BK159.out⟩, ⟨by (with_reducible repeat first | apply bN | apply bD | apply bA); exact BK160.out⟩, ⟨by (with_reducible repeat first | apply bN | apply bD | apply bA); exact BK161.out⟩, ⟨by (with_reducible repeat first | apply bN | apply bD | apply bA); exact BK162.out⟩, ⟨uL HB⟩⟩
    ·rw [if_neg c12] at H
     exact absurd H (by simp)
   ·rw [if_neg c11] at H
    have c11b0 : decide (x6_1 < (l0_0.length : Int)) = false := decide_eq_false c11
    clear c11
    by_cases c29 : x163000_1.length < 3518437208883
    ·rw [if_pos c29] at H
     have LMc29 := aM c29
     clear c29
     obtain ⟨y168, hy168⟩ : ∃ y_ : List (S45), y_ = (x163000_1 ++ [(⟨a1_0, a1_1, a1_2⟩ : S45)]) := ⟨_, rfl⟩
     replace H : (spec_l03Put.l1 k1 0 l0_0 a1_0 a1_1 a1_2 y168) = some r := by first | (rw [hy168]; with_reducible exact H) | (have H2_ := (Option.bind_some _ _).symm.trans H; rw [hy168]; with_reducible exact H2_) | (have H2_ := (Option.bind_some _ _).symm.trans H; with_reducible exact H2_) | with_reducible exact H | (rw [hy168]; exact H) | exact H
     have Ny168 := aM hy168
     clear hy168
     have H' := aM H
     clear H
     have hnb30 := NB159_160.out
     have hnc30 := NB160_159.out
     have hnb31 := NB159_161.out
     have hnc31 := NB161_159.out
     have hnb32 := NB159_162.out
     have hnc32 := NB162_159.out
     have hcz33_0 : wr.cell? ⟨gb159, 0, none⟩ = some (.slice A0_0 l0_0.length c0_0) := (blk_cell BK159.out 0).trans rfl
     have hfz33_0 := blk_frozen BK159.out 0
     have hnb34 := NB162_160.out
     have hnc34 := NB160_162.out
     have hnb35 := NB162_161.out
     have hnc35 := NB161_162.out
     have hcz36_0 : wr.cell? ⟨gb162, 0, none⟩ = some (u163000) := (blk_cell BK162.out 0).trans rfl
     have hfz36_0 := blk_frozen BK162.out 0
     have hnb37 := NB160_161.out
     have hnc37 := NB161_160.out
     have hcz38_0 : wr.cell? ⟨gb160, 0, none⟩ = some (.string a1_0) := (blk_cell BK160.out 0).trans rfl
     have hcz38_1 : wr.cell? ⟨gb160, 1, none⟩ = some (.string a1_1) := (blk_cell BK160.out 1).trans rfl
     have hcz38_2 : wr.cell? ⟨gb160, 2, none⟩ = some (.int .i64 a1_2) := (blk_cell BK160.out 2).trans rfl
     have hfz38_0 := blk_frozen BK160.out 0
     have hfz38_1 := blk_frozen BK160.out 1
     have hfz38_2 := blk_frozen BK160.out 2
     go_wp2_with (first | ((with_reducible refine gate_builtin (b := .append) (xs := #[.tmp 36, .tmp 38]) rfl ?_); at_builtin; refine Kd.R_append k45 (w0 := w) w.heap.size rfl (.tmp 36) (.tmp 38) 28 45 (.agg #[(.string ⟨#[]⟩), (.string ⟨#[]⟩), (.int .i64 0)]) 40 rfl Try.underlying28 info45 rfl (by decide) (by omega) u163000 x163000_1 (⟨a1_0, a1_1, a1_2⟩ : S45) [.string a1_0, .string a1_1, .int .i64 a1_2] (fun k_ => k_ ≠ gb160) (fun _ => False) rfl rfl ?aP (fun _ hk => hk.elim) ?aF ?aO ?aB ?aS ?aL ?_; (case aP => exact k45_mkM _ _ _ (⟨a1_0, a1_1, a1_2⟩ : S45)); (case aB => exact (uL HB)); (case aF => exact (fun k_ hk => Kd.freshB (g := gb160) (o := .cells #[.string a1_0, .string a1_1, .int .i64 a1_2] 45 (0, 0)) (uB BK160) k_ hk)); (case aO => exact (uR HO_163000)); (case aS => exact (below_size (uL HB))); (case aL => have := LMc29.out; omega); intro v169 w39 ho hb hg hat; rw [← Ny168.out] at ho; have n0_ := aM (blk_grown (g := gb159) (o := .cells #[.slice A0_0 l0_0.length c0_0] 30 (0, 0)) (uB BK159) hg (Kd.R_ne HO_163000.out BK159.out (by decide))); have n1_ := aM (blk_grown (g := gb160) (o := .cells #[.string a1_0, .string a1_1, .int .i64 a1_2] 45 (0, 0)) (uB BK160) hg (Kd.R_away HO_163000.out (fun _ hk => hk))); have n2_ := aM (blk_grown (g := gb161) (o := .cells #[.slice none 0 0] 30 (0, 0)) (uB BK161) hg (Kd.R_ne HO_163000.out BK161.out (by decide))); have n3_ := aM (blk_grown (g := gb162) (o := .cells #[u163000] 30 (0, 0)) (uB BK162) hg (Kd.R_ne HO_163000.out BK162.out (by decide))); have n4_ := aM (hb); have n5_ := aM (ho); clear BK159; clear BK160; clear BK161; clear BK162; clear HB; clear HO_163000; have BK159 := n0_; have BK160 := n1_; have BK161 := n2_; have BK162 := n3_; have HB := n4_; have HO170 := n5_; clear n0_ n1_ n2_ n3_ n4_ n5_; clear ho hb hg hat; obtain ⟨Ao40, co40, eo40⟩ := Kd.R_slice HO170.out; subst eo40; have hcz41_0 : w39.cell? ⟨gb162, 0, none⟩ = some (u163000) := (blk_cell BK162.out 0).trans rfl; have hfz41_0 := blk_frozen BK162.out 0))
     go_loopg [7] k1 (fun kq v7 w' => ∃ (x7_2 : Int) (x163000_2 : List (S45)) (u163000 : Value), v7 = .int .i64 x7_2 ∧ Aside0 (spec_l03Put.l1 kq x7_2 l0_0 a1_0 a1_1 a1_2 x163000_2 = some r) ∧ Aside0 (kq ≤ k1) ∧ Aside0 (Kd.R k45 45 w' w.heap.size (fun k_ => k_ ≠ gb160) u163000 x163000_2) ∧ Aside0 (w'.heap[gb159]? = some (.cells #[(.slice A0_0 l0_0.length c0_0)] 30 (0, 0))) ∧ Aside0 (w'.heap[gb160]? = some (.cells #[.string a1_0, .string a1_1, .int .i64 a1_2] 45 (0, 0))) ∧ Aside0 (w'.heap[gb161]? = some (.cells #[(.slice none 0 0)] 30 (0, 0))) ∧ Aside0 (w'.heap[gb162]? = some (.cells #[u163000] 30 (0, 0))) ∧ Aside0 (Below w.heap.size w w'))
     case atStart => exact ⟨(0), (y168), (.slice Ao40 y168.length co40), (by first | rfl | (simp; done) | (simp [*]; done)), H', ⟨Nat.le_refl _⟩, ⟨by (with_reducible repeat first | apply rA | apply rN | apply rD); exact Kd.R_mono (Kd.R_far (p := ⟨gb162, 0, none⟩) (Kd.R_types HO170.out BK162.out (by decide)) (fun _ hk => hk.2) (.slice Ao40 y168.length co40)) (fun _ hk => hk.1)⟩, ⟨by (with_reducible repeat first | apply bN | apply bD | apply bA); refine blk_far ?_ NB159_162.out _; (with_reducible repeat first | apply bN | apply bD | apply bA); exact BK159.out⟩, ⟨by (with_reducible repeat first | apply bN | apply bD | apply bA); refine blk_far ?_ NB160_162.out _; (with_reducible repeat first | apply bN | apply bD | apply bA); exact BK160.out⟩, ⟨by (with_reducible repeat first | apply bN | apply bD | apply bA); refine blk_far ?_ NB161_162.out _; (with_reducible repeat first | apply bN | apply bD | apply bA); exact BK161.out⟩, ⟨by (with_reducible repeat first | apply bN | apply bD | apply bA); refine blk_put (cs := #[u163000]) ?_ 0 _ rfl; (with_reducible repeat first | apply bN | apply bD | apply bA); exact BK162.out⟩, ⟨uL HB⟩⟩
     case round =>
      clear H'
      try clear c1
      try clear p1
      try clear q1
      try clear hx1
      try clear c2
      try clear p2
      try clear c3
      try clear p6
      try clear c7
      try clear c8
      try clear c9
      try clear c11
      try clear c11b0
      try clear c12
      try clear c12b0
      try clear c13
      try clear c13b0
      try clear c14
      try clear c15
      try clear c16
      try clear p16
      try clear q16
      try clear hx16
      try clear c17
      try clear c24
      try clear c25
      try clear c26
      try clear c29
      try clear c30
      try clear c31
      try clear c32
      try clear c34
      try clear c35
      try clear c37
      try clear hcz10_0
      try clear hcz18_0
      try clear hcz27_0
      try clear hcz33_0
      try clear hcz36_0
      try clear hcz38_0
      try clear hcz38_1
      try clear hcz38_2
      try clear hcz41_0
      try clear hfz10_0
      try clear hfz18_0
      try clear hfz27_0
      try clear hfz33_0
      try clear hfz36_0
      try clear hfz38_0
      try clear hfz38_1
      try clear hfz38_2
      try clear hfz41_0
      try clear hx163_0
      try clear hx163_1
      try clear hx163_2
      try clear hx164_0
      try clear hx164_1
      try clear hx164_2
      try clear p163
      try clear p164
      try clear p2
      try clear q163
      try clear q164
      obtain ⟨x7_2, x163000_2, u163000, rfl, HA, HK2, HO_163000, BK159, BK160, BK161, BK162, HB⟩ := hrel
      cases gk with
      | zero => exact absurd HA.out (by simp [spec_l03Put.l1])
      | succ k2 =>
       have H := HA.out
       clear HA
       simp only [spec_l03Put.l1] at H
       by_cases c42 : x7_2 < (l0_0.length : Int)
       ·rw [if_pos c42] at H
        have c42b0 : decide (x7_2 < (l0_0.length : Int)) = true := decide_eq_true c42
        clear c42
        by_cases c43 : 0 ≤ x7_2
        ·rw [if_pos c43] at H
         have c43b0 : decide (0 ≤ x7_2) = true := decide_eq_true c43
         clear c43
         by_cases c44 : (Op.bytesLess a1_0.toList (((rd_T45 l0_0 x7_2).f0).toList)) = true
         ·rw [if_pos c44] at H
          have c44b0 : (Op.bytesLess a1_0.toList (((rd_T45 l0_0 x7_2).f0).toList)) = true := c44
          clear c44
          by_cases c45 : x163000_2.length < 3518437208883
          ·rw [if_pos c45] at H
           have LMc45 := aM c45
           clear c45
           obtain ⟨y173, hy173⟩ : ∃ y_ : List (S45), y_ = (x163000_2 ++ [(⟨(rd_T45 l0_0 x7_2).f0, (rd_T45 l0_0 x7_2).f1, (rd_T45 l0_0 x7_2).f2⟩ : S45)]) := ⟨_, rfl⟩
           replace H : (spec_l03Put.l1 k2 (wrap64 (x7_2 + 1)) l0_0 a1_0 a1_1 a1_2 y173) = some r := by first | (rw [hy173]; with_reducible exact H) | (have H2_ := (Option.bind_some _ _).symm.trans H; rw [hy173]; with_reducible exact H2_) | (have H2_ := (Option.bind_some _ _).symm.trans H; with_reducible exact H2_) | with_reducible exact H | (rw [hy173]; exact H) | exact H
           have Ny173 := aM hy173
           clear hy173
           have H' := aM H
           clear H
           have hnb46 := NB159_160.out
           have hnc46 := NB160_159.out
           have hnb47 := NB159_161.out
           have hnc47 := NB161_159.out
           have hnb48 := NB159_162.out
           have hnc48 := NB162_159.out
           have hcz49_0 : wr.cell? ⟨gb159, 0, none⟩ = some (.slice A0_0 l0_0.length c0_0) := (blk_cell BK159.out 0).trans rfl
           have hfz49_0 := blk_frozen BK159.out 0
           try go_wp2
           have n0_ := aM (Kd.R_drew HO_163000.out)
           have n1_ := aM (blk_drew BK159.out)
           have n2_ := aM (blk_drew BK160.out)
           have n3_ := aM (blk_drew BK161.out)
           have n4_ := aM (blk_drew BK162.out)
           have n5_ := aM (below_drew1 HB.out)
           clear HO_163000 BK159 BK160 BK161 BK162 HB; have HO_163000 := n0_; have BK159 := n1_; have BK160 := n2_; have BK161 := n3_; have BK162 := n4_; have HB := n5_; clear n0_ n1_ n2_ n3_ n4_ n5_
           have p171 : 0 ≤ (x7_2 : Int) := of_decide_eq_true (by first | (with_reducible assumption) | assumption)
           have q171 : x7_2 < (l0_0.length : Int) := of_decide_eq_true (by first | (with_reducible assumption) | assumption)
           obtain ⟨ad171, e171, hx171_0, hx171_1, hx171_2⟩ := at_T45 HR0_0.out x7_2 p171 q171
           have hw171_2 := hx171_2; have hw171_1 := hx171_1; have hw171_0 := hx171_0
           cases e171
           replace hx171_0 := (HB.out.cell (World.block_lt_of_cell? w _ hx171_0)).trans hx171_0
           replace hx171_1 := (HB.out.cell (World.block_lt_of_cell? w _ hx171_1)).trans hx171_1
           replace hx171_2 := (HB.out.cell (World.block_lt_of_cell? w _ hx171_2)).trans hx171_2
           replace p171 := eq_true p171
           replace q171 := eq_true q171
           refine start_ (n := 9) (S := fun w' => w'.cell? ⟨gb159, 0, none⟩ = some (.slice (some ad171) l0_0.length c0_0) ∧ w'.cell? ⟨gb160, 0, none⟩ = some (.string a1_0) ∧ w'.cell? ⟨gb160, 1, none⟩ = some (.string a1_1) ∧ w'.cell? ⟨gb160, 2, none⟩ = some (.int .i64 a1_2) ∧ w'.cell? (ad171.add ((x7_2).toNat * 3)) = some (.string ((rd_T45 l0_0 x7_2).f0)) ∧ w'.cell? ⟨(ad171.add ((x7_2).toNat * 3)).block, (ad171.add ((x7_2).toNat * 3)).off + 1, none⟩ = some (.string ((rd_T45 l0_0 x7_2).f1)) ∧ w'.cell? ⟨(ad171.add ((x7_2).toNat * 3)).block, (ad171.add ((x7_2).toNat * 3)).off + 2, none⟩ = some (.int .i64 ((rd_T45 l0_0 x7_2).f2))) (ds := []) #[false, false, false, false, false, false, false, false, false] (by kernel_rfl) rfl rfl ⟨(blk_cell BK159.out 0).trans rfl, (blk_cell BK160.out 0).trans rfl, (blk_cell BK160.out 1).trans rfl, (blk_cell BK160.out 2).trans rfl, ((HB.out.cell (World.block_lt_of_cell? w _ hw171_0)).trans hw171_0), ((HB.out.cell (World.block_lt_of_cell? w _ hw171_1)).trans hw171_1), ((HB.out.cell (World.block_lt_of_cell? w _ hw171_2)).trans hw171_2)⟩ (fun hHeld => ?_); refine with_tabW spec_l03Put.tab11 spec_l03Put.bits11 (fun HT_ HW_ => ?_)
           generalize wr.drew = w50 at HO_163000 BK159 BK160 BK161 BK162 HB hx171_0 hx171_1 hx171_2 hHeld ⊢
           refine pX 0 48 (bB 9 1) (any_of HT_.out (by kernel_rfl)) ?_
           refine pX 2 50 (bB 9 5) (any_of HT_.out (by kernel_rfl)) ?_
           refine pX 6 54 (bB 9 69) (any_of HT_.out (by kernel_rfl)) ?_
           refine take_ (i := 1) (N := some 49) (v := ?_) (a' := ?_) (bB 9 71) rfl rfl (take_ofW HT_.out HW_.out (by kernel_rfl)) (fun _ _ _ h => h) (Or.inl ⟨by rfl, ?_⟩) hHeld ?_ ?_
           rotate_left
           ·rintro w' ⟨s0, s1, s2, s3, s4, s5, s6⟩
            go_simp
            with_reducible rfl
           rotate_left
           ·simp only [aP, aQ, sT, sZ, sU, i64_w, i32_w]
            rfl
           refine pX 3 51 (bB 9 79) (any_of HT_.out (by kernel_rfl)) ?_
           refine pX 4 52 (bB 9 95) (any_of HT_.out (by kernel_rfl)) ?_
           refine take_ (i := 5) (N := some 53) (v := ?_) (a' := ?_) (bB 9 127) rfl rfl (take_ofW HT_.out HW_.out (by kernel_rfl)) (fun _ _ _ h => h) (Or.inl ⟨by rfl, ?_⟩) hHeld ?_ ?_
           rotate_left
           ·rintro w' ⟨s0, s1, s2, s3, s4, s5, s6⟩
            go_simp
            with_reducible rfl
           rotate_left
           ·simp only [aP, aQ, sT, sZ, sU, i64_w, i32_w]
            rfl
           refine take_ (i := 7) (N := some 55) (v := ?_) (a' := ?_) (bB 9 255) rfl rfl (take_ofW HT_.out HW_.out (by kernel_rfl)) (fun _ _ _ h => h) (Or.inl ⟨by rfl, ?_⟩) hHeld ?_ ?_
           rotate_left
           ·rintro w' ⟨s0, s1, s2, s3, s4, s5, s6⟩
            go_simp
            with_reducible rfl
           rotate_left
           ·simp only [aP, aQ, sT, sZ, sU, i64_w, i32_w]
            rfl
           refine pX 8 56 (bB 9 511) (any_of HT_.out (by kernel_rfl)) ?_
           refine done_ (done_of HT_.out (by kernel_rfl)) ?_
           try go_wp2
           have n0_ := aM (Kd.R_drew HO_163000.out)
           have n1_ := aM (blk_drew BK159.out)
           have n2_ := aM (blk_drew BK160.out)
           have n3_ := aM (blk_drew BK161.out)
           have n4_ := aM (blk_drew BK162.out)
           have n5_ := aM (below_drew1 HB.out)
           clear HO_163000 BK159 BK160 BK161 BK162 HB; have HO_163000 := n0_; have BK159 := n1_; have BK160 := n2_; have BK161 := n3_; have BK162 := n4_; have HB := n5_; clear n0_ n1_ n2_ n3_ n4_ n5_
           have p172 : 0 ≤ (x7_2 : Int) := of_decide_eq_true (by first | (with_reducible assumption) | assumption)
           have q172 : x7_2 < (l0_0.length : Int) := of_decide_eq_true (by first | (with_reducible assumption) | assumption)
           obtain ⟨ad172, e172, hx172_0, hx172_1, hx172_2⟩ := at_T45 HR0_0.out x7_2 p172 q172
           have hw172_2 := hx172_2; have hw172_1 := hx172_1; have hw172_0 := hx172_0
           obtain rfl : ad171 = ad172 := (by injection e172)
           replace hx172_0 := (HB.out.cell (World.block_lt_of_cell? w _ hx172_0)).trans hx172_0
           replace hx172_1 := (HB.out.cell (World.block_lt_of_cell? w _ hx172_1)).trans hx172_1
           replace hx172_2 := (HB.out.cell (World.block_lt_of_cell? w _ hx172_2)).trans hx172_2
           replace p172 := eq_true p172
           replace q172 := eq_true q172
           refine start_ (n := 11) (S := fun w' => w'.cell? ⟨gb162, 0, none⟩ = some (u163000) ∧ w'.cell? ⟨gb159, 0, none⟩ = some (.slice (some ad171) l0_0.length c0_0) ∧ w'.cell? (ad171.add ((x7_2).toNat * 3)) = some (.string ((rd_T45 l0_0 x7_2).f0)) ∧ w'.cell? ⟨(ad171.add ((x7_2).toNat * 3)).block, (ad171.add ((x7_2).toNat * 3)).off + 1, none⟩ = some (.string ((rd_T45 l0_0 x7_2).f1)) ∧ w'.cell? ⟨(ad171.add ((x7_2).toNat * 3)).block, (ad171.add ((x7_2).toNat * 3)).off + 2, none⟩ = some (.int .i64 ((rd_T45 l0_0 x7_2).f2))) (ds := [10]) #[false, false, false, false, false, false, false, false, false, false, false] (by kernel_rfl) rfl rfl ⟨(blk_cell BK162.out 0).trans rfl, (blk_cell BK159.out 0).trans rfl, ((HB.out.cell (World.block_lt_of_cell? w _ hw172_0)).trans hw172_0), ((HB.out.cell (World.block_lt_of_cell? w _ hw172_1)).trans hw172_1), ((HB.out.cell (World.block_lt_of_cell? w _ hw172_2)).trans hw172_2)⟩ (fun hHeld => ?_); refine with_tabW spec_l03Put.tab12 spec_l03Put.bits12 (fun HT_ HW_ => ?_)
           generalize w50.drew = w51 at HO_163000 BK159 BK160 BK161 BK162 HB hx172_0 hx172_1 hx172_2 hHeld ⊢
           refine pX 0 57 (bB 11 1) (any_of HT_.out (by kernel_rfl)) ?_
           refine pX 2 59 (bB 11 5) (any_of HT_.out (by kernel_rfl)) ?_
           refine pX 4 61 (bB 11 21) (any_of HT_.out (by kernel_rfl)) ?_
           refine take_ (i := 1) (N := some 58) (v := ?_) (a' := ?_) (bB 11 23) rfl rfl (take_ofW HT_.out HW_.out (by kernel_rfl)) (fun _ _ _ h => h) (Or.inl ⟨by rfl, ?_⟩) hHeld ?_ ?_
           rotate_left
           ·rintro w' ⟨s0, s1, s2, s3, s4⟩
            go_simp
            with_reducible rfl
           rotate_left
           ·simp only [aP, aQ, sT, sZ, sU, i64_w, i32_w]
            rfl
           refine take_ (i := 3) (N := some 60) (v := ?_) (a' := ?_) (bB 11 31) rfl rfl (take_ofW HT_.out HW_.out (by kernel_rfl)) (fun _ _ _ h => h) (Or.inl ⟨by rfl, ?_⟩) hHeld ?_ ?_
           rotate_left
           ·rintro w' ⟨s0, s1, s2, s3, s4⟩
            go_simp
            with_reducible rfl
           rotate_left
           ·simp only [aP, aQ, sT, sZ, sU, i64_w, i32_w]
            rfl
           refine pX 5 62 (bB 11 63) (any_of HT_.out (by kernel_rfl)) ?_
           refine take_ (i := 6) (N := some 63) (v := ?_) (a' := ?_) (bB 11 127) rfl rfl (take_ofW HT_.out HW_.out (by kernel_rfl)) (fun _ _ _ h => h) (Or.inl ⟨by rfl, ?_⟩) hHeld ?_ ?_
           rotate_left
           ·rintro w' ⟨s0, s1, s2, s3, s4⟩
            go_simp
            with_reducible rfl
           rotate_left
           ·simp only [aP, aQ, sT, sZ, sU, i64_w, i32_w]
            rfl
           refine one_ (i := 7) (N := some 64) (bB 11 255) rfl rfl (one_of HT_.out (by kernel_rfl)) (by decide) (fun K hK => ?_)
           refine value_ (w1 := ?_) (v := ?_) (by rfl) rfl ?_ ?_
           rotate_left 2
           ·go_simp
            constructor
            ·rfl
            ·rfl
           refine hK.out _ _ ⟨(blk_cell (blk_alloc BK162.out _) 0).trans rfl, (blk_cell (blk_alloc BK159.out _) 0).trans rfl, (World.cell?_alloc_lt _ _ _ (World.block_lt_of_cell? _ _ (((HB.out.cell (World.block_lt_of_cell? w _ hw172_0)).trans hw172_0)))).trans (((HB.out.cell (World.block_lt_of_cell? w _ hw172_0)).trans hw172_0)), (World.cell?_alloc_lt _ _ _ (World.block_lt_of_cell? _ _ (((HB.out.cell (World.block_lt_of_cell? w _ hw172_1)).trans hw172_1)))).trans (((HB.out.cell (World.block_lt_of_cell? w _ hw172_1)).trans hw172_1)), (World.cell?_alloc_lt _ _ _ (World.block_lt_of_cell? _ _ (((HB.out.cell (World.block_lt_of_cell? w _ hw172_2)).trans hw172_2)))).trans (((HB.out.cell (World.block_lt_of_cell? w _ hw172_2)).trans hw172_2))⟩ (fun hHeld => ?_)
           clear hK K
           refine norm_ (a' := ?_) ?_ ?_
           rotate_left
           ·show Act.put _ (some 64) _ = _
            simp only [aP, aQ, sT, sZ, sU, i64_w, i32_w]
            rfl
           refine one_ (i := 8) (N := some 65) (bB 11 511) rfl rfl (one_of HT_.out (by kernel_rfl)) (by decide) (fun K hK => ?_)
           refine Kd.R_append_step k45 (w0 := w) w.heap.size (by rfl) (.tmp 58) (.tmp 64) 28 45 (.agg #[(.string ⟨#[]⟩), (.string ⟨#[]⟩), (.int .i64 0)]) 40 rfl Try.underlying28 info45 rfl (by decide) (by omega) u163000 x163000_2 (⟨(rd_T45 l0_0 x7_2).f0, (rd_T45 l0_0 x7_2).f1, (rd_T45 l0_0 x7_2).f2⟩ : S45) [.string ((rd_T45 l0_0 x7_2).f0), .string ((rd_T45 l0_0 x7_2).f1), .int .i64 ((rd_T45 l0_0 x7_2).f2)] (fun k_ => k_ ≠ gb160) (fun _ => False) rfl rfl ?aP (fun _ hk => hk.elim) ?aF ?aO ?aB ?aS ?aL ?_
           (case aP => exact k45_mkM _ _ _ (⟨(rd_T45 l0_0 x7_2).f0, (rd_T45 l0_0 x7_2).f1, (rd_T45 l0_0 x7_2).f2⟩ : S45))
           (case aB => exact (uL HB))
           (case aF => exact (fun k_ hk => Kd.freshB (g := gb160) (o := .cells #[.string a1_0, .string a1_1, .int .i64 a1_2] 45 (0, 0)) (uB BK160) k_ hk))
           (case aO => exact (uR HO_163000))
           (case aS => exact (below_size (uL HB)))
           (case aL => have := LMc45.out; omega)
           intro v174 w52 ho hb hg hat
           rw [← Ny173.out] at ho
           have n0_ := aM (blk_grown (g := gb159) (o := .cells #[.slice (some ad171) l0_0.length c0_0] 30 (0, 0)) (uB BK159) hg (Kd.R_ne HO_163000.out BK159.out (by decide)))
           have n1_ := aM (blk_grown (g := gb160) (o := .cells #[.string a1_0, .string a1_1, .int .i64 a1_2] 45 (0, 0)) (uB BK160) hg (Kd.R_away HO_163000.out (fun _ hk => hk)))
           have n2_ := aM (blk_grown (g := gb161) (o := .cells #[.slice none 0 0] 30 (0, 0)) (uB BK161) hg (Kd.R_ne HO_163000.out BK161.out (by decide)))
           have n3_ := aM (blk_grown (g := gb162) (o := .cells #[u163000] 30 (0, 0)) (uB BK162) hg (Kd.R_ne HO_163000.out BK162.out (by decide)))
           have n4_ := aM (hb)
           have n5_ := aM (ho)
           clear BK159 BK160 BK161 BK162 HB HO_163000; have BK159 := n0_; have BK160 := n1_; have BK161 := n2_; have BK162 := n3_; have HB := n4_; have HO175 := n5_; clear n0_ n1_ n2_ n3_ n4_ n5_ ho hb hg hat
           obtain ⟨Ao53, co53, eo53⟩ := Kd.R_slice HO175.out
           (first | subst eo53 | (injection eo53 with f1_ f2_ f3_; have f4_ := f1_.symm; have f5_ := f3_.symm; clear f1_ f2_ f3_; subst f4_; subst f5_))
           refine hK.out _ _ ⟨(blk_cell BK162.out 0).trans rfl, (blk_cell BK159.out 0).trans rfl, ((HB.out.cell (World.block_lt_of_cell? w _ hw172_0)).trans hw172_0), ((HB.out.cell (World.block_lt_of_cell? w _ hw172_1)).trans hw172_1), ((HB.out.cell (World.block_lt_of_cell? w _ hw172_2)).trans hw172_2)⟩ (fun hHeld => ?_)
           clear hK K
           refine norm_ (a' := ?_) ?_ ?_
           rotate_left
           ·show Act.put _ (some 65) _ = _
            simp only [aP, aQ, sT, sZ, sU, i64_w, i32_w]
            rfl
           refine pX 9 66 (bB 11 1023) (any_of HT_.out (by kernel_rfl)) ?_
           refine last_ (i := 10) (N := none) (bB 11 2047) rfl rfl (one_of HT_.out (by kernel_rfl)) (by decide) (fun K hK => ?_)
           have hs54 : w52.cell? ⟨gb162, 0, none⟩ = some (u163000) := (blk_cell BK162.out 0).trans rfl
           have hfs54 := blk_frozen BK162.out 0
           have hns54_0 := NB159_162.out
           have hns54_1 := NB160_162.out
           have hns54_2 := NB161_162.out
           have hms54_0 := NB162_159.out
           have hms54_1 := NB162_160.out
           have hms54_2 := NB162_161.out
           refine skip_ (w1 := ?_) (by rfl) rfl ?_ ?_
           rotate_left
           ·go_simp
            rfl
           refine hK.out _ _ ?_
           clear hK K
           refine done_ (done_of HT_.out (by kernel_rfl)) ?_
           try go_wp2
           go_roundg k2
           case measure => have := HK1.out; have := HK2.out; omega
           case rel => exact ⟨(wrap64 (x7_2 + 1)), (y173), (.slice Ao53 y173.length co53), (by first | rfl | (simp; done) | (simp [*]; done)), H', ⟨by have := HK1.out; have := HK2.out; omega⟩, ⟨by (with_reducible repeat first | apply rA | apply rN | apply rD); exact Kd.R_mono (Kd.R_far (p := ⟨gb162, 0, none⟩) (Kd.R_types HO175.out BK162.out (by decide)) (fun _ hk => hk.2) (.slice Ao53 y173.length co53)) (fun _ hk => hk.1)⟩, ⟨by (with_reducible repeat first | apply bN | apply bD | apply bA); refine blk_far ?_ NB159_162.out _; (with_reducible repeat first | apply bN | apply bD | apply bA); exact BK159.out⟩, ⟨by (with_reducible repeat first | apply bN | apply bD | apply bA); refine blk_far ?_ NB160_162.out _; (with_reducible repeat first | apply bN | apply bD | apply bA); exact BK160.out⟩, ⟨by (with_reducible repeat first | apply bN | apply bD | apply bA); refine blk_far ?_ NB161_162.out _; (with_reducible repeat first | apply bN | apply bD | apply bA); exact BK161.out⟩, ⟨by (with_reducible repeat first | apply bN | apply bD | apply bA); refine blk_put (cs := #[u163000]) ?_ 0 _ rfl; (with_reducible repeat first | apply bN | apply bD | apply bA); exact BK162.out⟩, ⟨uL HB⟩⟩
          ·rw [if_neg c45] at H
           exact absurd H (by simp)
         ·rw [if_neg c44] at H
          have c44b0 : (Op.bytesLess a1_0.toList (((rd_T45 l0_0 x7_2).f0).toList)) = false := by simpa using c44
          clear c44
          have H' := aM H
          clear H
          have hnb55 := NB159_160.out
          have hnc55 := NB160_159.out
          have hnb56 := NB159_161.out
          have hnc56 := NB161_159.out
          have hnb57 := NB159_162.out
          have hnc57 := NB162_159.out
          have hcz58_0 : wr.cell? ⟨gb159, 0, none⟩ = some (.slice A0_0 l0_0.length c0_0) := (blk_cell BK159.out 0).trans rfl
          have hfz58_0 := blk_frozen BK159.out 0
          try go_wp2
          have n0_ := aM (Kd.R_drew HO_163000.out)
          have n1_ := aM (blk_drew BK159.out)
          have n2_ := aM (blk_drew BK160.out)
          have n3_ := aM (blk_drew BK161.out)
          have n4_ := aM (blk_drew BK162.out)
          have n5_ := aM (below_drew1 HB.out)
          clear HO_163000 BK159 BK160 BK161 BK162 HB; have HO_163000 := n0_; have BK159 := n1_; have BK160 := n2_; have BK161 := n3_; have BK162 := n4_; have HB := n5_; clear n0_ n1_ n2_ n3_ n4_ n5_
          have p171 : 0 ≤ (x7_2 : Int) := of_decide_eq_true (by first | (with_reducible assumption) | assumption)
          have q171 : x7_2 < (l0_0.length : Int) := of_decide_eq_true (by first | (with_reducible assumption) | assumption)
          obtain ⟨ad171, e171, hx171_0, hx171_1, hx171_2⟩ := at_T45 HR0_0.out x7_2 p171 q171
          have hw171_2 := hx171_2; have hw171_1 := hx171_1; have hw171_0 := hx171_0
          cases e171
          replace hx171_0 := (HB.out.cell (World.block_lt_of_cell? w _ hx171_0)).trans hx171_0
          replace hx171_1 := (HB.out.cell (World.block_lt_of_cell? w _ hx171_1)).trans hx171_1
          replace hx171_2 := (HB.out.cell (World.block_lt_of_cell? w _ hx171_2)).trans hx171_2
          replace p171 := eq_true p171
          replace q171 := eq_true q171
          refine start_ (n := 9) (S := fun w' => w'.cell? ⟨gb159, 0, none⟩ = some (.slice (some ad171) l0_0.length c0_0) ∧ w'.cell? ⟨gb160, 0, none⟩ = some (.string a1_0) ∧ w'.cell? ⟨gb160, 1, none⟩ = some (.string a1_1) ∧ w'.cell? ⟨gb160, 2, none⟩ = some (.int .i64 a1_2) ∧ w'.cell? (ad171.add ((x7_2).toNat * 3)) = some (.string ((rd_T45 l0_0 x7_2).f0)) ∧ w'.cell? ⟨(ad171.add ((x7_2).toNat * 3)).block, (ad171.add ((x7_2).toNat * 3)).off + 1, none⟩ = some (.string ((rd_T45 l0_0 x7_2).f1)) ∧ w'.cell? ⟨(ad171.add ((x7_2).toNat * 3)).block, (ad171.add ((x7_2).toNat * 3)).off + 2, none⟩ = some (.int .i64 ((rd_T45 l0_0 x7_2).f2))) (ds := []) #[false, false, false, false, false, false, false, false, false] (by kernel_rfl) rfl rfl ⟨(blk_cell BK159.out 0).trans rfl, (blk_cell BK160.out 0).trans rfl, (blk_cell BK160.out 1).trans rfl, (blk_cell BK160.out 2).trans rfl, ((HB.out.cell (World.block_lt_of_cell? w _ hw171_0)).trans hw171_0), ((HB.out.cell (World.block_lt_of_cell? w _ hw171_1)).trans hw171_1), ((HB.out.cell (World.block_lt_of_cell? w _ hw171_2)).trans hw171_2)⟩ (fun hHeld => ?_); refine with_tabW spec_l03Put.tab11 spec_l03Put.bits11 (fun HT_ HW_ => ?_)
          generalize wr.drew = w59 at HO_163000 BK159 BK160 BK161 BK162 HB hx171_0 hx171_1 hx171_2 hHeld ⊢
          refine pX 0 48 (bB 9 1) (any_of HT_.out (by kernel_rfl)) ?_
          refine pX 2 50 (bB 9 5) (any_of HT_.out (by kernel_rfl)) ?_
          refine pX 6 54 (bB 9 69) (any_of HT_.out (by kernel_rfl)) ?_
          refine take_ (i := 1) (N := some 49) (v := ?_) (a' := ?_) (bB 9 71) rfl rfl (take_ofW HT_.out HW_.out (by kernel_rfl)) (fun _ _ _ h => h) (Or.inl ⟨by rfl, ?_⟩) hHeld ?_ ?_
          rotate_left
          ·rintro w' ⟨s0, s1, s2, s3, s4, s5, s6⟩
           go_simp
           with_reducible rfl
          rotate_left
          ·simp only [aP, aQ, sT, sZ, sU, i64_w, i32_w]
           rfl
          refine pX 3 51 (bB 9 79) (any_of HT_.out (by kernel_rfl)) ?_
          refine pX 4 52 (bB 9 95) (any_of HT_.out (by kernel_rfl)) ?_
          refine take_ (i := 5) (N := some 53) (v := ?_) (a' := ?_) (bB 9 127) rfl rfl (take_ofW HT_.out HW_.out (by kernel_rfl)) (fun _ _ _ h => h) (Or.inl ⟨by rfl, ?_⟩) hHeld ?_ ?_
          rotate_left
          ·rintro w' ⟨s0, s1, s2, s3, s4, s5, s6⟩
           go_simp
           with_reducible rfl
          rotate_left
          ·simp only [aP, aQ, sT, sZ, sU, i64_w, i32_w]
           rfl
          refine take_ (i := 7) (N := some 55) (v := ?_) (a' := ?_) (bB 9 255) rfl rfl (take_ofW HT_.out HW_.out (by kernel_rfl)) (fun _ _ _ h => h) (Or.inl ⟨by rfl, ?_⟩) hHeld ?_ ?_
          rotate_left
          ·rintro w' ⟨s0, s1, s2, s3, s4, s5, s6⟩
           go_simp
           with_reducible rfl
          rotate_left
          ·simp only [aP, aQ, sT, sZ, sU, i64_w, i32_w]
           rfl
          refine pX 8 56 (bB 9 511) (any_of HT_.out (by kernel_rfl)) ?_
          refine done_ (done_of HT_.out (by kernel_rfl)) ?_
          try go_wp2
          go_roundg k2
          case measure => have := HK1.out; have := HK2.out; omega
          case rel => exact ⟨(wrap64 (x7_2 + 1)), (x163000_2), (u163000), (by first | rfl | (simp; done) | (simp [*]; done)), H', ⟨by have := HK1.out; have := HK2.out; omega⟩, ⟨by (with_reducible repeat first | apply rA | apply rN | apply rD); exact HO_163000.out⟩, ⟨by (with_reducible repeat first | apply bN | apply bD | apply bA); exact BK159.out⟩, ⟨by (with_reducible repeat first | apply bN | apply bD | apply bA); exact BK160.out⟩, ⟨by (with_reducible repeat first | apply bN | apply bD | apply bA); exact BK161.out⟩, ⟨by (with_reducible repeat first | apply bN | apply bD | apply bA); exact BK162.out⟩, ⟨uL HB⟩⟩
        ·rw [if_neg c43] at H
         exact absurd H (by simp)
       ·rw [if_neg c42] at H
        have c42b0 : decide (x7_2 < (l0_0.length : Int)) = false := decide_eq_false c42
        clear c42
        obtain rfl := Option.some.inj H
        have hnb60 := NB159_160.out
        have hnc60 := NB160_159.out
        have hnb61 := NB159_161.out
        have hnc61 := NB161_159.out
        have hnb62 := NB159_162.out
        have hnc62 := NB162_159.out
        have hcz63_0 : wr.cell? ⟨gb159, 0, none⟩ = some (.slice A0_0 l0_0.length c0_0) := (blk_cell BK159.out 0).trans rfl
        have hfz63_0 := blk_frozen BK159.out 0
        have hnb64 := NB162_160.out
        have hnc64 := NB160_162.out
        have hnb65 := NB162_161.out
        have hnc65 := NB161_162.out
        have hcz66_0 : wr.cell? ⟨gb162, 0, none⟩ = some (u163000) := (blk_cell BK162.out 0).trans rfl
        have hfz66_0 := blk_frozen BK162.out 0
        obtain ⟨Ao67, co67, eo67⟩ := Kd.R_slice HO_163000.out
        subst eo67
        have hnb68 := NB161_160.out
        have hnc68 := NB160_161.out
        have hcz69_0 : wr.cell? ⟨gb161, 0, none⟩ = some (.slice none 0 0) := (blk_cell BK161.out 0).trans rfl
        have hfz69_0 := blk_frozen BK161.out 0
        go_wp2
        refine bodyPost_ret (results_cell_row rfl _ _ gb161 30 #[.slice Ao67 x163000_2.length co67] (0, 0) _ rfl (by (with_reducible repeat first | apply bN | apply bD | apply bA); refine blk_put (cs := #[.slice none 0 0]) ?_ 0 _ rfl; (with_reducible repeat first | apply bN | apply bD | apply bA); exact BK161.out) Try.underlying30 rfl (by kernel_rfl)) rfl ?_
        exact ⟨_, by first | rfl | (simp [errW_none, errW_some] <;> rfl) | (simp [*, errW_none, errW_some] <;> rfl), by (with_reducible repeat first | apply rA | apply rN | apply rD); exact Kd.R_mono (Kd.R_far (p := ⟨gb161, 0, none⟩) (Kd.R_types HO_163000.out BK161.out (by decide)) (fun _ hk => hk.2) (.slice Ao67 x163000_2.length co67)) (fun _ hk => trivial), uL HB⟩
    ·rw [if_neg c29] at H
     exact absurd H (by simp)

end Go.Proofs.Ytidfhfaekdahpaa.QFnExactDoAct
