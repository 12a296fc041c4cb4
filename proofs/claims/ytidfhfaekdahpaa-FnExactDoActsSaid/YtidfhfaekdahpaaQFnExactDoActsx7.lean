-- Own work (wip/turnprint.py over the kit's print).
import Derived.Test.YtidfhfaekdahpaaQFnExactDoActsx0
namespace Go.Proofs.Ytidfhfaekdahpaa.QFnExactDoActs
open Go.RowKit Go.Proofs.YtidfhfaekdahpaaW.PrintWords Go.Proofs.YtidfhfaekdahpaaW.PrintLast
attribute [local go_sem] Go.Proofs.YtidfhfaekdahpaaQWords.run_lss_str
attribute [local go_sem] Go.Proofs.YtidfhfaekdahpaaQWords.run_geq_str
attribute [local go_sem] Go.Proofs.YtidfhfaekdahpaaQWords.run_leq_str
attribute [local go_sem] Go.Proofs.YtidfhfaekdahpaaQWords.run_gtr_str
set_option linter.unusedVariables false
set_option linter.unusedSimpArgs false

/-! ### spec_l03Put: function 79 -/
mutual
def spec_l03Put.l0 : Nat → Int → List (S45) → ByteArray → ByteArray → Int → List (S45) → Option ((List (S45)))
 | 0, _, _, _, _, _, _ => none
 | k + 1, x6, x162000, x163000, x163001, x163002, x165000 => if x6 < (x162000.length : Int) then (if 0 ≤ x6 then (if (Op.bytesLess (((rd_T45 x162000 x6).f0).toList) x163000.toList) = true then (if x165000.length < 3518437208883 then (spec_l03Put.l0 k (wrap64 (x6 + 1)) x162000 x163000 x163001 x163002 (x165000 ++ [(⟨(rd_T45 x162000 x6).f0, (rd_T45 x162000 x6).f1, (rd_T45 x162000 x6).f2⟩ : S45)])) else (none)) else (spec_l03Put.l0 k (wrap64 (x6 + 1)) x162000 x163000 x163001 x163002 x165000)) else (none)) else (if x165000.length < 3518437208883 then (spec_l03Put.l1 k 0 x162000 x163000 x163001 x163002 (x165000 ++ [(⟨x163000, x163001, x163002⟩ : S45)])) else (none))
def spec_l03Put.l1 : Nat → Int → List (S45) → ByteArray → ByteArray → Int → List (S45) → Option ((List (S45)))
 | 0, _, _, _, _, _, _ => none
 | k + 1, x7, x162000, x163000, x163001, x163002, x165000 => if x7 < (x162000.length : Int) then (if 0 ≤ x7 then (if (Op.bytesLess x163000.toList (((rd_T45 x162000 x7).f0).toList)) = true then (if x165000.length < 3518437208883 then (spec_l03Put.l1 k (wrap64 (x7 + 1)) x162000 x163000 x163001 x163002 (x165000 ++ [(⟨(rd_T45 x162000 x7).f0, (rd_T45 x162000 x7).f1, (rd_T45 x162000 x7).f2⟩ : S45)])) else (none)) else (spec_l03Put.l1 k (wrap64 (x7 + 1)) x162000 x163000 x163001 x163002 x165000)) else (none)) else (some x165000)
end
def spec_l03Put.f (k : Nat) (l0_0 : List (S45)) (a1_0 : ByteArray) (a1_1 : ByteArray) (a1_2 : Int) : Option ((List (S45))) := spec_l03Put.l0 k 0 l0_0 a1_0 a1_1 a1_2 ([] : List (S45))
theorem spec_l03Put.mono_l : ∀ k, (∀ y0 y1 y2 y3 y4 y5, LeO (spec_l03Put.l0 k y0 y1 y2 y3 y4 y5) (spec_l03Put.l0 (k + 1) y0 y1 y2 y3 y4 y5)) ∧ (∀ y0 y1 y2 y3 y4 y5, LeO (spec_l03Put.l1 k y0 y1 y2 y3 y4 y5) (spec_l03Put.l1 (k + 1) y0 y1 y2 y3 y4 y5))
 | 0 => ⟨fun _ _ _ _ _ _ r h => by simp [spec_l03Put.l0] at h, fun _ _ _ _ _ _ r h => by simp [spec_l03Put.l1] at h⟩
 | k + 1 => by
  obtain ⟨ih0, ih1⟩ := spec_l03Put.mono_l k
  refine ⟨?_, ?_⟩
  ·intro y0 y1 y2 y3 y4 y5
   unfold spec_l03Put.l0
   repeat' first
   | (with_reducible exact ih0 _ _ _ _ _ _)
   | (with_reducible exact ih1 _ _ _ _ _ _)
   | (with_reducible exact LeO.refl _)
   | (with_reducible exact LeO.none _)
   | (with_reducible refine LeO.ite ?_ ?_)
   | (with_reducible refine LeO.bind ?_ (fun _ => ?_))
   | exact ih0 _ _ _ _ _ _
   | exact ih1 _ _ _ _ _ _
   | exact LeO.none _
   | refine LeO.ite ?_ ?_
   | refine LeO.bind ?_ (fun _ => ?_)
  ·intro y0 y1 y2 y3 y4 y5
   unfold spec_l03Put.l1
   repeat' first
   | (with_reducible exact ih0 _ _ _ _ _ _)
   | (with_reducible exact ih1 _ _ _ _ _ _)
   | (with_reducible exact LeO.refl _)
   | (with_reducible exact LeO.none _)
   | (with_reducible refine LeO.ite ?_ ?_)
   | (with_reducible refine LeO.bind ?_ (fun _ => ?_))
   | exact ih0 _ _ _ _ _ _
   | exact ih1 _ _ _ _ _ _
   | exact LeO.none _
   | refine LeO.ite ?_ ?_
   | refine LeO.bind ?_ (fun _ => ?_)
theorem spec_l03Put.mono : ∀ a0 a1 a2 a3 k, LeO (spec_l03Put.f k a0 a1 a2 a3) (spec_l03Put.f (k + 1) a0 a1 a2 a3) := by
 intro a0 a1 a2 a3 k
 obtain ⟨ih0, ih1⟩ := spec_l03Put.mono_l k
 unfold spec_l03Put.f
 repeat' first
   | (with_reducible exact ih0 _ _ _ _ _ _)
   | (with_reducible exact ih1 _ _ _ _ _ _)
   | (with_reducible exact LeO.refl _)
   | (with_reducible exact LeO.none _)
   | (with_reducible refine LeO.ite ?_ ?_)
   | (with_reducible refine LeO.bind ?_ (fun _ => ?_))
   | exact ih0 _ _ _ _ _ _
   | exact ih1 _ _ _ _ _ _
   | exact LeO.none _
   | refine LeO.ite ?_ ?_
   | refine LeO.bind ?_ (fun _ => ?_)
def spec_l03Put.T5 : Bool × List (List Nat × List Nat) := (true, [([], []), ([0], [0]), ([], []), ([1, 2], [1, 2]), ([3], [3]), ([4], [4]), ([], []), ([6], [6]), ([5, 7], [5, 7])])
def spec_l03Put.B5 : List Nat := [0, 1, 0, 7, 15, 31, 0, 64, 255]
theorem spec_l03Put.tab5 : rtab .any (opsOf Try.f79 5) = spec_l03Put.T5 := by kernel_rfl
theorem spec_l03Put.bits5 : waitsOk spec_l03Put.T5.2 spec_l03Put.B5 = true := by kernel_rfl
def spec_l03Put.T6 : Bool × List (List Nat × List Nat) := (true, [([], []), ([0], [0]), ([], []), ([2], [2]), ([], []), ([3, 4], [3, 4]), ([5], [5]), ([6], [6]), ([1, 7], [1, 7]), ([0, 1, 2, 3, 4, 5, 6, 7, 8], []), ([9, 8, 8, 0, 1, 2, 3, 4, 5, 6, 7, 8], [8, 9])])
def spec_l03Put.B6 : List Nat := [0, 1, 0, 4, 0, 28, 60, 124, 255, 511, 1023]
theorem spec_l03Put.tab6 : rtab .any (opsOf Try.f79 6) = spec_l03Put.T6 := by kernel_rfl
theorem spec_l03Put.bits6 : waitsOk spec_l03Put.T6.2 spec_l03Put.B6 = true := by kernel_rfl
def spec_l03Put.T11 : Bool × List (List Nat × List Nat) := (true, [([], []), ([0], [0]), ([], []), ([1, 2], [1, 2]), ([3], [3]), ([4], [4]), ([], []), ([6], [6]), ([5, 7], [5, 7])])
def spec_l03Put.B11 : List Nat := [0, 1, 0, 7, 15, 31, 0, 64, 255]
theorem spec_l03Put.tab11 : rtab .any (opsOf Try.f79 11) = spec_l03Put.T11 := by kernel_rfl
theorem spec_l03Put.bits11 : waitsOk spec_l03Put.T11.2 spec_l03Put.B11 = true := by kernel_rfl
def spec_l03Put.T12 : Bool × List (List Nat × List Nat) := (true, [([], []), ([0], [0]), ([], []), ([2], [2]), ([], []), ([3, 4], [3, 4]), ([5], [5]), ([6], [6]), ([1, 7], [1, 7]), ([0, 1, 2, 3, 4, 5, 6, 7, 8], []), ([9, 8, 8, 0, 1, 2, 3, 4, 5, 6, 7, 8], [8, 9])])
def spec_l03Put.B12 : List Nat := [0, 1, 0, 4, 0, 28, 60, 124, 255, 511, 1023]
theorem spec_l03Put.tab12 : rtab .any (opsOf Try.f79 12) = spec_l03Put.T12 := by kernel_rfl
theorem spec_l03Put.bits12 : waitsOk spec_l03Put.T12.2 spec_l03Put.B12 = true := by kernel_rfl
set_option maxHeartbeats 8000000 in
set_option maxRecDepth 100000 in
theorem spec_l03Put.calls (k : Nat) (A0_0 : Option Addr) (c0_0 : Nat) (l0_0 : List (S45)) (a1_0 : ByteArray) (a1_1 : ByteArray) (a1_2 : Int) (r : List (S45)) (w : World) (hr0_0 : Kd.C k45 w A0_0 l0_0.length l0_0) (hc0_0 : l0_0.length ≤ c0_0) (h : spec_l03Put.f k l0_0 a1_0 a1_1 a1_2 = some r) :
  Calls Try.prog 79 #[.agg #[.slice A0_0 l0_0.length c0_0], .agg #[.string a1_0, .string a1_1, .int .i64 a1_2]] w fun e w' => ∃ v0_ : Value, e = .returned (.agg #[v0_]) ∧ Kd.R k45 45 w' w.heap.size (fun _ => True) v0_ r ∧ Below w.heap.size w w' := by
 have hu30 := Try.underlying30
 have hu45 := Try.underlying45
 have HR0_0 := aM hr0_0
 have HC0_0 := aM hc0_0
 clear hr0_0 hc0_0
 have HB := aM (Below.refl w.heap.size w)
 have H : (spec_l03Put.l0 k 0 l0_0 a1_0 a1_1 a1_2 ([] : List (S45))) = some r := h
 clear h
 have H' := aM H
 clear H
 go_enter Try.func79, Try.ntmps79
 go_wp2_with (first | ((with_reducible refine gate_dst (N := 2) rfl ?_); refine bxE 2 #[.slice A0_0 l0_0.length c0_0] 30 ?_; intro gb161 hg w3 hbox hb; have n0_ := aM (below_step (uL HB) hb); have n1_ := aM (hbox); have n2_ := szG hg (uL HB); have n3_ := szG hg (uL HB); clear HB; have HB := n0_; have BK161 := n1_; have GW161 := n2_; have GE161 := n3_; clear n0_ n1_ n2_ n3_; clear hb hbox hg) | ((with_reducible refine gate_dst (N := 3) rfl ?_); refine bxE 3 #[.string a1_0, .string a1_1, .int .i64 a1_2] 45 ?_; intro gb162 hg w4 hbox hb; have n0_ := blkB BK161 hb; have n1_ := aM (below_step (uL HB) hb); have n2_ := aM (hbox); have n3_ := szG hg (uL HB); have n4_ := szG hg (uL HB); have n5_ := neL hg BK161; have n6_ := neG hg BK161; clear BK161; clear HB; have BK161 := n0_; have HB := n1_; have BK162 := n2_; have GW162 := n3_; have GE162 := n4_; have NB161_162 := n5_; have NB162_161 := n6_; clear n0_ n1_ n2_ n3_ n4_ n5_ n6_; clear hb hbox hg) | ((with_reducible refine gate_dst (N := 4) rfl ?_); refine bxE 4 #[.slice none 0 0] 30 ?_; intro gb163 hg w5 hbox hb; have n0_ := blkB BK161 hb; have n1_ := blkB BK162 hb; have n2_ := aM (below_step (uL HB) hb); have n3_ := aM (hbox); have n4_ := szG hg (uL HB); have n5_ := szG hg (uL HB); have n6_ := neL hg BK161; have n7_ := neG hg BK161; have n8_ := neL hg BK162; have n9_ := neG hg BK162; clear BK161; clear BK162; clear HB; have BK161 := n0_; have BK162 := n1_; have HB := n2_; have BK163 := n3_; have GW163 := n4_; have GE163 := n5_; have NB161_163 := n6_; have NB163_161 := n7_; have NB162_163 := n8_; have NB163_162 := n9_; clear n0_ n1_ n2_ n3_ n4_ n5_ n6_ n7_ n8_ n9_; clear hb hbox hg) | ((with_reducible refine gate_dst (N := 5) rfl ?_); refine bxE 5 #[.slice none 0 0] 30 ?_; intro gb164 hg w6 hbox hb; have n0_ := blkB BK161 hb; have n1_ := blkB BK162 hb; have n2_ := blkB BK163 hb; have n3_ := aM (below_step (uL HB) hb); have n4_ := aM (hbox); have n5_ := szG hg (uL HB); have n6_ := szG hg (uL HB); have n7_ := neL hg BK161; have n8_ := neG hg BK161; have n9_ := neL hg BK162; have n10_ := neG hg BK162; have n11_ := neL hg BK163; have n12_ := neG hg BK163; clear BK161; clear BK162; clear BK163; clear HB; have BK161 := n0_; have BK162 := n1_; have BK163 := n2_; have HB := n3_; have BK164 := n4_; have GW164 := n5_; have GE164 := n6_; have NB161_164 := n7_; have NB164_161 := n8_; have NB162_164 := n9_; have NB164_162 := n10_; have NB163_164 := n11_; have NB164_163 := n12_; clear n0_ n1_ n2_ n3_ n4_ n5_ n6_ n7_ n8_ n9_ n10_ n11_ n12_; clear hb hbox hg; have hnb7 := NB164_161.out; have hnc7 := NB161_164.out; have hnb8 := NB164_162.out; have hnc8 := NB162_164.out; have hnb9 := NB164_163.out; have hnc9 := NB163_164.out; have hcz10_0 := czA BK164.out 0 (.slice none 0 0); have hfz10_0 := blk_frozen BK164.out 0))
 go_loopg [6] k (fun kq v6 w' => ∃ (x6_1 : Int) (x165000_1 : List (S45)) (u165000 : Value), v6 = .int .i64 x6_1 ∧ Aside0 (spec_l03Put.l0 kq x6_1 l0_0 a1_0 a1_1 a1_2 x165000_1 = some r) ∧ Aside0 (kq ≤ k) ∧ Aside0 (Kd.R k45 45 w' w.heap.size (fun k_ => k_ ≠ gb162) u165000 x165000_1) ∧ Aside0 (w'.heap[gb161]? = some (.cells #[(.slice A0_0 l0_0.length c0_0)] 30 (0, 0))) ∧ Aside0 (w'.heap[gb162]? = some (.cells #[.string a1_0, .string a1_1, .int .i64 a1_2] 45 (0, 0))) ∧ Aside0 (w'.heap[gb163]? = some (.cells #[(.slice none 0 0)] 30 (0, 0))) ∧ Aside0 (w'.heap[gb164]? = some (.cells #[u165000] 30 (0, 0))) ∧ Aside0 (Below w.heap.size w w'))
 case atStart => exact ⟨(0), (([] : List (S45))), (.slice none 0 0), (by first | rfl | (simp; done) | (simp [*]; done)), H', ⟨Nat.le_refl _⟩, ⟨by first | exact Kd.R_nil _ _ _ _ _ | exact Kd.N_nil _ _ _ _ _ | exact Kd.V_nil _ _ _ _ _ | exact Kd.Q_nil _ _ _ _ _ | exact Kd.S_nil _ _ _ _ _⟩, ⟨by (with_reducible repeat first | apply bN | apply bD | apply bA); refine blk_far ?_ NB161_164.out _; (with_reducible repeat first | apply bN | apply bD | apply bA); exact BK161.out⟩, ⟨by (with_reducible repeat first | apply bN | apply bD | apply bA); refine blk_far ?_ NB162_164.out _; (with_reducible repeat first | apply bN | apply bD | apply bA); exact BK162.out⟩, ⟨by (with_reducible repeat first | apply bN | apply bD | apply bA); refine blk_far ?_ NB163_164.out _; (with_reducible repeat first | apply bN | apply bD | apply bA); exact BK163.out⟩, ⟨by (with_reducible repeat first | apply bN | apply bD | apply bA); refine blk_put (cs := #[.slice none 0 0]) ?_ 0 _ rfl; (with_reducible repeat first | apply bN | apply bD | apply bA); exact BK164.out⟩, ⟨uL HB⟩⟩
 case round =>
  clear H'
  try clear p2
  try clear c7
  try clear c8
  try clear c9
  try clear hcz10_0
  try clear hfz10_0
  obtain ⟨x6_1, x165000_1, u165000, rfl, HA, HK1, HO_165000, BK161, BK162, BK163, BK164, HB⟩ := hrel
  cases gk with
  | zero => exact absurd HA.out (by simp [spec_l03Put.l0])
  | succ k1 =>
   have H := HA.out
   clear HA
   simp only [spec_l03Put.l0] at H
   by_cases c11 : x6_1 < (l0_0.length : Int)
   ·rw [if_pos c11] at H
    have c11b0 : decide (x6_1 < (l0_0.length : Int)) = true := decide_eq_true c11
    clear c11
    by_cases c12 : 0 ≤ x6_1
    ·rw [if_pos c12] at H
     have c12b0 : decide (0 ≤ x6_1) = true := decide_eq_true c12
     clear c12
     by_cases c13 : (Op.bytesLess (((rd_T45 l0_0 x6_1).f0).toList) a1_0.toList) = true
     ·rw [if_pos c13] at H
      have c13b0 : (Op.bytesLess (((rd_T45 l0_0 x6_1).f0).toList) a1_0.toList) = true := c13
      clear c13
      by_cases c14 : x165000_1.length < 3518437208883
      ·rw [if_pos c14] at H
       have LMc14 := aM c14
       clear c14
       obtain ⟨y167, hy167⟩ : ∃ y_ : List (S45), y_ = (x165000_1 ++ [(⟨(rd_T45 l0_0 x6_1).f0, (rd_T45 l0_0 x6_1).f1, (rd_T45 l0_0 x6_1).f2⟩ : S45)]) := ⟨_, rfl⟩
       replace H : (spec_l03Put.l0 k1 (wrap64 (x6_1 + 1)) l0_0 a1_0 a1_1 a1_2 y167) = some r := by first | (rw [hy167]; with_reducible exact H) | (have H2_ := (Option.bind_some _ _).symm.trans H; rw [hy167]; with_reducible exact H2_) | (have H2_ := (Option.bind_some _ _).symm.trans H; with_reducible exact H2_) | with_reducible exact H | (rw [hy167]; exact H) | exact H
       have Ny167 := aM hy167
       clear hy167
       have H' := aM H
       clear H
       have hnb15 := NB161_162.out
       have hnc15 := NB162_161.out
       have hnb16 := NB161_163.out
       have hnc16 := NB163_161.out
       have hnb17 := NB161_164.out
       have hnc17 := NB164_161.out
       have hcz18_0 := czA BK161.out 0 (.slice A0_0 l0_0.length c0_0)
       have hfz18_0 := blk_frozen BK161.out 0
       try go_wp2
       have n0_ := aM (Kd.R_drew HO_165000.out)
       have n1_ := aM (blk_drew BK161.out)
       have n2_ := aM (blk_drew BK162.out)
       have n3_ := aM (blk_drew BK163.out)
       have n4_ := aM (blk_drew BK164.out)
       have n5_ := aM (below_drew1 HB.out)
       clear HO_165000 BK161 BK162 BK163 BK164 HB; have HO_165000 := n0_; have BK161 := n1_; have BK162 := n2_; have BK163 := n3_; have BK164 := n4_; have HB := n5_; clear n0_ n1_ n2_ n3_ n4_ n5_
       have p165 : 0 ≤ (x6_1 : Int) := of_decide_eq_true (by first | (with_reducible assumption) | assumption)
       have q165 : x6_1 < (l0_0.length : Int) := of_decide_eq_true (by first | (with_reducible assumption) | assumption)
       obtain ⟨ad165, e165, hx165_0, hx165_1, hx165_2⟩ := at_T45 HR0_0.out x6_1 p165 q165
       have hw165_2 := hx165_2; have hw165_1 := hx165_1; have hw165_0 := hx165_0
       cases e165
       replace hx165_0 := (HB.out.cell (World.block_lt_of_cell? w _ hx165_0)).trans hx165_0
       replace hx165_1 := (HB.out.cell (World.block_lt_of_cell? w _ hx165_1)).trans hx165_1
       replace hx165_2 := (HB.out.cell (World.block_lt_of_cell? w _ hx165_2)).trans hx165_2
       replace p165 := eq_true p165
       replace q165 := eq_true q165
       refine start_ (n := 9) (S := fun w' => w'.cell? ⟨gb161, 0, none⟩ = some (.slice (some ad165) l0_0.length c0_0) ∧ w'.cell? ⟨gb162, 0, none⟩ = some (.string a1_0) ∧ w'.cell? ⟨gb162, 1, none⟩ = some (.string a1_1) ∧ w'.cell? ⟨gb162, 2, none⟩ = some (.int .i64 a1_2) ∧ w'.cell? (ad165.add ((x6_1).toNat * 3)) = some (.string ((rd_T45 l0_0 x6_1).f0)) ∧ w'.cell? ⟨(ad165.add ((x6_1).toNat * 3)).block, (ad165.add ((x6_1).toNat * 3)).off + 1, none⟩ = some (.string ((rd_T45 l0_0 x6_1).f1)) ∧ w'.cell? ⟨(ad165.add ((x6_1).toNat * 3)).block, (ad165.add ((x6_1).toNat * 3)).off + 2, none⟩ = some (.int .i64 ((rd_T45 l0_0 x6_1).f2))) (ds := []) #[false, false, false, false, false, false, false, false, false] (by kernel_rfl) rfl rfl ⟨(blk_cell BK161.out 0).trans rfl, (blk_cell BK162.out 0).trans rfl, (blk_cell BK162.out 1).trans rfl, (blk_cell BK162.out 2).trans rfl, ((HB.out.cell (World.block_lt_of_cell? w _ hw165_0)).trans hw165_0), ((HB.out.cell (World.block_lt_of_cell? w _ hw165_1)).trans hw165_1), ((HB.out.cell (World.block_lt_of_cell? w _ hw165_2)).trans hw165_2)⟩ (fun hHeld => ?_); refine with_tabW spec_l03Put.tab5 spec_l03Put.bits5 (fun HT_ HW_ => ?_)
       generalize wr.drew = w19 at HO_165000 BK161 BK162 BK163 BK164 HB hx165_0 hx165_1 hx165_2 hHeld ⊢
       refine pX 0 16 (bB 9 1) (any_of HT_.out (by kernel_rfl)) ?_
       refine pX 2 18 (bB 9 5) (any_of HT_.out (by kernel_rfl)) ?_
       refine pX 6 22 (bB 9 69) (any_of HT_.out (by kernel_rfl)) ?_
       refine take_ (i := 1) (N := some 17) (v := ?_) (a' := ?_) (bB 9 71) rfl rfl (take_ofW HT_.out HW_.out (by kernel_rfl)) (fun _ _ _ h => h) (Or.inl ⟨by rfl, ?_⟩) hHeld ?_ ?_
       rotate_left
       ·rintro w' ⟨s0, s1, s2, s3, s4, s5, s6⟩
        go_simp
        with_reducible rfl
       rotate_left
       ·simp only [aP, aQ, sT, sZ, sU, i64_w, i32_w]
        rfl
       refine pX 3 19 (bB 9 79) (any_of HT_.out (by kernel_rfl)) ?_
       refine pX 4 20 (bB 9 95) (any_of HT_.out (by kernel_rfl)) ?_
       refine take_ (i := 5) (N := some 21) (v := ?_) (a' := ?_) (bB 9 127) rfl rfl (take_ofW HT_.out HW_.out (by kernel_rfl)) (fun _ _ _ h => h) (Or.inl ⟨by rfl, ?_⟩) hHeld ?_ ?_
       rotate_left
       ·rintro w' ⟨s0, s1, s2, s3, s4, s5, s6⟩
        go_simp
        with_reducible rfl
       rotate_left
       ·simp only [aP, aQ, sT, sZ, sU, i64_w, i32_w]
        rfl
       refine take_ (i := 7) (N := some 23) (v := ?_) (a' := ?_) (bB 9 255) rfl rfl (take_ofW HT_.out HW_.out (by kernel_rfl)) (fun _ _ _ h => h) (Or.inl ⟨by rfl, ?_⟩) hHeld ?_ ?_
       rotate_left
       ·rintro w' ⟨s0, s1, s2, s3, s4, s5, s6⟩
        go_simp
        with_reducible rfl
       rotate_left
       ·simp only [aP, aQ, sT, sZ, sU, i64_w, i32_w]
        rfl
       refine pX 8 24 (bB 9 511) (any_of HT_.out (by kernel_rfl)) ?_
       refine done_ (done_of HT_.out (by kernel_rfl)) ?_
       try go_wp2
       have n0_ := aM (Kd.R_drew HO_165000.out)
       have n1_ := aM (blk_drew BK161.out)
       have n2_ := aM (blk_drew BK162.out)
       have n3_ := aM (blk_drew BK163.out)
       have n4_ := aM (blk_drew BK164.out)
       have n5_ := aM (below_drew1 HB.out)
       clear HO_165000 BK161 BK162 BK163 BK164 HB; have HO_165000 := n0_; have BK161 := n1_; have BK162 := n2_; have BK163 := n3_; have BK164 := n4_; have HB := n5_; clear n0_ n1_ n2_ n3_ n4_ n5_
       have p166 : 0 ≤ (x6_1 : Int) := of_decide_eq_true (by first | (with_reducible assumption) | assumption)
       have q166 : x6_1 < (l0_0.length : Int) := of_decide_eq_true (by first | (with_reducible assumption) | assumption)
       obtain ⟨ad166, e166, hx166_0, hx166_1, hx166_2⟩ := at_T45 HR0_0.out x6_1 p166 q166
       have hw166_2 := hx166_2; have hw166_1 := hx166_1; have hw166_0 := hx166_0
       obtain rfl : ad165 = ad166 := (by injection e166)
       replace hx166_0 := (HB.out.cell (World.block_lt_of_cell? w _ hx166_0)).trans hx166_0
       replace hx166_1 := (HB.out.cell (World.block_lt_of_cell? w _ hx166_1)).trans hx166_1
       replace hx166_2 := (HB.out.cell (World.block_lt_of_cell? w _ hx166_2)).trans hx166_2
       replace p166 := eq_true p166
       replace q166 := eq_true q166
       refine start_ (n := 11) (S := fun w' => w'.cell? ⟨gb164, 0, none⟩ = some (u165000) ∧ w'.cell? ⟨gb161, 0, none⟩ = some (.slice (some ad165) l0_0.length c0_0) ∧ w'.cell? (ad165.add ((x6_1).toNat * 3)) = some (.string ((rd_T45 l0_0 x6_1).f0)) ∧ w'.cell? ⟨(ad165.add ((x6_1).toNat * 3)).block, (ad165.add ((x6_1).toNat * 3)).off + 1, none⟩ = some (.string ((rd_T45 l0_0 x6_1).f1)) ∧ w'.cell? ⟨(ad165.add ((x6_1).toNat * 3)).block, (ad165.add ((x6_1).toNat * 3)).off + 2, none⟩ = some (.int .i64 ((rd_T45 l0_0 x6_1).f2))) (ds := [10]) #[false, false, false, false, false, false, false, false, false, false, false] (by kernel_rfl) rfl rfl ⟨(blk_cell BK164.out 0).trans rfl, (blk_cell BK161.out 0).trans rfl, ((HB.out.cell (World.block_lt_of_cell? w _ hw166_0)).trans hw166_0), ((HB.out.cell (World.block_lt_of_cell? w _ hw166_1)).trans hw166_1), ((HB.out.cell (World.block_lt_of_cell? w _ hw166_2)).trans hw166_2)⟩ (fun hHeld => ?_); refine with_tabW spec_l03Put.tab6 spec_l03Put.bits6 (fun HT_ HW_ => ?_)
       generalize w19.drew = w20 at HO_165000 BK161 BK162 BK163 BK164 HB hx166_0 hx166_1 hx166_2 hHeld ⊢
       refine pX 0 25 (bB 11 1) (any_of HT_.out (by kernel_rfl)) ?_
       refine pX 2 27 (bB 11 5) (any_of HT_.out (by kernel_rfl)) ?_
       refine pX 4 29 (bB 11 21) (any_of HT_.out (by kernel_rfl)) ?_
       refine take_ (i := 1) (N := some 26) (v := ?_) (a' := ?_) (bB 11 23) rfl rfl (take_ofW HT_.out HW_.out (by kernel_rfl)) (fun _ _ _ h => h) (Or.inl ⟨by rfl, ?_⟩) hHeld ?_ ?_
       rotate_left
       ·rintro w' ⟨s0, s1, s2, s3, s4⟩
        go_simp
        with_reducible rfl
       rotate_left
       ·simp only [aP, aQ, sT, sZ, sU, i64_w, i32_w]
        rfl
       refine take_ (i := 3) (N := some 28) (v := ?_) (a' := ?_) (bB 11 31) rfl rfl (take_ofW HT_.out HW_.out (by kernel_rfl)) (fun _ _ _ h => h) (Or.inl ⟨by rfl, ?_⟩) hHeld ?_ ?_
       rotate_left
       ·rintro w' ⟨s0, s1, s2, s3, s4⟩
        go_simp
        with_reducible rfl
       rotate_left
       ·simp only [aP, aQ, sT, sZ, sU, i64_w, i32_w]
        rfl
       refine pX 5 30 (bB 11 63) (any_of HT_.out (by kernel_rfl)) ?_
       refine take_ (i := 6) (N := some 31) (v := ?_) (a' := ?_) (bB 11 127) rfl rfl (take_ofW HT_.out HW_.out (by kernel_rfl)) (fun _ _ _ h => h) (Or.inl ⟨by rfl, ?_⟩) hHeld ?_ ?_
       rotate_left
       ·rintro w' ⟨s0, s1, s2, s3, s4⟩
        go_simp
        with_reducible rfl
       rotate_left
       ·simp only [aP, aQ, sT, sZ, sU, i64_w, i32_w]
        rfl
       refine one_ (i := 7) (N := some 32) (bB 11 255) rfl rfl (one_of HT_.out (by kernel_rfl)) (by decide) (fun K hK => ?_)
       refine value_ (w1 := ?_) (v := ?_) (by rfl) rfl ?_ ?_
       rotate_left 2
       ·go_simp
        constructor
        ·rfl
        ·rfl
       refine hK.out _ _ ⟨(blk_cell (blk_alloc BK164.out _) 0).trans rfl, (blk_cell (blk_alloc BK161.out _) 0).trans rfl, (World.cell?_alloc_lt _ _ _ (World.block_lt_of_cell? _ _ (((HB.out.cell (World.block_lt_of_cell? w _ hw166_0)).trans hw166_0)))).trans (((HB.out.cell (World.block_lt_of_cell? w _ hw166_0)).trans hw166_0)), (World.cell?_alloc_lt _ _ _ (World.block_lt_of_cell? _ _ (((HB.out.cell (World.block_lt_of_cell? w _ hw166_1)).trans hw166_1)))).trans (((HB.out.cell (World.block_lt_of_cell? w _ hw166_1)).trans hw166_1)), (World.cell?_alloc_lt _ _ _ (World.block_lt_of_cell? _ _ (((HB.out.cell (World.block_lt_of_cell? w _ hw166_2)).trans hw166_2)))).trans (((HB.out.cell (World.block_lt_of_cell? w _ hw166_2)).trans hw166_2))⟩ (fun hHeld => ?_)
       clear hK K
       refine norm_ (a' := ?_) ?_ ?_
       rotate_left
       ·show Act.put _ (some 32) _ = _
        simp only [aP, aQ, sT, sZ, sU, i64_w, i32_w]
        rfl
       refine one_ (i := 8) (N := some 33) (bB 11 511) rfl rfl (one_of HT_.out (by kernel_rfl)) (by decide) (fun K hK => ?_)
       refine Kd.R_append_step k45 (w0 := w) w.heap.size (by rfl) (.tmp 26) (.tmp 32) 28 45 (.agg #[(.string ⟨#[]⟩), (.string ⟨#[]⟩), (.int .i64 0)]) 40 rfl Try.underlying28 info45 rfl (by decide) (by omega) u165000 x165000_1 (⟨(rd_T45 l0_0 x6_1).f0, (rd_T45 l0_0 x6_1).f1, (rd_T45 l0_0 x6_1).f2⟩ : S45) [.string ((rd_T45 l0_0 x6_1).f0), .string ((rd_T45 l0_0 x6_1).f1), .int .i64 ((rd_T45 l0_0 x6_1).f2)] (fun k_ => k_ ≠ gb162) (fun _ => False) rfl rfl ?aP (fun _ hk => hk.elim) ?aF ?aO ?aB ?aS ?aL ?_
       (case aP => exact k45_mkM _ _ _ (⟨(rd_T45 l0_0 x6_1).f0, (rd_T45 l0_0 x6_1).f1, (rd_T45 l0_0 x6_1).f2⟩ : S45))
       (case aB => exact (uL HB))
       (case aF => exact (fun k_ hk => Kd.freshB (g := gb162) (o := .cells #[.string a1_0, .string a1_1, .int .i64 a1_2] 45 (0, 0)) (uB BK162) k_ hk))
       (case aO => exact (uR HO_165000))
       (case aS => exact (below_size (uL HB)))
       (case aL => have := LMc14.out; omega)
       intro v168 w21 ho hb hg hat
       rw [← Ny167.out] at ho
       have n0_ := aM (blk_grown (g := gb161) (o := .cells #[.slice (some ad165) l0_0.length c0_0] 30 (0, 0)) (uB BK161) hg (Kd.R_ne HO_165000.out BK161.out (by decide)))
       have n1_ := aM (blk_grown (g := gb162) (o := .cells #[.string a1_0, .string a1_1, .int .i64 a1_2] 45 (0, 0)) (uB BK162) hg (Kd.R_away HO_165000.out (fun _ hk => hk)))
       have n2_ := aM (blk_grown (g := gb163) (o := .cells #[.slice none 0 0] 30 (0, 0)) (uB BK163) hg (Kd.R_ne HO_165000.out BK163.out (by decide)))
       have n3_ := aM (blk_grown (g := gb164) (o := .cells #[u165000] 30 (0, 0)) (uB BK164) hg (Kd.R_ne HO_165000.out BK164.out (by decide)))
       have n4_ := aM (hb)
       have n5_ := aM (ho)
       clear BK161 BK162 BK163 BK164 HB HO_165000; have BK161 := n0_; have BK162 := n1_; have BK163 := n2_; have BK164 := n3_; have HB := n4_; have HO169 := n5_; clear n0_ n1_ n2_ n3_ n4_ n5_ ho hb hg hat
       obtain ⟨Ao22, co22, eo22⟩ := Kd.R_slice HO169.out
       (first | subst eo22 | (injection eo22 with f1_ f2_ f3_; have f4_ := f1_.symm; have f5_ := f3_.symm; clear f1_ f2_ f3_; subst f4_; subst f5_))
       refine hK.out _ _ ⟨(blk_cell BK164.out 0).trans rfl, (blk_cell BK161.out 0).trans rfl, ((HB.out.cell (World.block_lt_of_cell? w _ hw166_0)).trans hw166_0), ((HB.out.cell (World.block_lt_of_cell? w _ hw166_1)).trans hw166_1), ((HB.out.cell (World.block_lt_of_cell? w _ hw166_2)).trans hw166_2)⟩ (fun hHeld => ?_)
       clear hK K
       refine norm_ (a' := ?_) ?_ ?_
       rotate_left
       ·show Act.put _ (some 33) _ = _
        simp only [aP, aQ, sT, sZ, sU, i64_w, i32_w]
        rfl
       refine pX 9 34 (bB 11 1023) (any_of HT_.out (by kernel_rfl)) ?_
       refine last_ (i := 10) (N := none) (bB 11 2047) rfl rfl (one_of HT_.out (by kernel_rfl)) (by decide) (fun K hK => ?_)
       have hs23 := czA BK164.out 0 (u165000)
       have hfs23 := blk_frozen BK164.out 0
       have hns23_0 := NB161_164.out
       have hns23_1 := NB162_164.out
       have hns23_2 := NB163_164.out
       have hms23_0 := NB164_161.out
       have hms23_1 := NB164_162.out
       have hms23_2 := NB164_163.out
       refine skip_ (w1 := ?_) (by rfl) rfl ?_ ?_
       rotate_left
       ·go_simp
        rfl
       refine hK.out _ _ ?_
       clear hK K
       refine done_ (done_of HT_.out (by kernel_rfl)) ?_
       try go_wp2
       go_roundg k1
       case measure => have := HK1.out; omega
       case rel => exact ⟨(wrap64 (x6_1 + 1)), (y167), (.slice Ao22 y167.length co22), (by first | rfl | (simp; done) | (simp [*]; done)), H', ⟨by have := HK1.out; omega⟩, ⟨by (with_reducible repeat first | apply rA | apply rN | apply rD); exact Kd.R_mono (Kd.R_far (p := ⟨gb164, 0, none⟩) (Kd.R_types HO169.out BK164.out (by decide)) (fun _ hk => hk.2) (.slice Ao22 y167.length co22)) (fun _ hk => hk.1)⟩, ⟨by (with_reducible repeat first | apply bN | apply bD | apply bA); refine blk_far ?_ NB161_164.out _; (with_reducible repeat first | apply bN | apply bD | apply bA); exact BK161.out⟩, ⟨by (with_reducible repeat first | apply bN | apply bD | apply bA); refine blk_far ?_ NB162_164.out _; (with_reducible repeat first | apply bN | apply bD | apply bA); exact BK162.out⟩, ⟨by (with_reducible repeat first | apply bN | apply bD | apply bA); refine blk_far ?_ NB163_164.out _; (with_reducible repeat first | apply bN | apply bD | apply bA); exact BK163.out⟩, ⟨by (with_reducible repeat first | apply bN | apply bD | apply bA); refine blk_put (cs := #[u165000]) ?_ 0 _ rfl; (with_reducible repeat first | apply bN | apply bD | apply bA); exact BK164.out⟩, ⟨uL HB⟩⟩
      ·rw [if_neg c14] at H
       exact absurd H (by simp)
     ·rw [if_neg c13] at H
      have c13b0 : (Op.bytesLess (((rd_T45 l0_0 x6_1).f0).toList) a1_0.toList) = false := by simpa using c13
      clear c13
      have H' := aM H
      clear H
      have hnb24 := NB161_162.out
      have hnc24 := NB162_161.out
      have hnb25 := NB161_163.out
      have hnc25 := NB163_161.out
      have hnb26 := NB161_164.out
      have hnc26 := NB164_161.out
      have hcz27_0 := czA BK161.out 0 (.slice A0_0 l0_0.length c0_0)
      have hfz27_0 := blk_frozen BK161.out 0
      try go_wp2
      have n0_ := aM (Kd.R_drew HO_165000.out)
      have n1_ := aM (blk_drew BK161.out)
      have n2_ := aM (blk_drew BK162.out)
      have n3_ := aM (blk_drew BK163.out)
      have n4_ := aM (blk_drew BK164.out)
      have n5_ := aM (below_drew1 HB.out)
      clear HO_165000 BK161 BK162 BK163 BK164 HB; have HO_165000 := n0_; have BK161 := n1_; have BK162 := n2_; have BK163 := n3_; have BK164 := n4_; have HB := n5_; clear n0_ n1_ n2_ n3_ n4_ n5_
      have p165 : 0 ≤ (x6_1 : Int) := of_decide_eq_true (by first | (with_reducible assumption) | assumption)
      have q165 : x6_1 < (l0_0.length : Int) := of_decide_eq_true (by first | (with_reducible assumption) | assumption)
      obtain ⟨ad165, e165, hx165_0, hx165_1, hx165_2⟩ := at_T45 HR0_0.out x6_1 p165 q165
      have hw165_2 := hx165_2; have hw165_1 := hx165_1; have hw165_0 := hx165_0
      cases e165
      replace hx165_0 := (HB.out.cell (World.block_lt_of_cell? w _ hx165_0)).trans hx165_0
      replace hx165_1 := (HB.out.cell (World.block_lt_of_cell? w _ hx165_1)).trans hx165_1
      replace hx165_2 := (HB.out.cell (World.block_lt_of_cell? w _ hx165_2)).trans hx165_2
      replace p165 := eq_true p165
      replace q165 := eq_true q165
      refine start_ (n := 9) (S := fun w' => w'.cell? ⟨gb161, 0, none⟩ = some (.slice (some ad165) l0_0.length c0_0) ∧ w'.cell? ⟨gb162, 0, none⟩ = some (.string a1_0) ∧ w'.cell? ⟨gb162, 1, none⟩ = some (.string a1_1) ∧ w'.cell? ⟨gb162, 2, none⟩ = some (.int .i64 a1_2) ∧ w'.cell? (ad165.add ((x6_1).toNat * 3)) = some (.string ((rd_T45 l0_0 x6_1).f0)) ∧ w'.cell? ⟨(ad165.add ((x6_1).toNat * 3)).block, (ad165.add ((x6_1).toNat * 3)).off + 1, none⟩ = some (.string ((rd_T45 l0_0 x6_1).f1)) ∧ w'.cell? ⟨(ad165.add ((x6_1).toNat * 3)).block, (ad165.add ((x6_1).toNat * 3)).off + 2, none⟩ = some (.int .i64 ((rd_T45 l0_0 x6_1).f2))) (ds := []) #[false, false, false, false, false, false, false, false, false] (by kernel_rfl) rfl rfl ⟨(blk_cell BK161.out 0).trans rfl, (blk_cell BK162.out 0).trans rfl, (blk_cell BK162.out 1).trans rfl, (blk_cell BK162.out 2).trans rfl, ((HB.out.cell (World.block_lt_of_cell? w _ hw165_0)).trans hw165_0), ((HB.out.cell (World.block_lt_of_cell? w _ hw165_1)).trans hw165_1), ((HB.out.cell (World.block_lt_of_cell? w _ hw165_2)).trans hw165_2)⟩ (fun hHeld => ?_); refine with_tabW spec_l03Put.tab5 spec_l03Put.bits5 (fun HT_ HW_ => ?_)
      generalize wr.drew = w28 at HO_165000 BK161 BK162 BK163 BK164 HB hx165_0 hx165_1 hx165_2 hHeld ⊢
      refine pX 0 16 (bB 9 1) (any_of HT_.out (by kernel_rfl)) ?_
      refine pX 2 18 (bB 9 5) (any_of HT_.out (by kernel_rfl)) ?_
      refine pX 6 22 (bB 9 69) (any_of HT_.out (by kernel_rfl)) ?_
      refine take_ (i := 1) (N := some 17) (v := ?_) (a' := ?_) (bB 9 71) rfl rfl (take_ofW HT_.out HW_.out (by kernel_rfl)) (fun _ _ _ h => h) (Or.inl ⟨by rfl, ?_⟩) hHeld ?_ ?_
      rotate_left
      ·rintro w' ⟨s0, s1, s2, s3, s4, s5, s6⟩
       go_simp
       with_reducible rfl
      rotate_left
      ·simp only [aP, aQ, sT, sZ, sU, i64_w, i32_w]
       rfl
      refine pX 3 19 (bB 9 79) (any_of HT_.out (by kernel_rfl)) ?_
      refine pX 4 20 (bB 9 95) (any_of HT_.out (by kernel_rfl)) ?_
      refine take_ (i := 5) (N := some 21) (v := ?_) (a' := ?_) (bB 9 127) rfl rfl (take_ofW HT_.out HW_.out (by kernel_rfl)) (fun _ _ _ h => h) (Or.inl ⟨by rfl, ?_⟩) hHeld ?_ ?_
      rotate_left
      ·rintro w' ⟨s0, s1, s2, s3, s4, s5, s6⟩
       go_simp
       with_reducible rfl
      rotate_left
      ·simp only [aP, aQ, sT, sZ, sU, i64_w, i32_w]
       rfl
      refine take_ (i := 7) (N := some 23) (v := ?_) (a' := ?_) (bB 9 255) rfl rfl (take_ofW HT_.out HW_.out (by kernel_rfl)) (fun _ _ _ h => h) (Or.inl ⟨by rfl, ?_⟩) hHeld ?_ ?_
      rotate_left
      ·rintro w' ⟨s0, s1, s2, s3, s4, s5, s6⟩
       go_simp
       with_reducible rfl
      rotate_left
      ·simp only [aP, aQ, sT, sZ, sU, i64_w, i32_w]
       rfl
      refine pX 8 24 (bB 9 511) (any_of HT_.out (by kernel_rfl)) ?_
      refine done_ (done_of HT_.out (by kernel_rfl)) ?_
      try go_wp2
      go_roundg k1
      case measure => have := HK1.out; omega
      case rel => exact ⟨(wrap64 (x6_1 + 1)), (x165000_1), (u165000), (by first | rfl | (simp; done) | (simp [*]; done)), H', ⟨by have := HK1.out; omega⟩, ⟨by (with_reducible repeat first | apply rA | apply rN | apply rD); exact HO_165000.out⟩, ⟨by (with_reducible repeat first | apply bN | apply bD | apply bA); exact BK161.out⟩, ⟨by (with_reducible repeat first | apply bN | apply bD | apply bA); exact BK162.out⟩, ⟨by (with_reducible repeat first | apply bN | apply bD | apply bA); exact BK163.out⟩, ⟨by (with_reducible repeat first | apply bN | apply bD | apply bA); exact BK164.out⟩, ⟨uL HB⟩⟩
    ·rw [if_neg c12] at H
     exact absurd H (by simp)
   ·rw [if_neg c11] at H
    have c11b0 : decide (x6_1 < (l0_0.length : Int)) = false := decide_eq_false c11
    clear c11
    by_cases c29 : x165000_1.length < 3518437208883
    ·rw [if_pos c29] at H
     have LMc29 := aM c29
     clear c29
     obtain ⟨y170, hy170⟩ : ∃ y_ : List (S45), y_ = (x165000_1 ++ [(⟨a1_0, a1_1, a1_2⟩ : S45)]) := ⟨_, rfl⟩
     replace H : (spec_l03Put.l1 k1 0 l0_0 a1_0 a1_1 a1_2 y170) = some r := by first | (rw [hy170]; with_reducible exact H) | (have H2_ := (Option.bind_some _ _).symm.trans H; rw [hy170]; with_reducible exact H2_) | (have H2_ := (Option.bind_some _ _).symm.trans H; with_reducible exact H2_) | with_reducible exact H | (rw [hy170]; exact H) | exact H
     have Ny170 := aM hy170
     clear hy170
     have H' := aM H
     clear H
     have hnb30 := NB161_162.out
     have hnc30 := NB162_161.out
     have hnb31 := NB161_163.out
     have hnc31 := NB163_161.out
     have hnb32 := NB161_164.out
     have hnc32 := NB164_161.out
     have hcz33_0 := czA BK161.out 0 (.slice A0_0 l0_0.length c0_0)
     have hfz33_0 := blk_frozen BK161.out 0
     have hnb34 := NB164_162.out
     have hnc34 := NB162_164.out
     have hnb35 := NB164_163.out
     have hnc35 := NB163_164.out
     have hcz36_0 := czA BK164.out 0 (u165000)
     have hfz36_0 := blk_frozen BK164.out 0
     have hnb37 := NB162_163.out
     have hnc37 := NB163_162.out
     have hcz38_0 := czA BK162.out 0 (.string a1_0)
     have hcz38_1 := czA BK162.out 1 (.string a1_1)
     have hcz38_2 := czA BK162.out 2 (.int .i64 a1_2)
     have hfz38_0 := blk_frozen BK162.out 0
     have hfz38_1 := blk_frozen BK162.out 1
     have hfz38_2 := blk_frozen BK162.out 2
     go_wp2_with (first | ((with_reducible refine gate_builtin (b := .append) (xs := #[.tmp 36, .tmp 38]) rfl ?_); at_builtin; refine Kd.R_append k45 (w0 := w) w.heap.size rfl (.tmp 36) (.tmp 38) 28 45 (.agg #[(.string ⟨#[]⟩), (.string ⟨#[]⟩), (.int .i64 0)]) 40 rfl Try.underlying28 info45 rfl (by decide) (by omega) u165000 x165000_1 (⟨a1_0, a1_1, a1_2⟩ : S45) [.string a1_0, .string a1_1, .int .i64 a1_2] (fun k_ => k_ ≠ gb162) (fun _ => False) rfl rfl ?aP (fun _ hk => hk.elim) ?aF ?aO ?aB ?aS ?aL ?_; (case aP => exact k45_mkM _ _ _ (⟨a1_0, a1_1, a1_2⟩ : S45)); (case aB => exact (uL HB)); (case aF => exact (fun k_ hk => Kd.freshB (g := gb162) (o := .cells #[.string a1_0, .string a1_1, .int .i64 a1_2] 45 (0, 0)) (uB BK162) k_ hk)); (case aO => exact (uR HO_165000)); (case aS => exact (below_size (uL HB))); (case aL => have := LMc29.out; omega); intro v171 w39 ho hb hg hat; rw [← Ny170.out] at ho; have n0_ := aM (blk_grown (g := gb161) (o := .cells #[.slice A0_0 l0_0.length c0_0] 30 (0, 0)) (uB BK161) hg (Kd.R_ne HO_165000.out BK161.out (by decide))); have n1_ := aM (blk_grown (g := gb162) (o := .cells #[.string a1_0, .string a1_1, .int .i64 a1_2] 45 (0, 0)) (uB BK162) hg (Kd.R_away HO_165000.out (fun _ hk => hk))); have n2_ := aM (blk_grown (g := gb163) (o := .cells #[.slice none 0 0] 30 (0, 0)) (uB BK163) hg (Kd.R_ne HO_165000.out BK163.out (by decide))); have n3_ := aM (blk_grown (g := gb164) (o := .cells #[u165000] 30 (0, 0)) (uB BK164) hg (Kd.R_ne HO_165000.out BK164.out (by decide))); have n4_ := aM (hb); have n5_ := aM (ho); clear BK161; clear BK162; clear BK163; clear BK164; clear HB; clear HO_165000; have BK161 := n0_; have BK162 := n1_; have BK163 := n2_; have BK164 := n3_; have HB := n4_; have HO172 := n5_; clear n0_ n1_ n2_ n3_ n4_ n5_; clear ho hb hg hat; obtain ⟨Ao40, co40, eo40⟩ := Kd.R_slice HO172.out; subst eo40; have hcz41_0 := czA BK164.out 0 (u165000); have hfz41_0 := blk_frozen BK164.out 0))
     go_loopg [7] k1 (fun kq v7 w' => ∃ (x7_2 : Int) (x165000_2 : List (S45)) (u165000 : Value), v7 = .int .i64 x7_2 ∧ Aside0 (spec_l03Put.l1 kq x7_2 l0_0 a1_0 a1_1 a1_2 x165000_2 = some r) ∧ Aside0 (kq ≤ k1) ∧ Aside0 (Kd.R k45 45 w' w.heap.size (fun k_ => k_ ≠ gb162) u165000 x165000_2) ∧ Aside0 (w'.heap[gb161]? = some (.cells #[(.slice A0_0 l0_0.length c0_0)] 30 (0, 0))) ∧ Aside0 (w'.heap[gb162]? = some (.cells #[.string a1_0, .string a1_1, .int .i64 a1_2] 45 (0, 0))) ∧ Aside0 (w'.heap[gb163]? = some (.cells #[(.slice none 0 0)] 30 (0, 0))) ∧ Aside0 (w'.heap[gb164]? = some (.cells #[u165000] 30 (0, 0))) ∧ Aside0 (Below w.heap.size w w'))
     case atStart => exact ⟨(0), (y170), (.slice Ao40 y170.length co40), (by first | rfl | (simp; done) | (simp [*]; done)), H', ⟨Nat.le_refl _⟩, ⟨by (with_reducible repeat first | apply rA | apply rN | apply rD); exact Kd.R_mono (Kd.R_far (p := ⟨gb164, 0, none⟩) (Kd.R_types HO172.out BK164.out (by decide)) (fun _ hk => hk.2) (.slice Ao40 y170.length co40)) (fun _ hk => hk.1)⟩, ⟨by (with_reducible repeat first | apply bN | apply bD | apply bA); refine blk_far ?_ NB161_164.out _; (with_reducible repeat first | apply bN | apply bD | apply bA); exact BK161.out⟩, ⟨by (with_reducible repeat first | apply bN | apply bD | apply bA); refine blk_far ?_ NB162_164.out _; (with_reducible repeat first | apply bN | apply bD | apply bA); exact BK162.out⟩, ⟨by (with_reducible repeat first | apply bN | apply bD | apply bA); refine blk_far ?_ NB163_164.out _; (with_reducible repeat first | apply bN | apply bD | apply bA); exact BK163.out⟩, ⟨by (with_reducible repeat first | apply bN | apply bD | apply bA); refine blk_put (cs := #[u165000]) ?_ 0 _ rfl; (with_reducible repeat first | apply bN | apply bD | apply bA); exact BK164.out⟩, ⟨uL HB⟩⟩
     case round =>
      clear H'
      try clear c1
      try clear p1
      try clear q1
      try clear hx1
      try clear c2
      try clear p2
      try clear c3
      try clear p6
      try clear c7
      try clear c8
      try clear c9
      try clear c11
      try clear c11b0
      try clear c12
      try clear c12b0
      try clear c13
      try clear c13b0
      try clear c14
      try clear c15
      try clear c16
      try clear p16
      try clear q16
      try clear hx16
      try clear c17
      try clear c24
      try clear c25
      try clear c26
      try clear c29
      try clear c30
      try clear c31
      try clear c32
      try clear c34
      try clear c35
      try clear c37
      try clear hcz10_0
      try clear hcz18_0
      try clear hcz27_0
      try clear hcz33_0
      try clear hcz36_0
      try clear hcz38_0
      try clear hcz38_1
      try clear hcz38_2
      try clear hcz41_0
      try clear hfz10_0
      try clear hfz18_0
      try clear hfz27_0
      try clear hfz33_0
      try clear hfz36_0
      try clear hfz38_0
      try clear hfz38_1
      try clear hfz38_2
      try clear hfz41_0
      try clear hx165_0
      try clear hx165_1
      try clear hx165_2
      try clear hx166_0
      try clear hx166_1
      try clear hx166_2
      try clear p165
      try clear p166
      try clear p2
      try clear q165
      try clear q166
      obtain ⟨x7_2, x165000_2, u165000, rfl, HA, HK2, HO_165000, BK161, BK162, BK163, BK164, HB⟩ := hrel
      cases gk with
      | zero => exact absurd HA.out (by simp [spec_l03Put.l1])
      | succ k2 =>
       have H := HA.out
       clear HA
       simp only [spec_l03Put.l1] at H
       by_cases c42 : x7_2 < (l0_0.length : Int)
       ·rw [if_pos c42] at H
        have c42b0 : decide (x7_2 < (l0_0.length : Int)) = true := decide_eq_true c42
        clear c42
        by_cases c43 : 0 ≤ x7_2
        ·rw [if_pos c43] at H
         have c43b0 : decide (0 ≤ x7_2) = true := decide_eq_true c43
         clear c43
         by_cases c44 : (Op.bytesLess a1_0.toList (((rd_T45 l0_0 x7_2).f0).toList)) = true
         ·rw [if_pos c44] at H
          have c44b0 : (Op.bytesLess a1_0.toList (((rd_T45 l0_0 x7_2).f0).toList)) = true := c44
          clear c44
          by_cases c45 : x165000_2.length < 3518437208883
          ·rw [if_pos c45] at H
           have LMc45 := aM c45
           clear c45
           obtain ⟨y175, hy175⟩ : ∃ y_ : List (S45), y_ = (x165000_2 ++ [(⟨(rd_T45 l0_0 x7_2).f0, (rd_T45 l0_0 x7_2).f1, (rd_T45 l0_0 x7_2).f2⟩ : S45)]) := ⟨_, rfl⟩
           replace H : (spec_l03Put.l1 k2 (wrap64 (x7_2 + 1)) l0_0 a1_0 a1_1 a1_2 y175) = some r := by first | (rw [hy175]; with_reducible exact H) | (have H2_ := (Option.bind_some _ _).symm.trans H; rw [hy175]; with_reducible exact H2_) | (have H2_ := (Option.bind_some _ _).symm.trans H; with_reducible exact H2_) | with_reducible exact H | (rw [hy175]; exact H) | exact H
           have Ny175 := aM hy175
           clear hy175
           have H' := aM H
           clear H
           have hnb46 := NB161_162.out
           have hnc46 := NB162_161.out
           have hnb47 := NB161_163.out
           have hnc47 := NB163_161.out
           have hnb48 := NB161_164.out
           have hnc48 := NB164_161.out
           have hcz49_0 := czA BK161.out 0 (.slice A0_0 l0_0.length c0_0)
           have hfz49_0 := blk_frozen BK161.out 0
           try go_wp2
           have n0_ := aM (Kd.R_drew HO_165000.out)
           have n1_ := aM (blk_drew BK161.out)
           have n2_ := aM (blk_drew BK162.out)
           have n3_ := aM (blk_drew BK163.out)
           have n4_ := aM (blk_drew BK164.out)
           have n5_ := aM (below_drew1 HB.out)
           clear HO_165000 BK161 BK162 BK163 BK164 HB; have HO_165000 := n0_; have BK161 := n1_; have BK162 := n2_; have BK163 := n3_; have BK164 := n4_; have HB := n5_; clear n0_ n1_ n2_ n3_ n4_ n5_
           have p173 : 0 ≤ (x7_2 : Int) := of_decide_eq_true (by first | (with_reducible assumption) | assumption)
           have q173 : x7_2 < (l0_0.length : Int) := of_decide_eq_true (by first | (with_reducible assumption) | assumption)
           obtain ⟨ad173, e173, hx173_0, hx173_1, hx173_2⟩ := at_T45 HR0_0.out x7_2 p173 q173
           have hw173_2 := hx173_2; have hw173_1 := hx173_1; have hw173_0 := hx173_0
           cases e173
           replace hx173_0 := (HB.out.cell (World.block_lt_of_cell? w _ hx173_0)).trans hx173_0
           replace hx173_1 := (HB.out.cell (World.block_lt_of_cell? w _ hx173_1)).trans hx173_1
           replace hx173_2 := (HB.out.cell (World.block_lt_of_cell? w _ hx173_2)).trans hx173_2
           replace p173 := eq_true p173
           replace q173 := eq_true q173
           refine start_ (n := 9) (S := fun w' => w'.cell? ⟨gb161, 0, none⟩ = some (.slice (some ad173) l0_0.length c0_0) ∧ w'.cell? ⟨gb162, 0, none⟩ = some (.string a1_0) ∧ w'.cell? ⟨gb162, 1, none⟩ = some (.string a1_1) ∧ w'.cell? ⟨gb162, 2, none⟩ = some (.int .i64 a1_2) ∧ w'.cell? (ad173.add ((x7_2).toNat * 3)) = some (.string ((rd_T45 l0_0 x7_2).f0)) ∧ w'.cell? ⟨(ad173.add ((x7_2).toNat * 3)).block, (ad173.add ((x7_2).toNat * 3)).off + 1, none⟩ = some (.string ((rd_T45 l0_0 x7_2).f1)) ∧ w'.cell? ⟨(ad173.add ((x7_2).toNat * 3)).block, (ad173.add ((x7_2).toNat * 3)).off + 2, none⟩ = some (.int .i64 ((rd_T45 l0_0 x7_2).f2))) (ds := []) #[false, false, false, false, false, false, false, false, false] (by kernel_rfl) rfl rfl ⟨(blk_cell BK161.out 0).trans rfl, (blk_cell BK162.out 0).trans rfl, (blk_cell BK162.out 1).trans rfl, (blk_cell BK162.out 2).trans rfl, ((HB.out.cell (World.block_lt_of_cell? w _ hw173_0)).trans hw173_0), ((HB.out.cell (World.block_lt_of_cell? w _ hw173_1)).trans hw173_1), ((HB.out.cell (World.block_lt_of_cell? w _ hw173_2)).trans hw173_2)⟩ (fun hHeld => ?_); refine with_tabW spec_l03Put.tab11 spec_l03Put.bits11 (fun HT_ HW_ => ?_)
           generalize wr.drew = w50 at HO_165000 BK161 BK162 BK163 BK164 HB hx173_0 hx173_1 hx173_2 hHeld ⊢
           refine pX 0 48 (bB 9 1) (any_of HT_.out (by kernel_rfl)) ?_
           refine pX 2 50 (bB 9 5) (any_of HT_.out (by kernel_rfl)) ?_
           refine pX 6 54 (bB 9 69) (any_of HT_.out (by kernel_rfl)) ?_
           refine take_ (i := 1) (N := some 49) (v := ?_) (a' := ?_) (bB 9 71) rfl rfl (take_ofW HT_.out HW_.out (by kernel_rfl)) (fun _ _ _ h => h) (Or.inl ⟨by rfl, ?_⟩) hHeld ?_ ?_
           rotate_left
           ·rintro w' ⟨s0, s1, s2, s3, s4, s5, s6⟩
            go_simp
            with_reducible rfl
           rotate_left
           ·simp only [aP, aQ, sT, sZ, sU, i64_w, i32_w]
            rfl
           refine pX 3 51 (bB 9 79) (any_of HT_.out (by kernel_rfl)) ?_
           refine pX 4 52 (bB 9 95) (any_of HT_.out (by kernel_rfl)) ?_
           refine take_ (i := 5) (N := some 53) (v := ?_) (a' := ?_) (bB 9 127) rfl rfl (take_ofW HT_.out HW_.out (by kernel_rfl)) (fun _ _ _ h => h) (Or.inl ⟨by rfl, ?_⟩) hHeld ?_ ?_
           rotate_left
           ·rintro w' ⟨s0, s1, s2, s3, s4, s5, s6⟩
            go_simp
            with_reducible rfl
           rotate_left
           ·simp only [aP, aQ, sT, sZ, sU, i64_w, i32_w]
            rfl
           refine take_ (i := 7) (N := some 55) (v := ?_) (a' := ?_) (bB 9 255) rfl rfl (take_ofW HT_.out HW_.out (by kernel_rfl)) (fun _ _ _ h => h) (Or.inl ⟨by rfl, ?_⟩) hHeld ?_ ?_
           rotate_left
           ·rintro w' ⟨s0, s1, s2, s3, s4, s5, s6⟩
            go_simp
            with_reducible rfl
           rotate_left
           ·simp only [aP, aQ, sT, sZ, sU, i64_w, i32_w]
            rfl
           refine pX 8 56 (bB 9 511) (any_of HT_.out (by kernel_rfl)) ?_
           refine done_ (done_of HT_.out (by kernel_rfl)) ?_
           try go_wp2
           have n0_ := aM (Kd.R_drew HO_165000.out)
           have n1_ := aM (blk_drew BK161.out)
           have n2_ := aM (blk_drew BK162.out)
           have n3_ := aM (blk_drew BK163.out)
           have n4_ := aM (blk_drew BK164.out)
           have n5_ := aM (below_drew1 HB.out)
           clear HO_165000 BK161 BK162 BK163 BK164 HB; have HO_165000 := n0_; have BK161 := n1_; have BK162 := n2_; have BK163 := n3_; have BK164 := n4_; have HB := n5_; clear n0_ n1_ n2_ n3_ n4_ n5_
           have p174 : 0 ≤ (x7_2 : Int) := of_decide_eq_true (by first | (with_reducible assumption) | assumption)
           have q174 : x7_2 < (l0_0.length : Int) := of_decide_eq_true (by first | (with_reducible assumption) | assumption)
           obtain ⟨ad174, e174, hx174_0, hx174_1, hx174_2⟩ := at_T45 HR0_0.out x7_2 p174 q174
           have hw174_2 := hx174_2; have hw174_1 := hx174_1; have hw174_0 := hx174_0
           obtain rfl : ad173 = ad174 := (by injection e174)
           replace hx174_0 := (HB.out.cell (World.block_lt_of_cell? w _ hx174_0)).trans hx174_0
           replace hx174_1 := (HB.out.cell (World.block_lt_of_cell? w _ hx174_1)).trans hx174_1
           replace hx174_2 := (HB.out.cell (World.block_lt_of_cell? w _ hx174_2)).trans hx174_2
           replace p174 := eq_true p174
           replace q174 := eq_true q174
           refine start_ (n := 11) (S := fun w' => w'.cell? ⟨gb164, 0, none⟩ = some (u165000) ∧ w'.cell? ⟨gb161, 0, none⟩ = some (.slice (some ad173) l0_0.length c0_0) ∧ w'.cell? (ad173.add ((x7_2).toNat * 3)) = some (.string ((rd_T45 l0_0 x7_2).f0)) ∧ w'.cell? ⟨(ad173.add ((x7_2).toNat * 3)).block, (ad173.add ((x7_2).toNat * 3)).off + 1, none⟩ = some (.string ((rd_T45 l0_0 x7_2).f1)) ∧ w'.cell? ⟨(ad173.add ((x7_2).toNat * 3)).block, (ad173.add ((x7_2).toNat * 3)).off + 2, none⟩ = some (.int .i64 ((rd_T45 l0_0 x7_2).f2))) (ds := [10]) #[false, false, false, false, false, false, false, false, false, false, false] (by kernel_rfl) rfl rfl ⟨(blk_cell BK164.out 0).trans rfl, (blk_cell BK161.out 0).trans rfl, ((HB.out.cell (World.block_lt_of_cell? w _ hw174_0)).trans hw174_0), ((HB.out.cell (World.block_lt_of_cell? w _ hw174_1)).trans hw174_1), ((HB.out.cell (World.block_lt_of_cell? w _ hw174_2)).trans hw174_2)⟩ (fun hHeld => ?_); refine with_tabW spec_l03Put.tab12 spec_l03Put.bits12 (fun HT_ HW_ => ?_)
           generalize w50.drew = w51 at HO_165000 BK161 BK162 BK163 BK164 HB hx174_0 hx174_1 hx174_2 hHeld ⊢
           refine pX 0 57 (bB 11 1) (any_of HT_.out (by kernel_rfl)) ?_
           refine pX 2 59 (bB 11 5) (any_of HT_.out (by kernel_rfl)) ?_
           refine pX 4 61 (bB 11 21) (any_of HT_.out (by kernel_rfl)) ?_
           refine take_ (i := 1) (N := some 58) (v := ?_) (a' := ?_) (bB 11 23) rfl rfl (take_ofW HT_.out HW_.out (by kernel_rfl)) (fun _ _ _ h => h) (Or.inl ⟨by rfl, ?_⟩) hHeld ?_ ?_
           rotate_left
           ·rintro w' ⟨s0, s1, s2, s3, s4⟩
            go_simp
            with_reducible rfl
           rotate_left
           ·simp only [aP, aQ, sT, sZ, sU, i64_w, i32_w]
            rfl
           refine take_ (i := 3) (N := some 60) (v := ?_) (a' := ?_) (bB 11 31) rfl rfl (take_ofW HT_.out HW_.out (by kernel_rfl)) (fun _ _ _ h => h) (Or.inl ⟨by rfl, ?_⟩) hHeld ?_ ?_
           rotate_left
           ·rintro w' ⟨s0, s1, s2, s3, s4⟩
            go_simp
            with_reducible rfl
           rotate_left
           ·simp only [aP, aQ, sT, sZ, sU, i64_w, i32_w]
            rfl
           refine pX 5 62 (bB 11 63) (any_of HT_.out (by kernel_rfl)) ?_
           refine take_ (i := 6) (N := some 63) (v := ?_) (a' := ?_) (bB 11 127) rfl rfl (take_ofW HT_.out HW_.out (by kernel_rfl)) (fun _ _ _ h => h) (Or.inl ⟨by rfl, ?_⟩) hHeld ?_ ?_
           rotate_left
           ·rintro w' ⟨s0, s1, s2, s3, s4⟩
            go_simp
            with_reducible rfl
           rotate_left
           ·simp only [aP, aQ, sT, sZ, sU, i64_w, i32_w]
            rfl
           refine one_ (i := 7) (N := some 64) (bB 11 255) rfl rfl (one_of HT_.out (by kernel_rfl)) (by decide) (fun K hK => ?_)
           refine value_ (w1 := ?_) (v := ?_) (by rfl) rfl ?_ ?_
           rotate_left 2
           ·go_simp
            constructor
            ·rfl
            ·rfl
           refine hK.out _ _ ⟨(blk_cell (blk_alloc BK164.out _) 0).trans rfl, (blk_cell (blk_alloc BK161.out _) 0).trans rfl, (World.cell?_alloc_lt _ _ _ (World.block_lt_of_cell? _ _ (((HB.out.cell (World.block_lt_of_cell? w _ hw174_0)).trans hw174_0)))).trans (((HB.out.cell (World.block_lt_of_cell? w _ hw174_0)).trans hw174_0)), (World.cell?_alloc_lt _ _ _ (World.block_lt_of_cell? _ _ (((HB.out.cell (World.block_lt_of_cell? w _ hw174_1)).trans hw174_1)))).trans (((HB.out.cell (World.block_lt_of_cell? w _ hw174_1)).trans hw174_1)), (World.cell?_alloc_lt _ _ _ (World.block_lt_of_cell? _ _ (((HB.out.cell (World.block_lt_of_cell? w _ hw174_2)).trans hw174_2)))).trans (((HB.out.cell (World.block_lt_of_cell? w _ hw174_2)).trans hw174_2))⟩ (fun hHeld => ?_)
           clear hK K
           refine norm_ (a' := ?_) ?_ ?_
           rotate_left
           ·show Act.put _ (some 64) _ = _
            simp only [aP, aQ, sT, sZ, sU, i64_w, i32_w]
            rfl
           refine one_ (i := 8) (N := some 65) (bB 11 511) rfl rfl (one_of HT_.out (by kernel_rfl)) (by decide) (fun K hK => ?_)
           refine Kd.R_append_step k45 (w0 := w) w.heap.size (by rfl) (.tmp 58) (.tmp 64) 28 45 (.agg #[(.string ⟨#[]⟩), (.string ⟨#[]⟩), (.int .i64 0)]) 40 rfl Try.underlying28 info45 rfl (by decide) (by omega) u165000 x165000_2 (⟨(rd_T45 l0_0 x7_2).f0, (rd_T45 l0_0 x7_2).f1, (rd_T45 l0_0 x7_2).f2⟩ : S45) [.string ((rd_T45 l0_0 x7_2).f0), .string ((rd_T45 l0_0 x7_2).f1), .int .i64 ((rd_T45 l0_0 x7_2).f2)] (fun k_ => k_ ≠ gb162) (fun _ => False) rfl rfl ?aP (fun _ hk => hk.elim) ?aF ?aO ?aB ?aS ?aL ?_
           (case aP => exact k45_mkM _ _ _ (⟨(rd_T45 l0_0 x7_2).f0, (rd_T45 l0_0 x7_2).f1, (rd_T45 l0_0 x7_2).f2⟩ : S45))
           (case aB => exact (uL HB))
           (case aF => exact (fun k_ hk => Kd.freshB (g := gb162) (o := .cells #[.string a1_0, .string a1_1, .int .i64 a1_2] 45 (0, 0)) (uB BK162) k_ hk))
           (case aO => exact (uR HO_165000))
           (case aS => exact (below_size (uL HB)))
           (case aL => have := LMc45.out; omega)
           intro v176 w52 ho hb hg hat
           rw [← Ny175.out] at ho
           have n0_ := aM (blk_grown (g := gb161) (o := .cells #[.slice (some ad173) l0_0.length c0_0] 30 (0, 0)) (uB BK161) hg (Kd.R_ne HO_165000.out BK161.out (by decide)))
           have n1_ := aM (blk_grown (g := gb162) (o := .cells #[.string a1_0, .string a1_1, .int .i64 a1_2] 45 (0, 0)) (uB BK162) hg (Kd.R_away HO_165000.out (fun _ hk => hk)))
           have n2_ := aM (blk_grown (g := gb163) (o := .cells #[.slice none 0 0] 30 (0, 0)) (uB BK163) hg (Kd.R_ne HO_165000.out BK163.out (by decide)))
           have n3_ := aM (blk_grown (g := gb164) (o := .cells #[u165000] 30 (0, 0)) (uB BK164) hg (Kd.R_ne HO_165000.out BK164.out (by decide)))
           have n4_ := aM (hb)
           have n5_ := aM (ho)
           clear BK161 BK162 BK163 BK164 HB HO_165000; have BK161 := n0_; have BK162 := n1_; have BK163 := n2_; have BK164 := n3_; have HB := n4_; have HO177 := n5_; clear n0_ n1_ n2_ n3_ n4_ n5_ ho hb hg hat
           obtain ⟨Ao53, co53, eo53⟩ := Kd.R_slice HO177.out
           (first | subst eo53 | (injection eo53 with f1_ f2_ f3_; have f4_ := f1_.symm; have f5_ := f3_.symm; clear f1_ f2_ f3_; subst f4_; subst f5_))
           refine hK.out _ _ ⟨(blk_cell BK164.out 0).trans rfl, (blk_cell BK161.out 0).trans rfl, ((HB.out.cell (World.block_lt_of_cell? w _ hw174_0)).trans hw174_0), ((HB.out.cell (World.block_lt_of_cell? w _ hw174_1)).trans hw174_1), ((HB.out.cell (World.block_lt_of_cell? w _ hw174_2)).trans hw174_2)⟩ (fun hHeld => ?_)
           clear hK K
           refine norm_ (a' := ?_) ?_ ?_
           rotate_left
           ·show Act.put _ (some 65) _ = _
            simp only [aP, aQ, sT, sZ, sU, i64_w, i32_w]
            rfl
           refine pX 9 66 (bB 11 1023) (any_of HT_.out (by kernel_rfl)) ?_
           refine last_ (i := 10) (N := none) (bB 11 2047) rfl rfl (one_of HT_.out (by kernel_rfl)) (by decide) (fun K hK => ?_)
           have hs54 := czA BK164.out 0 (u165000)
           have hfs54 := blk_frozen BK164.out 0
           have hns54_0 := NB161_164.out
           have hns54_1 := NB162_164.out
           have hns54_2 := NB163_164.out
           have hms54_0 := NB164_161.out
           have hms54_1 := NB164_162.out
           have hms54_2 := NB164_163.out
           refine skip_ (w1 := ?_) (by rfl) rfl ?_ ?_
           rotate_left
           ·go_simp
            rfl
           refine hK.out _ _ ?_
           clear hK K
           refine done_ (done_of HT_.out (by kernel_rfl)) ?_
           try go_wp2
           go_roundg k2
           case measure => have := HK1.out; have := HK2.out; omega
           case rel => exact ⟨(wrap64 (x7_2 + 1)), (y175), (.slice Ao53 y175.length co53), (by first | rfl | (simp; done) | (simp [*]; done)), H', ⟨by have := HK1.out; have := HK2.out; omega⟩, ⟨by (with_reducible repeat first | apply rA | apply rN | apply rD); exact Kd.R_mono (Kd.R_far (p := ⟨gb164, 0, none⟩) (Kd.R_types HO177.out BK164.out (by decide)) (fun _ hk => hk.2) (.slice Ao53 y175.length co53)) (fun _ hk => hk.1)⟩, ⟨by (with_reducible repeat first | apply bN | apply bD | apply bA); refine blk_far ?_ NB161_164.out _; (with_reducible repeat first | apply bN | apply bD | apply bA); exact BK161.out⟩, ⟨by (with_reducible repeat first | apply bN | apply bD | apply bA); refine blk_far ?_ NB162_164.out _; (with_reducible repeat first | apply bN | apply bD | apply bA); exact BK162.out⟩, ⟨by (with_reducible repeat first | apply bN | apply bD | apply bA); refine blk_far ?_ NB163_164.out _; (with_reducible repeat first | apply bN | apply bD | apply bA); exact BK163.out⟩, ⟨by (with_reducible repeat first | apply bN | apply bD | apply bA); refine blk_put (cs := #[u165000]) ?_ 0 _ rfl; (with_reducible repeat first | apply bN | apply bD | apply bA); exact BK164.out⟩, ⟨uL HB⟩⟩
          ·rw [if_neg c45] at H
           exact absurd H (by simp)
         ·rw [if_neg c44] at H
          have c44b0 : (Op.bytesLess a1_0.toList (((rd_T45 l0_0 x7_2).f0).toList)) = false := by simpa using c44
          clear c44
          have H' := aM H
          clear H
          have hnb55 := NB161_162.out
          have hnc55 := NB162_161.out
          have hnb56 := NB161_163.out
          have hnc56 := NB163_161.out
          have hnb57 := NB161_164.out
          have hnc57 := NB164_161.out
          have hcz58_0 := czA BK161.out 0 (.slice A0_0 l0_0.length c0_0)
          have hfz58_0 := blk_frozen BK161.out 0
          try go_wp2
          have n0_ := aM (Kd.R_drew HO_165000.out)
          have n1_ := aM (blk_drew BK161.out)
          have n2_ := aM (blk_drew BK162.out)
          have n3_ := aM (blk_drew BK163.out)
          have n4_ := aM (blk_drew BK164.out)
          have n5_ := aM (below_drew1 HB.out)
          clear HO_165000 BK161 BK162 BK163 BK164 HB; have HO_165000 := n0_; have BK161 := n1_; have BK162 := n2_; have BK163 := n3_; have BK164 := n4_; have HB := n5_; clear n0_ n1_ n2_ n3_ n4_ n5_
          have p173 : 0 ≤ (x7_2 : Int) := of_decide_eq_true (by first | (with_reducible assumption) | assumption)
          have q173 : x7_2 < (l0_0.length : Int) := of_decide_eq_true (by first | (with_reducible assumption) | assumption)
          obtain ⟨ad173, e173, hx173_0, hx173_1, hx173_2⟩ := at_T45 HR0_0.out x7_2 p173 q173
          have hw173_2 := hx173_2; have hw173_1 := hx173_1; have hw173_0 := hx173_0
          cases e173
          replace hx173_0 := (HB.out.cell (World.block_lt_of_cell? w _ hx173_0)).trans hx173_0
          replace hx173_1 := (HB.out.cell (World.block_lt_of_cell? w _ hx173_1)).trans hx173_1
          replace hx173_2 := (HB.out.cell (World.block_lt_of_cell? w _ hx173_2)).trans hx173_2
          replace p173 := eq_true p173
          replace q173 := eq_true q173
          refine start_ (n := 9) (S := fun w' => w'.cell? ⟨gb161, 0, none⟩ = some (.slice (some ad173) l0_0.length c0_0) ∧ w'.cell? ⟨gb162, 0, none⟩ = some (.string a1_0) ∧ w'.cell? ⟨gb162, 1, none⟩ = some (.string a1_1) ∧ w'.cell? ⟨gb162, 2, none⟩ = some (.int .i64 a1_2) ∧ w'.cell? (ad173.add ((x7_2).toNat * 3)) = some (.string ((rd_T45 l0_0 x7_2).f0)) ∧ w'.cell? ⟨(ad173.add ((x7_2).toNat * 3)).block, (ad173.add ((x7_2).toNat * 3)).off + 1, none⟩ = some (.string ((rd_T45 l0_0 x7_2).f1)) ∧ w'.cell? ⟨(ad173.add ((x7_2).toNat * 3)).block, (ad173.add ((x7_2).toNat * 3)).off + 2, none⟩ = some (.int .i64 ((rd_T45 l0_0 x7_2).f2))) (ds := []) #[false, false, false, false, false, false, false, false, false] (by kernel_rfl) rfl rfl ⟨(blk_cell BK161.out 0).trans rfl, (blk_cell BK162.out 0).trans rfl, (blk_cell BK162.out 1).trans rfl, (blk_cell BK162.out 2).trans rfl, ((HB.out.cell (World.block_lt_of_cell? w _ hw173_0)).trans hw173_0), ((HB.out.cell (World.block_lt_of_cell? w _ hw173_1)).trans hw173_1), ((HB.out.cell (World.block_lt_of_cell? w _ hw173_2)).trans hw173_2)⟩ (fun hHeld => ?_); refine with_tabW spec_l03Put.tab11 spec_l03Put.bits11 (fun HT_ HW_ => ?_)
          generalize wr.drew = w59 at HO_165000 BK161 BK162 BK163 BK164 HB hx173_0 hx173_1 hx173_2 hHeld ⊢
          refine pX 0 48 (bB 9 1) (any_of HT_.out (by kernel_rfl)) ?_
          refine pX 2 50 (bB 9 5) (any_of HT_.out (by kernel_rfl)) ?_
          refine pX 6 54 (bB 9 69) (any_of HT_.out (by kernel_rfl)) ?_
          refine take_ (i := 1) (N := some 49) (v := ?_) (a' := ?_) (bB 9 71) rfl rfl (take_ofW HT_.out HW_.out (by kernel_rfl)) (fun _ _ _ h => h) (Or.inl ⟨by rfl, ?_⟩) hHeld ?_ ?_
          rotate_left
          ·rintro w' ⟨s0, s1, s2, s3, s4, s5, s6⟩
           go_simp
           with_reducible rfl
          rotate_left
          ·simp only [aP, aQ, sT, sZ, sU, i64_w, i32_w]
           rfl
          refine pX 3 51 (bB 9 79) (any_of HT_.out (by kernel_rfl)) ?_
          refine pX 4 52 (bB 9 95) (any_of HT_.out (by kernel_rfl)) ?_
          refine take_ (i := 5) (N := some 53) (v := ?_) (a' := ?_) (bB 9 127) rfl rfl (take_ofW HT_.out HW_.out (by kernel_rfl)) (fun _ _ _ h => h) (Or.inl ⟨by rfl, ?_⟩) hHeld ?_ ?_
          rotate_left
          ·rintro w' ⟨s0, s1, s2, s3, s4, s5, s6⟩
           go_simp
           with_reducible rfl
          rotate_left
          ·simp only [aP, aQ, sT, sZ, sU, i64_w, i32_w]
           rfl
          refine take_ (i := 7) (N := some 55) (v := ?_) (a' := ?_) (bB 9 255) rfl rfl (take_ofW HT_.out HW_.out (by kernel_rfl)) (fun _ _ _ h => h) (Or.inl ⟨by rfl, ?_⟩) hHeld ?_ ?_
          rotate_left
          ·rintro w' ⟨s0, s1, s2, s3, s4, s5, s6⟩
           go_simp
           with_reducible rfl
          rotate_left
          ·simp only [aP, aQ, sT, sZ, sU, i64_w, i32_w]
           rfl
          refine pX 8 56 (bB 9 511) (any_of HT_.out (by kernel_rfl)) ?_
          refine done_ (done_of HT_.out (by kernel_rfl)) ?_
          try go_wp2
          go_roundg k2
          case measure => have := HK1.out; have := HK2.out; omega
          case rel => exact ⟨(wrap64 (x7_2 + 1)), (x165000_2), (u165000), (by first | rfl | (simp; done) | (simp [*]; done)), H', ⟨by have := HK1.out; have := HK2.out; omega⟩, ⟨by (with_reducible repeat first | apply rA | apply rN | apply rD); exact HO_165000.out⟩, ⟨by (with_reducible repeat first | apply bN | apply bD | apply bA); exact BK161.out⟩, ⟨by (with_reducible repeat first | apply bN | apply bD | apply bA); exact BK162.out⟩, ⟨by (with_reducible repeat first | apply bN | apply bD | apply bA); exact BK163.out⟩, ⟨by (with_reducible repeat first | apply bN | apply bD | apply bA); exact BK164.out⟩, ⟨uL HB⟩⟩
        ·rw [if_neg c43] at H
         exact absurd H (by simp)
       ·rw [if_neg c42] at H
        have c42b0 : decide (x7_2 < (l0_0.length : Int)) = false := decide_eq_false c42
        clear c42
        obtain rfl := Option.some.inj H
        have hnb60 := NB161_162.out
        have hnc60 := NB162_161.out
        have hnb61 := NB161_163.out
        have hnc61 := NB163_161.out
        have hnb62 := NB161_164.out
        have hnc62 := NB164_161.out
        have hcz63_0 := czA BK161.out 0 (.slice A0_0 l0_0.length c0_0)
        have hfz63_0 := blk_frozen BK161.out 0
        have hnb64 := NB164_162.out
        have hnc64 := NB162_164.out
        have hnb65 := NB164_163.out
        have hnc65 := NB163_164.out
        have hcz66_0 := czA BK164.out 0 (u165000)
        have hfz66_0 := blk_frozen BK164.out 0
        obtain ⟨Ao67, co67, eo67⟩ := Kd.R_slice HO_165000.out
        subst eo67
        have hnb68 := NB163_162.out
        have hnc68 := NB162_163.out
        have hcz69_0 := czA BK163.out 0 (.slice none 0 0)
        have hfz69_0 := blk_frozen BK163.out 0
        go_wp2
        refine bodyPost_ret (results_cell_row rfl _ _ gb163 30 #[.slice Ao67 x165000_2.length co67] (0, 0) _ rfl (by (with_reducible repeat first | apply bN | apply bD | apply bA); refine blk_put (cs := #[.slice none 0 0]) ?_ 0 _ rfl; (with_reducible repeat first | apply bN | apply bD | apply bA); exact BK163.out) Try.underlying30 rfl (by kernel_rfl)) rfl ?_
        exact ⟨_, by first | rfl | (simp [errW_none, errW_some] <;> rfl) | (simp [*, errW_none, errW_some] <;> rfl), by (with_reducible repeat first | apply rA | apply rN | apply rD); exact Kd.R_mono (Kd.R_far (p := ⟨gb163, 0, none⟩) (Kd.R_types HO_165000.out BK163.out (by decide)) (fun _ hk => hk.2) (.slice Ao67 x165000_2.length co67)) (fun _ hk => trivial), uL HB⟩
    ·rw [if_neg c29] at H
     exact absurd H (by simp)

end Go.Proofs.Ytidfhfaekdahpaa.QFnExactDoActs
