-- Own work (wip/turnprint.py over the kit's print).
import Derived.Test.YtidfhfaekdahpaaQFnExactCutActsx0
namespace Go.Proofs.Ytidfhfaekdahpaa.QFnExactCutActs
open Go.RowKit Go.Proofs.YtidfhfaekdahpaaW.PrintWords Go.Proofs.YtidfhfaekdahpaaW.PrintLast
attribute [local go_sem] Go.Proofs.YtidfhfaekdahpaaQWords.run_lss_str
attribute [local go_sem] Go.Proofs.YtidfhfaekdahpaaQWords.run_geq_str
attribute [local go_sem] Go.Proofs.YtidfhfaekdahpaaQWords.run_leq_str
attribute [local go_sem] Go.Proofs.YtidfhfaekdahpaaQWords.run_gtr_str
set_option linter.unusedVariables false
set_option linter.unusedSimpArgs false

/-! ### spec_l03Put: function 79 -/
mutual
def spec_l03Put.l0 : Nat → Int → List (S45) → ByteArray → ByteArray → Int → List (S45) → Option ((List (S45)))
 | 0, _, _, _, _, _, _ => none
 | k + 1, x6, x226000, x227000, x227001, x227002, x229000 => if x6 < (x226000.length : Int) then (if 0 ≤ x6 then (if (Op.bytesLess (((rd_T45 x226000 x6).f0).toList) x227000.toList) = true then (if x229000.length < 3518437208883 then (spec_l03Put.l0 k (wrap64 (x6 + 1)) x226000 x227000 x227001 x227002 (x229000 ++ [(⟨(rd_T45 x226000 x6).f0, (rd_T45 x226000 x6).f1, (rd_T45 x226000 x6).f2⟩ : S45)])) else (none)) else (spec_l03Put.l0 k (wrap64 (x6 + 1)) x226000 x227000 x227001 x227002 x229000)) else (none)) else (if x229000.length < 3518437208883 then (spec_l03Put.l1 k 0 x226000 x227000 x227001 x227002 (x229000 ++ [(⟨x227000, x227001, x227002⟩ : S45)])) else (none))
def spec_l03Put.l1 : Nat → Int → List (S45) → ByteArray → ByteArray → Int → List (S45) → Option ((List (S45)))
 | 0, _, _, _, _, _, _ => none
 | k + 1, x7, x226000, x227000, x227001, x227002, x229000 => if x7 < (x226000.length : Int) then (if 0 ≤ x7 then (if (Op.bytesLess x227000.toList (((rd_T45 x226000 x7).f0).toList)) = true then (if x229000.length < 3518437208883 then (spec_l03Put.l1 k (wrap64 (x7 + 1)) x226000 x227000 x227001 x227002 (x229000 ++ [(⟨(rd_T45 x226000 x7).f0, (rd_T45 x226000 x7).f1, (rd_T45 x226000 x7).f2⟩ : S45)])) else (none)) else (spec_l03Put.l1 k (wrap64 (x7 + 1)) x226000 x227000 x227001 x227002 x229000)) else (none)) else (some x229000)
end
def spec_l03Put.f (k : Nat) (l0_0 : List (S45)) (a1_0 : ByteArray) (a1_1 : ByteArray) (a1_2 : Int) : Option ((List (S45))) := spec_l03Put.l0 k 0 l0_0 a1_0 a1_1 a1_2 ([] : List (S45))
theorem spec_l03Put.mono_l : ∀ k, (∀ y0 y1 y2 y3 y4 y5, LeO (spec_l03Put.l0 k y0 y1 y2 y3 y4 y5) (spec_l03Put.l0 (k + 1) y0 y1 y2 y3 y4 y5)) ∧ (∀ y0 y1 y2 y3 y4 y5, LeO (spec_l03Put.l1 k y0 y1 y2 y3 y4 y5) (spec_l03Put.l1 (k + 1) y0 y1 y2 y3 y4 y5))
 | 0 => ⟨fun _ _ _ _ _ _ r h => by simp [spec_l03Put.l0] at h, fun _ _ _ _ _ _ r h => by simp [spec_l03Put.l1] at h⟩
 | k + 1 => by
  obtain ⟨ih0, ih1⟩ := spec_l03Put.mono_l k
  refine ⟨?_, ?_⟩
  ·intro y0 y1 y2 y3 y4 y5
   unfold spec_l03Put.l0
   repeat' first
   | (with_reducible exact ih0 _ _ _ _ _ _)
   | (with_reducible exact ih1 _ _ _ _ _ _)
   | (with_reducible exact LeO.refl _)
   | (with_reducible exact LeO.none _)
   | (with_reducible refine LeO.ite ?_ ?_)
   | (with_reducible refine LeO.bind ?_ (fun _ => ?_))
   | exact ih0 _ _ _ _ _ _
   | exact ih1 _ _ _ _ _ _
   | exact LeO.none _
   | refine LeO.ite ?_ ?_
   | refine LeO.bind ?_ (fun _ => ?_)
  ·intro y0 y1 y2 y3 y4 y5
   unfold spec_l03Put.l1
   repeat' first
   | (with_reducible exact ih0 _ _ _ _ _ _)
   | (with_reducible exact ih1 _ _ _ _ _ _)
   | (with_reducible exact LeO.refl _)
   | (with_reducible exact LeO.none _)
   | (with_reducible refine LeO.ite ?_ ?_)
   | (with_reducible refine LeO.bind ?_ (fun _ => ?_))
   | exact ih0 _ _ _ _ _ _
   | exact ih1 _ _ _ _ _ _
   | exact LeO.none _
   | refine LeO.ite ?_ ?_
   | refine LeO.bind ?_ (fun _ => ?_)
theorem spec_l03Put.mono : ∀ a0 a1 a2 a3 k, LeO (spec_l03Put.f k a0 a1 a2 a3) (spec_l03Put.f (k + 1) a0 a1 a2 a3) := by
 intro a0 a1 a2 a3 k
 obtain ⟨ih0, ih1⟩ := spec_l03Put.mono_l k
 unfold spec_l03Put.f
 repeat' first
  | (with_reducible exact ih0 _ _ _ _ _ _)
  | (with_reducible exact ih1 _ _ _ _ _ _)
  | (with_reducible exact LeO.refl _)
  | (with_reducible exact LeO.none _)
  | (with_reducible refine LeO.ite ?_ ?_)
  | (with_reducible refine LeO.bind ?_ (fun _ => ?_))
  | exact ih0 _ _ _ _ _ _
  | exact ih1 _ _ _ _ _ _
  | exact LeO.none _
  | refine LeO.ite ?_ ?_
  | refine LeO.bind ?_ (fun _ => ?_)
def spec_l03Put.T5 : Bool × List (List Nat × List Nat) := (true, [([], []), ([0], [0]), ([], []), ([1, 2], [1, 2]), ([3], [3]), ([4], [4]), ([], []), ([6], [6]), ([5, 7], [5, 7])])
def spec_l03Put.B5 : List Nat := [0, 1, 0, 7, 15, 31, 0, 64, 255]
theorem spec_l03Put.tab5 : rtab .any (opsOf Try.f79 5) = spec_l03Put.T5 := by kernel_rfl
theorem spec_l03Put.bits5 : waitsOk spec_l03Put.T5.2 spec_l03Put.B5 = true := by kernel_rfl
def spec_l03Put.T6 : Bool × List (List Nat × List Nat) := (true, [([], []), ([0], [0]), ([], []), ([2], [2]), ([], []), ([3, 4], [3, 4]), ([5], [5]), ([6], [6]), ([1, 7], [1, 7]), ([0, 1, 2, 3, 4, 5, 6, 7, 8], []), ([9, 8, 8, 0, 1, 2, 3, 4, 5, 6, 7, 8], [8, 9])])
def spec_l03Put.B6 : List Nat := [0, 1, 0, 4, 0, 28, 60, 124, 255, 511, 1023]
theorem spec_l03Put.tab6 : rtab .any (opsOf Try.f79 6) = spec_l03Put.T6 := by kernel_rfl
theorem spec_l03Put.bits6 : waitsOk spec_l03Put.T6.2 spec_l03Put.B6 = true := by kernel_rfl
def spec_l03Put.T11 : Bool × List (List Nat × List Nat) := (true, [([], []), ([0], [0]), ([], []), ([1, 2], [1, 2]), ([3], [3]), ([4], [4]), ([], []), ([6], [6]), ([5, 7], [5, 7])])
def spec_l03Put.B11 : List Nat := [0, 1, 0, 7, 15, 31, 0, 64, 255]
theorem spec_l03Put.tab11 : rtab .any (opsOf Try.f79 11) = spec_l03Put.T11 := by kernel_rfl
theorem spec_l03Put.bits11 : waitsOk spec_l03Put.T11.2 spec_l03Put.B11 = true := by kernel_rfl
def spec_l03Put.T12 : Bool × List (List Nat × List Nat) := (true, [([], []), ([0], [0]), ([], []), ([2], [2]), ([], []), ([3, 4], [3, 4]), ([5], [5]), ([6], [6]), ([1, 7], [1, 7]), ([0, 1, 2, 3, 4, 5, 6, 7, 8], []), ([9, 8, 8, 0, 1, 2, 3, 4, 5, 6, 7, 8], [8, 9])])
def spec_l03Put.B12 : List Nat := [0, 1, 0, 4, 0, 28, 60, 124, 255, 511, 1023]
theorem spec_l03Put.tab12 : rtab .any (opsOf Try.f79 12) = spec_l03Put.T12 := by kernel_rfl
theorem spec_l03Put.bits12 : waitsOk spec_l03Put.T12.2 spec_l03Put.B12 = true := by kernel_rfl
set_option maxHeartbeats 8000000 in
set_option maxRecDepth 100000 in
theorem spec_l03Put.calls (k : Nat) (A0_0 : Option Addr) (c0_0 : Nat) (l0_0 : List (S45)) (a1_0 : ByteArray) (a1_1 : ByteArray) (a1_2 : Int) (r : List (S45)) (w : World) (hr0_0 : Kd.C k45 w A0_0 l0_0.length l0_0) (hc0_0 : l0_0.length ≤ c0_0) (h : spec_l03Put.f k l0_0 a1_0 a1_1 a1_2 = some r) :
 Calls Try.prog 79 #[.agg #[.slice A0_0 l0_0.length c0_0], .agg #[.string a1_0, .string a1_1, .int .i64 a1_2]] w fun e w' => ∃ v0_ : Value, e = .returned (.agg #[v0_]) ∧ Kd.R k45 45 w' w.heap.size (fun _ => True) v0_ r ∧ Below w.heap.size w w' := by
 have hu30 := Try.underlying30
 have hu45 := Try.underlying45
 have HR0_0 := aM hr0_0
 have HC0_0 := aM hc0_0
 clear hr0_0 hc0_0
 have HB := aM (Below.refl w.heap.size w)
 have H : (spec_l03Put.l0 k 0 l0_0 a1_0 a1_1 a1_2 ([] : List (S45))) = some r := h
 clear h
 have H' := aM H
 clear H
 go_enter Try.func79, Try.ntmps79
 go_wp2_with (first | ((with_reducible refine gate_dst (N := 2) rfl ?_); refine bxE 2 #[.slice A0_0 l0_0.length c0_0] 30 ?_; intro gb225 hg w3 hbox hb; have BK225 := aM (hbox); have GW225 := szG hg (uL HB); have GE225 := szG hg (uL HB); replace HB := aM (below_step (uL HB) hb); clear hb hbox hg) | ((with_reducible refine gate_dst (N := 3) rfl ?_); refine bxE 3 #[.string a1_0, .string a1_1, .int .i64 a1_2] 45 ?_; intro gb226 hg w4 hbox hb; have BK226 := aM (hbox); have GW226 := szG hg (uL HB); have GE226 := szG hg (uL HB); have NB225_226 := neL hg BK225; have NB226_225 := neG hg BK225; replace BK225 := blkB BK225 hb; replace HB := aM (below_step (uL HB) hb); clear hb hbox hg) | ((with_reducible refine gate_dst (N := 4) rfl ?_); refine bxE 4 #[.slice none 0 0] 30 ?_; intro gb227 hg w5 hbox hb; have BK227 := aM (hbox); have GW227 := szG hg (uL HB); have GE227 := szG hg (uL HB); have NB225_227 := neL hg BK225; have NB227_225 := neG hg BK225; have NB226_227 := neL hg BK226; have NB227_226 := neG hg BK226; replace BK225 := blkB BK225 hb; replace BK226 := blkB BK226 hb; replace HB := aM (below_step (uL HB) hb); clear hb hbox hg) | ((with_reducible refine gate_dst (N := 5) rfl ?_); refine bxE 5 #[.slice none 0 0] 30 ?_; intro gb228 hg w6 hbox hb; have BK228 := aM (hbox); have GW228 := szG hg (uL HB); have GE228 := szG hg (uL HB); have NB225_228 := neL hg BK225; have NB228_225 := neG hg BK225; have NB226_228 := neL hg BK226; have NB228_226 := neG hg BK226; have NB227_228 := neL hg BK227; have NB228_227 := neG hg BK227; replace BK225 := blkB BK225 hb; replace BK226 := blkB BK226 hb; replace BK227 := blkB BK227 hb; replace HB := aM (below_step (uL HB) hb); clear hb hbox hg; have hnb7 := NB228_225.out; have hnc7 := NB225_228.out; have hnb8 := NB228_226.out; have hnc8 := NB226_228.out; have hnb9 := NB228_227.out; have hnc9 := NB227_228.out; have hcz10_0 := czA BK228.out 0 (.slice none 0 0); have hfz10_0 := blk_frozen BK228.out 0))
 go_loopg [6] k (fun kq v6 w' => ∃ (x6_1 : Int) (x229000_1 : List (S45)) (u229000 : Value), v6 = .int .i64 x6_1 ∧ Aside0 (spec_l03Put.l0 kq x6_1 l0_0 a1_0 a1_1 a1_2 x229000_1 = some r) ∧ Aside0 (kq ≤ k) ∧ Aside0 (Kd.R k45 45 w' w.heap.size (fun k_ => k_ ≠ gb226) u229000 x229000_1) ∧ Aside0 (w'.heap[gb225]? = some (.cells #[(.slice A0_0 l0_0.length c0_0)] 30 (0, 0))) ∧ Aside0 (w'.heap[gb226]? = some (.cells #[.string a1_0, .string a1_1, .int .i64 a1_2] 45 (0, 0))) ∧ Aside0 (w'.heap[gb227]? = some (.cells #[(.slice none 0 0)] 30 (0, 0))) ∧ Aside0 (w'.heap[gb228]? = some (.cells #[u229000] 30 (0, 0))) ∧ Aside0 (Below w.heap.size w w'))
 case atStart => exact ⟨(0), (([] : List (S45))), (.slice none 0 0), (by first | rfl | (simp; done) | (simp [*]; done)), H', ⟨Nat.le_refl _⟩, ⟨by first | exact Kd.R_nil _ _ _ _ _ | exact Kd.N_nil _ _ _ _ _ | exact Kd.V_nil _ _ _ _ _ | exact Kd.Q_nil _ _ _ _ _ | exact Kd.S_nil _ _ _ _ _⟩, ⟨by refine nB ?_; refine blk_far ?_ NB225_228.out _; exact nB BK225.out⟩, ⟨by refine nB ?_; refine blk_far ?_ NB226_228.out _; exact nB BK226.out⟩, ⟨by refine nB ?_; refine blk_far ?_ NB227_228.out _; exact nB BK227.out⟩, ⟨by refine nB ?_; refine blk_put (cs := #[.slice none 0 0]) ?_ 0 _ rfl; exact nB BK228.out⟩, ⟨uL HB⟩⟩
 case round =>
  clear H'
  try clear p2; try clear c7; try clear c8; try clear c9; try clear hcz10_0; try clear hfz10_0
  obtain ⟨x6_1, x229000_1, u229000, rfl, HA, HK1, HO_229000, BK225, BK226, BK227, BK228, HB⟩ := hrel
  cases gk with
  | zero => exact absurd HA.out (by simp [spec_l03Put.l0])
  | succ k1 =>
   have H := HA.out
   clear HA
   simp only [spec_l03Put.l0] at H
   by_cases c11 : x6_1 < (l0_0.length : Int)
   ·rw [if_pos c11] at H
    have c11b0 : decide (x6_1 < (l0_0.length : Int)) = true := decide_eq_true c11
    clear c11
    by_cases c12 : 0 ≤ x6_1
    ·rw [if_pos c12] at H
     have c12b0 : decide (0 ≤ x6_1) = true := decide_eq_true c12
     clear c12
     by_cases c13 : (Op.bytesLess (((rd_T45 l0_0 x6_1).f0).toList) a1_0.toList) = true
     ·rw [if_pos c13] at H
      have c13b0 : (Op.bytesLess (((rd_T45 l0_0 x6_1).f0).toList) a1_0.toList) = true := c13
      clear c13
      by_cases c14 : x229000_1.length < 3518437208883
      ·rw [if_pos c14] at H
       have LMc14 := aM c14
       clear c14
       obtain ⟨y231, hy231⟩ : ∃ y_ : List (S45), y_ = (x229000_1 ++ [(⟨(rd_T45 l0_0 x6_1).f0, (rd_T45 l0_0 x6_1).f1, (rd_T45 l0_0 x6_1).f2⟩ : S45)]) := ⟨_, rfl⟩
       replace H : (spec_l03Put.l0 k1 (wrap64 (x6_1 + 1)) l0_0 a1_0 a1_1 a1_2 y231) = some r := by first | (rw [hy231]; with_reducible exact H) | (have H2_ := (Option.bind_some _ _).symm.trans H; rw [hy231]; with_reducible exact H2_) | (have H2_ := (Option.bind_some _ _).symm.trans H; with_reducible exact H2_) | with_reducible exact H | (rw [hy231]; exact H) | exact H
       have Ny231 := aM hy231
       clear hy231
       have H' := aM H
       clear H
       have hnb15 := NB225_226.out; have hnc15 := NB226_225.out; have hnb16 := NB225_227.out; have hnc16 := NB227_225.out; have hnb17 := NB225_228.out; have hnc17 := NB228_225.out
       have hcz18_0 := czA BK225.out 0 (.slice A0_0 l0_0.length c0_0)
       have hfz18_0 := blk_frozen BK225.out 0
       try go_wp2
       replace HO_229000 := aM (Kd.R_drew HO_229000.out)
       replace BK225 := aM (blk_drew BK225.out)
       replace BK226 := aM (blk_drew BK226.out)
       replace BK227 := aM (blk_drew BK227.out)
       replace BK228 := aM (blk_drew BK228.out)
       replace HB := aM (below_drew1 HB.out)
       have p229 : 0 ≤ (x6_1 : Int) := of_decide_eq_true (by first | (with_reducible assumption) | assumption)
       have q229 : x6_1 < (l0_0.length : Int) := of_decide_eq_true (by first | (with_reducible assumption) | assumption)
       obtain ⟨ad229, e229, hx229_0, hx229_1, hx229_2⟩ := at_T45 HR0_0.out x6_1 p229 q229
       have hw229_2 := hx229_2; have hw229_1 := hx229_1; have hw229_0 := hx229_0
       cases e229
       replace hx229_0 := hxB HB hx229_0; replace hx229_1 := hxB HB hx229_1; replace hx229_2 := hxB HB hx229_2; replace p229 := eq_true p229; replace q229 := eq_true q229
       refine start_ (n := 9) (S := fun w' => w'.cell? ⟨gb225, 0, none⟩ = some (.slice (some ad229) l0_0.length c0_0) ∧ w'.cell? ⟨gb226, 0, none⟩ = some (.string a1_0) ∧ w'.cell? ⟨gb226, 1, none⟩ = some (.string a1_1) ∧ w'.cell? ⟨gb226, 2, none⟩ = some (.int .i64 a1_2) ∧ w'.cell? (ad229.add ((x6_1).toNat * 3)) = some (.string ((rd_T45 l0_0 x6_1).f0)) ∧ w'.cell? ⟨(ad229.add ((x6_1).toNat * 3)).block, (ad229.add ((x6_1).toNat * 3)).off + 1, none⟩ = some (.string ((rd_T45 l0_0 x6_1).f1)) ∧ w'.cell? ⟨(ad229.add ((x6_1).toNat * 3)).block, (ad229.add ((x6_1).toNat * 3)).off + 2, none⟩ = some (.int .i64 ((rd_T45 l0_0 x6_1).f2))) (ds := []) (bB 9 0) (by kernel_rfl) rfl rfl ⟨(blk_cell BK225.out 0).trans rfl, (blk_cell BK226.out 0).trans rfl, (blk_cell BK226.out 1).trans rfl, (blk_cell BK226.out 2).trans rfl, (hyB HB hw229_0), (hyB HB hw229_1), (hyB HB hw229_2)⟩ (fun hHeld => ?_); refine with_tabW spec_l03Put.tab5 spec_l03Put.bits5 (fun HT_ HW_ => ?_)
       generalize wr.drew = w19 at HO_229000 BK225 BK226 BK227 BK228 HB hx229_0 hx229_1 hx229_2 hHeld ⊢
       refine pA HT_.out 0 16 9 1 ?_; refine pA HT_.out 2 18 9 5 ?_; refine pA HT_.out 6 22 9 69 ?_; refine tA HT_.out HW_.out 1 17 9 71 hHeld ?_; refine pA HT_.out 3 19 9 79 ?_; refine pA HT_.out 4 20 9 95 ?_; refine tA HT_.out HW_.out 5 21 9 127 hHeld ?_; refine tA HT_.out HW_.out 7 23 9 255 hHeld ?_; refine pA HT_.out 8 24 9 511 ?_
       refine done_ (done_of HT_.out (by kernel_rfl)) ?_
       try go_wp2
       replace HO_229000 := aM (Kd.R_drew HO_229000.out)
       replace BK225 := aM (blk_drew BK225.out)
       replace BK226 := aM (blk_drew BK226.out)
       replace BK227 := aM (blk_drew BK227.out)
       replace BK228 := aM (blk_drew BK228.out)
       replace HB := aM (below_drew1 HB.out)
       have p230 : 0 ≤ (x6_1 : Int) := of_decide_eq_true (by first | (with_reducible assumption) | assumption)
       have q230 : x6_1 < (l0_0.length : Int) := of_decide_eq_true (by first | (with_reducible assumption) | assumption)
       obtain ⟨ad230, e230, hx230_0, hx230_1, hx230_2⟩ := at_T45 HR0_0.out x6_1 p230 q230
       have hw230_2 := hx230_2; have hw230_1 := hx230_1; have hw230_0 := hx230_0
       obtain rfl : ad229 = ad230 := (by injection e230)
       replace hx230_0 := hxB HB hx230_0; replace hx230_1 := hxB HB hx230_1; replace hx230_2 := hxB HB hx230_2; replace p230 := eq_true p230; replace q230 := eq_true q230
       refine start_ (n := 11) (S := fun w' => w'.cell? ⟨gb228, 0, none⟩ = some (u229000) ∧ w'.cell? ⟨gb225, 0, none⟩ = some (.slice (some ad229) l0_0.length c0_0) ∧ w'.cell? (ad229.add ((x6_1).toNat * 3)) = some (.string ((rd_T45 l0_0 x6_1).f0)) ∧ w'.cell? ⟨(ad229.add ((x6_1).toNat * 3)).block, (ad229.add ((x6_1).toNat * 3)).off + 1, none⟩ = some (.string ((rd_T45 l0_0 x6_1).f1)) ∧ w'.cell? ⟨(ad229.add ((x6_1).toNat * 3)).block, (ad229.add ((x6_1).toNat * 3)).off + 2, none⟩ = some (.int .i64 ((rd_T45 l0_0 x6_1).f2))) (ds := [10]) (bB 11 0) (by kernel_rfl) rfl rfl ⟨(blk_cell BK228.out 0).trans rfl, (blk_cell BK225.out 0).trans rfl, (hyB HB hw230_0), (hyB HB hw230_1), (hyB HB hw230_2)⟩ (fun hHeld => ?_); refine with_tabW spec_l03Put.tab6 spec_l03Put.bits6 (fun HT_ HW_ => ?_)
       generalize w19.drew = w20 at HO_229000 BK225 BK226 BK227 BK228 HB hx230_0 hx230_1 hx230_2 hHeld ⊢
       refine pA HT_.out 0 25 11 1 ?_; refine pA HT_.out 2 27 11 5 ?_; refine pA HT_.out 4 29 11 21 ?_; refine tA HT_.out HW_.out 1 26 11 23 hHeld ?_; refine tA HT_.out HW_.out 3 28 11 31 hHeld ?_; refine pA HT_.out 5 30 11 63 ?_; refine tA HT_.out HW_.out 6 31 11 127 hHeld ?_
       refine oA HT_.out 7 (some 32) 11 255 (fun K hK => ?_)
       refine value_ (w1 := ?_) (v := ?_) (by rfl) rfl ?_ ?_
       rotate_left 2
       ·go_simp
        constructor
        ·rfl
        ·rfl
       refine hK.out _ _ ⟨(blk_cell (blk_alloc BK228.out _) 0).trans rfl, (blk_cell (blk_alloc BK225.out _) 0).trans rfl, (World.cell?_alloc_lt _ _ _ (World.block_lt_of_cell? _ _ ((hyB HB hw230_0)))).trans ((hyB HB hw230_0)), (World.cell?_alloc_lt _ _ _ (World.block_lt_of_cell? _ _ ((hyB HB hw230_1)))).trans ((hyB HB hw230_1)), (World.cell?_alloc_lt _ _ _ (World.block_lt_of_cell? _ _ ((hyB HB hw230_2)))).trans ((hyB HB hw230_2))⟩ (fun hHeld => ?_)
       clear hK K
       refine nX 32 ?_
       refine oA HT_.out 8 (some 33) 11 511 (fun K hK => ?_)
       refine Kd.R_append_step k45 (w0 := w) w.heap.size (by rfl) (.tmp 26) (.tmp 32) 28 45 (.agg #[(.string ⟨#[]⟩), (.string ⟨#[]⟩), (.int .i64 0)]) 40 rfl Try.underlying28 info45 rfl (by decide) (by omega) u229000 x229000_1 (⟨(rd_T45 l0_0 x6_1).f0, (rd_T45 l0_0 x6_1).f1, (rd_T45 l0_0 x6_1).f2⟩ : S45) [.string ((rd_T45 l0_0 x6_1).f0), .string ((rd_T45 l0_0 x6_1).f1), .int .i64 ((rd_T45 l0_0 x6_1).f2)] (fun k_ => k_ ≠ gb226) (fun _ => False) rfl rfl ?aP (fun _ hk => hk.elim) ?aF ?aO ?aB ?aS ?aL ?_
       (case aP => exact k45_mkM _ _ _ (⟨(rd_T45 l0_0 x6_1).f0, (rd_T45 l0_0 x6_1).f1, (rd_T45 l0_0 x6_1).f2⟩ : S45))
       (case aB => exact (uL HB))
       (case aF => exact (fun k_ hk => Kd.freshB (g := gb226) (o := .cells #[.string a1_0, .string a1_1, .int .i64 a1_2] 45 (0, 0)) (uB BK226) k_ hk))
       (case aO => exact (uR HO_229000))
       (case aS => exact (below_size (uL HB)))
       (case aL => have := LMc14.out; omega)
       intro v232 w21 ho hb hg hat
       rw [← Ny231.out] at ho
       have n0_ := aM (blk_grown (g := gb225) (o := .cells #[.slice (some ad229) l0_0.length c0_0] 30 (0, 0)) (uB BK225) hg (Kd.R_ne HO_229000.out BK225.out (by decide)))
       have n1_ := aM (blk_grown (g := gb226) (o := .cells #[.string a1_0, .string a1_1, .int .i64 a1_2] 45 (0, 0)) (uB BK226) hg (Kd.R_away HO_229000.out (fun _ hk => hk)))
       have n2_ := aM (blk_grown (g := gb227) (o := .cells #[.slice none 0 0] 30 (0, 0)) (uB BK227) hg (Kd.R_ne HO_229000.out BK227.out (by decide)))
       have n3_ := aM (blk_grown (g := gb228) (o := .cells #[u229000] 30 (0, 0)) (uB BK228) hg (Kd.R_ne HO_229000.out BK228.out (by decide)))
       have n4_ := aM (hb)
       have n5_ := aM (ho)
       clear BK225 BK226 BK227 BK228 HB HO_229000; have BK225 := n0_; have BK226 := n1_; have BK227 := n2_; have BK228 := n3_; have HB := n4_; have HO233 := n5_; clear n0_ n1_ n2_ n3_ n4_ n5_ ho hb hg hat
       obtain ⟨Ao22, co22, eo22⟩ := Kd.R_slice HO233.out
       (first | subst eo22 | (injection eo22 with f1_ f2_ f3_; have f4_ := f1_.symm; have f5_ := f3_.symm; clear f1_ f2_ f3_; subst f4_; subst f5_))
       refine hK.out _ _ ⟨(blk_cell BK228.out 0).trans rfl, (blk_cell BK225.out 0).trans rfl, (hyB HB hw230_0), (hyB HB hw230_1), (hyB HB hw230_2)⟩ (fun hHeld => ?_)
       clear hK K
       refine nX 33 ?_; refine pA HT_.out 9 34 11 1023 ?_
       refine last_ (i := 10) (N := none) (bB 11 2047) rfl rfl (one_of HT_.out (by kernel_rfl)) (by decide) (fun K hK => ?_)
       have hs23 := czA BK228.out 0 (u229000)
       have hfs23 := blk_frozen BK228.out 0; have hns23_0 := NB225_228.out; have hns23_1 := NB226_228.out; have hns23_2 := NB227_228.out; have hms23_0 := NB228_225.out; have hms23_1 := NB228_226.out; have hms23_2 := NB228_227.out
       refine skip_ (w1 := ?_) (by rfl) rfl ?_ ?_
       rotate_left
       ·go_simp
        rfl
       refine hK.out _ _ ?_
       clear hK K
       refine done_ (done_of HT_.out (by kernel_rfl)) ?_
       try go_wp2
       go_roundg k1
       case measure => have := HK1.out; omega
       case rel => exact ⟨(wrap64 (x6_1 + 1)), (y231), (.slice Ao22 y231.length co22), (by first | rfl | (simp; done) | (simp [*]; done)), H', ⟨by have := HK1.out; omega⟩, ⟨by (with_reducible repeat first | apply rA | apply rN | apply rD); exact Kd.R_mono (Kd.R_far (p := ⟨gb228, 0, none⟩) (Kd.R_types HO233.out BK228.out (by decide)) (fun _ hk => hk.2) (.slice Ao22 y231.length co22)) (fun _ hk => hk.1)⟩, ⟨by refine nB ?_; refine blk_far ?_ NB225_228.out _; exact nB BK225.out⟩, ⟨by refine nB ?_; refine blk_far ?_ NB226_228.out _; exact nB BK226.out⟩, ⟨by refine nB ?_; refine blk_far ?_ NB227_228.out _; exact nB BK227.out⟩, ⟨by refine nB ?_; refine blk_put (cs := #[u229000]) ?_ 0 _ rfl; exact nB BK228.out⟩, ⟨uL HB⟩⟩
      ·rw [if_neg c14] at H
       exact absurd H (by simp)
     ·rw [if_neg c13] at H
      have c13b0 : (Op.bytesLess (((rd_T45 l0_0 x6_1).f0).toList) a1_0.toList) = false := by simpa using c13
      clear c13
      have H' := aM H
      clear H
      have hnb24 := NB225_226.out; have hnc24 := NB226_225.out; have hnb25 := NB225_227.out; have hnc25 := NB227_225.out; have hnb26 := NB225_228.out; have hnc26 := NB228_225.out
      have hcz27_0 := czA BK225.out 0 (.slice A0_0 l0_0.length c0_0)
      have hfz27_0 := blk_frozen BK225.out 0
      try go_wp2
      replace HO_229000 := aM (Kd.R_drew HO_229000.out)
      replace BK225 := aM (blk_drew BK225.out)
      replace BK226 := aM (blk_drew BK226.out)
      replace BK227 := aM (blk_drew BK227.out)
      replace BK228 := aM (blk_drew BK228.out)
      replace HB := aM (below_drew1 HB.out)
      have p229 : 0 ≤ (x6_1 : Int) := of_decide_eq_true (by first | (with_reducible assumption) | assumption)
      have q229 : x6_1 < (l0_0.length : Int) := of_decide_eq_true (by first | (with_reducible assumption) | assumption)
      obtain ⟨ad229, e229, hx229_0, hx229_1, hx229_2⟩ := at_T45 HR0_0.out x6_1 p229 q229
      have hw229_2 := hx229_2; have hw229_1 := hx229_1; have hw229_0 := hx229_0
      cases e229
      replace hx229_0 := hxB HB hx229_0; replace hx229_1 := hxB HB hx229_1; replace hx229_2 := hxB HB hx229_2; replace p229 := eq_true p229; replace q229 := eq_true q229
      refine start_ (n := 9) (S := fun w' => w'.cell? ⟨gb225, 0, none⟩ = some (.slice (some ad229) l0_0.length c0_0) ∧ w'.cell? ⟨gb226, 0, none⟩ = some (.string a1_0) ∧ w'.cell? ⟨gb226, 1, none⟩ = some (.string a1_1) ∧ w'.cell? ⟨gb226, 2, none⟩ = some (.int .i64 a1_2) ∧ w'.cell? (ad229.add ((x6_1).toNat * 3)) = some (.string ((rd_T45 l0_0 x6_1).f0)) ∧ w'.cell? ⟨(ad229.add ((x6_1).toNat * 3)).block, (ad229.add ((x6_1).toNat * 3)).off + 1, none⟩ = some (.string ((rd_T45 l0_0 x6_1).f1)) ∧ w'.cell? ⟨(ad229.add ((x6_1).toNat * 3)).block, (ad229.add ((x6_1).toNat * 3)).off + 2, none⟩ = some (.int .i64 ((rd_T45 l0_0 x6_1).f2))) (ds := []) (bB 9 0) (by kernel_rfl) rfl rfl ⟨(blk_cell BK225.out 0).trans rfl, (blk_cell BK226.out 0).trans rfl, (blk_cell BK226.out 1).trans rfl, (blk_cell BK226.out 2).trans rfl, (hyB HB hw229_0), (hyB HB hw229_1), (hyB HB hw229_2)⟩ (fun hHeld => ?_); refine with_tabW spec_l03Put.tab5 spec_l03Put.bits5 (fun HT_ HW_ => ?_)
      generalize wr.drew = w28 at HO_229000 BK225 BK226 BK227 BK228 HB hx229_0 hx229_1 hx229_2 hHeld ⊢
      refine pA HT_.out 0 16 9 1 ?_; refine pA HT_.out 2 18 9 5 ?_; refine pA HT_.out 6 22 9 69 ?_; refine tA HT_.out HW_.out 1 17 9 71 hHeld ?_; refine pA HT_.out 3 19 9 79 ?_; refine pA HT_.out 4 20 9 95 ?_; refine tA HT_.out HW_.out 5 21 9 127 hHeld ?_; refine tA HT_.out HW_.out 7 23 9 255 hHeld ?_; refine pA HT_.out 8 24 9 511 ?_
      refine done_ (done_of HT_.out (by kernel_rfl)) ?_
      try go_wp2
      go_roundg k1
      case measure => have := HK1.out; omega
      case rel => exact ⟨(wrap64 (x6_1 + 1)), (x229000_1), (u229000), (by first | rfl | (simp; done) | (simp [*]; done)), H', ⟨by have := HK1.out; omega⟩, ⟨by (with_reducible repeat first | apply rA | apply rN | apply rD); exact HO_229000.out⟩, ⟨by exact nB BK225.out⟩, ⟨by exact nB BK226.out⟩, ⟨by exact nB BK227.out⟩, ⟨by exact nB BK228.out⟩, ⟨uL HB⟩⟩
    ·rw [if_neg c12] at H
     exact absurd H (by simp)
   ·rw [if_neg c11] at H
    have c11b0 : decide (x6_1 < (l0_0.length : Int)) = false := decide_eq_false c11
    clear c11
    by_cases c29 : x229000_1.length < 3518437208883
    ·rw [if_pos c29] at H
     have LMc29 := aM c29
     clear c29
     obtain ⟨y234, hy234⟩ : ∃ y_ : List (S45), y_ = (x229000_1 ++ [(⟨a1_0, a1_1, a1_2⟩ : S45)]) := ⟨_, rfl⟩
     replace H : (spec_l03Put.l1 k1 0 l0_0 a1_0 a1_1 a1_2 y234) = some r := by first | (rw [hy234]; with_reducible exact H) | (have H2_ := (Option.bind_some _ _).symm.trans H; rw [hy234]; with_reducible exact H2_) | (have H2_ := (Option.bind_some _ _).symm.trans H; with_reducible exact H2_) | with_reducible exact H | (rw [hy234]; exact H) | exact H
     have Ny234 := aM hy234
     clear hy234
     have H' := aM H
     clear H
     have hnb30 := NB225_226.out; have hnc30 := NB226_225.out; have hnb31 := NB225_227.out; have hnc31 := NB227_225.out; have hnb32 := NB225_228.out; have hnc32 := NB228_225.out
     have hcz33_0 := czA BK225.out 0 (.slice A0_0 l0_0.length c0_0)
     have hfz33_0 := blk_frozen BK225.out 0; have hnb34 := NB228_226.out; have hnc34 := NB226_228.out; have hnb35 := NB228_227.out; have hnc35 := NB227_228.out
     have hcz36_0 := czA BK228.out 0 (u229000)
     have hfz36_0 := blk_frozen BK228.out 0; have hnb37 := NB226_227.out; have hnc37 := NB227_226.out
     have hcz38_0 := czA BK226.out 0 (.string a1_0)
     have hcz38_1 := czA BK226.out 1 (.string a1_1)
     have hcz38_2 := czA BK226.out 2 (.int .i64 a1_2)
     have hfz38_0 := blk_frozen BK226.out 0; have hfz38_1 := blk_frozen BK226.out 1; have hfz38_2 := blk_frozen BK226.out 2
     go_wp2_with (first | ((with_reducible refine gate_builtin (b := .append) (xs := #[.tmp 36, .tmp 38]) rfl ?_); at_builtin; refine Kd.R_append k45 (w0 := w) w.heap.size rfl (.tmp 36) (.tmp 38) 28 45 (.agg #[(.string ⟨#[]⟩), (.string ⟨#[]⟩), (.int .i64 0)]) 40 rfl Try.underlying28 info45 rfl (by decide) (by omega) u229000 x229000_1 (⟨a1_0, a1_1, a1_2⟩ : S45) [.string a1_0, .string a1_1, .int .i64 a1_2] (fun k_ => k_ ≠ gb226) (fun _ => False) rfl rfl ?aP (fun _ hk => hk.elim) ?aF ?aO ?aB ?aS ?aL ?_; (case aP => exact k45_mkM _ _ _ (⟨a1_0, a1_1, a1_2⟩ : S45)); (case aB => exact (uL HB)); (case aF => exact (fun k_ hk => Kd.freshB (g := gb226) (o := .cells #[.string a1_0, .string a1_1, .int .i64 a1_2] 45 (0, 0)) (uB BK226) k_ hk)); (case aO => exact (uR HO_229000)); (case aS => exact (below_size (uL HB))); (case aL => have := LMc29.out; omega); intro v235 w39 ho hb hg hat; rw [← Ny234.out] at ho; have HO236 := aM (ho); replace BK225 := aM (blk_grown (g := gb225) (o := .cells #[.slice A0_0 l0_0.length c0_0] 30 (0, 0)) (uB BK225) hg (Kd.R_ne HO_229000.out BK225.out (by decide))); replace BK226 := aM (blk_grown (g := gb226) (o := .cells #[.string a1_0, .string a1_1, .int .i64 a1_2] 45 (0, 0)) (uB BK226) hg (Kd.R_away HO_229000.out (fun _ hk => hk))); replace BK227 := aM (blk_grown (g := gb227) (o := .cells #[.slice none 0 0] 30 (0, 0)) (uB BK227) hg (Kd.R_ne HO_229000.out BK227.out (by decide))); replace BK228 := aM (blk_grown (g := gb228) (o := .cells #[u229000] 30 (0, 0)) (uB BK228) hg (Kd.R_ne HO_229000.out BK228.out (by decide))); replace HB := aM (hb); clear HO_229000; clear ho hb hg hat; obtain ⟨Ao40, co40, eo40⟩ := Kd.R_slice HO236.out; subst eo40; have hcz41_0 := czA BK228.out 0 (u229000); have hfz41_0 := blk_frozen BK228.out 0))
     go_loopg [7] k1 (fun kq v7 w' => ∃ (x7_2 : Int) (x229000_2 : List (S45)) (u229000 : Value), v7 = .int .i64 x7_2 ∧ Aside0 (spec_l03Put.l1 kq x7_2 l0_0 a1_0 a1_1 a1_2 x229000_2 = some r) ∧ Aside0 (kq ≤ k1) ∧ Aside0 (Kd.R k45 45 w' w.heap.size (fun k_ => k_ ≠ gb226) u229000 x229000_2) ∧ Aside0 (w'.heap[gb225]? = some (.cells #[(.slice A0_0 l0_0.length c0_0)] 30 (0, 0))) ∧ Aside0 (w'.heap[gb226]? = some (.cells #[.string a1_0, .string a1_1, .int .i64 a1_2] 45 (0, 0))) ∧ Aside0 (w'.heap[gb227]? = some (.cells #[(.slice none 0 0)] 30 (0, 0))) ∧ Aside0 (w'.heap[gb228]? = some (.cells #[u229000] 30 (0, 0))) ∧ Aside0 (Below w.heap.size w w'))
     case atStart => exact ⟨(0), (y234), (.slice Ao40 y234.length co40), (by first | rfl | (simp; done) | (simp [*]; done)), H', ⟨Nat.le_refl _⟩, ⟨by (with_reducible repeat first | apply rA | apply rN | apply rD); exact Kd.R_mono (Kd.R_far (p := ⟨gb228, 0, none⟩) (Kd.R_types HO236.out BK228.out (by decide)) (fun _ hk => hk.2) (.slice Ao40 y234.length co40)) (fun _ hk => hk.1)⟩, ⟨by refine nB ?_; refine blk_far ?_ NB225_228.out _; exact nB BK225.out⟩, ⟨by refine nB ?_; refine blk_far ?_ NB226_228.out _; exact nB BK226.out⟩, ⟨by refine nB ?_; refine blk_far ?_ NB227_228.out _; exact nB BK227.out⟩, ⟨by refine nB ?_; refine blk_put (cs := #[u229000]) ?_ 0 _ rfl; exact nB BK228.out⟩, ⟨uL HB⟩⟩
     case round =>
      clear H'
      try clear c1; try clear c2; try clear p2; try clear q2; try clear hx2; try clear c3; try clear p6; try clear c7; try clear c8; try clear c9; try clear c11; try clear c11b0; try clear c12; try clear c12b0; try clear c13; try clear c13b0; try clear c14; try clear c15; try clear c16; try clear c17; try clear p22; try clear q22; try clear hx22; try clear p23; try clear q23; try clear hx23; try clear c24; try clear c25; try clear c26; try clear c29; try clear c30; try clear c31; try clear c32; try clear c34; try clear c35; try clear c37; try clear hcz10_0; try clear hcz18_0; try clear hcz27_0; try clear hcz33_0; try clear hcz36_0; try clear hcz38_0; try clear hcz38_1; try clear hcz38_2; try clear hcz41_0; try clear hfz10_0; try clear hfz18_0; try clear hfz27_0; try clear hfz33_0; try clear hfz36_0; try clear hfz38_0; try clear hfz38_1; try clear hfz38_2; try clear hfz41_0; try clear hx229_0; try clear hx229_1; try clear hx229_2; try clear hx230_0; try clear hx230_1; try clear hx230_2; try clear p2; try clear p229; try clear p230; try clear q229; try clear q230
      obtain ⟨x7_2, x229000_2, u229000, rfl, HA, HK2, HO_229000, BK225, BK226, BK227, BK228, HB⟩ := hrel
      cases gk with
      | zero => exact absurd HA.out (by simp [spec_l03Put.l1])
      | succ k2 =>
       have H := HA.out
       clear HA
       simp only [spec_l03Put.l1] at H
       by_cases c42 : x7_2 < (l0_0.length : Int)
       ·rw [if_pos c42] at H
        have c42b0 : decide (x7_2 < (l0_0.length : Int)) = true := decide_eq_true c42
        clear c42
        by_cases c43 : 0 ≤ x7_2
        ·rw [if_pos c43] at H
         have c43b0 : decide (0 ≤ x7_2) = true := decide_eq_true c43
         clear c43
         by_cases c44 : (Op.bytesLess a1_0.toList (((rd_T45 l0_0 x7_2).f0).toList)) = true
         ·rw [if_pos c44] at H
          have c44b0 : (Op.bytesLess a1_0.toList (((rd_T45 l0_0 x7_2).f0).toList)) = true := c44
          clear c44
          by_cases c45 : x229000_2.length < 3518437208883
          ·rw [if_pos c45] at H
           have LMc45 := aM c45
           clear c45
           obtain ⟨y239, hy239⟩ : ∃ y_ : List (S45), y_ = (x229000_2 ++ [(⟨(rd_T45 l0_0 x7_2).f0, (rd_T45 l0_0 x7_2).f1, (rd_T45 l0_0 x7_2).f2⟩ : S45)]) := ⟨_, rfl⟩
           replace H : (spec_l03Put.l1 k2 (wrap64 (x7_2 + 1)) l0_0 a1_0 a1_1 a1_2 y239) = some r := by first | (rw [hy239]; with_reducible exact H) | (have H2_ := (Option.bind_some _ _).symm.trans H; rw [hy239]; with_reducible exact H2_) | (have H2_ := (Option.bind_some _ _).symm.trans H; with_reducible exact H2_) | with_reducible exact H | (rw [hy239]; exact H) | exact H
           have Ny239 := aM hy239
           clear hy239
           have H' := aM H
           clear H
           have hnb46 := NB225_226.out; have hnc46 := NB226_225.out; have hnb47 := NB225_227.out; have hnc47 := NB227_225.out; have hnb48 := NB225_228.out; have hnc48 := NB228_225.out
           have hcz49_0 := czA BK225.out 0 (.slice A0_0 l0_0.length c0_0)
           have hfz49_0 := blk_frozen BK225.out 0
           try go_wp2
           replace HO_229000 := aM (Kd.R_drew HO_229000.out)
           replace BK225 := aM (blk_drew BK225.out)
           replace BK226 := aM (blk_drew BK226.out)
           replace BK227 := aM (blk_drew BK227.out)
           replace BK228 := aM (blk_drew BK228.out)
           replace HB := aM (below_drew1 HB.out)
           have p237 : 0 ≤ (x7_2 : Int) := of_decide_eq_true (by first | (with_reducible assumption) | assumption)
           have q237 : x7_2 < (l0_0.length : Int) := of_decide_eq_true (by first | (with_reducible assumption) | assumption)
           obtain ⟨ad237, e237, hx237_0, hx237_1, hx237_2⟩ := at_T45 HR0_0.out x7_2 p237 q237
           have hw237_2 := hx237_2; have hw237_1 := hx237_1; have hw237_0 := hx237_0
           cases e237
           replace hx237_0 := hxB HB hx237_0; replace hx237_1 := hxB HB hx237_1; replace hx237_2 := hxB HB hx237_2; replace p237 := eq_true p237; replace q237 := eq_true q237
           refine start_ (n := 9) (S := fun w' => w'.cell? ⟨gb225, 0, none⟩ = some (.slice (some ad237) l0_0.length c0_0) ∧ w'.cell? ⟨gb226, 0, none⟩ = some (.string a1_0) ∧ w'.cell? ⟨gb226, 1, none⟩ = some (.string a1_1) ∧ w'.cell? ⟨gb226, 2, none⟩ = some (.int .i64 a1_2) ∧ w'.cell? (ad237.add ((x7_2).toNat * 3)) = some (.string ((rd_T45 l0_0 x7_2).f0)) ∧ w'.cell? ⟨(ad237.add ((x7_2).toNat * 3)).block, (ad237.add ((x7_2).toNat * 3)).off + 1, none⟩ = some (.string ((rd_T45 l0_0 x7_2).f1)) ∧ w'.cell? ⟨(ad237.add ((x7_2).toNat * 3)).block, (ad237.add ((x7_2).toNat * 3)).off + 2, none⟩ = some (.int .i64 ((rd_T45 l0_0 x7_2).f2))) (ds := []) (bB 9 0) (by kernel_rfl) rfl rfl ⟨(blk_cell BK225.out 0).trans rfl, (blk_cell BK226.out 0).trans rfl, (blk_cell BK226.out 1).trans rfl, (blk_cell BK226.out 2).trans rfl, (hyB HB hw237_0), (hyB HB hw237_1), (hyB HB hw237_2)⟩ (fun hHeld => ?_); refine with_tabW spec_l03Put.tab11 spec_l03Put.bits11 (fun HT_ HW_ => ?_)
           generalize wr.drew = w50 at HO_229000 BK225 BK226 BK227 BK228 HB hx237_0 hx237_1 hx237_2 hHeld ⊢
           refine pA HT_.out 0 48 9 1 ?_; refine pA HT_.out 2 50 9 5 ?_; refine pA HT_.out 6 54 9 69 ?_; refine tA HT_.out HW_.out 1 49 9 71 hHeld ?_; refine pA HT_.out 3 51 9 79 ?_; refine pA HT_.out 4 52 9 95 ?_; refine tA HT_.out HW_.out 5 53 9 127 hHeld ?_; refine tA HT_.out HW_.out 7 55 9 255 hHeld ?_; refine pA HT_.out 8 56 9 511 ?_
           refine done_ (done_of HT_.out (by kernel_rfl)) ?_
           try go_wp2
           replace HO_229000 := aM (Kd.R_drew HO_229000.out)
           replace BK225 := aM (blk_drew BK225.out)
           replace BK226 := aM (blk_drew BK226.out)
           replace BK227 := aM (blk_drew BK227.out)
           replace BK228 := aM (blk_drew BK228.out)
           replace HB := aM (below_drew1 HB.out)
           have p238 : 0 ≤ (x7_2 : Int) := of_decide_eq_true (by first | (with_reducible assumption) | assumption)
           have q238 : x7_2 < (l0_0.length : Int) := of_decide_eq_true (by first | (with_reducible assumption) | assumption)
           obtain ⟨ad238, e238, hx238_0, hx238_1, hx238_2⟩ := at_T45 HR0_0.out x7_2 p238 q238
           have hw238_2 := hx238_2; have hw238_1 := hx238_1; have hw238_0 := hx238_0
           obtain rfl : ad237 = ad238 := (by injection e238)
           replace hx238_0 := hxB HB hx238_0; replace hx238_1 := hxB HB hx238_1; replace hx238_2 := hxB HB hx238_2; replace p238 := eq_true p238; replace q238 := eq_true q238
           refine start_ (n := 11) (S := fun w' => w'.cell? ⟨gb228, 0, none⟩ = some (u229000) ∧ w'.cell? ⟨gb225, 0, none⟩ = some (.slice (some ad237) l0_0.length c0_0) ∧ w'.cell? (ad237.add ((x7_2).toNat * 3)) = some (.string ((rd_T45 l0_0 x7_2).f0)) ∧ w'.cell? ⟨(ad237.add ((x7_2).toNat * 3)).block, (ad237.add ((x7_2).toNat * 3)).off + 1, none⟩ = some (.string ((rd_T45 l0_0 x7_2).f1)) ∧ w'.cell? ⟨(ad237.add ((x7_2).toNat * 3)).block, (ad237.add ((x7_2).toNat * 3)).off + 2, none⟩ = some (.int .i64 ((rd_T45 l0_0 x7_2).f2))) (ds := [10]) (bB 11 0) (by kernel_rfl) rfl rfl ⟨(blk_cell BK228.out 0).trans rfl, (blk_cell BK225.out 0).trans rfl, (hyB HB hw238_0), (hyB HB hw238_1), (hyB HB hw238_2)⟩ (fun hHeld => ?_); refine with_tabW spec_l03Put.tab12 spec_l03Put.bits12 (fun HT_ HW_ => ?_)
           generalize w50.drew = w51 at HO_229000 BK225 BK226 BK227 BK228 HB hx238_0 hx238_1 hx238_2 hHeld ⊢
           refine pA HT_.out 0 57 11 1 ?_; refine pA HT_.out 2 59 11 5 ?_; refine pA HT_.out 4 61 11 21 ?_; refine tA HT_.out HW_.out 1 58 11 23 hHeld ?_; refine tA HT_.out HW_.out 3 60 11 31 hHeld ?_; refine pA HT_.out 5 62 11 63 ?_; refine tA HT_.out HW_.out 6 63 11 127 hHeld ?_
           refine oA HT_.out 7 (some 64) 11 255 (fun K hK => ?_)
           refine value_ (w1 := ?_) (v := ?_) (by rfl) rfl ?_ ?_
           rotate_left 2
           ·go_simp
            constructor
            ·rfl
            ·rfl
           refine hK.out _ _ ⟨(blk_cell (blk_alloc BK228.out _) 0).trans rfl, (blk_cell (blk_alloc BK225.out _) 0).trans rfl, (World.cell?_alloc_lt _ _ _ (World.block_lt_of_cell? _ _ ((hyB HB hw238_0)))).trans ((hyB HB hw238_0)), (World.cell?_alloc_lt _ _ _ (World.block_lt_of_cell? _ _ ((hyB HB hw238_1)))).trans ((hyB HB hw238_1)), (World.cell?_alloc_lt _ _ _ (World.block_lt_of_cell? _ _ ((hyB HB hw238_2)))).trans ((hyB HB hw238_2))⟩ (fun hHeld => ?_)
           clear hK K
           refine nX 64 ?_
           refine oA HT_.out 8 (some 65) 11 511 (fun K hK => ?_)
           refine Kd.R_append_step k45 (w0 := w) w.heap.size (by rfl) (.tmp 58) (.tmp 64) 28 45 (.agg #[(.string ⟨#[]⟩), (.string ⟨#[]⟩), (.int .i64 0)]) 40 rfl Try.underlying28 info45 rfl (by decide) (by omega) u229000 x229000_2 (⟨(rd_T45 l0_0 x7_2).f0, (rd_T45 l0_0 x7_2).f1, (rd_T45 l0_0 x7_2).f2⟩ : S45) [.string ((rd_T45 l0_0 x7_2).f0), .string ((rd_T45 l0_0 x7_2).f1), .int .i64 ((rd_T45 l0_0 x7_2).f2)] (fun k_ => k_ ≠ gb226) (fun _ => False) rfl rfl ?aP (fun _ hk => hk.elim) ?aF ?aO ?aB ?aS ?aL ?_
           (case aP => exact k45_mkM _ _ _ (⟨(rd_T45 l0_0 x7_2).f0, (rd_T45 l0_0 x7_2).f1, (rd_T45 l0_0 x7_2).f2⟩ : S45))
           (case aB => exact (uL HB))
           (case aF => exact (fun k_ hk => Kd.freshB (g := gb226) (o := .cells #[.string a1_0, .string a1_1, .int .i64 a1_2] 45 (0, 0)) (uB BK226) k_ hk))
           (case aO => exact (uR HO_229000))
           (case aS => exact (below_size (uL HB)))
           (case aL => have := LMc45.out; omega)
           intro v240 w52 ho hb hg hat
           rw [← Ny239.out] at ho
           have n0_ := aM (blk_grown (g := gb225) (o := .cells #[.slice (some ad237) l0_0.length c0_0] 30 (0, 0)) (uB BK225) hg (Kd.R_ne HO_229000.out BK225.out (by decide)))
           have n1_ := aM (blk_grown (g := gb226) (o := .cells #[.string a1_0, .string a1_1, .int .i64 a1_2] 45 (0, 0)) (uB BK226) hg (Kd.R_away HO_229000.out (fun _ hk => hk)))
           have n2_ := aM (blk_grown (g := gb227) (o := .cells #[.slice none 0 0] 30 (0, 0)) (uB BK227) hg (Kd.R_ne HO_229000.out BK227.out (by decide)))
           have n3_ := aM (blk_grown (g := gb228) (o := .cells #[u229000] 30 (0, 0)) (uB BK228) hg (Kd.R_ne HO_229000.out BK228.out (by decide)))
           have n4_ := aM (hb)
           have n5_ := aM (ho)
           clear BK225 BK226 BK227 BK228 HB HO_229000; have BK225 := n0_; have BK226 := n1_; have BK227 := n2_; have BK228 := n3_; have HB := n4_; have HO241 := n5_; clear n0_ n1_ n2_ n3_ n4_ n5_ ho hb hg hat
           obtain ⟨Ao53, co53, eo53⟩ := Kd.R_slice HO241.out
           (first | subst eo53 | (injection eo53 with f1_ f2_ f3_; have f4_ := f1_.symm; have f5_ := f3_.symm; clear f1_ f2_ f3_; subst f4_; subst f5_))
           refine hK.out _ _ ⟨(blk_cell BK228.out 0).trans rfl, (blk_cell BK225.out 0).trans rfl, (hyB HB hw238_0), (hyB HB hw238_1), (hyB HB hw238_2)⟩ (fun hHeld => ?_)
           clear hK K
           refine nX 65 ?_; refine pA HT_.out 9 66 11 1023 ?_
           refine last_ (i := 10) (N := none) (bB 11 2047) rfl rfl (one_of HT_.out (by kernel_rfl)) (by decide) (fun K hK => ?_)
           have hs54 := czA BK228.out 0 (u229000)
           have hfs54 := blk_frozen BK228.out 0; have hns54_0 := NB225_228.out; have hns54_1 := NB226_228.out; have hns54_2 := NB227_228.out; have hms54_0 := NB228_225.out; have hms54_1 := NB228_226.out; have hms54_2 := NB228_227.out
           refine skip_ (w1 := ?_) (by rfl) rfl ?_ ?_
           rotate_left
           ·go_simp
            rfl
           refine hK.out _ _ ?_
           clear hK K
           refine done_ (done_of HT_.out (by kernel_rfl)) ?_
           try go_wp2
           go_roundg k2
           case measure => have := HK1.out; have := HK2.out; omega
           case rel => exact ⟨(wrap64 (x7_2 + 1)), (y239), (.slice Ao53 y239.length co53), (by first | rfl | (simp; done) | (simp [*]; done)), H', ⟨by have := HK1.out; have := HK2.out; omega⟩, ⟨by (with_reducible repeat first | apply rA | apply rN | apply rD); exact Kd.R_mono (Kd.R_far (p := ⟨gb228, 0, none⟩) (Kd.R_types HO241.out BK228.out (by decide)) (fun _ hk => hk.2) (.slice Ao53 y239.length co53)) (fun _ hk => hk.1)⟩, ⟨by refine nB ?_; refine blk_far ?_ NB225_228.out _; exact nB BK225.out⟩, ⟨by refine nB ?_; refine blk_far ?_ NB226_228.out _; exact nB BK226.out⟩, ⟨by refine nB ?_; refine blk_far ?_ NB227_228.out _; exact nB BK227.out⟩, ⟨by refine nB ?_; refine blk_put (cs := #[u229000]) ?_ 0 _ rfl; exact nB BK228.out⟩, ⟨uL HB⟩⟩
          ·rw [if_neg c45] at H
           exact absurd H (by simp)
         ·rw [if_neg c44] at H
          have c44b0 : (Op.bytesLess a1_0.toList (((rd_T45 l0_0 x7_2).f0).toList)) = false := by simpa using c44
          clear c44
          have H' := aM H
          clear H
          have hnb55 := NB225_226.out; have hnc55 := NB226_225.out; have hnb56 := NB225_227.out; have hnc56 := NB227_225.out; have hnb57 := NB225_228.out; have hnc57 := NB228_225.out
          have hcz58_0 := czA BK225.out 0 (.slice A0_0 l0_0.length c0_0)
          have hfz58_0 := blk_frozen BK225.out 0
          try go_wp2
          replace HO_229000 := aM (Kd.R_drew HO_229000.out)
          replace BK225 := aM (blk_drew BK225.out)
          replace BK226 := aM (blk_drew BK226.out)
          replace BK227 := aM (blk_drew BK227.out)
          replace BK228 := aM (blk_drew BK228.out)
          replace HB := aM (below_drew1 HB.out)
          have p237 : 0 ≤ (x7_2 : Int) := of_decide_eq_true (by first | (with_reducible assumption) | assumption)
          have q237 : x7_2 < (l0_0.length : Int) := of_decide_eq_true (by first | (with_reducible assumption) | assumption)
          obtain ⟨ad237, e237, hx237_0, hx237_1, hx237_2⟩ := at_T45 HR0_0.out x7_2 p237 q237
          have hw237_2 := hx237_2; have hw237_1 := hx237_1; have hw237_0 := hx237_0
          cases e237
          replace hx237_0 := hxB HB hx237_0; replace hx237_1 := hxB HB hx237_1; replace hx237_2 := hxB HB hx237_2; replace p237 := eq_true p237; replace q237 := eq_true q237
          refine start_ (n := 9) (S := fun w' => w'.cell? ⟨gb225, 0, none⟩ = some (.slice (some ad237) l0_0.length c0_0) ∧ w'.cell? ⟨gb226, 0, none⟩ = some (.string a1_0) ∧ w'.cell? ⟨gb226, 1, none⟩ = some (.string a1_1) ∧ w'.cell? ⟨gb226, 2, none⟩ = some (.int .i64 a1_2) ∧ w'.cell? (ad237.add ((x7_2).toNat * 3)) = some (.string ((rd_T45 l0_0 x7_2).f0)) ∧ w'.cell? ⟨(ad237.add ((x7_2).toNat * 3)).block, (ad237.add ((x7_2).toNat * 3)).off + 1, none⟩ = some (.string ((rd_T45 l0_0 x7_2).f1)) ∧ w'.cell? ⟨(ad237.add ((x7_2).toNat * 3)).block, (ad237.add ((x7_2).toNat * 3)).off + 2, none⟩ = some (.int .i64 ((rd_T45 l0_0 x7_2).f2))) (ds := []) (bB 9 0) (by kernel_rfl) rfl rfl ⟨(blk_cell BK225.out 0).trans rfl, (blk_cell BK226.out 0).trans rfl, (blk_cell BK226.out 1).trans rfl, (blk_cell BK226.out 2).trans rfl, (hyB HB hw237_0), (hyB HB hw237_1), (hyB HB hw237_2)⟩ (fun hHeld => ?_); refine with_tabW spec_l03Put.tab11 spec_l03Put.bits11 (fun HT_ HW_ => ?_)
          generalize wr.drew = w59 at HO_229000 BK225 BK226 BK227 BK228 HB hx237_0 hx237_1 hx237_2 hHeld ⊢
          refine pA HT_.out 0 48 9 1 ?_; refine pA HT_.out 2 50 9 5 ?_; refine pA HT_.out 6 54 9 69 ?_; refine tA HT_.out HW_.out 1 49 9 71 hHeld ?_; refine pA HT_.out 3 51 9 79 ?_; refine pA HT_.out 4 52 9 95 ?_; refine tA HT_.out HW_.out 5 53 9 127 hHeld ?_; refine tA HT_.out HW_.out 7 55 9 255 hHeld ?_; refine pA HT_.out 8 56 9 511 ?_
          refine done_ (done_of HT_.out (by kernel_rfl)) ?_
          try go_wp2
          go_roundg k2
          case measure => have := HK1.out; have := HK2.out; omega
          case rel => exact ⟨(wrap64 (x7_2 + 1)), (x229000_2), (u229000), (by first | rfl | (simp; done) | (simp [*]; done)), H', ⟨by have := HK1.out; have := HK2.out; omega⟩, ⟨by (with_reducible repeat first | apply rA | apply rN | apply rD); exact HO_229000.out⟩, ⟨by exact nB BK225.out⟩, ⟨by exact nB BK226.out⟩, ⟨by exact nB BK227.out⟩, ⟨by exact nB BK228.out⟩, ⟨uL HB⟩⟩
        ·rw [if_neg c43] at H
         exact absurd H (by simp)
       ·rw [if_neg c42] at H
        have c42b0 : decide (x7_2 < (l0_0.length : Int)) = false := decide_eq_false c42
        clear c42
        obtain rfl := Option.some.inj H
        have hnb60 := NB225_226.out; have hnc60 := NB226_225.out; have hnb61 := NB225_227.out; have hnc61 := NB227_225.out; have hnb62 := NB225_228.out; have hnc62 := NB228_225.out
        have hcz63_0 := czA BK225.out 0 (.slice A0_0 l0_0.length c0_0)
        have hfz63_0 := blk_frozen BK225.out 0; have hnb64 := NB228_226.out; have hnc64 := NB226_228.out; have hnb65 := NB228_227.out; have hnc65 := NB227_228.out
        have hcz66_0 := czA BK228.out 0 (u229000)
        have hfz66_0 := blk_frozen BK228.out 0
        obtain ⟨Ao67, co67, eo67⟩ := Kd.R_slice HO_229000.out
        subst eo67
        have hnb68 := NB227_226.out; have hnc68 := NB226_227.out
        have hcz69_0 := czA BK227.out 0 (.slice none 0 0)
        have hfz69_0 := blk_frozen BK227.out 0
        go_wp2
        refine bodyPost_ret (results_cell_row rfl _ _ gb227 30 #[.slice Ao67 x229000_2.length co67] (0, 0) _ rfl (by refine nB ?_; refine blk_put (cs := #[.slice none 0 0]) ?_ 0 _ rfl; exact nB BK227.out) Try.underlying30 rfl (by kernel_rfl)) rfl ?_
        exact ⟨_, by first | rfl | (simp [errW_none, errW_some] <;> rfl) | (simp [*, errW_none, errW_some] <;> rfl), by (with_reducible repeat first | apply rA | apply rN | apply rD); exact Kd.R_mono (Kd.R_far (p := ⟨gb227, 0, none⟩) (Kd.R_types HO_229000.out BK227.out (by decide)) (fun _ hk => hk.2) (.slice Ao67 x229000_2.length co67)) (fun _ hk => trivial), uL HB⟩
    ·rw [if_neg c29] at H
     exact absurd H (by simp)

end Go.Proofs.Ytidfhfaekdahpaa.QFnExactCutActs
