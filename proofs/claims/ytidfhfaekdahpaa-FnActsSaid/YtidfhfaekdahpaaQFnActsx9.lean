-- Own work (wip/turnprint.py over the kit's print).
import Derived.Test.YtidfhfaekdahpaaQFnActsx0
namespace Go.Proofs.Ytidfhfaekdahpaa.QFnActs
open Go.RowKit Go.Proofs.YtidfhfaekdahpaaW.PrintWords Go.Proofs.YtidfhfaekdahpaaW.PrintLast Go.Proofs.YtidfhfaekdahpaaW.PrintMore
attribute [local go_sem] max2_int min2_int max_two min_two max_three min_three max_four min_four   -- for this text's walks alone
attribute [local go_sem] Go.Proofs.YtidfhfaekdahpaaQWords.run_lss_str
attribute [local go_sem] Go.Proofs.YtidfhfaekdahpaaQWords.run_geq_str
attribute [local go_sem] Go.Proofs.YtidfhfaekdahpaaQWords.run_leq_str
attribute [local go_sem] Go.Proofs.YtidfhfaekdahpaaQWords.run_gtr_str
set_option linter.unusedVariables false
set_option linter.unusedSimpArgs false

/-! ### spec_l03Put: function 79 -/
mutual
def spec_l03Put.l0 : Nat → Int → List (S45) → ByteArray → ByteArray → Int → List (S45) → Option ((List (S45)))
 | 0, _, _, _, _, _, _ => none
 | k + 1, x6, x131000, x132000, x132001, x132002, x134000 => if x6 < (x131000.length : Int) then (if 0 ≤ x6 then (if (Op.bytesLess (((rd_T45 x131000 x6).f0).toList) x132000.toList) = true then (if x134000.length < 3518437208883 then (spec_l03Put.l0 k (wrap64 (x6 + 1)) x131000 x132000 x132001 x132002 (x134000 ++ [(⟨(rd_T45 x131000 x6).f0, (rd_T45 x131000 x6).f1, (rd_T45 x131000 x6).f2⟩ : S45)])) else (none)) else (spec_l03Put.l0 k (wrap64 (x6 + 1)) x131000 x132000 x132001 x132002 x134000)) else (none)) else (if x134000.length < 3518437208883 then (spec_l03Put.l1 k 0 x131000 x132000 x132001 x132002 (x134000 ++ [(⟨x132000, x132001, x132002⟩ : S45)])) else (none))
def spec_l03Put.l1 : Nat → Int → List (S45) → ByteArray → ByteArray → Int → List (S45) → Option ((List (S45)))
 | 0, _, _, _, _, _, _ => none
 | k + 1, x7, x131000, x132000, x132001, x132002, x134000 => if x7 < (x131000.length : Int) then (if 0 ≤ x7 then (if (Op.bytesLess x132000.toList (((rd_T45 x131000 x7).f0).toList)) = true then (if x134000.length < 3518437208883 then (spec_l03Put.l1 k (wrap64 (x7 + 1)) x131000 x132000 x132001 x132002 (x134000 ++ [(⟨(rd_T45 x131000 x7).f0, (rd_T45 x131000 x7).f1, (rd_T45 x131000 x7).f2⟩ : S45)])) else (none)) else (spec_l03Put.l1 k (wrap64 (x7 + 1)) x131000 x132000 x132001 x132002 x134000)) else (none)) else (some x134000)
end
def spec_l03Put.f (k : Nat) (l0_0 : List (S45)) (a1_0 : ByteArray) (a1_1 : ByteArray) (a1_2 : Int) : Option ((List (S45))) := spec_l03Put.l0 k 0 l0_0 a1_0 a1_1 a1_2 ([] : List (S45))
theorem spec_l03Put.mono_l : ∀ k, (∀ y0 y1 y2 y3 y4 y5, LeO (spec_l03Put.l0 k y0 y1 y2 y3 y4 y5) (spec_l03Put.l0 (k + 1) y0 y1 y2 y3 y4 y5)) ∧ (∀ y0 y1 y2 y3 y4 y5, LeO (spec_l03Put.l1 k y0 y1 y2 y3 y4 y5) (spec_l03Put.l1 (k + 1) y0 y1 y2 y3 y4 y5))
 | 0 => ⟨fun _ _ _ _ _ _ r h => by simp [spec_l03Put.l0] at h, fun _ _ _ _ _ _ r h => by simp [spec_l03Put.l1] at h⟩
 | k + 1 => by
  obtain ⟨ih0, ih1⟩ := spec_l03Put.mono_l k
  refine ⟨?_, ?_⟩
  ·intro y0 y1 y2 y3 y4 y5
   unfold spec_l03Put.l0
   repeat' first
   | (with_reducible exact ih0 _ _ _ _ _ _)
   | (with_reducible exact ih1 _ _ _ _ _ _)
   | (with_reducible exact LeO.refl _)
   | (with_reducible exact LeO.none _)
   | (with_reducible refine LeO.ite ?_ ?_)
   | (with_reducible refine LeO.bind ?_ (fun _ => ?_))
   | exact ih0 _ _ _ _ _ _
   | exact ih1 _ _ _ _ _ _
   | exact LeO.none _
   | refine LeO.ite ?_ ?_
   | refine LeO.bind ?_ (fun _ => ?_)
  ·intro y0 y1 y2 y3 y4 y5
   unfold spec_l03Put.l1
   repeat' first
   | (with_reducible exact ih0 _ _ _ _ _ _)
   | (with_reducible exact ih1 _ _ _ _ _ _)
   | (with_reducible exact LeO.refl _)
   | (with_reducible exact LeO.none _)
   | (with_reducible refine LeO.ite ?_ ?_)
   | (with_reducible refine LeO.bind ?_ (fun _ => ?_))
   | exact ih0 _ _ _ _ _ _
   | exact ih1 _ _ _ _ _ _
   | exact LeO.none _
   | refine LeO.ite ?_ ?_
   | refine LeO.bind ?_ (fun _ => ?_)
theorem spec_l03Put.mono : ∀ a0 a1 a2 a3 k, LeO (spec_l03Put.f k a0 a1 a2 a3) (spec_l03Put.f (k + 1) a0 a1 a2 a3) := by
 intro a0 a1 a2 a3 k
 obtain ⟨ih0, ih1⟩ := spec_l03Put.mono_l k
 unfold spec_l03Put.f
 repeat' first
  | (with_reducible exact ih0 _ _ _ _ _ _)
  | (with_reducible exact ih1 _ _ _ _ _ _)
  | (with_reducible exact LeO.refl _)
  | (with_reducible exact LeO.none _)
  | (with_reducible refine LeO.ite ?_ ?_)
  | (with_reducible refine LeO.bind ?_ (fun _ => ?_))
  | exact ih0 _ _ _ _ _ _
  | exact ih1 _ _ _ _ _ _
  | exact LeO.none _
  | refine LeO.ite ?_ ?_
  | refine LeO.bind ?_ (fun _ => ?_)
def spec_l03Put.T5 : Bool × List (List Nat × List Nat) := (true, [([], []), ([0], [0]), ([], []), ([1, 2], [1, 2]), ([3], [3]), ([4], [4]), ([], []), ([6], [6]), ([5, 7], [5, 7])])
def spec_l03Put.B5 : List Nat := [0, 1, 0, 7, 15, 31, 0, 64, 255]
theorem spec_l03Put.tab5 : rtab .any (opsOf Try.f79 5) = spec_l03Put.T5 := by kernel_rfl
theorem spec_l03Put.bits5 : waitsOk spec_l03Put.T5.2 spec_l03Put.B5 = true := by kernel_rfl
def spec_l03Put.T6 : Bool × List (List Nat × List Nat) := (true, [([], []), ([0], [0]), ([], []), ([2], [2]), ([], []), ([3, 4], [3, 4]), ([5], [5]), ([6], [6]), ([1, 7], [1, 7]), ([0, 1, 2, 3, 4, 5, 6, 7, 8], []), ([9, 8, 8, 0, 1, 2, 3, 4, 5, 6, 7, 8], [8, 9])])
def spec_l03Put.B6 : List Nat := [0, 1, 0, 4, 0, 28, 60, 124, 255, 511, 1023]
theorem spec_l03Put.tab6 : rtab .any (opsOf Try.f79 6) = spec_l03Put.T6 := by kernel_rfl
theorem spec_l03Put.bits6 : waitsOk spec_l03Put.T6.2 spec_l03Put.B6 = true := by kernel_rfl
def spec_l03Put.T11 : Bool × List (List Nat × List Nat) := (true, [([], []), ([0], [0]), ([], []), ([1, 2], [1, 2]), ([3], [3]), ([4], [4]), ([], []), ([6], [6]), ([5, 7], [5, 7])])
def spec_l03Put.B11 : List Nat := [0, 1, 0, 7, 15, 31, 0, 64, 255]
theorem spec_l03Put.tab11 : rtab .any (opsOf Try.f79 11) = spec_l03Put.T11 := by kernel_rfl
theorem spec_l03Put.bits11 : waitsOk spec_l03Put.T11.2 spec_l03Put.B11 = true := by kernel_rfl
def spec_l03Put.T12 : Bool × List (List Nat × List Nat) := (true, [([], []), ([0], [0]), ([], []), ([2], [2]), ([], []), ([3, 4], [3, 4]), ([5], [5]), ([6], [6]), ([1, 7], [1, 7]), ([0, 1, 2, 3, 4, 5, 6, 7, 8], []), ([9, 8, 8, 0, 1, 2, 3, 4, 5, 6, 7, 8], [8, 9])])
def spec_l03Put.B12 : List Nat := [0, 1, 0, 4, 0, 28, 60, 124, 255, 511, 1023]
theorem spec_l03Put.tab12 : rtab .any (opsOf Try.f79 12) = spec_l03Put.T12 := by kernel_rfl
theorem spec_l03Put.bits12 : waitsOk spec_l03Put.T12.2 spec_l03Put.B12 = true := by kernel_rfl
set_option maxHeartbeats 8000000 in
set_option maxRecDepth 100000 in
theorem spec_l03Put.calls (k : Nat) (A0_0 : Option Addr) (c0_0 : Nat) (l0_0 : List (S45)) (a1_0 : ByteArray) (a1_1 : ByteArray) (a1_2 : Int) (r : List (S45)) (w : World) (hr0_0 : Kd.C k45 w A0_0 l0_0.length l0_0) (hc0_0 : l0_0.length ≤ c0_0) (h : spec_l03Put.f k l0_0 a1_0 a1_1 a1_2 = some r) :
 Calls Try.prog 79 #[.agg #[.slice A0_0 l0_0.length c0_0], .agg #[.string a1_0, .string a1_1, .int .i64 a1_2]] w fun e w' => ∃ v0_ : Value, e = .returned (.agg #[v0_]) ∧ Kd.R k45 45 w' w.heap.size (fun _ => True) v0_ r ∧ Below w.heap.size w w' := by
 have hu30 := Try.underlying30
 have hu45 := Try.underlying45
 have HR0_0 := aM hr0_0
 have HC0_0 := aM hc0_0
 clear hr0_0 hc0_0
 have HB := aM (Below.refl w.heap.size w)
 have H : (spec_l03Put.l0 k 0 l0_0 a1_0 a1_1 a1_2 ([] : List (S45))) = some r := h
 clear h
 have H' := aM H
 clear H
 go_enter Try.func79, Try.ntmps79
 go_wp2_with (first | ((with_reducible refine gate_dst (N := 2) rfl ?_); refine bxE 2 #[.slice A0_0 l0_0.length c0_0] 30 ?_; intro gb130 hg w3 hbox hb; have BK130 := aM (hbox); have GW130 := szG hg (uL HB); have GE130 := szG hg (uL HB); replace HB := aM (below_step (uL HB) hb); clear hb hbox hg) | ((with_reducible refine gate_dst (N := 3) rfl ?_); refine bxE 3 #[.string a1_0, .string a1_1, .int .i64 a1_2] 45 ?_; intro gb131 hg w4 hbox hb; have BK131 := aM (hbox); have GW131 := szG hg (uL HB); have GE131 := szG hg (uL HB); have NB130_131 := neL hg BK130; have NB131_130 := neG hg BK130; replace BK130 := blkB BK130 hb; replace HB := aM (below_step (uL HB) hb); clear hb hbox hg) | ((with_reducible refine gate_dst (N := 4) rfl ?_); refine bxE 4 #[.slice none 0 0] 30 ?_; intro gb132 hg w5 hbox hb; have BK132 := aM (hbox); have GW132 := szG hg (uL HB); have GE132 := szG hg (uL HB); have NB130_132 := neL hg BK130; have NB132_130 := neG hg BK130; have NB131_132 := neL hg BK131; have NB132_131 := neG hg BK131; replace BK130 := blkB BK130 hb; replace BK131 := blkB BK131 hb; replace HB := aM (below_step (uL HB) hb); clear hb hbox hg) | ((with_reducible refine gate_dst (N := 5) rfl ?_); refine bxE 5 #[.slice none 0 0] 30 ?_; intro gb133 hg w6 hbox hb; have BK133 := aM (hbox); have GW133 := szG hg (uL HB); have GE133 := szG hg (uL HB); have NB130_133 := neL hg BK130; have NB133_130 := neG hg BK130; have NB131_133 := neL hg BK131; have NB133_131 := neG hg BK131; have NB132_133 := neL hg BK132; have NB133_132 := neG hg BK132; replace BK130 := blkB BK130 hb; replace BK131 := blkB BK131 hb; replace BK132 := blkB BK132 hb; replace HB := aM (below_step (uL HB) hb); clear hb hbox hg; have hnb7 := NB133_130.out; have hnc7 := NB130_133.out; have hnb8 := NB133_131.out; have hnc8 := NB131_133.out; have hnb9 := NB133_132.out; have hnc9 := NB132_133.out; have hcz10_0 := czA BK133.out 0 (.slice none 0 0); have hfz10_0 := blk_frozen BK133.out 0))
 go_loopg [6] k (fun kq v6 w' => ∃ (x6_1 : Int) (x134000_1 : List (S45)) (u134000 : Value), v6 = .int .i64 x6_1 ∧ Aside0 (spec_l03Put.l0 kq x6_1 l0_0 a1_0 a1_1 a1_2 x134000_1 = some r) ∧ Aside0 (kq ≤ k) ∧ Aside0 (Kd.R k45 45 w' w.heap.size (fun k_ => k_ ≠ gb131) u134000 x134000_1) ∧ Aside0 (w'.heap[gb130]? = some (.cells #[(.slice A0_0 l0_0.length c0_0)] 30 (0, 0))) ∧ Aside0 (w'.heap[gb131]? = some (.cells #[.string a1_0, .string a1_1, .int .i64 a1_2] 45 (0, 0))) ∧ Aside0 (w'.heap[gb132]? = some (.cells #[(.slice none 0 0)] 30 (0, 0))) ∧ Aside0 (w'.heap[gb133]? = some (.cells #[u134000] 30 (0, 0))) ∧ Aside0 (Below w.heap.size w w'))
 case atStart => exact ⟨(0), (([] : List (S45))), (.slice none 0 0), (by first | rfl | (simp; done) | (simp [*]; done)), H', ⟨Nat.le_refl _⟩, ⟨by first | exact Kd.R_nil _ _ _ _ _ | exact Kd.N_nil _ _ _ _ _ | exact Kd.V_nil _ _ _ _ _ | exact Kd.Q_nil _ _ _ _ _ | exact Kd.S_nil _ _ _ _ _⟩, ⟨by refine nB ?_; refine blk_far ?_ NB130_133.out _; exact nB BK130.out⟩, ⟨by refine nB ?_; refine blk_far ?_ NB131_133.out _; exact nB BK131.out⟩, ⟨by refine nB ?_; refine blk_far ?_ NB132_133.out _; exact nB BK132.out⟩, ⟨by refine nB ?_; refine blk_put (cs := #[.slice none 0 0]) ?_ 0 _ rfl; exact nB BK133.out⟩, ⟨uL HB⟩⟩
 case round =>
  clear H'
  try clear p2; try clear c7; try clear c8; try clear c9; try clear hcz10_0; try clear hfz10_0
  obtain ⟨x6_1, x134000_1, u134000, rfl, HA, HK1, HO_134000, BK130, BK131, BK132, BK133, HB⟩ := hrel
  cases gk with
  | zero => exact absurd HA.out (by simp [spec_l03Put.l0])
  | succ k1 =>
   have H := HA.out
   clear HA
   simp only [spec_l03Put.l0] at H
   by_cases c11 : x6_1 < (l0_0.length : Int)
   ·rw [if_pos c11] at H
    have c11b0 : decide (x6_1 < (l0_0.length : Int)) = true := decide_eq_true c11
    clear c11
    by_cases c12 : 0 ≤ x6_1
    ·rw [if_pos c12] at H
     have c12b0 : decide (0 ≤ x6_1) = true := decide_eq_true c12
     clear c12
     by_cases c13 : (Op.bytesLess (((rd_T45 l0_0 x6_1).f0).toList) a1_0.toList) = true
     ·rw [if_pos c13] at H
      have c13b0 : (Op.bytesLess (((rd_T45 l0_0 x6_1).f0).toList) a1_0.toList) = true := c13
      clear c13
      by_cases c14 : x134000_1.length < 3518437208883
      ·rw [if_pos c14] at H
       have LMc14 := aM c14
       clear c14
       obtain ⟨y136, hy136⟩ : ∃ y_ : List (S45), y_ = (x134000_1 ++ [(⟨(rd_T45 l0_0 x6_1).f0, (rd_T45 l0_0 x6_1).f1, (rd_T45 l0_0 x6_1).f2⟩ : S45)]) := ⟨_, rfl⟩
       replace H : (spec_l03Put.l0 k1 (wrap64 (x6_1 + 1)) l0_0 a1_0 a1_1 a1_2 y136) = some r := by first | (rw [hy136]; with_reducible exact H) | (have H2_ := (Option.bind_some _ _).symm.trans H; rw [hy136]; with_reducible exact H2_) | (have H2_ := (Option.bind_some _ _).symm.trans H; with_reducible exact H2_) | with_reducible exact H | (rw [hy136]; exact H) | exact H
       have Ny136 := aM hy136
       clear hy136
       have H' := aM H
       clear H
       have hnb15 := NB130_131.out; have hnc15 := NB131_130.out; have hnb16 := NB130_132.out; have hnc16 := NB132_130.out; have hnb17 := NB130_133.out; have hnc17 := NB133_130.out
       have hcz18_0 := czA BK130.out 0 (.slice A0_0 l0_0.length c0_0)
       have hfz18_0 := blk_frozen BK130.out 0
       try go_wp2
       replace HO_134000 := aM (Kd.R_drew HO_134000.out)
       replace BK130 := aM (blk_drew BK130.out)
       replace BK131 := aM (blk_drew BK131.out)
       replace BK132 := aM (blk_drew BK132.out)
       replace BK133 := aM (blk_drew BK133.out)
       replace HB := aM (below_drew1 HB.out)
       have p134 : 0 ≤ (x6_1 : Int) := of_decide_eq_true (by first | (with_reducible assumption) | assumption)
       have q134 : x6_1 < (l0_0.length : Int) := of_decide_eq_true (by first | (with_reducible assumption) | assumption)
       obtain ⟨ad134, e134, hx134_0, hx134_1, hx134_2⟩ := at_T45 HR0_0.out x6_1 p134 q134
       have hw134_2 := hx134_2; have hw134_1 := hx134_1; have hw134_0 := hx134_0
       cases e134
       replace hx134_0 := hxB HB hx134_0; replace hx134_1 := hxB HB hx134_1; replace hx134_2 := hxB HB hx134_2; replace p134 := eq_true p134; replace q134 := eq_true q134
       refine start_ (n := 9) (S := fun w' => w'.cell? ⟨gb130, 0, none⟩ = some (.slice (some ad134) l0_0.length c0_0) ∧ w'.cell? ⟨gb131, 0, none⟩ = some (.string a1_0) ∧ w'.cell? ⟨gb131, 1, none⟩ = some (.string a1_1) ∧ w'.cell? ⟨gb131, 2, none⟩ = some (.int .i64 a1_2) ∧ w'.cell? (ad134.add ((x6_1).toNat * 3)) = some (.string ((rd_T45 l0_0 x6_1).f0)) ∧ w'.cell? ⟨(ad134.add ((x6_1).toNat * 3)).block, (ad134.add ((x6_1).toNat * 3)).off + 1, none⟩ = some (.string ((rd_T45 l0_0 x6_1).f1)) ∧ w'.cell? ⟨(ad134.add ((x6_1).toNat * 3)).block, (ad134.add ((x6_1).toNat * 3)).off + 2, none⟩ = some (.int .i64 ((rd_T45 l0_0 x6_1).f2))) (ds := []) (bB 9 0) (by kernel_rfl) rfl rfl ⟨(blk_cell BK130.out 0).trans rfl, (blk_cell BK131.out 0).trans rfl, (blk_cell BK131.out 1).trans rfl, (blk_cell BK131.out 2).trans rfl, (hyB HB hw134_0), (hyB HB hw134_1), (hyB HB hw134_2)⟩ (fun hHeld => ?_); refine with_tabW spec_l03Put.tab5 spec_l03Put.bits5 (fun HT_ HW_ => ?_)
       generalize wr.drew = w19 at HO_134000 BK130 BK131 BK132 BK133 HB hx134_0 hx134_1 hx134_2 hHeld ⊢
       refine pA HT_.out 0 16 9 1 ?_; refine pA HT_.out 2 18 9 5 ?_; refine pA HT_.out 6 22 9 69 ?_; refine tA HT_.out HW_.out 1 17 9 71 hHeld ?_; refine pA HT_.out 3 19 9 79 ?_; refine pA HT_.out 4 20 9 95 ?_; refine tA HT_.out HW_.out 5 21 9 127 hHeld ?_; refine tA HT_.out HW_.out 7 23 9 255 hHeld ?_; refine pA HT_.out 8 24 9 511 ?_
       refine done_ (done_of HT_.out (by kernel_rfl)) ?_
       try go_wp2
       replace HO_134000 := aM (Kd.R_drew HO_134000.out)
       replace BK130 := aM (blk_drew BK130.out)
       replace BK131 := aM (blk_drew BK131.out)
       replace BK132 := aM (blk_drew BK132.out)
       replace BK133 := aM (blk_drew BK133.out)
       replace HB := aM (below_drew1 HB.out)
       have p135 : 0 ≤ (x6_1 : Int) := of_decide_eq_true (by first | (with_reducible assumption) | assumption)
       have q135 : x6_1 < (l0_0.length : Int) := of_decide_eq_true (by first | (with_reducible assumption) | assumption)
       obtain ⟨ad135, e135, hx135_0, hx135_1, hx135_2⟩ := at_T45 HR0_0.out x6_1 p135 q135
       have hw135_2 := hx135_2; have hw135_1 := hx135_1; have hw135_0 := hx135_0
       obtain rfl : ad134 = ad135 := (by injection e135)
       replace hx135_0 := hxB HB hx135_0; replace hx135_1 := hxB HB hx135_1; replace hx135_2 := hxB HB hx135_2; replace p135 := eq_true p135; replace q135 := eq_true q135
       refine start_ (n := 11) (S := fun w' => w'.cell? ⟨gb133, 0, none⟩ = some (u134000) ∧ w'.cell? ⟨gb130, 0, none⟩ = some (.slice (some ad134) l0_0.length c0_0) ∧ w'.cell? (ad134.add ((x6_1).toNat * 3)) = some (.string ((rd_T45 l0_0 x6_1).f0)) ∧ w'.cell? ⟨(ad134.add ((x6_1).toNat * 3)).block, (ad134.add ((x6_1).toNat * 3)).off + 1, none⟩ = some (.string ((rd_T45 l0_0 x6_1).f1)) ∧ w'.cell? ⟨(ad134.add ((x6_1).toNat * 3)).block, (ad134.add ((x6_1).toNat * 3)).off + 2, none⟩ = some (.int .i64 ((rd_T45 l0_0 x6_1).f2))) (ds := [10]) (bB 11 0) (by kernel_rfl) rfl rfl ⟨(blk_cell BK133.out 0).trans rfl, (blk_cell BK130.out 0).trans rfl, (hyB HB hw135_0), (hyB HB hw135_1), (hyB HB hw135_2)⟩ (fun hHeld => ?_); refine with_tabW spec_l03Put.tab6 spec_l03Put.bits6 (fun HT_ HW_ => ?_)
       generalize w19.drew = w20 at HO_134000 BK130 BK131 BK132 BK133 HB hx135_0 hx135_1 hx135_2 hHeld ⊢
       refine pA HT_.out 0 25 11 1 ?_; refine pA HT_.out 2 27 11 5 ?_; refine pA HT_.out 4 29 11 21 ?_; refine tA HT_.out HW_.out 1 26 11 23 hHeld ?_; refine tA HT_.out HW_.out 3 28 11 31 hHeld ?_; refine pA HT_.out 5 30 11 63 ?_; refine tA HT_.out HW_.out 6 31 11 127 hHeld ?_
       refine oA HT_.out 7 (some 32) 11 255 (fun K hK => ?_)
       refine value_ (w1 := ?_) (v := ?_) (by rfl) rfl ?_ ?_
       rotate_left 2
       ·go_simp
        constructor
        ·rfl
        ·rfl
       refine hK.out _ _ ⟨(blk_cell (blk_alloc BK133.out _) 0).trans rfl, (blk_cell (blk_alloc BK130.out _) 0).trans rfl, (World.cell?_alloc_lt _ _ _ (World.block_lt_of_cell? _ _ ((hyB HB hw135_0)))).trans ((hyB HB hw135_0)), (World.cell?_alloc_lt _ _ _ (World.block_lt_of_cell? _ _ ((hyB HB hw135_1)))).trans ((hyB HB hw135_1)), (World.cell?_alloc_lt _ _ _ (World.block_lt_of_cell? _ _ ((hyB HB hw135_2)))).trans ((hyB HB hw135_2))⟩ (fun hHeld => ?_)
       clear hK K
       refine nX 32 ?_
       refine oA HT_.out 8 (some 33) 11 511 (fun K hK => ?_)
       refine Kd.R_append_step k45 (w0 := w) w.heap.size (by rfl) (.tmp 26) (.tmp 32) 28 45 (.agg #[(.string ⟨#[]⟩), (.string ⟨#[]⟩), (.int .i64 0)]) 40 rfl Try.underlying28 info45 rfl (by decide) (by omega) u134000 x134000_1 (⟨(rd_T45 l0_0 x6_1).f0, (rd_T45 l0_0 x6_1).f1, (rd_T45 l0_0 x6_1).f2⟩ : S45) [.string ((rd_T45 l0_0 x6_1).f0), .string ((rd_T45 l0_0 x6_1).f1), .int .i64 ((rd_T45 l0_0 x6_1).f2)] (fun k_ => k_ ≠ gb131) (fun _ => False) rfl rfl ?aP (fun _ hk => hk.elim) ?aF ?aO ?aB ?aS ?aL ?_
       (case aP => exact k45_mkM _ _ _ (⟨(rd_T45 l0_0 x6_1).f0, (rd_T45 l0_0 x6_1).f1, (rd_T45 l0_0 x6_1).f2⟩ : S45))
       (case aB => exact (uL HB))
       (case aF => exact (fun k_ hk => Kd.freshB (g := gb131) (o := .cells #[.string a1_0, .string a1_1, .int .i64 a1_2] 45 (0, 0)) (uB BK131) k_ hk))
       (case aO => exact (uR HO_134000))
       (case aS => exact (below_size (uL HB)))
       (case aL => have := LMc14.out; omega)
       intro v137 w21 ho hb hg hat
       rw [← Ny136.out] at ho
       have n0_ := aM (blk_grown (g := gb130) (o := .cells #[.slice (some ad134) l0_0.length c0_0] 30 (0, 0)) (uB BK130) hg (Kd.R_ne HO_134000.out BK130.out (by decide)))
       have n1_ := aM (blk_grown (g := gb131) (o := .cells #[.string a1_0, .string a1_1, .int .i64 a1_2] 45 (0, 0)) (uB BK131) hg (Kd.R_away HO_134000.out (fun _ hk => hk)))
       have n2_ := aM (blk_grown (g := gb132) (o := .cells #[.slice none 0 0] 30 (0, 0)) (uB BK132) hg (Kd.R_ne HO_134000.out BK132.out (by decide)))
       have n3_ := aM (blk_grown (g := gb133) (o := .cells #[u134000] 30 (0, 0)) (uB BK133) hg (Kd.R_ne HO_134000.out BK133.out (by decide)))
       have n4_ := aM (hb)
       have n5_ := aM (ho)
       clear BK130 BK131 BK132 BK133 HB HO_134000; have BK130 := n0_; have BK131 := n1_; have BK132 := n2_; have BK133 := n3_; have HB := n4_; have HO138 := n5_; clear n0_ n1_ n2_ n3_ n4_ n5_ ho hb hg hat
       obtain ⟨Ao22, co22, eo22⟩ := Kd.R_slice HO138.out
       (first | subst eo22 | (injection eo22 with f1_ f2_ f3_; have f4_ := f1_.symm; have f5_ := f3_.symm; clear f1_ f2_ f3_; subst f4_; subst f5_))
       refine hK.out _ _ ⟨(blk_cell BK133.out 0).trans rfl, (blk_cell BK130.out 0).trans rfl, (hyB HB hw135_0), (hyB HB hw135_1), (hyB HB hw135_2)⟩ (fun hHeld => ?_)
       clear hK K
       refine nX 33 ?_; refine pA HT_.out 9 34 11 1023 ?_
       refine last_ (i := 10) (N := none) (bB 11 2047) rfl rfl (one_of HT_.out (by kernel_rfl)) (by decide) (fun K hK => ?_)
       have hs23 := czA BK133.out 0 (u134000)
       have hfs23 := blk_frozen BK133.out 0; have hns23_0 := NB130_133.out; have hns23_1 := NB131_133.out; have hns23_2 := NB132_133.out; have hms23_0 := NB133_130.out; have hms23_1 := NB133_131.out; have hms23_2 := NB133_132.out
       refine skip_ (w1 := ?_) (by rfl) rfl ?_ ?_
       rotate_left
       ·go_simp
        rfl
       refine hK.out _ _ ?_
       clear hK K
       refine done_ (done_of HT_.out (by kernel_rfl)) ?_
       try go_wp2
       go_roundg k1
       case measure => have := HK1.out; omega
       case rel => exact ⟨(wrap64 (x6_1 + 1)), (y136), (.slice Ao22 y136.length co22), (by first | rfl | (simp; done) | (simp [*]; done)), H', ⟨by have := HK1.out; omega⟩, ⟨by (with_reducible repeat first | apply rA | apply rN | apply rD); exact Kd.R_mono (Kd.R_far (p := ⟨gb133, 0, none⟩) (Kd.R_types HO138.out BK133.out (by decide)) (fun _ hk => hk.2) (.slice Ao22 y136.length co22)) (fun _ hk => hk.1)⟩, ⟨by refine nB ?_; refine blk_far ?_ NB130_133.out _; exact nB BK130.out⟩, ⟨by refine nB ?_; refine blk_far ?_ NB131_133.out _; exact nB BK131.out⟩, ⟨by refine nB ?_; refine blk_far ?_ NB132_133.out _; exact nB BK132.out⟩, ⟨by refine nB ?_; refine blk_put (cs := #[u134000]) ?_ 0 _ rfl; exact nB BK133.out⟩, ⟨uL HB⟩⟩
      ·rw [if_neg c14] at H
       exact absurd H (by simp)
     ·rw [if_neg c13] at H
      have c13b0 : (Op.bytesLess (((rd_T45 l0_0 x6_1).f0).toList) a1_0.toList) = false := by simpa using c13
      clear c13
      have H' := aM H
      clear H
      have hnb24 := NB130_131.out; have hnc24 := NB131_130.out; have hnb25 := NB130_132.out; have hnc25 := NB132_130.out; have hnb26 := NB130_133.out; have hnc26 := NB133_130.out
      have hcz27_0 := czA BK130.out 0 (.slice A0_0 l0_0.length c0_0)
      have hfz27_0 := blk_frozen BK130.out 0
      try go_wp2
      replace HO_134000 := aM (Kd.R_drew HO_134000.out)
      replace BK130 := aM (blk_drew BK130.out)
      replace BK131 := aM (blk_drew BK131.out)
      replace BK132 := aM (blk_drew BK132.out)
      replace BK133 := aM (blk_drew BK133.out)
      replace HB := aM (below_drew1 HB.out)
      have p134 : 0 ≤ (x6_1 : Int) := of_decide_eq_true (by first | (with_reducible assumption) | assumption)
      have q134 : x6_1 < (l0_0.length : Int) := of_decide_eq_true (by first | (with_reducible assumption) | assumption)
      obtain ⟨ad134, e134, hx134_0, hx134_1, hx134_2⟩ := at_T45 HR0_0.out x6_1 p134 q134
      have hw134_2 := hx134_2; have hw134_1 := hx134_1; have hw134_0 := hx134_0
      cases e134
      replace hx134_0 := hxB HB hx134_0; replace hx134_1 := hxB HB hx134_1; replace hx134_2 := hxB HB hx134_2; replace p134 := eq_true p134; replace q134 := eq_true q134
      refine start_ (n := 9) (S := fun w' => w'.cell? ⟨gb130, 0, none⟩ = some (.slice (some ad134) l0_0.length c0_0) ∧ w'.cell? ⟨gb131, 0, none⟩ = some (.string a1_0) ∧ w'.cell? ⟨gb131, 1, none⟩ = some (.string a1_1) ∧ w'.cell? ⟨gb131, 2, none⟩ = some (.int .i64 a1_2) ∧ w'.cell? (ad134.add ((x6_1).toNat * 3)) = some (.string ((rd_T45 l0_0 x6_1).f0)) ∧ w'.cell? ⟨(ad134.add ((x6_1).toNat * 3)).block, (ad134.add ((x6_1).toNat * 3)).off + 1, none⟩ = some (.string ((rd_T45 l0_0 x6_1).f1)) ∧ w'.cell? ⟨(ad134.add ((x6_1).toNat * 3)).block, (ad134.add ((x6_1).toNat * 3)).off + 2, none⟩ = some (.int .i64 ((rd_T45 l0_0 x6_1).f2))) (ds := []) (bB 9 0) (by kernel_rfl) rfl rfl ⟨(blk_cell BK130.out 0).trans rfl, (blk_cell BK131.out 0).trans rfl, (blk_cell BK131.out 1).trans rfl, (blk_cell BK131.out 2).trans rfl, (hyB HB hw134_0), (hyB HB hw134_1), (hyB HB hw134_2)⟩ (fun hHeld => ?_); refine with_tabW spec_l03Put.tab5 spec_l03Put.bits5 (fun HT_ HW_ => ?_)
      generalize wr.drew = w28 at HO_134000 BK130 BK131 BK132 BK133 HB hx134_0 hx134_1 hx134_2 hHeld ⊢
      refine pA HT_.out 0 16 9 1 ?_; refine pA HT_.out 2 18 9 5 ?_; refine pA HT_.out 6 22 9 69 ?_; refine tA HT_.out HW_.out 1 17 9 71 hHeld ?_; refine pA HT_.out 3 19 9 79 ?_; refine pA HT_.out 4 20 9 95 ?_; refine tA HT_.out HW_.out 5 21 9 127 hHeld ?_; refine tA HT_.out HW_.out 7 23 9 255 hHeld ?_; refine pA HT_.out 8 24 9 511 ?_
      refine done_ (done_of HT_.out (by kernel_rfl)) ?_
      try go_wp2
      go_roundg k1
      case measure => have := HK1.out; omega
      case rel => exact ⟨(wrap64 (x6_1 + 1)), (x134000_1), (u134000), (by first | rfl | (simp; done) | (simp [*]; done)), H', ⟨by have := HK1.out; omega⟩, ⟨by (with_reducible repeat first | apply rA | apply rN | apply rD); exact HO_134000.out⟩, ⟨by exact nB BK130.out⟩, ⟨by exact nB BK131.out⟩, ⟨by exact nB BK132.out⟩, ⟨by exact nB BK133.out⟩, ⟨uL HB⟩⟩
    ·rw [if_neg c12] at H
     exact absurd H (by simp)
   ·rw [if_neg c11] at H
    have c11b0 : decide (x6_1 < (l0_0.length : Int)) = false := decide_eq_false c11
    clear c11
    by_cases c29 : x134000_1.length < 3518437208883
    ·rw [if_pos c29] at H
     have LMc29 := aM c29
     clear c29
     obtain ⟨y139, hy139⟩ : ∃ y_ : List (S45), y_ = (x134000_1 ++ [(⟨a1_0, a1_1, a1_2⟩ : S45)]) := ⟨_, rfl⟩
     replace H : (spec_l03Put.l1 k1 0 l0_0 a1_0 a1_1 a1_2 y139) = some r := by first | (rw [hy139]; with_reducible exact H) | (have H2_ := (Option.bind_some _ _).symm.trans H; rw [hy139]; with_reducible exact H2_) | (have H2_ := (Option.bind_some _ _).symm.trans H; with_reducible exact H2_) | with_reducible exact H | (rw [hy139]; exact H) | exact H
     have Ny139 := aM hy139
     clear hy139
     have H' := aM H
     clear H
     have hnb30 := NB130_131.out; have hnc30 := NB131_130.out; have hnb31 := NB130_132.out; have hnc31 := NB132_130.out; have hnb32 := NB130_133.out; have hnc32 := NB133_130.out
     have hcz33_0 := czA BK130.out 0 (.slice A0_0 l0_0.length c0_0)
     have hfz33_0 := blk_frozen BK130.out 0; have hnb34 := NB133_131.out; have hnc34 := NB131_133.out; have hnb35 := NB133_132.out; have hnc35 := NB132_133.out
     have hcz36_0 := czA BK133.out 0 (u134000)
     have hfz36_0 := blk_frozen BK133.out 0; have hnb37 := NB131_132.out; have hnc37 := NB132_131.out
     have hcz38_0 := czA BK131.out 0 (.string a1_0)
     have hcz38_1 := czA BK131.out 1 (.string a1_1)
     have hcz38_2 := czA BK131.out 2 (.int .i64 a1_2)
     have hfz38_0 := blk_frozen BK131.out 0; have hfz38_1 := blk_frozen BK131.out 1; have hfz38_2 := blk_frozen BK131.out 2
     go_wp2_with (first | ((with_reducible refine gate_builtin (b := .append) (xs := #[.tmp 36, .tmp 38]) rfl ?_); at_builtin; refine Kd.R_append k45 (w0 := w) w.heap.size rfl (.tmp 36) (.tmp 38) 28 45 (.agg #[(.string ⟨#[]⟩), (.string ⟨#[]⟩), (.int .i64 0)]) 40 rfl Try.underlying28 info45 rfl (by decide) (by omega) u134000 x134000_1 (⟨a1_0, a1_1, a1_2⟩ : S45) [.string a1_0, .string a1_1, .int .i64 a1_2] (fun k_ => k_ ≠ gb131) (fun _ => False) rfl rfl ?aP (fun _ hk => hk.elim) ?aF ?aO ?aB ?aS ?aL ?_; (case aP => exact k45_mkM _ _ _ (⟨a1_0, a1_1, a1_2⟩ : S45)); (case aB => exact (uL HB)); (case aF => exact (fun k_ hk => Kd.freshB (g := gb131) (o := .cells #[.string a1_0, .string a1_1, .int .i64 a1_2] 45 (0, 0)) (uB BK131) k_ hk)); (case aO => exact (uR HO_134000)); (case aS => exact (below_size (uL HB))); (case aL => have := LMc29.out; omega); intro v140 w39 ho hb hg hat; rw [← Ny139.out] at ho; have HO141 := aM (ho); replace BK130 := aM (blk_grown (g := gb130) (o := .cells #[.slice A0_0 l0_0.length c0_0] 30 (0, 0)) (uB BK130) hg (Kd.R_ne HO_134000.out BK130.out (by decide))); replace BK131 := aM (blk_grown (g := gb131) (o := .cells #[.string a1_0, .string a1_1, .int .i64 a1_2] 45 (0, 0)) (uB BK131) hg (Kd.R_away HO_134000.out (fun _ hk => hk))); replace BK132 := aM (blk_grown (g := gb132) (o := .cells #[.slice none 0 0] 30 (0, 0)) (uB BK132) hg (Kd.R_ne HO_134000.out BK132.out (by decide))); replace BK133 := aM (blk_grown (g := gb133) (o := .cells #[u134000] 30 (0, 0)) (uB BK133) hg (Kd.R_ne HO_134000.out BK133.out (by decide))); replace HB := aM (hb); clear HO_134000; clear ho hb hg hat; obtain ⟨Ao40, co40, eo40⟩ := Kd.R_slice HO141.out; subst eo40; have hcz41_0 := czA BK133.out 0 (u134000); have hfz41_0 := blk_frozen BK133.out 0))
     go_loopg [7] k1 (fun kq v7 w' => ∃ (x7_2 : Int) (x134000_2 : List (S45)) (u134000 : Value), v7 = .int .i64 x7_2 ∧ Aside0 (spec_l03Put.l1 kq x7_2 l0_0 a1_0 a1_1 a1_2 x134000_2 = some r) ∧ Aside0 (kq ≤ k1) ∧ Aside0 (Kd.R k45 45 w' w.heap.size (fun k_ => k_ ≠ gb131) u134000 x134000_2) ∧ Aside0 (w'.heap[gb130]? = some (.cells #[(.slice A0_0 l0_0.length c0_0)] 30 (0, 0))) ∧ Aside0 (w'.heap[gb131]? = some (.cells #[.string a1_0, .string a1_1, .int .i64 a1_2] 45 (0, 0))) ∧ Aside0 (w'.heap[gb132]? = some (.cells #[(.slice none 0 0)] 30 (0, 0))) ∧ Aside0 (w'.heap[gb133]? = some (.cells #[u134000] 30 (0, 0))) ∧ Aside0 (Below w.heap.size w w'))
     case atStart => exact ⟨(0), (y139), (.slice Ao40 y139.length co40), (by first | rfl | (simp; done) | (simp [*]; done)), H', ⟨Nat.le_refl _⟩, ⟨by (with_reducible repeat first | apply rA | apply rN | apply rD); exact Kd.R_mono (Kd.R_far (p := ⟨gb133, 0, none⟩) (Kd.R_types HO141.out BK133.out (by decide)) (fun _ hk => hk.2) (.slice Ao40 y139.length co40)) (fun _ hk => hk.1)⟩, ⟨by refine nB ?_; refine blk_far ?_ NB130_133.out _; exact nB BK130.out⟩, ⟨by refine nB ?_; refine blk_far ?_ NB131_133.out _; exact nB BK131.out⟩, ⟨by refine nB ?_; refine blk_far ?_ NB132_133.out _; exact nB BK132.out⟩, ⟨by refine nB ?_; refine blk_put (cs := #[u134000]) ?_ 0 _ rfl; exact nB BK133.out⟩, ⟨uL HB⟩⟩
     case round =>
      clear H'
      try clear c1; try clear p1; try clear q1; try clear hx1; try clear c2; try clear p2; try clear c3; try clear p6; try clear c7; try clear c8; try clear c9; try clear c11; try clear c11b0; try clear c12; try clear c12b0; try clear c13; try clear c13b0; try clear p13; try clear q13; try clear hx13; try clear c14; try clear c15; try clear c16; try clear c17; try clear c24; try clear c25; try clear c26; try clear c29; try clear c30; try clear c31; try clear c32; try clear c34; try clear c35; try clear c37; try clear hcz10_0; try clear hcz18_0; try clear hcz27_0; try clear hcz33_0; try clear hcz36_0; try clear hcz38_0; try clear hcz38_1; try clear hcz38_2; try clear hcz41_0; try clear hfz10_0; try clear hfz18_0; try clear hfz27_0; try clear hfz33_0; try clear hfz36_0; try clear hfz38_0; try clear hfz38_1; try clear hfz38_2; try clear hfz41_0; try clear hx134_0; try clear hx134_1; try clear hx134_2; try clear hx135_0; try clear hx135_1; try clear hx135_2; try clear p134; try clear p135; try clear p2; try clear q134; try clear q135
      obtain ⟨x7_2, x134000_2, u134000, rfl, HA, HK2, HO_134000, BK130, BK131, BK132, BK133, HB⟩ := hrel
      cases gk with
      | zero => exact absurd HA.out (by simp [spec_l03Put.l1])
      | succ k2 =>
       have H := HA.out
       clear HA
       simp only [spec_l03Put.l1] at H
       by_cases c42 : x7_2 < (l0_0.length : Int)
       ·rw [if_pos c42] at H
        have c42b0 : decide (x7_2 < (l0_0.length : Int)) = true := decide_eq_true c42
        clear c42
        by_cases c43 : 0 ≤ x7_2
        ·rw [if_pos c43] at H
         have c43b0 : decide (0 ≤ x7_2) = true := decide_eq_true c43
         clear c43
         by_cases c44 : (Op.bytesLess a1_0.toList (((rd_T45 l0_0 x7_2).f0).toList)) = true
         ·rw [if_pos c44] at H
          have c44b0 : (Op.bytesLess a1_0.toList (((rd_T45 l0_0 x7_2).f0).toList)) = true := c44
          clear c44
          by_cases c45 : x134000_2.length < 3518437208883
          ·rw [if_pos c45] at H
           have LMc45 := aM c45
           clear c45
           obtain ⟨y144, hy144⟩ : ∃ y_ : List (S45), y_ = (x134000_2 ++ [(⟨(rd_T45 l0_0 x7_2).f0, (rd_T45 l0_0 x7_2).f1, (rd_T45 l0_0 x7_2).f2⟩ : S45)]) := ⟨_, rfl⟩
           replace H : (spec_l03Put.l1 k2 (wrap64 (x7_2 + 1)) l0_0 a1_0 a1_1 a1_2 y144) = some r := by first | (rw [hy144]; with_reducible exact H) | (have H2_ := (Option.bind_some _ _).symm.trans H; rw [hy144]; with_reducible exact H2_) | (have H2_ := (Option.bind_some _ _).symm.trans H; with_reducible exact H2_) | with_reducible exact H | (rw [hy144]; exact H) | exact H
           have Ny144 := aM hy144
           clear hy144
           have H' := aM H
           clear H
           have hnb46 := NB130_131.out; have hnc46 := NB131_130.out; have hnb47 := NB130_132.out; have hnc47 := NB132_130.out; have hnb48 := NB130_133.out; have hnc48 := NB133_130.out
           have hcz49_0 := czA BK130.out 0 (.slice A0_0 l0_0.length c0_0)
           have hfz49_0 := blk_frozen BK130.out 0
           try go_wp2
           replace HO_134000 := aM (Kd.R_drew HO_134000.out)
           replace BK130 := aM (blk_drew BK130.out)
           replace BK131 := aM (blk_drew BK131.out)
           replace BK132 := aM (blk_drew BK132.out)
           replace BK133 := aM (blk_drew BK133.out)
           replace HB := aM (below_drew1 HB.out)
           have p142 : 0 ≤ (x7_2 : Int) := of_decide_eq_true (by first | (with_reducible assumption) | assumption)
           have q142 : x7_2 < (l0_0.length : Int) := of_decide_eq_true (by first | (with_reducible assumption) | assumption)
           obtain ⟨ad142, e142, hx142_0, hx142_1, hx142_2⟩ := at_T45 HR0_0.out x7_2 p142 q142
           have hw142_2 := hx142_2; have hw142_1 := hx142_1; have hw142_0 := hx142_0
           cases e142
           replace hx142_0 := hxB HB hx142_0; replace hx142_1 := hxB HB hx142_1; replace hx142_2 := hxB HB hx142_2; replace p142 := eq_true p142; replace q142 := eq_true q142
           refine start_ (n := 9) (S := fun w' => w'.cell? ⟨gb130, 0, none⟩ = some (.slice (some ad142) l0_0.length c0_0) ∧ w'.cell? ⟨gb131, 0, none⟩ = some (.string a1_0) ∧ w'.cell? ⟨gb131, 1, none⟩ = some (.string a1_1) ∧ w'.cell? ⟨gb131, 2, none⟩ = some (.int .i64 a1_2) ∧ w'.cell? (ad142.add ((x7_2).toNat * 3)) = some (.string ((rd_T45 l0_0 x7_2).f0)) ∧ w'.cell? ⟨(ad142.add ((x7_2).toNat * 3)).block, (ad142.add ((x7_2).toNat * 3)).off + 1, none⟩ = some (.string ((rd_T45 l0_0 x7_2).f1)) ∧ w'.cell? ⟨(ad142.add ((x7_2).toNat * 3)).block, (ad142.add ((x7_2).toNat * 3)).off + 2, none⟩ = some (.int .i64 ((rd_T45 l0_0 x7_2).f2))) (ds := []) (bB 9 0) (by kernel_rfl) rfl rfl ⟨(blk_cell BK130.out 0).trans rfl, (blk_cell BK131.out 0).trans rfl, (blk_cell BK131.out 1).trans rfl, (blk_cell BK131.out 2).trans rfl, (hyB HB hw142_0), (hyB HB hw142_1), (hyB HB hw142_2)⟩ (fun hHeld => ?_); refine with_tabW spec_l03Put.tab11 spec_l03Put.bits11 (fun HT_ HW_ => ?_)
           generalize wr.drew = w50 at HO_134000 BK130 BK131 BK132 BK133 HB hx142_0 hx142_1 hx142_2 hHeld ⊢
           refine pA HT_.out 0 48 9 1 ?_; refine pA HT_.out 2 50 9 5 ?_; refine pA HT_.out 6 54 9 69 ?_; refine tA HT_.out HW_.out 1 49 9 71 hHeld ?_; refine pA HT_.out 3 51 9 79 ?_; refine pA HT_.out 4 52 9 95 ?_; refine tA HT_.out HW_.out 5 53 9 127 hHeld ?_; refine tA HT_.out HW_.out 7 55 9 255 hHeld ?_; refine pA HT_.out 8 56 9 511 ?_
           refine done_ (done_of HT_.out (by kernel_rfl)) ?_
           try go_wp2
           replace HO_134000 := aM (Kd.R_drew HO_134000.out)
           replace BK130 := aM (blk_drew BK130.out)
           replace BK131 := aM (blk_drew BK131.out)
           replace BK132 := aM (blk_drew BK132.out)
           replace BK133 := aM (blk_drew BK133.out)
           replace HB := aM (below_drew1 HB.out)
           have p143 : 0 ≤ (x7_2 : Int) := of_decide_eq_true (by first | (with_reducible assumption) | assumption)
           have q143 : x7_2 < (l0_0.length : Int) := of_decide_eq_true (by first | (with_reducible assumption) | assumption)
           obtain ⟨ad143, e143, hx143_0, hx143_1, hx143_2⟩ := at_T45 HR0_0.out x7_2 p143 q143
           have hw143_2 := hx143_2; have hw143_1 := hx143_1; have hw143_0 := hx143_0
           obtain rfl : ad142 = ad143 := (by injection e143)
           replace hx143_0 := hxB HB hx143_0; replace hx143_1 := hxB HB hx143_1; replace hx143_2 := hxB HB hx143_2; replace p143 := eq_true p143; replace q143 := eq_true q143
           refine start_ (n := 11) (S := fun w' => w'.cell? ⟨gb133, 0, none⟩ = some (u134000) ∧ w'.cell? ⟨gb130, 0, none⟩ = some (.slice (some ad142) l0_0.length c0_0) ∧ w'.cell? (ad142.add ((x7_2).toNat * 3)) = some (.string ((rd_T45 l0_0 x7_2).f0)) ∧ w'.cell? ⟨(ad142.add ((x7_2).toNat * 3)).block, (ad142.add ((x7_2).toNat * 3)).off + 1, none⟩ = some (.string ((rd_T45 l0_0 x7_2).f1)) ∧ w'.cell? ⟨(ad142.add ((x7_2).toNat * 3)).block, (ad142.add ((x7_2).toNat * 3)).off + 2, none⟩ = some (.int .i64 ((rd_T45 l0_0 x7_2).f2))) (ds := [10]) (bB 11 0) (by kernel_rfl) rfl rfl ⟨(blk_cell BK133.out 0).trans rfl, (blk_cell BK130.out 0).trans rfl, (hyB HB hw143_0), (hyB HB hw143_1), (hyB HB hw143_2)⟩ (fun hHeld => ?_); refine with_tabW spec_l03Put.tab12 spec_l03Put.bits12 (fun HT_ HW_ => ?_)
           generalize w50.drew = w51 at HO_134000 BK130 BK131 BK132 BK133 HB hx143_0 hx143_1 hx143_2 hHeld ⊢
           refine pA HT_.out 0 57 11 1 ?_; refine pA HT_.out 2 59 11 5 ?_; refine pA HT_.out 4 61 11 21 ?_; refine tA HT_.out HW_.out 1 58 11 23 hHeld ?_; refine tA HT_.out HW_.out 3 60 11 31 hHeld ?_; refine pA HT_.out 5 62 11 63 ?_; refine tA HT_.out HW_.out 6 63 11 127 hHeld ?_
           refine oA HT_.out 7 (some 64) 11 255 (fun K hK => ?_)
           refine value_ (w1 := ?_) (v := ?_) (by rfl) rfl ?_ ?_
           rotate_left 2
           ·go_simp
            constructor
            ·rfl
            ·rfl
           refine hK.out _ _ ⟨(blk_cell (blk_alloc BK133.out _) 0).trans rfl, (blk_cell (blk_alloc BK130.out _) 0).trans rfl, (World.cell?_alloc_lt _ _ _ (World.block_lt_of_cell? _ _ ((hyB HB hw143_0)))).trans ((hyB HB hw143_0)), (World.cell?_alloc_lt _ _ _ (World.block_lt_of_cell? _ _ ((hyB HB hw143_1)))).trans ((hyB HB hw143_1)), (World.cell?_alloc_lt _ _ _ (World.block_lt_of_cell? _ _ ((hyB HB hw143_2)))).trans ((hyB HB hw143_2))⟩ (fun hHeld => ?_)
           clear hK K
           refine nX 64 ?_
           refine oA HT_.out 8 (some 65) 11 511 (fun K hK => ?_)
           refine Kd.R_append_step k45 (w0 := w) w.heap.size (by rfl) (.tmp 58) (.tmp 64) 28 45 (.agg #[(.string ⟨#[]⟩), (.string ⟨#[]⟩), (.int .i64 0)]) 40 rfl Try.underlying28 info45 rfl (by decide) (by omega) u134000 x134000_2 (⟨(rd_T45 l0_0 x7_2).f0, (rd_T45 l0_0 x7_2).f1, (rd_T45 l0_0 x7_2).f2⟩ : S45) [.string ((rd_T45 l0_0 x7_2).f0), .string ((rd_T45 l0_0 x7_2).f1), .int .i64 ((rd_T45 l0_0 x7_2).f2)] (fun k_ => k_ ≠ gb131) (fun _ => False) rfl rfl ?aP (fun _ hk => hk.elim) ?aF ?aO ?aB ?aS ?aL ?_
           (case aP => exact k45_mkM _ _ _ (⟨(rd_T45 l0_0 x7_2).f0, (rd_T45 l0_0 x7_2).f1, (rd_T45 l0_0 x7_2).f2⟩ : S45))
           (case aB => exact (uL HB))
           (case aF => exact (fun k_ hk => Kd.freshB (g := gb131) (o := .cells #[.string a1_0, .string a1_1, .int .i64 a1_2] 45 (0, 0)) (uB BK131) k_ hk))
           (case aO => exact (uR HO_134000))
           (case aS => exact (below_size (uL HB)))
           (case aL => have := LMc45.out; omega)
           intro v145 w52 ho hb hg hat
           rw [← Ny144.out] at ho
           have n0_ := aM (blk_grown (g := gb130) (o := .cells #[.slice (some ad142) l0_0.length c0_0] 30 (0, 0)) (uB BK130) hg (Kd.R_ne HO_134000.out BK130.out (by decide)))
           have n1_ := aM (blk_grown (g := gb131) (o := .cells #[.string a1_0, .string a1_1, .int .i64 a1_2] 45 (0, 0)) (uB BK131) hg (Kd.R_away HO_134000.out (fun _ hk => hk)))
           have n2_ := aM (blk_grown (g := gb132) (o := .cells #[.slice none 0 0] 30 (0, 0)) (uB BK132) hg (Kd.R_ne HO_134000.out BK132.out (by decide)))
           have n3_ := aM (blk_grown (g := gb133) (o := .cells #[u134000] 30 (0, 0)) (uB BK133) hg (Kd.R_ne HO_134000.out BK133.out (by decide)))
           have n4_ := aM (hb)
           have n5_ := aM (ho)
           clear BK130 BK131 BK132 BK133 HB HO_134000; have BK130 := n0_; have BK131 := n1_; have BK132 := n2_; have BK133 := n3_; have HB := n4_; have HO146 := n5_; clear n0_ n1_ n2_ n3_ n4_ n5_ ho hb hg hat
           obtain ⟨Ao53, co53, eo53⟩ := Kd.R_slice HO146.out
           (first | subst eo53 | (injection eo53 with f1_ f2_ f3_; have f4_ := f1_.symm; have f5_ := f3_.symm; clear f1_ f2_ f3_; subst f4_; subst f5_))
           refine hK.out _ _ ⟨(blk_cell BK133.out 0).trans rfl, (blk_cell BK130.out 0).trans rfl, (hyB HB hw143_0), (hyB HB hw143_1), (hyB HB hw143_2)⟩ (fun hHeld => ?_)
           clear hK K
           refine nX 65 ?_; refine pA HT_.out 9 66 11 1023 ?_
           refine last_ (i := 10) (N := none) (bB 11 2047) rfl rfl (one_of HT_.out (by kernel_rfl)) (by decide) (fun K hK => ?_)
           have hs54 := czA BK133.out 0 (u134000)
           have hfs54 := blk_frozen BK133.out 0; have hns54_0 := NB130_133.out; have hns54_1 := NB131_133.out; have hns54_2 := NB132_133.out; have hms54_0 := NB133_130.out; have hms54_1 := NB133_131.out; have hms54_2 := NB133_132.out
           refine skip_ (w1 := ?_) (by rfl) rfl ?_ ?_
           rotate_left
           ·go_simp
            rfl
           refine hK.out _ _ ?_
           clear hK K
           refine done_ (done_of HT_.out (by kernel_rfl)) ?_
           try go_wp2
           go_roundg k2
           case measure => have := HK1.out; have := HK2.out; omega
           case rel => exact ⟨(wrap64 (x7_2 + 1)), (y144), (.slice Ao53 y144.length co53), (by first | rfl | (simp; done) | (simp [*]; done)), H', ⟨by have := HK1.out; have := HK2.out; omega⟩, ⟨by (with_reducible repeat first | apply rA | apply rN | apply rD); exact Kd.R_mono (Kd.R_far (p := ⟨gb133, 0, none⟩) (Kd.R_types HO146.out BK133.out (by decide)) (fun _ hk => hk.2) (.slice Ao53 y144.length co53)) (fun _ hk => hk.1)⟩, ⟨by refine nB ?_; refine blk_far ?_ NB130_133.out _; exact nB BK130.out⟩, ⟨by refine nB ?_; refine blk_far ?_ NB131_133.out _; exact nB BK131.out⟩, ⟨by refine nB ?_; refine blk_far ?_ NB132_133.out _; exact nB BK132.out⟩, ⟨by refine nB ?_; refine blk_put (cs := #[u134000]) ?_ 0 _ rfl; exact nB BK133.out⟩, ⟨uL HB⟩⟩
          ·rw [if_neg c45] at H
           exact absurd H (by simp)
         ·rw [if_neg c44] at H
          have c44b0 : (Op.bytesLess a1_0.toList (((rd_T45 l0_0 x7_2).f0).toList)) = false := by simpa using c44
          clear c44
          have H' := aM H
          clear H
          have hnb55 := NB130_131.out; have hnc55 := NB131_130.out; have hnb56 := NB130_132.out; have hnc56 := NB132_130.out; have hnb57 := NB130_133.out; have hnc57 := NB133_130.out
          have hcz58_0 := czA BK130.out 0 (.slice A0_0 l0_0.length c0_0)
          have hfz58_0 := blk_frozen BK130.out 0
          try go_wp2
          replace HO_134000 := aM (Kd.R_drew HO_134000.out)
          replace BK130 := aM (blk_drew BK130.out)
          replace BK131 := aM (blk_drew BK131.out)
          replace BK132 := aM (blk_drew BK132.out)
          replace BK133 := aM (blk_drew BK133.out)
          replace HB := aM (below_drew1 HB.out)
          have p142 : 0 ≤ (x7_2 : Int) := of_decide_eq_true (by first | (with_reducible assumption) | assumption)
          have q142 : x7_2 < (l0_0.length : Int) := of_decide_eq_true (by first | (with_reducible assumption) | assumption)
          obtain ⟨ad142, e142, hx142_0, hx142_1, hx142_2⟩ := at_T45 HR0_0.out x7_2 p142 q142
          have hw142_2 := hx142_2; have hw142_1 := hx142_1; have hw142_0 := hx142_0
          cases e142
          replace hx142_0 := hxB HB hx142_0; replace hx142_1 := hxB HB hx142_1; replace hx142_2 := hxB HB hx142_2; replace p142 := eq_true p142; replace q142 := eq_true q142
          refine start_ (n := 9) (S := fun w' => w'.cell? ⟨gb130, 0, none⟩ = some (.slice (some ad142) l0_0.length c0_0) ∧ w'.cell? ⟨gb131, 0, none⟩ = some (.string a1_0) ∧ w'.cell? ⟨gb131, 1, none⟩ = some (.string a1_1) ∧ w'.cell? ⟨gb131, 2, none⟩ = some (.int .i64 a1_2) ∧ w'.cell? (ad142.add ((x7_2).toNat * 3)) = some (.string ((rd_T45 l0_0 x7_2).f0)) ∧ w'.cell? ⟨(ad142.add ((x7_2).toNat * 3)).block, (ad142.add ((x7_2).toNat * 3)).off + 1, none⟩ = some (.string ((rd_T45 l0_0 x7_2).f1)) ∧ w'.cell? ⟨(ad142.add ((x7_2).toNat * 3)).block, (ad142.add ((x7_2).toNat * 3)).off + 2, none⟩ = some (.int .i64 ((rd_T45 l0_0 x7_2).f2))) (ds := []) (bB 9 0) (by kernel_rfl) rfl rfl ⟨(blk_cell BK130.out 0).trans rfl, (blk_cell BK131.out 0).trans rfl, (blk_cell BK131.out 1).trans rfl, (blk_cell BK131.out 2).trans rfl, (hyB HB hw142_0), (hyB HB hw142_1), (hyB HB hw142_2)⟩ (fun hHeld => ?_); refine with_tabW spec_l03Put.tab11 spec_l03Put.bits11 (fun HT_ HW_ => ?_)
          generalize wr.drew = w59 at HO_134000 BK130 BK131 BK132 BK133 HB hx142_0 hx142_1 hx142_2 hHeld ⊢
          refine pA HT_.out 0 48 9 1 ?_; refine pA HT_.out 2 50 9 5 ?_; refine pA HT_.out 6 54 9 69 ?_; refine tA HT_.out HW_.out 1 49 9 71 hHeld ?_; refine pA HT_.out 3 51 9 79 ?_; refine pA HT_.out 4 52 9 95 ?_; refine tA HT_.out HW_.out 5 53 9 127 hHeld ?_; refine tA HT_.out HW_.out 7 55 9 255 hHeld ?_; refine pA HT_.out 8 56 9 511 ?_
          refine done_ (done_of HT_.out (by kernel_rfl)) ?_
          try go_wp2
          go_roundg k2
          case measure => have := HK1.out; have := HK2.out; omega
          case rel => exact ⟨(wrap64 (x7_2 + 1)), (x134000_2), (u134000), (by first | rfl | (simp; done) | (simp [*]; done)), H', ⟨by have := HK1.out; have := HK2.out; omega⟩, ⟨by (with_reducible repeat first | apply rA | apply rN | apply rD); exact HO_134000.out⟩, ⟨by exact nB BK130.out⟩, ⟨by exact nB BK131.out⟩, ⟨by exact nB BK132.out⟩, ⟨by exact nB BK133.out⟩, ⟨uL HB⟩⟩
        ·rw [if_neg c43] at H
         exact absurd H (by simp)
       ·rw [if_neg c42] at H
        have c42b0 : decide (x7_2 < (l0_0.length : Int)) = false := decide_eq_false c42
        clear c42
        obtain rfl := Option.some.inj H
        have hnb60 := NB130_131.out; have hnc60 := NB131_130.out; have hnb61 := NB130_132.out; have hnc61 := NB132_130.out; have hnb62 := NB130_133.out; have hnc62 := NB133_130.out
        have hcz63_0 := czA BK130.out 0 (.slice A0_0 l0_0.length c0_0)
        have hfz63_0 := blk_frozen BK130.out 0; have hnb64 := NB133_131.out; have hnc64 := NB131_133.out; have hnb65 := NB133_132.out; have hnc65 := NB132_133.out
        have hcz66_0 := czA BK133.out 0 (u134000)
        have hfz66_0 := blk_frozen BK133.out 0
        obtain ⟨Ao67, co67, eo67⟩ := Kd.R_slice HO_134000.out
        subst eo67
        have hnb68 := NB132_131.out; have hnc68 := NB131_132.out
        have hcz69_0 := czA BK132.out 0 (.slice none 0 0)
        have hfz69_0 := blk_frozen BK132.out 0
        go_wp2
        refine bodyPost_ret (results_cell_row rfl _ _ gb132 30 #[.slice Ao67 x134000_2.length co67] (0, 0) _ rfl (by refine nB ?_; refine blk_put (cs := #[.slice none 0 0]) ?_ 0 _ rfl; exact nB BK132.out) Try.underlying30 rfl (by kernel_rfl)) rfl ?_
        exact ⟨_, by first | rfl | (simp [errW_none, errW_some] <;> rfl) | (simp [*, errW_none, errW_some] <;> rfl), by (with_reducible repeat first | apply rA | apply rN | apply rD); exact Kd.R_mono (Kd.R_far (p := ⟨gb132, 0, none⟩) (Kd.R_types HO_134000.out BK132.out (by decide)) (fun _ hk => hk.2) (.slice Ao67 x134000_2.length co67)) (fun _ hk => trivial), uL HB⟩
    ·rw [if_neg c29] at H
     exact absurd H (by simp)

end Go.Proofs.Ytidfhfaekdahpaa.QFnActs
