-- Own work (wip/turnprint.py over the kit's print).
import Derived.Test.YtidfhfaekdahpaaQFnActsx0
import Derived.Test.YtidfhfaekdahpaaQFnActsx7
namespace Go.Proofs.Ytidfhfaekdahpaa.QFnActs
open Go.RowKit Go.Proofs.YtidfhfaekdahpaaW.PrintWords Go.Proofs.YtidfhfaekdahpaaW.PrintLast Go.Proofs.YtidfhfaekdahpaaW.PrintMore
attribute [local go_sem] max2_int min2_int max_two min_two max_three min_three max_four min_four   -- for this text's walks alone
set_option linter.unusedVariables false
set_option linter.unusedSimpArgs false

/-! ### spec_LoseDisk: function 31 -/
mutual
def spec_LoseDisk.l0 : Nat → List Int → Int → List (S45) → List (S45) → Option ((List (S45)) × Bool)
 | 0, _, _, _, _ => none
 | k + 1, x1, x7, x428000, x431000 => if x7 < (x428000.length : Int) then (if 0 ≤ x7 then (if x7 < (x1.length : Int) then (spec_LoseDisk.j1 k x1 x7 (rd x1 x7) x428000 x431000 ((rd_T45 x428000 x7).f0) ((rd_T45 x428000 x7).f1) ((rd_T45 x428000 x7).f2)) else (spec_LoseDisk.j1 k x1 x7 0 x428000 x431000 ((rd_T45 x428000 x7).f0) ((rd_T45 x428000 x7).f1) ((rd_T45 x428000 x7).f2))) else (none)) else (some (x431000, true))
def spec_LoseDisk.j1 : Nat → List Int → Int → Int → List (S45) → List (S45) → ByteArray → ByteArray → Int → Option ((List (S45)) × Bool)
 | 0, _, _, _, _, _, _, _, _ => none
 | k + 1, x1, x7, x9, x428000, x431000, x433000, x433001, x433002 => if x9 > (x433001.size : Int) then (if (x433001.size : Int) < x433002 then (if 0 ≤ x433002 then (if x433002 ≤ (x433001.size : Int) then (if x431000.length < 3518437208883 then (spec_LoseDisk.l0 k x1 (wrap64 (x7 + 1)) x428000 (x431000 ++ [(⟨x433000, x433001.extract 0 (x433002 : Int).toNat, x433002⟩ : S45)])) else (none)) else (none)) else (none)) else (if 0 ≤ (x433001.size : Int) then (if (x433001.size : Int) ≤ (x433001.size : Int) then (if x431000.length < 3518437208883 then (spec_LoseDisk.l0 k x1 (wrap64 (x7 + 1)) x428000 (x431000 ++ [(⟨x433000, x433001, (x433001.size : Int)⟩ : S45)])) else (none)) else (none)) else (none))) else (if x9 < x433002 then (if 0 ≤ x433002 then (if x433002 ≤ (x433001.size : Int) then (if x431000.length < 3518437208883 then (spec_LoseDisk.l0 k x1 (wrap64 (x7 + 1)) x428000 (x431000 ++ [(⟨x433000, x433001.extract 0 (x433002 : Int).toNat, x433002⟩ : S45)])) else (none)) else (none)) else (none)) else (if 0 ≤ x9 then (if x9 ≤ (x433001.size : Int) then (if x431000.length < 3518437208883 then (spec_LoseDisk.l0 k x1 (wrap64 (x7 + 1)) x428000 (x431000 ++ [(⟨x433000, x433001.extract 0 (x9 : Int).toNat, x9⟩ : S45)])) else (none)) else (none)) else (none)))
end
def spec_LoseDisk.f (k : Nat) (l0_0 : List (S45)) (l1 : List Int) : Option ((List (S45)) × Bool) := (spec_DiskOk.f k l0_0).bind fun t429 => (if t429 = true then (spec_LoseDisk.l0 k l1 0 l0_0 ([] : List (S45))) else (some (([] : List (S45)), false)))
theorem spec_LoseDisk.mono_l : ∀ k, (∀ y0 y1 y2 y3, LeO (spec_LoseDisk.l0 k y0 y1 y2 y3) (spec_LoseDisk.l0 (k + 1) y0 y1 y2 y3)) ∧ (∀ y0 y1 y2 y3 y4 y5 y6 y7, LeO (spec_LoseDisk.j1 k y0 y1 y2 y3 y4 y5 y6 y7) (spec_LoseDisk.j1 (k + 1) y0 y1 y2 y3 y4 y5 y6 y7))
 | 0 => ⟨fun _ _ _ _ r h => by simp [spec_LoseDisk.l0] at h, fun _ _ _ _ _ _ _ _ r h => by simp [spec_LoseDisk.j1] at h⟩
 | k + 1 => by
  obtain ⟨ih0, ih1⟩ := spec_LoseDisk.mono_l k
  refine ⟨?_, ?_⟩
  ·intro y0 y1 y2 y3
   unfold spec_LoseDisk.l0
   repeat' first
   | (with_reducible exact ih0 _ _ _ _)
   | (with_reducible exact ih1 _ _ _ _ _ _ _ _)
   | (with_reducible exact spec_DiskOk.mono _ _)
   | (with_reducible exact LeO.refl _)
   | (with_reducible exact LeO.none _)
   | (with_reducible refine LeO.ite ?_ ?_)
   | (with_reducible refine LeO.bind ?_ (fun _ => ?_))
   | exact ih0 _ _ _ _
   | exact ih1 _ _ _ _ _ _ _ _
   | exact spec_DiskOk.mono _ _
   | exact LeO.none _
   | refine LeO.ite ?_ ?_
   | refine LeO.bind ?_ (fun _ => ?_)
  ·intro y0 y1 y2 y3 y4 y5 y6 y7
   unfold spec_LoseDisk.j1
   repeat' first
   | (with_reducible exact ih0 _ _ _ _)
   | (with_reducible exact ih1 _ _ _ _ _ _ _ _)
   | (with_reducible exact spec_DiskOk.mono _ _)
   | (with_reducible exact LeO.refl _)
   | (with_reducible exact LeO.none _)
   | (with_reducible refine LeO.ite ?_ ?_)
   | (with_reducible refine LeO.bind ?_ (fun _ => ?_))
   | exact ih0 _ _ _ _
   | exact ih1 _ _ _ _ _ _ _ _
   | exact spec_DiskOk.mono _ _
   | exact LeO.none _
   | refine LeO.ite ?_ ?_
   | refine LeO.bind ?_ (fun _ => ?_)
theorem spec_LoseDisk.mono : ∀ a0 a1 k, LeO (spec_LoseDisk.f k a0 a1) (spec_LoseDisk.f (k + 1) a0 a1) := by
 intro a0 a1 k
 obtain ⟨ih0, ih1⟩ := spec_LoseDisk.mono_l k
 unfold spec_LoseDisk.f
 repeat' first
  | (with_reducible exact ih0 _ _ _ _)
  | (with_reducible exact ih1 _ _ _ _ _ _ _ _)
  | (with_reducible exact spec_DiskOk.mono _ _)
  | (with_reducible exact LeO.refl _)
  | (with_reducible exact LeO.none _)
  | (with_reducible refine LeO.ite ?_ ?_)
  | (with_reducible refine LeO.bind ?_ (fun _ => ?_))
  | exact ih0 _ _ _ _
  | exact ih1 _ _ _ _ _ _ _ _
  | exact spec_DiskOk.mono _ _
  | exact LeO.none _
  | refine LeO.ite ?_ ?_
  | refine LeO.bind ?_ (fun _ => ?_)
def spec_LoseDisk.T15 : Bool × List (List Nat × List Nat) := (true, [([], []), ([0], [0]), ([], []), ([2], [2]), ([], []), ([4], [4]), ([], []), ([5, 6], [5, 6]), ([], []), ([3, 7, 8], [3, 7, 8]), ([9], [9]), ([1, 10], [1, 10]), ([0, 1, 2, 3, 4, 5, 6, 7, 8, 9, 10, 11], []), ([12, 11, 11, 0, 1, 2, 3, 4, 5, 6, 7, 8, 9, 10, 11], [11, 12])])
def spec_LoseDisk.B15 : List Nat := [0, 1, 0, 4, 0, 16, 0, 112, 0, 508, 1020, 2047, 4095, 8191]
theorem spec_LoseDisk.tab15 : rtab .any (opsOf Try.f31 15) = spec_LoseDisk.T15 := by kernel_rfl
theorem spec_LoseDisk.bits15 : waitsOk spec_LoseDisk.T15.2 spec_LoseDisk.B15 = true := by kernel_rfl
set_option maxHeartbeats 8000000 in
set_option maxRecDepth 100000 in
theorem spec_LoseDisk.calls (k : Nat) (A0_0 : Option Addr) (c0_0 : Nat) (l0_0 : List (S45)) (A1 : Option Addr) (c1 : Nat) (l1 : List Int) (r1 : List (S45)) (r2 : Bool) (w : World) (hr0_0 : Kd.C k45 w A0_0 l0_0.length l0_0) (hc0_0 : l0_0.length ≤ c0_0) (hr1 : Kd.C (Kd.int .i64) w A1 l1.length l1) (hc1 : l1.length ≤ c1) (h : spec_LoseDisk.f k l0_0 l1 = some (r1, r2)) :
 Calls Try.prog 31 #[.agg #[.slice A0_0 l0_0.length c0_0], .slice A1 l1.length c1] w fun e w' => ∃ v0_ : Value, e = .returned (.tuple #[.agg #[v0_], .bool r2]) ∧ Kd.R k45 45 w' w.heap.size (fun _ => True) v0_ r1 ∧ Below w.heap.size w w' := by
 have hu30 := Try.underlying30
 have hu45 := Try.underlying45
 have HR0_0 := aM hr0_0
 have HC0_0 := aM hc0_0
 clear hr0_0 hc0_0
 have HR1 := aM hr1
 have HC1 := aM hc1
 clear hr1 hc1
 have HB := aM (Below.refl w.heap.size w)
 have H : ((spec_DiskOk.f k l0_0).bind fun t429 => (if t429 = true then (spec_LoseDisk.l0 k l1 0 l0_0 ([] : List (S45))) else (some (([] : List (S45)), false)))) = some (r1, r2) := h
 clear h
 replace H := Option.bind_eq_some_iff.mp H
 obtain ⟨t429, A30, H⟩ := H
 replace H : (if t429 = true then (spec_LoseDisk.l0 k l1 0 l0_0 ([] : List (S45))) else (some (([] : List (S45)), false))) = some (r1, r2) := H
 have A3 := aM A30
 clear A30
 by_cases c4 : t429 = true
 ·subst c4
  have H1 : (spec_LoseDisk.l0 k l1 0 l0_0 ([] : List (S45))) = some (r1, r2) := by rw [if_pos rfl] at H; exact H
  clear H; have H := H1; clear H1
  have H' := aM H
  clear H
  go_enter Try.func31, Try.ntmps31
  go_wp2_with (first | ((with_reducible refine gate_dst (N := 2) rfl ?_); refine bxE 2 #[.slice A0_0 l0_0.length c0_0] 30 ?_; intro gb427 hg w5 hbox hb; have BK427 := aM (hbox); have GW427 := szG hg (uL HB); have GE427 := szG hg (uL HB); replace HB := aM (below_step (uL HB) hb); clear hb hbox hg) | ((with_reducible refine gate_dst (N := 4) rfl ?_); refine bxE 4 #[.slice none 0 0] 30 ?_; intro gb428 hg w6 hbox hb; have BK428 := aM (hbox); have GW428 := szG hg (uL HB); have GE428 := szG hg (uL HB); have NB427_428 := neL hg BK427; have NB428_427 := neG hg BK427; replace BK427 := blkB BK427 hb; replace HB := aM (below_step (uL HB) hb); clear hb hbox hg; have hnb7 := NB427_428.out; have hnc7 := NB428_427.out; have hcz8_0 := czA BK427.out 0 (.slice A0_0 l0_0.length c0_0); have hfz8_0 := blk_frozen BK427.out 0) | ((with_reducible refine gate_callee (f := 20) rfl ?_); refine gL (some 11) Try.func20 #[.agg #[.slice A0_0 l0_0.length c0_0]] ?_; (with_reducible refine (spec_DiskOk.calls k _ _ l0_0 true _ ?side1 ?side2 A3.out).mono ?_); (case side1 => exact uC HR0_0 HB); (case side2 => exact HC0_0.out); rintro e w9 ⟨rfl, hb⟩; refine ⟨_, rfl, ?_⟩; replace BK427 := blkB BK427 hb; replace BK428 := blkB BK428 hb; replace HB := aM (below_step (uL HB) hb); try clear hb) | ((with_reducible refine gate_dst (N := 6) rfl ?_); refine bxE 6 #[.slice none 0 0] 30 ?_; intro gb430 hg w10 hbox hb; have BK430 := aM (hbox); have GW430 := szG hg (uL HB); have GE430 := szG hg (uL HB); have NB427_430 := neL hg BK427; have NB430_427 := neG hg BK427; have NB428_430 := neL hg BK428; have NB430_428 := neG hg BK428; replace BK427 := blkB BK427 hb; replace BK428 := blkB BK428 hb; replace HB := aM (below_step (uL HB) hb); clear hb hbox hg; have hnb11 := NB430_427.out; have hnc11 := NB427_430.out; have hnb12 := NB430_428.out; have hnc12 := NB428_430.out; have hcz13_0 := czA BK430.out 0 (.slice none 0 0); have hfz13_0 := blk_frozen BK430.out 0))
  go_loopg [7] k (fun kq v7 w' => ∃ (x7_1 : Int) (x431000_1 : List (S45)) (u431000 : Value), v7 = .int .i64 x7_1 ∧ Aside0 (spec_LoseDisk.l0 kq l1 x7_1 l0_0 x431000_1 = some (r1, r2)) ∧ Aside0 (kq ≤ k) ∧ Aside0 (Kd.R k45 45 w' w.heap.size (fun _ => True) u431000 x431000_1) ∧ Aside0 (w'.heap[gb427]? = some (.cells #[(.slice A0_0 l0_0.length c0_0)] 30 (0, 0))) ∧ Aside0 (w'.heap[gb428]? = some (.cells #[(.slice none 0 0)] 30 (0, 0))) ∧ Aside0 (w'.heap[gb430]? = some (.cells #[u431000] 30 (0, 0))) ∧ Aside0 (Below w.heap.size w w'))
  case atStart => exact ⟨(0), (([] : List (S45))), (.slice none 0 0), (by first | rfl | (simp; done) | (simp [*]; done)), H', ⟨Nat.le_refl _⟩, ⟨by first | exact Kd.R_nil _ _ _ _ _ | exact Kd.N_nil _ _ _ _ _ | exact Kd.V_nil _ _ _ _ _ | exact Kd.Q_nil _ _ _ _ _ | exact Kd.S_nil _ _ _ _ _⟩, ⟨by refine nB ?_; refine blk_far ?_ NB427_430.out _; exact nB BK427.out⟩, ⟨by refine nB ?_; refine blk_far ?_ NB428_430.out _; exact nB BK428.out⟩, ⟨by refine nB ?_; refine blk_put (cs := #[.slice none 0 0]) ?_ 0 _ rfl; exact nB BK430.out⟩, ⟨uL HB⟩⟩
  case round =>
   clear H'
   try clear c1; try clear c2; try clear p2; try clear c3; try clear c4; try clear c7; try clear c11; try clear c12; try clear hcz13_0; try clear hcz8_0; try clear hfz13_0; try clear hfz8_0
   obtain ⟨x7_1, x431000_1, u431000, rfl, HA, HK1, HO_431000, BK427, BK428, BK430, HB⟩ := hrel
   cases gk with
   | zero => exact absurd HA.out (by simp [spec_LoseDisk.l0])
   | succ k1 =>
    have H := HA.out
    clear HA
    simp only [spec_LoseDisk.l0] at H
    by_cases c14 : x7_1 < (l0_0.length : Int)
    ·rw [if_pos c14] at H
     have c14b0 : decide (x7_1 < (l0_0.length : Int)) = true := decide_eq_true c14
     clear c14
     by_cases c15 : 0 ≤ x7_1
     ·rw [if_pos c15] at H
      have c15b0 : decide (0 ≤ x7_1) = true := decide_eq_true c15
      clear c15
      have HC16 := aM H
      clear H
      have hnb17 := NB427_428.out; have hnc17 := NB428_427.out; have hnb18 := NB427_430.out; have hnc18 := NB430_427.out
      have hcz19_0 := czA BK427.out 0 (.slice A0_0 l0_0.length c0_0)
      have hfz19_0 := blk_frozen BK427.out 0
      have p431 : 0 ≤ (x7_1 : Int) := of_decide_eq_true (by first | (with_reducible assumption) | assumption)
      have q431 : x7_1 < (l0_0.length : Int) := of_decide_eq_true (by first | (with_reducible assumption) | assumption)
      obtain ⟨ad431, e431, hx431_0, hx431_1, hx431_2⟩ := at_T45 HR0_0.out x7_1 p431 q431
      cases e431
      replace hx431_0 := hxB HB hx431_0; replace hx431_1 := hxB HB hx431_1; replace hx431_2 := hxB HB hx431_2; replace p431 := eq_true p431; replace q431 := eq_true q431
      go_upto_if 30 with (first | ((with_reducible refine gate_dst (N := 8) rfl ?_); refine bxE 8 #[.string (⟨#[]⟩ : ByteArray), .string (⟨#[]⟩ : ByteArray), .int .i64 0] 45 ?_; intro gb432 hg w20 hbox hb; have BK432 := aM (hbox); have GW432 := szG hg (uL HB); have GE432 := szG hg (uL HB); have NB427_432 := neL hg BK427; have NB432_427 := neG hg BK427; have NB428_432 := neL hg BK428; have NB432_428 := neG hg BK428; have NB430_432 := neL hg BK430; have NB432_430 := neG hg BK430; replace HO_431000 := aM (Kd.R_below (Kd.R_elderB (uR HO_431000) gb432 (Nat.le_of_eq hg.symm)) hb); replace BK427 := blkB BK427 hb; replace BK428 := blkB BK428 hb; replace BK430 := blkB BK430 hb; replace HB := aM (below_step (uL HB) hb); clear hb hbox hg; have hnb21 := NB432_427.out; have hnc21 := NB427_432.out; have hnb22 := NB432_428.out; have hnc22 := NB428_432.out; have hnb23 := NB432_430.out; have hnc23 := NB430_432.out; have hcz24_0 := czA BK432.out 0 (.string (⟨#[]⟩ : ByteArray)); have hcz24_1 := czA BK432.out 1 (.string (⟨#[]⟩ : ByteArray)); have hcz24_2 := czA BK432.out 2 (.int .i64 0); have hfz24_0 := blk_frozen BK432.out 0; have hfz24_1 := blk_frozen BK432.out 1; have hfz24_2 := blk_frozen BK432.out 2))
      (try simp only [Act.put, List.setIfInBounds_toArray, List.set_cons_zero, List.set_cons_succ])
      go_cut [9] (fun v9 wc => ∃ (kq : Nat) (x9_15 : Int), v9 = .int .i64 x9_15 ∧ Aside0 (spec_LoseDisk.j1 kq l1 x7_1 x9_15 l0_0 x431000_1 ((rd_T45 l0_0 x7_1).f0) ((rd_T45 l0_0 x7_1).f1) ((rd_T45 l0_0 x7_1).f2) = some (r1, r2)) ∧ Aside0 (kq ≤ k1) ∧ Aside0 (Kd.R k45 45 wc w.heap.size (fun k_ => k_ ≠ gb432) u431000 x431000_1) ∧ Aside0 (wc.heap[gb427]? = some (.cells #[(.slice (some ad431) l0_0.length c0_0)] 30 (0, 0))) ∧ Aside0 (wc.heap[gb428]? = some (.cells #[(.slice none 0 0)] 30 (0, 0))) ∧ Aside0 (wc.heap[gb430]? = some (.cells #[u431000] 30 (0, 0))) ∧ Aside0 (wc.heap[gb432]? = some (.cells #[.string ((rd_T45 l0_0 x7_1).f0), .string ((rd_T45 l0_0 x7_1).f1), .int .i64 ((rd_T45 l0_0 x7_1).f2)] 45 (0, 0))) ∧ Aside0 (Below w.heap.size w wc))
      case first =>
       have H := HC16.out
       clear HC16
       by_cases c25 : x7_1 < (l1.length : Int)
       ·rw [if_pos c25] at H
        have c25b0 : decide (x7_1 < (l1.length : Int)) = true := decide_eq_true c25
        clear c25
        (first | rw [c25b0] | (simp only [i64_w, i32_w]; rw [c25b0]) | skip)
        have H' := aM H
        clear H
        have p433 : 0 ≤ (x7_1 : Int) := of_decide_eq_true (by first | (with_reducible assumption) | assumption)
        have q433 : x7_1 < (l1.length : Int) := of_decide_eq_true (by first | (with_reducible assumption) | assumption)
        obtain ⟨ad433, e433, hx433_0⟩ := Kd.at_int HR1.out x7_1 p433 q433
        cases e433
        have hn433_0 : ad433.block ≠ gb432 := Nat.ne_of_lt (Nat.lt_of_lt_of_le (by have := World.block_lt_of_cell? _ _ hx433_0; first | rwa [add_block] at this | exact this) GW432.out)
        have hn433_1 : ad433.block ≠ gb432 := Nat.ne_of_lt (Nat.lt_of_lt_of_le (by have := World.block_lt_of_cell? _ _ hx433_0; first | rwa [add_block] at this | exact this) GW432.out)
        have hn433_2 : ad433.block ≠ gb432 := Nat.ne_of_lt (Nat.lt_of_lt_of_le (by have := World.block_lt_of_cell? _ _ hx433_0; first | rwa [add_block] at this | exact this) GW432.out)
        replace hx433_0 := hxB HB hx433_0
        replace hx433_0 := (cell_far (p := ⟨gb432, 0, none⟩) (by first | (rw [add_block]; exact hn433_0) | (show (Addr.add _ _).block ≠ _; rw [add_block]; exact hn433_0) | exact hn433_0) (.string ((rd_T45 l0_0 x7_1).f0))).trans hx433_0
        replace hx433_0 := (cell_far (p := ⟨gb432, 1, none⟩) (by first | (rw [add_block]; exact hn433_1) | (show (Addr.add _ _).block ≠ _; rw [add_block]; exact hn433_1) | exact hn433_1) (.string ((rd_T45 l0_0 x7_1).f1))).trans hx433_0
        replace hx433_0 := (cell_far (p := ⟨gb432, 2, none⟩) (by first | (rw [add_block]; exact hn433_2) | (show (Addr.add _ _).block ≠ _; rw [add_block]; exact hn433_2) | exact hn433_2) (.int .i64 ((rd_T45 l0_0 x7_1).f2))).trans hx433_0
        clear hn433_0 hn433_1 hn433_2
        replace p433 := eq_true p433; replace q433 := eq_true q433
        go_wp2
        go_meet
        case rel => exact ⟨_, (rd l1 x7_1), (by first | rfl | (simp; done) | (simp [*]; done)), H', ⟨by have := HK1.out; first | omega | exact Nat.le_refl _⟩, ⟨by (with_reducible repeat first | apply rA | apply rN | apply rD); exact Kd.R_mono (Kd.R_far (p := ⟨gb432, 2, none⟩) (Kd.R_far (p := ⟨gb432, 1, none⟩) (Kd.R_far (p := ⟨gb432, 0, none⟩) (Kd.R_mono HO_431000.out (fun k_ hk => (⟨hk, hk.2⟩ : _ ∧ k_ ≠ gb432))) (fun _ hk => hk.2) (.string ((rd_T45 l0_0 x7_1).f0))) (fun _ hk => hk.2) (.string ((rd_T45 l0_0 x7_1).f1))) (fun _ hk => hk.2) (.int .i64 ((rd_T45 l0_0 x7_1).f2))) (fun _ hk => hk.1.2)⟩, ⟨by refine nB ?_; refine blk_far ?_ NB427_432.out _; refine nB ?_; refine blk_far ?_ NB427_432.out _; refine nB ?_; refine blk_far ?_ NB427_432.out _; exact nB BK427.out⟩, ⟨by refine nB ?_; refine blk_far ?_ NB428_432.out _; refine nB ?_; refine blk_far ?_ NB428_432.out _; refine nB ?_; refine blk_far ?_ NB428_432.out _; exact nB BK428.out⟩, ⟨by refine nB ?_; refine blk_far ?_ NB430_432.out _; refine nB ?_; refine blk_far ?_ NB430_432.out _; refine nB ?_; refine blk_far ?_ NB430_432.out _; exact nB BK430.out⟩, ⟨by refine nB ?_; refine blk_put (cs := #[.string ((rd_T45 l0_0 x7_1).f0), .string ((rd_T45 l0_0 x7_1).f1), .int .i64 0]) ?_ 2 _ rfl; refine nB ?_; refine blk_put (cs := #[.string ((rd_T45 l0_0 x7_1).f0), .string (⟨#[]⟩ : ByteArray), .int .i64 0]) ?_ 1 _ rfl; refine nB ?_; refine blk_put (cs := #[.string (⟨#[]⟩ : ByteArray), .string (⟨#[]⟩ : ByteArray), .int .i64 0]) ?_ 0 _ rfl; exact nB BK432.out⟩, ⟨uL HB⟩⟩
       ·rw [if_neg c25] at H
        have c25b0 : decide (x7_1 < (l1.length : Int)) = false := decide_eq_false c25
        clear c25
        (first | rw [c25b0] | (simp only [i64_w, i32_w]; rw [c25b0]) | skip)
        have H' := aM H
        clear H
        go_wp2
        go_meet
        case rel => exact ⟨_, (0), (by first | rfl | (simp; done) | (simp [*]; done)), H', ⟨by have := HK1.out; first | omega | exact Nat.le_refl _⟩, ⟨by (with_reducible repeat first | apply rA | apply rN | apply rD); exact Kd.R_mono (Kd.R_far (p := ⟨gb432, 2, none⟩) (Kd.R_far (p := ⟨gb432, 1, none⟩) (Kd.R_far (p := ⟨gb432, 0, none⟩) (Kd.R_mono HO_431000.out (fun k_ hk => (⟨hk, hk.2⟩ : _ ∧ k_ ≠ gb432))) (fun _ hk => hk.2) (.string ((rd_T45 l0_0 x7_1).f0))) (fun _ hk => hk.2) (.string ((rd_T45 l0_0 x7_1).f1))) (fun _ hk => hk.2) (.int .i64 ((rd_T45 l0_0 x7_1).f2))) (fun _ hk => hk.1.2)⟩, ⟨by refine nB ?_; refine blk_far ?_ NB427_432.out _; refine nB ?_; refine blk_far ?_ NB427_432.out _; refine nB ?_; refine blk_far ?_ NB427_432.out _; exact nB BK427.out⟩, ⟨by refine nB ?_; refine blk_far ?_ NB428_432.out _; refine nB ?_; refine blk_far ?_ NB428_432.out _; refine nB ?_; refine blk_far ?_ NB428_432.out _; exact nB BK428.out⟩, ⟨by refine nB ?_; refine blk_far ?_ NB430_432.out _; refine nB ?_; refine blk_far ?_ NB430_432.out _; refine nB ?_; refine blk_far ?_ NB430_432.out _; exact nB BK430.out⟩, ⟨by refine nB ?_; refine blk_put (cs := #[.string ((rd_T45 l0_0 x7_1).f0), .string ((rd_T45 l0_0 x7_1).f1), .int .i64 0]) ?_ 2 _ rfl; refine nB ?_; refine blk_put (cs := #[.string ((rd_T45 l0_0 x7_1).f0), .string (⟨#[]⟩ : ByteArray), .int .i64 0]) ?_ 1 _ rfl; refine nB ?_; refine blk_put (cs := #[.string (⟨#[]⟩ : ByteArray), .string (⟨#[]⟩ : ByteArray), .int .i64 0]) ?_ 0 _ rfl; exact nB BK432.out⟩, ⟨uL HB⟩⟩
      case rest =>
       clear HC16
       try clear c1; try clear c2; try clear p2; try clear c3; try clear c4; try clear p4; try clear q4; try clear hx4; try clear c7; try clear c11; try clear c12; try clear c14; try clear c14b0; try clear c15; try clear c15b0; try clear c17; try clear c18; try clear c20; try clear c21; try clear c22; try clear c23; try clear c25; try clear c25b0; try clear hcz13_0; try clear hcz19_0; try clear hcz24_0; try clear hcz24_1; try clear hcz24_2; try clear hcz8_0; try clear hfz13_0; try clear hfz19_0; try clear hfz24_0; try clear hfz24_1; try clear hfz24_2; try clear hfz8_0; try clear hx431_0; try clear hx431_1; try clear hx431_2; try clear hx433_0; try clear p2; try clear p431; try clear p433; try clear q431; try clear q433
       obtain ⟨kq, x9_15, rfl, HA, HJ15, HO_431000, BK427, BK428, BK430, BK432, HB⟩ := hcut
       cases kq with
       | zero => exact absurd HA.out (by simp [spec_LoseDisk.j1])
       | succ kj15 =>
        have H := HA.out
        clear HA
        simp only [spec_LoseDisk.j1] at H
        by_cases c26 : x9_15 > (((rd_T45 l0_0 x7_1).f1).size : Int)
        ·rw [if_pos c26] at H
         have c26b0 : decide ((((rd_T45 l0_0 x7_1).f1).size : Int) < x9_15) = true := decide_eq_true c26
         clear c26
         by_cases c27 : (((rd_T45 l0_0 x7_1).f1).size : Int) < ((rd_T45 l0_0 x7_1).f2)
         ·rw [if_pos c27] at H
          have c27b0 : decide ((((rd_T45 l0_0 x7_1).f1).size : Int) < ((rd_T45 l0_0 x7_1).f2)) = true := decide_eq_true c27
          clear c27
          by_cases c28 : 0 ≤ ((rd_T45 l0_0 x7_1).f2)
          ·rw [if_pos c28] at H
           have c28b0 := eq_true c28
           have c28b1 : decide (0 ≤ ((rd_T45 l0_0 x7_1).f2)) = true := decide_eq_true c28
           clear c28
           by_cases c29 : ((rd_T45 l0_0 x7_1).f2) ≤ (((rd_T45 l0_0 x7_1).f1).size : Int)
           ·rw [if_pos c29] at H
            have c29b0 := eq_true c29
            have c29b1 : decide (((rd_T45 l0_0 x7_1).f2) ≤ (((rd_T45 l0_0 x7_1).f1).size : Int)) = true := decide_eq_true c29
            clear c29
            by_cases c30 : x431000_1.length < 3518437208883
            ·rw [if_pos c30] at H
             have LMc30 := aM c30
             clear c30
             obtain ⟨y434, hy434⟩ : ∃ y_ : List (S45), y_ = (x431000_1 ++ [(⟨((rd_T45 l0_0 x7_1).f0), ((rd_T45 l0_0 x7_1).f1).extract 0 (((rd_T45 l0_0 x7_1).f2) : Int).toNat, ((rd_T45 l0_0 x7_1).f2)⟩ : S45)]) := ⟨_, rfl⟩
             replace H : (spec_LoseDisk.l0 kj15 l1 (wrap64 (x7_1 + 1)) l0_0 y434) = some (r1, r2) := by first | (rw [hy434]; with_reducible exact H) | (have H2_ := (Option.bind_some _ _).symm.trans H; rw [hy434]; with_reducible exact H2_) | (have H2_ := (Option.bind_some _ _).symm.trans H; with_reducible exact H2_) | with_reducible exact H | (rw [hy434]; exact H) | exact H
             have Ny434 := aM hy434
             clear hy434
             have H' := aM H
             clear H
             have hnb31 := NB432_427.out; have hnc31 := NB427_432.out; have hnb32 := NB432_428.out; have hnc32 := NB428_432.out; have hnb33 := NB432_430.out; have hnc33 := NB430_432.out
             have hcz34_0 := czA BK432.out 0 (.string ((rd_T45 l0_0 x7_1).f0))
             have hcz34_1 := czA BK432.out 1 (.string ((rd_T45 l0_0 x7_1).f1))
             have hcz34_2 := czA BK432.out 2 (.int .i64 ((rd_T45 l0_0 x7_1).f2))
             have hfz34_0 := blk_frozen BK432.out 0; have hfz34_1 := blk_frozen BK432.out 1; have hfz34_2 := blk_frozen BK432.out 2
             try go_wp2
             replace HO_431000 := aM (Kd.R_drew HO_431000.out)
             replace BK427 := aM (blk_drew BK427.out)
             replace BK428 := aM (blk_drew BK428.out)
             replace BK430 := aM (blk_drew BK430.out)
             replace BK432 := aM (blk_drew BK432.out)
             replace HB := aM (below_drew1 HB.out)
             refine start_ (n := 14) (S := fun w' => w'.cell? ⟨gb430, 0, none⟩ = some (u431000) ∧ w'.cell? ⟨gb432, 0, none⟩ = some (.string ((rd_T45 l0_0 x7_1).f0)) ∧ w'.cell? ⟨gb432, 1, none⟩ = some (.string ((rd_T45 l0_0 x7_1).f1)) ∧ w'.cell? ⟨gb432, 2, none⟩ = some (.int .i64 ((rd_T45 l0_0 x7_1).f2))) (ds := [13]) (bB 14 0) (by kernel_rfl) rfl rfl ⟨(blk_cell BK430.out 0).trans rfl, (blk_cell BK432.out 0).trans rfl, (blk_cell BK432.out 1).trans rfl, (blk_cell BK432.out 2).trans rfl⟩ (fun hHeld => ?_); refine with_tabW spec_LoseDisk.tab15 spec_LoseDisk.bits15 (fun HT_ HW_ => ?_)
             generalize wc.drew = w35 at HO_431000 BK427 BK428 BK430 BK432 HB hHeld ⊢
             refine pA HT_.out 0 49 14 1 ?_; refine pA HT_.out 2 51 14 5 ?_; refine pA HT_.out 4 53 14 21 ?_; refine pA HT_.out 6 55 14 85 ?_; refine pA HT_.out 8 57 14 341 ?_; refine tA HT_.out HW_.out 1 50 14 343 hHeld ?_; refine tA HT_.out HW_.out 3 52 14 351 hHeld ?_; refine tA HT_.out HW_.out 5 54 14 383 hHeld ?_; refine pA HT_.out 7 56 14 511 ?_; refine pA HT_.out 9 58 14 1023 ?_
             refine oA HT_.out 10 (some 59) 14 2047 (fun K hK => ?_)
             refine value_ (w1 := ?_) (v := ?_) (by rfl) rfl ?_ ?_
             rotate_left 2
             ·go_simp
              constructor
              ·rfl
              ·rfl
             refine hK.out _ _ ⟨(blk_cell (blk_alloc BK430.out _) 0).trans rfl, (blk_cell (blk_alloc BK432.out _) 0).trans rfl, (blk_cell (blk_alloc BK432.out _) 1).trans rfl, (blk_cell (blk_alloc BK432.out _) 2).trans rfl⟩ (fun hHeld => ?_)
             clear hK K
             refine nX 59 ?_
             refine oA HT_.out 11 (some 60) 14 4095 (fun K hK => ?_)
             refine Kd.R_append_step k45 (w0 := w) w.heap.size (by rfl) (.tmp 50) (.tmp 59) 28 45 (.agg #[(.string ⟨#[]⟩), (.string ⟨#[]⟩), (.int .i64 0)]) 40 rfl Try.underlying28 info45 rfl (by decide) (by omega) u431000 x431000_1 (⟨((rd_T45 l0_0 x7_1).f0), ((rd_T45 l0_0 x7_1).f1).extract 0 (((rd_T45 l0_0 x7_1).f2) : Int).toNat, ((rd_T45 l0_0 x7_1).f2)⟩ : S45) [.string ((rd_T45 l0_0 x7_1).f0), .string (((rd_T45 l0_0 x7_1).f1).extract 0 (((rd_T45 l0_0 x7_1).f2) : Int).toNat), .int .i64 ((rd_T45 l0_0 x7_1).f2)] (fun k_ => k_ ≠ gb432) (fun _ => False) rfl rfl ?aP (fun _ hk => hk.elim) ?aF ?aO ?aB ?aS ?aL ?_
             (case aP => exact k45_mkM _ _ _ (⟨((rd_T45 l0_0 x7_1).f0), ((rd_T45 l0_0 x7_1).f1).extract 0 (((rd_T45 l0_0 x7_1).f2) : Int).toNat, ((rd_T45 l0_0 x7_1).f2)⟩ : S45))
             (case aB => exact (uL HB))
             (case aF => exact (fun k_ hk => Kd.freshB (g := gb432) (o := .cells #[.string ((rd_T45 l0_0 x7_1).f0), .string ((rd_T45 l0_0 x7_1).f1), .int .i64 ((rd_T45 l0_0 x7_1).f2)] 45 (0, 0)) (uB BK432) k_ hk))
             (case aO => exact (uR HO_431000))
             (case aS => exact (below_size (uL HB)))
             (case aL => have := LMc30.out; omega)
             intro v435 w36 ho hb hg hat
             rw [← Ny434.out] at ho
             have n0_ := aM (blk_grown (g := gb427) (o := .cells #[.slice (some ad431) l0_0.length c0_0] 30 (0, 0)) (uB BK427) hg (Kd.R_ne HO_431000.out BK427.out (by decide)))
             have n1_ := aM (blk_grown (g := gb428) (o := .cells #[.slice none 0 0] 30 (0, 0)) (uB BK428) hg (Kd.R_ne HO_431000.out BK428.out (by decide)))
             have n2_ := aM (blk_grown (g := gb430) (o := .cells #[u431000] 30 (0, 0)) (uB BK430) hg (Kd.R_ne HO_431000.out BK430.out (by decide)))
             have n3_ := aM (blk_grown (g := gb432) (o := .cells #[.string ((rd_T45 l0_0 x7_1).f0), .string ((rd_T45 l0_0 x7_1).f1), .int .i64 ((rd_T45 l0_0 x7_1).f2)] 45 (0, 0)) (uB BK432) hg (Kd.R_away HO_431000.out (fun _ hk => hk)))
             have n4_ := aM (hb)
             have n5_ := aM (ho)
             clear BK427 BK428 BK430 BK432 HB HO_431000; have BK427 := n0_; have BK428 := n1_; have BK430 := n2_; have BK432 := n3_; have HB := n4_; have HO436 := n5_; clear n0_ n1_ n2_ n3_ n4_ n5_ ho hb hg hat
             obtain ⟨Ao37, co37, eo37⟩ := Kd.R_slice HO436.out
             (first | subst eo37 | (injection eo37 with f1_ f2_ f3_; have f4_ := f1_.symm; have f5_ := f3_.symm; clear f1_ f2_ f3_; subst f4_; subst f5_))
             refine hK.out _ _ ⟨(blk_cell BK430.out 0).trans rfl, (blk_cell BK432.out 0).trans rfl, (blk_cell BK432.out 1).trans rfl, (blk_cell BK432.out 2).trans rfl⟩ (fun hHeld => ?_)
             clear hK K
             refine nX 60 ?_; refine pA HT_.out 12 61 14 8191 ?_
             refine last_ (i := 13) (N := none) (bB 14 16383) rfl rfl (one_of HT_.out (by kernel_rfl)) (by decide) (fun K hK => ?_)
             have hs38 := czA BK430.out 0 (u431000)
             have hfs38 := blk_frozen BK430.out 0; have hns38_0 := NB427_430.out; have hns38_1 := NB428_430.out; have hns38_3 := NB432_430.out; have hms38_0 := NB430_427.out; have hms38_1 := NB430_428.out; have hms38_3 := NB430_432.out
             refine skip_ (w1 := ?_) (by rfl) rfl ?_ ?_
             rotate_left
             ·go_simp
              rfl
             refine hK.out _ _ ?_
             clear hK K
             refine done_ (done_of HT_.out (by kernel_rfl)) ?_
             try go_wp2
             go_roundg kj15
             case measure => have := HK1.out; have := HJ15.out; omega
             case rel => exact ⟨(wrap64 (x7_1 + 1)), (y434), (.slice Ao37 y434.length co37), (by first | rfl | (simp; done) | (simp [*]; done)), H', ⟨by have := HK1.out; have := HJ15.out; omega⟩, ⟨by (with_reducible repeat first | apply rA | apply rN | apply rD); exact Kd.R_mono (Kd.R_far (p := ⟨gb430, 0, none⟩) (Kd.R_types HO436.out BK430.out (by decide)) (fun _ hk => hk.2) (.slice Ao37 y434.length co37)) (fun _ hk => trivial)⟩, ⟨by refine nB ?_; refine blk_far ?_ NB427_430.out _; exact nB BK427.out⟩, ⟨by refine nB ?_; refine blk_far ?_ NB428_430.out _; exact nB BK428.out⟩, ⟨by refine nB ?_; refine blk_put (cs := #[u431000]) ?_ 0 _ rfl; exact nB BK430.out⟩, ⟨uL HB⟩⟩
            ·rw [if_neg c30] at H
             exact absurd H (by simp)
           ·rw [if_neg c29] at H
            exact absurd H (by simp)
          ·rw [if_neg c28] at H
           exact absurd H (by simp)
         ·rw [if_neg c27] at H
          have c27b0 : decide ((((rd_T45 l0_0 x7_1).f1).size : Int) < ((rd_T45 l0_0 x7_1).f2)) = false := decide_eq_false c27
          clear c27
          by_cases c39 : 0 ≤ (((rd_T45 l0_0 x7_1).f1).size : Int)
          ·rw [if_pos c39] at H
           have c39b0 := eq_true c39
           have c39b1 : decide (0 ≤ (((rd_T45 l0_0 x7_1).f1).size : Int)) = true := decide_eq_true c39
           clear c39
           by_cases c40 : (((rd_T45 l0_0 x7_1).f1).size : Int) ≤ (((rd_T45 l0_0 x7_1).f1).size : Int)
           ·rw [if_pos c40] at H
            have c40b0 := eq_true c40
            have c40b1 : decide ((((rd_T45 l0_0 x7_1).f1).size : Int) ≤ (((rd_T45 l0_0 x7_1).f1).size : Int)) = true := decide_eq_true c40
            clear c40
            by_cases c41 : x431000_1.length < 3518437208883
            ·rw [if_pos c41] at H
             have LMc41 := aM c41
             clear c41
             obtain ⟨y437, hy437⟩ : ∃ y_ : List (S45), y_ = (x431000_1 ++ [(⟨((rd_T45 l0_0 x7_1).f0), ((rd_T45 l0_0 x7_1).f1), (((rd_T45 l0_0 x7_1).f1).size : Int)⟩ : S45)]) := ⟨_, rfl⟩
             replace H : (spec_LoseDisk.l0 kj15 l1 (wrap64 (x7_1 + 1)) l0_0 y437) = some (r1, r2) := by first | (rw [hy437]; with_reducible exact H) | (have H2_ := (Option.bind_some _ _).symm.trans H; rw [hy437]; with_reducible exact H2_) | (have H2_ := (Option.bind_some _ _).symm.trans H; with_reducible exact H2_) | with_reducible exact H | (rw [hy437]; exact H) | exact H
             have Ny437 := aM hy437
             clear hy437
             have H' := aM H
             clear H
             have hnb42 := NB432_427.out; have hnc42 := NB427_432.out; have hnb43 := NB432_428.out; have hnc43 := NB428_432.out; have hnb44 := NB432_430.out; have hnc44 := NB430_432.out
             have hcz45_0 := czA BK432.out 0 (.string ((rd_T45 l0_0 x7_1).f0))
             have hcz45_1 := czA BK432.out 1 (.string ((rd_T45 l0_0 x7_1).f1))
             have hcz45_2 := czA BK432.out 2 (.int .i64 ((rd_T45 l0_0 x7_1).f2))
             have hfz45_0 := blk_frozen BK432.out 0; have hfz45_1 := blk_frozen BK432.out 1; have hfz45_2 := blk_frozen BK432.out 2
             try go_wp2
             replace HO_431000 := aM (Kd.R_drew HO_431000.out)
             replace BK427 := aM (blk_drew BK427.out)
             replace BK428 := aM (blk_drew BK428.out)
             replace BK430 := aM (blk_drew BK430.out)
             replace BK432 := aM (blk_drew BK432.out)
             replace HB := aM (below_drew1 HB.out)
             refine start_ (n := 14) (S := fun w' => w'.cell? ⟨gb430, 0, none⟩ = some (u431000) ∧ w'.cell? ⟨gb432, 0, none⟩ = some (.string ((rd_T45 l0_0 x7_1).f0)) ∧ w'.cell? ⟨gb432, 1, none⟩ = some (.string ((rd_T45 l0_0 x7_1).f1)) ∧ w'.cell? ⟨gb432, 2, none⟩ = some (.int .i64 ((rd_T45 l0_0 x7_1).f2))) (ds := [13]) (bB 14 0) (by kernel_rfl) rfl rfl ⟨(blk_cell BK430.out 0).trans rfl, (blk_cell BK432.out 0).trans rfl, (blk_cell BK432.out 1).trans rfl, (blk_cell BK432.out 2).trans rfl⟩ (fun hHeld => ?_); refine with_tabW spec_LoseDisk.tab15 spec_LoseDisk.bits15 (fun HT_ HW_ => ?_)
             generalize wc.drew = w46 at HO_431000 BK427 BK428 BK430 BK432 HB hHeld ⊢
             refine pA HT_.out 0 49 14 1 ?_; refine pA HT_.out 2 51 14 5 ?_; refine pA HT_.out 4 53 14 21 ?_; refine pA HT_.out 6 55 14 85 ?_; refine pA HT_.out 8 57 14 341 ?_; refine tA HT_.out HW_.out 1 50 14 343 hHeld ?_; refine tA HT_.out HW_.out 3 52 14 351 hHeld ?_; refine tA HT_.out HW_.out 5 54 14 383 hHeld ?_; refine pA HT_.out 7 56 14 511 ?_; refine pA HT_.out 9 58 14 1023 ?_
             refine oA HT_.out 10 (some 59) 14 2047 (fun K hK => ?_)
             refine value_ (w1 := ?_) (v := ?_) (by rfl) rfl ?_ ?_
             rotate_left 2
             ·go_simp
              constructor
              ·rfl
              ·rfl
             refine hK.out _ _ ⟨(blk_cell (blk_alloc BK430.out _) 0).trans rfl, (blk_cell (blk_alloc BK432.out _) 0).trans rfl, (blk_cell (blk_alloc BK432.out _) 1).trans rfl, (blk_cell (blk_alloc BK432.out _) 2).trans rfl⟩ (fun hHeld => ?_)
             clear hK K
             refine nX 59 ?_
             refine oA HT_.out 11 (some 60) 14 4095 (fun K hK => ?_)
             refine Kd.R_append_step k45 (w0 := w) w.heap.size (by rfl) (.tmp 50) (.tmp 59) 28 45 (.agg #[(.string ⟨#[]⟩), (.string ⟨#[]⟩), (.int .i64 0)]) 40 rfl Try.underlying28 info45 rfl (by decide) (by omega) u431000 x431000_1 (⟨((rd_T45 l0_0 x7_1).f0), ((rd_T45 l0_0 x7_1).f1), (((rd_T45 l0_0 x7_1).f1).size : Int)⟩ : S45) [.string ((rd_T45 l0_0 x7_1).f0), .string (((rd_T45 l0_0 x7_1).f1)), .int .i64 (((rd_T45 l0_0 x7_1).f1).size : Int)] (fun k_ => k_ ≠ gb432) (fun _ => False) rfl rfl ?aP (fun _ hk => hk.elim) ?aF ?aO ?aB ?aS ?aL ?_
             (case aP => exact k45_mkM _ _ _ (⟨((rd_T45 l0_0 x7_1).f0), ((rd_T45 l0_0 x7_1).f1), (((rd_T45 l0_0 x7_1).f1).size : Int)⟩ : S45))
             (case aB => exact (uL HB))
             (case aF => exact (fun k_ hk => Kd.freshB (g := gb432) (o := .cells #[.string ((rd_T45 l0_0 x7_1).f0), .string ((rd_T45 l0_0 x7_1).f1), .int .i64 ((rd_T45 l0_0 x7_1).f2)] 45 (0, 0)) (uB BK432) k_ hk))
             (case aO => exact (uR HO_431000))
             (case aS => exact (below_size (uL HB)))
             (case aL => have := LMc41.out; omega)
             intro v438 w47 ho hb hg hat
             rw [← Ny437.out] at ho
             have n0_ := aM (blk_grown (g := gb427) (o := .cells #[.slice (some ad431) l0_0.length c0_0] 30 (0, 0)) (uB BK427) hg (Kd.R_ne HO_431000.out BK427.out (by decide)))
             have n1_ := aM (blk_grown (g := gb428) (o := .cells #[.slice none 0 0] 30 (0, 0)) (uB BK428) hg (Kd.R_ne HO_431000.out BK428.out (by decide)))
             have n2_ := aM (blk_grown (g := gb430) (o := .cells #[u431000] 30 (0, 0)) (uB BK430) hg (Kd.R_ne HO_431000.out BK430.out (by decide)))
             have n3_ := aM (blk_grown (g := gb432) (o := .cells #[.string ((rd_T45 l0_0 x7_1).f0), .string ((rd_T45 l0_0 x7_1).f1), .int .i64 ((rd_T45 l0_0 x7_1).f2)] 45 (0, 0)) (uB BK432) hg (Kd.R_away HO_431000.out (fun _ hk => hk)))
             have n4_ := aM (hb)
             have n5_ := aM (ho)
             clear BK427 BK428 BK430 BK432 HB HO_431000; have BK427 := n0_; have BK428 := n1_; have BK430 := n2_; have BK432 := n3_; have HB := n4_; have HO439 := n5_; clear n0_ n1_ n2_ n3_ n4_ n5_ ho hb hg hat
             obtain ⟨Ao48, co48, eo48⟩ := Kd.R_slice HO439.out
             (first | subst eo48 | (injection eo48 with f1_ f2_ f3_; have f4_ := f1_.symm; have f5_ := f3_.symm; clear f1_ f2_ f3_; subst f4_; subst f5_))
             refine hK.out _ _ ⟨(blk_cell BK430.out 0).trans rfl, (blk_cell BK432.out 0).trans rfl, (blk_cell BK432.out 1).trans rfl, (blk_cell BK432.out 2).trans rfl⟩ (fun hHeld => ?_)
             clear hK K
             refine nX 60 ?_; refine pA HT_.out 12 61 14 8191 ?_
             refine last_ (i := 13) (N := none) (bB 14 16383) rfl rfl (one_of HT_.out (by kernel_rfl)) (by decide) (fun K hK => ?_)
             have hs49 := czA BK430.out 0 (u431000)
             have hfs49 := blk_frozen BK430.out 0; have hns49_0 := NB427_430.out; have hns49_1 := NB428_430.out; have hns49_3 := NB432_430.out; have hms49_0 := NB430_427.out; have hms49_1 := NB430_428.out; have hms49_3 := NB430_432.out
             refine skip_ (w1 := ?_) (by rfl) rfl ?_ ?_
             rotate_left
             ·go_simp
              rfl
             refine hK.out _ _ ?_
             clear hK K
             refine done_ (done_of HT_.out (by kernel_rfl)) ?_
             try go_wp2
             go_roundg kj15
             case measure => have := HK1.out; have := HJ15.out; omega
             case rel => exact ⟨(wrap64 (x7_1 + 1)), (y437), (.slice Ao48 y437.length co48), (by first | rfl | (simp; done) | (simp [*]; done)), H', ⟨by have := HK1.out; have := HJ15.out; omega⟩, ⟨by (with_reducible repeat first | apply rA | apply rN | apply rD); exact Kd.R_mono (Kd.R_far (p := ⟨gb430, 0, none⟩) (Kd.R_types HO439.out BK430.out (by decide)) (fun _ hk => hk.2) (.slice Ao48 y437.length co48)) (fun _ hk => trivial)⟩, ⟨by refine nB ?_; refine blk_far ?_ NB427_430.out _; exact nB BK427.out⟩, ⟨by refine nB ?_; refine blk_far ?_ NB428_430.out _; exact nB BK428.out⟩, ⟨by refine nB ?_; refine blk_put (cs := #[u431000]) ?_ 0 _ rfl; exact nB BK430.out⟩, ⟨uL HB⟩⟩
            ·rw [if_neg c41] at H
             exact absurd H (by simp)
           ·rw [if_neg c40] at H
            exact absurd H (by simp)
          ·rw [if_neg c39] at H
           exact absurd H (by simp)
        ·rw [if_neg c26] at H
         have c26b0 : decide ((((rd_T45 l0_0 x7_1).f1).size : Int) < x9_15) = false := decide_eq_false c26
         clear c26
         by_cases c50 : x9_15 < ((rd_T45 l0_0 x7_1).f2)
         ·rw [if_pos c50] at H
          have c50b0 : decide (x9_15 < ((rd_T45 l0_0 x7_1).f2)) = true := decide_eq_true c50
          clear c50
          by_cases c51 : 0 ≤ ((rd_T45 l0_0 x7_1).f2)
          ·rw [if_pos c51] at H
           have c51b0 := eq_true c51
           have c51b1 : decide (0 ≤ ((rd_T45 l0_0 x7_1).f2)) = true := decide_eq_true c51
           clear c51
           by_cases c52 : ((rd_T45 l0_0 x7_1).f2) ≤ (((rd_T45 l0_0 x7_1).f1).size : Int)
           ·rw [if_pos c52] at H
            have c52b0 := eq_true c52
            have c52b1 : decide (((rd_T45 l0_0 x7_1).f2) ≤ (((rd_T45 l0_0 x7_1).f1).size : Int)) = true := decide_eq_true c52
            clear c52
            by_cases c53 : x431000_1.length < 3518437208883
            ·rw [if_pos c53] at H
             have LMc53 := aM c53
             clear c53
             obtain ⟨y440, hy440⟩ : ∃ y_ : List (S45), y_ = (x431000_1 ++ [(⟨((rd_T45 l0_0 x7_1).f0), ((rd_T45 l0_0 x7_1).f1).extract 0 (((rd_T45 l0_0 x7_1).f2) : Int).toNat, ((rd_T45 l0_0 x7_1).f2)⟩ : S45)]) := ⟨_, rfl⟩
             replace H : (spec_LoseDisk.l0 kj15 l1 (wrap64 (x7_1 + 1)) l0_0 y440) = some (r1, r2) := by first | (rw [hy440]; with_reducible exact H) | (have H2_ := (Option.bind_some _ _).symm.trans H; rw [hy440]; with_reducible exact H2_) | (have H2_ := (Option.bind_some _ _).symm.trans H; with_reducible exact H2_) | with_reducible exact H | (rw [hy440]; exact H) | exact H
             have Ny440 := aM hy440
             clear hy440
             have H' := aM H
             clear H
             have hnb54 := NB432_427.out; have hnc54 := NB427_432.out; have hnb55 := NB432_428.out; have hnc55 := NB428_432.out; have hnb56 := NB432_430.out; have hnc56 := NB430_432.out
             have hcz57_0 := czA BK432.out 0 (.string ((rd_T45 l0_0 x7_1).f0))
             have hcz57_1 := czA BK432.out 1 (.string ((rd_T45 l0_0 x7_1).f1))
             have hcz57_2 := czA BK432.out 2 (.int .i64 ((rd_T45 l0_0 x7_1).f2))
             have hfz57_0 := blk_frozen BK432.out 0; have hfz57_1 := blk_frozen BK432.out 1; have hfz57_2 := blk_frozen BK432.out 2
             try go_wp2
             replace HO_431000 := aM (Kd.R_drew HO_431000.out)
             replace BK427 := aM (blk_drew BK427.out)
             replace BK428 := aM (blk_drew BK428.out)
             replace BK430 := aM (blk_drew BK430.out)
             replace BK432 := aM (blk_drew BK432.out)
             replace HB := aM (below_drew1 HB.out)
             refine start_ (n := 14) (S := fun w' => w'.cell? ⟨gb430, 0, none⟩ = some (u431000) ∧ w'.cell? ⟨gb432, 0, none⟩ = some (.string ((rd_T45 l0_0 x7_1).f0)) ∧ w'.cell? ⟨gb432, 1, none⟩ = some (.string ((rd_T45 l0_0 x7_1).f1)) ∧ w'.cell? ⟨gb432, 2, none⟩ = some (.int .i64 ((rd_T45 l0_0 x7_1).f2))) (ds := [13]) (bB 14 0) (by kernel_rfl) rfl rfl ⟨(blk_cell BK430.out 0).trans rfl, (blk_cell BK432.out 0).trans rfl, (blk_cell BK432.out 1).trans rfl, (blk_cell BK432.out 2).trans rfl⟩ (fun hHeld => ?_); refine with_tabW spec_LoseDisk.tab15 spec_LoseDisk.bits15 (fun HT_ HW_ => ?_)
             generalize wc.drew = w58 at HO_431000 BK427 BK428 BK430 BK432 HB hHeld ⊢
             refine pA HT_.out 0 49 14 1 ?_; refine pA HT_.out 2 51 14 5 ?_; refine pA HT_.out 4 53 14 21 ?_; refine pA HT_.out 6 55 14 85 ?_; refine pA HT_.out 8 57 14 341 ?_; refine tA HT_.out HW_.out 1 50 14 343 hHeld ?_; refine tA HT_.out HW_.out 3 52 14 351 hHeld ?_; refine tA HT_.out HW_.out 5 54 14 383 hHeld ?_; refine pA HT_.out 7 56 14 511 ?_; refine pA HT_.out 9 58 14 1023 ?_
             refine oA HT_.out 10 (some 59) 14 2047 (fun K hK => ?_)
             refine value_ (w1 := ?_) (v := ?_) (by rfl) rfl ?_ ?_
             rotate_left 2
             ·go_simp
              constructor
              ·rfl
              ·rfl
             refine hK.out _ _ ⟨(blk_cell (blk_alloc BK430.out _) 0).trans rfl, (blk_cell (blk_alloc BK432.out _) 0).trans rfl, (blk_cell (blk_alloc BK432.out _) 1).trans rfl, (blk_cell (blk_alloc BK432.out _) 2).trans rfl⟩ (fun hHeld => ?_)
             clear hK K
             refine nX 59 ?_
             refine oA HT_.out 11 (some 60) 14 4095 (fun K hK => ?_)
             refine Kd.R_append_step k45 (w0 := w) w.heap.size (by rfl) (.tmp 50) (.tmp 59) 28 45 (.agg #[(.string ⟨#[]⟩), (.string ⟨#[]⟩), (.int .i64 0)]) 40 rfl Try.underlying28 info45 rfl (by decide) (by omega) u431000 x431000_1 (⟨((rd_T45 l0_0 x7_1).f0), ((rd_T45 l0_0 x7_1).f1).extract 0 (((rd_T45 l0_0 x7_1).f2) : Int).toNat, ((rd_T45 l0_0 x7_1).f2)⟩ : S45) [.string ((rd_T45 l0_0 x7_1).f0), .string (((rd_T45 l0_0 x7_1).f1).extract 0 (((rd_T45 l0_0 x7_1).f2) : Int).toNat), .int .i64 ((rd_T45 l0_0 x7_1).f2)] (fun k_ => k_ ≠ gb432) (fun _ => False) rfl rfl ?aP (fun _ hk => hk.elim) ?aF ?aO ?aB ?aS ?aL ?_
             (case aP => exact k45_mkM _ _ _ (⟨((rd_T45 l0_0 x7_1).f0), ((rd_T45 l0_0 x7_1).f1).extract 0 (((rd_T45 l0_0 x7_1).f2) : Int).toNat, ((rd_T45 l0_0 x7_1).f2)⟩ : S45))
             (case aB => exact (uL HB))
             (case aF => exact (fun k_ hk => Kd.freshB (g := gb432) (o := .cells #[.string ((rd_T45 l0_0 x7_1).f0), .string ((rd_T45 l0_0 x7_1).f1), .int .i64 ((rd_T45 l0_0 x7_1).f2)] 45 (0, 0)) (uB BK432) k_ hk))
             (case aO => exact (uR HO_431000))
             (case aS => exact (below_size (uL HB)))
             (case aL => have := LMc53.out; omega)
             intro v441 w59 ho hb hg hat
             rw [← Ny440.out] at ho
             have n0_ := aM (blk_grown (g := gb427) (o := .cells #[.slice (some ad431) l0_0.length c0_0] 30 (0, 0)) (uB BK427) hg (Kd.R_ne HO_431000.out BK427.out (by decide)))
             have n1_ := aM (blk_grown (g := gb428) (o := .cells #[.slice none 0 0] 30 (0, 0)) (uB BK428) hg (Kd.R_ne HO_431000.out BK428.out (by decide)))
             have n2_ := aM (blk_grown (g := gb430) (o := .cells #[u431000] 30 (0, 0)) (uB BK430) hg (Kd.R_ne HO_431000.out BK430.out (by decide)))
             have n3_ := aM (blk_grown (g := gb432) (o := .cells #[.string ((rd_T45 l0_0 x7_1).f0), .string ((rd_T45 l0_0 x7_1).f1), .int .i64 ((rd_T45 l0_0 x7_1).f2)] 45 (0, 0)) (uB BK432) hg (Kd.R_away HO_431000.out (fun _ hk => hk)))
             have n4_ := aM (hb)
             have n5_ := aM (ho)
             clear BK427 BK428 BK430 BK432 HB HO_431000; have BK427 := n0_; have BK428 := n1_; have BK430 := n2_; have BK432 := n3_; have HB := n4_; have HO442 := n5_; clear n0_ n1_ n2_ n3_ n4_ n5_ ho hb hg hat
             obtain ⟨Ao60, co60, eo60⟩ := Kd.R_slice HO442.out
             (first | subst eo60 | (injection eo60 with f1_ f2_ f3_; have f4_ := f1_.symm; have f5_ := f3_.symm; clear f1_ f2_ f3_; subst f4_; subst f5_))
             refine hK.out _ _ ⟨(blk_cell BK430.out 0).trans rfl, (blk_cell BK432.out 0).trans rfl, (blk_cell BK432.out 1).trans rfl, (blk_cell BK432.out 2).trans rfl⟩ (fun hHeld => ?_)
             clear hK K
             refine nX 60 ?_; refine pA HT_.out 12 61 14 8191 ?_
             refine last_ (i := 13) (N := none) (bB 14 16383) rfl rfl (one_of HT_.out (by kernel_rfl)) (by decide) (fun K hK => ?_)
             have hs61 := czA BK430.out 0 (u431000)
             have hfs61 := blk_frozen BK430.out 0; have hns61_0 := NB427_430.out; have hns61_1 := NB428_430.out; have hns61_3 := NB432_430.out; have hms61_0 := NB430_427.out; have hms61_1 := NB430_428.out; have hms61_3 := NB430_432.out
             refine skip_ (w1 := ?_) (by rfl) rfl ?_ ?_
             rotate_left
             ·go_simp
              rfl
             refine hK.out _ _ ?_
             clear hK K
             refine done_ (done_of HT_.out (by kernel_rfl)) ?_
             try go_wp2
             go_roundg kj15
             case measure => have := HK1.out; have := HJ15.out; omega
             case rel => exact ⟨(wrap64 (x7_1 + 1)), (y440), (.slice Ao60 y440.length co60), (by first | rfl | (simp; done) | (simp [*]; done)), H', ⟨by have := HK1.out; have := HJ15.out; omega⟩, ⟨by (with_reducible repeat first | apply rA | apply rN | apply rD); exact Kd.R_mono (Kd.R_far (p := ⟨gb430, 0, none⟩) (Kd.R_types HO442.out BK430.out (by decide)) (fun _ hk => hk.2) (.slice Ao60 y440.length co60)) (fun _ hk => trivial)⟩, ⟨by refine nB ?_; refine blk_far ?_ NB427_430.out _; exact nB BK427.out⟩, ⟨by refine nB ?_; refine blk_far ?_ NB428_430.out _; exact nB BK428.out⟩, ⟨by refine nB ?_; refine blk_put (cs := #[u431000]) ?_ 0 _ rfl; exact nB BK430.out⟩, ⟨uL HB⟩⟩
            ·rw [if_neg c53] at H
             exact absurd H (by simp)
           ·rw [if_neg c52] at H
            exact absurd H (by simp)
          ·rw [if_neg c51] at H
           exact absurd H (by simp)
         ·rw [if_neg c50] at H
          have c50b0 : decide (x9_15 < ((rd_T45 l0_0 x7_1).f2)) = false := decide_eq_false c50
          clear c50
          by_cases c62 : 0 ≤ x9_15
          ·rw [if_pos c62] at H
           have c62b0 := eq_true c62
           have c62b1 : decide (0 ≤ x9_15) = true := decide_eq_true c62
           clear c62
           by_cases c63 : x9_15 ≤ (((rd_T45 l0_0 x7_1).f1).size : Int)
           ·rw [if_pos c63] at H
            have c63b0 := eq_true c63
            have c63b1 : decide (x9_15 ≤ (((rd_T45 l0_0 x7_1).f1).size : Int)) = true := decide_eq_true c63
            clear c63
            by_cases c64 : x431000_1.length < 3518437208883
            ·rw [if_pos c64] at H
             have LMc64 := aM c64
             clear c64
             obtain ⟨y443, hy443⟩ : ∃ y_ : List (S45), y_ = (x431000_1 ++ [(⟨((rd_T45 l0_0 x7_1).f0), ((rd_T45 l0_0 x7_1).f1).extract 0 (x9_15 : Int).toNat, x9_15⟩ : S45)]) := ⟨_, rfl⟩
             replace H : (spec_LoseDisk.l0 kj15 l1 (wrap64 (x7_1 + 1)) l0_0 y443) = some (r1, r2) := by first | (rw [hy443]; with_reducible exact H) | (have H2_ := (Option.bind_some _ _).symm.trans H; rw [hy443]; with_reducible exact H2_) | (have H2_ := (Option.bind_some _ _).symm.trans H; with_reducible exact H2_) | with_reducible exact H | (rw [hy443]; exact H) | exact H
             have Ny443 := aM hy443
             clear hy443
             have H' := aM H
             clear H
             have hnb65 := NB432_427.out; have hnc65 := NB427_432.out; have hnb66 := NB432_428.out; have hnc66 := NB428_432.out; have hnb67 := NB432_430.out; have hnc67 := NB430_432.out
             have hcz68_0 := czA BK432.out 0 (.string ((rd_T45 l0_0 x7_1).f0))
             have hcz68_1 := czA BK432.out 1 (.string ((rd_T45 l0_0 x7_1).f1))
             have hcz68_2 := czA BK432.out 2 (.int .i64 ((rd_T45 l0_0 x7_1).f2))
             have hfz68_0 := blk_frozen BK432.out 0; have hfz68_1 := blk_frozen BK432.out 1; have hfz68_2 := blk_frozen BK432.out 2
             try go_wp2
             replace HO_431000 := aM (Kd.R_drew HO_431000.out)
             replace BK427 := aM (blk_drew BK427.out)
             replace BK428 := aM (blk_drew BK428.out)
             replace BK430 := aM (blk_drew BK430.out)
             replace BK432 := aM (blk_drew BK432.out)
             replace HB := aM (below_drew1 HB.out)
             refine start_ (n := 14) (S := fun w' => w'.cell? ⟨gb430, 0, none⟩ = some (u431000) ∧ w'.cell? ⟨gb432, 0, none⟩ = some (.string ((rd_T45 l0_0 x7_1).f0)) ∧ w'.cell? ⟨gb432, 1, none⟩ = some (.string ((rd_T45 l0_0 x7_1).f1)) ∧ w'.cell? ⟨gb432, 2, none⟩ = some (.int .i64 ((rd_T45 l0_0 x7_1).f2))) (ds := [13]) (bB 14 0) (by kernel_rfl) rfl rfl ⟨(blk_cell BK430.out 0).trans rfl, (blk_cell BK432.out 0).trans rfl, (blk_cell BK432.out 1).trans rfl, (blk_cell BK432.out 2).trans rfl⟩ (fun hHeld => ?_); refine with_tabW spec_LoseDisk.tab15 spec_LoseDisk.bits15 (fun HT_ HW_ => ?_)
             generalize wc.drew = w69 at HO_431000 BK427 BK428 BK430 BK432 HB hHeld ⊢
             refine pA HT_.out 0 49 14 1 ?_; refine pA HT_.out 2 51 14 5 ?_; refine pA HT_.out 4 53 14 21 ?_; refine pA HT_.out 6 55 14 85 ?_; refine pA HT_.out 8 57 14 341 ?_; refine tA HT_.out HW_.out 1 50 14 343 hHeld ?_; refine tA HT_.out HW_.out 3 52 14 351 hHeld ?_; refine tA HT_.out HW_.out 5 54 14 383 hHeld ?_; refine pA HT_.out 7 56 14 511 ?_; refine pA HT_.out 9 58 14 1023 ?_
             refine oA HT_.out 10 (some 59) 14 2047 (fun K hK => ?_)
             refine value_ (w1 := ?_) (v := ?_) (by rfl) rfl ?_ ?_
             rotate_left 2
             ·go_simp
              constructor
              ·rfl
              ·rfl
             refine hK.out _ _ ⟨(blk_cell (blk_alloc BK430.out _) 0).trans rfl, (blk_cell (blk_alloc BK432.out _) 0).trans rfl, (blk_cell (blk_alloc BK432.out _) 1).trans rfl, (blk_cell (blk_alloc BK432.out _) 2).trans rfl⟩ (fun hHeld => ?_)
             clear hK K
             refine nX 59 ?_
             refine oA HT_.out 11 (some 60) 14 4095 (fun K hK => ?_)
             refine Kd.R_append_step k45 (w0 := w) w.heap.size (by rfl) (.tmp 50) (.tmp 59) 28 45 (.agg #[(.string ⟨#[]⟩), (.string ⟨#[]⟩), (.int .i64 0)]) 40 rfl Try.underlying28 info45 rfl (by decide) (by omega) u431000 x431000_1 (⟨((rd_T45 l0_0 x7_1).f0), ((rd_T45 l0_0 x7_1).f1).extract 0 (x9_15 : Int).toNat, x9_15⟩ : S45) [.string ((rd_T45 l0_0 x7_1).f0), .string (((rd_T45 l0_0 x7_1).f1).extract 0 (x9_15 : Int).toNat), .int .i64 x9_15] (fun k_ => k_ ≠ gb432) (fun _ => False) rfl rfl ?aP (fun _ hk => hk.elim) ?aF ?aO ?aB ?aS ?aL ?_
             (case aP => exact k45_mkM _ _ _ (⟨((rd_T45 l0_0 x7_1).f0), ((rd_T45 l0_0 x7_1).f1).extract 0 (x9_15 : Int).toNat, x9_15⟩ : S45))
             (case aB => exact (uL HB))
             (case aF => exact (fun k_ hk => Kd.freshB (g := gb432) (o := .cells #[.string ((rd_T45 l0_0 x7_1).f0), .string ((rd_T45 l0_0 x7_1).f1), .int .i64 ((rd_T45 l0_0 x7_1).f2)] 45 (0, 0)) (uB BK432) k_ hk))
             (case aO => exact (uR HO_431000))
             (case aS => exact (below_size (uL HB)))
             (case aL => have := LMc64.out; omega)
             intro v444 w70 ho hb hg hat
             rw [← Ny443.out] at ho
             have n0_ := aM (blk_grown (g := gb427) (o := .cells #[.slice (some ad431) l0_0.length c0_0] 30 (0, 0)) (uB BK427) hg (Kd.R_ne HO_431000.out BK427.out (by decide)))
             have n1_ := aM (blk_grown (g := gb428) (o := .cells #[.slice none 0 0] 30 (0, 0)) (uB BK428) hg (Kd.R_ne HO_431000.out BK428.out (by decide)))
             have n2_ := aM (blk_grown (g := gb430) (o := .cells #[u431000] 30 (0, 0)) (uB BK430) hg (Kd.R_ne HO_431000.out BK430.out (by decide)))
             have n3_ := aM (blk_grown (g := gb432) (o := .cells #[.string ((rd_T45 l0_0 x7_1).f0), .string ((rd_T45 l0_0 x7_1).f1), .int .i64 ((rd_T45 l0_0 x7_1).f2)] 45 (0, 0)) (uB BK432) hg (Kd.R_away HO_431000.out (fun _ hk => hk)))
             have n4_ := aM (hb)
             have n5_ := aM (ho)
             clear BK427 BK428 BK430 BK432 HB HO_431000; have BK427 := n0_; have BK428 := n1_; have BK430 := n2_; have BK432 := n3_; have HB := n4_; have HO445 := n5_; clear n0_ n1_ n2_ n3_ n4_ n5_ ho hb hg hat
             obtain ⟨Ao71, co71, eo71⟩ := Kd.R_slice HO445.out
             (first | subst eo71 | (injection eo71 with f1_ f2_ f3_; have f4_ := f1_.symm; have f5_ := f3_.symm; clear f1_ f2_ f3_; subst f4_; subst f5_))
             refine hK.out _ _ ⟨(blk_cell BK430.out 0).trans rfl, (blk_cell BK432.out 0).trans rfl, (blk_cell BK432.out 1).trans rfl, (blk_cell BK432.out 2).trans rfl⟩ (fun hHeld => ?_)
             clear hK K
             refine nX 60 ?_; refine pA HT_.out 12 61 14 8191 ?_
             refine last_ (i := 13) (N := none) (bB 14 16383) rfl rfl (one_of HT_.out (by kernel_rfl)) (by decide) (fun K hK => ?_)
             have hs72 := czA BK430.out 0 (u431000)
             have hfs72 := blk_frozen BK430.out 0; have hns72_0 := NB427_430.out; have hns72_1 := NB428_430.out; have hns72_3 := NB432_430.out; have hms72_0 := NB430_427.out; have hms72_1 := NB430_428.out; have hms72_3 := NB430_432.out
             refine skip_ (w1 := ?_) (by rfl) rfl ?_ ?_
             rotate_left
             ·go_simp
              rfl
             refine hK.out _ _ ?_
             clear hK K
             refine done_ (done_of HT_.out (by kernel_rfl)) ?_
             try go_wp2
             go_roundg kj15
             case measure => have := HK1.out; have := HJ15.out; omega
             case rel => exact ⟨(wrap64 (x7_1 + 1)), (y443), (.slice Ao71 y443.length co71), (by first | rfl | (simp; done) | (simp [*]; done)), H', ⟨by have := HK1.out; have := HJ15.out; omega⟩, ⟨by (with_reducible repeat first | apply rA | apply rN | apply rD); exact Kd.R_mono (Kd.R_far (p := ⟨gb430, 0, none⟩) (Kd.R_types HO445.out BK430.out (by decide)) (fun _ hk => hk.2) (.slice Ao71 y443.length co71)) (fun _ hk => trivial)⟩, ⟨by refine nB ?_; refine blk_far ?_ NB427_430.out _; exact nB BK427.out⟩, ⟨by refine nB ?_; refine blk_far ?_ NB428_430.out _; exact nB BK428.out⟩, ⟨by refine nB ?_; refine blk_put (cs := #[u431000]) ?_ 0 _ rfl; exact nB BK430.out⟩, ⟨uL HB⟩⟩
            ·rw [if_neg c64] at H
             exact absurd H (by simp)
           ·rw [if_neg c63] at H
            exact absurd H (by simp)
          ·rw [if_neg c62] at H
           exact absurd H (by simp)
     ·rw [if_neg c15] at H
      exact absurd H (by simp)
    ·rw [if_neg c14] at H
     have c14b0 : decide (x7_1 < (l0_0.length : Int)) = false := decide_eq_false c14
     clear c14
     simp only [Option.some.injEq, Prod.mk.injEq] at H
     obtain ⟨rfl, rfl⟩ := H
     have hnb73 := NB427_428.out; have hnc73 := NB428_427.out; have hnb74 := NB427_430.out; have hnc74 := NB430_427.out
     have hcz75_0 := czA BK427.out 0 (.slice A0_0 l0_0.length c0_0)
     have hfz75_0 := blk_frozen BK427.out 0; have hnb76 := NB430_428.out; have hnc76 := NB428_430.out
     have hcz77_0 := czA BK430.out 0 (u431000)
     have hfz77_0 := blk_frozen BK430.out 0
     obtain ⟨Ao78, co78, eo78⟩ := Kd.R_slice HO_431000.out
     subst eo78
     have hcz79_0 := czA BK428.out 0 (.slice none 0 0)
     have hfz79_0 := blk_frozen BK428.out 0
     go_wp2
     refine bodyPost_ret (results_ct rfl _ _ gb428 30 #[.slice Ao78 x431000_1.length co78] (0, 0) _ rfl (by refine nB ?_; refine blk_put (cs := #[.slice none 0 0]) ?_ 0 _ rfl; exact nB BK428.out) Try.underlying30 rfl (by kernel_rfl)) rfl ?_
     exact ⟨_, by first | rfl | (simp [errW_none, errW_some] <;> rfl) | (simp [*, errW_none, errW_some] <;> rfl), by (with_reducible repeat first | apply rA | apply rN | apply rD); exact Kd.R_mono (Kd.R_far (p := ⟨gb428, 0, none⟩) (Kd.R_types HO_431000.out BK428.out (by decide)) (fun _ hk => hk.2) (.slice Ao78 x431000_1.length co78)) (fun _ hk => trivial), uL HB⟩
 ·replace c4 := Bool.eq_false_iff.mpr c4
  subst c4
  have H1 : (some (([] : List (S45)), false)) = some (r1, r2) := by rw [if_neg (show ¬ (false = true) by decide)] at H; exact H
  clear H; have H := H1; clear H1
  simp only [Option.some.injEq, Prod.mk.injEq] at H
  obtain ⟨rfl, rfl⟩ := H
  go_enter Try.func31, Try.ntmps31
  go_wp2_with (first | ((with_reducible refine gate_dst (N := 2) rfl ?_); refine bxE 2 #[.slice A0_0 l0_0.length c0_0] 30 ?_; intro gb427 hg w80 hbox hb; have BK427 := aM (hbox); have GW427 := szG hg (uL HB); have GE427 := szG hg (uL HB); replace HB := aM (below_step (uL HB) hb); clear hb hbox hg) | ((with_reducible refine gate_dst (N := 4) rfl ?_); refine bxE 4 #[.slice none 0 0] 30 ?_; intro gb428 hg w81 hbox hb; have BK428 := aM (hbox); have GW428 := szG hg (uL HB); have GE428 := szG hg (uL HB); have NB427_428 := neL hg BK427; have NB428_427 := neG hg BK427; replace BK427 := blkB BK427 hb; replace HB := aM (below_step (uL HB) hb); clear hb hbox hg; have hnb82 := NB427_428.out; have hnc82 := NB428_427.out; have hcz83_0 := czA BK427.out 0 (.slice A0_0 l0_0.length c0_0); have hfz83_0 := blk_frozen BK427.out 0) | ((with_reducible refine gate_callee (f := 20) rfl ?_); refine gL (some 11) Try.func20 #[.agg #[.slice A0_0 l0_0.length c0_0]] ?_; (with_reducible refine (spec_DiskOk.calls k _ _ l0_0 false _ ?side1 ?side2 A3.out).mono ?_); (case side1 => exact uC HR0_0 HB); (case side2 => exact HC0_0.out); rintro e w84 ⟨rfl, hb⟩; refine ⟨_, rfl, ?_⟩; replace BK427 := blkB BK427 hb; replace BK428 := blkB BK428 hb; replace HB := aM (below_step (uL HB) hb); try clear hb; have hcz85_0 := czA BK428.out 0 (.slice none 0 0); have hfz85_0 := blk_frozen BK428.out 0))
  refine bodyPost_ret (results_ct rfl _ _ gb428 30 #[.slice none 0 0] (0, 0) _ rfl (by refine nB ?_; refine blk_put (cs := #[.slice none 0 0]) ?_ 0 _ rfl; exact nB BK428.out) Try.underlying30 rfl (by kernel_rfl)) rfl ?_
  exact ⟨_, by first | rfl | (simp [errW_none, errW_some] <;> rfl) | (simp [*, errW_none, errW_some] <;> rfl), by first | exact Kd.R_nil _ _ _ _ _ | exact Kd.N_nil _ _ _ _ _ | exact Kd.V_nil _ _ _ _ _ | exact Kd.Q_nil _ _ _ _ _ | exact Kd.S_nil _ _ _ _ _, uL HB⟩

end Go.Proofs.Ytidfhfaekdahpaa.QFnActs
