-- Own work (wip/turnprint.py over the kit's print).
import Derived.Test.YtidfhfaekdahpaaQFnExactCutActsx0
import Derived.Test.YtidfhfaekdahpaaQFnExactCutActsx10
namespace Go.Proofs.Ytidfhfaekdahpaa.QFnExactCutActs
open Go.RowKit Go.Proofs.YtidfhfaekdahpaaW.PrintWords Go.Proofs.YtidfhfaekdahpaaW.PrintLast
set_option linter.unusedVariables false
set_option linter.unusedSimpArgs false

/-! ### spec_LoseDisk: function 31 -/
mutual
def spec_LoseDisk.l0 : Nat → List Int → Int → List (S45) → List (S45) → Option ((List (S45)) × Bool)
 | 0, _, _, _, _ => none
 | k + 1, x1, x7, x205000, x208000 => if x7 < (x205000.length : Int) then (if 0 ≤ x7 then (if x7 < (x1.length : Int) then (spec_LoseDisk.j1 k x1 x7 (rd x1 x7) x205000 x208000 ((rd_T45 x205000 x7).f0) ((rd_T45 x205000 x7).f1) ((rd_T45 x205000 x7).f2)) else (spec_LoseDisk.j1 k x1 x7 0 x205000 x208000 ((rd_T45 x205000 x7).f0) ((rd_T45 x205000 x7).f1) ((rd_T45 x205000 x7).f2))) else (none)) else (some (x208000, true))
def spec_LoseDisk.j1 : Nat → List Int → Int → Int → List (S45) → List (S45) → ByteArray → ByteArray → Int → Option ((List (S45)) × Bool)
 | 0, _, _, _, _, _, _, _, _ => none
 | k + 1, x1, x7, x9, x205000, x208000, x210000, x210001, x210002 => if x9 > (x210001.size : Int) then (if (x210001.size : Int) < x210002 then (if 0 ≤ x210002 then (if x210002 ≤ (x210001.size : Int) then (if x208000.length < 3518437208883 then (spec_LoseDisk.l0 k x1 (wrap64 (x7 + 1)) x205000 (x208000 ++ [(⟨x210000, x210001.extract 0 (x210002 : Int).toNat, x210002⟩ : S45)])) else (none)) else (none)) else (none)) else (if 0 ≤ (x210001.size : Int) then (if (x210001.size : Int) ≤ (x210001.size : Int) then (if x208000.length < 3518437208883 then (spec_LoseDisk.l0 k x1 (wrap64 (x7 + 1)) x205000 (x208000 ++ [(⟨x210000, x210001, (x210001.size : Int)⟩ : S45)])) else (none)) else (none)) else (none))) else (if x9 < x210002 then (if 0 ≤ x210002 then (if x210002 ≤ (x210001.size : Int) then (if x208000.length < 3518437208883 then (spec_LoseDisk.l0 k x1 (wrap64 (x7 + 1)) x205000 (x208000 ++ [(⟨x210000, x210001.extract 0 (x210002 : Int).toNat, x210002⟩ : S45)])) else (none)) else (none)) else (none)) else (if 0 ≤ x9 then (if x9 ≤ (x210001.size : Int) then (if x208000.length < 3518437208883 then (spec_LoseDisk.l0 k x1 (wrap64 (x7 + 1)) x205000 (x208000 ++ [(⟨x210000, x210001.extract 0 (x9 : Int).toNat, x9⟩ : S45)])) else (none)) else (none)) else (none)))
end
def spec_LoseDisk.f (k : Nat) (l0_0 : List (S45)) (l1 : List Int) : Option ((List (S45)) × Bool) := (spec_DiskOk.f k l0_0).bind fun t206 => (if t206 = true then (spec_LoseDisk.l0 k l1 0 l0_0 ([] : List (S45))) else (some (([] : List (S45)), false)))
theorem spec_LoseDisk.mono_l : ∀ k, (∀ y0 y1 y2 y3, LeO (spec_LoseDisk.l0 k y0 y1 y2 y3) (spec_LoseDisk.l0 (k + 1) y0 y1 y2 y3)) ∧ (∀ y0 y1 y2 y3 y4 y5 y6 y7, LeO (spec_LoseDisk.j1 k y0 y1 y2 y3 y4 y5 y6 y7) (spec_LoseDisk.j1 (k + 1) y0 y1 y2 y3 y4 y5 y6 y7))
 | 0 => ⟨fun _ _ _ _ r h => by simp [spec_LoseDisk.l0] at h, fun _ _ _ _ _ _ _ _ r h => by simp [spec_LoseDisk.j1] at h⟩
 | k + 1 => by
  obtain ⟨ih0, ih1⟩ := spec_LoseDisk.mono_l k
  refine ⟨?_, ?_⟩
  ·intro y0 y1 y2 y3
   unfold spec_LoseDisk.l0
   repeat' first
   | (with_reducible exact ih0 _ _ _ _)
   | (with_reducible exact ih1 _ _ _ _ _ _ _ _)
   | (with_reducible exact spec_DiskOk.mono _ _)
   | (with_reducible exact LeO.refl _)
   | (with_reducible exact LeO.none _)
   | (with_reducible refine LeO.ite ?_ ?_)
   | (with_reducible refine LeO.bind ?_ (fun _ => ?_))
   | exact ih0 _ _ _ _
   | exact ih1 _ _ _ _ _ _ _ _
   | exact spec_DiskOk.mono _ _
   | exact LeO.none _
   | refine LeO.ite ?_ ?_
   | refine LeO.bind ?_ (fun _ => ?_)
  ·intro y0 y1 y2 y3 y4 y5 y6 y7
   unfold spec_LoseDisk.j1
   repeat' first
   | (with_reducible exact ih0 _ _ _ _)
   | (with_reducible exact ih1 _ _ _ _ _ _ _ _)
   | (with_reducible exact spec_DiskOk.mono _ _)
   | (with_reducible exact LeO.refl _)
   | (with_reducible exact LeO.none _)
   | (with_reducible refine LeO.ite ?_ ?_)
   | (with_reducible refine LeO.bind ?_ (fun _ => ?_))
   | exact ih0 _ _ _ _
   | exact ih1 _ _ _ _ _ _ _ _
   | exact spec_DiskOk.mono _ _
   | exact LeO.none _
   | refine LeO.ite ?_ ?_
   | refine LeO.bind ?_ (fun _ => ?_)
theorem spec_LoseDisk.mono : ∀ a0 a1 k, LeO (spec_LoseDisk.f k a0 a1) (spec_LoseDisk.f (k + 1) a0 a1) := by
 intro a0 a1 k
 obtain ⟨ih0, ih1⟩ := spec_LoseDisk.mono_l k
 unfold spec_LoseDisk.f
 repeat' first
  | (with_reducible exact ih0 _ _ _ _)
  | (with_reducible exact ih1 _ _ _ _ _ _ _ _)
  | (with_reducible exact spec_DiskOk.mono _ _)
  | (with_reducible exact LeO.refl _)
  | (with_reducible exact LeO.none _)
  | (with_reducible refine LeO.ite ?_ ?_)
  | (with_reducible refine LeO.bind ?_ (fun _ => ?_))
  | exact ih0 _ _ _ _
  | exact ih1 _ _ _ _ _ _ _ _
  | exact spec_DiskOk.mono _ _
  | exact LeO.none _
  | refine LeO.ite ?_ ?_
  | refine LeO.bind ?_ (fun _ => ?_)
def spec_LoseDisk.T15 : Bool × List (List Nat × List Nat) := (true, [([], []), ([0], [0]), ([], []), ([2], [2]), ([], []), ([4], [4]), ([], []), ([5, 6], [5, 6]), ([], []), ([3, 7, 8], [3, 7, 8]), ([9], [9]), ([1, 10], [1, 10]), ([0, 1, 2, 3, 4, 5, 6, 7, 8, 9, 10, 11], []), ([12, 11, 11, 0, 1, 2, 3, 4, 5, 6, 7, 8, 9, 10, 11], [11, 12])])
def spec_LoseDisk.B15 : List Nat := [0, 1, 0, 4, 0, 16, 0, 112, 0, 508, 1020, 2047, 4095, 8191]
theorem spec_LoseDisk.tab15 : rtab .any (opsOf Try.f31 15) = spec_LoseDisk.T15 := by kernel_rfl
theorem spec_LoseDisk.bits15 : waitsOk spec_LoseDisk.T15.2 spec_LoseDisk.B15 = true := by kernel_rfl
set_option maxHeartbeats 8000000 in
set_option maxRecDepth 100000 in
theorem spec_LoseDisk.calls (k : Nat) (A0_0 : Option Addr) (c0_0 : Nat) (l0_0 : List (S45)) (A1 : Option Addr) (c1 : Nat) (l1 : List Int) (r1 : List (S45)) (r2 : Bool) (w : World) (hr0_0 : Kd.C k45 w A0_0 l0_0.length l0_0) (hc0_0 : l0_0.length ≤ c0_0) (hr1 : Kd.C (Kd.int .i64) w A1 l1.length l1) (hc1 : l1.length ≤ c1) (h : spec_LoseDisk.f k l0_0 l1 = some (r1, r2)) :
 Calls Try.prog 31 #[.agg #[.slice A0_0 l0_0.length c0_0], .slice A1 l1.length c1] w fun e w' => ∃ v0_ : Value, e = .returned (.tuple #[.agg #[v0_], .bool r2]) ∧ Kd.R k45 45 w' w.heap.size (fun _ => True) v0_ r1 ∧ Below w.heap.size w w' := by
 have hu30 := Try.underlying30
 have hu45 := Try.underlying45
 have HR0_0 := aM hr0_0
 have HC0_0 := aM hc0_0
 clear hr0_0 hc0_0
 have HR1 := aM hr1
 have HC1 := aM hc1
 clear hr1 hc1
 have HB := aM (Below.refl w.heap.size w)
 have H : ((spec_DiskOk.f k l0_0).bind fun t206 => (if t206 = true then (spec_LoseDisk.l0 k l1 0 l0_0 ([] : List (S45))) else (some (([] : List (S45)), false)))) = some (r1, r2) := h
 clear h
 replace H := Option.bind_eq_some_iff.mp H
 obtain ⟨t206, A30, H⟩ := H
 replace H : (if t206 = true then (spec_LoseDisk.l0 k l1 0 l0_0 ([] : List (S45))) else (some (([] : List (S45)), false))) = some (r1, r2) := H
 have A3 := aM A30
 clear A30
 by_cases c4 : t206 = true
 ·subst c4
  have H1 : (spec_LoseDisk.l0 k l1 0 l0_0 ([] : List (S45))) = some (r1, r2) := by rw [if_pos rfl] at H; exact H
  clear H; have H := H1; clear H1
  have H' := aM H
  clear H
  go_enter Try.func31, Try.ntmps31
  go_wp2_with (first | ((with_reducible refine gate_dst (N := 2) rfl ?_); refine bxE 2 #[.slice A0_0 l0_0.length c0_0] 30 ?_; intro gb204 hg w5 hbox hb; have BK204 := aM (hbox); have GW204 := szG hg (uL HB); have GE204 := szG hg (uL HB); replace HB := aM (below_step (uL HB) hb); clear hb hbox hg) | ((with_reducible refine gate_dst (N := 4) rfl ?_); refine bxE 4 #[.slice none 0 0] 30 ?_; intro gb205 hg w6 hbox hb; have BK205 := aM (hbox); have GW205 := szG hg (uL HB); have GE205 := szG hg (uL HB); have NB204_205 := neL hg BK204; have NB205_204 := neG hg BK204; replace BK204 := blkB BK204 hb; replace HB := aM (below_step (uL HB) hb); clear hb hbox hg; have hnb7 := NB204_205.out; have hnc7 := NB205_204.out; have hcz8_0 := czA BK204.out 0 (.slice A0_0 l0_0.length c0_0); have hfz8_0 := blk_frozen BK204.out 0) | ((with_reducible refine gate_callee (f := 20) rfl ?_); refine gL (some 11) Try.func20 #[.agg #[.slice A0_0 l0_0.length c0_0]] ?_; (with_reducible refine (spec_DiskOk.calls k _ _ l0_0 true _ ?side1 ?side2 A3.out).mono ?_); (case side1 => exact uC HR0_0 HB); (case side2 => exact HC0_0.out); rintro e w9 ⟨rfl, hb⟩; refine ⟨_, rfl, ?_⟩; replace BK204 := blkB BK204 hb; replace BK205 := blkB BK205 hb; replace HB := aM (below_step (uL HB) hb); try clear hb) | ((with_reducible refine gate_dst (N := 6) rfl ?_); refine bxE 6 #[.slice none 0 0] 30 ?_; intro gb207 hg w10 hbox hb; have BK207 := aM (hbox); have GW207 := szG hg (uL HB); have GE207 := szG hg (uL HB); have NB204_207 := neL hg BK204; have NB207_204 := neG hg BK204; have NB205_207 := neL hg BK205; have NB207_205 := neG hg BK205; replace BK204 := blkB BK204 hb; replace BK205 := blkB BK205 hb; replace HB := aM (below_step (uL HB) hb); clear hb hbox hg; have hnb11 := NB207_204.out; have hnc11 := NB204_207.out; have hnb12 := NB207_205.out; have hnc12 := NB205_207.out; have hcz13_0 := czA BK207.out 0 (.slice none 0 0); have hfz13_0 := blk_frozen BK207.out 0))
  go_loopg [7] k (fun kq v7 w' => ∃ (x7_1 : Int) (x208000_1 : List (S45)) (u208000 : Value), v7 = .int .i64 x7_1 ∧ Aside0 (spec_LoseDisk.l0 kq l1 x7_1 l0_0 x208000_1 = some (r1, r2)) ∧ Aside0 (kq ≤ k) ∧ Aside0 (Kd.R k45 45 w' w.heap.size (fun _ => True) u208000 x208000_1) ∧ Aside0 (w'.heap[gb204]? = some (.cells #[(.slice A0_0 l0_0.length c0_0)] 30 (0, 0))) ∧ Aside0 (w'.heap[gb205]? = some (.cells #[(.slice none 0 0)] 30 (0, 0))) ∧ Aside0 (w'.heap[gb207]? = some (.cells #[u208000] 30 (0, 0))) ∧ Aside0 (Below w.heap.size w w'))
  case atStart => exact ⟨(0), (([] : List (S45))), (.slice none 0 0), (by first | rfl | (simp; done) | (simp [*]; done)), H', ⟨Nat.le_refl _⟩, ⟨by first | exact Kd.R_nil _ _ _ _ _ | exact Kd.N_nil _ _ _ _ _ | exact Kd.V_nil _ _ _ _ _ | exact Kd.Q_nil _ _ _ _ _ | exact Kd.S_nil _ _ _ _ _⟩, ⟨by refine nB ?_; refine blk_far ?_ NB204_207.out _; exact nB BK204.out⟩, ⟨by refine nB ?_; refine blk_far ?_ NB205_207.out _; exact nB BK205.out⟩, ⟨by refine nB ?_; refine blk_put (cs := #[.slice none 0 0]) ?_ 0 _ rfl; exact nB BK207.out⟩, ⟨uL HB⟩⟩
  case round =>
   clear H'
   try clear c1; try clear c2; try clear p2; try clear c3; try clear c4; try clear c7; try clear c11; try clear c12; try clear hcz13_0; try clear hcz8_0; try clear hfz13_0; try clear hfz8_0
   obtain ⟨x7_1, x208000_1, u208000, rfl, HA, HK1, HO_208000, BK204, BK205, BK207, HB⟩ := hrel
   cases gk with
   | zero => exact absurd HA.out (by simp [spec_LoseDisk.l0])
   | succ k1 =>
    have H := HA.out
    clear HA
    simp only [spec_LoseDisk.l0] at H
    by_cases c14 : x7_1 < (l0_0.length : Int)
    ·rw [if_pos c14] at H
     have c14b0 : decide (x7_1 < (l0_0.length : Int)) = true := decide_eq_true c14
     clear c14
     by_cases c15 : 0 ≤ x7_1
     ·rw [if_pos c15] at H
      have c15b0 : decide (0 ≤ x7_1) = true := decide_eq_true c15
      clear c15
      have HC16 := aM H
      clear H
      have hnb17 := NB204_205.out; have hnc17 := NB205_204.out; have hnb18 := NB204_207.out; have hnc18 := NB207_204.out
      have hcz19_0 := czA BK204.out 0 (.slice A0_0 l0_0.length c0_0)
      have hfz19_0 := blk_frozen BK204.out 0
      have p208 : 0 ≤ (x7_1 : Int) := of_decide_eq_true (by first | (with_reducible assumption) | assumption)
      have q208 : x7_1 < (l0_0.length : Int) := of_decide_eq_true (by first | (with_reducible assumption) | assumption)
      obtain ⟨ad208, e208, hx208_0, hx208_1, hx208_2⟩ := at_T45 HR0_0.out x7_1 p208 q208
      cases e208
      replace hx208_0 := hxB HB hx208_0; replace hx208_1 := hxB HB hx208_1; replace hx208_2 := hxB HB hx208_2; replace p208 := eq_true p208; replace q208 := eq_true q208
      go_upto_if 30 with (first | ((with_reducible refine gate_dst (N := 8) rfl ?_); refine bxE 8 #[.string (⟨#[]⟩ : ByteArray), .string (⟨#[]⟩ : ByteArray), .int .i64 0] 45 ?_; intro gb209 hg w20 hbox hb; have BK209 := aM (hbox); have GW209 := szG hg (uL HB); have GE209 := szG hg (uL HB); have NB204_209 := neL hg BK204; have NB209_204 := neG hg BK204; have NB205_209 := neL hg BK205; have NB209_205 := neG hg BK205; have NB207_209 := neL hg BK207; have NB209_207 := neG hg BK207; replace HO_208000 := aM (Kd.R_below (Kd.R_elderB (uR HO_208000) gb209 (Nat.le_of_eq hg.symm)) hb); replace BK204 := blkB BK204 hb; replace BK205 := blkB BK205 hb; replace BK207 := blkB BK207 hb; replace HB := aM (below_step (uL HB) hb); clear hb hbox hg; have hnb21 := NB209_204.out; have hnc21 := NB204_209.out; have hnb22 := NB209_205.out; have hnc22 := NB205_209.out; have hnb23 := NB209_207.out; have hnc23 := NB207_209.out; have hcz24_0 := czA BK209.out 0 (.string (⟨#[]⟩ : ByteArray)); have hcz24_1 := czA BK209.out 1 (.string (⟨#[]⟩ : ByteArray)); have hcz24_2 := czA BK209.out 2 (.int .i64 0); have hfz24_0 := blk_frozen BK209.out 0; have hfz24_1 := blk_frozen BK209.out 1; have hfz24_2 := blk_frozen BK209.out 2))
      (try simp only [Act.put, List.setIfInBounds_toArray, List.set_cons_zero, List.set_cons_succ])
      go_cut [9] (fun v9 wc => ∃ (kq : Nat) (x9_15 : Int), v9 = .int .i64 x9_15 ∧ Aside0 (spec_LoseDisk.j1 kq l1 x7_1 x9_15 l0_0 x208000_1 ((rd_T45 l0_0 x7_1).f0) ((rd_T45 l0_0 x7_1).f1) ((rd_T45 l0_0 x7_1).f2) = some (r1, r2)) ∧ Aside0 (kq ≤ k1) ∧ Aside0 (Kd.R k45 45 wc w.heap.size (fun k_ => k_ ≠ gb209) u208000 x208000_1) ∧ Aside0 (wc.heap[gb204]? = some (.cells #[(.slice (some ad208) l0_0.length c0_0)] 30 (0, 0))) ∧ Aside0 (wc.heap[gb205]? = some (.cells #[(.slice none 0 0)] 30 (0, 0))) ∧ Aside0 (wc.heap[gb207]? = some (.cells #[u208000] 30 (0, 0))) ∧ Aside0 (wc.heap[gb209]? = some (.cells #[.string ((rd_T45 l0_0 x7_1).f0), .string ((rd_T45 l0_0 x7_1).f1), .int .i64 ((rd_T45 l0_0 x7_1).f2)] 45 (0, 0))) ∧ Aside0 (Below w.heap.size w wc))
      case first =>
       have H := HC16.out
       clear HC16
       by_cases c25 : x7_1 < (l1.length : Int)
       ·rw [if_pos c25] at H
        have c25b0 : decide (x7_1 < (l1.length : Int)) = true := decide_eq_true c25
        clear c25
        (first | rw [c25b0] | (simp only [i64_w, i32_w]; rw [c25b0]) | skip)
        have H' := aM H
        clear H
        have p210 : 0 ≤ (x7_1 : Int) := of_decide_eq_true (by first | (with_reducible assumption) | assumption)
        have q210 : x7_1 < (l1.length : Int) := of_decide_eq_true (by first | (with_reducible assumption) | assumption)
        obtain ⟨ad210, e210, hx210_0⟩ := Kd.at_int HR1.out x7_1 p210 q210
        cases e210
        have hn210_0 : ad210.block ≠ gb209 := Nat.ne_of_lt (Nat.lt_of_lt_of_le (by have := World.block_lt_of_cell? _ _ hx210_0; first | rwa [add_block] at this | exact this) GW209.out)
        have hn210_1 : ad210.block ≠ gb209 := Nat.ne_of_lt (Nat.lt_of_lt_of_le (by have := World.block_lt_of_cell? _ _ hx210_0; first | rwa [add_block] at this | exact this) GW209.out)
        have hn210_2 : ad210.block ≠ gb209 := Nat.ne_of_lt (Nat.lt_of_lt_of_le (by have := World.block_lt_of_cell? _ _ hx210_0; first | rwa [add_block] at this | exact this) GW209.out)
        replace hx210_0 := hxB HB hx210_0
        replace hx210_0 := (cell_far (p := ⟨gb209, 0, none⟩) (by first | (rw [add_block]; exact hn210_0) | (show (Addr.add _ _).block ≠ _; rw [add_block]; exact hn210_0) | exact hn210_0) (.string ((rd_T45 l0_0 x7_1).f0))).trans hx210_0
        replace hx210_0 := (cell_far (p := ⟨gb209, 1, none⟩) (by first | (rw [add_block]; exact hn210_1) | (show (Addr.add _ _).block ≠ _; rw [add_block]; exact hn210_1) | exact hn210_1) (.string ((rd_T45 l0_0 x7_1).f1))).trans hx210_0
        replace hx210_0 := (cell_far (p := ⟨gb209, 2, none⟩) (by first | (rw [add_block]; exact hn210_2) | (show (Addr.add _ _).block ≠ _; rw [add_block]; exact hn210_2) | exact hn210_2) (.int .i64 ((rd_T45 l0_0 x7_1).f2))).trans hx210_0
        clear hn210_0 hn210_1 hn210_2
        replace p210 := eq_true p210; replace q210 := eq_true q210
        go_wp2
        go_meet
        case rel => exact ⟨_, (rd l1 x7_1), (by first | rfl | (simp; done) | (simp [*]; done)), H', ⟨by have := HK1.out; first | omega | exact Nat.le_refl _⟩, ⟨by (with_reducible repeat first | apply rA | apply rN | apply rD); exact Kd.R_mono (Kd.R_far (p := ⟨gb209, 2, none⟩) (Kd.R_far (p := ⟨gb209, 1, none⟩) (Kd.R_far (p := ⟨gb209, 0, none⟩) (Kd.R_mono HO_208000.out (fun k_ hk => (⟨hk, hk.2⟩ : _ ∧ k_ ≠ gb209))) (fun _ hk => hk.2) (.string ((rd_T45 l0_0 x7_1).f0))) (fun _ hk => hk.2) (.string ((rd_T45 l0_0 x7_1).f1))) (fun _ hk => hk.2) (.int .i64 ((rd_T45 l0_0 x7_1).f2))) (fun _ hk => hk.1.2)⟩, ⟨by refine nB ?_; refine blk_far ?_ NB204_209.out _; refine nB ?_; refine blk_far ?_ NB204_209.out _; refine nB ?_; refine blk_far ?_ NB204_209.out _; exact nB BK204.out⟩, ⟨by refine nB ?_; refine blk_far ?_ NB205_209.out _; refine nB ?_; refine blk_far ?_ NB205_209.out _; refine nB ?_; refine blk_far ?_ NB205_209.out _; exact nB BK205.out⟩, ⟨by refine nB ?_; refine blk_far ?_ NB207_209.out _; refine nB ?_; refine blk_far ?_ NB207_209.out _; refine nB ?_; refine blk_far ?_ NB207_209.out _; exact nB BK207.out⟩, ⟨by refine nB ?_; refine blk_put (cs := #[.string ((rd_T45 l0_0 x7_1).f0), .string ((rd_T45 l0_0 x7_1).f1), .int .i64 0]) ?_ 2 _ rfl; refine nB ?_; refine blk_put (cs := #[.string ((rd_T45 l0_0 x7_1).f0), .string (⟨#[]⟩ : ByteArray), .int .i64 0]) ?_ 1 _ rfl; refine nB ?_; refine blk_put (cs := #[.string (⟨#[]⟩ : ByteArray), .string (⟨#[]⟩ : ByteArray), .int .i64 0]) ?_ 0 _ rfl; exact nB BK209.out⟩, ⟨uL HB⟩⟩
       ·rw [if_neg c25] at H
        have c25b0 : decide (x7_1 < (l1.length : Int)) = false := decide_eq_false c25
        clear c25
        (first | rw [c25b0] | (simp only [i64_w, i32_w]; rw [c25b0]) | skip)
        have H' := aM H
        clear H
        go_wp2
        go_meet
        case rel => exact ⟨_, (0), (by first | rfl | (simp; done) | (simp [*]; done)), H', ⟨by have := HK1.out; first | omega | exact Nat.le_refl _⟩, ⟨by (with_reducible repeat first | apply rA | apply rN | apply rD); exact Kd.R_mono (Kd.R_far (p := ⟨gb209, 2, none⟩) (Kd.R_far (p := ⟨gb209, 1, none⟩) (Kd.R_far (p := ⟨gb209, 0, none⟩) (Kd.R_mono HO_208000.out (fun k_ hk => (⟨hk, hk.2⟩ : _ ∧ k_ ≠ gb209))) (fun _ hk => hk.2) (.string ((rd_T45 l0_0 x7_1).f0))) (fun _ hk => hk.2) (.string ((rd_T45 l0_0 x7_1).f1))) (fun _ hk => hk.2) (.int .i64 ((rd_T45 l0_0 x7_1).f2))) (fun _ hk => hk.1.2)⟩, ⟨by refine nB ?_; refine blk_far ?_ NB204_209.out _; refine nB ?_; refine blk_far ?_ NB204_209.out _; refine nB ?_; refine blk_far ?_ NB204_209.out _; exact nB BK204.out⟩, ⟨by refine nB ?_; refine blk_far ?_ NB205_209.out _; refine nB ?_; refine blk_far ?_ NB205_209.out _; refine nB ?_; refine blk_far ?_ NB205_209.out _; exact nB BK205.out⟩, ⟨by refine nB ?_; refine blk_far ?_ NB207_209.out _; refine nB ?_; refine blk_far ?_ NB207_209.out _; refine nB ?_; refine blk_far ?_ NB207_209.out _; exact nB BK207.out⟩, ⟨by refine nB ?_; refine blk_put (cs := #[.string ((rd_T45 l0_0 x7_1).f0), .string ((rd_T45 l0_0 x7_1).f1), .int .i64 0]) ?_ 2 _ rfl; refine nB ?_; refine blk_put (cs := #[.string ((rd_T45 l0_0 x7_1).f0), .string (⟨#[]⟩ : ByteArray), .int .i64 0]) ?_ 1 _ rfl; refine nB ?_; refine blk_put (cs := #[.string (⟨#[]⟩ : ByteArray), .string (⟨#[]⟩ : ByteArray), .int .i64 0]) ?_ 0 _ rfl; exact nB BK209.out⟩, ⟨uL HB⟩⟩
      case rest =>
       clear HC16
       try clear c1; try clear c2; try clear p2; try clear q2; try clear hx2; try clear c3; try clear c4; try clear c7; try clear c11; try clear c12; try clear c14; try clear c14b0; try clear c15; try clear c15b0; try clear c17; try clear c18; try clear c20; try clear p20; try clear q20; try clear hx20; try clear c21; try clear p21; try clear q21; try clear hx21; try clear c22; try clear c23; try clear c25; try clear c25b0; try clear hcz13_0; try clear hcz19_0; try clear hcz24_0; try clear hcz24_1; try clear hcz24_2; try clear hcz8_0; try clear hfz13_0; try clear hfz19_0; try clear hfz24_0; try clear hfz24_1; try clear hfz24_2; try clear hfz8_0; try clear hx208_0; try clear hx208_1; try clear hx208_2; try clear hx210_0; try clear p2; try clear p208; try clear p210; try clear q208; try clear q210
       obtain ⟨kq, x9_15, rfl, HA, HJ15, HO_208000, BK204, BK205, BK207, BK209, HB⟩ := hcut
       cases kq with
       | zero => exact absurd HA.out (by simp [spec_LoseDisk.j1])
       | succ kj15 =>
        have H := HA.out
        clear HA
        simp only [spec_LoseDisk.j1] at H
        by_cases c26 : x9_15 > (((rd_T45 l0_0 x7_1).f1).size : Int)
        ·rw [if_pos c26] at H
         have c26b0 : decide ((((rd_T45 l0_0 x7_1).f1).size : Int) < x9_15) = true := decide_eq_true c26
         clear c26
         by_cases c27 : (((rd_T45 l0_0 x7_1).f1).size : Int) < ((rd_T45 l0_0 x7_1).f2)
         ·rw [if_pos c27] at H
          have c27b0 : decide ((((rd_T45 l0_0 x7_1).f1).size : Int) < ((rd_T45 l0_0 x7_1).f2)) = true := decide_eq_true c27
          clear c27
          by_cases c28 : 0 ≤ ((rd_T45 l0_0 x7_1).f2)
          ·rw [if_pos c28] at H
           have c28b0 := eq_true c28
           have c28b1 : decide (0 ≤ ((rd_T45 l0_0 x7_1).f2)) = true := decide_eq_true c28
           clear c28
           by_cases c29 : ((rd_T45 l0_0 x7_1).f2) ≤ (((rd_T45 l0_0 x7_1).f1).size : Int)
           ·rw [if_pos c29] at H
            have c29b0 := eq_true c29
            have c29b1 : decide (((rd_T45 l0_0 x7_1).f2) ≤ (((rd_T45 l0_0 x7_1).f1).size : Int)) = true := decide_eq_true c29
            clear c29
            by_cases c30 : x208000_1.length < 3518437208883
            ·rw [if_pos c30] at H
             have LMc30 := aM c30
             clear c30
             obtain ⟨y211, hy211⟩ : ∃ y_ : List (S45), y_ = (x208000_1 ++ [(⟨((rd_T45 l0_0 x7_1).f0), ((rd_T45 l0_0 x7_1).f1).extract 0 (((rd_T45 l0_0 x7_1).f2) : Int).toNat, ((rd_T45 l0_0 x7_1).f2)⟩ : S45)]) := ⟨_, rfl⟩
             replace H : (spec_LoseDisk.l0 kj15 l1 (wrap64 (x7_1 + 1)) l0_0 y211) = some (r1, r2) := by first | (rw [hy211]; with_reducible exact H) | (have H2_ := (Option.bind_some _ _).symm.trans H; rw [hy211]; with_reducible exact H2_) | (have H2_ := (Option.bind_some _ _).symm.trans H; with_reducible exact H2_) | with_reducible exact H | (rw [hy211]; exact H) | exact H
             have Ny211 := aM hy211
             clear hy211
             have H' := aM H
             clear H
             have hnb31 := NB209_204.out; have hnc31 := NB204_209.out; have hnb32 := NB209_205.out; have hnc32 := NB205_209.out; have hnb33 := NB209_207.out; have hnc33 := NB207_209.out
             have hcz34_0 := czA BK209.out 0 (.string ((rd_T45 l0_0 x7_1).f0))
             have hcz34_1 := czA BK209.out 1 (.string ((rd_T45 l0_0 x7_1).f1))
             have hcz34_2 := czA BK209.out 2 (.int .i64 ((rd_T45 l0_0 x7_1).f2))
             have hfz34_0 := blk_frozen BK209.out 0; have hfz34_1 := blk_frozen BK209.out 1; have hfz34_2 := blk_frozen BK209.out 2
             try go_wp2
             replace HO_208000 := aM (Kd.R_drew HO_208000.out)
             replace BK204 := aM (blk_drew BK204.out)
             replace BK205 := aM (blk_drew BK205.out)
             replace BK207 := aM (blk_drew BK207.out)
             replace BK209 := aM (blk_drew BK209.out)
             replace HB := aM (below_drew1 HB.out)
             refine start_ (n := 14) (S := fun w' => w'.cell? ⟨gb207, 0, none⟩ = some (u208000) ∧ w'.cell? ⟨gb209, 0, none⟩ = some (.string ((rd_T45 l0_0 x7_1).f0)) ∧ w'.cell? ⟨gb209, 1, none⟩ = some (.string ((rd_T45 l0_0 x7_1).f1)) ∧ w'.cell? ⟨gb209, 2, none⟩ = some (.int .i64 ((rd_T45 l0_0 x7_1).f2))) (ds := [13]) (bB 14 0) (by kernel_rfl) rfl rfl ⟨(blk_cell BK207.out 0).trans rfl, (blk_cell BK209.out 0).trans rfl, (blk_cell BK209.out 1).trans rfl, (blk_cell BK209.out 2).trans rfl⟩ (fun hHeld => ?_); refine with_tabW spec_LoseDisk.tab15 spec_LoseDisk.bits15 (fun HT_ HW_ => ?_)
             generalize wc.drew = w35 at HO_208000 BK204 BK205 BK207 BK209 HB hHeld ⊢
             refine pA HT_.out 0 49 14 1 ?_; refine pA HT_.out 2 51 14 5 ?_; refine pA HT_.out 4 53 14 21 ?_; refine pA HT_.out 6 55 14 85 ?_; refine pA HT_.out 8 57 14 341 ?_; refine tA HT_.out HW_.out 1 50 14 343 hHeld ?_; refine tA HT_.out HW_.out 3 52 14 351 hHeld ?_; refine tA HT_.out HW_.out 5 54 14 383 hHeld ?_; refine pA HT_.out 7 56 14 511 ?_; refine pA HT_.out 9 58 14 1023 ?_
             refine oA HT_.out 10 (some 59) 14 2047 (fun K hK => ?_)
             refine value_ (w1 := ?_) (v := ?_) (by rfl) rfl ?_ ?_
             rotate_left 2
             ·go_simp
              constructor
              ·rfl
              ·rfl
             refine hK.out _ _ ⟨(blk_cell (blk_alloc BK207.out _) 0).trans rfl, (blk_cell (blk_alloc BK209.out _) 0).trans rfl, (blk_cell (blk_alloc BK209.out _) 1).trans rfl, (blk_cell (blk_alloc BK209.out _) 2).trans rfl⟩ (fun hHeld => ?_)
             clear hK K
             refine nX 59 ?_
             refine oA HT_.out 11 (some 60) 14 4095 (fun K hK => ?_)
             refine Kd.R_append_step k45 (w0 := w) w.heap.size (by rfl) (.tmp 50) (.tmp 59) 28 45 (.agg #[(.string ⟨#[]⟩), (.string ⟨#[]⟩), (.int .i64 0)]) 40 rfl Try.underlying28 info45 rfl (by decide) (by omega) u208000 x208000_1 (⟨((rd_T45 l0_0 x7_1).f0), ((rd_T45 l0_0 x7_1).f1).extract 0 (((rd_T45 l0_0 x7_1).f2) : Int).toNat, ((rd_T45 l0_0 x7_1).f2)⟩ : S45) [.string ((rd_T45 l0_0 x7_1).f0), .string (((rd_T45 l0_0 x7_1).f1).extract 0 (((rd_T45 l0_0 x7_1).f2) : Int).toNat), .int .i64 ((rd_T45 l0_0 x7_1).f2)] (fun k_ => k_ ≠ gb209) (fun _ => False) rfl rfl ?aP (fun _ hk => hk.elim) ?aF ?aO ?aB ?aS ?aL ?_
             (case aP => exact k45_mkM _ _ _ (⟨((rd_T45 l0_0 x7_1).f0), ((rd_T45 l0_0 x7_1).f1).extract 0 (((rd_T45 l0_0 x7_1).f2) : Int).toNat, ((rd_T45 l0_0 x7_1).f2)⟩ : S45))
             (case aB => exact (uL HB))
             (case aF => exact (fun k_ hk => Kd.freshB (g := gb209) (o := .cells #[.string ((rd_T45 l0_0 x7_1).f0), .string ((rd_T45 l0_0 x7_1).f1), .int .i64 ((rd_T45 l0_0 x7_1).f2)] 45 (0, 0)) (uB BK209) k_ hk))
             (case aO => exact (uR HO_208000))
             (case aS => exact (below_size (uL HB)))
             (case aL => have := LMc30.out; omega)
             intro v212 w36 ho hb hg hat
             rw [← Ny211.out] at ho
             have n0_ := aM (blk_grown (g := gb204) (o := .cells #[.slice (some ad208) l0_0.length c0_0] 30 (0, 0)) (uB BK204) hg (Kd.R_ne HO_208000.out BK204.out (by decide)))
             have n1_ := aM (blk_grown (g := gb205) (o := .cells #[.slice none 0 0] 30 (0, 0)) (uB BK205) hg (Kd.R_ne HO_208000.out BK205.out (by decide)))
             have n2_ := aM (blk_grown (g := gb207) (o := .cells #[u208000] 30 (0, 0)) (uB BK207) hg (Kd.R_ne HO_208000.out BK207.out (by decide)))
             have n3_ := aM (blk_grown (g := gb209) (o := .cells #[.string ((rd_T45 l0_0 x7_1).f0), .string ((rd_T45 l0_0 x7_1).f1), .int .i64 ((rd_T45 l0_0 x7_1).f2)] 45 (0, 0)) (uB BK209) hg (Kd.R_away HO_208000.out (fun _ hk => hk)))
             have n4_ := aM (hb)
             have n5_ := aM (ho)
             clear BK204 BK205 BK207 BK209 HB HO_208000; have BK204 := n0_; have BK205 := n1_; have BK207 := n2_; have BK209 := n3_; have HB := n4_; have HO213 := n5_; clear n0_ n1_ n2_ n3_ n4_ n5_ ho hb hg hat
             obtain ⟨Ao37, co37, eo37⟩ := Kd.R_slice HO213.out
             (first | subst eo37 | (injection eo37 with f1_ f2_ f3_; have f4_ := f1_.symm; have f5_ := f3_.symm; clear f1_ f2_ f3_; subst f4_; subst f5_))
             refine hK.out _ _ ⟨(blk_cell BK207.out 0).trans rfl, (blk_cell BK209.out 0).trans rfl, (blk_cell BK209.out 1).trans rfl, (blk_cell BK209.out 2).trans rfl⟩ (fun hHeld => ?_)
             clear hK K
             refine nX 60 ?_; refine pA HT_.out 12 61 14 8191 ?_
             refine last_ (i := 13) (N := none) (bB 14 16383) rfl rfl (one_of HT_.out (by kernel_rfl)) (by decide) (fun K hK => ?_)
             have hs38 := czA BK207.out 0 (u208000)
             have hfs38 := blk_frozen BK207.out 0; have hns38_0 := NB204_207.out; have hns38_1 := NB205_207.out; have hns38_3 := NB209_207.out; have hms38_0 := NB207_204.out; have hms38_1 := NB207_205.out; have hms38_3 := NB207_209.out
             refine skip_ (w1 := ?_) (by rfl) rfl ?_ ?_
             rotate_left
             ·go_simp
              rfl
             refine hK.out _ _ ?_
             clear hK K
             refine done_ (done_of HT_.out (by kernel_rfl)) ?_
             try go_wp2
             go_roundg kj15
             case measure => have := HK1.out; have := HJ15.out; omega
             case rel => exact ⟨(wrap64 (x7_1 + 1)), (y211), (.slice Ao37 y211.length co37), (by first | rfl | (simp; done) | (simp [*]; done)), H', ⟨by have := HK1.out; have := HJ15.out; omega⟩, ⟨by (with_reducible repeat first | apply rA | apply rN | apply rD); exact Kd.R_mono (Kd.R_far (p := ⟨gb207, 0, none⟩) (Kd.R_types HO213.out BK207.out (by decide)) (fun _ hk => hk.2) (.slice Ao37 y211.length co37)) (fun _ hk => trivial)⟩, ⟨by refine nB ?_; refine blk_far ?_ NB204_207.out _; exact nB BK204.out⟩, ⟨by refine nB ?_; refine blk_far ?_ NB205_207.out _; exact nB BK205.out⟩, ⟨by refine nB ?_; refine blk_put (cs := #[u208000]) ?_ 0 _ rfl; exact nB BK207.out⟩, ⟨uL HB⟩⟩
            ·rw [if_neg c30] at H
             exact absurd H (by simp)
           ·rw [if_neg c29] at H
            exact absurd H (by simp)
          ·rw [if_neg c28] at H
           exact absurd H (by simp)
         ·rw [if_neg c27] at H
          have c27b0 : decide ((((rd_T45 l0_0 x7_1).f1).size : Int) < ((rd_T45 l0_0 x7_1).f2)) = false := decide_eq_false c27
          clear c27
          by_cases c39 : 0 ≤ (((rd_T45 l0_0 x7_1).f1).size : Int)
          ·rw [if_pos c39] at H
           have c39b0 := eq_true c39
           have c39b1 : decide (0 ≤ (((rd_T45 l0_0 x7_1).f1).size : Int)) = true := decide_eq_true c39
           clear c39
           by_cases c40 : (((rd_T45 l0_0 x7_1).f1).size : Int) ≤ (((rd_T45 l0_0 x7_1).f1).size : Int)
           ·rw [if_pos c40] at H
            have c40b0 := eq_true c40
            have c40b1 : decide ((((rd_T45 l0_0 x7_1).f1).size : Int) ≤ (((rd_T45 l0_0 x7_1).f1).size : Int)) = true := decide_eq_true c40
            clear c40
            by_cases c41 : x208000_1.length < 3518437208883
            ·rw [if_pos c41] at H
             have LMc41 := aM c41
             clear c41
             obtain ⟨y214, hy214⟩ : ∃ y_ : List (S45), y_ = (x208000_1 ++ [(⟨((rd_T45 l0_0 x7_1).f0), ((rd_T45 l0_0 x7_1).f1), (((rd_T45 l0_0 x7_1).f1).size : Int)⟩ : S45)]) := ⟨_, rfl⟩
             replace H : (spec_LoseDisk.l0 kj15 l1 (wrap64 (x7_1 + 1)) l0_0 y214) = some (r1, r2) := by first | (rw [hy214]; with_reducible exact H) | (have H2_ := (Option.bind_some _ _).symm.trans H; rw [hy214]; with_reducible exact H2_) | (have H2_ := (Option.bind_some _ _).symm.trans H; with_reducible exact H2_) | with_reducible exact H | (rw [hy214]; exact H) | exact H
             have Ny214 := aM hy214
             clear hy214
             have H' := aM H
             clear H
             have hnb42 := NB209_204.out; have hnc42 := NB204_209.out; have hnb43 := NB209_205.out; have hnc43 := NB205_209.out; have hnb44 := NB209_207.out; have hnc44 := NB207_209.out
             have hcz45_0 := czA BK209.out 0 (.string ((rd_T45 l0_0 x7_1).f0))
             have hcz45_1 := czA BK209.out 1 (.string ((rd_T45 l0_0 x7_1).f1))
             have hcz45_2 := czA BK209.out 2 (.int .i64 ((rd_T45 l0_0 x7_1).f2))
             have hfz45_0 := blk_frozen BK209.out 0; have hfz45_1 := blk_frozen BK209.out 1; have hfz45_2 := blk_frozen BK209.out 2
             try go_wp2
             replace HO_208000 := aM (Kd.R_drew HO_208000.out)
             replace BK204 := aM (blk_drew BK204.out)
             replace BK205 := aM (blk_drew BK205.out)
             replace BK207 := aM (blk_drew BK207.out)
             replace BK209 := aM (blk_drew BK209.out)
             replace HB := aM (below_drew1 HB.out)
             refine start_ (n := 14) (S := fun w' => w'.cell? ⟨gb207, 0, none⟩ = some (u208000) ∧ w'.cell? ⟨gb209, 0, none⟩ = some (.string ((rd_T45 l0_0 x7_1).f0)) ∧ w'.cell? ⟨gb209, 1, none⟩ = some (.string ((rd_T45 l0_0 x7_1).f1)) ∧ w'.cell? ⟨gb209, 2, none⟩ = some (.int .i64 ((rd_T45 l0_0 x7_1).f2))) (ds := [13]) (bB 14 0) (by kernel_rfl) rfl rfl ⟨(blk_cell BK207.out 0).trans rfl, (blk_cell BK209.out 0).trans rfl, (blk_cell BK209.out 1).trans rfl, (blk_cell BK209.out 2).trans rfl⟩ (fun hHeld => ?_); refine with_tabW spec_LoseDisk.tab15 spec_LoseDisk.bits15 (fun HT_ HW_ => ?_)
             generalize wc.drew = w46 at HO_208000 BK204 BK205 BK207 BK209 HB hHeld ⊢
             refine pA HT_.out 0 49 14 1 ?_; refine pA HT_.out 2 51 14 5 ?_; refine pA HT_.out 4 53 14 21 ?_; refine pA HT_.out 6 55 14 85 ?_; refine pA HT_.out 8 57 14 341 ?_; refine tA HT_.out HW_.out 1 50 14 343 hHeld ?_; refine tA HT_.out HW_.out 3 52 14 351 hHeld ?_; refine tA HT_.out HW_.out 5 54 14 383 hHeld ?_; refine pA HT_.out 7 56 14 511 ?_; refine pA HT_.out 9 58 14 1023 ?_
             refine oA HT_.out 10 (some 59) 14 2047 (fun K hK => ?_)
             refine value_ (w1 := ?_) (v := ?_) (by rfl) rfl ?_ ?_
             rotate_left 2
             ·go_simp
              constructor
              ·rfl
              ·rfl
             refine hK.out _ _ ⟨(blk_cell (blk_alloc BK207.out _) 0).trans rfl, (blk_cell (blk_alloc BK209.out _) 0).trans rfl, (blk_cell (blk_alloc BK209.out _) 1).trans rfl, (blk_cell (blk_alloc BK209.out _) 2).trans rfl⟩ (fun hHeld => ?_)
             clear hK K
             refine nX 59 ?_
             refine oA HT_.out 11 (some 60) 14 4095 (fun K hK => ?_)
             refine Kd.R_append_step k45 (w0 := w) w.heap.size (by rfl) (.tmp 50) (.tmp 59) 28 45 (.agg #[(.string ⟨#[]⟩), (.string ⟨#[]⟩), (.int .i64 0)]) 40 rfl Try.underlying28 info45 rfl (by decide) (by omega) u208000 x208000_1 (⟨((rd_T45 l0_0 x7_1).f0), ((rd_T45 l0_0 x7_1).f1), (((rd_T45 l0_0 x7_1).f1).size : Int)⟩ : S45) [.string ((rd_T45 l0_0 x7_1).f0), .string (((rd_T45 l0_0 x7_1).f1)), .int .i64 (((rd_T45 l0_0 x7_1).f1).size : Int)] (fun k_ => k_ ≠ gb209) (fun _ => False) rfl rfl ?aP (fun _ hk => hk.elim) ?aF ?aO ?aB ?aS ?aL ?_
             (case aP => exact k45_mkM _ _ _ (⟨((rd_T45 l0_0 x7_1).f0), ((rd_T45 l0_0 x7_1).f1), (((rd_T45 l0_0 x7_1).f1).size : Int)⟩ : S45))
             (case aB => exact (uL HB))
             (case aF => exact (fun k_ hk => Kd.freshB (g := gb209) (o := .cells #[.string ((rd_T45 l0_0 x7_1).f0), .string ((rd_T45 l0_0 x7_1).f1), .int .i64 ((rd_T45 l0_0 x7_1).f2)] 45 (0, 0)) (uB BK209) k_ hk))
             (case aO => exact (uR HO_208000))
             (case aS => exact (below_size (uL HB)))
             (case aL => have := LMc41.out; omega)
             intro v215 w47 ho hb hg hat
             rw [← Ny214.out] at ho
             have n0_ := aM (blk_grown (g := gb204) (o := .cells #[.slice (some ad208) l0_0.length c0_0] 30 (0, 0)) (uB BK204) hg (Kd.R_ne HO_208000.out BK204.out (by decide)))
             have n1_ := aM (blk_grown (g := gb205) (o := .cells #[.slice none 0 0] 30 (0, 0)) (uB BK205) hg (Kd.R_ne HO_208000.out BK205.out (by decide)))
             have n2_ := aM (blk_grown (g := gb207) (o := .cells #[u208000] 30 (0, 0)) (uB BK207) hg (Kd.R_ne HO_208000.out BK207.out (by decide)))
             have n3_ := aM (blk_grown (g := gb209) (o := .cells #[.string ((rd_T45 l0_0 x7_1).f0), .string ((rd_T45 l0_0 x7_1).f1), .int .i64 ((rd_T45 l0_0 x7_1).f2)] 45 (0, 0)) (uB BK209) hg (Kd.R_away HO_208000.out (fun _ hk => hk)))
             have n4_ := aM (hb)
             have n5_ := aM (ho)
             clear BK204 BK205 BK207 BK209 HB HO_208000; have BK204 := n0_; have BK205 := n1_; have BK207 := n2_; have BK209 := n3_; have HB := n4_; have HO216 := n5_; clear n0_ n1_ n2_ n3_ n4_ n5_ ho hb hg hat
             obtain ⟨Ao48, co48, eo48⟩ := Kd.R_slice HO216.out
             (first | subst eo48 | (injection eo48 with f1_ f2_ f3_; have f4_ := f1_.symm; have f5_ := f3_.symm; clear f1_ f2_ f3_; subst f4_; subst f5_))
             refine hK.out _ _ ⟨(blk_cell BK207.out 0).trans rfl, (blk_cell BK209.out 0).trans rfl, (blk_cell BK209.out 1).trans rfl, (blk_cell BK209.out 2).trans rfl⟩ (fun hHeld => ?_)
             clear hK K
             refine nX 60 ?_; refine pA HT_.out 12 61 14 8191 ?_
             refine last_ (i := 13) (N := none) (bB 14 16383) rfl rfl (one_of HT_.out (by kernel_rfl)) (by decide) (fun K hK => ?_)
             have hs49 := czA BK207.out 0 (u208000)
             have hfs49 := blk_frozen BK207.out 0; have hns49_0 := NB204_207.out; have hns49_1 := NB205_207.out; have hns49_3 := NB209_207.out; have hms49_0 := NB207_204.out; have hms49_1 := NB207_205.out; have hms49_3 := NB207_209.out
             refine skip_ (w1 := ?_) (by rfl) rfl ?_ ?_
             rotate_left
             ·go_simp
              rfl
             refine hK.out _ _ ?_
             clear hK K
             refine done_ (done_of HT_.out (by kernel_rfl)) ?_
             try go_wp2
             go_roundg kj15
             case measure => have := HK1.out; have := HJ15.out; omega
             case rel => exact ⟨(wrap64 (x7_1 + 1)), (y214), (.slice Ao48 y214.length co48), (by first | rfl | (simp; done) | (simp [*]; done)), H', ⟨by have := HK1.out; have := HJ15.out; omega⟩, ⟨by (with_reducible repeat first | apply rA | apply rN | apply rD); exact Kd.R_mono (Kd.R_far (p := ⟨gb207, 0, none⟩) (Kd.R_types HO216.out BK207.out (by decide)) (fun _ hk => hk.2) (.slice Ao48 y214.length co48)) (fun _ hk => trivial)⟩, ⟨by refine nB ?_; refine blk_far ?_ NB204_207.out _; exact nB BK204.out⟩, ⟨by refine nB ?_; refine blk_far ?_ NB205_207.out _; exact nB BK205.out⟩, ⟨by refine nB ?_; refine blk_put (cs := #[u208000]) ?_ 0 _ rfl; exact nB BK207.out⟩, ⟨uL HB⟩⟩
            ·rw [if_neg c41] at H
             exact absurd H (by simp)
           ·rw [if_neg c40] at H
            exact absurd H (by simp)
          ·rw [if_neg c39] at H
           exact absurd H (by simp)
        ·rw [if_neg c26] at H
         have c26b0 : decide ((((rd_T45 l0_0 x7_1).f1).size : Int) < x9_15) = false := decide_eq_false c26
         clear c26
         by_cases c50 : x9_15 < ((rd_T45 l0_0 x7_1).f2)
         ·rw [if_pos c50] at H
          have c50b0 : decide (x9_15 < ((rd_T45 l0_0 x7_1).f2)) = true := decide_eq_true c50
          clear c50
          by_cases c51 : 0 ≤ ((rd_T45 l0_0 x7_1).f2)
          ·rw [if_pos c51] at H
           have c51b0 := eq_true c51
           have c51b1 : decide (0 ≤ ((rd_T45 l0_0 x7_1).f2)) = true := decide_eq_true c51
           clear c51
           by_cases c52 : ((rd_T45 l0_0 x7_1).f2) ≤ (((rd_T45 l0_0 x7_1).f1).size : Int)
           ·rw [if_pos c52] at H
            have c52b0 := eq_true c52
            have c52b1 : decide (((rd_T45 l0_0 x7_1).f2) ≤ (((rd_T45 l0_0 x7_1).f1).size : Int)) = true := decide_eq_true c52
            clear c52
            by_cases c53 : x208000_1.length < 3518437208883
            ·rw [if_pos c53] at H
             have LMc53 := aM c53
             clear c53
             obtain ⟨y217, hy217⟩ : ∃ y_ : List (S45), y_ = (x208000_1 ++ [(⟨((rd_T45 l0_0 x7_1).f0), ((rd_T45 l0_0 x7_1).f1).extract 0 (((rd_T45 l0_0 x7_1).f2) : Int).toNat, ((rd_T45 l0_0 x7_1).f2)⟩ : S45)]) := ⟨_, rfl⟩
             replace H : (spec_LoseDisk.l0 kj15 l1 (wrap64 (x7_1 + 1)) l0_0 y217) = some (r1, r2) := by first | (rw [hy217]; with_reducible exact H) | (have H2_ := (Option.bind_some _ _).symm.trans H; rw [hy217]; with_reducible exact H2_) | (have H2_ := (Option.bind_some _ _).symm.trans H; with_reducible exact H2_) | with_reducible exact H | (rw [hy217]; exact H) | exact H
             have Ny217 := aM hy217
             clear hy217
             have H' := aM H
             clear H
             have hnb54 := NB209_204.out; have hnc54 := NB204_209.out; have hnb55 := NB209_205.out; have hnc55 := NB205_209.out; have hnb56 := NB209_207.out; have hnc56 := NB207_209.out
             have hcz57_0 := czA BK209.out 0 (.string ((rd_T45 l0_0 x7_1).f0))
             have hcz57_1 := czA BK209.out 1 (.string ((rd_T45 l0_0 x7_1).f1))
             have hcz57_2 := czA BK209.out 2 (.int .i64 ((rd_T45 l0_0 x7_1).f2))
             have hfz57_0 := blk_frozen BK209.out 0; have hfz57_1 := blk_frozen BK209.out 1; have hfz57_2 := blk_frozen BK209.out 2
             try go_wp2
             replace HO_208000 := aM (Kd.R_drew HO_208000.out)
             replace BK204 := aM (blk_drew BK204.out)
             replace BK205 := aM (blk_drew BK205.out)
             replace BK207 := aM (blk_drew BK207.out)
             replace BK209 := aM (blk_drew BK209.out)
             replace HB := aM (below_drew1 HB.out)
             refine start_ (n := 14) (S := fun w' => w'.cell? ⟨gb207, 0, none⟩ = some (u208000) ∧ w'.cell? ⟨gb209, 0, none⟩ = some (.string ((rd_T45 l0_0 x7_1).f0)) ∧ w'.cell? ⟨gb209, 1, none⟩ = some (.string ((rd_T45 l0_0 x7_1).f1)) ∧ w'.cell? ⟨gb209, 2, none⟩ = some (.int .i64 ((rd_T45 l0_0 x7_1).f2))) (ds := [13]) (bB 14 0) (by kernel_rfl) rfl rfl ⟨(blk_cell BK207.out 0).trans rfl, (blk_cell BK209.out 0).trans rfl, (blk_cell BK209.out 1).trans rfl, (blk_cell BK209.out 2).trans rfl⟩ (fun hHeld => ?_); refine with_tabW spec_LoseDisk.tab15 spec_LoseDisk.bits15 (fun HT_ HW_ => ?_)
             generalize wc.drew = w58 at HO_208000 BK204 BK205 BK207 BK209 HB hHeld ⊢
             refine pA HT_.out 0 49 14 1 ?_; refine pA HT_.out 2 51 14 5 ?_; refine pA HT_.out 4 53 14 21 ?_; refine pA HT_.out 6 55 14 85 ?_; refine pA HT_.out 8 57 14 341 ?_; refine tA HT_.out HW_.out 1 50 14 343 hHeld ?_; refine tA HT_.out HW_.out 3 52 14 351 hHeld ?_; refine tA HT_.out HW_.out 5 54 14 383 hHeld ?_; refine pA HT_.out 7 56 14 511 ?_; refine pA HT_.out 9 58 14 1023 ?_
             refine oA HT_.out 10 (some 59) 14 2047 (fun K hK => ?_)
             refine value_ (w1 := ?_) (v := ?_) (by rfl) rfl ?_ ?_
             rotate_left 2
             ·go_simp
              constructor
              ·rfl
              ·rfl
             refine hK.out _ _ ⟨(blk_cell (blk_alloc BK207.out _) 0).trans rfl, (blk_cell (blk_alloc BK209.out _) 0).trans rfl, (blk_cell (blk_alloc BK209.out _) 1).trans rfl, (blk_cell (blk_alloc BK209.out _) 2).trans rfl⟩ (fun hHeld => ?_)
             clear hK K
             refine nX 59 ?_
             refine oA HT_.out 11 (some 60) 14 4095 (fun K hK => ?_)
             refine Kd.R_append_step k45 (w0 := w) w.heap.size (by rfl) (.tmp 50) (.tmp 59) 28 45 (.agg #[(.string ⟨#[]⟩), (.string ⟨#[]⟩), (.int .i64 0)]) 40 rfl Try.underlying28 info45 rfl (by decide) (by omega) u208000 x208000_1 (⟨((rd_T45 l0_0 x7_1).f0), ((rd_T45 l0_0 x7_1).f1).extract 0 (((rd_T45 l0_0 x7_1).f2) : Int).toNat, ((rd_T45 l0_0 x7_1).f2)⟩ : S45) [.string ((rd_T45 l0_0 x7_1).f0), .string (((rd_T45 l0_0 x7_1).f1).extract 0 (((rd_T45 l0_0 x7_1).f2) : Int).toNat), .int .i64 ((rd_T45 l0_0 x7_1).f2)] (fun k_ => k_ ≠ gb209) (fun _ => False) rfl rfl ?aP (fun _ hk => hk.elim) ?aF ?aO ?aB ?aS ?aL ?_
             (case aP => exact k45_mkM _ _ _ (⟨((rd_T45 l0_0 x7_1).f0), ((rd_T45 l0_0 x7_1).f1).extract 0 (((rd_T45 l0_0 x7_1).f2) : Int).toNat, ((rd_T45 l0_0 x7_1).f2)⟩ : S45))
             (case aB => exact (uL HB))
             (case aF => exact (fun k_ hk => Kd.freshB (g := gb209) (o := .cells #[.string ((rd_T45 l0_0 x7_1).f0), .string ((rd_T45 l0_0 x7_1).f1), .int .i64 ((rd_T45 l0_0 x7_1).f2)] 45 (0, 0)) (uB BK209) k_ hk))
             (case aO => exact (uR HO_208000))
             (case aS => exact (below_size (uL HB)))
             (case aL => have := LMc53.out; omega)
             intro v218 w59 ho hb hg hat
             rw [← Ny217.out] at ho
             have n0_ := aM (blk_grown (g := gb204) (o := .cells #[.slice (some ad208) l0_0.length c0_0] 30 (0, 0)) (uB BK204) hg (Kd.R_ne HO_208000.out BK204.out (by decide)))
             have n1_ := aM (blk_grown (g := gb205) (o := .cells #[.slice none 0 0] 30 (0, 0)) (uB BK205) hg (Kd.R_ne HO_208000.out BK205.out (by decide)))
             have n2_ := aM (blk_grown (g := gb207) (o := .cells #[u208000] 30 (0, 0)) (uB BK207) hg (Kd.R_ne HO_208000.out BK207.out (by decide)))
             have n3_ := aM (blk_grown (g := gb209) (o := .cells #[.string ((rd_T45 l0_0 x7_1).f0), .string ((rd_T45 l0_0 x7_1).f1), .int .i64 ((rd_T45 l0_0 x7_1).f2)] 45 (0, 0)) (uB BK209) hg (Kd.R_away HO_208000.out (fun _ hk => hk)))
             have n4_ := aM (hb)
             have n5_ := aM (ho)
             clear BK204 BK205 BK207 BK209 HB HO_208000; have BK204 := n0_; have BK205 := n1_; have BK207 := n2_; have BK209 := n3_; have HB := n4_; have HO219 := n5_; clear n0_ n1_ n2_ n3_ n4_ n5_ ho hb hg hat
             obtain ⟨Ao60, co60, eo60⟩ := Kd.R_slice HO219.out
             (first | subst eo60 | (injection eo60 with f1_ f2_ f3_; have f4_ := f1_.symm; have f5_ := f3_.symm; clear f1_ f2_ f3_; subst f4_; subst f5_))
             refine hK.out _ _ ⟨(blk_cell BK207.out 0).trans rfl, (blk_cell BK209.out 0).trans rfl, (blk_cell BK209.out 1).trans rfl, (blk_cell BK209.out 2).trans rfl⟩ (fun hHeld => ?_)
             clear hK K
             refine nX 60 ?_; refine pA HT_.out 12 61 14 8191 ?_
             refine last_ (i := 13) (N := none) (bB 14 16383) rfl rfl (one_of HT_.out (by kernel_rfl)) (by decide) (fun K hK => ?_)
             have hs61 := czA BK207.out 0 (u208000)
             have hfs61 := blk_frozen BK207.out 0; have hns61_0 := NB204_207.out; have hns61_1 := NB205_207.out; have hns61_3 := NB209_207.out; have hms61_0 := NB207_204.out; have hms61_1 := NB207_205.out; have hms61_3 := NB207_209.out
             refine skip_ (w1 := ?_) (by rfl) rfl ?_ ?_
             rotate_left
             ·go_simp
              rfl
             refine hK.out _ _ ?_
             clear hK K
             refine done_ (done_of HT_.out (by kernel_rfl)) ?_
             try go_wp2
             go_roundg kj15
             case measure => have := HK1.out; have := HJ15.out; omega
             case rel => exact ⟨(wrap64 (x7_1 + 1)), (y217), (.slice Ao60 y217.length co60), (by first | rfl | (simp; done) | (simp [*]; done)), H', ⟨by have := HK1.out; have := HJ15.out; omega⟩, ⟨by (with_reducible repeat first | apply rA | apply rN | apply rD); exact Kd.R_mono (Kd.R_far (p := ⟨gb207, 0, none⟩) (Kd.R_types HO219.out BK207.out (by decide)) (fun _ hk => hk.2) (.slice Ao60 y217.length co60)) (fun _ hk => trivial)⟩, ⟨by refine nB ?_; refine blk_far ?_ NB204_207.out _; exact nB BK204.out⟩, ⟨by refine nB ?_; refine blk_far ?_ NB205_207.out _; exact nB BK205.out⟩, ⟨by refine nB ?_; refine blk_put (cs := #[u208000]) ?_ 0 _ rfl; exact nB BK207.out⟩, ⟨uL HB⟩⟩
            ·rw [if_neg c53] at H
             exact absurd H (by simp)
           ·rw [if_neg c52] at H
            exact absurd H (by simp)
          ·rw [if_neg c51] at H
           exact absurd H (by simp)
         ·rw [if_neg c50] at H
          have c50b0 : decide (x9_15 < ((rd_T45 l0_0 x7_1).f2)) = false := decide_eq_false c50
          clear c50
          by_cases c62 : 0 ≤ x9_15
          ·rw [if_pos c62] at H
           have c62b0 := eq_true c62
           have c62b1 : decide (0 ≤ x9_15) = true := decide_eq_true c62
           clear c62
           by_cases c63 : x9_15 ≤ (((rd_T45 l0_0 x7_1).f1).size : Int)
           ·rw [if_pos c63] at H
            have c63b0 := eq_true c63
            have c63b1 : decide (x9_15 ≤ (((rd_T45 l0_0 x7_1).f1).size : Int)) = true := decide_eq_true c63
            clear c63
            by_cases c64 : x208000_1.length < 3518437208883
            ·rw [if_pos c64] at H
             have LMc64 := aM c64
             clear c64
             obtain ⟨y220, hy220⟩ : ∃ y_ : List (S45), y_ = (x208000_1 ++ [(⟨((rd_T45 l0_0 x7_1).f0), ((rd_T45 l0_0 x7_1).f1).extract 0 (x9_15 : Int).toNat, x9_15⟩ : S45)]) := ⟨_, rfl⟩
             replace H : (spec_LoseDisk.l0 kj15 l1 (wrap64 (x7_1 + 1)) l0_0 y220) = some (r1, r2) := by first | (rw [hy220]; with_reducible exact H) | (have H2_ := (Option.bind_some _ _).symm.trans H; rw [hy220]; with_reducible exact H2_) | (have H2_ := (Option.bind_some _ _).symm.trans H; with_reducible exact H2_) | with_reducible exact H | (rw [hy220]; exact H) | exact H
             have Ny220 := aM hy220
             clear hy220
             have H' := aM H
             clear H
             have hnb65 := NB209_204.out; have hnc65 := NB204_209.out; have hnb66 := NB209_205.out; have hnc66 := NB205_209.out; have hnb67 := NB209_207.out; have hnc67 := NB207_209.out
             have hcz68_0 := czA BK209.out 0 (.string ((rd_T45 l0_0 x7_1).f0))
             have hcz68_1 := czA BK209.out 1 (.string ((rd_T45 l0_0 x7_1).f1))
             have hcz68_2 := czA BK209.out 2 (.int .i64 ((rd_T45 l0_0 x7_1).f2))
             have hfz68_0 := blk_frozen BK209.out 0; have hfz68_1 := blk_frozen BK209.out 1; have hfz68_2 := blk_frozen BK209.out 2
             try go_wp2
             replace HO_208000 := aM (Kd.R_drew HO_208000.out)
             replace BK204 := aM (blk_drew BK204.out)
             replace BK205 := aM (blk_drew BK205.out)
             replace BK207 := aM (blk_drew BK207.out)
             replace BK209 := aM (blk_drew BK209.out)
             replace HB := aM (below_drew1 HB.out)
             refine start_ (n := 14) (S := fun w' => w'.cell? ⟨gb207, 0, none⟩ = some (u208000) ∧ w'.cell? ⟨gb209, 0, none⟩ = some (.string ((rd_T45 l0_0 x7_1).f0)) ∧ w'.cell? ⟨gb209, 1, none⟩ = some (.string ((rd_T45 l0_0 x7_1).f1)) ∧ w'.cell? ⟨gb209, 2, none⟩ = some (.int .i64 ((rd_T45 l0_0 x7_1).f2))) (ds := [13]) (bB 14 0) (by kernel_rfl) rfl rfl ⟨(blk_cell BK207.out 0).trans rfl, (blk_cell BK209.out 0).trans rfl, (blk_cell BK209.out 1).trans rfl, (blk_cell BK209.out 2).trans rfl⟩ (fun hHeld => ?_); refine with_tabW spec_LoseDisk.tab15 spec_LoseDisk.bits15 (fun HT_ HW_ => ?_)
             generalize wc.drew = w69 at HO_208000 BK204 BK205 BK207 BK209 HB hHeld ⊢
             refine pA HT_.out 0 49 14 1 ?_; refine pA HT_.out 2 51 14 5 ?_; refine pA HT_.out 4 53 14 21 ?_; refine pA HT_.out 6 55 14 85 ?_; refine pA HT_.out 8 57 14 341 ?_; refine tA HT_.out HW_.out 1 50 14 343 hHeld ?_; refine tA HT_.out HW_.out 3 52 14 351 hHeld ?_; refine tA HT_.out HW_.out 5 54 14 383 hHeld ?_; refine pA HT_.out 7 56 14 511 ?_; refine pA HT_.out 9 58 14 1023 ?_
             refine oA HT_.out 10 (some 59) 14 2047 (fun K hK => ?_)
             refine value_ (w1 := ?_) (v := ?_) (by rfl) rfl ?_ ?_
             rotate_left 2
             ·go_simp
              constructor
              ·rfl
              ·rfl
             refine hK.out _ _ ⟨(blk_cell (blk_alloc BK207.out _) 0).trans rfl, (blk_cell (blk_alloc BK209.out _) 0).trans rfl, (blk_cell (blk_alloc BK209.out _) 1).trans rfl, (blk_cell (blk_alloc BK209.out _) 2).trans rfl⟩ (fun hHeld => ?_)
             clear hK K
             refine nX 59 ?_
             refine oA HT_.out 11 (some 60) 14 4095 (fun K hK => ?_)
             refine Kd.R_append_step k45 (w0 := w) w.heap.size (by rfl) (.tmp 50) (.tmp 59) 28 45 (.agg #[(.string ⟨#[]⟩), (.string ⟨#[]⟩), (.int .i64 0)]) 40 rfl Try.underlying28 info45 rfl (by decide) (by omega) u208000 x208000_1 (⟨((rd_T45 l0_0 x7_1).f0), ((rd_T45 l0_0 x7_1).f1).extract 0 (x9_15 : Int).toNat, x9_15⟩ : S45) [.string ((rd_T45 l0_0 x7_1).f0), .string (((rd_T45 l0_0 x7_1).f1).extract 0 (x9_15 : Int).toNat), .int .i64 x9_15] (fun k_ => k_ ≠ gb209) (fun _ => False) rfl rfl ?aP (fun _ hk => hk.elim) ?aF ?aO ?aB ?aS ?aL ?_
             (case aP => exact k45_mkM _ _ _ (⟨((rd_T45 l0_0 x7_1).f0), ((rd_T45 l0_0 x7_1).f1).extract 0 (x9_15 : Int).toNat, x9_15⟩ : S45))
             (case aB => exact (uL HB))
             (case aF => exact (fun k_ hk => Kd.freshB (g := gb209) (o := .cells #[.string ((rd_T45 l0_0 x7_1).f0), .string ((rd_T45 l0_0 x7_1).f1), .int .i64 ((rd_T45 l0_0 x7_1).f2)] 45 (0, 0)) (uB BK209) k_ hk))
             (case aO => exact (uR HO_208000))
             (case aS => exact (below_size (uL HB)))
             (case aL => have := LMc64.out; omega)
             intro v221 w70 ho hb hg hat
             rw [← Ny220.out] at ho
             have n0_ := aM (blk_grown (g := gb204) (o := .cells #[.slice (some ad208) l0_0.length c0_0] 30 (0, 0)) (uB BK204) hg (Kd.R_ne HO_208000.out BK204.out (by decide)))
             have n1_ := aM (blk_grown (g := gb205) (o := .cells #[.slice none 0 0] 30 (0, 0)) (uB BK205) hg (Kd.R_ne HO_208000.out BK205.out (by decide)))
             have n2_ := aM (blk_grown (g := gb207) (o := .cells #[u208000] 30 (0, 0)) (uB BK207) hg (Kd.R_ne HO_208000.out BK207.out (by decide)))
             have n3_ := aM (blk_grown (g := gb209) (o := .cells #[.string ((rd_T45 l0_0 x7_1).f0), .string ((rd_T45 l0_0 x7_1).f1), .int .i64 ((rd_T45 l0_0 x7_1).f2)] 45 (0, 0)) (uB BK209) hg (Kd.R_away HO_208000.out (fun _ hk => hk)))
             have n4_ := aM (hb)
             have n5_ := aM (ho)
             clear BK204 BK205 BK207 BK209 HB HO_208000; have BK204 := n0_; have BK205 := n1_; have BK207 := n2_; have BK209 := n3_; have HB := n4_; have HO222 := n5_; clear n0_ n1_ n2_ n3_ n4_ n5_ ho hb hg hat
             obtain ⟨Ao71, co71, eo71⟩ := Kd.R_slice HO222.out
             (first | subst eo71 | (injection eo71 with f1_ f2_ f3_; have f4_ := f1_.symm; have f5_ := f3_.symm; clear f1_ f2_ f3_; subst f4_; subst f5_))
             refine hK.out _ _ ⟨(blk_cell BK207.out 0).trans rfl, (blk_cell BK209.out 0).trans rfl, (blk_cell BK209.out 1).trans rfl, (blk_cell BK209.out 2).trans rfl⟩ (fun hHeld => ?_)
             clear hK K
             refine nX 60 ?_; refine pA HT_.out 12 61 14 8191 ?_
             refine last_ (i := 13) (N := none) (bB 14 16383) rfl rfl (one_of HT_.out (by kernel_rfl)) (by decide) (fun K hK => ?_)
             have hs72 := czA BK207.out 0 (u208000)
             have hfs72 := blk_frozen BK207.out 0; have hns72_0 := NB204_207.out; have hns72_1 := NB205_207.out; have hns72_3 := NB209_207.out; have hms72_0 := NB207_204.out; have hms72_1 := NB207_205.out; have hms72_3 := NB207_209.out
             refine skip_ (w1 := ?_) (by rfl) rfl ?_ ?_
             rotate_left
             ·go_simp
              rfl
             refine hK.out _ _ ?_
             clear hK K
             refine done_ (done_of HT_.out (by kernel_rfl)) ?_
             try go_wp2
             go_roundg kj15
             case measure => have := HK1.out; have := HJ15.out; omega
             case rel => exact ⟨(wrap64 (x7_1 + 1)), (y220), (.slice Ao71 y220.length co71), (by first | rfl | (simp; done) | (simp [*]; done)), H', ⟨by have := HK1.out; have := HJ15.out; omega⟩, ⟨by (with_reducible repeat first | apply rA | apply rN | apply rD); exact Kd.R_mono (Kd.R_far (p := ⟨gb207, 0, none⟩) (Kd.R_types HO222.out BK207.out (by decide)) (fun _ hk => hk.2) (.slice Ao71 y220.length co71)) (fun _ hk => trivial)⟩, ⟨by refine nB ?_; refine blk_far ?_ NB204_207.out _; exact nB BK204.out⟩, ⟨by refine nB ?_; refine blk_far ?_ NB205_207.out _; exact nB BK205.out⟩, ⟨by refine nB ?_; refine blk_put (cs := #[u208000]) ?_ 0 _ rfl; exact nB BK207.out⟩, ⟨uL HB⟩⟩
            ·rw [if_neg c64] at H
             exact absurd H (by simp)
           ·rw [if_neg c63] at H
            exact absurd H (by simp)
          ·rw [if_neg c62] at H
           exact absurd H (by simp)
     ·rw [if_neg c15] at H
      exact absurd H (by simp)
    ·rw [if_neg c14] at H
     have c14b0 : decide (x7_1 < (l0_0.length : Int)) = false := decide_eq_false c14
     clear c14
     simp only [Option.some.injEq, Prod.mk.injEq] at H
     obtain ⟨rfl, rfl⟩ := H
     have hnb73 := NB204_205.out; have hnc73 := NB205_204.out; have hnb74 := NB204_207.out; have hnc74 := NB207_204.out
     have hcz75_0 := czA BK204.out 0 (.slice A0_0 l0_0.length c0_0)
     have hfz75_0 := blk_frozen BK204.out 0; have hnb76 := NB207_205.out; have hnc76 := NB205_207.out
     have hcz77_0 := czA BK207.out 0 (u208000)
     have hfz77_0 := blk_frozen BK207.out 0
     obtain ⟨Ao78, co78, eo78⟩ := Kd.R_slice HO_208000.out
     subst eo78
     have hcz79_0 := czA BK205.out 0 (.slice none 0 0)
     have hfz79_0 := blk_frozen BK205.out 0
     go_wp2
     refine bodyPost_ret (results_ct rfl _ _ gb205 30 #[.slice Ao78 x208000_1.length co78] (0, 0) _ rfl (by refine nB ?_; refine blk_put (cs := #[.slice none 0 0]) ?_ 0 _ rfl; exact nB BK205.out) Try.underlying30 rfl (by kernel_rfl)) rfl ?_
     exact ⟨_, by first | rfl | (simp [errW_none, errW_some] <;> rfl) | (simp [*, errW_none, errW_some] <;> rfl), by (with_reducible repeat first | apply rA | apply rN | apply rD); exact Kd.R_mono (Kd.R_far (p := ⟨gb205, 0, none⟩) (Kd.R_types HO_208000.out BK205.out (by decide)) (fun _ hk => hk.2) (.slice Ao78 x208000_1.length co78)) (fun _ hk => trivial), uL HB⟩
 ·replace c4 := Bool.eq_false_iff.mpr c4
  subst c4
  have H1 : (some (([] : List (S45)), false)) = some (r1, r2) := by rw [if_neg (show ¬ (false = true) by decide)] at H; exact H
  clear H; have H := H1; clear H1
  simp only [Option.some.injEq, Prod.mk.injEq] at H
  obtain ⟨rfl, rfl⟩ := H
  go_enter Try.func31, Try.ntmps31
  go_wp2_with (first | ((with_reducible refine gate_dst (N := 2) rfl ?_); refine bxE 2 #[.slice A0_0 l0_0.length c0_0] 30 ?_; intro gb204 hg w80 hbox hb; have BK204 := aM (hbox); have GW204 := szG hg (uL HB); have GE204 := szG hg (uL HB); replace HB := aM (below_step (uL HB) hb); clear hb hbox hg) | ((with_reducible refine gate_dst (N := 4) rfl ?_); refine bxE 4 #[.slice none 0 0] 30 ?_; intro gb205 hg w81 hbox hb; have BK205 := aM (hbox); have GW205 := szG hg (uL HB); have GE205 := szG hg (uL HB); have NB204_205 := neL hg BK204; have NB205_204 := neG hg BK204; replace BK204 := blkB BK204 hb; replace HB := aM (below_step (uL HB) hb); clear hb hbox hg; have hnb82 := NB204_205.out; have hnc82 := NB205_204.out; have hcz83_0 := czA BK204.out 0 (.slice A0_0 l0_0.length c0_0); have hfz83_0 := blk_frozen BK204.out 0) | ((with_reducible refine gate_callee (f := 20) rfl ?_); refine gL (some 11) Try.func20 #[.agg #[.slice A0_0 l0_0.length c0_0]] ?_; (with_reducible refine (spec_DiskOk.calls k _ _ l0_0 false _ ?side1 ?side2 A3.out).mono ?_); (case side1 => exact uC HR0_0 HB); (case side2 => exact HC0_0.out); rintro e w84 ⟨rfl, hb⟩; refine ⟨_, rfl, ?_⟩; replace BK204 := blkB BK204 hb; replace BK205 := blkB BK205 hb; replace HB := aM (below_step (uL HB) hb); try clear hb; have hcz85_0 := czA BK205.out 0 (.slice none 0 0); have hfz85_0 := blk_frozen BK205.out 0))
  refine bodyPost_ret (results_ct rfl _ _ gb205 30 #[.slice none 0 0] (0, 0) _ rfl (by refine nB ?_; refine blk_put (cs := #[.slice none 0 0]) ?_ 0 _ rfl; exact nB BK205.out) Try.underlying30 rfl (by kernel_rfl)) rfl ?_
  exact ⟨_, by first | rfl | (simp [errW_none, errW_some] <;> rfl) | (simp [*, errW_none, errW_some] <;> rfl), by first | exact Kd.R_nil _ _ _ _ _ | exact Kd.N_nil _ _ _ _ _ | exact Kd.V_nil _ _ _ _ _ | exact Kd.Q_nil _ _ _ _ _ | exact Kd.S_nil _ _ _ _ _, uL HB⟩

end Go.Proofs.Ytidfhfaekdahpaa.QFnExactCutActs
