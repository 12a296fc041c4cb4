-- Own work (wip/turnprint.py over the kit's print).
import Derived.Test.YtidfhfaekdahpaaQFnActsx0
import Derived.Test.YtidfhfaekdahpaaQFnActsx1
namespace Go.Proofs.Ytidfhfaekdahpaa.QFnActs
open Go.RowKit Go.Proofs.YtidfhfaekdahpaaW.PrintWords Go.Proofs.YtidfhfaekdahpaaW.PrintLast Go.Proofs.YtidfhfaekdahpaaW.PrintMore
attribute [local go_sem] max2_int min2_int max_two min_two max_three min_three max_four min_four   -- for this text's walks alone
set_option linter.unusedVariables false
set_option linter.unusedSimpArgs false

attribute [local go_sem high] eqA45
/-! ### impl_FileAt: function 18 -/
def impl_FileAt.l0 : Nat → ByteArray → List (S45) → Int → Int → Option (ByteArray × Bool)
 | 0, _, _, _, _ => none
 | k + 1, x1, x9, x10, x11 => if x11 < x10 then (if 0 ≤ x11 then (if x11 < (x9.length : Int) then (if ((rd_T45 x9 x11).f0).toList = x1.toList then (some ((rd_T45 x9 x11).f1, true)) else (impl_FileAt.l0 k x1 x9 x10 (wrap64 (x11 + 1)))) else (none)) else (none)) else (some ((⟨#[]⟩ : ByteArray), false))
def impl_FileAt.f (k : Nat) (l0_0 : List (S45)) (a1 : ByteArray) : Option (ByteArray × Bool) := impl_FileAt.l0 k a1 l0_0 (l0_0.length : Int) 0
theorem impl_FileAt.mono_l : ∀ k, (∀ y0 y1 y2 y3, LeO (impl_FileAt.l0 k y0 y1 y2 y3) (impl_FileAt.l0 (k + 1) y0 y1 y2 y3))
 | 0 => fun _ _ _ _ r h => by simp [impl_FileAt.l0] at h
 | k + 1 => by
  have ih0 := impl_FileAt.mono_l k
  ·intro y0 y1 y2 y3
   unfold impl_FileAt.l0
   repeat' first
   | (with_reducible exact ih0 _ _ _ _)
   | (with_reducible exact LeO.refl _)
   | (with_reducible exact LeO.none _)
   | (with_reducible refine LeO.ite ?_ ?_)
   | (with_reducible refine LeO.bind ?_ (fun _ => ?_))
   | exact ih0 _ _ _ _
   | exact LeO.none _
   | refine LeO.ite ?_ ?_
   | refine LeO.bind ?_ (fun _ => ?_)
theorem impl_FileAt.mono : ∀ a0 a1 k, LeO (impl_FileAt.f k a0 a1) (impl_FileAt.f (k + 1) a0 a1) := by
 intro a0 a1 k
 have ih0 := impl_FileAt.mono_l k
 unfold impl_FileAt.f
 repeat' first
  | (with_reducible exact ih0 _ _ _ _)
  | (with_reducible exact LeO.refl _)
  | (with_reducible exact LeO.none _)
  | (with_reducible refine LeO.ite ?_ ?_)
  | (with_reducible refine LeO.bind ?_ (fun _ => ?_))
  | exact ih0 _ _ _ _
  | exact LeO.none _
  | refine LeO.ite ?_ ?_
  | refine LeO.bind ?_ (fun _ => ?_)
set_option maxHeartbeats 8000000 in
set_option maxRecDepth 100000 in
theorem impl_FileAt.calls (k : Nat) (A0_0 : Option Addr) (c0_0 : Nat) (l0_0 : List (S45)) (a1 : ByteArray) (r1 : ByteArray) (r2 : Bool) (w : World) (hr0_0 : Kd.C k45 w A0_0 l0_0.length l0_0) (hc0_0 : l0_0.length ≤ c0_0) (h : impl_FileAt.f k l0_0 a1 = some (r1, r2)) :
 Calls Try.prog 18 #[.agg #[.slice A0_0 l0_0.length c0_0], .string a1] w fun e w' => e = .returned (.tuple #[.string r1, .bool r2]) ∧ Below w.heap.size w w' := by
 have hu30 := Try.underlying30
 have hu45 := Try.underlying45
 have HR0_0 := aM hr0_0
 have HC0_0 := aM hc0_0
 clear hr0_0 hc0_0
 have HB := aM (Below.refl w.heap.size w)
 have H : (impl_FileAt.l0 k a1 l0_0 (l0_0.length : Int) 0) = some (r1, r2) := h
 clear h
 have H' := aM H
 clear H
 go_enter Try.func18, Try.ntmps18
 go_wp2_with (first | ((with_reducible refine gate_dst (N := 2) rfl ?_); refine bxE 2 #[.slice A0_0 l0_0.length c0_0] 30 ?_; intro gb101 hg w3 hbox hb; have BK101 := aM (hbox); have GW101 := szG hg (uL HB); have GE101 := szG hg (uL HB); replace HB := aM (below_step (uL HB) hb); clear hb hbox hg; have hcz4_0 := czA BK101.out 0 (.slice A0_0 l0_0.length c0_0); have hfz4_0 := blk_frozen BK101.out 0))
 go_loopg [11] k (fun kq v11 w' => ∃ (x11_1 : Int), v11 = .int .i64 x11_1 ∧ Aside0 (impl_FileAt.l0 kq a1 l0_0 (l0_0.length : Int) x11_1 = some (r1, r2)) ∧ Aside0 (kq ≤ k) ∧ Aside0 (w'.heap[gb101]? = some (.cells #[(.slice A0_0 l0_0.length c0_0)] 30 (0, 0))) ∧ Aside0 (Below w.heap.size w w'))
 case atStart => exact ⟨(0), (by first | rfl | (simp; done) | (simp [*]; done)), H', ⟨Nat.le_refl _⟩, ⟨by exact nB BK101.out⟩, ⟨uL HB⟩⟩
 case round =>
  clear H'
  try clear c1; try clear p2; try clear hcz4_0; try clear hfz4_0
  obtain ⟨x11_1, rfl, HA, HK1, BK101, HB⟩ := hrel
  cases gk with
  | zero => exact absurd HA.out (by simp [impl_FileAt.l0])
  | succ k1 =>
   have H := HA.out
   clear HA
   simp only [impl_FileAt.l0] at H
   by_cases c5 : x11_1 < (l0_0.length : Int)
   ·rw [if_pos c5] at H
    have c5b0 : decide (x11_1 < (l0_0.length : Int)) = true := decide_eq_true c5
    clear c5
    by_cases c6 : 0 ≤ x11_1
    ·rw [if_pos c6] at H
     have c6b0 : decide (0 ≤ x11_1) = true := decide_eq_true c6
     clear c6
     by_cases c7 : x11_1 < (l0_0.length : Int)
     ·rw [if_pos c7] at H
      have c7b0 : decide (x11_1 < (l0_0.length : Int)) = true := decide_eq_true c7
      clear c7
      by_cases c8 : ((rd_T45 l0_0 x11_1).f0).toList = a1.toList
      ·rw [if_pos c8] at H
       have c8b0 : (((rd_T45 l0_0 x11_1).f0).toList == a1.toList) = true := beq_iff_eq.mpr c8
       have c8b1 : (((rd_T45 l0_0 x11_1).f0).toList != a1.toList) = false := bne_eq_false_iff_eq.mpr c8
       clear c8
       simp only [Option.some.injEq, Prod.mk.injEq] at H
       obtain ⟨rfl, rfl⟩ := H
       have p102 : 0 ≤ (x11_1 : Int) := of_decide_eq_true (by first | (with_reducible assumption) | assumption)
       have q102 : x11_1 < (l0_0.length : Int) := of_decide_eq_true (by first | (with_reducible assumption) | assumption)
       obtain ⟨ad102, e102, hx102_0, hx102_1, hx102_2⟩ := at_T45 HR0_0.out x11_1 p102 q102
       cases e102
       replace hx102_0 := hxB HB hx102_0; replace hx102_1 := hxB HB hx102_1; replace hx102_2 := hxB HB hx102_2; replace p102 := eq_true p102; replace q102 := eq_true q102
       go_wp2_with (first | ((with_reducible refine gate_dst (N := 7) rfl ?_); refine bxE 7 #[.string (⟨#[]⟩ : ByteArray), .string (⟨#[]⟩ : ByteArray), .int .i64 0] 45 ?_; intro gb103 hg w9 hbox hb; have BK103 := aM (hbox); have GW103 := szG hg (uL HB); have GE103 := szG hg (uL HB); have NB101_103 := neL hg BK101; have NB103_101 := neG hg BK101; replace BK101 := blkB BK101 hb; replace HB := aM (below_step (uL HB) hb); clear hb hbox hg; have hnb10 := NB103_101.out; have hnc10 := NB101_103.out; have hcz11_0 := czA BK103.out 0 (.string (⟨#[]⟩ : ByteArray)); have hcz11_1 := czA BK103.out 1 (.string (⟨#[]⟩ : ByteArray)); have hcz11_2 := czA BK103.out 2 (.int .i64 0); have hfz11_0 := blk_frozen BK103.out 0; have hfz11_1 := blk_frozen BK103.out 1; have hfz11_2 := blk_frozen BK103.out 2))
       go_ret2
       exact rX HB
      ·rw [if_neg c8] at H
       have c8b0 : (((rd_T45 l0_0 x11_1).f0).toList == a1.toList) = false := beq_eq_false_iff_ne.mpr c8
       have c8b1 : (((rd_T45 l0_0 x11_1).f0).toList != a1.toList) = true := bne_iff_ne.mpr c8
       have H' := aM H
       clear H
       have p102 : 0 ≤ (x11_1 : Int) := of_decide_eq_true (by first | (with_reducible assumption) | assumption)
       have q102 : x11_1 < (l0_0.length : Int) := of_decide_eq_true (by first | (with_reducible assumption) | assumption)
       obtain ⟨ad102, e102, hx102_0, hx102_1, hx102_2⟩ := at_T45 HR0_0.out x11_1 p102 q102
       cases e102
       replace hx102_0 := hxB HB hx102_0; replace hx102_1 := hxB HB hx102_1; replace hx102_2 := hxB HB hx102_2; replace p102 := eq_true p102; replace q102 := eq_true q102
       go_wp2_with (first | ((with_reducible refine gate_dst (N := 7) rfl ?_); refine bxE 7 #[.string (⟨#[]⟩ : ByteArray), .string (⟨#[]⟩ : ByteArray), .int .i64 0] 45 ?_; intro gb103 hg w12 hbox hb; have BK103 := aM (hbox); have GW103 := szG hg (uL HB); have GE103 := szG hg (uL HB); have NB101_103 := neL hg BK101; have NB103_101 := neG hg BK101; replace BK101 := blkB BK101 hb; replace HB := aM (below_step (uL HB) hb); clear hb hbox hg; have hnb13 := NB103_101.out; have hnc13 := NB101_103.out; have hcz14_0 := czA BK103.out 0 (.string (⟨#[]⟩ : ByteArray)); have hcz14_1 := czA BK103.out 1 (.string (⟨#[]⟩ : ByteArray)); have hcz14_2 := czA BK103.out 2 (.int .i64 0); have hfz14_0 := blk_frozen BK103.out 0; have hfz14_1 := blk_frozen BK103.out 1; have hfz14_2 := blk_frozen BK103.out 2))
       go_roundg k1
       case measure => have := HK1.out; omega
       case rel => exact ⟨(wrap64 (x11_1 + 1)), (by first | rfl | (simp; done) | (simp [*]; done)), H', ⟨by have := HK1.out; omega⟩, ⟨by refine nB ?_; refine blk_far ?_ NB101_103.out _; refine nB ?_; refine blk_far ?_ NB101_103.out _; refine nB ?_; refine blk_far ?_ NB101_103.out _; exact nB BK101.out⟩, ⟨uL HB⟩⟩
     ·rw [if_neg c7] at H
      exact absurd H (by simp)
    ·rw [if_neg c6] at H
     exact absurd H (by simp)
   ·rw [if_neg c5] at H
    have c5b0 : decide (x11_1 < (l0_0.length : Int)) = false := decide_eq_false c5
    clear c5
    simp only [Option.some.injEq, Prod.mk.injEq] at H
    obtain ⟨rfl, rfl⟩ := H
    go_wp2
    go_ret2
    exact rX HB

/-! ### laws_big: function 24 -/
def laws_big.f (l0 : List Int) : Option (Bool) := some (decide ((l0.length : Int) > 1048576))
set_option maxHeartbeats 8000000 in
set_option maxRecDepth 100000 in
theorem laws_big.calls (A0 : Option Addr) (c0 : Nat) (l0 : List Int) (r : Bool) (w : World) (hr0 : Kd.C (Kd.int .u8) w A0 l0.length l0) (hc0 : l0.length ≤ c0) (h : laws_big.f l0 = some r) :
 Calls Try.prog 24 #[.slice A0 l0.length c0] w fun e w' => e = .returned (.bool r) ∧ Drawn0 w w' := by
 have HR0 := aM hr0
 have HC0 := aM hc0
 clear hr0 hc0
 have H : (some (decide ((l0.length : Int) > 1048576))) = some r := h
 clear h
 obtain rfl := Option.some.inj H
 go_enter Try.func24, Try.ntmps24
 go_wp2
 go_ret
 exact ⟨by first | rfl | (simp; done) | (simp [*]; done), by repeat (first | exact Drawn0.refl _ | apply Drawn0.step)⟩

/-! ### laws_sameDisk: function 29 -/
def laws_sameDisk.l0 : Nat → Int → List (S45) → List (S45) → Option (Bool)
 | 0, _, _, _ => none
 | k + 1, x5, x105000, x106000 => if x5 < (x105000.length : Int) then (if 0 ≤ x5 then (if x5 < (x106000.length : Int) then (if (!((((rd_T45 x105000 x5).f0).toList) == (((rd_T45 x106000 x5).f0).toList)) || (!((((rd_T45 x105000 x5).f1).toList) == (((rd_T45 x106000 x5).f1).toList)) || (!(((rd_T45 x105000 x5).f2) == ((rd_T45 x106000 x5).f2))))) = true then (some false) else (laws_sameDisk.l0 k (wrap64 (x5 + 1)) x105000 x106000)) else (none)) else (none)) else (some true)
def laws_sameDisk.f (k : Nat) (l0_0 : List (S45)) (l1_0 : List (S45)) : Option (Bool) := if (l0_0.length : Int) = (l1_0.length : Int) then (laws_sameDisk.l0 k 0 l0_0 l1_0) else (some false)
theorem laws_sameDisk.mono_l : ∀ k, (∀ y0 y1 y2, LeO (laws_sameDisk.l0 k y0 y1 y2) (laws_sameDisk.l0 (k + 1) y0 y1 y2))
 | 0 => fun _ _ _ r h => by simp [laws_sameDisk.l0] at h
 | k + 1 => by
  have ih0 := laws_sameDisk.mono_l k
  ·intro y0 y1 y2
   unfold laws_sameDisk.l0
   repeat' first
   | (with_reducible exact ih0 _ _ _)
   | (with_reducible exact LeO.refl _)
   | (with_reducible exact LeO.none _)
   | (with_reducible refine LeO.ite ?_ ?_)
   | (with_reducible refine LeO.bind ?_ (fun _ => ?_))
   | exact ih0 _ _ _
   | exact LeO.none _
   | refine LeO.ite ?_ ?_
   | refine LeO.bind ?_ (fun _ => ?_)
theorem laws_sameDisk.mono : ∀ a0 a1 k, LeO (laws_sameDisk.f k a0 a1) (laws_sameDisk.f (k + 1) a0 a1) := by
 intro a0 a1 k
 have ih0 := laws_sameDisk.mono_l k
 unfold laws_sameDisk.f
 repeat' first
  | (with_reducible exact ih0 _ _ _)
  | (with_reducible exact LeO.refl _)
  | (with_reducible exact LeO.none _)
  | (with_reducible refine LeO.ite ?_ ?_)
  | (with_reducible refine LeO.bind ?_ (fun _ => ?_))
  | exact ih0 _ _ _
  | exact LeO.none _
  | refine LeO.ite ?_ ?_
  | refine LeO.bind ?_ (fun _ => ?_)
set_option maxHeartbeats 8000000 in
set_option maxRecDepth 100000 in
theorem laws_sameDisk.calls (k : Nat) (A0_0 : Option Addr) (c0_0 : Nat) (l0_0 : List (S45)) (A1_0 : Option Addr) (c1_0 : Nat) (l1_0 : List (S45)) (r : Bool) (w : World) (hr0_0 : Kd.C k45 w A0_0 l0_0.length l0_0) (hc0_0 : l0_0.length ≤ c0_0) (hr1_0 : Kd.C k45 w A1_0 l1_0.length l1_0) (hc1_0 : l1_0.length ≤ c1_0) (h : laws_sameDisk.f k l0_0 l1_0 = some r) :
 Calls Try.prog 29 #[.agg #[.slice A0_0 l0_0.length c0_0], .agg #[.slice A1_0 l1_0.length c1_0]] w fun e w' => e = .returned (.bool r) ∧ Below w.heap.size w w' := by
 have hu30 := Try.underlying30
 have hu45 := Try.underlying45
 have HR0_0 := aM hr0_0
 have HC0_0 := aM hc0_0
 clear hr0_0 hc0_0
 have HR1_0 := aM hr1_0
 have HC1_0 := aM hc1_0
 clear hr1_0 hc1_0
 have HB := aM (Below.refl w.heap.size w)
 have H : (if (l0_0.length : Int) = (l1_0.length : Int) then (laws_sameDisk.l0 k 0 l0_0 l1_0) else (some false)) = some r := h
 clear h
 by_cases c3 : (l0_0.length : Int) = (l1_0.length : Int)
 ·rw [if_pos c3] at H
  have c3b0 : ((l0_0.length : Int) == (l1_0.length : Int)) = true := beq_iff_eq.mpr c3
  have c3b1 : ((l0_0.length : Int) != (l1_0.length : Int)) = false := bne_eq_false_iff_eq.mpr c3
  have c3b2 : (l0_0.length == l1_0.length) = true := by first | simpa using c3 | (simp at c3 ⊢; omega)
  clear c3
  have H' := aM H
  clear H
  go_enter Try.func29, Try.ntmps29
  go_wp2_with (first | ((with_reducible refine gate_dst (N := 2) rfl ?_); refine bxE 2 #[.slice A0_0 l0_0.length c0_0] 30 ?_; intro gb104 hg w4 hbox hb; have BK104 := aM (hbox); have GW104 := szG hg (uL HB); have GE104 := szG hg (uL HB); replace HB := aM (below_step (uL HB) hb); clear hb hbox hg) | ((with_reducible refine gate_dst (N := 3) rfl ?_); refine bxE 3 #[.slice A1_0 l1_0.length c1_0] 30 ?_; intro gb105 hg w5 hbox hb; have BK105 := aM (hbox); have GW105 := szG hg (uL HB); have GE105 := szG hg (uL HB); have NB104_105 := neL hg BK104; have NB105_104 := neG hg BK104; replace BK104 := blkB BK104 hb; replace HB := aM (below_step (uL HB) hb); clear hb hbox hg; have hnb6 := NB104_105.out; have hnc6 := NB105_104.out; have hcz7_0 := czA BK104.out 0 (.slice A0_0 l0_0.length c0_0); have hfz7_0 := blk_frozen BK104.out 0; have hcz8_0 := czA BK105.out 0 (.slice A1_0 l1_0.length c1_0); have hfz8_0 := blk_frozen BK105.out 0))
  repeat (go_quiet (first | ((with_reducible refine gate_dst (N := 2) rfl ?_); refine bxE 2 #[.slice A0_0 l0_0.length c0_0] 30 ?_; intro gb104 hg w4 hbox hb; have BK104 := aM (hbox); have GW104 := szG hg (uL HB); have GE104 := szG hg (uL HB); replace HB := aM (below_step (uL HB) hb); clear hb hbox hg) | ((with_reducible refine gate_dst (N := 3) rfl ?_); refine bxE 3 #[.slice A1_0 l1_0.length c1_0] 30 ?_; intro gb105 hg w5 hbox hb; have BK105 := aM (hbox); have GW105 := szG hg (uL HB); have GE105 := szG hg (uL HB); have NB104_105 := neL hg BK104; have NB105_104 := neG hg BK104; replace BK104 := blkB BK104 hb; replace HB := aM (below_step (uL HB) hb); clear hb hbox hg; have hnb6 := NB104_105.out; have hnc6 := NB105_104.out; have hcz7_0 := czA BK104.out 0 (.slice A0_0 l0_0.length c0_0); have hfz7_0 := blk_frozen BK104.out 0; have hcz8_0 := czA BK105.out 0 (.slice A1_0 l1_0.length c1_0); have hfz8_0 := blk_frozen BK105.out 0)); try go_wp2_with (first | ((with_reducible refine gate_dst (N := 2) rfl ?_); refine bxE 2 #[.slice A0_0 l0_0.length c0_0] 30 ?_; intro gb104 hg w4 hbox hb; have BK104 := aM (hbox); have GW104 := szG hg (uL HB); have GE104 := szG hg (uL HB); replace HB := aM (below_step (uL HB) hb); clear hb hbox hg) | ((with_reducible refine gate_dst (N := 3) rfl ?_); refine bxE 3 #[.slice A1_0 l1_0.length c1_0] 30 ?_; intro gb105 hg w5 hbox hb; have BK105 := aM (hbox); have GW105 := szG hg (uL HB); have GE105 := szG hg (uL HB); have NB104_105 := neL hg BK104; have NB105_104 := neG hg BK104; replace BK104 := blkB BK104 hb; replace HB := aM (below_step (uL HB) hb); clear hb hbox hg; have hnb6 := NB104_105.out; have hnc6 := NB105_104.out; have hcz7_0 := czA BK104.out 0 (.slice A0_0 l0_0.length c0_0); have hfz7_0 := blk_frozen BK104.out 0; have hcz8_0 := czA BK105.out 0 (.slice A1_0 l1_0.length c1_0); have hfz8_0 := blk_frozen BK105.out 0)))
  go_loopg [5] k (fun kq v5 w' => ∃ (x5_1 : Int), v5 = .int .i64 x5_1 ∧ Aside0 (laws_sameDisk.l0 kq x5_1 l0_0 l1_0 = some r) ∧ Aside0 (kq ≤ k) ∧ Aside0 (w'.heap[gb104]? = some (.cells #[(.slice A0_0 l0_0.length c0_0)] 30 (0, 0))) ∧ Aside0 (w'.heap[gb105]? = some (.cells #[(.slice A1_0 l1_0.length c1_0)] 30 (0, 0))) ∧ Aside0 (Below w.heap.size w w'))
  case atStart => exact ⟨(0), (by first | rfl | (simp; done) | (simp [*]; done)), H', ⟨Nat.le_refl _⟩, ⟨by exact nB BK104.out⟩, ⟨by exact nB BK105.out⟩, ⟨uL HB⟩⟩
  case round =>
   clear H'
   try clear c1; try clear c2; try clear p2; try clear c3; try clear c3b0; try clear c3b1; try clear c3b2; try clear c6; try clear hcz7_0; try clear hcz8_0; try clear hfz7_0; try clear hfz8_0
   obtain ⟨x5_1, rfl, HA, HK1, BK104, BK105, HB⟩ := hrel
   cases gk with
   | zero => exact absurd HA.out (by simp [laws_sameDisk.l0])
   | succ k1 =>
    have H := HA.out
    clear HA
    simp only [laws_sameDisk.l0] at H
    by_cases c9 : x5_1 < (l0_0.length : Int)
    ·rw [if_pos c9] at H
     have c9b0 : decide (x5_1 < (l0_0.length : Int)) = true := decide_eq_true c9
     clear c9
     by_cases c10 : 0 ≤ x5_1
     ·rw [if_pos c10] at H
      have c10b0 : decide (0 ≤ x5_1) = true := decide_eq_true c10
      clear c10
      by_cases c11 : x5_1 < (l1_0.length : Int)
      ·rw [if_pos c11] at H
       have c11b0 : decide (x5_1 < (l1_0.length : Int)) = true := decide_eq_true c11
       clear c11
       by_cases c12 : (!((((rd_T45 l0_0 x5_1).f0).toList) == (((rd_T45 l1_0 x5_1).f0).toList)) || (!((((rd_T45 l0_0 x5_1).f1).toList) == (((rd_T45 l1_0 x5_1).f1).toList)) || (!(((rd_T45 l0_0 x5_1).f2) == ((rd_T45 l1_0 x5_1).f2))))) = true
       ·rw [if_pos c12] at H
        have c12b0 : (!((((rd_T45 l0_0 x5_1).f0).toList) == (((rd_T45 l1_0 x5_1).f0).toList)) || (!((((rd_T45 l0_0 x5_1).f1).toList) == (((rd_T45 l1_0 x5_1).f1).toList)) || (!(((rd_T45 l0_0 x5_1).f2) == ((rd_T45 l1_0 x5_1).f2))))) = true := c12
        clear c12
        obtain rfl := Option.some.inj H
        have hnb13 := NB104_105.out; have hnc13 := NB105_104.out
        have hcz14_0 := czA BK104.out 0 (.slice A0_0 l0_0.length c0_0)
        have hfz14_0 := blk_frozen BK104.out 0
        have p106 : 0 ≤ (x5_1 : Int) := of_decide_eq_true (by first | (with_reducible assumption) | assumption)
        have q106 : x5_1 < (l0_0.length : Int) := of_decide_eq_true (by first | (with_reducible assumption) | assumption)
        obtain ⟨ad106, e106, hx106_0, hx106_1, hx106_2⟩ := at_T45 HR0_0.out x5_1 p106 q106
        cases e106
        replace hx106_0 := hxB HB hx106_0; replace hx106_1 := hxB HB hx106_1; replace hx106_2 := hxB HB hx106_2; replace p106 := eq_true p106; replace q106 := eq_true q106
        have hcz15_0 := czA BK105.out 0 (.slice A1_0 l1_0.length c1_0)
        have hfz15_0 := blk_frozen BK105.out 0
        have p107 : 0 ≤ (x5_1 : Int) := of_decide_eq_true (by first | (with_reducible assumption) | assumption)
        have q107 : x5_1 < (l1_0.length : Int) := of_decide_eq_true (by first | (with_reducible assumption) | assumption)
        obtain ⟨ad107, e107, hx107_0, hx107_1, hx107_2⟩ := at_T45 HR1_0.out x5_1 p107 q107
        cases e107
        replace hx107_0 := hxB HB hx107_0; replace hx107_1 := hxB HB hx107_1; replace hx107_2 := hxB HB hx107_2; replace p107 := eq_true p107; replace q107 := eq_true q107
        go_wp2
        repeat (go_quiet (fail); try go_wp2)
        go_ret
        exact rX HB
       ·rw [if_neg c12] at H
        have c12b0 : (!((((rd_T45 l0_0 x5_1).f0).toList) == (((rd_T45 l1_0 x5_1).f0).toList)) || (!((((rd_T45 l0_0 x5_1).f1).toList) == (((rd_T45 l1_0 x5_1).f1).toList)) || (!(((rd_T45 l0_0 x5_1).f2) == ((rd_T45 l1_0 x5_1).f2))))) = false := by simpa using c12
        clear c12
        have H' := aM H
        clear H
        have hnb16 := NB104_105.out; have hnc16 := NB105_104.out
        have hcz17_0 := czA BK104.out 0 (.slice A0_0 l0_0.length c0_0)
        have hfz17_0 := blk_frozen BK104.out 0
        have p106 : 0 ≤ (x5_1 : Int) := of_decide_eq_true (by first | (with_reducible assumption) | assumption)
        have q106 : x5_1 < (l0_0.length : Int) := of_decide_eq_true (by first | (with_reducible assumption) | assumption)
        obtain ⟨ad106, e106, hx106_0, hx106_1, hx106_2⟩ := at_T45 HR0_0.out x5_1 p106 q106
        cases e106
        replace hx106_0 := hxB HB hx106_0; replace hx106_1 := hxB HB hx106_1; replace hx106_2 := hxB HB hx106_2; replace p106 := eq_true p106; replace q106 := eq_true q106
        have hcz18_0 := czA BK105.out 0 (.slice A1_0 l1_0.length c1_0)
        have hfz18_0 := blk_frozen BK105.out 0
        have p107 : 0 ≤ (x5_1 : Int) := of_decide_eq_true (by first | (with_reducible assumption) | assumption)
        have q107 : x5_1 < (l1_0.length : Int) := of_decide_eq_true (by first | (with_reducible assumption) | assumption)
        obtain ⟨ad107, e107, hx107_0, hx107_1, hx107_2⟩ := at_T45 HR1_0.out x5_1 p107 q107
        cases e107
        replace hx107_0 := hxB HB hx107_0; replace hx107_1 := hxB HB hx107_1; replace hx107_2 := hxB HB hx107_2; replace p107 := eq_true p107; replace q107 := eq_true q107
        go_wp2
        repeat (go_quiet (fail); try go_wp2)
        go_roundg k1
        case measure => have := HK1.out; omega
        case rel => exact ⟨(wrap64 (x5_1 + 1)), (by first | rfl | (simp; done) | (simp [*]; done)), H', ⟨by have := HK1.out; omega⟩, ⟨by exact nB BK104.out⟩, ⟨by exact nB BK105.out⟩, ⟨uL HB⟩⟩
      ·rw [if_neg c11] at H
       exact absurd H (by simp)
     ·rw [if_neg c10] at H
      exact absurd H (by simp)
    ·rw [if_neg c9] at H
     have c9b0 : decide (x5_1 < (l0_0.length : Int)) = false := decide_eq_false c9
     clear c9
     obtain rfl := Option.some.inj H
     have hnb19 := NB104_105.out; have hnc19 := NB105_104.out
     have hcz20_0 := czA BK104.out 0 (.slice A0_0 l0_0.length c0_0)
     have hfz20_0 := blk_frozen BK104.out 0
     go_wp2
     repeat (go_quiet (fail); try go_wp2)
     go_ret
     exact rX HB
 ·rw [if_neg c3] at H
  have c3b0 : ((l0_0.length : Int) == (l1_0.length : Int)) = false := beq_eq_false_iff_ne.mpr c3
  have c3b1 : ((l0_0.length : Int) != (l1_0.length : Int)) = true := bne_iff_ne.mpr c3
  have c3b2 : (l0_0.length == l1_0.length) = false := by first | simpa using c3 | (simp at c3 ⊢; omega)
  obtain rfl := Option.some.inj H
  go_enter Try.func29, Try.ntmps29
  go_wp2_with (first | ((with_reducible refine gate_dst (N := 2) rfl ?_); refine bxE 2 #[.slice A0_0 l0_0.length c0_0] 30 ?_; intro gb104 hg w21 hbox hb; have BK104 := aM (hbox); have GW104 := szG hg (uL HB); have GE104 := szG hg (uL HB); replace HB := aM (below_step (uL HB) hb); clear hb hbox hg) | ((with_reducible refine gate_dst (N := 3) rfl ?_); refine bxE 3 #[.slice A1_0 l1_0.length c1_0] 30 ?_; intro gb105 hg w22 hbox hb; have BK105 := aM (hbox); have GW105 := szG hg (uL HB); have GE105 := szG hg (uL HB); have NB104_105 := neL hg BK104; have NB105_104 := neG hg BK104; replace BK104 := blkB BK104 hb; replace HB := aM (below_step (uL HB) hb); clear hb hbox hg; have hnb23 := NB104_105.out; have hnc23 := NB105_104.out; have hcz24_0 := czA BK104.out 0 (.slice A0_0 l0_0.length c0_0); have hfz24_0 := blk_frozen BK104.out 0; have hcz25_0 := czA BK105.out 0 (.slice A1_0 l1_0.length c1_0); have hfz25_0 := blk_frozen BK105.out 0))
  repeat (go_quiet (first | ((with_reducible refine gate_dst (N := 2) rfl ?_); refine bxE 2 #[.slice A0_0 l0_0.length c0_0] 30 ?_; intro gb104 hg w21 hbox hb; have BK104 := aM (hbox); have GW104 := szG hg (uL HB); have GE104 := szG hg (uL HB); replace HB := aM (below_step (uL HB) hb); clear hb hbox hg) | ((with_reducible refine gate_dst (N := 3) rfl ?_); refine bxE 3 #[.slice A1_0 l1_0.length c1_0] 30 ?_; intro gb105 hg w22 hbox hb; have BK105 := aM (hbox); have GW105 := szG hg (uL HB); have GE105 := szG hg (uL HB); have NB104_105 := neL hg BK104; have NB105_104 := neG hg BK104; replace BK104 := blkB BK104 hb; replace HB := aM (below_step (uL HB) hb); clear hb hbox hg; have hnb23 := NB104_105.out; have hnc23 := NB105_104.out; have hcz24_0 := czA BK104.out 0 (.slice A0_0 l0_0.length c0_0); have hfz24_0 := blk_frozen BK104.out 0; have hcz25_0 := czA BK105.out 0 (.slice A1_0 l1_0.length c1_0); have hfz25_0 := blk_frozen BK105.out 0)); try go_wp2_with (first | ((with_reducible refine gate_dst (N := 2) rfl ?_); refine bxE 2 #[.slice A0_0 l0_0.length c0_0] 30 ?_; intro gb104 hg w21 hbox hb; have BK104 := aM (hbox); have GW104 := szG hg (uL HB); have GE104 := szG hg (uL HB); replace HB := aM (below_step (uL HB) hb); clear hb hbox hg) | ((with_reducible refine gate_dst (N := 3) rfl ?_); refine bxE 3 #[.slice A1_0 l1_0.length c1_0] 30 ?_; intro gb105 hg w22 hbox hb; have BK105 := aM (hbox); have GW105 := szG hg (uL HB); have GE105 := szG hg (uL HB); have NB104_105 := neL hg BK104; have NB105_104 := neG hg BK104; replace BK104 := blkB BK104 hb; replace HB := aM (below_step (uL HB) hb); clear hb hbox hg; have hnb23 := NB104_105.out; have hnc23 := NB105_104.out; have hcz24_0 := czA BK104.out 0 (.slice A0_0 l0_0.length c0_0); have hfz24_0 := blk_frozen BK104.out 0; have hcz25_0 := czA BK105.out 0 (.slice A1_0 l1_0.length c1_0); have hfz25_0 := blk_frozen BK105.out 0)))
  go_ret
  exact rX HB

/-! ### impl_inRange: function 94 -/
def impl_inRange.f (a0 : Int) (a1 : Int) (a2 : Int) : Option (Bool) := if a0 ≥ a1 then (some (decide (a0 ≤ a2))) else (some false)
set_option maxHeartbeats 8000000 in
set_option maxRecDepth 100000 in
theorem impl_inRange.calls (a0 : Int) (a1 : Int) (a2 : Int) (r : Bool) (w : World) (h : impl_inRange.f a0 a1 a2 = some r) :
 Calls Try.prog 94 #[.int .i64 a0, .int .i64 a1, .int .i64 a2] w fun e w' => e = .returned (.bool r) ∧ Drawn0 w w' := by
 have H : (if a0 ≥ a1 then (some (decide (a0 ≤ a2))) else (some false)) = some r := h
 clear h
 by_cases c4 : a0 ≥ a1
 ·rw [if_pos c4] at H
  have c4b0 : decide (a1 ≤ a0) = true := decide_eq_true c4
  clear c4
  obtain rfl := Option.some.inj H
  go_enter Try.func94, Try.ntmps94
  go_wp2
  go_ret
  exact ⟨by first | rfl | (simp; done) | (simp [*]; done), by repeat (first | exact Drawn0.refl _ | apply Drawn0.step)⟩
 ·rw [if_neg c4] at H
  have c4b0 : decide (a1 ≤ a0) = false := decide_eq_false c4
  clear c4
  obtain rfl := Option.some.inj H
  go_enter Try.func94, Try.ntmps94
  go_wp2
  go_ret
  exact ⟨by first | rfl | (simp; done) | (simp [*]; done), by repeat (first | exact Drawn0.refl _ | apply Drawn0.step)⟩

/-! ### impl_fileOk: function 75 -/
def impl_fileOk.f (a0_0 : ByteArray) (a0_1 : ByteArray) (a0_2 : Int) : Option (Bool) := (impl_inRange.f (a0_0.size : Int) 1 8).bind fun t109 => (if t109 = true then (if (a0_1.size : Int) ≤ 20000 then ((impl_inRange.f a0_2 0 (a0_1.size : Int)).bind fun t110 => (some t110)) else (some false)) else (some false))
set_option maxHeartbeats 8000000 in
set_option maxRecDepth 100000 in
theorem impl_fileOk.calls (a0_0 : ByteArray) (a0_1 : ByteArray) (a0_2 : Int) (r : Bool) (w : World) (h : impl_fileOk.f a0_0 a0_1 a0_2 = some r) :
 Calls Try.prog 75 #[.agg #[.string a0_0, .string a0_1, .int .i64 a0_2]] w fun e w' => e = .returned (.bool r) ∧ Below w.heap.size w w' := by
 have hu45 := Try.underlying45
 have HB := aM (Below.refl w.heap.size w)
 have H : ((impl_inRange.f (a0_0.size : Int) 1 8).bind fun t109 => (if t109 = true then (if (a0_1.size : Int) ≤ 20000 then ((impl_inRange.f a0_2 0 (a0_1.size : Int)).bind fun t110 => (some t110)) else (some false)) else (some false))) = some r := h
 clear h
 replace H := Option.bind_eq_some_iff.mp H
 obtain ⟨t109, A20, H⟩ := H
 try dsimp only at H
 have A2 := aM A20
 clear A20
 refine Classical.byCases (p := t109 = true) (fun c3 => ?L1p) (fun c3 => ?L1n)
 case' L1p =>
  subst c3
  rw [if_pos rfl] at H
  refine Classical.byCases (p := (a0_1.size : Int) ≤ 20000) (fun c4 => ?L2p) (fun c4 => ?L2n)
  case' L2p =>
   rw [if_pos c4] at H
   have c4b0 : decide ((a0_1.size : Int) ≤ 20000) = true := decide_eq_true c4
   have c4b1 : decide (a0_1.size ≤ 20000) = true := decide_eq_true (by omega)
   clear c4
   replace H := Option.bind_eq_some_iff.mp H
   obtain ⟨t110, A50, H⟩ := H
   replace H : (some t110) = some r := H
   have A5 := aM A50
   clear A50
   obtain rfl := Option.some.inj H
   go_enter Try.func75, Try.ntmps75
   go_wp2_with (first | ((with_reducible refine gate_dst (N := 1) rfl ?_); (try (refine gate_guard (by rfl) ?_; dsimp only)); refine bxE 1 #[.string a0_0, .string a0_1, .int .i64 a0_2] 45 ?_; intro gb108 hg w6 hbox hb; have BK108 := aM (hbox); have GW108 := szG hg (uL HB); have GE108 := szG hg (uL HB); replace HB := aM (below_step (uL HB) hb); clear hb hbox hg; have hcz7_0 := czA BK108.out 0 (.string a0_0); have hcz7_1 := czA BK108.out 1 (.string a0_1); have hcz7_2 := czA BK108.out 2 (.int .i64 a0_2); have hfz7_0 := blk_frozen BK108.out 0; have hfz7_1 := blk_frozen BK108.out 1; have hfz7_2 := blk_frozen BK108.out 2) | ((with_reducible refine gate_callee (f := 94) rfl ?_); refine gL (some 6) Try.func94 #[.int .i64 (a0_0.size : Int), .int .i64 1, .int .i64 8] ?_; (with_reducible refine (impl_inRange.calls (a0_0.size : Int) 1 8 true _ A2.out).mono ?_); rintro e w' ⟨rfl, ⟨nd, rfl⟩⟩; refine ⟨_, rfl, ?_⟩) | (go_at_call 94; (with_reducible refine (impl_inRange.calls a0_2 0 (a0_1.size : Int) t110 _ A5.out).mono ?_); rintro e w' ⟨rfl, ⟨nd, rfl⟩⟩))
   go_ret
   exact rX HB
  case' L2n =>
   rw [if_neg c4] at H
   have c4b0 : decide ((a0_1.size : Int) ≤ 20000) = false := decide_eq_false c4
   have c4b1 : decide (a0_1.size ≤ 20000) = false := decide_eq_false (by omega)
   clear c4
   obtain rfl := Option.some.inj H
 case' L1n =>
  replace c3 := Bool.eq_false_iff.mpr c3
  subst c3
  have H1 : (some false) = some r := by rw [if_neg (show ¬ (false = true) by decide)] at H; exact H
  clear H; have H := H1; clear H1
  obtain rfl := Option.some.inj H
 case L1p | L1n =>
  go_enter Try.func75, Try.ntmps75
  go_wp2_with (first | ((with_reducible refine gate_dst (N := 1) rfl ?_); (try (refine gate_guard (by rfl) ?_; dsimp only)); refine bxE 1 #[.string a0_0, .string a0_1, .int .i64 a0_2] 45 ?_; intro gb108 hg w8 hbox hb; have BK108 := aM (hbox); have GW108 := szG hg (uL HB); have GE108 := szG hg (uL HB); replace HB := aM (below_step (uL HB) hb); clear hb hbox hg; have hcz9_0 := czA BK108.out 0 (.string a0_0); have hcz9_1 := czA BK108.out 1 (.string a0_1); have hcz9_2 := czA BK108.out 2 (.int .i64 a0_2); have hfz9_0 := blk_frozen BK108.out 0; have hfz9_1 := blk_frozen BK108.out 1; have hfz9_2 := blk_frozen BK108.out 2) | ((with_reducible refine gate_callee (f := 94) rfl ?_); refine gL (some 6) Try.func94 #[.int .i64 (a0_0.size : Int), .int .i64 1, .int .i64 8] ?_; (with_reducible refine (impl_inRange.calls (a0_0.size : Int) 1 8 _ _ A2.out).mono ?_); rintro e w' ⟨rfl, ⟨nd, rfl⟩⟩; refine ⟨_, rfl, ?_⟩))
  go_ret
  exact rX HB

end Go.Proofs.Ytidfhfaekdahpaa.QFnActs
