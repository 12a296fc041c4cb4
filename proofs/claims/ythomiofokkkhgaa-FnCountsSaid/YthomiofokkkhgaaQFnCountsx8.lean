-- Own work (wip/turnprint.py over the kit's print).
import Derived.Test.YthomiofokkkhgaaQFnCountsx0
import Derived.Test.YthomiofokkkhgaaQFnCountsx5
import Derived.Test.YthomiofokkkhgaaQFnCountsx6
import Derived.Test.YthomiofokkkhgaaQFnCountsx7
namespace Go.Proofs.Ythomiofokkkhgaa.QFnCounts
open Go.RowKit Go.Proofs.YthomiofokkkhgaaW.PrintWords Go.Proofs.YthomiofokkkhgaaW.PrintLast Go.Proofs.YthomiofokkkhgaaW.PrintMore
attribute [local go_sem] max2_int min2_int max_two min_two max_three min_three max_four min_four   -- for this text's walks alone
set_option linter.unusedVariables false
set_option linter.unusedSimpArgs false

/-! ### impl_nextIn: function 32 -/
mutual
def impl_nextIn.l0 : Nat → Int → Int → List Int → Int → Int → List Int → List Int → List Int → List Int → List Int → Option (Int × Bool)
 | 0, _, _, _, _, _, _, _, _, _, _ => none
 | k + 1, x1, x6, x17, x18, x19, x341000, x341001, x341002, x341003, x341004 => if x19 < x18 then (if 0 ≤ x19 then (if x19 < (x17.length : Int) then (impl_nextIn.l1 k x1 x6 (rd x17 x19) x17 x18 x19 x341000 (x341000.length : Int) 0 x341000 x341001 x341002 x341003 x341004) else (none)) else (none)) else (some (0, false))
def impl_nextIn.l1 : Nat → Int → Int → Int → List Int → Int → Int → List Int → Int → Int → List Int → List Int → List Int → List Int → List Int → Option (Int × Bool)
 | 0, _, _, _, _, _, _, _, _, _, _, _, _, _, _ => none
 | k + 1, x1, x6, x8, x17, x18, x19, x24, x25, x26, x341000, x341001, x341002, x341003, x341004 => if x26 < x25 then (if 0 ≤ x26 then (if x26 < (x24.length : Int) then (if (wrap64 ((wrap64 (x6 + (wrap64 (x8 * 60)))) + (rd x24 x26))) ≥ x1 then (some (wrap64 ((wrap64 (x6 + (wrap64 (x8 * 60)))) + (rd x24 x26)), true)) else (impl_nextIn.l1 k x1 x6 x8 x17 x18 x19 x24 x25 (wrap64 (x26 + 1)) x341000 x341001 x341002 x341003 x341004)) else (none)) else (none)) else (impl_nextIn.l0 k x1 x6 x17 x18 (wrap64 (x19 + 1)) x341000 x341001 x341002 x341003 x341004)
end
def impl_nextIn.f (k : Nat) (l0_0 : List Int) (l0_1 : List Int) (l0_2 : List Int) (l0_3 : List Int) (l0_4 : List Int) (a1 : Int) : Option (Int × Bool) := impl_nextIn.l0 k a1 (wrap64 (a1 - (Int.tmod a1 1440))) l0_1 (l0_1.length : Int) 0 l0_0 l0_1 l0_2 l0_3 l0_4
theorem impl_nextIn.mono_l : ∀ k, (∀ y0 y1 y2 y3 y4 y5 y6 y7 y8 y9, LeO (impl_nextIn.l0 k y0 y1 y2 y3 y4 y5 y6 y7 y8 y9) (impl_nextIn.l0 (k + 1) y0 y1 y2 y3 y4 y5 y6 y7 y8 y9)) ∧ (∀ y0 y1 y2 y3 y4 y5 y6 y7 y8 y9 y10 y11 y12 y13, LeO (impl_nextIn.l1 k y0 y1 y2 y3 y4 y5 y6 y7 y8 y9 y10 y11 y12 y13) (impl_nextIn.l1 (k + 1) y0 y1 y2 y3 y4 y5 y6 y7 y8 y9 y10 y11 y12 y13))
 | 0 => ⟨fun _ _ _ _ _ _ _ _ _ _ r h => by simp [impl_nextIn.l0] at h, fun _ _ _ _ _ _ _ _ _ _ _ _ _ _ r h => by simp [impl_nextIn.l1] at h⟩
 | k + 1 => by
  obtain ⟨ih0, ih1⟩ := impl_nextIn.mono_l k
  refine ⟨?_, ?_⟩
  ·intro y0 y1 y2 y3 y4 y5 y6 y7 y8 y9
   unfold impl_nextIn.l0
   repeat' first
   | (with_reducible exact ih0 _ _ _ _ _ _ _ _ _ _)
   | (with_reducible exact ih1 _ _ _ _ _ _ _ _ _ _ _ _ _ _)
   | (with_reducible exact LeO.refl _)
   | (with_reducible exact LeO.none _)
   | (with_reducible refine LeO.ite ?_ ?_)
   | (with_reducible refine LeO.bind ?_ (fun _ => ?_))
   | exact ih0 _ _ _ _ _ _ _ _ _ _
   | exact ih1 _ _ _ _ _ _ _ _ _ _ _ _ _ _
   | exact LeO.none _
   | refine LeO.ite ?_ ?_
   | refine LeO.bind ?_ (fun _ => ?_)
  ·intro y0 y1 y2 y3 y4 y5 y6 y7 y8 y9 y10 y11 y12 y13
   unfold impl_nextIn.l1
   repeat' first
   | (with_reducible exact ih0 _ _ _ _ _ _ _ _ _ _)
   | (with_reducible exact ih1 _ _ _ _ _ _ _ _ _ _ _ _ _ _)
   | (with_reducible exact LeO.refl _)
   | (with_reducible exact LeO.none _)
   | (with_reducible refine LeO.ite ?_ ?_)
   | (with_reducible refine LeO.bind ?_ (fun _ => ?_))
   | exact ih0 _ _ _ _ _ _ _ _ _ _
   | exact ih1 _ _ _ _ _ _ _ _ _ _ _ _ _ _
   | exact LeO.none _
   | refine LeO.ite ?_ ?_
   | refine LeO.bind ?_ (fun _ => ?_)
theorem impl_nextIn.mono : ∀ a0 a1 a2 a3 a4 a5 k, LeO (impl_nextIn.f k a0 a1 a2 a3 a4 a5) (impl_nextIn.f (k + 1) a0 a1 a2 a3 a4 a5) := by
 intro a0 a1 a2 a3 a4 a5 k
 obtain ⟨ih0, ih1⟩ := impl_nextIn.mono_l k
 unfold impl_nextIn.f
 repeat' first
  | (with_reducible exact ih0 _ _ _ _ _ _ _ _ _ _)
  | (with_reducible exact ih1 _ _ _ _ _ _ _ _ _ _ _ _ _ _)
  | (with_reducible exact LeO.refl _)
  | (with_reducible exact LeO.none _)
  | (with_reducible refine LeO.ite ?_ ?_)
  | (with_reducible refine LeO.bind ?_ (fun _ => ?_))
  | exact ih0 _ _ _ _ _ _ _ _ _ _
  | exact ih1 _ _ _ _ _ _ _ _ _ _ _ _ _ _
  | exact LeO.none _
  | refine LeO.ite ?_ ?_
  | refine LeO.bind ?_ (fun _ => ?_)
set_option maxHeartbeats 8000000 in
set_option maxRecDepth 100000 in
theorem impl_nextIn.calls (k : Nat) (A0_0 : Option Addr) (c0_0 : Nat) (l0_0 : List Int) (A0_1 : Option Addr) (c0_1 : Nat) (l0_1 : List Int) (A0_2 : Option Addr) (c0_2 : Nat) (l0_2 : List Int) (A0_3 : Option Addr) (c0_3 : Nat) (l0_3 : List Int) (A0_4 : Option Addr) (c0_4 : Nat) (l0_4 : List Int) (a1 : Int) (r1 : Int) (r2 : Bool) (w : World) (hr0_0 : Kd.C (Kd.int .i64) w A0_0 l0_0.length l0_0) (hc0_0 : l0_0.length ≤ c0_0) (hr0_1 : Kd.C (Kd.int .i64) w A0_1 l0_1.length l0_1) (hc0_1 : l0_1.length ≤ c0_1) (hr0_2 : Kd.C (Kd.int .i64) w A0_2 l0_2.length l0_2) (hc0_2 : l0_2.length ≤ c0_2) (hr0_3 : Kd.C (Kd.int .i64) w A0_3 l0_3.length l0_3) (hc0_3 : l0_3.length ≤ c0_3) (hr0_4 : Kd.C (Kd.int .i64) w A0_4 l0_4.length l0_4) (hc0_4 : l0_4.length ≤ c0_4) (h : impl_nextIn.f k l0_0 l0_1 l0_2 l0_3 l0_4 a1 = some (r1, r2)) :
 Calls Try.prog 32 #[.agg #[.slice A0_0 l0_0.length c0_0, .slice A0_1 l0_1.length c0_1, .slice A0_2 l0_2.length c0_2, .slice A0_3 l0_3.length c0_3, .slice A0_4 l0_4.length c0_4], .int .i64 a1] w fun e w' => e = .returned (.tuple #[.int .i64 r1, .bool r2]) ∧ Below w.heap.size w w' := by
 have hu26 := Try.underlying26
 have HR0_0 := aM hr0_0
 have HC0_0 := aM hc0_0
 clear hr0_0 hc0_0
 have HR0_1 := aM hr0_1
 have HC0_1 := aM hc0_1
 clear hr0_1 hc0_1
 have HR0_2 := aM hr0_2
 have HC0_2 := aM hc0_2
 clear hr0_2 hc0_2
 have HR0_3 := aM hr0_3
 have HC0_3 := aM hc0_3
 clear hr0_3 hc0_3
 have HR0_4 := aM hr0_4
 have HC0_4 := aM hc0_4
 clear hr0_4 hc0_4
 have HB := aM (Below.refl w.heap.size w)
 have H : (impl_nextIn.l0 k a1 (wrap64 (a1 - (Int.tmod a1 1440))) l0_1 (l0_1.length : Int) 0 l0_0 l0_1 l0_2 l0_3 l0_4) = some (r1, r2) := h
 clear h
 have H' := aM H
 clear H
 go_enter Try.func32, Try.ntmps32
 go_wp2_with (first | ((with_reducible refine gate_dst (N := 2) rfl ?_); refine bxE 2 #[.slice A0_0 l0_0.length c0_0, .slice A0_1 l0_1.length c0_1, .slice A0_2 l0_2.length c0_2, .slice A0_3 l0_3.length c0_3, .slice A0_4 l0_4.length c0_4] 26 ?_; intro gb340 hg w3 hbox hb; have BK340 := aM (hbox); have GW340 := szG hg (uL HB); have GE340 := szG hg (uL HB); replace HB := aM (below_step (uL HB) hb); clear hb hbox hg; have hcz4_0 := czA BK340.out 0 (.slice A0_0 l0_0.length c0_0); have hcz4_1 := czA BK340.out 1 (.slice A0_1 l0_1.length c0_1); have hcz4_2 := czA BK340.out 2 (.slice A0_2 l0_2.length c0_2); have hcz4_3 := czA BK340.out 3 (.slice A0_3 l0_3.length c0_3); have hcz4_4 := czA BK340.out 4 (.slice A0_4 l0_4.length c0_4); have hfz4_0 := blk_frozen BK340.out 0; have hfz4_1 := blk_frozen BK340.out 1; have hfz4_2 := blk_frozen BK340.out 2; have hfz4_3 := blk_frozen BK340.out 3; have hfz4_4 := blk_frozen BK340.out 4))
 go_loopg [19] k (fun kq v19 w' => ∃ (x19_1 : Int), v19 = .int .i64 x19_1 ∧ Aside0 (impl_nextIn.l0 kq a1 (wrap64 (a1 - (Int.tmod a1 1440))) l0_1 (l0_1.length : Int) x19_1 l0_0 l0_1 l0_2 l0_3 l0_4 = some (r1, r2)) ∧ Aside0 (kq ≤ k) ∧ Aside0 (w'.heap[gb340]? = some (.cells #[(.slice A0_0 l0_0.length c0_0), (.slice A0_1 l0_1.length c0_1), (.slice A0_2 l0_2.length c0_2), (.slice A0_3 l0_3.length c0_3), (.slice A0_4 l0_4.length c0_4)] 26 (0, 0))) ∧ Aside0 (Below w.heap.size w w'))
 case atStart => exact ⟨(0), (by first | rfl | (simp; done) | (simp [*]; done)), H', ⟨Nat.le_refl _⟩, ⟨by exact nB BK340.out⟩, ⟨uL HB⟩⟩
 case round =>
  clear H'
  try clear p2; try clear c3; try clear hcz4_0; try clear hcz4_1; try clear hcz4_2; try clear hcz4_3; try clear hcz4_4; try clear hfz4_0; try clear hfz4_1; try clear hfz4_2; try clear hfz4_3; try clear hfz4_4
  obtain ⟨x19_1, rfl, HA, HK1, BK340, HB⟩ := hrel
  cases gk with
  | zero => exact absurd HA.out (by simp [impl_nextIn.l0])
  | succ k1 =>
   have H := HA.out
   clear HA
   simp only [impl_nextIn.l0] at H
   by_cases c5 : x19_1 < (l0_1.length : Int)
   ·rw [if_pos c5] at H
    have c5b0 : decide (x19_1 < (l0_1.length : Int)) = true := decide_eq_true c5
    clear c5
    by_cases c6 : 0 ≤ x19_1
    ·rw [if_pos c6] at H
     have c6b0 : decide (0 ≤ x19_1) = true := decide_eq_true c6
     clear c6
     by_cases c7 : x19_1 < (l0_1.length : Int)
     ·rw [if_pos c7] at H
      have c7b0 : decide (x19_1 < (l0_1.length : Int)) = true := decide_eq_true c7
      clear c7
      have H' := aM H
      clear H
      have p341 : 0 ≤ (x19_1 : Int) := of_decide_eq_true (by first | (with_reducible assumption) | assumption)
      have q341 : x19_1 < (l0_1.length : Int) := of_decide_eq_true (by first | (with_reducible assumption) | assumption)
      obtain ⟨ad341, e341, hx341_0⟩ := Kd.at_int HR0_1.out x19_1 p341 q341
      cases e341
      replace hx341_0 := hxB HB hx341_0; replace p341 := eq_true p341; replace q341 := eq_true q341
      have hcz8_0 := czA BK340.out 0 (.slice A0_0 l0_0.length c0_0)
      have hcz8_1 := czA BK340.out 1 (.slice (some ad341) l0_1.length c0_1)
      have hcz8_2 := czA BK340.out 2 (.slice A0_2 l0_2.length c0_2)
      have hcz8_3 := czA BK340.out 3 (.slice A0_3 l0_3.length c0_3)
      have hcz8_4 := czA BK340.out 4 (.slice A0_4 l0_4.length c0_4)
      have hfz8_0 := blk_frozen BK340.out 0; have hfz8_1 := blk_frozen BK340.out 1; have hfz8_2 := blk_frozen BK340.out 2; have hfz8_3 := blk_frozen BK340.out 3; have hfz8_4 := blk_frozen BK340.out 4
      go_wp2
      go_loopg [26] k1 (fun kq v26 w' => ∃ (x26_2 : Int), v26 = .int .i64 x26_2 ∧ Aside0 (impl_nextIn.l1 kq a1 (wrap64 (a1 - (Int.tmod a1 1440))) (rd l0_1 x19_1) l0_1 (l0_1.length : Int) x19_1 l0_0 (l0_0.length : Int) x26_2 l0_0 l0_1 l0_2 l0_3 l0_4 = some (r1, r2)) ∧ Aside0 (kq ≤ k1) ∧ Aside0 (w'.heap[gb340]? = some (.cells #[(.slice A0_0 l0_0.length c0_0), (.slice (some ad341) l0_1.length c0_1), (.slice A0_2 l0_2.length c0_2), (.slice A0_3 l0_3.length c0_3), (.slice A0_4 l0_4.length c0_4)] 26 (0, 0))) ∧ Aside0 (Below w.heap.size w w'))
      case atStart => exact ⟨(0), (by first | rfl | (simp; done) | (simp [*]; done)), H', ⟨Nat.le_refl _⟩, ⟨by exact nB BK340.out⟩, ⟨uL HB⟩⟩
      case round =>
       clear H'
       try clear p2; try clear c3; try clear p3; try clear q3; try clear hx3; try clear c5; try clear c5b0; try clear c6; try clear c6b0; try clear p6; try clear c7; try clear c7b0; try clear hcz4_0; try clear hcz4_1; try clear hcz4_2; try clear hcz4_3; try clear hcz4_4; try clear hcz8_0; try clear hcz8_1; try clear hcz8_2; try clear hcz8_3; try clear hcz8_4; try clear hfz4_0; try clear hfz4_1; try clear hfz4_2; try clear hfz4_3; try clear hfz4_4; try clear hfz8_0; try clear hfz8_1; try clear hfz8_2; try clear hfz8_3; try clear hfz8_4; try clear hx341_0; try clear p2; try clear p341; try clear q341
       obtain ⟨x26_2, rfl, HA, HK2, BK340, HB⟩ := hrel
       cases gk with
       | zero => exact absurd HA.out (by simp [impl_nextIn.l1])
       | succ k2 =>
        have H := HA.out
        clear HA
        simp only [impl_nextIn.l1] at H
        by_cases c9 : x26_2 < (l0_0.length : Int)
        ·rw [if_pos c9] at H
         have c9b0 : decide (x26_2 < (l0_0.length : Int)) = true := decide_eq_true c9
         clear c9
         by_cases c10 : 0 ≤ x26_2
         ·rw [if_pos c10] at H
          have c10b0 : decide (0 ≤ x26_2) = true := decide_eq_true c10
          clear c10
          by_cases c11 : x26_2 < (l0_0.length : Int)
          ·rw [if_pos c11] at H
           have c11b0 : decide (x26_2 < (l0_0.length : Int)) = true := decide_eq_true c11
           clear c11
           by_cases c12 : (wrap64 ((wrap64 ((wrap64 (a1 - (Int.tmod a1 1440))) + (wrap64 ((rd l0_1 x19_1) * 60)))) + (rd l0_0 x26_2))) ≥ a1
           ·rw [if_pos c12] at H
            have c12b0 : decide (a1 ≤ (wrap64 ((wrap64 ((wrap64 (a1 - (Int.tmod a1 1440))) + (wrap64 ((rd l0_1 x19_1) * 60)))) + (rd l0_0 x26_2)))) = true := decide_eq_true c12
            clear c12
            simp only [Option.some.injEq, Prod.mk.injEq] at H
            obtain ⟨rfl, rfl⟩ := H
            have p342 : 0 ≤ (x26_2 : Int) := of_decide_eq_true (by first | (with_reducible assumption) | assumption)
            have q342 : x26_2 < (l0_0.length : Int) := of_decide_eq_true (by first | (with_reducible assumption) | assumption)
            obtain ⟨ad342, e342, hx342_0⟩ := Kd.at_int HR0_0.out x26_2 p342 q342
            cases e342
            replace hx342_0 := hxB HB hx342_0; replace p342 := eq_true p342; replace q342 := eq_true q342
            go_wp2
            go_ret2
            exact rX HB
           ·rw [if_neg c12] at H
            have c12b0 : decide (a1 ≤ (wrap64 ((wrap64 ((wrap64 (a1 - (Int.tmod a1 1440))) + (wrap64 ((rd l0_1 x19_1) * 60)))) + (rd l0_0 x26_2)))) = false := decide_eq_false c12
            clear c12
            have H' := aM H
            clear H
            have p342 : 0 ≤ (x26_2 : Int) := of_decide_eq_true (by first | (with_reducible assumption) | assumption)
            have q342 : x26_2 < (l0_0.length : Int) := of_decide_eq_true (by first | (with_reducible assumption) | assumption)
            obtain ⟨ad342, e342, hx342_0⟩ := Kd.at_int HR0_0.out x26_2 p342 q342
            cases e342
            replace hx342_0 := hxB HB hx342_0; replace p342 := eq_true p342; replace q342 := eq_true q342
            go_wp2
            go_roundg k2
            case measure => have := HK1.out; have := HK2.out; omega
            case rel => exact ⟨(wrap64 (x26_2 + 1)), (by first | rfl | (simp; done) | (simp [*]; done)), H', ⟨by have := HK1.out; have := HK2.out; omega⟩, ⟨by exact nB BK340.out⟩, ⟨uL HB⟩⟩
          ·rw [if_neg c11] at H
           exact absurd H (by simp)
         ·rw [if_neg c10] at H
          exact absurd H (by simp)
        ·rw [if_neg c9] at H
         have c9b0 : decide (x26_2 < (l0_0.length : Int)) = false := decide_eq_false c9
         clear c9
         have H' := aM H
         clear H
         go_wp2
         go_roundg k2
         case measure => have := HK1.out; have := HK2.out; omega
         case rel => exact ⟨(wrap64 (x19_1 + 1)), (by first | rfl | (simp; done) | (simp [*]; done)), H', ⟨by have := HK1.out; have := HK2.out; omega⟩, ⟨by exact nB BK340.out⟩, ⟨uL HB⟩⟩
     ·rw [if_neg c7] at H
      exact absurd H (by simp)
    ·rw [if_neg c6] at H
     exact absurd H (by simp)
   ·rw [if_neg c5] at H
    have c5b0 : decide (x19_1 < (l0_1.length : Int)) = false := decide_eq_false c5
    clear c5
    simp only [Option.some.injEq, Prod.mk.injEq] at H
    obtain ⟨rfl, rfl⟩ := H
    go_wp2
    go_ret2
    exact rX HB

/-! ### impl_nextFire: function 19 -/
mutual
def impl_nextFire.l0 : Nat → Int → Int → Int → List Int → List Int → List Int → List Int → List Int → Option (Int × Bool)
 | 0, _, _, _, _, _, _, _, _ => none
 | k + 1, x1, x2, x8, x344000, x344001, x344002, x344003, x344004 => if x8 ≤ (mn x2 3000) then ((impl_isMinute.f x1).bind fun t344 => (impl_nextFire.j1 k x1 x2 x8 t344 x344000 x344001 x344002 x344003 x344004)) else (impl_nextFire.j1 k x1 x2 x8 false x344000 x344001 x344002 x344003 x344004)
def impl_nextFire.j1 : Nat → Int → Int → Int → Bool → List Int → List Int → List Int → List Int → List Int → Option (Int × Bool)
 | 0, _, _, _, _, _, _, _, _, _ => none
 | k + 1, x1, x2, x8, x20, x344000, x344001, x344002, x344003, x344004 => if x20 = true then ((impl_CivilOf.f k x1).bind fun bt345 => ((impl_dayFires.f k x344000 x344001 x344002 x344003 x344004 x1 bt345.1 bt345.2.1 bt345.2.2.1 bt345.2.2.2.1 bt345.2.2.2.2.1).bind fun t352 => (if t352 = true then ((impl_nextIn.f k x344000 x344001 x344002 x344003 x344004 x1).bind fun bt353 => (if bt353.2 = true then (some (bt353.1, true)) else (impl_nextFire.l0 k (wrap64 (x1 + (wrap64 (1440 - (Int.tmod x1 1440))))) x2 (wrap64 (x8 + 1)) x344000 x344001 x344002 x344003 x344004))) else (impl_nextFire.l0 k (wrap64 (x1 + (wrap64 (1440 - (Int.tmod x1 1440))))) x2 (wrap64 (x8 + 1)) x344000 x344001 x344002 x344003 x344004)))) else (some (0, false))
end
def impl_nextFire.f (k : Nat) (l0_0 : List Int) (l0_1 : List Int) (l0_2 : List Int) (l0_3 : List Int) (l0_4 : List Int) (a1 : Int) (a2 : Int) : Option (Int × Bool) := impl_nextFire.l0 k a1 a2 0 l0_0 l0_1 l0_2 l0_3 l0_4
theorem impl_nextFire.mono_l : ∀ k, (∀ y0 y1 y2 y3 y4 y5 y6 y7, LeO (impl_nextFire.l0 k y0 y1 y2 y3 y4 y5 y6 y7) (impl_nextFire.l0 (k + 1) y0 y1 y2 y3 y4 y5 y6 y7)) ∧ (∀ y0 y1 y2 y3 y4 y5 y6 y7 y8, LeO (impl_nextFire.j1 k y0 y1 y2 y3 y4 y5 y6 y7 y8) (impl_nextFire.j1 (k + 1) y0 y1 y2 y3 y4 y5 y6 y7 y8))
 | 0 => ⟨fun _ _ _ _ _ _ _ _ r h => by simp [impl_nextFire.l0] at h, fun _ _ _ _ _ _ _ _ _ r h => by simp [impl_nextFire.j1] at h⟩
 | k + 1 => by
  obtain ⟨ih0, ih1⟩ := impl_nextFire.mono_l k
  refine ⟨?_, ?_⟩
  ·intro y0 y1 y2 y3 y4 y5 y6 y7
   unfold impl_nextFire.l0
   repeat' first
   | (with_reducible exact ih0 _ _ _ _ _ _ _ _)
   | (with_reducible exact ih1 _ _ _ _ _ _ _ _ _)
   | (with_reducible exact impl_CivilOf.mono _ _)
   | (with_reducible exact impl_dayFires.mono _ _ _ _ _ _ _ _ _ _ _ _)
   | (with_reducible exact impl_nextIn.mono _ _ _ _ _ _ _)
   | (with_reducible exact LeO.refl _)
   | (with_reducible exact LeO.none _)
   | (with_reducible refine LeO.ite ?_ ?_)
   | (with_reducible refine LeO.bind ?_ (fun _ => ?_))
   | exact ih0 _ _ _ _ _ _ _ _
   | exact ih1 _ _ _ _ _ _ _ _ _
   | exact impl_CivilOf.mono _ _
   | exact impl_dayFires.mono _ _ _ _ _ _ _ _ _ _ _ _
   | exact impl_nextIn.mono _ _ _ _ _ _ _
   | exact LeO.none _
   | refine LeO.ite ?_ ?_
   | refine LeO.bind ?_ (fun _ => ?_)
  ·intro y0 y1 y2 y3 y4 y5 y6 y7 y8
   unfold impl_nextFire.j1
   repeat' first
   | (with_reducible exact ih0 _ _ _ _ _ _ _ _)
   | (with_reducible exact ih1 _ _ _ _ _ _ _ _ _)
   | (with_reducible exact impl_CivilOf.mono _ _)
   | (with_reducible exact impl_dayFires.mono _ _ _ _ _ _ _ _ _ _ _ _)
   | (with_reducible exact impl_nextIn.mono _ _ _ _ _ _ _)
   | (with_reducible exact LeO.refl _)
   | (with_reducible exact LeO.none _)
   | (with_reducible refine LeO.ite ?_ ?_)
   | (with_reducible refine LeO.bind ?_ (fun _ => ?_))
   | exact ih0 _ _ _ _ _ _ _ _
   | exact ih1 _ _ _ _ _ _ _ _ _
   | exact impl_CivilOf.mono _ _
   | exact impl_dayFires.mono _ _ _ _ _ _ _ _ _ _ _ _
   | exact impl_nextIn.mono _ _ _ _ _ _ _
   | exact LeO.none _
   | refine LeO.ite ?_ ?_
   | refine LeO.bind ?_ (fun _ => ?_)
theorem impl_nextFire.mono : ∀ a0 a1 a2 a3 a4 a5 a6 k, LeO (impl_nextFire.f k a0 a1 a2 a3 a4 a5 a6) (impl_nextFire.f (k + 1) a0 a1 a2 a3 a4 a5 a6) := by
 intro a0 a1 a2 a3 a4 a5 a6 k
 obtain ⟨ih0, ih1⟩ := impl_nextFire.mono_l k
 unfold impl_nextFire.f
 repeat' first
  | (with_reducible exact ih0 _ _ _ _ _ _ _ _)
  | (with_reducible exact ih1 _ _ _ _ _ _ _ _ _)
  | (with_reducible exact impl_CivilOf.mono _ _)
  | (with_reducible exact impl_dayFires.mono _ _ _ _ _ _ _ _ _ _ _ _)
  | (with_reducible exact impl_nextIn.mono _ _ _ _ _ _ _)
  | (with_reducible exact LeO.refl _)
  | (with_reducible exact LeO.none _)
  | (with_reducible refine LeO.ite ?_ ?_)
  | (with_reducible refine LeO.bind ?_ (fun _ => ?_))
  | exact ih0 _ _ _ _ _ _ _ _
  | exact ih1 _ _ _ _ _ _ _ _ _
  | exact impl_CivilOf.mono _ _
  | exact impl_dayFires.mono _ _ _ _ _ _ _ _ _ _ _ _
  | exact impl_nextIn.mono _ _ _ _ _ _ _
  | exact LeO.none _
  | refine LeO.ite ?_ ?_
  | refine LeO.bind ?_ (fun _ => ?_)
set_option maxHeartbeats 8000000 in
set_option maxRecDepth 100000 in
theorem impl_nextFire.calls (k : Nat) (A0_0 : Option Addr) (c0_0 : Nat) (l0_0 : List Int) (A0_1 : Option Addr) (c0_1 : Nat) (l0_1 : List Int) (A0_2 : Option Addr) (c0_2 : Nat) (l0_2 : List Int) (A0_3 : Option Addr) (c0_3 : Nat) (l0_3 : List Int) (A0_4 : Option Addr) (c0_4 : Nat) (l0_4 : List Int) (a1 : Int) (a2 : Int) (r1 : Int) (r2 : Bool) (w : World) (hr0_0 : Kd.C (Kd.int .i64) w A0_0 l0_0.length l0_0) (hc0_0 : l0_0.length ≤ c0_0) (hr0_1 : Kd.C (Kd.int .i64) w A0_1 l0_1.length l0_1) (hc0_1 : l0_1.length ≤ c0_1) (hr0_2 : Kd.C (Kd.int .i64) w A0_2 l0_2.length l0_2) (hc0_2 : l0_2.length ≤ c0_2) (hr0_3 : Kd.C (Kd.int .i64) w A0_3 l0_3.length l0_3) (hc0_3 : l0_3.length ≤ c0_3) (hr0_4 : Kd.C (Kd.int .i64) w A0_4 l0_4.length l0_4) (hc0_4 : l0_4.length ≤ c0_4) (h : impl_nextFire.f k l0_0 l0_1 l0_2 l0_3 l0_4 a1 a2 = some (r1, r2)) :
 Calls Try.prog 19 #[.agg #[.slice A0_0 l0_0.length c0_0, .slice A0_1 l0_1.length c0_1, .slice A0_2 l0_2.length c0_2, .slice A0_3 l0_3.length c0_3, .slice A0_4 l0_4.length c0_4], .int .i64 a1, .int .i64 a2] w fun e w' => e = .returned (.tuple #[.int .i64 r1, .bool r2]) ∧ Below w.heap.size w w' := by
 have hu26 := Try.underlying26
 have hu51 := Try.underlying51
 have HR0_0 := aM hr0_0
 have HC0_0 := aM hc0_0
 clear hr0_0 hc0_0
 have HR0_1 := aM hr0_1
 have HC0_1 := aM hc0_1
 clear hr0_1 hc0_1
 have HR0_2 := aM hr0_2
 have HC0_2 := aM hc0_2
 clear hr0_2 hc0_2
 have HR0_3 := aM hr0_3
 have HC0_3 := aM hc0_3
 clear hr0_3 hc0_3
 have HR0_4 := aM hr0_4
 have HC0_4 := aM hc0_4
 clear hr0_4 hc0_4
 have HB := aM (Below.refl w.heap.size w)
 have H : (impl_nextFire.l0 k a1 a2 0 l0_0 l0_1 l0_2 l0_3 l0_4) = some (r1, r2) := h
 clear h
 have H' := aM H
 clear H
 go_enter Try.func19, Try.ntmps19
 go_wp2_with (first | ((with_reducible refine gate_dst (N := 3) rfl ?_); refine bxE 3 #[.slice A0_0 l0_0.length c0_0, .slice A0_1 l0_1.length c0_1, .slice A0_2 l0_2.length c0_2, .slice A0_3 l0_3.length c0_3, .slice A0_4 l0_4.length c0_4] 26 ?_; intro gb343 hg w4 hbox hb; have BK343 := aM (hbox); have GW343 := szG hg (uL HB); have GE343 := szG hg (uL HB); replace HB := aM (below_step (uL HB) hb); clear hb hbox hg))
 go_loopg [1, 8] k (fun kq v1 v8 w' => ∃ (x1_1 : Int) (x8_1 : Int), v1 = .int .i64 x1_1 ∧ v8 = .int .i64 x8_1 ∧ Aside0 (impl_nextFire.l0 kq x1_1 a2 x8_1 l0_0 l0_1 l0_2 l0_3 l0_4 = some (r1, r2)) ∧ Aside0 (kq ≤ k) ∧ Aside0 (w'.heap[gb343]? = some (.cells #[(.slice A0_0 l0_0.length c0_0), (.slice A0_1 l0_1.length c0_1), (.slice A0_2 l0_2.length c0_2), (.slice A0_3 l0_3.length c0_3), (.slice A0_4 l0_4.length c0_4)] 26 (0, 0))) ∧ Aside0 (Below w.heap.size w w'))
 case atStart => exact ⟨(a1), (0), (by first | rfl | (simp; done) | (simp [*]; done)), (by first | rfl | (simp; done) | (simp [*]; done)), H', ⟨Nat.le_refl _⟩, ⟨by exact nB BK343.out⟩, ⟨uL HB⟩⟩
 case round =>
  clear H'
  try clear c1; try clear p2
  obtain ⟨x1_1, x8_1, rfl, rfl, HA, HK1, BK343, HB⟩ := hrel
  cases gk with
  | zero => exact absurd HA.out (by simp [impl_nextFire.l0])
  | succ k1 =>
   have H := HA.out
   clear HA
   simp only [impl_nextFire.l0] at H
   have HC5 := aM H
   clear H
   go_upto_region 2 with (fail)
   go_cut [20] (fun v20 wc => ∃ (kq : Nat) (x20_4 : Bool), v20 = .bool x20_4 ∧ Aside0 (impl_nextFire.j1 kq x1_1 a2 x8_1 x20_4 l0_0 l0_1 l0_2 l0_3 l0_4 = some (r1, r2)) ∧ Aside0 (kq ≤ k1) ∧ Aside0 (wc.heap[gb343]? = some (.cells #[(.slice A0_0 l0_0.length c0_0), (.slice A0_1 l0_1.length c0_1), (.slice A0_2 l0_2.length c0_2), (.slice A0_3 l0_3.length c0_3), (.slice A0_4 l0_4.length c0_4)] 26 (0, 0))) ∧ Aside0 (Below w.heap.size w wc))
   case first =>
    have H := HC5.out
    clear HC5
    obtain ⟨ji6, hji6⟩ : ∃ j_ : Int, (mn a2 3000) = j_ := ⟨_, rfl⟩
    replace H : (if x8_1 ≤ (ji6) then ((impl_isMinute.f x1_1).bind fun t344 => (impl_nextFire.j1 k1 x1_1 a2 x8_1 t344 l0_0 l0_1 l0_2 l0_3 l0_4)) else (impl_nextFire.j1 k1 x1_1 a2 x8_1 false l0_0 l0_1 l0_2 l0_3 l0_4)) = some (r1, r2) := by first | (rw [hji6] at H; exact H) | (simp only [hji6] at H ⊢; exact H)
    have hji6_ : (if 3000 < a2 then 3000 else a2) = ji6 := hji6
    by_cases c7 : x8_1 ≤ (ji6)
    ·rw [if_pos c7] at H
     have c7b0 : decide (x8_1 ≤ (ji6)) = true := decide_eq_true c7
     clear c7
     (first | rw [c7b0] | (simp only [i64_w, i32_w]; rw [c7b0]) | skip)
     replace H := Option.bind_eq_some_iff.mp H
     obtain ⟨t344, A80, H⟩ := H
     replace H : (impl_nextFire.j1 k1 x1_1 a2 x8_1 t344 l0_0 l0_1 l0_2 l0_3 l0_4) = some (r1, r2) := H
     have A8 := aM A80
     clear A80
     have H' := aM H
     clear H
     go_wp2_with (first | (go_at_call 17; (with_reducible refine (impl_isMinute.calls x1_1 t344 _ A8.out).mono ?_); rintro e w' ⟨rfl, ⟨nd, rfl⟩⟩))
     go_meet
     case rel => exact ⟨_, (t344), (by first | rfl | (simp; done) | (simp [*]; done)), H', ⟨by have := HK1.out; first | omega | exact Nat.le_refl _⟩, ⟨by exact nB BK343.out⟩, ⟨uL HB⟩⟩
    ·rw [if_neg c7] at H
     have c7b0 : decide (x8_1 ≤ (ji6)) = false := decide_eq_false c7
     clear c7
     (first | rw [c7b0] | (simp only [i64_w, i32_w]; rw [c7b0]) | skip)
     have H' := aM H
     clear H
     go_wp2
     go_meet
     case rel => exact ⟨_, (false), (by first | rfl | (simp; done) | (simp [*]; done)), H', ⟨by have := HK1.out; first | omega | exact Nat.le_refl _⟩, ⟨by exact nB BK343.out⟩, ⟨uL HB⟩⟩
   case rest =>
    clear HC5
    try clear c1; try clear p2; try clear c7; try clear c7b0; try clear p2
    obtain ⟨kq, x20_4, rfl, HA, HJ4, BK343, HB⟩ := hcut
    cases kq with
    | zero => exact absurd HA.out (by simp [impl_nextFire.j1])
    | succ kj4 =>
     have H := HA.out
     clear HA
     simp only [impl_nextFire.j1] at H
     by_cases c9 : x20_4 = true
     ·subst c9
      rw [if_pos rfl] at H
      replace H := Option.bind_eq_some_iff.mp H
      obtain ⟨⟨t345, t346, t347, t348, t349, t350⟩, A100, H⟩ := H
      try dsimp only at H
      have A10 := aM A100
      clear A100
      replace H := Option.bind_eq_some_iff.mp H
      obtain ⟨t352, A110, H⟩ := H
      try dsimp only at H
      have A11 := aM A110
      clear A110
      by_cases c12 : t352 = true
      ·subst c12
       rw [if_pos rfl] at H
       replace H := Option.bind_eq_some_iff.mp H
       obtain ⟨⟨t353, t354⟩, A130, H⟩ := H
       try dsimp only at H
       have A13 := aM A130
       clear A130
       by_cases c14 : t354 = true
       ·subst c14
        have H1 : (some (t353, true)) = some (r1, r2) := by rw [if_pos rfl] at H; exact H
        clear H; have H := H1; clear H1
        simp only [Option.some.injEq, Prod.mk.injEq] at H
        obtain ⟨rfl, rfl⟩ := H
        go_wp2_with (first | ((with_reducible refine gate_callee (f := 23) rfl ?_); refine gL (some 25) Try.func23 #[.int .i64 x1_1] ?_; (with_reducible refine (impl_CivilOf.calls kj4 x1_1 t345 t346 t347 t348 t349 t350 _ A10.out).mono ?_); rintro e w15 ⟨rfl, hb⟩; refine ⟨_, rfl, ?_⟩; replace BK343 := blkB BK343 hb; replace HB := aM (below_step (uL HB) hb); try clear hb) | ((with_reducible refine gate_dst (N := 9) rfl ?_); refine bxE 9 #[.int .i64 0, .int .i64 0, .int .i64 0, .int .i64 0, .int .i64 0] 51 ?_; intro gb351 hg w16 hbox hb; have BK351 := aM (hbox); have GW351 := szG hg (uL HB); have GE351 := szG hg (uL HB); have NB343_351 := neL hg BK343; have NB351_343 := neG hg BK343; replace BK343 := blkB BK343 hb; replace HB := aM (below_step (uL HB) hb); clear hb hbox hg; have hnb17 := NB351_343.out; have hnc17 := NB343_351.out; have hcz18_0 := czA BK351.out 0 (.int .i64 0); have hcz18_1 := czA BK351.out 1 (.int .i64 0); have hcz18_2 := czA BK351.out 2 (.int .i64 0); have hcz18_3 := czA BK351.out 3 (.int .i64 0); have hcz18_4 := czA BK351.out 4 (.int .i64 0); have hfz18_0 := blk_frozen BK351.out 0; have hfz18_1 := blk_frozen BK351.out 1; have hfz18_2 := blk_frozen BK351.out 2; have hfz18_3 := blk_frozen BK351.out 3; have hfz18_4 := blk_frozen BK351.out 4; have hcz19_0 := czA BK343.out 0 (.slice A0_0 l0_0.length c0_0); have hcz19_1 := czA BK343.out 1 (.slice A0_1 l0_1.length c0_1); have hcz19_2 := czA BK343.out 2 (.slice A0_2 l0_2.length c0_2); have hcz19_3 := czA BK343.out 3 (.slice A0_3 l0_3.length c0_3); have hcz19_4 := czA BK343.out 4 (.slice A0_4 l0_4.length c0_4); have hfz19_0 := blk_frozen BK343.out 0; have hfz19_1 := blk_frozen BK343.out 1; have hfz19_2 := blk_frozen BK343.out 2; have hfz19_3 := blk_frozen BK343.out 3; have hfz19_4 := blk_frozen BK343.out 4) | ((with_reducible refine gate_callee (f := 24) rfl ?_); refine gL (some 31) Try.func24 #[.agg #[.slice A0_0 l0_0.length c0_0, .slice A0_1 l0_1.length c0_1, .slice A0_2 l0_2.length c0_2, .slice A0_3 l0_3.length c0_3, .slice A0_4 l0_4.length c0_4], .int .i64 x1_1, .agg #[.int .i64 t345, .int .i64 t346, .int .i64 t347, .int .i64 t348, .int .i64 t349]] ?_; (with_reducible refine (impl_dayFires.calls kj4 _ _ l0_0 _ _ l0_1 _ _ l0_2 _ _ l0_3 _ _ l0_4 x1_1 t345 t346 t347 t348 t349 true _ ?side1 ?side2 ?side3 ?side4 ?side5 ?side6 ?side7 ?side8 ?side9 ?side10 A11.out).mono ?_); (case side1 => exact Kd.C_below HR0_0.out (uL HB)); (case side2 => exact HC0_0.out); (case side3 => exact Kd.C_below HR0_1.out (uL HB)); (case side4 => exact HC0_1.out); (case side5 => exact Kd.C_below HR0_2.out (uL HB)); (case side6 => exact HC0_2.out); (case side7 => exact Kd.C_below HR0_3.out (uL HB)); (case side8 => exact HC0_3.out); (case side9 => exact Kd.C_below HR0_4.out (uL HB)); (case side10 => exact HC0_4.out); rintro e w20 ⟨rfl, hb⟩; refine ⟨_, rfl, ?_⟩; replace BK343 := blkB BK343 hb; replace BK351 := aM (blk_below (g := gb351) (o := .cells #[.int .i64 t345, .int .i64 t346, .int .i64 t347, .int .i64 t348, .int .i64 t349] 51 (0, 0)) (by refine nB ?_; refine blk_put (cs := #[.int .i64 t345, .int .i64 t346, .int .i64 t347, .int .i64 t348, .int .i64 0]) ?_ 4 _ rfl; refine nB ?_; refine blk_put (cs := #[.int .i64 t345, .int .i64 t346, .int .i64 t347, .int .i64 0, .int .i64 0]) ?_ 3 _ rfl; refine nB ?_; refine blk_put (cs := #[.int .i64 t345, .int .i64 t346, .int .i64 0, .int .i64 0, .int .i64 0]) ?_ 2 _ rfl; refine nB ?_; refine blk_put (cs := #[.int .i64 t345, .int .i64 0, .int .i64 0, .int .i64 0, .int .i64 0]) ?_ 1 _ rfl; refine nB ?_; refine blk_put (cs := #[.int .i64 0, .int .i64 0, .int .i64 0, .int .i64 0, .int .i64 0]) ?_ 0 _ rfl; exact nB BK351.out) hb); replace HB := aM (below_step (uL HB) hb); try clear hb; have hcz21_0 := czA BK343.out 0 (.slice A0_0 l0_0.length c0_0); have hcz21_1 := czA BK343.out 1 (.slice A0_1 l0_1.length c0_1); have hcz21_2 := czA BK343.out 2 (.slice A0_2 l0_2.length c0_2); have hcz21_3 := czA BK343.out 3 (.slice A0_3 l0_3.length c0_3); have hcz21_4 := czA BK343.out 4 (.slice A0_4 l0_4.length c0_4); have hfz21_0 := blk_frozen BK343.out 0; have hfz21_1 := blk_frozen BK343.out 1; have hfz21_2 := blk_frozen BK343.out 2; have hfz21_3 := blk_frozen BK343.out 3; have hfz21_4 := blk_frozen BK343.out 4) | ((with_reducible refine gate_callee (f := 32) rfl ?_); refine gL (some 35) Try.func32 #[.agg #[.slice A0_0 l0_0.length c0_0, .slice A0_1 l0_1.length c0_1, .slice A0_2 l0_2.length c0_2, .slice A0_3 l0_3.length c0_3, .slice A0_4 l0_4.length c0_4], .int .i64 x1_1] ?_; (with_reducible refine (impl_nextIn.calls kj4 _ _ l0_0 _ _ l0_1 _ _ l0_2 _ _ l0_3 _ _ l0_4 x1_1 t353 true _ ?side1 ?side2 ?side3 ?side4 ?side5 ?side6 ?side7 ?side8 ?side9 ?side10 A13.out).mono ?_); (case side1 => exact uC HR0_0 HB); (case side2 => exact HC0_0.out); (case side3 => exact uC HR0_1 HB); (case side4 => exact HC0_1.out); (case side5 => exact uC HR0_2 HB); (case side6 => exact HC0_2.out); (case side7 => exact uC HR0_3 HB); (case side8 => exact HC0_3.out); (case side9 => exact uC HR0_4 HB); (case side10 => exact HC0_4.out); rintro e w22 ⟨rfl, hb⟩; refine ⟨_, rfl, ?_⟩; replace BK343 := blkB BK343 hb; replace BK351 := blkB BK351 hb; replace HB := aM (below_step (uL HB) hb); try clear hb))
        go_ret2
        exact rX HB
       ·replace c14 := Bool.eq_false_iff.mpr c14
        subst c14
        rw [if_neg (show ¬ (false = true) by decide)] at H
        have H' := aM H
        clear H
        go_wp2_with (first | ((with_reducible refine gate_callee (f := 23) rfl ?_); refine gL (some 25) Try.func23 #[.int .i64 x1_1] ?_; (with_reducible refine (impl_CivilOf.calls kj4 x1_1 t345 t346 t347 t348 t349 t350 _ A10.out).mono ?_); rintro e w23 ⟨rfl, hb⟩; refine ⟨_, rfl, ?_⟩; replace BK343 := blkB BK343 hb; replace HB := aM (below_step (uL HB) hb); try clear hb) | ((with_reducible refine gate_dst (N := 9) rfl ?_); refine bxE 9 #[.int .i64 0, .int .i64 0, .int .i64 0, .int .i64 0, .int .i64 0] 51 ?_; intro gb351 hg w24 hbox hb; have BK351 := aM (hbox); have GW351 := szG hg (uL HB); have GE351 := szG hg (uL HB); have NB343_351 := neL hg BK343; have NB351_343 := neG hg BK343; replace BK343 := blkB BK343 hb; replace HB := aM (below_step (uL HB) hb); clear hb hbox hg; have hnb25 := NB351_343.out; have hnc25 := NB343_351.out; have hcz26_0 := czA BK351.out 0 (.int .i64 0); have hcz26_1 := czA BK351.out 1 (.int .i64 0); have hcz26_2 := czA BK351.out 2 (.int .i64 0); have hcz26_3 := czA BK351.out 3 (.int .i64 0); have hcz26_4 := czA BK351.out 4 (.int .i64 0); have hfz26_0 := blk_frozen BK351.out 0; have hfz26_1 := blk_frozen BK351.out 1; have hfz26_2 := blk_frozen BK351.out 2; have hfz26_3 := blk_frozen BK351.out 3; have hfz26_4 := blk_frozen BK351.out 4; have hcz27_0 := czA BK343.out 0 (.slice A0_0 l0_0.length c0_0); have hcz27_1 := czA BK343.out 1 (.slice A0_1 l0_1.length c0_1); have hcz27_2 := czA BK343.out 2 (.slice A0_2 l0_2.length c0_2); have hcz27_3 := czA BK343.out 3 (.slice A0_3 l0_3.length c0_3); have hcz27_4 := czA BK343.out 4 (.slice A0_4 l0_4.length c0_4); have hfz27_0 := blk_frozen BK343.out 0; have hfz27_1 := blk_frozen BK343.out 1; have hfz27_2 := blk_frozen BK343.out 2; have hfz27_3 := blk_frozen BK343.out 3; have hfz27_4 := blk_frozen BK343.out 4) | ((with_reducible refine gate_callee (f := 24) rfl ?_); refine gL (some 31) Try.func24 #[.agg #[.slice A0_0 l0_0.length c0_0, .slice A0_1 l0_1.length c0_1, .slice A0_2 l0_2.length c0_2, .slice A0_3 l0_3.length c0_3, .slice A0_4 l0_4.length c0_4], .int .i64 x1_1, .agg #[.int .i64 t345, .int .i64 t346, .int .i64 t347, .int .i64 t348, .int .i64 t349]] ?_; (with_reducible refine (impl_dayFires.calls kj4 _ _ l0_0 _ _ l0_1 _ _ l0_2 _ _ l0_3 _ _ l0_4 x1_1 t345 t346 t347 t348 t349 true _ ?side1 ?side2 ?side3 ?side4 ?side5 ?side6 ?side7 ?side8 ?side9 ?side10 A11.out).mono ?_); (case side1 => exact Kd.C_below HR0_0.out (uL HB)); (case side2 => exact HC0_0.out); (case side3 => exact Kd.C_below HR0_1.out (uL HB)); (case side4 => exact HC0_1.out); (case side5 => exact Kd.C_below HR0_2.out (uL HB)); (case side6 => exact HC0_2.out); (case side7 => exact Kd.C_below HR0_3.out (uL HB)); (case side8 => exact HC0_3.out); (case side9 => exact Kd.C_below HR0_4.out (uL HB)); (case side10 => exact HC0_4.out); rintro e w28 ⟨rfl, hb⟩; refine ⟨_, rfl, ?_⟩; replace BK343 := blkB BK343 hb; replace BK351 := aM (blk_below (g := gb351) (o := .cells #[.int .i64 t345, .int .i64 t346, .int .i64 t347, .int .i64 t348, .int .i64 t349] 51 (0, 0)) (by refine nB ?_; refine blk_put (cs := #[.int .i64 t345, .int .i64 t346, .int .i64 t347, .int .i64 t348, .int .i64 0]) ?_ 4 _ rfl; refine nB ?_; refine blk_put (cs := #[.int .i64 t345, .int .i64 t346, .int .i64 t347, .int .i64 0, .int .i64 0]) ?_ 3 _ rfl; refine nB ?_; refine blk_put (cs := #[.int .i64 t345, .int .i64 t346, .int .i64 0, .int .i64 0, .int .i64 0]) ?_ 2 _ rfl; refine nB ?_; refine blk_put (cs := #[.int .i64 t345, .int .i64 0, .int .i64 0, .int .i64 0, .int .i64 0]) ?_ 1 _ rfl; refine nB ?_; refine blk_put (cs := #[.int .i64 0, .int .i64 0, .int .i64 0, .int .i64 0, .int .i64 0]) ?_ 0 _ rfl; exact nB BK351.out) hb); replace HB := aM (below_step (uL HB) hb); try clear hb; have hcz29_0 := czA BK343.out 0 (.slice A0_0 l0_0.length c0_0); have hcz29_1 := czA BK343.out 1 (.slice A0_1 l0_1.length c0_1); have hcz29_2 := czA BK343.out 2 (.slice A0_2 l0_2.length c0_2); have hcz29_3 := czA BK343.out 3 (.slice A0_3 l0_3.length c0_3); have hcz29_4 := czA BK343.out 4 (.slice A0_4 l0_4.length c0_4); have hfz29_0 := blk_frozen BK343.out 0; have hfz29_1 := blk_frozen BK343.out 1; have hfz29_2 := blk_frozen BK343.out 2; have hfz29_3 := blk_frozen BK343.out 3; have hfz29_4 := blk_frozen BK343.out 4) | ((with_reducible refine gate_callee (f := 32) rfl ?_); refine gL (some 35) Try.func32 #[.agg #[.slice A0_0 l0_0.length c0_0, .slice A0_1 l0_1.length c0_1, .slice A0_2 l0_2.length c0_2, .slice A0_3 l0_3.length c0_3, .slice A0_4 l0_4.length c0_4], .int .i64 x1_1] ?_; (with_reducible refine (impl_nextIn.calls kj4 _ _ l0_0 _ _ l0_1 _ _ l0_2 _ _ l0_3 _ _ l0_4 x1_1 t353 false _ ?side1 ?side2 ?side3 ?side4 ?side5 ?side6 ?side7 ?side8 ?side9 ?side10 A13.out).mono ?_); (case side1 => exact uC HR0_0 HB); (case side2 => exact HC0_0.out); (case side3 => exact uC HR0_1 HB); (case side4 => exact HC0_1.out); (case side5 => exact uC HR0_2 HB); (case side6 => exact HC0_2.out); (case side7 => exact uC HR0_3 HB); (case side8 => exact HC0_3.out); (case side9 => exact uC HR0_4 HB); (case side10 => exact HC0_4.out); rintro e w30 ⟨rfl, hb⟩; refine ⟨_, rfl, ?_⟩; replace BK343 := blkB BK343 hb; replace BK351 := blkB BK351 hb; replace HB := aM (below_step (uL HB) hb); try clear hb))
        go_roundg kj4
        case measure => have := HK1.out; have := HJ4.out; omega
        case rel => exact ⟨(wrap64 (x1_1 + (wrap64 (1440 - (Int.tmod x1_1 1440))))), (wrap64 (x8_1 + 1)), (by first | rfl | (simp; done) | (simp [*]; done)), (by first | rfl | (simp; done) | (simp [*]; done)), H', ⟨by have := HK1.out; have := HJ4.out; omega⟩, ⟨by exact nB BK343.out⟩, ⟨uL HB⟩⟩
      ·replace c12 := Bool.eq_false_iff.mpr c12
       subst c12
       rw [if_neg (show ¬ (false = true) by decide)] at H
       have H' := aM H
       clear H
       go_wp2_with (first | ((with_reducible refine gate_callee (f := 23) rfl ?_); refine gL (some 25) Try.func23 #[.int .i64 x1_1] ?_; (with_reducible refine (impl_CivilOf.calls kj4 x1_1 t345 t346 t347 t348 t349 t350 _ A10.out).mono ?_); rintro e w31 ⟨rfl, hb⟩; refine ⟨_, rfl, ?_⟩; replace BK343 := blkB BK343 hb; replace HB := aM (below_step (uL HB) hb); try clear hb) | ((with_reducible refine gate_dst (N := 9) rfl ?_); refine bxE 9 #[.int .i64 0, .int .i64 0, .int .i64 0, .int .i64 0, .int .i64 0] 51 ?_; intro gb351 hg w32 hbox hb; have BK351 := aM (hbox); have GW351 := szG hg (uL HB); have GE351 := szG hg (uL HB); have NB343_351 := neL hg BK343; have NB351_343 := neG hg BK343; replace BK343 := blkB BK343 hb; replace HB := aM (below_step (uL HB) hb); clear hb hbox hg; have hnb33 := NB351_343.out; have hnc33 := NB343_351.out; have hcz34_0 := czA BK351.out 0 (.int .i64 0); have hcz34_1 := czA BK351.out 1 (.int .i64 0); have hcz34_2 := czA BK351.out 2 (.int .i64 0); have hcz34_3 := czA BK351.out 3 (.int .i64 0); have hcz34_4 := czA BK351.out 4 (.int .i64 0); have hfz34_0 := blk_frozen BK351.out 0; have hfz34_1 := blk_frozen BK351.out 1; have hfz34_2 := blk_frozen BK351.out 2; have hfz34_3 := blk_frozen BK351.out 3; have hfz34_4 := blk_frozen BK351.out 4; have hcz35_0 := czA BK343.out 0 (.slice A0_0 l0_0.length c0_0); have hcz35_1 := czA BK343.out 1 (.slice A0_1 l0_1.length c0_1); have hcz35_2 := czA BK343.out 2 (.slice A0_2 l0_2.length c0_2); have hcz35_3 := czA BK343.out 3 (.slice A0_3 l0_3.length c0_3); have hcz35_4 := czA BK343.out 4 (.slice A0_4 l0_4.length c0_4); have hfz35_0 := blk_frozen BK343.out 0; have hfz35_1 := blk_frozen BK343.out 1; have hfz35_2 := blk_frozen BK343.out 2; have hfz35_3 := blk_frozen BK343.out 3; have hfz35_4 := blk_frozen BK343.out 4) | ((with_reducible refine gate_callee (f := 24) rfl ?_); refine gL (some 31) Try.func24 #[.agg #[.slice A0_0 l0_0.length c0_0, .slice A0_1 l0_1.length c0_1, .slice A0_2 l0_2.length c0_2, .slice A0_3 l0_3.length c0_3, .slice A0_4 l0_4.length c0_4], .int .i64 x1_1, .agg #[.int .i64 t345, .int .i64 t346, .int .i64 t347, .int .i64 t348, .int .i64 t349]] ?_; (with_reducible refine (impl_dayFires.calls kj4 _ _ l0_0 _ _ l0_1 _ _ l0_2 _ _ l0_3 _ _ l0_4 x1_1 t345 t346 t347 t348 t349 false _ ?side1 ?side2 ?side3 ?side4 ?side5 ?side6 ?side7 ?side8 ?side9 ?side10 A11.out).mono ?_); (case side1 => exact Kd.C_below HR0_0.out (uL HB)); (case side2 => exact HC0_0.out); (case side3 => exact Kd.C_below HR0_1.out (uL HB)); (case side4 => exact HC0_1.out); (case side5 => exact Kd.C_below HR0_2.out (uL HB)); (case side6 => exact HC0_2.out); (case side7 => exact Kd.C_below HR0_3.out (uL HB)); (case side8 => exact HC0_3.out); (case side9 => exact Kd.C_below HR0_4.out (uL HB)); (case side10 => exact HC0_4.out); rintro e w36 ⟨rfl, hb⟩; refine ⟨_, rfl, ?_⟩; replace BK343 := blkB BK343 hb; replace BK351 := aM (blk_below (g := gb351) (o := .cells #[.int .i64 t345, .int .i64 t346, .int .i64 t347, .int .i64 t348, .int .i64 t349] 51 (0, 0)) (by refine nB ?_; refine blk_put (cs := #[.int .i64 t345, .int .i64 t346, .int .i64 t347, .int .i64 t348, .int .i64 0]) ?_ 4 _ rfl; refine nB ?_; refine blk_put (cs := #[.int .i64 t345, .int .i64 t346, .int .i64 t347, .int .i64 0, .int .i64 0]) ?_ 3 _ rfl; refine nB ?_; refine blk_put (cs := #[.int .i64 t345, .int .i64 t346, .int .i64 0, .int .i64 0, .int .i64 0]) ?_ 2 _ rfl; refine nB ?_; refine blk_put (cs := #[.int .i64 t345, .int .i64 0, .int .i64 0, .int .i64 0, .int .i64 0]) ?_ 1 _ rfl; refine nB ?_; refine blk_put (cs := #[.int .i64 0, .int .i64 0, .int .i64 0, .int .i64 0, .int .i64 0]) ?_ 0 _ rfl; exact nB BK351.out) hb); replace HB := aM (below_step (uL HB) hb); try clear hb))
       go_roundg kj4
       case measure => have := HK1.out; have := HJ4.out; omega
       case rel => exact ⟨(wrap64 (x1_1 + (wrap64 (1440 - (Int.tmod x1_1 1440))))), (wrap64 (x8_1 + 1)), (by first | rfl | (simp; done) | (simp [*]; done)), (by first | rfl | (simp; done) | (simp [*]; done)), H', ⟨by have := HK1.out; have := HJ4.out; omega⟩, ⟨by exact nB BK343.out⟩, ⟨uL HB⟩⟩
     ·replace c9 := Bool.eq_false_iff.mpr c9
      subst c9
      have H1 : (some (0, false)) = some (r1, r2) := by rw [if_neg (show ¬ (false = true) by decide)] at H; exact H
      clear H; have H := H1; clear H1
      simp only [Option.some.injEq, Prod.mk.injEq] at H
      obtain ⟨rfl, rfl⟩ := H
      go_wp2
      go_ret2
      exact rX HB

/-! ### impl_CountFires: function 8 -/
mutual
def impl_CountFires.j0 : Nat → Int → Int → Bool → List Int → List Int → List Int → List Int → List Int → Option (Int)
 | 0, _, _, _, _, _, _, _, _ => none
 | k + 1, x1, x2, x29, x356000, x356001, x356002, x356003, x356004 => if x29 = true then (some 0) else (impl_CountFires.l0 k x2 0 x1 x356000 x356001 x356002 x356003 x356004)
def impl_CountFires.l0 : Nat → Int → Int → Int → List Int → List Int → List Int → List Int → List Int → Option (Int)
 | 0, _, _, _, _, _, _, _, _ => none
 | k + 1, x2, x7, x8, x356000, x356001, x356002, x356003, x356004 => if x8 < x2 then ((impl_nextFire.f k x356000 x356001 x356002 x356003 x356004 x8 20).bind fun bt359 => (if bt359.2 = true then (if bt359.1 ≥ x2 then (some x7) else (impl_CountFires.l0 k x2 (wrap64 (x7 + 1)) (wrap64 (bt359.1 + 1)) x356000 x356001 x356002 x356003 x356004)) else (some x7))) else (some x7)
end
def impl_CountFires.f (k : Nat) (l0_0 : List Int) (l0_1 : List Int) (l0_2 : List Int) (l0_3 : List Int) (l0_4 : List Int) (a1 : Int) (a2 : Int) : Option (Int) := (impl_isMinute.f a1).bind fun t356 => (if t356 = true then ((impl_isMinute.f a2).bind fun t357 => (if t357 = true then (if (wrap64 (a2 - a1)) > 20000 then (impl_CountFires.j0 k a1 a2 true l0_0 l0_1 l0_2 l0_3 l0_4) else ((impl_CronOk.f l0_0 l0_1 l0_2 l0_3 l0_4).bind fun t358 => (impl_CountFires.j0 k a1 a2 (!t358) l0_0 l0_1 l0_2 l0_3 l0_4))) else (impl_CountFires.j0 k a1 a2 true l0_0 l0_1 l0_2 l0_3 l0_4))) else (impl_CountFires.j0 k a1 a2 true l0_0 l0_1 l0_2 l0_3 l0_4))
theorem impl_CountFires.mono_l : ∀ k, (∀ y0 y1 y2 y3 y4 y5 y6 y7, LeO (impl_CountFires.j0 k y0 y1 y2 y3 y4 y5 y6 y7) (impl_CountFires.j0 (k + 1) y0 y1 y2 y3 y4 y5 y6 y7)) ∧ (∀ y0 y1 y2 y3 y4 y5 y6 y7, LeO (impl_CountFires.l0 k y0 y1 y2 y3 y4 y5 y6 y7) (impl_CountFires.l0 (k + 1) y0 y1 y2 y3 y4 y5 y6 y7))
 | 0 => ⟨fun _ _ _ _ _ _ _ _ r h => by simp [impl_CountFires.j0] at h, fun _ _ _ _ _ _ _ _ r h => by simp [impl_CountFires.l0] at h⟩
 | k + 1 => by
  obtain ⟨ih0, ih1⟩ := impl_CountFires.mono_l k
  refine ⟨?_, ?_⟩
  ·intro y0 y1 y2 y3 y4 y5 y6 y7
   unfold impl_CountFires.j0
   repeat' first
   | (with_reducible exact ih0 _ _ _ _ _ _ _ _)
   | (with_reducible exact ih1 _ _ _ _ _ _ _ _)
   | (with_reducible exact impl_nextFire.mono _ _ _ _ _ _ _ _)
   | (with_reducible exact LeO.refl _)
   | (with_reducible exact LeO.none _)
   | (with_reducible refine LeO.ite ?_ ?_)
   | (with_reducible refine LeO.bind ?_ (fun _ => ?_))
   | exact ih0 _ _ _ _ _ _ _ _
   | exact ih1 _ _ _ _ _ _ _ _
   | exact impl_nextFire.mono _ _ _ _ _ _ _ _
   | exact LeO.none _
   | refine LeO.ite ?_ ?_
   | refine LeO.bind ?_ (fun _ => ?_)
  ·intro y0 y1 y2 y3 y4 y5 y6 y7
   unfold impl_CountFires.l0
   repeat' first
   | (with_reducible exact ih0 _ _ _ _ _ _ _ _)
   | (with_reducible exact ih1 _ _ _ _ _ _ _ _)
   | (with_reducible exact impl_nextFire.mono _ _ _ _ _ _ _ _)
   | (with_reducible exact LeO.refl _)
   | (with_reducible exact LeO.none _)
   | (with_reducible refine LeO.ite ?_ ?_)
   | (with_reducible refine LeO.bind ?_ (fun _ => ?_))
   | exact ih0 _ _ _ _ _ _ _ _
   | exact ih1 _ _ _ _ _ _ _ _
   | exact impl_nextFire.mono _ _ _ _ _ _ _ _
   | exact LeO.none _
   | refine LeO.ite ?_ ?_
   | refine LeO.bind ?_ (fun _ => ?_)
theorem impl_CountFires.mono : ∀ a0 a1 a2 a3 a4 a5 a6 k, LeO (impl_CountFires.f k a0 a1 a2 a3 a4 a5 a6) (impl_CountFires.f (k + 1) a0 a1 a2 a3 a4 a5 a6) := by
 intro a0 a1 a2 a3 a4 a5 a6 k
 obtain ⟨ih0, ih1⟩ := impl_CountFires.mono_l k
 unfold impl_CountFires.f
 repeat' first
  | (with_reducible exact ih0 _ _ _ _ _ _ _ _)
  | (with_reducible exact ih1 _ _ _ _ _ _ _ _)
  | (with_reducible exact impl_nextFire.mono _ _ _ _ _ _ _ _)
  | (with_reducible exact LeO.refl _)
  | (with_reducible exact LeO.none _)
  | (with_reducible refine LeO.ite ?_ ?_)
  | (with_reducible refine LeO.bind ?_ (fun _ => ?_))
  | exact ih0 _ _ _ _ _ _ _ _
  | exact ih1 _ _ _ _ _ _ _ _
  | exact impl_nextFire.mono _ _ _ _ _ _ _ _
  | exact LeO.none _
  | refine LeO.ite ?_ ?_
  | refine LeO.bind ?_ (fun _ => ?_)
set_option maxHeartbeats 8000000 in
set_option maxRecDepth 100000 in
theorem impl_CountFires.calls (k : Nat) (A0_0 : Option Addr) (c0_0 : Nat) (l0_0 : List Int) (A0_1 : Option Addr) (c0_1 : Nat) (l0_1 : List Int) (A0_2 : Option Addr) (c0_2 : Nat) (l0_2 : List Int) (A0_3 : Option Addr) (c0_3 : Nat) (l0_3 : List Int) (A0_4 : Option Addr) (c0_4 : Nat) (l0_4 : List Int) (a1 : Int) (a2 : Int) (r : Int) (w : World) (hr0_0 : Kd.C (Kd.int .i64) w A0_0 l0_0.length l0_0) (hc0_0 : l0_0.length ≤ c0_0) (hr0_1 : Kd.C (Kd.int .i64) w A0_1 l0_1.length l0_1) (hc0_1 : l0_1.length ≤ c0_1) (hr0_2 : Kd.C (Kd.int .i64) w A0_2 l0_2.length l0_2) (hc0_2 : l0_2.length ≤ c0_2) (hr0_3 : Kd.C (Kd.int .i64) w A0_3 l0_3.length l0_3) (hc0_3 : l0_3.length ≤ c0_3) (hr0_4 : Kd.C (Kd.int .i64) w A0_4 l0_4.length l0_4) (hc0_4 : l0_4.length ≤ c0_4) (h : impl_CountFires.f k l0_0 l0_1 l0_2 l0_3 l0_4 a1 a2 = some r) :
 Calls Try.prog 8 #[.agg #[.slice A0_0 l0_0.length c0_0, .slice A0_1 l0_1.length c0_1, .slice A0_2 l0_2.length c0_2, .slice A0_3 l0_3.length c0_3, .slice A0_4 l0_4.length c0_4], .int .i64 a1, .int .i64 a2] w fun e w' => e = .returned (.int .i64 r) ∧ Below w.heap.size w w' := by
 have hu26 := Try.underlying26
 have HR0_0 := aM hr0_0
 have HC0_0 := aM hc0_0
 clear hr0_0 hc0_0
 have HR0_1 := aM hr0_1
 have HC0_1 := aM hc0_1
 clear hr0_1 hc0_1
 have HR0_2 := aM hr0_2
 have HC0_2 := aM hc0_2
 clear hr0_2 hc0_2
 have HR0_3 := aM hr0_3
 have HC0_3 := aM hc0_3
 clear hr0_3 hc0_3
 have HR0_4 := aM hr0_4
 have HC0_4 := aM hc0_4
 clear hr0_4 hc0_4
 have HB := aM (Below.refl w.heap.size w)
 have H : ((impl_isMinute.f a1).bind fun t356 => (if t356 = true then ((impl_isMinute.f a2).bind fun t357 => (if t357 = true then (if (wrap64 (a2 - a1)) > 20000 then (impl_CountFires.j0 k a1 a2 true l0_0 l0_1 l0_2 l0_3 l0_4) else ((impl_CronOk.f l0_0 l0_1 l0_2 l0_3 l0_4).bind fun t358 => (impl_CountFires.j0 k a1 a2 (!t358) l0_0 l0_1 l0_2 l0_3 l0_4))) else (impl_CountFires.j0 k a1 a2 true l0_0 l0_1 l0_2 l0_3 l0_4))) else (impl_CountFires.j0 k a1 a2 true l0_0 l0_1 l0_2 l0_3 l0_4))) = some r := h
 clear h
 have HC4 := aM H
 clear H
 go_enter Try.func8, Try.ntmps8
 go_upto_region 1 with (first | ((with_reducible refine gate_dst (N := 3) rfl ?_); refine bxE 3 #[.slice A0_0 l0_0.length c0_0, .slice A0_1 l0_1.length c0_1, .slice A0_2 l0_2.length c0_2, .slice A0_3 l0_3.length c0_3, .slice A0_4 l0_4.length c0_4] 26 ?_; intro gb355 hg w5 hbox hb; have BK355 := aM (hbox); have GW355 := szG hg (uL HB); have GE355 := szG hg (uL HB); replace HB := aM (below_step (uL HB) hb); clear hb hbox hg))
 (try simp only [Act.put, List.setIfInBounds_toArray, List.set_cons_zero, List.set_cons_succ])
 go_cut [29] (fun v29 wc => ∃ (kq : Nat) (x29_3 : Bool), v29 = .bool x29_3 ∧ Aside0 (impl_CountFires.j0 kq a1 a2 x29_3 l0_0 l0_1 l0_2 l0_3 l0_4 = some r) ∧ Aside0 (kq ≤ k) ∧ Aside0 (wc.heap[gb355]? = some (.cells #[(.slice A0_0 l0_0.length c0_0), (.slice A0_1 l0_1.length c0_1), (.slice A0_2 l0_2.length c0_2), (.slice A0_3 l0_3.length c0_3), (.slice A0_4 l0_4.length c0_4)] 26 (0, 0))) ∧ Aside0 (Below w.heap.size w wc))
 case first =>
  have H := HC4.out
  clear HC4
  replace H := Option.bind_eq_some_iff.mp H
  obtain ⟨t356, A60, H⟩ := H
  try dsimp only at H
  have A6 := aM A60
  clear A60
  refine Classical.byCases (p := t356 = true) (fun c7 => ?L1p) (fun c7 => ?L1n)
  case' L1p =>
   subst c7
   rw [if_pos rfl] at H
   replace H := Option.bind_eq_some_iff.mp H
   obtain ⟨t357, A80, H⟩ := H
   try dsimp only at H
   have A8 := aM A80
   clear A80
   refine Classical.byCases (p := t357 = true) (fun c9 => ?L2p) (fun c9 => ?L2n)
   case' L2p =>
    subst c9
    rw [if_pos rfl] at H
    refine Classical.byCases (p := (wrap64 (a2 - a1)) > 20000) (fun c10 => ?L3p) (fun c10 => ?L3n)
    case' L3p =>
     rw [if_pos c10] at H
     have c10b0 : decide (20000 < (wrap64 (a2 - a1))) = true := decide_eq_true c10
     clear c10
     (first | rw [c10b0] | (simp only [i64_w, i32_w]; rw [c10b0]) | skip)
     have H' := aM H
     clear H
    case' L3n =>
     rw [if_neg c10] at H
     have c10b0 : decide (20000 < (wrap64 (a2 - a1))) = false := decide_eq_false c10
     clear c10
     (first | rw [c10b0] | (simp only [i64_w, i32_w]; rw [c10b0]) | skip)
     replace H := Option.bind_eq_some_iff.mp H
     obtain ⟨t358, A110, H⟩ := H
     replace H : (impl_CountFires.j0 k a1 a2 (!t358) l0_0 l0_1 l0_2 l0_3 l0_4) = some r := H
     have A11 := aM A110
     clear A110
     have H' := aM H
     clear H
     go_wp2_with (first | ((with_reducible refine gate_callee (f := 17) rfl ?_); refine gL (some 12) Try.func17 #[.int .i64 a1] ?_; (with_reducible refine (impl_isMinute.calls a1 true _ A6.out).mono ?_); rintro e w' ⟨rfl, ⟨nd, rfl⟩⟩; refine ⟨_, rfl, ?_⟩) | (go_at_call 17; (with_reducible refine (impl_isMinute.calls a2 true _ A8.out).mono ?_); rintro e w' ⟨rfl, ⟨nd, rfl⟩⟩; have hcz12_0 := czA BK355.out 0 (.slice A0_0 l0_0.length c0_0); have hcz12_1 := czA BK355.out 1 (.slice A0_1 l0_1.length c0_1); have hcz12_2 := czA BK355.out 2 (.slice A0_2 l0_2.length c0_2); have hcz12_3 := czA BK355.out 3 (.slice A0_3 l0_3.length c0_3); have hcz12_4 := czA BK355.out 4 (.slice A0_4 l0_4.length c0_4); have hfz12_0 := blk_frozen BK355.out 0; have hfz12_1 := blk_frozen BK355.out 1; have hfz12_2 := blk_frozen BK355.out 2; have hfz12_3 := blk_frozen BK355.out 3; have hfz12_4 := blk_frozen BK355.out 4) | (go_at_call 18; (with_reducible refine (impl_CronOk.calls _ _ l0_0 _ _ l0_1 _ _ l0_2 _ _ l0_3 _ _ l0_4 t358 _ ?side1 ?side2 ?side3 ?side4 ?side5 ?side6 ?side7 ?side8 ?side9 ?side10 A11.out).mono ?_); (case side1 => repeat (first | exact (Kd.C_below HR0_0.out (uL HB)) | (with_reducible refine cA ?_ _) | (with_reducible refine cN ?_ _) | (with_reducible refine cD ?_))); (case side2 => exact HC0_0.out); (case side3 => repeat (first | exact (Kd.C_below HR0_1.out (uL HB)) | (with_reducible refine cA ?_ _) | (with_reducible refine cN ?_ _) | (with_reducible refine cD ?_))); (case side4 => exact HC0_1.out); (case side5 => repeat (first | exact (Kd.C_below HR0_2.out (uL HB)) | (with_reducible refine cA ?_ _) | (with_reducible refine cN ?_ _) | (with_reducible refine cD ?_))); (case side6 => exact HC0_2.out); (case side7 => repeat (first | exact (Kd.C_below HR0_3.out (uL HB)) | (with_reducible refine cA ?_ _) | (with_reducible refine cN ?_ _) | (with_reducible refine cD ?_))); (case side8 => exact HC0_3.out); (case side9 => repeat (first | exact (Kd.C_below HR0_4.out (uL HB)) | (with_reducible refine cA ?_ _) | (with_reducible refine cN ?_ _) | (with_reducible refine cD ?_))); (case side10 => exact HC0_4.out); rintro e w13 ⟨rfl, hb⟩; replace BK355 := blkB BK355 hb; replace HB := aM (below_step (uL HB) hb); try clear hb))
     go_meet
     case rel => exact ⟨_, (!t358), (by first | rfl | (simp; done) | (simp [*]; done)), H', ⟨by first | omega | exact Nat.le_refl _⟩, ⟨by exact nB BK355.out⟩, ⟨uL HB⟩⟩
   case' L2n =>
    replace c9 := Bool.eq_false_iff.mpr c9
    subst c9
    have H1 : (impl_CountFires.j0 k a1 a2 true l0_0 l0_1 l0_2 l0_3 l0_4) = some r := by rw [if_neg (show ¬ (false = true) by decide)] at H; exact H
    clear H; have H := H1; clear H1
    have H' := aM H
    clear H
  case' L1n =>
   replace c7 := Bool.eq_false_iff.mpr c7
   subst c7
   have H1 : (impl_CountFires.j0 k a1 a2 true l0_0 l0_1 l0_2 l0_3 l0_4) = some r := by rw [if_neg (show ¬ (false = true) by decide)] at H; exact H
   clear H; have H := H1; clear H1
   have H' := aM H
   clear H
   go_wp2_with (first | ((with_reducible refine gate_callee (f := 17) rfl ?_); refine gL (some 12) Try.func17 #[.int .i64 a1] ?_; (with_reducible refine (impl_isMinute.calls a1 false _ A6.out).mono ?_); rintro e w' ⟨rfl, ⟨nd, rfl⟩⟩; refine ⟨_, rfl, ?_⟩))
   go_meet
   case rel => exact ⟨_, (true), (by first | rfl | (simp; done) | (simp [*]; done)), H', ⟨by first | omega | exact Nat.le_refl _⟩, ⟨by exact nB BK355.out⟩, ⟨uL HB⟩⟩
  case L2p | L2n =>
   go_wp2_with (first | ((with_reducible refine gate_callee (f := 17) rfl ?_); refine gL (some 12) Try.func17 #[.int .i64 a1] ?_; (with_reducible refine (impl_isMinute.calls a1 true _ A6.out).mono ?_); rintro e w' ⟨rfl, ⟨nd, rfl⟩⟩; refine ⟨_, rfl, ?_⟩) | (go_at_call 17; (with_reducible refine (impl_isMinute.calls a2 _ _ A8.out).mono ?_); rintro e w' ⟨rfl, ⟨nd, rfl⟩⟩))
   go_meet
   case rel => exact ⟨_, (true), (by first | rfl | (simp; done) | (simp [*]; done)), H', ⟨by first | omega | exact Nat.le_refl _⟩, ⟨by exact nB BK355.out⟩, ⟨uL HB⟩⟩
 case rest =>
  clear HC4
  try clear c1; try clear p2; try clear p6; try clear c7; try clear c8; try clear c9; try clear c10; try clear c10b0; try clear hcz12_0; try clear hcz12_1; try clear hcz12_2; try clear hcz12_3; try clear hcz12_4; try clear hfz12_0; try clear hfz12_1; try clear hfz12_2; try clear hfz12_3; try clear hfz12_4
  obtain ⟨kq, x29_3, rfl, HA, HJ3, BK355, HB⟩ := hcut
  cases kq with
  | zero => exact absurd HA.out (by simp [impl_CountFires.j0])
  | succ kj3 =>
   have H := HA.out
   clear HA
   simp only [impl_CountFires.j0] at H
   by_cases c14 : x29_3 = true
   ·subst c14
    have H1 : (some 0) = some r := by rw [if_pos rfl] at H; exact H
    clear H; have H := H1; clear H1
    obtain rfl := Option.some.inj H
    go_wp2
    go_ret
    exact rX HB
   ·replace c14 := Bool.eq_false_iff.mpr c14
    subst c14
    have H1 : (impl_CountFires.l0 kj3 a2 0 a1 l0_0 l0_1 l0_2 l0_3 l0_4) = some r := by rw [if_neg (show ¬ (false = true) by decide)] at H; exact H
    clear H; have H := H1; clear H1
    have H' := aM H
    clear H
    go_wp2
    go_loopg [7, 8] kj3 (fun kq v7 v8 w' => ∃ (x7_2 : Int) (x8_2 : Int), v7 = .int .i64 x7_2 ∧ v8 = .int .i64 x8_2 ∧ Aside0 (impl_CountFires.l0 kq a2 x7_2 x8_2 l0_0 l0_1 l0_2 l0_3 l0_4 = some r) ∧ Aside0 (kq ≤ kj3) ∧ Aside0 (w'.heap[gb355]? = some (.cells #[(.slice A0_0 l0_0.length c0_0), (.slice A0_1 l0_1.length c0_1), (.slice A0_2 l0_2.length c0_2), (.slice A0_3 l0_3.length c0_3), (.slice A0_4 l0_4.length c0_4)] 26 (0, 0))) ∧ Aside0 (Below w.heap.size w w'))
    case atStart => exact ⟨(0), (a1), (by first | rfl | (simp; done) | (simp [*]; done)), (by first | rfl | (simp; done) | (simp [*]; done)), H', ⟨Nat.le_refl _⟩, ⟨by exact nB BK355.out⟩, ⟨uL HB⟩⟩
    case round =>
     clear H'
     try clear c1; try clear p2; try clear p6; try clear c7; try clear c8; try clear c9; try clear c10; try clear c10b0; try clear c14; try clear hcz12_0; try clear hcz12_1; try clear hcz12_2; try clear hcz12_3; try clear hcz12_4; try clear hfz12_0; try clear hfz12_1; try clear hfz12_2; try clear hfz12_3; try clear hfz12_4; try clear p2; try clear p6
     obtain ⟨x7_2, x8_2, rfl, rfl, HA, HK2, BK355, HB⟩ := hrel
     cases gk with
     | zero => exact absurd HA.out (by simp [impl_CountFires.l0])
     | succ k2 =>
      have H := HA.out
      clear HA
      simp only [impl_CountFires.l0] at H
      refine Classical.byCases (p := x8_2 < a2) (fun c15 => ?L4p) (fun c15 => ?L4n)
      case' L4p =>
       rw [if_pos c15] at H
       have c15b0 : decide (x8_2 < a2) = true := decide_eq_true c15
       clear c15
       replace H := Option.bind_eq_some_iff.mp H
       obtain ⟨⟨t359, t360⟩, A160, H⟩ := H
       try dsimp only at H
       have A16 := aM A160
       clear A160
       refine Classical.byCases (p := t360 = true) (fun c17 => ?L5p) (fun c17 => ?L5n)
       case' L5p =>
        subst c17
        rw [if_pos rfl] at H
        refine Classical.byCases (p := t359 ≥ a2) (fun c18 => ?L6p) (fun c18 => ?L6n)
        case' L6p =>
         rw [if_pos c18] at H
         have c18b0 : decide (a2 ≤ t359) = true := decide_eq_true c18
         clear c18
         obtain rfl := Option.some.inj H
         have hcz19_0 := czA BK355.out 0 (.slice A0_0 l0_0.length c0_0)
         have hcz19_1 := czA BK355.out 1 (.slice A0_1 l0_1.length c0_1)
         have hcz19_2 := czA BK355.out 2 (.slice A0_2 l0_2.length c0_2)
         have hcz19_3 := czA BK355.out 3 (.slice A0_3 l0_3.length c0_3)
         have hcz19_4 := czA BK355.out 4 (.slice A0_4 l0_4.length c0_4)
         have hfz19_0 := blk_frozen BK355.out 0; have hfz19_1 := blk_frozen BK355.out 1; have hfz19_2 := blk_frozen BK355.out 2; have hfz19_3 := blk_frozen BK355.out 3; have hfz19_4 := blk_frozen BK355.out 4
        case' L6n =>
         rw [if_neg c18] at H
         have c18b0 : decide (a2 ≤ t359) = false := decide_eq_false c18
         clear c18
         have H' := aM H
         clear H
         have hcz21_0 := czA BK355.out 0 (.slice A0_0 l0_0.length c0_0)
         have hcz21_1 := czA BK355.out 1 (.slice A0_1 l0_1.length c0_1)
         have hcz21_2 := czA BK355.out 2 (.slice A0_2 l0_2.length c0_2)
         have hcz21_3 := czA BK355.out 3 (.slice A0_3 l0_3.length c0_3)
         have hcz21_4 := czA BK355.out 4 (.slice A0_4 l0_4.length c0_4)
         have hfz21_0 := blk_frozen BK355.out 0; have hfz21_1 := blk_frozen BK355.out 1; have hfz21_2 := blk_frozen BK355.out 2; have hfz21_3 := blk_frozen BK355.out 3; have hfz21_4 := blk_frozen BK355.out 4
         go_wp2_with (first | ((with_reducible refine gate_callee (f := 19) rfl ?_); refine gL (some 39) Try.func19 #[.agg #[.slice A0_0 l0_0.length c0_0, .slice A0_1 l0_1.length c0_1, .slice A0_2 l0_2.length c0_2, .slice A0_3 l0_3.length c0_3, .slice A0_4 l0_4.length c0_4], .int .i64 x8_2, .int .i64 20] ?_; (with_reducible refine (impl_nextFire.calls k2 _ _ l0_0 _ _ l0_1 _ _ l0_2 _ _ l0_3 _ _ l0_4 x8_2 20 t359 true _ ?side1 ?side2 ?side3 ?side4 ?side5 ?side6 ?side7 ?side8 ?side9 ?side10 A16.out).mono ?_); (case side1 => exact uC HR0_0 HB); (case side2 => exact HC0_0.out); (case side3 => exact uC HR0_1 HB); (case side4 => exact HC0_1.out); (case side5 => exact uC HR0_2 HB); (case side6 => exact HC0_2.out); (case side7 => exact uC HR0_3 HB); (case side8 => exact HC0_3.out); (case side9 => exact uC HR0_4 HB); (case side10 => exact HC0_4.out); rintro e w22 ⟨rfl, hb⟩; refine ⟨_, rfl, ?_⟩; replace BK355 := blkB BK355 hb; replace HB := aM (below_step (uL HB) hb); try clear hb))
         go_roundg k2
         case measure => have := HJ3.out; have := HK2.out; omega
         case rel => exact ⟨(wrap64 (x7_2 + 1)), (wrap64 (t359 + 1)), (by first | rfl | (simp; done) | (simp [*]; done)), (by first | rfl | (simp; done) | (simp [*]; done)), H', ⟨by have := HJ3.out; have := HK2.out; omega⟩, ⟨by exact nB BK355.out⟩, ⟨uL HB⟩⟩
       case' L5n =>
        replace c17 := Bool.eq_false_iff.mpr c17
        subst c17
        have H1 : (some x7_2) = some r := by rw [if_neg (show ¬ (false = true) by decide)] at H; exact H
        clear H; have H := H1; clear H1
        obtain rfl := Option.some.inj H
        have hcz23_0 := czA BK355.out 0 (.slice A0_0 l0_0.length c0_0)
        have hcz23_1 := czA BK355.out 1 (.slice A0_1 l0_1.length c0_1)
        have hcz23_2 := czA BK355.out 2 (.slice A0_2 l0_2.length c0_2)
        have hcz23_3 := czA BK355.out 3 (.slice A0_3 l0_3.length c0_3)
        have hcz23_4 := czA BK355.out 4 (.slice A0_4 l0_4.length c0_4)
        have hfz23_0 := blk_frozen BK355.out 0; have hfz23_1 := blk_frozen BK355.out 1; have hfz23_2 := blk_frozen BK355.out 2; have hfz23_3 := blk_frozen BK355.out 3; have hfz23_4 := blk_frozen BK355.out 4
      case' L4n =>
       rw [if_neg c15] at H
       have c15b0 : decide (x8_2 < a2) = false := decide_eq_false c15
       clear c15
       obtain rfl := Option.some.inj H
       go_wp2
       go_ret
       exact rX HB
      case L5p | L5n =>
       go_wp2_with (first | ((with_reducible refine gate_callee (f := 19) rfl ?_); refine gL (some 39) Try.func19 #[.agg #[.slice A0_0 l0_0.length c0_0, .slice A0_1 l0_1.length c0_1, .slice A0_2 l0_2.length c0_2, .slice A0_3 l0_3.length c0_3, .slice A0_4 l0_4.length c0_4], .int .i64 x8_2, .int .i64 20] ?_; (with_reducible refine (impl_nextFire.calls k2 _ _ l0_0 _ _ l0_1 _ _ l0_2 _ _ l0_3 _ _ l0_4 x8_2 20 t359 _ _ ?side1 ?side2 ?side3 ?side4 ?side5 ?side6 ?side7 ?side8 ?side9 ?side10 A16.out).mono ?_); (case side1 => exact uC HR0_0 HB); (case side2 => exact HC0_0.out); (case side3 => exact uC HR0_1 HB); (case side4 => exact HC0_1.out); (case side5 => exact uC HR0_2 HB); (case side6 => exact HC0_2.out); (case side7 => exact uC HR0_3 HB); (case side8 => exact HC0_3.out); (case side9 => exact uC HR0_4 HB); (case side10 => exact HC0_4.out); rintro e w20 ⟨rfl, hb⟩; refine ⟨_, rfl, ?_⟩; replace BK355 := blkB BK355 hb; replace HB := aM (below_step (uL HB) hb); try clear hb))
       go_ret
       exact rX HB

/-! ### spec_l01In: function 20 -/
def spec_l01In.f (a0 : Int) (a1 : Int) (a2 : Int) : Option (Bool) := if a0 ≥ a1 then (some (decide (a0 ≤ a2))) else (some false)
set_option maxHeartbeats 8000000 in
set_option maxRecDepth 100000 in
theorem spec_l01In.calls (a0 : Int) (a1 : Int) (a2 : Int) (r : Bool) (w : World) (h : spec_l01In.f a0 a1 a2 = some r) :
 Calls Try.prog 20 #[.int .i64 a0, .int .i64 a1, .int .i64 a2] w fun e w' => e = .returned (.bool r) ∧ Drawn0 w w' := by
 have H : (if a0 ≥ a1 then (some (decide (a0 ≤ a2))) else (some false)) = some r := h
 clear h
 by_cases c4 : a0 ≥ a1
 ·rw [if_pos c4] at H
  have c4b0 : decide (a1 ≤ a0) = true := decide_eq_true c4
  clear c4
  obtain rfl := Option.some.inj H
  go_enter Try.func20, Try.ntmps20
  go_wp2
  go_ret
  exact ⟨by first | rfl | (simp; done) | (simp [*]; done), by repeat (first | exact Drawn0.refl _ | apply Drawn0.step)⟩
 ·rw [if_neg c4] at H
  have c4b0 : decide (a1 ≤ a0) = false := decide_eq_false c4
  clear c4
  obtain rfl := Option.some.inj H
  go_enter Try.func20, Try.ntmps20
  go_wp2
  go_ret
  exact ⟨by first | rfl | (simp; done) | (simp [*]; done), by repeat (first | exact Drawn0.refl _ | apply Drawn0.step)⟩

end Go.Proofs.Ythomiofokkkhgaa.QFnCounts
