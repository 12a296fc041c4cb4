-- Written by a program of this session's own (wip/turnprint.py over the kit's print); Lean checks it.
import Derived.Test.YtlglildjehcogaaQFnExactCountFiresx0
import Derived.Test.YtlglildjehcogaaQFnExactCountFiresx4
namespace Go.Proofs.Ytlglildjehcogaa.QFnExactCountFires
open Go.RowKit Go.Proofs.YtlglildjehcogaaW.PrintWords Go.Proofs.YtlglildjehcogaaW.PrintLast Go.Proofs.YtlglildjehcogaaW.PrintMore
attribute [local go_sem] max2_int min2_int max_two min_two max_three min_three max_four min_four   -- for this text's walks alone
attribute [local go_sem] Go.Proofs.YtlglildjehcogaaQWords.run_lss_str
attribute [local go_sem] Go.Proofs.YtlglildjehcogaaQWords.run_geq_str
attribute [local go_sem] Go.Proofs.YtlglildjehcogaaQWords.run_leq_str
attribute [local go_sem] Go.Proofs.YtlglildjehcogaaQWords.run_gtr_str
set_option linter.unusedVariables false
set_option linter.unusedSimpArgs false

/-! ### impl_DaysIn: function 44 -/
mutual
def impl_DaysIn.j0 : Nat → Int → Int → Bool → Option (Int)
  | 0, _, _, _ => none
  | k + 1, x0, x5, x6 => if x6 = true then (some 31) else (if x5 = 4 then (impl_DaysIn.j1 k x0 x5 (x5 == 4)) else (if x5 = 6 then (impl_DaysIn.j1 k x0 x5 (x5 == 6)) else (if x5 = 9 then (impl_DaysIn.j1 k x0 x5 (x5 == 9)) else (impl_DaysIn.j1 k x0 x5 (x5 == 11)))))
def impl_DaysIn.j1 : Nat → Int → Int → Bool → Option (Int)
  | 0, _, _, _ => none
  | k + 1, x0, x5, x14 => if x14 = true then (some 30) else (if x5 = 2 then ((impl_LeapYear.f x0).bind fun t190 => (if t190 = true then (some 29) else (some 28))) else (some 0))
end
def impl_DaysIn.f (k : Nat) (a0 : Int) (a1 : Int) : Option (Int) := if a1 = 1 then (impl_DaysIn.j0 k a0 a1 (a1 == 1)) else (if a1 = 3 then (impl_DaysIn.j0 k a0 a1 (a1 == 3)) else (if a1 = 5 then (impl_DaysIn.j0 k a0 a1 (a1 == 5)) else (if a1 = 7 then (impl_DaysIn.j0 k a0 a1 (a1 == 7)) else (if a1 = 8 then (impl_DaysIn.j0 k a0 a1 (a1 == 8)) else (if a1 = 10 then (impl_DaysIn.j0 k a0 a1 (a1 == 10)) else (impl_DaysIn.j0 k a0 a1 (a1 == 12)))))))
theorem impl_DaysIn.mono_l : ∀ k, (∀ y0 y1 y2, LeO (impl_DaysIn.j0 k y0 y1 y2) (impl_DaysIn.j0 (k + 1) y0 y1 y2)) ∧ (∀ y0 y1 y2, LeO (impl_DaysIn.j1 k y0 y1 y2) (impl_DaysIn.j1 (k + 1) y0 y1 y2))
  | 0 => ⟨fun _ _ _ r h => by simp [impl_DaysIn.j0] at h, fun _ _ _ r h => by simp [impl_DaysIn.j1] at h⟩
  | k + 1 => by
    obtain ⟨ih0, ih1⟩ := impl_DaysIn.mono_l k
    refine ⟨?_, ?_⟩
    · intro y0 y1 y2
      unfold impl_DaysIn.j0
      repeat' first
      | (with_reducible exact ih0 _ _ _)
      | (with_reducible exact ih1 _ _ _)
      | (with_reducible exact LeO.refl _)
      | (with_reducible exact LeO.none _)
      | (with_reducible refine LeO.ite ?_ ?_)
      | (with_reducible refine LeO.bind ?_ (fun _ => ?_))
      | exact ih0 _ _ _
      | exact ih1 _ _ _
      | exact LeO.none _
      | refine LeO.ite ?_ ?_
      | refine LeO.bind ?_ (fun _ => ?_)
    · intro y0 y1 y2
      unfold impl_DaysIn.j1
      repeat' first
      | (with_reducible exact ih0 _ _ _)
      | (with_reducible exact ih1 _ _ _)
      | (with_reducible exact LeO.refl _)
      | (with_reducible exact LeO.none _)
      | (with_reducible refine LeO.ite ?_ ?_)
      | (with_reducible refine LeO.bind ?_ (fun _ => ?_))
      | exact ih0 _ _ _
      | exact ih1 _ _ _
      | exact LeO.none _
      | refine LeO.ite ?_ ?_
      | refine LeO.bind ?_ (fun _ => ?_)
theorem impl_DaysIn.mono : ∀ a0 a1 k, LeO (impl_DaysIn.f k a0 a1) (impl_DaysIn.f (k + 1) a0 a1) := by
  intro a0 a1 k
  obtain ⟨ih0, ih1⟩ := impl_DaysIn.mono_l k
  unfold impl_DaysIn.f
  repeat' first
      | (with_reducible exact ih0 _ _ _)
      | (with_reducible exact ih1 _ _ _)
      | (with_reducible exact LeO.refl _)
      | (with_reducible exact LeO.none _)
      | (with_reducible refine LeO.ite ?_ ?_)
      | (with_reducible refine LeO.bind ?_ (fun _ => ?_))
      | exact ih0 _ _ _
      | exact ih1 _ _ _
      | exact LeO.none _
      | refine LeO.ite ?_ ?_
      | refine LeO.bind ?_ (fun _ => ?_)
set_option maxHeartbeats 8000000 in
set_option maxRecDepth 100000 in
theorem impl_DaysIn.calls (k : Nat) (a0 : Int) (a1 : Int) (r : Int) (w : World) (h : impl_DaysIn.f k a0 a1 = some r) :
    Calls Try.prog 44 #[.int .i64 a0, .int .i64 a1] w fun e w' => e = .returned (.int .i64 r) ∧ Drawn0 w w' := by
  have H : (if a1 = 1 then (impl_DaysIn.j0 k a0 a1 (a1 == 1)) else (if a1 = 3 then (impl_DaysIn.j0 k a0 a1 (a1 == 3)) else (if a1 = 5 then (impl_DaysIn.j0 k a0 a1 (a1 == 5)) else (if a1 = 7 then (impl_DaysIn.j0 k a0 a1 (a1 == 7)) else (if a1 = 8 then (impl_DaysIn.j0 k a0 a1 (a1 == 8)) else (if a1 = 10 then (impl_DaysIn.j0 k a0 a1 (a1 == 10)) else (impl_DaysIn.j0 k a0 a1 (a1 == 12)))))))) = some r := h
  clear h
  have HC3 := aM H
  clear H
  go_enter Try.func44, Try.ntmps44
  go_upto_if 6 with (fail)
  go_cut [6] (fun v6 wc => ∃ (kq : Nat) (x6_2 : Bool), v6 = .bool x6_2 ∧ Aside0 (impl_DaysIn.j0 kq a0 a1 x6_2 = some r) ∧ Aside0 (kq ≤ k) ∧ Drawn0 w wc)
  case first =>
    have H := HC3.out
    clear HC3
    by_cases c4 : a1 = 1
    · rw [if_pos c4] at H
      have c4b0 : (a1 == 1) = true := beq_iff_eq.mpr c4
      have c4b1 : (a1 != 1) = false := bne_eq_false_iff_eq.mpr c4
      clear c4
      (first | rw [c4b0] | (simp only [i64_w, i32_w]; rw [c4b0]) | skip)
      have H' := aM H
      clear H
      go_wp2
      go_meet
      case rel => exact ⟨_, ((a1 == 1)), (by first | rfl | (simp; done) | (simp [*]; done)), H', ⟨by first | omega | exact Nat.le_refl _⟩, by repeat (first | exact Drawn0.refl _ | apply Drawn0.step)⟩
    · rw [if_neg c4] at H
      have c4b0 : (a1 == 1) = false := beq_eq_false_iff_ne.mpr c4
      have c4b1 : (a1 != 1) = true := bne_iff_ne.mpr c4
      (first | rw [c4b0] | (simp only [i64_w, i32_w]; rw [c4b0]) | skip)
      by_cases c5 : a1 = 3
      · rw [if_pos c5] at H
        have c5b0 : (a1 == 3) = true := beq_iff_eq.mpr c5
        have c5b1 : (a1 != 3) = false := bne_eq_false_iff_eq.mpr c5
        clear c5
        have H' := aM H
        clear H
        go_wp2
        go_meet
        case rel => exact ⟨_, ((a1 == 3)), (by first | rfl | (simp; done) | (simp [*]; done)), H', ⟨by first | omega | exact Nat.le_refl _⟩, by repeat (first | exact Drawn0.refl _ | apply Drawn0.step)⟩
      · rw [if_neg c5] at H
        have c5b0 : (a1 == 3) = false := beq_eq_false_iff_ne.mpr c5
        have c5b1 : (a1 != 3) = true := bne_iff_ne.mpr c5
        by_cases c6 : a1 = 5
        · rw [if_pos c6] at H
          have c6b0 : (a1 == 5) = true := beq_iff_eq.mpr c6
          have c6b1 : (a1 != 5) = false := bne_eq_false_iff_eq.mpr c6
          clear c6
          have H' := aM H
          clear H
          go_wp2
          go_meet
          case rel => exact ⟨_, ((a1 == 5)), (by first | rfl | (simp; done) | (simp [*]; done)), H', ⟨by first | omega | exact Nat.le_refl _⟩, by repeat (first | exact Drawn0.refl _ | apply Drawn0.step)⟩
        · rw [if_neg c6] at H
          have c6b0 : (a1 == 5) = false := beq_eq_false_iff_ne.mpr c6
          have c6b1 : (a1 != 5) = true := bne_iff_ne.mpr c6
          by_cases c7 : a1 = 7
          · rw [if_pos c7] at H
            have c7b0 : (a1 == 7) = true := beq_iff_eq.mpr c7
            have c7b1 : (a1 != 7) = false := bne_eq_false_iff_eq.mpr c7
            clear c7
            have H' := aM H
            clear H
            go_wp2
            go_meet
            case rel => exact ⟨_, ((a1 == 7)), (by first | rfl | (simp; done) | (simp [*]; done)), H', ⟨by first | omega | exact Nat.le_refl _⟩, by repeat (first | exact Drawn0.refl _ | apply Drawn0.step)⟩
          · rw [if_neg c7] at H
            have c7b0 : (a1 == 7) = false := beq_eq_false_iff_ne.mpr c7
            have c7b1 : (a1 != 7) = true := bne_iff_ne.mpr c7
            by_cases c8 : a1 = 8
            · rw [if_pos c8] at H
              have c8b0 : (a1 == 8) = true := beq_iff_eq.mpr c8
              have c8b1 : (a1 != 8) = false := bne_eq_false_iff_eq.mpr c8
              clear c8
              have H' := aM H
              clear H
              go_wp2
              go_meet
              case rel => exact ⟨_, ((a1 == 8)), (by first | rfl | (simp; done) | (simp [*]; done)), H', ⟨by first | omega | exact Nat.le_refl _⟩, by repeat (first | exact Drawn0.refl _ | apply Drawn0.step)⟩
            · rw [if_neg c8] at H
              have c8b0 : (a1 == 8) = false := beq_eq_false_iff_ne.mpr c8
              have c8b1 : (a1 != 8) = true := bne_iff_ne.mpr c8
              by_cases c9 : a1 = 10
              · rw [if_pos c9] at H
                have c9b0 : (a1 == 10) = true := beq_iff_eq.mpr c9
                have c9b1 : (a1 != 10) = false := bne_eq_false_iff_eq.mpr c9
                clear c9
                have H' := aM H
                clear H
                go_wp2
                go_meet
                case rel => exact ⟨_, ((a1 == 10)), (by first | rfl | (simp; done) | (simp [*]; done)), H', ⟨by first | omega | exact Nat.le_refl _⟩, by repeat (first | exact Drawn0.refl _ | apply Drawn0.step)⟩
              · rw [if_neg c9] at H
                have c9b0 : (a1 == 10) = false := beq_eq_false_iff_ne.mpr c9
                have c9b1 : (a1 != 10) = true := bne_iff_ne.mpr c9
                have H' := aM H
                clear H
                go_wp2
                go_meet
                case rel => exact ⟨_, ((a1 == 12)), (by first | rfl | (simp; done) | (simp [*]; done)), H', ⟨by first | omega | exact Nat.le_refl _⟩, by repeat (first | exact Drawn0.refl _ | apply Drawn0.step)⟩
  case rest =>
    clear HC3
    try clear p2
    try clear c4
    try clear c4b0
    try clear c4b1
    try clear c5
    try clear c5b0
    try clear c5b1
    try clear c6
    try clear c6b0
    try clear c6b1
    try clear c7
    try clear c7b0
    try clear c7b1
    try clear c8
    try clear c8b0
    try clear c8b1
    try clear c9
    try clear c9b0
    try clear c9b1
    obtain ⟨kq, x6_2, rfl, HA, HJ2, ⟨mc2, rfl⟩⟩ := hcut
    cases kq with
    | zero => exact absurd HA.out (by simp [impl_DaysIn.j0])
    | succ kj2 =>
      have H := HA.out
      clear HA
      simp only [impl_DaysIn.j0] at H
      by_cases c10 : x6_2 = true
      · subst c10
        have H1 : (some 31) = some r := by rw [if_pos rfl] at H; exact H
        clear H
        have H := H1
        clear H1
        obtain rfl := Option.some.inj H
        go_wp2
        go_ret
        exact ⟨by first | rfl | (simp; done) | (simp [*]; done), by repeat (first | exact Drawn0.refl _ | apply Drawn0.step)⟩
      · replace c10 := Bool.eq_false_iff.mpr c10
        subst c10
        have H1 : (if a1 = 4 then (impl_DaysIn.j1 kj2 a0 a1 (a1 == 4)) else (if a1 = 6 then (impl_DaysIn.j1 kj2 a0 a1 (a1 == 6)) else (if a1 = 9 then (impl_DaysIn.j1 kj2 a0 a1 (a1 == 9)) else (impl_DaysIn.j1 kj2 a0 a1 (a1 == 11))))) = some r := by rw [if_neg (show ¬ (false = true) by decide)] at H; exact H
        clear H
        have H := H1
        clear H1
        have HC11 := aM H
        clear H
        go_upto_if 14 with (fail)
        go_cut [14] (fun v14 wc => ∃ (kq : Nat) (x14_10 : Bool), v14 = .bool x14_10 ∧ Aside0 (impl_DaysIn.j1 kq a0 a1 x14_10 = some r) ∧ Aside0 (kq ≤ kj2) ∧ Drawn0 w wc)
        case first =>
          have H := HC11.out
          clear HC11
          by_cases c12 : a1 = 4
          · rw [if_pos c12] at H
            have c12b0 : (a1 == 4) = true := beq_iff_eq.mpr c12
            have c12b1 : (a1 != 4) = false := bne_eq_false_iff_eq.mpr c12
            clear c12
            (first | rw [c12b0] | (simp only [i64_w, i32_w]; rw [c12b0]) | skip)
            have H' := aM H
            clear H
            go_wp2
            go_meet
            case rel => exact ⟨_, ((a1 == 4)), (by first | rfl | (simp; done) | (simp [*]; done)), H', ⟨by have := HJ2.out; first | omega | exact Nat.le_refl _⟩, by repeat (first | exact Drawn0.refl _ | apply Drawn0.step)⟩
          · rw [if_neg c12] at H
            have c12b0 : (a1 == 4) = false := beq_eq_false_iff_ne.mpr c12
            have c12b1 : (a1 != 4) = true := bne_iff_ne.mpr c12
            (first | rw [c12b0] | (simp only [i64_w, i32_w]; rw [c12b0]) | skip)
            by_cases c13 : a1 = 6
            · rw [if_pos c13] at H
              have c13b0 : (a1 == 6) = true := beq_iff_eq.mpr c13
              have c13b1 : (a1 != 6) = false := bne_eq_false_iff_eq.mpr c13
              clear c13
              have H' := aM H
              clear H
              go_wp2
              go_meet
              case rel => exact ⟨_, ((a1 == 6)), (by first | rfl | (simp; done) | (simp [*]; done)), H', ⟨by have := HJ2.out; first | omega | exact Nat.le_refl _⟩, by repeat (first | exact Drawn0.refl _ | apply Drawn0.step)⟩
            · rw [if_neg c13] at H
              have c13b0 : (a1 == 6) = false := beq_eq_false_iff_ne.mpr c13
              have c13b1 : (a1 != 6) = true := bne_iff_ne.mpr c13
              by_cases c14 : a1 = 9
              · rw [if_pos c14] at H
                have c14b0 : (a1 == 9) = true := beq_iff_eq.mpr c14
                have c14b1 : (a1 != 9) = false := bne_eq_false_iff_eq.mpr c14
                clear c14
                have H' := aM H
                clear H
                go_wp2
                go_meet
                case rel => exact ⟨_, ((a1 == 9)), (by first | rfl | (simp; done) | (simp [*]; done)), H', ⟨by have := HJ2.out; first | omega | exact Nat.le_refl _⟩, by repeat (first | exact Drawn0.refl _ | apply Drawn0.step)⟩
              · rw [if_neg c14] at H
                have c14b0 : (a1 == 9) = false := beq_eq_false_iff_ne.mpr c14
                have c14b1 : (a1 != 9) = true := bne_iff_ne.mpr c14
                have H' := aM H
                clear H
                go_wp2
                go_meet
                case rel => exact ⟨_, ((a1 == 11)), (by first | rfl | (simp; done) | (simp [*]; done)), H', ⟨by have := HJ2.out; first | omega | exact Nat.le_refl _⟩, by repeat (first | exact Drawn0.refl _ | apply Drawn0.step)⟩
        case rest =>
          clear HC11
          try clear c1
          try clear c2
          try clear p2
          try clear c4
          try clear c4b0
          try clear c4b1
          try clear c5
          try clear c5b0
          try clear c5b1
          try clear c6
          try clear c6b0
          try clear c6b1
          try clear c7
          try clear c7b0
          try clear c7b1
          try clear c8
          try clear c8b0
          try clear c8b1
          try clear c9
          try clear c9b0
          try clear c9b1
          try clear c10
          try clear c12
          try clear c12b0
          try clear c12b1
          try clear c13
          try clear c13b0
          try clear c13b1
          try clear c14
          try clear c14b0
          try clear c14b1
          try clear p2
          obtain ⟨kq, x14_10, rfl, HA, HJ10, ⟨mc10, rfl⟩⟩ := hcut
          cases kq with
          | zero => exact absurd HA.out (by simp [impl_DaysIn.j1])
          | succ kj10 =>
            have H := HA.out
            clear HA
            simp only [impl_DaysIn.j1] at H
            by_cases c15 : x14_10 = true
            · subst c15
              have H1 : (some 30) = some r := by rw [if_pos rfl] at H; exact H
              clear H
              have H := H1
              clear H1
              obtain rfl := Option.some.inj H
              go_wp2
              go_ret
              exact ⟨by first | rfl | (simp; done) | (simp [*]; done), by repeat (first | exact Drawn0.refl _ | apply Drawn0.step)⟩
            · replace c15 := Bool.eq_false_iff.mpr c15
              subst c15
              have H1 : (if a1 = 2 then ((impl_LeapYear.f a0).bind fun t190 => (if t190 = true then (some 29) else (some 28))) else (some 0)) = some r := by rw [if_neg (show ¬ (false = true) by decide)] at H; exact H
              clear H
              have H := H1
              clear H1
              by_cases c16 : a1 = 2
              · rw [if_pos c16] at H
                have c16b0 : (a1 == 2) = true := beq_iff_eq.mpr c16
                have c16b1 : (a1 != 2) = false := bne_eq_false_iff_eq.mpr c16
                clear c16
                replace H := Option.bind_eq_some_iff.mp H
                obtain ⟨t190, A170, H⟩ := H
                replace H : (if t190 = true then (some 29) else (some 28)) = some r := H
                have A17 := aM A170
                clear A170
                by_cases c18 : t190 = true
                · subst c18
                  have H1 : (some 29) = some r := by rw [if_pos rfl] at H; exact H
                  clear H
                  have H := H1
                  clear H1
                  obtain rfl := Option.some.inj H
                  go_wp2_with (first | ((with_reducible refine gate_callee (f := 52) rfl ?_); refine goesL_ (some 22) rfl rfl Try.func52 (by kernel_rfl) rfl #[.int .i64 a0] rfl (by (try simp only [mT, mC, mN]); first | done | rfl | (simp only [lDr, lTk]; rfl)) ?_; (with_reducible refine (impl_LeapYear.calls a0 true _ A17.out).mono ?_); rintro e w' ⟨rfl, ⟨nd, rfl⟩⟩; refine ⟨_, rfl, ?_⟩))
                  go_ret
                  exact ⟨by first | rfl | (simp; done) | (simp [*]; done), by repeat (first | exact Drawn0.refl _ | apply Drawn0.step)⟩
                · replace c18 := Bool.eq_false_iff.mpr c18
                  subst c18
                  have H1 : (some 28) = some r := by rw [if_neg (show ¬ (false = true) by decide)] at H; exact H
                  clear H
                  have H := H1
                  clear H1
                  obtain rfl := Option.some.inj H
                  go_wp2_with (first | ((with_reducible refine gate_callee (f := 52) rfl ?_); refine goesL_ (some 22) rfl rfl Try.func52 (by kernel_rfl) rfl #[.int .i64 a0] rfl (by (try simp only [mT, mC, mN]); first | done | rfl | (simp only [lDr, lTk]; rfl)) ?_; (with_reducible refine (impl_LeapYear.calls a0 false _ A17.out).mono ?_); rintro e w' ⟨rfl, ⟨nd, rfl⟩⟩; refine ⟨_, rfl, ?_⟩))
                  go_ret
                  exact ⟨by first | rfl | (simp; done) | (simp [*]; done), by repeat (first | exact Drawn0.refl _ | apply Drawn0.step)⟩
              · rw [if_neg c16] at H
                have c16b0 : (a1 == 2) = false := beq_eq_false_iff_ne.mpr c16
                have c16b1 : (a1 != 2) = true := bne_iff_ne.mpr c16
                obtain rfl := Option.some.inj H
                go_wp2
                go_ret
                exact ⟨by first | rfl | (simp; done) | (simp [*]; done), by repeat (first | exact Drawn0.refl _ | apply Drawn0.step)⟩

/-! ### impl_CivilOf: function 32 -/
mutual
def impl_CivilOf.l0 : Nat → Int → Int → Int → Int → Int → Int → Option (Int × Int × Int × Int × Int × Bool)
  | 0, _, _, _, _, _, _ => none
  | k + 1, x4, x194000, x194001, x194002, x194003, x194004 => (impl_daysOf.f x194000).bind fun t194 => (if x4 ≥ t194 then ((impl_daysOf.f x194000).bind fun t195 => (impl_CivilOf.l0 k (wrap64 (x4 - t195)) (wrap64 (x194000 + 1)) x194001 x194002 x194003 x194004)) else (impl_CivilOf.l1 k x4 x194000 x194001 x194002 x194003 x194004))
def impl_CivilOf.l1 : Nat → Int → Int → Int → Int → Int → Int → Option (Int × Int × Int × Int × Int × Bool)
  | 0, _, _, _, _, _, _ => none
  | k + 1, x4, x194000, x194001, x194002, x194003, x194004 => (impl_DaysIn.f k x194000 x194001).bind fun t196 => (if x4 ≥ t196 then ((impl_DaysIn.f k x194000 x194001).bind fun t197 => (impl_CivilOf.l1 k (wrap64 (x4 - t197)) x194000 (wrap64 (x194001 + 1)) x194002 x194003 x194004)) else (some (x194000, x194001, wrap64 (x4 + 1), x194003, x194004, true)))
end
def impl_CivilOf.f (k : Nat) (a0 : Int) : Option (Int × Int × Int × Int × Int × Bool) := (impl_isMinute.f a0).bind fun t192 => (if t192 = true then (impl_CivilOf.l0 k (wrap64 (Int.tdiv a0 1440)) 1970 1 0 (wrap64 (Int.tdiv (Int.tmod a0 1440) 60)) (Int.tmod a0 60)) else (some (0, 0, 0, 0, 0, false)))
theorem impl_CivilOf.mono_l : ∀ k, (∀ y0 y1 y2 y3 y4 y5, LeO (impl_CivilOf.l0 k y0 y1 y2 y3 y4 y5) (impl_CivilOf.l0 (k + 1) y0 y1 y2 y3 y4 y5)) ∧ (∀ y0 y1 y2 y3 y4 y5, LeO (impl_CivilOf.l1 k y0 y1 y2 y3 y4 y5) (impl_CivilOf.l1 (k + 1) y0 y1 y2 y3 y4 y5))
  | 0 => ⟨fun _ _ _ _ _ _ r h => by simp [impl_CivilOf.l0] at h, fun _ _ _ _ _ _ r h => by simp [impl_CivilOf.l1] at h⟩
  | k + 1 => by
    obtain ⟨ih0, ih1⟩ := impl_CivilOf.mono_l k
    refine ⟨?_, ?_⟩
    · intro y0 y1 y2 y3 y4 y5
      unfold impl_CivilOf.l0
      repeat' first
      | (with_reducible exact ih0 _ _ _ _ _ _)
      | (with_reducible exact ih1 _ _ _ _ _ _)
      | (with_reducible exact impl_DaysIn.mono _ _ _)
      | (with_reducible exact LeO.refl _)
      | (with_reducible exact LeO.none _)
      | (with_reducible refine LeO.ite ?_ ?_)
      | (with_reducible refine LeO.bind ?_ (fun _ => ?_))
      | exact ih0 _ _ _ _ _ _
      | exact ih1 _ _ _ _ _ _
      | exact impl_DaysIn.mono _ _ _
      | exact LeO.none _
      | refine LeO.ite ?_ ?_
      | refine LeO.bind ?_ (fun _ => ?_)
    · intro y0 y1 y2 y3 y4 y5
      unfold impl_CivilOf.l1
      repeat' first
      | (with_reducible exact ih0 _ _ _ _ _ _)
      | (with_reducible exact ih1 _ _ _ _ _ _)
      | (with_reducible exact impl_DaysIn.mono _ _ _)
      | (with_reducible exact LeO.refl _)
      | (with_reducible exact LeO.none _)
      | (with_reducible refine LeO.ite ?_ ?_)
      | (with_reducible refine LeO.bind ?_ (fun _ => ?_))
      | exact ih0 _ _ _ _ _ _
      | exact ih1 _ _ _ _ _ _
      | exact impl_DaysIn.mono _ _ _
      | exact LeO.none _
      | refine LeO.ite ?_ ?_
      | refine LeO.bind ?_ (fun _ => ?_)
theorem impl_CivilOf.mono : ∀ a0 k, LeO (impl_CivilOf.f k a0) (impl_CivilOf.f (k + 1) a0) := by
  intro a0 k
  obtain ⟨ih0, ih1⟩ := impl_CivilOf.mono_l k
  unfold impl_CivilOf.f
  repeat' first
      | (with_reducible exact ih0 _ _ _ _ _ _)
      | (with_reducible exact ih1 _ _ _ _ _ _)
      | (with_reducible exact impl_DaysIn.mono _ _ _)
      | (with_reducible exact LeO.refl _)
      | (with_reducible exact LeO.none _)
      | (with_reducible refine LeO.ite ?_ ?_)
      | (with_reducible refine LeO.bind ?_ (fun _ => ?_))
      | exact ih0 _ _ _ _ _ _
      | exact ih1 _ _ _ _ _ _
      | exact impl_DaysIn.mono _ _ _
      | exact LeO.none _
      | refine LeO.ite ?_ ?_
      | refine LeO.bind ?_ (fun _ => ?_)
set_option maxHeartbeats 8000000 in
set_option maxRecDepth 100000 in
theorem impl_CivilOf.calls (k : Nat) (a0 : Int) (r1 : Int) (r2 : Int) (r3 : Int) (r4 : Int) (r5 : Int) (r6 : Bool) (w : World) (h : impl_CivilOf.f k a0 = some (r1, r2, r3, r4, r5, r6)) :
    Calls Try.prog 32 #[.int .i64 a0] w fun e w' => e = .returned (.tuple #[.agg #[.int .i64 r1, .int .i64 r2, .int .i64 r3, .int .i64 r4, .int .i64 r5], .bool r6]) ∧ Below w.heap.size w w' := by
  have hu54 := Try.underlying54
  have HB := aM (Below.refl w.heap.size w)
  have H : ((impl_isMinute.f a0).bind fun t192 => (if t192 = true then (impl_CivilOf.l0 k (wrap64 (Int.tdiv a0 1440)) 1970 1 0 (wrap64 (Int.tdiv (Int.tmod a0 1440) 60)) (Int.tmod a0 60)) else (some (0, 0, 0, 0, 0, false)))) = some (r1, r2, r3, r4, r5, r6) := h
  clear h
  replace H := Option.bind_eq_some_iff.mp H
  obtain ⟨t192, A20, H⟩ := H
  replace H : (if t192 = true then (impl_CivilOf.l0 k (wrap64 (Int.tdiv a0 1440)) 1970 1 0 (wrap64 (Int.tdiv (Int.tmod a0 1440) 60)) (Int.tmod a0 60)) else (some (0, 0, 0, 0, 0, false))) = some (r1, r2, r3, r4, r5, r6) := H
  have A2 := aM A20
  clear A20
  by_cases c3 : t192 = true
  · subst c3
    have H1 : (impl_CivilOf.l0 k (wrap64 (Int.tdiv a0 1440)) 1970 1 0 (wrap64 (Int.tdiv (Int.tmod a0 1440) 60)) (Int.tmod a0 60)) = some (r1, r2, r3, r4, r5, r6) := by rw [if_pos rfl] at H; exact H
    clear H
    have H := H1
    clear H1
    have H' := aM H
    clear H
    go_enter Try.func32, Try.ntmps32
    go_wp2_with (first | ((with_reducible refine gate_dst (N := 2) rfl ?_); refine box_event ?hg (N := 2) ?hd (cs := #[.int .i64 0, .int .i64 0, .int .i64 0, .int .i64 0, .int .i64 0]) (t := 54) ?hr ?_; (case hd => rfl); (case hg => rfl); (case hr => first | (go_simp; done) | (go_simp; rfl)); intro gb191 hg w4 hbox hb; have n0_ := aM (below_step (by repeat (first | (with_reducible first | exact HB.out | apply lA | apply lN | apply lD) | exact HB.out)) hb); have n1_ := aM (hbox); have n2_ := aM ((by rw [hg]; exact (below_size (by repeat (first | (with_reducible first | exact HB.out | apply lA | apply lN | apply lD) | exact HB.out))) : w.heap.size ≤ gb191)); have n3_ := aM ((by rw [hg]; exact (below_size (by repeat (first | (with_reducible first | exact HB.out | apply lA | apply lN | apply lD) | exact HB.out))) : w.heap.size ≤ gb191)); clear HB; have HB := n0_; have BK191 := n1_; have GW191 := n2_; have GE191 := n3_; clear n0_ n1_ n2_ n3_; clear hb hbox hg) | ((with_reducible refine gate_callee (f := 36) rfl ?_); refine goesL_ (some 8) rfl rfl Try.func36 (by kernel_rfl) rfl #[.int .i64 a0] rfl (by (try simp only [mT, mC, mN]); first | done | rfl | (simp only [lDr, lTk]; rfl)) ?_; (with_reducible refine (impl_isMinute.calls a0 true _ A2.out).mono ?_); rintro e w' ⟨rfl, ⟨nd, rfl⟩⟩; refine ⟨_, rfl, ?_⟩; (try (rw [drewN_self w4]; generalize hq_ : World.drewN w4 _ = w4; have n0_ : Aside0 (w4.heap[gb191]? = some (.cells #[.int .i64 0, .int .i64 0, .int .i64 0, .int .i64 0, .int .i64 0] 54 (0, 0))) := ⟨by rw [← hq_]; exact (by (with_reducible repeat first | apply bN | apply bD | apply bA); exact BK191.out)⟩; have n1_ : Aside0 (Below w.heap.size w w4) := ⟨by rw [← hq_]; exact (by repeat (first | (with_reducible first | exact HB.out | apply lA | apply lN | apply lD | refine lS ?_ GE191.out) | exact HB.out))⟩; clear BK191 HB hq_; have BK191 := n0_; have HB := n1_; clear n0_ n1_))) | ((with_reducible refine gate_dst (N := 6) rfl ?_); refine box_event ?hg (N := 6) ?hd (cs := #[.int .i64 0, .int .i64 0, .int .i64 0, .int .i64 0, .int .i64 0]) (t := 54) ?hr ?_; (case hd => rfl); (case hg => rfl); (case hr => first | (go_simp; done) | (go_simp; rfl)); intro gb193 hg w5 hbox hb; have n0_ := aM (blk_below (g := gb191) (o := .cells #[.int .i64 0, .int .i64 0, .int .i64 0, .int .i64 0, .int .i64 0] 54 (0, 0)) (by (with_reducible repeat first | apply bN | apply bD | apply bA); exact BK191.out) hb); have n1_ := aM (below_step (by repeat (first | (with_reducible first | exact HB.out | apply lA | apply lN | apply lD | refine lS ?_ GE191.out) | exact HB.out)) hb); have n2_ := aM (hbox); have n3_ := aM ((by rw [hg]; exact (below_size (by repeat (first | (with_reducible first | exact HB.out | apply lA | apply lN | apply lD | refine lS ?_ GE191.out) | exact HB.out))) : w.heap.size ≤ gb193)); have n4_ := aM ((by rw [hg]; exact (below_size (by repeat (first | (with_reducible first | exact HB.out | apply lA | apply lN | apply lD | refine lS ?_ GE191.out) | exact HB.out))) : w.heap.size ≤ gb193)); have n5_ := aM ((by rw [hg]; exact Nat.ne_of_lt (blk_lt (g := gb191) (o := .cells #[.int .i64 0, .int .i64 0, .int .i64 0, .int .i64 0, .int .i64 0] 54 (0, 0)) (by (with_reducible repeat first | apply bN | apply bD | apply bA); exact BK191.out)) : gb191 ≠ gb193)); have n6_ := aM ((by rw [hg]; exact Nat.ne_of_gt (blk_lt (g := gb191) (o := .cells #[.int .i64 0, .int .i64 0, .int .i64 0, .int .i64 0, .int .i64 0] 54 (0, 0)) (by (with_reducible repeat first | apply bN | apply bD | apply bA); exact BK191.out)) : gb193 ≠ gb191)); clear BK191; clear HB; have BK191 := n0_; have HB := n1_; have BK193 := n2_; have GW193 := n3_; have GE193 := n4_; have NB191_193 := n5_; have NB193_191 := n6_; clear n0_ n1_ n2_ n3_ n4_ n5_ n6_; clear hb hbox hg; have hnb6 := NB193_191.out; have hnc6 := NB191_193.out; have hcz7_0 : w5.cell? ⟨gb193, 0, none⟩ = some (.int .i64 0) := (blk_cell BK193.out 0).trans rfl; have hcz7_1 : w5.cell? ⟨gb193, 1, none⟩ = some (.int .i64 0) := (blk_cell BK193.out 1).trans rfl; have hcz7_2 : w5.cell? ⟨gb193, 2, none⟩ = some (.int .i64 0) := (blk_cell BK193.out 2).trans rfl; have hcz7_3 : w5.cell? ⟨gb193, 3, none⟩ = some (.int .i64 0) := (blk_cell BK193.out 3).trans rfl; have hcz7_4 : w5.cell? ⟨gb193, 4, none⟩ = some (.int .i64 0) := (blk_cell BK193.out 4).trans rfl; have hfz7_0 := blk_frozen BK193.out 0; have hfz7_1 := blk_frozen BK193.out 1; have hfz7_2 := blk_frozen BK193.out 2; have hfz7_3 := blk_frozen BK193.out 3; have hfz7_4 := blk_frozen BK193.out 4))
    go_loopg [4] k (fun kq v4 w' => ∃ (x4_1 : Int) (x194000_1 : Int), v4 = .int .i64 x4_1 ∧ Aside0 (impl_CivilOf.l0 kq x4_1 x194000_1 1 0 (wrap64 (Int.tdiv (Int.tmod a0 1440) 60)) (Int.tmod a0 60) = some (r1, r2, r3, r4, r5, r6)) ∧ Aside0 (kq ≤ k) ∧ Aside0 (w'.heap[gb191]? = some (.cells #[.int .i64 0, .int .i64 0, .int .i64 0, .int .i64 0, .int .i64 0] 54 (0, 0))) ∧ Aside0 (w'.heap[gb193]? = some (.cells #[.int .i64 x194000_1, .int .i64 1, .int .i64 0, .int .i64 (wrap64 (Int.tdiv (Int.tmod a0 1440) 60)), .int .i64 (Int.tmod a0 60)] 54 (0, 0))) ∧ Aside0 (Below w.heap.size w w'))
    case atStart => exact ⟨(wrap64 (Int.tdiv a0 1440)), (1970), (by first | rfl | (simp; done) | (simp [*]; done)), H', ⟨Nat.le_refl _⟩, ⟨by (with_reducible repeat first | apply bN | apply bD | apply bA); refine blk_far ?_ NB191_193.out _; (with_reducible repeat first | apply bN | apply bD | apply bA); refine blk_far ?_ NB191_193.out _; (with_reducible repeat first | apply bN | apply bD | apply bA); refine blk_far ?_ NB191_193.out _; (with_reducible repeat first | apply bN | apply bD | apply bA); refine blk_far ?_ NB191_193.out _; (with_reducible repeat first | apply bN | apply bD | apply bA); refine blk_far ?_ NB191_193.out _; (with_reducible repeat first | apply bN | apply bD | apply bA); exact BK191.out⟩, ⟨by (with_reducible repeat first | apply bN | apply bD | apply bA); refine blk_put (cs := #[.int .i64 1970, .int .i64 1, .int .i64 0, .int .i64 (wrap64 (Int.tdiv (Int.tmod a0 1440) 60)), .int .i64 0]) ?_ 4 _ rfl; (with_reducible repeat first | apply bN | apply bD | apply bA); refine blk_put (cs := #[.int .i64 1970, .int .i64 1, .int .i64 0, .int .i64 0, .int .i64 0]) ?_ 3 _ rfl; (with_reducible repeat first | apply bN | apply bD | apply bA); refine blk_put (cs := #[.int .i64 1970, .int .i64 1, .int .i64 0, .int .i64 0, .int .i64 0]) ?_ 2 _ rfl; (with_reducible repeat first | apply bN | apply bD | apply bA); refine blk_put (cs := #[.int .i64 1970, .int .i64 0, .int .i64 0, .int .i64 0, .int .i64 0]) ?_ 1 _ rfl; (with_reducible repeat first | apply bN | apply bD | apply bA); refine blk_put (cs := #[.int .i64 0, .int .i64 0, .int .i64 0, .int .i64 0, .int .i64 0]) ?_ 0 _ rfl; (with_reducible repeat first | apply bN | apply bD | apply bA); exact BK193.out⟩, ⟨by repeat (first | (with_reducible first | exact HB.out | apply lA | apply lN | apply lD | refine lS ?_ GE191.out | refine lS ?_ GE193.out) | exact HB.out)⟩⟩
    case round =>
      clear H'
      try clear p2
      try clear c3
      try clear c6
      try clear p6
      try clear hcz7_0
      try clear hcz7_1
      try clear hcz7_2
      try clear hcz7_3
      try clear hcz7_4
      try clear hfz7_0
      try clear hfz7_1
      try clear hfz7_2
      try clear hfz7_3
      try clear hfz7_4
      obtain ⟨x4_1, x194000_1, rfl, HA, HK1, BK191, BK193, HB⟩ := hrel
      cases gk with
      | zero => exact absurd HA.out (by simp [impl_CivilOf.l0])
      | succ k1 =>
        have H := HA.out
        clear HA
        simp only [impl_CivilOf.l0] at H
        replace H := Option.bind_eq_some_iff.mp H
        obtain ⟨t194, A80, H⟩ := H
        replace H : (if x4_1 ≥ t194 then ((impl_daysOf.f x194000_1).bind fun t195 => (impl_CivilOf.l0 k1 (wrap64 (x4_1 - t195)) (wrap64 (x194000_1 + 1)) 1 0 (wrap64 (Int.tdiv (Int.tmod a0 1440) 60)) (Int.tmod a0 60))) else (impl_CivilOf.l1 k1 x4_1 x194000_1 1 0 (wrap64 (Int.tdiv (Int.tmod a0 1440) 60)) (Int.tmod a0 60))) = some (r1, r2, r3, r4, r5, r6) := H
        have A8 := aM A80
        clear A80
        by_cases c9 : x4_1 ≥ t194
        · rw [if_pos c9] at H
          have c9b0 : decide (t194 ≤ x4_1) = true := decide_eq_true c9
          clear c9
          replace H := Option.bind_eq_some_iff.mp H
          obtain ⟨t195, A100, H⟩ := H
          replace H : (impl_CivilOf.l0 k1 (wrap64 (x4_1 - t195)) (wrap64 (x194000_1 + 1)) 1 0 (wrap64 (Int.tdiv (Int.tmod a0 1440) 60)) (Int.tmod a0 60)) = some (r1, r2, r3, r4, r5, r6) := H
          have A10 := aM A100
          clear A100
          have H' := aM H
          clear H
          have hnb11 := NB193_191.out
          have hnc11 := NB191_193.out
          have hcz12_0 : wr.cell? ⟨gb193, 0, none⟩ = some (.int .i64 x194000_1) := (blk_cell BK193.out 0).trans rfl
          have hcz12_1 : wr.cell? ⟨gb193, 1, none⟩ = some (.int .i64 1) := (blk_cell BK193.out 1).trans rfl
          have hcz12_2 : wr.cell? ⟨gb193, 2, none⟩ = some (.int .i64 0) := (blk_cell BK193.out 2).trans rfl
          have hcz12_3 : wr.cell? ⟨gb193, 3, none⟩ = some (.int .i64 (wrap64 (Int.tdiv (Int.tmod a0 1440) 60))) := (blk_cell BK193.out 3).trans rfl
          have hcz12_4 : wr.cell? ⟨gb193, 4, none⟩ = some (.int .i64 (Int.tmod a0 60)) := (blk_cell BK193.out 4).trans rfl
          have hfz12_0 := blk_frozen BK193.out 0
          have hfz12_1 := blk_frozen BK193.out 1
          have hfz12_2 := blk_frozen BK193.out 2
          have hfz12_3 := blk_frozen BK193.out 3
          have hfz12_4 := blk_frozen BK193.out 4
          go_wp2_with (first | ((with_reducible refine gate_callee (f := 43) rfl ?_); refine goesL_ (some 23) rfl rfl Try.func43 (by kernel_rfl) rfl #[.int .i64 x194000_1] rfl (by (try simp only [mT, mC, mN]); first | done | rfl | (simp only [lDr, lTk]; rfl)) ?_; (with_reducible refine (impl_daysOf.calls x194000_1 t194 _ A8.out).mono ?_); rintro e w' ⟨rfl, ⟨nd, rfl⟩⟩; refine ⟨_, rfl, ?_⟩; (try (rw [drewN_self wr]; generalize hq_ : World.drewN wr _ = wr; have n0_ : Aside0 (wr.heap[gb191]? = some (.cells #[.int .i64 0, .int .i64 0, .int .i64 0, .int .i64 0, .int .i64 0] 54 (0, 0))) := ⟨by rw [← hq_]; exact (by (with_reducible repeat first | apply bN | apply bD | apply bA); exact BK191.out)⟩; have n1_ : Aside0 (wr.heap[gb193]? = some (.cells #[.int .i64 x194000_1, .int .i64 1, .int .i64 0, .int .i64 (wrap64 (Int.tdiv (Int.tmod a0 1440) 60)), .int .i64 (Int.tmod a0 60)] 54 (0, 0))) := ⟨by rw [← hq_]; exact (by (with_reducible repeat first | apply bN | apply bD | apply bA); exact BK193.out)⟩; have n2_ : Aside0 (Below w.heap.size w wr) := ⟨by rw [← hq_]; exact (by repeat (first | (with_reducible first | exact HB.out | apply lA | apply lN | apply lD | refine lS ?_ GE191.out | refine lS ?_ GE193.out) | exact HB.out))⟩; clear BK191 BK193 HB hq_; have BK191 := n0_; have BK193 := n1_; have HB := n2_; clear n0_ n1_ n2_)); (try clear hcz12_0 hfz12_0 hcz12_1 hfz12_1 hcz12_2 hfz12_2 hcz12_3 hfz12_3 hcz12_4 hfz12_4); (try have hcz12_0 : wr.cell? ⟨gb193, 0, none⟩ = some (.int .i64 x194000_1) := (blk_cell BK193.out 0).trans rfl); (try have hfz12_0 := blk_frozen BK193.out 0); (try have hcz12_1 : wr.cell? ⟨gb193, 1, none⟩ = some (.int .i64 1) := (blk_cell BK193.out 1).trans rfl); (try have hfz12_1 := blk_frozen BK193.out 1); (try have hcz12_2 : wr.cell? ⟨gb193, 2, none⟩ = some (.int .i64 0) := (blk_cell BK193.out 2).trans rfl); (try have hfz12_2 := blk_frozen BK193.out 2); (try have hcz12_3 : wr.cell? ⟨gb193, 3, none⟩ = some (.int .i64 (wrap64 (Int.tdiv (Int.tmod a0 1440) 60))) := (blk_cell BK193.out 3).trans rfl); (try have hfz12_3 := blk_frozen BK193.out 3); (try have hcz12_4 : wr.cell? ⟨gb193, 4, none⟩ = some (.int .i64 (Int.tmod a0 60)) := (blk_cell BK193.out 4).trans rfl); (try have hfz12_4 := blk_frozen BK193.out 4)) | ((with_reducible refine gate_callee (f := 43) rfl ?_); refine goesL_ (some 28) rfl rfl Try.func43 (by kernel_rfl) rfl #[.int .i64 x194000_1] rfl (by (try simp only [mT, mC, mN]); first | done | rfl | (simp only [lDr, lTk]; rfl)) ?_; (with_reducible refine (impl_daysOf.calls x194000_1 t195 _ A10.out).mono ?_); rintro e w' ⟨rfl, ⟨nd, rfl⟩⟩; refine ⟨_, rfl, ?_⟩; (try (rw [drewN_self wr]; generalize hq_ : World.drewN wr _ = wr; have n0_ : Aside0 (wr.heap[gb191]? = some (.cells #[.int .i64 0, .int .i64 0, .int .i64 0, .int .i64 0, .int .i64 0] 54 (0, 0))) := ⟨by rw [← hq_]; exact (by (with_reducible repeat first | apply bN | apply bD | apply bA); exact BK191.out)⟩; have n1_ : Aside0 (wr.heap[gb193]? = some (.cells #[.int .i64 x194000_1, .int .i64 1, .int .i64 0, .int .i64 (wrap64 (Int.tdiv (Int.tmod a0 1440) 60)), .int .i64 (Int.tmod a0 60)] 54 (0, 0))) := ⟨by rw [← hq_]; exact (by (with_reducible repeat first | apply bN | apply bD | apply bA); exact BK193.out)⟩; have n2_ : Aside0 (Below w.heap.size w wr) := ⟨by rw [← hq_]; exact (by repeat (first | (with_reducible first | exact HB.out | apply lA | apply lN | apply lD | refine lS ?_ GE191.out | refine lS ?_ GE193.out) | exact HB.out))⟩; clear BK191 BK193 HB hq_; have BK191 := n0_; have BK193 := n1_; have HB := n2_; clear n0_ n1_ n2_)); (try clear hcz12_0 hfz12_0 hcz12_1 hfz12_1 hcz12_2 hfz12_2 hcz12_3 hfz12_3 hcz12_4 hfz12_4); (try have hcz12_0 : wr.cell? ⟨gb193, 0, none⟩ = some (.int .i64 x194000_1) := (blk_cell BK193.out 0).trans rfl); (try have hfz12_0 := blk_frozen BK193.out 0); (try have hcz12_1 : wr.cell? ⟨gb193, 1, none⟩ = some (.int .i64 1) := (blk_cell BK193.out 1).trans rfl); (try have hfz12_1 := blk_frozen BK193.out 1); (try have hcz12_2 : wr.cell? ⟨gb193, 2, none⟩ = some (.int .i64 0) := (blk_cell BK193.out 2).trans rfl); (try have hfz12_2 := blk_frozen BK193.out 2); (try have hcz12_3 : wr.cell? ⟨gb193, 3, none⟩ = some (.int .i64 (wrap64 (Int.tdiv (Int.tmod a0 1440) 60))) := (blk_cell BK193.out 3).trans rfl); (try have hfz12_3 := blk_frozen BK193.out 3); (try have hcz12_4 : wr.cell? ⟨gb193, 4, none⟩ = some (.int .i64 (Int.tmod a0 60)) := (blk_cell BK193.out 4).trans rfl); (try have hfz12_4 := blk_frozen BK193.out 4)))
          go_roundg k1
          case measure => have := HK1.out; omega
          case rel => exact ⟨(wrap64 (x4_1 - t195)), (wrap64 (x194000_1 + 1)), (by first | rfl | (simp; done) | (simp [*]; done)), H', ⟨by have := HK1.out; omega⟩, ⟨by (with_reducible repeat first | apply bN | apply bD | apply bA); refine blk_far ?_ NB191_193.out _; (with_reducible repeat first | apply bN | apply bD | apply bA); exact BK191.out⟩, ⟨by (with_reducible repeat first | apply bN | apply bD | apply bA); refine blk_put (cs := #[.int .i64 x194000_1, .int .i64 1, .int .i64 0, .int .i64 (wrap64 (Int.tdiv (Int.tmod a0 1440) 60)), .int .i64 (Int.tmod a0 60)]) ?_ 0 _ rfl; (with_reducible repeat first | apply bN | apply bD | apply bA); exact BK193.out⟩, ⟨by repeat (first | (with_reducible first | exact HB.out | apply lA | apply lN | apply lD | refine lS ?_ GE191.out | refine lS ?_ GE193.out) | exact HB.out)⟩⟩
        · rw [if_neg c9] at H
          have c9b0 : decide (t194 ≤ x4_1) = false := decide_eq_false c9
          clear c9
          have H' := aM H
          clear H
          have hnb13 := NB193_191.out
          have hnc13 := NB191_193.out
          have hcz14_0 : wr.cell? ⟨gb193, 0, none⟩ = some (.int .i64 x194000_1) := (blk_cell BK193.out 0).trans rfl
          have hcz14_1 : wr.cell? ⟨gb193, 1, none⟩ = some (.int .i64 1) := (blk_cell BK193.out 1).trans rfl
          have hcz14_2 : wr.cell? ⟨gb193, 2, none⟩ = some (.int .i64 0) := (blk_cell BK193.out 2).trans rfl
          have hcz14_3 : wr.cell? ⟨gb193, 3, none⟩ = some (.int .i64 (wrap64 (Int.tdiv (Int.tmod a0 1440) 60))) := (blk_cell BK193.out 3).trans rfl
          have hcz14_4 : wr.cell? ⟨gb193, 4, none⟩ = some (.int .i64 (Int.tmod a0 60)) := (blk_cell BK193.out 4).trans rfl
          have hfz14_0 := blk_frozen BK193.out 0
          have hfz14_1 := blk_frozen BK193.out 1
          have hfz14_2 := blk_frozen BK193.out 2
          have hfz14_3 := blk_frozen BK193.out 3
          have hfz14_4 := blk_frozen BK193.out 4
          go_wp2_with (first | ((with_reducible refine gate_callee (f := 43) rfl ?_); refine goesL_ (some 23) rfl rfl Try.func43 (by kernel_rfl) rfl #[.int .i64 x194000_1] rfl (by (try simp only [mT, mC, mN]); first | done | rfl | (simp only [lDr, lTk]; rfl)) ?_; (with_reducible refine (impl_daysOf.calls x194000_1 t194 _ A8.out).mono ?_); rintro e w' ⟨rfl, ⟨nd, rfl⟩⟩; refine ⟨_, rfl, ?_⟩))
          go_loopg [4] k1 (fun kq v4 w' => ∃ (x4_2 : Int) (x194001_2 : Int), v4 = .int .i64 x4_2 ∧ Aside0 (impl_CivilOf.l1 kq x4_2 x194000_1 x194001_2 0 (wrap64 (Int.tdiv (Int.tmod a0 1440) 60)) (Int.tmod a0 60) = some (r1, r2, r3, r4, r5, r6)) ∧ Aside0 (kq ≤ k1) ∧ Aside0 (w'.heap[gb191]? = some (.cells #[.int .i64 0, .int .i64 0, .int .i64 0, .int .i64 0, .int .i64 0] 54 (0, 0))) ∧ Aside0 (w'.heap[gb193]? = some (.cells #[.int .i64 x194000_1, .int .i64 x194001_2, .int .i64 0, .int .i64 (wrap64 (Int.tdiv (Int.tmod a0 1440) 60)), .int .i64 (Int.tmod a0 60)] 54 (0, 0))) ∧ Aside0 (Below w.heap.size w w'))
          case atStart => exact ⟨(x4_1), (1), (by first | rfl | (simp; done) | (simp [*]; done)), H', ⟨Nat.le_refl _⟩, ⟨by (with_reducible repeat first | apply bN | apply bD | apply bA); exact BK191.out⟩, ⟨by (with_reducible repeat first | apply bN | apply bD | apply bA); exact BK193.out⟩, ⟨by repeat (first | (with_reducible first | exact HB.out | apply lA | apply lN | apply lD | refine lS ?_ GE191.out | refine lS ?_ GE193.out) | exact HB.out)⟩⟩
          case round =>
            clear H'
            try clear c1
            try clear p2
            try clear c3
            try clear c4
            try clear c6
            try clear p6
            try clear c9
            try clear c9b0
            try clear c11
            try clear c13
            try clear hcz12_0
            try clear hcz12_1
            try clear hcz12_2
            try clear hcz12_3
            try clear hcz12_4
            try clear hcz14_0
            try clear hcz14_1
            try clear hcz14_2
            try clear hcz14_3
            try clear hcz14_4
            try clear hcz7_0
            try clear hcz7_1
            try clear hcz7_2
            try clear hcz7_3
            try clear hcz7_4
            try clear hfz12_0
            try clear hfz12_1
            try clear hfz12_2
            try clear hfz12_3
            try clear hfz12_4
            try clear hfz14_0
            try clear hfz14_1
            try clear hfz14_2
            try clear hfz14_3
            try clear hfz14_4
            try clear hfz7_0
            try clear hfz7_1
            try clear hfz7_2
            try clear hfz7_3
            try clear hfz7_4
            try clear p2
            try clear p6
            obtain ⟨x4_2, x194001_2, rfl, HA, HK2, BK191, BK193, HB⟩ := hrel
            cases gk with
            | zero => exact absurd HA.out (by simp [impl_CivilOf.l1])
            | succ k2 =>
              have H := HA.out
              clear HA
              simp only [impl_CivilOf.l1] at H
              replace H := Option.bind_eq_some_iff.mp H
              obtain ⟨t196, A150, H⟩ := H
              replace H : (if x4_2 ≥ t196 then ((impl_DaysIn.f k2 x194000_1 x194001_2).bind fun t197 => (impl_CivilOf.l1 k2 (wrap64 (x4_2 - t197)) x194000_1 (wrap64 (x194001_2 + 1)) 0 (wrap64 (Int.tdiv (Int.tmod a0 1440) 60)) (Int.tmod a0 60))) else (some (x194000_1, x194001_2, wrap64 (x4_2 + 1), (wrap64 (Int.tdiv (Int.tmod a0 1440) 60)), (Int.tmod a0 60), true))) = some (r1, r2, r3, r4, r5, r6) := H
              have A15 := aM A150
              clear A150
              by_cases c16 : x4_2 ≥ t196
              · rw [if_pos c16] at H
                have c16b0 : decide (t196 ≤ x4_2) = true := decide_eq_true c16
                clear c16
                replace H := Option.bind_eq_some_iff.mp H
                obtain ⟨t197, A170, H⟩ := H
                replace H : (impl_CivilOf.l1 k2 (wrap64 (x4_2 - t197)) x194000_1 (wrap64 (x194001_2 + 1)) 0 (wrap64 (Int.tdiv (Int.tmod a0 1440) 60)) (Int.tmod a0 60)) = some (r1, r2, r3, r4, r5, r6) := H
                have A17 := aM A170
                clear A170
                have H' := aM H
                clear H
                have hnb18 := NB193_191.out
                have hnc18 := NB191_193.out
                have hcz19_0 : wr.cell? ⟨gb193, 0, none⟩ = some (.int .i64 x194000_1) := (blk_cell BK193.out 0).trans rfl
                have hcz19_1 : wr.cell? ⟨gb193, 1, none⟩ = some (.int .i64 x194001_2) := (blk_cell BK193.out 1).trans rfl
                have hcz19_2 : wr.cell? ⟨gb193, 2, none⟩ = some (.int .i64 0) := (blk_cell BK193.out 2).trans rfl
                have hcz19_3 : wr.cell? ⟨gb193, 3, none⟩ = some (.int .i64 (wrap64 (Int.tdiv (Int.tmod a0 1440) 60))) := (blk_cell BK193.out 3).trans rfl
                have hcz19_4 : wr.cell? ⟨gb193, 4, none⟩ = some (.int .i64 (Int.tmod a0 60)) := (blk_cell BK193.out 4).trans rfl
                have hfz19_0 := blk_frozen BK193.out 0
                have hfz19_1 := blk_frozen BK193.out 1
                have hfz19_2 := blk_frozen BK193.out 2
                have hfz19_3 := blk_frozen BK193.out 3
                have hfz19_4 := blk_frozen BK193.out 4
                go_wp2_with (first | ((with_reducible refine gate_callee (f := 44) rfl ?_); refine goesL_ (some 39) rfl rfl Try.func44 (by kernel_rfl) rfl #[.int .i64 x194000_1, .int .i64 x194001_2] rfl (by (try simp only [mT, mC, mN]); first | done | rfl | (simp only [lDr, lTk]; rfl)) ?_; (with_reducible refine (impl_DaysIn.calls k2 x194000_1 x194001_2 t196 _ A15.out).mono ?_); rintro e w' ⟨rfl, ⟨nd, rfl⟩⟩; refine ⟨_, rfl, ?_⟩; (try (rw [drewN_self wr]; generalize hq_ : World.drewN wr _ = wr; have n0_ : Aside0 (wr.heap[gb191]? = some (.cells #[.int .i64 0, .int .i64 0, .int .i64 0, .int .i64 0, .int .i64 0] 54 (0, 0))) := ⟨by rw [← hq_]; exact (by (with_reducible repeat first | apply bN | apply bD | apply bA); exact BK191.out)⟩; have n1_ : Aside0 (wr.heap[gb193]? = some (.cells #[.int .i64 x194000_1, .int .i64 x194001_2, .int .i64 0, .int .i64 (wrap64 (Int.tdiv (Int.tmod a0 1440) 60)), .int .i64 (Int.tmod a0 60)] 54 (0, 0))) := ⟨by rw [← hq_]; exact (by (with_reducible repeat first | apply bN | apply bD | apply bA); exact BK193.out)⟩; have n2_ : Aside0 (Below w.heap.size w wr) := ⟨by rw [← hq_]; exact (by repeat (first | (with_reducible first | exact HB.out | apply lA | apply lN | apply lD | refine lS ?_ GE191.out | refine lS ?_ GE193.out) | exact HB.out))⟩; clear BK191 BK193 HB hq_; have BK191 := n0_; have BK193 := n1_; have HB := n2_; clear n0_ n1_ n2_)); (try clear hcz19_0 hfz19_0 hcz19_1 hfz19_1 hcz19_2 hfz19_2 hcz19_3 hfz19_3 hcz19_4 hfz19_4); (try have hcz19_0 : wr.cell? ⟨gb193, 0, none⟩ = some (.int .i64 x194000_1) := (blk_cell BK193.out 0).trans rfl); (try have hfz19_0 := blk_frozen BK193.out 0); (try have hcz19_1 : wr.cell? ⟨gb193, 1, none⟩ = some (.int .i64 x194001_2) := (blk_cell BK193.out 1).trans rfl); (try have hfz19_1 := blk_frozen BK193.out 1); (try have hcz19_2 : wr.cell? ⟨gb193, 2, none⟩ = some (.int .i64 0) := (blk_cell BK193.out 2).trans rfl); (try have hfz19_2 := blk_frozen BK193.out 2); (try have hcz19_3 : wr.cell? ⟨gb193, 3, none⟩ = some (.int .i64 (wrap64 (Int.tdiv (Int.tmod a0 1440) 60))) := (blk_cell BK193.out 3).trans rfl); (try have hfz19_3 := blk_frozen BK193.out 3); (try have hcz19_4 : wr.cell? ⟨gb193, 4, none⟩ = some (.int .i64 (Int.tmod a0 60)) := (blk_cell BK193.out 4).trans rfl); (try have hfz19_4 := blk_frozen BK193.out 4)) | ((with_reducible refine gate_callee (f := 44) rfl ?_); refine goesL_ (some 46) rfl rfl Try.func44 (by kernel_rfl) rfl #[.int .i64 x194000_1, .int .i64 x194001_2] rfl (by (try simp only [mT, mC, mN]); first | done | rfl | (simp only [lDr, lTk]; rfl)) ?_; (with_reducible refine (impl_DaysIn.calls k2 x194000_1 x194001_2 t197 _ A17.out).mono ?_); rintro e w' ⟨rfl, ⟨nd, rfl⟩⟩; refine ⟨_, rfl, ?_⟩; (try (rw [drewN_self wr]; generalize hq_ : World.drewN wr _ = wr; have n0_ : Aside0 (wr.heap[gb191]? = some (.cells #[.int .i64 0, .int .i64 0, .int .i64 0, .int .i64 0, .int .i64 0] 54 (0, 0))) := ⟨by rw [← hq_]; exact (by (with_reducible repeat first | apply bN | apply bD | apply bA); exact BK191.out)⟩; have n1_ : Aside0 (wr.heap[gb193]? = some (.cells #[.int .i64 x194000_1, .int .i64 x194001_2, .int .i64 0, .int .i64 (wrap64 (Int.tdiv (Int.tmod a0 1440) 60)), .int .i64 (Int.tmod a0 60)] 54 (0, 0))) := ⟨by rw [← hq_]; exact (by (with_reducible repeat first | apply bN | apply bD | apply bA); exact BK193.out)⟩; have n2_ : Aside0 (Below w.heap.size w wr) := ⟨by rw [← hq_]; exact (by repeat (first | (with_reducible first | exact HB.out | apply lA | apply lN | apply lD | refine lS ?_ GE191.out | refine lS ?_ GE193.out) | exact HB.out))⟩; clear BK191 BK193 HB hq_; have BK191 := n0_; have BK193 := n1_; have HB := n2_; clear n0_ n1_ n2_)); (try clear hcz19_0 hfz19_0 hcz19_1 hfz19_1 hcz19_2 hfz19_2 hcz19_3 hfz19_3 hcz19_4 hfz19_4); (try have hcz19_0 : wr.cell? ⟨gb193, 0, none⟩ = some (.int .i64 x194000_1) := (blk_cell BK193.out 0).trans rfl); (try have hfz19_0 := blk_frozen BK193.out 0); (try have hcz19_1 : wr.cell? ⟨gb193, 1, none⟩ = some (.int .i64 x194001_2) := (blk_cell BK193.out 1).trans rfl); (try have hfz19_1 := blk_frozen BK193.out 1); (try have hcz19_2 : wr.cell? ⟨gb193, 2, none⟩ = some (.int .i64 0) := (blk_cell BK193.out 2).trans rfl); (try have hfz19_2 := blk_frozen BK193.out 2); (try have hcz19_3 : wr.cell? ⟨gb193, 3, none⟩ = some (.int .i64 (wrap64 (Int.tdiv (Int.tmod a0 1440) 60))) := (blk_cell BK193.out 3).trans rfl); (try have hfz19_3 := blk_frozen BK193.out 3); (try have hcz19_4 : wr.cell? ⟨gb193, 4, none⟩ = some (.int .i64 (Int.tmod a0 60)) := (blk_cell BK193.out 4).trans rfl); (try have hfz19_4 := blk_frozen BK193.out 4)))
                go_roundg k2
                case measure => have := HK1.out; have := HK2.out; omega
                case rel => exact ⟨(wrap64 (x4_2 - t197)), (wrap64 (x194001_2 + 1)), (by first | rfl | (simp; done) | (simp [*]; done)), H', ⟨by have := HK1.out; have := HK2.out; omega⟩, ⟨by (with_reducible repeat first | apply bN | apply bD | apply bA); refine blk_far ?_ NB191_193.out _; (with_reducible repeat first | apply bN | apply bD | apply bA); exact BK191.out⟩, ⟨by (with_reducible repeat first | apply bN | apply bD | apply bA); refine blk_put (cs := #[.int .i64 x194000_1, .int .i64 x194001_2, .int .i64 0, .int .i64 (wrap64 (Int.tdiv (Int.tmod a0 1440) 60)), .int .i64 (Int.tmod a0 60)]) ?_ 1 _ rfl; (with_reducible repeat first | apply bN | apply bD | apply bA); exact BK193.out⟩, ⟨by repeat (first | (with_reducible first | exact HB.out | apply lA | apply lN | apply lD | refine lS ?_ GE191.out | refine lS ?_ GE193.out) | exact HB.out)⟩⟩
              · rw [if_neg c16] at H
                have c16b0 : decide (t196 ≤ x4_2) = false := decide_eq_false c16
                clear c16
                simp only [Option.some.injEq, Prod.mk.injEq] at H
                obtain ⟨rfl, rfl, rfl, rfl, rfl, rfl⟩ := H
                have hnb20 := NB193_191.out
                have hnc20 := NB191_193.out
                have hcz21_0 : wr.cell? ⟨gb193, 0, none⟩ = some (.int .i64 x194000_1) := (blk_cell BK193.out 0).trans rfl
                have hcz21_1 : wr.cell? ⟨gb193, 1, none⟩ = some (.int .i64 x194001_2) := (blk_cell BK193.out 1).trans rfl
                have hcz21_2 : wr.cell? ⟨gb193, 2, none⟩ = some (.int .i64 0) := (blk_cell BK193.out 2).trans rfl
                have hcz21_3 : wr.cell? ⟨gb193, 3, none⟩ = some (.int .i64 (wrap64 (Int.tdiv (Int.tmod a0 1440) 60))) := (blk_cell BK193.out 3).trans rfl
                have hcz21_4 : wr.cell? ⟨gb193, 4, none⟩ = some (.int .i64 (Int.tmod a0 60)) := (blk_cell BK193.out 4).trans rfl
                have hfz21_0 := blk_frozen BK193.out 0
                have hfz21_1 := blk_frozen BK193.out 1
                have hfz21_2 := blk_frozen BK193.out 2
                have hfz21_3 := blk_frozen BK193.out 3
                have hfz21_4 := blk_frozen BK193.out 4
                go_wp2_with (first | ((with_reducible refine gate_callee (f := 44) rfl ?_); refine goesL_ (some 39) rfl rfl Try.func44 (by kernel_rfl) rfl #[.int .i64 x194000_1, .int .i64 x194001_2] rfl (by (try simp only [mT, mC, mN]); first | done | rfl | (simp only [lDr, lTk]; rfl)) ?_; (with_reducible refine (impl_DaysIn.calls k2 x194000_1 x194001_2 t196 _ A15.out).mono ?_); rintro e w' ⟨rfl, ⟨nd, rfl⟩⟩; refine ⟨_, rfl, ?_⟩; (try (rw [drewN_self wr]; generalize hq_ : World.drewN wr _ = wr; have n0_ : Aside0 (wr.heap[gb191]? = some (.cells #[.int .i64 0, .int .i64 0, .int .i64 0, .int .i64 0, .int .i64 0] 54 (0, 0))) := ⟨by rw [← hq_]; exact (by (with_reducible repeat first | apply bN | apply bD | apply bA); exact BK191.out)⟩; have n1_ : Aside0 (wr.heap[gb193]? = some (.cells #[.int .i64 x194000_1, .int .i64 x194001_2, .int .i64 0, .int .i64 (wrap64 (Int.tdiv (Int.tmod a0 1440) 60)), .int .i64 (Int.tmod a0 60)] 54 (0, 0))) := ⟨by rw [← hq_]; exact (by (with_reducible repeat first | apply bN | apply bD | apply bA); exact BK193.out)⟩; have n2_ : Aside0 (Below w.heap.size w wr) := ⟨by rw [← hq_]; exact (by repeat (first | (with_reducible first | exact HB.out | apply lA | apply lN | apply lD | refine lS ?_ GE191.out | refine lS ?_ GE193.out) | exact HB.out))⟩; clear BK191 BK193 HB hq_; have BK191 := n0_; have BK193 := n1_; have HB := n2_; clear n0_ n1_ n2_)); (try clear hcz21_0 hfz21_0 hcz21_1 hfz21_1 hcz21_2 hfz21_2 hcz21_3 hfz21_3 hcz21_4 hfz21_4); (try have hcz21_0 : wr.cell? ⟨gb193, 0, none⟩ = some (.int .i64 x194000_1) := (blk_cell BK193.out 0).trans rfl); (try have hfz21_0 := blk_frozen BK193.out 0); (try have hcz21_1 : wr.cell? ⟨gb193, 1, none⟩ = some (.int .i64 x194001_2) := (blk_cell BK193.out 1).trans rfl); (try have hfz21_1 := blk_frozen BK193.out 1); (try have hcz21_2 : wr.cell? ⟨gb193, 2, none⟩ = some (.int .i64 0) := (blk_cell BK193.out 2).trans rfl); (try have hfz21_2 := blk_frozen BK193.out 2); (try have hcz21_3 : wr.cell? ⟨gb193, 3, none⟩ = some (.int .i64 (wrap64 (Int.tdiv (Int.tmod a0 1440) 60))) := (blk_cell BK193.out 3).trans rfl); (try have hfz21_3 := blk_frozen BK193.out 3); (try have hcz21_4 : wr.cell? ⟨gb193, 4, none⟩ = some (.int .i64 (Int.tmod a0 60)) := (blk_cell BK193.out 4).trans rfl); (try have hfz21_4 := blk_frozen BK193.out 4); have hcz22_0 : wr.cell? ⟨gb191, 0, none⟩ = some (.int .i64 0) := (blk_cell BK191.out 0).trans rfl; have hcz22_1 : wr.cell? ⟨gb191, 1, none⟩ = some (.int .i64 0) := (blk_cell BK191.out 1).trans rfl; have hcz22_2 : wr.cell? ⟨gb191, 2, none⟩ = some (.int .i64 0) := (blk_cell BK191.out 2).trans rfl; have hcz22_3 : wr.cell? ⟨gb191, 3, none⟩ = some (.int .i64 0) := (blk_cell BK191.out 3).trans rfl; have hcz22_4 : wr.cell? ⟨gb191, 4, none⟩ = some (.int .i64 0) := (blk_cell BK191.out 4).trans rfl; have hfz22_0 := blk_frozen BK191.out 0; have hfz22_1 := blk_frozen BK191.out 1; have hfz22_2 := blk_frozen BK191.out 2; have hfz22_3 := blk_frozen BK191.out 3; have hfz22_4 := blk_frozen BK191.out 4))
                refine bodyPost_ret (results_ct rfl _ _ gb191 54 #[.int .i64 x194000_1, .int .i64 x194001_2, .int .i64 (wrap64 (x4_2 + 1)), .int .i64 (wrap64 (Int.tdiv (Int.tmod a0 1440) 60)), .int .i64 (Int.tmod a0 60)] (0, 0) _ rfl (by (with_reducible repeat first | apply bN | apply bD | apply bA); refine blk_put (cs := #[.int .i64 x194000_1, .int .i64 x194001_2, .int .i64 (wrap64 (x4_2 + 1)), .int .i64 (wrap64 (Int.tdiv (Int.tmod a0 1440) 60)), .int .i64 0]) ?_ 4 _ rfl; (with_reducible repeat first | apply bN | apply bD | apply bA); refine blk_put (cs := #[.int .i64 x194000_1, .int .i64 x194001_2, .int .i64 (wrap64 (x4_2 + 1)), .int .i64 0, .int .i64 0]) ?_ 3 _ rfl; (with_reducible repeat first | apply bN | apply bD | apply bA); refine blk_put (cs := #[.int .i64 x194000_1, .int .i64 x194001_2, .int .i64 0, .int .i64 0, .int .i64 0]) ?_ 2 _ rfl; (with_reducible repeat first | apply bN | apply bD | apply bA); refine blk_put (cs := #[.int .i64 x194000_1, .int .i64 0, .int .i64 0, .int .i64 0, .int .i64 0]) ?_ 1 _ rfl; (with_reducible repeat first | apply bN | apply bD | apply bA); refine blk_put (cs := #[.int .i64 0, .int .i64 0, .int .i64 0, .int .i64 0, .int .i64 0]) ?_ 0 _ rfl; (with_reducible repeat first | apply bN | apply bD | apply bA); refine blk_far ?_ NB191_193.out _; (with_reducible repeat first | apply bN | apply bD | apply bA); exact BK191.out) Try.underlying54 rfl (by kernel_rfl)) rfl ?_
                exact ⟨by first | rfl | (simp [errW_none, errW_some] <;> rfl) | (simp [*, errW_none, errW_some] <;> rfl), by repeat (first | (with_reducible first | exact HB.out | apply lA | apply lN | apply lD | refine lS ?_ GE191.out | refine lS ?_ GE193.out) | exact HB.out)⟩
  · replace c3 := Bool.eq_false_iff.mpr c3
    subst c3
    have H1 : (some (0, 0, 0, 0, 0, false)) = some (r1, r2, r3, r4, r5, r6) := by rw [if_neg (show ¬ (false = true) by decide)] at H; exact H
    clear H
    have H := H1
    clear H1
    simp only [Option.some.injEq, Prod.mk.injEq] at H
    obtain ⟨rfl, rfl, rfl, rfl, rfl, rfl⟩ := H
    go_enter Try.func32, Try.ntmps32
    go_wp2_with (first | ((with_reducible refine gate_dst (N := 2) rfl ?_); refine box_event ?hg (N := 2) ?hd (cs := #[.int .i64 0, .int .i64 0, .int .i64 0, .int .i64 0, .int .i64 0]) (t := 54) ?hr ?_; (case hd => rfl); (case hg => rfl); (case hr => first | (go_simp; done) | (go_simp; rfl)); intro gb191 hg w23 hbox hb; have n0_ := aM (below_step (by repeat (first | (with_reducible first | exact HB.out | apply lA | apply lN | apply lD) | exact HB.out)) hb); have n1_ := aM (hbox); have n2_ := aM ((by rw [hg]; exact (below_size (by repeat (first | (with_reducible first | exact HB.out | apply lA | apply lN | apply lD) | exact HB.out))) : w.heap.size ≤ gb191)); have n3_ := aM ((by rw [hg]; exact (below_size (by repeat (first | (with_reducible first | exact HB.out | apply lA | apply lN | apply lD) | exact HB.out))) : w.heap.size ≤ gb191)); clear HB; have HB := n0_; have BK191 := n1_; have GW191 := n2_; have GE191 := n3_; clear n0_ n1_ n2_ n3_; clear hb hbox hg) | ((with_reducible refine gate_callee (f := 36) rfl ?_); refine goesL_ (some 8) rfl rfl Try.func36 (by kernel_rfl) rfl #[.int .i64 a0] rfl (by (try simp only [mT, mC, mN]); first | done | rfl | (simp only [lDr, lTk]; rfl)) ?_; (with_reducible refine (impl_isMinute.calls a0 false _ A2.out).mono ?_); rintro e w' ⟨rfl, ⟨nd, rfl⟩⟩; refine ⟨_, rfl, ?_⟩; (try (rw [drewN_self w23]; generalize hq_ : World.drewN w23 _ = w23; have n0_ : Aside0 (w23.heap[gb191]? = some (.cells #[.int .i64 0, .int .i64 0, .int .i64 0, .int .i64 0, .int .i64 0] 54 (0, 0))) := ⟨by rw [← hq_]; exact (by (with_reducible repeat first | apply bN | apply bD | apply bA); exact BK191.out)⟩; have n1_ : Aside0 (Below w.heap.size w w23) := ⟨by rw [← hq_]; exact (by repeat (first | (with_reducible first | exact HB.out | apply lA | apply lN | apply lD | refine lS ?_ GE191.out) | exact HB.out))⟩; clear BK191 HB hq_; have BK191 := n0_; have HB := n1_; clear n0_ n1_)); have hcz24_0 : w23.cell? ⟨gb191, 0, none⟩ = some (.int .i64 0) := (blk_cell BK191.out 0).trans rfl; have hcz24_1 : w23.cell? ⟨gb191, 1, none⟩ = some (.int .i64 0) := (blk_cell BK191.out 1).trans rfl; have hcz24_2 : w23.cell? ⟨gb191, 2, none⟩ = some (.int .i64 0) := (blk_cell BK191.out 2).trans rfl; have hcz24_3 : w23.cell? ⟨gb191, 3, none⟩ = some (.int .i64 0) := (blk_cell BK191.out 3).trans rfl; have hcz24_4 : w23.cell? ⟨gb191, 4, none⟩ = some (.int .i64 0) := (blk_cell BK191.out 4).trans rfl; have hfz24_0 := blk_frozen BK191.out 0; have hfz24_1 := blk_frozen BK191.out 1; have hfz24_2 := blk_frozen BK191.out 2; have hfz24_3 := blk_frozen BK191.out 3; have hfz24_4 := blk_frozen BK191.out 4))
    refine bodyPost_ret (results_ct rfl _ _ gb191 54 #[.int .i64 0, .int .i64 0, .int .i64 0, .int .i64 0, .int .i64 0] (0, 0) _ rfl (by (with_reducible repeat first | apply bN | apply bD | apply bA); refine blk_put (cs := #[.int .i64 0, .int .i64 0, .int .i64 0, .int .i64 0, .int .i64 0]) ?_ 4 _ rfl; (with_reducible repeat first | apply bN | apply bD | apply bA); refine blk_put (cs := #[.int .i64 0, .int .i64 0, .int .i64 0, .int .i64 0, .int .i64 0]) ?_ 3 _ rfl; (with_reducible repeat first | apply bN | apply bD | apply bA); refine blk_put (cs := #[.int .i64 0, .int .i64 0, .int .i64 0, .int .i64 0, .int .i64 0]) ?_ 2 _ rfl; (with_reducible repeat first | apply bN | apply bD | apply bA); refine blk_put (cs := #[.int .i64 0, .int .i64 0, .int .i64 0, .int .i64 0, .int .i64 0]) ?_ 1 _ rfl; (with_reducible repeat first | apply bN | apply bD | apply bA); refine blk_put (cs := #[.int .i64 0, .int .i64 0, .int .i64 0, .int .i64 0, .int .i64 0]) ?_ 0 _ rfl; (with_reducible repeat first | apply bN | apply bD | apply bA); exact BK191.out) Try.underlying54 rfl (by kernel_rfl)) rfl ?_
    exact ⟨by first | rfl | (simp [errW_none, errW_some] <;> rfl) | (simp [*, errW_none, errW_some] <;> rfl), by repeat (first | (with_reducible first | exact HB.out | apply lA | apply lN | apply lD | refine lS ?_ GE191.out) | exact HB.out)⟩

/-! ### slices_Index_int_int: function 47 -/
def slices_Index_int_int.l0 : Nat → List Int → Int → Int → Int → Option (Int)
  | 0, _, _, _, _ => none
  | k + 1, x0, x1, x7, x8 => if x8 < x7 then (if 0 ≤ x8 then (if x8 < (x0.length : Int) then (if x1 = (rd x0 x8) then (some x8) else (slices_Index_int_int.l0 k x0 x1 x7 (wrap64 (x8 + 1)))) else (none)) else (none)) else (some (-1))
def slices_Index_int_int.f (k : Nat) (l0 : List Int) (a1 : Int) : Option (Int) := slices_Index_int_int.l0 k l0 a1 (l0.length : Int) 0
theorem slices_Index_int_int.mono_l : ∀ k, (∀ y0 y1 y2 y3, LeO (slices_Index_int_int.l0 k y0 y1 y2 y3) (slices_Index_int_int.l0 (k + 1) y0 y1 y2 y3))
  | 0 => fun _ _ _ _ r h => by simp [slices_Index_int_int.l0] at h
  | k + 1 => by
    have ih0 := slices_Index_int_int.mono_l k
    · intro y0 y1 y2 y3
      unfold slices_Index_int_int.l0
      repeat' first
      | (with_reducible exact ih0 _ _ _ _)
      | (with_reducible exact LeO.refl _)
      | (with_reducible exact LeO.none _)
      | (with_reducible refine LeO.ite ?_ ?_)
      | (with_reducible refine LeO.bind ?_ (fun _ => ?_))
      | exact ih0 _ _ _ _
      | exact LeO.none _
      | refine LeO.ite ?_ ?_
      | refine LeO.bind ?_ (fun _ => ?_)
theorem slices_Index_int_int.mono : ∀ a0 a1 k, LeO (slices_Index_int_int.f k a0 a1) (slices_Index_int_int.f (k + 1) a0 a1) := by
  intro a0 a1 k
  have ih0 := slices_Index_int_int.mono_l k
  unfold slices_Index_int_int.f
  repeat' first
      | (with_reducible exact ih0 _ _ _ _)
      | (with_reducible exact LeO.refl _)
      | (with_reducible exact LeO.none _)
      | (with_reducible refine LeO.ite ?_ ?_)
      | (with_reducible refine LeO.bind ?_ (fun _ => ?_))
      | exact ih0 _ _ _ _
      | exact LeO.none _
      | refine LeO.ite ?_ ?_
      | refine LeO.bind ?_ (fun _ => ?_)
set_option maxHeartbeats 8000000 in
set_option maxRecDepth 100000 in
theorem slices_Index_int_int.calls (k : Nat) (A0 : Option Addr) (c0 : Nat) (l0 : List Int) (a1 : Int) (r : Int) (w : World) (hr0 : Kd.C (Kd.int .i64) w A0 l0.length l0) (hc0 : l0.length ≤ c0) (h : slices_Index_int_int.f k l0 a1 = some r) :
    Calls Try.prog 47 #[.slice A0 l0.length c0, .int .i64 a1] w fun e w' => e = .returned (.int .i64 r) ∧ Drawn0 w w' := by
  have HR0 := aM hr0
  have HC0 := aM hc0
  clear hr0 hc0
  have H : (slices_Index_int_int.l0 k l0 a1 (l0.length : Int) 0) = some r := h
  clear h
  have H' := aM H
  clear H
  go_enter Try.func47, Try.ntmps47
  go_wp2
  go_loopg [8] k (fun kq v8 w' => ∃ (x8_1 : Int), v8 = .int .i64 x8_1 ∧ Aside0 (slices_Index_int_int.l0 kq l0 a1 (l0.length : Int) x8_1 = some r) ∧ Aside0 (kq ≤ k) ∧ Drawn0 w w')
  case atStart => exact ⟨(0), (by first | rfl | (simp; done) | (simp [*]; done)), H', ⟨Nat.le_refl _⟩, by repeat (first | exact Drawn0.refl _ | apply Drawn0.step)⟩
  case round =>
    clear H'
    try clear p2
    obtain ⟨x8_1, rfl, HA, HK1, ⟨m1, rfl⟩⟩ := hrel
    cases gk with
    | zero => exact absurd HA.out (by simp [slices_Index_int_int.l0])
    | succ k1 =>
      have H := HA.out
      clear HA
      simp only [slices_Index_int_int.l0] at H
      by_cases c3 : x8_1 < (l0.length : Int)
      · rw [if_pos c3] at H
        have c3b0 : decide (x8_1 < (l0.length : Int)) = true := decide_eq_true c3
        clear c3
        by_cases c4 : 0 ≤ x8_1
        · rw [if_pos c4] at H
          have c4b0 : decide (0 ≤ x8_1) = true := decide_eq_true c4
          clear c4
          by_cases c5 : x8_1 < (l0.length : Int)
          · rw [if_pos c5] at H
            have c5b0 : decide (x8_1 < (l0.length : Int)) = true := decide_eq_true c5
            clear c5
            by_cases c6 : a1 = (rd l0 x8_1)
            · rw [if_pos c6] at H
              have c6b0 : (a1 == (rd l0 x8_1)) = true := beq_iff_eq.mpr c6
              have c6b1 : (a1 != (rd l0 x8_1)) = false := bne_eq_false_iff_eq.mpr c6
              clear c6
              obtain rfl := Option.some.inj H
              have p198 : 0 ≤ (x8_1 : Int) := of_decide_eq_true (by first | (with_reducible assumption) | assumption)
              have q198 : x8_1 < (l0.length : Int) := of_decide_eq_true (by first | (with_reducible assumption) | assumption)
              obtain ⟨ad198, e198, hx198_0⟩ := Kd.at_int HR0.out x8_1 p198 q198
              cases e198
              replace p198 := eq_true p198
              replace q198 := eq_true q198
              go_wp2
              go_ret
              exact ⟨by first | rfl | (simp; done) | (simp [*]; done), by repeat (first | exact Drawn0.refl _ | apply Drawn0.step)⟩
            · rw [if_neg c6] at H
              have c6b0 : (a1 == (rd l0 x8_1)) = false := beq_eq_false_iff_ne.mpr c6
              have c6b1 : (a1 != (rd l0 x8_1)) = true := bne_iff_ne.mpr c6
              have H' := aM H
              clear H
              have p198 : 0 ≤ (x8_1 : Int) := of_decide_eq_true (by first | (with_reducible assumption) | assumption)
              have q198 : x8_1 < (l0.length : Int) := of_decide_eq_true (by first | (with_reducible assumption) | assumption)
              obtain ⟨ad198, e198, hx198_0⟩ := Kd.at_int HR0.out x8_1 p198 q198
              cases e198
              replace p198 := eq_true p198
              replace q198 := eq_true q198
              go_wp2
              go_roundg k1
              case measure => have := HK1.out; omega
              case rel => exact ⟨(wrap64 (x8_1 + 1)), (by first | rfl | (simp; done) | (simp [*]; done)), H', ⟨by have := HK1.out; omega⟩, by repeat (first | exact Drawn0.refl _ | apply Drawn0.step)⟩
          · rw [if_neg c5] at H
            exact absurd H (by simp)
        · rw [if_neg c4] at H
          exact absurd H (by simp)
      · rw [if_neg c3] at H
        have c3b0 : decide (x8_1 < (l0.length : Int)) = false := decide_eq_false c3
        clear c3
        obtain rfl := Option.some.inj H
        go_wp2
        go_ret
        exact ⟨by first | rfl | (simp; done) | (simp [*]; done), by repeat (first | exact Drawn0.refl _ | apply Drawn0.step)⟩

/-! ### slices_Contains_int_int: function 34 -/
def slices_Contains_int_int.f (k : Nat) (l0 : List Int) (a1 : Int) : Option (Bool) := (slices_Index_int_int.f k l0 a1).bind fun t199 => (some (decide (t199 ≥ 0)))
theorem slices_Contains_int_int.mono : ∀ a0 a1 k, LeO (slices_Contains_int_int.f k a0 a1) (slices_Contains_int_int.f (k + 1) a0 a1) := by
  intro a0 a1 k
  unfold slices_Contains_int_int.f
  repeat' first
      | (with_reducible exact slices_Index_int_int.mono _ _ _)
      | (with_reducible exact LeO.refl _)
      | (with_reducible exact LeO.none _)
      | (with_reducible refine LeO.ite ?_ ?_)
      | (with_reducible refine LeO.bind ?_ (fun _ => ?_))
      | exact slices_Index_int_int.mono _ _ _
      | exact LeO.none _
      | refine LeO.ite ?_ ?_
      | refine LeO.bind ?_ (fun _ => ?_)
set_option maxHeartbeats 8000000 in
set_option maxRecDepth 100000 in
theorem slices_Contains_int_int.calls (k : Nat) (A0 : Option Addr) (c0 : Nat) (l0 : List Int) (a1 : Int) (r : Bool) (w : World) (hr0 : Kd.C (Kd.int .i64) w A0 l0.length l0) (hc0 : l0.length ≤ c0) (h : slices_Contains_int_int.f k l0 a1 = some r) :
    Calls Try.prog 34 #[.slice A0 l0.length c0, .int .i64 a1] w fun e w' => e = .returned (.bool r) ∧ Drawn0 w w' := by
  have HR0 := aM hr0
  have HC0 := aM hc0
  clear hr0 hc0
  have H : ((slices_Index_int_int.f k l0 a1).bind fun t199 => (some (decide (t199 ≥ 0)))) = some r := h
  clear h
  replace H := Option.bind_eq_some_iff.mp H
  obtain ⟨t199, A30, H⟩ := H
  replace H : (some (decide (t199 ≥ 0))) = some r := H
  have A3 := aM A30
  clear A30
  obtain rfl := Option.some.inj H
  go_enter Try.func34, Try.ntmps34
  go_wp2_with (first | ((with_reducible refine gate_callee (f := 47) rfl ?_); refine goesL_ (some 7) rfl rfl Try.func47 (by kernel_rfl) rfl #[.slice A0 l0.length c0, .int .i64 a1] rfl (by (try simp only [mT, mC, mN]); first | done | rfl | (simp only [lDr, lTk]; rfl)) ?_; (with_reducible refine (slices_Index_int_int.calls k _ _ l0 a1 t199 _ ?side1 ?side2 A3.out).mono ?_); (case side1 => repeat (first | exact HR0.out | (with_reducible refine cA ?_ _) | (with_reducible refine cN ?_ _) | (with_reducible refine cD ?_))); (case side2 => exact HC0.out); rintro e w' ⟨rfl, ⟨nd, rfl⟩⟩; refine ⟨_, rfl, ?_⟩))
  go_ret
  exact ⟨by first | rfl | (simp; done) | (simp [*]; done), by repeat (first | exact Drawn0.refl _ | apply Drawn0.step)⟩

/-! ### impl_WeekdayOf: function 45 -/
def impl_WeekdayOf.f (a0 : Int) : Option (Int) := (impl_isMinute.f a0).bind fun t200 => (if t200 = true then (some (Int.tmod (wrap64 ((wrap64 (Int.tdiv a0 1440)) + 4)) 7)) else (some (-1)))
set_option maxHeartbeats 8000000 in
set_option maxRecDepth 100000 in
theorem impl_WeekdayOf.calls (a0 : Int) (r : Int) (w : World) (h : impl_WeekdayOf.f a0 = some r) :
    Calls Try.prog 45 #[.int .i64 a0] w fun e w' => e = .returned (.int .i64 r) ∧ Drawn0 w w' := by
  have H : ((impl_isMinute.f a0).bind fun t200 => (if t200 = true then (some (Int.tmod (wrap64 ((wrap64 (Int.tdiv a0 1440)) + 4)) 7)) else (some (-1)))) = some r := h
  clear h
  replace H := Option.bind_eq_some_iff.mp H
  obtain ⟨t200, A20, H⟩ := H
  replace H : (if t200 = true then (some (Int.tmod (wrap64 ((wrap64 (Int.tdiv a0 1440)) + 4)) 7)) else (some (-1))) = some r := H
  have A2 := aM A20
  clear A20
  refine Classical.byCases (p := t200 = true) (fun c3 => ?L1p) (fun c3 => ?L1n)
  case' L1p =>
    subst c3
    have H1 : (some (Int.tmod (wrap64 ((wrap64 (Int.tdiv a0 1440)) + 4)) 7)) = some r := by rw [if_pos rfl] at H; exact H
    clear H
    have H := H1
    clear H1
    obtain rfl := Option.some.inj H
  case' L1n =>
    replace c3 := Bool.eq_false_iff.mpr c3
    subst c3
    have H1 : (some (-1)) = some r := by rw [if_neg (show ¬ (false = true) by decide)] at H; exact H
    clear H
    have H := H1
    clear H1
    obtain rfl := Option.some.inj H
  case L1p | L1n =>
    go_enter Try.func45, Try.ntmps45
    go_wp2_with (first | ((with_reducible refine gate_callee (f := 36) rfl ?_); refine goesL_ (some 4) rfl rfl Try.func36 (by kernel_rfl) rfl #[.int .i64 a0] rfl (by (try simp only [mT, mC, mN]); first | done | rfl | (simp only [lDr, lTk]; rfl)) ?_; (with_reducible refine (impl_isMinute.calls a0 _ _ A2.out).mono ?_); rintro e w' ⟨rfl, ⟨nd, rfl⟩⟩; refine ⟨_, rfl, ?_⟩))
    go_ret
    exact ⟨by first | rfl | (simp; done) | (simp [*]; done), by repeat (first | exact Drawn0.refl _ | apply Drawn0.step)⟩

/-! ### impl_bounds: function 26 -/
def impl_bounds.f (a0 : Int) : Option (Int × Int) := if a0 = 0 then (some (0, 59)) else (if a0 = 1 then (some (0, 23)) else (if a0 = 2 then (some (1, 31)) else (if a0 = 3 then (some (1, 12)) else (some (0, 6)))))
set_option maxHeartbeats 8000000 in
set_option maxRecDepth 100000 in
theorem impl_bounds.calls (a0 : Int) (r1 : Int) (r2 : Int) (w : World) (h : impl_bounds.f a0 = some (r1, r2)) :
    Calls Try.prog 26 #[.int .i64 a0] w fun e w' => e = .returned (.tuple #[.int .i64 r1, .int .i64 r2]) ∧ Drawn0 w w' := by
  have H : (if a0 = 0 then (some (0, 59)) else (if a0 = 1 then (some (0, 23)) else (if a0 = 2 then (some (1, 31)) else (if a0 = 3 then (some (1, 12)) else (some (0, 6)))))) = some (r1, r2) := h
  clear h
  by_cases c2 : a0 = 0
  · rw [if_pos c2] at H
    have c2b0 : (a0 == 0) = true := beq_iff_eq.mpr c2
    have c2b1 : (a0 != 0) = false := bne_eq_false_iff_eq.mpr c2
    clear c2
    simp only [Option.some.injEq, Prod.mk.injEq] at H
    obtain ⟨rfl, rfl⟩ := H
    go_enter Try.func26, Try.ntmps26
    go_wp2
    go_ret2
    exact ⟨by first | rfl | (simp; done) | (simp [*]; done), by repeat (first | exact Drawn0.refl _ | apply Drawn0.step)⟩
  · rw [if_neg c2] at H
    have c2b0 : (a0 == 0) = false := beq_eq_false_iff_ne.mpr c2
    have c2b1 : (a0 != 0) = true := bne_iff_ne.mpr c2
    by_cases c3 : a0 = 1
    · rw [if_pos c3] at H
      have c3b0 : (a0 == 1) = true := beq_iff_eq.mpr c3
      have c3b1 : (a0 != 1) = false := bne_eq_false_iff_eq.mpr c3
      clear c3
      simp only [Option.some.injEq, Prod.mk.injEq] at H
      obtain ⟨rfl, rfl⟩ := H
      go_enter Try.func26, Try.ntmps26
      go_wp2
      go_ret2
      exact ⟨by first | rfl | (simp; done) | (simp [*]; done), by repeat (first | exact Drawn0.refl _ | apply Drawn0.step)⟩
    · rw [if_neg c3] at H
      have c3b0 : (a0 == 1) = false := beq_eq_false_iff_ne.mpr c3
      have c3b1 : (a0 != 1) = true := bne_iff_ne.mpr c3
      by_cases c4 : a0 = 2
      · rw [if_pos c4] at H
        have c4b0 : (a0 == 2) = true := beq_iff_eq.mpr c4
        have c4b1 : (a0 != 2) = false := bne_eq_false_iff_eq.mpr c4
        clear c4
        simp only [Option.some.injEq, Prod.mk.injEq] at H
        obtain ⟨rfl, rfl⟩ := H
        go_enter Try.func26, Try.ntmps26
        go_wp2
        go_ret2
        exact ⟨by first | rfl | (simp; done) | (simp [*]; done), by repeat (first | exact Drawn0.refl _ | apply Drawn0.step)⟩
      · rw [if_neg c4] at H
        have c4b0 : (a0 == 2) = false := beq_eq_false_iff_ne.mpr c4
        have c4b1 : (a0 != 2) = true := bne_iff_ne.mpr c4
        by_cases c5 : a0 = 3
        · rw [if_pos c5] at H
          have c5b0 : (a0 == 3) = true := beq_iff_eq.mpr c5
          have c5b1 : (a0 != 3) = false := bne_eq_false_iff_eq.mpr c5
          clear c5
          simp only [Option.some.injEq, Prod.mk.injEq] at H
          obtain ⟨rfl, rfl⟩ := H
          go_enter Try.func26, Try.ntmps26
          go_wp2
          go_ret2
          exact ⟨by first | rfl | (simp; done) | (simp [*]; done), by repeat (first | exact Drawn0.refl _ | apply Drawn0.step)⟩
        · rw [if_neg c5] at H
          have c5b0 : (a0 == 3) = false := beq_eq_false_iff_ne.mpr c5
          have c5b1 : (a0 != 3) = true := bne_iff_ne.mpr c5
          simp only [Option.some.injEq, Prod.mk.injEq] at H
          obtain ⟨rfl, rfl⟩ := H
          go_enter Try.func26, Try.ntmps26
          go_wp2
          go_ret2
          exact ⟨by first | rfl | (simp; done) | (simp [*]; done), by repeat (first | exact Drawn0.refl _ | apply Drawn0.step)⟩

end Go.Proofs.Ytlglildjehcogaa.QFnExactCountFires
