-- Own work (wip/turnprint.py over the kit's print).
import Derived.Test.YthomiofokkkhgaaDoorQFnExactParseCronx0
import Derived.Test.YthomiofokkkhgaaDoorQFnExactParseCronx1
namespace Go.Proofs.YthomiofokkkhgaaDoor.QFnExactParseCron
open Go.RowKit Go.Proofs.YthomiofokkkhgaaDoorW.PrintWords Go.Proofs.YthomiofokkkhgaaDoorW.PrintLast Go.Proofs.YthomiofokkkhgaaDoorW.PrintMore
attribute [local go_sem] max2_int min2_int max_two min_two max_three min_three max_four min_four   -- for this text's walks alone
set_option linter.unusedVariables false
set_option linter.unusedSimpArgs false

/-! ### spec_ReadDecimal: function 86 -/
def spec_ReadDecimal.l0 : Nat → ByteArray → Int → Int → Option (Int × Bool)
 | 0, _, _, _ => none
 | k + 1, x0, x4, x5 => if x5 < (x0.size : Int) then (if 0 ≤ x5 then (if (bt x0 x5) < 48 then (some (0, false)) else (if (bt x0 x5) > 57 then (some (0, false)) else (spec_ReadDecimal.l0 k x0 (wrap64 ((wrap64 ((wrap64 (10 * x4)) + (wrap64 (bt x0 x5)))) - 48)) (wrap64 (x5 + 1))))) else (none)) else (if x4 > 1000000000 then (some (0, false)) else ((spec_Decimal.f k x4).bind fun t130 => (if t130.toList = x0.toList then (some (x4, true)) else (some (0, false)))))
def spec_ReadDecimal.f (k : Nat) (a0 : ByteArray) : Option (Int × Bool) := if (a0.size : Int) > 10 then (some (0, false)) else (spec_ReadDecimal.l0 k a0 0 0)
theorem spec_ReadDecimal.mono_l : ∀ k, (∀ y0 y1 y2, LeO (spec_ReadDecimal.l0 k y0 y1 y2) (spec_ReadDecimal.l0 (k + 1) y0 y1 y2))
 | 0 => fun _ _ _ r h => by simp [spec_ReadDecimal.l0] at h
 | k + 1 => by
  have ih0 := spec_ReadDecimal.mono_l k
  ·intro y0 y1 y2
   unfold spec_ReadDecimal.l0
   repeat' first
   | (with_reducible exact ih0 _ _ _)
   | (with_reducible exact spec_Decimal.mono _ _)
   | (with_reducible exact LeO.refl _)
   | (with_reducible exact LeO.none _)
   | (with_reducible refine LeO.ite ?_ ?_)
   | (with_reducible refine LeO.bind ?_ (fun _ => ?_))
   | exact ih0 _ _ _
   | exact spec_Decimal.mono _ _
   | exact LeO.none _
   | refine LeO.ite ?_ ?_
   | refine LeO.bind ?_ (fun _ => ?_)
theorem spec_ReadDecimal.mono : ∀ a0 k, LeO (spec_ReadDecimal.f k a0) (spec_ReadDecimal.f (k + 1) a0) := by
 intro a0 k
 have ih0 := spec_ReadDecimal.mono_l k
 unfold spec_ReadDecimal.f
 repeat' first
  | (with_reducible exact ih0 _ _ _)
  | (with_reducible exact spec_Decimal.mono _ _)
  | (with_reducible exact LeO.refl _)
  | (with_reducible exact LeO.none _)
  | (with_reducible refine LeO.ite ?_ ?_)
  | (with_reducible refine LeO.bind ?_ (fun _ => ?_))
  | exact ih0 _ _ _
  | exact spec_Decimal.mono _ _
  | exact LeO.none _
  | refine LeO.ite ?_ ?_
  | refine LeO.bind ?_ (fun _ => ?_)
set_option maxHeartbeats 8000000 in
set_option maxRecDepth 100000 in
theorem spec_ReadDecimal.calls (k : Nat) (a0 : ByteArray) (r1 : Int) (r2 : Bool) (w : World) (h : spec_ReadDecimal.f k a0 = some (r1, r2)) :
 Calls Tryd.prog 86 #[.string a0] w fun e w' => e = .returned (.tuple #[.int .i64 r1, .bool r2]) ∧ Below w.heap.size w w' := by
 have HB := aM (Below.refl w.heap.size w)
 have H : (if (a0.size : Int) > 10 then (some (0, false)) else (spec_ReadDecimal.l0 k a0 0 0)) = some (r1, r2) := h
 clear h
 by_cases c2 : (a0.size : Int) > 10
 ·rw [if_pos c2] at H
  have c2b0 : decide (10 < (a0.size : Int)) = true := decide_eq_true c2
  have c2b1 : decide (10 < a0.size) = true := decide_eq_true (by omega)
  clear c2
  simp only [Option.some.injEq, Prod.mk.injEq] at H
  obtain ⟨rfl, rfl⟩ := H
  go_enter Tryd.func86, Tryd.ntmps86
  go_wp2
  go_ret2
  exact rX HB
 ·rw [if_neg c2] at H
  have c2b0 : decide (10 < (a0.size : Int)) = false := decide_eq_false c2
  have c2b1 : decide (10 < a0.size) = false := decide_eq_false (by omega)
  clear c2
  have H' := aM H
  clear H
  go_enter Tryd.func86, Tryd.ntmps86
  go_wp2
  go_loopg [4, 5] k (fun kq v4 v5 w' => ∃ (x4_1 : Int) (x5_1 : Int), v4 = .int .i64 x4_1 ∧ v5 = .int .i64 x5_1 ∧ Aside0 (spec_ReadDecimal.l0 kq a0 x4_1 x5_1 = some (r1, r2)) ∧ Aside0 (kq ≤ k) ∧ Aside0 (Below w.heap.size w w'))
  case atStart => exact ⟨(0), (0), (by first | rfl | (simp; done) | (simp [*]; done)), (by first | rfl | (simp; done) | (simp [*]; done)), H', ⟨Nat.le_refl _⟩, ⟨uL HB⟩⟩
  case round =>
   clear H'
   try clear c2; try clear c2b0; try clear c2b1; try clear p2
   obtain ⟨x4_1, x5_1, rfl, rfl, HA, HK1, HB⟩ := hrel
   cases gk with
   | zero => exact absurd HA.out (by simp [spec_ReadDecimal.l0])
   | succ k1 =>
    have H := HA.out
    clear HA
    simp only [spec_ReadDecimal.l0] at H
    refine Classical.byCases (p := x5_1 < (a0.size : Int)) (fun c3 => ?L1p) (fun c3 => ?L1n)
    case' L1p =>
     rw [if_pos c3] at H
     have c3b0 : decide (x5_1 < (a0.size : Int)) = true := decide_eq_true c3
     clear c3
     by_cases c4 : 0 ≤ x5_1
     ·rw [if_pos c4] at H
      have c4b0 : decide (0 ≤ x5_1) = true := decide_eq_true c4
      clear c4
      by_cases c6 : (bt a0 x5_1) < 48
      ·rw [if_pos c6] at H
       have c6b0 : decide ((bt a0 x5_1) < 48) = true := decide_eq_true c6
       clear c6
       simp only [Option.some.injEq, Prod.mk.injEq] at H
       obtain ⟨rfl, rfl⟩ := H
       have p5 : 0 ≤ (x5_1 : Int) := of_decide_eq_true (by first | (with_reducible assumption) | assumption)
       have q5 : x5_1 < (a0.size : Int) := of_decide_eq_true (by first | (with_reducible assumption) | assumption)
       have hx5 := bt_at a0 x5_1
       replace p5 := eq_true p5; replace q5 := eq_true q5
       go_wp2
       go_ret2
       exact rX HB
      ·rw [if_neg c6] at H
       have c6b0 : decide ((bt a0 x5_1) < 48) = false := decide_eq_false c6
       clear c6
       by_cases c8 : (bt a0 x5_1) > 57
       ·rw [if_pos c8] at H
        have c8b0 : decide (57 < (bt a0 x5_1)) = true := decide_eq_true c8
        clear c8
        simp only [Option.some.injEq, Prod.mk.injEq] at H
        obtain ⟨rfl, rfl⟩ := H
        have p5 : 0 ≤ (x5_1 : Int) := of_decide_eq_true (by first | (with_reducible assumption) | assumption)
        have q5 : x5_1 < (a0.size : Int) := of_decide_eq_true (by first | (with_reducible assumption) | assumption)
        have hx5 := bt_at a0 x5_1
        replace p5 := eq_true p5; replace q5 := eq_true q5
        have p7 : 0 ≤ (x5_1 : Int) := of_decide_eq_true (by first | (with_reducible assumption) | assumption)
        have q7 : x5_1 < (a0.size : Int) := of_decide_eq_true (by first | (with_reducible assumption) | assumption)
        have hx7 := bt_at a0 x5_1
        replace p7 := eq_true p7; replace q7 := eq_true q7
        go_wp2
        go_ret2
        exact rX HB
       ·rw [if_neg c8] at H
        have c8b0 : decide (57 < (bt a0 x5_1)) = false := decide_eq_false c8
        clear c8
        have H' := aM H
        clear H
        have p5 : 0 ≤ (x5_1 : Int) := of_decide_eq_true (by first | (with_reducible assumption) | assumption)
        have q5 : x5_1 < (a0.size : Int) := of_decide_eq_true (by first | (with_reducible assumption) | assumption)
        have hx5 := bt_at a0 x5_1
        replace p5 := eq_true p5; replace q5 := eq_true q5
        have p7 : 0 ≤ (x5_1 : Int) := of_decide_eq_true (by first | (with_reducible assumption) | assumption)
        have q7 : x5_1 < (a0.size : Int) := of_decide_eq_true (by first | (with_reducible assumption) | assumption)
        have hx7 := bt_at a0 x5_1
        replace p7 := eq_true p7; replace q7 := eq_true q7
        have p9 : 0 ≤ (x5_1 : Int) := of_decide_eq_true (by first | (with_reducible assumption) | assumption)
        have q9 : x5_1 < (a0.size : Int) := of_decide_eq_true (by first | (with_reducible assumption) | assumption)
        have hx9 := bt_at a0 x5_1
        replace p9 := eq_true p9; replace q9 := eq_true q9
        go_wp2
        go_roundg k1
        case measure => have := HK1.out; omega
        case rel => exact ⟨(wrap64 ((wrap64 ((wrap64 (10 * x4_1)) + (wrap64 (bt a0 x5_1)))) - 48)), (wrap64 (x5_1 + 1)), (by first | rfl | (simp; done) | (simp [*]; done)), (by first | rfl | (simp; done) | (simp [*]; done)), H', ⟨by have := HK1.out; omega⟩, ⟨uL HB⟩⟩
     ·rw [if_neg c4] at H
      exact absurd H (by simp)
    case' L1n =>
     rw [if_neg c3] at H
     have c3b0 : decide (x5_1 < (a0.size : Int)) = false := decide_eq_false c3
     clear c3
     refine Classical.byCases (p := x4_1 > 1000000000) (fun c10 => ?L2p) (fun c10 => ?L2n)
     case' L2p =>
      rw [if_pos c10] at H
      have c10b0 : decide (1000000000 < x4_1) = true := decide_eq_true c10
      clear c10
      simp only [Option.some.injEq, Prod.mk.injEq] at H
      obtain ⟨rfl, rfl⟩ := H
      go_wp2
      go_ret2
      exact rX HB
     case' L2n =>
      rw [if_neg c10] at H
      have c10b0 : decide (1000000000 < x4_1) = false := decide_eq_false c10
      clear c10
      replace H := Option.bind_eq_some_iff.mp H
      obtain ⟨t130, A110, H⟩ := H
      replace H : (if t130.toList = a0.toList then (some (x4_1, true)) else (some (0, false))) = some (r1, r2) := H
      have A11 := aM A110
      clear A110
      refine Classical.byCases (p := t130.toList = a0.toList) (fun c12 => ?L3p) (fun c12 => ?L3n)
      case' L3p =>
       rw [if_pos c12] at H
       have c12b0 : (t130.toList == a0.toList) = true := beq_iff_eq.mpr c12
       have c12b1 : (t130.toList != a0.toList) = false := bne_eq_false_iff_eq.mpr c12
       clear c12
       simp only [Option.some.injEq, Prod.mk.injEq] at H
       obtain ⟨rfl, rfl⟩ := H
      case' L3n =>
       rw [if_neg c12] at H
       have c12b0 : (t130.toList == a0.toList) = false := beq_eq_false_iff_ne.mpr c12
       have c12b1 : (t130.toList != a0.toList) = true := bne_iff_ne.mpr c12
       simp only [Option.some.injEq, Prod.mk.injEq] at H
       obtain ⟨rfl, rfl⟩ := H
    case L3p | L3n =>
     go_wp2_with (first | (go_at_call 58; (with_reducible refine (spec_Decimal.calls k1 x4_1 t130 _ A11.out).mono ?_); rintro e w13 ⟨rfl, hb⟩; replace HB := aM (below_step (uL HB) hb); try clear hb))
     go_ret2
     exact rX HB

/-! ### spec_l10Piece: function 75 -/
def spec_l10Piece.j0 : Nat → ByteArray → Int → Int → Bool → Option (Int × Int × Int × Bool)
 | 0, _, _, _, _ => none
 | k + 1, x0, x1, x2, x28 => if x28 = true then (if 2 ≤ (x0.size : Int) then ((spec_ReadDecimal.f k (x0.extract 2 x0.size)).bind fun bt131 => (if bt131.2 = true then (some (x1, x2, bt131.1, decide (bt131.1 ≥ 1))) else (some (x1, x2, bt131.1, false)))) else (none)) else ((spec_l10Split.f k x0 45).bind fun t133 => (if 0 < (t133.length : Int) then ((spec_ReadDecimal.f k (rdOf ByteArray.empty t133 0)).bind fun bt137 => (if (t133.length : Int) = 2 then (if 1 < (t133.length : Int) then ((spec_ReadDecimal.f k (rdOf ByteArray.empty t133 1)).bind fun bt140 => (if bt137.2 = true then (if bt140.2 = true then (if (t133.length : Int) ≤ 2 then (if x1 ≤ bt137.1 then (if bt137.1 ≤ bt140.1 then (some (bt137.1, bt140.1, 1, decide (bt140.1 ≤ x2))) else (some (bt137.1, bt140.1, 1, false))) else (some (bt137.1, bt140.1, 1, false))) else (some (bt137.1, bt140.1, 1, false))) else (some (bt137.1, bt140.1, 1, false))) else (some (bt137.1, bt140.1, 1, false)))) else (none)) else (if bt137.2 = true then (if (t133.length : Int) ≤ 2 then (if x1 ≤ bt137.1 then (if bt137.1 ≤ bt137.1 then (some (bt137.1, bt137.1, 1, decide (bt137.1 ≤ x2))) else (some (bt137.1, bt137.1, 1, false))) else (some (bt137.1, bt137.1, 1, false))) else (some (bt137.1, bt137.1, 1, false))) else (some (bt137.1, bt137.1, 1, false))))) else (none)))
def spec_l10Piece.f (k : Nat) (a0 : ByteArray) (a1 : Int) (a2 : Int) : Option (Int × Int × Int × Bool) := if a0.toList = ([42] : List UInt8) then (some (a1, a2, 1, true)) else (if (a0.size : Int) > 2 then (if 0 ≤ 2 then (if 2 ≤ (a0.size : Int) then (spec_l10Piece.j0 k a0 a1 a2 ((a0.extract 0 2).toList == ([42, 47] : List UInt8))) else (none)) else (none)) else (spec_l10Piece.j0 k a0 a1 a2 false))
theorem spec_l10Piece.mono_l : ∀ k, (∀ y0 y1 y2 y3, LeO (spec_l10Piece.j0 k y0 y1 y2 y3) (spec_l10Piece.j0 (k + 1) y0 y1 y2 y3))
 | 0 => fun _ _ _ _ r h => by simp [spec_l10Piece.j0] at h
 | k + 1 => by
  have ih0 := spec_l10Piece.mono_l k
  ·intro y0 y1 y2 y3
   unfold spec_l10Piece.j0
   repeat' first
   | (with_reducible exact ih0 _ _ _ _)
   | (with_reducible exact spec_ReadDecimal.mono _ _)
   | (with_reducible exact spec_l10Split.mono _ _ _)
   | (with_reducible exact LeO.refl _)
   | (with_reducible exact LeO.none _)
   | (with_reducible refine LeO.ite ?_ ?_)
   | (with_reducible refine LeO.bind ?_ (fun _ => ?_))
   | exact ih0 _ _ _ _
   | exact spec_ReadDecimal.mono _ _
   | exact spec_l10Split.mono _ _ _
   | exact LeO.none _
   | refine LeO.ite ?_ ?_
   | refine LeO.bind ?_ (fun _ => ?_)
theorem spec_l10Piece.mono : ∀ a0 a1 a2 k, LeO (spec_l10Piece.f k a0 a1 a2) (spec_l10Piece.f (k + 1) a0 a1 a2) := by
 intro a0 a1 a2 k
 have ih0 := spec_l10Piece.mono_l k
 unfold spec_l10Piece.f
 repeat' first
  | (with_reducible exact ih0 _ _ _ _)
  | (with_reducible exact spec_ReadDecimal.mono _ _)
  | (with_reducible exact spec_l10Split.mono _ _ _)
  | (with_reducible exact LeO.refl _)
  | (with_reducible exact LeO.none _)
  | (with_reducible refine LeO.ite ?_ ?_)
  | (with_reducible refine LeO.bind ?_ (fun _ => ?_))
  | exact ih0 _ _ _ _
  | exact spec_ReadDecimal.mono _ _
  | exact spec_l10Split.mono _ _ _
  | exact LeO.none _
  | refine LeO.ite ?_ ?_
  | refine LeO.bind ?_ (fun _ => ?_)
set_option maxHeartbeats 8000000 in
set_option maxRecDepth 100000 in
theorem spec_l10Piece.calls (k : Nat) (a0 : ByteArray) (a1 : Int) (a2 : Int) (r1 : Int) (r2 : Int) (r3 : Int) (r4 : Bool) (w : World) (h : spec_l10Piece.f k a0 a1 a2 = some (r1, r2, r3, r4)) :
 Calls Tryd.prog 75 #[.string a0, .int .i64 a1, .int .i64 a2] w fun e w' => e = .returned (.tuple #[.int .i64 r1, .int .i64 r2, .int .i64 r3, .bool r4]) ∧ Below w.heap.size w w' := by
 have HB := aM (Below.refl w.heap.size w)
 have H : (if a0.toList = ([42] : List UInt8) then (some (a1, a2, 1, true)) else (if (a0.size : Int) > 2 then (if 0 ≤ 2 then (if 2 ≤ (a0.size : Int) then (spec_l10Piece.j0 k a0 a1 a2 ((a0.extract 0 2).toList == ([42, 47] : List UInt8))) else (none)) else (none)) else (spec_l10Piece.j0 k a0 a1 a2 false))) = some (r1, r2, r3, r4) := h
 clear h
 by_cases c4 : a0.toList = ([42] : List UInt8)
 ·rw [if_pos c4] at H
  have c4b0 : (a0.toList == ([42] : List UInt8)) = true := beq_iff_eq.mpr c4
  have c4b1 : (a0.toList != ([42] : List UInt8)) = false := bne_eq_false_iff_eq.mpr c4
  clear c4
  simp only [Option.some.injEq, Prod.mk.injEq] at H
  obtain ⟨rfl, rfl, rfl, rfl⟩ := H
  go_enter Tryd.func75, Tryd.ntmps75
  go_wp2
  refine bodyPost_ret (results_list (rs := [.tmp 6, .tmp 7, .tmp 8, .tmp 9]) rfl (by simp) (.tmp (.tmp (.tmp (.tmp .nil))))) rfl ?_
  exact rX HB
 ·rw [if_neg c4] at H
  have c4b0 : (a0.toList == ([42] : List UInt8)) = false := beq_eq_false_iff_ne.mpr c4
  have c4b1 : (a0.toList != ([42] : List UInt8)) = true := bne_iff_ne.mpr c4
  have HC5 := aM H
  clear H
  go_enter Tryd.func75, Tryd.ntmps75
  go_upto_region 3 with (fail)
  go_cut [28] (fun v28 wc => ∃ (kq : Nat) (x28_4 : Bool), v28 = .bool x28_4 ∧ Aside0 (spec_l10Piece.j0 kq a0 a1 a2 x28_4 = some (r1, r2, r3, r4)) ∧ Aside0 (kq ≤ k) ∧ Aside0 (Below w.heap.size w wc))
  case first =>
   have H := HC5.out
   clear HC5
   by_cases c6 : (a0.size : Int) > 2
   ·rw [if_pos c6] at H
    have c6b0 : decide (2 < (a0.size : Int)) = true := decide_eq_true c6
    have c6b1 : decide (2 < a0.size) = true := decide_eq_true (by omega)
    clear c6
    (first | rw [c6b0] | (simp only [i64_w, i32_w]; rw [c6b0]) | skip)
    by_cases c7 : 0 ≤ 2
    ·rw [if_pos c7] at H
     have c7b0 := eq_true c7
     have c7b1 : decide (0 ≤ 2) = true := decide_eq_true c7
     clear c7
     by_cases c8 : 2 ≤ (a0.size : Int)
     ·rw [if_pos c8] at H
      have c8b0 := eq_true c8
      have c8b1 : decide (2 ≤ (a0.size : Int)) = true := decide_eq_true c8
      clear c8
      have H' := aM H
      clear H
      go_wp2
      go_meet
      case rel => exact ⟨_, (((a0.extract 0 2).toList == ([42, 47] : List UInt8))), (by first | rfl | (simp; done) | (simp [*]; done)), H', ⟨by first | omega | exact Nat.le_refl _⟩, ⟨uL HB⟩⟩
     ·rw [if_neg c8] at H
      exact absurd H (by simp)
    ·rw [if_neg c7] at H
     exact absurd H (by simp)
   ·rw [if_neg c6] at H
    have c6b0 : decide (2 < (a0.size : Int)) = false := decide_eq_false c6
    have c6b1 : decide (2 < a0.size) = false := decide_eq_false (by omega)
    clear c6
    (first | rw [c6b0] | (simp only [i64_w, i32_w]; rw [c6b0]) | skip)
    have H' := aM H
    clear H
    go_wp2
    go_meet
    case rel => exact ⟨_, (false), (by first | rfl | (simp; done) | (simp [*]; done)), H', ⟨by first | omega | exact Nat.le_refl _⟩, ⟨uL HB⟩⟩
  case rest =>
   clear HC5
   try clear p2; try clear c4; try clear c4b0; try clear c4b1; try clear c6; try clear c6b0; try clear c6b1; try clear c7; try clear c7b0; try clear c7b1; try clear c8; try clear c8b0; try clear c8b1
   obtain ⟨kq, x28_4, rfl, HA, HJ4, HB⟩ := hcut
   cases kq with
   | zero => exact absurd HA.out (by simp [spec_l10Piece.j0])
   | succ kj4 =>
    have H := HA.out
    clear HA
    simp only [spec_l10Piece.j0] at H
    refine Classical.byCases (p := x28_4 = true) (fun c9 => ?L1p) (fun c9 => ?L1n)
    case' L1p =>
     subst c9
     rw [if_pos rfl] at H
     refine Classical.byCases (p := 2 ≤ (a0.size : Int)) (fun c10 => ?L2p) (fun c10 => ?L2n)
     case' L2p =>
      rw [if_pos c10] at H
      have c10b0 := eq_true c10
      have c10b1 : decide (2 ≤ (a0.size : Int)) = true := decide_eq_true c10
      clear c10
      replace H := Option.bind_eq_some_iff.mp H
      obtain ⟨⟨t131, t132⟩, A110, H⟩ := H
      replace H : (if t132 = true then (some (a1, a2, t131, decide (t131 ≥ 1))) else (some (a1, a2, t131, false))) = some (r1, r2, r3, r4) := H
      have A11 := aM A110
      clear A110
      refine Classical.byCases (p := t132 = true) (fun c12 => ?L3p) (fun c12 => ?L3n)
      case' L3p =>
       subst c12
       have H1 : (some (a1, a2, t131, decide (t131 ≥ 1))) = some (r1, r2, r3, r4) := by rw [if_pos rfl] at H; exact H
       clear H; have H := H1; clear H1
       simp only [Option.some.injEq, Prod.mk.injEq] at H
       obtain ⟨rfl, rfl, rfl, rfl⟩ := H
      case' L3n =>
       replace c12 := Bool.eq_false_iff.mpr c12
       subst c12
       have H1 : (some (a1, a2, t131, false)) = some (r1, r2, r3, r4) := by rw [if_neg (show ¬ (false = true) by decide)] at H; exact H
       clear H; have H := H1; clear H1
       simp only [Option.some.injEq, Prod.mk.injEq] at H
       obtain ⟨rfl, rfl, rfl, rfl⟩ := H
     case' L2n =>
      rw [if_neg c10] at H
      exact absurd H (by simp)
    case' L1n =>
     replace c9 := Bool.eq_false_iff.mpr c9
     subst c9
     rw [if_neg (show ¬ (false = true) by decide)] at H
     replace H := Option.bind_eq_some_iff.mp H
     obtain ⟨t133, A150, H⟩ := H
     try dsimp only at H
     have A15 := aM A150
     clear A150
     by_cases c16 : 0 < (t133.length : Int)
     ·rw [if_pos c16] at H
      have c16b0 : decide (0 < (t133.length : Int)) = true := decide_eq_true c16
      have c16b1 : decide (0 < t133.length) = true := decide_eq_true (by omega)
      clear c16
      replace H := Option.bind_eq_some_iff.mp H
      obtain ⟨⟨t137, t138⟩, A170, H⟩ := H
      try dsimp only at H
      have A17 := aM A170
      clear A170
      by_cases c18 : (t133.length : Int) = 2
      ·rw [if_pos c18] at H
       have c18b0 : ((t133.length : Int) == 2) = true := beq_iff_eq.mpr c18
       have c18b1 : ((t133.length : Int) != 2) = false := bne_eq_false_iff_eq.mpr c18
       clear c18
       by_cases c19 : 1 < (t133.length : Int)
       ·rw [if_pos c19] at H
        have c19b0 : decide (1 < (t133.length : Int)) = true := decide_eq_true c19
        have c19b1 : decide (1 < t133.length) = true := decide_eq_true (by omega)
        clear c19
        replace H := Option.bind_eq_some_iff.mp H
        obtain ⟨⟨t140, t141⟩, A200, H⟩ := H
        try dsimp only at H
        have A20 := aM A200
        clear A200
        by_cases c21 : t138 = true
        ·subst c21
         rw [if_pos rfl] at H
         by_cases c22 : t141 = true
         ·subst c22
          rw [if_pos rfl] at H
          by_cases c23 : (t133.length : Int) ≤ 2
          ·rw [if_pos c23] at H
           have c23b0 : decide ((t133.length : Int) ≤ 2) = true := decide_eq_true c23
           have c23b1 : decide (t133.length ≤ 2) = true := decide_eq_true (by omega)
           clear c23
           by_cases c24 : a1 ≤ t137
           ·rw [if_pos c24] at H
            have c24b0 : decide (a1 ≤ t137) = true := decide_eq_true c24
            clear c24
            by_cases c25 : t137 ≤ t140
            ·rw [if_pos c25] at H
             have c25b0 : decide (t137 ≤ t140) = true := decide_eq_true c25
             clear c25
             simp only [Option.some.injEq, Prod.mk.injEq] at H
             obtain ⟨rfl, rfl, rfl, rfl⟩ := H
             go_wp2_with (first | ((with_reducible refine gate_callee (f := 74) rfl ?_); refine gL (some 44) Tryd.func74 #[.string a0, .int .u8 45] ?_; (with_reducible refine (spec_l10Split.calls kj4 a0 45 t133 _ A15.out).mono ?_); rintro e w26 ⟨v134, rfl, ho0, hb⟩; refine ⟨_, rfl, ?_⟩; have HO135 := aM (Kd.R_lower ho0 (below_size (uL HB))); replace HB := aM (below_step (uL HB) hb); try clear hb ho0; obtain ⟨Ao27, co27, eo27⟩ := Kd.R_slice HO135.out; subst eo27; have p136 : 0 ≤ (0 : Int) := (by omega); have q136 : 0 < (t133.length : Int) := of_decide_eq_true (by first | (with_reducible assumption) | assumption); obtain ⟨ad136, e136, hx136_0⟩ := Kd.at_string (Kd.R_reads' HO135.out).2.2 0 p136 q136; cases e136; have qi136 : (0 < t133.length) = True := eq_true (by omega); (try rw [show ((0 : Int)).toNat = 0 from rfl] at hx136_0); (try rw [Addr.add_zero'] at hx136_0); replace p136 := eq_true p136; replace q136 := eq_true q136) | ((with_reducible refine gate_callee (f := 86) rfl ?_); refine gL (some 49) Tryd.func86 #[.string (rdOf ByteArray.empty t133 0)] ?_; (with_reducible refine (spec_ReadDecimal.calls kj4 (rdOf ByteArray.empty t133 0) t137 true _ A17.out).mono ?_); rintro e w28 ⟨rfl, hb⟩; refine ⟨_, rfl, ?_⟩; replace HO135 := aM (Kd.R_below (uR HO135) hb); replace HB := aM (below_step (uL HB) hb); try clear hb; have p139 : 0 ≤ (1 : Int) := (by omega); have q139 : 1 < (t133.length : Int) := of_decide_eq_true (by first | (with_reducible assumption) | assumption); obtain ⟨ad139, e139, hx139_0⟩ := Kd.at_string (Kd.R_reads' HO135.out).2.2 1 p139 q139; obtain rfl : ad136 = ad139 := (by injection e139); (try simp only [show (1 : Int).toNat = 1 from rfl, Nat.reduceMul, Nat.reduceEqDiff, Go.Addr.add, ↓reduceIte] at hx139_0); have qi139 : (1 < t133.length) = True := eq_true (by omega); (try rw [show ((1 : Int)).toNat = 1 from rfl] at hx139_0); replace p139 := eq_true p139; replace q139 := eq_true q139) | ((with_reducible refine gate_callee (f := 86) rfl ?_); refine gL (some 60) Tryd.func86 #[.string (rdOf ByteArray.empty t133 1)] ?_; (with_reducible refine (spec_ReadDecimal.calls kj4 (rdOf ByteArray.empty t133 1) t140 true _ A20.out).mono ?_); rintro e w29 ⟨rfl, hb⟩; refine ⟨_, rfl, ?_⟩; replace HO135 := aM (Kd.R_below (uR HO135) hb); replace HB := aM (below_step (uL HB) hb); try clear hb))
             refine bodyPost_ret (results_list (rs := [.tmp 6, .tmp 7, .tmp 8, .tmp 9]) rfl (by simp) (.tmp (.tmp (.tmp (.tmp .nil))))) rfl ?_
             exact rX HB
            ·rw [if_neg c25] at H
             have c25b0 : decide (t137 ≤ t140) = false := decide_eq_false c25
             clear c25
             simp only [Option.some.injEq, Prod.mk.injEq] at H
             obtain ⟨rfl, rfl, rfl, rfl⟩ := H
             go_wp2_with (first | ((with_reducible refine gate_callee (f := 74) rfl ?_); refine gL (some 44) Tryd.func74 #[.string a0, .int .u8 45] ?_; (with_reducible refine (spec_l10Split.calls kj4 a0 45 t133 _ A15.out).mono ?_); rintro e w30 ⟨v134, rfl, ho0, hb⟩; refine ⟨_, rfl, ?_⟩; have HO135 := aM (Kd.R_lower ho0 (below_size (uL HB))); replace HB := aM (below_step (uL HB) hb); try clear hb ho0; obtain ⟨Ao31, co31, eo31⟩ := Kd.R_slice HO135.out; subst eo31; have p136 : 0 ≤ (0 : Int) := (by omega); have q136 : 0 < (t133.length : Int) := of_decide_eq_true (by first | (with_reducible assumption) | assumption); obtain ⟨ad136, e136, hx136_0⟩ := Kd.at_string (Kd.R_reads' HO135.out).2.2 0 p136 q136; cases e136; have qi136 : (0 < t133.length) = True := eq_true (by omega); (try rw [show ((0 : Int)).toNat = 0 from rfl] at hx136_0); (try rw [Addr.add_zero'] at hx136_0); replace p136 := eq_true p136; replace q136 := eq_true q136) | ((with_reducible refine gate_callee (f := 86) rfl ?_); refine gL (some 49) Tryd.func86 #[.string (rdOf ByteArray.empty t133 0)] ?_; (with_reducible refine (spec_ReadDecimal.calls kj4 (rdOf ByteArray.empty t133 0) t137 true _ A17.out).mono ?_); rintro e w32 ⟨rfl, hb⟩; refine ⟨_, rfl, ?_⟩; replace HO135 := aM (Kd.R_below (uR HO135) hb); replace HB := aM (below_step (uL HB) hb); try clear hb; have p139 : 0 ≤ (1 : Int) := (by omega); have q139 : 1 < (t133.length : Int) := of_decide_eq_true (by first | (with_reducible assumption) | assumption); obtain ⟨ad139, e139, hx139_0⟩ := Kd.at_string (Kd.R_reads' HO135.out).2.2 1 p139 q139; obtain rfl : ad136 = ad139 := (by injection e139); (try simp only [show (1 : Int).toNat = 1 from rfl, Nat.reduceMul, Nat.reduceEqDiff, Go.Addr.add, ↓reduceIte] at hx139_0); have qi139 : (1 < t133.length) = True := eq_true (by omega); (try rw [show ((1 : Int)).toNat = 1 from rfl] at hx139_0); replace p139 := eq_true p139; replace q139 := eq_true q139) | ((with_reducible refine gate_callee (f := 86) rfl ?_); refine gL (some 60) Tryd.func86 #[.string (rdOf ByteArray.empty t133 1)] ?_; (with_reducible refine (spec_ReadDecimal.calls kj4 (rdOf ByteArray.empty t133 1) t140 true _ A20.out).mono ?_); rintro e w33 ⟨rfl, hb⟩; refine ⟨_, rfl, ?_⟩; replace HO135 := aM (Kd.R_below (uR HO135) hb); replace HB := aM (below_step (uL HB) hb); try clear hb))
             refine bodyPost_ret (results_list (rs := [.tmp 6, .tmp 7, .tmp 8, .tmp 9]) rfl (by simp) (.tmp (.tmp (.tmp (.tmp .nil))))) rfl ?_
             exact rX HB
           ·rw [if_neg c24] at H
            have c24b0 : decide (a1 ≤ t137) = false := decide_eq_false c24
            clear c24
            simp only [Option.some.injEq, Prod.mk.injEq] at H
            obtain ⟨rfl, rfl, rfl, rfl⟩ := H
            go_wp2_with (first | ((with_reducible refine gate_callee (f := 74) rfl ?_); refine gL (some 44) Tryd.func74 #[.string a0, .int .u8 45] ?_; (with_reducible refine (spec_l10Split.calls kj4 a0 45 t133 _ A15.out).mono ?_); rintro e w34 ⟨v134, rfl, ho0, hb⟩; refine ⟨_, rfl, ?_⟩; have HO135 := aM (Kd.R_lower ho0 (below_size (uL HB))); replace HB := aM (below_step (uL HB) hb); try clear hb ho0; obtain ⟨Ao35, co35, eo35⟩ := Kd.R_slice HO135.out; subst eo35; have p136 : 0 ≤ (0 : Int) := (by omega); have q136 : 0 < (t133.length : Int) := of_decide_eq_true (by first | (with_reducible assumption) | assumption); obtain ⟨ad136, e136, hx136_0⟩ := Kd.at_string (Kd.R_reads' HO135.out).2.2 0 p136 q136; cases e136; have qi136 : (0 < t133.length) = True := eq_true (by omega); (try rw [show ((0 : Int)).toNat = 0 from rfl] at hx136_0); (try rw [Addr.add_zero'] at hx136_0); replace p136 := eq_true p136; replace q136 := eq_true q136) | ((with_reducible refine gate_callee (f := 86) rfl ?_); refine gL (some 49) Tryd.func86 #[.string (rdOf ByteArray.empty t133 0)] ?_; (with_reducible refine (spec_ReadDecimal.calls kj4 (rdOf ByteArray.empty t133 0) t137 true _ A17.out).mono ?_); rintro e w36 ⟨rfl, hb⟩; refine ⟨_, rfl, ?_⟩; replace HO135 := aM (Kd.R_below (uR HO135) hb); replace HB := aM (below_step (uL HB) hb); try clear hb; have p139 : 0 ≤ (1 : Int) := (by omega); have q139 : 1 < (t133.length : Int) := of_decide_eq_true (by first | (with_reducible assumption) | assumption); obtain ⟨ad139, e139, hx139_0⟩ := Kd.at_string (Kd.R_reads' HO135.out).2.2 1 p139 q139; obtain rfl : ad136 = ad139 := (by injection e139); (try simp only [show (1 : Int).toNat = 1 from rfl, Nat.reduceMul, Nat.reduceEqDiff, Go.Addr.add, ↓reduceIte] at hx139_0); have qi139 : (1 < t133.length) = True := eq_true (by omega); (try rw [show ((1 : Int)).toNat = 1 from rfl] at hx139_0); replace p139 := eq_true p139; replace q139 := eq_true q139) | ((with_reducible refine gate_callee (f := 86) rfl ?_); refine gL (some 60) Tryd.func86 #[.string (rdOf ByteArray.empty t133 1)] ?_; (with_reducible refine (spec_ReadDecimal.calls kj4 (rdOf ByteArray.empty t133 1) t140 true _ A20.out).mono ?_); rintro e w37 ⟨rfl, hb⟩; refine ⟨_, rfl, ?_⟩; replace HO135 := aM (Kd.R_below (uR HO135) hb); replace HB := aM (below_step (uL HB) hb); try clear hb))
            refine bodyPost_ret (results_list (rs := [.tmp 6, .tmp 7, .tmp 8, .tmp 9]) rfl (by simp) (.tmp (.tmp (.tmp (.tmp .nil))))) rfl ?_
            exact rX HB
          ·rw [if_neg c23] at H
           have c23b0 : decide ((t133.length : Int) ≤ 2) = false := decide_eq_false c23
           have c23b1 : decide (t133.length ≤ 2) = false := decide_eq_false (by omega)
           clear c23
           simp only [Option.some.injEq, Prod.mk.injEq] at H
           obtain ⟨rfl, rfl, rfl, rfl⟩ := H
           go_wp2_with (first | ((with_reducible refine gate_callee (f := 74) rfl ?_); refine gL (some 44) Tryd.func74 #[.string a0, .int .u8 45] ?_; (with_reducible refine (spec_l10Split.calls kj4 a0 45 t133 _ A15.out).mono ?_); rintro e w38 ⟨v134, rfl, ho0, hb⟩; refine ⟨_, rfl, ?_⟩; have HO135 := aM (Kd.R_lower ho0 (below_size (uL HB))); replace HB := aM (below_step (uL HB) hb); try clear hb ho0; obtain ⟨Ao39, co39, eo39⟩ := Kd.R_slice HO135.out; subst eo39; have p136 : 0 ≤ (0 : Int) := (by omega); have q136 : 0 < (t133.length : Int) := of_decide_eq_true (by first | (with_reducible assumption) | assumption); obtain ⟨ad136, e136, hx136_0⟩ := Kd.at_string (Kd.R_reads' HO135.out).2.2 0 p136 q136; cases e136; have qi136 : (0 < t133.length) = True := eq_true (by omega); (try rw [show ((0 : Int)).toNat = 0 from rfl] at hx136_0); (try rw [Addr.add_zero'] at hx136_0); replace p136 := eq_true p136; replace q136 := eq_true q136) | ((with_reducible refine gate_callee (f := 86) rfl ?_); refine gL (some 49) Tryd.func86 #[.string (rdOf ByteArray.empty t133 0)] ?_; (with_reducible refine (spec_ReadDecimal.calls kj4 (rdOf ByteArray.empty t133 0) t137 true _ A17.out).mono ?_); rintro e w40 ⟨rfl, hb⟩; refine ⟨_, rfl, ?_⟩; replace HO135 := aM (Kd.R_below (uR HO135) hb); replace HB := aM (below_step (uL HB) hb); try clear hb; have p139 : 0 ≤ (1 : Int) := (by omega); have q139 : 1 < (t133.length : Int) := of_decide_eq_true (by first | (with_reducible assumption) | assumption); obtain ⟨ad139, e139, hx139_0⟩ := Kd.at_string (Kd.R_reads' HO135.out).2.2 1 p139 q139; obtain rfl : ad136 = ad139 := (by injection e139); (try simp only [show (1 : Int).toNat = 1 from rfl, Nat.reduceMul, Nat.reduceEqDiff, Go.Addr.add, ↓reduceIte] at hx139_0); have qi139 : (1 < t133.length) = True := eq_true (by omega); (try rw [show ((1 : Int)).toNat = 1 from rfl] at hx139_0); replace p139 := eq_true p139; replace q139 := eq_true q139) | ((with_reducible refine gate_callee (f := 86) rfl ?_); refine gL (some 60) Tryd.func86 #[.string (rdOf ByteArray.empty t133 1)] ?_; (with_reducible refine (spec_ReadDecimal.calls kj4 (rdOf ByteArray.empty t133 1) t140 true _ A20.out).mono ?_); rintro e w41 ⟨rfl, hb⟩; refine ⟨_, rfl, ?_⟩; replace HO135 := aM (Kd.R_below (uR HO135) hb); replace HB := aM (below_step (uL HB) hb); try clear hb))
           refine bodyPost_ret (results_list (rs := [.tmp 6, .tmp 7, .tmp 8, .tmp 9]) rfl (by simp) (.tmp (.tmp (.tmp (.tmp .nil))))) rfl ?_
           exact rX HB
         ·replace c22 := Bool.eq_false_iff.mpr c22
          subst c22
          have H1 : (some (t137, t140, 1, false)) = some (r1, r2, r3, r4) := by rw [if_neg (show ¬ (false = true) by decide)] at H; exact H
          clear H; have H := H1; clear H1
          simp only [Option.some.injEq, Prod.mk.injEq] at H
          obtain ⟨rfl, rfl, rfl, rfl⟩ := H
          go_wp2_with (first | ((with_reducible refine gate_callee (f := 74) rfl ?_); refine gL (some 44) Tryd.func74 #[.string a0, .int .u8 45] ?_; (with_reducible refine (spec_l10Split.calls kj4 a0 45 t133 _ A15.out).mono ?_); rintro e w42 ⟨v134, rfl, ho0, hb⟩; refine ⟨_, rfl, ?_⟩; have HO135 := aM (Kd.R_lower ho0 (below_size (uL HB))); replace HB := aM (below_step (uL HB) hb); try clear hb ho0; obtain ⟨Ao43, co43, eo43⟩ := Kd.R_slice HO135.out; subst eo43; have p136 : 0 ≤ (0 : Int) := (by omega); have q136 : 0 < (t133.length : Int) := of_decide_eq_true (by first | (with_reducible assumption) | assumption); obtain ⟨ad136, e136, hx136_0⟩ := Kd.at_string (Kd.R_reads' HO135.out).2.2 0 p136 q136; cases e136; have qi136 : (0 < t133.length) = True := eq_true (by omega); (try rw [show ((0 : Int)).toNat = 0 from rfl] at hx136_0); (try rw [Addr.add_zero'] at hx136_0); replace p136 := eq_true p136; replace q136 := eq_true q136) | ((with_reducible refine gate_callee (f := 86) rfl ?_); refine gL (some 49) Tryd.func86 #[.string (rdOf ByteArray.empty t133 0)] ?_; (with_reducible refine (spec_ReadDecimal.calls kj4 (rdOf ByteArray.empty t133 0) t137 true _ A17.out).mono ?_); rintro e w44 ⟨rfl, hb⟩; refine ⟨_, rfl, ?_⟩; replace HO135 := aM (Kd.R_below (uR HO135) hb); replace HB := aM (below_step (uL HB) hb); try clear hb; have p139 : 0 ≤ (1 : Int) := (by omega); have q139 : 1 < (t133.length : Int) := of_decide_eq_true (by first | (with_reducible assumption) | assumption); obtain ⟨ad139, e139, hx139_0⟩ := Kd.at_string (Kd.R_reads' HO135.out).2.2 1 p139 q139; obtain rfl : ad136 = ad139 := (by injection e139); (try simp only [show (1 : Int).toNat = 1 from rfl, Nat.reduceMul, Nat.reduceEqDiff, Go.Addr.add, ↓reduceIte] at hx139_0); have qi139 : (1 < t133.length) = True := eq_true (by omega); (try rw [show ((1 : Int)).toNat = 1 from rfl] at hx139_0); replace p139 := eq_true p139; replace q139 := eq_true q139) | ((with_reducible refine gate_callee (f := 86) rfl ?_); refine gL (some 60) Tryd.func86 #[.string (rdOf ByteArray.empty t133 1)] ?_; (with_reducible refine (spec_ReadDecimal.calls kj4 (rdOf ByteArray.empty t133 1) t140 false _ A20.out).mono ?_); rintro e w45 ⟨rfl, hb⟩; refine ⟨_, rfl, ?_⟩; replace HO135 := aM (Kd.R_below (uR HO135) hb); replace HB := aM (below_step (uL HB) hb); try clear hb))
          refine bodyPost_ret (results_list (rs := [.tmp 6, .tmp 7, .tmp 8, .tmp 9]) rfl (by simp) (.tmp (.tmp (.tmp (.tmp .nil))))) rfl ?_
          exact rX HB
        ·replace c21 := Bool.eq_false_iff.mpr c21
         subst c21
         have H1 : (some (t137, t140, 1, false)) = some (r1, r2, r3, r4) := by rw [if_neg (show ¬ (false = true) by decide)] at H; exact H
         clear H; have H := H1; clear H1
         simp only [Option.some.injEq, Prod.mk.injEq] at H
         obtain ⟨rfl, rfl, rfl, rfl⟩ := H
         go_wp2_with (first | ((with_reducible refine gate_callee (f := 74) rfl ?_); refine gL (some 44) Tryd.func74 #[.string a0, .int .u8 45] ?_; (with_reducible refine (spec_l10Split.calls kj4 a0 45 t133 _ A15.out).mono ?_); rintro e w46 ⟨v134, rfl, ho0, hb⟩; refine ⟨_, rfl, ?_⟩; have HO135 := aM (Kd.R_lower ho0 (below_size (uL HB))); replace HB := aM (below_step (uL HB) hb); try clear hb ho0; obtain ⟨Ao47, co47, eo47⟩ := Kd.R_slice HO135.out; subst eo47; have p136 : 0 ≤ (0 : Int) := (by omega); have q136 : 0 < (t133.length : Int) := of_decide_eq_true (by first | (with_reducible assumption) | assumption); obtain ⟨ad136, e136, hx136_0⟩ := Kd.at_string (Kd.R_reads' HO135.out).2.2 0 p136 q136; cases e136; have qi136 : (0 < t133.length) = True := eq_true (by omega); (try rw [show ((0 : Int)).toNat = 0 from rfl] at hx136_0); (try rw [Addr.add_zero'] at hx136_0); replace p136 := eq_true p136; replace q136 := eq_true q136) | ((with_reducible refine gate_callee (f := 86) rfl ?_); refine gL (some 49) Tryd.func86 #[.string (rdOf ByteArray.empty t133 0)] ?_; (with_reducible refine (spec_ReadDecimal.calls kj4 (rdOf ByteArray.empty t133 0) t137 false _ A17.out).mono ?_); rintro e w48 ⟨rfl, hb⟩; refine ⟨_, rfl, ?_⟩; replace HO135 := aM (Kd.R_below (uR HO135) hb); replace HB := aM (below_step (uL HB) hb); try clear hb; have p139 : 0 ≤ (1 : Int) := (by omega); have q139 : 1 < (t133.length : Int) := of_decide_eq_true (by first | (with_reducible assumption) | assumption); obtain ⟨ad139, e139, hx139_0⟩ := Kd.at_string (Kd.R_reads' HO135.out).2.2 1 p139 q139; obtain rfl : ad136 = ad139 := (by injection e139); (try simp only [show (1 : Int).toNat = 1 from rfl, Nat.reduceMul, Nat.reduceEqDiff, Go.Addr.add, ↓reduceIte] at hx139_0); have qi139 : (1 < t133.length) = True := eq_true (by omega); (try rw [show ((1 : Int)).toNat = 1 from rfl] at hx139_0); replace p139 := eq_true p139; replace q139 := eq_true q139) | ((with_reducible refine gate_callee (f := 86) rfl ?_); refine gL (some 60) Tryd.func86 #[.string (rdOf ByteArray.empty t133 1)] ?_; (with_reducible refine (spec_ReadDecimal.calls kj4 (rdOf ByteArray.empty t133 1) t140 t141 _ A20.out).mono ?_); rintro e w49 ⟨rfl, hb⟩; refine ⟨_, rfl, ?_⟩; replace HO135 := aM (Kd.R_below (uR HO135) hb); replace HB := aM (below_step (uL HB) hb); try clear hb))
         refine bodyPost_ret (results_list (rs := [.tmp 6, .tmp 7, .tmp 8, .tmp 9]) rfl (by simp) (.tmp (.tmp (.tmp (.tmp .nil))))) rfl ?_
         exact rX HB
       ·rw [if_neg c19] at H
        exact absurd H (by simp)
      ·rw [if_neg c18] at H
       have c18b0 : ((t133.length : Int) == 2) = false := beq_eq_false_iff_ne.mpr c18
       have c18b1 : ((t133.length : Int) != 2) = true := bne_iff_ne.mpr c18
       by_cases c50 : t138 = true
       ·subst c50
        rw [if_pos rfl] at H
        by_cases c51 : (t133.length : Int) ≤ 2
        ·rw [if_pos c51] at H
         have c51b0 : decide ((t133.length : Int) ≤ 2) = true := decide_eq_true c51
         have c51b1 : decide (t133.length ≤ 2) = true := decide_eq_true (by omega)
         clear c51
         by_cases c52 : a1 ≤ t137
         ·rw [if_pos c52] at H
          have c52b0 : decide (a1 ≤ t137) = true := decide_eq_true c52
          clear c52
          by_cases c53 : t137 ≤ t137
          ·rw [if_pos c53] at H
           have c53b0 : decide (t137 ≤ t137) = true := decide_eq_true c53
           clear c53
           simp only [Option.some.injEq, Prod.mk.injEq] at H
           obtain ⟨rfl, rfl, rfl, rfl⟩ := H
           go_wp2_with (first | ((with_reducible refine gate_callee (f := 74) rfl ?_); refine gL (some 44) Tryd.func74 #[.string a0, .int .u8 45] ?_; (with_reducible refine (spec_l10Split.calls kj4 a0 45 t133 _ A15.out).mono ?_); rintro e w54 ⟨v134, rfl, ho0, hb⟩; refine ⟨_, rfl, ?_⟩; have HO135 := aM (Kd.R_lower ho0 (below_size (uL HB))); replace HB := aM (below_step (uL HB) hb); try clear hb ho0; obtain ⟨Ao55, co55, eo55⟩ := Kd.R_slice HO135.out; subst eo55; have p136 : 0 ≤ (0 : Int) := (by omega); have q136 : 0 < (t133.length : Int) := of_decide_eq_true (by first | (with_reducible assumption) | assumption); obtain ⟨ad136, e136, hx136_0⟩ := Kd.at_string (Kd.R_reads' HO135.out).2.2 0 p136 q136; cases e136; have qi136 : (0 < t133.length) = True := eq_true (by omega); (try rw [show ((0 : Int)).toNat = 0 from rfl] at hx136_0); (try rw [Addr.add_zero'] at hx136_0); replace p136 := eq_true p136; replace q136 := eq_true q136) | ((with_reducible refine gate_callee (f := 86) rfl ?_); refine gL (some 49) Tryd.func86 #[.string (rdOf ByteArray.empty t133 0)] ?_; (with_reducible refine (spec_ReadDecimal.calls kj4 (rdOf ByteArray.empty t133 0) t137 true _ A17.out).mono ?_); rintro e w56 ⟨rfl, hb⟩; refine ⟨_, rfl, ?_⟩; replace HO135 := aM (Kd.R_below (uR HO135) hb); replace HB := aM (below_step (uL HB) hb); try clear hb))
           refine bodyPost_ret (results_list (rs := [.tmp 6, .tmp 7, .tmp 8, .tmp 9]) rfl (by simp) (.tmp (.tmp (.tmp (.tmp .nil))))) rfl ?_
           exact rX HB
          ·exact absurd (Int.le_refl _) c53
         ·rw [if_neg c52] at H
          have c52b0 : decide (a1 ≤ t137) = false := decide_eq_false c52
          clear c52
          simp only [Option.some.injEq, Prod.mk.injEq] at H
          obtain ⟨rfl, rfl, rfl, rfl⟩ := H
          go_wp2_with (first | ((with_reducible refine gate_callee (f := 74) rfl ?_); refine gL (some 44) Tryd.func74 #[.string a0, .int .u8 45] ?_; (with_reducible refine (spec_l10Split.calls kj4 a0 45 t133 _ A15.out).mono ?_); rintro e w60 ⟨v134, rfl, ho0, hb⟩; refine ⟨_, rfl, ?_⟩; have HO135 := aM (Kd.R_lower ho0 (below_size (uL HB))); replace HB := aM (below_step (uL HB) hb); try clear hb ho0; obtain ⟨Ao61, co61, eo61⟩ := Kd.R_slice HO135.out; subst eo61; have p136 : 0 ≤ (0 : Int) := (by omega); have q136 : 0 < (t133.length : Int) := of_decide_eq_true (by first | (with_reducible assumption) | assumption); obtain ⟨ad136, e136, hx136_0⟩ := Kd.at_string (Kd.R_reads' HO135.out).2.2 0 p136 q136; cases e136; have qi136 : (0 < t133.length) = True := eq_true (by omega); (try rw [show ((0 : Int)).toNat = 0 from rfl] at hx136_0); (try rw [Addr.add_zero'] at hx136_0); replace p136 := eq_true p136; replace q136 := eq_true q136) | ((with_reducible refine gate_callee (f := 86) rfl ?_); refine gL (some 49) Tryd.func86 #[.string (rdOf ByteArray.empty t133 0)] ?_; (with_reducible refine (spec_ReadDecimal.calls kj4 (rdOf ByteArray.empty t133 0) t137 true _ A17.out).mono ?_); rintro e w62 ⟨rfl, hb⟩; refine ⟨_, rfl, ?_⟩; replace HO135 := aM (Kd.R_below (uR HO135) hb); replace HB := aM (below_step (uL HB) hb); try clear hb))
          refine bodyPost_ret (results_list (rs := [.tmp 6, .tmp 7, .tmp 8, .tmp 9]) rfl (by simp) (.tmp (.tmp (.tmp (.tmp .nil))))) rfl ?_
          exact rX HB
        ·rw [if_neg c51] at H
         have c51b0 : decide ((t133.length : Int) ≤ 2) = false := decide_eq_false c51
         have c51b1 : decide (t133.length ≤ 2) = false := decide_eq_false (by omega)
         clear c51
         simp only [Option.some.injEq, Prod.mk.injEq] at H
         obtain ⟨rfl, rfl, rfl, rfl⟩ := H
         go_wp2_with (first | ((with_reducible refine gate_callee (f := 74) rfl ?_); refine gL (some 44) Tryd.func74 #[.string a0, .int .u8 45] ?_; (with_reducible refine (spec_l10Split.calls kj4 a0 45 t133 _ A15.out).mono ?_); rintro e w63 ⟨v134, rfl, ho0, hb⟩; refine ⟨_, rfl, ?_⟩; have HO135 := aM (Kd.R_lower ho0 (below_size (uL HB))); replace HB := aM (below_step (uL HB) hb); try clear hb ho0; obtain ⟨Ao64, co64, eo64⟩ := Kd.R_slice HO135.out; subst eo64; have p136 : 0 ≤ (0 : Int) := (by omega); have q136 : 0 < (t133.length : Int) := of_decide_eq_true (by first | (with_reducible assumption) | assumption); obtain ⟨ad136, e136, hx136_0⟩ := Kd.at_string (Kd.R_reads' HO135.out).2.2 0 p136 q136; cases e136; have qi136 : (0 < t133.length) = True := eq_true (by omega); (try rw [show ((0 : Int)).toNat = 0 from rfl] at hx136_0); (try rw [Addr.add_zero'] at hx136_0); replace p136 := eq_true p136; replace q136 := eq_true q136) | ((with_reducible refine gate_callee (f := 86) rfl ?_); refine gL (some 49) Tryd.func86 #[.string (rdOf ByteArray.empty t133 0)] ?_; (with_reducible refine (spec_ReadDecimal.calls kj4 (rdOf ByteArray.empty t133 0) t137 true _ A17.out).mono ?_); rintro e w65 ⟨rfl, hb⟩; refine ⟨_, rfl, ?_⟩; replace HO135 := aM (Kd.R_below (uR HO135) hb); replace HB := aM (below_step (uL HB) hb); try clear hb))
         refine bodyPost_ret (results_list (rs := [.tmp 6, .tmp 7, .tmp 8, .tmp 9]) rfl (by simp) (.tmp (.tmp (.tmp (.tmp .nil))))) rfl ?_
         exact rX HB
       ·replace c50 := Bool.eq_false_iff.mpr c50
        subst c50
        have H1 : (some (t137, t137, 1, false)) = some (r1, r2, r3, r4) := by rw [if_neg (show ¬ (false = true) by decide)] at H; exact H
        clear H; have H := H1; clear H1
        simp only [Option.some.injEq, Prod.mk.injEq] at H
        obtain ⟨rfl, rfl, rfl, rfl⟩ := H
        go_wp2_with (first | ((with_reducible refine gate_callee (f := 74) rfl ?_); refine gL (some 44) Tryd.func74 #[.string a0, .int .u8 45] ?_; (with_reducible refine (spec_l10Split.calls kj4 a0 45 t133 _ A15.out).mono ?_); rintro e w66 ⟨v134, rfl, ho0, hb⟩; refine ⟨_, rfl, ?_⟩; have HO135 := aM (Kd.R_lower ho0 (below_size (uL HB))); replace HB := aM (below_step (uL HB) hb); try clear hb ho0; obtain ⟨Ao67, co67, eo67⟩ := Kd.R_slice HO135.out; subst eo67; have p136 : 0 ≤ (0 : Int) := (by omega); have q136 : 0 < (t133.length : Int) := of_decide_eq_true (by first | (with_reducible assumption) | assumption); obtain ⟨ad136, e136, hx136_0⟩ := Kd.at_string (Kd.R_reads' HO135.out).2.2 0 p136 q136; cases e136; have qi136 : (0 < t133.length) = True := eq_true (by omega); (try rw [show ((0 : Int)).toNat = 0 from rfl] at hx136_0); (try rw [Addr.add_zero'] at hx136_0); replace p136 := eq_true p136; replace q136 := eq_true q136) | ((with_reducible refine gate_callee (f := 86) rfl ?_); refine gL (some 49) Tryd.func86 #[.string (rdOf ByteArray.empty t133 0)] ?_; (with_reducible refine (spec_ReadDecimal.calls kj4 (rdOf ByteArray.empty t133 0) t137 false _ A17.out).mono ?_); rintro e w68 ⟨rfl, hb⟩; refine ⟨_, rfl, ?_⟩; replace HO135 := aM (Kd.R_below (uR HO135) hb); replace HB := aM (below_step (uL HB) hb); try clear hb))
        refine bodyPost_ret (results_list (rs := [.tmp 6, .tmp 7, .tmp 8, .tmp 9]) rfl (by simp) (.tmp (.tmp (.tmp (.tmp .nil))))) rfl ?_
        exact rX HB
     ·rw [if_neg c16] at H
      exact absurd H (by simp)
    case L3p | L3n =>
     go_wp2_with (first | ((with_reducible refine gate_callee (f := 86) rfl ?_); refine gL (some 32) Tryd.func86 #[.string (a0.extract 2 a0.size)] ?_; (with_reducible refine (spec_ReadDecimal.calls kj4 (a0.extract 2 a0.size) t131 _ _ A11.out).mono ?_); rintro e w13 ⟨rfl, hb⟩; refine ⟨_, rfl, ?_⟩; replace HB := aM (below_step (uL HB) hb); try clear hb))
     refine bodyPost_ret (results_list (rs := [.tmp 6, .tmp 7, .tmp 8, .tmp 9]) rfl (by simp) (.tmp (.tmp (.tmp (.tmp .nil))))) rfl ?_
     exact rX HB

end Go.Proofs.YthomiofokkkhgaaDoor.QFnExactParseCron
