-- Own work (wip/turnprint.py over the kit's print).
import Derived.Test.YthomiofokkkhgaaGreatDoorQFnRulesx0
import Derived.Test.YthomiofokkkhgaaGreatDoorQFnRulesx7
namespace Go.Proofs.YthomiofokkkhgaaGreatDoor.QFnRules
open Go.RowKit Go.Proofs.YthomiofokkkhgaaGreatDoorW.PrintWords Go.Proofs.YthomiofokkkhgaaGreatDoorW.PrintLast Go.Proofs.YthomiofokkkhgaaGreatDoorW.PrintMore
attribute [local go_sem] max2_int min2_int max_two min_two max_three min_three max_four min_four   -- for this text's walks alone
set_option linter.unusedVariables false
set_option linter.unusedSimpArgs false

/-! ### spec_l10Piece: function 46 -/
def spec_l10Piece.j0 : Nat → ByteArray → Int → Int → Bool → Option (Int × Int × Int × Bool)
 | 0, _, _, _, _ => none
 | k + 1, x0, x1, x2, x28 => if x28 = true then (if 2 ≤ (x0.size : Int) then ((spec_ReadDecimal.f k (x0.extract 2 x0.size)).bind fun bt359 => (if bt359.2 = true then (some (x1, x2, bt359.1, decide (bt359.1 ≥ 1))) else (some (x1, x2, bt359.1, false)))) else (none)) else ((spec_l10Split.f k x0 45).bind fun t361 => (if 0 < (t361.length : Int) then ((spec_ReadDecimal.f k (rdOf ByteArray.empty t361 0)).bind fun bt365 => (if (t361.length : Int) = 2 then (if 1 < (t361.length : Int) then ((spec_ReadDecimal.f k (rdOf ByteArray.empty t361 1)).bind fun bt368 => (if bt365.2 = true then (if bt368.2 = true then (if (t361.length : Int) ≤ 2 then (if x1 ≤ bt365.1 then (if bt365.1 ≤ bt368.1 then (some (bt365.1, bt368.1, 1, decide (bt368.1 ≤ x2))) else (some (bt365.1, bt368.1, 1, false))) else (some (bt365.1, bt368.1, 1, false))) else (some (bt365.1, bt368.1, 1, false))) else (some (bt365.1, bt368.1, 1, false))) else (some (bt365.1, bt368.1, 1, false)))) else (none)) else (if bt365.2 = true then (if (t361.length : Int) ≤ 2 then (if x1 ≤ bt365.1 then (if bt365.1 ≤ bt365.1 then (some (bt365.1, bt365.1, 1, decide (bt365.1 ≤ x2))) else (some (bt365.1, bt365.1, 1, false))) else (some (bt365.1, bt365.1, 1, false))) else (some (bt365.1, bt365.1, 1, false))) else (some (bt365.1, bt365.1, 1, false))))) else (none)))
def spec_l10Piece.f (k : Nat) (a0 : ByteArray) (a1 : Int) (a2 : Int) : Option (Int × Int × Int × Bool) := if a0.toList = ([42] : List UInt8) then (some (a1, a2, 1, true)) else (if (a0.size : Int) > 2 then (if 0 ≤ 2 then (if 2 ≤ (a0.size : Int) then (spec_l10Piece.j0 k a0 a1 a2 ((a0.extract 0 2).toList == ([42, 47] : List UInt8))) else (none)) else (none)) else (spec_l10Piece.j0 k a0 a1 a2 false))
theorem spec_l10Piece.mono_l : ∀ k, (∀ y0 y1 y2 y3, LeO (spec_l10Piece.j0 k y0 y1 y2 y3) (spec_l10Piece.j0 (k + 1) y0 y1 y2 y3))
 | 0 => fun _ _ _ _ r h => by simp [spec_l10Piece.j0] at h
 | k + 1 => by
  have ih0 := spec_l10Piece.mono_l k
  ·intro y0 y1 y2 y3
   unfold spec_l10Piece.j0
   repeat' first
   | (with_reducible exact ih0 _ _ _ _)
   | (with_reducible exact spec_ReadDecimal.mono _ _)
   | (with_reducible exact spec_l10Split.mono _ _ _)
   | (with_reducible exact LeO.refl _)
   | (with_reducible exact LeO.none _)
   | (with_reducible refine LeO.ite ?_ ?_)
   | (with_reducible refine LeO.bind ?_ (fun _ => ?_))
   | exact ih0 _ _ _ _
   | exact spec_ReadDecimal.mono _ _
   | exact spec_l10Split.mono _ _ _
   | exact LeO.none _
   | refine LeO.ite ?_ ?_
   | refine LeO.bind ?_ (fun _ => ?_)
theorem spec_l10Piece.mono : ∀ a0 a1 a2 k, LeO (spec_l10Piece.f k a0 a1 a2) (spec_l10Piece.f (k + 1) a0 a1 a2) := by
 intro a0 a1 a2 k
 have ih0 := spec_l10Piece.mono_l k
 unfold spec_l10Piece.f
 repeat' first
  | (with_reducible exact ih0 _ _ _ _)
  | (with_reducible exact spec_ReadDecimal.mono _ _)
  | (with_reducible exact spec_l10Split.mono _ _ _)
  | (with_reducible exact LeO.refl _)
  | (with_reducible exact LeO.none _)
  | (with_reducible refine LeO.ite ?_ ?_)
  | (with_reducible refine LeO.bind ?_ (fun _ => ?_))
  | exact ih0 _ _ _ _
  | exact spec_ReadDecimal.mono _ _
  | exact spec_l10Split.mono _ _ _
  | exact LeO.none _
  | refine LeO.ite ?_ ?_
  | refine LeO.bind ?_ (fun _ => ?_)
set_option maxHeartbeats 8000000 in
set_option maxRecDepth 100000 in
theorem spec_l10Piece.calls (k : Nat) (a0 : ByteArray) (a1 : Int) (a2 : Int) (r1 : Int) (r2 : Int) (r3 : Int) (r4 : Bool) (w : World) (h : spec_l10Piece.f k a0 a1 a2 = some (r1, r2, r3, r4)) :
 Calls Tryz.prog 46 #[.string a0, .int .i64 a1, .int .i64 a2] w fun e w' => e = .returned (.tuple #[.int .i64 r1, .int .i64 r2, .int .i64 r3, .bool r4]) ∧ Below w.heap.size w w' := by
 have HB := aM (Below.refl w.heap.size w)
 have H : (if a0.toList = ([42] : List UInt8) then (some (a1, a2, 1, true)) else (if (a0.size : Int) > 2 then (if 0 ≤ 2 then (if 2 ≤ (a0.size : Int) then (spec_l10Piece.j0 k a0 a1 a2 ((a0.extract 0 2).toList == ([42, 47] : List UInt8))) else (none)) else (none)) else (spec_l10Piece.j0 k a0 a1 a2 false))) = some (r1, r2, r3, r4) := h
 clear h
 by_cases c4 : a0.toList = ([42] : List UInt8)
 ·rw [if_pos c4] at H
  have c4b0 : (a0.toList == ([42] : List UInt8)) = true := beq_iff_eq.mpr c4
  have c4b1 : (a0.toList != ([42] : List UInt8)) = false := bne_eq_false_iff_eq.mpr c4
  clear c4
  simp only [Option.some.injEq, Prod.mk.injEq] at H
  obtain ⟨rfl, rfl, rfl, rfl⟩ := H
  go_enter Tryz.func46, Tryz.ntmps46
  go_wp2
  refine bodyPost_ret (results_list (rs := [.tmp 6, .tmp 7, .tmp 8, .tmp 9]) rfl (by simp) (.tmp (.tmp (.tmp (.tmp .nil))))) rfl ?_
  exact rX HB
 ·rw [if_neg c4] at H
  have c4b0 : (a0.toList == ([42] : List UInt8)) = false := beq_eq_false_iff_ne.mpr c4
  have c4b1 : (a0.toList != ([42] : List UInt8)) = true := bne_iff_ne.mpr c4
  have HC5 := aM H
  clear H
  go_enter Tryz.func46, Tryz.ntmps46
  go_upto_region 3 with (fail)
  go_cut [28] (fun v28 wc => ∃ (kq : Nat) (x28_4 : Bool), v28 = .bool x28_4 ∧ Aside0 (spec_l10Piece.j0 kq a0 a1 a2 x28_4 = some (r1, r2, r3, r4)) ∧ Aside0 (kq ≤ k) ∧ Aside0 (Below w.heap.size w wc))
  case first =>
   have H := HC5.out
   clear HC5
   by_cases c6 : (a0.size : Int) > 2
   ·rw [if_pos c6] at H
    have c6b0 : decide (2 < (a0.size : Int)) = true := decide_eq_true c6
    have c6b1 : decide (2 < a0.size) = true := decide_eq_true (by omega)
    clear c6
    (first | rw [c6b0] | (simp only [i64_w, i32_w]; rw [c6b0]) | skip)
    by_cases c7 : 0 ≤ 2
    ·rw [if_pos c7] at H
     have c7b0 := eq_true c7
     have c7b1 : decide (0 ≤ 2) = true := decide_eq_true c7
     clear c7
     by_cases c8 : 2 ≤ (a0.size : Int)
     ·rw [if_pos c8] at H
      have c8b0 := eq_true c8
      have c8b1 : decide (2 ≤ (a0.size : Int)) = true := decide_eq_true c8
      clear c8
      have H' := aM H
      clear H
      go_wp2
      go_meet
      case rel => exact ⟨_, (((a0.extract 0 2).toList == ([42, 47] : List UInt8))), (by first | rfl | (simp; done) | (simp [*]; done)), H', ⟨by first | omega | exact Nat.le_refl _⟩, ⟨uL HB⟩⟩
     ·rw [if_neg c8] at H
      exact absurd H (by simp)
    ·rw [if_neg c7] at H
     exact absurd H (by simp)
   ·rw [if_neg c6] at H
    have c6b0 : decide (2 < (a0.size : Int)) = false := decide_eq_false c6
    have c6b1 : decide (2 < a0.size) = false := decide_eq_false (by omega)
    clear c6
    (first | rw [c6b0] | (simp only [i64_w, i32_w]; rw [c6b0]) | skip)
    have H' := aM H
    clear H
    go_wp2
    go_meet
    case rel => exact ⟨_, (false), (by first | rfl | (simp; done) | (simp [*]; done)), H', ⟨by first | omega | exact Nat.le_refl _⟩, ⟨uL HB⟩⟩
  case rest =>
   clear HC5
   try clear p2; try clear c4; try clear c4b0; try clear c4b1; try clear c6; try clear c6b0; try clear c6b1; try clear c7; try clear c7b0; try clear c7b1; try clear c8; try clear c8b0; try clear c8b1
   obtain ⟨kq, x28_4, rfl, HA, HJ4, HB⟩ := hcut
   cases kq with
   | zero => exact absurd HA.out (by simp [spec_l10Piece.j0])
   | succ kj4 =>
    have H := HA.out
    clear HA
    simp only [spec_l10Piece.j0] at H
    refine Classical.byCases (p := x28_4 = true) (fun c9 => ?L1p) (fun c9 => ?L1n)
    case' L1p =>
     subst c9
     rw [if_pos rfl] at H
     refine Classical.byCases (p := 2 ≤ (a0.size : Int)) (fun c10 => ?L2p) (fun c10 => ?L2n)
     case' L2p =>
      rw [if_pos c10] at H
      have c10b0 := eq_true c10
      have c10b1 : decide (2 ≤ (a0.size : Int)) = true := decide_eq_true c10
      clear c10
      replace H := Option.bind_eq_some_iff.mp H
      obtain ⟨⟨t359, t360⟩, A110, H⟩ := H
      replace H : (if t360 = true then (some (a1, a2, t359, decide (t359 ≥ 1))) else (some (a1, a2, t359, false))) = some (r1, r2, r3, r4) := H
      have A11 := aM A110
      clear A110
      refine Classical.byCases (p := t360 = true) (fun c12 => ?L3p) (fun c12 => ?L3n)
      case' L3p =>
       subst c12
       have H1 : (some (a1, a2, t359, decide (t359 ≥ 1))) = some (r1, r2, r3, r4) := by rw [if_pos rfl] at H; exact H
       clear H; have H := H1; clear H1
       simp only [Option.some.injEq, Prod.mk.injEq] at H
       obtain ⟨rfl, rfl, rfl, rfl⟩ := H
      case' L3n =>
       replace c12 := Bool.eq_false_iff.mpr c12
       subst c12
       have H1 : (some (a1, a2, t359, false)) = some (r1, r2, r3, r4) := by rw [if_neg (show ¬ (false = true) by decide)] at H; exact H
       clear H; have H := H1; clear H1
       simp only [Option.some.injEq, Prod.mk.injEq] at H
       obtain ⟨rfl, rfl, rfl, rfl⟩ := H
     case' L2n =>
      rw [if_neg c10] at H
      exact absurd H (by simp)
    case' L1n =>
     replace c9 := Bool.eq_false_iff.mpr c9
     subst c9
     rw [if_neg (show ¬ (false = true) by decide)] at H
     replace H := Option.bind_eq_some_iff.mp H
     obtain ⟨t361, A150, H⟩ := H
     try dsimp only at H
     have A15 := aM A150
     clear A150
     by_cases c16 : 0 < (t361.length : Int)
     ·rw [if_pos c16] at H
      have c16b0 : decide (0 < (t361.length : Int)) = true := decide_eq_true c16
      have c16b1 : decide (0 < t361.length) = true := decide_eq_true (by omega)
      clear c16
      replace H := Option.bind_eq_some_iff.mp H
      obtain ⟨⟨t365, t366⟩, A170, H⟩ := H
      try dsimp only at H
      have A17 := aM A170
      clear A170
      by_cases c18 : (t361.length : Int) = 2
      ·rw [if_pos c18] at H
       have c18b0 : ((t361.length : Int) == 2) = true := beq_iff_eq.mpr c18
       have c18b1 : ((t361.length : Int) != 2) = false := bne_eq_false_iff_eq.mpr c18
       clear c18
       by_cases c19 : 1 < (t361.length : Int)
       ·rw [if_pos c19] at H
        have c19b0 : decide (1 < (t361.length : Int)) = true := decide_eq_true c19
        have c19b1 : decide (1 < t361.length) = true := decide_eq_true (by omega)
        clear c19
        replace H := Option.bind_eq_some_iff.mp H
        obtain ⟨⟨t368, t369⟩, A200, H⟩ := H
        try dsimp only at H
        have A20 := aM A200
        clear A200
        by_cases c21 : t366 = true
        ·subst c21
         rw [if_pos rfl] at H
         by_cases c22 : t369 = true
         ·subst c22
          rw [if_pos rfl] at H
          by_cases c23 : (t361.length : Int) ≤ 2
          ·rw [if_pos c23] at H
           have c23b0 : decide ((t361.length : Int) ≤ 2) = true := decide_eq_true c23
           have c23b1 : decide (t361.length ≤ 2) = true := decide_eq_true (by omega)
           clear c23
           by_cases c24 : a1 ≤ t365
           ·rw [if_pos c24] at H
            have c24b0 : decide (a1 ≤ t365) = true := decide_eq_true c24
            clear c24
            by_cases c25 : t365 ≤ t368
            ·rw [if_pos c25] at H
             have c25b0 : decide (t365 ≤ t368) = true := decide_eq_true c25
             clear c25
             simp only [Option.some.injEq, Prod.mk.injEq] at H
             obtain ⟨rfl, rfl, rfl, rfl⟩ := H
             go_wp2_with (first | ((with_reducible refine gate_callee (f := 45) rfl ?_); refine gL (some 44) Tryz.func45 #[.string a0, .int .u8 45] ?_; (with_reducible refine (spec_l10Split.calls kj4 a0 45 t361 _ A15.out).mono ?_); rintro e w26 ⟨v362, rfl, ho0, hb⟩; refine ⟨_, rfl, ?_⟩; have HO363 := aM (Kd.R_lower ho0 (below_size (uL HB))); replace HB := aM (below_step (uL HB) hb); try clear hb ho0; obtain ⟨Ao27, co27, eo27⟩ := Kd.R_slice HO363.out; subst eo27; have p364 : 0 ≤ (0 : Int) := (by omega); have q364 : 0 < (t361.length : Int) := of_decide_eq_true (by first | (with_reducible assumption) | assumption); obtain ⟨ad364, e364, hx364_0⟩ := Kd.at_string (Kd.R_reads' HO363.out).2.2 0 p364 q364; cases e364; have qi364 : (0 < t361.length) = True := eq_true (by omega); (try rw [show ((0 : Int)).toNat = 0 from rfl] at hx364_0); (try rw [Addr.add_zero'] at hx364_0); replace p364 := eq_true p364; replace q364 := eq_true q364) | ((with_reducible refine gate_callee (f := 58) rfl ?_); refine gL (some 49) Tryz.func58 #[.string (rdOf ByteArray.empty t361 0)] ?_; (with_reducible refine (spec_ReadDecimal.calls kj4 (rdOf ByteArray.empty t361 0) t365 true _ A17.out).mono ?_); rintro e w28 ⟨rfl, hb⟩; refine ⟨_, rfl, ?_⟩; replace HO363 := aM (Kd.R_below (uR HO363) hb); replace HB := aM (below_step (uL HB) hb); try clear hb; have p367 : 0 ≤ (1 : Int) := (by omega); have q367 : 1 < (t361.length : Int) := of_decide_eq_true (by first | (with_reducible assumption) | assumption); obtain ⟨ad367, e367, hx367_0⟩ := Kd.at_string (Kd.R_reads' HO363.out).2.2 1 p367 q367; obtain rfl : ad364 = ad367 := (by injection e367); (try simp only [show (1 : Int).toNat = 1 from rfl, Nat.reduceMul, Nat.reduceEqDiff, Go.Addr.add, ↓reduceIte] at hx367_0); have qi367 : (1 < t361.length) = True := eq_true (by omega); (try rw [show ((1 : Int)).toNat = 1 from rfl] at hx367_0); replace p367 := eq_true p367; replace q367 := eq_true q367) | ((with_reducible refine gate_callee (f := 58) rfl ?_); refine gL (some 60) Tryz.func58 #[.string (rdOf ByteArray.empty t361 1)] ?_; (with_reducible refine (spec_ReadDecimal.calls kj4 (rdOf ByteArray.empty t361 1) t368 true _ A20.out).mono ?_); rintro e w29 ⟨rfl, hb⟩; refine ⟨_, rfl, ?_⟩; replace HO363 := aM (Kd.R_below (uR HO363) hb); replace HB := aM (below_step (uL HB) hb); try clear hb))
             refine bodyPost_ret (results_list (rs := [.tmp 6, .tmp 7, .tmp 8, .tmp 9]) rfl (by simp) (.tmp (.tmp (.tmp (.tmp .nil))))) rfl ?_
             exact rX HB
            ·rw [if_neg c25] at H
             have c25b0 : decide (t365 ≤ t368) = false := decide_eq_false c25
             clear c25
             simp only [Option.some.injEq, Prod.mk.injEq] at H
             obtain ⟨rfl, rfl, rfl, rfl⟩ := H
             go_wp2_with (first | ((with_reducible refine gate_callee (f := 45) rfl ?_); refine gL (some 44) Tryz.func45 #[.string a0, .int .u8 45] ?_; (with_reducible refine (spec_l10Split.calls kj4 a0 45 t361 _ A15.out).mono ?_); rintro e w30 ⟨v362, rfl, ho0, hb⟩; refine ⟨_, rfl, ?_⟩; have HO363 := aM (Kd.R_lower ho0 (below_size (uL HB))); replace HB := aM (below_step (uL HB) hb); try clear hb ho0; obtain ⟨Ao31, co31, eo31⟩ := Kd.R_slice HO363.out; subst eo31; have p364 : 0 ≤ (0 : Int) := (by omega); have q364 : 0 < (t361.length : Int) := of_decide_eq_true (by first | (with_reducible assumption) | assumption); obtain ⟨ad364, e364, hx364_0⟩ := Kd.at_string (Kd.R_reads' HO363.out).2.2 0 p364 q364; cases e364; have qi364 : (0 < t361.length) = True := eq_true (by omega); (try rw [show ((0 : Int)).toNat = 0 from rfl] at hx364_0); (try rw [Addr.add_zero'] at hx364_0); replace p364 := eq_true p364; replace q364 := eq_true q364) | ((with_reducible refine gate_callee (f := 58) rfl ?_); refine gL (some 49) Tryz.func58 #[.string (rdOf ByteArray.empty t361 0)] ?_; (with_reducible refine (spec_ReadDecimal.calls kj4 (rdOf ByteArray.empty t361 0) t365 true _ A17.out).mono ?_); rintro e w32 ⟨rfl, hb⟩; refine ⟨_, rfl, ?_⟩; replace HO363 := aM (Kd.R_below (uR HO363) hb); replace HB := aM (below_step (uL HB) hb); try clear hb; have p367 : 0 ≤ (1 : Int) := (by omega); have q367 : 1 < (t361.length : Int) := of_decide_eq_true (by first | (with_reducible assumption) | assumption); obtain ⟨ad367, e367, hx367_0⟩ := Kd.at_string (Kd.R_reads' HO363.out).2.2 1 p367 q367; obtain rfl : ad364 = ad367 := (by injection e367); (try simp only [show (1 : Int).toNat = 1 from rfl, Nat.reduceMul, Nat.reduceEqDiff, Go.Addr.add, ↓reduceIte] at hx367_0); have qi367 : (1 < t361.length) = True := eq_true (by omega); (try rw [show ((1 : Int)).toNat = 1 from rfl] at hx367_0); replace p367 := eq_true p367; replace q367 := eq_true q367) | ((with_reducible refine gate_callee (f := 58) rfl ?_); refine gL (some 60) Tryz.func58 #[.string (rdOf ByteArray.empty t361 1)] ?_; (with_reducible refine (spec_ReadDecimal.calls kj4 (rdOf ByteArray.empty t361 1) t368 true _ A20.out).mono ?_); rintro e w33 ⟨rfl, hb⟩; refine ⟨_, rfl, ?_⟩; replace HO363 := aM (Kd.R_below (uR HO363) hb); replace HB := aM (below_step (uL HB) hb); try clear hb))
             refine bodyPost_ret (results_list (rs := [.tmp 6, .tmp 7, .tmp 8, .tmp 9]) rfl (by simp) (.tmp (.tmp (.tmp (.tmp .nil))))) rfl ?_
             exact rX HB
           ·rw [if_neg c24] at H
            have c24b0 : decide (a1 ≤ t365) = false := decide_eq_false c24
            clear c24
            simp only [Option.some.injEq, Prod.mk.injEq] at H
            obtain ⟨rfl, rfl, rfl, rfl⟩ := H
            go_wp2_with (first | ((with_reducible refine gate_callee (f := 45) rfl ?_); refine gL (some 44) Tryz.func45 #[.string a0, .int .u8 45] ?_; (with_reducible refine (spec_l10Split.calls kj4 a0 45 t361 _ A15.out).mono ?_); rintro e w34 ⟨v362, rfl, ho0, hb⟩; refine ⟨_, rfl, ?_⟩; have HO363 := aM (Kd.R_lower ho0 (below_size (uL HB))); replace HB := aM (below_step (uL HB) hb); try clear hb ho0; obtain ⟨Ao35, co35, eo35⟩ := Kd.R_slice HO363.out; subst eo35; have p364 : 0 ≤ (0 : Int) := (by omega); have q364 : 0 < (t361.length : Int) := of_decide_eq_true (by first | (with_reducible assumption) | assumption); obtain ⟨ad364, e364, hx364_0⟩ := Kd.at_string (Kd.R_reads' HO363.out).2.2 0 p364 q364; cases e364; have qi364 : (0 < t361.length) = True := eq_true (by omega); (try rw [show ((0 : Int)).toNat = 0 from rfl] at hx364_0); (try rw [Addr.add_zero'] at hx364_0); replace p364 := eq_true p364; replace q364 := eq_true q364) | ((with_reducible refine gate_callee (f := 58) rfl ?_); refine gL (some 49) Tryz.func58 #[.string (rdOf ByteArray.empty t361 0)] ?_; (with_reducible refine (spec_ReadDecimal.calls kj4 (rdOf ByteArray.empty t361 0) t365 true _ A17.out).mono ?_); rintro e w36 ⟨rfl, hb⟩; refine ⟨_, rfl, ?_⟩; replace HO363 := aM (Kd.R_below (uR HO363) hb); replace HB := aM (below_step (uL HB) hb); try clear hb; have p367 : 0 ≤ (1 : Int) := (by omega); have q367 : 1 < (t361.length : Int) := of_decide_eq_true (by first | (with_reducible assumption) | assumption); obtain ⟨ad367, e367, hx367_0⟩ := Kd.at_string (Kd.R_reads' HO363.out).2.2 1 p367 q367; obtain rfl : ad364 = ad367 := (by injection e367); (try simp only [show (1 : Int).toNat = 1 from rfl, Nat.reduceMul, Nat.reduceEqDiff, Go.Addr.add, ↓reduceIte] at hx367_0); have qi367 : (1 < t361.length) = True := eq_true (by omega); (try rw [show ((1 : Int)).toNat = 1 from rfl] at hx367_0); replace p367 := eq_true p367; replace q367 := eq_true q367) | ((with_reducible refine gate_callee (f := 58) rfl ?_); refine gL (some 60) Tryz.func58 #[.string (rdOf ByteArray.empty t361 1)] ?_; (with_reducible refine (spec_ReadDecimal.calls kj4 (rdOf ByteArray.empty t361 1) t368 true _ A20.out).mono ?_); rintro e w37 ⟨rfl, hb⟩; refine ⟨_, rfl, ?_⟩; replace HO363 := aM (Kd.R_below (uR HO363) hb); replace HB := aM (below_step (uL HB) hb); try clear hb))
            refine bodyPost_ret (results_list (rs := [.tmp 6, .tmp 7, .tmp 8, .tmp 9]) rfl (by simp) (.tmp (.tmp (.tmp (.tmp .nil))))) rfl ?_
            exact rX HB
          ·rw [if_neg c23] at H
           have c23b0 : decide ((t361.length : Int) ≤ 2) = false := decide_eq_false c23
           have c23b1 : decide (t361.length ≤ 2) = false := decide_eq_false (by omega)
           clear c23
           simp only [Option.some.injEq, Prod.mk.injEq] at H
           obtain ⟨rfl, rfl, rfl, rfl⟩ := H
           go_wp2_with (first | ((with_reducible refine gate_callee (f := 45) rfl ?_); refine gL (some 44) Tryz.func45 #[.string a0, .int .u8 45] ?_; (with_reducible refine (spec_l10Split.calls kj4 a0 45 t361 _ A15.out).mono ?_); rintro e w38 ⟨v362, rfl, ho0, hb⟩; refine ⟨_, rfl, ?_⟩; have HO363 := aM (Kd.R_lower ho0 (below_size (uL HB))); replace HB := aM (below_step (uL HB) hb); try clear hb ho0; obtain ⟨Ao39, co39, eo39⟩ := Kd.R_slice HO363.out; subst eo39; have p364 : 0 ≤ (0 : Int) := (by omega); have q364 : 0 < (t361.length : Int) := of_decide_eq_true (by first | (with_reducible assumption) | assumption); obtain ⟨ad364, e364, hx364_0⟩ := Kd.at_string (Kd.R_reads' HO363.out).2.2 0 p364 q364; cases e364; have qi364 : (0 < t361.length) = True := eq_true (by omega); (try rw [show ((0 : Int)).toNat = 0 from rfl] at hx364_0); (try rw [Addr.add_zero'] at hx364_0); replace p364 := eq_true p364; replace q364 := eq_true q364) | ((with_reducible refine gate_callee (f := 58) rfl ?_); refine gL (some 49) Tryz.func58 #[.string (rdOf ByteArray.empty t361 0)] ?_; (with_reducible refine (spec_ReadDecimal.calls kj4 (rdOf ByteArray.empty t361 0) t365 true _ A17.out).mono ?_); rintro e w40 ⟨rfl, hb⟩; refine ⟨_, rfl, ?_⟩; replace HO363 := aM (Kd.R_below (uR HO363) hb); replace HB := aM (below_step (uL HB) hb); try clear hb; have p367 : 0 ≤ (1 : Int) := (by omega); have q367 : 1 < (t361.length : Int) := of_decide_eq_true (by first | (with_reducible assumption) | assumption); obtain ⟨ad367, e367, hx367_0⟩ := Kd.at_string (Kd.R_reads' HO363.out).2.2 1 p367 q367; obtain rfl : ad364 = ad367 := (by injection e367); (try simp only [show (1 : Int).toNat = 1 from rfl, Nat.reduceMul, Nat.reduceEqDiff, Go.Addr.add, ↓reduceIte] at hx367_0); have qi367 : (1 < t361.length) = True := eq_true (by omega); (try rw [show ((1 : Int)).toNat = 1 from rfl] at hx367_0); replace p367 := eq_true p367; replace q367 := eq_true q367) | ((with_reducible refine gate_callee (f := 58) rfl ?_); refine gL (some 60) Tryz.func58 #[.string (rdOf ByteArray.empty t361 1)] ?_; (with_reducible refine (spec_ReadDecimal.calls kj4 (rdOf ByteArray.empty t361 1) t368 true _ A20.out).mono ?_); rintro e w41 ⟨rfl, hb⟩; refine ⟨_, rfl, ?_⟩; replace HO363 := aM (Kd.R_below (uR HO363) hb); replace HB := aM (below_step (uL HB) hb); try clear hb))
           refine bodyPost_ret (results_list (rs := [.tmp 6, .tmp 7, .tmp 8, .tmp 9]) rfl (by simp) (.tmp (.tmp (.tmp (.tmp .nil))))) rfl ?_
           exact rX HB
         ·replace c22 := Bool.eq_false_iff.mpr c22
          subst c22
          have H1 : (some (t365, t368, 1, false)) = some (r1, r2, r3, r4) := by rw [if_neg (show ¬ (false = true) by decide)] at H; exact H
          clear H; have H := H1; clear H1
          simp only [Option.some.injEq, Prod.mk.injEq] at H
          obtain ⟨rfl, rfl, rfl, rfl⟩ := H
          go_wp2_with (first | ((with_reducible refine gate_callee (f := 45) rfl ?_); refine gL (some 44) Tryz.func45 #[.string a0, .int .u8 45] ?_; (with_reducible refine (spec_l10Split.calls kj4 a0 45 t361 _ A15.out).mono ?_); rintro e w42 ⟨v362, rfl, ho0, hb⟩; refine ⟨_, rfl, ?_⟩; have HO363 := aM (Kd.R_lower ho0 (below_size (uL HB))); replace HB := aM (below_step (uL HB) hb); try clear hb ho0; obtain ⟨Ao43, co43, eo43⟩ := Kd.R_slice HO363.out; subst eo43; have p364 : 0 ≤ (0 : Int) := (by omega); have q364 : 0 < (t361.length : Int) := of_decide_eq_true (by first | (with_reducible assumption) | assumption); obtain ⟨ad364, e364, hx364_0⟩ := Kd.at_string (Kd.R_reads' HO363.out).2.2 0 p364 q364; cases e364; have qi364 : (0 < t361.length) = True := eq_true (by omega); (try rw [show ((0 : Int)).toNat = 0 from rfl] at hx364_0); (try rw [Addr.add_zero'] at hx364_0); replace p364 := eq_true p364; replace q364 := eq_true q364) | ((with_reducible refine gate_callee (f := 58) rfl ?_); refine gL (some 49) Tryz.func58 #[.string (rdOf ByteArray.empty t361 0)] ?_; (with_reducible refine (spec_ReadDecimal.calls kj4 (rdOf ByteArray.empty t361 0) t365 true _ A17.out).mono ?_); rintro e w44 ⟨rfl, hb⟩; refine ⟨_, rfl, ?_⟩; replace HO363 := aM (Kd.R_below (uR HO363) hb); replace HB := aM (below_step (uL HB) hb); try clear hb; have p367 : 0 ≤ (1 : Int) := (by omega); have q367 : 1 < (t361.length : Int) := of_decide_eq_true (by first | (with_reducible assumption) | assumption); obtain ⟨ad367, e367, hx367_0⟩ := Kd.at_string (Kd.R_reads' HO363.out).2.2 1 p367 q367; obtain rfl : ad364 = ad367 := (by injection e367); (try simp only [show (1 : Int).toNat = 1 from rfl, Nat.reduceMul, Nat.reduceEqDiff, Go.Addr.add, ↓reduceIte] at hx367_0); have qi367 : (1 < t361.length) = True := eq_true (by omega); (try rw [show ((1 : Int)).toNat = 1 from rfl] at hx367_0); replace p367 := eq_true p367; replace q367 := eq_true q367) | ((with_reducible refine gate_callee (f := 58) rfl ?_); refine gL (some 60) Tryz.func58 #[.string (rdOf ByteArray.empty t361 1)] ?_; (with_reducible refine (spec_ReadDecimal.calls kj4 (rdOf ByteArray.empty t361 1) t368 false _ A20.out).mono ?_); rintro e w45 ⟨rfl, hb⟩; refine ⟨_, rfl, ?_⟩; replace HO363 := aM (Kd.R_below (uR HO363) hb); replace HB := aM (below_step (uL HB) hb); try clear hb))
          refine bodyPost_ret (results_list (rs := [.tmp 6, .tmp 7, .tmp 8, .tmp 9]) rfl (by simp) (.tmp (.tmp (.tmp (.tmp .nil))))) rfl ?_
          exact rX HB
        ·replace c21 := Bool.eq_false_iff.mpr c21
         subst c21
         have H1 : (some (t365, t368, 1, false)) = some (r1, r2, r3, r4) := by rw [if_neg (show ¬ (false = true) by decide)] at H; exact H
         clear H; have H := H1; clear H1
         simp only [Option.some.injEq, Prod.mk.injEq] at H
         obtain ⟨rfl, rfl, rfl, rfl⟩ := H
         go_wp2_with (first | ((with_reducible refine gate_callee (f := 45) rfl ?_); refine gL (some 44) Tryz.func45 #[.string a0, .int .u8 45] ?_; (with_reducible refine (spec_l10Split.calls kj4 a0 45 t361 _ A15.out).mono ?_); rintro e w46 ⟨v362, rfl, ho0, hb⟩; refine ⟨_, rfl, ?_⟩; have HO363 := aM (Kd.R_lower ho0 (below_size (uL HB))); replace HB := aM (below_step (uL HB) hb); try clear hb ho0; obtain ⟨Ao47, co47, eo47⟩ := Kd.R_slice HO363.out; subst eo47; have p364 : 0 ≤ (0 : Int) := (by omega); have q364 : 0 < (t361.length : Int) := of_decide_eq_true (by first | (with_reducible assumption) | assumption); obtain ⟨ad364, e364, hx364_0⟩ := Kd.at_string (Kd.R_reads' HO363.out).2.2 0 p364 q364; cases e364; have qi364 : (0 < t361.length) = True := eq_true (by omega); (try rw [show ((0 : Int)).toNat = 0 from rfl] at hx364_0); (try rw [Addr.add_zero'] at hx364_0); replace p364 := eq_true p364; replace q364 := eq_true q364) | ((with_reducible refine gate_callee (f := 58) rfl ?_); refine gL (some 49) Tryz.func58 #[.string (rdOf ByteArray.empty t361 0)] ?_; (with_reducible refine (spec_ReadDecimal.calls kj4 (rdOf ByteArray.empty t361 0) t365 false _ A17.out).mono ?_); rintro e w48 ⟨rfl, hb⟩; refine ⟨_, rfl, ?_⟩; replace HO363 := aM (Kd.R_below (uR HO363) hb); replace HB := aM (below_step (uL HB) hb); try clear hb; have p367 : 0 ≤ (1 : Int) := (by omega); have q367 : 1 < (t361.length : Int) := of_decide_eq_true (by first | (with_reducible assumption) | assumption); obtain ⟨ad367, e367, hx367_0⟩ := Kd.at_string (Kd.R_reads' HO363.out).2.2 1 p367 q367; obtain rfl : ad364 = ad367 := (by injection e367); (try simp only [show (1 : Int).toNat = 1 from rfl, Nat.reduceMul, Nat.reduceEqDiff, Go.Addr.add, ↓reduceIte] at hx367_0); have qi367 : (1 < t361.length) = True := eq_true (by omega); (try rw [show ((1 : Int)).toNat = 1 from rfl] at hx367_0); replace p367 := eq_true p367; replace q367 := eq_true q367) | ((with_reducible refine gate_callee (f := 58) rfl ?_); refine gL (some 60) Tryz.func58 #[.string (rdOf ByteArray.empty t361 1)] ?_; (with_reducible refine (spec_ReadDecimal.calls kj4 (rdOf ByteArray.empty t361 1) t368 t369 _ A20.out).mono ?_); rintro e w49 ⟨rfl, hb⟩; refine ⟨_, rfl, ?_⟩; replace HO363 := aM (Kd.R_below (uR HO363) hb); replace HB := aM (below_step (uL HB) hb); try clear hb))
         refine bodyPost_ret (results_list (rs := [.tmp 6, .tmp 7, .tmp 8, .tmp 9]) rfl (by simp) (.tmp (.tmp (.tmp (.tmp .nil))))) rfl ?_
         exact rX HB
       ·rw [if_neg c19] at H
        exact absurd H (by simp)
      ·rw [if_neg c18] at H
       have c18b0 : ((t361.length : Int) == 2) = false := beq_eq_false_iff_ne.mpr c18
       have c18b1 : ((t361.length : Int) != 2) = true := bne_iff_ne.mpr c18
       by_cases c50 : t366 = true
       ·subst c50
        rw [if_pos rfl] at H
        by_cases c51 : (t361.length : Int) ≤ 2
        ·rw [if_pos c51] at H
         have c51b0 : decide ((t361.length : Int) ≤ 2) = true := decide_eq_true c51
         have c51b1 : decide (t361.length ≤ 2) = true := decide_eq_true (by omega)
         clear c51
         by_cases c52 : a1 ≤ t365
         ·rw [if_pos c52] at H
          have c52b0 : decide (a1 ≤ t365) = true := decide_eq_true c52
          clear c52
          by_cases c53 : t365 ≤ t365
          ·rw [if_pos c53] at H
           have c53b0 : decide (t365 ≤ t365) = true := decide_eq_true c53
           clear c53
           simp only [Option.some.injEq, Prod.mk.injEq] at H
           obtain ⟨rfl, rfl, rfl, rfl⟩ := H
           go_wp2_with (first | ((with_reducible refine gate_callee (f := 45) rfl ?_); refine gL (some 44) Tryz.func45 #[.string a0, .int .u8 45] ?_; (with_reducible refine (spec_l10Split.calls kj4 a0 45 t361 _ A15.out).mono ?_); rintro e w54 ⟨v362, rfl, ho0, hb⟩; refine ⟨_, rfl, ?_⟩; have HO363 := aM (Kd.R_lower ho0 (below_size (uL HB))); replace HB := aM (below_step (uL HB) hb); try clear hb ho0; obtain ⟨Ao55, co55, eo55⟩ := Kd.R_slice HO363.out; subst eo55; have p364 : 0 ≤ (0 : Int) := (by omega); have q364 : 0 < (t361.length : Int) := of_decide_eq_true (by first | (with_reducible assumption) | assumption); obtain ⟨ad364, e364, hx364_0⟩ := Kd.at_string (Kd.R_reads' HO363.out).2.2 0 p364 q364; cases e364; have qi364 : (0 < t361.length) = True := eq_true (by omega); (try rw [show ((0 : Int)).toNat = 0 from rfl] at hx364_0); (try rw [Addr.add_zero'] at hx364_0); replace p364 := eq_true p364; replace q364 := eq_true q364) | ((with_reducible refine gate_callee (f := 58) rfl ?_); refine gL (some 49) Tryz.func58 #[.string (rdOf ByteArray.empty t361 0)] ?_; (with_reducible refine (spec_ReadDecimal.calls kj4 (rdOf ByteArray.empty t361 0) t365 true _ A17.out).mono ?_); rintro e w56 ⟨rfl, hb⟩; refine ⟨_, rfl, ?_⟩; replace HO363 := aM (Kd.R_below (uR HO363) hb); replace HB := aM (below_step (uL HB) hb); try clear hb))
           refine bodyPost_ret (results_list (rs := [.tmp 6, .tmp 7, .tmp 8, .tmp 9]) rfl (by simp) (.tmp (.tmp (.tmp (.tmp .nil))))) rfl ?_
           exact rX HB
          ·exact absurd (Int.le_refl _) c53
         ·rw [if_neg c52] at H
          have c52b0 : decide (a1 ≤ t365) = false := decide_eq_false c52
          clear c52
          simp only [Option.some.injEq, Prod.mk.injEq] at H
          obtain ⟨rfl, rfl, rfl, rfl⟩ := H
          go_wp2_with (first | ((with_reducible refine gate_callee (f := 45) rfl ?_); refine gL (some 44) Tryz.func45 #[.string a0, .int .u8 45] ?_; (with_reducible refine (spec_l10Split.calls kj4 a0 45 t361 _ A15.out).mono ?_); rintro e w60 ⟨v362, rfl, ho0, hb⟩; refine ⟨_, rfl, ?_⟩; have HO363 := aM (Kd.R_lower ho0 (below_size (uL HB))); replace HB := aM (below_step (uL HB) hb); try clear hb ho0; obtain ⟨Ao61, co61, eo61⟩ := Kd.R_slice HO363.out; subst eo61; have p364 : 0 ≤ (0 : Int) := (by omega); have q364 : 0 < (t361.length : Int) := of_decide_eq_true (by first | (with_reducible assumption) | assumption); obtain ⟨ad364, e364, hx364_0⟩ := Kd.at_string (Kd.R_reads' HO363.out).2.2 0 p364 q364; cases e364; have qi364 : (0 < t361.length) = True := eq_true (by omega); (try rw [show ((0 : Int)).toNat = 0 from rfl] at hx364_0); (try rw [Addr.add_zero'] at hx364_0); replace p364 := eq_true p364; replace q364 := eq_true q364) | ((with_reducible refine gate_callee (f := 58) rfl ?_); refine gL (some 49) Tryz.func58 #[.string (rdOf ByteArray.empty t361 0)] ?_; (with_reducible refine (spec_ReadDecimal.calls kj4 (rdOf ByteArray.empty t361 0) t365 true _ A17.out).mono ?_); rintro e w62 ⟨rfl, hb⟩; refine ⟨_, rfl, ?_⟩; replace HO363 := aM (Kd.R_below (uR HO363) hb); replace HB := aM (below_step (uL HB) hb); try clear hb))
          refine bodyPost_ret (results_list (rs := [.tmp 6, .tmp 7, .tmp 8, .tmp 9]) rfl (by simp) (.tmp (.tmp (.tmp (.tmp .nil))))) rfl ?_
          exact rX HB
        ·rw [if_neg c51] at H
         have c51b0 : decide ((t361.length : Int) ≤ 2) = false := decide_eq_false c51
         have c51b1 : decide (t361.length ≤ 2) = false := decide_eq_false (by omega)
         clear c51
         simp only [Option.some.injEq, Prod.mk.injEq] at H
         obtain ⟨rfl, rfl, rfl, rfl⟩ := H
         go_wp2_with (first | ((with_reducible refine gate_callee (f := 45) rfl ?_); refine gL (some 44) Tryz.func45 #[.string a0, .int .u8 45] ?_; (with_reducible refine (spec_l10Split.calls kj4 a0 45 t361 _ A15.out).mono ?_); rintro e w63 ⟨v362, rfl, ho0, hb⟩; refine ⟨_, rfl, ?_⟩; have HO363 := aM (Kd.R_lower ho0 (below_size (uL HB))); replace HB := aM (below_step (uL HB) hb); try clear hb ho0; obtain ⟨Ao64, co64, eo64⟩ := Kd.R_slice HO363.out; subst eo64; have p364 : 0 ≤ (0 : Int) := (by omega); have q364 : 0 < (t361.length : Int) := of_decide_eq_true (by first | (with_reducible assumption) | assumption); obtain ⟨ad364, e364, hx364_0⟩ := Kd.at_string (Kd.R_reads' HO363.out).2.2 0 p364 q364; cases e364; have qi364 : (0 < t361.length) = True := eq_true (by omega); (try rw [show ((0 : Int)).toNat = 0 from rfl] at hx364_0); (try rw [Addr.add_zero'] at hx364_0); replace p364 := eq_true p364; replace q364 := eq_true q364) | ((with_reducible refine gate_callee (f := 58) rfl ?_); refine gL (some 49) Tryz.func58 #[.string (rdOf ByteArray.empty t361 0)] ?_; (with_reducible refine (spec_ReadDecimal.calls kj4 (rdOf ByteArray.empty t361 0) t365 true _ A17.out).mono ?_); rintro e w65 ⟨rfl, hb⟩; refine ⟨_, rfl, ?_⟩; replace HO363 := aM (Kd.R_below (uR HO363) hb); replace HB := aM (below_step (uL HB) hb); try clear hb))
         refine bodyPost_ret (results_list (rs := [.tmp 6, .tmp 7, .tmp 8, .tmp 9]) rfl (by simp) (.tmp (.tmp (.tmp (.tmp .nil))))) rfl ?_
         exact rX HB
       ·replace c50 := Bool.eq_false_iff.mpr c50
        subst c50
        have H1 : (some (t365, t365, 1, false)) = some (r1, r2, r3, r4) := by rw [if_neg (show ¬ (false = true) by decide)] at H; exact H
        clear H; have H := H1; clear H1
        simp only [Option.some.injEq, Prod.mk.injEq] at H
        obtain ⟨rfl, rfl, rfl, rfl⟩ := H
        go_wp2_with (first | ((with_reducible refine gate_callee (f := 45) rfl ?_); refine gL (some 44) Tryz.func45 #[.string a0, .int .u8 45] ?_; (with_reducible refine (spec_l10Split.calls kj4 a0 45 t361 _ A15.out).mono ?_); rintro e w66 ⟨v362, rfl, ho0, hb⟩; refine ⟨_, rfl, ?_⟩; have HO363 := aM (Kd.R_lower ho0 (below_size (uL HB))); replace HB := aM (below_step (uL HB) hb); try clear hb ho0; obtain ⟨Ao67, co67, eo67⟩ := Kd.R_slice HO363.out; subst eo67; have p364 : 0 ≤ (0 : Int) := (by omega); have q364 : 0 < (t361.length : Int) := of_decide_eq_true (by first | (with_reducible assumption) | assumption); obtain ⟨ad364, e364, hx364_0⟩ := Kd.at_string (Kd.R_reads' HO363.out).2.2 0 p364 q364; cases e364; have qi364 : (0 < t361.length) = True := eq_true (by omega); (try rw [show ((0 : Int)).toNat = 0 from rfl] at hx364_0); (try rw [Addr.add_zero'] at hx364_0); replace p364 := eq_true p364; replace q364 := eq_true q364) | ((with_reducible refine gate_callee (f := 58) rfl ?_); refine gL (some 49) Tryz.func58 #[.string (rdOf ByteArray.empty t361 0)] ?_; (with_reducible refine (spec_ReadDecimal.calls kj4 (rdOf ByteArray.empty t361 0) t365 false _ A17.out).mono ?_); rintro e w68 ⟨rfl, hb⟩; refine ⟨_, rfl, ?_⟩; replace HO363 := aM (Kd.R_below (uR HO363) hb); replace HB := aM (below_step (uL HB) hb); try clear hb))
        refine bodyPost_ret (results_list (rs := [.tmp 6, .tmp 7, .tmp 8, .tmp 9]) rfl (by simp) (.tmp (.tmp (.tmp (.tmp .nil))))) rfl ?_
        exact rX HB
     ·rw [if_neg c16] at H
      exact absurd H (by simp)
    case L3p | L3n =>
     go_wp2_with (first | ((with_reducible refine gate_callee (f := 58) rfl ?_); refine gL (some 32) Tryz.func58 #[.string (a0.extract 2 a0.size)] ?_; (with_reducible refine (spec_ReadDecimal.calls kj4 (a0.extract 2 a0.size) t359 _ _ A11.out).mono ?_); rintro e w13 ⟨rfl, hb⟩; refine ⟨_, rfl, ?_⟩; replace HB := aM (below_step (uL HB) hb); try clear hb))
     refine bodyPost_ret (results_list (rs := [.tmp 6, .tmp 7, .tmp 8, .tmp 9]) rfl (by simp) (.tmp (.tmp (.tmp (.tmp .nil))))) rfl ?_
     exact rX HB

/-! ### spec_l10Field: function 29 -/
mutual
def spec_l10Field.l0 : Nat → Int → Int → List Bool → List ByteArray → Int → Option (List Int × Bool)
 | 0, _, _, _, _, _ => none
 | k + 1, x1, x2, x8, x9, x10 => if x10 < (x9.length : Int) then (if 0 ≤ x10 then ((spec_l10Piece.f k (rdOf ByteArray.empty x9 x10) x1 x2).bind fun bt377 => (if bt377.2.2.2 = true then (spec_l10Field.l1 k x1 x2 x8 x9 x10 bt377.2.1 bt377.2.2.1 bt377.1) else (some ((([] : List Int)), false)))) else (none)) else (spec_l10Field.l2 k x2 x8 (([] : List Int)) x1)
def spec_l10Field.l1 : Nat → Int → Int → List Bool → List ByteArray → Int → Int → Int → Int → Option (List Int × Bool)
 | 0, _, _, _, _, _, _, _, _ => none
 | k + 1, x1, x2, x8, x9, x10, x12, x13, x15 => if x15 ≤ x12 then (if 0 ≤ x15 then (if x15 < (x8.length : Int) then (spec_l10Field.l1 k x1 x2 (x8.set (x15 : Int).toNat true) x9 x10 x12 x13 (wrap64 (x15 + x13))) else (none)) else (none)) else (spec_l10Field.l0 k x1 x2 x8 x9 (wrap64 (x10 + 1)))
def spec_l10Field.l2 : Nat → Int → List Bool → List Int → Int → Option (List Int × Bool)
 | 0, _, _, _, _ => none
 | k + 1, x2, x8, x16, x17 => if x17 ≤ x2 then (if 0 ≤ x17 then (if x17 < (x8.length : Int) then (if rdOf false x8 x17 = true then (if x16.length < 17592186044416 then (spec_l10Field.l2 k x2 x8 (x16 ++ [x17]) (wrap64 (x17 + 1))) else (none)) else (spec_l10Field.l2 k x2 x8 x16 (wrap64 (x17 + 1)))) else (none)) else (none)) else (some (x16, true))
end
def spec_l10Field.f (k : Nat) (a0 : ByteArray) (a1 : Int) (a2 : Int) : Option (List Int × Bool) := if 0 ≤ (wrap64 (a2 + 1)) then (if (wrap64 (a2 + 1) : Int).toNat ≤ 281474976710656 then ((spec_l10Split.f k a0 44).bind fun t373 => (spec_l10Field.l0 k a1 a2 (List.replicate (wrap64 (a2 + 1) : Int).toNat false) t373 0)) else (none)) else (none)
theorem spec_l10Field.mono_l : ∀ k, (∀ y0 y1 y2 y3 y4, LeO (spec_l10Field.l0 k y0 y1 y2 y3 y4) (spec_l10Field.l0 (k + 1) y0 y1 y2 y3 y4)) ∧ (∀ y0 y1 y2 y3 y4 y5 y6 y7, LeO (spec_l10Field.l1 k y0 y1 y2 y3 y4 y5 y6 y7) (spec_l10Field.l1 (k + 1) y0 y1 y2 y3 y4 y5 y6 y7)) ∧ (∀ y0 y1 y2 y3, LeO (spec_l10Field.l2 k y0 y1 y2 y3) (spec_l10Field.l2 (k + 1) y0 y1 y2 y3))
 | 0 => ⟨fun _ _ _ _ _ r h => by simp [spec_l10Field.l0] at h, fun _ _ _ _ _ _ _ _ r h => by simp [spec_l10Field.l1] at h, fun _ _ _ _ r h => by simp [spec_l10Field.l2] at h⟩
 | k + 1 => by
  obtain ⟨ih0, ih1, ih2⟩ := spec_l10Field.mono_l k
  refine ⟨?_, ?_, ?_⟩
  ·intro y0 y1 y2 y3 y4
   unfold spec_l10Field.l0
   repeat' first
   | (with_reducible exact ih0 _ _ _ _ _)
   | (with_reducible exact ih1 _ _ _ _ _ _ _ _)
   | (with_reducible exact ih2 _ _ _ _)
   | (with_reducible exact spec_l10Piece.mono _ _ _ _)
   | (with_reducible exact spec_l10Split.mono _ _ _)
   | (with_reducible exact LeO.refl _)
   | (with_reducible exact LeO.none _)
   | (with_reducible refine LeO.ite ?_ ?_)
   | (with_reducible refine LeO.bind ?_ (fun _ => ?_))
   | exact ih0 _ _ _ _ _
   | exact ih1 _ _ _ _ _ _ _ _
   | exact ih2 _ _ _ _
   | exact spec_l10Piece.mono _ _ _ _
   | exact spec_l10Split.mono _ _ _
   | exact LeO.none _
   | refine LeO.ite ?_ ?_
   | refine LeO.bind ?_ (fun _ => ?_)
  ·intro y0 y1 y2 y3 y4 y5 y6 y7
   unfold spec_l10Field.l1
   repeat' first
   | (with_reducible exact ih0 _ _ _ _ _)
   | (with_reducible exact ih1 _ _ _ _ _ _ _ _)
   | (with_reducible exact ih2 _ _ _ _)
   | (with_reducible exact spec_l10Piece.mono _ _ _ _)
   | (with_reducible exact spec_l10Split.mono _ _ _)
   | (with_reducible exact LeO.refl _)
   | (with_reducible exact LeO.none _)
   | (with_reducible refine LeO.ite ?_ ?_)
   | (with_reducible refine LeO.bind ?_ (fun _ => ?_))
   | exact ih0 _ _ _ _ _
   | exact ih1 _ _ _ _ _ _ _ _
   | exact ih2 _ _ _ _
   | exact spec_l10Piece.mono _ _ _ _
   | exact spec_l10Split.mono _ _ _
   | exact LeO.none _
   | refine LeO.ite ?_ ?_
   | refine LeO.bind ?_ (fun _ => ?_)
  ·intro y0 y1 y2 y3
   unfold spec_l10Field.l2
   repeat' first
   | (with_reducible exact ih0 _ _ _ _ _)
   | (with_reducible exact ih1 _ _ _ _ _ _ _ _)
   | (with_reducible exact ih2 _ _ _ _)
   | (with_reducible exact spec_l10Piece.mono _ _ _ _)
   | (with_reducible exact spec_l10Split.mono _ _ _)
   | (with_reducible exact LeO.refl _)
   | (with_reducible exact LeO.none _)
   | (with_reducible refine LeO.ite ?_ ?_)
   | (with_reducible refine LeO.bind ?_ (fun _ => ?_))
   | exact ih0 _ _ _ _ _
   | exact ih1 _ _ _ _ _ _ _ _
   | exact ih2 _ _ _ _
   | exact spec_l10Piece.mono _ _ _ _
   | exact spec_l10Split.mono _ _ _
   | exact LeO.none _
   | refine LeO.ite ?_ ?_
   | refine LeO.bind ?_ (fun _ => ?_)
theorem spec_l10Field.mono : ∀ a0 a1 a2 k, LeO (spec_l10Field.f k a0 a1 a2) (spec_l10Field.f (k + 1) a0 a1 a2) := by
 intro a0 a1 a2 k
 obtain ⟨ih0, ih1, ih2⟩ := spec_l10Field.mono_l k
 unfold spec_l10Field.f
 repeat' first
  | (with_reducible exact ih0 _ _ _ _ _)
  | (with_reducible exact ih1 _ _ _ _ _ _ _ _)
  | (with_reducible exact ih2 _ _ _ _)
  | (with_reducible exact spec_l10Piece.mono _ _ _ _)
  | (with_reducible exact spec_l10Split.mono _ _ _)
  | (with_reducible exact LeO.refl _)
  | (with_reducible exact LeO.none _)
  | (with_reducible refine LeO.ite ?_ ?_)
  | (with_reducible refine LeO.bind ?_ (fun _ => ?_))
  | exact ih0 _ _ _ _ _
  | exact ih1 _ _ _ _ _ _ _ _
  | exact ih2 _ _ _ _
  | exact spec_l10Piece.mono _ _ _ _
  | exact spec_l10Split.mono _ _ _
  | exact LeO.none _
  | refine LeO.ite ?_ ?_
  | refine LeO.bind ?_ (fun _ => ?_)
set_option maxHeartbeats 8000000 in
set_option maxRecDepth 100000 in
theorem spec_l10Field.calls (k : Nat) (a0 : ByteArray) (a1 : Int) (a2 : Int) (r1 : List Int) (r2 : Bool) (w : World) (h : spec_l10Field.f k a0 a1 a2 = some (r1, r2)) :
 Calls Tryz.prog 29 #[.string a0, .int .i64 a1, .int .i64 a2] w fun e w' => ∃ v0_ : Value, e = .returned (.tuple #[v0_, .bool r2]) ∧ Kd.R (Kd.int .i64) 3 w' w.heap.size (fun _ => True) v0_ r1 ∧ Below w.heap.size w w' := by
 have HB := aM (Below.refl w.heap.size w)
 have H : (if 0 ≤ (wrap64 (a2 + 1)) then (if (wrap64 (a2 + 1) : Int).toNat ≤ 281474976710656 then ((spec_l10Split.f k a0 44).bind fun t373 => (spec_l10Field.l0 k a1 a2 (List.replicate (wrap64 (a2 + 1) : Int).toNat false) t373 0)) else (none)) else (none)) = some (r1, r2) := h
 clear h
 obtain ⟨ji4, hji4⟩ : ∃ j_ : Int, (wrap64 (a2 + 1)) = j_ := ⟨_, rfl⟩
 replace H : (if 0 ≤ (ji4) then (if (ji4 : Int).toNat ≤ 281474976710656 then ((spec_l10Split.f k a0 44).bind fun t373 => (spec_l10Field.l0 k a1 a2 (List.replicate (ji4 : Int).toNat false) t373 0)) else (none)) else (none)) = some (r1, r2) := by first | (rw [hji4] at H; exact H) | (simp only [hji4] at H ⊢; exact H)
 have hji4w : (IntKind.i64.wrap (a2 + 1)) = ji4 := (i64_w _).trans hji4
 by_cases c5 : 0 ≤ (ji4)
 ·rw [if_pos c5] at H
  have c5b0 := eq_true c5
  have c5b1 : decide (0 ≤ (ji4)) = true := decide_eq_true c5
  clear c5
  by_cases c6 : (ji4 : Int).toNat ≤ 281474976710656
  ·rw [if_pos c6] at H
   have c6b0 := eq_true c6
   have c6b1 : decide ((ji4 : Int).toNat ≤ 281474976710656) = true := decide_eq_true c6
   clear c6
   obtain ⟨y370, hy370⟩ : ∃ y_ : List Bool, y_ = (List.replicate (ji4 : Int).toNat false) := ⟨_, rfl⟩
   replace H : ((spec_l10Split.f k a0 44).bind fun t373 => (spec_l10Field.l0 k a1 a2 y370 t373 0)) = some (r1, r2) := by first | (rw [hy370]; with_reducible exact H) | (have H2_ := (Option.bind_some _ _).symm.trans H; rw [hy370]; with_reducible exact H2_) | (have H2_ := (Option.bind_some _ _).symm.trans H; with_reducible exact H2_) | with_reducible exact H | (rw [hy370]; exact H) | exact H
   have Ny370 := aM hy370
   clear hy370
   replace H := Option.bind_eq_some_iff.mp H
   obtain ⟨t373, A70, H⟩ := H
   replace H : (spec_l10Field.l0 k a1 a2 y370 t373 0) = some (r1, r2) := H
   have A7 := aM A70
   clear A70
   have H' := aM H
   clear H
   go_enter Tryz.func29, Tryz.ntmps29
   go_wp2_with (first | ((with_reducible refine gate_dst (N := 20) rfl ?_); refine Kd.R_make Kd.bool _ 4 rfl (N := 20) rfl 57 _ _ rfl ji4 rfl rfl Tryz.underlying57 (.bool false) 1 info4 rfl (by decide) (by omega) false (ok := fun _ => True) (okp := fun _ => True) rfl (fun _ hk => hk) trivial (of_decide_eq_true (by first | (with_reducible assumption) | assumption)) (Nat.le_trans (Nat.mul_le_mul_right _ (of_decide_eq_true (by first | (with_reducible assumption) | assumption) : ji4.toNat ≤ 281474976710656)) (by omega)) (Below.refl _ _) (Nat.le_refl _) ?_; intro v371 w8 ho9 hb hg_ hnew_; clear hg_ hnew_; (first | rw [← Ny370.out] at ho9 | (simp only [Int.reduceToNat] at ho9; rw [← Ny370.out] at ho9)); have HO372 := aM (Kd.R_lower ho9 (below_size (uL HB))); replace HB := aM (below_step (uL HB) hb); clear hb ho9) | ((with_reducible refine gate_callee (f := 45) rfl ?_); refine gL (some 22) Tryz.func45 #[.string a0, .int .u8 44] ?_; (with_reducible refine (spec_l10Split.calls k a0 44 t373 _ A7.out).mono ?_); rintro e w10 ⟨v374, rfl, ho0, hb⟩; refine ⟨_, rfl, ?_⟩; have HO375 := aM (Kd.R_lower ho0 (below_size (uL HB))); replace HO372 := aM (Kd.R_below (uR HO372) hb); replace HB := aM (below_step (uL HB) hb); try clear hb ho0))
   go_loopg [10] k (fun kq v10 w' => ∃ (x8_1 : List Bool) (x10_1 : Int), v10 = .int .i64 x10_1 ∧ Aside0 (spec_l10Field.l0 kq a1 a2 x8_1 t373 x10_1 = some (r1, r2)) ∧ Aside0 (kq ≤ k) ∧ Aside0 (Kd.R Kd.bool 4 w' w.heap.size (fun _ => True) v371 x8_1) ∧ Aside0 (Kd.R Kd.string 9 w' w.heap.size (fun _ => True) v374 t373) ∧ Aside0 (Below w.heap.size w w'))
   case atStart => exact ⟨(y370), (0), (by first | rfl | (simp; done) | (simp [*]; done)), H', ⟨Nat.le_refl _⟩, ⟨by (with_reducible repeat first | apply rA | apply rN | apply rD); exact HO372.out⟩, ⟨by (with_reducible repeat first | apply rA | apply rN | apply rD); exact HO375.out⟩, ⟨uL HB⟩⟩
   case round =>
    clear H'
    try clear c2; try clear p2; try clear c4; try clear c5; try clear c5b0; try clear c5b1; try clear c6; try clear c6b0; try clear c6b1; try clear p6
    obtain ⟨x8_1, x10_1, rfl, HA, HK1, HO_8, HO_9, HB⟩ := hrel
    cases gk with
    | zero => exact absurd HA.out (by simp [spec_l10Field.l0])
    | succ k1 =>
     have H := HA.out
     clear HA
     simp only [spec_l10Field.l0] at H
     by_cases c11 : x10_1 < (t373.length : Int)
     ·rw [if_pos c11] at H
      have c11b0 : decide (x10_1 < (t373.length : Int)) = true := decide_eq_true c11
      clear c11
      by_cases c12 : 0 ≤ x10_1
      ·rw [if_pos c12] at H
       have c12b0 : decide (0 ≤ x10_1) = true := decide_eq_true c12
       clear c12
       replace H := Option.bind_eq_some_iff.mp H
       obtain ⟨⟨t377, t378, t379, t380⟩, A130, H⟩ := H
       replace H : (if t380 = true then (spec_l10Field.l1 k1 a1 a2 x8_1 t373 x10_1 t378 t379 t377) else (some ((([] : List Int)), false))) = some (r1, r2) := H
       have A13 := aM A130
       clear A130
       by_cases c14 : t380 = true
       ·subst c14
        have H1 : (spec_l10Field.l1 k1 a1 a2 x8_1 t373 x10_1 t378 t379 t377) = some (r1, r2) := by rw [if_pos rfl] at H; exact H
        clear H; have H := H1; clear H1
        have H' := aM H
        clear H
        obtain ⟨Ao15, co15, eo15⟩ := Kd.R_slice HO_9.out
        subst eo15
        have p376 : 0 ≤ (x10_1 : Int) := of_decide_eq_true (by first | (with_reducible assumption) | assumption)
        have q376 : x10_1 < (t373.length : Int) := of_decide_eq_true (by first | (with_reducible assumption) | assumption)
        obtain ⟨ad376, e376, hx376_0⟩ := Kd.at_string (Kd.R_reads' HO_9.out).2.2 x10_1 p376 q376
        cases e376
        replace p376 := eq_true p376; replace q376 := eq_true q376
        go_wp2_with (first | ((with_reducible refine gate_callee (f := 46) rfl ?_); refine gL (some 36) Tryz.func46 #[.string (rdOf ByteArray.empty t373 x10_1), .int .i64 a1, .int .i64 a2] ?_; (with_reducible refine (spec_l10Piece.calls k1 (rdOf ByteArray.empty t373 x10_1) a1 a2 t377 t378 t379 true _ A13.out).mono ?_); rintro e w16 ⟨rfl, hb⟩; refine ⟨_, rfl, ?_⟩; replace HO_8 := aM (Kd.R_below (uR HO_8) hb); replace HO_9 := aM (Kd.R_below (uR HO_9) hb); replace HB := aM (below_step (uL HB) hb); try clear hb))
        go_loopg [15] k1 (fun kq v15 w' => ∃ (x8_2 : List Bool) (x15_2 : Int), v15 = .int .i64 x15_2 ∧ Aside0 (spec_l10Field.l1 kq a1 a2 x8_2 t373 x10_1 t378 t379 x15_2 = some (r1, r2)) ∧ Aside0 (kq ≤ k1) ∧ Aside0 (Kd.R Kd.bool 4 w' w.heap.size (fun _ => True) v371 x8_2) ∧ Aside0 (Kd.R Kd.string 9 w' w.heap.size (fun _ => True) (.slice (some ad376) t373.length co15) t373) ∧ Aside0 (Below w.heap.size w w'))
        case atStart => exact ⟨(x8_1), (t377), (by first | rfl | (simp; done) | (simp [*]; done)), H', ⟨Nat.le_refl _⟩, ⟨by (with_reducible repeat first | apply rA | apply rN | apply rD); exact HO_8.out⟩, ⟨by (with_reducible repeat first | apply rA | apply rN | apply rD); exact HO_9.out⟩, ⟨uL HB⟩⟩
        case round =>
         clear H'
         try clear c1; try clear c2; try clear p2; try clear p3; try clear q3; try clear hx3; try clear c4; try clear c5; try clear c5b0; try clear c5b1; try clear c6; try clear c6b0; try clear c6b1; try clear p6; try clear c11; try clear c11b0; try clear c12; try clear c12b0; try clear c14; try clear hx376_0; try clear p2; try clear p376; try clear p6; try clear q376
         obtain ⟨x8_2, x15_2, rfl, HA, HK2, HO_8, HO_9, HB⟩ := hrel
         cases gk with
         | zero => exact absurd HA.out (by simp [spec_l10Field.l1])
         | succ k2 =>
          have H := HA.out
          clear HA
          simp only [spec_l10Field.l1] at H
          by_cases c17 : x15_2 ≤ t378
          ·rw [if_pos c17] at H
           have c17b0 : decide (x15_2 ≤ t378) = true := decide_eq_true c17
           clear c17
           by_cases c18 : 0 ≤ x15_2
           ·rw [if_pos c18] at H
            have c18b0 : decide (0 ≤ x15_2) = true := decide_eq_true c18
            clear c18
            by_cases c19 : x15_2 < (x8_2.length : Int)
            ·rw [if_pos c19] at H
             have c19b0 : decide (x15_2 < (x8_2.length : Int)) = true := decide_eq_true c19
             clear c19
             obtain ⟨y384, hy384⟩ : ∃ y_ : List Bool, y_ = (x8_2.set (x15_2 : Int).toNat true) := ⟨_, rfl⟩
             replace H : (spec_l10Field.l1 k2 a1 a2 y384 t373 x10_1 t378 t379 (wrap64 (x15_2 + t379))) = some (r1, r2) := by first | (rw [hy384]; with_reducible exact H) | (have H2_ := (Option.bind_some _ _).symm.trans H; rw [hy384]; with_reducible exact H2_) | (have H2_ := (Option.bind_some _ _).symm.trans H; with_reducible exact H2_) | with_reducible exact H | (rw [hy384]; exact H) | exact H
             have Ny384 := aM hy384
             clear hy384
             have H' := aM H
             clear H
             have p20 : 0 ≤ (x15_2 : Int) := of_decide_eq_true (by first | (with_reducible assumption) | assumption)
             have q20 : (x15_2 : Int) < ((x8_2.length : Int) : Int) := of_decide_eq_true (by first | (with_reducible assumption) | assumption)
             obtain ⟨go20, co20, eo20, gb20, gl20, cl20, HG20⟩ := Kd.R_form HO_8.out (by omega)
             (first | cases eo20 | (injection eo20 with ea_ en_ ec_; (first | subst ea_ | (injection ea_ with ea_; subst ea_)); subst ec_; clear en_))
             have GB20 := aM gb20
             have GG20 := aM HG20
             clear gb20 gl20 HG20
             obtain ⟨hx20_0, hf20_0⟩ := Kd.R_celln false HO_8.out (x15_2 : Int) p20 q20
             replace p20 := eq_true p20; replace q20 := eq_true q20
             have HP21 := Kd.R_putg HO_8.out (x15_2 : Int) true
             go_wp2_with (first | ((with_reducible refine gate_store (t := 4) (p := 53) rfl ?_); refine store_event (t := 4) (p := 53) (v := ?vo_w22) (w1 := (wr.setCell ⟨go20, (x15_2 : Int).toNat, none⟩ (.bool true))) ?hg ?ho ?hn ?hr ?_; (case ho => rfl); (case hg => rfl); (case hn => rfl); (case hr => first | (go_simp; done) | (go_simp; rfl)); intro w22 hw; have hg : wr.grownBy w22 (some go20) := (by rw [hw]; exact HP21.2); have hp_ : Kd.R Kd.bool 4 w22 w.heap.size (fun _ => True) (.slice (some ⟨go20, 0, none⟩) x8_2.length co20) y384 := (by rw [hw, Ny384.out]; exact HP21.1); clear HP21; replace HO_9 := aM (Kd.R_over' (v := (.slice (some ⟨go20, 0, none⟩) x8_2.length co20)) (uR HO_9) (Kd.R_typed HO_8.out) (by decide) hg); replace HO_8 := aM (hp_); replace HB := aM ((by rw [hw]; exact below_set (HB.out) GB20.out : Below w.heap.size w w22)); clear hg hw hp_))
             go_roundg k2
             case measure => have := HK1.out; have := HK2.out; omega
             case rel => exact ⟨(y384), (wrap64 (x15_2 + t379)), (by first | rfl | (simp; done) | (simp [*]; done)), H', ⟨by have := HK1.out; have := HK2.out; omega⟩, ⟨by (with_reducible repeat first | apply rA | apply rN | apply rD); exact HO_8.out⟩, ⟨by (with_reducible repeat first | apply rA | apply rN | apply rD); exact HO_9.out⟩, ⟨uL HB⟩⟩
            ·rw [if_neg c19] at H
             exact absurd H (by simp)
           ·rw [if_neg c18] at H
            exact absurd H (by simp)
          ·rw [if_neg c17] at H
           have c17b0 : decide (x15_2 ≤ t378) = false := decide_eq_false c17
           clear c17
           have H' := aM H
           clear H
           go_wp2
           go_roundg k2
           case measure => have := HK1.out; have := HK2.out; omega
           case rel => exact ⟨(x8_2), (wrap64 (x10_1 + 1)), (by first | rfl | (simp; done) | (simp [*]; done)), H', ⟨by have := HK1.out; have := HK2.out; omega⟩, ⟨by (with_reducible repeat first | apply rA | apply rN | apply rD); exact HO_8.out⟩, ⟨by (with_reducible repeat first | apply rA | apply rN | apply rD); exact HO_9.out⟩, ⟨uL HB⟩⟩
       ·replace c14 := Bool.eq_false_iff.mpr c14
        subst c14
        have H1 : (some ((([] : List Int)), false)) = some (r1, r2) := by rw [if_neg (show ¬ (false = true) by decide)] at H; exact H
        clear H; have H := H1; clear H1
        obtain ⟨y381, hy381⟩ : ∃ y_ : List Int, y_ = (([] : List Int)) := ⟨_, rfl⟩
        replace H : (some (y381, false)) = some (r1, r2) := by first | (rw [hy381]; with_reducible exact H) | (have H2_ := (Option.bind_some _ _).symm.trans H; rw [hy381]; with_reducible exact H2_) | (have H2_ := (Option.bind_some _ _).symm.trans H; with_reducible exact H2_) | with_reducible exact H | (rw [hy381]; exact H) | exact H
        have Ny381 := aM hy381
        clear hy381
        simp only [Option.some.injEq, Prod.mk.injEq] at H
        obtain ⟨rfl, rfl⟩ := H
        obtain ⟨Ao23, co23, eo23⟩ := Kd.R_slice HO_9.out
        subst eo23
        have p376 : 0 ≤ (x10_1 : Int) := of_decide_eq_true (by first | (with_reducible assumption) | assumption)
        have q376 : x10_1 < (t373.length : Int) := of_decide_eq_true (by first | (with_reducible assumption) | assumption)
        obtain ⟨ad376, e376, hx376_0⟩ := Kd.at_string (Kd.R_reads' HO_9.out).2.2 x10_1 p376 q376
        cases e376
        replace p376 := eq_true p376; replace q376 := eq_true q376
        go_wp2_with (first | ((with_reducible refine gate_callee (f := 46) rfl ?_); refine gL (some 36) Tryz.func46 #[.string (rdOf ByteArray.empty t373 x10_1), .int .i64 a1, .int .i64 a2] ?_; (with_reducible refine (spec_l10Piece.calls k1 (rdOf ByteArray.empty t373 x10_1) a1 a2 t377 t378 t379 false _ A13.out).mono ?_); rintro e w24 ⟨rfl, hb⟩; refine ⟨_, rfl, ?_⟩; replace HO_8 := aM (Kd.R_below (uR HO_8) hb); replace HO_9 := aM (Kd.R_below (uR HO_9) hb); replace HB := aM (below_step (uL HB) hb); try clear hb) | ((with_reducible refine gate_dst (N := 43) rfl ?_); refine Kd.R_lit (Kd.int .i64) _ 3 ?hg (N := 43) ?hd (xs := ([] : List Int)) (inner := []) (ok := fun _ => True) (okp := fun _ => True) ?hr ?hp (fun _ hk => hk) trivial (Below.refl _ _) (Nat.le_refl _) (by simp) ?_; (case hd => rfl); (case hg => rfl); (case hr => first | (go_simp; done) | (go_simp; rfl)); (case hp => exact (Reps.none _ _)); intro v382 w25 ho26 hb hg_ hnew_; clear hg_ hnew_; (first | rw [← Ny381.out] at ho26 | (simp only [Int.reduceToNat] at ho26; rw [← Ny381.out] at ho26)); have HO383 := aM (Kd.R_lower ho26 (below_size (uL HB))); replace HO_8 := aM (Kd.R_below (uR HO_8) hb); replace HO_9 := aM (Kd.R_below (uR HO_9) hb); replace HB := aM (below_step (uL HB) hb); clear hb ho26))
        go_ret2
        exact ⟨_, by first | rfl | (simp [errW_none, errW_some] <;> rfl) | (simp only [← hji4]; first | rfl | (simp [errW_none, errW_some] <;> rfl)) | (simp [*, errW_none, errW_some] <;> rfl), by (with_reducible repeat first | apply rA | apply rN | apply rD); exact HO383.out, uL HB⟩
      ·rw [if_neg c12] at H
       exact absurd H (by simp)
     ·rw [if_neg c11] at H
      have c11b0 : decide (x10_1 < (t373.length : Int)) = false := decide_eq_false c11
      clear c11
      obtain ⟨y385, hy385⟩ : ∃ y_ : List Int, y_ = (([] : List Int)) := ⟨_, rfl⟩
      replace H : (spec_l10Field.l2 k1 a2 x8_1 y385 a1) = some (r1, r2) := by first | (rw [hy385]; with_reducible exact H) | (have H2_ := (Option.bind_some _ _).symm.trans H; rw [hy385]; with_reducible exact H2_) | (have H2_ := (Option.bind_some _ _).symm.trans H; with_reducible exact H2_) | with_reducible exact H | (rw [hy385]; exact H) | exact H
      have Ny385 := aM hy385
      clear hy385
      have H' := aM H
      clear H
      obtain ⟨Ao27, co27, eo27⟩ := Kd.R_slice HO_9.out
      subst eo27
      go_wp2_with (first | ((with_reducible refine gate_dst (N := 54) rfl ?_); refine Kd.R_lit (Kd.int .i64) _ 3 ?hg (N := 54) ?hd (xs := ([] : List Int)) (inner := []) (ok := fun _ => True) (okp := fun _ => True) ?hr ?hp (fun _ hk => hk) trivial (Below.refl _ _) (Nat.le_refl _) (by simp) ?_; (case hd => rfl); (case hg => rfl); (case hr => first | (go_simp; done) | (go_simp; rfl)); (case hp => exact (Reps.none _ _)); intro v386 w28 ho29 hb hg_ hnew_; clear hg_ hnew_; (first | rw [← Ny385.out] at ho29 | (simp only [Int.reduceToNat] at ho29; rw [← Ny385.out] at ho29)); have HO387 := aM (Kd.R_lower ho29 (below_size (uL HB))); replace HO_8 := aM (Kd.R_below (uR HO_8) hb); replace HO_9 := aM (Kd.R_below (uR HO_9) hb); replace HB := aM (below_step (uL HB) hb); clear hb ho29))
      go_loopg [16, 17] k1 (fun kq v16 v17 w' => ∃ (x16_2 : List Int) (x17_2 : Int), v17 = .int .i64 x17_2 ∧ Aside0 (spec_l10Field.l2 kq a2 x8_1 x16_2 x17_2 = some (r1, r2)) ∧ Aside0 (kq ≤ k1) ∧ Aside0 (Kd.R Kd.bool 4 w' w.heap.size (fun _ => True) v371 x8_1) ∧ Aside0 (Kd.R (Kd.int .i64) 3 w' w.heap.size (fun _ => True) v16 x16_2) ∧ Aside0 (Below w.heap.size w w'))
      case atStart => exact ⟨(y385), (a1), (by first | rfl | (simp; done) | (simp [*]; done)), H', ⟨Nat.le_refl _⟩, ⟨by (with_reducible repeat first | apply rA | apply rN | apply rD); exact HO_8.out⟩, ⟨by (with_reducible repeat first | apply rA | apply rN | apply rD); exact HO387.out⟩, ⟨uL HB⟩⟩
      case round =>
       clear H'
       try clear c1; try clear c2; try clear p2; try clear q2; try clear hx2; try clear p3; try clear q3; try clear hx3; try clear c4; try clear c5; try clear c5b0; try clear c5b1; try clear c6; try clear c6b0; try clear c6b1; try clear p6; try clear c11; try clear c11b0; try clear c12; try clear c12b0; try clear c14; try clear c17; try clear c17b0; try clear c18; try clear c18b0; try clear c19; try clear c19b0; try clear p20; try clear q20; try clear hx20; try clear hf20; try clear c29; try clear hx20_0; try clear hx376_0; try clear p2; try clear p20; try clear p3; try clear p376; try clear p6; try clear q20; try clear q3; try clear q376
       obtain ⟨x16_2, x17_2, rfl, HA, HK2, HO_8, HO_16, HB⟩ := hrel
       cases gk with
       | zero => exact absurd HA.out (by simp [spec_l10Field.l2])
       | succ k2 =>
        have H := HA.out
        clear HA
        simp only [spec_l10Field.l2] at H
        by_cases c30 : x17_2 ≤ a2
        ·rw [if_pos c30] at H
         have c30b0 : decide (x17_2 ≤ a2) = true := decide_eq_true c30
         clear c30
         by_cases c31 : 0 ≤ x17_2
         ·rw [if_pos c31] at H
          have c31b0 : decide (0 ≤ x17_2) = true := decide_eq_true c31
          clear c31
          by_cases c32 : x17_2 < (x8_1.length : Int)
          ·rw [if_pos c32] at H
           have c32b0 : decide (x17_2 < (x8_1.length : Int)) = true := decide_eq_true c32
           clear c32
           obtain ⟨bq33, hbq33⟩ : ∃ b_ : Bool, b_ = (rdOf false x8_1 x17_2) := ⟨_, rfl⟩
           replace H : (if bq33 = true then (if x16_2.length < 17592186044416 then (spec_l10Field.l2 k2 a2 x8_1 (x16_2 ++ [x17_2]) (wrap64 (x17_2 + 1))) else (none)) else (spec_l10Field.l2 k2 a2 x8_1 x16_2 (wrap64 (x17_2 + 1)))) = some (r1, r2) := by rw [← hbq33] at H; exact H
           have Nbq33 := aM hbq33
           clear hbq33
           by_cases c34 : bq33 = true
           ·subst c34
            have H1 : (if x16_2.length < 17592186044416 then (spec_l10Field.l2 k2 a2 x8_1 (x16_2 ++ [x17_2]) (wrap64 (x17_2 + 1))) else (none)) = some (r1, r2) := by rw [if_pos rfl] at H; exact H
            clear H; have H := H1; clear H1
            by_cases c35 : x16_2.length < 17592186044416
            ·rw [if_pos c35] at H
             have LMc35 := aM c35
             clear c35
             obtain ⟨y389, hy389⟩ : ∃ y_ : List Int, y_ = (x16_2 ++ [x17_2]) := ⟨_, rfl⟩
             replace H : (spec_l10Field.l2 k2 a2 x8_1 y389 (wrap64 (x17_2 + 1))) = some (r1, r2) := by first | (rw [hy389]; with_reducible exact H) | (have H2_ := (Option.bind_some _ _).symm.trans H; rw [hy389]; with_reducible exact H2_) | (have H2_ := (Option.bind_some _ _).symm.trans H; with_reducible exact H2_) | with_reducible exact H | (rw [hy389]; exact H) | exact H
             have Ny389 := aM hy389
             clear hy389
             have H' := aM H
             clear H
             obtain ⟨Ao36, co36, eo36⟩ := Kd.R_slice HO_8.out
             subst eo36
             have p388 : 0 ≤ (x17_2 : Int) := of_decide_eq_true (by first | (with_reducible assumption) | assumption)
             have q388 : x17_2 < (x8_1.length : Int) := of_decide_eq_true (by first | (with_reducible assumption) | assumption)
             obtain ⟨ad388, e388, hx388_0⟩ := Kd.at_bool (Kd.R_reads' HO_8.out).2.2 x17_2 p388 q388
             (try rw [← Nbq33.out] at hx388_0)
             cases e388
             replace p388 := eq_true p388; replace q388 := eq_true q388
             go_wp2_with (first | ((with_reducible refine gate_builtin (b := .append) (xs := #[.tmp 65, .tmp 67]) rfl ?_); at_builtin; refine Kd.R_append (Kd.int .i64) (w0 := w) w.heap.size rfl (.tmp 65) (.tmp 67) 24 3 (.int .i64 0) 8 rfl Tryz.underlying24 info3 rfl (by decide) (by omega) u16 x16_2 x17_2 [.int .i64 x17_2] (fun _ => True) (fun _ => False) rfl rfl ?aP (fun _ hk => hk.elim) ?aF ?aO ?aB ?aS ?aL ?_; (case aP => exact rfl); (case aB => exact (uL HB)); (case aF => exact (fun _ _ => trivial)); (case aO => exact (uR HO_16)); (case aS => exact (below_size (uL HB))); (case aL => have := LMc35.out; omega); intro v390 w37 ho hb hg hat; rw [← Ny389.out] at ho; have HO391 := aM (ho); replace HO_8 := aM (Kd.R_over' (uR HO_8) (Kd.R_typed (uR HO_16)) (by decide) hg); replace HB := aM (hb); clear HO_16; clear ho hb hg hat))
             go_roundg k2
             case measure => have := HK1.out; have := HK2.out; omega
             case rel => exact ⟨(y389), (wrap64 (x17_2 + 1)), (by first | rfl | (simp; done) | (simp [*]; done)), H', ⟨by have := HK1.out; have := HK2.out; omega⟩, ⟨by (with_reducible repeat first | apply rA | apply rN | apply rD); exact HO_8.out⟩, ⟨by (with_reducible repeat first | apply rA | apply rN | apply rD); exact HO391.out⟩, ⟨uL HB⟩⟩
            ·rw [if_neg c35] at H
             exact absurd H (by simp)
           ·replace c34 := Bool.eq_false_iff.mpr c34
            subst c34
            have H1 : (spec_l10Field.l2 k2 a2 x8_1 x16_2 (wrap64 (x17_2 + 1))) = some (r1, r2) := by rw [if_neg (show ¬ (false = true) by decide)] at H; exact H
            clear H; have H := H1; clear H1
            have H' := aM H
            clear H
            obtain ⟨Ao38, co38, eo38⟩ := Kd.R_slice HO_8.out
            subst eo38
            have p388 : 0 ≤ (x17_2 : Int) := of_decide_eq_true (by first | (with_reducible assumption) | assumption)
            have q388 : x17_2 < (x8_1.length : Int) := of_decide_eq_true (by first | (with_reducible assumption) | assumption)
            obtain ⟨ad388, e388, hx388_0⟩ := Kd.at_bool (Kd.R_reads' HO_8.out).2.2 x17_2 p388 q388
            (try rw [← Nbq33.out] at hx388_0)
            cases e388
            replace p388 := eq_true p388; replace q388 := eq_true q388
            go_wp2
            go_roundg k2
            case measure => have := HK1.out; have := HK2.out; omega
            case rel => exact ⟨(x16_2), (wrap64 (x17_2 + 1)), (by first | rfl | (simp; done) | (simp [*]; done)), H', ⟨by have := HK1.out; have := HK2.out; omega⟩, ⟨by (with_reducible repeat first | apply rA | apply rN | apply rD); exact HO_8.out⟩, ⟨by (with_reducible repeat first | apply rA | apply rN | apply rD); exact HO_16.out⟩, ⟨uL HB⟩⟩
          ·rw [if_neg c32] at H
           exact absurd H (by simp)
         ·rw [if_neg c31] at H
          exact absurd H (by simp)
        ·rw [if_neg c30] at H
         have c30b0 : decide (x17_2 ≤ a2) = false := decide_eq_false c30
         clear c30
         simp only [Option.some.injEq, Prod.mk.injEq] at H
         obtain ⟨rfl, rfl⟩ := H
         go_wp2
         go_ret2
         exact ⟨_, by first | rfl | (simp [errW_none, errW_some] <;> rfl) | (simp only [← hji4]; first | rfl | (simp [errW_none, errW_some] <;> rfl)) | (simp [*, errW_none, errW_some] <;> rfl), by (with_reducible repeat first | apply rA | apply rN | apply rD); exact HO_16.out, uL HB⟩
  ·rw [if_neg c6] at H
   exact absurd H (by simp)
 ·rw [if_neg c5] at H
  exact absurd H (by simp)

end Go.Proofs.YthomiofokkkhgaaGreatDoor.QFnRules
