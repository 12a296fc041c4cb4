-- Own work (wip/turnprint.py over the kit's print).
import Derived.Test.YthomiofokkkhgaaGreatDoorQFnRulesx0
import Derived.Test.YthomiofokkkhgaaGreatDoorQFnRulesx2
namespace Go.Proofs.YthomiofokkkhgaaGreatDoor.QFnRules
open Go.RowKit Go.Proofs.YthomiofokkkhgaaGreatDoorW.PrintWords Go.Proofs.YthomiofokkkhgaaGreatDoorW.PrintLast Go.Proofs.YthomiofokkkhgaaGreatDoorW.PrintMore
attribute [local go_sem] max2_int min2_int max_two min_two max_three min_three max_four min_four   -- for this text's walks alone
set_option linter.unusedVariables false
set_option linter.unusedSimpArgs false

/-! ### stringslite_HasPrefix: function 87 -/
def stringslite_HasPrefix.f (a0 : ByteArray) (a1 : ByteArray) : Option (Bool) := if (a0.size : Int) ≥ (a1.size : Int) then (if 0 ≤ (a1.size : Int) then (if (a1.size : Int) ≤ (a0.size : Int) then (some ((a0.extract 0 ((a1.size : Int) : Int).toNat).toList == a1.toList)) else (none)) else (none)) else (some false)
set_option maxHeartbeats 8000000 in
set_option maxRecDepth 100000 in
theorem stringslite_HasPrefix.calls (a0 : ByteArray) (a1 : ByteArray) (r : Bool) (w : World) (h : stringslite_HasPrefix.f a0 a1 = some r) :
 Calls Tryz.prog 87 #[.string a0, .string a1] w fun e w' => e = .returned (.bool r) ∧ Drawn0 w w' := by
 have H : (if (a0.size : Int) ≥ (a1.size : Int) then (if 0 ≤ (a1.size : Int) then (if (a1.size : Int) ≤ (a0.size : Int) then (some ((a0.extract 0 ((a1.size : Int) : Int).toNat).toList == a1.toList)) else (none)) else (none)) else (some false)) = some r := h
 clear h
 by_cases c3 : (a0.size : Int) ≥ (a1.size : Int)
 ·rw [if_pos c3] at H
  have c3b0 : decide ((a1.size : Int) ≤ (a0.size : Int)) = true := decide_eq_true c3
  have c3b1 : decide (a1.size ≤ a0.size) = true := decide_eq_true (Int.ofNat_le.mp c3)
  clear c3
  by_cases c4 : 0 ≤ (a1.size : Int)
  ·rw [if_pos c4] at H
   have c4b0 := eq_true c4
   have c4b1 : decide (0 ≤ (a1.size : Int)) = true := decide_eq_true c4
   clear c4
   by_cases c5 : (a1.size : Int) ≤ (a0.size : Int)
   ·rw [if_pos c5] at H
    have c5b0 := eq_true c5
    have c5b1 : decide ((a1.size : Int) ≤ (a0.size : Int)) = true := decide_eq_true c5
    clear c5
    obtain rfl := Option.some.inj H
    go_enter Tryz.func87, Tryz.ntmps87
    go_wp2
    go_ret
    exact ⟨by first | rfl | (simp; done) | (simp [*]; done), by repeat (first | exact Drawn0.refl _ | apply Drawn0.step)⟩
   ·rw [if_neg c5] at H
    exact absurd H (by simp)
  ·rw [if_neg c4] at H
   exact absurd H (by simp)
 ·rw [if_neg c3] at H
  have c3b0 : decide ((a1.size : Int) ≤ (a0.size : Int)) = false := decide_eq_false c3
  have c3b1 : decide (a1.size ≤ a0.size) = false := decide_eq_false (fun h => c3 (Int.ofNat_le.mpr h))
  clear c3
  obtain rfl := Option.some.inj H
  go_enter Tryz.func87, Tryz.ntmps87
  go_wp2
  go_ret
  exact ⟨by first | rfl | (simp; done) | (simp [*]; done), by repeat (first | exact Drawn0.refl _ | apply Drawn0.step)⟩

/-! ### stringslite_CutPrefix: function 66 -/
def stringslite_CutPrefix.f (a0 : ByteArray) (a1 : ByteArray) : Option (ByteArray × Bool) := (stringslite_HasPrefix.f a0 a1).bind fun t207 => (if t207 = true then (if 0 ≤ (a1.size : Int) then (if (a1.size : Int) ≤ (a0.size : Int) then (some (a0.extract ((a1.size : Int) : Int).toNat a0.size, true)) else (none)) else (none)) else (some (a0, false)))
set_option maxHeartbeats 8000000 in
set_option maxRecDepth 100000 in
theorem stringslite_CutPrefix.calls (a0 : ByteArray) (a1 : ByteArray) (r1 : ByteArray) (r2 : Bool) (w : World) (h : stringslite_CutPrefix.f a0 a1 = some (r1, r2)) :
 Calls Tryz.prog 66 #[.string a0, .string a1] w fun e w' => e = .returned (.tuple #[.string r1, .bool r2]) ∧ Drawn0 w w' := by
 have H : ((stringslite_HasPrefix.f a0 a1).bind fun t207 => (if t207 = true then (if 0 ≤ (a1.size : Int) then (if (a1.size : Int) ≤ (a0.size : Int) then (some (a0.extract ((a1.size : Int) : Int).toNat a0.size, true)) else (none)) else (none)) else (some (a0, false)))) = some (r1, r2) := h
 clear h
 replace H := Option.bind_eq_some_iff.mp H
 obtain ⟨t207, A30, H⟩ := H
 try dsimp only at H
 have A3 := aM A30
 clear A30
 refine Classical.byCases (p := t207 = true) (fun c4 => ?L1p) (fun c4 => ?L1n)
 case' L1p =>
  subst c4
  rw [if_pos rfl] at H
  refine Classical.byCases (p := 0 ≤ (a1.size : Int)) (fun c5 => ?L2p) (fun c5 => ?L2n)
  case' L2p =>
   rw [if_pos c5] at H
   have c5b0 := eq_true c5
   have c5b1 : decide (0 ≤ (a1.size : Int)) = true := decide_eq_true c5
   clear c5
   refine Classical.byCases (p := (a1.size : Int) ≤ (a0.size : Int)) (fun c6 => ?L3p) (fun c6 => ?L3n)
   case' L3p =>
    rw [if_pos c6] at H
    have c6b0 := eq_true c6
    have c6b1 : decide ((a1.size : Int) ≤ (a0.size : Int)) = true := decide_eq_true c6
    clear c6
    simp only [Option.some.injEq, Prod.mk.injEq] at H
    obtain ⟨rfl, rfl⟩ := H
   case' L3n =>
    rw [if_neg c6] at H
    exact absurd H (by simp)
  case' L2n =>
   rw [if_neg c5] at H
   exact absurd H (by simp)
 case' L1n =>
  replace c4 := Bool.eq_false_iff.mpr c4
  subst c4
  have H1 : (some (a0, false)) = some (r1, r2) := by rw [if_neg (show ¬ (false = true) by decide)] at H; exact H
  clear H; have H := H1; clear H1
  simp only [Option.some.injEq, Prod.mk.injEq] at H
  obtain ⟨rfl, rfl⟩ := H
 case L1p | L1n =>
  go_enter Tryz.func66, Tryz.ntmps66
  go_wp2_with (first | ((with_reducible refine gate_callee (f := 87) rfl ?_); refine gL (some 8) Tryz.func87 #[.string a0, .string a1] ?_; (with_reducible refine (stringslite_HasPrefix.calls a0 a1 _ _ A3.out).mono ?_); rintro e w' ⟨rfl, ⟨nd, rfl⟩⟩; refine ⟨_, rfl, ?_⟩))
  go_ret2
  exact ⟨by first | rfl | (simp; done) | (simp [*]; done), by repeat (first | exact Drawn0.refl _ | apply Drawn0.step)⟩

/-! ### strings_CutPrefix: function 53 -/
def strings_CutPrefix.f (a0 : ByteArray) (a1 : ByteArray) : Option (ByteArray × Bool) := (stringslite_CutPrefix.f a0 a1).bind fun bt208 => (some (bt208.1, bt208.2))
set_option maxHeartbeats 8000000 in
set_option maxRecDepth 100000 in
theorem strings_CutPrefix.calls (a0 : ByteArray) (a1 : ByteArray) (r1 : ByteArray) (r2 : Bool) (w : World) (h : strings_CutPrefix.f a0 a1 = some (r1, r2)) :
 Calls Tryz.prog 53 #[.string a0, .string a1] w fun e w' => e = .returned (.tuple #[.string r1, .bool r2]) ∧ Drawn0 w w' := by
 have H : ((stringslite_CutPrefix.f a0 a1).bind fun bt208 => (some (bt208.1, bt208.2))) = some (r1, r2) := h
 clear h
 replace H := Option.bind_eq_some_iff.mp H
 obtain ⟨⟨t208, t209⟩, A30, H⟩ := H
 replace H : (some (t208, t209)) = some (r1, r2) := H
 have A3 := aM A30
 clear A30
 simp only [Option.some.injEq, Prod.mk.injEq] at H
 obtain ⟨rfl, rfl⟩ := H
 go_enter Tryz.func53, Tryz.ntmps53
 go_wp2_with (first | ((with_reducible refine gate_callee (f := 66) rfl ?_); refine gL (some 8) Tryz.func66 #[.string a0, .string a1] ?_; (with_reducible refine (stringslite_CutPrefix.calls a0 a1 t208 t209 _ A3.out).mono ?_); rintro e w' ⟨rfl, ⟨nd, rfl⟩⟩; refine ⟨_, rfl, ?_⟩))
 go_ret2
 exact ⟨by first | rfl | (simp; done) | (simp [*]; done), by repeat (first | exact Drawn0.refl _ | apply Drawn0.step)⟩

/-! ### impl_Decimal: function 19 (given by the session) -/
def impl_Decimal.f (a0 : Int) : Option (ByteArray) := if -9223372036854775808 ≤ a0 ∧ a0 ≤ 9223372036854775807 then some ⟨(Lib.itoa a0).toArray⟩ else none
theorem impl_Decimal.calls (a0 : Int) (r : ByteArray) (w : World) (h : impl_Decimal.f a0 = some r) (htab : Cx.Ok w) :
 Calls Tryz.prog 19 #[.int .i64 a0] w fun e w' => e = .returned (.string r) ∧ Below w.heap.size w w' := by
 unfold impl_Decimal.f at h
 by_cases hs : -9223372036854775808 ≤ a0 ∧ a0 ≤ 9223372036854775807
 case neg => rw [if_neg hs] at h; cases h
 rw [if_pos hs] at h
 obtain rfl := Option.some.inj h
 exact Cx.decimal a0 hs.1 hs.2 w htab.1

/-! ### impl_ReadDecimal: function 54 -/
mutual
def impl_ReadDecimal.j0 : Nat → ByteArray → Bool → Option (Int × Bool)
 | 0, _, _ => none
 | k + 1, x0, x13 => if x13 = true then (some (0, false)) else (impl_ReadDecimal.l0 k x0 0 0)
def impl_ReadDecimal.l0 : Nat → ByteArray → Int → Int → Option (Int × Bool)
 | 0, _, _, _ => none
 | k + 1, x0, x4, x5 => if x5 < (x0.size : Int) then (if 0 ≤ x5 then (if (bt x0 x5) < 48 then (some (0, false)) else (if (bt x0 x5) > 57 then (some (0, false)) else (impl_ReadDecimal.l0 k x0 (wrap64 ((wrap64 (x4 * 10)) + (((bt x0 x5) - 48) % 256))) (wrap64 (x5 + 1))))) else (none)) else (if x4 > 1000000000 then (some (0, false)) else ((impl_Decimal.f x4).bind fun t210 => (if t210.toList = x0.toList then (some (x4, true)) else (some (0, false)))))
end
def impl_ReadDecimal.f (k : Nat) (a0 : ByteArray) : Option (Int × Bool) := if (a0.size : Int) = 0 then (impl_ReadDecimal.j0 k a0 true) else (impl_ReadDecimal.j0 k a0 (decide ((a0.size : Int) > 10)))
theorem impl_ReadDecimal.mono_l : ∀ k, (∀ y0 y1, LeO (impl_ReadDecimal.j0 k y0 y1) (impl_ReadDecimal.j0 (k + 1) y0 y1)) ∧ (∀ y0 y1 y2, LeO (impl_ReadDecimal.l0 k y0 y1 y2) (impl_ReadDecimal.l0 (k + 1) y0 y1 y2))
 | 0 => ⟨fun _ _ r h => by simp [impl_ReadDecimal.j0] at h, fun _ _ _ r h => by simp [impl_ReadDecimal.l0] at h⟩
 | k + 1 => by
  obtain ⟨ih0, ih1⟩ := impl_ReadDecimal.mono_l k
  refine ⟨?_, ?_⟩
  ·intro y0 y1
   unfold impl_ReadDecimal.j0
   repeat' first
   | (with_reducible exact ih0 _ _)
   | (with_reducible exact ih1 _ _ _)
   | (with_reducible exact LeO.refl _)
   | (with_reducible exact LeO.none _)
   | (with_reducible refine LeO.ite ?_ ?_)
   | (with_reducible refine LeO.bind ?_ (fun _ => ?_))
   | exact ih0 _ _
   | exact ih1 _ _ _
   | exact LeO.none _
   | refine LeO.ite ?_ ?_
   | refine LeO.bind ?_ (fun _ => ?_)
  ·intro y0 y1 y2
   unfold impl_ReadDecimal.l0
   repeat' first
   | (with_reducible exact ih0 _ _)
   | (with_reducible exact ih1 _ _ _)
   | (with_reducible exact LeO.refl _)
   | (with_reducible exact LeO.none _)
   | (with_reducible refine LeO.ite ?_ ?_)
   | (with_reducible refine LeO.bind ?_ (fun _ => ?_))
   | exact ih0 _ _
   | exact ih1 _ _ _
   | exact LeO.none _
   | refine LeO.ite ?_ ?_
   | refine LeO.bind ?_ (fun _ => ?_)
theorem impl_ReadDecimal.mono : ∀ a0 k, LeO (impl_ReadDecimal.f k a0) (impl_ReadDecimal.f (k + 1) a0) := by
 intro a0 k
 obtain ⟨ih0, ih1⟩ := impl_ReadDecimal.mono_l k
 unfold impl_ReadDecimal.f
 repeat' first
  | (with_reducible exact ih0 _ _)
  | (with_reducible exact ih1 _ _ _)
  | (with_reducible exact LeO.refl _)
  | (with_reducible exact LeO.none _)
  | (with_reducible refine LeO.ite ?_ ?_)
  | (with_reducible refine LeO.bind ?_ (fun _ => ?_))
  | exact ih0 _ _
  | exact ih1 _ _ _
  | exact LeO.none _
  | refine LeO.ite ?_ ?_
  | refine LeO.bind ?_ (fun _ => ?_)
set_option maxHeartbeats 8000000 in
set_option maxRecDepth 100000 in
theorem impl_ReadDecimal.calls (k : Nat) (a0 : ByteArray) (r1 : Int) (r2 : Bool) (w : World) (h : impl_ReadDecimal.f k a0 = some (r1, r2)) (htab : Cx.Ok w) :
 Calls Tryz.prog 54 #[.string a0] w fun e w' => e = .returned (.tuple #[.int .i64 r1, .bool r2]) ∧ Below w.heap.size w w' := by
 have HTAB := aM htab
 clear htab
 have HB := aM (Below.refl w.heap.size w)
 have H : (if (a0.size : Int) = 0 then (impl_ReadDecimal.j0 k a0 true) else (impl_ReadDecimal.j0 k a0 (decide ((a0.size : Int) > 10)))) = some (r1, r2) := h
 clear h
 have HC2 := aM H
 clear H
 go_enter Tryz.func54, Tryz.ntmps54
 go_upto_region 1 with (fail)
 go_cut [13] (fun v13 wc => ∃ (kq : Nat) (x13_1 : Bool), v13 = .bool x13_1 ∧ Aside0 (impl_ReadDecimal.j0 kq a0 x13_1 = some (r1, r2)) ∧ Aside0 (kq ≤ k) ∧ Aside0 (Below w.heap.size w wc))
 case first =>
  have H := HC2.out
  clear HC2
  by_cases c3 : (a0.size : Int) = 0
  ·rw [if_pos c3] at H
   have c3b0 : ((a0.size : Int) == 0) = true := beq_iff_eq.mpr c3
   have c3b1 : ((a0.size : Int) != 0) = false := bne_eq_false_iff_eq.mpr c3
   clear c3
   (first | rw [c3b0] | (simp only [i64_w, i32_w]; rw [c3b0]) | skip)
   have H' := aM H
   clear H
   go_wp2
   go_meet
   case rel => exact ⟨_, (true), (by first | rfl | (simp; done) | (simp [*]; done)), H', ⟨by first | omega | exact Nat.le_refl _⟩, ⟨uL HB⟩⟩
  ·rw [if_neg c3] at H
   have c3b0 : ((a0.size : Int) == 0) = false := beq_eq_false_iff_ne.mpr c3
   have c3b1 : ((a0.size : Int) != 0) = true := bne_iff_ne.mpr c3
   (first | rw [c3b0] | (simp only [i64_w, i32_w]; rw [c3b0]) | skip)
   have H' := aM H
   clear H
   go_wp2
   go_meet
   case rel => exact ⟨_, (decide ((a0.size : Int) > 10)), (by first | rfl | (simp; done) | (simp [*]; done)), H', ⟨by first | omega | exact Nat.le_refl _⟩, ⟨uL HB⟩⟩
 case rest =>
  clear HC2
  try clear p2; try clear c3; try clear c3b0; try clear c3b1
  obtain ⟨kq, x13_1, rfl, HA, HJ1, HB⟩ := hcut
  cases kq with
  | zero => exact absurd HA.out (by simp [impl_ReadDecimal.j0])
  | succ kj1 =>
   have H := HA.out
   clear HA
   simp only [impl_ReadDecimal.j0] at H
   by_cases c4 : x13_1 = true
   ·subst c4
    have H1 : (some (0, false)) = some (r1, r2) := by rw [if_pos rfl] at H; exact H
    clear H; have H := H1; clear H1
    simp only [Option.some.injEq, Prod.mk.injEq] at H
    obtain ⟨rfl, rfl⟩ := H
    go_wp2
    go_ret2
    exact rX HB
   ·replace c4 := Bool.eq_false_iff.mpr c4
    subst c4
    have H1 : (impl_ReadDecimal.l0 kj1 a0 0 0) = some (r1, r2) := by rw [if_neg (show ¬ (false = true) by decide)] at H; exact H
    clear H; have H := H1; clear H1
    have H' := aM H
    clear H
    go_wp2
    go_loopg [4, 5] kj1 (fun kq v4 v5 w' => ∃ (x4_2 : Int) (x5_2 : Int), v4 = .int .i64 x4_2 ∧ v5 = .int .i64 x5_2 ∧ Aside0 (impl_ReadDecimal.l0 kq a0 x4_2 x5_2 = some (r1, r2)) ∧ Aside0 (kq ≤ kj1) ∧ Aside0 (Below w.heap.size w w'))
    case atStart => exact ⟨(0), (0), (by first | rfl | (simp; done) | (simp [*]; done)), (by first | rfl | (simp; done) | (simp [*]; done)), H', ⟨Nat.le_refl _⟩, ⟨uL HB⟩⟩
    case round =>
     clear H'
     try clear p2; try clear c3; try clear c3b0; try clear c3b1; try clear c4; try clear p2
     obtain ⟨x4_2, x5_2, rfl, rfl, HA, HK2, HB⟩ := hrel
     cases gk with
     | zero => exact absurd HA.out (by simp [impl_ReadDecimal.l0])
     | succ k2 =>
      have H := HA.out
      clear HA
      simp only [impl_ReadDecimal.l0] at H
      refine Classical.byCases (p := x5_2 < (a0.size : Int)) (fun c5 => ?L1p) (fun c5 => ?L1n)
      case' L1p =>
       rw [if_pos c5] at H
       have c5b0 : decide (x5_2 < (a0.size : Int)) = true := decide_eq_true c5
       clear c5
       by_cases c6 : 0 ≤ x5_2
       ·rw [if_pos c6] at H
        have c6b0 : decide (0 ≤ x5_2) = true := decide_eq_true c6
        clear c6
        by_cases c8 : (bt a0 x5_2) < 48
        ·rw [if_pos c8] at H
         have c8b0 : decide ((bt a0 x5_2) < 48) = true := decide_eq_true c8
         clear c8
         simp only [Option.some.injEq, Prod.mk.injEq] at H
         obtain ⟨rfl, rfl⟩ := H
         have p7 : 0 ≤ (x5_2 : Int) := of_decide_eq_true (by first | (with_reducible assumption) | assumption)
         have q7 : x5_2 < (a0.size : Int) := of_decide_eq_true (by first | (with_reducible assumption) | assumption)
         have hx7 := bt_at a0 x5_2
         replace p7 := eq_true p7; replace q7 := eq_true q7
         go_wp2
         go_ret2
         exact rX HB
        ·rw [if_neg c8] at H
         have c8b0 : decide ((bt a0 x5_2) < 48) = false := decide_eq_false c8
         clear c8
         by_cases c10 : (bt a0 x5_2) > 57
         ·rw [if_pos c10] at H
          have c10b0 : decide (57 < (bt a0 x5_2)) = true := decide_eq_true c10
          clear c10
          simp only [Option.some.injEq, Prod.mk.injEq] at H
          obtain ⟨rfl, rfl⟩ := H
          have p7 : 0 ≤ (x5_2 : Int) := of_decide_eq_true (by first | (with_reducible assumption) | assumption)
          have q7 : x5_2 < (a0.size : Int) := of_decide_eq_true (by first | (with_reducible assumption) | assumption)
          have hx7 := bt_at a0 x5_2
          replace p7 := eq_true p7; replace q7 := eq_true q7
          have p9 : 0 ≤ (x5_2 : Int) := of_decide_eq_true (by first | (with_reducible assumption) | assumption)
          have q9 : x5_2 < (a0.size : Int) := of_decide_eq_true (by first | (with_reducible assumption) | assumption)
          have hx9 := bt_at a0 x5_2
          replace p9 := eq_true p9; replace q9 := eq_true q9
          go_wp2
          go_ret2
          exact rX HB
         ·rw [if_neg c10] at H
          have c10b0 : decide (57 < (bt a0 x5_2)) = false := decide_eq_false c10
          clear c10
          have H' := aM H
          clear H
          have p7 : 0 ≤ (x5_2 : Int) := of_decide_eq_true (by first | (with_reducible assumption) | assumption)
          have q7 : x5_2 < (a0.size : Int) := of_decide_eq_true (by first | (with_reducible assumption) | assumption)
          have hx7 := bt_at a0 x5_2
          replace p7 := eq_true p7; replace q7 := eq_true q7
          have p9 : 0 ≤ (x5_2 : Int) := of_decide_eq_true (by first | (with_reducible assumption) | assumption)
          have q9 : x5_2 < (a0.size : Int) := of_decide_eq_true (by first | (with_reducible assumption) | assumption)
          have hx9 := bt_at a0 x5_2
          replace p9 := eq_true p9; replace q9 := eq_true q9
          have p11 : 0 ≤ (x5_2 : Int) := of_decide_eq_true (by first | (with_reducible assumption) | assumption)
          have q11 : x5_2 < (a0.size : Int) := of_decide_eq_true (by first | (with_reducible assumption) | assumption)
          have hx11 := bt_at a0 x5_2
          replace p11 := eq_true p11; replace q11 := eq_true q11
          go_wp2
          go_roundg k2
          case measure => have := HJ1.out; have := HK2.out; omega
          case rel => exact ⟨(wrap64 ((wrap64 (x4_2 * 10)) + (((bt a0 x5_2) - 48) % 256))), (wrap64 (x5_2 + 1)), (by first | rfl | (simp; done) | (simp [*]; done)), (by first | rfl | (simp; done) | (simp [*]; done)), H', ⟨by have := HJ1.out; have := HK2.out; omega⟩, ⟨uL HB⟩⟩
       ·rw [if_neg c6] at H
        exact absurd H (by simp)
      case' L1n =>
       rw [if_neg c5] at H
       have c5b0 : decide (x5_2 < (a0.size : Int)) = false := decide_eq_false c5
       clear c5
       refine Classical.byCases (p := x4_2 > 1000000000) (fun c12 => ?L2p) (fun c12 => ?L2n)
       case' L2p =>
        rw [if_pos c12] at H
        have c12b0 : decide (1000000000 < x4_2) = true := decide_eq_true c12
        clear c12
        simp only [Option.some.injEq, Prod.mk.injEq] at H
        obtain ⟨rfl, rfl⟩ := H
        go_wp2
        go_ret2
        exact rX HB
       case' L2n =>
        rw [if_neg c12] at H
        have c12b0 : decide (1000000000 < x4_2) = false := decide_eq_false c12
        clear c12
        replace H := Option.bind_eq_some_iff.mp H
        obtain ⟨t210, A130, H⟩ := H
        replace H : (if t210.toList = a0.toList then (some (x4_2, true)) else (some (0, false))) = some (r1, r2) := H
        have A13 := aM A130
        clear A130
        refine Classical.byCases (p := t210.toList = a0.toList) (fun c14 => ?L3p) (fun c14 => ?L3n)
        case' L3p =>
         rw [if_pos c14] at H
         have c14b0 : (t210.toList == a0.toList) = true := beq_iff_eq.mpr c14
         have c14b1 : (t210.toList != a0.toList) = false := bne_eq_false_iff_eq.mpr c14
         clear c14
         simp only [Option.some.injEq, Prod.mk.injEq] at H
         obtain ⟨rfl, rfl⟩ := H
        case' L3n =>
         rw [if_neg c14] at H
         have c14b0 : (t210.toList == a0.toList) = false := beq_eq_false_iff_ne.mpr c14
         have c14b1 : (t210.toList != a0.toList) = true := bne_iff_ne.mpr c14
         simp only [Option.some.injEq, Prod.mk.injEq] at H
         obtain ⟨rfl, rfl⟩ := H
      case L3p | L3n =>
       go_wp2_with (first | (go_at_call 19; (with_reducible refine (impl_Decimal.calls x4_2 t210 _ A13.out (Cx.on HTAB.out (uL HB))).mono ?_); rintro e w15 ⟨rfl, hb⟩; replace HB := aM (below_step (uL HB) hb); try clear hb))
       go_ret2
       exact rX HB

/-! ### strings_Cut: function 55 (given by the session) -/
def strings_Cut.f (a0 : ByteArray) (a1 : ByteArray) : Option (ByteArray × ByteArray × Bool) := if a0.size < 4294967281 then some (⟨(Lib.cut a0.data.toList a1.data.toList).1.toArray⟩, ⟨(Lib.cut a0.data.toList a1.data.toList).2.1.toArray⟩, (Lib.cut a0.data.toList a1.data.toList).2.2) else none
theorem strings_Cut.calls (a0 a1 : ByteArray) (r1 r2 : ByteArray) (r3 : Bool) (w : World) (h : strings_Cut.f a0 a1 = some (r1, r2, r3)) (htab : Cx.Ok w) :
 Calls Tryz.prog 55 #[.string a0, .string a1] w fun e w' => e = .returned (.tuple #[.string r1, .string r2, .bool r3]) ∧ Below w.heap.size w w' := by
 unfold strings_Cut.f at h
 by_cases hs : a0.size < 4294967281
 case neg => rw [if_neg hs] at h; cases h
 rw [if_pos hs] at h
 have h2 := Option.some.inj h
 obtain ⟨m, hm⟩ := htab.2
 refine (Tryz.strings_Cut a0 a1 m w hs hm).mono ?_
 rintro e w' ⟨rfl, n, rfl⟩
 rw [Prod.ext_iff, Prod.ext_iff] at h2
 obtain ⟨rfl, rfl, rfl⟩ := h2
 exact ⟨rfl, ⟨rfl, rfl, rfl, Nat.le_refl _, fun _ _ => rfl⟩⟩

/-! ### impl_pieceOf: function 39 -/
def impl_pieceOf.f (k : Nat) (a0 : ByteArray) (a1 : Int) (a2 : Int) : Option (Int × Int × Int × Bool) := if a0.toList = ([42] : List UInt8) then (some (a1, a2, 1, true)) else ((strings_CutPrefix.f a0 (⟨#[42, 47]⟩ : ByteArray)).bind fun bt211 => (if bt211.2 = true then ((impl_ReadDecimal.f k bt211.1).bind fun bt213 => (if bt213.2 = true then (some (a1, a2, bt213.1, decide (bt213.1 ≥ 1))) else (some (a1, a2, bt213.1, false)))) else ((strings_Cut.f a0 (⟨#[45]⟩ : ByteArray)).bind fun bt215 => ((impl_ReadDecimal.f k bt215.1).bind fun bt218 => (if bt215.2.2 = true then ((impl_ReadDecimal.f k bt215.2.1).bind fun bt220 => (if bt218.2 = true then (if bt220.2 = true then (if bt218.1 ≥ a1 then (if bt218.1 ≤ bt220.1 then (some (bt218.1, bt220.1, 1, decide (bt220.1 ≤ a2))) else (some (bt218.1, bt220.1, 1, false))) else (some (bt218.1, bt220.1, 1, false))) else (some (bt218.1, bt220.1, 1, false))) else (some (bt218.1, bt220.1, 1, false)))) else (if bt218.2 = true then (if bt218.1 ≥ a1 then (if bt218.1 ≤ bt218.1 then (some (bt218.1, bt218.1, 1, decide (bt218.1 ≤ a2))) else (some (bt218.1, bt218.1, 1, false))) else (some (bt218.1, bt218.1, 1, false))) else (some (bt218.1, bt218.1, 1, false))))))))
theorem impl_pieceOf.mono : ∀ a0 a1 a2 k, LeO (impl_pieceOf.f k a0 a1 a2) (impl_pieceOf.f (k + 1) a0 a1 a2) := by
 intro a0 a1 a2 k
 unfold impl_pieceOf.f
 repeat' first
  | (with_reducible exact impl_ReadDecimal.mono _ _)
  | (with_reducible exact LeO.refl _)
  | (with_reducible exact LeO.none _)
  | (with_reducible refine LeO.ite ?_ ?_)
  | (with_reducible refine LeO.bind ?_ (fun _ => ?_))
  | exact impl_ReadDecimal.mono _ _
  | exact LeO.none _
  | refine LeO.ite ?_ ?_
  | refine LeO.bind ?_ (fun _ => ?_)
set_option maxHeartbeats 8000000 in
set_option maxRecDepth 100000 in
theorem impl_pieceOf.calls (k : Nat) (a0 : ByteArray) (a1 : Int) (a2 : Int) (r1 : Int) (r2 : Int) (r3 : Int) (r4 : Bool) (w : World) (h : impl_pieceOf.f k a0 a1 a2 = some (r1, r2, r3, r4)) (htab : Cx.Ok w) :
 Calls Tryz.prog 39 #[.string a0, .int .i64 a1, .int .i64 a2] w fun e w' => e = .returned (.tuple #[.int .i64 r1, .int .i64 r2, .int .i64 r3, .bool r4]) ∧ Below w.heap.size w w' := by
 have HTAB := aM htab
 clear htab
 have HB := aM (Below.refl w.heap.size w)
 have H : (if a0.toList = ([42] : List UInt8) then (some (a1, a2, 1, true)) else ((strings_CutPrefix.f a0 (⟨#[42, 47]⟩ : ByteArray)).bind fun bt211 => (if bt211.2 = true then ((impl_ReadDecimal.f k bt211.1).bind fun bt213 => (if bt213.2 = true then (some (a1, a2, bt213.1, decide (bt213.1 ≥ 1))) else (some (a1, a2, bt213.1, false)))) else ((strings_Cut.f a0 (⟨#[45]⟩ : ByteArray)).bind fun bt215 => ((impl_ReadDecimal.f k bt215.1).bind fun bt218 => (if bt215.2.2 = true then ((impl_ReadDecimal.f k bt215.2.1).bind fun bt220 => (if bt218.2 = true then (if bt220.2 = true then (if bt218.1 ≥ a1 then (if bt218.1 ≤ bt220.1 then (some (bt218.1, bt220.1, 1, decide (bt220.1 ≤ a2))) else (some (bt218.1, bt220.1, 1, false))) else (some (bt218.1, bt220.1, 1, false))) else (some (bt218.1, bt220.1, 1, false))) else (some (bt218.1, bt220.1, 1, false)))) else (if bt218.2 = true then (if bt218.1 ≥ a1 then (if bt218.1 ≤ bt218.1 then (some (bt218.1, bt218.1, 1, decide (bt218.1 ≤ a2))) else (some (bt218.1, bt218.1, 1, false))) else (some (bt218.1, bt218.1, 1, false))) else (some (bt218.1, bt218.1, 1, false))))))))) = some (r1, r2, r3, r4) := h
 clear h
 refine Classical.byCases (p := a0.toList = ([42] : List UInt8)) (fun c4 => ?L1p) (fun c4 => ?L1n)
 case' L1p =>
  rw [if_pos c4] at H
  have c4b0 : (a0.toList == ([42] : List UInt8)) = true := beq_iff_eq.mpr c4
  have c4b1 : (a0.toList != ([42] : List UInt8)) = false := bne_eq_false_iff_eq.mpr c4
  clear c4
  simp only [Option.some.injEq, Prod.mk.injEq] at H
  obtain ⟨rfl, rfl, rfl, rfl⟩ := H
  go_enter Tryz.func39, Tryz.ntmps39
  go_wp2
  refine bodyPost_ret (results_list (rs := [.tmp 6, .tmp 7, .tmp 8, .tmp 9]) rfl (by simp) (.tmp (.tmp (.tmp (.tmp .nil))))) rfl ?_
  exact rX HB
 case' L1n =>
  rw [if_neg c4] at H
  have c4b0 : (a0.toList == ([42] : List UInt8)) = false := beq_eq_false_iff_ne.mpr c4
  have c4b1 : (a0.toList != ([42] : List UInt8)) = true := bne_iff_ne.mpr c4
  replace H := Option.bind_eq_some_iff.mp H
  obtain ⟨⟨t211, t212⟩, A50, H⟩ := H
  try dsimp only at H
  have A5 := aM A50
  clear A50
  refine Classical.byCases (p := t212 = true) (fun c6 => ?L2p) (fun c6 => ?L2n)
  case' L2p =>
   subst c6
   rw [if_pos rfl] at H
   replace H := Option.bind_eq_some_iff.mp H
   obtain ⟨⟨t213, t214⟩, A70, H⟩ := H
   replace H : (if t214 = true then (some (a1, a2, t213, decide (t213 ≥ 1))) else (some (a1, a2, t213, false))) = some (r1, r2, r3, r4) := H
   have A7 := aM A70
   clear A70
   refine Classical.byCases (p := t214 = true) (fun c8 => ?L3p) (fun c8 => ?L3n)
   case' L3p =>
    subst c8
    have H1 : (some (a1, a2, t213, decide (t213 ≥ 1))) = some (r1, r2, r3, r4) := by rw [if_pos rfl] at H; exact H
    clear H; have H := H1; clear H1
    simp only [Option.some.injEq, Prod.mk.injEq] at H
    obtain ⟨rfl, rfl, rfl, rfl⟩ := H
   case' L3n =>
    replace c8 := Bool.eq_false_iff.mpr c8
    subst c8
    have H1 : (some (a1, a2, t213, false)) = some (r1, r2, r3, r4) := by rw [if_neg (show ¬ (false = true) by decide)] at H; exact H
    clear H; have H := H1; clear H1
    simp only [Option.some.injEq, Prod.mk.injEq] at H
    obtain ⟨rfl, rfl, rfl, rfl⟩ := H
  case' L2n =>
   replace c6 := Bool.eq_false_iff.mpr c6
   subst c6
   rw [if_neg (show ¬ (false = true) by decide)] at H
   replace H := Option.bind_eq_some_iff.mp H
   obtain ⟨⟨t215, t216, t217⟩, A110, H⟩ := H
   try dsimp only at H
   have A11 := aM A110
   clear A110
   replace H := Option.bind_eq_some_iff.mp H
   obtain ⟨⟨t218, t219⟩, A120, H⟩ := H
   try dsimp only at H
   have A12 := aM A120
   clear A120
   refine Classical.byCases (p := t217 = true) (fun c13 => ?L4p) (fun c13 => ?L4n)
   case' L4p =>
    subst c13
    rw [if_pos rfl] at H
    replace H := Option.bind_eq_some_iff.mp H
    obtain ⟨⟨t220, t221⟩, A140, H⟩ := H
    try dsimp only at H
    have A14 := aM A140
    clear A140
    refine Classical.byCases (p := t219 = true) (fun c15 => ?L5p) (fun c15 => ?L5n)
    case' L5p =>
     subst c15
     rw [if_pos rfl] at H
     refine Classical.byCases (p := t221 = true) (fun c16 => ?L6p) (fun c16 => ?L6n)
     case' L6p =>
      subst c16
      rw [if_pos rfl] at H
      refine Classical.byCases (p := t218 ≥ a1) (fun c17 => ?L7p) (fun c17 => ?L7n)
      case' L7p =>
       rw [if_pos c17] at H
       have c17b0 : decide (a1 ≤ t218) = true := decide_eq_true c17
       clear c17
       refine Classical.byCases (p := t218 ≤ t220) (fun c18 => ?L8p) (fun c18 => ?L8n)
       case' L8p =>
        rw [if_pos c18] at H
        have c18b0 : decide (t218 ≤ t220) = true := decide_eq_true c18
        clear c18
        simp only [Option.some.injEq, Prod.mk.injEq] at H
        obtain ⟨rfl, rfl, rfl, rfl⟩ := H
       case' L8n =>
        rw [if_neg c18] at H
        have c18b0 : decide (t218 ≤ t220) = false := decide_eq_false c18
        clear c18
        simp only [Option.some.injEq, Prod.mk.injEq] at H
        obtain ⟨rfl, rfl, rfl, rfl⟩ := H
      case' L7n =>
       rw [if_neg c17] at H
       have c17b0 : decide (a1 ≤ t218) = false := decide_eq_false c17
       clear c17
       simp only [Option.some.injEq, Prod.mk.injEq] at H
       obtain ⟨rfl, rfl, rfl, rfl⟩ := H
     case' L6n =>
      replace c16 := Bool.eq_false_iff.mpr c16
      subst c16
      have H1 : (some (t218, t220, 1, false)) = some (r1, r2, r3, r4) := by rw [if_neg (show ¬ (false = true) by decide)] at H; exact H
      clear H; have H := H1; clear H1
      simp only [Option.some.injEq, Prod.mk.injEq] at H
      obtain ⟨rfl, rfl, rfl, rfl⟩ := H
    case' L5n =>
     replace c15 := Bool.eq_false_iff.mpr c15
     subst c15
     have H1 : (some (t218, t220, 1, false)) = some (r1, r2, r3, r4) := by rw [if_neg (show ¬ (false = true) by decide)] at H; exact H
     clear H; have H := H1; clear H1
     simp only [Option.some.injEq, Prod.mk.injEq] at H
     obtain ⟨rfl, rfl, rfl, rfl⟩ := H
     go_enter Tryz.func39, Tryz.ntmps39
     go_wp2_with (first | ((with_reducible refine gate_callee (f := 53) rfl ?_); refine gL (some 27) Tryz.func53 #[.string a0, .string (⟨#[42, 47]⟩ : ByteArray)] ?_; (with_reducible refine (strings_CutPrefix.calls a0 (⟨#[42, 47]⟩ : ByteArray) t211 false _ A5.out).mono ?_); rintro e w' ⟨rfl, ⟨nd, rfl⟩⟩; refine ⟨_, rfl, ?_⟩) | ((with_reducible refine gate_callee (f := 55) rfl ?_); refine gL (some 46) Tryz.func55 #[.string a0, .string (⟨#[45]⟩ : ByteArray)] ?_; (with_reducible refine (strings_Cut.calls a0 (⟨#[45]⟩ : ByteArray) t215 t216 true _ A11.out (Cx.on HTAB.out (uL HB))).mono ?_); rintro e w31 ⟨rfl, hb⟩; refine ⟨_, rfl, ?_⟩; replace HB := aM (below_step (uL HB) hb); try clear hb) | ((with_reducible refine gate_callee (f := 54) rfl ?_); refine gL (some 52) Tryz.func54 #[.string t215] ?_; (with_reducible refine (impl_ReadDecimal.calls k t215 t218 false _ A12.out (Cx.on HTAB.out (uL HB))).mono ?_); rintro e w32 ⟨rfl, hb⟩; refine ⟨_, rfl, ?_⟩; replace HB := aM (below_step (uL HB) hb); try clear hb) | ((with_reducible refine gate_callee (f := 54) rfl ?_); refine gL (some 59) Tryz.func54 #[.string t216] ?_; (with_reducible refine (impl_ReadDecimal.calls k t216 t220 t221 _ A14.out (Cx.on HTAB.out (uL HB))).mono ?_); rintro e w33 ⟨rfl, hb⟩; refine ⟨_, rfl, ?_⟩; replace HB := aM (below_step (uL HB) hb); try clear hb))
     refine bodyPost_ret (results_list (rs := [.tmp 6, .tmp 7, .tmp 8, .tmp 9]) rfl (by simp) (.tmp (.tmp (.tmp (.tmp .nil))))) rfl ?_
     exact rX HB
   case' L4n =>
    replace c13 := Bool.eq_false_iff.mpr c13
    subst c13
    rw [if_neg (show ¬ (false = true) by decide)] at H
    refine Classical.byCases (p := t219 = true) (fun c34 => ?L9p) (fun c34 => ?L9n)
    case' L9p =>
     subst c34
     rw [if_pos rfl] at H
     refine Classical.byCases (p := t218 ≥ a1) (fun c35 => ?L10p) (fun c35 => ?L10n)
     case' L10p =>
      rw [if_pos c35] at H
      have c35b0 : decide (a1 ≤ t218) = true := decide_eq_true c35
      clear c35
      refine Classical.byCases (p := t218 ≤ t218) (fun c36 => ?L11p) (fun c36 => absurd (Int.le_refl _) c36)
      case' L11p =>
       rw [if_pos c36] at H
       have c36b0 : decide (t218 ≤ t218) = true := decide_eq_true c36
       clear c36
       simp only [Option.some.injEq, Prod.mk.injEq] at H
       obtain ⟨rfl, rfl, rfl, rfl⟩ := H
     case' L10n =>
      rw [if_neg c35] at H
      have c35b0 : decide (a1 ≤ t218) = false := decide_eq_false c35
      clear c35
      simp only [Option.some.injEq, Prod.mk.injEq] at H
      obtain ⟨rfl, rfl, rfl, rfl⟩ := H
    case' L9n =>
     replace c34 := Bool.eq_false_iff.mpr c34
     subst c34
     have H1 : (some (t218, t218, 1, false)) = some (r1, r2, r3, r4) := by rw [if_neg (show ¬ (false = true) by decide)] at H; exact H
     clear H; have H := H1; clear H1
     simp only [Option.some.injEq, Prod.mk.injEq] at H
     obtain ⟨rfl, rfl, rfl, rfl⟩ := H
 case L3p | L3n =>
  go_enter Tryz.func39, Tryz.ntmps39
  go_wp2_with (first | ((with_reducible refine gate_callee (f := 53) rfl ?_); refine gL (some 27) Tryz.func53 #[.string a0, .string (⟨#[42, 47]⟩ : ByteArray)] ?_; (with_reducible refine (strings_CutPrefix.calls a0 (⟨#[42, 47]⟩ : ByteArray) t211 true _ A5.out).mono ?_); rintro e w' ⟨rfl, ⟨nd, rfl⟩⟩; refine ⟨_, rfl, ?_⟩) | ((with_reducible refine gate_callee (f := 54) rfl ?_); refine gL (some 33) Tryz.func54 #[.string t211] ?_; (with_reducible refine (impl_ReadDecimal.calls k t211 t213 _ _ A7.out (Cx.on HTAB.out (uL HB))).mono ?_); rintro e w9 ⟨rfl, hb⟩; refine ⟨_, rfl, ?_⟩; replace HB := aM (below_step (uL HB) hb); try clear hb))
  refine bodyPost_ret (results_list (rs := [.tmp 6, .tmp 7, .tmp 8, .tmp 9]) rfl (by simp) (.tmp (.tmp (.tmp (.tmp .nil))))) rfl ?_
  exact rX HB
 case L8p | L8n | L7n | L6n =>
  go_enter Tryz.func39, Tryz.ntmps39
  go_wp2_with (first | ((with_reducible refine gate_callee (f := 53) rfl ?_); refine gL (some 27) Tryz.func53 #[.string a0, .string (⟨#[42, 47]⟩ : ByteArray)] ?_; (with_reducible refine (strings_CutPrefix.calls a0 (⟨#[42, 47]⟩ : ByteArray) t211 false _ A5.out).mono ?_); rintro e w' ⟨rfl, ⟨nd, rfl⟩⟩; refine ⟨_, rfl, ?_⟩) | ((with_reducible refine gate_callee (f := 55) rfl ?_); refine gL (some 46) Tryz.func55 #[.string a0, .string (⟨#[45]⟩ : ByteArray)] ?_; (with_reducible refine (strings_Cut.calls a0 (⟨#[45]⟩ : ByteArray) t215 t216 true _ A11.out (Cx.on HTAB.out (uL HB))).mono ?_); rintro e w19 ⟨rfl, hb⟩; refine ⟨_, rfl, ?_⟩; replace HB := aM (below_step (uL HB) hb); try clear hb) | ((with_reducible refine gate_callee (f := 54) rfl ?_); refine gL (some 52) Tryz.func54 #[.string t215] ?_; (with_reducible refine (impl_ReadDecimal.calls k t215 t218 true _ A12.out (Cx.on HTAB.out (uL HB))).mono ?_); rintro e w20 ⟨rfl, hb⟩; refine ⟨_, rfl, ?_⟩; replace HB := aM (below_step (uL HB) hb); try clear hb) | ((with_reducible refine gate_callee (f := 54) rfl ?_); refine gL (some 59) Tryz.func54 #[.string t216] ?_; (with_reducible refine (impl_ReadDecimal.calls k t216 t220 _ _ A14.out (Cx.on HTAB.out (uL HB))).mono ?_); rintro e w21 ⟨rfl, hb⟩; refine ⟨_, rfl, ?_⟩; replace HB := aM (below_step (uL HB) hb); try clear hb))
  refine bodyPost_ret (results_list (rs := [.tmp 6, .tmp 7, .tmp 8, .tmp 9]) rfl (by simp) (.tmp (.tmp (.tmp (.tmp .nil))))) rfl ?_
  exact rX HB
 case L10p | L10n | L9n =>
  go_enter Tryz.func39, Tryz.ntmps39
  go_wp2_with (first | ((with_reducible refine gate_callee (f := 53) rfl ?_); refine gL (some 27) Tryz.func53 #[.string a0, .string (⟨#[42, 47]⟩ : ByteArray)] ?_; (with_reducible refine (strings_CutPrefix.calls a0 (⟨#[42, 47]⟩ : ByteArray) t211 false _ A5.out).mono ?_); rintro e w' ⟨rfl, ⟨nd, rfl⟩⟩; refine ⟨_, rfl, ?_⟩) | ((with_reducible refine gate_callee (f := 55) rfl ?_); refine gL (some 46) Tryz.func55 #[.string a0, .string (⟨#[45]⟩ : ByteArray)] ?_; (with_reducible refine (strings_Cut.calls a0 (⟨#[45]⟩ : ByteArray) t215 t216 false _ A11.out (Cx.on HTAB.out (uL HB))).mono ?_); rintro e w37 ⟨rfl, hb⟩; refine ⟨_, rfl, ?_⟩; replace HB := aM (below_step (uL HB) hb); try clear hb) | ((with_reducible refine gate_callee (f := 54) rfl ?_); refine gL (some 52) Tryz.func54 #[.string t215] ?_; (with_reducible refine (impl_ReadDecimal.calls k t215 t218 _ _ A12.out (Cx.on HTAB.out (uL HB))).mono ?_); rintro e w38 ⟨rfl, hb⟩; refine ⟨_, rfl, ?_⟩; replace HB := aM (below_step (uL HB) hb); try clear hb))
  refine bodyPost_ret (results_list (rs := [.tmp 6, .tmp 7, .tmp 8, .tmp 9]) rfl (by simp) (.tmp (.tmp (.tmp (.tmp .nil))))) rfl ?_
  exact rX HB

/-! ### impl_parseField: function 22 (given by the session) -/
def impl_parseField.steps : Nat → Int → Int → Int → List Int
 | 0, _, _, _ => []
 | m + 1, n, b, s => if n ≤ b then n :: impl_parseField.steps m (n + s) b s else []
/-- a, a + s and so on, up to b -/
def impl_parseField.nums (a b s : Int) : List Int := impl_parseField.steps (b - a + 1).toNat a b s
def impl_parseField.fine (t : Int × Int × Int × Bool) (acc : List Int) : Bool := decide (0 ≤ t.1) && decide (t.1 ≤ 1000) && decide (t.2.1 < 100) && decide (1 ≤ t.2.2.1) && decide (t.2.2.1 ≤ 1099511627776) && decide (acc.length ≤ 1000000000000)
def impl_parseField.go (k : Nat) (lo hi : Int) : List ByteArray → List Int → Option (Option (List Int))
 | [], acc => some (some acc)
 | p :: ps, acc => (impl_pieceOf.f k p lo hi).bind fun t => if t.2.2.2 = true then (if impl_parseField.fine t acc = true then impl_parseField.go k lo hi ps (acc ++ impl_parseField.nums t.1 t.2.1 t.2.2.1) else none) else some none
def impl_parseField.fin : Option (List Int) → Option (List Int × Bool)
 | none => some ([], false)
 | some l => if l.length = 0 then none else some (Lib.compact (l.mergeSort fun x y => decide (x ≤ y)), true)
def impl_parseField.f (k : Nat) (a0 : ByteArray) (a1 : Int) : Option (List Int × Bool) :=
 (impl_bounds.f a1).bind fun b => (strings_Split.f a0 ⟨#[44]⟩).bind fun ps => (impl_parseField.go k b.1 b.2 ps []).bind impl_parseField.fin
theorem impl_parseField.steps_le (b s : Int) (h1 : 1 ≤ s) : ∀ (m : Nat) (n : Int), (impl_parseField.steps m n b s).length ≤ (b - n + 1).toNat
 | 0, n => by simp [impl_parseField.steps]
 | m + 1, n => by
  unfold impl_parseField.steps
  by_cases h : n ≤ b
  ·rw [if_pos h, List.length_cons]
   have := impl_parseField.steps_le b s h1 m (n + s)
   omega
  ·rw [if_neg h]
   simp
theorem impl_parseField.nums_at (a b s : Int) (h1 : 1 ≤ s) (h : a ≤ b) : impl_parseField.nums a b s = a :: impl_parseField.nums (a + s) b s := by
 have key : ∀ (m m' : Nat) (n : Int), (b - n + 1).toNat ≤ m → (b - n + 1).toNat ≤ m' → impl_parseField.steps m n b s = impl_parseField.steps m' n b s := by
  intro m
  induction m with
  | zero =>
   intro m' n h0 h0'
   cases m' with
   | zero => rfl
   | succ m' => simp only [impl_parseField.steps]; rw [if_neg (by omega)]
  | succ m ih =>
   intro m' n h0 h0'
   cases m' with
   | zero => simp only [impl_parseField.steps]; rw [if_neg (by omega)]
   | succ m' =>
    simp only [impl_parseField.steps]
    by_cases hn : n ≤ b
    ·rw [if_pos hn, if_pos hn, ih m' (n + s) (by omega) (by omega)]
    ·rw [if_neg hn, if_neg hn]
 unfold impl_parseField.nums
 obtain ⟨m, hm⟩ : ∃ m, (b - a + 1).toNat = m + 1 := ⟨(b - a).toNat, by omega⟩
 rw [hm]
 show (if a ≤ b then a :: impl_parseField.steps m (a + s) b s else []) = _
 rw [if_pos h, key m _ (a + s) (by omega) (Nat.le_refl _)]
theorem impl_parseField.nums_end (a b s : Int) (h : ¬ a ≤ b) : impl_parseField.nums a b s = [] := by
 unfold impl_parseField.nums
 rw [show (b - a + 1).toNat = 0 by omega]
 rfl
theorem impl_parseField.info3 : (Tryz.prog.info? 3).map (fun i => (i.zero, i.size, i.bytes)) = some (some (.int .i64 0), 1, 8) := by kernel_rfl
/-- a row of numbers of the call's own whose capacity may be told less than its memory -/
def Kq.R (w : World) (base : Nat) (ok : Nat → Prop) (v : Value) (xs : List Int) : Prop :=
 (v = .slice none 0 0 ∧ xs = []) ∨ ∃ g cap c, v = .slice (some ⟨g, 0, none⟩) xs.length c ∧ xs.length ≤ c ∧ c ≤ cap ∧ Kd.R (Kd.int .i64) 3 w base ok (.slice (some ⟨g, 0, none⟩) xs.length cap) xs
theorem impl_parseField.clip (g n cap : Nat) (h : n ≤ cap) (hm : cap ≤ 9223372036854775807) (w : World) : Calls Tryz.prog 41 #[.slice (some ⟨g, 0, none⟩) n cap] w fun e w' => e = .returned (.slice (some ⟨g, 0, none⟩) n n) ∧ Below w.heap.size w w' := by
 go_enter Tryz.func41, Tryz.ntmps41
 go_wp2
 go_ret
 exact ⟨rfl, Below.refl _ _⟩
def impl_parseField.srt (zs : List Int) : List Int := zs.mergeSort fun x y => decide (x ≤ y)
theorem impl_parseField.below_grow (w0 w : World) (h : Below w0.heap.size w0 w) (os : Array Obj) : Below w0.heap.size w0 (Sort.grow w os) :=
 ⟨h.os, h.tape, h.output, Nat.le_trans h.size (by simp [Sort.grow]), fun k hk => by
  rw [← h.block k hk]
  show (w.heap ++ os)[k]? = _
  rw [Array.getElem?_append_left (Nat.lt_of_lt_of_le hk h.size)]⟩
theorem impl_parseField.row_form (w : World) (base : Nat) (v : Value) (zs : List Int) (h : Kd.R (Kd.int .i64) 3 w base (fun _ => True) v zs) (hz : zs.length ≠ 0) :
 ∃ g cap, v = .slice (some ⟨g, 0, none⟩) zs.length cap ∧ base ≤ g ∧ g < w.heap.size ∧ zs.length ≤ cap ∧ cap ≤ maxLen ∧ Sort.Holds (Value.int .i64) w g 0 zs.toArray ∧ w.ownsRow base 3 1 (.slice (some ⟨g, 0, none⟩) zs.length cap) zs.length (zs.map (Value.int .i64)) := by
 have ho : w.ownsRow base 3 1 v zs.length (zs.map (Value.int .i64)) := Kd.own_of_R h
 obtain ⟨g, cap, rfl, hg, hlt, hn, hm, _, hH⟩ := Lib.holds_of_ownsRow (enc := Value.int .i64) ho (fun hv => by
  rcases ho.2 with ⟨_, h0⟩ | ⟨g, cap, cur, hv2, _⟩
  ·exact hz h0
  ·rw [hv] at hv2
   cases hv2)
 exact ⟨g, cap, rfl, hg, hlt, hn, hm, hH, ho⟩
theorem impl_parseField.sort (w0 w : World) (hb : Below w0.heap.size w0 w) (v : Value) (zs : List Int) (h : Kd.R (Kd.int .i64) 3 w w0.heap.size (fun _ => True) v zs) (hz : zs.length ≠ 0) (hs : zs.length ≤ 2000000000000) :
 Calls Tryz.prog 40 #[v] w fun e w' => e = .returned (.tuple #[]) ∧ Kd.R (Kd.int .i64) 3 w' w0.heap.size (fun _ => True) v (impl_parseField.srt zs) ∧ Below w0.heap.size w0 w' := by
 obtain ⟨g, cap, rfl, hg, hlt, hn, hm, hH, ho⟩ := impl_parseField.row_form w _ v zs h hz
 refine (Tryz.slices_Sort_int g 0 cap zs w hH hlt (by omega)).mono ?_
 rintro e w' ⟨rfl, n, os, rfl⟩
 have hl : (impl_parseField.srt zs).length = zs.length := List.length_mergeSort _
 have h1 := Lib.ownsRow_putRow (q := n) (k := zs.length) (ys := impl_parseField.srt zs) ho hl (Nat.le_refl _)
 rw [← hl, List.take_length, hl] at h1
 refine ⟨rfl, Kd.R_of_own ?_ (fun _ _ => trivial), impl_parseField.below_grow _ _ (Lib.below_putRow hb hg) os⟩
 rw [hl]
 refine own_move h1 (fun k hk => ?_)
 obtain rfl : g = k := by simpa [Value.ownBlock] using hk
 show (_ ++ os)[g]? = _
 exact Array.getElem?_append_left (by simpa [Sort.putRow, Sort.mapBlock, Sort.ahead] using hlt)
theorem impl_parseField.compact_le (zs : List Int) : (Lib.compact zs).length ≤ zs.length := by
 unfold Lib.compact Lib.compactUpTo
 rw [List.length_map]
 exact Nat.le_trans (List.length_filter_le _ _) (by simp)
theorem impl_parseField.compact (w0 w : World) (hb : Below w0.heap.size w0 w) (v : Value) (zs : List Int) (h : Kd.R (Kd.int .i64) 3 w w0.heap.size (fun _ => True) v zs) (hz : zs.length ≠ 0) (hs : zs.length ≤ 2000000000000) :
 Calls Tryz.prog 42 #[v] w fun e w' => ∃ g cap, e = .returned (.slice (some ⟨g, 0, none⟩) (Lib.compact zs).length cap) ∧ (Lib.compact zs).length ≤ cap ∧ cap ≤ maxLen ∧ Kd.R (Kd.int .i64) 3 w' w0.heap.size (fun _ => True) (.slice (some ⟨g, 0, none⟩) (Lib.compact zs).length cap) (Lib.compact zs) ∧ Below w0.heap.size w0 w' := by
 obtain ⟨g, cap, rfl, hg, hlt, hn, hm, hH, ho⟩ := impl_parseField.row_form w _ v zs h hz
 refine (Tryz.slices_Compact_int g 0 cap zs w hH (by omega) hn).mono ?_
 rintro e w' ⟨rfl, n, rfl⟩
 have hle := impl_parseField.compact_le zs
 have h1 := Lib.ownsRow_putRow (q := n) (k := (Lib.compact zs).length) (ys := Lib.compact zs ++ List.replicate (zs.length - (Lib.compact zs).length) 0) ho (by rw [List.length_append, List.length_replicate]; omega) hle
 rw [List.take_left] at h1
 exact ⟨g, cap, rfl, by omega, hm, Kd.R_of_own h1 (fun _ _ => trivial), Lib.below_putRow hb hg⟩
theorem impl_parseField.go_at (k : Nat) (lo hi : Int) (ps : List ByteArray) (i : Nat) (hi2 : i < ps.length) (acc : List Int) (o : Option (List Int)) (h : impl_parseField.go k lo hi (ps.drop i) acc = some o) :
 ∃ t, impl_pieceOf.f k (rdOf ByteArray.empty ps (i : Int)) lo hi = some t ∧ ((t.2.2.2 = false ∧ o = none) ∨ (t.2.2.2 = true ∧ impl_parseField.fine t acc = true ∧ impl_parseField.go k lo hi (ps.drop (i + 1)) (acc ++ impl_parseField.nums t.1 t.2.1 t.2.2.1) = some o)) := by
 rw [List.drop_eq_getElem_cons hi2] at h
 unfold impl_parseField.go at h
 obtain ⟨t, ht, h⟩ := Option.bind_eq_some_iff.mp h
 have e : rdOf ByteArray.empty ps (i : Int) = ps[i] := by
  show ps.getD i ByteArray.empty = _
  rw [List.getD_eq_getElem?_getD, List.getElem?_eq_getElem hi2]
  rfl
 refine ⟨t, by rw [e]; exact ht, ?_⟩
 by_cases ho : t.2.2.2 = true
 ·rw [if_pos ho] at h
  by_cases hf : impl_parseField.fine t acc = true
  ·rw [if_pos hf] at h
   exact .inr ⟨ho, hf, h⟩
  ·rw [if_neg hf] at h
   cases h
 ·rw [if_neg ho] at h
  exact .inl ⟨by simpa using ho, (Option.some.inj h).symm⟩
theorem impl_parseField.fine_at {a b s : Int} {ok : Bool} {acc : List Int} (h : impl_parseField.fine (a, b, s, ok) acc = true) : 0 ≤ a ∧ a ≤ 1000 ∧ b < 100 ∧ 1 ≤ s ∧ s ≤ 1099511627776 ∧ acc.length ≤ 1000000000000 := by
 unfold impl_parseField.fine at h
 simp only [Bool.and_eq_true, decide_eq_true_eq] at h
 omega
set_option maxHeartbeats 8000000 in
set_option maxRecDepth 100000 in
theorem impl_parseField.calls (k : Nat) (a0 : ByteArray) (a1 : Int) (r1 : List Int) (r2 : Bool) (w : World) (h : impl_parseField.f k a0 a1 = some (r1, r2)) (htab : Cx.Ok w) :
 Calls Tryz.prog 22 #[.string a0, .int .i64 a1] w fun e w' => ∃ v0_ : Value, e = .returned (.tuple #[v0_, .bool r2]) ∧ Kq.R w' w.heap.size (fun _ => True) v0_ r1 ∧ Below w.heap.size w w' := by
 have HT := aM htab
 obtain ⟨⟨lo, hi⟩, hb, H⟩ := Option.bind_eq_some_iff.mp h
 obtain ⟨ps, hps, H⟩ := Option.bind_eq_some_iff.mp H
 obtain ⟨o, hgo, H⟩ := Option.bind_eq_some_iff.mp H
 have HBD := aM hb
 have HPS := aM hps
 have HGO := aM hgo
 have HF := aM H
 clear h htab hb hps hgo H
 go_enter Tryz.func22, Tryz.ntmps22
 go_wp2_with (first | (go_at_call 23; refine (impl_bounds.calls a1 lo hi _ HBD.out).mono ?_; rintro e w1 ⟨rfl, hd1⟩; have HB1 := aM (show Below w.heap.size w w1 by obtain ⟨n, rfl⟩ := hd1; exact ⟨rfl, rfl, rfl, Nat.le_refl _, fun _ _ => rfl⟩); clear hd1) | (go_at_call 38; refine (strings_Split.calls a0 (⟨#[44]⟩ : ByteArray) ps _ HPS.out (Cx.on HT.out HB1.out)).mono ?_; rintro e w2 ⟨vS, rfl, hR2, hb2⟩; have HB2 := aM (below_step HB1.out hb2); have HR2 := aM hR2; clear hb2 hR2; obtain ⟨A, c, eA⟩ := Kd.R_slice HR2.out; subst eA))
 have HS := aM (Kd.R_reads' HR2.out).2.2
 have HTB := aM (Cx.on HT.out HB2.out)
 have HL := aM (Kd.R_reads' HR2.out).2.1
 clear HR2 HB1 HT HBD HPS
 go_loopw [8, 24] (fun v8 v24 wr => ∃ (i : Nat) (acc : List Int), i ≤ ps.length ∧ v24 = .int .i64 (i : Int) ∧ Aside0 (Kd.R (Kd.int .i64) 3 wr w2.heap.size (fun _ => True) v8 acc) ∧ Aside0 (Below w2.heap.size w2 wr) ∧ Aside0 (impl_parseField.go k lo hi (ps.drop i) acc = some o) ∧ Aside0 (acc.length ≤ 1000000000200)) (fun v8 v24 wr => ps.length - (intOf v24).toNat)
 case atStart => exact ⟨0, [], Nat.zero_le _, rfl, ⟨Kd.R_nil _ _ _ _ _⟩, ⟨Below.refl _ _⟩, ⟨HGO.out⟩, ⟨by simp⟩⟩
 case round =>
  clear HGO
  obtain ⟨i, acc, hi2, rfl, HA, HW, HG, HN⟩ := hrel
  obtain ⟨wo, rfl⟩ : ∃ z, z = wr := ⟨_, rfl⟩
  have hlen : (ps.length : Int) ≤ 9223372036854775807 := by have := HS.out.2.1; omega
  by_cases hlt : i < ps.length
  ·obtain ⟨ad, eA, hxx⟩ := Kd.at_string (Kd.C_below HS.out HW.out) (i : Int) (by omega) (by omega)
   subst eA
   obtain ⟨⟨a, b, s, ok⟩, hp, hcase⟩ := impl_parseField.go_at k lo hi ps i hlt acc o HG.out
   obtain ⟨x, hxv⟩ : ∃ x, x = rdOf ByteArray.empty ps (i : Int) := ⟨_, rfl⟩
   have hx : wo.cell? (ad.add i) = some (.string x) := by rw [hxv]; exact hxx
   rw [← hxv] at hp
   have HP := aM hp
   clear hxx hxv hp
   have c1 : decide ((i : Int) < (ps.length : Int)) = true := decide_eq_true (by omega)
   have p1 : (0 ≤ (i : Int)) = True := eq_true (by omega)
   have q1 : ((i : Int) < (ps.length : Int)) = True := eq_true (by omega)
   rcases hcase with ⟨ho, hno⟩ | ⟨ho, hf, hg⟩
   ·obtain rfl : ok = false := ho
    have HF2 := aM (show ([] : List Int) = r1 ∧ false = r2 by have := HF.out; rw [hno] at this; simpa [impl_parseField.fin] using this)
    clear hno HG HF HN
    go_wp2_with (first | (go_at_call 39; refine (impl_pieceOf.calls k x lo hi a b s false _ HP.out (Cx.on HTB.out HW.out)).mono ?_; rintro e w5 ⟨rfl, hb5⟩; have HW5 := aM (below_step HW.out hb5); clear hb5))
    go_ret2
    obtain ⟨rfl, rfl⟩ := HF2.out
    exact ⟨_, rfl, .inl ⟨rfl, rfl⟩, below_step HB2.out HW5.out⟩
   ·obtain rfl : ok = true := ho
    obtain ⟨f1, f1b, f2, f3, f4, f5⟩ := impl_parseField.fine_at hf
    have HG2 := aM hg
    have HNA := aM f5
    clear hg hf HG HN f5
    go_wp2_with (first | (go_at_call 39; refine (impl_pieceOf.calls k x lo hi a b s true _ HP.out (Cx.on HTB.out HW.out)).mono ?_; rintro e w5 ⟨rfl, hb5⟩; have HW5 := aM (below_step HW.out hb5); have HA5 := aM (Kd.R_below HA.out hb5); clear hb5))
    clear HA HW HP hx
    go_loopw [8, 15] (fun v8 v15 wr => ∃ (n : Int) (acc2 : List Int), 0 ≤ n ∧ n ≤ 1099511627976 ∧ v15 = .int .i64 n ∧ Aside0 (Kd.R (Kd.int .i64) 3 wr w2.heap.size (fun _ => True) v8 acc2) ∧ Aside0 (Below w2.heap.size w2 wr) ∧ Aside0 (acc2 ++ impl_parseField.nums n b s = acc ++ impl_parseField.nums a b s)) (fun v8 v15 wr => (b + 1 - intOf v15).toNat)
    case atStart => exact ⟨a, acc, f1, by omega, rfl, HA5, HW5, ⟨rfl⟩⟩
    case round =>
     obtain ⟨n, acc2, hn0, hn1, rfl, HL2, HW2, HE⟩ := hrel
     by_cases hnb : n ≤ b
     ·have HE2 := aM (show (acc2 ++ [n]) ++ impl_parseField.nums (n + s) b s = acc ++ impl_parseField.nums a b s by
       rw [← HE.out, impl_parseField.nums_at n b s f3 hnb, List.append_assoc]
       rfl)
      have HNN := aM (show (acc2.length + 1) * 8 ≤ 140737488355328 by
       have h1 := congrArg List.length HE.out
       rw [List.length_append, List.length_append] at h1
       have h2 := impl_parseField.steps_le b s f3 (b - a + 1).toNat a
       have h3 := HNA.out
       have h4 : (impl_parseField.nums a b s).length ≤ (b - a + 1).toNat := h2
       omega)
      have c2 : decide (n ≤ b) = true := decide_eq_true hnb
      have hn2 : n < 100 := by omega
      have ns : n + s ≤ 9223372036854775807 := by omega
      go_wp2_with (first | ((with_reducible refine gate_builtin (b := .append) (xs := #[.tmp 46, .tmp 48]) rfl ?_); at_builtin; refine Kd.R_append (Kd.int .i64) (w0 := w2) w2.heap.size rfl (.tmp 46) (.tmp 48) 24 3 (.int .i64 0) 8 rfl Tryz.underlying24 impl_parseField.info3 rfl (by decide) (by omega) _ acc2 n [.int .i64 n] (fun _ => True) (fun _ => False) rfl rfl ?aP (fun _ hk => hk.elim) ?aF ?aO ?aB ?aS HNN.out ?_; (case aP => exact rfl); (case aB => exact (uL HW2)); (case aF => exact fun _ _ => trivial); (case aO => exact (uR HL2)); (case aS => exact (show w2.heap.size ≤ _ from HW2.out.size)); intro v6 w6 ho hb hg hat; have HL6 := aM ho; have HW6 := aM hb; clear ho hb hg hat))
      refine ⟨⟨n + s, acc2 ++ [n], by omega, by omega, rfl, HL6, HW6, HE2⟩, ?_⟩
      simp only [intOf]
      omega
     ·have HE2 := aM (show acc2 = acc ++ impl_parseField.nums a b s by rw [← HE.out, impl_parseField.nums_end n b s hnb, List.append_nil])
      have HN3 := aM (show acc2.length ≤ 1000000000200 by
       have h1 := congrArg List.length HE2.out
       rw [List.length_append] at h1
       have h2 : (impl_parseField.nums a b s).length ≤ (b - a + 1).toNat := impl_parseField.steps_le b s f3 (b - a + 1).toNat a
       have h3 := HNA.out
       omega)
      have HG3 := aM (show impl_parseField.go k lo hi (ps.drop (i + 1)) acc2 = some o by rw [HE2.out]; exact HG2.out)
      have c2 : decide (n ≤ b) = false := decide_eq_false hnb
      go_wp2
      refine ⟨⟨i + 1, acc2, by omega, by rw [show (i : Int) + 1 = ((i + 1 : Nat) : Int) by omega], HL2, HW2, HG3, HN3⟩, ?_⟩
      simp only [intOf]
      omega
  ·obtain rfl : i = ps.length := by omega
   have hno : some (some acc) = some o := by have := HG.out; rwa [List.drop_length] at this
   obtain rfl : some acc = o := Option.some.inj hno
   clear hno
   have hfin := HF.out
   unfold impl_parseField.fin at hfin
   by_cases hz : acc.length = 0
   case pos => rw [show (match some acc with | none => some ([], false) | some l => if l.length = 0 then none else some (Lib.compact (l.mergeSort fun x y => decide (x ≤ y)), true)) = (none : Option (List Int × Bool)) from if_pos hz] at hfin; cases hfin
   have HF2 := aM (show Lib.compact (impl_parseField.srt acc) = r1 ∧ true = r2 by
    have := (show some (Lib.compact (impl_parseField.srt acc), true) = some (r1, r2) from (if_neg hz).symm.trans hfin)
    simpa using this)
   have hz2 := aM hz
   have HL3 := aM (show (impl_parseField.srt acc).length = acc.length from List.length_mergeSort _)
   clear hfin hz HF HG
   have c1 : decide ((ps.length : Int) < (ps.length : Int)) = false := decide_eq_false (by omega)
   go_wp2_with (first | (go_at_call 40; refine (impl_parseField.sort w2 _ HW.out _ acc HA.out hz2.out (by have := HN.out; omega)).mono ?_; rintro e w6 ⟨rfl, hR6, hb6⟩; have HR6 := aM hR6; have HW6 := aM hb6; clear hR6 hb6) | (go_at_call 42; refine (impl_parseField.compact w2 _ HW6.out _ (impl_parseField.srt acc) HR6.out (by rw [HL3.out]; exact hz2.out) (by have := HL3.out; have := HN.out; omega)).mono ?_; rintro e w7 ⟨g, cap, rfl, hc7, hm7, hR7, hb7⟩; have HC7 := aM hc7; have HM7 := aM hm7; have HR7 := aM hR7; have HW7 := aM hb7; clear hc7 hm7 hR7 hb7) | (go_at_call 41; refine (impl_parseField.clip _ _ _ HC7.out HM7.out _).mono ?_; rintro e w8 ⟨rfl, hb8⟩; have HR8 := aM (Kd.R_below HR7.out hb8); have HW8 := aM (below_step HW7.out hb8); clear hb8))
   go_ret2
   obtain ⟨rfl, rfl⟩ := HF2.out
   exact ⟨_, rfl, .inr ⟨_, _, _, rfl, Nat.le_refl _, HC7.out, Kd.R_lower HR8.out HB2.out.size⟩, below_step HB2.out HW8.out⟩
theorem impl_parseField.go_mono (k : Nat) (lo hi : Int) : ∀ (ps : List ByteArray) (acc : List Int), LeO (impl_parseField.go k lo hi ps acc) (impl_parseField.go (k + 1) lo hi ps acc)
 | [], _ => LeO.refl _
 | p :: ps, acc => by
  unfold impl_parseField.go
  refine LeO.bind (impl_pieceOf.mono _ _ _ _) (fun t => LeO.ite (LeO.ite (impl_parseField.go_mono k lo hi ps _) (LeO.refl _)) (LeO.refl _))
theorem impl_parseField.mono : ∀ a0 a1 k, LeO (impl_parseField.f k a0 a1) (impl_parseField.f (k + 1) a0 a1) := by
 intro a0 a1 k
 unfold impl_parseField.f
 exact LeO.bind (LeO.refl _) (fun b => LeO.bind (LeO.refl _) (fun ps => LeO.bind (impl_parseField.go_mono k _ _ ps []) (fun _ => LeO.refl _)))

end Go.Proofs.YthomiofokkkhgaaGreatDoor.QFnRules
