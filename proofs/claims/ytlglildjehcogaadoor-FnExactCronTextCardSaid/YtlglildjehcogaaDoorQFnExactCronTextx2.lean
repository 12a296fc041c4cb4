-- Own work (wip/turnprint.py over the kit's print).
import Derived.Test.YtlglildjehcogaaDoorQFnExactCronTextx0
import Derived.Test.YtlglildjehcogaaDoorQFnExactCronTextx1
namespace Go.Proofs.YtlglildjehcogaaDoor.QFnExactCronText
open Go.RowKit Go.Proofs.YtlglildjehcogaaDoorW.PrintWords Go.Proofs.YtlglildjehcogaaDoorW.PrintLast Go.Proofs.YtlglildjehcogaaDoorW.PrintMore
attribute [local go_sem] max2_int min2_int max_two min_two max_three min_three max_four min_four   -- for this text's walks alone
set_option linter.unusedVariables false
set_option linter.unusedSimpArgs false

/-! ### spec_CronText: function 5 -/
def spec_CronText.f (k : Nat) (l0_0 : List Int) (l0_1 : List Int) (l0_2 : List Int) (l0_3 : List Int) (l0_4 : List Int) : Option (ByteArray × Bool) := (spec_CronOk.f k l0_0 l0_1 l0_2 l0_3 l0_4).bind fun t130 => (if t130 = true then ((spec_l10Show.f k l0_0 60).bind fun t131 => (if t131.size + 1 ≤ 9223372036854775807 then ((spec_l10Show.f k l0_1 24).bind fun t132 => (if (t131 ++ (⟨#[32]⟩ : ByteArray)).size + t132.size ≤ 9223372036854775807 then (if ((t131 ++ (⟨#[32]⟩ : ByteArray)) ++ t132).size + 1 ≤ 9223372036854775807 then ((spec_l10Show.f k l0_2 31).bind fun t133 => (if (((t131 ++ (⟨#[32]⟩ : ByteArray)) ++ t132) ++ (⟨#[32]⟩ : ByteArray)).size + t133.size ≤ 9223372036854775807 then (if ((((t131 ++ (⟨#[32]⟩ : ByteArray)) ++ t132) ++ (⟨#[32]⟩ : ByteArray)) ++ t133).size + 1 ≤ 9223372036854775807 then ((spec_l10Show.f k l0_3 12).bind fun t134 => (if (((((t131 ++ (⟨#[32]⟩ : ByteArray)) ++ t132) ++ (⟨#[32]⟩ : ByteArray)) ++ t133) ++ (⟨#[32]⟩ : ByteArray)).size + t134.size ≤ 9223372036854775807 then (if ((((((t131 ++ (⟨#[32]⟩ : ByteArray)) ++ t132) ++ (⟨#[32]⟩ : ByteArray)) ++ t133) ++ (⟨#[32]⟩ : ByteArray)) ++ t134).size + 1 ≤ 9223372036854775807 then ((spec_l10Show.f k l0_4 7).bind fun t135 => (if (((((((t131 ++ (⟨#[32]⟩ : ByteArray)) ++ t132) ++ (⟨#[32]⟩ : ByteArray)) ++ t133) ++ (⟨#[32]⟩ : ByteArray)) ++ t134) ++ (⟨#[32]⟩ : ByteArray)).size + t135.size ≤ 9223372036854775807 then (some ((((((((t131 ++ (⟨#[32]⟩ : ByteArray)) ++ t132) ++ (⟨#[32]⟩ : ByteArray)) ++ t133) ++ (⟨#[32]⟩ : ByteArray)) ++ t134) ++ (⟨#[32]⟩ : ByteArray)) ++ t135, true)) else (none))) else (none)) else (none))) else (none)) else (none))) else (none)) else (none))) else (none))) else (some ((⟨#[]⟩ : ByteArray), false)))
theorem spec_CronText.mono : ∀ a0 a1 a2 a3 a4 k, LeO (spec_CronText.f k a0 a1 a2 a3 a4) (spec_CronText.f (k + 1) a0 a1 a2 a3 a4) := by
 intro a0 a1 a2 a3 a4 k
 unfold spec_CronText.f
 repeat' first
  | (with_reducible exact spec_CronOk.mono _ _ _ _ _ _)
  | (with_reducible exact spec_l10Show.mono _ _ _)
  | (with_reducible exact LeO.refl _)
  | (with_reducible exact LeO.none _)
  | (with_reducible refine LeO.ite ?_ ?_)
  | (with_reducible refine LeO.bind ?_ (fun _ => ?_))
  | exact spec_CronOk.mono _ _ _ _ _ _
  | exact spec_l10Show.mono _ _ _
  | exact LeO.none _
  | refine LeO.ite ?_ ?_
  | refine LeO.bind ?_ (fun _ => ?_)
def spec_CronText.T3 : Bool × List (List Nat × List Nat) := (true, [([], []), ([0], [0]), ([1], [1]), ([2], [2]), ([], []), ([4], [4]), ([5, 2], [5]), ([3, 6], [3, 6]), ([7], [7]), ([], []), ([9], [9]), ([10, 6], [10]), ([8, 11], [8, 11]), ([12], [12]), ([], []), ([14], [14]), ([15, 11], [15]), ([13, 16], [13, 16]), ([17], [17]), ([], []), ([19], [19]), ([20, 16], [20]), ([18, 21], [18, 21]), ([22, 21, 0, 1, 2, 3, 4, 5, 6, 7, 8, 9, 10, 11, 12, 13, 14, 15, 16, 17, 18, 19, 20, 21, 22], [22]), ([23, 0, 1, 2, 3, 4, 5, 6, 7, 8, 9, 10, 11, 12, 13, 14, 15, 16, 17, 18, 19, 20, 21, 22, 23], [])])
def spec_CronText.B3 : List Nat := [0, 1, 3, 7, 0, 16, 55, 127, 255, 0, 512, 1655, 4095, 8191, 0, 16384, 52855, 131071, 262143, 0, 524288, 1691255, 4194303, 8388607, 16777215]
theorem spec_CronText.tab3 : rtab .any (opsOf Tryd.f5 3) = spec_CronText.T3 := by kernel_rfl
theorem spec_CronText.bits3 : waitsOk spec_CronText.T3.2 spec_CronText.B3 = true := by kernel_rfl
set_option maxHeartbeats 8000000 in
set_option maxRecDepth 100000 in
theorem spec_CronText.calls (k : Nat) (A0_0 : Option Addr) (c0_0 : Nat) (l0_0 : List Int) (A0_1 : Option Addr) (c0_1 : Nat) (l0_1 : List Int) (A0_2 : Option Addr) (c0_2 : Nat) (l0_2 : List Int) (A0_3 : Option Addr) (c0_3 : Nat) (l0_3 : List Int) (A0_4 : Option Addr) (c0_4 : Nat) (l0_4 : List Int) (r1 : ByteArray) (r2 : Bool) (w : World) (hr0_0 : Kd.C (Kd.int .i64) w A0_0 l0_0.length l0_0) (hc0_0 : l0_0.length ≤ c0_0) (hr0_1 : Kd.C (Kd.int .i64) w A0_1 l0_1.length l0_1) (hc0_1 : l0_1.length ≤ c0_1) (hr0_2 : Kd.C (Kd.int .i64) w A0_2 l0_2.length l0_2) (hc0_2 : l0_2.length ≤ c0_2) (hr0_3 : Kd.C (Kd.int .i64) w A0_3 l0_3.length l0_3) (hc0_3 : l0_3.length ≤ c0_3) (hr0_4 : Kd.C (Kd.int .i64) w A0_4 l0_4.length l0_4) (hc0_4 : l0_4.length ≤ c0_4) (h : spec_CronText.f k l0_0 l0_1 l0_2 l0_3 l0_4 = some (r1, r2)) :
 Calls Tryd.prog 5 #[.agg #[.slice A0_0 l0_0.length c0_0, .slice A0_1 l0_1.length c0_1, .slice A0_2 l0_2.length c0_2, .slice A0_3 l0_3.length c0_3, .slice A0_4 l0_4.length c0_4]] w fun e w' => e = .returned (.tuple #[.string r1, .bool r2]) ∧ Below w.heap.size w w' := by
 have hu28 := Tryd.underlying28
 have HR0_0 := aM hr0_0
 have HC0_0 := aM hc0_0
 clear hr0_0 hc0_0
 have HR0_1 := aM hr0_1
 have HC0_1 := aM hc0_1
 clear hr0_1 hc0_1
 have HR0_2 := aM hr0_2
 have HC0_2 := aM hc0_2
 clear hr0_2 hc0_2
 have HR0_3 := aM hr0_3
 have HC0_3 := aM hc0_3
 clear hr0_3 hc0_3
 have HR0_4 := aM hr0_4
 have HC0_4 := aM hc0_4
 clear hr0_4 hc0_4
 have HB := aM (Below.refl w.heap.size w)
 have H : ((spec_CronOk.f k l0_0 l0_1 l0_2 l0_3 l0_4).bind fun t130 => (if t130 = true then ((spec_l10Show.f k l0_0 60).bind fun t131 => (if t131.size + 1 ≤ 9223372036854775807 then ((spec_l10Show.f k l0_1 24).bind fun t132 => (if (t131 ++ (⟨#[32]⟩ : ByteArray)).size + t132.size ≤ 9223372036854775807 then (if ((t131 ++ (⟨#[32]⟩ : ByteArray)) ++ t132).size + 1 ≤ 9223372036854775807 then ((spec_l10Show.f k l0_2 31).bind fun t133 => (if (((t131 ++ (⟨#[32]⟩ : ByteArray)) ++ t132) ++ (⟨#[32]⟩ : ByteArray)).size + t133.size ≤ 9223372036854775807 then (if ((((t131 ++ (⟨#[32]⟩ : ByteArray)) ++ t132) ++ (⟨#[32]⟩ : ByteArray)) ++ t133).size + 1 ≤ 9223372036854775807 then ((spec_l10Show.f k l0_3 12).bind fun t134 => (if (((((t131 ++ (⟨#[32]⟩ : ByteArray)) ++ t132) ++ (⟨#[32]⟩ : ByteArray)) ++ t133) ++ (⟨#[32]⟩ : ByteArray)).size + t134.size ≤ 9223372036854775807 then (if ((((((t131 ++ (⟨#[32]⟩ : ByteArray)) ++ t132) ++ (⟨#[32]⟩ : ByteArray)) ++ t133) ++ (⟨#[32]⟩ : ByteArray)) ++ t134).size + 1 ≤ 9223372036854775807 then ((spec_l10Show.f k l0_4 7).bind fun t135 => (if (((((((t131 ++ (⟨#[32]⟩ : ByteArray)) ++ t132) ++ (⟨#[32]⟩ : ByteArray)) ++ t133) ++ (⟨#[32]⟩ : ByteArray)) ++ t134) ++ (⟨#[32]⟩ : ByteArray)).size + t135.size ≤ 9223372036854775807 then (some ((((((((t131 ++ (⟨#[32]⟩ : ByteArray)) ++ t132) ++ (⟨#[32]⟩ : ByteArray)) ++ t133) ++ (⟨#[32]⟩ : ByteArray)) ++ t134) ++ (⟨#[32]⟩ : ByteArray)) ++ t135, true)) else (none))) else (none)) else (none))) else (none)) else (none))) else (none)) else (none))) else (none))) else (some ((⟨#[]⟩ : ByteArray), false)))) = some (r1, r2) := h
 clear h
 replace H := Option.bind_eq_some_iff.mp H
 obtain ⟨t130, A20, H⟩ := H
 try dsimp only at H
 have A2 := aM A20
 clear A20
 by_cases c3 : t130 = true
 ·subst c3
  rw [if_pos rfl] at H
  replace H := Option.bind_eq_some_iff.mp H
  obtain ⟨t131, A40, H⟩ := H
  try dsimp only at H
  have A4 := aM A40
  clear A40
  by_cases c5 : t131.size + 1 ≤ 9223372036854775807
  ·rw [if_pos c5] at H
   have c5b0 := eq_true c5
   have c5b1 : decide (t131.size + 1 ≤ 9223372036854775807) = true := decide_eq_true c5
   try have c5b2 : (9223372036854775807 < t131.size + 1) = False := eq_false (Nat.not_lt.2 c5)
   replace H := Option.bind_eq_some_iff.mp H
   obtain ⟨t132, A60, H⟩ := H
   try dsimp only at H
   have A6 := aM A60
   clear A60
   by_cases c7 : (t131 ++ (⟨#[32]⟩ : ByteArray)).size + t132.size ≤ 9223372036854775807
   ·rw [if_pos c7] at H
    have c7b0 := eq_true c7
    have c7b1 : decide ((t131 ++ (⟨#[32]⟩ : ByteArray)).size + t132.size ≤ 9223372036854775807) = true := decide_eq_true c7
    try have c7b2 : (9223372036854775807 < (t131 ++ (⟨#[32]⟩ : ByteArray)).size + t132.size) = False := eq_false (Nat.not_lt.2 c7)
    try have c7b3 : (9223372036854775807 < t131.size + 1 + t132.size) = False := eq_false (Nat.not_lt.2 (by have h_ := c7; simp only [ByteArray.size_append] at h_; exact h_))
    by_cases c8 : ((t131 ++ (⟨#[32]⟩ : ByteArray)) ++ t132).size + 1 ≤ 9223372036854775807
    ·rw [if_pos c8] at H
     have c8b0 := eq_true c8
     have c8b1 : decide (((t131 ++ (⟨#[32]⟩ : ByteArray)) ++ t132).size + 1 ≤ 9223372036854775807) = true := decide_eq_true c8
     try have c8b2 : (9223372036854775807 < ((t131 ++ (⟨#[32]⟩ : ByteArray)) ++ t132).size + 1) = False := eq_false (Nat.not_lt.2 c8)
     try have c8b3 : (9223372036854775807 < t131.size + 1 + t132.size + 1) = False := eq_false (Nat.not_lt.2 (by have h_ := c8; simp only [ByteArray.size_append] at h_; exact h_))
     replace H := Option.bind_eq_some_iff.mp H
     obtain ⟨t133, A90, H⟩ := H
     try dsimp only at H
     have A9 := aM A90
     clear A90
     by_cases c10 : (((t131 ++ (⟨#[32]⟩ : ByteArray)) ++ t132) ++ (⟨#[32]⟩ : ByteArray)).size + t133.size ≤ 9223372036854775807
     ·rw [if_pos c10] at H
      have c10b0 := eq_true c10
      have c10b1 : decide ((((t131 ++ (⟨#[32]⟩ : ByteArray)) ++ t132) ++ (⟨#[32]⟩ : ByteArray)).size + t133.size ≤ 9223372036854775807) = true := decide_eq_true c10
      try have c10b2 : (9223372036854775807 < (((t131 ++ (⟨#[32]⟩ : ByteArray)) ++ t132) ++ (⟨#[32]⟩ : ByteArray)).size + t133.size) = False := eq_false (Nat.not_lt.2 c10)
      try have c10b3 : (9223372036854775807 < t131.size + 1 + t132.size + 1 + t133.size) = False := eq_false (Nat.not_lt.2 (by have h_ := c10; simp only [ByteArray.size_append] at h_; exact h_))
      by_cases c11 : ((((t131 ++ (⟨#[32]⟩ : ByteArray)) ++ t132) ++ (⟨#[32]⟩ : ByteArray)) ++ t133).size + 1 ≤ 9223372036854775807
      ·rw [if_pos c11] at H
       have c11b0 := eq_true c11
       have c11b1 : decide (((((t131 ++ (⟨#[32]⟩ : ByteArray)) ++ t132) ++ (⟨#[32]⟩ : ByteArray)) ++ t133).size + 1 ≤ 9223372036854775807) = true := decide_eq_true c11
       try have c11b2 : (9223372036854775807 < ((((t131 ++ (⟨#[32]⟩ : ByteArray)) ++ t132) ++ (⟨#[32]⟩ : ByteArray)) ++ t133).size + 1) = False := eq_false (Nat.not_lt.2 c11)
       try have c11b3 : (9223372036854775807 < t131.size + 1 + t132.size + 1 + t133.size + 1) = False := eq_false (Nat.not_lt.2 (by have h_ := c11; simp only [ByteArray.size_append] at h_; exact h_))
       replace H := Option.bind_eq_some_iff.mp H
       obtain ⟨t134, A120, H⟩ := H
       try dsimp only at H
       have A12 := aM A120
       clear A120
       by_cases c13 : (((((t131 ++ (⟨#[32]⟩ : ByteArray)) ++ t132) ++ (⟨#[32]⟩ : ByteArray)) ++ t133) ++ (⟨#[32]⟩ : ByteArray)).size + t134.size ≤ 9223372036854775807
       ·rw [if_pos c13] at H
        have c13b0 := eq_true c13
        have c13b1 : decide ((((((t131 ++ (⟨#[32]⟩ : ByteArray)) ++ t132) ++ (⟨#[32]⟩ : ByteArray)) ++ t133) ++ (⟨#[32]⟩ : ByteArray)).size + t134.size ≤ 9223372036854775807) = true := decide_eq_true c13
        try have c13b2 : (9223372036854775807 < (((((t131 ++ (⟨#[32]⟩ : ByteArray)) ++ t132) ++ (⟨#[32]⟩ : ByteArray)) ++ t133) ++ (⟨#[32]⟩ : ByteArray)).size + t134.size) = False := eq_false (Nat.not_lt.2 c13)
        try have c13b3 : (9223372036854775807 < t131.size + 1 + t132.size + 1 + t133.size + 1 + t134.size) = False := eq_false (Nat.not_lt.2 (by have h_ := c13; simp only [ByteArray.size_append] at h_; exact h_))
        by_cases c14 : ((((((t131 ++ (⟨#[32]⟩ : ByteArray)) ++ t132) ++ (⟨#[32]⟩ : ByteArray)) ++ t133) ++ (⟨#[32]⟩ : ByteArray)) ++ t134).size + 1 ≤ 9223372036854775807
        ·rw [if_pos c14] at H
         have c14b0 := eq_true c14
         have c14b1 : decide (((((((t131 ++ (⟨#[32]⟩ : ByteArray)) ++ t132) ++ (⟨#[32]⟩ : ByteArray)) ++ t133) ++ (⟨#[32]⟩ : ByteArray)) ++ t134).size + 1 ≤ 9223372036854775807) = true := decide_eq_true c14
         try have c14b2 : (9223372036854775807 < ((((((t131 ++ (⟨#[32]⟩ : ByteArray)) ++ t132) ++ (⟨#[32]⟩ : ByteArray)) ++ t133) ++ (⟨#[32]⟩ : ByteArray)) ++ t134).size + 1) = False := eq_false (Nat.not_lt.2 c14)
         try have c14b3 : (9223372036854775807 < t131.size + 1 + t132.size + 1 + t133.size + 1 + t134.size + 1) = False := eq_false (Nat.not_lt.2 (by have h_ := c14; simp only [ByteArray.size_append] at h_; exact h_))
         replace H := Option.bind_eq_some_iff.mp H
         obtain ⟨t135, A150, H⟩ := H
         try dsimp only at H
         have A15 := aM A150
         clear A150
         by_cases c16 : (((((((t131 ++ (⟨#[32]⟩ : ByteArray)) ++ t132) ++ (⟨#[32]⟩ : ByteArray)) ++ t133) ++ (⟨#[32]⟩ : ByteArray)) ++ t134) ++ (⟨#[32]⟩ : ByteArray)).size + t135.size ≤ 9223372036854775807
         ·rw [if_pos c16] at H
          have c16b0 := eq_true c16
          have c16b1 : decide ((((((((t131 ++ (⟨#[32]⟩ : ByteArray)) ++ t132) ++ (⟨#[32]⟩ : ByteArray)) ++ t133) ++ (⟨#[32]⟩ : ByteArray)) ++ t134) ++ (⟨#[32]⟩ : ByteArray)).size + t135.size ≤ 9223372036854775807) = true := decide_eq_true c16
          try have c16b2 : (9223372036854775807 < (((((((t131 ++ (⟨#[32]⟩ : ByteArray)) ++ t132) ++ (⟨#[32]⟩ : ByteArray)) ++ t133) ++ (⟨#[32]⟩ : ByteArray)) ++ t134) ++ (⟨#[32]⟩ : ByteArray)).size + t135.size) = False := eq_false (Nat.not_lt.2 c16)
          try have c16b3 : (9223372036854775807 < t131.size + 1 + t132.size + 1 + t133.size + 1 + t134.size + 1 + t135.size) = False := eq_false (Nat.not_lt.2 (by have h_ := c16; simp only [ByteArray.size_append] at h_; exact h_))
          simp only [Option.some.injEq, Prod.mk.injEq] at H
          obtain ⟨rfl, rfl⟩ := H
          go_enter Tryd.func5, Tryd.ntmps5
          try go_wp2_with (first | ((with_reducible refine gate_dst (N := 1) rfl ?_); refine bxE 1 #[.slice A0_0 l0_0.length c0_0, .slice A0_1 l0_1.length c0_1, .slice A0_2 l0_2.length c0_2, .slice A0_3 l0_3.length c0_3, .slice A0_4 l0_4.length c0_4] 28 ?_; intro gb129 hg w17 hbox hb; have BK129 := aM (hbox); have GW129 := szG hg (uL HB); have GE129 := szG hg (uL HB); replace HB := aM (below_step (uL HB) hb); clear hb hbox hg; have hcz18_0 := czA BK129.out 0 (.slice A0_0 l0_0.length c0_0); have hcz18_1 := czA BK129.out 1 (.slice A0_1 l0_1.length c0_1); have hcz18_2 := czA BK129.out 2 (.slice A0_2 l0_2.length c0_2); have hcz18_3 := czA BK129.out 3 (.slice A0_3 l0_3.length c0_3); have hcz18_4 := czA BK129.out 4 (.slice A0_4 l0_4.length c0_4); have hfz18_0 := blk_frozen BK129.out 0; have hfz18_1 := blk_frozen BK129.out 1; have hfz18_2 := blk_frozen BK129.out 2; have hfz18_3 := blk_frozen BK129.out 3; have hfz18_4 := blk_frozen BK129.out 4) | ((with_reducible refine gate_callee (f := 10) rfl ?_); refine gL (some 5) Tryd.func10 #[.agg #[.slice A0_0 l0_0.length c0_0, .slice A0_1 l0_1.length c0_1, .slice A0_2 l0_2.length c0_2, .slice A0_3 l0_3.length c0_3, .slice A0_4 l0_4.length c0_4]] ?_; (with_reducible refine (spec_CronOk.calls k _ _ l0_0 _ _ l0_1 _ _ l0_2 _ _ l0_3 _ _ l0_4 true _ ?side1 ?side2 ?side3 ?side4 ?side5 ?side6 ?side7 ?side8 ?side9 ?side10 A2.out).mono ?_); (case side1 => exact uC HR0_0 HB); (case side2 => exact HC0_0.out); (case side3 => exact uC HR0_1 HB); (case side4 => exact HC0_1.out); (case side5 => exact uC HR0_2 HB); (case side6 => exact HC0_2.out); (case side7 => exact uC HR0_3 HB); (case side8 => exact HC0_3.out); (case side9 => exact uC HR0_4 HB); (case side10 => exact HC0_4.out); rintro e w19 ⟨rfl, hb⟩; refine ⟨_, rfl, ?_⟩; replace BK129 := blkB BK129 hb; replace HB := aM (below_step (uL HB) hb); try clear hb))
          replace BK129 := aM (blk_drew BK129.out)
          replace HB := aM (below_drew1 HB.out)
          refine start_ (n := 25) (S := fun w' => w'.cell? ⟨gb129, 0, none⟩ = some (.slice A0_0 l0_0.length c0_0) ∧ w'.cell? ⟨gb129, 1, none⟩ = some (.slice A0_1 l0_1.length c0_1) ∧ w'.cell? ⟨gb129, 2, none⟩ = some (.slice A0_2 l0_2.length c0_2) ∧ w'.cell? ⟨gb129, 3, none⟩ = some (.slice A0_3 l0_3.length c0_3) ∧ w'.cell? ⟨gb129, 4, none⟩ = some (.slice A0_4 l0_4.length c0_4)) (ds := []) (bB 25 0) (by kernel_rfl) rfl rfl ⟨(blk_cell BK129.out 0).trans rfl, (blk_cell BK129.out 1).trans rfl, (blk_cell BK129.out 2).trans rfl, (blk_cell BK129.out 3).trans rfl, (blk_cell BK129.out 4).trans rfl⟩ (fun hHeld => ?_); refine with_tabW spec_CronText.tab3 spec_CronText.bits3 (fun HT_ HW_ => ?_)
          generalize w19.drew = w20 at BK129 HB hHeld ⊢
          refine pA HT_.out 0 7 25 1 ?_; refine pA HT_.out 4 11 25 17 ?_; refine pA HT_.out 9 16 25 529 ?_; refine pA HT_.out 14 21 25 16913 ?_; refine pA HT_.out 19 26 25 541201 ?_; refine tA HT_.out HW_.out 1 8 25 541203 hHeld ?_; refine tA HT_.out HW_.out 5 12 25 541235 hHeld ?_; refine tA HT_.out HW_.out 10 17 25 542259 hHeld ?_; refine tA HT_.out HW_.out 15 22 25 575027 hHeld ?_; refine tA HT_.out HW_.out 20 27 25 1623603 hHeld ?_
          refine oA HT_.out 2 (some 9) 25 1623607 (fun K hK => ?_)
          refine gX Tryd.func11 #[.slice A0_0 l0_0.length c0_0, .int .i64 60] ?_
          with_reducible refine (spec_l10Show.calls k _ _ l0_0 60 t131 _ ?side1 ?side2 A4.out).mono ?_
          (case side1 => exact uC HR0_0 HB)
          (case side2 => exact HC0_0.out)
          rintro e w21 ⟨rfl, hb⟩
          refine ⟨_, rfl, ?_⟩
          replace BK129 := blkB BK129 hb
          replace HB := aM (below_step (uL HB) hb)
          (try clear hb)
          (try clear hb2)
          (try clear hk)
          (try clear hi)
          refine hK.out _ _ ⟨(blk_cell BK129.out 0).trans rfl, (blk_cell BK129.out 1).trans rfl, (blk_cell BK129.out 2).trans rfl, (blk_cell BK129.out 3).trans rfl, (blk_cell BK129.out 4).trans rfl⟩ (fun hHeld => ?_)
          clear hK K
          refine nX 9 ?_; refine pA HT_.out 3 10 25 1623615 ?_
          refine oA HT_.out 6 (some 13) 25 1623679 (fun K hK => ?_)
          refine gX Tryd.func11 #[.slice A0_1 l0_1.length c0_1, .int .i64 24] ?_
          with_reducible refine (spec_l10Show.calls k _ _ l0_1 24 t132 _ ?side1 ?side2 A6.out).mono ?_
          (case side1 => exact uC HR0_1 HB)
          (case side2 => exact HC0_1.out)
          rintro e w22 ⟨rfl, hb⟩
          refine ⟨_, rfl, ?_⟩
          replace BK129 := blkB BK129 hb
          replace HB := aM (below_step (uL HB) hb)
          (try clear hb)
          (try clear hb2)
          (try clear hk)
          (try clear hi)
          refine hK.out _ _ ⟨(blk_cell BK129.out 0).trans rfl, (blk_cell BK129.out 1).trans rfl, (blk_cell BK129.out 2).trans rfl, (blk_cell BK129.out 3).trans rfl, (blk_cell BK129.out 4).trans rfl⟩ (fun hHeld => ?_)
          clear hK K
          refine nX 13 ?_; refine pA HT_.out 7 14 25 1623807 ?_; refine pA HT_.out 8 15 25 1624063 ?_
          refine oA HT_.out 11 (some 18) 25 1626111 (fun K hK => ?_)
          refine gX Tryd.func11 #[.slice A0_2 l0_2.length c0_2, .int .i64 31] ?_
          with_reducible refine (spec_l10Show.calls k _ _ l0_2 31 t133 _ ?side1 ?side2 A9.out).mono ?_
          (case side1 => exact uC HR0_2 HB)
          (case side2 => exact HC0_2.out)
          rintro e w23 ⟨rfl, hb⟩
          refine ⟨_, rfl, ?_⟩
          replace BK129 := blkB BK129 hb
          replace HB := aM (below_step (uL HB) hb)
          (try clear hb)
          (try clear hb2)
          (try clear hk)
          (try clear hi)
          refine hK.out _ _ ⟨(blk_cell BK129.out 0).trans rfl, (blk_cell BK129.out 1).trans rfl, (blk_cell BK129.out 2).trans rfl, (blk_cell BK129.out 3).trans rfl, (blk_cell BK129.out 4).trans rfl⟩ (fun hHeld => ?_)
          clear hK K
          refine nX 18 ?_; refine pA HT_.out 12 19 25 1630207 ?_; refine pA HT_.out 13 20 25 1638399 ?_
          refine oA HT_.out 16 (some 23) 25 1703935 (fun K hK => ?_)
          refine gX Tryd.func11 #[.slice A0_3 l0_3.length c0_3, .int .i64 12] ?_
          with_reducible refine (spec_l10Show.calls k _ _ l0_3 12 t134 _ ?side1 ?side2 A12.out).mono ?_
          (case side1 => exact uC HR0_3 HB)
          (case side2 => exact HC0_3.out)
          rintro e w24 ⟨rfl, hb⟩
          refine ⟨_, rfl, ?_⟩
          replace BK129 := blkB BK129 hb
          replace HB := aM (below_step (uL HB) hb)
          (try clear hb)
          (try clear hb2)
          (try clear hk)
          (try clear hi)
          refine hK.out _ _ ⟨(blk_cell BK129.out 0).trans rfl, (blk_cell BK129.out 1).trans rfl, (blk_cell BK129.out 2).trans rfl, (blk_cell BK129.out 3).trans rfl, (blk_cell BK129.out 4).trans rfl⟩ (fun hHeld => ?_)
          clear hK K
          refine nX 23 ?_; refine pA HT_.out 17 24 25 1835007 ?_; refine pA HT_.out 18 25 25 2097151 ?_
          refine oA HT_.out 21 (some 28) 25 4194303 (fun K hK => ?_)
          refine gX Tryd.func11 #[.slice A0_4 l0_4.length c0_4, .int .i64 7] ?_
          with_reducible refine (spec_l10Show.calls k _ _ l0_4 7 t135 _ ?side1 ?side2 A15.out).mono ?_
          (case side1 => exact uC HR0_4 HB)
          (case side2 => exact HC0_4.out)
          rintro e w25 ⟨rfl, hb⟩
          refine ⟨_, rfl, ?_⟩
          replace BK129 := blkB BK129 hb
          replace HB := aM (below_step (uL HB) hb)
          (try clear hb)
          (try clear hb2)
          (try clear hk)
          (try clear hi)
          refine hK.out _ _ ⟨(blk_cell BK129.out 0).trans rfl, (blk_cell BK129.out 1).trans rfl, (blk_cell BK129.out 2).trans rfl, (blk_cell BK129.out 3).trans rfl, (blk_cell BK129.out 4).trans rfl⟩ (fun hHeld => ?_)
          clear hK K
          refine nX 28 ?_; refine pA HT_.out 22 29 25 8388607 ?_; refine pA HT_.out 23 2 25 16777215 ?_; refine pA HT_.out 24 3 25 33554431 ?_
          refine done_ (done_of HT_.out (by kernel_rfl)) ?_
          try go_wp2
          go_ret2
          exact rX HB
         ·rw [if_neg c16] at H
          exact absurd H (by simp)
        ·rw [if_neg c14] at H
         exact absurd H (by simp)
       ·rw [if_neg c13] at H
        exact absurd H (by simp)
      ·rw [if_neg c11] at H
       exact absurd H (by simp)
     ·rw [if_neg c10] at H
      exact absurd H (by simp)
    ·rw [if_neg c8] at H
     exact absurd H (by simp)
   ·rw [if_neg c7] at H
    exact absurd H (by simp)
  ·rw [if_neg c5] at H
   exact absurd H (by simp)
 ·replace c3 := Bool.eq_false_iff.mpr c3
  subst c3
  have H1 : (some ((⟨#[]⟩ : ByteArray), false)) = some (r1, r2) := by rw [if_neg (show ¬ (false = true) by decide)] at H; exact H
  clear H; have H := H1; clear H1
  simp only [Option.some.injEq, Prod.mk.injEq] at H
  obtain ⟨rfl, rfl⟩ := H
  go_enter Tryd.func5, Tryd.ntmps5
  go_wp2_with (first | ((with_reducible refine gate_dst (N := 1) rfl ?_); refine bxE 1 #[.slice A0_0 l0_0.length c0_0, .slice A0_1 l0_1.length c0_1, .slice A0_2 l0_2.length c0_2, .slice A0_3 l0_3.length c0_3, .slice A0_4 l0_4.length c0_4] 28 ?_; intro gb129 hg w26 hbox hb; have BK129 := aM (hbox); have GW129 := szG hg (uL HB); have GE129 := szG hg (uL HB); replace HB := aM (below_step (uL HB) hb); clear hb hbox hg; have hcz27_0 := czA BK129.out 0 (.slice A0_0 l0_0.length c0_0); have hcz27_1 := czA BK129.out 1 (.slice A0_1 l0_1.length c0_1); have hcz27_2 := czA BK129.out 2 (.slice A0_2 l0_2.length c0_2); have hcz27_3 := czA BK129.out 3 (.slice A0_3 l0_3.length c0_3); have hcz27_4 := czA BK129.out 4 (.slice A0_4 l0_4.length c0_4); have hfz27_0 := blk_frozen BK129.out 0; have hfz27_1 := blk_frozen BK129.out 1; have hfz27_2 := blk_frozen BK129.out 2; have hfz27_3 := blk_frozen BK129.out 3; have hfz27_4 := blk_frozen BK129.out 4) | ((with_reducible refine gate_callee (f := 10) rfl ?_); refine gL (some 5) Tryd.func10 #[.agg #[.slice A0_0 l0_0.length c0_0, .slice A0_1 l0_1.length c0_1, .slice A0_2 l0_2.length c0_2, .slice A0_3 l0_3.length c0_3, .slice A0_4 l0_4.length c0_4]] ?_; (with_reducible refine (spec_CronOk.calls k _ _ l0_0 _ _ l0_1 _ _ l0_2 _ _ l0_3 _ _ l0_4 false _ ?side1 ?side2 ?side3 ?side4 ?side5 ?side6 ?side7 ?side8 ?side9 ?side10 A2.out).mono ?_); (case side1 => exact uC HR0_0 HB); (case side2 => exact HC0_0.out); (case side3 => exact uC HR0_1 HB); (case side4 => exact HC0_1.out); (case side5 => exact uC HR0_2 HB); (case side6 => exact HC0_2.out); (case side7 => exact uC HR0_3 HB); (case side8 => exact HC0_3.out); (case side9 => exact uC HR0_4 HB); (case side10 => exact HC0_4.out); rintro e w28 ⟨rfl, hb⟩; refine ⟨_, rfl, ?_⟩; replace BK129 := blkB BK129 hb; replace HB := aM (below_step (uL HB) hb); try clear hb))
  go_ret2
  exact rX HB

/-! ### laws_toIntS: function 12 -/
def laws_toIntS.l0 : Nat → List Int → List Int → Int → Option (List Int)
 | 0, _, _, _ => none
 | k + 1, x0, x3, x4 => if x4 < (x0.length : Int) then (if 0 ≤ x4 then (if x4 < (x3.length : Int) then (laws_toIntS.l0 k x0 (x3.set (x4 : Int).toNat (rd x0 x4)) (wrap64 (x4 + 1))) else (none)) else (none)) else (some x3)
def laws_toIntS.f (k : Nat) (l0 : List Int) : Option (List Int) := if 0 ≤ (l0.length : Int) then (if ((l0.length : Int) : Int).toNat ≤ 35184372088832 then (laws_toIntS.l0 k l0 (List.replicate ((l0.length : Int) : Int).toNat 0) 0) else (none)) else (none)
theorem laws_toIntS.mono_l : ∀ k, (∀ y0 y1 y2, LeO (laws_toIntS.l0 k y0 y1 y2) (laws_toIntS.l0 (k + 1) y0 y1 y2))
 | 0 => fun _ _ _ r h => by simp [laws_toIntS.l0] at h
 | k + 1 => by
  have ih0 := laws_toIntS.mono_l k
  ·intro y0 y1 y2
   unfold laws_toIntS.l0
   repeat' first
   | (with_reducible exact ih0 _ _ _)
   | (with_reducible exact LeO.refl _)
   | (with_reducible exact LeO.none _)
   | (with_reducible refine LeO.ite ?_ ?_)
   | (with_reducible refine LeO.bind ?_ (fun _ => ?_))
   | exact ih0 _ _ _
   | exact LeO.none _
   | refine LeO.ite ?_ ?_
   | refine LeO.bind ?_ (fun _ => ?_)
theorem laws_toIntS.mono : ∀ a0 k, LeO (laws_toIntS.f k a0) (laws_toIntS.f (k + 1) a0) := by
 intro a0 k
 have ih0 := laws_toIntS.mono_l k
 unfold laws_toIntS.f
 repeat' first
  | (with_reducible exact ih0 _ _ _)
  | (with_reducible exact LeO.refl _)
  | (with_reducible exact LeO.none _)
  | (with_reducible refine LeO.ite ?_ ?_)
  | (with_reducible refine LeO.bind ?_ (fun _ => ?_))
  | exact ih0 _ _ _
  | exact LeO.none _
  | refine LeO.ite ?_ ?_
  | refine LeO.bind ?_ (fun _ => ?_)
set_option maxHeartbeats 8000000 in
set_option maxRecDepth 100000 in
theorem laws_toIntS.calls (k : Nat) (A0 : Option Addr) (c0 : Nat) (l0 : List Int) (r : List Int) (w : World) (hr0 : Kd.C (Kd.int .i64) w A0 l0.length l0) (hc0 : l0.length ≤ c0) (h : laws_toIntS.f k l0 = some r) :
 Calls Tryd.prog 12 #[.slice A0 l0.length c0] w fun e w' => ∃ v0_ : Value, e = .returned (v0_) ∧ Kd.R (Kd.int .i64) 3 w' w.heap.size (fun _ => True) v0_ r ∧ Below w.heap.size w w' := by
 have HR0 := aM hr0
 have HC0 := aM hc0
 clear hr0 hc0
 have HB := aM (Below.refl w.heap.size w)
 have H : (if 0 ≤ (l0.length : Int) then (if ((l0.length : Int) : Int).toNat ≤ 35184372088832 then (laws_toIntS.l0 k l0 (List.replicate ((l0.length : Int) : Int).toNat 0) 0) else (none)) else (none)) = some r := h
 clear h
 by_cases c2 : 0 ≤ (l0.length : Int)
 ·rw [if_pos c2] at H
  have c2b0 := eq_true c2
  have c2b1 : decide (0 ≤ (l0.length : Int)) = true := decide_eq_true c2
  clear c2
  by_cases c3 : ((l0.length : Int) : Int).toNat ≤ 35184372088832
  ·rw [if_pos c3] at H
   have c3b0 := eq_true c3
   have c3b1 : decide (((l0.length : Int) : Int).toNat ≤ 35184372088832) = true := decide_eq_true c3
   clear c3
   obtain ⟨y136, hy136⟩ : ∃ y_ : List Int, y_ = (List.replicate ((l0.length : Int) : Int).toNat 0) := ⟨_, rfl⟩
   replace H : (laws_toIntS.l0 k l0 y136 0) = some r := by first | (rw [hy136]; with_reducible exact H) | (have H2_ := (Option.bind_some _ _).symm.trans H; rw [hy136]; with_reducible exact H2_) | (have H2_ := (Option.bind_some _ _).symm.trans H; with_reducible exact H2_) | with_reducible exact H | (rw [hy136]; exact H) | exact H
   have Ny136 := aM hy136
   clear hy136
   have H' := aM H
   clear H
   go_enter Tryd.func12, Tryd.ntmps12
   go_wp2_with (first | ((with_reducible refine gate_dst (N := 7) rfl ?_); refine Kd.R_make (Kd.int .i64) _ 3 rfl (N := 7) rfl 22 _ _ rfl (l0.length : Int) rfl rfl Tryd.underlying22 (.int .i64 0) 8 info3 rfl (by decide) (by omega) 0 (ok := fun _ => True) (okp := fun _ => True) rfl (fun _ hk => hk) trivial (of_decide_eq_true (by first | (with_reducible assumption) | assumption)) (Nat.le_trans (Nat.mul_le_mul_right _ (of_decide_eq_true (by first | (with_reducible assumption) | assumption) : (l0.length : Int).toNat ≤ 35184372088832)) (by omega)) (Below.refl _ _) (Nat.le_refl _) ?_; intro v137 w4 ho5 hb hg_ hnew_; clear hg_ hnew_; (first | rw [← Ny136.out] at ho5 | (simp only [Int.reduceToNat] at ho5; rw [← Ny136.out] at ho5)); have HO138 := aM (Kd.R_lower ho5 (below_size (uL HB))); replace HB := aM (below_step (uL HB) hb); clear hb ho5))
   go_loopg [4] k (fun kq v4 w' => ∃ (x3_1 : List Int) (x4_1 : Int), v4 = .int .i64 x4_1 ∧ Aside0 (laws_toIntS.l0 kq l0 x3_1 x4_1 = some r) ∧ Aside0 (kq ≤ k) ∧ Aside0 (Kd.R (Kd.int .i64) 3 w' w.heap.size (fun _ => True) v137 x3_1) ∧ Aside0 (Below w.heap.size w w'))
   case atStart => exact ⟨(y136), (0), (by first | rfl | (simp; done) | (simp [*]; done)), H', ⟨Nat.le_refl _⟩, ⟨by (with_reducible repeat first | apply rA | apply rN | apply rD); exact HO138.out⟩, ⟨uL HB⟩⟩
   case round =>
    clear H'
    try clear c1; try clear c2; try clear c2b0; try clear c2b1; try clear p2; try clear c3; try clear c3b0; try clear c3b1
    obtain ⟨x3_1, x4_1, rfl, HA, HK1, HO_3, HB⟩ := hrel
    cases gk with
    | zero => exact absurd HA.out (by simp [laws_toIntS.l0])
    | succ k1 =>
     have H := HA.out
     clear HA
     simp only [laws_toIntS.l0] at H
     by_cases c6 : x4_1 < (l0.length : Int)
     ·rw [if_pos c6] at H
      have c6b0 : decide (x4_1 < (l0.length : Int)) = true := decide_eq_true c6
      clear c6
      by_cases c7 : 0 ≤ x4_1
      ·rw [if_pos c7] at H
       have c7b0 : decide (0 ≤ x4_1) = true := decide_eq_true c7
       clear c7
       by_cases c8 : x4_1 < (x3_1.length : Int)
       ·rw [if_pos c8] at H
        have c8b0 : decide (x4_1 < (x3_1.length : Int)) = true := decide_eq_true c8
        clear c8
        obtain ⟨y140, hy140⟩ : ∃ y_ : List Int, y_ = (x3_1.set (x4_1 : Int).toNat (rd l0 x4_1)) := ⟨_, rfl⟩
        replace H : (laws_toIntS.l0 k1 l0 y140 (wrap64 (x4_1 + 1))) = some r := by first | (rw [hy140]; with_reducible exact H) | (have H2_ := (Option.bind_some _ _).symm.trans H; rw [hy140]; with_reducible exact H2_) | (have H2_ := (Option.bind_some _ _).symm.trans H; with_reducible exact H2_) | with_reducible exact H | (rw [hy140]; exact H) | exact H
        have Ny140 := aM hy140
        clear hy140
        have H' := aM H
        clear H
        have p139 : 0 ≤ (x4_1 : Int) := of_decide_eq_true (by first | (with_reducible assumption) | assumption)
        have q139 : x4_1 < (l0.length : Int) := of_decide_eq_true (by first | (with_reducible assumption) | assumption)
        obtain ⟨ad139, e139, hx139_0⟩ := Kd.at_int HR0.out x4_1 p139 q139
        cases e139
        replace hx139_0 := hxB HB hx139_0; replace p139 := eq_true p139; replace q139 := eq_true q139
        have p9 : 0 ≤ (x4_1 : Int) := of_decide_eq_true (by first | (with_reducible assumption) | assumption)
        have q9 : (x4_1 : Int) < ((x3_1.length : Int) : Int) := of_decide_eq_true (by first | (with_reducible assumption) | assumption)
        obtain ⟨go9, co9, eo9, gb9, gl9, cl9, HG9⟩ := Kd.R_form HO_3.out (by omega)
        (first | cases eo9 | (injection eo9 with ea_ en_ ec_; (first | subst ea_ | (injection ea_ with ea_; subst ea_)); subst ec_; clear en_))
        have GB9 := aM gb9
        have GG9 := aM HG9
        clear gb9 gl9 HG9
        obtain ⟨hx9_0, hf9_0⟩ := Kd.R_celln 0 HO_3.out (x4_1 : Int) p9 q9
        replace p9 := eq_true p9; replace q9 := eq_true q9
        have HP10 := Kd.R_putg HO_3.out (x4_1 : Int) (rd l0 x4_1)
        go_wp2_with (first | ((with_reducible refine gate_store (t := 3) (p := 20) rfl ?_); refine store_event (t := 3) (p := 20) (v := ?vo_w11) (w1 := (wr.setCell ⟨go9, (x4_1 : Int).toNat, none⟩ (.int .i64 (rd l0 x4_1)))) ?hg ?ho ?hn ?hr ?_; (case ho => rfl); (case hg => rfl); (case hn => rfl); (case hr => first | (go_simp; done) | (go_simp; rfl)); intro w11 hw; have hg : wr.grownBy w11 (some go9) := (by rw [hw]; exact HP10.2); have hp_ : Kd.R (Kd.int .i64) 3 w11 w.heap.size (fun _ => True) (.slice (some ⟨go9, 0, none⟩) x3_1.length co9) y140 := (by rw [hw, Ny140.out]; exact HP10.1); clear HP10; replace HO_3 := aM (hp_); replace HB := aM ((by rw [hw]; exact below_set (HB.out) GB9.out : Below w.heap.size w w11)); clear hg hw hp_))
        go_roundg k1
        case measure => have := HK1.out; omega
        case rel => exact ⟨(y140), (wrap64 (x4_1 + 1)), (by first | rfl | (simp; done) | (simp [*]; done)), H', ⟨by have := HK1.out; omega⟩, ⟨by (with_reducible repeat first | apply rA | apply rN | apply rD); exact HO_3.out⟩, ⟨uL HB⟩⟩
       ·rw [if_neg c8] at H
        exact absurd H (by simp)
      ·rw [if_neg c7] at H
       exact absurd H (by simp)
     ·rw [if_neg c6] at H
      have c6b0 : decide (x4_1 < (l0.length : Int)) = false := decide_eq_false c6
      clear c6
      obtain rfl := Option.some.inj H
      go_wp2
      go_ret
      exact ⟨_, by first | rfl | (simp [errW_none, errW_some] <;> rfl) | (simp [*, errW_none, errW_some] <;> rfl), by (with_reducible repeat first | apply rA | apply rN | apply rD); exact HO_3.out, uL HB⟩
  ·rw [if_neg c3] at H
   exact absurd H (by simp)
 ·rw [if_neg c2] at H
  exact absurd H (by simp)

/-! ### laws_toCron: function 6 -/
def laws_toCron.f (k : Nat) (l0_0 : List Int) (l0_1 : List Int) (l0_2 : List Int) (l0_3 : List Int) (l0_4 : List Int) : Option (List Int × List Int × List Int × List Int × List Int) := (laws_toIntS.f k l0_0).bind fun t144 => ((laws_toIntS.f k l0_1).bind fun t147 => ((laws_toIntS.f k l0_2).bind fun t150 => ((laws_toIntS.f k l0_3).bind fun t153 => ((laws_toIntS.f k l0_4).bind fun t156 => (some (t144, t147, t150, t153, t156))))))
theorem laws_toCron.mono : ∀ a0 a1 a2 a3 a4 k, LeO (laws_toCron.f k a0 a1 a2 a3 a4) (laws_toCron.f (k + 1) a0 a1 a2 a3 a4) := by
 intro a0 a1 a2 a3 a4 k
 unfold laws_toCron.f
 repeat' first
  | (with_reducible exact laws_toIntS.mono _ _)
  | (with_reducible exact LeO.refl _)
  | (with_reducible exact LeO.none _)
  | (with_reducible refine LeO.ite ?_ ?_)
  | (with_reducible refine LeO.bind ?_ (fun _ => ?_))
  | exact laws_toIntS.mono _ _
  | exact LeO.none _
  | refine LeO.ite ?_ ?_
  | refine LeO.bind ?_ (fun _ => ?_)
set_option maxHeartbeats 8000000 in
set_option maxRecDepth 100000 in
theorem laws_toCron.calls (k : Nat) (A0_0 : Option Addr) (c0_0 : Nat) (l0_0 : List Int) (A0_1 : Option Addr) (c0_1 : Nat) (l0_1 : List Int) (A0_2 : Option Addr) (c0_2 : Nat) (l0_2 : List Int) (A0_3 : Option Addr) (c0_3 : Nat) (l0_3 : List Int) (A0_4 : Option Addr) (c0_4 : Nat) (l0_4 : List Int) (r1 : List Int) (r2 : List Int) (r3 : List Int) (r4 : List Int) (r5 : List Int) (w : World) (hr0_0 : Kd.C (Kd.int .i64) w A0_0 l0_0.length l0_0) (hc0_0 : l0_0.length ≤ c0_0) (hr0_1 : Kd.C (Kd.int .i64) w A0_1 l0_1.length l0_1) (hc0_1 : l0_1.length ≤ c0_1) (hr0_2 : Kd.C (Kd.int .i64) w A0_2 l0_2.length l0_2) (hc0_2 : l0_2.length ≤ c0_2) (hr0_3 : Kd.C (Kd.int .i64) w A0_3 l0_3.length l0_3) (hc0_3 : l0_3.length ≤ c0_3) (hr0_4 : Kd.C (Kd.int .i64) w A0_4 l0_4.length l0_4) (hc0_4 : l0_4.length ≤ c0_4) (h : laws_toCron.f k l0_0 l0_1 l0_2 l0_3 l0_4 = some (r1, r2, r3, r4, r5)) :
 Calls Tryd.prog 6 #[.agg #[.slice A0_0 l0_0.length c0_0, .slice A0_1 l0_1.length c0_1, .slice A0_2 l0_2.length c0_2, .slice A0_3 l0_3.length c0_3, .slice A0_4 l0_4.length c0_4]] w fun e w' => ∃ v0_ v1_ v2_ v3_ v4_ : Value, e = .returned (.agg #[v0_, v1_, v2_, v3_, v4_]) ∧ Kd.R (Kd.int .i64) 3 w' w.heap.size (fun k_ => some k_ ≠ (v1_ : Value).ownBlock ∧ some k_ ≠ (v2_ : Value).ownBlock ∧ some k_ ≠ (v3_ : Value).ownBlock ∧ some k_ ≠ (v4_ : Value).ownBlock) v0_ r1 ∧ Kd.R (Kd.int .i64) 3 w' w.heap.size (fun k_ => some k_ ≠ (v0_ : Value).ownBlock ∧ some k_ ≠ (v2_ : Value).ownBlock ∧ some k_ ≠ (v3_ : Value).ownBlock ∧ some k_ ≠ (v4_ : Value).ownBlock) v1_ r2 ∧ Kd.R (Kd.int .i64) 3 w' w.heap.size (fun k_ => some k_ ≠ (v0_ : Value).ownBlock ∧ some k_ ≠ (v1_ : Value).ownBlock ∧ some k_ ≠ (v3_ : Value).ownBlock ∧ some k_ ≠ (v4_ : Value).ownBlock) v2_ r3 ∧ Kd.R (Kd.int .i64) 3 w' w.heap.size (fun k_ => some k_ ≠ (v0_ : Value).ownBlock ∧ some k_ ≠ (v1_ : Value).ownBlock ∧ some k_ ≠ (v2_ : Value).ownBlock ∧ some k_ ≠ (v4_ : Value).ownBlock) v3_ r4 ∧ Kd.R (Kd.int .i64) 3 w' w.heap.size (fun k_ => some k_ ≠ (v0_ : Value).ownBlock ∧ some k_ ≠ (v1_ : Value).ownBlock ∧ some k_ ≠ (v2_ : Value).ownBlock ∧ some k_ ≠ (v3_ : Value).ownBlock) v4_ r5 ∧ Below w.heap.size w w' := by
 have hu24 := Tryd.underlying24
 have hu28 := Tryd.underlying28
 have HR0_0 := aM hr0_0
 have HC0_0 := aM hc0_0
 clear hr0_0 hc0_0
 have HR0_1 := aM hr0_1
 have HC0_1 := aM hc0_1
 clear hr0_1 hc0_1
 have HR0_2 := aM hr0_2
 have HC0_2 := aM hc0_2
 clear hr0_2 hc0_2
 have HR0_3 := aM hr0_3
 have HC0_3 := aM hc0_3
 clear hr0_3 hc0_3
 have HR0_4 := aM hr0_4
 have HC0_4 := aM hc0_4
 clear hr0_4 hc0_4
 have HB := aM (Below.refl w.heap.size w)
 have H : ((laws_toIntS.f k l0_0).bind fun t144 => ((laws_toIntS.f k l0_1).bind fun t147 => ((laws_toIntS.f k l0_2).bind fun t150 => ((laws_toIntS.f k l0_3).bind fun t153 => ((laws_toIntS.f k l0_4).bind fun t156 => (some (t144, t147, t150, t153, t156))))))) = some (r1, r2, r3, r4, r5) := h
 clear h
 replace H := Option.bind_eq_some_iff.mp H
 obtain ⟨t144, A20, H⟩ := H
 try dsimp only at H
 have A2 := aM A20
 clear A20
 replace H := Option.bind_eq_some_iff.mp H
 obtain ⟨t147, A30, H⟩ := H
 try dsimp only at H
 have A3 := aM A30
 clear A30
 replace H := Option.bind_eq_some_iff.mp H
 obtain ⟨t150, A40, H⟩ := H
 replace H : ((laws_toIntS.f k l0_3).bind fun t153 => ((laws_toIntS.f k l0_4).bind fun t156 => (some (t144, t147, t150, t153, t156)))) = some (r1, r2, r3, r4, r5) := H
 have A4 := aM A40
 clear A40
 replace H := Option.bind_eq_some_iff.mp H
 obtain ⟨t153, A50, H⟩ := H
 replace H : ((laws_toIntS.f k l0_4).bind fun t156 => (some (t144, t147, t150, t153, t156))) = some (r1, r2, r3, r4, r5) := H
 have A5 := aM A50
 clear A50
 replace H := Option.bind_eq_some_iff.mp H
 obtain ⟨t156, A60, H⟩ := H
 replace H : (some (t144, t147, t150, t153, t156)) = some (r1, r2, r3, r4, r5) := H
 have A6 := aM A60
 clear A60
 simp only [Option.some.injEq, Prod.mk.injEq] at H
 obtain ⟨rfl, rfl, rfl, rfl, rfl⟩ := H
 go_enter Tryd.func6, Tryd.ntmps6
 go_wp2_with (first | ((with_reducible refine gate_dst (N := 1) rfl ?_); refine bxE 1 #[.slice A0_0 l0_0.length c0_0, .slice A0_1 l0_1.length c0_1, .slice A0_2 l0_2.length c0_2, .slice A0_3 l0_3.length c0_3, .slice A0_4 l0_4.length c0_4] 24 ?_; intro gb141 hg w7 hbox hb; have BK141 := aM (hbox); have GW141 := szG hg (uL HB); have GE141 := szG hg (uL HB); replace HB := aM (below_step (uL HB) hb); clear hb hbox hg) | ((with_reducible refine gate_dst (N := 2) rfl ?_); refine bxE 2 #[.slice none 0 0, .slice none 0 0, .slice none 0 0, .slice none 0 0, .slice none 0 0] 28 ?_; intro gb142 hg w8 hbox hb; have BK142 := aM (hbox); have GW142 := szG hg (uL HB); have GE142 := szG hg (uL HB); have NB141_142 := neL hg BK141; have NB142_141 := neG hg BK141; replace BK141 := blkB BK141 hb; replace HB := aM (below_step (uL HB) hb); clear hb hbox hg) | ((with_reducible refine gate_dst (N := 3) rfl ?_); refine bxE 3 #[.slice none 0 0, .slice none 0 0, .slice none 0 0, .slice none 0 0, .slice none 0 0] 28 ?_; intro gb143 hg w9 hbox hb; have BK143 := aM (hbox); have GW143 := szG hg (uL HB); have GE143 := szG hg (uL HB); have NB141_143 := neL hg BK141; have NB143_141 := neG hg BK141; have NB142_143 := neL hg BK142; have NB143_142 := neG hg BK142; replace BK141 := blkB BK141 hb; replace BK142 := blkB BK142 hb; replace HB := aM (below_step (uL HB) hb); clear hb hbox hg; have hnb10 := NB141_142.out; have hnc10 := NB142_141.out; have hnb11 := NB141_143.out; have hnc11 := NB143_141.out; have hcz12_0 := czA BK141.out 0 (.slice A0_0 l0_0.length c0_0); have hcz12_1 := czA BK141.out 1 (.slice A0_1 l0_1.length c0_1); have hcz12_2 := czA BK141.out 2 (.slice A0_2 l0_2.length c0_2); have hcz12_3 := czA BK141.out 3 (.slice A0_3 l0_3.length c0_3); have hcz12_4 := czA BK141.out 4 (.slice A0_4 l0_4.length c0_4); have hfz12_0 := blk_frozen BK141.out 0; have hfz12_1 := blk_frozen BK141.out 1; have hfz12_2 := blk_frozen BK141.out 2; have hfz12_3 := blk_frozen BK141.out 3; have hfz12_4 := blk_frozen BK141.out 4) | ((with_reducible refine gate_callee (f := 12) rfl ?_); refine gL (some 6) Tryd.func12 #[.slice A0_0 l0_0.length c0_0] ?_; (with_reducible refine (laws_toIntS.calls k _ _ l0_0 t144 _ ?side1 ?side2 A2.out).mono ?_); (case side1 => exact uC HR0_0 HB); (case side2 => exact HC0_0.out); rintro e w13 ⟨v145, rfl, ho0, hb⟩; refine ⟨_, rfl, ?_⟩; have HO146 := aM (Kd.R_lower ho0 (below_size (uL HB))); replace BK141 := blkB BK141 hb; replace BK142 := blkB BK142 hb; replace BK143 := blkB BK143 hb; replace HB := aM (below_step (uL HB) hb); try clear hb ho0; obtain ⟨Ao14, co14, eo14⟩ := Kd.R_slice HO146.out; subst eo14; have hnb15 := NB143_142.out; have hnc15 := NB142_143.out; have hcz16_0 := czA BK143.out 0 (.slice none 0 0); have hcz16_1 := czA BK143.out 1 (.slice none 0 0); have hcz16_2 := czA BK143.out 2 (.slice none 0 0); have hcz16_3 := czA BK143.out 3 (.slice none 0 0); have hcz16_4 := czA BK143.out 4 (.slice none 0 0); have hfz16_0 := blk_frozen BK143.out 0; have hfz16_1 := blk_frozen BK143.out 1; have hfz16_2 := blk_frozen BK143.out 2; have hfz16_3 := blk_frozen BK143.out 3; have hfz16_4 := blk_frozen BK143.out 4; have hcz17_0 := czA BK141.out 0 (.slice A0_0 l0_0.length c0_0); have hcz17_1 := czA BK141.out 1 (.slice A0_1 l0_1.length c0_1); have hcz17_2 := czA BK141.out 2 (.slice A0_2 l0_2.length c0_2); have hcz17_3 := czA BK141.out 3 (.slice A0_3 l0_3.length c0_3); have hcz17_4 := czA BK141.out 4 (.slice A0_4 l0_4.length c0_4); have hfz17_0 := blk_frozen BK141.out 0; have hfz17_1 := blk_frozen BK141.out 1; have hfz17_2 := blk_frozen BK141.out 2; have hfz17_3 := blk_frozen BK141.out 3; have hfz17_4 := blk_frozen BK141.out 4) | ((with_reducible refine gate_callee (f := 12) rfl ?_); refine gL (some 10) Tryd.func12 #[.slice A0_1 l0_1.length c0_1] ?_; (with_reducible refine (laws_toIntS.calls k _ _ l0_1 t147 _ ?side1 ?side2 A3.out).mono ?_); (case side1 => exact Kd.C_below HR0_1.out (uL HB)); (case side2 => exact HC0_1.out); rintro e w18 ⟨v148, rfl, ho0, hb⟩; refine ⟨_, rfl, ?_⟩; have HO149 := aM (Kd.R_lower (Kd.R_new' ho0 (Kd.R_lt (by (with_reducible repeat first | apply rA | apply rN | apply rD); exact (Kd.R_mono (Kd.R_far (p := ⟨gb143, 0, none⟩) (Kd.R_types HO146.out BK143.out (by decide)) (fun _ hk => hk.2) (.slice Ao14 t144.length co14)) (fun _ h_ => h_.1))))) (below_size (uL HB))); replace HO146 := aM (Kd.R_elder' (by (with_reducible repeat first | apply rA | apply rN | apply rD); exact (Kd.R_mono (Kd.R_far (p := ⟨gb143, 0, none⟩) (Kd.R_types HO146.out BK143.out (by decide)) (fun _ hk => hk.2) (.slice Ao14 t144.length co14)) (fun _ h_ => h_.1))) (Kd.R_base ho0) hb); replace BK141 := blkB BK141 hb; replace BK142 := blkB BK142 hb; replace BK143 := aM (blk_below (g := gb143) (o := .cells #[.slice Ao14 t144.length co14, .slice none 0 0, .slice none 0 0, .slice none 0 0, .slice none 0 0] 28 (0, 0)) (by refine nB ?_; refine blk_put (cs := #[.slice none 0 0, .slice none 0 0, .slice none 0 0, .slice none 0 0, .slice none 0 0]) ?_ 0 _ rfl; exact nB BK143.out) hb); replace HB := aM (below_step (uL HB) hb); try clear hb ho0; obtain ⟨Ao19, co19, eo19⟩ := Kd.R_slice HO149.out; subst eo19; have hcz20_0 := czA BK143.out 0 (.slice Ao14 t144.length co14); have hcz20_1 := czA BK143.out 1 (.slice none 0 0); have hcz20_2 := czA BK143.out 2 (.slice none 0 0); have hcz20_3 := czA BK143.out 3 (.slice none 0 0); have hcz20_4 := czA BK143.out 4 (.slice none 0 0); have hfz20_0 := blk_frozen BK143.out 0; have hfz20_1 := blk_frozen BK143.out 1; have hfz20_2 := blk_frozen BK143.out 2; have hfz20_3 := blk_frozen BK143.out 3; have hfz20_4 := blk_frozen BK143.out 4; have hcz21_0 := czA BK141.out 0 (.slice A0_0 l0_0.length c0_0); have hcz21_1 := czA BK141.out 1 (.slice A0_1 l0_1.length c0_1); have hcz21_2 := czA BK141.out 2 (.slice A0_2 l0_2.length c0_2); have hcz21_3 := czA BK141.out 3 (.slice A0_3 l0_3.length c0_3); have hcz21_4 := czA BK141.out 4 (.slice A0_4 l0_4.length c0_4); have hfz21_0 := blk_frozen BK141.out 0; have hfz21_1 := blk_frozen BK141.out 1; have hfz21_2 := blk_frozen BK141.out 2; have hfz21_3 := blk_frozen BK141.out 3; have hfz21_4 := blk_frozen BK141.out 4) | ((with_reducible refine gate_callee (f := 12) rfl ?_); refine gL (some 14) Tryd.func12 #[.slice A0_2 l0_2.length c0_2] ?_; (with_reducible refine (laws_toIntS.calls k _ _ l0_2 t150 _ ?side1 ?side2 A4.out).mono ?_); (case side1 => exact Kd.C_below HR0_2.out (uL HB)); (case side2 => exact HC0_2.out); rintro e w22 ⟨v151, rfl, ho0, hb⟩; refine ⟨_, rfl, ?_⟩; have HO152 := aM (Kd.R_lower (Kd.R_new' (Kd.R_new' ho0 (Kd.R_lt (by (with_reducible repeat first | apply rA | apply rN | apply rD); exact (Kd.R_mono (Kd.R_far (p := ⟨gb143, 1, none⟩) (Kd.R_types HO146.out BK143.out (by decide)) (fun _ hk => hk.2) (.slice Ao19 t147.length co19)) (fun _ h_ => h_.1))))) (Kd.R_lt (by (with_reducible repeat first | apply rA | apply rN | apply rD); exact (Kd.R_mono (Kd.R_far (p := ⟨gb143, 1, none⟩) (Kd.R_types HO149.out BK143.out (by decide)) (fun _ hk => hk.2) (.slice Ao19 t147.length co19)) (fun _ h_ => h_.1))))) (below_size (uL HB))); replace HO146 := aM (Kd.R_elder' (by (with_reducible repeat first | apply rA | apply rN | apply rD); exact (Kd.R_mono (Kd.R_far (p := ⟨gb143, 1, none⟩) (Kd.R_types HO146.out BK143.out (by decide)) (fun _ hk => hk.2) (.slice Ao19 t147.length co19)) (fun _ h_ => h_.1))) (Kd.R_base ho0) hb); replace HO149 := aM (Kd.R_elder' (by (with_reducible repeat first | apply rA | apply rN | apply rD); exact (Kd.R_mono (Kd.R_far (p := ⟨gb143, 1, none⟩) (Kd.R_types HO149.out BK143.out (by decide)) (fun _ hk => hk.2) (.slice Ao19 t147.length co19)) (fun _ h_ => h_.1))) (Kd.R_base ho0) hb); replace BK141 := blkB BK141 hb; replace BK142 := blkB BK142 hb; replace BK143 := aM (blk_below (g := gb143) (o := .cells #[.slice Ao14 t144.length co14, .slice Ao19 t147.length co19, .slice none 0 0, .slice none 0 0, .slice none 0 0] 28 (0, 0)) (by refine nB ?_; refine blk_put (cs := #[.slice Ao14 t144.length co14, .slice none 0 0, .slice none 0 0, .slice none 0 0, .slice none 0 0]) ?_ 1 _ rfl; exact nB BK143.out) hb); replace HB := aM (below_step (uL HB) hb); try clear hb ho0; obtain ⟨Ao23, co23, eo23⟩ := Kd.R_slice HO152.out; subst eo23; have hcz24_0 := czA BK143.out 0 (.slice Ao14 t144.length co14); have hcz24_1 := czA BK143.out 1 (.slice Ao19 t147.length co19); have hcz24_2 := czA BK143.out 2 (.slice none 0 0); have hcz24_3 := czA BK143.out 3 (.slice none 0 0); have hcz24_4 := czA BK143.out 4 (.slice none 0 0); have hfz24_0 := blk_frozen BK143.out 0; have hfz24_1 := blk_frozen BK143.out 1; have hfz24_2 := blk_frozen BK143.out 2; have hfz24_3 := blk_frozen BK143.out 3; have hfz24_4 := blk_frozen BK143.out 4; have hcz25_0 := czA BK141.out 0 (.slice A0_0 l0_0.length c0_0); have hcz25_1 := czA BK141.out 1 (.slice A0_1 l0_1.length c0_1); have hcz25_2 := czA BK141.out 2 (.slice A0_2 l0_2.length c0_2); have hcz25_3 := czA BK141.out 3 (.slice A0_3 l0_3.length c0_3); have hcz25_4 := czA BK141.out 4 (.slice A0_4 l0_4.length c0_4); have hfz25_0 := blk_frozen BK141.out 0; have hfz25_1 := blk_frozen BK141.out 1; have hfz25_2 := blk_frozen BK141.out 2; have hfz25_3 := blk_frozen BK141.out 3; have hfz25_4 := blk_frozen BK141.out 4) | ((with_reducible refine gate_callee (f := 12) rfl ?_); refine gL (some 18) Tryd.func12 #[.slice A0_3 l0_3.length c0_3] ?_; (with_reducible refine (laws_toIntS.calls k _ _ l0_3 t153 _ ?side1 ?side2 A5.out).mono ?_); (case side1 => exact Kd.C_below HR0_3.out (uL HB)); (case side2 => exact HC0_3.out); rintro e w26 ⟨v154, rfl, ho0, hb⟩; refine ⟨_, rfl, ?_⟩; have HO155 := aM (Kd.R_lower (Kd.R_new' (Kd.R_new' (Kd.R_new' ho0 (Kd.R_lt (by (with_reducible repeat first | apply rA | apply rN | apply rD); exact (Kd.R_mono (Kd.R_far (p := ⟨gb143, 2, none⟩) (Kd.R_types HO146.out BK143.out (by decide)) (fun _ hk => hk.2) (.slice Ao23 t150.length co23)) (fun _ h_ => h_.1))))) (Kd.R_lt (by (with_reducible repeat first | apply rA | apply rN | apply rD); exact (Kd.R_mono (Kd.R_far (p := ⟨gb143, 2, none⟩) (Kd.R_types HO149.out BK143.out (by decide)) (fun _ hk => hk.2) (.slice Ao23 t150.length co23)) (fun _ h_ => h_.1))))) (Kd.R_lt (by (with_reducible repeat first | apply rA | apply rN | apply rD); exact (Kd.R_mono (Kd.R_far (p := ⟨gb143, 2, none⟩) (Kd.R_types HO152.out BK143.out (by decide)) (fun _ hk => hk.2) (.slice Ao23 t150.length co23)) (fun _ h_ => h_.1))))) (below_size (uL HB))); replace HO146 := aM (Kd.R_elder' (by (with_reducible repeat first | apply rA | apply rN | apply rD); exact (Kd.R_mono (Kd.R_far (p := ⟨gb143, 2, none⟩) (Kd.R_types HO146.out BK143.out (by decide)) (fun _ hk => hk.2) (.slice Ao23 t150.length co23)) (fun _ h_ => h_.1))) (Kd.R_base ho0) hb); replace HO149 := aM (Kd.R_elder' (by (with_reducible repeat first | apply rA | apply rN | apply rD); exact (Kd.R_mono (Kd.R_far (p := ⟨gb143, 2, none⟩) (Kd.R_types HO149.out BK143.out (by decide)) (fun _ hk => hk.2) (.slice Ao23 t150.length co23)) (fun _ h_ => h_.1))) (Kd.R_base ho0) hb); replace HO152 := aM (Kd.R_elder' (by (with_reducible repeat first | apply rA | apply rN | apply rD); exact (Kd.R_mono (Kd.R_far (p := ⟨gb143, 2, none⟩) (Kd.R_types HO152.out BK143.out (by decide)) (fun _ hk => hk.2) (.slice Ao23 t150.length co23)) (fun _ h_ => h_.1))) (Kd.R_base ho0) hb); replace BK141 := blkB BK141 hb; replace BK142 := blkB BK142 hb; replace BK143 := aM (blk_below (g := gb143) (o := .cells #[.slice Ao14 t144.length co14, .slice Ao19 t147.length co19, .slice Ao23 t150.length co23, .slice none 0 0, .slice none 0 0] 28 (0, 0)) (by refine nB ?_; refine blk_put (cs := #[.slice Ao14 t144.length co14, .slice Ao19 t147.length co19, .slice none 0 0, .slice none 0 0, .slice none 0 0]) ?_ 2 _ rfl; exact nB BK143.out) hb); replace HB := aM (below_step (uL HB) hb); try clear hb ho0; obtain ⟨Ao27, co27, eo27⟩ := Kd.R_slice HO155.out; subst eo27; have hcz28_0 := czA BK143.out 0 (.slice Ao14 t144.length co14); have hcz28_1 := czA BK143.out 1 (.slice Ao19 t147.length co19); have hcz28_2 := czA BK143.out 2 (.slice Ao23 t150.length co23); have hcz28_3 := czA BK143.out 3 (.slice none 0 0); have hcz28_4 := czA BK143.out 4 (.slice none 0 0); have hfz28_0 := blk_frozen BK143.out 0; have hfz28_1 := blk_frozen BK143.out 1; have hfz28_2 := blk_frozen BK143.out 2; have hfz28_3 := blk_frozen BK143.out 3; have hfz28_4 := blk_frozen BK143.out 4; have hcz29_0 := czA BK141.out 0 (.slice A0_0 l0_0.length c0_0); have hcz29_1 := czA BK141.out 1 (.slice A0_1 l0_1.length c0_1); have hcz29_2 := czA BK141.out 2 (.slice A0_2 l0_2.length c0_2); have hcz29_3 := czA BK141.out 3 (.slice A0_3 l0_3.length c0_3); have hcz29_4 := czA BK141.out 4 (.slice A0_4 l0_4.length c0_4); have hfz29_0 := blk_frozen BK141.out 0; have hfz29_1 := blk_frozen BK141.out 1; have hfz29_2 := blk_frozen BK141.out 2; have hfz29_3 := blk_frozen BK141.out 3; have hfz29_4 := blk_frozen BK141.out 4) | ((with_reducible refine gate_callee (f := 12) rfl ?_); refine gL (some 22) Tryd.func12 #[.slice A0_4 l0_4.length c0_4] ?_; (with_reducible refine (laws_toIntS.calls k _ _ l0_4 t156 _ ?side1 ?side2 A6.out).mono ?_); (case side1 => exact Kd.C_below HR0_4.out (uL HB)); (case side2 => exact HC0_4.out); rintro e w30 ⟨v157, rfl, ho0, hb⟩; refine ⟨_, rfl, ?_⟩; have HO158 := aM (Kd.R_lower (Kd.R_new' (Kd.R_new' (Kd.R_new' (Kd.R_new' ho0 (Kd.R_lt (by (with_reducible repeat first | apply rA | apply rN | apply rD); exact (Kd.R_mono (Kd.R_far (p := ⟨gb143, 3, none⟩) (Kd.R_types HO146.out BK143.out (by decide)) (fun _ hk => hk.2) (.slice Ao27 t153.length co27)) (fun _ h_ => h_.1))))) (Kd.R_lt (by (with_reducible repeat first | apply rA | apply rN | apply rD); exact (Kd.R_mono (Kd.R_far (p := ⟨gb143, 3, none⟩) (Kd.R_types HO149.out BK143.out (by decide)) (fun _ hk => hk.2) (.slice Ao27 t153.length co27)) (fun _ h_ => h_.1))))) (Kd.R_lt (by (with_reducible repeat first | apply rA | apply rN | apply rD); exact (Kd.R_mono (Kd.R_far (p := ⟨gb143, 3, none⟩) (Kd.R_types HO152.out BK143.out (by decide)) (fun _ hk => hk.2) (.slice Ao27 t153.length co27)) (fun _ h_ => h_.1))))) (Kd.R_lt (by (with_reducible repeat first | apply rA | apply rN | apply rD); exact (Kd.R_mono (Kd.R_far (p := ⟨gb143, 3, none⟩) (Kd.R_types HO155.out BK143.out (by decide)) (fun _ hk => hk.2) (.slice Ao27 t153.length co27)) (fun _ h_ => h_.1))))) (below_size (uL HB))); replace HO146 := aM (Kd.R_elder' (by (with_reducible repeat first | apply rA | apply rN | apply rD); exact (Kd.R_mono (Kd.R_far (p := ⟨gb143, 3, none⟩) (Kd.R_types HO146.out BK143.out (by decide)) (fun _ hk => hk.2) (.slice Ao27 t153.length co27)) (fun _ h_ => h_.1))) (Kd.R_base ho0) hb); replace HO149 := aM (Kd.R_elder' (by (with_reducible repeat first | apply rA | apply rN | apply rD); exact (Kd.R_mono (Kd.R_far (p := ⟨gb143, 3, none⟩) (Kd.R_types HO149.out BK143.out (by decide)) (fun _ hk => hk.2) (.slice Ao27 t153.length co27)) (fun _ h_ => h_.1))) (Kd.R_base ho0) hb); replace HO152 := aM (Kd.R_elder' (by (with_reducible repeat first | apply rA | apply rN | apply rD); exact (Kd.R_mono (Kd.R_far (p := ⟨gb143, 3, none⟩) (Kd.R_types HO152.out BK143.out (by decide)) (fun _ hk => hk.2) (.slice Ao27 t153.length co27)) (fun _ h_ => h_.1))) (Kd.R_base ho0) hb); replace HO155 := aM (Kd.R_elder' (by (with_reducible repeat first | apply rA | apply rN | apply rD); exact (Kd.R_mono (Kd.R_far (p := ⟨gb143, 3, none⟩) (Kd.R_types HO155.out BK143.out (by decide)) (fun _ hk => hk.2) (.slice Ao27 t153.length co27)) (fun _ h_ => h_.1))) (Kd.R_base ho0) hb); replace BK141 := blkB BK141 hb; replace BK142 := blkB BK142 hb; replace BK143 := aM (blk_below (g := gb143) (o := .cells #[.slice Ao14 t144.length co14, .slice Ao19 t147.length co19, .slice Ao23 t150.length co23, .slice Ao27 t153.length co27, .slice none 0 0] 28 (0, 0)) (by refine nB ?_; refine blk_put (cs := #[.slice Ao14 t144.length co14, .slice Ao19 t147.length co19, .slice Ao23 t150.length co23, .slice none 0 0, .slice none 0 0]) ?_ 3 _ rfl; exact nB BK143.out) hb); replace HB := aM (below_step (uL HB) hb); try clear hb ho0; obtain ⟨Ao31, co31, eo31⟩ := Kd.R_slice HO158.out; subst eo31; have hcz32_0 := czA BK143.out 0 (.slice Ao14 t144.length co14); have hcz32_1 := czA BK143.out 1 (.slice Ao19 t147.length co19); have hcz32_2 := czA BK143.out 2 (.slice Ao23 t150.length co23); have hcz32_3 := czA BK143.out 3 (.slice Ao27 t153.length co27); have hcz32_4 := czA BK143.out 4 (.slice none 0 0); have hfz32_0 := blk_frozen BK143.out 0; have hfz32_1 := blk_frozen BK143.out 1; have hfz32_2 := blk_frozen BK143.out 2; have hfz32_3 := blk_frozen BK143.out 3; have hfz32_4 := blk_frozen BK143.out 4; have hcz33_0 := czA BK142.out 0 (.slice none 0 0); have hcz33_1 := czA BK142.out 1 (.slice none 0 0); have hcz33_2 := czA BK142.out 2 (.slice none 0 0); have hcz33_3 := czA BK142.out 3 (.slice none 0 0); have hcz33_4 := czA BK142.out 4 (.slice none 0 0); have hfz33_0 := blk_frozen BK142.out 0; have hfz33_1 := blk_frozen BK142.out 1; have hfz33_2 := blk_frozen BK142.out 2; have hfz33_3 := blk_frozen BK142.out 3; have hfz33_4 := blk_frozen BK142.out 4))
 refine bodyPost_ret (results_cell_row rfl _ _ gb142 28 #[.slice Ao14 t144.length co14, .slice Ao19 t147.length co19, .slice Ao23 t150.length co23, .slice Ao27 t153.length co27, .slice Ao31 t156.length co31] (0, 0) _ rfl (by refine nB ?_; refine blk_put (cs := #[.slice Ao14 t144.length co14, .slice Ao19 t147.length co19, .slice Ao23 t150.length co23, .slice Ao27 t153.length co27, .slice none 0 0]) ?_ 4 _ rfl; refine nB ?_; refine blk_put (cs := #[.slice Ao14 t144.length co14, .slice Ao19 t147.length co19, .slice Ao23 t150.length co23, .slice none 0 0, .slice none 0 0]) ?_ 3 _ rfl; refine nB ?_; refine blk_put (cs := #[.slice Ao14 t144.length co14, .slice Ao19 t147.length co19, .slice none 0 0, .slice none 0 0, .slice none 0 0]) ?_ 2 _ rfl; refine nB ?_; refine blk_put (cs := #[.slice Ao14 t144.length co14, .slice none 0 0, .slice none 0 0, .slice none 0 0, .slice none 0 0]) ?_ 1 _ rfl; refine nB ?_; refine blk_put (cs := #[.slice none 0 0, .slice none 0 0, .slice none 0 0, .slice none 0 0, .slice none 0 0]) ?_ 0 _ rfl; refine nB ?_; refine blk_far ?_ NB142_143.out _; exact nB BK142.out) Tryd.underlying28 rfl (by kernel_rfl)) rfl ?_
 exact ⟨_, _, _, _, _, by first | rfl | (simp [errW_none, errW_some] <;> rfl) | (simp [*, errW_none, errW_some] <;> rfl), by (with_reducible repeat first | apply rA | apply rN | apply rD); exact Kd.R_mono (Kd.R_far (p := ⟨gb142, 4, none⟩) (Kd.R_far (p := ⟨gb142, 3, none⟩) (Kd.R_far (p := ⟨gb142, 2, none⟩) (Kd.R_far (p := ⟨gb142, 1, none⟩) (Kd.R_far (p := ⟨gb142, 0, none⟩) (Kd.R_far (p := ⟨gb143, 4, none⟩) (Kd.R_types (Kd.R_types HO146.out BK143.out (by decide)) BK142.out (by decide)) (fun _ hk => hk.1.2) (.slice Ao31 t156.length co31)) (fun _ hk => hk.2) (.slice Ao14 t144.length co14)) (fun _ hk => hk.2) (.slice Ao19 t147.length co19)) (fun _ hk => hk.2) (.slice Ao23 t150.length co23)) (fun _ hk => hk.2) (.slice Ao27 t153.length co27)) (fun _ hk => hk.2) (.slice Ao31 t156.length co31)) (fun _ hk => ⟨hk.1.1.1.1.1.2, ⟨hk.1.1.1.1.2, ⟨hk.1.1.1.2, hk.1.1.2⟩⟩⟩), by (with_reducible repeat first | apply rA | apply rN | apply rD); exact Kd.R_mono (Kd.R_far (p := ⟨gb142, 4, none⟩) (Kd.R_far (p := ⟨gb142, 3, none⟩) (Kd.R_far (p := ⟨gb142, 2, none⟩) (Kd.R_far (p := ⟨gb142, 1, none⟩) (Kd.R_far (p := ⟨gb142, 0, none⟩) (Kd.R_far (p := ⟨gb143, 4, none⟩) (Kd.R_types (Kd.R_types HO149.out BK143.out (by decide)) BK142.out (by decide)) (fun _ hk => hk.1.2) (.slice Ao31 t156.length co31)) (fun _ hk => hk.2) (.slice Ao14 t144.length co14)) (fun _ hk => hk.2) (.slice Ao19 t147.length co19)) (fun _ hk => hk.2) (.slice Ao23 t150.length co23)) (fun _ hk => hk.2) (.slice Ao27 t153.length co27)) (fun _ hk => hk.2) (.slice Ao31 t156.length co31)) (fun _ hk => ⟨hk.1.1.1.1.1.2, ⟨hk.1.1.1.1.2, ⟨hk.1.1.1.2, hk.1.1.2⟩⟩⟩), by (with_reducible repeat first | apply rA | apply rN | apply rD); exact Kd.R_mono (Kd.R_far (p := ⟨gb142, 4, none⟩) (Kd.R_far (p := ⟨gb142, 3, none⟩) (Kd.R_far (p := ⟨gb142, 2, none⟩) (Kd.R_far (p := ⟨gb142, 1, none⟩) (Kd.R_far (p := ⟨gb142, 0, none⟩) (Kd.R_far (p := ⟨gb143, 4, none⟩) (Kd.R_types (Kd.R_types HO152.out BK143.out (by decide)) BK142.out (by decide)) (fun _ hk => hk.1.2) (.slice Ao31 t156.length co31)) (fun _ hk => hk.2) (.slice Ao14 t144.length co14)) (fun _ hk => hk.2) (.slice Ao19 t147.length co19)) (fun _ hk => hk.2) (.slice Ao23 t150.length co23)) (fun _ hk => hk.2) (.slice Ao27 t153.length co27)) (fun _ hk => hk.2) (.slice Ao31 t156.length co31)) (fun _ hk => ⟨hk.1.1.1.1.1.2, ⟨hk.1.1.1.1.2, ⟨hk.1.1.1.2, hk.1.1.2⟩⟩⟩), by (with_reducible repeat first | apply rA | apply rN | apply rD); exact Kd.R_mono (Kd.R_far (p := ⟨gb142, 4, none⟩) (Kd.R_far (p := ⟨gb142, 3, none⟩) (Kd.R_far (p := ⟨gb142, 2, none⟩) (Kd.R_far (p := ⟨gb142, 1, none⟩) (Kd.R_far (p := ⟨gb142, 0, none⟩) (Kd.R_far (p := ⟨gb143, 4, none⟩) (Kd.R_types (Kd.R_types HO155.out BK143.out (by decide)) BK142.out (by decide)) (fun _ hk => hk.1.2) (.slice Ao31 t156.length co31)) (fun _ hk => hk.2) (.slice Ao14 t144.length co14)) (fun _ hk => hk.2) (.slice Ao19 t147.length co19)) (fun _ hk => hk.2) (.slice Ao23 t150.length co23)) (fun _ hk => hk.2) (.slice Ao27 t153.length co27)) (fun _ hk => hk.2) (.slice Ao31 t156.length co31)) (fun _ hk => ⟨hk.1.1.1.1.1.2, ⟨hk.1.1.1.1.2, ⟨hk.1.1.1.2, hk.1.1.2⟩⟩⟩), by (with_reducible repeat first | apply rA | apply rN | apply rD); exact Kd.R_mono (Kd.R_far (p := ⟨gb142, 4, none⟩) (Kd.R_far (p := ⟨gb142, 3, none⟩) (Kd.R_far (p := ⟨gb142, 2, none⟩) (Kd.R_far (p := ⟨gb142, 1, none⟩) (Kd.R_far (p := ⟨gb142, 0, none⟩) (Kd.R_far (p := ⟨gb143, 4, none⟩) (Kd.R_types (Kd.R_types HO158.out BK143.out (by decide)) BK142.out (by decide)) (fun _ hk => hk.1.2) (.slice Ao31 t156.length co31)) (fun _ hk => hk.2) (.slice Ao14 t144.length co14)) (fun _ hk => hk.2) (.slice Ao19 t147.length co19)) (fun _ hk => hk.2) (.slice Ao23 t150.length co23)) (fun _ hk => hk.2) (.slice Ao27 t153.length co27)) (fun _ hk => hk.2) (.slice Ao31 t156.length co31)) (fun _ hk => ⟨hk.1.1.1.1.1.2, ⟨hk.1.1.1.1.2, ⟨hk.1.1.1.2, hk.1.1.2⟩⟩⟩), uL HB⟩

/-! ### impl_CronOk: function 13 (given by the session) -/
/-- ascending numbers of a .. b behind what p tells of -/
def impl_CronOk.rise (a b : Int) : Option Int → List Int → Bool
 | _, [] => true
 | p, x :: xs => decide (a ≤ x ∧ x ≤ b) && ((match p with | none => true | some y => decide (y < x)) && impl_CronOk.rise a b (some x) xs)
def impl_CronOk.prev (l : List Int) (i : Nat) : Option Int := if i = 0 then none else some (l.getD (i - 1) 0)
theorem impl_CronOk.rise_at (a b : Int) (l : List Int) (i : Nat) (h : i < l.length) :
 impl_CronOk.rise a b (impl_CronOk.prev l i) (l.drop i) = (decide (a ≤ l.getD i 0 ∧ l.getD i 0 ≤ b) && ((if i = 0 then true else decide (l.getD (i - 1) 0 < l.getD i 0)) && impl_CronOk.rise a b (impl_CronOk.prev l (i + 1)) (l.drop (i + 1)))) := by
 have e : impl_CronOk.prev l (i + 1) = some (l.getD i 0) := by simp [impl_CronOk.prev]
 have e2 : l.drop i = l.getD i 0 :: l.drop (i + 1) := by
  rw [List.drop_eq_getElem_cons h, List.getD_eq_getElem?_getD, List.getElem?_eq_getElem h]
  rfl
 rw [e, e2]
 simp only [impl_CronOk.rise, impl_CronOk.prev]
 by_cases h0 : i = 0
 ·simp [h0]
 ·simp [h0]
def impl_CronOk.fld (a b : Int) (l : List Int) : Bool := decide (1 ≤ l.length) && impl_CronOk.rise a b none l
def impl_CronOk.f (l0 l1 l2 l3 l4 : List Int) : Option Bool := some (impl_CronOk.fld 0 59 l0 && (impl_CronOk.fld 0 23 l1 && (impl_CronOk.fld 1 31 l2 && (impl_CronOk.fld 1 12 l3 && impl_CronOk.fld 0 6 l4))))
/-- the fields' addresses -/
theorem impl_CronOk.fields (g : Nat) (w : World) :
 Calls Tryd.prog 14 #[.pointer (some ⟨g, 0, none⟩)] w fun e w' => e = .returned (.agg #[.pointer (some ⟨g, 0, none⟩), .pointer (some ⟨g, 1, none⟩), .pointer (some ⟨g, 2, none⟩), .pointer (some ⟨g, 3, none⟩), .pointer (some ⟨g, 4, none⟩)]) ∧ Below w.heap.size w w' := by
 have HB := Aside0.mk (Below.refl w.heap.size w)
 go_enter Tryd.func14, Tryd.ntmps14
 go_wp2_with ((with_reducible refine gate_dst (N := 2) rfl ?_); refine bxE 2 #[.pointer none, .pointer none, .pointer none, .pointer none, .pointer none] 38 ?_; intro gb hg w2 hbox hb; have HB2 := Aside0.mk hb; have BK := Aside0.mk hbox; have GE := Aside0.mk (show w.heap.size ≤ gb by rw [hg]; exact Nat.le_refl _); clear hb hbox hg)
 go_still_tail 16, (by kernel_rfl)
 have HB3 := Aside0.mk (below_drew1 HB2.out)
 have BK3 := Aside0.mk (blk_drew BK.out)
 clear HB2 BK
 refine store_blk rfl rfl 38 (.tmp 2) (.tmp 18) rfl (.agg #[.pointer (some ⟨g, 0, none⟩), .pointer (some ⟨g, 1, none⟩), .pointer (some ⟨g, 2, none⟩), .pointer (some ⟨g, 3, none⟩), .pointer (some ⟨g, 4, none⟩)]) [.pointer (some ⟨g, 0, none⟩), .pointer (some ⟨g, 1, none⟩), .pointer (some ⟨g, 2, none⟩), .pointer (some ⟨g, 3, none⟩), .pointer (some ⟨g, 4, none⟩)] rfl rfl rfl (by kernel_rfl) BK3.out (by simp) (by intro q hq; simp at hq; rcases hq with rfl | rfl | rfl | rfl | rfl <;> rfl) ?_
 intro w4 cur hc hcl hg
 have HG := Aside0.mk hg
 obtain rfl : cur = #[.pointer (some ⟨g, 0, none⟩), .pointer (some ⟨g, 1, none⟩), .pointer (some ⟨g, 2, none⟩), .pointer (some ⟨g, 3, none⟩), .pointer (some ⟨g, 4, none⟩)] := Array.toList_inj.mp (hcl.trans rfl)
 have BK4 := Aside0.mk hc
 clear hcl hc hg BK3
 go_wp2
 refine bodyPost_ret (results_cell_row rfl _ _ gb 38 _ (0, 0) _ rfl BK4.out Tryd.underlying38 rfl (by kernel_rfl)) rfl ⟨rfl, ?_⟩
 exact (HB3.out).grown HG.out (below_size HB3.out) (fun k hk => by injection hk with hk; subst hk; exact GE.out)
/-- the bounds of a field -/
def impl_CronOk.lo (i : Nat) : Int := if i = 2 ∨ i = 3 then 1 else 0
def impl_CronOk.hi (i : Nat) : Int := if i = 0 then 59 else if i = 1 then 23 else if i = 2 then 31 else if i = 3 then 12 else 6
set_option maxHeartbeats 2000000 in
theorem impl_CronOk.bnd (i : Nat) (w : World) (hi : i < 5) :
 Calls Tryd.prog 21 #[.int .i64 (i : Int)] w fun e w' => e = .returned (.tuple #[.int .i64 (impl_CronOk.lo i), .int .i64 (impl_CronOk.hi i)]) ∧ w = w' := by
 obtain rfl | rfl | rfl | rfl | rfl : i = 0 ∨ i = 1 ∨ i = 2 ∨ i = 3 ∨ i = 4 := by omega
 all_goals
  go_enter Tryd.func21, Tryd.ntmps21
  go_wp2
  go_ret2
  exact ⟨rfl, rfl⟩
theorem impl_CronOk.inr (x a b : Int) (z : Bool) (w : World) (hz : decide (a ≤ x ∧ x ≤ b) = z) :
 Calls Tryd.prog 22 #[.int .i64 x, .int .i64 a, .int .i64 b] w fun e w' => e = .returned (.bool z) ∧ w = w' := by
 by_cases h1 : a ≤ x
 ·by_cases h2 : x ≤ b
  ·rw [decide_eq_true (show a ≤ x ∧ x ≤ b from ⟨h1, h2⟩)] at hz
   subst hz
   go_enter Tryd.func22, Tryd.ntmps22
   go_wp2
   go_ret
   exact ⟨rfl, rfl⟩
  ·rw [decide_eq_false (show ¬ (a ≤ x ∧ x ≤ b) from fun h => h2 h.2)] at hz
   subst hz
   go_enter Tryd.func22, Tryd.ntmps22
   go_wp2
   go_ret
   exact ⟨rfl, rfl⟩
 ·rw [decide_eq_false (show ¬ (a ≤ x ∧ x ≤ b) from fun h => h1 h.1)] at hz
  subst hz
  go_enter Tryd.func22, Tryd.ntmps22
  go_wp2
  go_ret
  exact ⟨rfl, rfl⟩
/-- the field's list -/
def impl_CronOk.nth (l0 l1 l2 l3 l4 : List Int) (i : Nat) : List Int := if i = 0 then l0 else if i = 1 then l1 else if i = 2 then l2 else if i = 3 then l3 else l4
/-- the fields of the last d places are as they are wanted -/
def impl_CronOk.rest (L : Nat → List Int) : Nat → Bool
 | 0 => true
 | d + 1 => impl_CronOk.fld (impl_CronOk.lo (4 - d)) (impl_CronOk.hi (4 - d)) (L (4 - d)) && impl_CronOk.rest L d
theorem impl_CronOk.rest_at (L : Nat → List Int) (i : Nat) (h : i < 5) : impl_CronOk.rest L (5 - i) = (impl_CronOk.fld (impl_CronOk.lo i) (impl_CronOk.hi i) (L i) && impl_CronOk.rest L (5 - (i + 1))) := by
 have e : 5 - i = (5 - (i + 1)) + 1 := by omega
 rw [e]
 show (impl_CronOk.fld (impl_CronOk.lo (4 - (5 - (i + 1)))) (impl_CronOk.hi (4 - (5 - (i + 1)))) (L (4 - (5 - (i + 1)))) && _) = _
 rw [show 4 - (5 - (i + 1)) = i by omega]
theorem impl_CronOk.index5 (g i : Nat) (h : i < 5) (W : World) : (Instr.index 38 (.agg #[.pointer (some ⟨g, 0, none⟩), .pointer (some ⟨g, 1, none⟩), .pointer (some ⟨g, 2, none⟩), .pointer (some ⟨g, 3, none⟩), .pointer (some ⟨g, 4, none⟩)]) (.int .i64 (i : Int))).run Tryd.prog W = .ok (.pointer (some ⟨g, i, none⟩)) W := by
 obtain rfl | rfl | rfl | rfl | rfl : i = 0 ∨ i = 1 ∨ i = 2 ∨ i = 3 ∨ i = 4 := by omega
 all_goals kernel_rfl
/-- what lies behind a field -/
def impl_CronOk.Row (W : World) (g : Nat) (l : List Int) (i : Nat) : Prop := ∃ A c, W.cell? ⟨g, i, none⟩ = some (.slice A l.length c) ∧ l.length ≤ c ∧ Kd.C (Kd.int .i64) W A l.length l
theorem impl_CronOk.fld_nil (a b : Int) (l : List Int) (h : l.length = 0) : impl_CronOk.fld a b l = false := by
 unfold impl_CronOk.fld
 rw [decide_eq_false (by omega), Bool.false_and]
theorem impl_CronOk.fld_rise (a b : Int) (l : List Int) (h : ¬ l.length = 0) : impl_CronOk.fld a b l = impl_CronOk.rise a b none l := by
 unfold impl_CronOk.fld
 rw [decide_eq_true (by omega), Bool.true_and]
set_option maxHeartbeats 8000000 in
set_option maxRecDepth 100000 in
theorem impl_CronOk.calls (A0 : Option Addr) (c0 : Nat) (l0 : List Int) (A1 : Option Addr) (c1 : Nat) (l1 : List Int) (A2 : Option Addr) (c2 : Nat) (l2 : List Int) (A3 : Option Addr) (c3 : Nat) (l3 : List Int) (A4 : Option Addr) (c4 : Nat) (l4 : List Int) (r : Bool) (w : World)
 (hr0 : Kd.C (Kd.int .i64) w A0 l0.length l0) (hc0 : l0.length ≤ c0) (hr1 : Kd.C (Kd.int .i64) w A1 l1.length l1) (hc1 : l1.length ≤ c1) (hr2 : Kd.C (Kd.int .i64) w A2 l2.length l2) (hc2 : l2.length ≤ c2) (hr3 : Kd.C (Kd.int .i64) w A3 l3.length l3) (hc3 : l3.length ≤ c3) (hr4 : Kd.C (Kd.int .i64) w A4 l4.length l4) (hc4 : l4.length ≤ c4)
 (h : impl_CronOk.f l0 l1 l2 l3 l4 = some r) :
 Calls Tryd.prog 13 #[.agg #[.slice A0 l0.length c0, .slice A1 l1.length c1, .slice A2 l2.length c2, .slice A3 l3.length c3, .slice A4 l4.length c4]] w fun e w' => e = .returned (.bool r) ∧ Below w.heap.size w w' := by
 have hL : impl_CronOk.rest (impl_CronOk.nth l0 l1 l2 l3 l4) (5 - 0) = r := Option.some.inj ((show some (impl_CronOk.rest (impl_CronOk.nth l0 l1 l2 l3 l4) (5 - 0)) = impl_CronOk.f l0 l1 l2 l3 l4 by simp [impl_CronOk.rest, impl_CronOk.f, impl_CronOk.nth, impl_CronOk.lo, impl_CronOk.hi]).trans h)
 clear h
 have HL := Aside0.mk hL
 clear hL
 have HR0 := Aside0.mk hr0
 have HR1 := Aside0.mk hr1
 have HR2 := Aside0.mk hr2
 have HR3 := Aside0.mk hr3
 have HR4 := Aside0.mk hr4
 clear hr0 hr1 hr2 hr3 hr4
 have HC := Aside0.mk (⟨hc0, hc1, hc2, hc3, hc4⟩ : l0.length ≤ c0 ∧ l1.length ≤ c1 ∧ l2.length ≤ c2 ∧ l3.length ≤ c3 ∧ l4.length ≤ c4)
 clear hc0 hc1 hc2 hc3 hc4
 go_enter Tryd.func13, Tryd.ntmps13
 go_wp2_with (first | ((with_reducible refine gate_dst (N := 1) rfl ?_); refine bxE 1 #[.slice A0 l0.length c0, .slice A1 l1.length c1, .slice A2 l2.length c2, .slice A3 l3.length c3, .slice A4 l4.length c4] 28 ?_; intro gb hg w2 hbox hb; have HB2 := Aside0.mk hb; have BK := Aside0.mk hbox; clear hb hbox hg) | (go_at_call 14; refine (impl_CronOk.fields _ _).mono ?_; rintro e w4 ⟨rfl, hb4⟩; have HB4 := Aside0.mk hb4; clear hb4))
 have HB := Aside0.mk (below_step HB2.out HB4.out)
 have BK4 := Aside0.mk (blk_below BK.out HB4.out)
 have HRow : Aside0 (∀ i, i < 5 → impl_CronOk.Row w4 gb (impl_CronOk.nth l0 l1 l2 l3 l4 i) i) := ⟨by
  have b : ∀ {A n l}, Kd.C (Kd.int .i64) w A n l → Kd.C (Kd.int .i64) w4 A n l := fun h => Kd.C_below h HB.out
  intro i hi
  obtain rfl | rfl | rfl | rfl | rfl : i = 0 ∨ i = 1 ∨ i = 2 ∨ i = 3 ∨ i = 4 := by omega
  ·exact ⟨_, _, (blk_cell BK4.out 0).trans rfl, HC.out.1, b HR0.out⟩
  ·exact ⟨_, _, (blk_cell BK4.out 1).trans rfl, HC.out.2.1, b HR1.out⟩
  ·exact ⟨_, _, (blk_cell BK4.out 2).trans rfl, HC.out.2.2.1, b HR2.out⟩
  ·exact ⟨_, _, (blk_cell BK4.out 3).trans rfl, HC.out.2.2.2.1, b HR3.out⟩
  ·exact ⟨_, _, (blk_cell BK4.out 4).trans rfl, HC.out.2.2.2.2, b HR4.out⟩⟩
 clear HR0 HR1 HR2 HR3 HR4 HC BK BK4 HB2 HB4
 generalize impl_CronOk.nth l0 l1 l2 l3 l4 = L at HRow HL
 go_loop [11] (fun v11 => ∃ i : Nat, i ≤ 5 ∧ v11 = .int .i64 (i : Int) ∧ Aside0 (impl_CronOk.rest L (5 - i) = r)) (fun v11 => 5 - (intOf v11).toNat)
 case atStart => exact ⟨0, by omega, rfl, HL⟩
 case round =>
  clear HL
  obtain ⟨i, hi, rfl, HI⟩ := hrel
  by_cases hlt : i < 5
  ·have hix := impl_CronOk.index5 gb i hlt
   have HI2 := Aside0.mk ((impl_CronOk.rest_at L i hlt).symm.trans HI.out)
   obtain ⟨A, c, hcell, hc, hC⟩ := HRow.out i hlt
   have HC := Aside0.mk hC
   clear hC
   by_cases h0 : (L i).length = 0
   ·have HF := Aside0.mk (show false = r by rw [← HI2.out, impl_CronOk.fld_nil _ _ _ h0, Bool.false_and])
    have hq0 : decide ((0 : Int) < ((L i).length : Int)) = false := decide_eq_false (by omega)
    rw [h0] at hcell
    clear hc HI HI2
    go_wp2_with (first | (go_at_call 21; refine (impl_CronOk.bnd i _ hlt).mono ?_; rintro e w' ⟨rfl, rfl⟩))
    go_loop [25] (fun v25 => v25 = .int .i64 0) (fun _ => 0)
    case atStart => rfl
    case round =>
     obtain rfl := hrel
     go_wp2
     go_ret
     exact ⟨congrArg (fun b_ => Ending.returned (Value.bool b_)) HF.out, HB.out⟩
   ·obtain ⟨ad, hA, _⟩ := HC.out.2.2 (by omega)
    subst hA
    have HI3 := Aside0.mk (show (impl_CronOk.rise (impl_CronOk.lo i) (impl_CronOk.hi i) none (L i) && impl_CronOk.rest L (5 - (i + 1))) = r by rw [← HI2.out, impl_CronOk.fld_rise _ _ _ h0])
    clear HI HI2
    have hlen : ((L i).length : Int) ≤ 9223372036854775807 := by have := HC.out.2.1; omega
    go_wp2_with (first | (go_at_call 21; refine (impl_CronOk.bnd i _ hlt).mono ?_; rintro e w' ⟨rfl, rfl⟩))
    go_loop [25] (fun v25 => ∃ k : Nat, k ≤ (L i).length ∧ v25 = .int .i64 (k : Int) ∧ Aside0 (impl_CronOk.rise (impl_CronOk.lo i) (impl_CronOk.hi i) (impl_CronOk.prev (L i) k) ((L i).drop k) = impl_CronOk.rise (impl_CronOk.lo i) (impl_CronOk.hi i) none (L i))) (fun v25 => (L i).length - (intOf v25).toNat)
    case atStart => exact ⟨0, Nat.zero_le _, rfl, ⟨rfl⟩⟩
    case round =>
     obtain ⟨k, hk, rfl, HK⟩ := hrel
     by_cases hkl : k < (L i).length
     ·have HK2 := Aside0.mk ((impl_CronOk.rise_at (impl_CronOk.lo i) (impl_CronOk.hi i) (L i) k hkl).symm.trans HK.out)
      have hx : w4.cell? (ad.add k) = some (.int .i64 ((L i).getD k 0)) := by
       obtain ⟨ad2, he, h1⟩ := Kd.at_int HC.out (k : Int) (by omega) (by omega)
       injection he with he
       subst he
       exact h1
      obtain ⟨x, hxv⟩ : ∃ x, x = (L i).getD k 0 := ⟨_, rfl⟩
      rw [← hxv] at hx HK2
      clear hxv HK
      by_cases hr : impl_CronOk.lo i ≤ x ∧ x ≤ impl_CronOk.hi i
      ·by_cases hz : k = 0
       ·subst hz
        have hx : w4.cell? ad = some (.int .i64 x) := by simpa [Addr.add] using hx
        have HK3 := Aside0.mk (show impl_CronOk.rise (impl_CronOk.lo i) (impl_CronOk.hi i) (impl_CronOk.prev (L i) (0 + 1)) ((L i).drop (0 + 1)) = impl_CronOk.rise (impl_CronOk.lo i) (impl_CronOk.hi i) none (L i) by rw [← HK2.out, decide_eq_true hr, if_pos rfl, Bool.true_and, Bool.true_and])
        clear HK2
        have HD := Aside0.mk (decide_eq_true hr)
        clear hr
        go_wp2_with (first | (go_at_call 22; refine (impl_CronOk.inr _ _ _ _ _ HD.out).mono ?_; rintro e w' ⟨rfl, rfl⟩))
        go_round
        case rel => exact ⟨0 + 1, by omega, by go_num, HK3⟩
        case measure => simp [intOf]; omega
       ·have hy : w4.cell? (ad.add (k - 1)) = some (.int .i64 ((L i).getD (k - 1) 0)) := by
         obtain ⟨ad2, he, h1⟩ := Kd.at_int HC.out ((k - 1 : Nat) : Int) (by omega) (by omega)
         injection he with he
         subst he
         exact h1
        obtain ⟨y, hyv⟩ : ∃ y, y = (L i).getD (k - 1) 0 := ⟨_, rfl⟩
        rw [← hyv] at hy HK2
        clear hyv
        have HD := Aside0.mk (decide_eq_true hr)
        by_cases hp : y < x
        ·have HK3 := Aside0.mk (show impl_CronOk.rise (impl_CronOk.lo i) (impl_CronOk.hi i) (impl_CronOk.prev (L i) (k + 1)) ((L i).drop (k + 1)) = impl_CronOk.rise (impl_CronOk.lo i) (impl_CronOk.hi i) none (L i) by rw [← HK2.out, decide_eq_true hr, if_neg hz, decide_eq_true hp, Bool.true_and, Bool.true_and])
         clear HK2 hr
         go_wp2_with (first | (go_at_call 22; refine (impl_CronOk.inr _ _ _ _ _ HD.out).mono ?_; rintro e w' ⟨rfl, rfl⟩))
         go_round
         case rel => exact ⟨k + 1, by omega, by go_num, HK3⟩
         case measure => simp [intOf]; omega
        ·have HF := Aside0.mk (show false = r by rw [← HI3.out, ← HK2.out, decide_eq_true hr, if_neg hz, decide_eq_false hp]; simp)
         clear HK2 hr HI3
         go_wp2_with (first | (go_at_call 22; refine (impl_CronOk.inr _ _ _ _ _ HD.out).mono ?_; rintro e w' ⟨rfl, rfl⟩))
         go_ret
         exact ⟨congrArg (fun b_ => Ending.returned (Value.bool b_)) HF.out, HB.out⟩
      ·have HD := Aside0.mk (decide_eq_false hr)
       have HF := Aside0.mk (show false = r by rw [← HI3.out, ← HK2.out, decide_eq_false hr]; simp)
       clear HK2 hr HI3
       go_wp2_with (first | (go_at_call 22; refine (impl_CronOk.inr _ _ _ _ _ HD.out).mono ?_; rintro e w' ⟨rfl, rfl⟩))
       go_ret
       exact ⟨congrArg (fun b_ => Ending.returned (Value.bool b_)) HF.out, HB.out⟩
     ·obtain rfl : k = (L i).length := by omega
      have HN := Aside0.mk (show impl_CronOk.rest L (5 - (i + 1)) = r by
       rw [← HI3.out, ← HK.out, List.drop_eq_nil_of_le (Nat.le_refl _)]
       cases impl_CronOk.prev (L i) (L i).length <;> simp [impl_CronOk.rise])
      clear HK HI3
      go_wp2
      go_round
      case rel => exact ⟨i + 1, by omega, by go_num, HN⟩
      case measure => simp [intOf]; omega
  ·obtain rfl : i = 5 := by omega
   have HF := Aside0.mk (show true = r from HI.out)
   clear HI
   go_wp2
   go_ret
   exact ⟨congrArg (fun b_ => Ending.returned (Value.bool b_)) HF.out, HB.out⟩

end Go.Proofs.YtlglildjehcogaaDoor.QFnExactCronText
