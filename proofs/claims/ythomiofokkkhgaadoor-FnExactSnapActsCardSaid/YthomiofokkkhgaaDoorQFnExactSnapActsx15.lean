-- Own work (wip/turnprint.py over the kit's print).
import Derived.Test.YthomiofokkkhgaaDoorQFnExactSnapActsx0
import Derived.Test.YthomiofokkkhgaaDoorQFnExactSnapActsx1
import Derived.Test.YthomiofokkkhgaaDoorQFnExactSnapActsx6
import Derived.Test.YthomiofokkkhgaaDoorQFnExactSnapActsx11
import Derived.Test.YthomiofokkkhgaaDoorQFnExactSnapActsx12
import Derived.Test.YthomiofokkkhgaaDoorQFnExactSnapActsx13
import Derived.Test.YthomiofokkkhgaaDoorQFnExactSnapActsx14
namespace Go.Proofs.YthomiofokkkhgaaDoor.QFnExactSnapActs
open Go.RowKit Go.Proofs.YthomiofokkkhgaaDoorW.PrintWords Go.Proofs.YthomiofokkkhgaaDoorW.PrintLast Go.Proofs.YthomiofokkkhgaaDoorW.PrintMore
attribute [local go_sem] max2_int min2_int max_two min_two max_three min_three max_four min_four   -- for this text's walks alone
set_option linter.unusedVariables false
set_option linter.unusedSimpArgs false

/-! ### laws_FnExactSnapActs: function 3 -/
def laws_FnExactSnapActs.f (k : Nat) (l0_0 : List (S89)) (a1_0 : Int) (a1_1 : Int) (l1_2 : List Int) (a1_3 : ByteArray) : Option (Bool) := (laws_szDisk.f k l0_0 1048576).bind fun t354 => (if t354 < 0 then (some true) else ((laws_szSnap.f a1_0 a1_1 l1_2 a1_3 t354).bind fun t355 => (if t355 < 0 then (some true) else ((laws_toDisk.f k l0_0).bind fun t356 => ((laws_toSnap.f k a1_0 a1_1 l1_2 a1_3).bind fun bt359 => ((spec_SnapActs.f k t356 bt359.1 bt359.2.1 bt359.2.2.1 bt359.2.2.2).bind fun bt365 => ((laws_toDisk.f k l0_0).bind fun t369 => ((laws_toSnap.f k a1_0 a1_1 l1_2 a1_3).bind fun bt373 => ((impl_SnapActs.f k t369 bt373.1 bt373.2.1 bt373.2.2.1 bt373.2.2.2).bind fun bt380 => ((laws_eqActS.f k bt380.1 bt365.1).bind fun t384 => (if t384 = true then (if (bt380.2 != bt365.2) = true then (none) else ((laws_toDisk.f k l0_0).bind fun t385 => ((laws_eqDisk.f k t369 t385).bind fun t388 => (if t388 = true then ((laws_toSnap.f k a1_0 a1_1 l1_2 a1_3).bind fun bt389 => ((laws_eqSnap.f k bt373.1 bt373.2.1 bt373.2.2.1 bt373.2.2.2 bt389.1 bt389.2.1 bt389.2.2.1 bt389.2.2.2).bind fun t395 => (if t395 = true then ((laws_markDisk.f k t369 1).bind fun bt396 => ((laws_markSnap.f k bt373.1 bt373.2.1 bt373.2.2.1 bt373.2.2.2 bt396.1).bind fun bt398 => (if bt398.1 < 0 then (none) else ((laws_eqActS.f k bt380.1 bt365.1).bind fun t400 => (if t400 = true then ((laws_markActS.f k bt380.1 1).bind fun bt401 => ((laws_heldActS.f k bt401.2 1).bind fun t403 => (if t403 < 0 then (none) else (if t403 = bt401.1 then ((laws_toDisk.f k l0_0).bind fun t404 => ((laws_toSnap.f k a1_0 a1_1 l1_2 a1_3).bind fun bt407 => ((impl_SnapActs.f k t404 bt407.1 bt407.2.1 bt407.2.2.1 bt407.2.2.2).bind fun bt413 => ((laws_eqActS.f k bt413.1 bt365.1).bind fun t417 => (if t417 = true then (if (bt413.2 != bt365.2) = true then (none) else ((laws_heldActS.f k bt401.2 1).bind fun t418 => (if t418 < 0 then (none) else (if t418 = bt401.1 then (some true) else (none))))) else (none)))))) else (none))))) else (none)))))) else (none)))) else (none))))) else (none))))))))))))
theorem laws_FnExactSnapActs.mono : ∀ a0 a1 a2 a3 a4 k, LeO (laws_FnExactSnapActs.f k a0 a1 a2 a3 a4) (laws_FnExactSnapActs.f (k + 1) a0 a1 a2 a3 a4) := by
 intro a0 a1 a2 a3 a4 k
 unfold laws_FnExactSnapActs.f
 repeat' first
  | (with_reducible exact impl_SnapActs.mono _ _ _ _ _ _)
  | (with_reducible exact laws_eqActS.mono _ _ _)
  | (with_reducible exact laws_eqDisk.mono _ _ _)
  | (with_reducible exact laws_eqSnap.mono _ _ _ _ _ _ _ _ _)
  | (with_reducible exact laws_heldActS.mono _ _ _)
  | (with_reducible exact laws_markActS.mono _ _ _)
  | (with_reducible exact laws_markDisk.mono _ _ _)
  | (with_reducible exact laws_markSnap.mono _ _ _ _ _ _)
  | (with_reducible exact laws_szDisk.mono _ _ _)
  | (with_reducible exact laws_toDisk.mono _ _)
  | (with_reducible exact laws_toSnap.mono _ _ _ _ _)
  | (with_reducible exact spec_SnapActs.mono _ _ _ _ _ _)
  | (with_reducible exact LeO.refl _)
  | (with_reducible exact LeO.none _)
  | (with_reducible refine LeO.ite ?_ ?_)
  | (with_reducible refine LeO.bind ?_ (fun _ => ?_))
  | exact impl_SnapActs.mono _ _ _ _ _ _
  | exact laws_eqActS.mono _ _ _
  | exact laws_eqDisk.mono _ _ _
  | exact laws_eqSnap.mono _ _ _ _ _ _ _ _ _
  | exact laws_heldActS.mono _ _ _
  | exact laws_markActS.mono _ _ _
  | exact laws_markDisk.mono _ _ _
  | exact laws_markSnap.mono _ _ _ _ _ _
  | exact laws_szDisk.mono _ _ _
  | exact laws_toDisk.mono _ _
  | exact laws_toSnap.mono _ _ _ _ _
  | exact spec_SnapActs.mono _ _ _ _ _ _
  | exact LeO.none _
  | refine LeO.ite ?_ ?_
  | refine LeO.bind ?_ (fun _ => ?_)
def laws_FnExactSnapActs.T8 : Bool × List (List Nat × List Nat) := (true, [([], []), ([0], [0]), ([], []), ([2, 1], [2]), ([1, 3, 3], [1, 3]), ([4], [4]), ([5], [5]), ([5], [5]), ([6, 4, 0, 1, 2, 3, 4, 5, 6], [6]), ([7, 8, 0, 1, 2, 3, 4, 5, 6, 7, 8], [7])])
def laws_FnExactSnapActs.B8 : List Nat := [0, 1, 0, 7, 15, 31, 63, 63, 127, 511]
theorem laws_FnExactSnapActs.tab8 : rtab .any (opsOf Tryd.f3 8) = laws_FnExactSnapActs.T8 := by kernel_rfl
theorem laws_FnExactSnapActs.bits8 : waitsOk laws_FnExactSnapActs.T8.2 laws_FnExactSnapActs.B8 = true := by kernel_rfl
def laws_FnExactSnapActs.T31 : Bool × List (List Nat × List Nat) := (true, [([], []), ([0], [0]), ([], []), ([2, 1], [2]), ([1, 3, 3], [1, 3]), ([4], [4]), ([5], [5]), ([5], [5]), ([6, 4, 0, 1, 2, 3, 4, 5, 6], [6]), ([7, 8, 0, 1, 2, 3, 4, 5, 6, 7, 8], [7])])
def laws_FnExactSnapActs.B31 : List Nat := [0, 1, 0, 7, 15, 31, 63, 63, 127, 511]
theorem laws_FnExactSnapActs.tab31 : rtab .any (opsOf Tryd.f3 31) = laws_FnExactSnapActs.T31 := by kernel_rfl
theorem laws_FnExactSnapActs.bits31 : waitsOk laws_FnExactSnapActs.T31.2 laws_FnExactSnapActs.B31 = true := by kernel_rfl
set_option maxHeartbeats 8000000 in
set_option maxRecDepth 100000 in
theorem laws_FnExactSnapActs.calls (k : Nat) (A0_0 : Option Addr) (c0_0 : Nat) (l0_0 : List (S89)) (a1_0 : Int) (a1_1 : Int) (A1_2 : Option Addr) (c1_2 : Nat) (l1_2 : List Int) (a1_3 : ByteArray) (r : Bool) (w : World) (hr0_0 : Kd.C k89 w A0_0 l0_0.length l0_0) (hc0_0 : l0_0.length ≤ c0_0) (hr1_2 : Kd.C (Kd.int .i64) w A1_2 l1_2.length l1_2) (hc1_2 : l1_2.length ≤ c1_2) (h : laws_FnExactSnapActs.f k l0_0 a1_0 a1_1 l1_2 a1_3 = some r) (htab : Cx.Ok w) :
 Calls Tryd.prog 3 #[.agg #[.slice A0_0 l0_0.length c0_0], .agg #[.int .i64 a1_0, .int .i64 a1_1, .slice A1_2 l1_2.length c1_2, .string a1_3]] w fun e w' => e = .returned (.bool r) ∧ Below w.heap.size w w' := by
 have HTAB := aM htab
 clear htab
 have hu24 := Tryd.underlying24
 have hu27 := Tryd.underlying27
 have hu35 := Tryd.underlying35
 have hu37 := Tryd.underlying37
 have HR0_0 := aM hr0_0
 have HC0_0 := aM hc0_0
 clear hr0_0 hc0_0
 have HR1_2 := aM hr1_2
 have HC1_2 := aM hc1_2
 clear hr1_2 hc1_2
 have HB := aM (Below.refl w.heap.size w)
 have H : ((laws_szDisk.f k l0_0 1048576).bind fun t354 => (if t354 < 0 then (some true) else ((laws_szSnap.f a1_0 a1_1 l1_2 a1_3 t354).bind fun t355 => (if t355 < 0 then (some true) else ((laws_toDisk.f k l0_0).bind fun t356 => ((laws_toSnap.f k a1_0 a1_1 l1_2 a1_3).bind fun bt359 => ((spec_SnapActs.f k t356 bt359.1 bt359.2.1 bt359.2.2.1 bt359.2.2.2).bind fun bt365 => ((laws_toDisk.f k l0_0).bind fun t369 => ((laws_toSnap.f k a1_0 a1_1 l1_2 a1_3).bind fun bt373 => ((impl_SnapActs.f k t369 bt373.1 bt373.2.1 bt373.2.2.1 bt373.2.2.2).bind fun bt380 => ((laws_eqActS.f k bt380.1 bt365.1).bind fun t384 => (if t384 = true then (if (bt380.2 != bt365.2) = true then (none) else ((laws_toDisk.f k l0_0).bind fun t385 => ((laws_eqDisk.f k t369 t385).bind fun t388 => (if t388 = true then ((laws_toSnap.f k a1_0 a1_1 l1_2 a1_3).bind fun bt389 => ((laws_eqSnap.f k bt373.1 bt373.2.1 bt373.2.2.1 bt373.2.2.2 bt389.1 bt389.2.1 bt389.2.2.1 bt389.2.2.2).bind fun t395 => (if t395 = true then ((laws_markDisk.f k t369 1).bind fun bt396 => ((laws_markSnap.f k bt373.1 bt373.2.1 bt373.2.2.1 bt373.2.2.2 bt396.1).bind fun bt398 => (if bt398.1 < 0 then (none) else ((laws_eqActS.f k bt380.1 bt365.1).bind fun t400 => (if t400 = true then ((laws_markActS.f k bt380.1 1).bind fun bt401 => ((laws_heldActS.f k bt401.2 1).bind fun t403 => (if t403 < 0 then (none) else (if t403 = bt401.1 then ((laws_toDisk.f k l0_0).bind fun t404 => ((laws_toSnap.f k a1_0 a1_1 l1_2 a1_3).bind fun bt407 => ((impl_SnapActs.f k t404 bt407.1 bt407.2.1 bt407.2.2.1 bt407.2.2.2).bind fun bt413 => ((laws_eqActS.f k bt413.1 bt365.1).bind fun t417 => (if t417 = true then (if (bt413.2 != bt365.2) = true then (none) else ((laws_heldActS.f k bt401.2 1).bind fun t418 => (if t418 < 0 then (none) else (if t418 = bt401.1 then (some true) else (none))))) else (none)))))) else (none))))) else (none)))))) else (none)))) else (none))))) else (none))))))))))))) = some r := h
 clear h
 replace H := Option.bind_eq_some_iff.mp H
 obtain ⟨t354, A30, H⟩ := H
 try dsimp only at H
 have A3 := aM A30
 clear A30
 by_cases c4 : t354 < 0
 ·rw [if_pos c4] at H
  have c4b0 : decide (t354 < 0) = true := decide_eq_true c4
  clear c4
  obtain rfl := Option.some.inj H
  go_enter Tryd.func3, Tryd.ntmps3
  go_wp2_with (first | ((with_reducible refine gate_dst (N := 2) rfl ?_); refine bxE 2 #[.slice A0_0 l0_0.length c0_0] 24 ?_; intro gb352 hg w5 hbox hb; have BK352 := aM (hbox); have GW352 := szG hg (uL HB); have GE352 := szG hg (uL HB); replace HB := aM (below_step (uL HB) hb); clear hb hbox hg) | ((with_reducible refine gate_dst (N := 3) rfl ?_); refine bxE 3 #[.int .i64 a1_0, .int .i64 a1_1, .slice A1_2 l1_2.length c1_2, .string a1_3] 27 ?_; intro gb353 hg w6 hbox hb; have BK353 := aM (hbox); have GW353 := szG hg (uL HB); have GE353 := szG hg (uL HB); have NB352_353 := neL hg BK352; have NB353_352 := neG hg BK352; replace BK352 := blkB BK352 hb; replace HB := aM (below_step (uL HB) hb); clear hb hbox hg; have hnb7 := NB352_353.out; have hnc7 := NB353_352.out; have hcz8_0 := czA BK352.out 0 (.slice A0_0 l0_0.length c0_0); have hfz8_0 := blk_frozen BK352.out 0) | ((with_reducible refine gate_callee (f := 5) rfl ?_); refine gL (some 19) Tryd.func5 #[.agg #[.slice A0_0 l0_0.length c0_0], .int .i64 1048576] ?_; (with_reducible refine (laws_szDisk.calls k _ _ l0_0 1048576 t354 _ ?side1 ?side2 A3.out).mono ?_); (case side1 => exact uC HR0_0 HB); (case side2 => exact HC0_0.out); rintro e w9 ⟨rfl, hb⟩; refine ⟨_, rfl, ?_⟩; replace BK352 := blkB BK352 hb; replace BK353 := blkB BK353 hb; replace HB := aM (below_step (uL HB) hb); try clear hb))
  go_ret
  exact rX HB
 ·rw [if_neg c4] at H
  have c4b0 : decide (t354 < 0) = false := decide_eq_false c4
  clear c4
  replace H := Option.bind_eq_some_iff.mp H
  obtain ⟨t355, A100, H⟩ := H
  try dsimp only at H
  have A10 := aM A100
  clear A100
  by_cases c11 : t355 < 0
  ·rw [if_pos c11] at H
   have c11b0 : decide (t355 < 0) = true := decide_eq_true c11
   clear c11
   obtain rfl := Option.some.inj H
   go_enter Tryd.func3, Tryd.ntmps3
   go_wp2_with (first | ((with_reducible refine gate_dst (N := 2) rfl ?_); refine bxE 2 #[.slice A0_0 l0_0.length c0_0] 24 ?_; intro gb352 hg w12 hbox hb; have BK352 := aM (hbox); have GW352 := szG hg (uL HB); have GE352 := szG hg (uL HB); replace HB := aM (below_step (uL HB) hb); clear hb hbox hg) | ((with_reducible refine gate_dst (N := 3) rfl ?_); refine bxE 3 #[.int .i64 a1_0, .int .i64 a1_1, .slice A1_2 l1_2.length c1_2, .string a1_3] 27 ?_; intro gb353 hg w13 hbox hb; have BK353 := aM (hbox); have GW353 := szG hg (uL HB); have GE353 := szG hg (uL HB); have NB352_353 := neL hg BK352; have NB353_352 := neG hg BK352; replace BK352 := blkB BK352 hb; replace HB := aM (below_step (uL HB) hb); clear hb hbox hg; have hnb14 := NB352_353.out; have hnc14 := NB353_352.out; have hcz15_0 := czA BK352.out 0 (.slice A0_0 l0_0.length c0_0); have hfz15_0 := blk_frozen BK352.out 0) | ((with_reducible refine gate_callee (f := 5) rfl ?_); refine gL (some 19) Tryd.func5 #[.agg #[.slice A0_0 l0_0.length c0_0], .int .i64 1048576] ?_; (with_reducible refine (laws_szDisk.calls k _ _ l0_0 1048576 t354 _ ?side1 ?side2 A3.out).mono ?_); (case side1 => exact uC HR0_0 HB); (case side2 => exact HC0_0.out); rintro e w16 ⟨rfl, hb⟩; refine ⟨_, rfl, ?_⟩; replace BK352 := blkB BK352 hb; replace BK353 := blkB BK353 hb; replace HB := aM (below_step (uL HB) hb); try clear hb; have hcz17_0 := czA BK353.out 0 (.int .i64 a1_0); have hcz17_1 := czA BK353.out 1 (.int .i64 a1_1); have hcz17_2 := czA BK353.out 2 (.slice A1_2 l1_2.length c1_2); have hcz17_3 := czA BK353.out 3 (.string a1_3); have hfz17_0 := blk_frozen BK353.out 0; have hfz17_1 := blk_frozen BK353.out 1; have hfz17_2 := blk_frozen BK353.out 2; have hfz17_3 := blk_frozen BK353.out 3) | ((with_reducible refine gate_callee (f := 6) rfl ?_); refine gL (some 24) Tryd.func6 #[.agg #[.int .i64 a1_0, .int .i64 a1_1, .slice A1_2 l1_2.length c1_2, .string a1_3], .int .i64 t354] ?_; (with_reducible refine (laws_szSnap.calls a1_0 a1_1 _ _ l1_2 a1_3 t354 t355 _ ?side1 ?side2 A10.out).mono ?_); (case side1 => exact uC HR1_2 HB); (case side2 => exact HC1_2.out); rintro e w18 ⟨rfl, hb⟩; refine ⟨_, rfl, ?_⟩; replace BK352 := blkB BK352 hb; replace BK353 := blkB BK353 hb; replace HB := aM (below_step (uL HB) hb); try clear hb))
   go_ret
   exact rX HB
  ·rw [if_neg c11] at H
   have c11b0 : decide (t355 < 0) = false := decide_eq_false c11
   clear c11
   replace H := Option.bind_eq_some_iff.mp H
   obtain ⟨t356, A190, H⟩ := H
   try dsimp only at H
   have A19 := aM A190
   clear A190
   replace H := Option.bind_eq_some_iff.mp H
   obtain ⟨⟨t359, t360, t361, t364⟩, A200, H⟩ := H
   try dsimp only at H
   have A20 := aM A200
   clear A200
   replace H := Option.bind_eq_some_iff.mp H
   obtain ⟨⟨t365, t368⟩, A210, H⟩ := H
   try dsimp only at H
   have A21 := aM A210
   clear A210
   replace H := Option.bind_eq_some_iff.mp H
   obtain ⟨t369, A220, H⟩ := H
   try dsimp only at H
   have A22 := aM A220
   clear A220
   replace H := Option.bind_eq_some_iff.mp H
   obtain ⟨⟨t373, t374, t375, t378⟩, A230, H⟩ := H
   try dsimp only at H
   have A23 := aM A230
   clear A230
   replace H := Option.bind_eq_some_iff.mp H
   obtain ⟨⟨t380, t383⟩, A240, H⟩ := H
   try dsimp only at H
   have A24 := aM A240
   clear A240
   replace H := Option.bind_eq_some_iff.mp H
   obtain ⟨t384, A250, H⟩ := H
   try dsimp only at H
   have A25 := aM A250
   clear A250
   by_cases c26 : t384 = true
   ·subst c26
    rw [if_pos rfl] at H
    by_cases c27 : (t383 != t368) = true
    ·rw [if_pos c27] at H
     exact absurd H (by simp)
    ·rw [if_neg c27] at H
     have c27b0 : (t383 != t368) = false := by simpa using c27
     (try (have c27b1 : decide (t383 = t368) = true := by simpa using c27))
     (try (have c27b2 : (t383 == t368) = true := by simpa using c27))
     clear c27
     replace H := Option.bind_eq_some_iff.mp H
     obtain ⟨t385, A280, H⟩ := H
     try dsimp only at H
     have A28 := aM A280
     clear A280
     replace H := Option.bind_eq_some_iff.mp H
     obtain ⟨t388, A290, H⟩ := H
     try dsimp only at H
     have A29 := aM A290
     clear A290
     by_cases c30 : t388 = true
     ·subst c30
      rw [if_pos rfl] at H
      replace H := Option.bind_eq_some_iff.mp H
      obtain ⟨⟨t389, t390, t391, t394⟩, A310, H⟩ := H
      try dsimp only at H
      have A31 := aM A310
      clear A310
      replace H := Option.bind_eq_some_iff.mp H
      obtain ⟨t395, A320, H⟩ := H
      try dsimp only at H
      have A32 := aM A320
      clear A320
      by_cases c33 : t395 = true
      ·subst c33
       rw [if_pos rfl] at H
       replace H := Option.bind_eq_some_iff.mp H
       obtain ⟨⟨t396, t397⟩, A340, H⟩ := H
       try dsimp only at H
       have A34 := aM A340
       clear A340
       replace H := Option.bind_eq_some_iff.mp H
       obtain ⟨⟨t398, t399⟩, A350, H⟩ := H
       try dsimp only at H
       have A35 := aM A350
       clear A350
       by_cases c36 : t398 < 0
       ·rw [if_pos c36] at H
        exact absurd H (by simp)
       ·rw [if_neg c36] at H
        have c36b0 : decide (t398 < 0) = false := decide_eq_false c36
        clear c36
        replace H := Option.bind_eq_some_iff.mp H
        obtain ⟨t400, A370, H⟩ := H
        try dsimp only at H
        have A37 := aM A370
        clear A370
        by_cases c38 : t400 = true
        ·subst c38
         rw [if_pos rfl] at H
         replace H := Option.bind_eq_some_iff.mp H
         obtain ⟨⟨t401, t402⟩, A390, H⟩ := H
         try dsimp only at H
         have A39 := aM A390
         clear A390
         replace H := Option.bind_eq_some_iff.mp H
         obtain ⟨t403, A400, H⟩ := H
         try dsimp only at H
         have A40 := aM A400
         clear A400
         by_cases c41 : t403 < 0
         ·rw [if_pos c41] at H
          exact absurd H (by simp)
         ·rw [if_neg c41] at H
          have c41b0 : decide (t403 < 0) = false := decide_eq_false c41
          clear c41
          by_cases c42 : t403 = t401
          ·rw [if_pos c42] at H
           have c42b0 : (t403 == t401) = true := beq_iff_eq.mpr c42
           have c42b1 : (t403 != t401) = false := bne_eq_false_iff_eq.mpr c42
           clear c42
           replace H := Option.bind_eq_some_iff.mp H
           obtain ⟨t404, A430, H⟩ := H
           try dsimp only at H
           have A43 := aM A430
           clear A430
           replace H := Option.bind_eq_some_iff.mp H
           obtain ⟨⟨t407, t408, t409, t412⟩, A440, H⟩ := H
           try dsimp only at H
           have A44 := aM A440
           clear A440
           replace H := Option.bind_eq_some_iff.mp H
           obtain ⟨⟨t413, t416⟩, A450, H⟩ := H
           try dsimp only at H
           have A45 := aM A450
           clear A450
           replace H := Option.bind_eq_some_iff.mp H
           obtain ⟨t417, A460, H⟩ := H
           try dsimp only at H
           have A46 := aM A460
           clear A460
           by_cases c47 : t417 = true
           ·subst c47
            rw [if_pos rfl] at H
            by_cases c48 : (t416 != t368) = true
            ·rw [if_pos c48] at H
             exact absurd H (by simp)
            ·rw [if_neg c48] at H
             have c48b0 : (t416 != t368) = false := by simpa using c48
             (try (have c48b1 : decide (t416 = t368) = true := by simpa using c48))
             (try (have c48b2 : (t416 == t368) = true := by simpa using c48))
             clear c48
             replace H := Option.bind_eq_some_iff.mp H
             obtain ⟨t418, A490, H⟩ := H
             replace H : (if t418 < 0 then (none) else (if t418 = t401 then (some true) else (none))) = some r := H
             have A49 := aM A490
             clear A490
             by_cases c50 : t418 < 0
             ·rw [if_pos c50] at H
              exact absurd H (by simp)
             ·rw [if_neg c50] at H
              have c50b0 : decide (t418 < 0) = false := decide_eq_false c50
              clear c50
              by_cases c51 : t418 = t401
              ·rw [if_pos c51] at H
               have c51b0 : (t418 == t401) = true := beq_iff_eq.mpr c51
               have c51b1 : (t418 != t401) = false := bne_eq_false_iff_eq.mpr c51
               clear c51
               obtain rfl := Option.some.inj H
               go_enter Tryd.func3, Tryd.ntmps3
               try go_wp2_with (first | ((with_reducible refine gate_dst (N := 2) rfl ?_); refine bxE 2 #[.slice A0_0 l0_0.length c0_0] 24 ?_; intro gb352 hg w52 hbox hb; have BK352 := aM (hbox); have GW352 := szG hg (uL HB); have GE352 := szG hg (uL HB); replace HB := aM (below_step (uL HB) hb); clear hb hbox hg) | ((with_reducible refine gate_dst (N := 3) rfl ?_); refine bxE 3 #[.int .i64 a1_0, .int .i64 a1_1, .slice A1_2 l1_2.length c1_2, .string a1_3] 27 ?_; intro gb353 hg w53 hbox hb; have BK353 := aM (hbox); have GW353 := szG hg (uL HB); have GE353 := szG hg (uL HB); have NB352_353 := neL hg BK352; have NB353_352 := neG hg BK352; replace BK352 := blkB BK352 hb; replace HB := aM (below_step (uL HB) hb); clear hb hbox hg; have hnb54 := NB352_353.out; have hnc54 := NB353_352.out; have hcz55_0 := czA BK352.out 0 (.slice A0_0 l0_0.length c0_0); have hfz55_0 := blk_frozen BK352.out 0) | ((with_reducible refine gate_callee (f := 5) rfl ?_); refine gL (some 19) Tryd.func5 #[.agg #[.slice A0_0 l0_0.length c0_0], .int .i64 1048576] ?_; (with_reducible refine (laws_szDisk.calls k _ _ l0_0 1048576 t354 _ ?side1 ?side2 A3.out).mono ?_); (case side1 => exact uC HR0_0 HB); (case side2 => exact HC0_0.out); rintro e w56 ⟨rfl, hb⟩; refine ⟨_, rfl, ?_⟩; replace BK352 := blkB BK352 hb; replace BK353 := blkB BK353 hb; replace HB := aM (below_step (uL HB) hb); try clear hb; have hcz57_0 := czA BK353.out 0 (.int .i64 a1_0); have hcz57_1 := czA BK353.out 1 (.int .i64 a1_1); have hcz57_2 := czA BK353.out 2 (.slice A1_2 l1_2.length c1_2); have hcz57_3 := czA BK353.out 3 (.string a1_3); have hfz57_0 := blk_frozen BK353.out 0; have hfz57_1 := blk_frozen BK353.out 1; have hfz57_2 := blk_frozen BK353.out 2; have hfz57_3 := blk_frozen BK353.out 3) | ((with_reducible refine gate_callee (f := 6) rfl ?_); refine gL (some 24) Tryd.func6 #[.agg #[.int .i64 a1_0, .int .i64 a1_1, .slice A1_2 l1_2.length c1_2, .string a1_3], .int .i64 t354] ?_; (with_reducible refine (laws_szSnap.calls a1_0 a1_1 _ _ l1_2 a1_3 t354 t355 _ ?side1 ?side2 A10.out).mono ?_); (case side1 => exact uC HR1_2 HB); (case side2 => exact HC1_2.out); rintro e w58 ⟨rfl, hb⟩; refine ⟨_, rfl, ?_⟩; replace BK352 := blkB BK352 hb; replace BK353 := blkB BK353 hb; replace HB := aM (below_step (uL HB) hb); try clear hb))
               replace BK352 := aM (blk_drew BK352.out)
               replace BK353 := aM (blk_drew BK353.out)
               replace HB := aM (below_drew1 HB.out)
               refine start_ (n := 10) (S := fun w' => w'.cell? ⟨gb352, 0, none⟩ = some (.slice A0_0 l0_0.length c0_0) ∧ w'.cell? ⟨gb353, 0, none⟩ = some (.int .i64 a1_0) ∧ w'.cell? ⟨gb353, 1, none⟩ = some (.int .i64 a1_1) ∧ w'.cell? ⟨gb353, 2, none⟩ = some (.slice A1_2 l1_2.length c1_2) ∧ w'.cell? ⟨gb353, 3, none⟩ = some (.string a1_3)) (ds := []) (bB 10 0) (by kernel_rfl) rfl rfl ⟨(blk_cell BK352.out 0).trans rfl, (blk_cell BK353.out 0).trans rfl, (blk_cell BK353.out 1).trans rfl, (blk_cell BK353.out 2).trans rfl, (blk_cell BK353.out 3).trans rfl⟩ (fun hHeld => ?_); refine with_tabW laws_FnExactSnapActs.tab8 laws_FnExactSnapActs.bits8 (fun HT_ HW_ => ?_)
               generalize w58.drew = w59 at BK352 BK353 HB hHeld ⊢
               refine tA HT_.out HW_.out 0 28 10 1 hHeld ?_; refine tA HT_.out HW_.out 2 30 10 5 hHeld ?_
               refine oA HT_.out 1 (some 29) 10 7 (fun K hK => ?_)
               refine gX Tryd.func8 #[.agg #[.slice A0_0 l0_0.length c0_0]] ?_
               with_reducible refine (laws_toDisk.calls k _ _ l0_0 t356 _ ?side1 ?side2 A19.out).mono ?_
               (case side1 => exact uC HR0_0 HB)
               (case side2 => exact HC0_0.out)
               rintro e w60 ⟨v357, rfl, ho0, hb⟩
               refine ⟨_, rfl, ?_⟩
               have HO358 := aM (Kd.R_lower ho0 (below_size (uL HB)))
               replace BK352 := blkB BK352 hb
               replace BK353 := blkB BK353 hb
               replace HB := aM (below_step (uL HB) hb)
               (try clear hb)
               (try clear hb2)
               (try clear hk)
               (try clear hi)
               (try clear ho0)
               refine hK.out _ _ ⟨(blk_cell BK352.out 0).trans rfl, (blk_cell BK353.out 0).trans rfl, (blk_cell BK353.out 1).trans rfl, (blk_cell BK353.out 2).trans rfl, (blk_cell BK353.out 3).trans rfl⟩ (fun hHeld => ?_)
               clear hK K
               refine nX 29 ?_
               refine oA HT_.out 3 (some 31) 10 15 (fun K hK => ?_)
               refine gX Tryd.func9 #[.agg #[.int .i64 a1_0, .int .i64 a1_1, .slice A1_2 l1_2.length c1_2, .string a1_3]] ?_
               with_reducible refine (laws_toSnap.calls k a1_0 a1_1 _ _ l1_2 a1_3 t359 t360 t361 t364 _ ?side1 ?side2 A20.out).mono ?_
               (case side1 => exact uC HR1_2 HB)
               (case side2 => exact HC1_2.out)
               rintro e w61 ⟨v362, rfl, ho0, hb⟩
               refine ⟨_, rfl, ?_⟩
               have HO363 := aM (Kd.R_lower ho0 (below_size (uL HB)))
               replace HO358 := aM (Kd.R_below (uR HO358) hb)
               replace BK352 := blkB BK352 hb
               replace BK353 := blkB BK353 hb
               replace HB := aM (below_step (uL HB) hb)
               (try clear hb)
               (try clear hb2)
               (try clear hk)
               (try clear hi)
               (try clear ho0)
               obtain ⟨Ao62, co62, eo62⟩ := Kd.R_slice HO358.out
               (first | subst eo62 | (injection eo62 with f1_ f2_ f3_; have f4_ := f1_.symm; have f5_ := f3_.symm; clear f1_ f2_ f3_; subst f4_; subst f5_))
               obtain ⟨Ao63, co63, eo63⟩ := Kd.R_slice HO363.out
               (first | subst eo63 | (injection eo63 with f1_ f2_ f3_; have f4_ := f1_.symm; have f5_ := f3_.symm; clear f1_ f2_ f3_; subst f4_; subst f5_))
               refine hK.out _ _ ⟨(blk_cell BK352.out 0).trans rfl, (blk_cell BK353.out 0).trans rfl, (blk_cell BK353.out 1).trans rfl, (blk_cell BK353.out 2).trans rfl, (blk_cell BK353.out 3).trans rfl⟩ (fun hHeld => ?_)
               clear hK K
               refine nX 31 ?_
               refine oA HT_.out 4 (some 32) 10 31 (fun K hK => ?_)
               refine gX Tryd.func7 #[.agg #[.slice Ao62 t356.length co62], .agg #[.int .i64 t359, .int .i64 t360, .slice Ao63 t361.length co63, .string t364]] ?_
               with_reducible refine (spec_SnapActs.calls k _ _ t356 t359 t360 _ _ t361 t364 t365 t368 _ ?side1 ?side2 ?side3 ?side4 A21.out).mono ?_
               (case side1 => repeat (first | exact (Kd.R_reads' HO358.out).2.2 | (with_reducible refine cA ?_ _) | (with_reducible refine cN ?_ _) | (with_reducible refine cD ?_)))
               (case side2 => exact (Kd.R_reads' HO358.out).2.1)
               (case side3 => repeat (first | exact (Kd.R_reads' HO363.out).2.2 | (with_reducible refine cA ?_ _) | (with_reducible refine cN ?_ _) | (with_reducible refine cD ?_)))
               (case side4 => exact (Kd.R_reads' HO363.out).2.1)
               rintro e w64 ⟨v366, rfl, ho0, hb⟩
               refine ⟨_, rfl, ?_⟩
               have HO367 := aM (Kd.R_lower ho0 (below_size (uL HB)))
               replace HO358 := aM (Kd.R_below (uR HO358) hb)
               replace HO363 := aM (Kd.R_below (uR HO363) hb)
               replace BK352 := blkB BK352 hb
               replace BK353 := blkB BK353 hb
               replace HB := aM (below_step (uL HB) hb)
               (try clear hb)
               (try clear hb2)
               (try clear hk)
               (try clear hi)
               (try clear ho0)
               refine hK.out _ _ ⟨(blk_cell BK352.out 0).trans rfl, (blk_cell BK353.out 0).trans rfl, (blk_cell BK353.out 1).trans rfl, (blk_cell BK353.out 2).trans rfl, (blk_cell BK353.out 3).trans rfl⟩ (fun hHeld => ?_)
               clear hK K
               refine nX 32 ?_; refine pA HT_.out 5 27 10 63 ?_; refine pA HT_.out 6 33 10 127 ?_; refine pA HT_.out 7 34 10 255 ?_; refine pA HT_.out 8 6 10 511 ?_; refine pA HT_.out 9 7 10 1023 ?_
               refine done_ (done_of HT_.out (by kernel_rfl)) ?_
               have hcz65_0 := czA BK352.out 0 (.slice A0_0 l0_0.length c0_0)
               have hfz65_0 := blk_frozen BK352.out 0
               try go_wp2_with (first | ((with_reducible refine gate_callee (f := 8) rfl ?_); refine gL (some 36) Tryd.func8 #[.agg #[.slice A0_0 l0_0.length c0_0]] ?_; (with_reducible refine (laws_toDisk.calls k _ _ l0_0 t369 _ ?side1 ?side2 A22.out).mono ?_); (case side1 => exact uC HR0_0 HB); (case side2 => exact HC0_0.out); rintro e w66 ⟨v370, rfl, ho0, hb⟩; refine ⟨_, rfl, ?_⟩; have HO371 := aM (Kd.R_lower (Kd.R_new' ho0 (Kd.R_lt (uR HO358))) (below_size (uL HB))); replace HO358 := aM (Kd.R_elder' (uR HO358) (Kd.R_base ho0) hb); replace HO363 := aM (Kd.R_below (uR HO363) hb); replace HO367 := aM (Kd.R_below (uR HO367) hb); replace BK352 := blkB BK352 hb; replace BK353 := blkB BK353 hb; replace HB := aM (below_step (uL HB) hb); try clear hb ho0) | ((with_reducible refine gate_dst (N := 8) rfl ?_); refine bxE 8 #[.slice none 0 0] 35 ?_; intro gb372 hg w67 hbox hb; have BK372 := aM (hbox); have GW372 := szG hg (uL HB); have GE372 := szG hg (uL HB); have NB352_372 := neL hg BK352; have NB372_352 := neG hg BK352; have NB353_372 := neL hg BK353; have NB372_353 := neG hg BK353; replace HO358 := aM (Kd.R_below (uR HO358) hb); replace HO363 := aM (Kd.R_below (uR HO363) hb); replace HO367 := aM (Kd.R_below (uR HO367) hb); replace HO371 := aM (Kd.R_below (uR HO371) hb); replace BK352 := blkB BK352 hb; replace BK353 := blkB BK353 hb; replace HB := aM (below_step (uL HB) hb); clear hb hbox hg; obtain ⟨Ao68, co68, eo68⟩ := Kd.R_slice HO371.out; subst eo68; have hnb69 := NB372_352.out; have hnc69 := NB352_372.out; have hnb70 := NB372_353.out; have hnc70 := NB353_372.out; have hcz71_0 := czA BK372.out 0 (.slice none 0 0); have hfz71_0 := blk_frozen BK372.out 0; have hcz72_0 := czA BK353.out 0 (.int .i64 a1_0); have hcz72_1 := czA BK353.out 1 (.int .i64 a1_1); have hcz72_2 := czA BK353.out 2 (.slice A1_2 l1_2.length c1_2); have hcz72_3 := czA BK353.out 3 (.string a1_3); have hfz72_0 := blk_frozen BK353.out 0; have hfz72_1 := blk_frozen BK353.out 1; have hfz72_2 := blk_frozen BK353.out 2; have hfz72_3 := blk_frozen BK353.out 3) | ((with_reducible refine gate_callee (f := 9) rfl ?_); refine gL (some 38) Tryd.func9 #[.agg #[.int .i64 a1_0, .int .i64 a1_1, .slice A1_2 l1_2.length c1_2, .string a1_3]] ?_; (with_reducible refine (laws_toSnap.calls k a1_0 a1_1 _ _ l1_2 a1_3 t373 t374 t375 t378 _ ?side1 ?side2 A23.out).mono ?_); (case side1 => exact Kd.C_below HR1_2.out (uL HB)); (case side2 => exact HC1_2.out); rintro e w73 ⟨v376, rfl, ho0, hb⟩; refine ⟨_, rfl, ?_⟩; have HO377 := aM (Kd.R_lower (Kd.R_new' ho0 (Kd.R_lt (by (with_reducible repeat first | apply rA | apply rN | apply rD); exact (Kd.R_mono (Kd.R_far (p := ⟨gb372, 0, none⟩) (Kd.R_types HO363.out BK372.out (by decide)) (fun _ hk => hk.2) (.slice Ao68 t369.length co68)) (fun _ h_ => h_.1))))) (below_size (uL HB))); replace HO358 := aM (Kd.R_below (by (with_reducible repeat first | apply rA | apply rN | apply rD); exact (Kd.R_mono (Kd.R_far (p := ⟨gb372, 0, none⟩) (Kd.R_types HO358.out BK372.out (by decide)) (fun _ hk => hk.2) (.slice Ao68 t369.length co68)) (fun _ h_ => h_.1))) hb); replace HO363 := aM (Kd.R_elder' (by (with_reducible repeat first | apply rA | apply rN | apply rD); exact (Kd.R_mono (Kd.R_far (p := ⟨gb372, 0, none⟩) (Kd.R_types HO363.out BK372.out (by decide)) (fun _ hk => hk.2) (.slice Ao68 t369.length co68)) (fun _ h_ => h_.1))) (Kd.R_base ho0) hb); replace HO367 := aM (Kd.R_below (by (with_reducible repeat first | apply rA | apply rN | apply rD); exact (Kd.R_mono (Kd.R_far (p := ⟨gb372, 0, none⟩) (Kd.R_types HO367.out BK372.out (by decide)) (fun _ hk => hk.2) (.slice Ao68 t369.length co68)) (fun _ h_ => h_.1))) hb); replace HO371 := aM (Kd.R_below (by (with_reducible repeat first | apply rA | apply rN | apply rD); exact (Kd.R_mono (Kd.R_far (p := ⟨gb372, 0, none⟩) (Kd.R_types HO371.out BK372.out (by decide)) (fun _ hk => hk.2) (.slice Ao68 t369.length co68)) (fun _ h_ => h_.1))) hb); replace BK352 := blkB BK352 hb; replace BK353 := blkB BK353 hb; replace BK372 := aM (blk_below (g := gb372) (o := .cells #[.slice Ao68 t369.length co68] 35 (0, 0)) (by refine nB ?_; refine blk_put (cs := #[.slice none 0 0]) ?_ 0 _ rfl; exact nB BK372.out) hb); replace HB := aM (below_step (uL HB) hb); try clear hb ho0) | ((with_reducible refine gate_dst (N := 9) rfl ?_); refine bxE 9 #[.int .i64 0, .int .i64 0, .slice none 0 0, .string (⟨#[]⟩ : ByteArray)] 37 ?_; intro gb379 hg w74 hbox hb; have BK379 := aM (hbox); have GW379 := szG hg (uL HB); have GE379 := szG hg (uL HB); have NB352_379 := neL hg BK352; have NB379_352 := neG hg BK352; have NB353_379 := neL hg BK353; have NB379_353 := neG hg BK353; have NB372_379 := neL hg BK372; have NB379_372 := neG hg BK372; replace HO358 := aM (Kd.R_below (uR HO358) hb); replace HO363 := aM (Kd.R_below (uR HO363) hb); replace HO367 := aM (Kd.R_below (uR HO367) hb); replace HO371 := aM (Kd.R_below (uR HO371) hb); replace HO377 := aM (Kd.R_below (uR HO377) hb); replace BK352 := blkB BK352 hb; replace BK353 := blkB BK353 hb; replace BK372 := blkB BK372 hb; replace HB := aM (below_step (uL HB) hb); clear hb hbox hg; have hnb75 := NB379_352.out; have hnc75 := NB352_379.out; have hnb76 := NB379_353.out; have hnc76 := NB353_379.out; have hnb77 := NB379_372.out; have hnc77 := NB372_379.out; have hcz78_0 := czA BK379.out 0 (.int .i64 0); have hcz78_1 := czA BK379.out 1 (.int .i64 0); have hcz78_2 := czA BK379.out 2 (.slice none 0 0); have hcz78_3 := czA BK379.out 3 (.string (⟨#[]⟩ : ByteArray)); have hfz78_0 := blk_frozen BK379.out 0; have hfz78_1 := blk_frozen BK379.out 1; have hfz78_2 := blk_frozen BK379.out 2; have hfz78_3 := blk_frozen BK379.out 3; obtain ⟨Ao79, co79, eo79⟩ := Kd.R_slice HO377.out; subst eo79; have hcz80_0 := czA BK372.out 0 (.slice Ao68 t369.length co68); have hfz80_0 := blk_frozen BK372.out 0) | ((with_reducible refine gate_callee (f := 10) rfl ?_); refine gL (some 42) Tryd.func10 #[.agg #[.slice Ao68 t369.length co68], .agg #[.int .i64 t373, .int .i64 t374, .slice Ao79 t375.length co79, .string t378]] ?_; (with_reducible refine (impl_SnapActs.calls k _ _ t369 t373 t374 _ _ t375 t378 t380 t383 _ ?side1 ?side2 ?side3 ?side4 A24.out (Cx.on HTAB.out (uL HB))).mono ?_); (case side1 => refine (Kd.R_reads' (e := 71) (base := w.heap.size) (ok := fun k_ => (True ∧ some k_ ≠ (.slice Ao62 t356.length co62 : Value).ownBlock)) (n := t369.length) (c := co68) ?_).2.2; exact (by (with_reducible repeat first | apply rA | apply rN | apply rD); exact (Kd.R_mono (Kd.R_far (p := ⟨gb379, 3, none⟩) (Kd.R_far (p := ⟨gb379, 2, none⟩) (Kd.R_far (p := ⟨gb379, 1, none⟩) (Kd.R_far (p := ⟨gb379, 0, none⟩) (Kd.R_types HO371.out BK379.out (by decide)) (fun _ hk => hk.2) (.int .i64 t373)) (fun _ hk => hk.2) (.int .i64 t374)) (fun _ hk => hk.2) (.slice Ao79 t375.length co79)) (fun _ hk => hk.2) (.string t378)) (fun _ h_ => h_.1)))); (case side2 => exact (Kd.R_reads' HO371.out).2.1); (case side3 => refine (Kd.R_reads' (e := 3) (base := w.heap.size) (ok := fun k_ => (True ∧ some k_ ≠ (.slice Ao63 t361.length co63 : Value).ownBlock)) (n := t375.length) (c := co79) ?_).2.2; exact (by (with_reducible repeat first | apply rA | apply rN | apply rD); exact (Kd.R_mono (Kd.R_far (p := ⟨gb379, 3, none⟩) (Kd.R_far (p := ⟨gb379, 2, none⟩) (Kd.R_far (p := ⟨gb379, 1, none⟩) (Kd.R_far (p := ⟨gb379, 0, none⟩) (Kd.R_types HO377.out BK379.out (by decide)) (fun _ hk => hk.2) (.int .i64 t373)) (fun _ hk => hk.2) (.int .i64 t374)) (fun _ hk => hk.2) (.slice Ao79 t375.length co79)) (fun _ hk => hk.2) (.string t378)) (fun _ h_ => h_.1)))); (case side4 => exact (Kd.R_reads' HO377.out).2.1); rintro e w81 ⟨v381, rfl, ho0, hb⟩; refine ⟨_, rfl, ?_⟩; have HO382 := aM (Kd.R_lower (Kd.R_new' ho0 (Kd.R_lt (by (with_reducible repeat first | apply rA | apply rN | apply rD); exact (Kd.R_mono (Kd.R_far (p := ⟨gb379, 3, none⟩) (Kd.R_far (p := ⟨gb379, 2, none⟩) (Kd.R_far (p := ⟨gb379, 1, none⟩) (Kd.R_far (p := ⟨gb379, 0, none⟩) (Kd.R_types HO367.out BK379.out (by decide)) (fun _ hk => hk.2) (.int .i64 t373)) (fun _ hk => hk.2) (.int .i64 t374)) (fun _ hk => hk.2) (.slice Ao79 t375.length co79)) (fun _ hk => hk.2) (.string t378)) (fun _ h_ => h_.1))))) (below_size (uL HB))); replace HO358 := aM (Kd.R_below (by (with_reducible repeat first | apply rA | apply rN | apply rD); exact (Kd.R_mono (Kd.R_far (p := ⟨gb379, 3, none⟩) (Kd.R_far (p := ⟨gb379, 2, none⟩) (Kd.R_far (p := ⟨gb379, 1, none⟩) (Kd.R_far (p := ⟨gb379, 0, none⟩) (Kd.R_types HO358.out BK379.out (by decide)) (fun _ hk => hk.2) (.int .i64 t373)) (fun _ hk => hk.2) (.int .i64 t374)) (fun _ hk => hk.2) (.slice Ao79 t375.length co79)) (fun _ hk => hk.2) (.string t378)) (fun _ h_ => h_.1))) hb); replace HO363 := aM (Kd.R_below (by (with_reducible repeat first | apply rA | apply rN | apply rD); exact (Kd.R_mono (Kd.R_far (p := ⟨gb379, 3, none⟩) (Kd.R_far (p := ⟨gb379, 2, none⟩) (Kd.R_far (p := ⟨gb379, 1, none⟩) (Kd.R_far (p := ⟨gb379, 0, none⟩) (Kd.R_types HO363.out BK379.out (by decide)) (fun _ hk => hk.2) (.int .i64 t373)) (fun _ hk => hk.2) (.int .i64 t374)) (fun _ hk => hk.2) (.slice Ao79 t375.length co79)) (fun _ hk => hk.2) (.string t378)) (fun _ h_ => h_.1))) hb); replace HO367 := aM (Kd.R_elder' (by (with_reducible repeat first | apply rA | apply rN | apply rD); exact (Kd.R_mono (Kd.R_far (p := ⟨gb379, 3, none⟩) (Kd.R_far (p := ⟨gb379, 2, none⟩) (Kd.R_far (p := ⟨gb379, 1, none⟩) (Kd.R_far (p := ⟨gb379, 0, none⟩) (Kd.R_types HO367.out BK379.out (by decide)) (fun _ hk => hk.2) (.int .i64 t373)) (fun _ hk => hk.2) (.int .i64 t374)) (fun _ hk => hk.2) (.slice Ao79 t375.length co79)) (fun _ hk => hk.2) (.string t378)) (fun _ h_ => h_.1))) (Kd.R_base ho0) hb); replace HO371 := aM (Kd.R_below (by (with_reducible repeat first | apply rA | apply rN | apply rD); exact (Kd.R_mono (Kd.R_far (p := ⟨gb379, 3, none⟩) (Kd.R_far (p := ⟨gb379, 2, none⟩) (Kd.R_far (p := ⟨gb379, 1, none⟩) (Kd.R_far (p := ⟨gb379, 0, none⟩) (Kd.R_types HO371.out BK379.out (by decide)) (fun _ hk => hk.2) (.int .i64 t373)) (fun _ hk => hk.2) (.int .i64 t374)) (fun _ hk => hk.2) (.slice Ao79 t375.length co79)) (fun _ hk => hk.2) (.string t378)) (fun _ h_ => h_.1))) hb); replace HO377 := aM (Kd.R_below (by (with_reducible repeat first | apply rA | apply rN | apply rD); exact (Kd.R_mono (Kd.R_far (p := ⟨gb379, 3, none⟩) (Kd.R_far (p := ⟨gb379, 2, none⟩) (Kd.R_far (p := ⟨gb379, 1, none⟩) (Kd.R_far (p := ⟨gb379, 0, none⟩) (Kd.R_types HO377.out BK379.out (by decide)) (fun _ hk => hk.2) (.int .i64 t373)) (fun _ hk => hk.2) (.int .i64 t374)) (fun _ hk => hk.2) (.slice Ao79 t375.length co79)) (fun _ hk => hk.2) (.string t378)) (fun _ h_ => h_.1))) hb); replace BK352 := blkB BK352 hb; replace BK353 := blkB BK353 hb; replace BK372 := blkB BK372 hb; replace BK379 := aM (blk_below (g := gb379) (o := .cells #[.int .i64 t373, .int .i64 t374, .slice Ao79 t375.length co79, .string t378] 37 (0, 0)) (by refine nB ?_; refine blk_put (cs := #[.int .i64 t373, .int .i64 t374, .slice Ao79 t375.length co79, .string (⟨#[]⟩ : ByteArray)]) ?_ 3 _ rfl; refine nB ?_; refine blk_put (cs := #[.int .i64 t373, .int .i64 t374, .slice none 0 0, .string (⟨#[]⟩ : ByteArray)]) ?_ 2 _ rfl; refine nB ?_; refine blk_put (cs := #[.int .i64 t373, .int .i64 0, .slice none 0 0, .string (⟨#[]⟩ : ByteArray)]) ?_ 1 _ rfl; refine nB ?_; refine blk_put (cs := #[.int .i64 0, .int .i64 0, .slice none 0 0, .string (⟨#[]⟩ : ByteArray)]) ?_ 0 _ rfl; exact nB BK379.out) hb); replace HB := aM (below_step (uL HB) hb); try clear hb ho0; obtain ⟨Ao82, co82, eo82⟩ := Kd.R_slice HO382.out; subst eo82; obtain ⟨Ao83, co83, eo83⟩ := Kd.R_slice HO367.out; subst eo83) | ((with_reducible refine gate_callee (f := 11) rfl ?_); refine gL (some 47) Tryd.func11 #[.slice Ao82 t380.length co82, .slice Ao83 t365.length co83] ?_; (with_reducible refine (laws_eqActS.calls k _ _ t380 _ _ t365 true _ ?side1 ?side2 ?side3 ?side4 A25.out).mono ?_); (case side1 => repeat (first | exact (Kd.R_reads' HO382.out).2.2 | (with_reducible refine cA ?_ _) | (with_reducible refine cN ?_ _) | (with_reducible refine cD ?_))); (case side2 => exact (Kd.R_reads' HO382.out).2.1); (case side3 => repeat (first | exact (Kd.R_reads' HO367.out).2.2 | (with_reducible refine cA ?_ _) | (with_reducible refine cN ?_ _) | (with_reducible refine cD ?_))); (case side4 => exact (Kd.R_reads' HO367.out).2.1); rintro e w84 ⟨rfl, hb⟩; refine ⟨_, rfl, ?_⟩; replace HO358 := aM (Kd.R_below (uR HO358) hb); replace HO363 := aM (Kd.R_below (uR HO363) hb); replace HO367 := aM (Kd.R_below (uR HO367) hb); replace HO371 := aM (Kd.R_below (uR HO371) hb); replace HO377 := aM (Kd.R_below (uR HO377) hb); replace HO382 := aM (Kd.R_below (uR HO382) hb); replace BK352 := blkB BK352 hb; replace BK353 := blkB BK353 hb; replace BK372 := blkB BK372 hb; replace BK379 := blkB BK379 hb; replace HB := aM (below_step (uL HB) hb); try clear hb))
               replace HO358 := aM (Kd.R_drew HO358.out)
               replace HO363 := aM (Kd.R_drew HO363.out)
               replace HO367 := aM (Kd.R_drew HO367.out)
               replace HO371 := aM (Kd.R_drew HO371.out)
               replace HO377 := aM (Kd.R_drew HO377.out)
               replace HO382 := aM (Kd.R_drew HO382.out)
               replace BK352 := aM (blk_drew BK352.out)
               replace BK353 := aM (blk_drew BK353.out)
               replace BK372 := aM (blk_drew BK372.out)
               replace BK379 := aM (blk_drew BK379.out)
               replace HB := aM (below_drew1 HB.out)
               refine start_ (n := 5) (S := fun w' => w'.cell? ⟨gb372, 0, none⟩ = some (.slice Ao68 t369.length co68) ∧ w'.cell? ⟨gb352, 0, none⟩ = some (.slice A0_0 l0_0.length c0_0)) (ds := []) (bB 5 0) (by kernel_rfl) rfl rfl ⟨(blk_cell BK372.out 0).trans rfl, (blk_cell BK352.out 0).trans rfl⟩ (fun hHeld => ?_)
               generalize w84.drew = w85 at HO358 HO363 HO367 HO371 HO377 HO382 BK352 BK353 BK372 BK379 HB hHeld ⊢
               refine take_ (i := 0) (N := some 54) (v := ?_) (a' := ?_) (bB 5 1) rfl rfl (by kernel_rfl) (fun _ _ _ h => h) (Or.inl ⟨by rfl, ?_⟩) hHeld ?_ ?_
               rotate_left
               ·rintro w' ⟨s0, s1⟩
                go_simp
                with_reducible rfl
               rotate_left
               ·simp only [aP, aQ, sT, sZ, sU, i64_w, i32_w]
                rfl
               refine take_ (i := 1) (N := some 55) (v := ?_) (a' := ?_) (bB 5 3) rfl rfl (by kernel_rfl) (fun _ _ _ h => h) (Or.inl ⟨by rfl, ?_⟩) hHeld ?_ ?_
               rotate_left
               ·rintro w' ⟨s0, s1⟩
                go_simp
                with_reducible rfl
               rotate_left
               ·simp only [aP, aQ, sT, sZ, sU, i64_w, i32_w]
                rfl
               refine one_ (i := 2) (N := some 56) (bB 5 7) rfl rfl (by kernel_rfl) (by decide) (fun K hK => ?_)
               refine gX Tryd.func8 #[.agg #[.slice A0_0 l0_0.length c0_0]] ?_
               with_reducible refine (laws_toDisk.calls k _ _ l0_0 t385 _ ?side1 ?side2 A28.out).mono ?_
               (case side1 => exact uC HR0_0 HB)
               (case side2 => exact HC0_0.out)
               rintro e w86 ⟨v386, rfl, ho0, hb⟩
               refine ⟨_, rfl, ?_⟩
               have HO387 := aM (Kd.R_lower (Kd.R_new' (Kd.R_new' ho0 (Kd.R_lt (uR HO358))) (Kd.R_lt (uR HO371))) (below_size (uL HB)))
               replace HO358 := aM (Kd.R_elder' (uR HO358) (Kd.R_base ho0) hb)
               replace HO363 := aM (Kd.R_below (uR HO363) hb)
               replace HO367 := aM (Kd.R_below (uR HO367) hb)
               replace HO371 := aM (Kd.R_elder' (uR HO371) (Kd.R_base ho0) hb)
               replace HO377 := aM (Kd.R_below (uR HO377) hb)
               replace HO382 := aM (Kd.R_below (uR HO382) hb)
               replace BK352 := blkB BK352 hb
               replace BK353 := blkB BK353 hb
               replace BK372 := blkB BK372 hb
               replace BK379 := blkB BK379 hb
               replace HB := aM (below_step (uL HB) hb)
               (try clear hb)
               (try clear hb2)
               (try clear hk)
               (try clear hi)
               (try clear ho0)
               obtain ⟨Ao87, co87, eo87⟩ := Kd.R_slice HO387.out
               (first | subst eo87 | (injection eo87 with f1_ f2_ f3_; have f4_ := f1_.symm; have f5_ := f3_.symm; clear f1_ f2_ f3_; subst f4_; subst f5_))
               refine hK.out _ _ ⟨(blk_cell BK372.out 0).trans rfl, (blk_cell BK352.out 0).trans rfl⟩ (fun hHeld => ?_)
               clear hK K
               refine nX 56 ?_
               refine one_ (i := 3) (N := some 57) (bB 5 15) rfl rfl (by kernel_rfl) (by decide) (fun K hK => ?_)
               refine gX Tryd.func12 #[.agg #[.slice Ao68 t369.length co68], .agg #[.slice Ao87 t385.length co87]] ?_
               with_reducible refine (laws_eqDisk.calls k _ _ t369 _ _ t385 true _ ?side1 ?side2 ?side3 ?side4 A29.out).mono ?_
               (case side1 => repeat (first | exact (Kd.R_reads' HO371.out).2.2 | (with_reducible refine cA ?_ _) | (with_reducible refine cN ?_ _) | (with_reducible refine cD ?_)))
               (case side2 => exact (Kd.R_reads' HO371.out).2.1)
               (case side3 => repeat (first | exact (Kd.R_reads' HO387.out).2.2 | (with_reducible refine cA ?_ _) | (with_reducible refine cN ?_ _) | (with_reducible refine cD ?_)))
               (case side4 => exact (Kd.R_reads' HO387.out).2.1)
               rintro e w88 ⟨rfl, hb⟩
               refine ⟨_, rfl, ?_⟩
               replace HO358 := aM (Kd.R_below (uR HO358) hb)
               replace HO363 := aM (Kd.R_below (uR HO363) hb)
               replace HO367 := aM (Kd.R_below (uR HO367) hb)
               replace HO371 := aM (Kd.R_below (uR HO371) hb)
               replace HO377 := aM (Kd.R_below (uR HO377) hb)
               replace HO382 := aM (Kd.R_below (uR HO382) hb)
               replace HO387 := aM (Kd.R_below (uR HO387) hb)
               replace BK352 := blkB BK352 hb
               replace BK353 := blkB BK353 hb
               replace BK372 := blkB BK372 hb
               replace BK379 := blkB BK379 hb
               replace HB := aM (below_step (uL HB) hb)
               (try clear hb)
               (try clear hb2)
               (try clear hk)
               (try clear hi)
               refine hK.out _ _ ⟨(blk_cell BK372.out 0).trans rfl, (blk_cell BK352.out 0).trans rfl⟩ (fun hHeld => ?_)
               clear hK K
               refine nX 57 ?_
               refine pX 4 58 (bB 5 31) (by kernel_rfl) ?_
               refine done_ (by kernel_rfl) ?_
               try go_wp2
               replace HO358 := aM (Kd.R_drew HO358.out)
               replace HO363 := aM (Kd.R_drew HO363.out)
               replace HO367 := aM (Kd.R_drew HO367.out)
               replace HO371 := aM (Kd.R_drew HO371.out)
               replace HO377 := aM (Kd.R_drew HO377.out)
               replace HO382 := aM (Kd.R_drew HO382.out)
               replace HO387 := aM (Kd.R_drew HO387.out)
               replace BK352 := aM (blk_drew BK352.out)
               replace BK353 := aM (blk_drew BK353.out)
               replace BK372 := aM (blk_drew BK372.out)
               replace BK379 := aM (blk_drew BK379.out)
               replace HB := aM (below_drew1 HB.out)
               refine start_ (n := 5) (S := fun w' => w'.cell? ⟨gb379, 0, none⟩ = some (.int .i64 t373) ∧ w'.cell? ⟨gb379, 1, none⟩ = some (.int .i64 t374) ∧ w'.cell? ⟨gb379, 2, none⟩ = some (.slice Ao79 t375.length co79) ∧ w'.cell? ⟨gb379, 3, none⟩ = some (.string t378) ∧ w'.cell? ⟨gb353, 0, none⟩ = some (.int .i64 a1_0) ∧ w'.cell? ⟨gb353, 1, none⟩ = some (.int .i64 a1_1) ∧ w'.cell? ⟨gb353, 2, none⟩ = some (.slice A1_2 l1_2.length c1_2) ∧ w'.cell? ⟨gb353, 3, none⟩ = some (.string a1_3)) (ds := []) (bB 5 0) (by kernel_rfl) rfl rfl ⟨(blk_cell BK379.out 0).trans rfl, (blk_cell BK379.out 1).trans rfl, (blk_cell BK379.out 2).trans rfl, (blk_cell BK379.out 3).trans rfl, (blk_cell BK353.out 0).trans rfl, (blk_cell BK353.out 1).trans rfl, (blk_cell BK353.out 2).trans rfl, (blk_cell BK353.out 3).trans rfl⟩ (fun hHeld => ?_)
               generalize w88.drew = w89 at HO358 HO363 HO367 HO371 HO377 HO382 HO387 BK352 BK353 BK372 BK379 HB hHeld ⊢
               refine take_ (i := 0) (N := some 59) (v := ?_) (a' := ?_) (bB 5 1) rfl rfl (by kernel_rfl) (fun _ _ _ h => h) (Or.inl ⟨by rfl, ?_⟩) hHeld ?_ ?_
               rotate_left
               ·rintro w' ⟨s0, s1, s2, s3, s4, s5, s6, s7⟩
                go_simp
                with_reducible rfl
               rotate_left
               ·simp only [aP, aQ, sT, sZ, sU, i64_w, i32_w]
                rfl
               refine take_ (i := 1) (N := some 60) (v := ?_) (a' := ?_) (bB 5 3) rfl rfl (by kernel_rfl) (fun _ _ _ h => h) (Or.inl ⟨by rfl, ?_⟩) hHeld ?_ ?_
               rotate_left
               ·rintro w' ⟨s0, s1, s2, s3, s4, s5, s6, s7⟩
                go_simp
                with_reducible rfl
               rotate_left
               ·simp only [aP, aQ, sT, sZ, sU, i64_w, i32_w]
                rfl
               refine one_ (i := 2) (N := some 61) (bB 5 7) rfl rfl (by kernel_rfl) (by decide) (fun K hK => ?_)
               refine gX Tryd.func9 #[.agg #[.int .i64 a1_0, .int .i64 a1_1, .slice A1_2 l1_2.length c1_2, .string a1_3]] ?_
               with_reducible refine (laws_toSnap.calls k a1_0 a1_1 _ _ l1_2 a1_3 t389 t390 t391 t394 _ ?side1 ?side2 A31.out).mono ?_
               (case side1 => exact uC HR1_2 HB)
               (case side2 => exact HC1_2.out)
               rintro e w90 ⟨v392, rfl, ho0, hb⟩
               refine ⟨_, rfl, ?_⟩
               have HO393 := aM (Kd.R_lower (Kd.R_new' (Kd.R_new' ho0 (Kd.R_lt (uR HO363))) (Kd.R_lt (uR HO377))) (below_size (uL HB)))
               replace HO358 := aM (Kd.R_below (uR HO358) hb)
               replace HO363 := aM (Kd.R_elder' (uR HO363) (Kd.R_base ho0) hb)
               replace HO367 := aM (Kd.R_below (uR HO367) hb)
               replace HO371 := aM (Kd.R_below (uR HO371) hb)
               replace HO377 := aM (Kd.R_elder' (uR HO377) (Kd.R_base ho0) hb)
               replace HO382 := aM (Kd.R_below (uR HO382) hb)
               replace HO387 := aM (Kd.R_below (uR HO387) hb)
               replace BK352 := blkB BK352 hb
               replace BK353 := blkB BK353 hb
               replace BK372 := blkB BK372 hb
               replace BK379 := blkB BK379 hb
               replace HB := aM (below_step (uL HB) hb)
               (try clear hb)
               (try clear hb2)
               (try clear hk)
               (try clear hi)
               (try clear ho0)
               obtain ⟨Ao91, co91, eo91⟩ := Kd.R_slice HO393.out
               (first | subst eo91 | (injection eo91 with f1_ f2_ f3_; have f4_ := f1_.symm; have f5_ := f3_.symm; clear f1_ f2_ f3_; subst f4_; subst f5_))
               refine hK.out _ _ ⟨(blk_cell BK379.out 0).trans rfl, (blk_cell BK379.out 1).trans rfl, (blk_cell BK379.out 2).trans rfl, (blk_cell BK379.out 3).trans rfl, (blk_cell BK353.out 0).trans rfl, (blk_cell BK353.out 1).trans rfl, (blk_cell BK353.out 2).trans rfl, (blk_cell BK353.out 3).trans rfl⟩ (fun hHeld => ?_)
               clear hK K
               refine nX 61 ?_
               refine one_ (i := 3) (N := some 62) (bB 5 15) rfl rfl (by kernel_rfl) (by decide) (fun K hK => ?_)
               refine gX Tryd.func13 #[.agg #[.int .i64 t373, .int .i64 t374, .slice Ao79 t375.length co79, .string t378], .agg #[.int .i64 t389, .int .i64 t390, .slice Ao91 t391.length co91, .string t394]] ?_
               with_reducible refine (laws_eqSnap.calls k t373 t374 _ _ t375 t378 t389 t390 _ _ t391 t394 true _ ?side1 ?side2 ?side3 ?side4 A32.out).mono ?_
               (case side1 => repeat (first | exact (Kd.R_reads' HO377.out).2.2 | (with_reducible refine cA ?_ _) | (with_reducible refine cN ?_ _) | (with_reducible refine cD ?_)))
               (case side2 => exact (Kd.R_reads' HO377.out).2.1)
               (case side3 => repeat (first | exact (Kd.R_reads' HO393.out).2.2 | (with_reducible refine cA ?_ _) | (with_reducible refine cN ?_ _) | (with_reducible refine cD ?_)))
               (case side4 => exact (Kd.R_reads' HO393.out).2.1)
               rintro e w92 ⟨rfl, hb⟩
               refine ⟨_, rfl, ?_⟩
               replace HO358 := aM (Kd.R_below (uR HO358) hb)
               replace HO363 := aM (Kd.R_below (uR HO363) hb)
               replace HO367 := aM (Kd.R_below (uR HO367) hb)
               replace HO371 := aM (Kd.R_below (uR HO371) hb)
               replace HO377 := aM (Kd.R_below (uR HO377) hb)
               replace HO382 := aM (Kd.R_below (uR HO382) hb)
               replace HO387 := aM (Kd.R_below (uR HO387) hb)
               replace HO393 := aM (Kd.R_below (uR HO393) hb)
               replace BK352 := blkB BK352 hb
               replace BK353 := blkB BK353 hb
               replace BK372 := blkB BK372 hb
               replace BK379 := blkB BK379 hb
               replace HB := aM (below_step (uL HB) hb)
               (try clear hb)
               (try clear hb2)
               (try clear hk)
               (try clear hi)
               refine hK.out _ _ ⟨(blk_cell BK379.out 0).trans rfl, (blk_cell BK379.out 1).trans rfl, (blk_cell BK379.out 2).trans rfl, (blk_cell BK379.out 3).trans rfl, (blk_cell BK353.out 0).trans rfl, (blk_cell BK353.out 1).trans rfl, (blk_cell BK353.out 2).trans rfl, (blk_cell BK353.out 3).trans rfl⟩ (fun hHeld => ?_)
               clear hK K
               refine nX 62 ?_
               refine pX 4 63 (bB 5 31) (by kernel_rfl) ?_
               refine done_ (by kernel_rfl) ?_
               have hcz93_0 := czA BK372.out 0 (.slice Ao68 t369.length co68)
               have hfz93_0 := blk_frozen BK372.out 0
               try go_wp2_with (first | ((with_reducible refine gate_callee (f := 14) rfl ?_); refine gL (some 66) Tryd.func14 #[.agg #[.slice Ao68 t369.length co68], .int .i64 1] ?_; (with_reducible refine (laws_markDisk.calls k (fun k_ => some k_ = (.slice Ao68 t369.length co68 : Value).ownBlock) (.slice Ao68 t369.length co68) t369 1 t396 t397 w _ ?side1 ?side2 A34.out).mono ?_); (case side1 => repeat (first | (with_reducible first | exact HB.out | apply lA | apply lN | apply lD | refine lS ?_ GE352.out | refine lS ?_ GE353.out | refine lS ?_ GE372.out | refine lS ?_ GE379.out) | exact HB.out)); (case side2 => exact Kd.R_tight rfl HO371.out); rintro e w94 ⟨rfl, hy0, hb, hkp⟩; refine ⟨_, rfl, ?_⟩; replace BK352 := aM (blk_kept (uB BK352) hkp (fun hs_ => (fun e_ => (Kd.R_ne HO371.out BK352.out (by decide)) e_) hs_)); replace BK353 := aM (blk_kept (uB BK353) hkp (fun hs_ => (fun e_ => (Kd.R_ne HO371.out BK353.out (by decide)) e_) hs_)); replace HO358 := aM (Kd.R_mono (ok' := fun k_ => some k_ ≠ (.slice Ao68 t369.length co68 : Value).ownBlock ∧ some k_ ≠ (.slice Ao87 t385.length co87 : Value).ownBlock) (Kd.R_keptB (HO358.out) hkp (fun k_ hk_ hs_ => (hk_.1.2) hs_)) (fun k_ hk_ => ⟨hk_.1.1.2, hk_.1.2⟩)); replace HO363 := aM (Kd.R_mono (ok' := fun k_ => some k_ ≠ (.slice Ao79 t375.length co79 : Value).ownBlock ∧ some k_ ≠ (.slice Ao91 t391.length co91 : Value).ownBlock) (Kd.R_keptB ((Kd.R_apart' HO363.out (Kd.R_typed HO371.out) (by decide))) hkp (fun k_ hk_ hs_ => (hk_.2) hs_)) (fun k_ hk_ => ⟨hk_.1.1.1.2, hk_.1.1.2⟩)); replace HO367 := aM (Kd.R_mono (ok' := fun k_ => some k_ ≠ (.slice Ao82 t380.length co82 : Value).ownBlock) (Kd.R_keptB ((Kd.R_apart' HO367.out (Kd.R_typed HO371.out) (by decide))) hkp (fun k_ hk_ hs_ => (hk_.2) hs_)) (fun k_ hk_ => hk_.1.1.2)); replace BK372 := aM (blk_kept (uB BK372) hkp (fun hs_ => (fun e_ => (Kd.R_ne HO371.out BK372.out (by decide)) e_) hs_)); replace HO377 := aM (Kd.R_mono (ok' := fun k_ => some k_ ≠ (.slice Ao63 t361.length co63 : Value).ownBlock ∧ some k_ ≠ (.slice Ao91 t391.length co91 : Value).ownBlock) (Kd.R_keptB ((Kd.R_apart' HO377.out (Kd.R_typed HO371.out) (by decide))) hkp (fun k_ hk_ hs_ => (hk_.2) hs_)) (fun k_ hk_ => ⟨hk_.1.1.1.2, hk_.1.1.2⟩)); replace BK379 := aM (blk_kept (uB BK379) hkp (fun hs_ => (fun e_ => (Kd.R_ne HO371.out BK379.out (by decide)) e_) hs_)); replace HO382 := aM (Kd.R_mono (ok' := fun k_ => some k_ ≠ (.slice Ao83 t365.length co83 : Value).ownBlock) (Kd.R_keptB ((Kd.R_apart' HO382.out (Kd.R_typed HO371.out) (by decide))) hkp (fun k_ hk_ hs_ => (hk_.2) hs_)) (fun k_ hk_ => hk_.1.1.2)); replace HO387 := aM (Kd.R_mono (ok' := fun k_ => some k_ ≠ (.slice Ao62 t356.length co62 : Value).ownBlock ∧ some k_ ≠ (.slice Ao68 t369.length co68 : Value).ownBlock) (Kd.R_keptB (HO387.out) hkp (fun k_ hk_ hs_ => (hk_.2) hs_)) (fun k_ hk_ => ⟨hk_.1.1.2, hk_.1.2⟩)); replace HO393 := aM (Kd.R_mono (ok' := fun k_ => some k_ ≠ (.slice Ao63 t361.length co63 : Value).ownBlock ∧ some k_ ≠ (.slice Ao79 t375.length co79 : Value).ownBlock) (Kd.R_keptB ((Kd.R_apart' HO393.out (Kd.R_typed HO371.out) (by decide))) hkp (fun k_ hk_ hs_ => (hk_.2) hs_)) (fun k_ hk_ => ⟨hk_.1.1.1.2, hk_.1.1.2⟩)); replace HO371 := aM (Kd.R_reok rfl hy0 (fun k_ e_ => HO371.out.1 k_ e_)); replace HB := aM (hb); try clear hb; (try clear hkp); (try clear hy0); have hcz95_0 := czA BK379.out 0 (.int .i64 t373); have hcz95_1 := czA BK379.out 1 (.int .i64 t374); have hcz95_2 := czA BK379.out 2 (.slice Ao79 t375.length co79); have hcz95_3 := czA BK379.out 3 (.string t378); have hfz95_0 := blk_frozen BK379.out 0; have hfz95_1 := blk_frozen BK379.out 1; have hfz95_2 := blk_frozen BK379.out 2; have hfz95_3 := blk_frozen BK379.out 3) | ((with_reducible refine gate_callee (f := 15) rfl ?_); refine gL (some 69) Tryd.func15 #[.agg #[.int .i64 t373, .int .i64 t374, .slice Ao79 t375.length co79, .string t378], .int .i64 t396] ?_; (with_reducible refine (laws_markSnap.calls k t373 t374 (fun k_ => some k_ = (.slice Ao79 t375.length co79 : Value).ownBlock) (.slice Ao79 t375.length co79) t375 t378 t396 t398 t399 w _ ?side1 ?side2 A35.out).mono ?_); (case side1 => repeat (first | (with_reducible first | exact HB.out | apply lA | apply lN | apply lD | refine lS ?_ GE352.out | refine lS ?_ GE353.out | refine lS ?_ GE372.out | refine lS ?_ GE379.out) | exact HB.out)); (case side2 => exact Kd.R_tight rfl HO377.out); rintro e w96 ⟨rfl, hy0, hb, hkp⟩; refine ⟨_, rfl, ?_⟩; replace BK352 := aM (blk_kept (uB BK352) hkp (fun hs_ => (fun e_ => (Kd.R_ne HO377.out BK352.out (by decide)) e_) hs_)); replace BK353 := aM (blk_kept (uB BK353) hkp (fun hs_ => (fun e_ => (Kd.R_ne HO377.out BK353.out (by decide)) e_) hs_)); replace HO358 := aM (Kd.R_mono (ok' := fun k_ => some k_ ≠ (.slice Ao68 t369.length co68 : Value).ownBlock ∧ some k_ ≠ (.slice Ao87 t385.length co87 : Value).ownBlock) (Kd.R_keptB ((Kd.R_apart' HO358.out (Kd.R_typed HO377.out) (by decide))) hkp (fun k_ hk_ hs_ => (hk_.2) hs_)) (fun k_ hk_ => ⟨hk_.1.1.1, hk_.1.1.2⟩)); replace HO363 := aM (Kd.R_mono (ok' := fun k_ => some k_ ≠ (.slice Ao79 t375.length co79 : Value).ownBlock ∧ some k_ ≠ (.slice Ao91 t391.length co91 : Value).ownBlock) (Kd.R_keptB (HO363.out) hkp (fun k_ hk_ hs_ => (hk_.1) hs_)) (fun k_ hk_ => ⟨hk_.1.1, hk_.1.2⟩)); replace HO367 := aM (Kd.R_mono (ok' := fun k_ => some k_ ≠ (.slice Ao82 t380.length co82 : Value).ownBlock) (Kd.R_keptB ((Kd.R_apart' HO367.out (Kd.R_typed HO377.out) (by decide))) hkp (fun k_ hk_ hs_ => (hk_.2) hs_)) (fun k_ hk_ => hk_.1.1)); replace HO371 := aM (Kd.R_mono (ok' := fun k_ => some k_ ≠ (.slice Ao62 t356.length co62 : Value).ownBlock ∧ some k_ ≠ (.slice Ao87 t385.length co87 : Value).ownBlock) (Kd.R_keptB ((Kd.R_apart' HO371.out (Kd.R_typed HO377.out) (by decide))) hkp (fun k_ hk_ hs_ => (hk_.2) hs_)) (fun k_ hk_ => ⟨hk_.1.1.1.2, hk_.1.1.2⟩)); replace BK372 := aM (blk_kept (uB BK372) hkp (fun hs_ => (fun e_ => (Kd.R_ne HO377.out BK372.out (by decide)) e_) hs_)); replace BK379 := aM (blk_kept (uB BK379) hkp (fun hs_ => (fun e_ => (Kd.R_ne HO377.out BK379.out (by decide)) e_) hs_)); replace HO382 := aM (Kd.R_mono (ok' := fun k_ => some k_ ≠ (.slice Ao83 t365.length co83 : Value).ownBlock) (Kd.R_keptB ((Kd.R_apart' HO382.out (Kd.R_typed HO377.out) (by decide))) hkp (fun k_ hk_ hs_ => (hk_.2) hs_)) (fun k_ hk_ => hk_.1.1)); replace HO387 := aM (Kd.R_mono (ok' := fun k_ => some k_ ≠ (.slice Ao62 t356.length co62 : Value).ownBlock ∧ some k_ ≠ (.slice Ao68 t369.length co68 : Value).ownBlock) (Kd.R_keptB ((Kd.R_apart' HO387.out (Kd.R_typed HO377.out) (by decide))) hkp (fun k_ hk_ hs_ => (hk_.2) hs_)) (fun k_ hk_ => ⟨hk_.1.1.1, hk_.1.1.2⟩)); replace HO377 := aM (Kd.R_reok rfl hy0 (fun k_ e_ => HO377.out.1 k_ e_)); replace HO393 := aM (Kd.R_mono (ok' := fun k_ => some k_ ≠ (.slice Ao63 t361.length co63 : Value).ownBlock ∧ some k_ ≠ (.slice Ao79 t375.length co79 : Value).ownBlock) (Kd.R_keptB (HO393.out) hkp (fun k_ hk_ hs_ => (hk_.2) hs_)) (fun k_ hk_ => ⟨hk_.1.1, hk_.1.2⟩)); replace HB := aM (hb); try clear hb; (try clear hkp); (try clear hy0)) | (go_at_call 11; (with_reducible refine (laws_eqActS.calls k _ _ t380 _ _ t365 true _ ?side1 ?side2 ?side3 ?side4 A37.out).mono ?_); (case side1 => repeat (first | exact (Kd.R_reads' HO382.out).2.2 | (with_reducible refine cA ?_ _) | (with_reducible refine cN ?_ _) | (with_reducible refine cD ?_))); (case side2 => exact (Kd.R_reads' HO382.out).2.1); (case side3 => repeat (first | exact (Kd.R_reads' HO367.out).2.2 | (with_reducible refine cA ?_ _) | (with_reducible refine cN ?_ _) | (with_reducible refine cD ?_))); (case side4 => exact (Kd.R_reads' HO367.out).2.1); rintro e w97 ⟨rfl, hb⟩; replace HO358 := aM (Kd.R_below (uR HO358) hb); replace HO363 := aM (Kd.R_below (uR HO363) hb); replace HO367 := aM (Kd.R_below (uR HO367) hb); replace HO371 := aM (Kd.R_below (uR HO371) hb); replace HO377 := aM (Kd.R_below (uR HO377) hb); replace HO382 := aM (Kd.R_below (uR HO382) hb); replace HO387 := aM (Kd.R_below (uR HO387) hb); replace HO393 := aM (Kd.R_below (uR HO393) hb); replace BK352 := blkB BK352 hb; replace BK353 := blkB BK353 hb; replace BK372 := blkB BK372 hb; replace BK379 := blkB BK379 hb; replace HB := aM (below_step (uL HB) hb); try clear hb) | ((with_reducible refine gate_callee (f := 16) rfl ?_); refine gL (some 85) Tryd.func16 #[.slice Ao82 t380.length co82, .int .i64 1] ?_; (with_reducible refine (laws_markActS.calls k (fun k_ => some k_ = (.slice Ao82 t380.length co82 : Value).ownBlock) (.slice Ao82 t380.length co82) t380 1 t401 t402 w _ ?side1 ?side2 A39.out).mono ?_); (case side1 => repeat (first | (with_reducible first | exact HB.out | apply lA | apply lN | apply lD | refine lS ?_ GE352.out | refine lS ?_ GE353.out | refine lS ?_ GE372.out | refine lS ?_ GE379.out) | exact HB.out)); (case side2 => exact Kd.R_tight rfl HO382.out); rintro e w98 ⟨rfl, hy0, hb, hkp⟩; refine ⟨_, rfl, ?_⟩; replace BK352 := aM (blk_kept (uB BK352) hkp (fun hs_ => (fun e_ => (Kd.R_ne HO382.out BK352.out (by decide)) e_) hs_)); replace BK353 := aM (blk_kept (uB BK353) hkp (fun hs_ => (fun e_ => (Kd.R_ne HO382.out BK353.out (by decide)) e_) hs_)); replace HO358 := aM (Kd.R_mono (ok' := fun k_ => some k_ ≠ (.slice Ao68 t369.length co68 : Value).ownBlock ∧ some k_ ≠ (.slice Ao87 t385.length co87 : Value).ownBlock) (Kd.R_keptB ((Kd.R_apart' HO358.out (Kd.R_typed HO382.out) (by decide))) hkp (fun k_ hk_ hs_ => (hk_.2) hs_)) (fun k_ hk_ => ⟨hk_.1.1.1, hk_.1.1.2⟩)); replace HO363 := aM (Kd.R_mono (ok' := fun k_ => some k_ ≠ (.slice Ao79 t375.length co79 : Value).ownBlock ∧ some k_ ≠ (.slice Ao91 t391.length co91 : Value).ownBlock) (Kd.R_keptB ((Kd.R_apart' HO363.out (Kd.R_typed HO382.out) (by decide))) hkp (fun k_ hk_ hs_ => (hk_.2) hs_)) (fun k_ hk_ => ⟨hk_.1.1.1, hk_.1.1.2⟩)); replace HO367 := aM (Kd.R_mono (ok' := fun k_ => some k_ ≠ (.slice Ao82 t380.length co82 : Value).ownBlock) (Kd.R_keptB (HO367.out) hkp (fun k_ hk_ hs_ => (hk_) hs_)) (fun k_ hk_ => hk_.1)); replace HO371 := aM (Kd.R_mono (ok' := fun k_ => some k_ ≠ (.slice Ao62 t356.length co62 : Value).ownBlock ∧ some k_ ≠ (.slice Ao87 t385.length co87 : Value).ownBlock) (Kd.R_keptB ((Kd.R_apart' HO371.out (Kd.R_typed HO382.out) (by decide))) hkp (fun k_ hk_ hs_ => (hk_.2) hs_)) (fun k_ hk_ => ⟨hk_.1.1.1, hk_.1.1.2⟩)); replace BK372 := aM (blk_kept (uB BK372) hkp (fun hs_ => (fun e_ => (Kd.R_ne HO382.out BK372.out (by decide)) e_) hs_)); replace HO377 := aM (Kd.R_mono (ok' := fun k_ => some k_ ≠ (.slice Ao63 t361.length co63 : Value).ownBlock ∧ some k_ ≠ (.slice Ao91 t391.length co91 : Value).ownBlock) (Kd.R_keptB ((Kd.R_apart' HO377.out (Kd.R_typed HO382.out) (by decide))) hkp (fun k_ hk_ hs_ => (hk_.2) hs_)) (fun k_ hk_ => ⟨hk_.1.1.1, hk_.1.1.2⟩)); replace BK379 := aM (blk_kept (uB BK379) hkp (fun hs_ => (fun e_ => (Kd.R_ne HO382.out BK379.out (by decide)) e_) hs_)); replace HO387 := aM (Kd.R_mono (ok' := fun k_ => some k_ ≠ (.slice Ao62 t356.length co62 : Value).ownBlock ∧ some k_ ≠ (.slice Ao68 t369.length co68 : Value).ownBlock) (Kd.R_keptB ((Kd.R_apart' HO387.out (Kd.R_typed HO382.out) (by decide))) hkp (fun k_ hk_ hs_ => (hk_.2) hs_)) (fun k_ hk_ => ⟨hk_.1.1.1, hk_.1.1.2⟩)); replace HO393 := aM (Kd.R_mono (ok' := fun k_ => some k_ ≠ (.slice Ao63 t361.length co63 : Value).ownBlock ∧ some k_ ≠ (.slice Ao79 t375.length co79 : Value).ownBlock) (Kd.R_keptB ((Kd.R_apart' HO393.out (Kd.R_typed HO382.out) (by decide))) hkp (fun k_ hk_ hs_ => (hk_.2) hs_)) (fun k_ hk_ => ⟨hk_.1.1.1, hk_.1.1.2⟩)); replace HO382 := aM (Kd.R_reok rfl hy0 (fun k_ e_ => HO382.out.1 k_ e_)); replace HB := aM (hb); try clear hb; (try clear hkp); (try clear hy0)) | ((with_reducible refine gate_callee (f := 17) rfl ?_); refine goesL_ (some 88) rfl rfl Tryd.func17 (by kernel_rfl) rfl #[.slice Ao82 t402.length co82, .int .i64 1] rfl (by (try simp only [List.map_toArray, List.map_cons, List.map_nil]); first | done | (rw [show t402.length = t380.length from (Kd.R_reads' HO382.out).1.symm] <;> rfl) | rfl | (simp only [List.length_drop, List.length_take]; rfl)) ?_; (with_reducible refine (laws_heldActS.calls k _ _ t402 1 t403 _ ?side1 ?side2 A40.out).mono ?_); (case side1 => repeat (first | exact (Kd.R_reads' HO382.out).2.2 | (with_reducible refine cA ?_ _) | (with_reducible refine cN ?_ _) | (with_reducible refine cD ?_))); (case side2 => rw [show t402.length = t380.length from (Kd.R_reads' HO382.out).1.symm]; exact (Kd.R_reads' HO382.out).2.1); rintro e w99 ⟨rfl, hb⟩; refine ⟨_, rfl, ?_⟩; replace HO358 := aM (Kd.R_below (uR HO358) hb); replace HO363 := aM (Kd.R_below (uR HO363) hb); replace HO367 := aM (Kd.R_below (uR HO367) hb); replace HO371 := aM (Kd.R_below (uR HO371) hb); replace HO377 := aM (Kd.R_below (uR HO377) hb); replace HO382 := aM (Kd.R_below (uR HO382) hb); replace HO387 := aM (Kd.R_below (uR HO387) hb); replace HO393 := aM (Kd.R_below (uR HO393) hb); replace BK352 := blkB BK352 hb; replace BK353 := blkB BK353 hb; replace BK372 := blkB BK372 hb; replace BK379 := blkB BK379 hb; replace HB := aM (below_step (uL HB) hb); try clear hb))
               replace HO358 := aM (Kd.R_drew HO358.out)
               replace HO363 := aM (Kd.R_drew HO363.out)
               replace HO367 := aM (Kd.R_drew HO367.out)
               replace HO371 := aM (Kd.R_drew HO371.out)
               replace HO377 := aM (Kd.R_drew HO377.out)
               replace HO382 := aM (Kd.R_drew HO382.out)
               replace HO387 := aM (Kd.R_drew HO387.out)
               replace HO393 := aM (Kd.R_drew HO393.out)
               replace BK352 := aM (blk_drew BK352.out)
               replace BK353 := aM (blk_drew BK353.out)
               replace BK372 := aM (blk_drew BK372.out)
               replace BK379 := aM (blk_drew BK379.out)
               replace HB := aM (below_drew1 HB.out)
               refine start_ (n := 10) (S := fun w' => w'.cell? ⟨gb352, 0, none⟩ = some (.slice A0_0 l0_0.length c0_0) ∧ w'.cell? ⟨gb353, 0, none⟩ = some (.int .i64 a1_0) ∧ w'.cell? ⟨gb353, 1, none⟩ = some (.int .i64 a1_1) ∧ w'.cell? ⟨gb353, 2, none⟩ = some (.slice A1_2 l1_2.length c1_2) ∧ w'.cell? ⟨gb353, 3, none⟩ = some (.string a1_3)) (ds := []) (bB 10 0) (by kernel_rfl) rfl rfl ⟨(blk_cell BK352.out 0).trans rfl, (blk_cell BK353.out 0).trans rfl, (blk_cell BK353.out 1).trans rfl, (blk_cell BK353.out 2).trans rfl, (blk_cell BK353.out 3).trans rfl⟩ (fun hHeld => ?_); refine with_tabW laws_FnExactSnapActs.tab31 laws_FnExactSnapActs.bits31 (fun HT_ HW_ => ?_)
               generalize w99.drew = w100 at HO358 HO363 HO367 HO371 HO377 HO382 HO387 HO393 BK352 BK353 BK372 BK379 HB hHeld ⊢
               refine tA HT_.out HW_.out 0 95 10 1 hHeld ?_; refine tA HT_.out HW_.out 2 97 10 5 hHeld ?_
               refine oA HT_.out 1 (some 96) 10 7 (fun K hK => ?_)
               refine gX Tryd.func8 #[.agg #[.slice A0_0 l0_0.length c0_0]] ?_
               with_reducible refine (laws_toDisk.calls k _ _ l0_0 t404 _ ?side1 ?side2 A43.out).mono ?_
               (case side1 => exact uC HR0_0 HB)
               (case side2 => exact HC0_0.out)
               rintro e w101 ⟨v405, rfl, ho0, hb⟩
               refine ⟨_, rfl, ?_⟩
               have HO406 := aM (Kd.R_lower (Kd.R_new' (Kd.R_new' (Kd.R_new' ho0 (Kd.R_lt (uR HO358))) (Kd.R_lt (uR HO371))) (Kd.R_lt (uR HO387))) (below_size (uL HB)))
               replace HO358 := aM (Kd.R_elder' (uR HO358) (Kd.R_base ho0) hb)
               replace HO363 := aM (Kd.R_below (uR HO363) hb)
               replace HO367 := aM (Kd.R_below (uR HO367) hb)
               replace HO371 := aM (Kd.R_elder' (uR HO371) (Kd.R_base ho0) hb)
               replace HO377 := aM (Kd.R_below (uR HO377) hb)
               replace HO382 := aM (Kd.R_below (uR HO382) hb)
               replace HO387 := aM (Kd.R_elder' (uR HO387) (Kd.R_base ho0) hb)
               replace HO393 := aM (Kd.R_below (uR HO393) hb)
               replace BK352 := blkB BK352 hb
               replace BK353 := blkB BK353 hb
               replace BK372 := blkB BK372 hb
               replace BK379 := blkB BK379 hb
               replace HB := aM (below_step (uL HB) hb)
               (try clear hb)
               (try clear hb2)
               (try clear hk)
               (try clear hi)
               (try clear ho0)
               refine hK.out _ _ ⟨(blk_cell BK352.out 0).trans rfl, (blk_cell BK353.out 0).trans rfl, (blk_cell BK353.out 1).trans rfl, (blk_cell BK353.out 2).trans rfl, (blk_cell BK353.out 3).trans rfl⟩ (fun hHeld => ?_)
               clear hK K
               refine nX 96 ?_
               refine oA HT_.out 3 (some 98) 10 15 (fun K hK => ?_)
               refine gX Tryd.func9 #[.agg #[.int .i64 a1_0, .int .i64 a1_1, .slice A1_2 l1_2.length c1_2, .string a1_3]] ?_
               with_reducible refine (laws_toSnap.calls k a1_0 a1_1 _ _ l1_2 a1_3 t407 t408 t409 t412 _ ?side1 ?side2 A44.out).mono ?_
               (case side1 => exact uC HR1_2 HB)
               (case side2 => exact HC1_2.out)
               rintro e w102 ⟨v410, rfl, ho0, hb⟩
               refine ⟨_, rfl, ?_⟩
               have HO411 := aM (Kd.R_lower (Kd.R_new' (Kd.R_new' (Kd.R_new' ho0 (Kd.R_lt (uR HO363))) (Kd.R_lt (uR HO377))) (Kd.R_lt (uR HO393))) (below_size (uL HB)))
               replace HO358 := aM (Kd.R_below (uR HO358) hb)
               replace HO363 := aM (Kd.R_elder' (uR HO363) (Kd.R_base ho0) hb)
               replace HO367 := aM (Kd.R_below (uR HO367) hb)
               replace HO371 := aM (Kd.R_below (uR HO371) hb)
               replace HO377 := aM (Kd.R_elder' (uR HO377) (Kd.R_base ho0) hb)
               replace HO382 := aM (Kd.R_below (uR HO382) hb)
               replace HO387 := aM (Kd.R_below (uR HO387) hb)
               replace HO393 := aM (Kd.R_elder' (uR HO393) (Kd.R_base ho0) hb)
               replace HO406 := aM (Kd.R_below (uR HO406) hb)
               replace BK352 := blkB BK352 hb
               replace BK353 := blkB BK353 hb
               replace BK372 := blkB BK372 hb
               replace BK379 := blkB BK379 hb
               replace HB := aM (below_step (uL HB) hb)
               (try clear hb)
               (try clear hb2)
               (try clear hk)
               (try clear hi)
               (try clear ho0)
               obtain ⟨Ao103, co103, eo103⟩ := Kd.R_slice HO406.out
               (first | subst eo103 | (injection eo103 with f1_ f2_ f3_; have f4_ := f1_.symm; have f5_ := f3_.symm; clear f1_ f2_ f3_; subst f4_; subst f5_))
               obtain ⟨Ao104, co104, eo104⟩ := Kd.R_slice HO411.out
               (first | subst eo104 | (injection eo104 with f1_ f2_ f3_; have f4_ := f1_.symm; have f5_ := f3_.symm; clear f1_ f2_ f3_; subst f4_; subst f5_))
               refine hK.out _ _ ⟨(blk_cell BK352.out 0).trans rfl, (blk_cell BK353.out 0).trans rfl, (blk_cell BK353.out 1).trans rfl, (blk_cell BK353.out 2).trans rfl, (blk_cell BK353.out 3).trans rfl⟩ (fun hHeld => ?_)
               clear hK K
               refine nX 98 ?_
               refine oA HT_.out 4 (some 99) 10 31 (fun K hK => ?_)
               refine gX Tryd.func10 #[.agg #[.slice Ao103 t404.length co103], .agg #[.int .i64 t407, .int .i64 t408, .slice Ao104 t409.length co104, .string t412]] ?_
               with_reducible refine (impl_SnapActs.calls k _ _ t404 t407 t408 _ _ t409 t412 t413 t416 _ ?side1 ?side2 ?side3 ?side4 A45.out (Cx.on HTAB.out (uL HB))).mono ?_
               (case side1 => repeat (first | exact (Kd.R_reads' HO406.out).2.2 | (with_reducible refine cA ?_ _) | (with_reducible refine cN ?_ _) | (with_reducible refine cD ?_)))
               (case side2 => exact (Kd.R_reads' HO406.out).2.1)
               (case side3 => repeat (first | exact (Kd.R_reads' HO411.out).2.2 | (with_reducible refine cA ?_ _) | (with_reducible refine cN ?_ _) | (with_reducible refine cD ?_)))
               (case side4 => exact (Kd.R_reads' HO411.out).2.1)
               rintro e w105 ⟨v414, rfl, ho0, hb⟩
               refine ⟨_, rfl, ?_⟩
               have HO415 := aM (Kd.R_lower (Kd.R_new' (Kd.R_new' ho0 (Kd.R_lt (uR HO367))) (Kd.R_lt (uR HO382))) (below_size (uL HB)))
               replace HO358 := aM (Kd.R_below (uR HO358) hb)
               replace HO363 := aM (Kd.R_below (uR HO363) hb)
               replace HO367 := aM (Kd.R_elder' (uR HO367) (Kd.R_base ho0) hb)
               replace HO371 := aM (Kd.R_below (uR HO371) hb)
               replace HO377 := aM (Kd.R_below (uR HO377) hb)
               replace HO382 := aM (Kd.R_elder' (uR HO382) (Kd.R_base ho0) hb)
               replace HO387 := aM (Kd.R_below (uR HO387) hb)
               replace HO393 := aM (Kd.R_below (uR HO393) hb)
               replace HO406 := aM (Kd.R_below (uR HO406) hb)
               replace HO411 := aM (Kd.R_below (uR HO411) hb)
               replace BK352 := blkB BK352 hb
               replace BK353 := blkB BK353 hb
               replace BK372 := blkB BK372 hb
               replace BK379 := blkB BK379 hb
               replace HB := aM (below_step (uL HB) hb)
               (try clear hb)
               (try clear hb2)
               (try clear hk)
               (try clear hi)
               (try clear ho0)
               refine hK.out _ _ ⟨(blk_cell BK352.out 0).trans rfl, (blk_cell BK353.out 0).trans rfl, (blk_cell BK353.out 1).trans rfl, (blk_cell BK353.out 2).trans rfl, (blk_cell BK353.out 3).trans rfl⟩ (fun hHeld => ?_)
               clear hK K
               refine nX 99 ?_; refine pA HT_.out 5 94 10 63 ?_; refine pA HT_.out 6 100 10 127 ?_; refine pA HT_.out 7 101 10 255 ?_; refine pA HT_.out 8 15 10 511 ?_; refine pA HT_.out 9 16 10 1023 ?_
               refine done_ (done_of HT_.out (by kernel_rfl)) ?_
               obtain ⟨Ao106, co106, eo106⟩ := Kd.R_slice HO415.out
               subst eo106
               try go_wp2_with (first | ((with_reducible refine gate_callee (f := 11) rfl ?_); refine gL (some 104) Tryd.func11 #[.slice Ao106 t413.length co106, .slice Ao83 t365.length co83] ?_; (with_reducible refine (laws_eqActS.calls k _ _ t413 _ _ t365 true _ ?side1 ?side2 ?side3 ?side4 A46.out).mono ?_); (case side1 => repeat (first | exact (Kd.R_reads' HO415.out).2.2 | (with_reducible refine cA ?_ _) | (with_reducible refine cN ?_ _) | (with_reducible refine cD ?_))); (case side2 => exact (Kd.R_reads' HO415.out).2.1); (case side3 => repeat (first | exact (Kd.R_reads' HO367.out).2.2 | (with_reducible refine cA ?_ _) | (with_reducible refine cN ?_ _) | (with_reducible refine cD ?_))); (case side4 => exact (Kd.R_reads' HO367.out).2.1); rintro e w107 ⟨rfl, hb⟩; refine ⟨_, rfl, ?_⟩; replace HO358 := aM (Kd.R_below (uR HO358) hb); replace HO363 := aM (Kd.R_below (uR HO363) hb); replace HO367 := aM (Kd.R_below (uR HO367) hb); replace HO371 := aM (Kd.R_below (uR HO371) hb); replace HO377 := aM (Kd.R_below (uR HO377) hb); replace HO382 := aM (Kd.R_below (uR HO382) hb); replace HO387 := aM (Kd.R_below (uR HO387) hb); replace HO393 := aM (Kd.R_below (uR HO393) hb); replace HO406 := aM (Kd.R_below (uR HO406) hb); replace HO411 := aM (Kd.R_below (uR HO411) hb); replace HO415 := aM (Kd.R_below (uR HO415) hb); replace BK352 := blkB BK352 hb; replace BK353 := blkB BK353 hb; replace BK372 := blkB BK372 hb; replace BK379 := blkB BK379 hb; replace HB := aM (below_step (uL HB) hb); try clear hb) | ((with_reducible refine gate_callee (f := 17) rfl ?_); refine goesL_ (some 113) rfl rfl Tryd.func17 (by kernel_rfl) rfl #[.slice Ao82 t402.length co82, .int .i64 1] rfl (by (try simp only [List.map_toArray, List.map_cons, List.map_nil]); first | done | (rw [show t402.length = t380.length from (Kd.R_reads' HO382.out).1.symm] <;> rfl) | rfl | (simp only [List.length_drop, List.length_take]; rfl)) ?_; (with_reducible refine (laws_heldActS.calls k _ _ t402 1 t418 _ ?side1 ?side2 A49.out).mono ?_); (case side1 => repeat (first | exact (Kd.R_reads' HO382.out).2.2 | (with_reducible refine cA ?_ _) | (with_reducible refine cN ?_ _) | (with_reducible refine cD ?_))); (case side2 => rw [show t402.length = t380.length from (Kd.R_reads' HO382.out).1.symm]; exact (Kd.R_reads' HO382.out).2.1); rintro e w108 ⟨rfl, hb⟩; refine ⟨_, rfl, ?_⟩; replace HO358 := aM (Kd.R_below (uR HO358) hb); replace HO363 := aM (Kd.R_below (uR HO363) hb); replace HO367 := aM (Kd.R_below (uR HO367) hb); replace HO371 := aM (Kd.R_below (uR HO371) hb); replace HO377 := aM (Kd.R_below (uR HO377) hb); replace HO382 := aM (Kd.R_below (uR HO382) hb); replace HO387 := aM (Kd.R_below (uR HO387) hb); replace HO393 := aM (Kd.R_below (uR HO393) hb); replace HO406 := aM (Kd.R_below (uR HO406) hb); replace HO411 := aM (Kd.R_below (uR HO411) hb); replace HO415 := aM (Kd.R_below (uR HO415) hb); replace BK352 := blkB BK352 hb; replace BK353 := blkB BK353 hb; replace BK372 := blkB BK372 hb; replace BK379 := blkB BK379 hb; replace HB := aM (below_step (uL HB) hb); try clear hb))
               go_ret
               exact rX HB
              ·rw [if_neg c51] at H
               exact absurd H (by simp)
           ·replace c47 := Bool.eq_false_iff.mpr c47
            subst c47
            have H1 : (none) = some r := by rw [if_neg (show ¬ (false = true) by decide)] at H; exact H
            clear H; have H := H1; clear H1
            exact absurd H (by simp)
          ·rw [if_neg c42] at H
           exact absurd H (by simp)
        ·replace c38 := Bool.eq_false_iff.mpr c38
         subst c38
         have H1 : (none) = some r := by rw [if_neg (show ¬ (false = true) by decide)] at H; exact H
         clear H; have H := H1; clear H1
         exact absurd H (by simp)
      ·replace c33 := Bool.eq_false_iff.mpr c33
       subst c33
       have H1 : (none) = some r := by rw [if_neg (show ¬ (false = true) by decide)] at H; exact H
       clear H; have H := H1; clear H1
       exact absurd H (by simp)
     ·replace c30 := Bool.eq_false_iff.mpr c30
      subst c30
      have H1 : (none) = some r := by rw [if_neg (show ¬ (false = true) by decide)] at H; exact H
      clear H; have H := H1; clear H1
      exact absurd H (by simp)
   ·replace c26 := Bool.eq_false_iff.mpr c26
    subst c26
    have H1 : (none) = some r := by rw [if_neg (show ¬ (false = true) by decide)] at H; exact H
    clear H; have H := H1; clear H1
    exact absurd H (by simp)

end Go.Proofs.YthomiofokkkhgaaDoor.QFnExactSnapActs
