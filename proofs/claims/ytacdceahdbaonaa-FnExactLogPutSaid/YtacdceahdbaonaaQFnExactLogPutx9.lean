-- Own work (wip/turnprint.py over the kit's print).
import Derived.Test.YtacdceahdbaonaaQFnExactLogPutx0
import Derived.Test.YtacdceahdbaonaaQFnExactLogPutx1
import Derived.Test.YtacdceahdbaonaaQFnExactLogPutx2
import Derived.Test.YtacdceahdbaonaaQFnExactLogPutx4
import Derived.Test.YtacdceahdbaonaaQFnExactLogPutx7
import Derived.Test.YtacdceahdbaonaaQFnExactLogPutx8
namespace Go.Proofs.Ytacdceahdbaonaa.QFnExactLogPut
open Go.RowKit Go.Proofs.YtacdceahdbaonaaW.PrintWords Go.Proofs.YtacdceahdbaonaaW.PrintLast Go.Proofs.YtacdceahdbaonaaW.PrintMore
attribute [local go_sem] max2_int min2_int max_two min_two max_three min_three max_four min_four   -- for this text's walks alone
set_option linter.unusedVariables false
set_option linter.unusedSimpArgs false

/-! ### laws_FnExactLogPut: function 8 -/
def laws_FnExactLogPut.f (k : Nat) (a0_0 : Int) (a0_1 : Int) (l0_2 : List (S37)) (a1 : Int) (a2_0 : Int) (a2_1 : Int) (a2_2 : ByteArray) : Option (Bool) := (laws_szLog.f k a0_0 a0_1 l0_2 1048576).bind fun t260 => (if t260 < 0 then (some true) else ((laws_szEntry.f a2_0 a2_1 a2_2 t260).bind fun t261 => (if t261 < 0 then (some true) else ((laws_toLog.f k a0_0 a0_1 l0_2).bind fun bt262 => ((laws_toEntry.f a2_0 a2_1 a2_2).bind fun bt267 => ((spec_LogPut.f k bt262.1 bt262.2.1 bt262.2.2 a1 bt267.1 bt267.2.1 bt267.2.2).bind fun bt270 => ((laws_toLog.f k a0_0 a0_1 l0_2).bind fun bt277 => ((laws_toEntry.f a2_0 a2_1 a2_2).bind fun bt283 => ((impl_LogPut.f k bt277.1 bt277.2.1 bt277.2.2 a1 bt283.1 bt283.2.1 bt283.2.2).bind fun bt286 => ((laws_eqLog.f k bt286.1 bt286.2.1 bt286.2.2.1 bt270.1 bt270.2.1 bt270.2.2.1).bind fun t293 => (if t293 = true then (if (bt286.2.2.2 != bt270.2.2.2) = true then (none) else ((laws_toLog.f k a0_0 a0_1 l0_2).bind fun bt294 => ((laws_eqLog.f k bt277.1 bt277.2.1 bt277.2.2 bt294.1 bt294.2.1 bt294.2.2).bind fun t299 => (if t299 = true then ((laws_markLog.f k bt277.1 bt277.2.1 bt277.2.2 1).bind fun bt300 => (if bt300.1 < 0 then (none) else ((laws_eqLog.f k bt286.1 bt286.2.1 bt286.2.2.1 bt270.1 bt270.2.1 bt270.2.2.1).bind fun t302 => (if t302 = true then ((laws_markLog.f k bt286.1 bt286.2.1 bt286.2.2.1 1).bind fun bt303 => ((laws_heldLog.f k bt286.1 bt286.2.1 bt303.2 1).bind fun t305 => (if t305 < 0 then (none) else (if t305 = bt303.1 then ((laws_toLog.f k a0_0 a0_1 l0_2).bind fun bt306 => ((laws_toEntry.f a2_0 a2_1 a2_2).bind fun bt311 => ((impl_LogPut.f k bt306.1 bt306.2.1 bt306.2.2 a1 bt311.1 bt311.2.1 bt311.2.2).bind fun bt314 => ((laws_eqLog.f k bt314.1 bt314.2.1 bt314.2.2.1 bt270.1 bt270.2.1 bt270.2.2.1).bind fun t321 => (if t321 = true then (if (bt314.2.2.2 != bt270.2.2.2) = true then (none) else ((laws_heldLog.f k bt286.1 bt286.2.1 bt303.2 1).bind fun t322 => (if t322 < 0 then (none) else (if t322 = bt303.1 then (some true) else (none))))) else (none)))))) else (none))))) else (none))))) else (none))))) else (none))))))))))))
theorem laws_FnExactLogPut.mono : ∀ a0 a1 a2 a3 a4 a5 a6 k, LeO (laws_FnExactLogPut.f k a0 a1 a2 a3 a4 a5 a6) (laws_FnExactLogPut.f (k + 1) a0 a1 a2 a3 a4 a5 a6) := by
 intro a0 a1 a2 a3 a4 a5 a6 k
 unfold laws_FnExactLogPut.f
 repeat' first
  | (with_reducible exact impl_LogPut.mono _ _ _ _ _ _ _ _)
  | (with_reducible exact laws_eqLog.mono _ _ _ _ _ _ _)
  | (with_reducible exact laws_heldLog.mono _ _ _ _ _)
  | (with_reducible exact laws_markLog.mono _ _ _ _ _)
  | (with_reducible exact laws_szLog.mono _ _ _ _ _)
  | (with_reducible exact laws_toLog.mono _ _ _ _)
  | (with_reducible exact spec_LogPut.mono _ _ _ _ _ _ _ _)
  | (with_reducible exact LeO.refl _)
  | (with_reducible exact LeO.none _)
  | (with_reducible refine LeO.ite ?_ ?_)
  | (with_reducible refine LeO.bind ?_ (fun _ => ?_))
  | exact impl_LogPut.mono _ _ _ _ _ _ _ _
  | exact laws_eqLog.mono _ _ _ _ _ _ _
  | exact laws_heldLog.mono _ _ _ _ _
  | exact laws_markLog.mono _ _ _ _ _
  | exact laws_szLog.mono _ _ _ _ _
  | exact laws_toLog.mono _ _ _ _
  | exact spec_LogPut.mono _ _ _ _ _ _ _ _
  | exact LeO.none _
  | refine LeO.ite ?_ ?_
  | refine LeO.bind ?_ (fun _ => ?_)
def laws_FnExactLogPut.T8 : Bool × List (List Nat × List Nat) := (true, [([], []), ([0], [0]), ([], []), ([], []), ([3, 1], [3]), ([1, 2, 4, 4], [1, 2, 4]), ([5], [5]), ([6], [6]), ([6], [6]), ([], []), ([9, 7, 5, 0, 1, 2, 3, 4, 5, 6, 7, 9], [7, 9]), ([8, 10, 0, 1, 2, 3, 4, 5, 6, 7, 8, 9, 10], [8])])
def laws_FnExactLogPut.B8 : List Nat := [0, 1, 0, 0, 11, 31, 63, 127, 127, 0, 767, 2047]
theorem laws_FnExactLogPut.tab8 : rtab .any (opsOf Try.f8 8) = laws_FnExactLogPut.T8 := by kernel_rfl
theorem laws_FnExactLogPut.bits8 : waitsOk laws_FnExactLogPut.T8.2 laws_FnExactLogPut.B8 = true := by kernel_rfl
def laws_FnExactLogPut.T10 : Bool × List (List Nat × List Nat) := (true, [([], []), ([], []), ([], []), ([2], [2]), ([0, 1, 3, 3], [0, 1, 3]), ([4], [4]), ([5], [5]), ([5], [5]), ([], []), ([8, 6, 4, 0, 1, 2, 3, 4, 5, 6, 8], [6, 8]), ([7, 9, 0, 1, 2, 3, 4, 5, 6, 7, 8, 9], [7])])
def laws_FnExactLogPut.B10 : List Nat := [0, 0, 0, 4, 15, 31, 63, 63, 0, 383, 1023]
theorem laws_FnExactLogPut.tab10 : rtab .any (opsOf Try.f8 10) = laws_FnExactLogPut.T10 := by kernel_rfl
theorem laws_FnExactLogPut.bits10 : waitsOk laws_FnExactLogPut.T10.2 laws_FnExactLogPut.B10 = true := by kernel_rfl
def laws_FnExactLogPut.T27 : Bool × List (List Nat × List Nat) := (true, [([], []), ([0], [0]), ([], []), ([], []), ([3, 1], [3]), ([1, 2, 4, 4], [1, 2, 4]), ([5], [5]), ([6], [6]), ([6], [6]), ([], []), ([9, 7, 5, 0, 1, 2, 3, 4, 5, 6, 7, 9], [7, 9]), ([8, 10, 0, 1, 2, 3, 4, 5, 6, 7, 8, 9, 10], [8])])
def laws_FnExactLogPut.B27 : List Nat := [0, 1, 0, 0, 11, 31, 63, 127, 127, 0, 767, 2047]
theorem laws_FnExactLogPut.tab27 : rtab .any (opsOf Try.f8 27) = laws_FnExactLogPut.T27 := by kernel_rfl
theorem laws_FnExactLogPut.bits27 : waitsOk laws_FnExactLogPut.T27.2 laws_FnExactLogPut.B27 = true := by kernel_rfl
set_option maxHeartbeats 8000000 in
set_option maxRecDepth 100000 in
theorem laws_FnExactLogPut.calls (k : Nat) (a0_0 : Int) (a0_1 : Int) (A0_2 : Option Addr) (c0_2 : Nat) (l0_2 : List (S37)) (a1 : Int) (a2_0 : Int) (a2_1 : Int) (a2_2 : ByteArray) (r : Bool) (w : World) (hr0_2 : Kd.C k37 w A0_2 l0_2.length l0_2) (hc0_2 : l0_2.length ≤ c0_2) (h : laws_FnExactLogPut.f k a0_0 a0_1 l0_2 a1 a2_0 a2_1 a2_2 = some r) :
 Calls Try.prog 8 #[.agg #[.int .i64 a0_0, .int .i64 a0_1, .slice A0_2 l0_2.length c0_2], .int .i64 a1, .agg #[.int .i64 a2_0, .int .i64 a2_1, .string a2_2]] w fun e w' => e = .returned (.bool r) ∧ Below w.heap.size w w' := by
 have hu24 := Try.underlying24
 have hu37 := Try.underlying37
 have hu30 := Try.underlying30
 have HR0_2 := aM hr0_2
 have HC0_2 := aM hc0_2
 clear hr0_2 hc0_2
 have HB := aM (Below.refl w.heap.size w)
 have H : ((laws_szLog.f k a0_0 a0_1 l0_2 1048576).bind fun t260 => (if t260 < 0 then (some true) else ((laws_szEntry.f a2_0 a2_1 a2_2 t260).bind fun t261 => (if t261 < 0 then (some true) else ((laws_toLog.f k a0_0 a0_1 l0_2).bind fun bt262 => ((laws_toEntry.f a2_0 a2_1 a2_2).bind fun bt267 => ((spec_LogPut.f k bt262.1 bt262.2.1 bt262.2.2 a1 bt267.1 bt267.2.1 bt267.2.2).bind fun bt270 => ((laws_toLog.f k a0_0 a0_1 l0_2).bind fun bt277 => ((laws_toEntry.f a2_0 a2_1 a2_2).bind fun bt283 => ((impl_LogPut.f k bt277.1 bt277.2.1 bt277.2.2 a1 bt283.1 bt283.2.1 bt283.2.2).bind fun bt286 => ((laws_eqLog.f k bt286.1 bt286.2.1 bt286.2.2.1 bt270.1 bt270.2.1 bt270.2.2.1).bind fun t293 => (if t293 = true then (if (bt286.2.2.2 != bt270.2.2.2) = true then (none) else ((laws_toLog.f k a0_0 a0_1 l0_2).bind fun bt294 => ((laws_eqLog.f k bt277.1 bt277.2.1 bt277.2.2 bt294.1 bt294.2.1 bt294.2.2).bind fun t299 => (if t299 = true then ((laws_markLog.f k bt277.1 bt277.2.1 bt277.2.2 1).bind fun bt300 => (if bt300.1 < 0 then (none) else ((laws_eqLog.f k bt286.1 bt286.2.1 bt286.2.2.1 bt270.1 bt270.2.1 bt270.2.2.1).bind fun t302 => (if t302 = true then ((laws_markLog.f k bt286.1 bt286.2.1 bt286.2.2.1 1).bind fun bt303 => ((laws_heldLog.f k bt286.1 bt286.2.1 bt303.2 1).bind fun t305 => (if t305 < 0 then (none) else (if t305 = bt303.1 then ((laws_toLog.f k a0_0 a0_1 l0_2).bind fun bt306 => ((laws_toEntry.f a2_0 a2_1 a2_2).bind fun bt311 => ((impl_LogPut.f k bt306.1 bt306.2.1 bt306.2.2 a1 bt311.1 bt311.2.1 bt311.2.2).bind fun bt314 => ((laws_eqLog.f k bt314.1 bt314.2.1 bt314.2.2.1 bt270.1 bt270.2.1 bt270.2.2.1).bind fun t321 => (if t321 = true then (if (bt314.2.2.2 != bt270.2.2.2) = true then (none) else ((laws_heldLog.f k bt286.1 bt286.2.1 bt303.2 1).bind fun t322 => (if t322 < 0 then (none) else (if t322 = bt303.1 then (some true) else (none))))) else (none)))))) else (none))))) else (none))))) else (none))))) else (none))))))))))))) = some r := h
 clear h
 replace H := Option.bind_eq_some_iff.mp H
 obtain ⟨t260, A40, H⟩ := H
 try dsimp only at H
 have A4 := aM A40
 clear A40
 by_cases c5 : t260 < 0
 ·rw [if_pos c5] at H
  have c5b0 : decide (t260 < 0) = true := decide_eq_true c5
  clear c5
  obtain rfl := Option.some.inj H
  go_enter Try.func8, Try.ntmps8
  go_wp2_with (first | ((with_reducible refine gate_dst (N := 3) rfl ?_); refine bxE 3 #[.int .i64 a0_0, .int .i64 a0_1, .slice A0_2 l0_2.length c0_2] 24 ?_; intro gb258 hg w6 hbox hb; have BK258 := aM (hbox); have GW258 := szG hg (uL HB); have GE258 := szG hg (uL HB); replace HB := aM (below_step (uL HB) hb); clear hb hbox hg) | ((with_reducible refine gate_dst (N := 5) rfl ?_); refine bxE 5 #[.int .i64 a2_0, .int .i64 a2_1, .string a2_2] 37 ?_; intro gb259 hg w7 hbox hb; have BK259 := aM (hbox); have GW259 := szG hg (uL HB); have GE259 := szG hg (uL HB); have NB258_259 := neL hg BK258; have NB259_258 := neG hg BK258; replace BK258 := blkB BK258 hb; replace HB := aM (below_step (uL HB) hb); clear hb hbox hg; have hnb8 := NB258_259.out; have hnc8 := NB259_258.out; have hcz9_0 := czA BK258.out 0 (.int .i64 a0_0); have hcz9_1 := czA BK258.out 1 (.int .i64 a0_1); have hcz9_2 := czA BK258.out 2 (.slice A0_2 l0_2.length c0_2); have hfz9_0 := blk_frozen BK258.out 0; have hfz9_1 := blk_frozen BK258.out 1; have hfz9_2 := blk_frozen BK258.out 2) | ((with_reducible refine gate_callee (f := 13) rfl ?_); refine gL (some 20) Try.func13 #[.agg #[.int .i64 a0_0, .int .i64 a0_1, .slice A0_2 l0_2.length c0_2], .int .i64 1048576] ?_; (with_reducible refine (laws_szLog.calls k a0_0 a0_1 _ _ l0_2 1048576 t260 _ ?side1 ?side2 A4.out).mono ?_); (case side1 => exact uC HR0_2 HB); (case side2 => exact HC0_2.out); rintro e w10 ⟨rfl, hb⟩; refine ⟨_, rfl, ?_⟩; replace BK258 := blkB BK258 hb; replace BK259 := blkB BK259 hb; replace HB := aM (below_step (uL HB) hb); try clear hb))
  go_ret
  exact rX HB
 ·rw [if_neg c5] at H
  have c5b0 : decide (t260 < 0) = false := decide_eq_false c5
  clear c5
  replace H := Option.bind_eq_some_iff.mp H
  obtain ⟨t261, A110, H⟩ := H
  try dsimp only at H
  have A11 := aM A110
  clear A110
  by_cases c12 : t261 < 0
  ·rw [if_pos c12] at H
   have c12b0 : decide (t261 < 0) = true := decide_eq_true c12
   clear c12
   obtain rfl := Option.some.inj H
   go_enter Try.func8, Try.ntmps8
   go_wp2_with (first | ((with_reducible refine gate_dst (N := 3) rfl ?_); refine bxE 3 #[.int .i64 a0_0, .int .i64 a0_1, .slice A0_2 l0_2.length c0_2] 24 ?_; intro gb258 hg w13 hbox hb; have BK258 := aM (hbox); have GW258 := szG hg (uL HB); have GE258 := szG hg (uL HB); replace HB := aM (below_step (uL HB) hb); clear hb hbox hg) | ((with_reducible refine gate_dst (N := 5) rfl ?_); refine bxE 5 #[.int .i64 a2_0, .int .i64 a2_1, .string a2_2] 37 ?_; intro gb259 hg w14 hbox hb; have BK259 := aM (hbox); have GW259 := szG hg (uL HB); have GE259 := szG hg (uL HB); have NB258_259 := neL hg BK258; have NB259_258 := neG hg BK258; replace BK258 := blkB BK258 hb; replace HB := aM (below_step (uL HB) hb); clear hb hbox hg; have hnb15 := NB258_259.out; have hnc15 := NB259_258.out; have hcz16_0 := czA BK258.out 0 (.int .i64 a0_0); have hcz16_1 := czA BK258.out 1 (.int .i64 a0_1); have hcz16_2 := czA BK258.out 2 (.slice A0_2 l0_2.length c0_2); have hfz16_0 := blk_frozen BK258.out 0; have hfz16_1 := blk_frozen BK258.out 1; have hfz16_2 := blk_frozen BK258.out 2) | ((with_reducible refine gate_callee (f := 13) rfl ?_); refine gL (some 20) Try.func13 #[.agg #[.int .i64 a0_0, .int .i64 a0_1, .slice A0_2 l0_2.length c0_2], .int .i64 1048576] ?_; (with_reducible refine (laws_szLog.calls k a0_0 a0_1 _ _ l0_2 1048576 t260 _ ?side1 ?side2 A4.out).mono ?_); (case side1 => exact uC HR0_2 HB); (case side2 => exact HC0_2.out); rintro e w17 ⟨rfl, hb⟩; refine ⟨_, rfl, ?_⟩; replace BK258 := blkB BK258 hb; replace BK259 := blkB BK259 hb; replace HB := aM (below_step (uL HB) hb); try clear hb; have hcz18_0 := czA BK259.out 0 (.int .i64 a2_0); have hcz18_1 := czA BK259.out 1 (.int .i64 a2_1); have hcz18_2 := czA BK259.out 2 (.string a2_2); have hfz18_0 := blk_frozen BK259.out 0; have hfz18_1 := blk_frozen BK259.out 1; have hfz18_2 := blk_frozen BK259.out 2) | ((with_reducible refine gate_callee (f := 20) rfl ?_); refine gL (some 25) Try.func20 #[.agg #[.int .i64 a2_0, .int .i64 a2_1, .string a2_2], .int .i64 t260] ?_; (with_reducible refine (laws_szEntry.calls a2_0 a2_1 a2_2 t260 t261 _ A11.out).mono ?_); rintro e w19 ⟨rfl, hb⟩; refine ⟨_, rfl, ?_⟩; replace BK258 := blkB BK258 hb; replace BK259 := blkB BK259 hb; replace HB := aM (below_step (uL HB) hb); try clear hb))
   go_ret
   exact rX HB
  ·rw [if_neg c12] at H
   have c12b0 : decide (t261 < 0) = false := decide_eq_false c12
   clear c12
   replace H := Option.bind_eq_some_iff.mp H
   obtain ⟨⟨t262, t263, t264⟩, A200, H⟩ := H
   try dsimp only at H
   have A20 := aM A200
   clear A200
   replace H := Option.bind_eq_some_iff.mp H
   obtain ⟨⟨t267, t268, t269⟩, A210, H⟩ := H
   try dsimp only at H
   have A21 := aM A210
   clear A210
   replace H := Option.bind_eq_some_iff.mp H
   obtain ⟨⟨t270, t271, t272, t275⟩, A220, H⟩ := H
   try dsimp only at H
   have A22 := aM A220
   clear A220
   replace H := Option.bind_eq_some_iff.mp H
   obtain ⟨⟨t277, t278, t279⟩, A230, H⟩ := H
   try dsimp only at H
   have A23 := aM A230
   clear A230
   replace H := Option.bind_eq_some_iff.mp H
   obtain ⟨⟨t283, t284, t285⟩, A240, H⟩ := H
   try dsimp only at H
   have A24 := aM A240
   clear A240
   replace H := Option.bind_eq_some_iff.mp H
   obtain ⟨⟨t286, t287, t288, t291⟩, A250, H⟩ := H
   try dsimp only at H
   have A25 := aM A250
   clear A250
   replace H := Option.bind_eq_some_iff.mp H
   obtain ⟨t293, A260, H⟩ := H
   try dsimp only at H
   have A26 := aM A260
   clear A260
   by_cases c27 : t293 = true
   ·subst c27
    rw [if_pos rfl] at H
    by_cases c28 : (t291 != t275) = true
    ·rw [if_pos c28] at H
     exact absurd H (by simp)
    ·rw [if_neg c28] at H
     have c28b0 : (t291 != t275) = false := by simpa using c28
     (try (have c28b1 : decide (t291 = t275) = true := by simpa using c28))
     (try (have c28b2 : (t291 == t275) = true := by simpa using c28))
     clear c28
     replace H := Option.bind_eq_some_iff.mp H
     obtain ⟨⟨t294, t295, t296⟩, A290, H⟩ := H
     try dsimp only at H
     have A29 := aM A290
     clear A290
     replace H := Option.bind_eq_some_iff.mp H
     obtain ⟨t299, A300, H⟩ := H
     try dsimp only at H
     have A30 := aM A300
     clear A300
     by_cases c31 : t299 = true
     ·subst c31
      rw [if_pos rfl] at H
      replace H := Option.bind_eq_some_iff.mp H
      obtain ⟨⟨t300, t301⟩, A320, H⟩ := H
      try dsimp only at H
      have A32 := aM A320
      clear A320
      by_cases c33 : t300 < 0
      ·rw [if_pos c33] at H
       exact absurd H (by simp)
      ·rw [if_neg c33] at H
       have c33b0 : decide (t300 < 0) = false := decide_eq_false c33
       clear c33
       replace H := Option.bind_eq_some_iff.mp H
       obtain ⟨t302, A340, H⟩ := H
       try dsimp only at H
       have A34 := aM A340
       clear A340
       by_cases c35 : t302 = true
       ·subst c35
        rw [if_pos rfl] at H
        replace H := Option.bind_eq_some_iff.mp H
        obtain ⟨⟨t303, t304⟩, A360, H⟩ := H
        try dsimp only at H
        have A36 := aM A360
        clear A360
        replace H := Option.bind_eq_some_iff.mp H
        obtain ⟨t305, A370, H⟩ := H
        try dsimp only at H
        have A37 := aM A370
        clear A370
        by_cases c38 : t305 < 0
        ·rw [if_pos c38] at H
         exact absurd H (by simp)
        ·rw [if_neg c38] at H
         have c38b0 : decide (t305 < 0) = false := decide_eq_false c38
         clear c38
         by_cases c39 : t305 = t303
         ·rw [if_pos c39] at H
          have c39b0 : (t305 == t303) = true := beq_iff_eq.mpr c39
          have c39b1 : (t305 != t303) = false := bne_eq_false_iff_eq.mpr c39
          clear c39
          replace H := Option.bind_eq_some_iff.mp H
          obtain ⟨⟨t306, t307, t308⟩, A400, H⟩ := H
          try dsimp only at H
          have A40 := aM A400
          clear A400
          replace H := Option.bind_eq_some_iff.mp H
          obtain ⟨⟨t311, t312, t313⟩, A410, H⟩ := H
          try dsimp only at H
          have A41 := aM A410
          clear A410
          replace H := Option.bind_eq_some_iff.mp H
          obtain ⟨⟨t314, t315, t316, t319⟩, A420, H⟩ := H
          try dsimp only at H
          have A42 := aM A420
          clear A420
          replace H := Option.bind_eq_some_iff.mp H
          obtain ⟨t321, A430, H⟩ := H
          try dsimp only at H
          have A43 := aM A430
          clear A430
          by_cases c44 : t321 = true
          ·subst c44
           rw [if_pos rfl] at H
           by_cases c45 : (t319 != t275) = true
           ·rw [if_pos c45] at H
            exact absurd H (by simp)
           ·rw [if_neg c45] at H
            have c45b0 : (t319 != t275) = false := by simpa using c45
            (try (have c45b1 : decide (t319 = t275) = true := by simpa using c45))
            (try (have c45b2 : (t319 == t275) = true := by simpa using c45))
            clear c45
            replace H := Option.bind_eq_some_iff.mp H
            obtain ⟨t322, A460, H⟩ := H
            replace H : (if t322 < 0 then (none) else (if t322 = t303 then (some true) else (none))) = some r := H
            have A46 := aM A460
            clear A460
            by_cases c47 : t322 < 0
            ·rw [if_pos c47] at H
             exact absurd H (by simp)
            ·rw [if_neg c47] at H
             have c47b0 : decide (t322 < 0) = false := decide_eq_false c47
             clear c47
             by_cases c48 : t322 = t303
             ·rw [if_pos c48] at H
              have c48b0 : (t322 == t303) = true := beq_iff_eq.mpr c48
              have c48b1 : (t322 != t303) = false := bne_eq_false_iff_eq.mpr c48
              clear c48
              obtain rfl := Option.some.inj H
              go_enter Try.func8, Try.ntmps8
              try go_wp2_with (first | ((with_reducible refine gate_dst (N := 3) rfl ?_); refine bxE 3 #[.int .i64 a0_0, .int .i64 a0_1, .slice A0_2 l0_2.length c0_2] 24 ?_; intro gb258 hg w49 hbox hb; have BK258 := aM (hbox); have GW258 := szG hg (uL HB); have GE258 := szG hg (uL HB); replace HB := aM (below_step (uL HB) hb); clear hb hbox hg) | ((with_reducible refine gate_dst (N := 5) rfl ?_); refine bxE 5 #[.int .i64 a2_0, .int .i64 a2_1, .string a2_2] 37 ?_; intro gb259 hg w50 hbox hb; have BK259 := aM (hbox); have GW259 := szG hg (uL HB); have GE259 := szG hg (uL HB); have NB258_259 := neL hg BK258; have NB259_258 := neG hg BK258; replace BK258 := blkB BK258 hb; replace HB := aM (below_step (uL HB) hb); clear hb hbox hg; have hnb51 := NB258_259.out; have hnc51 := NB259_258.out; have hcz52_0 := czA BK258.out 0 (.int .i64 a0_0); have hcz52_1 := czA BK258.out 1 (.int .i64 a0_1); have hcz52_2 := czA BK258.out 2 (.slice A0_2 l0_2.length c0_2); have hfz52_0 := blk_frozen BK258.out 0; have hfz52_1 := blk_frozen BK258.out 1; have hfz52_2 := blk_frozen BK258.out 2) | ((with_reducible refine gate_callee (f := 13) rfl ?_); refine gL (some 20) Try.func13 #[.agg #[.int .i64 a0_0, .int .i64 a0_1, .slice A0_2 l0_2.length c0_2], .int .i64 1048576] ?_; (with_reducible refine (laws_szLog.calls k a0_0 a0_1 _ _ l0_2 1048576 t260 _ ?side1 ?side2 A4.out).mono ?_); (case side1 => exact uC HR0_2 HB); (case side2 => exact HC0_2.out); rintro e w53 ⟨rfl, hb⟩; refine ⟨_, rfl, ?_⟩; replace BK258 := blkB BK258 hb; replace BK259 := blkB BK259 hb; replace HB := aM (below_step (uL HB) hb); try clear hb; have hcz54_0 := czA BK259.out 0 (.int .i64 a2_0); have hcz54_1 := czA BK259.out 1 (.int .i64 a2_1); have hcz54_2 := czA BK259.out 2 (.string a2_2); have hfz54_0 := blk_frozen BK259.out 0; have hfz54_1 := blk_frozen BK259.out 1; have hfz54_2 := blk_frozen BK259.out 2) | ((with_reducible refine gate_callee (f := 20) rfl ?_); refine gL (some 25) Try.func20 #[.agg #[.int .i64 a2_0, .int .i64 a2_1, .string a2_2], .int .i64 t260] ?_; (with_reducible refine (laws_szEntry.calls a2_0 a2_1 a2_2 t260 t261 _ A11.out).mono ?_); rintro e w55 ⟨rfl, hb⟩; refine ⟨_, rfl, ?_⟩; replace BK258 := blkB BK258 hb; replace BK259 := blkB BK259 hb; replace HB := aM (below_step (uL HB) hb); try clear hb))
              replace BK258 := aM (blk_drew BK258.out)
              replace BK259 := aM (blk_drew BK259.out)
              replace HB := aM (below_drew1 HB.out)
              refine start_ (n := 12) (S := fun w' => w'.cell? ⟨gb258, 0, none⟩ = some (.int .i64 a0_0) ∧ w'.cell? ⟨gb258, 1, none⟩ = some (.int .i64 a0_1) ∧ w'.cell? ⟨gb258, 2, none⟩ = some (.slice A0_2 l0_2.length c0_2) ∧ w'.cell? ⟨gb259, 0, none⟩ = some (.int .i64 a2_0) ∧ w'.cell? ⟨gb259, 1, none⟩ = some (.int .i64 a2_1) ∧ w'.cell? ⟨gb259, 2, none⟩ = some (.string a2_2)) (ds := []) (bB 12 0) (by kernel_rfl) rfl rfl ⟨(blk_cell BK258.out 0).trans rfl, (blk_cell BK258.out 1).trans rfl, (blk_cell BK258.out 2).trans rfl, (blk_cell BK259.out 0).trans rfl, (blk_cell BK259.out 1).trans rfl, (blk_cell BK259.out 2).trans rfl⟩ (fun hHeld => ?_); refine with_tabW laws_FnExactLogPut.tab8 laws_FnExactLogPut.bits8 (fun HT_ HW_ => ?_)
              generalize w55.drew = w56 at BK258 BK259 HB hHeld ⊢
              refine pA HT_.out 2 31 12 4 ?_; refine tA HT_.out HW_.out 0 29 12 5 hHeld ?_; refine tA HT_.out HW_.out 3 32 12 13 hHeld ?_
              refine join_ (σ := Value × Value × Nat) 2 #[true, true, true, true, true, true, true, true, true, true, false, false] (fun s_ => [(30, .agg #[.int .i64 t262, .int .i64 t263, s_.1]), (33, .agg #[.int .i64 t267, .int .i64 t268, .string t269]), (34, .tuple #[.agg #[.int .i64 t270, .int .i64 t271, s_.2.1], .bool t275]), (8, .pointer (some ⟨s_.2.2, 0, none⟩)), (28, .tuple #[.agg #[.int .i64 t270, .int .i64 t271, s_.2.1], .bool t275]), (35, .agg #[.int .i64 t270, .int .i64 t271, s_.2.1]), (36, .bool t275)]) (fun s_ w' => (w'.cell? ⟨gb258, 0, none⟩ = some (.int .i64 a0_0) ∧ w'.cell? ⟨gb258, 1, none⟩ = some (.int .i64 a0_1) ∧ w'.cell? ⟨gb258, 2, none⟩ = some (.slice A0_2 l0_2.length c0_2) ∧ w'.cell? ⟨gb259, 0, none⟩ = some (.int .i64 a2_0) ∧ w'.cell? ⟨gb259, 1, none⟩ = some (.int .i64 a2_1) ∧ w'.cell? ⟨gb259, 2, none⟩ = some (.string a2_2)) ∧ (Kd.R k40 40 w' w.heap.size (fun k_ => some k_ ≠ (s_.2.1 : Value).ownBlock) s_.1 t264) ∧ (Kd.R k40 40 w' w.heap.size (fun k_ => some k_ ≠ (s_.1 : Value).ownBlock) s_.2.1 t272) ∧ (w'.heap[gb258]? = some (.cells #[.int .i64 a0_0, .int .i64 a0_1, .slice A0_2 l0_2.length c0_2] 24 (0, 0))) ∧ (w'.heap[gb259]? = some (.cells #[.int .i64 a2_0, .int .i64 a2_1, .string a2_2] 37 (0, 0))) ∧ (w'.heap[s_.2.2]? = some (.cells #[.int .i64 0, .int .i64 0, .slice none 0 0] 30 (0, 0))) ∧ (w.heap.size ≤ s_.2.2) ∧ (w.heap.size ≤ s_.2.2) ∧ (gb258 ≠ s_.2.2) ∧ (s_.2.2 ≠ gb258) ∧ (gb259 ≠ s_.2.2) ∧ (s_.2.2 ≠ gb259) ∧ (Below w.heap.size w w')) ?_ ?_
              rotate_left
              ·intro hCont
               refine two_ (i := 1) (j := 9) (Ni := some 30) (Nj := some 8) #[true, true, true, true, false, false, false, false, false, false, false, false] #[true, false, true, true, false, false, false, false, false, true, false, false] rfl rfl rfl rfl (two_of HT_.out (by kernel_rfl)) (by decide) (by decide) (fun K hK => ?_) (fun K hK => ?_)
               ·skip
                refine gX Try.func15 #[.agg #[.int .i64 a0_0, .int .i64 a0_1, .slice A0_2 l0_2.length c0_2]] ?_
                with_reducible refine (laws_toLog.calls k a0_0 a0_1 _ _ l0_2 t262 t263 t264 _ ?side1 ?side2 A20.out).mono ?_
                (case side1 => exact uC HR0_2 HB)
                (case side2 => exact HC0_2.out)
                rintro e w57 ⟨v265, rfl, ho0, hb⟩
                refine ⟨_, rfl, ?_⟩
                have HO266 := aM (Kd.R_lower ho0 (below_size (uL HB)))
                replace BK258 := blkB BK258 hb
                replace BK259 := blkB BK259 hb
                replace HB := aM (below_step (uL HB) hb)
                (try clear hb)
                (try clear hb2)
                (try clear hk)
                (try clear hi)
                (try clear ho0)
                refine hK.out _ _ ⟨(blk_cell BK258.out 0).trans rfl, (blk_cell BK258.out 1).trans rfl, (blk_cell BK258.out 2).trans rfl, (blk_cell BK259.out 0).trans rfl, (blk_cell BK259.out 1).trans rfl, (blk_cell BK259.out 2).trans rfl⟩ (fun hHeld => ?_)
                clear hK K
                refine nX 30 ?_
                refine two_ (i := 4) (j := 9) (Ni := some 33) (Nj := some 8) #[true, true, true, true, true, false, false, false, false, false, false, false] #[true, true, true, true, false, false, false, false, false, true, false, false] rfl rfl rfl rfl (two_of HT_.out (by kernel_rfl)) (by decide) (by decide) (fun K hK => ?_) (fun K hK => ?_)
                ·skip
                 refine gX Try.func22 #[.agg #[.int .i64 a2_0, .int .i64 a2_1, .string a2_2]] ?_
                 with_reducible refine (laws_toEntry.calls a2_0 a2_1 a2_2 t267 t268 t269 _ A21.out).mono ?_
                 rintro e w58 ⟨rfl, hb⟩
                 refine ⟨_, rfl, ?_⟩
                 replace HO266 := aM (Kd.R_below (uR HO266) hb)
                 replace BK258 := blkB BK258 hb
                 replace BK259 := blkB BK259 hb
                 replace HB := aM (below_step (uL HB) hb)
                 (try clear hb)
                 (try clear hb2)
                 (try clear hk)
                 (try clear hi)
                 obtain ⟨Ao59, co59, eo59⟩ := Kd.R_slice HO266.out
                 (first | subst eo59 | (injection eo59 with f1_ f2_ f3_; have f4_ := f1_.symm; have f5_ := f3_.symm; clear f1_ f2_ f3_; subst f4_; subst f5_))
                 refine hK.out _ _ ⟨(blk_cell BK258.out 0).trans rfl, (blk_cell BK258.out 1).trans rfl, (blk_cell BK258.out 2).trans rfl, (blk_cell BK259.out 0).trans rfl, (blk_cell BK259.out 1).trans rfl, (blk_cell BK259.out 2).trans rfl⟩ (fun hHeld => ?_)
                 clear hK K
                 refine nX 33 ?_
                 refine two_ (i := 5) (j := 9) (Ni := some 34) (Nj := some 8) #[true, true, true, true, true, true, false, false, false, false, false, false] #[true, true, true, true, true, false, false, false, false, true, false, false] rfl rfl rfl rfl (two_of HT_.out (by kernel_rfl)) (by decide) (by decide) (fun K hK => ?_) (fun K hK => ?_)
                 ·skip
                  refine gX Try.func28 #[.agg #[.int .i64 t262, .int .i64 t263, .slice Ao59 t264.length co59], .int .i64 a1, .agg #[.int .i64 t267, .int .i64 t268, .string t269]] ?_
                  with_reducible refine (spec_LogPut.calls k t262 t263 _ _ t264 a1 t267 t268 t269 t270 t271 t272 t275 _ ?side1 ?side2 A22.out).mono ?_
                  (case side1 => repeat (first | exact (Kd.R_reads' HO266.out).2.2 | (with_reducible refine cA ?_ _) | (with_reducible refine cN ?_ _) | (with_reducible refine cD ?_)))
                  (case side2 => exact (Kd.R_reads' HO266.out).2.1)
                  rintro e w60 ⟨v273, rfl, ho0, hb⟩
                  refine ⟨_, rfl, ?_⟩
                  have HO274 := aM (Kd.R_lower (Kd.R_new' ho0 (Kd.R_lt (uR HO266))) (below_size (uL HB)))
                  replace HO266 := aM (Kd.R_elder' (uR HO266) (Kd.R_base ho0) hb)
                  replace BK258 := blkB BK258 hb
                  replace BK259 := blkB BK259 hb
                  replace HB := aM (below_step (uL HB) hb)
                  (try clear hb)
                  (try clear hb2)
                  (try clear hk)
                  (try clear hi)
                  (try clear ho0)
                  refine hK.out _ _ ⟨(blk_cell BK258.out 0).trans rfl, (blk_cell BK258.out 1).trans rfl, (blk_cell BK258.out 2).trans rfl, (blk_cell BK259.out 0).trans rfl, (blk_cell BK259.out 1).trans rfl, (blk_cell BK259.out 2).trans rfl⟩ (fun hHeld => ?_)
                  clear hK K
                  refine nX 34 ?_; refine pA HT_.out 6 28 12 127 ?_; refine pA HT_.out 7 35 12 255 ?_; refine pA HT_.out 8 36 12 511 ?_
                  refine oA HT_.out 9 (some 8) 12 1023 (fun K hK => ?_)
                  refine bxS 8 #[.int .i64 0, .int .i64 0, .slice none 0 0] 30 ?_
                  intro gb276 hg w61 hbox hb
                  have n0_ := aM (Kd.R_below (uR HO266) hb); have n1_ := aM (Kd.R_below (uR HO274) hb); have n2_ := blkB BK258 hb; have n3_ := blkB BK259 hb
                  have n4_ := aM (below_step (uL HB) hb)
                  have n5_ := aM (hbox)
                  have n6_ := szG hg (uL HB); have n7_ := szG hg (uL HB); have n8_ := neL hg BK258; have n9_ := neG hg BK258; have n10_ := neL hg BK259; have n11_ := neG hg BK259; clear HO266 HO274 BK258 BK259 HB; have HO266 := n0_; have HO274 := n1_; have BK258 := n2_; have BK259 := n3_; have HB := n4_; have BK276 := n5_; have GW276 := n6_; have GE276 := n7_; have NB258_276 := n8_; have NB276_258 := n9_; have NB259_276 := n10_; have NB276_259 := n11_; clear n0_ n1_ n2_ n3_ n4_ n5_ n6_ n7_ n8_ n9_ n10_ n11_ hb hbox hg
                  refine hK.out _ _ ⟨(blk_cell BK258.out 0).trans rfl, (blk_cell BK258.out 1).trans rfl, (blk_cell BK258.out 2).trans rfl, (blk_cell BK259.out 0).trans rfl, (blk_cell BK259.out 1).trans rfl, (blk_cell BK259.out 2).trans rfl⟩ (fun hHeld => ?_)
                  clear hK K
                  refine nX 8 ?_
                  exact norm_ (by simp only [putAll, Act.put, List.setIfInBounds_toArray, List.set_cons_zero, List.set_cons_succ]) (hCont (.slice Ao59 t264.length co59, v273, gb276) _ ⟨hHeld, (by (with_reducible repeat first | apply rA | apply rN | apply rD); exact Kd.R_mono HO266.out (fun _ hk => hk.2)), (by (with_reducible repeat first | apply rA | apply rN | apply rD); exact Kd.R_mono HO274.out (fun _ hk => hk.2)), (uB BK258), (uB BK259), (uB BK276), GW276.out, GE276.out, NB258_276.out, NB276_258.out, NB259_276.out, NB276_259.out, (uL HB)⟩)
                 ·skip
                  refine bxS 8 #[.int .i64 0, .int .i64 0, .slice none 0 0] 30 ?_
                  intro gb276 hg w59 hbox hb
                  have n0_ := aM (Kd.R_below (uR HO266) hb); have n1_ := blkB BK258 hb; have n2_ := blkB BK259 hb
                  have n3_ := aM (below_step (uL HB) hb)
                  have n4_ := aM (hbox)
                  have n5_ := szG hg (uL HB); have n6_ := szG hg (uL HB); have n7_ := neL hg BK258; have n8_ := neG hg BK258; have n9_ := neL hg BK259; have n10_ := neG hg BK259; clear HO266 BK258 BK259 HB; have HO266 := n0_; have BK258 := n1_; have BK259 := n2_; have HB := n3_; have BK276 := n4_; have GW276 := n5_; have GE276 := n6_; have NB258_276 := n7_; have NB276_258 := n8_; have NB259_276 := n9_; have NB276_259 := n10_; clear n0_ n1_ n2_ n3_ n4_ n5_ n6_ n7_ n8_ n9_ n10_ hb hbox hg
                  obtain ⟨Ao60, co60, eo60⟩ := Kd.R_slice HO266.out
                  (first | subst eo60 | (injection eo60 with f1_ f2_ f3_; have f4_ := f1_.symm; have f5_ := f3_.symm; clear f1_ f2_ f3_; subst f4_; subst f5_))
                  refine hK.out _ _ ⟨(blk_cell BK258.out 0).trans rfl, (blk_cell BK258.out 1).trans rfl, (blk_cell BK258.out 2).trans rfl, (blk_cell BK259.out 0).trans rfl, (blk_cell BK259.out 1).trans rfl, (blk_cell BK259.out 2).trans rfl⟩ (fun hHeld => ?_)
                  clear hK K
                  refine nX 8 ?_
                  refine oA HT_.out 5 (some 34) 12 575 (fun K hK => ?_)
                  refine gX Try.func28 #[.agg #[.int .i64 t262, .int .i64 t263, .slice Ao60 t264.length co60], .int .i64 a1, .agg #[.int .i64 t267, .int .i64 t268, .string t269]] ?_
                  with_reducible refine (spec_LogPut.calls k t262 t263 _ _ t264 a1 t267 t268 t269 t270 t271 t272 t275 _ ?side1 ?side2 A22.out).mono ?_
                  (case side1 => repeat (first | exact (Kd.R_reads' HO266.out).2.2 | (with_reducible refine cA ?_ _) | (with_reducible refine cN ?_ _) | (with_reducible refine cD ?_)))
                  (case side2 => exact (Kd.R_reads' HO266.out).2.1)
                  rintro e w61 ⟨v273, rfl, ho0, hb⟩
                  refine ⟨_, rfl, ?_⟩
                  have HO274 := aM (Kd.R_lower (Kd.R_new' ho0 (Kd.R_lt (uR HO266))) (below_size (uL HB)))
                  replace HO266 := aM (Kd.R_elder' (uR HO266) (Kd.R_base ho0) hb)
                  replace BK258 := blkB BK258 hb
                  replace BK259 := blkB BK259 hb
                  replace BK276 := blkB BK276 hb
                  replace HB := aM (below_step (uL HB) hb)
                  (try clear hb)
                  (try clear hb2)
                  (try clear hk)
                  (try clear hi)
                  (try clear ho0)
                  refine hK.out _ _ ⟨(blk_cell BK258.out 0).trans rfl, (blk_cell BK258.out 1).trans rfl, (blk_cell BK258.out 2).trans rfl, (blk_cell BK259.out 0).trans rfl, (blk_cell BK259.out 1).trans rfl, (blk_cell BK259.out 2).trans rfl⟩ (fun hHeld => ?_)
                  clear hK K
                  refine nX 34 ?_; refine pA HT_.out 6 28 12 639 ?_; refine pA HT_.out 7 35 12 767 ?_; refine pA HT_.out 8 36 12 1023 ?_
                  exact norm_ (by simp only [putAll, Act.put, List.setIfInBounds_toArray, List.set_cons_zero, List.set_cons_succ]) (hCont (.slice Ao60 t264.length co60, v273, gb276) _ ⟨hHeld, (by (with_reducible repeat first | apply rA | apply rN | apply rD); exact Kd.R_mono HO266.out (fun _ hk => hk.2)), (by (with_reducible repeat first | apply rA | apply rN | apply rD); exact Kd.R_mono HO274.out (fun _ hk => hk.2)), (uB BK258), (uB BK259), (uB BK276), GW276.out, GE276.out, NB258_276.out, NB276_258.out, NB259_276.out, NB276_259.out, (uL HB)⟩)
                ·skip
                 refine bxS 8 #[.int .i64 0, .int .i64 0, .slice none 0 0] 30 ?_
                 intro gb276 hg w58 hbox hb
                 have n0_ := aM (Kd.R_below (uR HO266) hb); have n1_ := blkB BK258 hb; have n2_ := blkB BK259 hb
                 have n3_ := aM (below_step (uL HB) hb)
                 have n4_ := aM (hbox)
                 have n5_ := szG hg (uL HB); have n6_ := szG hg (uL HB); have n7_ := neL hg BK258; have n8_ := neG hg BK258; have n9_ := neL hg BK259; have n10_ := neG hg BK259; clear HO266 BK258 BK259 HB; have HO266 := n0_; have BK258 := n1_; have BK259 := n2_; have HB := n3_; have BK276 := n4_; have GW276 := n5_; have GE276 := n6_; have NB258_276 := n7_; have NB276_258 := n8_; have NB259_276 := n9_; have NB276_259 := n10_; clear n0_ n1_ n2_ n3_ n4_ n5_ n6_ n7_ n8_ n9_ n10_ hb hbox hg
                 refine hK.out _ _ ⟨(blk_cell BK258.out 0).trans rfl, (blk_cell BK258.out 1).trans rfl, (blk_cell BK258.out 2).trans rfl, (blk_cell BK259.out 0).trans rfl, (blk_cell BK259.out 1).trans rfl, (blk_cell BK259.out 2).trans rfl⟩ (fun hHeld => ?_)
                 clear hK K
                 refine nX 8 ?_
                 refine oA HT_.out 4 (some 33) 12 543 (fun K hK => ?_)
                 refine gX Try.func22 #[.agg #[.int .i64 a2_0, .int .i64 a2_1, .string a2_2]] ?_
                 with_reducible refine (laws_toEntry.calls a2_0 a2_1 a2_2 t267 t268 t269 _ A21.out).mono ?_
                 rintro e w59 ⟨rfl, hb⟩
                 refine ⟨_, rfl, ?_⟩
                 replace HO266 := aM (Kd.R_below (uR HO266) hb)
                 replace BK258 := blkB BK258 hb
                 replace BK259 := blkB BK259 hb
                 replace BK276 := blkB BK276 hb
                 replace HB := aM (below_step (uL HB) hb)
                 (try clear hb)
                 (try clear hb2)
                 (try clear hk)
                 (try clear hi)
                 obtain ⟨Ao60, co60, eo60⟩ := Kd.R_slice HO266.out
                 (first | subst eo60 | (injection eo60 with f1_ f2_ f3_; have f4_ := f1_.symm; have f5_ := f3_.symm; clear f1_ f2_ f3_; subst f4_; subst f5_))
                 refine hK.out _ _ ⟨(blk_cell BK258.out 0).trans rfl, (blk_cell BK258.out 1).trans rfl, (blk_cell BK258.out 2).trans rfl, (blk_cell BK259.out 0).trans rfl, (blk_cell BK259.out 1).trans rfl, (blk_cell BK259.out 2).trans rfl⟩ (fun hHeld => ?_)
                 clear hK K
                 refine nX 33 ?_
                 refine oA HT_.out 5 (some 34) 12 575 (fun K hK => ?_)
                 refine gX Try.func28 #[.agg #[.int .i64 t262, .int .i64 t263, .slice Ao60 t264.length co60], .int .i64 a1, .agg #[.int .i64 t267, .int .i64 t268, .string t269]] ?_
                 with_reducible refine (spec_LogPut.calls k t262 t263 _ _ t264 a1 t267 t268 t269 t270 t271 t272 t275 _ ?side1 ?side2 A22.out).mono ?_
                 (case side1 => repeat (first | exact (Kd.R_reads' HO266.out).2.2 | (with_reducible refine cA ?_ _) | (with_reducible refine cN ?_ _) | (with_reducible refine cD ?_)))
                 (case side2 => exact (Kd.R_reads' HO266.out).2.1)
                 rintro e w61 ⟨v273, rfl, ho0, hb⟩
                 refine ⟨_, rfl, ?_⟩
                 have HO274 := aM (Kd.R_lower (Kd.R_new' ho0 (Kd.R_lt (uR HO266))) (below_size (uL HB)))
                 replace HO266 := aM (Kd.R_elder' (uR HO266) (Kd.R_base ho0) hb)
                 replace BK258 := blkB BK258 hb
                 replace BK259 := blkB BK259 hb
                 replace BK276 := blkB BK276 hb
                 replace HB := aM (below_step (uL HB) hb)
                 (try clear hb)
                 (try clear hb2)
                 (try clear hk)
                 (try clear hi)
                 (try clear ho0)
                 refine hK.out _ _ ⟨(blk_cell BK258.out 0).trans rfl, (blk_cell BK258.out 1).trans rfl, (blk_cell BK258.out 2).trans rfl, (blk_cell BK259.out 0).trans rfl, (blk_cell BK259.out 1).trans rfl, (blk_cell BK259.out 2).trans rfl⟩ (fun hHeld => ?_)
                 clear hK K
                 refine nX 34 ?_; refine pA HT_.out 6 28 12 639 ?_; refine pA HT_.out 7 35 12 767 ?_; refine pA HT_.out 8 36 12 1023 ?_
                 exact norm_ (by simp only [putAll, Act.put, List.setIfInBounds_toArray, List.set_cons_zero, List.set_cons_succ]) (hCont (.slice Ao60 t264.length co60, v273, gb276) _ ⟨hHeld, (by (with_reducible repeat first | apply rA | apply rN | apply rD); exact Kd.R_mono HO266.out (fun _ hk => hk.2)), (by (with_reducible repeat first | apply rA | apply rN | apply rD); exact Kd.R_mono HO274.out (fun _ hk => hk.2)), (uB BK258), (uB BK259), (uB BK276), GW276.out, GE276.out, NB258_276.out, NB276_258.out, NB259_276.out, NB276_259.out, (uL HB)⟩)
               ·skip
                refine bxS 8 #[.int .i64 0, .int .i64 0, .slice none 0 0] 30 ?_
                intro gb276 hg w57 hbox hb
                have n0_ := blkB BK258 hb; have n1_ := blkB BK259 hb
                have n2_ := aM (below_step (uL HB) hb)
                have n3_ := aM (hbox)
                have n4_ := szG hg (uL HB); have n5_ := szG hg (uL HB); have n6_ := neL hg BK258; have n7_ := neG hg BK258; have n8_ := neL hg BK259; have n9_ := neG hg BK259; clear BK258 BK259 HB; have BK258 := n0_; have BK259 := n1_; have HB := n2_; have BK276 := n3_; have GW276 := n4_; have GE276 := n5_; have NB258_276 := n6_; have NB276_258 := n7_; have NB259_276 := n8_; have NB276_259 := n9_; clear n0_ n1_ n2_ n3_ n4_ n5_ n6_ n7_ n8_ n9_ hb hbox hg
                refine hK.out _ _ ⟨(blk_cell BK258.out 0).trans rfl, (blk_cell BK258.out 1).trans rfl, (blk_cell BK258.out 2).trans rfl, (blk_cell BK259.out 0).trans rfl, (blk_cell BK259.out 1).trans rfl, (blk_cell BK259.out 2).trans rfl⟩ (fun hHeld => ?_)
                clear hK K
                refine nX 8 ?_
                refine oA HT_.out 1 (some 30) 12 527 (fun K hK => ?_)
                refine gX Try.func15 #[.agg #[.int .i64 a0_0, .int .i64 a0_1, .slice A0_2 l0_2.length c0_2]] ?_
                with_reducible refine (laws_toLog.calls k a0_0 a0_1 _ _ l0_2 t262 t263 t264 _ ?side1 ?side2 A20.out).mono ?_
                (case side1 => exact uC HR0_2 HB)
                (case side2 => exact HC0_2.out)
                rintro e w58 ⟨v265, rfl, ho0, hb⟩
                refine ⟨_, rfl, ?_⟩
                have HO266 := aM (Kd.R_lower ho0 (below_size (uL HB)))
                replace BK258 := blkB BK258 hb
                replace BK259 := blkB BK259 hb
                replace BK276 := blkB BK276 hb
                replace HB := aM (below_step (uL HB) hb)
                (try clear hb)
                (try clear hb2)
                (try clear hk)
                (try clear hi)
                (try clear ho0)
                refine hK.out _ _ ⟨(blk_cell BK258.out 0).trans rfl, (blk_cell BK258.out 1).trans rfl, (blk_cell BK258.out 2).trans rfl, (blk_cell BK259.out 0).trans rfl, (blk_cell BK259.out 1).trans rfl, (blk_cell BK259.out 2).trans rfl⟩ (fun hHeld => ?_)
                clear hK K
                refine nX 30 ?_
                refine oA HT_.out 4 (some 33) 12 543 (fun K hK => ?_)
                refine gX Try.func22 #[.agg #[.int .i64 a2_0, .int .i64 a2_1, .string a2_2]] ?_
                with_reducible refine (laws_toEntry.calls a2_0 a2_1 a2_2 t267 t268 t269 _ A21.out).mono ?_
                rintro e w59 ⟨rfl, hb⟩
                refine ⟨_, rfl, ?_⟩
                replace HO266 := aM (Kd.R_below (uR HO266) hb)
                replace BK258 := blkB BK258 hb
                replace BK259 := blkB BK259 hb
                replace BK276 := blkB BK276 hb
                replace HB := aM (below_step (uL HB) hb)
                (try clear hb)
                (try clear hb2)
                (try clear hk)
                (try clear hi)
                obtain ⟨Ao60, co60, eo60⟩ := Kd.R_slice HO266.out
                (first | subst eo60 | (injection eo60 with f1_ f2_ f3_; have f4_ := f1_.symm; have f5_ := f3_.symm; clear f1_ f2_ f3_; subst f4_; subst f5_))
                refine hK.out _ _ ⟨(blk_cell BK258.out 0).trans rfl, (blk_cell BK258.out 1).trans rfl, (blk_cell BK258.out 2).trans rfl, (blk_cell BK259.out 0).trans rfl, (blk_cell BK259.out 1).trans rfl, (blk_cell BK259.out 2).trans rfl⟩ (fun hHeld => ?_)
                clear hK K
                refine nX 33 ?_
                refine oA HT_.out 5 (some 34) 12 575 (fun K hK => ?_)
                refine gX Try.func28 #[.agg #[.int .i64 t262, .int .i64 t263, .slice Ao60 t264.length co60], .int .i64 a1, .agg #[.int .i64 t267, .int .i64 t268, .string t269]] ?_
                with_reducible refine (spec_LogPut.calls k t262 t263 _ _ t264 a1 t267 t268 t269 t270 t271 t272 t275 _ ?side1 ?side2 A22.out).mono ?_
                (case side1 => repeat (first | exact (Kd.R_reads' HO266.out).2.2 | (with_reducible refine cA ?_ _) | (with_reducible refine cN ?_ _) | (with_reducible refine cD ?_)))
                (case side2 => exact (Kd.R_reads' HO266.out).2.1)
                rintro e w61 ⟨v273, rfl, ho0, hb⟩
                refine ⟨_, rfl, ?_⟩
                have HO274 := aM (Kd.R_lower (Kd.R_new' ho0 (Kd.R_lt (uR HO266))) (below_size (uL HB)))
                replace HO266 := aM (Kd.R_elder' (uR HO266) (Kd.R_base ho0) hb)
                replace BK258 := blkB BK258 hb
                replace BK259 := blkB BK259 hb
                replace BK276 := blkB BK276 hb
                replace HB := aM (below_step (uL HB) hb)
                (try clear hb)
                (try clear hb2)
                (try clear hk)
                (try clear hi)
                (try clear ho0)
                refine hK.out _ _ ⟨(blk_cell BK258.out 0).trans rfl, (blk_cell BK258.out 1).trans rfl, (blk_cell BK258.out 2).trans rfl, (blk_cell BK259.out 0).trans rfl, (blk_cell BK259.out 1).trans rfl, (blk_cell BK259.out 2).trans rfl⟩ (fun hHeld => ?_)
                clear hK K
                refine nX 34 ?_; refine pA HT_.out 6 28 12 639 ?_; refine pA HT_.out 7 35 12 767 ?_; refine pA HT_.out 8 36 12 1023 ?_
                exact norm_ (by simp only [putAll, Act.put, List.setIfInBounds_toArray, List.set_cons_zero, List.set_cons_succ]) (hCont (.slice Ao60 t264.length co60, v273, gb276) _ ⟨hHeld, (by (with_reducible repeat first | apply rA | apply rN | apply rD); exact Kd.R_mono HO266.out (fun _ hk => hk.2)), (by (with_reducible repeat first | apply rA | apply rN | apply rD); exact Kd.R_mono HO274.out (fun _ hk => hk.2)), (uB BK258), (uB BK259), (uB BK276), GW276.out, GE276.out, NB258_276.out, NB276_258.out, NB259_276.out, NB276_259.out, (uL HB)⟩)
              rintro ⟨v265, v273, gb276⟩ w62 ⟨hS_, h0_, h1_, h2_, h3_, h4_, h5_, h6_, h7_, h8_, h9_, h10_, h11_⟩
              have n0_ : Aside0 (Kd.R k40 40 w62 w.heap.size (fun k_ => some k_ ≠ (v273 : Value).ownBlock) v265 t264) := ⟨h0_⟩
              have n1_ : Aside0 (Kd.R k40 40 w62 w.heap.size (fun k_ => some k_ ≠ (v265 : Value).ownBlock) v273 t272) := ⟨h1_⟩
              have n2_ : Aside0 (w62.heap[gb258]? = some (.cells #[.int .i64 a0_0, .int .i64 a0_1, .slice A0_2 l0_2.length c0_2] 24 (0, 0))) := ⟨h2_⟩
              have n3_ : Aside0 (w62.heap[gb259]? = some (.cells #[.int .i64 a2_0, .int .i64 a2_1, .string a2_2] 37 (0, 0))) := ⟨h3_⟩
              have n4_ : Aside0 (w62.heap[gb276]? = some (.cells #[.int .i64 0, .int .i64 0, .slice none 0 0] 30 (0, 0))) := ⟨h4_⟩
              have n5_ : Aside0 (w.heap.size ≤ gb276) := ⟨h5_⟩
              have n6_ : Aside0 (w.heap.size ≤ gb276) := ⟨h6_⟩
              have n7_ : Aside0 (gb258 ≠ gb276) := ⟨h7_⟩
              have n8_ : Aside0 (gb276 ≠ gb258) := ⟨h8_⟩
              have n9_ : Aside0 (gb259 ≠ gb276) := ⟨h9_⟩
              have n10_ : Aside0 (gb276 ≠ gb259) := ⟨h10_⟩
              have n11_ : Aside0 (Below w.heap.size w w62) := ⟨h11_⟩
              clear BK258 BK259 HB h0_ h1_ h2_ h3_ h4_ h5_ h6_ h7_ h8_ h9_ h10_ h11_; have HO266 := n0_; have HO274 := n1_; have BK258 := n2_; have BK259 := n3_; have BK276 := n4_; have GW276 := n5_; have GE276 := n6_; have NB258_276 := n7_; have NB276_258 := n8_; have NB259_276 := n9_; have NB276_259 := n10_; have HB := n11_; clear n0_ n1_ n2_ n3_ n4_ n5_ n6_ n7_ n8_ n9_ n10_ n11_
              have hHeld : w62.cell? ⟨gb258, 0, none⟩ = some (.int .i64 a0_0) ∧ w62.cell? ⟨gb258, 1, none⟩ = some (.int .i64 a0_1) ∧ w62.cell? ⟨gb258, 2, none⟩ = some (.slice A0_2 l0_2.length c0_2) ∧ w62.cell? ⟨gb259, 0, none⟩ = some (.int .i64 a2_0) ∧ w62.cell? ⟨gb259, 1, none⟩ = some (.int .i64 a2_1) ∧ w62.cell? ⟨gb259, 2, none⟩ = some (.string a2_2) := hS_
              obtain ⟨Ao65, co65, eo65⟩ := Kd.R_slice HO274.out
              (first | subst eo65 | (injection eo65 with f1_ f2_ f3_; have f4_ := f1_.symm; have f5_ := f3_.symm; clear f1_ f2_ f3_; subst f4_; subst f5_))
              refine norm_ (a' := ?_) ?_ ?_
              rotate_left
              ·simp only [putAll, Act.put, List.setIfInBounds_toArray, List.set_cons_zero, List.set_cons_succ]
               rfl
              refine oA HT_.out 10 none 12 2047 (fun K hK => ?_)
              have hs63 := czA BK276.out 0 (.int .i64 0)
              have hfs63 := blk_frozen BK276.out 0; have hns63_0 := NB258_276.out; have hns63_1 := NB259_276.out; have hms63_0 := NB276_258.out; have hms63_1 := NB276_259.out
              have hs64 := czA BK276.out 1 (.int .i64 0)
              have hfs64 := blk_frozen BK276.out 1; have hns64_0 := NB258_276.out; have hns64_1 := NB259_276.out; have hms64_0 := NB276_258.out; have hms64_1 := NB276_259.out
              have hs66 := czA BK276.out 2 (.slice none 0 0)
              have hfs66 := blk_frozen BK276.out 2; have hns66_0 := NB258_276.out; have hns66_1 := NB259_276.out; have hms66_0 := NB276_258.out; have hms66_1 := NB276_259.out
              refine skip_ (w1 := ?_) (by rfl) rfl ?_ ?_
              rotate_left
              ·go_simp
               rfl
              refine hK.out _ _ ⟨((cell_far (p := ⟨gb276, _, none⟩) NB258_276.out _).trans (((cell_far (p := ⟨gb276, _, none⟩) NB258_276.out _).trans (((cell_far (p := ⟨gb276, _, none⟩) NB258_276.out _).trans (hHeld.1)))))), ((cell_far (p := ⟨gb276, _, none⟩) NB258_276.out _).trans (((cell_far (p := ⟨gb276, _, none⟩) NB258_276.out _).trans (((cell_far (p := ⟨gb276, _, none⟩) NB258_276.out _).trans (hHeld.2.1)))))), ((cell_far (p := ⟨gb276, _, none⟩) NB258_276.out _).trans (((cell_far (p := ⟨gb276, _, none⟩) NB258_276.out _).trans (((cell_far (p := ⟨gb276, _, none⟩) NB258_276.out _).trans (hHeld.2.2.1)))))), ((cell_far (p := ⟨gb276, _, none⟩) NB259_276.out _).trans (((cell_far (p := ⟨gb276, _, none⟩) NB259_276.out _).trans (((cell_far (p := ⟨gb276, _, none⟩) NB259_276.out _).trans (hHeld.2.2.2.1)))))), ((cell_far (p := ⟨gb276, _, none⟩) NB259_276.out _).trans (((cell_far (p := ⟨gb276, _, none⟩) NB259_276.out _).trans (((cell_far (p := ⟨gb276, _, none⟩) NB259_276.out _).trans (hHeld.2.2.2.2.1)))))), ((cell_far (p := ⟨gb276, _, none⟩) NB259_276.out _).trans (((cell_far (p := ⟨gb276, _, none⟩) NB259_276.out _).trans (((cell_far (p := ⟨gb276, _, none⟩) NB259_276.out _).trans (hHeld.2.2.2.2.2))))))⟩ (fun hHeld => ?_)
              clear hK K
              refine pA HT_.out 11 9 12 4095 ?_
              refine done_ (done_of HT_.out (by kernel_rfl)) ?_
              have hnb67 := NB258_276.out; have hnc67 := NB276_258.out
              have hcz68_0 := czA BK258.out 0 (.int .i64 a0_0)
              have hcz68_1 := czA BK258.out 1 (.int .i64 a0_1)
              have hcz68_2 := czA BK258.out 2 (.slice A0_2 l0_2.length c0_2)
              have hfz68_0 := blk_frozen BK258.out 0; have hfz68_1 := blk_frozen BK258.out 1; have hfz68_2 := blk_frozen BK258.out 2
              try go_wp2_with (first | ((with_reducible refine gate_callee (f := 15) rfl ?_); refine gL (some 38) Try.func15 #[.agg #[.int .i64 a0_0, .int .i64 a0_1, .slice A0_2 l0_2.length c0_2]] ?_; (with_reducible refine (laws_toLog.calls k a0_0 a0_1 _ _ l0_2 t277 t278 t279 _ ?side1 ?side2 A23.out).mono ?_); (case side1 => exact Kd.C_below HR0_2.out (uL HB)); (case side2 => exact HC0_2.out); rintro e w69 ⟨v280, rfl, ho0, hb⟩; refine ⟨_, rfl, ?_⟩; have HO281 := aM (Kd.R_lower (Kd.R_new' (Kd.R_new' ho0 (Kd.R_lt (by (with_reducible repeat first | apply rA | apply rN | apply rD); exact (Kd.R_mono (Kd.R_far (p := ⟨gb276, 2, none⟩) (Kd.R_far (p := ⟨gb276, 1, none⟩) (Kd.R_far (p := ⟨gb276, 0, none⟩) (Kd.R_types HO266.out BK276.out (by decide)) (fun _ hk => hk.2) (.int .i64 t270)) (fun _ hk => hk.2) (.int .i64 t271)) (fun _ hk => hk.2) (.slice Ao65 t272.length co65)) (fun _ h_ => h_.1))))) (Kd.R_lt (by (with_reducible repeat first | apply rA | apply rN | apply rD); exact (Kd.R_mono (Kd.R_far (p := ⟨gb276, 2, none⟩) (Kd.R_far (p := ⟨gb276, 1, none⟩) (Kd.R_far (p := ⟨gb276, 0, none⟩) (Kd.R_types HO274.out BK276.out (by decide)) (fun _ hk => hk.2) (.int .i64 t270)) (fun _ hk => hk.2) (.int .i64 t271)) (fun _ hk => hk.2) (.slice Ao65 t272.length co65)) (fun _ h_ => h_.1))))) (below_size (uL HB))); replace HO266 := aM (Kd.R_elder' (by (with_reducible repeat first | apply rA | apply rN | apply rD); exact (Kd.R_mono (Kd.R_far (p := ⟨gb276, 2, none⟩) (Kd.R_far (p := ⟨gb276, 1, none⟩) (Kd.R_far (p := ⟨gb276, 0, none⟩) (Kd.R_types HO266.out BK276.out (by decide)) (fun _ hk => hk.2) (.int .i64 t270)) (fun _ hk => hk.2) (.int .i64 t271)) (fun _ hk => hk.2) (.slice Ao65 t272.length co65)) (fun _ h_ => h_.1))) (Kd.R_base ho0) hb); replace HO274 := aM (Kd.R_elder' (by (with_reducible repeat first | apply rA | apply rN | apply rD); exact (Kd.R_mono (Kd.R_far (p := ⟨gb276, 2, none⟩) (Kd.R_far (p := ⟨gb276, 1, none⟩) (Kd.R_far (p := ⟨gb276, 0, none⟩) (Kd.R_types HO274.out BK276.out (by decide)) (fun _ hk => hk.2) (.int .i64 t270)) (fun _ hk => hk.2) (.int .i64 t271)) (fun _ hk => hk.2) (.slice Ao65 t272.length co65)) (fun _ h_ => h_.1))) (Kd.R_base ho0) hb); replace BK258 := blkB BK258 hb; replace BK259 := blkB BK259 hb; replace BK276 := aM (blk_below (g := gb276) (o := .cells #[.int .i64 t270, .int .i64 t271, .slice Ao65 t272.length co65] 30 (0, 0)) (by refine nB ?_; refine blk_put (cs := #[.int .i64 t270, .int .i64 t271, .slice none 0 0]) ?_ 2 _ rfl; refine nB ?_; refine blk_put (cs := #[.int .i64 t270, .int .i64 0, .slice none 0 0]) ?_ 1 _ rfl; refine nB ?_; refine blk_put (cs := #[.int .i64 0, .int .i64 0, .slice none 0 0]) ?_ 0 _ rfl; exact nB BK276.out) hb); replace HB := aM (below_step (uL HB) hb); try clear hb ho0) | ((with_reducible refine gate_dst (N := 10) rfl ?_); refine bxE 10 #[.int .i64 0, .int .i64 0, .slice none 0 0] 30 ?_; intro gb282 hg w70 hbox hb; have BK282 := aM (hbox); have GW282 := szG hg (uL HB); have GE282 := szG hg (uL HB); have NB258_282 := neL hg BK258; have NB282_258 := neG hg BK258; have NB259_282 := neL hg BK259; have NB282_259 := neG hg BK259; have NB276_282 := neL hg BK276; have NB282_276 := neG hg BK276; replace HO266 := aM (Kd.R_below (uR HO266) hb); replace HO274 := aM (Kd.R_below (uR HO274) hb); replace HO281 := aM (Kd.R_below (uR HO281) hb); replace BK258 := blkB BK258 hb; replace BK259 := blkB BK259 hb; replace BK276 := blkB BK276 hb; replace HB := aM (below_step (uL HB) hb); clear hb hbox hg; have hnb71 := NB282_258.out; have hnc71 := NB258_282.out; have hnb72 := NB282_259.out; have hnc72 := NB259_282.out; have hnb73 := NB282_276.out; have hnc73 := NB276_282.out; have hcz74_0 := czA BK282.out 0 (.int .i64 0); have hcz74_1 := czA BK282.out 1 (.int .i64 0); have hcz74_2 := czA BK282.out 2 (.slice none 0 0); have hfz74_0 := blk_frozen BK282.out 0; have hfz74_1 := blk_frozen BK282.out 1; have hfz74_2 := blk_frozen BK282.out 2; obtain ⟨Ao75, co75, eo75⟩ := Kd.R_slice HO281.out; subst eo75))
              have n0_ : Aside0 (Kd.R k40 40 (((w70.setCell ⟨gb282, 0, none⟩ (.int .i64 t277)).setCell ⟨gb282, 1, none⟩ (.int .i64 t278)).setCell ⟨gb282, 2, none⟩ (.slice Ao75 t279.length co75)) w.heap.size (fun k_ => some k_ ≠ (.slice Ao65 t272.length co65 : Value).ownBlock ∧ some k_ ≠ (.slice Ao75 t279.length co75 : Value).ownBlock) v265 t264) := ⟨by (with_reducible repeat first | apply rA | apply rN | apply rD); exact Kd.R_mono (Kd.R_far (p := ⟨gb282, 2, none⟩) (Kd.R_far (p := ⟨gb282, 1, none⟩) (Kd.R_far (p := ⟨gb282, 0, none⟩) (Kd.R_types HO266.out BK282.out (by decide)) (fun _ hk => hk.2) (.int .i64 t277)) (fun _ hk => hk.2) (.int .i64 t278)) (fun _ hk => hk.2) (.slice Ao75 t279.length co75)) (fun _ hk => ⟨hk.1.1, hk.1.2⟩)⟩
              have n1_ : Aside0 (Kd.R k40 40 (((w70.setCell ⟨gb282, 0, none⟩ (.int .i64 t277)).setCell ⟨gb282, 1, none⟩ (.int .i64 t278)).setCell ⟨gb282, 2, none⟩ (.slice Ao75 t279.length co75)) w.heap.size (fun k_ => some k_ ≠ (v265 : Value).ownBlock ∧ some k_ ≠ (.slice Ao75 t279.length co75 : Value).ownBlock) (.slice Ao65 t272.length co65) t272) := ⟨by (with_reducible repeat first | apply rA | apply rN | apply rD); exact Kd.R_mono (Kd.R_far (p := ⟨gb282, 2, none⟩) (Kd.R_far (p := ⟨gb282, 1, none⟩) (Kd.R_far (p := ⟨gb282, 0, none⟩) (Kd.R_types HO274.out BK282.out (by decide)) (fun _ hk => hk.2) (.int .i64 t277)) (fun _ hk => hk.2) (.int .i64 t278)) (fun _ hk => hk.2) (.slice Ao75 t279.length co75)) (fun _ hk => ⟨hk.1.1, hk.1.2⟩)⟩
              have n2_ : Aside0 (Kd.R k40 40 (((w70.setCell ⟨gb282, 0, none⟩ (.int .i64 t277)).setCell ⟨gb282, 1, none⟩ (.int .i64 t278)).setCell ⟨gb282, 2, none⟩ (.slice Ao75 t279.length co75)) w.heap.size (fun k_ => some k_ ≠ (v265 : Value).ownBlock ∧ some k_ ≠ (.slice Ao65 t272.length co65 : Value).ownBlock) (.slice Ao75 t279.length co75) t279) := ⟨by (with_reducible repeat first | apply rA | apply rN | apply rD); exact Kd.R_mono (Kd.R_far (p := ⟨gb282, 2, none⟩) (Kd.R_far (p := ⟨gb282, 1, none⟩) (Kd.R_far (p := ⟨gb282, 0, none⟩) (Kd.R_types HO281.out BK282.out (by decide)) (fun _ hk => hk.2) (.int .i64 t277)) (fun _ hk => hk.2) (.int .i64 t278)) (fun _ hk => hk.2) (.slice Ao75 t279.length co75)) (fun _ hk => ⟨hk.1.1.2, hk.1.2⟩)⟩
              have n3_ : Aside0 ((((w70.setCell ⟨gb282, 0, none⟩ (.int .i64 t277)).setCell ⟨gb282, 1, none⟩ (.int .i64 t278)).setCell ⟨gb282, 2, none⟩ (.slice Ao75 t279.length co75)).heap[gb258]? = some (.cells #[.int .i64 a0_0, .int .i64 a0_1, .slice A0_2 l0_2.length c0_2] 24 (0, 0))) := ⟨by refine nB ?_; refine blk_far ?_ NB258_282.out _; refine nB ?_; refine blk_far ?_ NB258_282.out _; refine nB ?_; refine blk_far ?_ NB258_282.out _; exact nB BK258.out⟩
              have n4_ : Aside0 ((((w70.setCell ⟨gb282, 0, none⟩ (.int .i64 t277)).setCell ⟨gb282, 1, none⟩ (.int .i64 t278)).setCell ⟨gb282, 2, none⟩ (.slice Ao75 t279.length co75)).heap[gb259]? = some (.cells #[.int .i64 a2_0, .int .i64 a2_1, .string a2_2] 37 (0, 0))) := ⟨by refine nB ?_; refine blk_far ?_ NB259_282.out _; refine nB ?_; refine blk_far ?_ NB259_282.out _; refine nB ?_; refine blk_far ?_ NB259_282.out _; exact nB BK259.out⟩
              have n5_ : Aside0 ((((w70.setCell ⟨gb282, 0, none⟩ (.int .i64 t277)).setCell ⟨gb282, 1, none⟩ (.int .i64 t278)).setCell ⟨gb282, 2, none⟩ (.slice Ao75 t279.length co75)).heap[gb276]? = some (.cells #[.int .i64 t270, .int .i64 t271, .slice Ao65 t272.length co65] 30 (0, 0))) := ⟨by refine nB ?_; refine blk_far ?_ NB276_282.out _; refine nB ?_; refine blk_far ?_ NB276_282.out _; refine nB ?_; refine blk_far ?_ NB276_282.out _; exact nB BK276.out⟩
              have n6_ : Aside0 ((((w70.setCell ⟨gb282, 0, none⟩ (.int .i64 t277)).setCell ⟨gb282, 1, none⟩ (.int .i64 t278)).setCell ⟨gb282, 2, none⟩ (.slice Ao75 t279.length co75)).heap[gb282]? = some (.cells #[.int .i64 t277, .int .i64 t278, .slice Ao75 t279.length co75] 30 (0, 0))) := ⟨by refine nB ?_; refine blk_put (cs := #[.int .i64 t277, .int .i64 t278, .slice none 0 0]) ?_ 2 _ rfl; refine nB ?_; refine blk_put (cs := #[.int .i64 t277, .int .i64 0, .slice none 0 0]) ?_ 1 _ rfl; refine nB ?_; refine blk_put (cs := #[.int .i64 0, .int .i64 0, .slice none 0 0]) ?_ 0 _ rfl; exact nB BK282.out⟩
              have n7_ : Aside0 (Below w.heap.size w (((w70.setCell ⟨gb282, 0, none⟩ (.int .i64 t277)).setCell ⟨gb282, 1, none⟩ (.int .i64 t278)).setCell ⟨gb282, 2, none⟩ (.slice Ao75 t279.length co75))) := ⟨uL HB⟩
              (try clear HO266)
              (try clear HO274)
              (try clear HO281)
              (try clear BK258)
              (try clear BK259)
              (try clear BK276)
              (try clear BK282)
              (try clear HB)
              generalize (((w70.setCell ⟨gb282, 0, none⟩ (.int .i64 t277)).setCell ⟨gb282, 1, none⟩ (.int .i64 t278)).setCell ⟨gb282, 2, none⟩ (.slice Ao75 t279.length co75)) = w76 at n0_ n1_ n2_ n3_ n4_ n5_ n6_ n7_ ⊢
              have HO266 := n0_; have HO274 := n1_; have HO281 := n2_; have BK258 := n3_; have BK259 := n4_; have BK276 := n5_; have BK282 := n6_; have HB := n7_; clear n0_ n1_ n2_ n3_ n4_ n5_ n6_ n7_
              replace HO266 := aM (Kd.R_drew HO266.out)
              replace HO274 := aM (Kd.R_drew HO274.out)
              replace HO281 := aM (Kd.R_drew HO281.out)
              replace BK258 := aM (blk_drew BK258.out)
              replace BK259 := aM (blk_drew BK259.out)
              replace BK276 := aM (blk_drew BK276.out)
              replace BK282 := aM (blk_drew BK282.out)
              replace HB := aM (below_drew1 HB.out)
              refine start_ (n := 11) (S := fun w' => w'.cell? ⟨gb282, 0, none⟩ = some (.int .i64 t277) ∧ w'.cell? ⟨gb282, 1, none⟩ = some (.int .i64 t278) ∧ w'.cell? ⟨gb282, 2, none⟩ = some (.slice Ao75 t279.length co75) ∧ w'.cell? ⟨gb259, 0, none⟩ = some (.int .i64 a2_0) ∧ w'.cell? ⟨gb259, 1, none⟩ = some (.int .i64 a2_1) ∧ w'.cell? ⟨gb259, 2, none⟩ = some (.string a2_2)) (ds := []) (bB 11 0) (by kernel_rfl) rfl rfl ⟨(blk_cell BK282.out 0).trans rfl, (blk_cell BK282.out 1).trans rfl, (blk_cell BK282.out 2).trans rfl, (blk_cell BK259.out 0).trans rfl, (blk_cell BK259.out 1).trans rfl, (blk_cell BK259.out 2).trans rfl⟩ (fun hHeld => ?_); refine with_tabW laws_FnExactLogPut.tab10 laws_FnExactLogPut.bits10 (fun HT_ HW_ => ?_)
              generalize w76.drew = w77 at HO266 HO274 HO281 BK258 BK259 BK276 BK282 HB hHeld ⊢
              refine pA HT_.out 1 41 11 2 ?_; refine tA HT_.out HW_.out 0 40 11 3 hHeld ?_; refine tA HT_.out HW_.out 2 42 11 7 hHeld ?_
              refine join_ (σ := Value × Nat) 2 #[true, true, true, true, true, true, true, true, true, false, false] (fun s_ => [(43, .agg #[.int .i64 t283, .int .i64 t284, .string t285]), (44, .tuple #[.agg #[.int .i64 t286, .int .i64 t287, s_.1], .bool t291]), (11, .pointer (some ⟨s_.2, 0, none⟩)), (39, .tuple #[.agg #[.int .i64 t286, .int .i64 t287, s_.1], .bool t291]), (45, .agg #[.int .i64 t286, .int .i64 t287, s_.1]), (46, .bool t291)]) (fun s_ w' => (w'.cell? ⟨gb282, 0, none⟩ = some (.int .i64 t277) ∧ w'.cell? ⟨gb282, 1, none⟩ = some (.int .i64 t278) ∧ w'.cell? ⟨gb282, 2, none⟩ = some (.slice Ao75 t279.length co75) ∧ w'.cell? ⟨gb259, 0, none⟩ = some (.int .i64 a2_0) ∧ w'.cell? ⟨gb259, 1, none⟩ = some (.int .i64 a2_1) ∧ w'.cell? ⟨gb259, 2, none⟩ = some (.string a2_2)) ∧ (Kd.R k40 40 w' w.heap.size (fun k_ => some k_ ≠ (.slice Ao65 t272.length co65 : Value).ownBlock ∧ some k_ ≠ (.slice Ao75 t279.length co75 : Value).ownBlock ∧ some k_ ≠ (s_.1 : Value).ownBlock) v265 t264) ∧ (Kd.R k40 40 w' w.heap.size (fun k_ => some k_ ≠ (v265 : Value).ownBlock ∧ some k_ ≠ (.slice Ao75 t279.length co75 : Value).ownBlock ∧ some k_ ≠ (s_.1 : Value).ownBlock) (.slice Ao65 t272.length co65) t272) ∧ (Kd.R k40 40 w' w.heap.size (fun k_ => some k_ ≠ (v265 : Value).ownBlock ∧ some k_ ≠ (.slice Ao65 t272.length co65 : Value).ownBlock ∧ some k_ ≠ (s_.1 : Value).ownBlock) (.slice Ao75 t279.length co75) t279) ∧ (Kd.R k40 40 w' w.heap.size (fun k_ => some k_ ≠ (v265 : Value).ownBlock ∧ some k_ ≠ (.slice Ao65 t272.length co65 : Value).ownBlock ∧ some k_ ≠ (.slice Ao75 t279.length co75 : Value).ownBlock) s_.1 t288) ∧ (w'.heap[gb258]? = some (.cells #[.int .i64 a0_0, .int .i64 a0_1, .slice A0_2 l0_2.length c0_2] 24 (0, 0))) ∧ (w'.heap[gb259]? = some (.cells #[.int .i64 a2_0, .int .i64 a2_1, .string a2_2] 37 (0, 0))) ∧ (w'.heap[gb276]? = some (.cells #[.int .i64 t270, .int .i64 t271, .slice Ao65 t272.length co65] 30 (0, 0))) ∧ (w'.heap[gb282]? = some (.cells #[.int .i64 t277, .int .i64 t278, .slice Ao75 t279.length co75] 30 (0, 0))) ∧ (w'.heap[s_.2]? = some (.cells #[.int .i64 0, .int .i64 0, .slice none 0 0] 30 (0, 0))) ∧ (w.heap.size ≤ s_.2) ∧ (w.heap.size ≤ s_.2) ∧ (gb258 ≠ s_.2) ∧ (s_.2 ≠ gb258) ∧ (gb259 ≠ s_.2) ∧ (s_.2 ≠ gb259) ∧ (gb276 ≠ s_.2) ∧ (s_.2 ≠ gb276) ∧ (gb282 ≠ s_.2) ∧ (s_.2 ≠ gb282) ∧ (Below w.heap.size w w')) ?_ ?_
              rotate_left
              ·intro hCont
               refine two_ (i := 3) (j := 8) (Ni := some 43) (Nj := some 11) #[true, true, true, true, false, false, false, false, false, false, false] #[true, true, true, false, false, false, false, false, true, false, false] rfl rfl rfl rfl (two_of HT_.out (by kernel_rfl)) (by decide) (by decide) (fun K hK => ?_) (fun K hK => ?_)
               ·skip
                refine gX Try.func22 #[.agg #[.int .i64 a2_0, .int .i64 a2_1, .string a2_2]] ?_
                with_reducible refine (laws_toEntry.calls a2_0 a2_1 a2_2 t283 t284 t285 _ A24.out).mono ?_
                rintro e w78 ⟨rfl, hb⟩
                refine ⟨_, rfl, ?_⟩
                replace HO266 := aM (Kd.R_below (uR HO266) hb)
                replace HO274 := aM (Kd.R_below (uR HO274) hb)
                replace HO281 := aM (Kd.R_below (uR HO281) hb)
                replace BK258 := blkB BK258 hb
                replace BK259 := blkB BK259 hb
                replace BK276 := blkB BK276 hb
                replace BK282 := blkB BK282 hb
                replace HB := aM (below_step (uL HB) hb)
                (try clear hb)
                (try clear hb2)
                (try clear hk)
                (try clear hi)
                refine hK.out _ _ ⟨(blk_cell BK282.out 0).trans rfl, (blk_cell BK282.out 1).trans rfl, (blk_cell BK282.out 2).trans rfl, (blk_cell BK259.out 0).trans rfl, (blk_cell BK259.out 1).trans rfl, (blk_cell BK259.out 2).trans rfl⟩ (fun hHeld => ?_)
                clear hK K
                refine nX 43 ?_
                refine two_ (i := 4) (j := 8) (Ni := some 44) (Nj := some 11) #[true, true, true, true, true, false, false, false, false, false, false] #[true, true, true, true, false, false, false, false, true, false, false] rfl rfl rfl rfl (two_of HT_.out (by kernel_rfl)) (by decide) (by decide) (fun K hK => ?_) (fun K hK => ?_)
                ·skip
                 refine gX Try.func29 #[.agg #[.int .i64 t277, .int .i64 t278, .slice Ao75 t279.length co75], .int .i64 a1, .agg #[.int .i64 t283, .int .i64 t284, .string t285]] ?_
                 with_reducible refine (impl_LogPut.calls k t277 t278 _ _ t279 a1 t283 t284 t285 t286 t287 t288 t291 _ ?side1 ?side2 A25.out).mono ?_
                 (case side1 => repeat (first | exact (Kd.R_reads' HO281.out).2.2 | (with_reducible refine cA ?_ _) | (with_reducible refine cN ?_ _) | (with_reducible refine cD ?_)))
                 (case side2 => exact (Kd.R_reads' HO281.out).2.1)
                 rintro e w79 ⟨v289, rfl, ho0, hb⟩
                 refine ⟨_, rfl, ?_⟩
                 have HO290 := aM (Kd.R_lower (Kd.R_new' (Kd.R_new' (Kd.R_new' ho0 (Kd.R_lt (uR HO266))) (Kd.R_lt (uR HO274))) (Kd.R_lt (uR HO281))) (below_size (uL HB)))
                 replace HO266 := aM (Kd.R_elder' (uR HO266) (Kd.R_base ho0) hb)
                 replace HO274 := aM (Kd.R_elder' (uR HO274) (Kd.R_base ho0) hb)
                 replace HO281 := aM (Kd.R_elder' (uR HO281) (Kd.R_base ho0) hb)
                 replace BK258 := blkB BK258 hb
                 replace BK259 := blkB BK259 hb
                 replace BK276 := blkB BK276 hb
                 replace BK282 := blkB BK282 hb
                 replace HB := aM (below_step (uL HB) hb)
                 (try clear hb)
                 (try clear hb2)
                 (try clear hk)
                 (try clear hi)
                 (try clear ho0)
                 refine hK.out _ _ ⟨(blk_cell BK282.out 0).trans rfl, (blk_cell BK282.out 1).trans rfl, (blk_cell BK282.out 2).trans rfl, (blk_cell BK259.out 0).trans rfl, (blk_cell BK259.out 1).trans rfl, (blk_cell BK259.out 2).trans rfl⟩ (fun hHeld => ?_)
                 clear hK K
                 refine nX 44 ?_; refine pA HT_.out 5 39 11 63 ?_; refine pA HT_.out 6 45 11 127 ?_; refine pA HT_.out 7 46 11 255 ?_
                 refine oA HT_.out 8 (some 11) 11 511 (fun K hK => ?_)
                 refine bxS 11 #[.int .i64 0, .int .i64 0, .slice none 0 0] 30 ?_
                 intro gb292 hg w80 hbox hb
                 have n0_ := aM (Kd.R_below (uR HO266) hb); have n1_ := aM (Kd.R_below (uR HO274) hb); have n2_ := aM (Kd.R_below (uR HO281) hb); have n3_ := aM (Kd.R_below (uR HO290) hb); have n4_ := blkB BK258 hb; have n5_ := blkB BK259 hb; have n6_ := blkB BK276 hb; have n7_ := blkB BK282 hb
                 have n8_ := aM (below_step (uL HB) hb)
                 have n9_ := aM (hbox)
                 have n10_ := szG hg (uL HB); have n11_ := szG hg (uL HB); have n12_ := neL hg BK258; have n13_ := neG hg BK258; have n14_ := neL hg BK259; have n15_ := neG hg BK259; have n16_ := neL hg BK276; have n17_ := neG hg BK276; have n18_ := neL hg BK282; have n19_ := neG hg BK282; clear HO266 HO274 HO281 HO290 BK258 BK259 BK276 BK282 HB; have HO266 := n0_; have HO274 := n1_; have HO281 := n2_; have HO290 := n3_; have BK258 := n4_; have BK259 := n5_; have BK276 := n6_; have BK282 := n7_; have HB := n8_; have BK292 := n9_; have GW292 := n10_; have GE292 := n11_; have NB258_292 := n12_; have NB292_258 := n13_; have NB259_292 := n14_; have NB292_259 := n15_; have NB276_292 := n16_; have NB292_276 := n17_; have NB282_292 := n18_; have NB292_282 := n19_; clear n0_ n1_ n2_ n3_ n4_ n5_ n6_ n7_ n8_ n9_ n10_ n11_ n12_ n13_ n14_ n15_ n16_ n17_ n18_ n19_ hb hbox hg
                 refine hK.out _ _ ⟨(blk_cell BK282.out 0).trans rfl, (blk_cell BK282.out 1).trans rfl, (blk_cell BK282.out 2).trans rfl, (blk_cell BK259.out 0).trans rfl, (blk_cell BK259.out 1).trans rfl, (blk_cell BK259.out 2).trans rfl⟩ (fun hHeld => ?_)
                 clear hK K
                 refine nX 11 ?_
                 exact norm_ (by simp only [putAll, Act.put, List.setIfInBounds_toArray, List.set_cons_zero, List.set_cons_succ]) (hCont (v289, gb292) _ ⟨hHeld, (by (with_reducible repeat first | apply rA | apply rN | apply rD); exact Kd.R_mono HO266.out (fun _ hk => ⟨hk.1.1, ⟨hk.1.2, hk.2⟩⟩)), (by (with_reducible repeat first | apply rA | apply rN | apply rD); exact Kd.R_mono HO274.out (fun _ hk => ⟨hk.1.1, ⟨hk.1.2, hk.2⟩⟩)), (by (with_reducible repeat first | apply rA | apply rN | apply rD); exact Kd.R_mono HO281.out (fun _ hk => ⟨hk.1.1, ⟨hk.1.2, hk.2⟩⟩)), (by (with_reducible repeat first | apply rA | apply rN | apply rD); exact Kd.R_mono HO290.out (fun _ hk => ⟨hk.1.1.2, ⟨hk.1.2, hk.2⟩⟩)), (uB BK258), (uB BK259), (uB BK276), (uB BK282), (uB BK292), GW292.out, GE292.out, NB258_292.out, NB292_258.out, NB259_292.out, NB292_259.out, NB276_292.out, NB292_276.out, NB282_292.out, NB292_282.out, (uL HB)⟩)
                ·skip
                 refine bxS 11 #[.int .i64 0, .int .i64 0, .slice none 0 0] 30 ?_
                 intro gb292 hg w79 hbox hb
                 have n0_ := aM (Kd.R_below (uR HO266) hb); have n1_ := aM (Kd.R_below (uR HO274) hb); have n2_ := aM (Kd.R_below (uR HO281) hb); have n3_ := blkB BK258 hb; have n4_ := blkB BK259 hb; have n5_ := blkB BK276 hb; have n6_ := blkB BK282 hb
                 have n7_ := aM (below_step (uL HB) hb)
                 have n8_ := aM (hbox)
                 have n9_ := szG hg (uL HB); have n10_ := szG hg (uL HB); have n11_ := neL hg BK258; have n12_ := neG hg BK258; have n13_ := neL hg BK259; have n14_ := neG hg BK259; have n15_ := neL hg BK276; have n16_ := neG hg BK276; have n17_ := neL hg BK282; have n18_ := neG hg BK282; clear HO266 HO274 HO281 BK258 BK259 BK276 BK282 HB; have HO266 := n0_; have HO274 := n1_; have HO281 := n2_; have BK258 := n3_; have BK259 := n4_; have BK276 := n5_; have BK282 := n6_; have HB := n7_; have BK292 := n8_; have GW292 := n9_; have GE292 := n10_; have NB258_292 := n11_; have NB292_258 := n12_; have NB259_292 := n13_; have NB292_259 := n14_; have NB276_292 := n15_; have NB292_276 := n16_; have NB282_292 := n17_; have NB292_282 := n18_; clear n0_ n1_ n2_ n3_ n4_ n5_ n6_ n7_ n8_ n9_ n10_ n11_ n12_ n13_ n14_ n15_ n16_ n17_ n18_ hb hbox hg
                 refine hK.out _ _ ⟨(blk_cell BK282.out 0).trans rfl, (blk_cell BK282.out 1).trans rfl, (blk_cell BK282.out 2).trans rfl, (blk_cell BK259.out 0).trans rfl, (blk_cell BK259.out 1).trans rfl, (blk_cell BK259.out 2).trans rfl⟩ (fun hHeld => ?_)
                 clear hK K
                 refine nX 11 ?_
                 refine oA HT_.out 4 (some 44) 11 287 (fun K hK => ?_)
                 refine gX Try.func29 #[.agg #[.int .i64 t277, .int .i64 t278, .slice Ao75 t279.length co75], .int .i64 a1, .agg #[.int .i64 t283, .int .i64 t284, .string t285]] ?_
                 with_reducible refine (impl_LogPut.calls k t277 t278 _ _ t279 a1 t283 t284 t285 t286 t287 t288 t291 _ ?side1 ?side2 A25.out).mono ?_
                 (case side1 => repeat (first | exact (Kd.R_reads' HO281.out).2.2 | (with_reducible refine cA ?_ _) | (with_reducible refine cN ?_ _) | (with_reducible refine cD ?_)))
                 (case side2 => exact (Kd.R_reads' HO281.out).2.1)
                 rintro e w80 ⟨v289, rfl, ho0, hb⟩
                 refine ⟨_, rfl, ?_⟩
                 have HO290 := aM (Kd.R_lower (Kd.R_new' (Kd.R_new' (Kd.R_new' ho0 (Kd.R_lt (uR HO266))) (Kd.R_lt (uR HO274))) (Kd.R_lt (uR HO281))) (below_size (uL HB)))
                 replace HO266 := aM (Kd.R_elder' (uR HO266) (Kd.R_base ho0) hb)
                 replace HO274 := aM (Kd.R_elder' (uR HO274) (Kd.R_base ho0) hb)
                 replace HO281 := aM (Kd.R_elder' (uR HO281) (Kd.R_base ho0) hb)
                 replace BK258 := blkB BK258 hb
                 replace BK259 := blkB BK259 hb
                 replace BK276 := blkB BK276 hb
                 replace BK282 := blkB BK282 hb
                 replace BK292 := blkB BK292 hb
                 replace HB := aM (below_step (uL HB) hb)
                 (try clear hb)
                 (try clear hb2)
                 (try clear hk)
                 (try clear hi)
                 (try clear ho0)
                 refine hK.out _ _ ⟨(blk_cell BK282.out 0).trans rfl, (blk_cell BK282.out 1).trans rfl, (blk_cell BK282.out 2).trans rfl, (blk_cell BK259.out 0).trans rfl, (blk_cell BK259.out 1).trans rfl, (blk_cell BK259.out 2).trans rfl⟩ (fun hHeld => ?_)
                 clear hK K
                 refine nX 44 ?_; refine pA HT_.out 5 39 11 319 ?_; refine pA HT_.out 6 45 11 383 ?_; refine pA HT_.out 7 46 11 511 ?_
                 exact norm_ (by simp only [putAll, Act.put, List.setIfInBounds_toArray, List.set_cons_zero, List.set_cons_succ]) (hCont (v289, gb292) _ ⟨hHeld, (by (with_reducible repeat first | apply rA | apply rN | apply rD); exact Kd.R_mono HO266.out (fun _ hk => ⟨hk.1.1, ⟨hk.1.2, hk.2⟩⟩)), (by (with_reducible repeat first | apply rA | apply rN | apply rD); exact Kd.R_mono HO274.out (fun _ hk => ⟨hk.1.1, ⟨hk.1.2, hk.2⟩⟩)), (by (with_reducible repeat first | apply rA | apply rN | apply rD); exact Kd.R_mono HO281.out (fun _ hk => ⟨hk.1.1, ⟨hk.1.2, hk.2⟩⟩)), (by (with_reducible repeat first | apply rA | apply rN | apply rD); exact Kd.R_mono HO290.out (fun _ hk => ⟨hk.1.1.2, ⟨hk.1.2, hk.2⟩⟩)), (uB BK258), (uB BK259), (uB BK276), (uB BK282), (uB BK292), GW292.out, GE292.out, NB258_292.out, NB292_258.out, NB259_292.out, NB292_259.out, NB276_292.out, NB292_276.out, NB282_292.out, NB292_282.out, (uL HB)⟩)
               ·skip
                refine bxS 11 #[.int .i64 0, .int .i64 0, .slice none 0 0] 30 ?_
                intro gb292 hg w78 hbox hb
                have n0_ := aM (Kd.R_below (uR HO266) hb); have n1_ := aM (Kd.R_below (uR HO274) hb); have n2_ := aM (Kd.R_below (uR HO281) hb); have n3_ := blkB BK258 hb; have n4_ := blkB BK259 hb; have n5_ := blkB BK276 hb; have n6_ := blkB BK282 hb
                have n7_ := aM (below_step (uL HB) hb)
                have n8_ := aM (hbox)
                have n9_ := szG hg (uL HB); have n10_ := szG hg (uL HB); have n11_ := neL hg BK258; have n12_ := neG hg BK258; have n13_ := neL hg BK259; have n14_ := neG hg BK259; have n15_ := neL hg BK276; have n16_ := neG hg BK276; have n17_ := neL hg BK282; have n18_ := neG hg BK282; clear HO266 HO274 HO281 BK258 BK259 BK276 BK282 HB; have HO266 := n0_; have HO274 := n1_; have HO281 := n2_; have BK258 := n3_; have BK259 := n4_; have BK276 := n5_; have BK282 := n6_; have HB := n7_; have BK292 := n8_; have GW292 := n9_; have GE292 := n10_; have NB258_292 := n11_; have NB292_258 := n12_; have NB259_292 := n13_; have NB292_259 := n14_; have NB276_292 := n15_; have NB292_276 := n16_; have NB282_292 := n17_; have NB292_282 := n18_; clear n0_ n1_ n2_ n3_ n4_ n5_ n6_ n7_ n8_ n9_ n10_ n11_ n12_ n13_ n14_ n15_ n16_ n17_ n18_ hb hbox hg
                refine hK.out _ _ ⟨(blk_cell BK282.out 0).trans rfl, (blk_cell BK282.out 1).trans rfl, (blk_cell BK282.out 2).trans rfl, (blk_cell BK259.out 0).trans rfl, (blk_cell BK259.out 1).trans rfl, (blk_cell BK259.out 2).trans rfl⟩ (fun hHeld => ?_)
                clear hK K
                refine nX 11 ?_
                refine oA HT_.out 3 (some 43) 11 271 (fun K hK => ?_)
                refine gX Try.func22 #[.agg #[.int .i64 a2_0, .int .i64 a2_1, .string a2_2]] ?_
                with_reducible refine (laws_toEntry.calls a2_0 a2_1 a2_2 t283 t284 t285 _ A24.out).mono ?_
                rintro e w79 ⟨rfl, hb⟩
                refine ⟨_, rfl, ?_⟩
                replace HO266 := aM (Kd.R_below (uR HO266) hb)
                replace HO274 := aM (Kd.R_below (uR HO274) hb)
                replace HO281 := aM (Kd.R_below (uR HO281) hb)
                replace BK258 := blkB BK258 hb
                replace BK259 := blkB BK259 hb
                replace BK276 := blkB BK276 hb
                replace BK282 := blkB BK282 hb
                replace BK292 := blkB BK292 hb
                replace HB := aM (below_step (uL HB) hb)
                (try clear hb)
                (try clear hb2)
                (try clear hk)
                (try clear hi)
                refine hK.out _ _ ⟨(blk_cell BK282.out 0).trans rfl, (blk_cell BK282.out 1).trans rfl, (blk_cell BK282.out 2).trans rfl, (blk_cell BK259.out 0).trans rfl, (blk_cell BK259.out 1).trans rfl, (blk_cell BK259.out 2).trans rfl⟩ (fun hHeld => ?_)
                clear hK K
                refine nX 43 ?_
                refine oA HT_.out 4 (some 44) 11 287 (fun K hK => ?_)
                refine gX Try.func29 #[.agg #[.int .i64 t277, .int .i64 t278, .slice Ao75 t279.length co75], .int .i64 a1, .agg #[.int .i64 t283, .int .i64 t284, .string t285]] ?_
                with_reducible refine (impl_LogPut.calls k t277 t278 _ _ t279 a1 t283 t284 t285 t286 t287 t288 t291 _ ?side1 ?side2 A25.out).mono ?_
                (case side1 => repeat (first | exact (Kd.R_reads' HO281.out).2.2 | (with_reducible refine cA ?_ _) | (with_reducible refine cN ?_ _) | (with_reducible refine cD ?_)))
                (case side2 => exact (Kd.R_reads' HO281.out).2.1)
                rintro e w80 ⟨v289, rfl, ho0, hb⟩
                refine ⟨_, rfl, ?_⟩
                have HO290 := aM (Kd.R_lower (Kd.R_new' (Kd.R_new' (Kd.R_new' ho0 (Kd.R_lt (uR HO266))) (Kd.R_lt (uR HO274))) (Kd.R_lt (uR HO281))) (below_size (uL HB)))
                replace HO266 := aM (Kd.R_elder' (uR HO266) (Kd.R_base ho0) hb)
                replace HO274 := aM (Kd.R_elder' (uR HO274) (Kd.R_base ho0) hb)
                replace HO281 := aM (Kd.R_elder' (uR HO281) (Kd.R_base ho0) hb)
                replace BK258 := blkB BK258 hb
                replace BK259 := blkB BK259 hb
                replace BK276 := blkB BK276 hb
                replace BK282 := blkB BK282 hb
                replace BK292 := blkB BK292 hb
                replace HB := aM (below_step (uL HB) hb)
                (try clear hb)
                (try clear hb2)
                (try clear hk)
                (try clear hi)
                (try clear ho0)
                refine hK.out _ _ ⟨(blk_cell BK282.out 0).trans rfl, (blk_cell BK282.out 1).trans rfl, (blk_cell BK282.out 2).trans rfl, (blk_cell BK259.out 0).trans rfl, (blk_cell BK259.out 1).trans rfl, (blk_cell BK259.out 2).trans rfl⟩ (fun hHeld => ?_)
                clear hK K
                refine nX 44 ?_; refine pA HT_.out 5 39 11 319 ?_; refine pA HT_.out 6 45 11 383 ?_; refine pA HT_.out 7 46 11 511 ?_
                exact norm_ (by simp only [putAll, Act.put, List.setIfInBounds_toArray, List.set_cons_zero, List.set_cons_succ]) (hCont (v289, gb292) _ ⟨hHeld, (by (with_reducible repeat first | apply rA | apply rN | apply rD); exact Kd.R_mono HO266.out (fun _ hk => ⟨hk.1.1, ⟨hk.1.2, hk.2⟩⟩)), (by (with_reducible repeat first | apply rA | apply rN | apply rD); exact Kd.R_mono HO274.out (fun _ hk => ⟨hk.1.1, ⟨hk.1.2, hk.2⟩⟩)), (by (with_reducible repeat first | apply rA | apply rN | apply rD); exact Kd.R_mono HO281.out (fun _ hk => ⟨hk.1.1, ⟨hk.1.2, hk.2⟩⟩)), (by (with_reducible repeat first | apply rA | apply rN | apply rD); exact Kd.R_mono HO290.out (fun _ hk => ⟨hk.1.1.2, ⟨hk.1.2, hk.2⟩⟩)), (uB BK258), (uB BK259), (uB BK276), (uB BK282), (uB BK292), GW292.out, GE292.out, NB258_292.out, NB292_258.out, NB259_292.out, NB292_259.out, NB276_292.out, NB292_276.out, NB282_292.out, NB292_282.out, (uL HB)⟩)
              rintro ⟨v289, gb292⟩ w81 ⟨hS_, h0_, h1_, h2_, h3_, h4_, h5_, h6_, h7_, h8_, h9_, h10_, h11_, h12_, h13_, h14_, h15_, h16_, h17_, h18_, h19_⟩
              have n0_ : Aside0 (Kd.R k40 40 w81 w.heap.size (fun k_ => some k_ ≠ (.slice Ao65 t272.length co65 : Value).ownBlock ∧ some k_ ≠ (.slice Ao75 t279.length co75 : Value).ownBlock ∧ some k_ ≠ (v289 : Value).ownBlock) v265 t264) := ⟨h0_⟩
              have n1_ : Aside0 (Kd.R k40 40 w81 w.heap.size (fun k_ => some k_ ≠ (v265 : Value).ownBlock ∧ some k_ ≠ (.slice Ao75 t279.length co75 : Value).ownBlock ∧ some k_ ≠ (v289 : Value).ownBlock) (.slice Ao65 t272.length co65) t272) := ⟨h1_⟩
              have n2_ : Aside0 (Kd.R k40 40 w81 w.heap.size (fun k_ => some k_ ≠ (v265 : Value).ownBlock ∧ some k_ ≠ (.slice Ao65 t272.length co65 : Value).ownBlock ∧ some k_ ≠ (v289 : Value).ownBlock) (.slice Ao75 t279.length co75) t279) := ⟨h2_⟩
              have n3_ : Aside0 (Kd.R k40 40 w81 w.heap.size (fun k_ => some k_ ≠ (v265 : Value).ownBlock ∧ some k_ ≠ (.slice Ao65 t272.length co65 : Value).ownBlock ∧ some k_ ≠ (.slice Ao75 t279.length co75 : Value).ownBlock) v289 t288) := ⟨h3_⟩
              have n4_ : Aside0 (w81.heap[gb258]? = some (.cells #[.int .i64 a0_0, .int .i64 a0_1, .slice A0_2 l0_2.length c0_2] 24 (0, 0))) := ⟨h4_⟩
              have n5_ : Aside0 (w81.heap[gb259]? = some (.cells #[.int .i64 a2_0, .int .i64 a2_1, .string a2_2] 37 (0, 0))) := ⟨h5_⟩
              have n6_ : Aside0 (w81.heap[gb276]? = some (.cells #[.int .i64 t270, .int .i64 t271, .slice Ao65 t272.length co65] 30 (0, 0))) := ⟨h6_⟩
              have n7_ : Aside0 (w81.heap[gb282]? = some (.cells #[.int .i64 t277, .int .i64 t278, .slice Ao75 t279.length co75] 30 (0, 0))) := ⟨h7_⟩
              have n8_ : Aside0 (w81.heap[gb292]? = some (.cells #[.int .i64 0, .int .i64 0, .slice none 0 0] 30 (0, 0))) := ⟨h8_⟩
              have n9_ : Aside0 (w.heap.size ≤ gb292) := ⟨h9_⟩
              have n10_ : Aside0 (w.heap.size ≤ gb292) := ⟨h10_⟩
              have n11_ : Aside0 (gb258 ≠ gb292) := ⟨h11_⟩
              have n12_ : Aside0 (gb292 ≠ gb258) := ⟨h12_⟩
              have n13_ : Aside0 (gb259 ≠ gb292) := ⟨h13_⟩
              have n14_ : Aside0 (gb292 ≠ gb259) := ⟨h14_⟩
              have n15_ : Aside0 (gb276 ≠ gb292) := ⟨h15_⟩
              have n16_ : Aside0 (gb292 ≠ gb276) := ⟨h16_⟩
              have n17_ : Aside0 (gb282 ≠ gb292) := ⟨h17_⟩
              have n18_ : Aside0 (gb292 ≠ gb282) := ⟨h18_⟩
              have n19_ : Aside0 (Below w.heap.size w w81) := ⟨h19_⟩
              clear HO266 HO274 HO281 BK258 BK259 BK276 BK282 HB h0_ h1_ h2_ h3_ h4_ h5_ h6_ h7_ h8_ h9_ h10_ h11_ h12_ h13_ h14_ h15_ h16_ h17_ h18_ h19_; have HO266 := n0_; have HO274 := n1_; have HO281 := n2_; have HO290 := n3_; have BK258 := n4_; have BK259 := n5_; have BK276 := n6_; have BK282 := n7_; have BK292 := n8_; have GW292 := n9_; have GE292 := n10_; have NB258_292 := n11_; have NB292_258 := n12_; have NB259_292 := n13_; have NB292_259 := n14_; have NB276_292 := n15_; have NB292_276 := n16_; have NB282_292 := n17_; have NB292_282 := n18_; have HB := n19_; clear n0_ n1_ n2_ n3_ n4_ n5_ n6_ n7_ n8_ n9_ n10_ n11_ n12_ n13_ n14_ n15_ n16_ n17_ n18_ n19_
              have hHeld : w81.cell? ⟨gb282, 0, none⟩ = some (.int .i64 t277) ∧ w81.cell? ⟨gb282, 1, none⟩ = some (.int .i64 t278) ∧ w81.cell? ⟨gb282, 2, none⟩ = some (.slice Ao75 t279.length co75) ∧ w81.cell? ⟨gb259, 0, none⟩ = some (.int .i64 a2_0) ∧ w81.cell? ⟨gb259, 1, none⟩ = some (.int .i64 a2_1) ∧ w81.cell? ⟨gb259, 2, none⟩ = some (.string a2_2) := hS_
              obtain ⟨Ao84, co84, eo84⟩ := Kd.R_slice HO290.out
              (first | subst eo84 | (injection eo84 with f1_ f2_ f3_; have f4_ := f1_.symm; have f5_ := f3_.symm; clear f1_ f2_ f3_; subst f4_; subst f5_))
              refine norm_ (a' := ?_) ?_ ?_
              rotate_left
              ·simp only [putAll, Act.put, List.setIfInBounds_toArray, List.set_cons_zero, List.set_cons_succ]
               rfl
              refine oA HT_.out 9 none 11 1023 (fun K hK => ?_)
              have hs82 := czA BK292.out 0 (.int .i64 0)
              have hfs82 := blk_frozen BK292.out 0; have hns82_0 := NB258_292.out; have hns82_1 := NB259_292.out; have hns82_2 := NB276_292.out; have hns82_3 := NB282_292.out; have hms82_0 := NB292_258.out; have hms82_1 := NB292_259.out; have hms82_2 := NB292_276.out; have hms82_3 := NB292_282.out
              have hs83 := czA BK292.out 1 (.int .i64 0)
              have hfs83 := blk_frozen BK292.out 1; have hns83_0 := NB258_292.out; have hns83_1 := NB259_292.out; have hns83_2 := NB276_292.out; have hns83_3 := NB282_292.out; have hms83_0 := NB292_258.out; have hms83_1 := NB292_259.out; have hms83_2 := NB292_276.out; have hms83_3 := NB292_282.out
              have hs85 := czA BK292.out 2 (.slice none 0 0)
              have hfs85 := blk_frozen BK292.out 2; have hns85_0 := NB258_292.out; have hns85_1 := NB259_292.out; have hns85_2 := NB276_292.out; have hns85_3 := NB282_292.out; have hms85_0 := NB292_258.out; have hms85_1 := NB292_259.out; have hms85_2 := NB292_276.out; have hms85_3 := NB292_282.out
              refine skip_ (w1 := ?_) (by rfl) rfl ?_ ?_
              rotate_left
              ·go_simp
               rfl
              refine hK.out _ _ ⟨((cell_far (p := ⟨gb292, _, none⟩) NB282_292.out _).trans (((cell_far (p := ⟨gb292, _, none⟩) NB282_292.out _).trans (((cell_far (p := ⟨gb292, _, none⟩) NB282_292.out _).trans (hHeld.1)))))), ((cell_far (p := ⟨gb292, _, none⟩) NB282_292.out _).trans (((cell_far (p := ⟨gb292, _, none⟩) NB282_292.out _).trans (((cell_far (p := ⟨gb292, _, none⟩) NB282_292.out _).trans (hHeld.2.1)))))), ((cell_far (p := ⟨gb292, _, none⟩) NB282_292.out _).trans (((cell_far (p := ⟨gb292, _, none⟩) NB282_292.out _).trans (((cell_far (p := ⟨gb292, _, none⟩) NB282_292.out _).trans (hHeld.2.2.1)))))), ((cell_far (p := ⟨gb292, _, none⟩) NB259_292.out _).trans (((cell_far (p := ⟨gb292, _, none⟩) NB259_292.out _).trans (((cell_far (p := ⟨gb292, _, none⟩) NB259_292.out _).trans (hHeld.2.2.2.1)))))), ((cell_far (p := ⟨gb292, _, none⟩) NB259_292.out _).trans (((cell_far (p := ⟨gb292, _, none⟩) NB259_292.out _).trans (((cell_far (p := ⟨gb292, _, none⟩) NB259_292.out _).trans (hHeld.2.2.2.2.1)))))), ((cell_far (p := ⟨gb292, _, none⟩) NB259_292.out _).trans (((cell_far (p := ⟨gb292, _, none⟩) NB259_292.out _).trans (((cell_far (p := ⟨gb292, _, none⟩) NB259_292.out _).trans (hHeld.2.2.2.2.2))))))⟩ (fun hHeld => ?_)
              clear hK K
              refine pA HT_.out 10 12 11 2047 ?_
              refine done_ (done_of HT_.out (by kernel_rfl)) ?_
              have hnb86 := NB292_258.out; have hnc86 := NB258_292.out; have hnb87 := NB292_259.out; have hnc87 := NB259_292.out; have hnb88 := NB292_276.out; have hnc88 := NB276_292.out; have hnb89 := NB292_282.out; have hnc89 := NB282_292.out
              have hcz90_0 := czA BK292.out 0 (.int .i64 0)
              have hcz90_1 := czA BK292.out 1 (.int .i64 0)
              have hcz90_2 := czA BK292.out 2 (.slice none 0 0)
              have hfz90_0 := blk_frozen BK292.out 0; have hfz90_1 := blk_frozen BK292.out 1; have hfz90_2 := blk_frozen BK292.out 2; have hnb91 := NB276_259.out; have hnc91 := NB259_276.out
              have hcz92_0 := czA BK276.out 0 (.int .i64 t270)
              have hcz92_1 := czA BK276.out 1 (.int .i64 t271)
              have hcz92_2 := czA BK276.out 2 (.slice Ao65 t272.length co65)
              have hfz92_0 := blk_frozen BK276.out 0; have hfz92_1 := blk_frozen BK276.out 1; have hfz92_2 := blk_frozen BK276.out 2
              try go_wp2_with (first | ((with_reducible refine gate_callee (f := 17) rfl ?_); refine gL (some 49) Try.func17 #[.agg #[.int .i64 t286, .int .i64 t287, .slice Ao84 t288.length co84], .agg #[.int .i64 t270, .int .i64 t271, .slice Ao65 t272.length co65]] ?_; (with_reducible refine (laws_eqLog.calls k t286 t287 _ _ t288 t270 t271 _ _ t272 true _ ?side1 ?side2 ?side3 ?side4 A26.out).mono ?_); (case side1 => refine (Kd.R_reads' (e := 40) (base := w.heap.size) (ok := fun k_ => (some k_ ≠ (v265 : Value).ownBlock ∧ (some k_ ≠ (.slice Ao65 t272.length co65 : Value).ownBlock ∧ some k_ ≠ (.slice Ao75 t279.length co75 : Value).ownBlock))) (n := t288.length) (c := co84) ?_).2.2; exact (by (with_reducible repeat first | apply rA | apply rN | apply rD); exact (Kd.R_mono (Kd.R_far (p := ⟨gb292, 2, none⟩) (Kd.R_far (p := ⟨gb292, 1, none⟩) (Kd.R_far (p := ⟨gb292, 0, none⟩) (Kd.R_types HO290.out BK292.out (by decide)) (fun _ hk => hk.2) (.int .i64 t286)) (fun _ hk => hk.2) (.int .i64 t287)) (fun _ hk => hk.2) (.slice Ao84 t288.length co84)) (fun _ h_ => h_.1)))); (case side2 => exact (Kd.R_reads' HO290.out).2.1); (case side3 => refine (Kd.R_reads' (e := 40) (base := w.heap.size) (ok := fun k_ => (some k_ ≠ (v265 : Value).ownBlock ∧ (some k_ ≠ (.slice Ao75 t279.length co75 : Value).ownBlock ∧ some k_ ≠ (.slice Ao84 t288.length co84 : Value).ownBlock))) (n := t272.length) (c := co65) ?_).2.2; exact (by (with_reducible repeat first | apply rA | apply rN | apply rD); exact (Kd.R_mono (Kd.R_far (p := ⟨gb292, 2, none⟩) (Kd.R_far (p := ⟨gb292, 1, none⟩) (Kd.R_far (p := ⟨gb292, 0, none⟩) (Kd.R_types HO274.out BK292.out (by decide)) (fun _ hk => hk.2) (.int .i64 t286)) (fun _ hk => hk.2) (.int .i64 t287)) (fun _ hk => hk.2) (.slice Ao84 t288.length co84)) (fun _ h_ => h_.1)))); (case side4 => exact (Kd.R_reads' HO274.out).2.1); rintro e w93 ⟨rfl, hb⟩; refine ⟨_, rfl, ?_⟩; replace HO266 := aM (Kd.R_below (by (with_reducible repeat first | apply rA | apply rN | apply rD); exact (Kd.R_mono (Kd.R_far (p := ⟨gb292, 2, none⟩) (Kd.R_far (p := ⟨gb292, 1, none⟩) (Kd.R_far (p := ⟨gb292, 0, none⟩) (Kd.R_types HO266.out BK292.out (by decide)) (fun _ hk => hk.2) (.int .i64 t286)) (fun _ hk => hk.2) (.int .i64 t287)) (fun _ hk => hk.2) (.slice Ao84 t288.length co84)) (fun _ h_ => h_.1))) hb); replace HO274 := aM (Kd.R_below (by (with_reducible repeat first | apply rA | apply rN | apply rD); exact (Kd.R_mono (Kd.R_far (p := ⟨gb292, 2, none⟩) (Kd.R_far (p := ⟨gb292, 1, none⟩) (Kd.R_far (p := ⟨gb292, 0, none⟩) (Kd.R_types HO274.out BK292.out (by decide)) (fun _ hk => hk.2) (.int .i64 t286)) (fun _ hk => hk.2) (.int .i64 t287)) (fun _ hk => hk.2) (.slice Ao84 t288.length co84)) (fun _ h_ => h_.1))) hb); replace HO281 := aM (Kd.R_below (by (with_reducible repeat first | apply rA | apply rN | apply rD); exact (Kd.R_mono (Kd.R_far (p := ⟨gb292, 2, none⟩) (Kd.R_far (p := ⟨gb292, 1, none⟩) (Kd.R_far (p := ⟨gb292, 0, none⟩) (Kd.R_types HO281.out BK292.out (by decide)) (fun _ hk => hk.2) (.int .i64 t286)) (fun _ hk => hk.2) (.int .i64 t287)) (fun _ hk => hk.2) (.slice Ao84 t288.length co84)) (fun _ h_ => h_.1))) hb); replace HO290 := aM (Kd.R_below (by (with_reducible repeat first | apply rA | apply rN | apply rD); exact (Kd.R_mono (Kd.R_far (p := ⟨gb292, 2, none⟩) (Kd.R_far (p := ⟨gb292, 1, none⟩) (Kd.R_far (p := ⟨gb292, 0, none⟩) (Kd.R_types HO290.out BK292.out (by decide)) (fun _ hk => hk.2) (.int .i64 t286)) (fun _ hk => hk.2) (.int .i64 t287)) (fun _ hk => hk.2) (.slice Ao84 t288.length co84)) (fun _ h_ => h_.1))) hb); replace BK258 := blkB BK258 hb; replace BK259 := blkB BK259 hb; replace BK276 := blkB BK276 hb; replace BK282 := blkB BK282 hb; replace BK292 := aM (blk_below (g := gb292) (o := .cells #[.int .i64 t286, .int .i64 t287, .slice Ao84 t288.length co84] 30 (0, 0)) (by refine nB ?_; refine blk_put (cs := #[.int .i64 t286, .int .i64 t287, .slice none 0 0]) ?_ 2 _ rfl; refine nB ?_; refine blk_put (cs := #[.int .i64 t286, .int .i64 0, .slice none 0 0]) ?_ 1 _ rfl; refine nB ?_; refine blk_put (cs := #[.int .i64 0, .int .i64 0, .slice none 0 0]) ?_ 0 _ rfl; exact nB BK292.out) hb); replace HB := aM (below_step (uL HB) hb); try clear hb))
              replace HO266 := aM (Kd.R_drew HO266.out)
              replace HO274 := aM (Kd.R_drew HO274.out)
              replace HO281 := aM (Kd.R_drew HO281.out)
              replace HO290 := aM (Kd.R_drew HO290.out)
              replace BK258 := aM (blk_drew BK258.out)
              replace BK259 := aM (blk_drew BK259.out)
              replace BK276 := aM (blk_drew BK276.out)
              replace BK282 := aM (blk_drew BK282.out)
              replace BK292 := aM (blk_drew BK292.out)
              replace HB := aM (below_drew1 HB.out)
              refine start_ (n := 5) (S := fun w' => w'.cell? ⟨gb282, 0, none⟩ = some (.int .i64 t277) ∧ w'.cell? ⟨gb282, 1, none⟩ = some (.int .i64 t278) ∧ w'.cell? ⟨gb282, 2, none⟩ = some (.slice Ao75 t279.length co75) ∧ w'.cell? ⟨gb258, 0, none⟩ = some (.int .i64 a0_0) ∧ w'.cell? ⟨gb258, 1, none⟩ = some (.int .i64 a0_1) ∧ w'.cell? ⟨gb258, 2, none⟩ = some (.slice A0_2 l0_2.length c0_2)) (ds := []) (bB 5 0) (by kernel_rfl) rfl rfl ⟨(blk_cell BK282.out 0).trans rfl, (blk_cell BK282.out 1).trans rfl, (blk_cell BK282.out 2).trans rfl, (blk_cell BK258.out 0).trans rfl, (blk_cell BK258.out 1).trans rfl, (blk_cell BK258.out 2).trans rfl⟩ (fun hHeld => ?_)
              generalize w93.drew = w94 at HO266 HO274 HO281 HO290 BK258 BK259 BK276 BK282 BK292 HB hHeld ⊢
              refine take_ (i := 0) (N := some 56) (v := ?_) (a' := ?_) (bB 5 1) rfl rfl (by kernel_rfl) (fun _ _ _ h => h) (Or.inl ⟨by rfl, ?_⟩) hHeld ?_ ?_
              rotate_left
              ·rintro w' ⟨s0, s1, s2, s3, s4, s5⟩
               go_simp
               with_reducible rfl
              rotate_left
              ·simp only [aP, aQ, sT, sZ, sU, i64_w, i32_w]
               rfl
              refine take_ (i := 1) (N := some 57) (v := ?_) (a' := ?_) (bB 5 3) rfl rfl (by kernel_rfl) (fun _ _ _ h => h) (Or.inl ⟨by rfl, ?_⟩) hHeld ?_ ?_
              rotate_left
              ·rintro w' ⟨s0, s1, s2, s3, s4, s5⟩
               go_simp
               with_reducible rfl
              rotate_left
              ·simp only [aP, aQ, sT, sZ, sU, i64_w, i32_w]
               rfl
              refine one_ (i := 2) (N := some 58) (bB 5 7) rfl rfl (by kernel_rfl) (by decide) (fun K hK => ?_)
              refine gX Try.func15 #[.agg #[.int .i64 a0_0, .int .i64 a0_1, .slice A0_2 l0_2.length c0_2]] ?_
              with_reducible refine (laws_toLog.calls k a0_0 a0_1 _ _ l0_2 t294 t295 t296 _ ?side1 ?side2 A29.out).mono ?_
              (case side1 => exact uC HR0_2 HB)
              (case side2 => exact HC0_2.out)
              rintro e w95 ⟨v297, rfl, ho0, hb⟩
              refine ⟨_, rfl, ?_⟩
              have HO298 := aM (Kd.R_lower (Kd.R_new' (Kd.R_new' (Kd.R_new' (Kd.R_new' ho0 (Kd.R_lt (uR HO266))) (Kd.R_lt (uR HO274))) (Kd.R_lt (uR HO281))) (Kd.R_lt (uR HO290))) (below_size (uL HB)))
              replace HO266 := aM (Kd.R_elder' (uR HO266) (Kd.R_base ho0) hb)
              replace HO274 := aM (Kd.R_elder' (uR HO274) (Kd.R_base ho0) hb)
              replace HO281 := aM (Kd.R_elder' (uR HO281) (Kd.R_base ho0) hb)
              replace HO290 := aM (Kd.R_elder' (uR HO290) (Kd.R_base ho0) hb)
              replace BK258 := blkB BK258 hb
              replace BK259 := blkB BK259 hb
              replace BK276 := blkB BK276 hb
              replace BK282 := blkB BK282 hb
              replace BK292 := blkB BK292 hb
              replace HB := aM (below_step (uL HB) hb)
              (try clear hb)
              (try clear hb2)
              (try clear hk)
              (try clear hi)
              (try clear ho0)
              obtain ⟨Ao96, co96, eo96⟩ := Kd.R_slice HO298.out
              (first | subst eo96 | (injection eo96 with f1_ f2_ f3_; have f4_ := f1_.symm; have f5_ := f3_.symm; clear f1_ f2_ f3_; subst f4_; subst f5_))
              refine hK.out _ _ ⟨(blk_cell BK282.out 0).trans rfl, (blk_cell BK282.out 1).trans rfl, (blk_cell BK282.out 2).trans rfl, (blk_cell BK258.out 0).trans rfl, (blk_cell BK258.out 1).trans rfl, (blk_cell BK258.out 2).trans rfl⟩ (fun hHeld => ?_)
              clear hK K
              refine nX 58 ?_
              refine one_ (i := 3) (N := some 59) (bB 5 15) rfl rfl (by kernel_rfl) (by decide) (fun K hK => ?_)
              refine gX Try.func17 #[.agg #[.int .i64 t277, .int .i64 t278, .slice Ao75 t279.length co75], .agg #[.int .i64 t294, .int .i64 t295, .slice Ao96 t296.length co96]] ?_
              with_reducible refine (laws_eqLog.calls k t277 t278 _ _ t279 t294 t295 _ _ t296 true _ ?side1 ?side2 ?side3 ?side4 A30.out).mono ?_
              (case side1 => repeat (first | exact (Kd.R_reads' HO281.out).2.2 | (with_reducible refine cA ?_ _) | (with_reducible refine cN ?_ _) | (with_reducible refine cD ?_)))
              (case side2 => exact (Kd.R_reads' HO281.out).2.1)
              (case side3 => repeat (first | exact (Kd.R_reads' HO298.out).2.2 | (with_reducible refine cA ?_ _) | (with_reducible refine cN ?_ _) | (with_reducible refine cD ?_)))
              (case side4 => exact (Kd.R_reads' HO298.out).2.1)
              rintro e w97 ⟨rfl, hb⟩
              refine ⟨_, rfl, ?_⟩
              replace HO266 := aM (Kd.R_below (uR HO266) hb)
              replace HO274 := aM (Kd.R_below (uR HO274) hb)
              replace HO281 := aM (Kd.R_below (uR HO281) hb)
              replace HO290 := aM (Kd.R_below (uR HO290) hb)
              replace HO298 := aM (Kd.R_below (uR HO298) hb)
              replace BK258 := blkB BK258 hb
              replace BK259 := blkB BK259 hb
              replace BK276 := blkB BK276 hb
              replace BK282 := blkB BK282 hb
              replace BK292 := blkB BK292 hb
              replace HB := aM (below_step (uL HB) hb)
              (try clear hb)
              (try clear hb2)
              (try clear hk)
              (try clear hi)
              refine hK.out _ _ ⟨(blk_cell BK282.out 0).trans rfl, (blk_cell BK282.out 1).trans rfl, (blk_cell BK282.out 2).trans rfl, (blk_cell BK258.out 0).trans rfl, (blk_cell BK258.out 1).trans rfl, (blk_cell BK258.out 2).trans rfl⟩ (fun hHeld => ?_)
              clear hK K
              refine nX 59 ?_
              refine pX 4 60 (bB 5 31) (by kernel_rfl) ?_
              refine done_ (by kernel_rfl) ?_
              have hcz98_0 := czA BK282.out 0 (.int .i64 t277)
              have hcz98_1 := czA BK282.out 1 (.int .i64 t278)
              have hcz98_2 := czA BK282.out 2 (.slice Ao75 t279.length co75)
              have hfz98_0 := blk_frozen BK282.out 0; have hfz98_1 := blk_frozen BK282.out 1; have hfz98_2 := blk_frozen BK282.out 2
              try go_wp2_with (first | ((with_reducible refine gate_callee (f := 30) rfl ?_); refine gL (some 63) Try.func30 #[.agg #[.int .i64 t277, .int .i64 t278, .slice Ao75 t279.length co75], .int .i64 1] ?_; (with_reducible refine (laws_markLog.calls k t277 t278 (fun k_ => some k_ = (.slice Ao75 t279.length co75 : Value).ownBlock) (.slice Ao75 t279.length co75) t279 1 t300 t301 w _ ?side1 ?side2 A32.out).mono ?_); (case side1 => repeat (first | (with_reducible first | exact HB.out | apply lA | apply lN | apply lD | refine lS ?_ GE258.out | refine lS ?_ GE259.out | refine lS ?_ GE276.out | refine lS ?_ GE282.out | refine lS ?_ GE292.out) | exact HB.out)); (case side2 => exact Kd.R_tight rfl HO281.out); rintro e w99 ⟨rfl, hy0, hb, hkp⟩; refine ⟨_, rfl, ?_⟩; replace BK258 := aM (blk_kept (uB BK258) hkp (fun hs_ => (fun e_ => (Kd.R_ne HO281.out BK258.out (by decide)) e_) hs_)); replace BK259 := aM (blk_kept (uB BK259) hkp (fun hs_ => (fun e_ => (Kd.R_ne HO281.out BK259.out (by decide)) e_) hs_)); replace HO266 := aM (Kd.R_mono (ok' := fun k_ => some k_ ≠ (.slice Ao65 t272.length co65 : Value).ownBlock ∧ some k_ ≠ (.slice Ao75 t279.length co75 : Value).ownBlock ∧ some k_ ≠ (.slice Ao84 t288.length co84 : Value).ownBlock ∧ some k_ ≠ (.slice Ao96 t296.length co96 : Value).ownBlock) (Kd.R_keptB (HO266.out) hkp (fun k_ hk_ hs_ => (hk_.1.2.1) hs_)) (fun k_ hk_ => ⟨hk_.1.1.1, hk_.1.1.2.1, hk_.1.1.2.2, hk_.1.2⟩)); replace HO274 := aM (Kd.R_mono (ok' := fun k_ => some k_ ≠ (v265 : Value).ownBlock ∧ some k_ ≠ (.slice Ao75 t279.length co75 : Value).ownBlock ∧ some k_ ≠ (.slice Ao84 t288.length co84 : Value).ownBlock ∧ some k_ ≠ (.slice Ao96 t296.length co96 : Value).ownBlock) (Kd.R_keptB (HO274.out) hkp (fun k_ hk_ hs_ => (hk_.1.2.1) hs_)) (fun k_ hk_ => ⟨hk_.1.1.1, hk_.1.1.2.1, hk_.1.1.2.2, hk_.1.2⟩)); replace BK276 := aM (blk_kept (uB BK276) hkp (fun hs_ => (fun e_ => (Kd.R_ne HO281.out BK276.out (by decide)) e_) hs_)); replace BK282 := aM (blk_kept (uB BK282) hkp (fun hs_ => (fun e_ => (Kd.R_ne HO281.out BK282.out (by decide)) e_) hs_)); replace HO290 := aM (Kd.R_mono (ok' := fun k_ => some k_ ≠ (v265 : Value).ownBlock ∧ some k_ ≠ (.slice Ao65 t272.length co65 : Value).ownBlock ∧ some k_ ≠ (.slice Ao75 t279.length co75 : Value).ownBlock ∧ some k_ ≠ (.slice Ao96 t296.length co96 : Value).ownBlock) (Kd.R_keptB (HO290.out) hkp (fun k_ hk_ hs_ => (hk_.1.2.2) hs_)) (fun k_ hk_ => ⟨hk_.1.1.1, hk_.1.1.2.1, hk_.1.1.2.2, hk_.1.2⟩)); replace BK292 := aM (blk_kept (uB BK292) hkp (fun hs_ => (fun e_ => (Kd.R_ne HO281.out BK292.out (by decide)) e_) hs_)); replace HO281 := aM (Kd.R_reok rfl hy0 (fun k_ e_ => HO281.out.1 k_ e_)); replace HO298 := aM (Kd.R_mono (ok' := fun k_ => some k_ ≠ (v265 : Value).ownBlock ∧ some k_ ≠ (.slice Ao65 t272.length co65 : Value).ownBlock ∧ some k_ ≠ (.slice Ao75 t279.length co75 : Value).ownBlock ∧ some k_ ≠ (.slice Ao84 t288.length co84 : Value).ownBlock) (Kd.R_keptB (HO298.out) hkp (fun k_ hk_ hs_ => (hk_.1.2) hs_)) (fun k_ hk_ => ⟨hk_.1.1.1.1.2, hk_.1.1.1.2, hk_.1.1.2, hk_.1.2⟩)); replace HB := aM (hb); try clear hb; (try clear hkp); (try clear hy0); have hcz100_0 := czA BK292.out 0 (.int .i64 t286); have hcz100_1 := czA BK292.out 1 (.int .i64 t287); have hcz100_2 := czA BK292.out 2 (.slice Ao84 t288.length co84); have hfz100_0 := blk_frozen BK292.out 0; have hfz100_1 := blk_frozen BK292.out 1; have hfz100_2 := blk_frozen BK292.out 2; have hcz101_0 := czA BK276.out 0 (.int .i64 t270); have hcz101_1 := czA BK276.out 1 (.int .i64 t271); have hcz101_2 := czA BK276.out 2 (.slice Ao65 t272.length co65); have hfz101_0 := blk_frozen BK276.out 0; have hfz101_1 := blk_frozen BK276.out 1; have hfz101_2 := blk_frozen BK276.out 2) | (go_at_call 17; (with_reducible refine (laws_eqLog.calls k t286 t287 _ _ t288 t270 t271 _ _ t272 true _ ?side1 ?side2 ?side3 ?side4 A34.out).mono ?_); (case side1 => repeat (first | exact (Kd.R_reads' HO290.out).2.2 | (with_reducible refine cA ?_ _) | (with_reducible refine cN ?_ _) | (with_reducible refine cD ?_))); (case side2 => exact (Kd.R_reads' HO290.out).2.1); (case side3 => repeat (first | exact (Kd.R_reads' HO274.out).2.2 | (with_reducible refine cA ?_ _) | (with_reducible refine cN ?_ _) | (with_reducible refine cD ?_))); (case side4 => exact (Kd.R_reads' HO274.out).2.1); rintro e w102 ⟨rfl, hb⟩; replace HO266 := aM (Kd.R_below (uR HO266) hb); replace HO274 := aM (Kd.R_below (uR HO274) hb); replace HO281 := aM (Kd.R_below (uR HO281) hb); replace HO290 := aM (Kd.R_below (uR HO290) hb); replace HO298 := aM (Kd.R_below (uR HO298) hb); replace BK258 := blkB BK258 hb; replace BK259 := blkB BK259 hb; replace BK276 := blkB BK276 hb; replace BK282 := blkB BK282 hb; replace BK292 := blkB BK292 hb; replace HB := aM (below_step (uL HB) hb); try clear hb; have hcz103_0 := czA BK292.out 0 (.int .i64 t286); have hcz103_1 := czA BK292.out 1 (.int .i64 t287); have hcz103_2 := czA BK292.out 2 (.slice Ao84 t288.length co84); have hfz103_0 := blk_frozen BK292.out 0; have hfz103_1 := blk_frozen BK292.out 1; have hfz103_2 := blk_frozen BK292.out 2) | ((with_reducible refine gate_callee (f := 30) rfl ?_); refine gL (some 79) Try.func30 #[.agg #[.int .i64 t286, .int .i64 t287, .slice Ao84 t288.length co84], .int .i64 1] ?_; (with_reducible refine (laws_markLog.calls k t286 t287 (fun k_ => some k_ = (.slice Ao84 t288.length co84 : Value).ownBlock) (.slice Ao84 t288.length co84) t288 1 t303 t304 w _ ?side1 ?side2 A36.out).mono ?_); (case side1 => repeat (first | (with_reducible first | exact HB.out | apply lA | apply lN | apply lD | refine lS ?_ GE258.out | refine lS ?_ GE259.out | refine lS ?_ GE276.out | refine lS ?_ GE282.out | refine lS ?_ GE292.out) | exact HB.out)); (case side2 => exact Kd.R_tight rfl HO290.out); rintro e w104 ⟨rfl, hy0, hb, hkp⟩; refine ⟨_, rfl, ?_⟩; replace BK258 := aM (blk_kept (uB BK258) hkp (fun hs_ => (fun e_ => (Kd.R_ne HO290.out BK258.out (by decide)) e_) hs_)); replace BK259 := aM (blk_kept (uB BK259) hkp (fun hs_ => (fun e_ => (Kd.R_ne HO290.out BK259.out (by decide)) e_) hs_)); replace HO266 := aM (Kd.R_mono (ok' := fun k_ => some k_ ≠ (.slice Ao65 t272.length co65 : Value).ownBlock ∧ some k_ ≠ (.slice Ao75 t279.length co75 : Value).ownBlock ∧ some k_ ≠ (.slice Ao84 t288.length co84 : Value).ownBlock ∧ some k_ ≠ (.slice Ao96 t296.length co96 : Value).ownBlock) (Kd.R_keptB (HO266.out) hkp (fun k_ hk_ hs_ => (hk_.2.2.1) hs_)) (fun k_ hk_ => ⟨hk_.1.1, hk_.1.2.1, hk_.1.2.2.1, hk_.1.2.2.2⟩)); replace HO274 := aM (Kd.R_mono (ok' := fun k_ => some k_ ≠ (v265 : Value).ownBlock ∧ some k_ ≠ (.slice Ao75 t279.length co75 : Value).ownBlock ∧ some k_ ≠ (.slice Ao84 t288.length co84 : Value).ownBlock ∧ some k_ ≠ (.slice Ao96 t296.length co96 : Value).ownBlock) (Kd.R_keptB (HO274.out) hkp (fun k_ hk_ hs_ => (hk_.2.2.1) hs_)) (fun k_ hk_ => ⟨hk_.1.1, hk_.1.2.1, hk_.1.2.2.1, hk_.1.2.2.2⟩)); replace BK276 := aM (blk_kept (uB BK276) hkp (fun hs_ => (fun e_ => (Kd.R_ne HO290.out BK276.out (by decide)) e_) hs_)); replace HO281 := aM (Kd.R_mono (ok' := fun k_ => some k_ ≠ (v265 : Value).ownBlock ∧ some k_ ≠ (.slice Ao65 t272.length co65 : Value).ownBlock ∧ some k_ ≠ (.slice Ao84 t288.length co84 : Value).ownBlock ∧ some k_ ≠ (.slice Ao96 t296.length co96 : Value).ownBlock) (Kd.R_keptB (HO281.out) hkp (fun k_ hk_ hs_ => (hk_.1.2.2) hs_)) (fun k_ hk_ => ⟨hk_.1.1.1, hk_.1.1.2.1, hk_.1.1.2.2, hk_.1.2⟩)); replace BK282 := aM (blk_kept (uB BK282) hkp (fun hs_ => (fun e_ => (Kd.R_ne HO290.out BK282.out (by decide)) e_) hs_)); replace BK292 := aM (blk_kept (uB BK292) hkp (fun hs_ => (fun e_ => (Kd.R_ne HO290.out BK292.out (by decide)) e_) hs_)); replace HO290 := aM (Kd.R_reok rfl hy0 (fun k_ e_ => HO290.out.1 k_ e_)); replace HO298 := aM (Kd.R_mono (ok' := fun k_ => some k_ ≠ (v265 : Value).ownBlock ∧ some k_ ≠ (.slice Ao65 t272.length co65 : Value).ownBlock ∧ some k_ ≠ (.slice Ao75 t279.length co75 : Value).ownBlock ∧ some k_ ≠ (.slice Ao84 t288.length co84 : Value).ownBlock) (Kd.R_keptB (HO298.out) hkp (fun k_ hk_ hs_ => (hk_.2.2.2) hs_)) (fun k_ hk_ => ⟨hk_.1.1, hk_.1.2.1, hk_.1.2.2.1, hk_.1.2.2.2⟩)); replace HB := aM (hb); try clear hb; (try clear hkp); (try clear hy0); have hcz105_0 := czA BK292.out 0 (.int .i64 t286); have hcz105_1 := czA BK292.out 1 (.int .i64 t287); have hcz105_2 := czA BK292.out 2 (.slice Ao84 t288.length co84); have hfz105_0 := blk_frozen BK292.out 0; have hfz105_1 := blk_frozen BK292.out 1; have hfz105_2 := blk_frozen BK292.out 2) | ((with_reducible refine gate_callee (f := 31) rfl ?_); refine goesL_ (some 82) rfl rfl Try.func31 (by kernel_rfl) rfl #[.agg #[.int .i64 t286, .int .i64 t287, .slice Ao84 t304.length co84], .int .i64 1] rfl (by (try simp only [List.map_toArray, List.map_cons, List.map_nil]); first | done | (rw [show t304.length = t288.length from (Kd.R_reads' HO290.out).1.symm] <;> rfl) | rfl | (simp only [List.length_drop, List.length_take]; rfl)) ?_; (with_reducible refine (laws_heldLog.calls k t286 t287 _ _ t304 1 t305 _ ?side1 ?side2 A37.out).mono ?_); (case side1 => repeat (first | exact (Kd.R_reads' HO290.out).2.2 | (with_reducible refine cA ?_ _) | (with_reducible refine cN ?_ _) | (with_reducible refine cD ?_))); (case side2 => rw [show t304.length = t288.length from (Kd.R_reads' HO290.out).1.symm]; exact (Kd.R_reads' HO290.out).2.1); rintro e w106 ⟨rfl, hb⟩; refine ⟨_, rfl, ?_⟩; replace HO266 := aM (Kd.R_below (uR HO266) hb); replace HO274 := aM (Kd.R_below (uR HO274) hb); replace HO281 := aM (Kd.R_below (uR HO281) hb); replace HO290 := aM (Kd.R_below (uR HO290) hb); replace HO298 := aM (Kd.R_below (uR HO298) hb); replace BK258 := blkB BK258 hb; replace BK259 := blkB BK259 hb; replace BK276 := blkB BK276 hb; replace BK282 := blkB BK282 hb; replace BK292 := blkB BK292 hb; replace HB := aM (below_step (uL HB) hb); try clear hb))
              replace HO266 := aM (Kd.R_drew HO266.out)
              replace HO274 := aM (Kd.R_drew HO274.out)
              replace HO281 := aM (Kd.R_drew HO281.out)
              replace HO290 := aM (Kd.R_drew HO290.out)
              replace HO298 := aM (Kd.R_drew HO298.out)
              replace BK258 := aM (blk_drew BK258.out)
              replace BK259 := aM (blk_drew BK259.out)
              replace BK276 := aM (blk_drew BK276.out)
              replace BK282 := aM (blk_drew BK282.out)
              replace BK292 := aM (blk_drew BK292.out)
              replace HB := aM (below_drew1 HB.out)
              refine start_ (n := 12) (S := fun w' => w'.cell? ⟨gb258, 0, none⟩ = some (.int .i64 a0_0) ∧ w'.cell? ⟨gb258, 1, none⟩ = some (.int .i64 a0_1) ∧ w'.cell? ⟨gb258, 2, none⟩ = some (.slice A0_2 l0_2.length c0_2) ∧ w'.cell? ⟨gb259, 0, none⟩ = some (.int .i64 a2_0) ∧ w'.cell? ⟨gb259, 1, none⟩ = some (.int .i64 a2_1) ∧ w'.cell? ⟨gb259, 2, none⟩ = some (.string a2_2)) (ds := []) (bB 12 0) (by kernel_rfl) rfl rfl ⟨(blk_cell BK258.out 0).trans rfl, (blk_cell BK258.out 1).trans rfl, (blk_cell BK258.out 2).trans rfl, (blk_cell BK259.out 0).trans rfl, (blk_cell BK259.out 1).trans rfl, (blk_cell BK259.out 2).trans rfl⟩ (fun hHeld => ?_); refine with_tabW laws_FnExactLogPut.tab27 laws_FnExactLogPut.bits27 (fun HT_ HW_ => ?_)
              generalize w106.drew = w107 at HO266 HO274 HO281 HO290 HO298 BK258 BK259 BK276 BK282 BK292 HB hHeld ⊢
              refine pA HT_.out 2 91 12 4 ?_; refine tA HT_.out HW_.out 0 89 12 5 hHeld ?_; refine tA HT_.out HW_.out 3 92 12 13 hHeld ?_
              refine join_ (σ := Value × Value × Nat) 2 #[true, true, true, true, true, true, true, true, true, true, false, false] (fun s_ => [(90, .agg #[.int .i64 t306, .int .i64 t307, s_.1]), (93, .agg #[.int .i64 t311, .int .i64 t312, .string t313]), (94, .tuple #[.agg #[.int .i64 t314, .int .i64 t315, s_.2.1], .bool t319]), (16, .pointer (some ⟨s_.2.2, 0, none⟩)), (88, .tuple #[.agg #[.int .i64 t314, .int .i64 t315, s_.2.1], .bool t319]), (95, .agg #[.int .i64 t314, .int .i64 t315, s_.2.1]), (96, .bool t319)]) (fun s_ w' => (w'.cell? ⟨gb258, 0, none⟩ = some (.int .i64 a0_0) ∧ w'.cell? ⟨gb258, 1, none⟩ = some (.int .i64 a0_1) ∧ w'.cell? ⟨gb258, 2, none⟩ = some (.slice A0_2 l0_2.length c0_2) ∧ w'.cell? ⟨gb259, 0, none⟩ = some (.int .i64 a2_0) ∧ w'.cell? ⟨gb259, 1, none⟩ = some (.int .i64 a2_1) ∧ w'.cell? ⟨gb259, 2, none⟩ = some (.string a2_2)) ∧ (Kd.R k40 40 w' w.heap.size (fun k_ => some k_ ≠ (.slice Ao65 t272.length co65 : Value).ownBlock ∧ some k_ ≠ (.slice Ao75 t279.length co75 : Value).ownBlock ∧ some k_ ≠ (.slice Ao84 t288.length co84 : Value).ownBlock ∧ some k_ ≠ (.slice Ao96 t296.length co96 : Value).ownBlock ∧ some k_ ≠ (s_.1 : Value).ownBlock ∧ some k_ ≠ (s_.2.1 : Value).ownBlock) v265 t264) ∧ (Kd.R k40 40 w' w.heap.size (fun k_ => some k_ ≠ (v265 : Value).ownBlock ∧ some k_ ≠ (.slice Ao75 t279.length co75 : Value).ownBlock ∧ some k_ ≠ (.slice Ao84 t288.length co84 : Value).ownBlock ∧ some k_ ≠ (.slice Ao96 t296.length co96 : Value).ownBlock ∧ some k_ ≠ (s_.1 : Value).ownBlock ∧ some k_ ≠ (s_.2.1 : Value).ownBlock) (.slice Ao65 t272.length co65) t272) ∧ (Kd.R k40 40 w' w.heap.size (fun k_ => some k_ ≠ (v265 : Value).ownBlock ∧ some k_ ≠ (.slice Ao65 t272.length co65 : Value).ownBlock ∧ some k_ ≠ (.slice Ao84 t288.length co84 : Value).ownBlock ∧ some k_ ≠ (.slice Ao96 t296.length co96 : Value).ownBlock ∧ some k_ ≠ (s_.1 : Value).ownBlock ∧ some k_ ≠ (s_.2.1 : Value).ownBlock) (.slice Ao75 t279.length co75) t301) ∧ (Kd.R k40 40 w' w.heap.size (fun k_ => some k_ ≠ (v265 : Value).ownBlock ∧ some k_ ≠ (.slice Ao65 t272.length co65 : Value).ownBlock ∧ some k_ ≠ (.slice Ao75 t279.length co75 : Value).ownBlock ∧ some k_ ≠ (.slice Ao96 t296.length co96 : Value).ownBlock ∧ some k_ ≠ (s_.1 : Value).ownBlock ∧ some k_ ≠ (s_.2.1 : Value).ownBlock) (.slice Ao84 t288.length co84) t304) ∧ (Kd.R k40 40 w' w.heap.size (fun k_ => some k_ ≠ (v265 : Value).ownBlock ∧ some k_ ≠ (.slice Ao65 t272.length co65 : Value).ownBlock ∧ some k_ ≠ (.slice Ao75 t279.length co75 : Value).ownBlock ∧ some k_ ≠ (.slice Ao84 t288.length co84 : Value).ownBlock ∧ some k_ ≠ (s_.1 : Value).ownBlock ∧ some k_ ≠ (s_.2.1 : Value).ownBlock) (.slice Ao96 t296.length co96) t296) ∧ (Kd.R k40 40 w' w.heap.size (fun k_ => some k_ ≠ (v265 : Value).ownBlock ∧ some k_ ≠ (.slice Ao65 t272.length co65 : Value).ownBlock ∧ some k_ ≠ (.slice Ao75 t279.length co75 : Value).ownBlock ∧ some k_ ≠ (.slice Ao84 t288.length co84 : Value).ownBlock ∧ some k_ ≠ (.slice Ao96 t296.length co96 : Value).ownBlock ∧ some k_ ≠ (s_.2.1 : Value).ownBlock) s_.1 t308) ∧ (Kd.R k40 40 w' w.heap.size (fun k_ => some k_ ≠ (v265 : Value).ownBlock ∧ some k_ ≠ (.slice Ao65 t272.length co65 : Value).ownBlock ∧ some k_ ≠ (.slice Ao75 t279.length co75 : Value).ownBlock ∧ some k_ ≠ (.slice Ao84 t288.length co84 : Value).ownBlock ∧ some k_ ≠ (.slice Ao96 t296.length co96 : Value).ownBlock ∧ some k_ ≠ (s_.1 : Value).ownBlock) s_.2.1 t316) ∧ (w'.heap[gb258]? = some (.cells #[.int .i64 a0_0, .int .i64 a0_1, .slice A0_2 l0_2.length c0_2] 24 (0, 0))) ∧ (w'.heap[gb259]? = some (.cells #[.int .i64 a2_0, .int .i64 a2_1, .string a2_2] 37 (0, 0))) ∧ (w'.heap[gb276]? = some (.cells #[.int .i64 t270, .int .i64 t271, .slice Ao65 t272.length co65] 30 (0, 0))) ∧ (w'.heap[gb282]? = some (.cells #[.int .i64 t277, .int .i64 t278, .slice Ao75 t279.length co75] 30 (0, 0))) ∧ (w'.heap[gb292]? = some (.cells #[.int .i64 t286, .int .i64 t287, .slice Ao84 t288.length co84] 30 (0, 0))) ∧ (w'.heap[s_.2.2]? = some (.cells #[.int .i64 0, .int .i64 0, .slice none 0 0] 30 (0, 0))) ∧ (w.heap.size ≤ s_.2.2) ∧ (w.heap.size ≤ s_.2.2) ∧ (gb258 ≠ s_.2.2) ∧ (s_.2.2 ≠ gb258) ∧ (gb259 ≠ s_.2.2) ∧ (s_.2.2 ≠ gb259) ∧ (gb276 ≠ s_.2.2) ∧ (s_.2.2 ≠ gb276) ∧ (gb282 ≠ s_.2.2) ∧ (s_.2.2 ≠ gb282) ∧ (gb292 ≠ s_.2.2) ∧ (s_.2.2 ≠ gb292) ∧ (Below w.heap.size w w')) ?_ ?_
              rotate_left
              ·intro hCont
               refine two_ (i := 1) (j := 9) (Ni := some 90) (Nj := some 16) #[true, true, true, true, false, false, false, false, false, false, false, false] #[true, false, true, true, false, false, false, false, false, true, false, false] rfl rfl rfl rfl (two_of HT_.out (by kernel_rfl)) (by decide) (by decide) (fun K hK => ?_) (fun K hK => ?_)
               ·skip
                refine gX Try.func15 #[.agg #[.int .i64 a0_0, .int .i64 a0_1, .slice A0_2 l0_2.length c0_2]] ?_
                with_reducible refine (laws_toLog.calls k a0_0 a0_1 _ _ l0_2 t306 t307 t308 _ ?side1 ?side2 A40.out).mono ?_
                (case side1 => exact uC HR0_2 HB)
                (case side2 => exact HC0_2.out)
                rintro e w108 ⟨v309, rfl, ho0, hb⟩
                refine ⟨_, rfl, ?_⟩
                have HO310 := aM (Kd.R_lower (Kd.R_new' (Kd.R_new' (Kd.R_new' (Kd.R_new' (Kd.R_new' ho0 (Kd.R_lt (uR HO266))) (Kd.R_lt (uR HO274))) (Kd.R_lt (uR HO281))) (Kd.R_lt (uR HO290))) (Kd.R_lt (uR HO298))) (below_size (uL HB)))
                replace HO266 := aM (Kd.R_elder' (uR HO266) (Kd.R_base ho0) hb)
                replace HO274 := aM (Kd.R_elder' (uR HO274) (Kd.R_base ho0) hb)
                replace HO281 := aM (Kd.R_elder' (uR HO281) (Kd.R_base ho0) hb)
                replace HO290 := aM (Kd.R_elder' (uR HO290) (Kd.R_base ho0) hb)
                replace HO298 := aM (Kd.R_elder' (uR HO298) (Kd.R_base ho0) hb)
                replace BK258 := blkB BK258 hb
                replace BK259 := blkB BK259 hb
                replace BK276 := blkB BK276 hb
                replace BK282 := blkB BK282 hb
                replace BK292 := blkB BK292 hb
                replace HB := aM (below_step (uL HB) hb)
                (try clear hb)
                (try clear hb2)
                (try clear hk)
                (try clear hi)
                (try clear ho0)
                refine hK.out _ _ ⟨(blk_cell BK258.out 0).trans rfl, (blk_cell BK258.out 1).trans rfl, (blk_cell BK258.out 2).trans rfl, (blk_cell BK259.out 0).trans rfl, (blk_cell BK259.out 1).trans rfl, (blk_cell BK259.out 2).trans rfl⟩ (fun hHeld => ?_)
                clear hK K
                refine nX 90 ?_
                refine two_ (i := 4) (j := 9) (Ni := some 93) (Nj := some 16) #[true, true, true, true, true, false, false, false, false, false, false, false] #[true, true, true, true, false, false, false, false, false, true, false, false] rfl rfl rfl rfl (two_of HT_.out (by kernel_rfl)) (by decide) (by decide) (fun K hK => ?_) (fun K hK => ?_)
                ·skip
                 refine gX Try.func22 #[.agg #[.int .i64 a2_0, .int .i64 a2_1, .string a2_2]] ?_
                 with_reducible refine (laws_toEntry.calls a2_0 a2_1 a2_2 t311 t312 t313 _ A41.out).mono ?_
                 rintro e w109 ⟨rfl, hb⟩
                 refine ⟨_, rfl, ?_⟩
                 replace HO266 := aM (Kd.R_below (uR HO266) hb)
                 replace HO274 := aM (Kd.R_below (uR HO274) hb)
                 replace HO281 := aM (Kd.R_below (uR HO281) hb)
                 replace HO290 := aM (Kd.R_below (uR HO290) hb)
                 replace HO298 := aM (Kd.R_below (uR HO298) hb)
                 replace HO310 := aM (Kd.R_below (uR HO310) hb)
                 replace BK258 := blkB BK258 hb
                 replace BK259 := blkB BK259 hb
                 replace BK276 := blkB BK276 hb
                 replace BK282 := blkB BK282 hb
                 replace BK292 := blkB BK292 hb
                 replace HB := aM (below_step (uL HB) hb)
                 (try clear hb)
                 (try clear hb2)
                 (try clear hk)
                 (try clear hi)
                 obtain ⟨Ao110, co110, eo110⟩ := Kd.R_slice HO310.out
                 (first | subst eo110 | (injection eo110 with f1_ f2_ f3_; have f4_ := f1_.symm; have f5_ := f3_.symm; clear f1_ f2_ f3_; subst f4_; subst f5_))
                 refine hK.out _ _ ⟨(blk_cell BK258.out 0).trans rfl, (blk_cell BK258.out 1).trans rfl, (blk_cell BK258.out 2).trans rfl, (blk_cell BK259.out 0).trans rfl, (blk_cell BK259.out 1).trans rfl, (blk_cell BK259.out 2).trans rfl⟩ (fun hHeld => ?_)
                 clear hK K
                 refine nX 93 ?_
                 refine two_ (i := 5) (j := 9) (Ni := some 94) (Nj := some 16) #[true, true, true, true, true, true, false, false, false, false, false, false] #[true, true, true, true, true, false, false, false, false, true, false, false] rfl rfl rfl rfl (two_of HT_.out (by kernel_rfl)) (by decide) (by decide) (fun K hK => ?_) (fun K hK => ?_)
                 ·skip
                  refine gX Try.func29 #[.agg #[.int .i64 t306, .int .i64 t307, .slice Ao110 t308.length co110], .int .i64 a1, .agg #[.int .i64 t311, .int .i64 t312, .string t313]] ?_
                  with_reducible refine (impl_LogPut.calls k t306 t307 _ _ t308 a1 t311 t312 t313 t314 t315 t316 t319 _ ?side1 ?side2 A42.out).mono ?_
                  (case side1 => repeat (first | exact (Kd.R_reads' HO310.out).2.2 | (with_reducible refine cA ?_ _) | (with_reducible refine cN ?_ _) | (with_reducible refine cD ?_)))
                  (case side2 => exact (Kd.R_reads' HO310.out).2.1)
                  rintro e w111 ⟨v317, rfl, ho0, hb⟩
                  refine ⟨_, rfl, ?_⟩
                  have HO318 := aM (Kd.R_lower (Kd.R_new' (Kd.R_new' (Kd.R_new' (Kd.R_new' (Kd.R_new' (Kd.R_new' ho0 (Kd.R_lt (uR HO266))) (Kd.R_lt (uR HO274))) (Kd.R_lt (uR HO281))) (Kd.R_lt (uR HO290))) (Kd.R_lt (uR HO298))) (Kd.R_lt (uR HO310))) (below_size (uL HB)))
                  replace HO266 := aM (Kd.R_elder' (uR HO266) (Kd.R_base ho0) hb)
                  replace HO274 := aM (Kd.R_elder' (uR HO274) (Kd.R_base ho0) hb)
                  replace HO281 := aM (Kd.R_elder' (uR HO281) (Kd.R_base ho0) hb)
                  replace HO290 := aM (Kd.R_elder' (uR HO290) (Kd.R_base ho0) hb)
                  replace HO298 := aM (Kd.R_elder' (uR HO298) (Kd.R_base ho0) hb)
                  replace HO310 := aM (Kd.R_elder' (uR HO310) (Kd.R_base ho0) hb)
                  replace BK258 := blkB BK258 hb
                  replace BK259 := blkB BK259 hb
                  replace BK276 := blkB BK276 hb
                  replace BK282 := blkB BK282 hb
                  replace BK292 := blkB BK292 hb
                  replace HB := aM (below_step (uL HB) hb)
                  (try clear hb)
                  (try clear hb2)
                  (try clear hk)
                  (try clear hi)
                  (try clear ho0)
                  refine hK.out _ _ ⟨(blk_cell BK258.out 0).trans rfl, (blk_cell BK258.out 1).trans rfl, (blk_cell BK258.out 2).trans rfl, (blk_cell BK259.out 0).trans rfl, (blk_cell BK259.out 1).trans rfl, (blk_cell BK259.out 2).trans rfl⟩ (fun hHeld => ?_)
                  clear hK K
                  refine nX 94 ?_; refine pA HT_.out 6 88 12 127 ?_; refine pA HT_.out 7 95 12 255 ?_; refine pA HT_.out 8 96 12 511 ?_
                  refine oA HT_.out 9 (some 16) 12 1023 (fun K hK => ?_)
                  refine bxS 16 #[.int .i64 0, .int .i64 0, .slice none 0 0] 30 ?_
                  intro gb320 hg w112 hbox hb
                  have n0_ := aM (Kd.R_below (uR HO266) hb); have n1_ := aM (Kd.R_below (uR HO274) hb); have n2_ := aM (Kd.R_below (uR HO281) hb); have n3_ := aM (Kd.R_below (uR HO290) hb); have n4_ := aM (Kd.R_below (uR HO298) hb); have n5_ := aM (Kd.R_below (uR HO310) hb); have n6_ := aM (Kd.R_below (uR HO318) hb); have n7_ := blkB BK258 hb; have n8_ := blkB BK259 hb; have n9_ := blkB BK276 hb; have n10_ := blkB BK282 hb; have n11_ := blkB BK292 hb
                  have n12_ := aM (below_step (uL HB) hb)
                  have n13_ := aM (hbox)
                  have n14_ := szG hg (uL HB); have n15_ := szG hg (uL HB); have n16_ := neL hg BK258; have n17_ := neG hg BK258; have n18_ := neL hg BK259; have n19_ := neG hg BK259; have n20_ := neL hg BK276; have n21_ := neG hg BK276; have n22_ := neL hg BK282; have n23_ := neG hg BK282; have n24_ := neL hg BK292; have n25_ := neG hg BK292; clear HO266 HO274 HO281 HO290 HO298 HO310 HO318 BK258 BK259 BK276 BK282 BK292 HB; have HO266 := n0_; have HO274 := n1_; have HO281 := n2_; have HO290 := n3_; have HO298 := n4_; have HO310 := n5_; have HO318 := n6_; have BK258 := n7_; have BK259 := n8_; have BK276 := n9_; have BK282 := n10_; have BK292 := n11_; have HB := n12_; have BK320 := n13_; have GW320 := n14_; have GE320 := n15_; have NB258_320 := n16_; have NB320_258 := n17_; have NB259_320 := n18_; have NB320_259 := n19_; have NB276_320 := n20_; have NB320_276 := n21_; have NB282_320 := n22_; have NB320_282 := n23_; have NB292_320 := n24_; have NB320_292 := n25_; clear n0_ n1_ n2_ n3_ n4_ n5_ n6_ n7_ n8_ n9_ n10_ n11_ n12_ n13_ n14_ n15_ n16_ n17_ n18_ n19_ n20_ n21_ n22_ n23_ n24_ n25_ hb hbox hg
                  refine hK.out _ _ ⟨(blk_cell BK258.out 0).trans rfl, (blk_cell BK258.out 1).trans rfl, (blk_cell BK258.out 2).trans rfl, (blk_cell BK259.out 0).trans rfl, (blk_cell BK259.out 1).trans rfl, (blk_cell BK259.out 2).trans rfl⟩ (fun hHeld => ?_)
                  clear hK K
                  refine nX 16 ?_
                  exact norm_ (by simp only [putAll, Act.put, List.setIfInBounds_toArray, List.set_cons_zero, List.set_cons_succ]) (hCont (.slice Ao110 t308.length co110, v317, gb320) _ ⟨hHeld, (by (with_reducible repeat first | apply rA | apply rN | apply rD); exact Kd.R_mono HO266.out (fun _ hk => ⟨hk.1.1.1, ⟨hk.1.1.2.1, ⟨hk.1.1.2.2.1, ⟨hk.1.1.2.2.2, ⟨hk.1.2, hk.2⟩⟩⟩⟩⟩)), (by (with_reducible repeat first | apply rA | apply rN | apply rD); exact Kd.R_mono HO274.out (fun _ hk => ⟨hk.1.1.1, ⟨hk.1.1.2.1, ⟨hk.1.1.2.2.1, ⟨hk.1.1.2.2.2, ⟨hk.1.2, hk.2⟩⟩⟩⟩⟩)), (by (with_reducible repeat first | apply rA | apply rN | apply rD); exact Kd.R_mono HO281.out (fun _ hk => ⟨hk.1.1.1, ⟨hk.1.1.2.1, ⟨hk.1.1.2.2.1, ⟨hk.1.1.2.2.2, ⟨hk.1.2, hk.2⟩⟩⟩⟩⟩)), (by (with_reducible repeat first | apply rA | apply rN | apply rD); exact Kd.R_mono HO290.out (fun _ hk => ⟨hk.1.1.1, ⟨hk.1.1.2.1, ⟨hk.1.1.2.2.1, ⟨hk.1.1.2.2.2, ⟨hk.1.2, hk.2⟩⟩⟩⟩⟩)), (by (with_reducible repeat first | apply rA | apply rN | apply rD); exact Kd.R_mono HO298.out (fun _ hk => ⟨hk.1.1.1, ⟨hk.1.1.2.1, ⟨hk.1.1.2.2.1, ⟨hk.1.1.2.2.2, ⟨hk.1.2, hk.2⟩⟩⟩⟩⟩)), (by (with_reducible repeat first | apply rA | apply rN | apply rD); exact Kd.R_mono HO310.out (fun _ hk => ⟨hk.1.1.1.1.1.2, ⟨hk.1.1.1.1.2, ⟨hk.1.1.1.2, ⟨hk.1.1.2, ⟨hk.1.2, hk.2⟩⟩⟩⟩⟩)), (by (with_reducible repeat first | apply rA | apply rN | apply rD); exact Kd.R_mono HO318.out (fun _ hk => ⟨hk.1.1.1.1.1.2, ⟨hk.1.1.1.1.2, ⟨hk.1.1.1.2, ⟨hk.1.1.2, ⟨hk.1.2, hk.2⟩⟩⟩⟩⟩)), (uB BK258), (uB BK259), (uB BK276), (uB BK282), (uB BK292), (uB BK320), GW320.out, GE320.out, NB258_320.out, NB320_258.out, NB259_320.out, NB320_259.out, NB276_320.out, NB320_276.out, NB282_320.out, NB320_282.out, NB292_320.out, NB320_292.out, (uL HB)⟩)
                 ·skip
                  refine bxS 16 #[.int .i64 0, .int .i64 0, .slice none 0 0] 30 ?_
                  intro gb320 hg w110 hbox hb
                  have n0_ := aM (Kd.R_below (uR HO266) hb); have n1_ := aM (Kd.R_below (uR HO274) hb); have n2_ := aM (Kd.R_below (uR HO281) hb); have n3_ := aM (Kd.R_below (uR HO290) hb); have n4_ := aM (Kd.R_below (uR HO298) hb); have n5_ := aM (Kd.R_below (uR HO310) hb); have n6_ := blkB BK258 hb; have n7_ := blkB BK259 hb; have n8_ := blkB BK276 hb; have n9_ := blkB BK282 hb; have n10_ := blkB BK292 hb
                  have n11_ := aM (below_step (uL HB) hb)
                  have n12_ := aM (hbox)
                  have n13_ := szG hg (uL HB); have n14_ := szG hg (uL HB); have n15_ := neL hg BK258; have n16_ := neG hg BK258; have n17_ := neL hg BK259; have n18_ := neG hg BK259; have n19_ := neL hg BK276; have n20_ := neG hg BK276; have n21_ := neL hg BK282; have n22_ := neG hg BK282; have n23_ := neL hg BK292; have n24_ := neG hg BK292; clear HO266 HO274 HO281 HO290 HO298 HO310 BK258 BK259 BK276 BK282 BK292 HB; have HO266 := n0_; have HO274 := n1_; have HO281 := n2_; have HO290 := n3_; have HO298 := n4_; have HO310 := n5_; have BK258 := n6_; have BK259 := n7_; have BK276 := n8_; have BK282 := n9_; have BK292 := n10_; have HB := n11_; have BK320 := n12_; have GW320 := n13_; have GE320 := n14_; have NB258_320 := n15_; have NB320_258 := n16_; have NB259_320 := n17_; have NB320_259 := n18_; have NB276_320 := n19_; have NB320_276 := n20_; have NB282_320 := n21_; have NB320_282 := n22_; have NB292_320 := n23_; have NB320_292 := n24_; clear n0_ n1_ n2_ n3_ n4_ n5_ n6_ n7_ n8_ n9_ n10_ n11_ n12_ n13_ n14_ n15_ n16_ n17_ n18_ n19_ n20_ n21_ n22_ n23_ n24_ hb hbox hg
                  obtain ⟨Ao111, co111, eo111⟩ := Kd.R_slice HO310.out
                  (first | subst eo111 | (injection eo111 with f1_ f2_ f3_; have f4_ := f1_.symm; have f5_ := f3_.symm; clear f1_ f2_ f3_; subst f4_; subst f5_))
                  refine hK.out _ _ ⟨(blk_cell BK258.out 0).trans rfl, (blk_cell BK258.out 1).trans rfl, (blk_cell BK258.out 2).trans rfl, (blk_cell BK259.out 0).trans rfl, (blk_cell BK259.out 1).trans rfl, (blk_cell BK259.out 2).trans rfl⟩ (fun hHeld => ?_)
                  clear hK K
                  refine nX 16 ?_
                  refine oA HT_.out 5 (some 94) 12 575 (fun K hK => ?_)
                  refine gX Try.func29 #[.agg #[.int .i64 t306, .int .i64 t307, .slice Ao111 t308.length co111], .int .i64 a1, .agg #[.int .i64 t311, .int .i64 t312, .string t313]] ?_
                  with_reducible refine (impl_LogPut.calls k t306 t307 _ _ t308 a1 t311 t312 t313 t314 t315 t316 t319 _ ?side1 ?side2 A42.out).mono ?_
                  (case side1 => repeat (first | exact (Kd.R_reads' HO310.out).2.2 | (with_reducible refine cA ?_ _) | (with_reducible refine cN ?_ _) | (with_reducible refine cD ?_)))
                  (case side2 => exact (Kd.R_reads' HO310.out).2.1)
                  rintro e w112 ⟨v317, rfl, ho0, hb⟩
                  refine ⟨_, rfl, ?_⟩
                  have HO318 := aM (Kd.R_lower (Kd.R_new' (Kd.R_new' (Kd.R_new' (Kd.R_new' (Kd.R_new' (Kd.R_new' ho0 (Kd.R_lt (uR HO266))) (Kd.R_lt (uR HO274))) (Kd.R_lt (uR HO281))) (Kd.R_lt (uR HO290))) (Kd.R_lt (uR HO298))) (Kd.R_lt (uR HO310))) (below_size (uL HB)))
                  replace HO266 := aM (Kd.R_elder' (uR HO266) (Kd.R_base ho0) hb)
                  replace HO274 := aM (Kd.R_elder' (uR HO274) (Kd.R_base ho0) hb)
                  replace HO281 := aM (Kd.R_elder' (uR HO281) (Kd.R_base ho0) hb)
                  replace HO290 := aM (Kd.R_elder' (uR HO290) (Kd.R_base ho0) hb)
                  replace HO298 := aM (Kd.R_elder' (uR HO298) (Kd.R_base ho0) hb)
                  replace HO310 := aM (Kd.R_elder' (uR HO310) (Kd.R_base ho0) hb)
                  replace BK258 := blkB BK258 hb
                  replace BK259 := blkB BK259 hb
                  replace BK276 := blkB BK276 hb
                  replace BK282 := blkB BK282 hb
                  replace BK292 := blkB BK292 hb
                  replace BK320 := blkB BK320 hb
                  replace HB := aM (below_step (uL HB) hb)
                  (try clear hb)
                  (try clear hb2)
                  (try clear hk)
                  (try clear hi)
                  (try clear ho0)
                  refine hK.out _ _ ⟨(blk_cell BK258.out 0).trans rfl, (blk_cell BK258.out 1).trans rfl, (blk_cell BK258.out 2).trans rfl, (blk_cell BK259.out 0).trans rfl, (blk_cell BK259.out 1).trans rfl, (blk_cell BK259.out 2).trans rfl⟩ (fun hHeld => ?_)
                  clear hK K
                  refine nX 94 ?_; refine pA HT_.out 6 88 12 639 ?_; refine pA HT_.out 7 95 12 767 ?_; refine pA HT_.out 8 96 12 1023 ?_
                  exact norm_ (by simp only [putAll, Act.put, List.setIfInBounds_toArray, List.set_cons_zero, List.set_cons_succ]) (hCont (.slice Ao111 t308.length co111, v317, gb320) _ ⟨hHeld, (by (with_reducible repeat first | apply rA | apply rN | apply rD); exact Kd.R_mono HO266.out (fun _ hk => ⟨hk.1.1.1, ⟨hk.1.1.2.1, ⟨hk.1.1.2.2.1, ⟨hk.1.1.2.2.2, ⟨hk.1.2, hk.2⟩⟩⟩⟩⟩)), (by (with_reducible repeat first | apply rA | apply rN | apply rD); exact Kd.R_mono HO274.out (fun _ hk => ⟨hk.1.1.1, ⟨hk.1.1.2.1, ⟨hk.1.1.2.2.1, ⟨hk.1.1.2.2.2, ⟨hk.1.2, hk.2⟩⟩⟩⟩⟩)), (by (with_reducible repeat first | apply rA | apply rN | apply rD); exact Kd.R_mono HO281.out (fun _ hk => ⟨hk.1.1.1, ⟨hk.1.1.2.1, ⟨hk.1.1.2.2.1, ⟨hk.1.1.2.2.2, ⟨hk.1.2, hk.2⟩⟩⟩⟩⟩)), (by (with_reducible repeat first | apply rA | apply rN | apply rD); exact Kd.R_mono HO290.out (fun _ hk => ⟨hk.1.1.1, ⟨hk.1.1.2.1, ⟨hk.1.1.2.2.1, ⟨hk.1.1.2.2.2, ⟨hk.1.2, hk.2⟩⟩⟩⟩⟩)), (by (with_reducible repeat first | apply rA | apply rN | apply rD); exact Kd.R_mono HO298.out (fun _ hk => ⟨hk.1.1.1, ⟨hk.1.1.2.1, ⟨hk.1.1.2.2.1, ⟨hk.1.1.2.2.2, ⟨hk.1.2, hk.2⟩⟩⟩⟩⟩)), (by (with_reducible repeat first | apply rA | apply rN | apply rD); exact Kd.R_mono HO310.out (fun _ hk => ⟨hk.1.1.1.1.1.2, ⟨hk.1.1.1.1.2, ⟨hk.1.1.1.2, ⟨hk.1.1.2, ⟨hk.1.2, hk.2⟩⟩⟩⟩⟩)), (by (with_reducible repeat first | apply rA | apply rN | apply rD); exact Kd.R_mono HO318.out (fun _ hk => ⟨hk.1.1.1.1.1.2, ⟨hk.1.1.1.1.2, ⟨hk.1.1.1.2, ⟨hk.1.1.2, ⟨hk.1.2, hk.2⟩⟩⟩⟩⟩)), (uB BK258), (uB BK259), (uB BK276), (uB BK282), (uB BK292), (uB BK320), GW320.out, GE320.out, NB258_320.out, NB320_258.out, NB259_320.out, NB320_259.out, NB276_320.out, NB320_276.out, NB282_320.out, NB320_282.out, NB292_320.out, NB320_292.out, (uL HB)⟩)
                ·skip
                 refine bxS 16 #[.int .i64 0, .int .i64 0, .slice none 0 0] 30 ?_
                 intro gb320 hg w109 hbox hb
                 have n0_ := aM (Kd.R_below (uR HO266) hb); have n1_ := aM (Kd.R_below (uR HO274) hb); have n2_ := aM (Kd.R_below (uR HO281) hb); have n3_ := aM (Kd.R_below (uR HO290) hb); have n4_ := aM (Kd.R_below (uR HO298) hb); have n5_ := aM (Kd.R_below (uR HO310) hb); have n6_ := blkB BK258 hb; have n7_ := blkB BK259 hb; have n8_ := blkB BK276 hb; have n9_ := blkB BK282 hb; have n10_ := blkB BK292 hb
                 have n11_ := aM (below_step (uL HB) hb)
                 have n12_ := aM (hbox)
                 have n13_ := szG hg (uL HB); have n14_ := szG hg (uL HB); have n15_ := neL hg BK258; have n16_ := neG hg BK258; have n17_ := neL hg BK259; have n18_ := neG hg BK259; have n19_ := neL hg BK276; have n20_ := neG hg BK276; have n21_ := neL hg BK282; have n22_ := neG hg BK282; have n23_ := neL hg BK292; have n24_ := neG hg BK292; clear HO266 HO274 HO281 HO290 HO298 HO310 BK258 BK259 BK276 BK282 BK292 HB; have HO266 := n0_; have HO274 := n1_; have HO281 := n2_; have HO290 := n3_; have HO298 := n4_; have HO310 := n5_; have BK258 := n6_; have BK259 := n7_; have BK276 := n8_; have BK282 := n9_; have BK292 := n10_; have HB := n11_; have BK320 := n12_; have GW320 := n13_; have GE320 := n14_; have NB258_320 := n15_; have NB320_258 := n16_; have NB259_320 := n17_; have NB320_259 := n18_; have NB276_320 := n19_; have NB320_276 := n20_; have NB282_320 := n21_; have NB320_282 := n22_; have NB292_320 := n23_; have NB320_292 := n24_; clear n0_ n1_ n2_ n3_ n4_ n5_ n6_ n7_ n8_ n9_ n10_ n11_ n12_ n13_ n14_ n15_ n16_ n17_ n18_ n19_ n20_ n21_ n22_ n23_ n24_ hb hbox hg
                 refine hK.out _ _ ⟨(blk_cell BK258.out 0).trans rfl, (blk_cell BK258.out 1).trans rfl, (blk_cell BK258.out 2).trans rfl, (blk_cell BK259.out 0).trans rfl, (blk_cell BK259.out 1).trans rfl, (blk_cell BK259.out 2).trans rfl⟩ (fun hHeld => ?_)
                 clear hK K
                 refine nX 16 ?_
                 refine oA HT_.out 4 (some 93) 12 543 (fun K hK => ?_)
                 refine gX Try.func22 #[.agg #[.int .i64 a2_0, .int .i64 a2_1, .string a2_2]] ?_
                 with_reducible refine (laws_toEntry.calls a2_0 a2_1 a2_2 t311 t312 t313 _ A41.out).mono ?_
                 rintro e w110 ⟨rfl, hb⟩
                 refine ⟨_, rfl, ?_⟩
                 replace HO266 := aM (Kd.R_below (uR HO266) hb)
                 replace HO274 := aM (Kd.R_below (uR HO274) hb)
                 replace HO281 := aM (Kd.R_below (uR HO281) hb)
                 replace HO290 := aM (Kd.R_below (uR HO290) hb)
                 replace HO298 := aM (Kd.R_below (uR HO298) hb)
                 replace HO310 := aM (Kd.R_below (uR HO310) hb)
                 replace BK258 := blkB BK258 hb
                 replace BK259 := blkB BK259 hb
                 replace BK276 := blkB BK276 hb
                 replace BK282 := blkB BK282 hb
                 replace BK292 := blkB BK292 hb
                 replace BK320 := blkB BK320 hb
                 replace HB := aM (below_step (uL HB) hb)
                 (try clear hb)
                 (try clear hb2)
                 (try clear hk)
                 (try clear hi)
                 obtain ⟨Ao111, co111, eo111⟩ := Kd.R_slice HO310.out
                 (first | subst eo111 | (injection eo111 with f1_ f2_ f3_; have f4_ := f1_.symm; have f5_ := f3_.symm; clear f1_ f2_ f3_; subst f4_; subst f5_))
                 refine hK.out _ _ ⟨(blk_cell BK258.out 0).trans rfl, (blk_cell BK258.out 1).trans rfl, (blk_cell BK258.out 2).trans rfl, (blk_cell BK259.out 0).trans rfl, (blk_cell BK259.out 1).trans rfl, (blk_cell BK259.out 2).trans rfl⟩ (fun hHeld => ?_)
                 clear hK K
                 refine nX 93 ?_
                 refine oA HT_.out 5 (some 94) 12 575 (fun K hK => ?_)
                 refine gX Try.func29 #[.agg #[.int .i64 t306, .int .i64 t307, .slice Ao111 t308.length co111], .int .i64 a1, .agg #[.int .i64 t311, .int .i64 t312, .string t313]] ?_
                 with_reducible refine (impl_LogPut.calls k t306 t307 _ _ t308 a1 t311 t312 t313 t314 t315 t316 t319 _ ?side1 ?side2 A42.out).mono ?_
                 (case side1 => repeat (first | exact (Kd.R_reads' HO310.out).2.2 | (with_reducible refine cA ?_ _) | (with_reducible refine cN ?_ _) | (with_reducible refine cD ?_)))
                 (case side2 => exact (Kd.R_reads' HO310.out).2.1)
                 rintro e w112 ⟨v317, rfl, ho0, hb⟩
                 refine ⟨_, rfl, ?_⟩
                 have HO318 := aM (Kd.R_lower (Kd.R_new' (Kd.R_new' (Kd.R_new' (Kd.R_new' (Kd.R_new' (Kd.R_new' ho0 (Kd.R_lt (uR HO266))) (Kd.R_lt (uR HO274))) (Kd.R_lt (uR HO281))) (Kd.R_lt (uR HO290))) (Kd.R_lt (uR HO298))) (Kd.R_lt (uR HO310))) (below_size (uL HB)))
                 replace HO266 := aM (Kd.R_elder' (uR HO266) (Kd.R_base ho0) hb)
                 replace HO274 := aM (Kd.R_elder' (uR HO274) (Kd.R_base ho0) hb)
                 replace HO281 := aM (Kd.R_elder' (uR HO281) (Kd.R_base ho0) hb)
                 replace HO290 := aM (Kd.R_elder' (uR HO290) (Kd.R_base ho0) hb)
                 replace HO298 := aM (Kd.R_elder' (uR HO298) (Kd.R_base ho0) hb)
                 replace HO310 := aM (Kd.R_elder' (uR HO310) (Kd.R_base ho0) hb)
                 replace BK258 := blkB BK258 hb
                 replace BK259 := blkB BK259 hb
                 replace BK276 := blkB BK276 hb
                 replace BK282 := blkB BK282 hb
                 replace BK292 := blkB BK292 hb
                 replace BK320 := blkB BK320 hb
                 replace HB := aM (below_step (uL HB) hb)
                 (try clear hb)
                 (try clear hb2)
                 (try clear hk)
                 (try clear hi)
                 (try clear ho0)
                 refine hK.out _ _ ⟨(blk_cell BK258.out 0).trans rfl, (blk_cell BK258.out 1).trans rfl, (blk_cell BK258.out 2).trans rfl, (blk_cell BK259.out 0).trans rfl, (blk_cell BK259.out 1).trans rfl, (blk_cell BK259.out 2).trans rfl⟩ (fun hHeld => ?_)
                 clear hK K
                 refine nX 94 ?_; refine pA HT_.out 6 88 12 639 ?_; refine pA HT_.out 7 95 12 767 ?_; refine pA HT_.out 8 96 12 1023 ?_
                 exact norm_ (by simp only [putAll, Act.put, List.setIfInBounds_toArray, List.set_cons_zero, List.set_cons_succ]) (hCont (.slice Ao111 t308.length co111, v317, gb320) _ ⟨hHeld, (by (with_reducible repeat first | apply rA | apply rN | apply rD); exact Kd.R_mono HO266.out (fun _ hk => ⟨hk.1.1.1, ⟨hk.1.1.2.1, ⟨hk.1.1.2.2.1, ⟨hk.1.1.2.2.2, ⟨hk.1.2, hk.2⟩⟩⟩⟩⟩)), (by (with_reducible repeat first | apply rA | apply rN | apply rD); exact Kd.R_mono HO274.out (fun _ hk => ⟨hk.1.1.1, ⟨hk.1.1.2.1, ⟨hk.1.1.2.2.1, ⟨hk.1.1.2.2.2, ⟨hk.1.2, hk.2⟩⟩⟩⟩⟩)), (by (with_reducible repeat first | apply rA | apply rN | apply rD); exact Kd.R_mono HO281.out (fun _ hk => ⟨hk.1.1.1, ⟨hk.1.1.2.1, ⟨hk.1.1.2.2.1, ⟨hk.1.1.2.2.2, ⟨hk.1.2, hk.2⟩⟩⟩⟩⟩)), (by (with_reducible repeat first | apply rA | apply rN | apply rD); exact Kd.R_mono HO290.out (fun _ hk => ⟨hk.1.1.1, ⟨hk.1.1.2.1, ⟨hk.1.1.2.2.1, ⟨hk.1.1.2.2.2, ⟨hk.1.2, hk.2⟩⟩⟩⟩⟩)), (by (with_reducible repeat first | apply rA | apply rN | apply rD); exact Kd.R_mono HO298.out (fun _ hk => ⟨hk.1.1.1, ⟨hk.1.1.2.1, ⟨hk.1.1.2.2.1, ⟨hk.1.1.2.2.2, ⟨hk.1.2, hk.2⟩⟩⟩⟩⟩)), (by (with_reducible repeat first | apply rA | apply rN | apply rD); exact Kd.R_mono HO310.out (fun _ hk => ⟨hk.1.1.1.1.1.2, ⟨hk.1.1.1.1.2, ⟨hk.1.1.1.2, ⟨hk.1.1.2, ⟨hk.1.2, hk.2⟩⟩⟩⟩⟩)), (by (with_reducible repeat first | apply rA | apply rN | apply rD); exact Kd.R_mono HO318.out (fun _ hk => ⟨hk.1.1.1.1.1.2, ⟨hk.1.1.1.1.2, ⟨hk.1.1.1.2, ⟨hk.1.1.2, ⟨hk.1.2, hk.2⟩⟩⟩⟩⟩)), (uB BK258), (uB BK259), (uB BK276), (uB BK282), (uB BK292), (uB BK320), GW320.out, GE320.out, NB258_320.out, NB320_258.out, NB259_320.out, NB320_259.out, NB276_320.out, NB320_276.out, NB282_320.out, NB320_282.out, NB292_320.out, NB320_292.out, (uL HB)⟩)
               ·skip
                refine bxS 16 #[.int .i64 0, .int .i64 0, .slice none 0 0] 30 ?_
                intro gb320 hg w108 hbox hb
                have n0_ := aM (Kd.R_below (uR HO266) hb); have n1_ := aM (Kd.R_below (uR HO274) hb); have n2_ := aM (Kd.R_below (uR HO281) hb); have n3_ := aM (Kd.R_below (uR HO290) hb); have n4_ := aM (Kd.R_below (uR HO298) hb); have n5_ := blkB BK258 hb; have n6_ := blkB BK259 hb; have n7_ := blkB BK276 hb; have n8_ := blkB BK282 hb; have n9_ := blkB BK292 hb
                have n10_ := aM (below_step (uL HB) hb)
                have n11_ := aM (hbox)
                have n12_ := szG hg (uL HB); have n13_ := szG hg (uL HB); have n14_ := neL hg BK258; have n15_ := neG hg BK258; have n16_ := neL hg BK259; have n17_ := neG hg BK259; have n18_ := neL hg BK276; have n19_ := neG hg BK276; have n20_ := neL hg BK282; have n21_ := neG hg BK282; have n22_ := neL hg BK292; have n23_ := neG hg BK292; clear HO266 HO274 HO281 HO290 HO298 BK258 BK259 BK276 BK282 BK292 HB; have HO266 := n0_; have HO274 := n1_; have HO281 := n2_; have HO290 := n3_; have HO298 := n4_; have BK258 := n5_; have BK259 := n6_; have BK276 := n7_; have BK282 := n8_; have BK292 := n9_; have HB := n10_; have BK320 := n11_; have GW320 := n12_; have GE320 := n13_; have NB258_320 := n14_; have NB320_258 := n15_; have NB259_320 := n16_; have NB320_259 := n17_; have NB276_320 := n18_; have NB320_276 := n19_; have NB282_320 := n20_; have NB320_282 := n21_; have NB292_320 := n22_; have NB320_292 := n23_; clear n0_ n1_ n2_ n3_ n4_ n5_ n6_ n7_ n8_ n9_ n10_ n11_ n12_ n13_ n14_ n15_ n16_ n17_ n18_ n19_ n20_ n21_ n22_ n23_ hb hbox hg
                refine hK.out _ _ ⟨(blk_cell BK258.out 0).trans rfl, (blk_cell BK258.out 1).trans rfl, (blk_cell BK258.out 2).trans rfl, (blk_cell BK259.out 0).trans rfl, (blk_cell BK259.out 1).trans rfl, (blk_cell BK259.out 2).trans rfl⟩ (fun hHeld => ?_)
                clear hK K
                refine nX 16 ?_
                refine oA HT_.out 1 (some 90) 12 527 (fun K hK => ?_)
                refine gX Try.func15 #[.agg #[.int .i64 a0_0, .int .i64 a0_1, .slice A0_2 l0_2.length c0_2]] ?_
                with_reducible refine (laws_toLog.calls k a0_0 a0_1 _ _ l0_2 t306 t307 t308 _ ?side1 ?side2 A40.out).mono ?_
                (case side1 => exact uC HR0_2 HB)
                (case side2 => exact HC0_2.out)
                rintro e w109 ⟨v309, rfl, ho0, hb⟩
                refine ⟨_, rfl, ?_⟩
                have HO310 := aM (Kd.R_lower (Kd.R_new' (Kd.R_new' (Kd.R_new' (Kd.R_new' (Kd.R_new' ho0 (Kd.R_lt (uR HO266))) (Kd.R_lt (uR HO274))) (Kd.R_lt (uR HO281))) (Kd.R_lt (uR HO290))) (Kd.R_lt (uR HO298))) (below_size (uL HB)))
                replace HO266 := aM (Kd.R_elder' (uR HO266) (Kd.R_base ho0) hb)
                replace HO274 := aM (Kd.R_elder' (uR HO274) (Kd.R_base ho0) hb)
                replace HO281 := aM (Kd.R_elder' (uR HO281) (Kd.R_base ho0) hb)
                replace HO290 := aM (Kd.R_elder' (uR HO290) (Kd.R_base ho0) hb)
                replace HO298 := aM (Kd.R_elder' (uR HO298) (Kd.R_base ho0) hb)
                replace BK258 := blkB BK258 hb
                replace BK259 := blkB BK259 hb
                replace BK276 := blkB BK276 hb
                replace BK282 := blkB BK282 hb
                replace BK292 := blkB BK292 hb
                replace BK320 := blkB BK320 hb
                replace HB := aM (below_step (uL HB) hb)
                (try clear hb)
                (try clear hb2)
                (try clear hk)
                (try clear hi)
                (try clear ho0)
                refine hK.out _ _ ⟨(blk_cell BK258.out 0).trans rfl, (blk_cell BK258.out 1).trans rfl, (blk_cell BK258.out 2).trans rfl, (blk_cell BK259.out 0).trans rfl, (blk_cell BK259.out 1).trans rfl, (blk_cell BK259.out 2).trans rfl⟩ (fun hHeld => ?_)
                clear hK K
                refine nX 90 ?_
                refine oA HT_.out 4 (some 93) 12 543 (fun K hK => ?_)
                refine gX Try.func22 #[.agg #[.int .i64 a2_0, .int .i64 a2_1, .string a2_2]] ?_
                with_reducible refine (laws_toEntry.calls a2_0 a2_1 a2_2 t311 t312 t313 _ A41.out).mono ?_
                rintro e w110 ⟨rfl, hb⟩
                refine ⟨_, rfl, ?_⟩
                replace HO266 := aM (Kd.R_below (uR HO266) hb)
                replace HO274 := aM (Kd.R_below (uR HO274) hb)
                replace HO281 := aM (Kd.R_below (uR HO281) hb)
                replace HO290 := aM (Kd.R_below (uR HO290) hb)
                replace HO298 := aM (Kd.R_below (uR HO298) hb)
                replace HO310 := aM (Kd.R_below (uR HO310) hb)
                replace BK258 := blkB BK258 hb
                replace BK259 := blkB BK259 hb
                replace BK276 := blkB BK276 hb
                replace BK282 := blkB BK282 hb
                replace BK292 := blkB BK292 hb
                replace BK320 := blkB BK320 hb
                replace HB := aM (below_step (uL HB) hb)
                (try clear hb)
                (try clear hb2)
                (try clear hk)
                (try clear hi)
                obtain ⟨Ao111, co111, eo111⟩ := Kd.R_slice HO310.out
                (first | subst eo111 | (injection eo111 with f1_ f2_ f3_; have f4_ := f1_.symm; have f5_ := f3_.symm; clear f1_ f2_ f3_; subst f4_; subst f5_))
                refine hK.out _ _ ⟨(blk_cell BK258.out 0).trans rfl, (blk_cell BK258.out 1).trans rfl, (blk_cell BK258.out 2).trans rfl, (blk_cell BK259.out 0).trans rfl, (blk_cell BK259.out 1).trans rfl, (blk_cell BK259.out 2).trans rfl⟩ (fun hHeld => ?_)
                clear hK K
                refine nX 93 ?_
                refine oA HT_.out 5 (some 94) 12 575 (fun K hK => ?_)
                refine gX Try.func29 #[.agg #[.int .i64 t306, .int .i64 t307, .slice Ao111 t308.length co111], .int .i64 a1, .agg #[.int .i64 t311, .int .i64 t312, .string t313]] ?_
                with_reducible refine (impl_LogPut.calls k t306 t307 _ _ t308 a1 t311 t312 t313 t314 t315 t316 t319 _ ?side1 ?side2 A42.out).mono ?_
                (case side1 => repeat (first | exact (Kd.R_reads' HO310.out).2.2 | (with_reducible refine cA ?_ _) | (with_reducible refine cN ?_ _) | (with_reducible refine cD ?_)))
                (case side2 => exact (Kd.R_reads' HO310.out).2.1)
                rintro e w112 ⟨v317, rfl, ho0, hb⟩
                refine ⟨_, rfl, ?_⟩
                have HO318 := aM (Kd.R_lower (Kd.R_new' (Kd.R_new' (Kd.R_new' (Kd.R_new' (Kd.R_new' (Kd.R_new' ho0 (Kd.R_lt (uR HO266))) (Kd.R_lt (uR HO274))) (Kd.R_lt (uR HO281))) (Kd.R_lt (uR HO290))) (Kd.R_lt (uR HO298))) (Kd.R_lt (uR HO310))) (below_size (uL HB)))
                replace HO266 := aM (Kd.R_elder' (uR HO266) (Kd.R_base ho0) hb)
                replace HO274 := aM (Kd.R_elder' (uR HO274) (Kd.R_base ho0) hb)
                replace HO281 := aM (Kd.R_elder' (uR HO281) (Kd.R_base ho0) hb)
                replace HO290 := aM (Kd.R_elder' (uR HO290) (Kd.R_base ho0) hb)
                replace HO298 := aM (Kd.R_elder' (uR HO298) (Kd.R_base ho0) hb)
                replace HO310 := aM (Kd.R_elder' (uR HO310) (Kd.R_base ho0) hb)
                replace BK258 := blkB BK258 hb
                replace BK259 := blkB BK259 hb
                replace BK276 := blkB BK276 hb
                replace BK282 := blkB BK282 hb
                replace BK292 := blkB BK292 hb
                replace BK320 := blkB BK320 hb
                replace HB := aM (below_step (uL HB) hb)
                (try clear hb)
                (try clear hb2)
                (try clear hk)
                (try clear hi)
                (try clear ho0)
                refine hK.out _ _ ⟨(blk_cell BK258.out 0).trans rfl, (blk_cell BK258.out 1).trans rfl, (blk_cell BK258.out 2).trans rfl, (blk_cell BK259.out 0).trans rfl, (blk_cell BK259.out 1).trans rfl, (blk_cell BK259.out 2).trans rfl⟩ (fun hHeld => ?_)
                clear hK K
                refine nX 94 ?_; refine pA HT_.out 6 88 12 639 ?_; refine pA HT_.out 7 95 12 767 ?_; refine pA HT_.out 8 96 12 1023 ?_
                exact norm_ (by simp only [putAll, Act.put, List.setIfInBounds_toArray, List.set_cons_zero, List.set_cons_succ]) (hCont (.slice Ao111 t308.length co111, v317, gb320) _ ⟨hHeld, (by (with_reducible repeat first | apply rA | apply rN | apply rD); exact Kd.R_mono HO266.out (fun _ hk => ⟨hk.1.1.1, ⟨hk.1.1.2.1, ⟨hk.1.1.2.2.1, ⟨hk.1.1.2.2.2, ⟨hk.1.2, hk.2⟩⟩⟩⟩⟩)), (by (with_reducible repeat first | apply rA | apply rN | apply rD); exact Kd.R_mono HO274.out (fun _ hk => ⟨hk.1.1.1, ⟨hk.1.1.2.1, ⟨hk.1.1.2.2.1, ⟨hk.1.1.2.2.2, ⟨hk.1.2, hk.2⟩⟩⟩⟩⟩)), (by (with_reducible repeat first | apply rA | apply rN | apply rD); exact Kd.R_mono HO281.out (fun _ hk => ⟨hk.1.1.1, ⟨hk.1.1.2.1, ⟨hk.1.1.2.2.1, ⟨hk.1.1.2.2.2, ⟨hk.1.2, hk.2⟩⟩⟩⟩⟩)), (by (with_reducible repeat first | apply rA | apply rN | apply rD); exact Kd.R_mono HO290.out (fun _ hk => ⟨hk.1.1.1, ⟨hk.1.1.2.1, ⟨hk.1.1.2.2.1, ⟨hk.1.1.2.2.2, ⟨hk.1.2, hk.2⟩⟩⟩⟩⟩)), (by (with_reducible repeat first | apply rA | apply rN | apply rD); exact Kd.R_mono HO298.out (fun _ hk => ⟨hk.1.1.1, ⟨hk.1.1.2.1, ⟨hk.1.1.2.2.1, ⟨hk.1.1.2.2.2, ⟨hk.1.2, hk.2⟩⟩⟩⟩⟩)), (by (with_reducible repeat first | apply rA | apply rN | apply rD); exact Kd.R_mono HO310.out (fun _ hk => ⟨hk.1.1.1.1.1.2, ⟨hk.1.1.1.1.2, ⟨hk.1.1.1.2, ⟨hk.1.1.2, ⟨hk.1.2, hk.2⟩⟩⟩⟩⟩)), (by (with_reducible repeat first | apply rA | apply rN | apply rD); exact Kd.R_mono HO318.out (fun _ hk => ⟨hk.1.1.1.1.1.2, ⟨hk.1.1.1.1.2, ⟨hk.1.1.1.2, ⟨hk.1.1.2, ⟨hk.1.2, hk.2⟩⟩⟩⟩⟩)), (uB BK258), (uB BK259), (uB BK276), (uB BK282), (uB BK292), (uB BK320), GW320.out, GE320.out, NB258_320.out, NB320_258.out, NB259_320.out, NB320_259.out, NB276_320.out, NB320_276.out, NB282_320.out, NB320_282.out, NB292_320.out, NB320_292.out, (uL HB)⟩)
              rintro ⟨v309, v317, gb320⟩ w113 ⟨hS_, h0_, h1_, h2_, h3_, h4_, h5_, h6_, h7_, h8_, h9_, h10_, h11_, h12_, h13_, h14_, h15_, h16_, h17_, h18_, h19_, h20_, h21_, h22_, h23_, h24_, h25_⟩
              have n0_ : Aside0 (Kd.R k40 40 w113 w.heap.size (fun k_ => some k_ ≠ (.slice Ao65 t272.length co65 : Value).ownBlock ∧ some k_ ≠ (.slice Ao75 t279.length co75 : Value).ownBlock ∧ some k_ ≠ (.slice Ao84 t288.length co84 : Value).ownBlock ∧ some k_ ≠ (.slice Ao96 t296.length co96 : Value).ownBlock ∧ some k_ ≠ (v309 : Value).ownBlock ∧ some k_ ≠ (v317 : Value).ownBlock) v265 t264) := ⟨h0_⟩
              have n1_ : Aside0 (Kd.R k40 40 w113 w.heap.size (fun k_ => some k_ ≠ (v265 : Value).ownBlock ∧ some k_ ≠ (.slice Ao75 t279.length co75 : Value).ownBlock ∧ some k_ ≠ (.slice Ao84 t288.length co84 : Value).ownBlock ∧ some k_ ≠ (.slice Ao96 t296.length co96 : Value).ownBlock ∧ some k_ ≠ (v309 : Value).ownBlock ∧ some k_ ≠ (v317 : Value).ownBlock) (.slice Ao65 t272.length co65) t272) := ⟨h1_⟩
              have n2_ : Aside0 (Kd.R k40 40 w113 w.heap.size (fun k_ => some k_ ≠ (v265 : Value).ownBlock ∧ some k_ ≠ (.slice Ao65 t272.length co65 : Value).ownBlock ∧ some k_ ≠ (.slice Ao84 t288.length co84 : Value).ownBlock ∧ some k_ ≠ (.slice Ao96 t296.length co96 : Value).ownBlock ∧ some k_ ≠ (v309 : Value).ownBlock ∧ some k_ ≠ (v317 : Value).ownBlock) (.slice Ao75 t279.length co75) t301) := ⟨h2_⟩
              have n3_ : Aside0 (Kd.R k40 40 w113 w.heap.size (fun k_ => some k_ ≠ (v265 : Value).ownBlock ∧ some k_ ≠ (.slice Ao65 t272.length co65 : Value).ownBlock ∧ some k_ ≠ (.slice Ao75 t279.length co75 : Value).ownBlock ∧ some k_ ≠ (.slice Ao96 t296.length co96 : Value).ownBlock ∧ some k_ ≠ (v309 : Value).ownBlock ∧ some k_ ≠ (v317 : Value).ownBlock) (.slice Ao84 t288.length co84) t304) := ⟨h3_⟩
              have n4_ : Aside0 (Kd.R k40 40 w113 w.heap.size (fun k_ => some k_ ≠ (v265 : Value).ownBlock ∧ some k_ ≠ (.slice Ao65 t272.length co65 : Value).ownBlock ∧ some k_ ≠ (.slice Ao75 t279.length co75 : Value).ownBlock ∧ some k_ ≠ (.slice Ao84 t288.length co84 : Value).ownBlock ∧ some k_ ≠ (v309 : Value).ownBlock ∧ some k_ ≠ (v317 : Value).ownBlock) (.slice Ao96 t296.length co96) t296) := ⟨h4_⟩
              have n5_ : Aside0 (Kd.R k40 40 w113 w.heap.size (fun k_ => some k_ ≠ (v265 : Value).ownBlock ∧ some k_ ≠ (.slice Ao65 t272.length co65 : Value).ownBlock ∧ some k_ ≠ (.slice Ao75 t279.length co75 : Value).ownBlock ∧ some k_ ≠ (.slice Ao84 t288.length co84 : Value).ownBlock ∧ some k_ ≠ (.slice Ao96 t296.length co96 : Value).ownBlock ∧ some k_ ≠ (v317 : Value).ownBlock) v309 t308) := ⟨h5_⟩
              have n6_ : Aside0 (Kd.R k40 40 w113 w.heap.size (fun k_ => some k_ ≠ (v265 : Value).ownBlock ∧ some k_ ≠ (.slice Ao65 t272.length co65 : Value).ownBlock ∧ some k_ ≠ (.slice Ao75 t279.length co75 : Value).ownBlock ∧ some k_ ≠ (.slice Ao84 t288.length co84 : Value).ownBlock ∧ some k_ ≠ (.slice Ao96 t296.length co96 : Value).ownBlock ∧ some k_ ≠ (v309 : Value).ownBlock) v317 t316) := ⟨h6_⟩
              have n7_ : Aside0 (w113.heap[gb258]? = some (.cells #[.int .i64 a0_0, .int .i64 a0_1, .slice A0_2 l0_2.length c0_2] 24 (0, 0))) := ⟨h7_⟩
              have n8_ : Aside0 (w113.heap[gb259]? = some (.cells #[.int .i64 a2_0, .int .i64 a2_1, .string a2_2] 37 (0, 0))) := ⟨h8_⟩
              have n9_ : Aside0 (w113.heap[gb276]? = some (.cells #[.int .i64 t270, .int .i64 t271, .slice Ao65 t272.length co65] 30 (0, 0))) := ⟨h9_⟩
              have n10_ : Aside0 (w113.heap[gb282]? = some (.cells #[.int .i64 t277, .int .i64 t278, .slice Ao75 t279.length co75] 30 (0, 0))) := ⟨h10_⟩
              have n11_ : Aside0 (w113.heap[gb292]? = some (.cells #[.int .i64 t286, .int .i64 t287, .slice Ao84 t288.length co84] 30 (0, 0))) := ⟨h11_⟩
              have n12_ : Aside0 (w113.heap[gb320]? = some (.cells #[.int .i64 0, .int .i64 0, .slice none 0 0] 30 (0, 0))) := ⟨h12_⟩
              have n13_ : Aside0 (w.heap.size ≤ gb320) := ⟨h13_⟩
              have n14_ : Aside0 (w.heap.size ≤ gb320) := ⟨h14_⟩
              have n15_ : Aside0 (gb258 ≠ gb320) := ⟨h15_⟩
              have n16_ : Aside0 (gb320 ≠ gb258) := ⟨h16_⟩
              have n17_ : Aside0 (gb259 ≠ gb320) := ⟨h17_⟩
              have n18_ : Aside0 (gb320 ≠ gb259) := ⟨h18_⟩
              have n19_ : Aside0 (gb276 ≠ gb320) := ⟨h19_⟩
              have n20_ : Aside0 (gb320 ≠ gb276) := ⟨h20_⟩
              have n21_ : Aside0 (gb282 ≠ gb320) := ⟨h21_⟩
              have n22_ : Aside0 (gb320 ≠ gb282) := ⟨h22_⟩
              have n23_ : Aside0 (gb292 ≠ gb320) := ⟨h23_⟩
              have n24_ : Aside0 (gb320 ≠ gb292) := ⟨h24_⟩
              have n25_ : Aside0 (Below w.heap.size w w113) := ⟨h25_⟩
              clear HO266 HO274 HO281 HO290 HO298 BK258 BK259 BK276 BK282 BK292 HB h0_ h1_ h2_ h3_ h4_ h5_ h6_ h7_ h8_ h9_ h10_ h11_ h12_ h13_ h14_ h15_ h16_ h17_ h18_ h19_ h20_ h21_ h22_ h23_ h24_ h25_; have HO266 := n0_; have HO274 := n1_; have HO281 := n2_; have HO290 := n3_; have HO298 := n4_; have HO310 := n5_; have HO318 := n6_; have BK258 := n7_; have BK259 := n8_; have BK276 := n9_; have BK282 := n10_; have BK292 := n11_; have BK320 := n12_; have GW320 := n13_; have GE320 := n14_; have NB258_320 := n15_; have NB320_258 := n16_; have NB259_320 := n17_; have NB320_259 := n18_; have NB276_320 := n19_; have NB320_276 := n20_; have NB282_320 := n21_; have NB320_282 := n22_; have NB292_320 := n23_; have NB320_292 := n24_; have HB := n25_; clear n0_ n1_ n2_ n3_ n4_ n5_ n6_ n7_ n8_ n9_ n10_ n11_ n12_ n13_ n14_ n15_ n16_ n17_ n18_ n19_ n20_ n21_ n22_ n23_ n24_ n25_
              have hHeld : w113.cell? ⟨gb258, 0, none⟩ = some (.int .i64 a0_0) ∧ w113.cell? ⟨gb258, 1, none⟩ = some (.int .i64 a0_1) ∧ w113.cell? ⟨gb258, 2, none⟩ = some (.slice A0_2 l0_2.length c0_2) ∧ w113.cell? ⟨gb259, 0, none⟩ = some (.int .i64 a2_0) ∧ w113.cell? ⟨gb259, 1, none⟩ = some (.int .i64 a2_1) ∧ w113.cell? ⟨gb259, 2, none⟩ = some (.string a2_2) := hS_
              obtain ⟨Ao116, co116, eo116⟩ := Kd.R_slice HO318.out
              (first | subst eo116 | (injection eo116 with f1_ f2_ f3_; have f4_ := f1_.symm; have f5_ := f3_.symm; clear f1_ f2_ f3_; subst f4_; subst f5_))
              refine norm_ (a' := ?_) ?_ ?_
              rotate_left
              ·simp only [putAll, Act.put, List.setIfInBounds_toArray, List.set_cons_zero, List.set_cons_succ]
               rfl
              refine oA HT_.out 10 none 12 2047 (fun K hK => ?_)
              have hs114 := czA BK320.out 0 (.int .i64 0)
              have hfs114 := blk_frozen BK320.out 0; have hns114_0 := NB258_320.out; have hns114_1 := NB259_320.out; have hns114_2 := NB276_320.out; have hns114_3 := NB282_320.out; have hns114_4 := NB292_320.out; have hms114_0 := NB320_258.out; have hms114_1 := NB320_259.out; have hms114_2 := NB320_276.out; have hms114_3 := NB320_282.out; have hms114_4 := NB320_292.out
              have hs115 := czA BK320.out 1 (.int .i64 0)
              have hfs115 := blk_frozen BK320.out 1; have hns115_0 := NB258_320.out; have hns115_1 := NB259_320.out; have hns115_2 := NB276_320.out; have hns115_3 := NB282_320.out; have hns115_4 := NB292_320.out; have hms115_0 := NB320_258.out; have hms115_1 := NB320_259.out; have hms115_2 := NB320_276.out; have hms115_3 := NB320_282.out; have hms115_4 := NB320_292.out
              have hs117 := czA BK320.out 2 (.slice none 0 0)
              have hfs117 := blk_frozen BK320.out 2; have hns117_0 := NB258_320.out; have hns117_1 := NB259_320.out; have hns117_2 := NB276_320.out; have hns117_3 := NB282_320.out; have hns117_4 := NB292_320.out; have hms117_0 := NB320_258.out; have hms117_1 := NB320_259.out; have hms117_2 := NB320_276.out; have hms117_3 := NB320_282.out; have hms117_4 := NB320_292.out
              refine skip_ (w1 := ?_) (by rfl) rfl ?_ ?_
              rotate_left
              ·go_simp
               rfl
              refine hK.out _ _ ⟨((cell_far (p := ⟨gb320, _, none⟩) NB258_320.out _).trans (((cell_far (p := ⟨gb320, _, none⟩) NB258_320.out _).trans (((cell_far (p := ⟨gb320, _, none⟩) NB258_320.out _).trans (hHeld.1)))))), ((cell_far (p := ⟨gb320, _, none⟩) NB258_320.out _).trans (((cell_far (p := ⟨gb320, _, none⟩) NB258_320.out _).trans (((cell_far (p := ⟨gb320, _, none⟩) NB258_320.out _).trans (hHeld.2.1)))))), ((cell_far (p := ⟨gb320, _, none⟩) NB258_320.out _).trans (((cell_far (p := ⟨gb320, _, none⟩) NB258_320.out _).trans (((cell_far (p := ⟨gb320, _, none⟩) NB258_320.out _).trans (hHeld.2.2.1)))))), ((cell_far (p := ⟨gb320, _, none⟩) NB259_320.out _).trans (((cell_far (p := ⟨gb320, _, none⟩) NB259_320.out _).trans (((cell_far (p := ⟨gb320, _, none⟩) NB259_320.out _).trans (hHeld.2.2.2.1)))))), ((cell_far (p := ⟨gb320, _, none⟩) NB259_320.out _).trans (((cell_far (p := ⟨gb320, _, none⟩) NB259_320.out _).trans (((cell_far (p := ⟨gb320, _, none⟩) NB259_320.out _).trans (hHeld.2.2.2.2.1)))))), ((cell_far (p := ⟨gb320, _, none⟩) NB259_320.out _).trans (((cell_far (p := ⟨gb320, _, none⟩) NB259_320.out _).trans (((cell_far (p := ⟨gb320, _, none⟩) NB259_320.out _).trans (hHeld.2.2.2.2.2))))))⟩ (fun hHeld => ?_)
              clear hK K
              refine pA HT_.out 11 17 12 4095 ?_
              refine done_ (done_of HT_.out (by kernel_rfl)) ?_
              have hnb118 := NB320_258.out; have hnc118 := NB258_320.out; have hnb119 := NB320_259.out; have hnc119 := NB259_320.out; have hnb120 := NB320_276.out; have hnc120 := NB276_320.out; have hnb121 := NB320_282.out; have hnc121 := NB282_320.out; have hnb122 := NB320_292.out; have hnc122 := NB292_320.out
              have hcz123_0 := czA BK320.out 0 (.int .i64 0)
              have hcz123_1 := czA BK320.out 1 (.int .i64 0)
              have hcz123_2 := czA BK320.out 2 (.slice none 0 0)
              have hfz123_0 := blk_frozen BK320.out 0; have hfz123_1 := blk_frozen BK320.out 1; have hfz123_2 := blk_frozen BK320.out 2
              have hcz124_0 := czA BK276.out 0 (.int .i64 t270)
              have hcz124_1 := czA BK276.out 1 (.int .i64 t271)
              have hcz124_2 := czA BK276.out 2 (.slice Ao65 t272.length co65)
              have hfz124_0 := blk_frozen BK276.out 0; have hfz124_1 := blk_frozen BK276.out 1; have hfz124_2 := blk_frozen BK276.out 2
              try go_wp2_with (first | ((with_reducible refine gate_callee (f := 17) rfl ?_); refine gL (some 99) Try.func17 #[.agg #[.int .i64 t314, .int .i64 t315, .slice Ao116 t316.length co116], .agg #[.int .i64 t270, .int .i64 t271, .slice Ao65 t272.length co65]] ?_; (with_reducible refine (laws_eqLog.calls k t314 t315 _ _ t316 t270 t271 _ _ t272 true _ ?side1 ?side2 ?side3 ?side4 A43.out).mono ?_); (case side1 => refine (Kd.R_reads' (e := 40) (base := w.heap.size) (ok := fun k_ => (some k_ ≠ (v265 : Value).ownBlock ∧ (some k_ ≠ (.slice Ao65 t272.length co65 : Value).ownBlock ∧ (some k_ ≠ (.slice Ao75 t279.length co75 : Value).ownBlock ∧ (some k_ ≠ (.slice Ao84 t288.length co84 : Value).ownBlock ∧ (some k_ ≠ (.slice Ao96 t296.length co96 : Value).ownBlock ∧ some k_ ≠ (v309 : Value).ownBlock)))))) (n := t316.length) (c := co116) ?_).2.2; exact (by (with_reducible repeat first | apply rA | apply rN | apply rD); exact (Kd.R_mono (Kd.R_far (p := ⟨gb320, 2, none⟩) (Kd.R_far (p := ⟨gb320, 1, none⟩) (Kd.R_far (p := ⟨gb320, 0, none⟩) (Kd.R_types HO318.out BK320.out (by decide)) (fun _ hk => hk.2) (.int .i64 t314)) (fun _ hk => hk.2) (.int .i64 t315)) (fun _ hk => hk.2) (.slice Ao116 t316.length co116)) (fun _ h_ => h_.1)))); (case side2 => exact (Kd.R_reads' HO318.out).2.1); (case side3 => refine (Kd.R_reads' (e := 40) (base := w.heap.size) (ok := fun k_ => (some k_ ≠ (v265 : Value).ownBlock ∧ (some k_ ≠ (.slice Ao75 t279.length co75 : Value).ownBlock ∧ (some k_ ≠ (.slice Ao84 t288.length co84 : Value).ownBlock ∧ (some k_ ≠ (.slice Ao96 t296.length co96 : Value).ownBlock ∧ (some k_ ≠ (v309 : Value).ownBlock ∧ some k_ ≠ (.slice Ao116 t316.length co116 : Value).ownBlock)))))) (n := t272.length) (c := co65) ?_).2.2; exact (by (with_reducible repeat first | apply rA | apply rN | apply rD); exact (Kd.R_mono (Kd.R_far (p := ⟨gb320, 2, none⟩) (Kd.R_far (p := ⟨gb320, 1, none⟩) (Kd.R_far (p := ⟨gb320, 0, none⟩) (Kd.R_types HO274.out BK320.out (by decide)) (fun _ hk => hk.2) (.int .i64 t314)) (fun _ hk => hk.2) (.int .i64 t315)) (fun _ hk => hk.2) (.slice Ao116 t316.length co116)) (fun _ h_ => h_.1)))); (case side4 => exact (Kd.R_reads' HO274.out).2.1); rintro e w125 ⟨rfl, hb⟩; refine ⟨_, rfl, ?_⟩; replace HO266 := aM (Kd.R_below (by (with_reducible repeat first | apply rA | apply rN | apply rD); exact (Kd.R_mono (Kd.R_far (p := ⟨gb320, 2, none⟩) (Kd.R_far (p := ⟨gb320, 1, none⟩) (Kd.R_far (p := ⟨gb320, 0, none⟩) (Kd.R_types HO266.out BK320.out (by decide)) (fun _ hk => hk.2) (.int .i64 t314)) (fun _ hk => hk.2) (.int .i64 t315)) (fun _ hk => hk.2) (.slice Ao116 t316.length co116)) (fun _ h_ => h_.1))) hb); replace HO274 := aM (Kd.R_below (by (with_reducible repeat first | apply rA | apply rN | apply rD); exact (Kd.R_mono (Kd.R_far (p := ⟨gb320, 2, none⟩) (Kd.R_far (p := ⟨gb320, 1, none⟩) (Kd.R_far (p := ⟨gb320, 0, none⟩) (Kd.R_types HO274.out BK320.out (by decide)) (fun _ hk => hk.2) (.int .i64 t314)) (fun _ hk => hk.2) (.int .i64 t315)) (fun _ hk => hk.2) (.slice Ao116 t316.length co116)) (fun _ h_ => h_.1))) hb); replace HO281 := aM (Kd.R_below (by (with_reducible repeat first | apply rA | apply rN | apply rD); exact (Kd.R_mono (Kd.R_far (p := ⟨gb320, 2, none⟩) (Kd.R_far (p := ⟨gb320, 1, none⟩) (Kd.R_far (p := ⟨gb320, 0, none⟩) (Kd.R_types HO281.out BK320.out (by decide)) (fun _ hk => hk.2) (.int .i64 t314)) (fun _ hk => hk.2) (.int .i64 t315)) (fun _ hk => hk.2) (.slice Ao116 t316.length co116)) (fun _ h_ => h_.1))) hb); replace HO290 := aM (Kd.R_below (by (with_reducible repeat first | apply rA | apply rN | apply rD); exact (Kd.R_mono (Kd.R_far (p := ⟨gb320, 2, none⟩) (Kd.R_far (p := ⟨gb320, 1, none⟩) (Kd.R_far (p := ⟨gb320, 0, none⟩) (Kd.R_types HO290.out BK320.out (by decide)) (fun _ hk => hk.2) (.int .i64 t314)) (fun _ hk => hk.2) (.int .i64 t315)) (fun _ hk => hk.2) (.slice Ao116 t316.length co116)) (fun _ h_ => h_.1))) hb); replace HO298 := aM (Kd.R_below (by (with_reducible repeat first | apply rA | apply rN | apply rD); exact (Kd.R_mono (Kd.R_far (p := ⟨gb320, 2, none⟩) (Kd.R_far (p := ⟨gb320, 1, none⟩) (Kd.R_far (p := ⟨gb320, 0, none⟩) (Kd.R_types HO298.out BK320.out (by decide)) (fun _ hk => hk.2) (.int .i64 t314)) (fun _ hk => hk.2) (.int .i64 t315)) (fun _ hk => hk.2) (.slice Ao116 t316.length co116)) (fun _ h_ => h_.1))) hb); replace HO310 := aM (Kd.R_below (by (with_reducible repeat first | apply rA | apply rN | apply rD); exact (Kd.R_mono (Kd.R_far (p := ⟨gb320, 2, none⟩) (Kd.R_far (p := ⟨gb320, 1, none⟩) (Kd.R_far (p := ⟨gb320, 0, none⟩) (Kd.R_types HO310.out BK320.out (by decide)) (fun _ hk => hk.2) (.int .i64 t314)) (fun _ hk => hk.2) (.int .i64 t315)) (fun _ hk => hk.2) (.slice Ao116 t316.length co116)) (fun _ h_ => h_.1))) hb); replace HO318 := aM (Kd.R_below (by (with_reducible repeat first | apply rA | apply rN | apply rD); exact (Kd.R_mono (Kd.R_far (p := ⟨gb320, 2, none⟩) (Kd.R_far (p := ⟨gb320, 1, none⟩) (Kd.R_far (p := ⟨gb320, 0, none⟩) (Kd.R_types HO318.out BK320.out (by decide)) (fun _ hk => hk.2) (.int .i64 t314)) (fun _ hk => hk.2) (.int .i64 t315)) (fun _ hk => hk.2) (.slice Ao116 t316.length co116)) (fun _ h_ => h_.1))) hb); replace BK258 := blkB BK258 hb; replace BK259 := blkB BK259 hb; replace BK276 := blkB BK276 hb; replace BK282 := blkB BK282 hb; replace BK292 := blkB BK292 hb; replace BK320 := aM (blk_below (g := gb320) (o := .cells #[.int .i64 t314, .int .i64 t315, .slice Ao116 t316.length co116] 30 (0, 0)) (by refine nB ?_; refine blk_put (cs := #[.int .i64 t314, .int .i64 t315, .slice none 0 0]) ?_ 2 _ rfl; refine nB ?_; refine blk_put (cs := #[.int .i64 t314, .int .i64 0, .slice none 0 0]) ?_ 1 _ rfl; refine nB ?_; refine blk_put (cs := #[.int .i64 0, .int .i64 0, .slice none 0 0]) ?_ 0 _ rfl; exact nB BK320.out) hb); replace HB := aM (below_step (uL HB) hb); try clear hb; have hcz126_0 := czA BK292.out 0 (.int .i64 t286); have hcz126_1 := czA BK292.out 1 (.int .i64 t287); have hcz126_2 := czA BK292.out 2 (.slice Ao84 t288.length co84); have hfz126_0 := blk_frozen BK292.out 0; have hfz126_1 := blk_frozen BK292.out 1; have hfz126_2 := blk_frozen BK292.out 2) | ((with_reducible refine gate_callee (f := 31) rfl ?_); refine goesL_ (some 108) rfl rfl Try.func31 (by kernel_rfl) rfl #[.agg #[.int .i64 t286, .int .i64 t287, .slice Ao84 t304.length co84], .int .i64 1] rfl (by (try simp only [List.map_toArray, List.map_cons, List.map_nil]); first | done | (rw [show t304.length = t288.length from (Kd.R_reads' HO290.out).1.symm] <;> rfl) | rfl | (simp only [List.length_drop, List.length_take]; rfl)) ?_; (with_reducible refine (laws_heldLog.calls k t286 t287 _ _ t304 1 t322 _ ?side1 ?side2 A46.out).mono ?_); (case side1 => repeat (first | exact (Kd.R_reads' HO290.out).2.2 | (with_reducible refine cA ?_ _) | (with_reducible refine cN ?_ _) | (with_reducible refine cD ?_))); (case side2 => rw [show t304.length = t288.length from (Kd.R_reads' HO290.out).1.symm]; exact (Kd.R_reads' HO290.out).2.1); rintro e w127 ⟨rfl, hb⟩; refine ⟨_, rfl, ?_⟩; replace HO266 := aM (Kd.R_below (uR HO266) hb); replace HO274 := aM (Kd.R_below (uR HO274) hb); replace HO281 := aM (Kd.R_below (uR HO281) hb); replace HO290 := aM (Kd.R_below (uR HO290) hb); replace HO298 := aM (Kd.R_below (uR HO298) hb); replace HO310 := aM (Kd.R_below (uR HO310) hb); replace HO318 := aM (Kd.R_below (uR HO318) hb); replace BK258 := blkB BK258 hb; replace BK259 := blkB BK259 hb; replace BK276 := blkB BK276 hb; replace BK282 := blkB BK282 hb; replace BK292 := blkB BK292 hb; replace BK320 := blkB BK320 hb; replace HB := aM (below_step (uL HB) hb); try clear hb))
              go_ret
              exact rX HB
             ·rw [if_neg c48] at H
              exact absurd H (by simp)
          ·replace c44 := Bool.eq_false_iff.mpr c44
           subst c44
           have H1 : (none) = some r := by rw [if_neg (show ¬ (false = true) by decide)] at H; exact H
           clear H; have H := H1; clear H1
           exact absurd H (by simp)
         ·rw [if_neg c39] at H
          exact absurd H (by simp)
       ·replace c35 := Bool.eq_false_iff.mpr c35
        subst c35
        have H1 : (none) = some r := by rw [if_neg (show ¬ (false = true) by decide)] at H; exact H
        clear H; have H := H1; clear H1
        exact absurd H (by simp)
     ·replace c31 := Bool.eq_false_iff.mpr c31
      subst c31
      have H1 : (none) = some r := by rw [if_neg (show ¬ (false = true) by decide)] at H; exact H
      clear H; have H := H1; clear H1
      exact absurd H (by simp)
   ·replace c27 := Bool.eq_false_iff.mpr c27
    subst c27
    have H1 : (none) = some r := by rw [if_neg (show ¬ (false = true) by decide)] at H; exact H
    clear H; have H := H1; clear H1
    exact absurd H (by simp)

end Go.Proofs.Ytacdceahdbaonaa.QFnExactLogPut
