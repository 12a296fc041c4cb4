-- Own work (wip/turnprint.py over the kit's print).
import Derived.Test.YthomiofokkkhgaaDoorQFnExactSnapActsx0
import Derived.Test.YthomiofokkkhgaaDoorQFnExactSnapActsx6
import Derived.Test.YthomiofokkkhgaaDoorQFnExactSnapActsx7
namespace Go.Proofs.YthomiofokkkhgaaDoor.QFnExactSnapActs
open Go.RowKit Go.Proofs.YthomiofokkkhgaaDoorW.PrintWords Go.Proofs.YthomiofokkkhgaaDoorW.PrintLast Go.Proofs.YthomiofokkkhgaaDoorW.PrintMore
attribute [local go_sem] max2_int min2_int max_two min_two max_three min_three max_four min_four   -- for this text's walks alone
set_option linter.unusedVariables false
set_option linter.unusedSimpArgs false

/-! ### impl_SnapText: function 32 -/
def impl_SnapText.j0 : Nat → Bool → Int → Int → List Int → ByteArray → Option (ByteArray × Bool)
 | 0, _, _, _, _, _ => none
 | k + 1, x27, x273000, x273001, x273002, x273003 => if x27 = true then (some ((⟨#[]⟩ : ByteArray), false)) else ((impl_varText.f k x273000).bind fun t276 => ((impl_varText.f k x273001).bind fun t277 => (if t276.size + t277.size ≤ 9223372036854775807 then ((impl_octets.f k x273002).bind fun t278 => ((impl_shortText.f k t278).bind fun t279 => (if (t276 ++ t277).size + t279.size ≤ 9223372036854775807 then ((impl_shortText.f k x273003).bind fun t280 => (if ((t276 ++ t277) ++ t279).size + t280.size ≤ 9223372036854775807 then ((impl_Sealed.f k (((t276 ++ t277) ++ t279) ++ t280)).bind fun bt281 => (if bt281.2 = true then (if (bt281.1.size : Int) > 20000 then (some ((⟨#[]⟩ : ByteArray), false)) else (some (bt281.1, true))) else (some ((⟨#[]⟩ : ByteArray), false)))) else (none))) else (none)))) else (none))))
def impl_SnapText.f (k : Nat) (a0_0 : Int) (a0_1 : Int) (l0_2 : List Int) (a0_3 : ByteArray) : Option (ByteArray × Bool) := (impl_isIndex.f a0_0).bind fun t273 => (if t273 = true then ((impl_isTerm.f a0_1).bind fun t274 => (if t274 = true then ((impl_ConfOk.f k l0_2).bind fun t275 => (if t275 = true then (impl_SnapText.j0 k (decide ((a0_3.size : Int) > 20000)) a0_0 a0_1 l0_2 a0_3) else (impl_SnapText.j0 k true a0_0 a0_1 l0_2 a0_3))) else (impl_SnapText.j0 k true a0_0 a0_1 l0_2 a0_3))) else (impl_SnapText.j0 k true a0_0 a0_1 l0_2 a0_3))
theorem impl_SnapText.mono_l : ∀ k, (∀ y0 y1 y2 y3 y4, LeO (impl_SnapText.j0 k y0 y1 y2 y3 y4) (impl_SnapText.j0 (k + 1) y0 y1 y2 y3 y4))
 | 0 => fun _ _ _ _ _ r h => by simp [impl_SnapText.j0] at h
 | k + 1 => by
  have ih0 := impl_SnapText.mono_l k
  ·intro y0 y1 y2 y3 y4
   unfold impl_SnapText.j0
   repeat' first
   | (with_reducible exact ih0 _ _ _ _ _)
   | (with_reducible exact impl_ConfOk.mono _ _)
   | (with_reducible exact impl_Sealed.mono _ _)
   | (with_reducible exact impl_octets.mono _ _)
   | (with_reducible exact impl_shortText.mono _ _)
   | (with_reducible exact impl_varText.mono _ _)
   | (with_reducible exact LeO.refl _)
   | (with_reducible exact LeO.none _)
   | (with_reducible refine LeO.ite ?_ ?_)
   | (with_reducible refine LeO.bind ?_ (fun _ => ?_))
   | exact ih0 _ _ _ _ _
   | exact impl_ConfOk.mono _ _
   | exact impl_Sealed.mono _ _
   | exact impl_octets.mono _ _
   | exact impl_shortText.mono _ _
   | exact impl_varText.mono _ _
   | exact LeO.none _
   | refine LeO.ite ?_ ?_
   | refine LeO.bind ?_ (fun _ => ?_)
theorem impl_SnapText.mono : ∀ a0 a1 a2 a3 k, LeO (impl_SnapText.f k a0 a1 a2 a3) (impl_SnapText.f (k + 1) a0 a1 a2 a3) := by
 intro a0 a1 a2 a3 k
 have ih0 := impl_SnapText.mono_l k
 unfold impl_SnapText.f
 repeat' first
  | (with_reducible exact ih0 _ _ _ _ _)
  | (with_reducible exact impl_ConfOk.mono _ _)
  | (with_reducible exact impl_Sealed.mono _ _)
  | (with_reducible exact impl_octets.mono _ _)
  | (with_reducible exact impl_shortText.mono _ _)
  | (with_reducible exact impl_varText.mono _ _)
  | (with_reducible exact LeO.refl _)
  | (with_reducible exact LeO.none _)
  | (with_reducible refine LeO.ite ?_ ?_)
  | (with_reducible refine LeO.bind ?_ (fun _ => ?_))
  | exact ih0 _ _ _ _ _
  | exact impl_ConfOk.mono _ _
  | exact impl_Sealed.mono _ _
  | exact impl_octets.mono _ _
  | exact impl_shortText.mono _ _
  | exact impl_varText.mono _ _
  | exact LeO.none _
  | refine LeO.ite ?_ ?_
  | refine LeO.bind ?_ (fun _ => ?_)
def impl_SnapText.T3 : Bool × List (List Nat × List Nat) := (true, [([], []), ([0], [0]), ([1], [1]), ([], []), ([3], [3]), ([4, 2], [4]), ([2, 5], [2, 5]), ([], []), ([7], [7]), ([8, 5], [8]), ([9, 9], [9]), ([6, 10], [6, 10]), ([], []), ([12], [12]), ([13, 10], [13]), ([11, 14], [11, 14]), ([15, 14], [15]), ([16], [16]), ([17], [17]), ([17], [17]), ([18, 16, 0, 1, 2, 3, 4, 5, 6, 7, 8, 9, 10, 11, 12, 13, 14, 15, 16, 17, 18], [18]), ([19, 20, 0, 1, 2, 3, 4, 5, 6, 7, 8, 9, 10, 11, 12, 13, 14, 15, 16, 17, 18, 19, 20], [19])])
def impl_SnapText.B3 : List Nat := [0, 1, 3, 0, 8, 31, 63, 0, 128, 447, 959, 2047, 0, 4096, 14271, 32767, 65535, 131071, 262143, 262143, 524287, 2097151]
theorem impl_SnapText.tab3 : rtab .any (opsOf Tryd.f32 3) = impl_SnapText.T3 := by kernel_rfl
theorem impl_SnapText.bits3 : waitsOk impl_SnapText.T3.2 impl_SnapText.B3 = true := by kernel_rfl
set_option maxHeartbeats 8000000 in
set_option maxRecDepth 100000 in
theorem impl_SnapText.calls (k : Nat) (a0_0 : Int) (a0_1 : Int) (A0_2 : Option Addr) (c0_2 : Nat) (l0_2 : List Int) (a0_3 : ByteArray) (r1 : ByteArray) (r2 : Bool) (w : World) (hr0_2 : Kd.C (Kd.int .i64) w A0_2 l0_2.length l0_2) (hc0_2 : l0_2.length ≤ c0_2) (h : impl_SnapText.f k a0_0 a0_1 l0_2 a0_3 = some (r1, r2)) :
 Calls Tryd.prog 32 #[.agg #[.int .i64 a0_0, .int .i64 a0_1, .slice A0_2 l0_2.length c0_2, .string a0_3]] w fun e w' => e = .returned (.tuple #[.string r1, .bool r2]) ∧ Below w.heap.size w w' := by
 have hu37 := Tryd.underlying37
 have HR0_2 := aM hr0_2
 have HC0_2 := aM hc0_2
 clear hr0_2 hc0_2
 have HB := aM (Below.refl w.heap.size w)
 have H : ((impl_isIndex.f a0_0).bind fun t273 => (if t273 = true then ((impl_isTerm.f a0_1).bind fun t274 => (if t274 = true then ((impl_ConfOk.f k l0_2).bind fun t275 => (if t275 = true then (impl_SnapText.j0 k (decide ((a0_3.size : Int) > 20000)) a0_0 a0_1 l0_2 a0_3) else (impl_SnapText.j0 k true a0_0 a0_1 l0_2 a0_3))) else (impl_SnapText.j0 k true a0_0 a0_1 l0_2 a0_3))) else (impl_SnapText.j0 k true a0_0 a0_1 l0_2 a0_3))) = some (r1, r2) := h
 clear h
 have HC2 := aM H
 clear H
 go_enter Tryd.func32, Tryd.ntmps32
 go_upto_region 1 with (first | ((with_reducible refine gate_dst (N := 1) rfl ?_); (try (refine gate_guard (by rfl) ?_; dsimp only)); refine bxE 1 #[.int .i64 a0_0, .int .i64 a0_1, .slice A0_2 l0_2.length c0_2, .string a0_3] 37 ?_; intro gb272 hg w3 hbox hb; have BK272 := aM (hbox); have GW272 := szG hg (uL HB); have GE272 := szG hg (uL HB); replace HB := aM (below_step (uL HB) hb); clear hb hbox hg))
 (try simp only [Act.put, List.setIfInBounds_toArray, List.set_cons_zero, List.set_cons_succ])
 go_cut [27] (fun v27 wc => ∃ (kq : Nat) (x27_1 : Bool), v27 = .bool x27_1 ∧ Aside0 (impl_SnapText.j0 kq x27_1 a0_0 a0_1 l0_2 a0_3 = some (r1, r2)) ∧ Aside0 (kq ≤ k) ∧ Aside0 (wc.heap[gb272]? = some (.cells #[.int .i64 a0_0, .int .i64 a0_1, (.slice A0_2 l0_2.length c0_2), .string a0_3] 37 (0, 0))) ∧ Aside0 (Below w.heap.size w wc))
 case first =>
  have H := HC2.out
  clear HC2
  replace H := Option.bind_eq_some_iff.mp H
  obtain ⟨t273, A40, H⟩ := H
  try dsimp only at H
  have A4 := aM A40
  clear A40
  by_cases c5 : t273 = true
  ·subst c5
   rw [if_pos rfl] at H
   replace H := Option.bind_eq_some_iff.mp H
   obtain ⟨t274, A60, H⟩ := H
   try dsimp only at H
   have A6 := aM A60
   clear A60
   by_cases c7 : t274 = true
   ·subst c7
    rw [if_pos rfl] at H
    replace H := Option.bind_eq_some_iff.mp H
    obtain ⟨t275, A80, H⟩ := H
    try dsimp only at H
    have A8 := aM A80
    clear A80
    by_cases c9 : t275 = true
    ·subst c9
     have H1 : (impl_SnapText.j0 k (decide ((a0_3.size : Int) > 20000)) a0_0 a0_1 l0_2 a0_3) = some (r1, r2) := by rw [if_pos rfl] at H; exact H
     clear H; have H := H1; clear H1
     have H' := aM H
     clear H
     have hcz10_0 := czA BK272.out 0 (.int .i64 a0_0)
     have hcz10_1 := czA BK272.out 1 (.int .i64 a0_1)
     have hcz10_2 := czA BK272.out 2 (.slice A0_2 l0_2.length c0_2)
     have hcz10_3 := czA BK272.out 3 (.string a0_3)
     have hfz10_0 := blk_frozen BK272.out 0; have hfz10_1 := blk_frozen BK272.out 1; have hfz10_2 := blk_frozen BK272.out 2; have hfz10_3 := blk_frozen BK272.out 3
     go_wp2_with (first | ((with_reducible refine gate_callee (f := 61) rfl ?_); refine gL (some 8) Tryd.func61 #[.int .i64 a0_0] ?_; (with_reducible refine (impl_isIndex.calls a0_0 true _ A4.out).mono ?_); rintro e w' ⟨rfl, ⟨nd, rfl⟩⟩; refine ⟨_, rfl, ?_⟩) | (go_at_call 62; (with_reducible refine (impl_isTerm.calls a0_1 true _ A6.out).mono ?_); rintro e w' ⟨rfl, ⟨nd, rfl⟩⟩) | (go_at_call 63; (with_reducible refine (impl_ConfOk.calls k _ _ l0_2 true _ ?side1 ?side2 A8.out).mono ?_); (case side1 => repeat (first | exact (Kd.C_below HR0_2.out (uL HB)) | (with_reducible refine cA ?_ _) | (with_reducible refine cN ?_ _) | (with_reducible refine cD ?_))); (case side2 => exact HC0_2.out); rintro e w' ⟨rfl, ⟨nd, rfl⟩⟩))
     go_meet
     case rel => exact ⟨_, (decide ((a0_3.size : Int) > 20000)), (by first | rfl | (simp; done) | (simp [*]; done)), H', ⟨by first | omega | exact Nat.le_refl _⟩, ⟨by exact nB BK272.out⟩, ⟨uL HB⟩⟩
    ·replace c9 := Bool.eq_false_iff.mpr c9
     subst c9
     have H1 : (impl_SnapText.j0 k true a0_0 a0_1 l0_2 a0_3) = some (r1, r2) := by rw [if_neg (show ¬ (false = true) by decide)] at H; exact H
     clear H; have H := H1; clear H1
     have H' := aM H
     clear H
     have hcz11_0 := czA BK272.out 0 (.int .i64 a0_0)
     have hcz11_1 := czA BK272.out 1 (.int .i64 a0_1)
     have hcz11_2 := czA BK272.out 2 (.slice A0_2 l0_2.length c0_2)
     have hcz11_3 := czA BK272.out 3 (.string a0_3)
     have hfz11_0 := blk_frozen BK272.out 0; have hfz11_1 := blk_frozen BK272.out 1; have hfz11_2 := blk_frozen BK272.out 2; have hfz11_3 := blk_frozen BK272.out 3
     go_wp2_with (first | ((with_reducible refine gate_callee (f := 61) rfl ?_); refine gL (some 8) Tryd.func61 #[.int .i64 a0_0] ?_; (with_reducible refine (impl_isIndex.calls a0_0 true _ A4.out).mono ?_); rintro e w' ⟨rfl, ⟨nd, rfl⟩⟩; refine ⟨_, rfl, ?_⟩) | (go_at_call 62; (with_reducible refine (impl_isTerm.calls a0_1 true _ A6.out).mono ?_); rintro e w' ⟨rfl, ⟨nd, rfl⟩⟩) | (go_at_call 63; (with_reducible refine (impl_ConfOk.calls k _ _ l0_2 false _ ?side1 ?side2 A8.out).mono ?_); (case side1 => repeat (first | exact (Kd.C_below HR0_2.out (uL HB)) | (with_reducible refine cA ?_ _) | (with_reducible refine cN ?_ _) | (with_reducible refine cD ?_))); (case side2 => exact HC0_2.out); rintro e w' ⟨rfl, ⟨nd, rfl⟩⟩))
     go_meet
     case rel => exact ⟨_, (true), (by first | rfl | (simp; done) | (simp [*]; done)), H', ⟨by first | omega | exact Nat.le_refl _⟩, ⟨by exact nB BK272.out⟩, ⟨uL HB⟩⟩
   ·replace c7 := Bool.eq_false_iff.mpr c7
    subst c7
    have H1 : (impl_SnapText.j0 k true a0_0 a0_1 l0_2 a0_3) = some (r1, r2) := by rw [if_neg (show ¬ (false = true) by decide)] at H; exact H
    clear H; have H := H1; clear H1
    have H' := aM H
    clear H
    have hcz12_0 := czA BK272.out 0 (.int .i64 a0_0)
    have hcz12_1 := czA BK272.out 1 (.int .i64 a0_1)
    have hcz12_2 := czA BK272.out 2 (.slice A0_2 l0_2.length c0_2)
    have hcz12_3 := czA BK272.out 3 (.string a0_3)
    have hfz12_0 := blk_frozen BK272.out 0; have hfz12_1 := blk_frozen BK272.out 1; have hfz12_2 := blk_frozen BK272.out 2; have hfz12_3 := blk_frozen BK272.out 3
    go_wp2_with (first | ((with_reducible refine gate_callee (f := 61) rfl ?_); refine gL (some 8) Tryd.func61 #[.int .i64 a0_0] ?_; (with_reducible refine (impl_isIndex.calls a0_0 true _ A4.out).mono ?_); rintro e w' ⟨rfl, ⟨nd, rfl⟩⟩; refine ⟨_, rfl, ?_⟩) | (go_at_call 62; (with_reducible refine (impl_isTerm.calls a0_1 false _ A6.out).mono ?_); rintro e w' ⟨rfl, ⟨nd, rfl⟩⟩))
    go_meet
    case rel => exact ⟨_, (true), (by first | rfl | (simp; done) | (simp [*]; done)), H', ⟨by first | omega | exact Nat.le_refl _⟩, ⟨by exact nB BK272.out⟩, ⟨uL HB⟩⟩
  ·replace c5 := Bool.eq_false_iff.mpr c5
   subst c5
   have H1 : (impl_SnapText.j0 k true a0_0 a0_1 l0_2 a0_3) = some (r1, r2) := by rw [if_neg (show ¬ (false = true) by decide)] at H; exact H
   clear H; have H := H1; clear H1
   have H' := aM H
   clear H
   have hcz13_0 := czA BK272.out 0 (.int .i64 a0_0)
   have hcz13_1 := czA BK272.out 1 (.int .i64 a0_1)
   have hcz13_2 := czA BK272.out 2 (.slice A0_2 l0_2.length c0_2)
   have hcz13_3 := czA BK272.out 3 (.string a0_3)
   have hfz13_0 := blk_frozen BK272.out 0; have hfz13_1 := blk_frozen BK272.out 1; have hfz13_2 := blk_frozen BK272.out 2; have hfz13_3 := blk_frozen BK272.out 3
   go_wp2_with (first | ((with_reducible refine gate_callee (f := 61) rfl ?_); refine gL (some 8) Tryd.func61 #[.int .i64 a0_0] ?_; (with_reducible refine (impl_isIndex.calls a0_0 false _ A4.out).mono ?_); rintro e w' ⟨rfl, ⟨nd, rfl⟩⟩; refine ⟨_, rfl, ?_⟩))
   go_meet
   case rel => exact ⟨_, (true), (by first | rfl | (simp; done) | (simp [*]; done)), H', ⟨by first | omega | exact Nat.le_refl _⟩, ⟨by exact nB BK272.out⟩, ⟨uL HB⟩⟩
 case rest =>
  clear HC2
  try clear p2; try clear c3; try clear c5; try clear c6; try clear c7; try clear c9; try clear hcz10_0; try clear hcz10_1; try clear hcz10_2; try clear hcz10_3; try clear hcz11_0; try clear hcz11_1; try clear hcz11_2; try clear hcz11_3; try clear hcz12_0; try clear hcz12_1; try clear hcz12_2; try clear hcz12_3; try clear hcz13_0; try clear hcz13_1; try clear hcz13_2; try clear hcz13_3; try clear hfz10_0; try clear hfz10_1; try clear hfz10_2; try clear hfz10_3; try clear hfz11_0; try clear hfz11_1; try clear hfz11_2; try clear hfz11_3; try clear hfz12_0; try clear hfz12_1; try clear hfz12_2; try clear hfz12_3; try clear hfz13_0; try clear hfz13_1; try clear hfz13_2; try clear hfz13_3
  obtain ⟨kq, x27_1, rfl, HA, HJ1, BK272, HB⟩ := hcut
  cases kq with
  | zero => exact absurd HA.out (by simp [impl_SnapText.j0])
  | succ kj1 =>
   have H := HA.out
   clear HA
   simp only [impl_SnapText.j0] at H
   refine Classical.byCases (p := x27_1 = true) (fun c14 => ?L1p) (fun c14 => ?L1n)
   case' L1p =>
    subst c14
    have H1 : (some ((⟨#[]⟩ : ByteArray), false)) = some (r1, r2) := by rw [if_pos rfl] at H; exact H
    clear H; have H := H1; clear H1
    simp only [Option.some.injEq, Prod.mk.injEq] at H
    obtain ⟨rfl, rfl⟩ := H
    go_wp2
    go_ret2
    exact rX HB
   case' L1n =>
    replace c14 := Bool.eq_false_iff.mpr c14
    subst c14
    rw [if_neg (show ¬ (false = true) by decide)] at H
    replace H := Option.bind_eq_some_iff.mp H
    obtain ⟨t276, A150, H⟩ := H
    try dsimp only at H
    have A15 := aM A150
    clear A150
    replace H := Option.bind_eq_some_iff.mp H
    obtain ⟨t277, A160, H⟩ := H
    try dsimp only at H
    have A16 := aM A160
    clear A160
    refine Classical.byCases (p := t276.size + t277.size ≤ 9223372036854775807) (fun c17 => ?L2p) (fun c17 => ?L2n)
    case' L2p =>
     rw [if_pos c17] at H
     have c17b0 := eq_true c17
     have c17b1 : decide (t276.size + t277.size ≤ 9223372036854775807) = true := decide_eq_true c17
     try have c17b2 : (9223372036854775807 < t276.size + t277.size) = False := eq_false (Nat.not_lt.2 c17)
     replace H := Option.bind_eq_some_iff.mp H
     obtain ⟨t278, A180, H⟩ := H
     try dsimp only at H
     have A18 := aM A180
     clear A180
     replace H := Option.bind_eq_some_iff.mp H
     obtain ⟨t279, A190, H⟩ := H
     try dsimp only at H
     have A19 := aM A190
     clear A190
     refine Classical.byCases (p := (t276 ++ t277).size + t279.size ≤ 9223372036854775807) (fun c20 => ?L3p) (fun c20 => ?L3n)
     case' L3p =>
      rw [if_pos c20] at H
      have c20b0 := eq_true c20
      have c20b1 : decide ((t276 ++ t277).size + t279.size ≤ 9223372036854775807) = true := decide_eq_true c20
      try have c20b2 : (9223372036854775807 < (t276 ++ t277).size + t279.size) = False := eq_false (Nat.not_lt.2 c20)
      try have c20b3 : (9223372036854775807 < t276.size + t277.size + t279.size) = False := eq_false (Nat.not_lt.2 (by have h_ := c20; simp only [ByteArray.size_append] at h_; exact h_))
      replace H := Option.bind_eq_some_iff.mp H
      obtain ⟨t280, A210, H⟩ := H
      try dsimp only at H
      have A21 := aM A210
      clear A210
      refine Classical.byCases (p := ((t276 ++ t277) ++ t279).size + t280.size ≤ 9223372036854775807) (fun c22 => ?L4p) (fun c22 => ?L4n)
      case' L4p =>
       rw [if_pos c22] at H
       have c22b0 := eq_true c22
       have c22b1 : decide (((t276 ++ t277) ++ t279).size + t280.size ≤ 9223372036854775807) = true := decide_eq_true c22
       try have c22b2 : (9223372036854775807 < ((t276 ++ t277) ++ t279).size + t280.size) = False := eq_false (Nat.not_lt.2 c22)
       try have c22b3 : (9223372036854775807 < t276.size + t277.size + t279.size + t280.size) = False := eq_false (Nat.not_lt.2 (by have h_ := c22; simp only [ByteArray.size_append] at h_; exact h_))
       replace H := Option.bind_eq_some_iff.mp H
       obtain ⟨⟨t281, t282⟩, A230, H⟩ := H
       try dsimp only at H
       have A23 := aM A230
       clear A230
       refine Classical.byCases (p := t282 = true) (fun c24 => ?L5p) (fun c24 => ?L5n)
       case' L5p =>
        subst c24
        have H1 : (if (t281.size : Int) > 20000 then (some ((⟨#[]⟩ : ByteArray), false)) else (some (t281, true))) = some (r1, r2) := by rw [if_pos rfl] at H; exact H
        clear H; have H := H1; clear H1
        refine Classical.byCases (p := (t281.size : Int) > 20000) (fun c25 => ?L6p) (fun c25 => ?L6n)
        case' L6p =>
         rw [if_pos c25] at H
         have c25b0 : decide (20000 < (t281.size : Int)) = true := decide_eq_true c25
         have c25b1 : decide (20000 < t281.size) = true := decide_eq_true (by omega)
         clear c25
         simp only [Option.some.injEq, Prod.mk.injEq] at H
         obtain ⟨rfl, rfl⟩ := H
        case' L6n =>
         rw [if_neg c25] at H
         have c25b0 : decide (20000 < (t281.size : Int)) = false := decide_eq_false c25
         have c25b1 : decide (20000 < t281.size) = false := decide_eq_false (by omega)
         clear c25
         simp only [Option.some.injEq, Prod.mk.injEq] at H
         obtain ⟨rfl, rfl⟩ := H
       case' L5n =>
        replace c24 := Bool.eq_false_iff.mpr c24
        subst c24
        have H1 : (some ((⟨#[]⟩ : ByteArray), false)) = some (r1, r2) := by rw [if_neg (show ¬ (false = true) by decide)] at H; exact H
        clear H; have H := H1; clear H1
        simp only [Option.some.injEq, Prod.mk.injEq] at H
        obtain ⟨rfl, rfl⟩ := H
      case' L4n =>
       rw [if_neg c22] at H
       exact absurd H (by simp)
     case' L3n =>
      rw [if_neg c20] at H
      exact absurd H (by simp)
    case' L2n =>
     rw [if_neg c17] at H
     exact absurd H (by simp)
   case L6p | L6n | L5n =>
    try go_wp2
    replace BK272 := aM (blk_drew BK272.out)
    replace HB := aM (below_drew1 HB.out)
    refine start_ (n := 22) (S := fun w' => w'.cell? ⟨gb272, 0, none⟩ = some (.int .i64 a0_0) ∧ w'.cell? ⟨gb272, 1, none⟩ = some (.int .i64 a0_1) ∧ w'.cell? ⟨gb272, 2, none⟩ = some (.slice A0_2 l0_2.length c0_2) ∧ w'.cell? ⟨gb272, 3, none⟩ = some (.string a0_3)) (ds := []) (bB 22 0) (by kernel_rfl) rfl rfl ⟨(blk_cell BK272.out 0).trans rfl, (blk_cell BK272.out 1).trans rfl, (blk_cell BK272.out 2).trans rfl, (blk_cell BK272.out 3).trans rfl⟩ (fun hHeld => ?_); refine with_tabW impl_SnapText.tab3 impl_SnapText.bits3 (fun HT_ HW_ => ?_)
    generalize wc.drew = w26 at BK272 HB hHeld ⊢
    refine pA HT_.out 0 29 22 1 ?_; refine pA HT_.out 3 32 22 9 ?_; refine pA HT_.out 7 36 22 137 ?_; refine pA HT_.out 12 41 22 4233 ?_; refine tA HT_.out HW_.out 1 30 22 4235 hHeld ?_; refine tA HT_.out HW_.out 4 33 22 4251 hHeld ?_; refine tA HT_.out HW_.out 8 37 22 4507 hHeld ?_; refine tA HT_.out HW_.out 13 42 22 12699 hHeld ?_
    refine oA HT_.out 2 (some 31) 22 12703 (fun K hK => ?_)
    refine gX Tryd.func65 #[.int .i64 a0_0] ?_
    with_reducible refine (impl_varText.calls kj1 a0_0 t276 _ A15.out).mono ?_
    rintro e w27 ⟨rfl, hb⟩
    refine ⟨_, rfl, ?_⟩
    replace BK272 := blkB BK272 hb
    replace HB := aM (below_step (uL HB) hb)
    (try clear hb)
    (try clear hb2)
    (try clear hk)
    (try clear hi)
    refine hK.out _ _ ⟨(blk_cell BK272.out 0).trans rfl, (blk_cell BK272.out 1).trans rfl, (blk_cell BK272.out 2).trans rfl, (blk_cell BK272.out 3).trans rfl⟩ (fun hHeld => ?_)
    clear hK K
    refine nX 31 ?_
    refine oA HT_.out 5 (some 34) 22 12735 (fun K hK => ?_)
    refine gX Tryd.func65 #[.int .i64 a0_1] ?_
    with_reducible refine (impl_varText.calls kj1 a0_1 t277 _ A16.out).mono ?_
    rintro e w28 ⟨rfl, hb⟩
    refine ⟨_, rfl, ?_⟩
    replace BK272 := blkB BK272 hb
    replace HB := aM (below_step (uL HB) hb)
    (try clear hb)
    (try clear hb2)
    (try clear hk)
    (try clear hi)
    refine hK.out _ _ ⟨(blk_cell BK272.out 0).trans rfl, (blk_cell BK272.out 1).trans rfl, (blk_cell BK272.out 2).trans rfl, (blk_cell BK272.out 3).trans rfl⟩ (fun hHeld => ?_)
    clear hK K
    refine nX 34 ?_; refine pA HT_.out 6 35 22 12799 ?_
    refine oA HT_.out 9 (some 38) 22 13311 (fun K hK => ?_)
    refine gX Tryd.func67 #[.slice A0_2 l0_2.length c0_2] ?_
    with_reducible refine (impl_octets.calls kj1 _ _ l0_2 t278 _ ?side1 ?side2 A18.out).mono ?_
    (case side1 => exact uC HR0_2 HB)
    (case side2 => exact HC0_2.out)
    rintro e w29 ⟨rfl, hb⟩
    refine ⟨_, rfl, ?_⟩
    replace BK272 := blkB BK272 hb
    replace HB := aM (below_step (uL HB) hb)
    (try clear hb)
    (try clear hb2)
    (try clear hk)
    (try clear hi)
    refine hK.out _ _ ⟨(blk_cell BK272.out 0).trans rfl, (blk_cell BK272.out 1).trans rfl, (blk_cell BK272.out 2).trans rfl, (blk_cell BK272.out 3).trans rfl⟩ (fun hHeld => ?_)
    clear hK K
    refine nX 38 ?_
    refine oA HT_.out 10 (some 39) 22 14335 (fun K hK => ?_)
    refine gX Tryd.func66 #[.string t278] ?_
    with_reducible refine (impl_shortText.calls kj1 t278 t279 _ A19.out).mono ?_
    rintro e w30 ⟨rfl, hb⟩
    refine ⟨_, rfl, ?_⟩
    replace BK272 := blkB BK272 hb
    replace HB := aM (below_step (uL HB) hb)
    (try clear hb)
    (try clear hb2)
    (try clear hk)
    (try clear hi)
    refine hK.out _ _ ⟨(blk_cell BK272.out 0).trans rfl, (blk_cell BK272.out 1).trans rfl, (blk_cell BK272.out 2).trans rfl, (blk_cell BK272.out 3).trans rfl⟩ (fun hHeld => ?_)
    clear hK K
    refine nX 39 ?_; refine pA HT_.out 11 40 22 16383 ?_
    refine oA HT_.out 14 (some 43) 22 32767 (fun K hK => ?_)
    refine gX Tryd.func66 #[.string a0_3] ?_
    with_reducible refine (impl_shortText.calls kj1 a0_3 t280 _ A21.out).mono ?_
    rintro e w31 ⟨rfl, hb⟩
    refine ⟨_, rfl, ?_⟩
    replace BK272 := blkB BK272 hb
    replace HB := aM (below_step (uL HB) hb)
    (try clear hb)
    (try clear hb2)
    (try clear hk)
    (try clear hi)
    refine hK.out _ _ ⟨(blk_cell BK272.out 0).trans rfl, (blk_cell BK272.out 1).trans rfl, (blk_cell BK272.out 2).trans rfl, (blk_cell BK272.out 3).trans rfl⟩ (fun hHeld => ?_)
    clear hK K
    refine nX 43 ?_; refine pA HT_.out 15 44 22 65535 ?_
    refine oA HT_.out 16 (some 45) 22 131071 (fun K hK => ?_)
    refine gX Tryd.func64 #[.string (((t276 ++ t277) ++ t279) ++ t280)] ?_
    with_reducible refine (impl_Sealed.calls kj1 (((t276 ++ t277) ++ t279) ++ t280) t281 _ _ A23.out).mono ?_
    rintro e w32 ⟨rfl, hb⟩
    refine ⟨_, rfl, ?_⟩
    replace BK272 := blkB BK272 hb
    replace HB := aM (below_step (uL HB) hb)
    (try clear hb)
    (try clear hb2)
    (try clear hk)
    (try clear hi)
    refine hK.out _ _ ⟨(blk_cell BK272.out 0).trans rfl, (blk_cell BK272.out 1).trans rfl, (blk_cell BK272.out 2).trans rfl, (blk_cell BK272.out 3).trans rfl⟩ (fun hHeld => ?_)
    clear hK K
    refine nX 45 ?_; refine pA HT_.out 17 28 22 262143 ?_; refine pA HT_.out 18 46 22 524287 ?_; refine pA HT_.out 19 47 22 1048575 ?_; refine pA HT_.out 20 4 22 2097151 ?_; refine pA HT_.out 21 5 22 4194303 ?_
    refine done_ (done_of HT_.out (by kernel_rfl)) ?_
    try go_wp2
    go_ret2
    exact rX HB

/-! ### impl_fileOk: function 68 -/
def impl_fileOk.f (a0_0 : ByteArray) (a0_1 : ByteArray) (a0_2 : Int) : Option (Bool) := (impl_inRange.f (a0_0.size : Int) 1 8).bind fun t284 => (if t284 = true then (if (a0_1.size : Int) ≤ 20000 then ((impl_inRange.f a0_2 0 (a0_1.size : Int)).bind fun t285 => (some t285)) else (some false)) else (some false))
set_option maxHeartbeats 8000000 in
set_option maxRecDepth 100000 in
theorem impl_fileOk.calls (a0_0 : ByteArray) (a0_1 : ByteArray) (a0_2 : Int) (r : Bool) (w : World) (h : impl_fileOk.f a0_0 a0_1 a0_2 = some r) :
 Calls Tryd.prog 68 #[.agg #[.string a0_0, .string a0_1, .int .i64 a0_2]] w fun e w' => e = .returned (.bool r) ∧ Below w.heap.size w w' := by
 have hu71 := Tryd.underlying71
 have HB := aM (Below.refl w.heap.size w)
 have H : ((impl_inRange.f (a0_0.size : Int) 1 8).bind fun t284 => (if t284 = true then (if (a0_1.size : Int) ≤ 20000 then ((impl_inRange.f a0_2 0 (a0_1.size : Int)).bind fun t285 => (some t285)) else (some false)) else (some false))) = some r := h
 clear h
 replace H := Option.bind_eq_some_iff.mp H
 obtain ⟨t284, A20, H⟩ := H
 try dsimp only at H
 have A2 := aM A20
 clear A20
 refine Classical.byCases (p := t284 = true) (fun c3 => ?L1p) (fun c3 => ?L1n)
 case' L1p =>
  subst c3
  rw [if_pos rfl] at H
  refine Classical.byCases (p := (a0_1.size : Int) ≤ 20000) (fun c4 => ?L2p) (fun c4 => ?L2n)
  case' L2p =>
   rw [if_pos c4] at H
   have c4b0 : decide ((a0_1.size : Int) ≤ 20000) = true := decide_eq_true c4
   have c4b1 : decide (a0_1.size ≤ 20000) = true := decide_eq_true (by omega)
   clear c4
   replace H := Option.bind_eq_some_iff.mp H
   obtain ⟨t285, A50, H⟩ := H
   replace H : (some t285) = some r := H
   have A5 := aM A50
   clear A50
   obtain rfl := Option.some.inj H
   go_enter Tryd.func68, Tryd.ntmps68
   go_wp2_with (first | ((with_reducible refine gate_dst (N := 1) rfl ?_); (try (refine gate_guard (by rfl) ?_; dsimp only)); refine bxE 1 #[.string a0_0, .string a0_1, .int .i64 a0_2] 71 ?_; intro gb283 hg w6 hbox hb; have BK283 := aM (hbox); have GW283 := szG hg (uL HB); have GE283 := szG hg (uL HB); replace HB := aM (below_step (uL HB) hb); clear hb hbox hg; have hcz7_0 := czA BK283.out 0 (.string a0_0); have hcz7_1 := czA BK283.out 1 (.string a0_1); have hcz7_2 := czA BK283.out 2 (.int .i64 a0_2); have hfz7_0 := blk_frozen BK283.out 0; have hfz7_1 := blk_frozen BK283.out 1; have hfz7_2 := blk_frozen BK283.out 2) | ((with_reducible refine gate_callee (f := 87) rfl ?_); refine gL (some 6) Tryd.func87 #[.int .i64 (a0_0.size : Int), .int .i64 1, .int .i64 8] ?_; (with_reducible refine (impl_inRange.calls (a0_0.size : Int) 1 8 true _ A2.out).mono ?_); rintro e w' ⟨rfl, ⟨nd, rfl⟩⟩; refine ⟨_, rfl, ?_⟩) | (go_at_call 87; (with_reducible refine (impl_inRange.calls a0_2 0 (a0_1.size : Int) t285 _ A5.out).mono ?_); rintro e w' ⟨rfl, ⟨nd, rfl⟩⟩))
   go_ret
   exact rX HB
  case' L2n =>
   rw [if_neg c4] at H
   have c4b0 : decide ((a0_1.size : Int) ≤ 20000) = false := decide_eq_false c4
   have c4b1 : decide (a0_1.size ≤ 20000) = false := decide_eq_false (by omega)
   clear c4
   obtain rfl := Option.some.inj H
 case' L1n =>
  replace c3 := Bool.eq_false_iff.mpr c3
  subst c3
  have H1 : (some false) = some r := by rw [if_neg (show ¬ (false = true) by decide)] at H; exact H
  clear H; have H := H1; clear H1
  obtain rfl := Option.some.inj H
 case L1p | L1n =>
  go_enter Tryd.func68, Tryd.ntmps68
  go_wp2_with (first | ((with_reducible refine gate_dst (N := 1) rfl ?_); (try (refine gate_guard (by rfl) ?_; dsimp only)); refine bxE 1 #[.string a0_0, .string a0_1, .int .i64 a0_2] 71 ?_; intro gb283 hg w8 hbox hb; have BK283 := aM (hbox); have GW283 := szG hg (uL HB); have GE283 := szG hg (uL HB); replace HB := aM (below_step (uL HB) hb); clear hb hbox hg; have hcz9_0 := czA BK283.out 0 (.string a0_0); have hcz9_1 := czA BK283.out 1 (.string a0_1); have hcz9_2 := czA BK283.out 2 (.int .i64 a0_2); have hfz9_0 := blk_frozen BK283.out 0; have hfz9_1 := blk_frozen BK283.out 1; have hfz9_2 := blk_frozen BK283.out 2) | ((with_reducible refine gate_callee (f := 87) rfl ?_); refine gL (some 6) Tryd.func87 #[.int .i64 (a0_0.size : Int), .int .i64 1, .int .i64 8] ?_; (with_reducible refine (impl_inRange.calls (a0_0.size : Int) 1 8 _ _ A2.out).mono ?_); rintro e w' ⟨rfl, ⟨nd, rfl⟩⟩; refine ⟨_, rfl, ?_⟩))
  go_ret
  exact rX HB

end Go.Proofs.YthomiofokkkhgaaDoor.QFnExactSnapActs
