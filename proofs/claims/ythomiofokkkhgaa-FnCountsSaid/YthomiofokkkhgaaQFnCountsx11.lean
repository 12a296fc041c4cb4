-- Own work (wip/turnprint.py over the kit's print).
import Derived.Test.YthomiofokkkhgaaQFnCountsx0
import Derived.Test.YthomiofokkkhgaaQFnCountsx8
import Derived.Test.YthomiofokkkhgaaQFnCountsx9
import Derived.Test.YthomiofokkkhgaaQFnCountsx10
namespace Go.Proofs.Ythomiofokkkhgaa.QFnCounts
open Go.RowKit Go.Proofs.YthomiofokkkhgaaW.PrintWords Go.Proofs.YthomiofokkkhgaaW.PrintLast Go.Proofs.YthomiofokkkhgaaW.PrintMore
attribute [local go_sem] max2_int min2_int max_two min_two max_three min_three max_four min_four   -- for this text's walks alone
set_option linter.unusedVariables false
set_option linter.unusedSimpArgs false

/-! ### spec_NextFire: function 22 -/
mutual
def spec_NextFire.j0 : Nat → Int → Int → Bool → List Int → List Int → List Int → List Int → List Int → Option (Int × Bool)
 | 0, _, _, _, _, _, _, _, _ => none
 | k + 1, x1, x2, x24, x399000, x399001, x399002, x399003, x399004 => if x24 = true then (some (0, false)) else (if x2 > 3000 then (spec_NextFire.j1 k x1 3000 x399000 x399001 x399002 x399003 x399004) else (spec_NextFire.j1 k x1 x2 x399000 x399001 x399002 x399003 x399004))
def spec_NextFire.j1 : Nat → Int → Int → List Int → List Int → List Int → List Int → List Int → Option (Int × Bool)
 | 0, _, _, _, _, _, _, _ => none
 | k + 1, x1, x2, x399000, x399001, x399002, x399003, x399004 => spec_NextFire.l0 k x1 x2 (wrap64 (Int.tdiv x1 1440)) (wrap64 (Int.tdiv x1 1440)) x399000 x399001 x399002 x399003 x399004
def spec_NextFire.l0 : Nat → Int → Int → Int → Int → List Int → List Int → List Int → List Int → List Int → Option (Int × Bool)
 | 0, _, _, _, _, _, _, _, _, _ => none
 | k + 1, x1, x2, x8, x9, x399000, x399001, x399002, x399003, x399004 => if x9 ≤ (wrap64 (x8 + x2)) then (spec_NextFire.j3 k x1 x2 x8 x9 (decide ((wrap64 (x9 * 1440)) ≤ 68374079)) x399000 x399001 x399002 x399003 x399004) else (spec_NextFire.j3 k x1 x2 x8 x9 false x399000 x399001 x399002 x399003 x399004)
def spec_NextFire.j3 : Nat → Int → Int → Int → Int → Bool → List Int → List Int → List Int → List Int → List Int → Option (Int × Bool)
 | 0, _, _, _, _, _, _, _, _, _, _ => none
 | k + 1, x1, x2, x8, x9, x39, x399000, x399001, x399002, x399003, x399004 => if x39 = true then ((spec_l10Day.f k x399000 x399001 x399002 x399003 x399004 (wrap64 (x9 * 1440))).bind fun t401 => (if t401 = true then (spec_NextFire.l1 k x1 x2 x8 x9 0 x399000 x399001 x399002 x399003 x399004) else (spec_NextFire.l0 k x1 x2 x8 (wrap64 (x9 + 1)) x399000 x399001 x399002 x399003 x399004))) else (some (0, false))
def spec_NextFire.l1 : Nat → Int → Int → Int → Int → Int → List Int → List Int → List Int → List Int → List Int → Option (Int × Bool)
 | 0, _, _, _, _, _, _, _, _, _, _ => none
 | k + 1, x1, x2, x8, x9, x10, x399000, x399001, x399002, x399003, x399004 => if x10 < (x399001.length : Int) then (spec_NextFire.l2 k x1 x2 x8 x9 x10 0 x399000 x399001 x399002 x399003 x399004) else (spec_NextFire.l0 k x1 x2 x8 (wrap64 (x9 + 1)) x399000 x399001 x399002 x399003 x399004)
def spec_NextFire.l2 : Nat → Int → Int → Int → Int → Int → Int → List Int → List Int → List Int → List Int → List Int → Option (Int × Bool)
 | 0, _, _, _, _, _, _, _, _, _, _, _ => none
 | k + 1, x1, x2, x8, x9, x10, x11, x399000, x399001, x399002, x399003, x399004 => if x11 < (x399000.length : Int) then (if 0 ≤ x10 then (if x10 < (x399001.length : Int) then (if 0 ≤ x11 then (if (wrap64 ((wrap64 ((wrap64 (x9 * 1440)) + (wrap64 ((rd x399001 x10) * 60)))) + (rd x399000 x11))) ≥ x1 then (some (wrap64 ((wrap64 ((wrap64 (x9 * 1440)) + (wrap64 ((rd x399001 x10) * 60)))) + (rd x399000 x11)), true)) else (spec_NextFire.l2 k x1 x2 x8 x9 x10 (wrap64 (x11 + 1)) x399000 x399001 x399002 x399003 x399004)) else (none)) else (none)) else (none)) else (spec_NextFire.l1 k x1 x2 x8 x9 (wrap64 (x10 + 1)) x399000 x399001 x399002 x399003 x399004)
end
def spec_NextFire.f (k : Nat) (l0_0 : List Int) (l0_1 : List Int) (l0_2 : List Int) (l0_3 : List Int) (l0_4 : List Int) (a1 : Int) (a2 : Int) : Option (Int × Bool) := (spec_CronOk.f k l0_0 l0_1 l0_2 l0_3 l0_4).bind fun t399 => (if t399 = true then ((spec_l01In.f a1 0 68374079).bind fun t400 => (if t400 = true then (spec_NextFire.j0 k a1 a2 (decide (a2 < 0)) l0_0 l0_1 l0_2 l0_3 l0_4) else (spec_NextFire.j0 k a1 a2 true l0_0 l0_1 l0_2 l0_3 l0_4))) else (spec_NextFire.j0 k a1 a2 true l0_0 l0_1 l0_2 l0_3 l0_4))
theorem spec_NextFire.mono_l : ∀ k, (∀ y0 y1 y2 y3 y4 y5 y6 y7, LeO (spec_NextFire.j0 k y0 y1 y2 y3 y4 y5 y6 y7) (spec_NextFire.j0 (k + 1) y0 y1 y2 y3 y4 y5 y6 y7)) ∧ (∀ y0 y1 y2 y3 y4 y5 y6, LeO (spec_NextFire.j1 k y0 y1 y2 y3 y4 y5 y6) (spec_NextFire.j1 (k + 1) y0 y1 y2 y3 y4 y5 y6)) ∧ (∀ y0 y1 y2 y3 y4 y5 y6 y7 y8, LeO (spec_NextFire.l0 k y0 y1 y2 y3 y4 y5 y6 y7 y8) (spec_NextFire.l0 (k + 1) y0 y1 y2 y3 y4 y5 y6 y7 y8)) ∧ (∀ y0 y1 y2 y3 y4 y5 y6 y7 y8 y9, LeO (spec_NextFire.j3 k y0 y1 y2 y3 y4 y5 y6 y7 y8 y9) (spec_NextFire.j3 (k + 1) y0 y1 y2 y3 y4 y5 y6 y7 y8 y9)) ∧ (∀ y0 y1 y2 y3 y4 y5 y6 y7 y8 y9, LeO (spec_NextFire.l1 k y0 y1 y2 y3 y4 y5 y6 y7 y8 y9) (spec_NextFire.l1 (k + 1) y0 y1 y2 y3 y4 y5 y6 y7 y8 y9)) ∧ (∀ y0 y1 y2 y3 y4 y5 y6 y7 y8 y9 y10, LeO (spec_NextFire.l2 k y0 y1 y2 y3 y4 y5 y6 y7 y8 y9 y10) (spec_NextFire.l2 (k + 1) y0 y1 y2 y3 y4 y5 y6 y7 y8 y9 y10))
 | 0 => ⟨fun _ _ _ _ _ _ _ _ r h => by simp [spec_NextFire.j0] at h, fun _ _ _ _ _ _ _ r h => by simp [spec_NextFire.j1] at h, fun _ _ _ _ _ _ _ _ _ r h => by simp [spec_NextFire.l0] at h, fun _ _ _ _ _ _ _ _ _ _ r h => by simp [spec_NextFire.j3] at h, fun _ _ _ _ _ _ _ _ _ _ r h => by simp [spec_NextFire.l1] at h, fun _ _ _ _ _ _ _ _ _ _ _ r h => by simp [spec_NextFire.l2] at h⟩
 | k + 1 => by
  obtain ⟨ih0, ih1, ih2, ih3, ih4, ih5⟩ := spec_NextFire.mono_l k
  refine ⟨?_, ?_, ?_, ?_, ?_, ?_⟩
  ·intro y0 y1 y2 y3 y4 y5 y6 y7
   unfold spec_NextFire.j0
   repeat' first
   | (with_reducible exact ih0 _ _ _ _ _ _ _ _)
   | (with_reducible exact ih1 _ _ _ _ _ _ _)
   | (with_reducible exact ih2 _ _ _ _ _ _ _ _ _)
   | (with_reducible exact ih3 _ _ _ _ _ _ _ _ _ _)
   | (with_reducible exact ih4 _ _ _ _ _ _ _ _ _ _)
   | (with_reducible exact ih5 _ _ _ _ _ _ _ _ _ _ _)
   | (with_reducible exact spec_CronOk.mono _ _ _ _ _ _)
   | (with_reducible exact spec_l10Day.mono _ _ _ _ _ _ _)
   | (with_reducible exact LeO.refl _)
   | (with_reducible exact LeO.none _)
   | (with_reducible refine LeO.ite ?_ ?_)
   | (with_reducible refine LeO.bind ?_ (fun _ => ?_))
   | exact ih0 _ _ _ _ _ _ _ _
   | exact ih1 _ _ _ _ _ _ _
   | exact ih2 _ _ _ _ _ _ _ _ _
   | exact ih3 _ _ _ _ _ _ _ _ _ _
   | exact ih4 _ _ _ _ _ _ _ _ _ _
   | exact ih5 _ _ _ _ _ _ _ _ _ _ _
   | exact spec_CronOk.mono _ _ _ _ _ _
   | exact spec_l10Day.mono _ _ _ _ _ _ _
   | exact LeO.none _
   | refine LeO.ite ?_ ?_
   | refine LeO.bind ?_ (fun _ => ?_)
  ·intro y0 y1 y2 y3 y4 y5 y6
   unfold spec_NextFire.j1
   repeat' first
   | (with_reducible exact ih0 _ _ _ _ _ _ _ _)
   | (with_reducible exact ih1 _ _ _ _ _ _ _)
   | (with_reducible exact ih2 _ _ _ _ _ _ _ _ _)
   | (with_reducible exact ih3 _ _ _ _ _ _ _ _ _ _)
   | (with_reducible exact ih4 _ _ _ _ _ _ _ _ _ _)
   | (with_reducible exact ih5 _ _ _ _ _ _ _ _ _ _ _)
   | (with_reducible exact spec_CronOk.mono _ _ _ _ _ _)
   | (with_reducible exact spec_l10Day.mono _ _ _ _ _ _ _)
   | (with_reducible exact LeO.refl _)
   | (with_reducible exact LeO.none _)
   | (with_reducible refine LeO.ite ?_ ?_)
   | (with_reducible refine LeO.bind ?_ (fun _ => ?_))
   | exact ih0 _ _ _ _ _ _ _ _
   | exact ih1 _ _ _ _ _ _ _
   | exact ih2 _ _ _ _ _ _ _ _ _
   | exact ih3 _ _ _ _ _ _ _ _ _ _
   | exact ih4 _ _ _ _ _ _ _ _ _ _
   | exact ih5 _ _ _ _ _ _ _ _ _ _ _
   | exact spec_CronOk.mono _ _ _ _ _ _
   | exact spec_l10Day.mono _ _ _ _ _ _ _
   | exact LeO.none _
   | refine LeO.ite ?_ ?_
   | refine LeO.bind ?_ (fun _ => ?_)
  ·intro y0 y1 y2 y3 y4 y5 y6 y7 y8
   unfold spec_NextFire.l0
   repeat' first
   | (with_reducible exact ih0 _ _ _ _ _ _ _ _)
   | (with_reducible exact ih1 _ _ _ _ _ _ _)
   | (with_reducible exact ih2 _ _ _ _ _ _ _ _ _)
   | (with_reducible exact ih3 _ _ _ _ _ _ _ _ _ _)
   | (with_reducible exact ih4 _ _ _ _ _ _ _ _ _ _)
   | (with_reducible exact ih5 _ _ _ _ _ _ _ _ _ _ _)
   | (with_reducible exact spec_CronOk.mono _ _ _ _ _ _)
   | (with_reducible exact spec_l10Day.mono _ _ _ _ _ _ _)
   | (with_reducible exact LeO.refl _)
   | (with_reducible exact LeO.none _)
   | (with_reducible refine LeO.ite ?_ ?_)
   | (with_reducible refine LeO.bind ?_ (fun _ => ?_))
   | exact ih0 _ _ _ _ _ _ _ _
   | exact ih1 _ _ _ _ _ _ _
   | exact ih2 _ _ _ _ _ _ _ _ _
   | exact ih3 _ _ _ _ _ _ _ _ _ _
   | exact ih4 _ _ _ _ _ _ _ _ _ _
   | exact ih5 _ _ _ _ _ _ _ _ _ _ _
   | exact spec_CronOk.mono _ _ _ _ _ _
   | exact spec_l10Day.mono _ _ _ _ _ _ _
   | exact LeO.none _
   | refine LeO.ite ?_ ?_
   | refine LeO.bind ?_ (fun _ => ?_)
  ·intro y0 y1 y2 y3 y4 y5 y6 y7 y8 y9
   unfold spec_NextFire.j3
   repeat' first
   | (with_reducible exact ih0 _ _ _ _ _ _ _ _)
   | (with_reducible exact ih1 _ _ _ _ _ _ _)
   | (with_reducible exact ih2 _ _ _ _ _ _ _ _ _)
   | (with_reducible exact ih3 _ _ _ _ _ _ _ _ _ _)
   | (with_reducible exact ih4 _ _ _ _ _ _ _ _ _ _)
   | (with_reducible exact ih5 _ _ _ _ _ _ _ _ _ _ _)
   | (with_reducible exact spec_CronOk.mono _ _ _ _ _ _)
   | (with_reducible exact spec_l10Day.mono _ _ _ _ _ _ _)
   | (with_reducible exact LeO.refl _)
   | (with_reducible exact LeO.none _)
   | (with_reducible refine LeO.ite ?_ ?_)
   | (with_reducible refine LeO.bind ?_ (fun _ => ?_))
   | exact ih0 _ _ _ _ _ _ _ _
   | exact ih1 _ _ _ _ _ _ _
   | exact ih2 _ _ _ _ _ _ _ _ _
   | exact ih3 _ _ _ _ _ _ _ _ _ _
   | exact ih4 _ _ _ _ _ _ _ _ _ _
   | exact ih5 _ _ _ _ _ _ _ _ _ _ _
   | exact spec_CronOk.mono _ _ _ _ _ _
   | exact spec_l10Day.mono _ _ _ _ _ _ _
   | exact LeO.none _
   | refine LeO.ite ?_ ?_
   | refine LeO.bind ?_ (fun _ => ?_)
  ·intro y0 y1 y2 y3 y4 y5 y6 y7 y8 y9
   unfold spec_NextFire.l1
   repeat' first
   | (with_reducible exact ih0 _ _ _ _ _ _ _ _)
   | (with_reducible exact ih1 _ _ _ _ _ _ _)
   | (with_reducible exact ih2 _ _ _ _ _ _ _ _ _)
   | (with_reducible exact ih3 _ _ _ _ _ _ _ _ _ _)
   | (with_reducible exact ih4 _ _ _ _ _ _ _ _ _ _)
   | (with_reducible exact ih5 _ _ _ _ _ _ _ _ _ _ _)
   | (with_reducible exact spec_CronOk.mono _ _ _ _ _ _)
   | (with_reducible exact spec_l10Day.mono _ _ _ _ _ _ _)
   | (with_reducible exact LeO.refl _)
   | (with_reducible exact LeO.none _)
   | (with_reducible refine LeO.ite ?_ ?_)
   | (with_reducible refine LeO.bind ?_ (fun _ => ?_))
   | exact ih0 _ _ _ _ _ _ _ _
   | exact ih1 _ _ _ _ _ _ _
   | exact ih2 _ _ _ _ _ _ _ _ _
   | exact ih3 _ _ _ _ _ _ _ _ _ _
   | exact ih4 _ _ _ _ _ _ _ _ _ _
   | exact ih5 _ _ _ _ _ _ _ _ _ _ _
   | exact spec_CronOk.mono _ _ _ _ _ _
   | exact spec_l10Day.mono _ _ _ _ _ _ _
   | exact LeO.none _
   | refine LeO.ite ?_ ?_
   | refine LeO.bind ?_ (fun _ => ?_)
  ·intro y0 y1 y2 y3 y4 y5 y6 y7 y8 y9 y10
   unfold spec_NextFire.l2
   repeat' first
   | (with_reducible exact ih0 _ _ _ _ _ _ _ _)
   | (with_reducible exact ih1 _ _ _ _ _ _ _)
   | (with_reducible exact ih2 _ _ _ _ _ _ _ _ _)
   | (with_reducible exact ih3 _ _ _ _ _ _ _ _ _ _)
   | (with_reducible exact ih4 _ _ _ _ _ _ _ _ _ _)
   | (with_reducible exact ih5 _ _ _ _ _ _ _ _ _ _ _)
   | (with_reducible exact spec_CronOk.mono _ _ _ _ _ _)
   | (with_reducible exact spec_l10Day.mono _ _ _ _ _ _ _)
   | (with_reducible exact LeO.refl _)
   | (with_reducible exact LeO.none _)
   | (with_reducible refine LeO.ite ?_ ?_)
   | (with_reducible refine LeO.bind ?_ (fun _ => ?_))
   | exact ih0 _ _ _ _ _ _ _ _
   | exact ih1 _ _ _ _ _ _ _
   | exact ih2 _ _ _ _ _ _ _ _ _
   | exact ih3 _ _ _ _ _ _ _ _ _ _
   | exact ih4 _ _ _ _ _ _ _ _ _ _
   | exact ih5 _ _ _ _ _ _ _ _ _ _ _
   | exact spec_CronOk.mono _ _ _ _ _ _
   | exact spec_l10Day.mono _ _ _ _ _ _ _
   | exact LeO.none _
   | refine LeO.ite ?_ ?_
   | refine LeO.bind ?_ (fun _ => ?_)
theorem spec_NextFire.mono : ∀ a0 a1 a2 a3 a4 a5 a6 k, LeO (spec_NextFire.f k a0 a1 a2 a3 a4 a5 a6) (spec_NextFire.f (k + 1) a0 a1 a2 a3 a4 a5 a6) := by
 intro a0 a1 a2 a3 a4 a5 a6 k
 obtain ⟨ih0, ih1, ih2, ih3, ih4, ih5⟩ := spec_NextFire.mono_l k
 unfold spec_NextFire.f
 repeat' first
  | (with_reducible exact ih0 _ _ _ _ _ _ _ _)
  | (with_reducible exact ih1 _ _ _ _ _ _ _)
  | (with_reducible exact ih2 _ _ _ _ _ _ _ _ _)
  | (with_reducible exact ih3 _ _ _ _ _ _ _ _ _ _)
  | (with_reducible exact ih4 _ _ _ _ _ _ _ _ _ _)
  | (with_reducible exact ih5 _ _ _ _ _ _ _ _ _ _ _)
  | (with_reducible exact spec_CronOk.mono _ _ _ _ _ _)
  | (with_reducible exact spec_l10Day.mono _ _ _ _ _ _ _)
  | (with_reducible exact LeO.refl _)
  | (with_reducible exact LeO.none _)
  | (with_reducible refine LeO.ite ?_ ?_)
  | (with_reducible refine LeO.bind ?_ (fun _ => ?_))
  | exact ih0 _ _ _ _ _ _ _ _
  | exact ih1 _ _ _ _ _ _ _
  | exact ih2 _ _ _ _ _ _ _ _ _
  | exact ih3 _ _ _ _ _ _ _ _ _ _
  | exact ih4 _ _ _ _ _ _ _ _ _ _
  | exact ih5 _ _ _ _ _ _ _ _ _ _ _
  | exact spec_CronOk.mono _ _ _ _ _ _
  | exact spec_l10Day.mono _ _ _ _ _ _ _
  | exact LeO.none _
  | refine LeO.ite ?_ ?_
  | refine LeO.bind ?_ (fun _ => ?_)
set_option maxHeartbeats 8000000 in
set_option maxRecDepth 100000 in
theorem spec_NextFire.calls (k : Nat) (A0_0 : Option Addr) (c0_0 : Nat) (l0_0 : List Int) (A0_1 : Option Addr) (c0_1 : Nat) (l0_1 : List Int) (A0_2 : Option Addr) (c0_2 : Nat) (l0_2 : List Int) (A0_3 : Option Addr) (c0_3 : Nat) (l0_3 : List Int) (A0_4 : Option Addr) (c0_4 : Nat) (l0_4 : List Int) (a1 : Int) (a2 : Int) (r1 : Int) (r2 : Bool) (w : World) (hr0_0 : Kd.C (Kd.int .i64) w A0_0 l0_0.length l0_0) (hc0_0 : l0_0.length ≤ c0_0) (hr0_1 : Kd.C (Kd.int .i64) w A0_1 l0_1.length l0_1) (hc0_1 : l0_1.length ≤ c0_1) (hr0_2 : Kd.C (Kd.int .i64) w A0_2 l0_2.length l0_2) (hc0_2 : l0_2.length ≤ c0_2) (hr0_3 : Kd.C (Kd.int .i64) w A0_3 l0_3.length l0_3) (hc0_3 : l0_3.length ≤ c0_3) (hr0_4 : Kd.C (Kd.int .i64) w A0_4 l0_4.length l0_4) (hc0_4 : l0_4.length ≤ c0_4) (h : spec_NextFire.f k l0_0 l0_1 l0_2 l0_3 l0_4 a1 a2 = some (r1, r2)) :
 Calls Try.prog 22 #[.agg #[.slice A0_0 l0_0.length c0_0, .slice A0_1 l0_1.length c0_1, .slice A0_2 l0_2.length c0_2, .slice A0_3 l0_3.length c0_3, .slice A0_4 l0_4.length c0_4], .int .i64 a1, .int .i64 a2] w fun e w' => e = .returned (.tuple #[.int .i64 r1, .bool r2]) ∧ Below w.heap.size w w' := by
 have hu26 := Try.underlying26
 have HR0_0 := aM hr0_0
 have HC0_0 := aM hc0_0
 clear hr0_0 hc0_0
 have HR0_1 := aM hr0_1
 have HC0_1 := aM hc0_1
 clear hr0_1 hc0_1
 have HR0_2 := aM hr0_2
 have HC0_2 := aM hc0_2
 clear hr0_2 hc0_2
 have HR0_3 := aM hr0_3
 have HC0_3 := aM hc0_3
 clear hr0_3 hc0_3
 have HR0_4 := aM hr0_4
 have HC0_4 := aM hc0_4
 clear hr0_4 hc0_4
 have HB := aM (Below.refl w.heap.size w)
 have H : ((spec_CronOk.f k l0_0 l0_1 l0_2 l0_3 l0_4).bind fun t399 => (if t399 = true then ((spec_l01In.f a1 0 68374079).bind fun t400 => (if t400 = true then (spec_NextFire.j0 k a1 a2 (decide (a2 < 0)) l0_0 l0_1 l0_2 l0_3 l0_4) else (spec_NextFire.j0 k a1 a2 true l0_0 l0_1 l0_2 l0_3 l0_4))) else (spec_NextFire.j0 k a1 a2 true l0_0 l0_1 l0_2 l0_3 l0_4))) = some (r1, r2) := h
 clear h
 have HC4 := aM H
 clear H
 go_enter Try.func22, Try.ntmps22
 go_upto_region 1 with (first | ((with_reducible refine gate_dst (N := 3) rfl ?_); refine bxE 3 #[.slice A0_0 l0_0.length c0_0, .slice A0_1 l0_1.length c0_1, .slice A0_2 l0_2.length c0_2, .slice A0_3 l0_3.length c0_3, .slice A0_4 l0_4.length c0_4] 26 ?_; intro gb398 hg w5 hbox hb; have BK398 := aM (hbox); have GW398 := szG hg (uL HB); have GE398 := szG hg (uL HB); replace HB := aM (below_step (uL HB) hb); clear hb hbox hg))
 repeat (go_quiet (first | ((with_reducible refine gate_dst (N := 3) rfl ?_); refine bxE 3 #[.slice A0_0 l0_0.length c0_0, .slice A0_1 l0_1.length c0_1, .slice A0_2 l0_2.length c0_2, .slice A0_3 l0_3.length c0_3, .slice A0_4 l0_4.length c0_4] 26 ?_; intro gb398 hg w5 hbox hb; have BK398 := aM (hbox); have GW398 := szG hg (uL HB); have GE398 := szG hg (uL HB); replace HB := aM (below_step (uL HB) hb); clear hb hbox hg)); go_upto_region 1 with (first | ((with_reducible refine gate_dst (N := 3) rfl ?_); refine bxE 3 #[.slice A0_0 l0_0.length c0_0, .slice A0_1 l0_1.length c0_1, .slice A0_2 l0_2.length c0_2, .slice A0_3 l0_3.length c0_3, .slice A0_4 l0_4.length c0_4] 26 ?_; intro gb398 hg w5 hbox hb; have BK398 := aM (hbox); have GW398 := szG hg (uL HB); have GE398 := szG hg (uL HB); replace HB := aM (below_step (uL HB) hb); clear hb hbox hg)))
 (try simp only [Act.put, List.setIfInBounds_toArray, List.set_cons_zero, List.set_cons_succ])
 go_cut [24] (fun v24 wc => ∃ (kq : Nat) (x24_3 : Bool), v24 = .bool x24_3 ∧ Aside0 (spec_NextFire.j0 kq a1 a2 x24_3 l0_0 l0_1 l0_2 l0_3 l0_4 = some (r1, r2)) ∧ Aside0 (kq ≤ k) ∧ Aside0 (wc.heap[gb398]? = some (.cells #[(.slice A0_0 l0_0.length c0_0), (.slice A0_1 l0_1.length c0_1), (.slice A0_2 l0_2.length c0_2), (.slice A0_3 l0_3.length c0_3), (.slice A0_4 l0_4.length c0_4)] 26 (0, 0))) ∧ Aside0 (Below w.heap.size w wc))
 case first =>
  have H := HC4.out
  clear HC4
  replace H := Option.bind_eq_some_iff.mp H
  obtain ⟨t399, A60, H⟩ := H
  try dsimp only at H
  have A6 := aM A60
  clear A60
  by_cases c7 : t399 = true
  ·subst c7
   rw [if_pos rfl] at H
   replace H := Option.bind_eq_some_iff.mp H
   obtain ⟨t400, A80, H⟩ := H
   try dsimp only at H
   have A8 := aM A80
   clear A80
   by_cases c9 : t400 = true
   ·subst c9
    have H1 : (spec_NextFire.j0 k a1 a2 (decide (a2 < 0)) l0_0 l0_1 l0_2 l0_3 l0_4) = some (r1, r2) := by rw [if_pos rfl] at H; exact H
    clear H; have H := H1; clear H1
    have H' := aM H
    clear H
    have hcz10_0 := czA BK398.out 0 (.slice A0_0 l0_0.length c0_0)
    have hcz10_1 := czA BK398.out 1 (.slice A0_1 l0_1.length c0_1)
    have hcz10_2 := czA BK398.out 2 (.slice A0_2 l0_2.length c0_2)
    have hcz10_3 := czA BK398.out 3 (.slice A0_3 l0_3.length c0_3)
    have hcz10_4 := czA BK398.out 4 (.slice A0_4 l0_4.length c0_4)
    have hfz10_0 := blk_frozen BK398.out 0; have hfz10_1 := blk_frozen BK398.out 1; have hfz10_2 := blk_frozen BK398.out 2; have hfz10_3 := blk_frozen BK398.out 3; have hfz10_4 := blk_frozen BK398.out 4
    go_wp2_with (first | (go_at_call 21; (with_reducible refine (spec_CronOk.calls k _ _ l0_0 _ _ l0_1 _ _ l0_2 _ _ l0_3 _ _ l0_4 true _ ?side1 ?side2 ?side3 ?side4 ?side5 ?side6 ?side7 ?side8 ?side9 ?side10 A6.out).mono ?_); (case side1 => exact uC HR0_0 HB); (case side2 => exact HC0_0.out); (case side3 => exact uC HR0_1 HB); (case side4 => exact HC0_1.out); (case side5 => exact uC HR0_2 HB); (case side6 => exact HC0_2.out); (case side7 => exact uC HR0_3 HB); (case side8 => exact HC0_3.out); (case side9 => exact uC HR0_4 HB); (case side10 => exact HC0_4.out); rintro e w11 ⟨rfl, hb⟩; replace BK398 := blkB BK398 hb; replace HB := aM (below_step (uL HB) hb); try clear hb) | (go_at_call 20; (with_reducible refine (spec_l01In.calls a1 0 68374079 true _ A8.out).mono ?_); rintro e w' ⟨rfl, ⟨nd, rfl⟩⟩; (try first | exact ⟨rfl, _, World.drewN_drewN _ _ _⟩ | exact ⟨rfl, _, Eq.trans (World.drewN_drewN _ _ _) (congrArg (World.drewN _) (Nat.add_assoc _ _ _))⟩)))
    repeat (go_quiet (first | (go_at_call 21; (with_reducible refine (spec_CronOk.calls k _ _ l0_0 _ _ l0_1 _ _ l0_2 _ _ l0_3 _ _ l0_4 true _ ?side1 ?side2 ?side3 ?side4 ?side5 ?side6 ?side7 ?side8 ?side9 ?side10 A6.out).mono ?_); (case side1 => exact uC HR0_0 HB); (case side2 => exact HC0_0.out); (case side3 => exact uC HR0_1 HB); (case side4 => exact HC0_1.out); (case side5 => exact uC HR0_2 HB); (case side6 => exact HC0_2.out); (case side7 => exact uC HR0_3 HB); (case side8 => exact HC0_3.out); (case side9 => exact uC HR0_4 HB); (case side10 => exact HC0_4.out); rintro e w11 ⟨rfl, hb⟩; replace BK398 := blkB BK398 hb; replace HB := aM (below_step (uL HB) hb); try clear hb) | (go_at_call 20; (with_reducible refine (spec_l01In.calls a1 0 68374079 true _ A8.out).mono ?_); rintro e w' ⟨rfl, ⟨nd, rfl⟩⟩; (try first | exact ⟨rfl, _, World.drewN_drewN _ _ _⟩ | exact ⟨rfl, _, Eq.trans (World.drewN_drewN _ _ _) (congrArg (World.drewN _) (Nat.add_assoc _ _ _))⟩))); try go_wp2_with (first | (go_at_call 21; (with_reducible refine (spec_CronOk.calls k _ _ l0_0 _ _ l0_1 _ _ l0_2 _ _ l0_3 _ _ l0_4 true _ ?side1 ?side2 ?side3 ?side4 ?side5 ?side6 ?side7 ?side8 ?side9 ?side10 A6.out).mono ?_); (case side1 => exact uC HR0_0 HB); (case side2 => exact HC0_0.out); (case side3 => exact uC HR0_1 HB); (case side4 => exact HC0_1.out); (case side5 => exact uC HR0_2 HB); (case side6 => exact HC0_2.out); (case side7 => exact uC HR0_3 HB); (case side8 => exact HC0_3.out); (case side9 => exact uC HR0_4 HB); (case side10 => exact HC0_4.out); rintro e w11 ⟨rfl, hb⟩; replace BK398 := blkB BK398 hb; replace HB := aM (below_step (uL HB) hb); try clear hb) | (go_at_call 20; (with_reducible refine (spec_l01In.calls a1 0 68374079 true _ A8.out).mono ?_); rintro e w' ⟨rfl, ⟨nd, rfl⟩⟩; (try first | exact ⟨rfl, _, World.drewN_drewN _ _ _⟩ | exact ⟨rfl, _, Eq.trans (World.drewN_drewN _ _ _) (congrArg (World.drewN _) (Nat.add_assoc _ _ _))⟩))))
    go_meet
    case rel => exact ⟨_, (decide (a2 < 0)), (by first | rfl | (simp; done) | (simp [*]; done)), H', ⟨by first | omega | exact Nat.le_refl _⟩, ⟨by exact nB BK398.out⟩, ⟨uL HB⟩⟩
   ·replace c9 := Bool.eq_false_iff.mpr c9
    subst c9
    have H1 : (spec_NextFire.j0 k a1 a2 true l0_0 l0_1 l0_2 l0_3 l0_4) = some (r1, r2) := by rw [if_neg (show ¬ (false = true) by decide)] at H; exact H
    clear H; have H := H1; clear H1
    have H' := aM H
    clear H
    have hcz12_0 := czA BK398.out 0 (.slice A0_0 l0_0.length c0_0)
    have hcz12_1 := czA BK398.out 1 (.slice A0_1 l0_1.length c0_1)
    have hcz12_2 := czA BK398.out 2 (.slice A0_2 l0_2.length c0_2)
    have hcz12_3 := czA BK398.out 3 (.slice A0_3 l0_3.length c0_3)
    have hcz12_4 := czA BK398.out 4 (.slice A0_4 l0_4.length c0_4)
    have hfz12_0 := blk_frozen BK398.out 0; have hfz12_1 := blk_frozen BK398.out 1; have hfz12_2 := blk_frozen BK398.out 2; have hfz12_3 := blk_frozen BK398.out 3; have hfz12_4 := blk_frozen BK398.out 4
    go_wp2_with (first | (go_at_call 21; (with_reducible refine (spec_CronOk.calls k _ _ l0_0 _ _ l0_1 _ _ l0_2 _ _ l0_3 _ _ l0_4 true _ ?side1 ?side2 ?side3 ?side4 ?side5 ?side6 ?side7 ?side8 ?side9 ?side10 A6.out).mono ?_); (case side1 => exact uC HR0_0 HB); (case side2 => exact HC0_0.out); (case side3 => exact uC HR0_1 HB); (case side4 => exact HC0_1.out); (case side5 => exact uC HR0_2 HB); (case side6 => exact HC0_2.out); (case side7 => exact uC HR0_3 HB); (case side8 => exact HC0_3.out); (case side9 => exact uC HR0_4 HB); (case side10 => exact HC0_4.out); rintro e w13 ⟨rfl, hb⟩; replace BK398 := blkB BK398 hb; replace HB := aM (below_step (uL HB) hb); try clear hb) | (go_at_call 20; (with_reducible refine (spec_l01In.calls a1 0 68374079 false _ A8.out).mono ?_); rintro e w' ⟨rfl, ⟨nd, rfl⟩⟩; (try first | exact ⟨rfl, _, World.drewN_drewN _ _ _⟩ | exact ⟨rfl, _, Eq.trans (World.drewN_drewN _ _ _) (congrArg (World.drewN _) (Nat.add_assoc _ _ _))⟩)))
    repeat (go_quiet (first | (go_at_call 21; (with_reducible refine (spec_CronOk.calls k _ _ l0_0 _ _ l0_1 _ _ l0_2 _ _ l0_3 _ _ l0_4 true _ ?side1 ?side2 ?side3 ?side4 ?side5 ?side6 ?side7 ?side8 ?side9 ?side10 A6.out).mono ?_); (case side1 => exact uC HR0_0 HB); (case side2 => exact HC0_0.out); (case side3 => exact uC HR0_1 HB); (case side4 => exact HC0_1.out); (case side5 => exact uC HR0_2 HB); (case side6 => exact HC0_2.out); (case side7 => exact uC HR0_3 HB); (case side8 => exact HC0_3.out); (case side9 => exact uC HR0_4 HB); (case side10 => exact HC0_4.out); rintro e w13 ⟨rfl, hb⟩; replace BK398 := blkB BK398 hb; replace HB := aM (below_step (uL HB) hb); try clear hb) | (go_at_call 20; (with_reducible refine (spec_l01In.calls a1 0 68374079 false _ A8.out).mono ?_); rintro e w' ⟨rfl, ⟨nd, rfl⟩⟩; (try first | exact ⟨rfl, _, World.drewN_drewN _ _ _⟩ | exact ⟨rfl, _, Eq.trans (World.drewN_drewN _ _ _) (congrArg (World.drewN _) (Nat.add_assoc _ _ _))⟩))); try go_wp2_with (first | (go_at_call 21; (with_reducible refine (spec_CronOk.calls k _ _ l0_0 _ _ l0_1 _ _ l0_2 _ _ l0_3 _ _ l0_4 true _ ?side1 ?side2 ?side3 ?side4 ?side5 ?side6 ?side7 ?side8 ?side9 ?side10 A6.out).mono ?_); (case side1 => exact uC HR0_0 HB); (case side2 => exact HC0_0.out); (case side3 => exact uC HR0_1 HB); (case side4 => exact HC0_1.out); (case side5 => exact uC HR0_2 HB); (case side6 => exact HC0_2.out); (case side7 => exact uC HR0_3 HB); (case side8 => exact HC0_3.out); (case side9 => exact uC HR0_4 HB); (case side10 => exact HC0_4.out); rintro e w13 ⟨rfl, hb⟩; replace BK398 := blkB BK398 hb; replace HB := aM (below_step (uL HB) hb); try clear hb) | (go_at_call 20; (with_reducible refine (spec_l01In.calls a1 0 68374079 false _ A8.out).mono ?_); rintro e w' ⟨rfl, ⟨nd, rfl⟩⟩; (try first | exact ⟨rfl, _, World.drewN_drewN _ _ _⟩ | exact ⟨rfl, _, Eq.trans (World.drewN_drewN _ _ _) (congrArg (World.drewN _) (Nat.add_assoc _ _ _))⟩))))
    go_meet
    case rel => exact ⟨_, (true), (by first | rfl | (simp; done) | (simp [*]; done)), H', ⟨by first | omega | exact Nat.le_refl _⟩, ⟨by exact nB BK398.out⟩, ⟨uL HB⟩⟩
  ·replace c7 := Bool.eq_false_iff.mpr c7
   subst c7
   have H1 : (spec_NextFire.j0 k a1 a2 true l0_0 l0_1 l0_2 l0_3 l0_4) = some (r1, r2) := by rw [if_neg (show ¬ (false = true) by decide)] at H; exact H
   clear H; have H := H1; clear H1
   have H' := aM H
   clear H
   have hcz14_0 := czA BK398.out 0 (.slice A0_0 l0_0.length c0_0)
   have hcz14_1 := czA BK398.out 1 (.slice A0_1 l0_1.length c0_1)
   have hcz14_2 := czA BK398.out 2 (.slice A0_2 l0_2.length c0_2)
   have hcz14_3 := czA BK398.out 3 (.slice A0_3 l0_3.length c0_3)
   have hcz14_4 := czA BK398.out 4 (.slice A0_4 l0_4.length c0_4)
   have hfz14_0 := blk_frozen BK398.out 0; have hfz14_1 := blk_frozen BK398.out 1; have hfz14_2 := blk_frozen BK398.out 2; have hfz14_3 := blk_frozen BK398.out 3; have hfz14_4 := blk_frozen BK398.out 4
   go_wp2_with (first | (go_at_call 21; (with_reducible refine (spec_CronOk.calls k _ _ l0_0 _ _ l0_1 _ _ l0_2 _ _ l0_3 _ _ l0_4 false _ ?side1 ?side2 ?side3 ?side4 ?side5 ?side6 ?side7 ?side8 ?side9 ?side10 A6.out).mono ?_); (case side1 => exact uC HR0_0 HB); (case side2 => exact HC0_0.out); (case side3 => exact uC HR0_1 HB); (case side4 => exact HC0_1.out); (case side5 => exact uC HR0_2 HB); (case side6 => exact HC0_2.out); (case side7 => exact uC HR0_3 HB); (case side8 => exact HC0_3.out); (case side9 => exact uC HR0_4 HB); (case side10 => exact HC0_4.out); rintro e w15 ⟨rfl, hb⟩; replace BK398 := blkB BK398 hb; replace HB := aM (below_step (uL HB) hb); try clear hb))
   repeat (go_quiet (first | (go_at_call 21; (with_reducible refine (spec_CronOk.calls k _ _ l0_0 _ _ l0_1 _ _ l0_2 _ _ l0_3 _ _ l0_4 false _ ?side1 ?side2 ?side3 ?side4 ?side5 ?side6 ?side7 ?side8 ?side9 ?side10 A6.out).mono ?_); (case side1 => exact uC HR0_0 HB); (case side2 => exact HC0_0.out); (case side3 => exact uC HR0_1 HB); (case side4 => exact HC0_1.out); (case side5 => exact uC HR0_2 HB); (case side6 => exact HC0_2.out); (case side7 => exact uC HR0_3 HB); (case side8 => exact HC0_3.out); (case side9 => exact uC HR0_4 HB); (case side10 => exact HC0_4.out); rintro e w15 ⟨rfl, hb⟩; replace BK398 := blkB BK398 hb; replace HB := aM (below_step (uL HB) hb); try clear hb)); try go_wp2_with (first | (go_at_call 21; (with_reducible refine (spec_CronOk.calls k _ _ l0_0 _ _ l0_1 _ _ l0_2 _ _ l0_3 _ _ l0_4 false _ ?side1 ?side2 ?side3 ?side4 ?side5 ?side6 ?side7 ?side8 ?side9 ?side10 A6.out).mono ?_); (case side1 => exact uC HR0_0 HB); (case side2 => exact HC0_0.out); (case side3 => exact uC HR0_1 HB); (case side4 => exact HC0_1.out); (case side5 => exact uC HR0_2 HB); (case side6 => exact HC0_2.out); (case side7 => exact uC HR0_3 HB); (case side8 => exact HC0_3.out); (case side9 => exact uC HR0_4 HB); (case side10 => exact HC0_4.out); rintro e w15 ⟨rfl, hb⟩; replace BK398 := blkB BK398 hb; replace HB := aM (below_step (uL HB) hb); try clear hb)))
   go_meet
   case rel => exact ⟨_, (true), (by first | rfl | (simp; done) | (simp [*]; done)), H', ⟨by first | omega | exact Nat.le_refl _⟩, ⟨by exact nB BK398.out⟩, ⟨uL HB⟩⟩
 case rest =>
  clear HC4
  try clear c2; try clear p2; try clear c7; try clear c9; try clear hcz10_0; try clear hcz10_1; try clear hcz10_2; try clear hcz10_3; try clear hcz10_4; try clear hcz12_0; try clear hcz12_1; try clear hcz12_2; try clear hcz12_3; try clear hcz12_4; try clear hcz14_0; try clear hcz14_1; try clear hcz14_2; try clear hcz14_3; try clear hcz14_4; try clear hfz10_0; try clear hfz10_1; try clear hfz10_2; try clear hfz10_3; try clear hfz10_4; try clear hfz12_0; try clear hfz12_1; try clear hfz12_2; try clear hfz12_3; try clear hfz12_4; try clear hfz14_0; try clear hfz14_1; try clear hfz14_2; try clear hfz14_3; try clear hfz14_4
  obtain ⟨kq, x24_3, rfl, HA, HJ3, BK398, HB⟩ := hcut
  cases kq with
  | zero => exact absurd HA.out (by simp [spec_NextFire.j0])
  | succ kj3 =>
   have H := HA.out
   clear HA
   simp only [spec_NextFire.j0] at H
   by_cases c16 : x24_3 = true
   ·subst c16
    have H1 : (some (0, false)) = some (r1, r2) := by rw [if_pos rfl] at H; exact H
    clear H; have H := H1; clear H1
    simp only [Option.some.injEq, Prod.mk.injEq] at H
    obtain ⟨rfl, rfl⟩ := H
    go_wp2
    repeat (go_quiet (fail); try go_wp2)
    go_ret2
    exact rX HB
   ·replace c16 := Bool.eq_false_iff.mpr c16
    subst c16
    rw [if_neg (show ¬ (false = true) by decide)] at H
    have HC17 := aM H
    clear H
    go_upto_if 26 with (fail)
    repeat (go_quiet (fail); go_upto_if 26 with (fail))
    go_cut [2] (fun v2 wc => ∃ (kq : Nat) (x2_16 : Int), v2 = .int .i64 x2_16 ∧ Aside0 (spec_NextFire.j1 kq a1 x2_16 l0_0 l0_1 l0_2 l0_3 l0_4 = some (r1, r2)) ∧ Aside0 (kq ≤ kj3) ∧ Aside0 (wc.heap[gb398]? = some (.cells #[(.slice A0_0 l0_0.length c0_0), (.slice A0_1 l0_1.length c0_1), (.slice A0_2 l0_2.length c0_2), (.slice A0_3 l0_3.length c0_3), (.slice A0_4 l0_4.length c0_4)] 26 (0, 0))) ∧ Aside0 (Below w.heap.size w wc))
    case first =>
     have H := HC17.out
     clear HC17
     by_cases c18 : a2 > 3000
     ·rw [if_pos c18] at H
      have c18b0 : decide (3000 < a2) = true := decide_eq_true c18
      clear c18
      (first | rw [c18b0] | (simp only [i64_w, i32_w]; rw [c18b0]) | skip)
      have H' := aM H
      clear H
      go_wp2
      repeat (go_quiet (fail); try go_wp2)
      go_meet
      case rel => exact ⟨_, (3000), (by first | rfl | (simp; done) | (simp [*]; done)), H', ⟨by have := HJ3.out; first | omega | exact Nat.le_refl _⟩, ⟨by exact nB BK398.out⟩, ⟨uL HB⟩⟩
     ·rw [if_neg c18] at H
      have c18b0 : decide (3000 < a2) = false := decide_eq_false c18
      clear c18
      (first | rw [c18b0] | (simp only [i64_w, i32_w]; rw [c18b0]) | skip)
      have H' := aM H
      clear H
      go_wp2
      repeat (go_quiet (fail); try go_wp2)
      go_meet
      case rel => exact ⟨_, (a2), (by first | rfl | (simp; done) | (simp [*]; done)), H', ⟨by have := HJ3.out; first | omega | exact Nat.le_refl _⟩, ⟨by exact nB BK398.out⟩, ⟨uL HB⟩⟩
    case rest =>
     clear HC17
     try clear c1; try clear c2; try clear p2; try clear c7; try clear c9; try clear c16; try clear c18; try clear c18b0; try clear hcz10_0; try clear hcz10_1; try clear hcz10_2; try clear hcz10_3; try clear hcz10_4; try clear hcz12_0; try clear hcz12_1; try clear hcz12_2; try clear hcz12_3; try clear hcz12_4; try clear hcz14_0; try clear hcz14_1; try clear hcz14_2; try clear hcz14_3; try clear hcz14_4; try clear hfz10_0; try clear hfz10_1; try clear hfz10_2; try clear hfz10_3; try clear hfz10_4; try clear hfz12_0; try clear hfz12_1; try clear hfz12_2; try clear hfz12_3; try clear hfz12_4; try clear hfz14_0; try clear hfz14_1; try clear hfz14_2; try clear hfz14_3; try clear hfz14_4; try clear p2
     obtain ⟨kq, x2_16, rfl, HA, HJ16, BK398, HB⟩ := hcut
     cases kq with
     | zero => exact absurd HA.out (by simp [spec_NextFire.j1])
     | succ kj16 =>
      have H := HA.out
      clear HA
      simp only [spec_NextFire.j1] at H
      have H' := aM H
      clear H
      go_wp2
      repeat (go_quiet (fail); try go_wp2)
      go_loopg [9] kj16 (fun kq v9 w' => ∃ (x9_3 : Int), v9 = .int .i64 x9_3 ∧ Aside0 (spec_NextFire.l0 kq a1 x2_16 (wrap64 (Int.tdiv a1 1440)) x9_3 l0_0 l0_1 l0_2 l0_3 l0_4 = some (r1, r2)) ∧ Aside0 (kq ≤ kj16) ∧ Aside0 (w'.heap[gb398]? = some (.cells #[(.slice A0_0 l0_0.length c0_0), (.slice A0_1 l0_1.length c0_1), (.slice A0_2 l0_2.length c0_2), (.slice A0_3 l0_3.length c0_3), (.slice A0_4 l0_4.length c0_4)] 26 (0, 0))) ∧ Aside0 (Below w.heap.size w w'))
      case atStart => exact ⟨(wrap64 (Int.tdiv a1 1440)), (by first | rfl | (simp; done) | (simp [*]; done)), H', ⟨Nat.le_refl _⟩, ⟨by exact nB BK398.out⟩, ⟨uL HB⟩⟩
      case round =>
       clear H'
       try clear c1; try clear c2; try clear p2; try clear p6; try clear c7; try clear c9; try clear c16; try clear c18; try clear c18b0; try clear hcz10_0; try clear hcz10_1; try clear hcz10_2; try clear hcz10_3; try clear hcz10_4; try clear hcz12_0; try clear hcz12_1; try clear hcz12_2; try clear hcz12_3; try clear hcz12_4; try clear hcz14_0; try clear hcz14_1; try clear hcz14_2; try clear hcz14_3; try clear hcz14_4; try clear hfz10_0; try clear hfz10_1; try clear hfz10_2; try clear hfz10_3; try clear hfz10_4; try clear hfz12_0; try clear hfz12_1; try clear hfz12_2; try clear hfz12_3; try clear hfz12_4; try clear hfz14_0; try clear hfz14_1; try clear hfz14_2; try clear hfz14_3; try clear hfz14_4; try clear p2
       obtain ⟨x9_3, rfl, HA, HK3, BK398, HB⟩ := hrel
       cases gk with
       | zero => exact absurd HA.out (by simp [spec_NextFire.l0])
       | succ k3 =>
        have H := HA.out
        clear HA
        simp only [spec_NextFire.l0] at H
        have HC19 := aM H
        clear H
        go_upto_region 7 with (fail)
        repeat (go_quiet (fail); go_upto_region 7 with (fail))
        go_cut [39] (fun v39 wc => ∃ (kq : Nat) (x39_18 : Bool), v39 = .bool x39_18 ∧ Aside0 (spec_NextFire.j3 kq a1 x2_16 (wrap64 (Int.tdiv a1 1440)) x9_3 x39_18 l0_0 l0_1 l0_2 l0_3 l0_4 = some (r1, r2)) ∧ Aside0 (kq ≤ k3) ∧ Aside0 (wc.heap[gb398]? = some (.cells #[(.slice A0_0 l0_0.length c0_0), (.slice A0_1 l0_1.length c0_1), (.slice A0_2 l0_2.length c0_2), (.slice A0_3 l0_3.length c0_3), (.slice A0_4 l0_4.length c0_4)] 26 (0, 0))) ∧ Aside0 (Below w.heap.size w wc))
        case first =>
         have H := HC19.out
         clear HC19
         by_cases c20 : x9_3 ≤ (wrap64 ((wrap64 (Int.tdiv a1 1440)) + x2_16))
         ·rw [if_pos c20] at H
          have c20b0 : decide (x9_3 ≤ (wrap64 ((wrap64 (Int.tdiv a1 1440)) + x2_16))) = true := decide_eq_true c20
          clear c20
          (first | rw [c20b0] | (simp only [i64_w, i32_w]; rw [c20b0]) | skip)
          have H' := aM H
          clear H
          go_wp2
          repeat (go_quiet (fail); try go_wp2)
          go_meet
          case rel => exact ⟨_, (decide ((wrap64 (x9_3 * 1440)) ≤ 68374079)), (by first | rfl | (simp; done) | (simp [*]; done)), H', ⟨by have := HJ3.out; have := HJ16.out; have := HK3.out; first | omega | exact Nat.le_refl _⟩, ⟨by exact nB BK398.out⟩, ⟨uL HB⟩⟩
         ·rw [if_neg c20] at H
          have c20b0 : decide (x9_3 ≤ (wrap64 ((wrap64 (Int.tdiv a1 1440)) + x2_16))) = false := decide_eq_false c20
          clear c20
          (first | rw [c20b0] | (simp only [i64_w, i32_w]; rw [c20b0]) | skip)
          have H' := aM H
          clear H
          go_wp2
          repeat (go_quiet (fail); try go_wp2)
          go_meet
          case rel => exact ⟨_, (false), (by first | rfl | (simp; done) | (simp [*]; done)), H', ⟨by have := HJ3.out; have := HJ16.out; have := HK3.out; first | omega | exact Nat.le_refl _⟩, ⟨by exact nB BK398.out⟩, ⟨uL HB⟩⟩
        case rest =>
         clear HC19
         try clear c1; try clear c2; try clear p2; try clear p6; try clear c7; try clear c9; try clear c16; try clear c18; try clear c18b0; try clear c20; try clear c20b0; try clear hcz10_0; try clear hcz10_1; try clear hcz10_2; try clear hcz10_3; try clear hcz10_4; try clear hcz12_0; try clear hcz12_1; try clear hcz12_2; try clear hcz12_3; try clear hcz12_4; try clear hcz14_0; try clear hcz14_1; try clear hcz14_2; try clear hcz14_3; try clear hcz14_4; try clear hfz10_0; try clear hfz10_1; try clear hfz10_2; try clear hfz10_3; try clear hfz10_4; try clear hfz12_0; try clear hfz12_1; try clear hfz12_2; try clear hfz12_3; try clear hfz12_4; try clear hfz14_0; try clear hfz14_1; try clear hfz14_2; try clear hfz14_3; try clear hfz14_4; try clear p2; try clear p6
         obtain ⟨kq, x39_18, rfl, HA, HJ18, BK398, HB⟩ := hcut
         cases kq with
         | zero => exact absurd HA.out (by simp [spec_NextFire.j3])
         | succ kj18 =>
          have H := HA.out
          clear HA
          simp only [spec_NextFire.j3] at H
          by_cases c21 : x39_18 = true
          ·subst c21
           rw [if_pos rfl] at H
           replace H := Option.bind_eq_some_iff.mp H
           obtain ⟨t401, A220, H⟩ := H
           try dsimp only at H
           have A22 := aM A220
           clear A220
           by_cases c23 : t401 = true
           ·subst c23
            have H1 : (spec_NextFire.l1 kj18 a1 x2_16 (wrap64 (Int.tdiv a1 1440)) x9_3 0 l0_0 l0_1 l0_2 l0_3 l0_4) = some (r1, r2) := by rw [if_pos rfl] at H; exact H
            clear H; have H := H1; clear H1
            have H' := aM H
            clear H
            have hcz24_0 := czA BK398.out 0 (.slice A0_0 l0_0.length c0_0)
            have hcz24_1 := czA BK398.out 1 (.slice A0_1 l0_1.length c0_1)
            have hcz24_2 := czA BK398.out 2 (.slice A0_2 l0_2.length c0_2)
            have hcz24_3 := czA BK398.out 3 (.slice A0_3 l0_3.length c0_3)
            have hcz24_4 := czA BK398.out 4 (.slice A0_4 l0_4.length c0_4)
            have hfz24_0 := blk_frozen BK398.out 0; have hfz24_1 := blk_frozen BK398.out 1; have hfz24_2 := blk_frozen BK398.out 2; have hfz24_3 := blk_frozen BK398.out 3; have hfz24_4 := blk_frozen BK398.out 4
            go_wp2_with (first | (go_at_call 34; (with_reducible refine (spec_l10Day.calls kj18 _ _ l0_0 _ _ l0_1 _ _ l0_2 _ _ l0_3 _ _ l0_4 (wrap64 (x9_3 * 1440)) true _ ?side1 ?side2 ?side3 ?side4 ?side5 ?side6 ?side7 ?side8 ?side9 ?side10 A22.out).mono ?_); (case side1 => exact uC HR0_0 HB); (case side2 => exact HC0_0.out); (case side3 => exact uC HR0_1 HB); (case side4 => exact HC0_1.out); (case side5 => exact uC HR0_2 HB); (case side6 => exact HC0_2.out); (case side7 => exact uC HR0_3 HB); (case side8 => exact HC0_3.out); (case side9 => exact uC HR0_4 HB); (case side10 => exact HC0_4.out); rintro e w25 ⟨rfl, hb⟩; replace BK398 := blkB BK398 hb; replace HB := aM (below_step (uL HB) hb); try clear hb))
            repeat (go_quiet (first | (go_at_call 34; (with_reducible refine (spec_l10Day.calls kj18 _ _ l0_0 _ _ l0_1 _ _ l0_2 _ _ l0_3 _ _ l0_4 (wrap64 (x9_3 * 1440)) true _ ?side1 ?side2 ?side3 ?side4 ?side5 ?side6 ?side7 ?side8 ?side9 ?side10 A22.out).mono ?_); (case side1 => exact uC HR0_0 HB); (case side2 => exact HC0_0.out); (case side3 => exact uC HR0_1 HB); (case side4 => exact HC0_1.out); (case side5 => exact uC HR0_2 HB); (case side6 => exact HC0_2.out); (case side7 => exact uC HR0_3 HB); (case side8 => exact HC0_3.out); (case side9 => exact uC HR0_4 HB); (case side10 => exact HC0_4.out); rintro e w25 ⟨rfl, hb⟩; replace BK398 := blkB BK398 hb; replace HB := aM (below_step (uL HB) hb); try clear hb)); try go_wp2_with (first | (go_at_call 34; (with_reducible refine (spec_l10Day.calls kj18 _ _ l0_0 _ _ l0_1 _ _ l0_2 _ _ l0_3 _ _ l0_4 (wrap64 (x9_3 * 1440)) true _ ?side1 ?side2 ?side3 ?side4 ?side5 ?side6 ?side7 ?side8 ?side9 ?side10 A22.out).mono ?_); (case side1 => exact uC HR0_0 HB); (case side2 => exact HC0_0.out); (case side3 => exact uC HR0_1 HB); (case side4 => exact HC0_1.out); (case side5 => exact uC HR0_2 HB); (case side6 => exact HC0_2.out); (case side7 => exact uC HR0_3 HB); (case side8 => exact HC0_3.out); (case side9 => exact uC HR0_4 HB); (case side10 => exact HC0_4.out); rintro e w25 ⟨rfl, hb⟩; replace BK398 := blkB BK398 hb; replace HB := aM (below_step (uL HB) hb); try clear hb)))
            go_loopg [10] kj18 (fun kq v10 w' => ∃ (x10_5 : Int), v10 = .int .i64 x10_5 ∧ Aside0 (spec_NextFire.l1 kq a1 x2_16 (wrap64 (Int.tdiv a1 1440)) x9_3 x10_5 l0_0 l0_1 l0_2 l0_3 l0_4 = some (r1, r2)) ∧ Aside0 (kq ≤ kj18) ∧ Aside0 (w'.heap[gb398]? = some (.cells #[(.slice A0_0 l0_0.length c0_0), (.slice A0_1 l0_1.length c0_1), (.slice A0_2 l0_2.length c0_2), (.slice A0_3 l0_3.length c0_3), (.slice A0_4 l0_4.length c0_4)] 26 (0, 0))) ∧ Aside0 (Below w.heap.size w w'))
            case atStart => exact ⟨(0), (by first | rfl | (simp; done) | (simp [*]; done)), H', ⟨Nat.le_refl _⟩, ⟨by exact nB BK398.out⟩, ⟨uL HB⟩⟩
            case round =>
             clear H'
             try clear c1; try clear c2; try clear p2; try clear p6; try clear c7; try clear c9; try clear c16; try clear c18; try clear c18b0; try clear c20; try clear c20b0; try clear c21; try clear c22; try clear c23; try clear hcz10_0; try clear hcz10_1; try clear hcz10_2; try clear hcz10_3; try clear hcz10_4; try clear hcz12_0; try clear hcz12_1; try clear hcz12_2; try clear hcz12_3; try clear hcz12_4; try clear hcz14_0; try clear hcz14_1; try clear hcz14_2; try clear hcz14_3; try clear hcz14_4; try clear hcz24_0; try clear hcz24_1; try clear hcz24_2; try clear hcz24_3; try clear hcz24_4; try clear hfz10_0; try clear hfz10_1; try clear hfz10_2; try clear hfz10_3; try clear hfz10_4; try clear hfz12_0; try clear hfz12_1; try clear hfz12_2; try clear hfz12_3; try clear hfz12_4; try clear hfz14_0; try clear hfz14_1; try clear hfz14_2; try clear hfz14_3; try clear hfz14_4; try clear hfz24_0; try clear hfz24_1; try clear hfz24_2; try clear hfz24_3; try clear hfz24_4; try clear p2; try clear p6
             obtain ⟨x10_5, rfl, HA, HK5, BK398, HB⟩ := hrel
             cases gk with
             | zero => exact absurd HA.out (by simp [spec_NextFire.l1])
             | succ k5 =>
              have H := HA.out
              clear HA
              simp only [spec_NextFire.l1] at H
              by_cases c26 : x10_5 < (l0_1.length : Int)
              ·rw [if_pos c26] at H
               have c26b0 : decide (x10_5 < (l0_1.length : Int)) = true := decide_eq_true c26
               clear c26
               have H' := aM H
               clear H
               have hcz27_0 := czA BK398.out 0 (.slice A0_0 l0_0.length c0_0)
               have hcz27_1 := czA BK398.out 1 (.slice A0_1 l0_1.length c0_1)
               have hcz27_2 := czA BK398.out 2 (.slice A0_2 l0_2.length c0_2)
               have hcz27_3 := czA BK398.out 3 (.slice A0_3 l0_3.length c0_3)
               have hcz27_4 := czA BK398.out 4 (.slice A0_4 l0_4.length c0_4)
               have hfz27_0 := blk_frozen BK398.out 0; have hfz27_1 := blk_frozen BK398.out 1; have hfz27_2 := blk_frozen BK398.out 2; have hfz27_3 := blk_frozen BK398.out 3; have hfz27_4 := blk_frozen BK398.out 4
               go_wp2
               repeat (go_quiet (fail); try go_wp2)
               go_loopg [11] k5 (fun kq v11 w' => ∃ (x11_6 : Int), v11 = .int .i64 x11_6 ∧ Aside0 (spec_NextFire.l2 kq a1 x2_16 (wrap64 (Int.tdiv a1 1440)) x9_3 x10_5 x11_6 l0_0 l0_1 l0_2 l0_3 l0_4 = some (r1, r2)) ∧ Aside0 (kq ≤ k5) ∧ Aside0 (w'.heap[gb398]? = some (.cells #[(.slice A0_0 l0_0.length c0_0), (.slice A0_1 l0_1.length c0_1), (.slice A0_2 l0_2.length c0_2), (.slice A0_3 l0_3.length c0_3), (.slice A0_4 l0_4.length c0_4)] 26 (0, 0))) ∧ Aside0 (Below w.heap.size w w'))
               case atStart => exact ⟨(0), (by first | rfl | (simp; done) | (simp [*]; done)), H', ⟨Nat.le_refl _⟩, ⟨by exact nB BK398.out⟩, ⟨uL HB⟩⟩
               case round =>
                clear H'
                try clear c1; try clear c2; try clear p2; try clear p6; try clear c7; try clear c9; try clear c16; try clear c18; try clear c18b0; try clear c20; try clear c20b0; try clear c21; try clear c22; try clear c23; try clear c26; try clear c26b0; try clear hcz10_0; try clear hcz10_1; try clear hcz10_2; try clear hcz10_3; try clear hcz10_4; try clear hcz12_0; try clear hcz12_1; try clear hcz12_2; try clear hcz12_3; try clear hcz12_4; try clear hcz14_0; try clear hcz14_1; try clear hcz14_2; try clear hcz14_3; try clear hcz14_4; try clear hcz24_0; try clear hcz24_1; try clear hcz24_2; try clear hcz24_3; try clear hcz24_4; try clear hcz27_0; try clear hcz27_1; try clear hcz27_2; try clear hcz27_3; try clear hcz27_4; try clear hfz10_0; try clear hfz10_1; try clear hfz10_2; try clear hfz10_3; try clear hfz10_4; try clear hfz12_0; try clear hfz12_1; try clear hfz12_2; try clear hfz12_3; try clear hfz12_4; try clear hfz14_0; try clear hfz14_1; try clear hfz14_2; try clear hfz14_3; try clear hfz14_4; try clear hfz24_0; try clear hfz24_1; try clear hfz24_2; try clear hfz24_3; try clear hfz24_4; try clear hfz27_0; try clear hfz27_1; try clear hfz27_2; try clear hfz27_3; try clear hfz27_4; try clear p2; try clear p6
                obtain ⟨x11_6, rfl, HA, HK6, BK398, HB⟩ := hrel
                cases gk with
                | zero => exact absurd HA.out (by simp [spec_NextFire.l2])
                | succ k6 =>
                 have H := HA.out
                 clear HA
                 simp only [spec_NextFire.l2] at H
                 by_cases c28 : x11_6 < (l0_0.length : Int)
                 ·rw [if_pos c28] at H
                  have c28b0 : decide (x11_6 < (l0_0.length : Int)) = true := decide_eq_true c28
                  clear c28
                  by_cases c29 : 0 ≤ x10_5
                  ·rw [if_pos c29] at H
                   have c29b0 : decide (0 ≤ x10_5) = true := decide_eq_true c29
                   clear c29
                   by_cases c30 : x10_5 < (l0_1.length : Int)
                   ·rw [if_pos c30] at H
                    have c30b0 : decide (x10_5 < (l0_1.length : Int)) = true := decide_eq_true c30
                    clear c30
                    by_cases c31 : 0 ≤ x11_6
                    ·rw [if_pos c31] at H
                     have c31b0 : decide (0 ≤ x11_6) = true := decide_eq_true c31
                     clear c31
                     by_cases c32 : (wrap64 ((wrap64 ((wrap64 (x9_3 * 1440)) + (wrap64 ((rd l0_1 x10_5) * 60)))) + (rd l0_0 x11_6))) ≥ a1
                     ·rw [if_pos c32] at H
                      have c32b0 : decide (a1 ≤ (wrap64 ((wrap64 ((wrap64 (x9_3 * 1440)) + (wrap64 ((rd l0_1 x10_5) * 60)))) + (rd l0_0 x11_6)))) = true := decide_eq_true c32
                      clear c32
                      simp only [Option.some.injEq, Prod.mk.injEq] at H
                      obtain ⟨rfl, rfl⟩ := H
                      have hcz33_0 := czA BK398.out 0 (.slice A0_0 l0_0.length c0_0)
                      have hcz33_1 := czA BK398.out 1 (.slice A0_1 l0_1.length c0_1)
                      have hcz33_2 := czA BK398.out 2 (.slice A0_2 l0_2.length c0_2)
                      have hcz33_3 := czA BK398.out 3 (.slice A0_3 l0_3.length c0_3)
                      have hcz33_4 := czA BK398.out 4 (.slice A0_4 l0_4.length c0_4)
                      have hfz33_0 := blk_frozen BK398.out 0; have hfz33_1 := blk_frozen BK398.out 1; have hfz33_2 := blk_frozen BK398.out 2; have hfz33_3 := blk_frozen BK398.out 3; have hfz33_4 := blk_frozen BK398.out 4
                      have p402 : 0 ≤ (x10_5 : Int) := of_decide_eq_true (by first | (with_reducible assumption) | assumption)
                      have q402 : x10_5 < (l0_1.length : Int) := of_decide_eq_true (by first | (with_reducible assumption) | assumption)
                      obtain ⟨ad402, e402, hx402_0⟩ := Kd.at_int HR0_1.out x10_5 p402 q402
                      cases e402
                      replace hx402_0 := hxB HB hx402_0; replace p402 := eq_true p402; replace q402 := eq_true q402
                      have p403 : 0 ≤ (x11_6 : Int) := of_decide_eq_true (by first | (with_reducible assumption) | assumption)
                      have q403 : x11_6 < (l0_0.length : Int) := of_decide_eq_true (by first | (with_reducible assumption) | assumption)
                      obtain ⟨ad403, e403, hx403_0⟩ := Kd.at_int HR0_0.out x11_6 p403 q403
                      cases e403
                      replace hx403_0 := hxB HB hx403_0; replace p403 := eq_true p403; replace q403 := eq_true q403
                      go_wp2
                      repeat (go_quiet (fail); try go_wp2)
                      go_ret2
                      exact rX HB
                     ·rw [if_neg c32] at H
                      have c32b0 : decide (a1 ≤ (wrap64 ((wrap64 ((wrap64 (x9_3 * 1440)) + (wrap64 ((rd l0_1 x10_5) * 60)))) + (rd l0_0 x11_6)))) = false := decide_eq_false c32
                      clear c32
                      have H' := aM H
                      clear H
                      have hcz34_0 := czA BK398.out 0 (.slice A0_0 l0_0.length c0_0)
                      have hcz34_1 := czA BK398.out 1 (.slice A0_1 l0_1.length c0_1)
                      have hcz34_2 := czA BK398.out 2 (.slice A0_2 l0_2.length c0_2)
                      have hcz34_3 := czA BK398.out 3 (.slice A0_3 l0_3.length c0_3)
                      have hcz34_4 := czA BK398.out 4 (.slice A0_4 l0_4.length c0_4)
                      have hfz34_0 := blk_frozen BK398.out 0; have hfz34_1 := blk_frozen BK398.out 1; have hfz34_2 := blk_frozen BK398.out 2; have hfz34_3 := blk_frozen BK398.out 3; have hfz34_4 := blk_frozen BK398.out 4
                      have p402 : 0 ≤ (x10_5 : Int) := of_decide_eq_true (by first | (with_reducible assumption) | assumption)
                      have q402 : x10_5 < (l0_1.length : Int) := of_decide_eq_true (by first | (with_reducible assumption) | assumption)
                      obtain ⟨ad402, e402, hx402_0⟩ := Kd.at_int HR0_1.out x10_5 p402 q402
                      cases e402
                      replace hx402_0 := hxB HB hx402_0; replace p402 := eq_true p402; replace q402 := eq_true q402
                      have p403 : 0 ≤ (x11_6 : Int) := of_decide_eq_true (by first | (with_reducible assumption) | assumption)
                      have q403 : x11_6 < (l0_0.length : Int) := of_decide_eq_true (by first | (with_reducible assumption) | assumption)
                      obtain ⟨ad403, e403, hx403_0⟩ := Kd.at_int HR0_0.out x11_6 p403 q403
                      cases e403
                      replace hx403_0 := hxB HB hx403_0; replace p403 := eq_true p403; replace q403 := eq_true q403
                      go_wp2
                      repeat (go_quiet (fail); try go_wp2)
                      go_roundg k6
                      case measure => have := HJ3.out; have := HJ16.out; have := HK3.out; have := HJ18.out; have := HK5.out; have := HK6.out; omega
                      case rel => exact ⟨(wrap64 (x11_6 + 1)), (by first | rfl | (simp; done) | (simp [*]; done)), H', ⟨by have := HJ3.out; have := HJ16.out; have := HK3.out; have := HJ18.out; have := HK5.out; have := HK6.out; omega⟩, ⟨by exact nB BK398.out⟩, ⟨uL HB⟩⟩
                    ·rw [if_neg c31] at H
                     exact absurd H (by simp)
                   ·rw [if_neg c30] at H
                    exact absurd H (by simp)
                  ·rw [if_neg c29] at H
                   exact absurd H (by simp)
                 ·rw [if_neg c28] at H
                  have c28b0 : decide (x11_6 < (l0_0.length : Int)) = false := decide_eq_false c28
                  clear c28
                  have H' := aM H
                  clear H
                  have hcz35_0 := czA BK398.out 0 (.slice A0_0 l0_0.length c0_0)
                  have hcz35_1 := czA BK398.out 1 (.slice A0_1 l0_1.length c0_1)
                  have hcz35_2 := czA BK398.out 2 (.slice A0_2 l0_2.length c0_2)
                  have hcz35_3 := czA BK398.out 3 (.slice A0_3 l0_3.length c0_3)
                  have hcz35_4 := czA BK398.out 4 (.slice A0_4 l0_4.length c0_4)
                  have hfz35_0 := blk_frozen BK398.out 0; have hfz35_1 := blk_frozen BK398.out 1; have hfz35_2 := blk_frozen BK398.out 2; have hfz35_3 := blk_frozen BK398.out 3; have hfz35_4 := blk_frozen BK398.out 4
                  go_wp2
                  repeat (go_quiet (fail); try go_wp2)
                  go_roundg k6
                  case measure => have := HJ3.out; have := HJ16.out; have := HK3.out; have := HJ18.out; have := HK5.out; have := HK6.out; omega
                  case rel => exact ⟨(wrap64 (x10_5 + 1)), (by first | rfl | (simp; done) | (simp [*]; done)), H', ⟨by have := HJ3.out; have := HJ16.out; have := HK3.out; have := HJ18.out; have := HK5.out; have := HK6.out; omega⟩, ⟨by exact nB BK398.out⟩, ⟨uL HB⟩⟩
              ·rw [if_neg c26] at H
               have c26b0 : decide (x10_5 < (l0_1.length : Int)) = false := decide_eq_false c26
               clear c26
               have H' := aM H
               clear H
               have hcz36_0 := czA BK398.out 0 (.slice A0_0 l0_0.length c0_0)
               have hcz36_1 := czA BK398.out 1 (.slice A0_1 l0_1.length c0_1)
               have hcz36_2 := czA BK398.out 2 (.slice A0_2 l0_2.length c0_2)
               have hcz36_3 := czA BK398.out 3 (.slice A0_3 l0_3.length c0_3)
               have hcz36_4 := czA BK398.out 4 (.slice A0_4 l0_4.length c0_4)
               have hfz36_0 := blk_frozen BK398.out 0; have hfz36_1 := blk_frozen BK398.out 1; have hfz36_2 := blk_frozen BK398.out 2; have hfz36_3 := blk_frozen BK398.out 3; have hfz36_4 := blk_frozen BK398.out 4
               go_wp2
               repeat (go_quiet (fail); try go_wp2)
               go_roundg k5
               case measure => have := HJ3.out; have := HJ16.out; have := HK3.out; have := HJ18.out; have := HK5.out; omega
               case rel => exact ⟨(wrap64 (x9_3 + 1)), (by first | rfl | (simp; done) | (simp [*]; done)), H', ⟨by have := HJ3.out; have := HJ16.out; have := HK3.out; have := HJ18.out; have := HK5.out; omega⟩, ⟨by exact nB BK398.out⟩, ⟨uL HB⟩⟩
           ·replace c23 := Bool.eq_false_iff.mpr c23
            subst c23
            have H1 : (spec_NextFire.l0 kj18 a1 x2_16 (wrap64 (Int.tdiv a1 1440)) (wrap64 (x9_3 + 1)) l0_0 l0_1 l0_2 l0_3 l0_4) = some (r1, r2) := by rw [if_neg (show ¬ (false = true) by decide)] at H; exact H
            clear H; have H := H1; clear H1
            have H' := aM H
            clear H
            have hcz37_0 := czA BK398.out 0 (.slice A0_0 l0_0.length c0_0)
            have hcz37_1 := czA BK398.out 1 (.slice A0_1 l0_1.length c0_1)
            have hcz37_2 := czA BK398.out 2 (.slice A0_2 l0_2.length c0_2)
            have hcz37_3 := czA BK398.out 3 (.slice A0_3 l0_3.length c0_3)
            have hcz37_4 := czA BK398.out 4 (.slice A0_4 l0_4.length c0_4)
            have hfz37_0 := blk_frozen BK398.out 0; have hfz37_1 := blk_frozen BK398.out 1; have hfz37_2 := blk_frozen BK398.out 2; have hfz37_3 := blk_frozen BK398.out 3; have hfz37_4 := blk_frozen BK398.out 4
            go_wp2_with (first | (go_at_call 34; (with_reducible refine (spec_l10Day.calls kj18 _ _ l0_0 _ _ l0_1 _ _ l0_2 _ _ l0_3 _ _ l0_4 (wrap64 (x9_3 * 1440)) false _ ?side1 ?side2 ?side3 ?side4 ?side5 ?side6 ?side7 ?side8 ?side9 ?side10 A22.out).mono ?_); (case side1 => exact uC HR0_0 HB); (case side2 => exact HC0_0.out); (case side3 => exact uC HR0_1 HB); (case side4 => exact HC0_1.out); (case side5 => exact uC HR0_2 HB); (case side6 => exact HC0_2.out); (case side7 => exact uC HR0_3 HB); (case side8 => exact HC0_3.out); (case side9 => exact uC HR0_4 HB); (case side10 => exact HC0_4.out); rintro e w38 ⟨rfl, hb⟩; replace BK398 := blkB BK398 hb; replace HB := aM (below_step (uL HB) hb); try clear hb))
            repeat (go_quiet (first | (go_at_call 34; (with_reducible refine (spec_l10Day.calls kj18 _ _ l0_0 _ _ l0_1 _ _ l0_2 _ _ l0_3 _ _ l0_4 (wrap64 (x9_3 * 1440)) false _ ?side1 ?side2 ?side3 ?side4 ?side5 ?side6 ?side7 ?side8 ?side9 ?side10 A22.out).mono ?_); (case side1 => exact uC HR0_0 HB); (case side2 => exact HC0_0.out); (case side3 => exact uC HR0_1 HB); (case side4 => exact HC0_1.out); (case side5 => exact uC HR0_2 HB); (case side6 => exact HC0_2.out); (case side7 => exact uC HR0_3 HB); (case side8 => exact HC0_3.out); (case side9 => exact uC HR0_4 HB); (case side10 => exact HC0_4.out); rintro e w38 ⟨rfl, hb⟩; replace BK398 := blkB BK398 hb; replace HB := aM (below_step (uL HB) hb); try clear hb)); try go_wp2_with (first | (go_at_call 34; (with_reducible refine (spec_l10Day.calls kj18 _ _ l0_0 _ _ l0_1 _ _ l0_2 _ _ l0_3 _ _ l0_4 (wrap64 (x9_3 * 1440)) false _ ?side1 ?side2 ?side3 ?side4 ?side5 ?side6 ?side7 ?side8 ?side9 ?side10 A22.out).mono ?_); (case side1 => exact uC HR0_0 HB); (case side2 => exact HC0_0.out); (case side3 => exact uC HR0_1 HB); (case side4 => exact HC0_1.out); (case side5 => exact uC HR0_2 HB); (case side6 => exact HC0_2.out); (case side7 => exact uC HR0_3 HB); (case side8 => exact HC0_3.out); (case side9 => exact uC HR0_4 HB); (case side10 => exact HC0_4.out); rintro e w38 ⟨rfl, hb⟩; replace BK398 := blkB BK398 hb; replace HB := aM (below_step (uL HB) hb); try clear hb)))
            go_roundg kj18
            case measure => have := HJ3.out; have := HJ16.out; have := HK3.out; have := HJ18.out; omega
            case rel => exact ⟨(wrap64 (x9_3 + 1)), (by first | rfl | (simp; done) | (simp [*]; done)), H', ⟨by have := HJ3.out; have := HJ16.out; have := HK3.out; have := HJ18.out; omega⟩, ⟨by exact nB BK398.out⟩, ⟨uL HB⟩⟩
          ·replace c21 := Bool.eq_false_iff.mpr c21
           subst c21
           have H1 : (some (0, false)) = some (r1, r2) := by rw [if_neg (show ¬ (false = true) by decide)] at H; exact H
           clear H; have H := H1; clear H1
           simp only [Option.some.injEq, Prod.mk.injEq] at H
           obtain ⟨rfl, rfl⟩ := H
           go_wp2
           repeat (go_quiet (fail); try go_wp2)
           go_ret2
           exact rX HB

end Go.Proofs.Ythomiofokkkhgaa.QFnCounts
