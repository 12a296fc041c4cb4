-- Written by a program of this session's own (wip/turnprint.py over the kit's print); Lean checks it.
import Derived.Test.YtlglildjehcogaaQFnFiresx0
import Derived.Test.YtlglildjehcogaaQFnFiresx3
import Derived.Test.YtlglildjehcogaaQFnFiresx5
import Derived.Test.YtlglildjehcogaaQFnFiresx6
import Derived.Test.YtlglildjehcogaaQFnFiresx7
namespace Go.Proofs.Ytlglildjehcogaa.QFnFires
open Go.RowKit Go.Proofs.YtlglildjehcogaaW.PrintWords Go.Proofs.YtlglildjehcogaaW.PrintLast Go.Proofs.YtlglildjehcogaaW.PrintMore
attribute [local go_sem] max2_int min2_int max_two min_two max_three min_three max_four min_four   -- for this text's walks alone
attribute [local go_sem] Go.Proofs.YtlglildjehcogaaQWords.run_lss_str
attribute [local go_sem] Go.Proofs.YtlglildjehcogaaQWords.run_geq_str
attribute [local go_sem] Go.Proofs.YtlglildjehcogaaQWords.run_leq_str
attribute [local go_sem] Go.Proofs.YtlglildjehcogaaQWords.run_gtr_str
set_option linter.unusedVariables false
set_option linter.unusedSimpArgs false

/-! ### laws_FnFires: function 7 -/
mutual
def laws_FnFires.j0 : Nat → Int → Int → Int → Bool → Bool → List Int → List Int → List Int → List Int → List Int → Option (Bool)
  | 0, _, _, _, _, _, _, _, _, _, _ => none
  | k + 1, x4, x5, x6, x7, x45, x329000, x329001, x329002, x329003, x329004 => if x45 = true then (none) else (if x7 = true then (laws_FnFires.j1 k x4 x5 x6 x7 x6 x329000 x329001 x329002 x329003 x329004) else (laws_FnFires.j1 k x4 x5 x6 x7 (wrap64 ((wrap64 ((wrap64 ((wrap64 (Int.tdiv x4 1440)) + x5)) + 1)) * 1440)) x329000 x329001 x329002 x329003 x329004))
def laws_FnFires.j1 : Nat → Int → Int → Int → Bool → Int → List Int → List Int → List Int → List Int → List Int → Option (Bool)
  | 0, _, _, _, _, _, _, _, _, _, _ => none
  | k + 1, x4, x5, x6, x7, x10, x329000, x329001, x329002, x329003, x329004 => laws_FnFires.l0 k x4 x5 x6 x7 x10 x4 x329000 x329001 x329002 x329003 x329004
def laws_FnFires.l0 : Nat → Int → Int → Int → Bool → Int → Int → List Int → List Int → List Int → List Int → List Int → Option (Bool)
  | 0, _, _, _, _, _, _, _, _, _, _, _ => none
  | k + 1, x4, x5, x6, x7, x10, x11, x329000, x329001, x329002, x329003, x329004 => if x11 < x10 then (laws_FnFires.j3 k x4 x5 x6 x7 x10 x11 (decide (x11 < (wrap64 (x4 + 400)))) x329000 x329001 x329002 x329003 x329004) else (laws_FnFires.j3 k x4 x5 x6 x7 x10 x11 false x329000 x329001 x329002 x329003 x329004)
def laws_FnFires.j3 : Nat → Int → Int → Int → Bool → Int → Int → Bool → List Int → List Int → List Int → List Int → List Int → Option (Bool)
  | 0, _, _, _, _, _, _, _, _, _, _, _, _ => none
  | k + 1, x4, x5, x6, x7, x10, x11, x63, x329000, x329001, x329002, x329003, x329004 => if x63 = true then ((impl_Fires.f k x329000 x329001 x329002 x329003 x329004 x11).bind fun t337 => (if t337 = true then (none) else (laws_FnFires.l0 k x4 x5 x6 x7 x10 (wrap64 (x11 + 1)) x329000 x329001 x329002 x329003 x329004))) else (if x7 = true then ((impl_Fires.f k x329000 x329001 x329002 x329003 x329004 x6).bind fun t338 => (if t338 = true then (if x6 ≥ x4 then (some (decide ((wrap64 (Int.tdiv x6 1440)) ≤ (wrap64 ((wrap64 (Int.tdiv x4 1440)) + x5))))) else (none)) else (none))) else (some true))
end
def laws_FnFires.f (k : Nat) (l0 : List Int) : Option (Bool) := (laws_big.f l0).bind fun t311 => (if t311 = true then (some true) else ((spec_DrawCron.f k l0).bind fun bt312 => ((spec_DrawPlaces.f k l0).bind fun t329 => (if 0 < (t329.length : Int) then ((impl_NextFire.f k bt312.1 bt312.2.1 bt312.2.2.1 bt312.2.2.2.1 bt312.2.2.2.2.1 bt312.2.2.2.2.2 (Int.tmod (rd t329 0) 4)).bind fun bt333 => ((spec_NextFire.f k bt312.1 bt312.2.1 bt312.2.2.1 bt312.2.2.2.1 bt312.2.2.2.2.1 bt312.2.2.2.2.2 (Int.tmod (rd t329 0) 4)).bind fun bt335 => (if (bt333.2 != bt335.2) = true then (laws_FnFires.j0 k bt312.2.2.2.2.2 (Int.tmod (rd t329 0) 4) bt333.1 bt333.2 true bt312.1 bt312.2.1 bt312.2.2.1 bt312.2.2.2.1 bt312.2.2.2.2.1) else (laws_FnFires.j0 k bt312.2.2.2.2.2 (Int.tmod (rd t329 0) 4) bt333.1 bt333.2 (bt333.1 != bt335.1) bt312.1 bt312.2.1 bt312.2.2.1 bt312.2.2.2.1 bt312.2.2.2.2.1)))) else (none)))))
theorem laws_FnFires.mono_l : ∀ k, (∀ y0 y1 y2 y3 y4 y5 y6 y7 y8 y9, LeO (laws_FnFires.j0 k y0 y1 y2 y3 y4 y5 y6 y7 y8 y9) (laws_FnFires.j0 (k + 1) y0 y1 y2 y3 y4 y5 y6 y7 y8 y9)) ∧ (∀ y0 y1 y2 y3 y4 y5 y6 y7 y8 y9, LeO (laws_FnFires.j1 k y0 y1 y2 y3 y4 y5 y6 y7 y8 y9) (laws_FnFires.j1 (k + 1) y0 y1 y2 y3 y4 y5 y6 y7 y8 y9)) ∧ (∀ y0 y1 y2 y3 y4 y5 y6 y7 y8 y9 y10, LeO (laws_FnFires.l0 k y0 y1 y2 y3 y4 y5 y6 y7 y8 y9 y10) (laws_FnFires.l0 (k + 1) y0 y1 y2 y3 y4 y5 y6 y7 y8 y9 y10)) ∧ (∀ y0 y1 y2 y3 y4 y5 y6 y7 y8 y9 y10 y11, LeO (laws_FnFires.j3 k y0 y1 y2 y3 y4 y5 y6 y7 y8 y9 y10 y11) (laws_FnFires.j3 (k + 1) y0 y1 y2 y3 y4 y5 y6 y7 y8 y9 y10 y11))
  | 0 => ⟨fun _ _ _ _ _ _ _ _ _ _ r h => by simp [laws_FnFires.j0] at h, fun _ _ _ _ _ _ _ _ _ _ r h => by simp [laws_FnFires.j1] at h, fun _ _ _ _ _ _ _ _ _ _ _ r h => by simp [laws_FnFires.l0] at h, fun _ _ _ _ _ _ _ _ _ _ _ _ r h => by simp [laws_FnFires.j3] at h⟩
  | k + 1 => by
    obtain ⟨ih0, ih1, ih2, ih3⟩ := laws_FnFires.mono_l k
    refine ⟨?_, ?_, ?_, ?_⟩
    · intro y0 y1 y2 y3 y4 y5 y6 y7 y8 y9
      unfold laws_FnFires.j0
      repeat' first
      | (with_reducible exact ih0 _ _ _ _ _ _ _ _ _ _)
      | (with_reducible exact ih1 _ _ _ _ _ _ _ _ _ _)
      | (with_reducible exact ih2 _ _ _ _ _ _ _ _ _ _ _)
      | (with_reducible exact ih3 _ _ _ _ _ _ _ _ _ _ _ _)
      | (with_reducible exact impl_Fires.mono _ _ _ _ _ _ _)
      | (with_reducible exact impl_NextFire.mono _ _ _ _ _ _ _ _)
      | (with_reducible exact spec_DrawCron.mono _ _)
      | (with_reducible exact spec_DrawPlaces.mono _ _)
      | (with_reducible exact spec_NextFire.mono _ _ _ _ _ _ _ _)
      | (with_reducible exact LeO.refl _)
      | (with_reducible exact LeO.none _)
      | (with_reducible refine LeO.ite ?_ ?_)
      | (with_reducible refine LeO.bind ?_ (fun _ => ?_))
      | exact ih0 _ _ _ _ _ _ _ _ _ _
      | exact ih1 _ _ _ _ _ _ _ _ _ _
      | exact ih2 _ _ _ _ _ _ _ _ _ _ _
      | exact ih3 _ _ _ _ _ _ _ _ _ _ _ _
      | exact impl_Fires.mono _ _ _ _ _ _ _
      | exact impl_NextFire.mono _ _ _ _ _ _ _ _
      | exact spec_DrawCron.mono _ _
      | exact spec_DrawPlaces.mono _ _
      | exact spec_NextFire.mono _ _ _ _ _ _ _ _
      | exact LeO.none _
      | refine LeO.ite ?_ ?_
      | refine LeO.bind ?_ (fun _ => ?_)
    · intro y0 y1 y2 y3 y4 y5 y6 y7 y8 y9
      unfold laws_FnFires.j1
      repeat' first
      | (with_reducible exact ih0 _ _ _ _ _ _ _ _ _ _)
      | (with_reducible exact ih1 _ _ _ _ _ _ _ _ _ _)
      | (with_reducible exact ih2 _ _ _ _ _ _ _ _ _ _ _)
      | (with_reducible exact ih3 _ _ _ _ _ _ _ _ _ _ _ _)
      | (with_reducible exact impl_Fires.mono _ _ _ _ _ _ _)
      | (with_reducible exact impl_NextFire.mono _ _ _ _ _ _ _ _)
      | (with_reducible exact spec_DrawCron.mono _ _)
      | (with_reducible exact spec_DrawPlaces.mono _ _)
      | (with_reducible exact spec_NextFire.mono _ _ _ _ _ _ _ _)
      | (with_reducible exact LeO.refl _)
      | (with_reducible exact LeO.none _)
      | (with_reducible refine LeO.ite ?_ ?_)
      | (with_reducible refine LeO.bind ?_ (fun _ => ?_))
      | exact ih0 _ _ _ _ _ _ _ _ _ _
      | exact ih1 _ _ _ _ _ _ _ _ _ _
      | exact ih2 _ _ _ _ _ _ _ _ _ _ _
      | exact ih3 _ _ _ _ _ _ _ _ _ _ _ _
      | exact impl_Fires.mono _ _ _ _ _ _ _
      | exact impl_NextFire.mono _ _ _ _ _ _ _ _
      | exact spec_DrawCron.mono _ _
      | exact spec_DrawPlaces.mono _ _
      | exact spec_NextFire.mono _ _ _ _ _ _ _ _
      | exact LeO.none _
      | refine LeO.ite ?_ ?_
      | refine LeO.bind ?_ (fun _ => ?_)
    · intro y0 y1 y2 y3 y4 y5 y6 y7 y8 y9 y10
      unfold laws_FnFires.l0
      repeat' first
      | (with_reducible exact ih0 _ _ _ _ _ _ _ _ _ _)
      | (with_reducible exact ih1 _ _ _ _ _ _ _ _ _ _)
      | (with_reducible exact ih2 _ _ _ _ _ _ _ _ _ _ _)
      | (with_reducible exact ih3 _ _ _ _ _ _ _ _ _ _ _ _)
      | (with_reducible exact impl_Fires.mono _ _ _ _ _ _ _)
      | (with_reducible exact impl_NextFire.mono _ _ _ _ _ _ _ _)
      | (with_reducible exact spec_DrawCron.mono _ _)
      | (with_reducible exact spec_DrawPlaces.mono _ _)
      | (with_reducible exact spec_NextFire.mono _ _ _ _ _ _ _ _)
      | (with_reducible exact LeO.refl _)
      | (with_reducible exact LeO.none _)
      | (with_reducible refine LeO.ite ?_ ?_)
      | (with_reducible refine LeO.bind ?_ (fun _ => ?_))
      | exact ih0 _ _ _ _ _ _ _ _ _ _
      | exact ih1 _ _ _ _ _ _ _ _ _ _
      | exact ih2 _ _ _ _ _ _ _ _ _ _ _
      | exact ih3 _ _ _ _ _ _ _ _ _ _ _ _
      | exact impl_Fires.mono _ _ _ _ _ _ _
      | exact impl_NextFire.mono _ _ _ _ _ _ _ _
      | exact spec_DrawCron.mono _ _
      | exact spec_DrawPlaces.mono _ _
      | exact spec_NextFire.mono _ _ _ _ _ _ _ _
      | exact LeO.none _
      | refine LeO.ite ?_ ?_
      | refine LeO.bind ?_ (fun _ => ?_)
    · intro y0 y1 y2 y3 y4 y5 y6 y7 y8 y9 y10 y11
      unfold laws_FnFires.j3
      repeat' first
      | (with_reducible exact ih0 _ _ _ _ _ _ _ _ _ _)
      | (with_reducible exact ih1 _ _ _ _ _ _ _ _ _ _)
      | (with_reducible exact ih2 _ _ _ _ _ _ _ _ _ _ _)
      | (with_reducible exact ih3 _ _ _ _ _ _ _ _ _ _ _ _)
      | (with_reducible exact impl_Fires.mono _ _ _ _ _ _ _)
      | (with_reducible exact impl_NextFire.mono _ _ _ _ _ _ _ _)
      | (with_reducible exact spec_DrawCron.mono _ _)
      | (with_reducible exact spec_DrawPlaces.mono _ _)
      | (with_reducible exact spec_NextFire.mono _ _ _ _ _ _ _ _)
      | (with_reducible exact LeO.refl _)
      | (with_reducible exact LeO.none _)
      | (with_reducible refine LeO.ite ?_ ?_)
      | (with_reducible refine LeO.bind ?_ (fun _ => ?_))
      | exact ih0 _ _ _ _ _ _ _ _ _ _
      | exact ih1 _ _ _ _ _ _ _ _ _ _
      | exact ih2 _ _ _ _ _ _ _ _ _ _ _
      | exact ih3 _ _ _ _ _ _ _ _ _ _ _ _
      | exact impl_Fires.mono _ _ _ _ _ _ _
      | exact impl_NextFire.mono _ _ _ _ _ _ _ _
      | exact spec_DrawCron.mono _ _
      | exact spec_DrawPlaces.mono _ _
      | exact spec_NextFire.mono _ _ _ _ _ _ _ _
      | exact LeO.none _
      | refine LeO.ite ?_ ?_
      | refine LeO.bind ?_ (fun _ => ?_)
theorem laws_FnFires.mono : ∀ a0 k, LeO (laws_FnFires.f k a0) (laws_FnFires.f (k + 1) a0) := by
  intro a0 k
  obtain ⟨ih0, ih1, ih2, ih3⟩ := laws_FnFires.mono_l k
  unfold laws_FnFires.f
  repeat' first
      | (with_reducible exact ih0 _ _ _ _ _ _ _ _ _ _)
      | (with_reducible exact ih1 _ _ _ _ _ _ _ _ _ _)
      | (with_reducible exact ih2 _ _ _ _ _ _ _ _ _ _ _)
      | (with_reducible exact ih3 _ _ _ _ _ _ _ _ _ _ _ _)
      | (with_reducible exact impl_Fires.mono _ _ _ _ _ _ _)
      | (with_reducible exact impl_NextFire.mono _ _ _ _ _ _ _ _)
      | (with_reducible exact spec_DrawCron.mono _ _)
      | (with_reducible exact spec_DrawPlaces.mono _ _)
      | (with_reducible exact spec_NextFire.mono _ _ _ _ _ _ _ _)
      | (with_reducible exact LeO.refl _)
      | (with_reducible exact LeO.none _)
      | (with_reducible refine LeO.ite ?_ ?_)
      | (with_reducible refine LeO.bind ?_ (fun _ => ?_))
      | exact ih0 _ _ _ _ _ _ _ _ _ _
      | exact ih1 _ _ _ _ _ _ _ _ _ _
      | exact ih2 _ _ _ _ _ _ _ _ _ _ _
      | exact ih3 _ _ _ _ _ _ _ _ _ _ _ _
      | exact impl_Fires.mono _ _ _ _ _ _ _
      | exact impl_NextFire.mono _ _ _ _ _ _ _ _
      | exact spec_DrawCron.mono _ _
      | exact spec_DrawPlaces.mono _ _
      | exact spec_NextFire.mono _ _ _ _ _ _ _ _
      | exact LeO.none _
      | refine LeO.ite ?_ ?_
      | refine LeO.bind ?_ (fun _ => ?_)
set_option maxHeartbeats 8000000 in
set_option maxRecDepth 100000 in
theorem laws_FnFires.calls (k : Nat) (A0 : Option Addr) (c0 : Nat) (l0 : List Int) (r : Bool) (w : World) (hr0 : Kd.C (Kd.int .u8) w A0 l0.length l0) (hc0 : l0.length ≤ c0) (h : laws_FnFires.f k l0 = some r) :
    Calls Try.prog 7 #[.slice A0 l0.length c0] w fun e w' => e = .returned (.bool r) ∧ Below w.heap.size w w' := by
  have hu27 := Try.underlying27
  have HR0 := aM hr0
  have HC0 := aM hc0
  clear hr0 hc0
  have HB := aM (Below.refl w.heap.size w)
  have H : ((laws_big.f l0).bind fun t311 => (if t311 = true then (some true) else ((spec_DrawCron.f k l0).bind fun bt312 => ((spec_DrawPlaces.f k l0).bind fun t329 => (if 0 < (t329.length : Int) then ((impl_NextFire.f k bt312.1 bt312.2.1 bt312.2.2.1 bt312.2.2.2.1 bt312.2.2.2.2.1 bt312.2.2.2.2.2 (Int.tmod (rd t329 0) 4)).bind fun bt333 => ((spec_NextFire.f k bt312.1 bt312.2.1 bt312.2.2.1 bt312.2.2.2.1 bt312.2.2.2.2.1 bt312.2.2.2.2.2 (Int.tmod (rd t329 0) 4)).bind fun bt335 => (if (bt333.2 != bt335.2) = true then (laws_FnFires.j0 k bt312.2.2.2.2.2 (Int.tmod (rd t329 0) 4) bt333.1 bt333.2 true bt312.1 bt312.2.1 bt312.2.2.1 bt312.2.2.2.1 bt312.2.2.2.2.1) else (laws_FnFires.j0 k bt312.2.2.2.2.2 (Int.tmod (rd t329 0) 4) bt333.1 bt333.2 (bt333.1 != bt335.1) bt312.1 bt312.2.1 bt312.2.2.1 bt312.2.2.2.1 bt312.2.2.2.2.1)))) else (none)))))) = some r := h
  clear h
  replace H := Option.bind_eq_some_iff.mp H
  obtain ⟨t311, A20, H⟩ := H
  replace H : (if t311 = true then (some true) else ((spec_DrawCron.f k l0).bind fun bt312 => ((spec_DrawPlaces.f k l0).bind fun t329 => (if 0 < (t329.length : Int) then ((impl_NextFire.f k bt312.1 bt312.2.1 bt312.2.2.1 bt312.2.2.2.1 bt312.2.2.2.2.1 bt312.2.2.2.2.2 (Int.tmod (rd t329 0) 4)).bind fun bt333 => ((spec_NextFire.f k bt312.1 bt312.2.1 bt312.2.2.1 bt312.2.2.2.1 bt312.2.2.2.2.1 bt312.2.2.2.2.2 (Int.tmod (rd t329 0) 4)).bind fun bt335 => (if (bt333.2 != bt335.2) = true then (laws_FnFires.j0 k bt312.2.2.2.2.2 (Int.tmod (rd t329 0) 4) bt333.1 bt333.2 true bt312.1 bt312.2.1 bt312.2.2.1 bt312.2.2.2.1 bt312.2.2.2.2.1) else (laws_FnFires.j0 k bt312.2.2.2.2.2 (Int.tmod (rd t329 0) 4) bt333.1 bt333.2 (bt333.1 != bt335.1) bt312.1 bt312.2.1 bt312.2.2.1 bt312.2.2.2.1 bt312.2.2.2.2.1)))) else (none))))) = some r := H
  have A2 := aM A20
  clear A20
  by_cases c3 : t311 = true
  · subst c3
    have H1 : (some true) = some r := by rw [if_pos rfl] at H; exact H
    clear H
    have H := H1
    clear H1
    obtain rfl := Option.some.inj H
    go_enter Try.func7, Try.ntmps7
    go_wp2_with (first | ((with_reducible refine gate_callee (f := 19) rfl ?_); refine goesL_ (some 13) rfl rfl Try.func19 (by kernel_rfl) rfl #[.slice A0 l0.length c0] rfl (by (try simp only [mT, mC, mN]); first | done | rfl | (simp only [lDr, lTk]; rfl)) ?_; (with_reducible refine (laws_big.calls _ _ l0 true _ ?side1 ?side2 A2.out).mono ?_); (case side1 => repeat (first | exact HR0.out | (with_reducible refine cA ?_ _) | (with_reducible refine cN ?_ _) | (with_reducible refine cD ?_))); (case side2 => exact HC0.out); rintro e w' ⟨rfl, ⟨nd, rfl⟩⟩; refine ⟨_, rfl, ?_⟩))
    go_ret
    exact ⟨by first | rfl | (simp [errW_none, errW_some] <;> rfl) | (simp [*, errW_none, errW_some] <;> rfl), by repeat (first | (with_reducible first | exact HB.out | apply lA | apply lN | apply lD) | exact HB.out)⟩
  · replace c3 := Bool.eq_false_iff.mpr c3
    subst c3
    have H1 : ((spec_DrawCron.f k l0).bind fun bt312 => ((spec_DrawPlaces.f k l0).bind fun t329 => (if 0 < (t329.length : Int) then ((impl_NextFire.f k bt312.1 bt312.2.1 bt312.2.2.1 bt312.2.2.2.1 bt312.2.2.2.2.1 bt312.2.2.2.2.2 (Int.tmod (rd t329 0) 4)).bind fun bt333 => ((spec_NextFire.f k bt312.1 bt312.2.1 bt312.2.2.1 bt312.2.2.2.1 bt312.2.2.2.2.1 bt312.2.2.2.2.2 (Int.tmod (rd t329 0) 4)).bind fun bt335 => (if (bt333.2 != bt335.2) = true then (laws_FnFires.j0 k bt312.2.2.2.2.2 (Int.tmod (rd t329 0) 4) bt333.1 bt333.2 true bt312.1 bt312.2.1 bt312.2.2.1 bt312.2.2.2.1 bt312.2.2.2.2.1) else (laws_FnFires.j0 k bt312.2.2.2.2.2 (Int.tmod (rd t329 0) 4) bt333.1 bt333.2 (bt333.1 != bt335.1) bt312.1 bt312.2.1 bt312.2.2.1 bt312.2.2.2.1 bt312.2.2.2.2.1)))) else (none)))) = some r := by rw [if_neg (show ¬ (false = true) by decide)] at H; exact H
    clear H
    have H := H1
    clear H1
    replace H := Option.bind_eq_some_iff.mp H
    obtain ⟨⟨t312, t315, t318, t321, t324, t327⟩, A40, H⟩ := H
    replace H : ((spec_DrawPlaces.f k l0).bind fun t329 => (if 0 < (t329.length : Int) then ((impl_NextFire.f k t312 t315 t318 t321 t324 t327 (Int.tmod (rd t329 0) 4)).bind fun bt333 => ((spec_NextFire.f k t312 t315 t318 t321 t324 t327 (Int.tmod (rd t329 0) 4)).bind fun bt335 => (if (bt333.2 != bt335.2) = true then (laws_FnFires.j0 k t327 (Int.tmod (rd t329 0) 4) bt333.1 bt333.2 true t312 t315 t318 t321 t324) else (laws_FnFires.j0 k t327 (Int.tmod (rd t329 0) 4) bt333.1 bt333.2 (bt333.1 != bt335.1) t312 t315 t318 t321 t324)))) else (none))) = some r := H
    have A4 := aM A40
    clear A40
    replace H := Option.bind_eq_some_iff.mp H
    obtain ⟨t329, A50, H⟩ := H
    replace H : (if 0 < (t329.length : Int) then ((impl_NextFire.f k t312 t315 t318 t321 t324 t327 (Int.tmod (rd t329 0) 4)).bind fun bt333 => ((spec_NextFire.f k t312 t315 t318 t321 t324 t327 (Int.tmod (rd t329 0) 4)).bind fun bt335 => (if (bt333.2 != bt335.2) = true then (laws_FnFires.j0 k t327 (Int.tmod (rd t329 0) 4) bt333.1 bt333.2 true t312 t315 t318 t321 t324) else (laws_FnFires.j0 k t327 (Int.tmod (rd t329 0) 4) bt333.1 bt333.2 (bt333.1 != bt335.1) t312 t315 t318 t321 t324)))) else (none)) = some r := H
    have A5 := aM A50
    clear A50
    by_cases c6 : 0 < (t329.length : Int)
    · rw [if_pos c6] at H
      have c6b0 : decide (0 < (t329.length : Int)) = true := decide_eq_true c6
      have c6b1 : decide (0 < t329.length) = true := decide_eq_true (by omega)
      clear c6
      replace H := Option.bind_eq_some_iff.mp H
      obtain ⟨⟨t333, t334⟩, A70, H⟩ := H
      replace H : ((spec_NextFire.f k t312 t315 t318 t321 t324 t327 (Int.tmod (rd t329 0) 4)).bind fun bt335 => (if (t334 != bt335.2) = true then (laws_FnFires.j0 k t327 (Int.tmod (rd t329 0) 4) t333 t334 true t312 t315 t318 t321 t324) else (laws_FnFires.j0 k t327 (Int.tmod (rd t329 0) 4) t333 t334 (t333 != bt335.1) t312 t315 t318 t321 t324))) = some r := H
      have A7 := aM A70
      clear A70
      replace H := Option.bind_eq_some_iff.mp H
      obtain ⟨⟨t335, t336⟩, A80, H⟩ := H
      replace H : (if (t334 != t336) = true then (laws_FnFires.j0 k t327 (Int.tmod (rd t329 0) 4) t333 t334 true t312 t315 t318 t321 t324) else (laws_FnFires.j0 k t327 (Int.tmod (rd t329 0) 4) t333 t334 (t333 != t335) t312 t315 t318 t321 t324)) = some r := H
      have A8 := aM A80
      clear A80
      have HC9 := aM H
      clear H
      go_enter Try.func7, Try.ntmps7
      go_upto_region 7 with (first | ((with_reducible refine gate_callee (f := 19) rfl ?_); refine goesL_ (some 13) rfl rfl Try.func19 (by kernel_rfl) rfl #[.slice A0 l0.length c0] rfl (by (try simp only [mT, mC, mN]); first | done | rfl | (simp only [lDr, lTk]; rfl)) ?_; (with_reducible refine (laws_big.calls _ _ l0 false _ ?side1 ?side2 A2.out).mono ?_); (case side1 => repeat (first | exact HR0.out | (with_reducible refine cA ?_ _) | (with_reducible refine cN ?_ _) | (with_reducible refine cD ?_))); (case side2 => exact HC0.out); rintro e w' ⟨rfl, ⟨nd, rfl⟩⟩; refine ⟨_, rfl, ?_⟩) | ((with_reducible refine gate_callee (f := 20) rfl ?_); refine goesL_ (some 16) rfl rfl Try.func20 (by kernel_rfl) rfl #[.slice A0 l0.length c0] rfl (by (try simp only [mT, mC, mN]); first | done | rfl | (simp only [lDr, lTk]; rfl)) ?_; (with_reducible refine (spec_DrawCron.calls k _ _ l0 t312 t315 t318 t321 t324 t327 _ ?side1 ?side2 A4.out).mono ?_); (case side1 => repeat (first | exact HR0.out | (with_reducible refine cA ?_ _) | (with_reducible refine cN ?_ _) | (with_reducible refine cD ?_))); (case side2 => exact HC0.out); rintro e w10 ⟨v313, v316, v319, v322, v325, rfl, ho0, ho1, ho2, ho3, ho4, hb⟩; refine ⟨_, rfl, ?_⟩; have n0_ := aM (Kd.R_lower ho0 (below_size (by repeat (first | (with_reducible first | exact HB.out | apply lA | apply lN | apply lD) | exact HB.out)))); have n1_ := aM (Kd.R_lower ho1 (below_size (by repeat (first | (with_reducible first | exact HB.out | apply lA | apply lN | apply lD) | exact HB.out)))); have n2_ := aM (Kd.R_lower ho2 (below_size (by repeat (first | (with_reducible first | exact HB.out | apply lA | apply lN | apply lD) | exact HB.out)))); have n3_ := aM (Kd.R_lower ho3 (below_size (by repeat (first | (with_reducible first | exact HB.out | apply lA | apply lN | apply lD) | exact HB.out)))); have n4_ := aM (Kd.R_lower ho4 (below_size (by repeat (first | (with_reducible first | exact HB.out | apply lA | apply lN | apply lD) | exact HB.out)))); have n5_ := aM (below_step (by repeat (first | (with_reducible first | exact HB.out | apply lA | apply lN | apply lD) | exact HB.out)) hb); clear HB; have HO314 := n0_; have HO317 := n1_; have HO320 := n2_; have HO323 := n3_; have HO326 := n4_; have HB := n5_; clear n0_ n1_ n2_ n3_ n4_ n5_; (try clear hb); (try clear hb2); (try clear hk); (try clear hi); (try clear ho0); (try clear ho1); (try clear ho2); (try clear ho3); (try clear ho4)) | ((with_reducible refine gate_dst (N := 3) rfl ?_); refine box_event ?hg (N := 3) ?hd (cs := #[.slice none 0 0, .slice none 0 0, .slice none 0 0, .slice none 0 0, .slice none 0 0]) (t := 27) ?hr ?_; (case hd => rfl); (case hg => rfl); (case hr => first | (go_simp; done) | (go_simp; rfl)); intro gb328 hg w11 hbox hb; have n0_ := aM (Kd.R_below (by (with_reducible repeat first | apply rA | apply rN | apply rD); exact HO314.out) hb); have n1_ := aM (Kd.R_below (by (with_reducible repeat first | apply rA | apply rN | apply rD); exact HO317.out) hb); have n2_ := aM (Kd.R_below (by (with_reducible repeat first | apply rA | apply rN | apply rD); exact HO320.out) hb); have n3_ := aM (Kd.R_below (by (with_reducible repeat first | apply rA | apply rN | apply rD); exact HO323.out) hb); have n4_ := aM (Kd.R_below (by (with_reducible repeat first | apply rA | apply rN | apply rD); exact HO326.out) hb); have n5_ := aM (below_step (by repeat (first | (with_reducible first | exact HB.out | apply lA | apply lN | apply lD) | exact HB.out)) hb); have n6_ := aM (hbox); have n7_ := aM ((by rw [hg]; exact (below_size (by repeat (first | (with_reducible first | exact HB.out | apply lA | apply lN | apply lD) | exact HB.out))) : w.heap.size ≤ gb328)); have n8_ := aM ((by rw [hg]; exact (below_size (by repeat (first | (with_reducible first | exact HB.out | apply lA | apply lN | apply lD) | exact HB.out))) : w.heap.size ≤ gb328)); clear HO314; clear HO317; clear HO320; clear HO323; clear HO326; clear HB; have HO314 := n0_; have HO317 := n1_; have HO320 := n2_; have HO323 := n3_; have HO326 := n4_; have HB := n5_; have BK328 := n6_; have GW328 := n7_; have GE328 := n8_; clear n0_ n1_ n2_ n3_ n4_ n5_ n6_ n7_ n8_; clear hb hbox hg; obtain ⟨Ao12, co12, eo12⟩ := Kd.R_slice HO314.out; subst eo12; have hcz13_0 : w11.cell? ⟨gb328, 0, none⟩ = some (.slice none 0 0) := (blk_cell BK328.out 0).trans rfl; have hcz13_1 : w11.cell? ⟨gb328, 1, none⟩ = some (.slice none 0 0) := (blk_cell BK328.out 1).trans rfl; have hcz13_2 : w11.cell? ⟨gb328, 2, none⟩ = some (.slice none 0 0) := (blk_cell BK328.out 2).trans rfl; have hcz13_3 : w11.cell? ⟨gb328, 3, none⟩ = some (.slice none 0 0) := (blk_cell BK328.out 3).trans rfl; have hcz13_4 : w11.cell? ⟨gb328, 4, none⟩ = some (.slice none 0 0) := (blk_cell BK328.out 4).trans rfl; have hfz13_0 := blk_frozen BK328.out 0; have hfz13_1 := blk_frozen BK328.out 1; have hfz13_2 := blk_frozen BK328.out 2; have hfz13_3 := blk_frozen BK328.out 3; have hfz13_4 := blk_frozen BK328.out 4; obtain ⟨Ao14, co14, eo14⟩ := Kd.R_slice HO317.out; subst eo14; obtain ⟨Ao15, co15, eo15⟩ := Kd.R_slice HO320.out; subst eo15; obtain ⟨Ao16, co16, eo16⟩ := Kd.R_slice HO323.out; subst eo16; obtain ⟨Ao17, co17, eo17⟩ := Kd.R_slice HO326.out; subst eo17) | ((with_reducible refine gate_callee (f := 21) rfl ?_); refine goesL_ (some 20) rfl rfl Try.func21 (by kernel_rfl) rfl #[.slice A0 l0.length c0] rfl (by (try simp only [mT, mC, mN]); first | done | rfl | (simp only [lDr, lTk]; rfl)) ?_; (with_reducible refine (spec_DrawPlaces.calls k _ _ l0 t329 _ ?side1 ?side2 A5.out).mono ?_); (case side1 => exact Kd.C_below HR0.out (by repeat (first | (with_reducible first | exact HB.out | apply lA | apply lN | apply lD | refine lS ?_ GE328.out) | exact HB.out))); (case side2 => exact HC0.out); rintro e w18 ⟨v330, rfl, ho0, hb⟩; refine ⟨_, rfl, ?_⟩; have n0_ := aM (Kd.R_elder' (by (with_reducible repeat first | apply rA | apply rN | apply rD); exact (Kd.R_mono (Kd.R_far (p := ⟨gb328, 4, none⟩) (Kd.R_far (p := ⟨gb328, 3, none⟩) (Kd.R_far (p := ⟨gb328, 2, none⟩) (Kd.R_far (p := ⟨gb328, 1, none⟩) (Kd.R_far (p := ⟨gb328, 0, none⟩) (Kd.R_types HO314.out BK328.out (by decide)) (fun _ hk => hk.2) (.slice Ao12 t312.length co12)) (fun _ hk => hk.2) (.slice Ao14 t315.length co14)) (fun _ hk => hk.2) (.slice Ao15 t318.length co15)) (fun _ hk => hk.2) (.slice Ao16 t321.length co16)) (fun _ hk => hk.2) (.slice Ao17 t324.length co17)) (fun _ h_ => h_.1))) (Kd.R_base ho0) hb); have n1_ := aM (Kd.R_elder' (by (with_reducible repeat first | apply rA | apply rN | apply rD); exact (Kd.R_mono (Kd.R_far (p := ⟨gb328, 4, none⟩) (Kd.R_far (p := ⟨gb328, 3, none⟩) (Kd.R_far (p := ⟨gb328, 2, none⟩) (Kd.R_far (p := ⟨gb328, 1, none⟩) (Kd.R_far (p := ⟨gb328, 0, none⟩) (Kd.R_types HO317.out BK328.out (by decide)) (fun _ hk => hk.2) (.slice Ao12 t312.length co12)) (fun _ hk => hk.2) (.slice Ao14 t315.length co14)) (fun _ hk => hk.2) (.slice Ao15 t318.length co15)) (fun _ hk => hk.2) (.slice Ao16 t321.length co16)) (fun _ hk => hk.2) (.slice Ao17 t324.length co17)) (fun _ h_ => h_.1))) (Kd.R_base ho0) hb); have n2_ := aM (Kd.R_elder' (by (with_reducible repeat first | apply rA | apply rN | apply rD); exact (Kd.R_mono (Kd.R_far (p := ⟨gb328, 4, none⟩) (Kd.R_far (p := ⟨gb328, 3, none⟩) (Kd.R_far (p := ⟨gb328, 2, none⟩) (Kd.R_far (p := ⟨gb328, 1, none⟩) (Kd.R_far (p := ⟨gb328, 0, none⟩) (Kd.R_types HO320.out BK328.out (by decide)) (fun _ hk => hk.2) (.slice Ao12 t312.length co12)) (fun _ hk => hk.2) (.slice Ao14 t315.length co14)) (fun _ hk => hk.2) (.slice Ao15 t318.length co15)) (fun _ hk => hk.2) (.slice Ao16 t321.length co16)) (fun _ hk => hk.2) (.slice Ao17 t324.length co17)) (fun _ h_ => h_.1))) (Kd.R_base ho0) hb); have n3_ := aM (Kd.R_elder' (by (with_reducible repeat first | apply rA | apply rN | apply rD); exact (Kd.R_mono (Kd.R_far (p := ⟨gb328, 4, none⟩) (Kd.R_far (p := ⟨gb328, 3, none⟩) (Kd.R_far (p := ⟨gb328, 2, none⟩) (Kd.R_far (p := ⟨gb328, 1, none⟩) (Kd.R_far (p := ⟨gb328, 0, none⟩) (Kd.R_types HO323.out BK328.out (by decide)) (fun _ hk => hk.2) (.slice Ao12 t312.length co12)) (fun _ hk => hk.2) (.slice Ao14 t315.length co14)) (fun _ hk => hk.2) (.slice Ao15 t318.length co15)) (fun _ hk => hk.2) (.slice Ao16 t321.length co16)) (fun _ hk => hk.2) (.slice Ao17 t324.length co17)) (fun _ h_ => h_.1))) (Kd.R_base ho0) hb); have n4_ := aM (Kd.R_elder' (by (with_reducible repeat first | apply rA | apply rN | apply rD); exact (Kd.R_mono (Kd.R_far (p := ⟨gb328, 4, none⟩) (Kd.R_far (p := ⟨gb328, 3, none⟩) (Kd.R_far (p := ⟨gb328, 2, none⟩) (Kd.R_far (p := ⟨gb328, 1, none⟩) (Kd.R_far (p := ⟨gb328, 0, none⟩) (Kd.R_types HO326.out BK328.out (by decide)) (fun _ hk => hk.2) (.slice Ao12 t312.length co12)) (fun _ hk => hk.2) (.slice Ao14 t315.length co14)) (fun _ hk => hk.2) (.slice Ao15 t318.length co15)) (fun _ hk => hk.2) (.slice Ao16 t321.length co16)) (fun _ hk => hk.2) (.slice Ao17 t324.length co17)) (fun _ h_ => h_.1))) (Kd.R_base ho0) hb); have n5_ := aM (Kd.R_lower (Kd.R_new' (Kd.R_new' (Kd.R_new' (Kd.R_new' (Kd.R_new' ho0 (Kd.R_lt (by (with_reducible repeat first | apply rA | apply rN | apply rD); exact (Kd.R_mono (Kd.R_far (p := ⟨gb328, 4, none⟩) (Kd.R_far (p := ⟨gb328, 3, none⟩) (Kd.R_far (p := ⟨gb328, 2, none⟩) (Kd.R_far (p := ⟨gb328, 1, none⟩) (Kd.R_far (p := ⟨gb328, 0, none⟩) (Kd.R_types HO314.out BK328.out (by decide)) (fun _ hk => hk.2) (.slice Ao12 t312.length co12)) (fun _ hk => hk.2) (.slice Ao14 t315.length co14)) (fun _ hk => hk.2) (.slice Ao15 t318.length co15)) (fun _ hk => hk.2) (.slice Ao16 t321.length co16)) (fun _ hk => hk.2) (.slice Ao17 t324.length co17)) (fun _ h_ => h_.1))))) (Kd.R_lt (by (with_reducible repeat first | apply rA | apply rN | apply rD); exact (Kd.R_mono (Kd.R_far (p := ⟨gb328, 4, none⟩) (Kd.R_far (p := ⟨gb328, 3, none⟩) (Kd.R_far (p := ⟨gb328, 2, none⟩) (Kd.R_far (p := ⟨gb328, 1, none⟩) (Kd.R_far (p := ⟨gb328, 0, none⟩) (Kd.R_types HO317.out BK328.out (by decide)) (fun _ hk => hk.2) (.slice Ao12 t312.length co12)) (fun _ hk => hk.2) (.slice Ao14 t315.length co14)) (fun _ hk => hk.2) (.slice Ao15 t318.length co15)) (fun _ hk => hk.2) (.slice Ao16 t321.length co16)) (fun _ hk => hk.2) (.slice Ao17 t324.length co17)) (fun _ h_ => h_.1))))) (Kd.R_lt (by (with_reducible repeat first | apply rA | apply rN | apply rD); exact (Kd.R_mono (Kd.R_far (p := ⟨gb328, 4, none⟩) (Kd.R_far (p := ⟨gb328, 3, none⟩) (Kd.R_far (p := ⟨gb328, 2, none⟩) (Kd.R_far (p := ⟨gb328, 1, none⟩) (Kd.R_far (p := ⟨gb328, 0, none⟩) (Kd.R_types HO320.out BK328.out (by decide)) (fun _ hk => hk.2) (.slice Ao12 t312.length co12)) (fun _ hk => hk.2) (.slice Ao14 t315.length co14)) (fun _ hk => hk.2) (.slice Ao15 t318.length co15)) (fun _ hk => hk.2) (.slice Ao16 t321.length co16)) (fun _ hk => hk.2) (.slice Ao17 t324.length co17)) (fun _ h_ => h_.1))))) (Kd.R_lt (by (with_reducible repeat first | apply rA | apply rN | apply rD); exact (Kd.R_mono (Kd.R_far (p := ⟨gb328, 4, none⟩) (Kd.R_far (p := ⟨gb328, 3, none⟩) (Kd.R_far (p := ⟨gb328, 2, none⟩) (Kd.R_far (p := ⟨gb328, 1, none⟩) (Kd.R_far (p := ⟨gb328, 0, none⟩) (Kd.R_types HO323.out BK328.out (by decide)) (fun _ hk => hk.2) (.slice Ao12 t312.length co12)) (fun _ hk => hk.2) (.slice Ao14 t315.length co14)) (fun _ hk => hk.2) (.slice Ao15 t318.length co15)) (fun _ hk => hk.2) (.slice Ao16 t321.length co16)) (fun _ hk => hk.2) (.slice Ao17 t324.length co17)) (fun _ h_ => h_.1))))) (Kd.R_lt (by (with_reducible repeat first | apply rA | apply rN | apply rD); exact (Kd.R_mono (Kd.R_far (p := ⟨gb328, 4, none⟩) (Kd.R_far (p := ⟨gb328, 3, none⟩) (Kd.R_far (p := ⟨gb328, 2, none⟩) (Kd.R_far (p := ⟨gb328, 1, none⟩) (Kd.R_far (p := ⟨gb328, 0, none⟩) (Kd.R_types HO326.out BK328.out (by decide)) (fun _ hk => hk.2) (.slice Ao12 t312.length co12)) (fun _ hk => hk.2) (.slice Ao14 t315.length co14)) (fun _ hk => hk.2) (.slice Ao15 t318.length co15)) (fun _ hk => hk.2) (.slice Ao16 t321.length co16)) (fun _ hk => hk.2) (.slice Ao17 t324.length co17)) (fun _ h_ => h_.1))))) (below_size (by repeat (first | (with_reducible first | exact HB.out | apply lA | apply lN | apply lD | refine lS ?_ GE328.out) | exact HB.out)))); have n6_ := aM (blk_below (g := gb328) (o := .cells #[.slice Ao12 t312.length co12, .slice Ao14 t315.length co14, .slice Ao15 t318.length co15, .slice Ao16 t321.length co16, .slice Ao17 t324.length co17] 27 (0, 0)) (by (with_reducible repeat first | apply bN | apply bD | apply bA); refine blk_put (cs := #[.slice Ao12 t312.length co12, .slice Ao14 t315.length co14, .slice Ao15 t318.length co15, .slice Ao16 t321.length co16, .slice none 0 0]) ?_ 4 _ rfl; (with_reducible repeat first | apply bN | apply bD | apply bA); refine blk_put (cs := #[.slice Ao12 t312.length co12, .slice Ao14 t315.length co14, .slice Ao15 t318.length co15, .slice none 0 0, .slice none 0 0]) ?_ 3 _ rfl; (with_reducible repeat first | apply bN | apply bD | apply bA); refine blk_put (cs := #[.slice Ao12 t312.length co12, .slice Ao14 t315.length co14, .slice none 0 0, .slice none 0 0, .slice none 0 0]) ?_ 2 _ rfl; (with_reducible repeat first | apply bN | apply bD | apply bA); refine blk_put (cs := #[.slice Ao12 t312.length co12, .slice none 0 0, .slice none 0 0, .slice none 0 0, .slice none 0 0]) ?_ 1 _ rfl; (with_reducible repeat first | apply bN | apply bD | apply bA); refine blk_put (cs := #[.slice none 0 0, .slice none 0 0, .slice none 0 0, .slice none 0 0, .slice none 0 0]) ?_ 0 _ rfl; (with_reducible repeat first | apply bN | apply bD | apply bA); exact BK328.out) hb); have n7_ := aM (below_step (by repeat (first | (with_reducible first | exact HB.out | apply lA | apply lN | apply lD | refine lS ?_ GE328.out) | exact HB.out)) hb); clear HO314; clear HO317; clear HO320; clear HO323; clear HO326; clear BK328; clear HB; have HO314 := n0_; have HO317 := n1_; have HO320 := n2_; have HO323 := n3_; have HO326 := n4_; have HO331 := n5_; have BK328 := n6_; have HB := n7_; clear n0_ n1_ n2_ n3_ n4_ n5_ n6_ n7_; (try clear hb); (try clear hb2); (try clear hk); (try clear hi); (try clear ho0); obtain ⟨Ao19, co19, eo19⟩ := Kd.R_slice HO331.out; subst eo19; have p332 : 0 ≤ (0 : Int) := (by omega); have q332 : 0 < (t329.length : Int) := of_decide_eq_true (by first | (with_reducible assumption) | assumption); obtain ⟨ad332, e332, hx332_0⟩ := Kd.at_int (Kd.R_reads' HO331.out).2.2 0 p332 q332; cases e332; have qi332 : (0 < t329.length) = True := eq_true (by omega); (try rw [show ((0 : Int)).toNat = 0 from rfl] at hx332_0); (try rw [Addr.add_zero'] at hx332_0); replace p332 := eq_true p332; replace q332 := eq_true q332; have hcz20_0 : w18.cell? ⟨gb328, 0, none⟩ = some (.slice Ao12 t312.length co12) := (blk_cell BK328.out 0).trans rfl; have hcz20_1 : w18.cell? ⟨gb328, 1, none⟩ = some (.slice Ao14 t315.length co14) := (blk_cell BK328.out 1).trans rfl; have hcz20_2 : w18.cell? ⟨gb328, 2, none⟩ = some (.slice Ao15 t318.length co15) := (blk_cell BK328.out 2).trans rfl; have hcz20_3 : w18.cell? ⟨gb328, 3, none⟩ = some (.slice Ao16 t321.length co16) := (blk_cell BK328.out 3).trans rfl; have hcz20_4 : w18.cell? ⟨gb328, 4, none⟩ = some (.slice Ao17 t324.length co17) := (blk_cell BK328.out 4).trans rfl; have hfz20_0 := blk_frozen BK328.out 0; have hfz20_1 := blk_frozen BK328.out 1; have hfz20_2 := blk_frozen BK328.out 2; have hfz20_3 := blk_frozen BK328.out 3; have hfz20_4 := blk_frozen BK328.out 4) | ((with_reducible refine gate_callee (f := 16) rfl ?_); refine goesL_ (some 28) rfl rfl Try.func16 (by kernel_rfl) rfl #[.agg #[.slice Ao12 t312.length co12, .slice Ao14 t315.length co14, .slice Ao15 t318.length co15, .slice Ao16 t321.length co16, .slice Ao17 t324.length co17], .int .i64 t327, .int .i64 (Int.tmod (rd t329 0) 4)] rfl (by (try simp only [mT, mC, mN]); first | done | rfl | (simp only [lDr, lTk]; rfl)) ?_; (with_reducible refine (impl_NextFire.calls k _ _ t312 _ _ t315 _ _ t318 _ _ t321 _ _ t324 t327 (Int.tmod (rd t329 0) 4) t333 t334 _ ?side1 ?side2 ?side3 ?side4 ?side5 ?side6 ?side7 ?side8 ?side9 ?side10 A7.out).mono ?_); (case side1 => repeat (first | exact (Kd.R_reads' HO314.out).2.2 | (with_reducible refine cA ?_ _) | (with_reducible refine cN ?_ _) | (with_reducible refine cD ?_))); (case side2 => exact (Kd.R_reads' HO314.out).2.1); (case side3 => repeat (first | exact (Kd.R_reads' HO317.out).2.2 | (with_reducible refine cA ?_ _) | (with_reducible refine cN ?_ _) | (with_reducible refine cD ?_))); (case side4 => exact (Kd.R_reads' HO317.out).2.1); (case side5 => repeat (first | exact (Kd.R_reads' HO320.out).2.2 | (with_reducible refine cA ?_ _) | (with_reducible refine cN ?_ _) | (with_reducible refine cD ?_))); (case side6 => exact (Kd.R_reads' HO320.out).2.1); (case side7 => repeat (first | exact (Kd.R_reads' HO323.out).2.2 | (with_reducible refine cA ?_ _) | (with_reducible refine cN ?_ _) | (with_reducible refine cD ?_))); (case side8 => exact (Kd.R_reads' HO323.out).2.1); (case side9 => repeat (first | exact (Kd.R_reads' HO326.out).2.2 | (with_reducible refine cA ?_ _) | (with_reducible refine cN ?_ _) | (with_reducible refine cD ?_))); (case side10 => exact (Kd.R_reads' HO326.out).2.1); rintro e w21 ⟨rfl, hb⟩; refine ⟨_, rfl, ?_⟩; have n0_ := aM (Kd.R_below (by (with_reducible repeat first | apply rA | apply rN | apply rD); exact HO314.out) hb); have n1_ := aM (Kd.R_below (by (with_reducible repeat first | apply rA | apply rN | apply rD); exact HO317.out) hb); have n2_ := aM (Kd.R_below (by (with_reducible repeat first | apply rA | apply rN | apply rD); exact HO320.out) hb); have n3_ := aM (Kd.R_below (by (with_reducible repeat first | apply rA | apply rN | apply rD); exact HO323.out) hb); have n4_ := aM (Kd.R_below (by (with_reducible repeat first | apply rA | apply rN | apply rD); exact HO326.out) hb); have n5_ := aM (Kd.R_below (by (with_reducible repeat first | apply rA | apply rN | apply rD); exact HO331.out) hb); have n6_ := aM (blk_below (g := gb328) (o := .cells #[.slice Ao12 t312.length co12, .slice Ao14 t315.length co14, .slice Ao15 t318.length co15, .slice Ao16 t321.length co16, .slice Ao17 t324.length co17] 27 (0, 0)) (by (with_reducible repeat first | apply bN | apply bD | apply bA); exact BK328.out) hb); have n7_ := aM (below_step (by repeat (first | (with_reducible first | exact HB.out | apply lA | apply lN | apply lD | refine lS ?_ GE328.out) | exact HB.out)) hb); clear HO314; clear HO317; clear HO320; clear HO323; clear HO326; clear HO331; clear BK328; clear HB; have HO314 := n0_; have HO317 := n1_; have HO320 := n2_; have HO323 := n3_; have HO326 := n4_; have HO331 := n5_; have BK328 := n6_; have HB := n7_; clear n0_ n1_ n2_ n3_ n4_ n5_ n6_ n7_; (try clear hb); (try clear hb2); (try clear hk); (try clear hi); have hcz22_0 : w21.cell? ⟨gb328, 0, none⟩ = some (.slice Ao12 t312.length co12) := (blk_cell BK328.out 0).trans rfl; have hcz22_1 : w21.cell? ⟨gb328, 1, none⟩ = some (.slice Ao14 t315.length co14) := (blk_cell BK328.out 1).trans rfl; have hcz22_2 : w21.cell? ⟨gb328, 2, none⟩ = some (.slice Ao15 t318.length co15) := (blk_cell BK328.out 2).trans rfl; have hcz22_3 : w21.cell? ⟨gb328, 3, none⟩ = some (.slice Ao16 t321.length co16) := (blk_cell BK328.out 3).trans rfl; have hcz22_4 : w21.cell? ⟨gb328, 4, none⟩ = some (.slice Ao17 t324.length co17) := (blk_cell BK328.out 4).trans rfl; have hfz22_0 := blk_frozen BK328.out 0; have hfz22_1 := blk_frozen BK328.out 1; have hfz22_2 := blk_frozen BK328.out 2; have hfz22_3 := blk_frozen BK328.out 3; have hfz22_4 := blk_frozen BK328.out 4) | ((with_reducible refine gate_callee (f := 15) rfl ?_); refine goesL_ (some 35) rfl rfl Try.func15 (by kernel_rfl) rfl #[.agg #[.slice Ao12 t312.length co12, .slice Ao14 t315.length co14, .slice Ao15 t318.length co15, .slice Ao16 t321.length co16, .slice Ao17 t324.length co17], .int .i64 t327, .int .i64 (Int.tmod (rd t329 0) 4)] rfl (by (try simp only [mT, mC, mN]); first | done | rfl | (simp only [lDr, lTk]; rfl)) ?_; (with_reducible refine (spec_NextFire.calls k _ _ t312 _ _ t315 _ _ t318 _ _ t321 _ _ t324 t327 (Int.tmod (rd t329 0) 4) t335 t336 _ ?side1 ?side2 ?side3 ?side4 ?side5 ?side6 ?side7 ?side8 ?side9 ?side10 A8.out).mono ?_); (case side1 => repeat (first | exact (Kd.R_reads' HO314.out).2.2 | (with_reducible refine cA ?_ _) | (with_reducible refine cN ?_ _) | (with_reducible refine cD ?_))); (case side2 => exact (Kd.R_reads' HO314.out).2.1); (case side3 => repeat (first | exact (Kd.R_reads' HO317.out).2.2 | (with_reducible refine cA ?_ _) | (with_reducible refine cN ?_ _) | (with_reducible refine cD ?_))); (case side4 => exact (Kd.R_reads' HO317.out).2.1); (case side5 => repeat (first | exact (Kd.R_reads' HO320.out).2.2 | (with_reducible refine cA ?_ _) | (with_reducible refine cN ?_ _) | (with_reducible refine cD ?_))); (case side6 => exact (Kd.R_reads' HO320.out).2.1); (case side7 => repeat (first | exact (Kd.R_reads' HO323.out).2.2 | (with_reducible refine cA ?_ _) | (with_reducible refine cN ?_ _) | (with_reducible refine cD ?_))); (case side8 => exact (Kd.R_reads' HO323.out).2.1); (case side9 => repeat (first | exact (Kd.R_reads' HO326.out).2.2 | (with_reducible refine cA ?_ _) | (with_reducible refine cN ?_ _) | (with_reducible refine cD ?_))); (case side10 => exact (Kd.R_reads' HO326.out).2.1); rintro e w23 ⟨rfl, hb⟩; refine ⟨_, rfl, ?_⟩; have n0_ := aM (Kd.R_below (by (with_reducible repeat first | apply rA | apply rN | apply rD); exact HO314.out) hb); have n1_ := aM (Kd.R_below (by (with_reducible repeat first | apply rA | apply rN | apply rD); exact HO317.out) hb); have n2_ := aM (Kd.R_below (by (with_reducible repeat first | apply rA | apply rN | apply rD); exact HO320.out) hb); have n3_ := aM (Kd.R_below (by (with_reducible repeat first | apply rA | apply rN | apply rD); exact HO323.out) hb); have n4_ := aM (Kd.R_below (by (with_reducible repeat first | apply rA | apply rN | apply rD); exact HO326.out) hb); have n5_ := aM (Kd.R_below (by (with_reducible repeat first | apply rA | apply rN | apply rD); exact HO331.out) hb); have n6_ := aM (blk_below (g := gb328) (o := .cells #[.slice Ao12 t312.length co12, .slice Ao14 t315.length co14, .slice Ao15 t318.length co15, .slice Ao16 t321.length co16, .slice Ao17 t324.length co17] 27 (0, 0)) (by (with_reducible repeat first | apply bN | apply bD | apply bA); exact BK328.out) hb); have n7_ := aM (below_step (by repeat (first | (with_reducible first | exact HB.out | apply lA | apply lN | apply lD | refine lS ?_ GE328.out) | exact HB.out)) hb); clear HO314; clear HO317; clear HO320; clear HO323; clear HO326; clear HO331; clear BK328; clear HB; have HO314 := n0_; have HO317 := n1_; have HO320 := n2_; have HO323 := n3_; have HO326 := n4_; have HO331 := n5_; have BK328 := n6_; have HB := n7_; clear n0_ n1_ n2_ n3_ n4_ n5_ n6_ n7_; (try clear hb); (try clear hb2); (try clear hk); (try clear hi)))
      (try simp only [Act.put, List.setIfInBounds_toArray, List.set_cons_zero, List.set_cons_succ])
      go_cut [45] (fun v45 wc => ∃ (kq : Nat) (x45_8 : Bool), v45 = .bool x45_8 ∧ Aside0 (laws_FnFires.j0 kq t327 (Int.tmod (rd t329 0) 4) t333 t334 x45_8 t312 t315 t318 t321 t324 = some r) ∧ Aside0 (kq ≤ k) ∧ Aside0 (Kd.R (Kd.int .i64) 3 wc w.heap.size (fun k_ => some k_ ≠ ((.slice Ao14 t315.length co14) : Value).ownBlock ∧ some k_ ≠ ((.slice Ao15 t318.length co15) : Value).ownBlock ∧ some k_ ≠ ((.slice Ao16 t321.length co16) : Value).ownBlock ∧ some k_ ≠ ((.slice Ao17 t324.length co17) : Value).ownBlock) (.slice Ao12 t312.length co12) t312) ∧ Aside0 (Kd.R (Kd.int .i64) 3 wc w.heap.size (fun k_ => some k_ ≠ ((.slice Ao12 t312.length co12) : Value).ownBlock ∧ some k_ ≠ ((.slice Ao15 t318.length co15) : Value).ownBlock ∧ some k_ ≠ ((.slice Ao16 t321.length co16) : Value).ownBlock ∧ some k_ ≠ ((.slice Ao17 t324.length co17) : Value).ownBlock) (.slice Ao14 t315.length co14) t315) ∧ Aside0 (Kd.R (Kd.int .i64) 3 wc w.heap.size (fun k_ => some k_ ≠ ((.slice Ao12 t312.length co12) : Value).ownBlock ∧ some k_ ≠ ((.slice Ao14 t315.length co14) : Value).ownBlock ∧ some k_ ≠ ((.slice Ao16 t321.length co16) : Value).ownBlock ∧ some k_ ≠ ((.slice Ao17 t324.length co17) : Value).ownBlock) (.slice Ao15 t318.length co15) t318) ∧ Aside0 (Kd.R (Kd.int .i64) 3 wc w.heap.size (fun k_ => some k_ ≠ ((.slice Ao12 t312.length co12) : Value).ownBlock ∧ some k_ ≠ ((.slice Ao14 t315.length co14) : Value).ownBlock ∧ some k_ ≠ ((.slice Ao15 t318.length co15) : Value).ownBlock ∧ some k_ ≠ ((.slice Ao17 t324.length co17) : Value).ownBlock) (.slice Ao16 t321.length co16) t321) ∧ Aside0 (Kd.R (Kd.int .i64) 3 wc w.heap.size (fun k_ => some k_ ≠ ((.slice Ao12 t312.length co12) : Value).ownBlock ∧ some k_ ≠ ((.slice Ao14 t315.length co14) : Value).ownBlock ∧ some k_ ≠ ((.slice Ao15 t318.length co15) : Value).ownBlock ∧ some k_ ≠ ((.slice Ao16 t321.length co16) : Value).ownBlock) (.slice Ao17 t324.length co17) t324) ∧ Aside0 (wc.heap[gb328]? = some (.cells #[(.slice Ao12 t312.length co12), (.slice Ao14 t315.length co14), (.slice Ao15 t318.length co15), (.slice Ao16 t321.length co16), (.slice Ao17 t324.length co17)] 27 (0, 0))) ∧ Aside0 (Below w.heap.size w wc))
      case first =>
        have H := HC9.out
        clear HC9
        by_cases c24 : (t334 != t336) = true
        · rw [if_pos c24] at H
          have c24b0 : (t334 != t336) = true := c24
          (try (have c24b1 : decide (t334 = t336) = false := by simpa using c24))
          (try (have c24b2 : (t334 == t336) = false := by simpa using c24))
          (try (have c24b3 : ¬ (t334 = t336) := by simpa using c24))
          clear c24
          (first | rw [c24b0] | (simp only [i64_w, i32_w]; rw [c24b0]) | skip)
          have H' := aM H
          clear H
          go_wp2
          go_meet
          case rel => exact ⟨_, (true), (by first | rfl | (simp; done) | (simp [*]; done)), H', ⟨by first | omega | exact Nat.le_refl _⟩, ⟨by (with_reducible repeat first | apply rA | apply rN | apply rD); exact Kd.R_mono HO314.out (fun _ hk => ⟨hk.1.1, ⟨hk.1.2.1, ⟨hk.1.2.2.1, hk.1.2.2.2⟩⟩⟩)⟩, ⟨by (with_reducible repeat first | apply rA | apply rN | apply rD); exact Kd.R_mono HO317.out (fun _ hk => ⟨hk.1.1, ⟨hk.1.2.1, ⟨hk.1.2.2.1, hk.1.2.2.2⟩⟩⟩)⟩, ⟨by (with_reducible repeat first | apply rA | apply rN | apply rD); exact Kd.R_mono HO320.out (fun _ hk => ⟨hk.1.1, ⟨hk.1.2.1, ⟨hk.1.2.2.1, hk.1.2.2.2⟩⟩⟩)⟩, ⟨by (with_reducible repeat first | apply rA | apply rN | apply rD); exact Kd.R_mono HO323.out (fun _ hk => ⟨hk.1.1, ⟨hk.1.2.1, ⟨hk.1.2.2.1, hk.1.2.2.2⟩⟩⟩)⟩, ⟨by (with_reducible repeat first | apply rA | apply rN | apply rD); exact Kd.R_mono HO326.out (fun _ hk => ⟨hk.1.1, ⟨hk.1.2.1, ⟨hk.1.2.2.1, hk.1.2.2.2⟩⟩⟩)⟩, ⟨by (with_reducible repeat first | apply bN | apply bD | apply bA); exact BK328.out⟩, ⟨by repeat (first | (with_reducible first | exact HB.out | apply lA | apply lN | apply lD | refine lS ?_ GE328.out) | exact HB.out)⟩⟩
        · rw [if_neg c24] at H
          have c24b0 : (t334 != t336) = false := by simpa using c24
          (try (have c24b1 : decide (t334 = t336) = true := by simpa using c24))
          (try (have c24b2 : (t334 == t336) = true := by simpa using c24))
          clear c24
          (first | rw [c24b0] | (simp only [i64_w, i32_w]; rw [c24b0]) | skip)
          have H' := aM H
          clear H
          go_wp2
          go_meet
          case rel => exact ⟨_, ((t333 != t335)), (by first | rfl | (simp; done) | (simp [*]; done)), H', ⟨by first | omega | exact Nat.le_refl _⟩, ⟨by (with_reducible repeat first | apply rA | apply rN | apply rD); exact Kd.R_mono HO314.out (fun _ hk => ⟨hk.1.1, ⟨hk.1.2.1, ⟨hk.1.2.2.1, hk.1.2.2.2⟩⟩⟩)⟩, ⟨by (with_reducible repeat first | apply rA | apply rN | apply rD); exact Kd.R_mono HO317.out (fun _ hk => ⟨hk.1.1, ⟨hk.1.2.1, ⟨hk.1.2.2.1, hk.1.2.2.2⟩⟩⟩)⟩, ⟨by (with_reducible repeat first | apply rA | apply rN | apply rD); exact Kd.R_mono HO320.out (fun _ hk => ⟨hk.1.1, ⟨hk.1.2.1, ⟨hk.1.2.2.1, hk.1.2.2.2⟩⟩⟩)⟩, ⟨by (with_reducible repeat first | apply rA | apply rN | apply rD); exact Kd.R_mono HO323.out (fun _ hk => ⟨hk.1.1, ⟨hk.1.2.1, ⟨hk.1.2.2.1, hk.1.2.2.2⟩⟩⟩)⟩, ⟨by (with_reducible repeat first | apply rA | apply rN | apply rD); exact Kd.R_mono HO326.out (fun _ hk => ⟨hk.1.1, ⟨hk.1.2.1, ⟨hk.1.2.2.1, hk.1.2.2.2⟩⟩⟩)⟩, ⟨by (with_reducible repeat first | apply bN | apply bD | apply bA); exact BK328.out⟩, ⟨by repeat (first | (with_reducible first | exact HB.out | apply lA | apply lN | apply lD | refine lS ?_ GE328.out) | exact HB.out)⟩⟩
      case rest =>
        clear HC9
        try clear c1
        try clear c2
        try clear p2
        try clear c3
        try clear p3
        try clear q3
        try clear hx3
        try clear qi3
        try clear c6
        try clear c6b0
        try clear c6b1
        try clear c7
        try clear c15
        try clear c16
        try clear c19
        try clear c20
        try clear c21
        try clear c24
        try clear c24b0
        try clear c24b1
        try clear c24b2
        try clear hcz13_0
        try clear hcz13_1
        try clear hcz13_2
        try clear hcz13_3
        try clear hcz13_4
        try clear hcz20_0
        try clear hcz20_1
        try clear hcz20_2
        try clear hcz20_3
        try clear hcz20_4
        try clear hcz22_0
        try clear hcz22_1
        try clear hcz22_2
        try clear hcz22_3
        try clear hcz22_4
        try clear hfz13_0
        try clear hfz13_1
        try clear hfz13_2
        try clear hfz13_3
        try clear hfz13_4
        try clear hfz20_0
        try clear hfz20_1
        try clear hfz20_2
        try clear hfz20_3
        try clear hfz20_4
        try clear hfz22_0
        try clear hfz22_1
        try clear hfz22_2
        try clear hfz22_3
        try clear hfz22_4
        try clear hx332_0
        try clear p332
        try clear q332
        obtain ⟨kq, x45_8, rfl, HA, HJ8, HO_329000, HO_329001, HO_329002, HO_329003, HO_329004, BK328, HB⟩ := hcut
        cases kq with
        | zero => exact absurd HA.out (by simp [laws_FnFires.j0])
        | succ kj8 =>
          have H := HA.out
          clear HA
          simp only [laws_FnFires.j0] at H
          by_cases c25 : x45_8 = true
          · subst c25
            have H1 : (none) = some r := by rw [if_pos rfl] at H; exact H
            clear H
            have H := H1
            clear H1
            exact absurd H (by simp)
          · replace c25 := Bool.eq_false_iff.mpr c25
            subst c25
            have H1 : (if t334 = true then (laws_FnFires.j1 kj8 t327 (Int.tmod (rd t329 0) 4) t333 t334 t333 t312 t315 t318 t321 t324) else (laws_FnFires.j1 kj8 t327 (Int.tmod (rd t329 0) 4) t333 t334 (wrap64 ((wrap64 ((wrap64 ((wrap64 (Int.tdiv t327 1440)) + (Int.tmod (rd t329 0) 4))) + 1)) * 1440)) t312 t315 t318 t321 t324)) = some r := by rw [if_neg (show ¬ (false = true) by decide)] at H; exact H
            clear H
            have H := H1
            clear H1
            have HC26 := aM H
            clear H
            go_upto_if 52 with (fail)
            go_cut [10] (fun v10 wc => ∃ (kq : Nat) (x10_25 : Int), v10 = .int .i64 x10_25 ∧ Aside0 (laws_FnFires.j1 kq t327 (Int.tmod (rd t329 0) 4) t333 t334 x10_25 t312 t315 t318 t321 t324 = some r) ∧ Aside0 (kq ≤ kj8) ∧ Aside0 (Kd.R (Kd.int .i64) 3 wc w.heap.size (fun k_ => some k_ ≠ ((.slice Ao14 t315.length co14) : Value).ownBlock ∧ some k_ ≠ ((.slice Ao15 t318.length co15) : Value).ownBlock ∧ some k_ ≠ ((.slice Ao16 t321.length co16) : Value).ownBlock ∧ some k_ ≠ ((.slice Ao17 t324.length co17) : Value).ownBlock) (.slice Ao12 t312.length co12) t312) ∧ Aside0 (Kd.R (Kd.int .i64) 3 wc w.heap.size (fun k_ => some k_ ≠ ((.slice Ao12 t312.length co12) : Value).ownBlock ∧ some k_ ≠ ((.slice Ao15 t318.length co15) : Value).ownBlock ∧ some k_ ≠ ((.slice Ao16 t321.length co16) : Value).ownBlock ∧ some k_ ≠ ((.slice Ao17 t324.length co17) : Value).ownBlock) (.slice Ao14 t315.length co14) t315) ∧ Aside0 (Kd.R (Kd.int .i64) 3 wc w.heap.size (fun k_ => some k_ ≠ ((.slice Ao12 t312.length co12) : Value).ownBlock ∧ some k_ ≠ ((.slice Ao14 t315.length co14) : Value).ownBlock ∧ some k_ ≠ ((.slice Ao16 t321.length co16) : Value).ownBlock ∧ some k_ ≠ ((.slice Ao17 t324.length co17) : Value).ownBlock) (.slice Ao15 t318.length co15) t318) ∧ Aside0 (Kd.R (Kd.int .i64) 3 wc w.heap.size (fun k_ => some k_ ≠ ((.slice Ao12 t312.length co12) : Value).ownBlock ∧ some k_ ≠ ((.slice Ao14 t315.length co14) : Value).ownBlock ∧ some k_ ≠ ((.slice Ao15 t318.length co15) : Value).ownBlock ∧ some k_ ≠ ((.slice Ao17 t324.length co17) : Value).ownBlock) (.slice Ao16 t321.length co16) t321) ∧ Aside0 (Kd.R (Kd.int .i64) 3 wc w.heap.size (fun k_ => some k_ ≠ ((.slice Ao12 t312.length co12) : Value).ownBlock ∧ some k_ ≠ ((.slice Ao14 t315.length co14) : Value).ownBlock ∧ some k_ ≠ ((.slice Ao15 t318.length co15) : Value).ownBlock ∧ some k_ ≠ ((.slice Ao16 t321.length co16) : Value).ownBlock) (.slice Ao17 t324.length co17) t324) ∧ Aside0 (wc.heap[gb328]? = some (.cells #[(.slice Ao12 t312.length co12), (.slice Ao14 t315.length co14), (.slice Ao15 t318.length co15), (.slice Ao16 t321.length co16), (.slice Ao17 t324.length co17)] 27 (0, 0))) ∧ Aside0 (Below w.heap.size w wc))
            case first =>
              have H := HC26.out
              clear HC26
              by_cases c27 : t334 = true
              · subst c27
                have H1 : (laws_FnFires.j1 kj8 t327 (Int.tmod (rd t329 0) 4) t333 true t333 t312 t315 t318 t321 t324) = some r := by rw [if_pos rfl] at H; exact H
                clear H
                have H := H1
                clear H1
                have H' := aM H
                clear H
                go_wp2
                go_meet
                case rel => exact ⟨_, (t333), (by first | rfl | (simp; done) | (simp [*]; done)), H', ⟨by have := HJ8.out; first | omega | exact Nat.le_refl _⟩, ⟨by (with_reducible repeat first | apply rA | apply rN | apply rD); exact HO_329000.out⟩, ⟨by (with_reducible repeat first | apply rA | apply rN | apply rD); exact HO_329001.out⟩, ⟨by (with_reducible repeat first | apply rA | apply rN | apply rD); exact HO_329002.out⟩, ⟨by (with_reducible repeat first | apply rA | apply rN | apply rD); exact HO_329003.out⟩, ⟨by (with_reducible repeat first | apply rA | apply rN | apply rD); exact HO_329004.out⟩, ⟨by (with_reducible repeat first | apply bN | apply bD | apply bA); exact BK328.out⟩, ⟨by repeat (first | (with_reducible first | exact HB.out | apply lA | apply lN | apply lD | refine lS ?_ GE328.out) | exact HB.out)⟩⟩
              · replace c27 := Bool.eq_false_iff.mpr c27
                subst c27
                have H1 : (laws_FnFires.j1 kj8 t327 (Int.tmod (rd t329 0) 4) t333 false (wrap64 ((wrap64 ((wrap64 ((wrap64 (Int.tdiv t327 1440)) + (Int.tmod (rd t329 0) 4))) + 1)) * 1440)) t312 t315 t318 t321 t324) = some r := by rw [if_neg (show ¬ (false = true) by decide)] at H; exact H
                clear H
                have H := H1
                clear H1
                have H' := aM H
                clear H
                go_wp2
                go_meet
                case rel => exact ⟨_, (wrap64 ((wrap64 ((wrap64 ((wrap64 (Int.tdiv t327 1440)) + (Int.tmod (rd t329 0) 4))) + 1)) * 1440)), (by first | rfl | (simp; done) | (simp [*]; done)), H', ⟨by have := HJ8.out; first | omega | exact Nat.le_refl _⟩, ⟨by (with_reducible repeat first | apply rA | apply rN | apply rD); exact HO_329000.out⟩, ⟨by (with_reducible repeat first | apply rA | apply rN | apply rD); exact HO_329001.out⟩, ⟨by (with_reducible repeat first | apply rA | apply rN | apply rD); exact HO_329002.out⟩, ⟨by (with_reducible repeat first | apply rA | apply rN | apply rD); exact HO_329003.out⟩, ⟨by (with_reducible repeat first | apply rA | apply rN | apply rD); exact HO_329004.out⟩, ⟨by (with_reducible repeat first | apply bN | apply bD | apply bA); exact BK328.out⟩, ⟨by repeat (first | (with_reducible first | exact HB.out | apply lA | apply lN | apply lD | refine lS ?_ GE328.out) | exact HB.out)⟩⟩
            case rest =>
              clear HC26
              try clear c1
              try clear c2
              try clear p2
              try clear c3
              try clear p3
              try clear q3
              try clear hx3
              try clear qi3
              try clear c6
              try clear c6b0
              try clear c6b1
              try clear p6
              try clear c7
              try clear c15
              try clear c16
              try clear c19
              try clear c20
              try clear c21
              try clear c24
              try clear c24b0
              try clear c24b1
              try clear c24b2
              try clear c25
              try clear c27
              try clear hcz13_0
              try clear hcz13_1
              try clear hcz13_2
              try clear hcz13_3
              try clear hcz13_4
              try clear hcz20_0
              try clear hcz20_1
              try clear hcz20_2
              try clear hcz20_3
              try clear hcz20_4
              try clear hcz22_0
              try clear hcz22_1
              try clear hcz22_2
              try clear hcz22_3
              try clear hcz22_4
              try clear hfz13_0
              try clear hfz13_1
              try clear hfz13_2
              try clear hfz13_3
              try clear hfz13_4
              try clear hfz20_0
              try clear hfz20_1
              try clear hfz20_2
              try clear hfz20_3
              try clear hfz20_4
              try clear hfz22_0
              try clear hfz22_1
              try clear hfz22_2
              try clear hfz22_3
              try clear hfz22_4
              try clear hx332_0
              try clear p2
              try clear p3
              try clear p332
              try clear q3
              try clear q332
              obtain ⟨kq, x10_25, rfl, HA, HJ25, HO_329000, HO_329001, HO_329002, HO_329003, HO_329004, BK328, HB⟩ := hcut
              cases kq with
              | zero => exact absurd HA.out (by simp [laws_FnFires.j1])
              | succ kj25 =>
                have H := HA.out
                clear HA
                simp only [laws_FnFires.j1] at H
                have H' := aM H
                clear H
                go_wp2
                go_loopg [11] kj25 (fun kq v11 w' => ∃ (x11_3 : Int), v11 = .int .i64 x11_3 ∧ Aside0 (laws_FnFires.l0 kq t327 (Int.tmod (rd t329 0) 4) t333 t334 x10_25 x11_3 t312 t315 t318 t321 t324 = some r) ∧ Aside0 (kq ≤ kj25) ∧ Aside0 (Kd.R (Kd.int .i64) 3 w' w.heap.size (fun k_ => some k_ ≠ ((.slice Ao14 t315.length co14) : Value).ownBlock ∧ some k_ ≠ ((.slice Ao15 t318.length co15) : Value).ownBlock ∧ some k_ ≠ ((.slice Ao16 t321.length co16) : Value).ownBlock ∧ some k_ ≠ ((.slice Ao17 t324.length co17) : Value).ownBlock) (.slice Ao12 t312.length co12) t312) ∧ Aside0 (Kd.R (Kd.int .i64) 3 w' w.heap.size (fun k_ => some k_ ≠ ((.slice Ao12 t312.length co12) : Value).ownBlock ∧ some k_ ≠ ((.slice Ao15 t318.length co15) : Value).ownBlock ∧ some k_ ≠ ((.slice Ao16 t321.length co16) : Value).ownBlock ∧ some k_ ≠ ((.slice Ao17 t324.length co17) : Value).ownBlock) (.slice Ao14 t315.length co14) t315) ∧ Aside0 (Kd.R (Kd.int .i64) 3 w' w.heap.size (fun k_ => some k_ ≠ ((.slice Ao12 t312.length co12) : Value).ownBlock ∧ some k_ ≠ ((.slice Ao14 t315.length co14) : Value).ownBlock ∧ some k_ ≠ ((.slice Ao16 t321.length co16) : Value).ownBlock ∧ some k_ ≠ ((.slice Ao17 t324.length co17) : Value).ownBlock) (.slice Ao15 t318.length co15) t318) ∧ Aside0 (Kd.R (Kd.int .i64) 3 w' w.heap.size (fun k_ => some k_ ≠ ((.slice Ao12 t312.length co12) : Value).ownBlock ∧ some k_ ≠ ((.slice Ao14 t315.length co14) : Value).ownBlock ∧ some k_ ≠ ((.slice Ao15 t318.length co15) : Value).ownBlock ∧ some k_ ≠ ((.slice Ao17 t324.length co17) : Value).ownBlock) (.slice Ao16 t321.length co16) t321) ∧ Aside0 (Kd.R (Kd.int .i64) 3 w' w.heap.size (fun k_ => some k_ ≠ ((.slice Ao12 t312.length co12) : Value).ownBlock ∧ some k_ ≠ ((.slice Ao14 t315.length co14) : Value).ownBlock ∧ some k_ ≠ ((.slice Ao15 t318.length co15) : Value).ownBlock ∧ some k_ ≠ ((.slice Ao16 t321.length co16) : Value).ownBlock) (.slice Ao17 t324.length co17) t324) ∧ Aside0 (w'.heap[gb328]? = some (.cells #[(.slice Ao12 t312.length co12), (.slice Ao14 t315.length co14), (.slice Ao15 t318.length co15), (.slice Ao16 t321.length co16), (.slice Ao17 t324.length co17)] 27 (0, 0))) ∧ Aside0 (Below w.heap.size w w'))
                case atStart => exact ⟨(t327), (by first | rfl | (simp; done) | (simp [*]; done)), H', ⟨Nat.le_refl _⟩, ⟨by (with_reducible repeat first | apply rA | apply rN | apply rD); exact HO_329000.out⟩, ⟨by (with_reducible repeat first | apply rA | apply rN | apply rD); exact HO_329001.out⟩, ⟨by (with_reducible repeat first | apply rA | apply rN | apply rD); exact HO_329002.out⟩, ⟨by (with_reducible repeat first | apply rA | apply rN | apply rD); exact HO_329003.out⟩, ⟨by (with_reducible repeat first | apply rA | apply rN | apply rD); exact HO_329004.out⟩, ⟨by (with_reducible repeat first | apply bN | apply bD | apply bA); exact BK328.out⟩, ⟨by repeat (first | (with_reducible first | exact HB.out | apply lA | apply lN | apply lD | refine lS ?_ GE328.out) | exact HB.out)⟩⟩
                case round =>
                  clear H'
                  try clear c1
                  try clear c2
                  try clear p2
                  try clear c3
                  try clear p3
                  try clear q3
                  try clear hx3
                  try clear qi3
                  try clear c6
                  try clear c6b0
                  try clear c6b1
                  try clear p6
                  try clear c7
                  try clear c15
                  try clear c16
                  try clear c19
                  try clear c20
                  try clear c21
                  try clear c24
                  try clear c24b0
                  try clear c24b1
                  try clear c24b2
                  try clear c25
                  try clear c27
                  try clear hcz13_0
                  try clear hcz13_1
                  try clear hcz13_2
                  try clear hcz13_3
                  try clear hcz13_4
                  try clear hcz20_0
                  try clear hcz20_1
                  try clear hcz20_2
                  try clear hcz20_3
                  try clear hcz20_4
                  try clear hcz22_0
                  try clear hcz22_1
                  try clear hcz22_2
                  try clear hcz22_3
                  try clear hcz22_4
                  try clear hfz13_0
                  try clear hfz13_1
                  try clear hfz13_2
                  try clear hfz13_3
                  try clear hfz13_4
                  try clear hfz20_0
                  try clear hfz20_1
                  try clear hfz20_2
                  try clear hfz20_3
                  try clear hfz20_4
                  try clear hfz22_0
                  try clear hfz22_1
                  try clear hfz22_2
                  try clear hfz22_3
                  try clear hfz22_4
                  try clear hx332_0
                  try clear p2
                  try clear p3
                  try clear p332
                  try clear p6
                  try clear q3
                  try clear q332
                  obtain ⟨x11_3, rfl, HA, HK3, HO_329000, HO_329001, HO_329002, HO_329003, HO_329004, BK328, HB⟩ := hrel
                  cases gk with
                  | zero => exact absurd HA.out (by simp [laws_FnFires.l0])
                  | succ k3 =>
                    have H := HA.out
                    clear HA
                    simp only [laws_FnFires.l0] at H
                    have HC28 := aM H
                    clear H
                    go_upto_region 13 with (fail)
                    go_cut [63] (fun v63 wc => ∃ (kq : Nat) (x63_27 : Bool), v63 = .bool x63_27 ∧ Aside0 (laws_FnFires.j3 kq t327 (Int.tmod (rd t329 0) 4) t333 t334 x10_25 x11_3 x63_27 t312 t315 t318 t321 t324 = some r) ∧ Aside0 (kq ≤ k3) ∧ Aside0 (Kd.R (Kd.int .i64) 3 wc w.heap.size (fun k_ => some k_ ≠ ((.slice Ao14 t315.length co14) : Value).ownBlock ∧ some k_ ≠ ((.slice Ao15 t318.length co15) : Value).ownBlock ∧ some k_ ≠ ((.slice Ao16 t321.length co16) : Value).ownBlock ∧ some k_ ≠ ((.slice Ao17 t324.length co17) : Value).ownBlock) (.slice Ao12 t312.length co12) t312) ∧ Aside0 (Kd.R (Kd.int .i64) 3 wc w.heap.size (fun k_ => some k_ ≠ ((.slice Ao12 t312.length co12) : Value).ownBlock ∧ some k_ ≠ ((.slice Ao15 t318.length co15) : Value).ownBlock ∧ some k_ ≠ ((.slice Ao16 t321.length co16) : Value).ownBlock ∧ some k_ ≠ ((.slice Ao17 t324.length co17) : Value).ownBlock) (.slice Ao14 t315.length co14) t315) ∧ Aside0 (Kd.R (Kd.int .i64) 3 wc w.heap.size (fun k_ => some k_ ≠ ((.slice Ao12 t312.length co12) : Value).ownBlock ∧ some k_ ≠ ((.slice Ao14 t315.length co14) : Value).ownBlock ∧ some k_ ≠ ((.slice Ao16 t321.length co16) : Value).ownBlock ∧ some k_ ≠ ((.slice Ao17 t324.length co17) : Value).ownBlock) (.slice Ao15 t318.length co15) t318) ∧ Aside0 (Kd.R (Kd.int .i64) 3 wc w.heap.size (fun k_ => some k_ ≠ ((.slice Ao12 t312.length co12) : Value).ownBlock ∧ some k_ ≠ ((.slice Ao14 t315.length co14) : Value).ownBlock ∧ some k_ ≠ ((.slice Ao15 t318.length co15) : Value).ownBlock ∧ some k_ ≠ ((.slice Ao17 t324.length co17) : Value).ownBlock) (.slice Ao16 t321.length co16) t321) ∧ Aside0 (Kd.R (Kd.int .i64) 3 wc w.heap.size (fun k_ => some k_ ≠ ((.slice Ao12 t312.length co12) : Value).ownBlock ∧ some k_ ≠ ((.slice Ao14 t315.length co14) : Value).ownBlock ∧ some k_ ≠ ((.slice Ao15 t318.length co15) : Value).ownBlock ∧ some k_ ≠ ((.slice Ao16 t321.length co16) : Value).ownBlock) (.slice Ao17 t324.length co17) t324) ∧ Aside0 (wc.heap[gb328]? = some (.cells #[(.slice Ao12 t312.length co12), (.slice Ao14 t315.length co14), (.slice Ao15 t318.length co15), (.slice Ao16 t321.length co16), (.slice Ao17 t324.length co17)] 27 (0, 0))) ∧ Aside0 (Below w.heap.size w wc))
                    case first =>
                      have H := HC28.out
                      clear HC28
                      by_cases c29 : x11_3 < x10_25
                      · rw [if_pos c29] at H
                        have c29b0 : decide (x11_3 < x10_25) = true := decide_eq_true c29
                        clear c29
                        (first | rw [c29b0] | (simp only [i64_w, i32_w]; rw [c29b0]) | skip)
                        have H' := aM H
                        clear H
                        go_wp2
                        go_meet
                        case rel => exact ⟨_, (decide (x11_3 < (wrap64 (t327 + 400)))), (by first | rfl | (simp; done) | (simp [*]; done)), H', ⟨by have := HJ8.out; have := HJ25.out; have := HK3.out; first | omega | exact Nat.le_refl _⟩, ⟨by (with_reducible repeat first | apply rA | apply rN | apply rD); exact HO_329000.out⟩, ⟨by (with_reducible repeat first | apply rA | apply rN | apply rD); exact HO_329001.out⟩, ⟨by (with_reducible repeat first | apply rA | apply rN | apply rD); exact HO_329002.out⟩, ⟨by (with_reducible repeat first | apply rA | apply rN | apply rD); exact HO_329003.out⟩, ⟨by (with_reducible repeat first | apply rA | apply rN | apply rD); exact HO_329004.out⟩, ⟨by (with_reducible repeat first | apply bN | apply bD | apply bA); exact BK328.out⟩, ⟨by repeat (first | (with_reducible first | exact HB.out | apply lA | apply lN | apply lD | refine lS ?_ GE328.out) | exact HB.out)⟩⟩
                      · rw [if_neg c29] at H
                        have c29b0 : decide (x11_3 < x10_25) = false := decide_eq_false c29
                        clear c29
                        (first | rw [c29b0] | (simp only [i64_w, i32_w]; rw [c29b0]) | skip)
                        have H' := aM H
                        clear H
                        go_wp2
                        go_meet
                        case rel => exact ⟨_, (false), (by first | rfl | (simp; done) | (simp [*]; done)), H', ⟨by have := HJ8.out; have := HJ25.out; have := HK3.out; first | omega | exact Nat.le_refl _⟩, ⟨by (with_reducible repeat first | apply rA | apply rN | apply rD); exact HO_329000.out⟩, ⟨by (with_reducible repeat first | apply rA | apply rN | apply rD); exact HO_329001.out⟩, ⟨by (with_reducible repeat first | apply rA | apply rN | apply rD); exact HO_329002.out⟩, ⟨by (with_reducible repeat first | apply rA | apply rN | apply rD); exact HO_329003.out⟩, ⟨by (with_reducible repeat first | apply rA | apply rN | apply rD); exact HO_329004.out⟩, ⟨by (with_reducible repeat first | apply bN | apply bD | apply bA); exact BK328.out⟩, ⟨by repeat (first | (with_reducible first | exact HB.out | apply lA | apply lN | apply lD | refine lS ?_ GE328.out) | exact HB.out)⟩⟩
                    case rest =>
                      clear HC28
                      try clear c1
                      try clear c2
                      try clear p2
                      try clear c3
                      try clear p3
                      try clear q3
                      try clear hx3
                      try clear qi3
                      try clear c6
                      try clear c6b0
                      try clear c6b1
                      try clear p6
                      try clear c7
                      try clear c15
                      try clear c16
                      try clear c19
                      try clear c20
                      try clear c21
                      try clear c24
                      try clear c24b0
                      try clear c24b1
                      try clear c24b2
                      try clear c25
                      try clear c27
                      try clear c29
                      try clear c29b0
                      try clear hcz13_0
                      try clear hcz13_1
                      try clear hcz13_2
                      try clear hcz13_3
                      try clear hcz13_4
                      try clear hcz20_0
                      try clear hcz20_1
                      try clear hcz20_2
                      try clear hcz20_3
                      try clear hcz20_4
                      try clear hcz22_0
                      try clear hcz22_1
                      try clear hcz22_2
                      try clear hcz22_3
                      try clear hcz22_4
                      try clear hfz13_0
                      try clear hfz13_1
                      try clear hfz13_2
                      try clear hfz13_3
                      try clear hfz13_4
                      try clear hfz20_0
                      try clear hfz20_1
                      try clear hfz20_2
                      try clear hfz20_3
                      try clear hfz20_4
                      try clear hfz22_0
                      try clear hfz22_1
                      try clear hfz22_2
                      try clear hfz22_3
                      try clear hfz22_4
                      try clear hx332_0
                      try clear p2
                      try clear p3
                      try clear p332
                      try clear p6
                      try clear q3
                      try clear q332
                      obtain ⟨kq, x63_27, rfl, HA, HJ27, HO_329000, HO_329001, HO_329002, HO_329003, HO_329004, BK328, HB⟩ := hcut
                      cases kq with
                      | zero => exact absurd HA.out (by simp [laws_FnFires.j3])
                      | succ kj27 =>
                        have H := HA.out
                        clear HA
                        simp only [laws_FnFires.j3] at H
                        by_cases c30 : x63_27 = true
                        · subst c30
                          have H1 : ((impl_Fires.f kj27 t312 t315 t318 t321 t324 x11_3).bind fun t337 => (if t337 = true then (none) else (laws_FnFires.l0 kj27 t327 (Int.tmod (rd t329 0) 4) t333 t334 x10_25 (wrap64 (x11_3 + 1)) t312 t315 t318 t321 t324))) = some r := by rw [if_pos rfl] at H; exact H
                          clear H
                          have H := H1
                          clear H1
                          replace H := Option.bind_eq_some_iff.mp H
                          obtain ⟨t337, A310, H⟩ := H
                          replace H : (if t337 = true then (none) else (laws_FnFires.l0 kj27 t327 (Int.tmod (rd t329 0) 4) t333 t334 x10_25 (wrap64 (x11_3 + 1)) t312 t315 t318 t321 t324)) = some r := H
                          have A31 := aM A310
                          clear A310
                          by_cases c32 : t337 = true
                          · subst c32
                            have H1 : (none) = some r := by rw [if_pos rfl] at H; exact H
                            clear H
                            have H := H1
                            clear H1
                            exact absurd H (by simp)
                          · replace c32 := Bool.eq_false_iff.mpr c32
                            subst c32
                            have H1 : (laws_FnFires.l0 kj27 t327 (Int.tmod (rd t329 0) 4) t333 t334 x10_25 (wrap64 (x11_3 + 1)) t312 t315 t318 t321 t324) = some r := by rw [if_neg (show ¬ (false = true) by decide)] at H; exact H
                            clear H
                            have H := H1
                            clear H1
                            have H' := aM H
                            clear H
                            have hcz33_0 : wc.cell? ⟨gb328, 0, none⟩ = some (.slice Ao12 t312.length co12) := (blk_cell BK328.out 0).trans rfl
                            have hcz33_1 : wc.cell? ⟨gb328, 1, none⟩ = some (.slice Ao14 t315.length co14) := (blk_cell BK328.out 1).trans rfl
                            have hcz33_2 : wc.cell? ⟨gb328, 2, none⟩ = some (.slice Ao15 t318.length co15) := (blk_cell BK328.out 2).trans rfl
                            have hcz33_3 : wc.cell? ⟨gb328, 3, none⟩ = some (.slice Ao16 t321.length co16) := (blk_cell BK328.out 3).trans rfl
                            have hcz33_4 : wc.cell? ⟨gb328, 4, none⟩ = some (.slice Ao17 t324.length co17) := (blk_cell BK328.out 4).trans rfl
                            have hfz33_0 := blk_frozen BK328.out 0
                            have hfz33_1 := blk_frozen BK328.out 1
                            have hfz33_2 := blk_frozen BK328.out 2
                            have hfz33_3 := blk_frozen BK328.out 3
                            have hfz33_4 := blk_frozen BK328.out 4
                            go_wp2_with (first | ((with_reducible refine gate_callee (f := 14) rfl ?_); refine goesL_ (some 68) rfl rfl Try.func14 (by kernel_rfl) rfl #[.agg #[.slice Ao12 t312.length co12, .slice Ao14 t315.length co14, .slice Ao15 t318.length co15, .slice Ao16 t321.length co16, .slice Ao17 t324.length co17], .int .i64 x11_3] rfl (by (try simp only [mT, mC, mN]); first | done | rfl | (simp only [lDr, lTk]; rfl)) ?_; (with_reducible refine (impl_Fires.calls kj27 _ _ t312 _ _ t315 _ _ t318 _ _ t321 _ _ t324 x11_3 false _ ?side1 ?side2 ?side3 ?side4 ?side5 ?side6 ?side7 ?side8 ?side9 ?side10 A31.out).mono ?_); (case side1 => repeat (first | exact (Kd.R_reads' HO_329000.out).2.2 | (with_reducible refine cA ?_ _) | (with_reducible refine cN ?_ _) | (with_reducible refine cD ?_))); (case side2 => exact (Kd.R_reads' HO_329000.out).2.1); (case side3 => repeat (first | exact (Kd.R_reads' HO_329001.out).2.2 | (with_reducible refine cA ?_ _) | (with_reducible refine cN ?_ _) | (with_reducible refine cD ?_))); (case side4 => exact (Kd.R_reads' HO_329001.out).2.1); (case side5 => repeat (first | exact (Kd.R_reads' HO_329002.out).2.2 | (with_reducible refine cA ?_ _) | (with_reducible refine cN ?_ _) | (with_reducible refine cD ?_))); (case side6 => exact (Kd.R_reads' HO_329002.out).2.1); (case side7 => repeat (first | exact (Kd.R_reads' HO_329003.out).2.2 | (with_reducible refine cA ?_ _) | (with_reducible refine cN ?_ _) | (with_reducible refine cD ?_))); (case side8 => exact (Kd.R_reads' HO_329003.out).2.1); (case side9 => repeat (first | exact (Kd.R_reads' HO_329004.out).2.2 | (with_reducible refine cA ?_ _) | (with_reducible refine cN ?_ _) | (with_reducible refine cD ?_))); (case side10 => exact (Kd.R_reads' HO_329004.out).2.1); rintro e w34 ⟨rfl, hb⟩; refine ⟨_, rfl, ?_⟩; have n0_ := aM (Kd.R_below (by (with_reducible repeat first | apply rA | apply rN | apply rD); exact HO_329000.out) hb); have n1_ := aM (Kd.R_below (by (with_reducible repeat first | apply rA | apply rN | apply rD); exact HO_329001.out) hb); have n2_ := aM (Kd.R_below (by (with_reducible repeat first | apply rA | apply rN | apply rD); exact HO_329002.out) hb); have n3_ := aM (Kd.R_below (by (with_reducible repeat first | apply rA | apply rN | apply rD); exact HO_329003.out) hb); have n4_ := aM (Kd.R_below (by (with_reducible repeat first | apply rA | apply rN | apply rD); exact HO_329004.out) hb); have n5_ := aM (blk_below (g := gb328) (o := .cells #[.slice Ao12 t312.length co12, .slice Ao14 t315.length co14, .slice Ao15 t318.length co15, .slice Ao16 t321.length co16, .slice Ao17 t324.length co17] 27 (0, 0)) (by (with_reducible repeat first | apply bN | apply bD | apply bA); exact BK328.out) hb); have n6_ := aM (below_step (by repeat (first | (with_reducible first | exact HB.out | apply lA | apply lN | apply lD | refine lS ?_ GE328.out) | exact HB.out)) hb); clear HO_329000; clear HO_329001; clear HO_329002; clear HO_329003; clear HO_329004; clear BK328; clear HB; have HO_329000 := n0_; have HO_329001 := n1_; have HO_329002 := n2_; have HO_329003 := n3_; have HO_329004 := n4_; have BK328 := n5_; have HB := n6_; clear n0_ n1_ n2_ n3_ n4_ n5_ n6_; (try clear hb); (try clear hb2); (try clear hk); (try clear hi)))
                            go_roundg kj27
                            case measure => have := HJ8.out; have := HJ25.out; have := HK3.out; have := HJ27.out; omega
                            case rel => exact ⟨(wrap64 (x11_3 + 1)), (by first | rfl | (simp; done) | (simp [*]; done)), H', ⟨by have := HJ8.out; have := HJ25.out; have := HK3.out; have := HJ27.out; omega⟩, ⟨by (with_reducible repeat first | apply rA | apply rN | apply rD); exact HO_329000.out⟩, ⟨by (with_reducible repeat first | apply rA | apply rN | apply rD); exact HO_329001.out⟩, ⟨by (with_reducible repeat first | apply rA | apply rN | apply rD); exact HO_329002.out⟩, ⟨by (with_reducible repeat first | apply rA | apply rN | apply rD); exact HO_329003.out⟩, ⟨by (with_reducible repeat first | apply rA | apply rN | apply rD); exact HO_329004.out⟩, ⟨by (with_reducible repeat first | apply bN | apply bD | apply bA); exact BK328.out⟩, ⟨by repeat (first | (with_reducible first | exact HB.out | apply lA | apply lN | apply lD | refine lS ?_ GE328.out) | exact HB.out)⟩⟩
                        · replace c30 := Bool.eq_false_iff.mpr c30
                          subst c30
                          have H1 : (if t334 = true then ((impl_Fires.f kj27 t312 t315 t318 t321 t324 t333).bind fun t338 => (if t338 = true then (if t333 ≥ t327 then (some (decide ((wrap64 (Int.tdiv t333 1440)) ≤ (wrap64 ((wrap64 (Int.tdiv t327 1440)) + (Int.tmod (rd t329 0) 4)))))) else (none)) else (none))) else (some true)) = some r := by rw [if_neg (show ¬ (false = true) by decide)] at H; exact H
                          clear H
                          have H := H1
                          clear H1
                          by_cases c35 : t334 = true
                          · subst c35
                            have H1 : ((impl_Fires.f kj27 t312 t315 t318 t321 t324 t333).bind fun t338 => (if t338 = true then (if t333 ≥ t327 then (some (decide ((wrap64 (Int.tdiv t333 1440)) ≤ (wrap64 ((wrap64 (Int.tdiv t327 1440)) + (Int.tmod (rd t329 0) 4)))))) else (none)) else (none))) = some r := by rw [if_pos rfl] at H; exact H
                            clear H
                            have H := H1
                            clear H1
                            replace H := Option.bind_eq_some_iff.mp H
                            obtain ⟨t338, A360, H⟩ := H
                            replace H : (if t338 = true then (if t333 ≥ t327 then (some (decide ((wrap64 (Int.tdiv t333 1440)) ≤ (wrap64 ((wrap64 (Int.tdiv t327 1440)) + (Int.tmod (rd t329 0) 4)))))) else (none)) else (none)) = some r := H
                            have A36 := aM A360
                            clear A360
                            by_cases c37 : t338 = true
                            · subst c37
                              have H1 : (if t333 ≥ t327 then (some (decide ((wrap64 (Int.tdiv t333 1440)) ≤ (wrap64 ((wrap64 (Int.tdiv t327 1440)) + (Int.tmod (rd t329 0) 4)))))) else (none)) = some r := by rw [if_pos rfl] at H; exact H
                              clear H
                              have H := H1
                              clear H1
                              by_cases c38 : t333 ≥ t327
                              · rw [if_pos c38] at H
                                have c38b0 : decide (t327 ≤ t333) = true := decide_eq_true c38
                                clear c38
                                obtain rfl := Option.some.inj H
                                have hcz39_0 : wc.cell? ⟨gb328, 0, none⟩ = some (.slice Ao12 t312.length co12) := (blk_cell BK328.out 0).trans rfl
                                have hcz39_1 : wc.cell? ⟨gb328, 1, none⟩ = some (.slice Ao14 t315.length co14) := (blk_cell BK328.out 1).trans rfl
                                have hcz39_2 : wc.cell? ⟨gb328, 2, none⟩ = some (.slice Ao15 t318.length co15) := (blk_cell BK328.out 2).trans rfl
                                have hcz39_3 : wc.cell? ⟨gb328, 3, none⟩ = some (.slice Ao16 t321.length co16) := (blk_cell BK328.out 3).trans rfl
                                have hcz39_4 : wc.cell? ⟨gb328, 4, none⟩ = some (.slice Ao17 t324.length co17) := (blk_cell BK328.out 4).trans rfl
                                have hfz39_0 := blk_frozen BK328.out 0
                                have hfz39_1 := blk_frozen BK328.out 1
                                have hfz39_2 := blk_frozen BK328.out 2
                                have hfz39_3 := blk_frozen BK328.out 3
                                have hfz39_4 := blk_frozen BK328.out 4
                                go_wp2_with (first | (go_at_call 14; (with_reducible refine (impl_Fires.calls kj27 _ _ t312 _ _ t315 _ _ t318 _ _ t321 _ _ t324 t333 true _ ?side1 ?side2 ?side3 ?side4 ?side5 ?side6 ?side7 ?side8 ?side9 ?side10 A36.out).mono ?_); (case side1 => repeat (first | exact (Kd.R_reads' HO_329000.out).2.2 | (with_reducible refine cA ?_ _) | (with_reducible refine cN ?_ _) | (with_reducible refine cD ?_))); (case side2 => exact (Kd.R_reads' HO_329000.out).2.1); (case side3 => repeat (first | exact (Kd.R_reads' HO_329001.out).2.2 | (with_reducible refine cA ?_ _) | (with_reducible refine cN ?_ _) | (with_reducible refine cD ?_))); (case side4 => exact (Kd.R_reads' HO_329001.out).2.1); (case side5 => repeat (first | exact (Kd.R_reads' HO_329002.out).2.2 | (with_reducible refine cA ?_ _) | (with_reducible refine cN ?_ _) | (with_reducible refine cD ?_))); (case side6 => exact (Kd.R_reads' HO_329002.out).2.1); (case side7 => repeat (first | exact (Kd.R_reads' HO_329003.out).2.2 | (with_reducible refine cA ?_ _) | (with_reducible refine cN ?_ _) | (with_reducible refine cD ?_))); (case side8 => exact (Kd.R_reads' HO_329003.out).2.1); (case side9 => repeat (first | exact (Kd.R_reads' HO_329004.out).2.2 | (with_reducible refine cA ?_ _) | (with_reducible refine cN ?_ _) | (with_reducible refine cD ?_))); (case side10 => exact (Kd.R_reads' HO_329004.out).2.1); rintro e w40 ⟨rfl, hb⟩; have n0_ := aM (Kd.R_below (by (with_reducible repeat first | apply rA | apply rN | apply rD); exact HO_329000.out) hb); have n1_ := aM (Kd.R_below (by (with_reducible repeat first | apply rA | apply rN | apply rD); exact HO_329001.out) hb); have n2_ := aM (Kd.R_below (by (with_reducible repeat first | apply rA | apply rN | apply rD); exact HO_329002.out) hb); have n3_ := aM (Kd.R_below (by (with_reducible repeat first | apply rA | apply rN | apply rD); exact HO_329003.out) hb); have n4_ := aM (Kd.R_below (by (with_reducible repeat first | apply rA | apply rN | apply rD); exact HO_329004.out) hb); have n5_ := aM (blk_below (g := gb328) (o := .cells #[.slice Ao12 t312.length co12, .slice Ao14 t315.length co14, .slice Ao15 t318.length co15, .slice Ao16 t321.length co16, .slice Ao17 t324.length co17] 27 (0, 0)) (by (with_reducible repeat first | apply bN | apply bD | apply bA); exact BK328.out) hb); have n6_ := aM (below_step (by repeat (first | (with_reducible first | exact HB.out | apply lA | apply lN | apply lD | refine lS ?_ GE328.out) | exact HB.out)) hb); clear HO_329000; clear HO_329001; clear HO_329002; clear HO_329003; clear HO_329004; clear BK328; clear HB; have HO_329000 := n0_; have HO_329001 := n1_; have HO_329002 := n2_; have HO_329003 := n3_; have HO_329004 := n4_; have BK328 := n5_; have HB := n6_; clear n0_ n1_ n2_ n3_ n4_ n5_ n6_; (try clear hb); (try clear hb2); (try clear hk); (try clear hi)))
                                go_ret
                                exact ⟨by first | rfl | (simp [errW_none, errW_some] <;> rfl) | (simp [*, errW_none, errW_some] <;> rfl), by repeat (first | (with_reducible first | exact HB.out | apply lA | apply lN | apply lD | refine lS ?_ GE328.out) | exact HB.out)⟩
                              · rw [if_neg c38] at H
                                exact absurd H (by simp)
                            · replace c37 := Bool.eq_false_iff.mpr c37
                              subst c37
                              have H1 : (none) = some r := by rw [if_neg (show ¬ (false = true) by decide)] at H; exact H
                              clear H
                              have H := H1
                              clear H1
                              exact absurd H (by simp)
                          · replace c35 := Bool.eq_false_iff.mpr c35
                            subst c35
                            have H1 : (some true) = some r := by rw [if_neg (show ¬ (false = true) by decide)] at H; exact H
                            clear H
                            have H := H1
                            clear H1
                            obtain rfl := Option.some.inj H
                            go_wp2
                            go_ret
                            exact ⟨by first | rfl | (simp [errW_none, errW_some] <;> rfl) | (simp [*, errW_none, errW_some] <;> rfl), by repeat (first | (with_reducible first | exact HB.out | apply lA | apply lN | apply lD | refine lS ?_ GE328.out) | exact HB.out)⟩
    · rw [if_neg c6] at H
      exact absurd H (by simp)

/-- THE ONE PURE STATEMENT of laws_FnFires: yours. -/
def laws_FnFires.Pure : Prop := ∀ (l0 : List Int), l0.length ≤ maxLen → l0.length * 1 ≤ 140737488351232 → (∀ x ∈ l0, (Lit.int .u8 x).wf = true) → ∃ k, laws_FnFires.f k l0 = some true
theorem laws_FnFires.walk (P : laws_FnFires.Pure) (a0 : Option Addr) (len0 cap0 : Nat) (z0 : List Int) (w : World) (w0 : (a0 = none ∧ len0 = 0 ∧ cap0 = 0 ∧ z0 = []) ∨ ∃ x, a0 = some x ∧ len0 ≤ cap0 ∧ cap0 ≤ maxLen ∧ z0.length = cap0 ∧ (∀ i, i < z0.length → w.cell? (x.add i) = some (.int .u8 (z0.getD i 0))) ∧ ∀ n ∈ z0, (Lit.int .u8 n).wf = true) (y0 : len0 * 1 ≤ 140737488351232) :
    Calls Try.prog 7 #[.slice a0 len0 cap0] w fun e w' => e = .returned (.bool true) ∧ Below w.heap.size w w' := by
  obtain ⟨l0, rfl, hr0, hm0, hw0, hc0⟩ := ReadsInt.ofRowC w0
  obtain ⟨k, h⟩ := P l0 hm0 y0 hw0
  refine (laws_FnFires.calls k _ _ l0 true w (Kd.C_of_reads (d := (0 : Int)) (h1 := fun _ => rfl) hr0) hc0 h).mono ?_
  rintro e w' ⟨rfl, hd⟩
  exact ⟨rfl, hd⟩

end Go.Proofs.Ytlglildjehcogaa.QFnFires
