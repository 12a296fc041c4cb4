-- Written by a program of this session's own (wip/turnprint.py over the kit's print); Lean checks it.
import Derived.Test.YtmhkghmfoggaeaaDoorQFnNumbersx0
import Derived.Test.YtmhkghmfoggaeaaDoorQFnNumbersx1
import Derived.Test.YtmhkghmfoggaeaaDoorQFnNumbersx2
import Derived.Test.YtmhkghmfoggaeaaDoorQFnNumbersx3
namespace Go.Proofs.YtmhkghmfoggaeaaDoor.QFnNumbers
open Go.RowKit Go.Proofs.YtmhkghmfoggaeaaDoorW.PrintWords Go.Proofs.YtmhkghmfoggaeaaDoorW.PrintLast Go.Proofs.YtmhkghmfoggaeaaDoorW.PrintMore
attribute [local go_sem] max2_int min2_int max_two min_two max_three min_three max_four min_four   -- for this text's walks alone
attribute [local go_sem] Go.Proofs.YtmhkghmfoggaeaaDoorQWords.run_lss_str
attribute [local go_sem] Go.Proofs.YtmhkghmfoggaeaaDoorQWords.run_geq_str
attribute [local go_sem] Go.Proofs.YtmhkghmfoggaeaaDoorQWords.run_leq_str
attribute [local go_sem] Go.Proofs.YtmhkghmfoggaeaaDoorQWords.run_gtr_str
set_option linter.unusedVariables false
set_option linter.unusedSimpArgs false

/-! ### laws_FnNumbers: function 8 -/
mutual
def laws_FnNumbers.j0 : Nat → List Int → Int → Bool → Option (Bool)
  | 0, _, _, _ => none
  | k + 1, x0, x3, x30 => if x30 = true then (laws_FnNumbers.j1 k x0 12345) else (laws_FnNumbers.j1 k x0 x3)
def laws_FnNumbers.j1 : Nat → List Int → Int → Option (Bool)
  | 0, _, _ => none
  | k + 1, x0, x3 => (impl_VarText.f k x3).bind fun bt210 => (if 1 + bt210.1.size ≤ 9223372036854775807 then (if ((⟨#[120]⟩ : ByteArray) ++ bt210.1).size + 1 ≤ 9223372036854775807 then ((impl_ReadVar.f k (((⟨#[120]⟩ : ByteArray) ++ bt210.1) ++ (⟨#[121]⟩ : ByteArray)) 1).bind fun bt212 => ((impl_Decimal.f x3).bind fun t215 => ((impl_ReadDecimal.f k t215).bind fun bt216 => ((spec_DrawHex.f k x0).bind fun t218 => (if (t218.size : Int) > 300 then (laws_FnNumbers.j2 k x3 bt210.1 bt210.2 bt212.1 bt212.2.1 bt212.2.2 bt216.1 bt216.2 (⟨#[97, 98, 99]⟩ : ByteArray)) else (laws_FnNumbers.j2 k x3 bt210.1 bt210.2 bt212.1 bt212.2.1 bt212.2.2 bt216.1 bt216.2 t218)))))) else (none)) else (none))
def laws_FnNumbers.j2 : Nat → Int → ByteArray → Bool → Int → Int → Bool → Int → Bool → ByteArray → Option (Bool)
  | 0, _, _, _, _, _, _, _, _, _ => none
  | k + 1, x3, x4, x5, x6, x7, x8, x9, x10, x11 => (impl_ShortText.f k x11).bind fun bt219 => ((impl_ReadShort.f k bt219.1 0).bind fun bt221 => ((impl_Hex.f k x11).bind fun bt224 => ((impl_Unhex.f k bt224.1).bind fun bt226 => (if x5 = true then (if x8 = true then (if x10 = true then (if bt219.2 = true then (if bt221.2.2 = true then (if bt224.2 = true then (if bt226.2 = true then (if x6 = x3 then (if x9 = x3 then (if x7 = (wrap64 ((x4.size : Int) + 1)) then (if bt221.1.toList = x11.toList then (if bt221.2.1 = (bt219.1.size : Int) then (some (bt226.1.toList == x11.toList)) else (none)) else (none)) else (none)) else (none)) else (none)) else (none)) else (none)) else (none)) else (none)) else (none)) else (none)) else (none)))))
end
def laws_FnNumbers.f (k : Nat) (l0 : List Int) : Option (Bool) := (laws_big.f l0).bind fun t208 => (if t208 = true then (some true) else ((spec_DrawVarText.f k l0).bind fun t209 => (if t209 < 0 then (laws_FnNumbers.j0 k l0 t209 true) else (laws_FnNumbers.j0 k l0 t209 (decide (t209 > 1000000000))))))
theorem laws_FnNumbers.mono_l : ∀ k, (∀ y0 y1 y2, LeO (laws_FnNumbers.j0 k y0 y1 y2) (laws_FnNumbers.j0 (k + 1) y0 y1 y2)) ∧ (∀ y0 y1, LeO (laws_FnNumbers.j1 k y0 y1) (laws_FnNumbers.j1 (k + 1) y0 y1)) ∧ (∀ y0 y1 y2 y3 y4 y5 y6 y7 y8, LeO (laws_FnNumbers.j2 k y0 y1 y2 y3 y4 y5 y6 y7 y8) (laws_FnNumbers.j2 (k + 1) y0 y1 y2 y3 y4 y5 y6 y7 y8))
  | 0 => ⟨fun _ _ _ r h => by simp [laws_FnNumbers.j0] at h, fun _ _ r h => by simp [laws_FnNumbers.j1] at h, fun _ _ _ _ _ _ _ _ _ r h => by simp [laws_FnNumbers.j2] at h⟩
  | k + 1 => by
    obtain ⟨ih0, ih1, ih2⟩ := laws_FnNumbers.mono_l k
    refine ⟨?_, ?_, ?_⟩
    · intro y0 y1 y2
      unfold laws_FnNumbers.j0
      repeat' first
      | (with_reducible exact ih0 _ _ _)
      | (with_reducible exact ih1 _ _)
      | (with_reducible exact ih2 _ _ _ _ _ _ _ _ _)
      | (with_reducible exact impl_Hex.mono _ _)
      | (with_reducible exact impl_ReadDecimal.mono _ _)
      | (with_reducible exact impl_ReadShort.mono _ _ _)
      | (with_reducible exact impl_ReadVar.mono _ _ _)
      | (with_reducible exact impl_ShortText.mono _ _)
      | (with_reducible exact impl_Unhex.mono _ _)
      | (with_reducible exact impl_VarText.mono _ _)
      | (with_reducible exact spec_DrawHex.mono _ _)
      | (with_reducible exact spec_DrawVarText.mono _ _)
      | (with_reducible exact LeO.refl _)
      | (with_reducible exact LeO.none _)
      | (with_reducible refine LeO.ite ?_ ?_)
      | (with_reducible refine LeO.bind ?_ (fun _ => ?_))
      | exact ih0 _ _ _
      | exact ih1 _ _
      | exact ih2 _ _ _ _ _ _ _ _ _
      | exact impl_Hex.mono _ _
      | exact impl_ReadDecimal.mono _ _
      | exact impl_ReadShort.mono _ _ _
      | exact impl_ReadVar.mono _ _ _
      | exact impl_ShortText.mono _ _
      | exact impl_Unhex.mono _ _
      | exact impl_VarText.mono _ _
      | exact spec_DrawHex.mono _ _
      | exact spec_DrawVarText.mono _ _
      | exact LeO.none _
      | refine LeO.ite ?_ ?_
      | refine LeO.bind ?_ (fun _ => ?_)
    · intro y0 y1
      unfold laws_FnNumbers.j1
      repeat' first
      | (with_reducible exact ih0 _ _ _)
      | (with_reducible exact ih1 _ _)
      | (with_reducible exact ih2 _ _ _ _ _ _ _ _ _)
      | (with_reducible exact impl_Hex.mono _ _)
      | (with_reducible exact impl_ReadDecimal.mono _ _)
      | (with_reducible exact impl_ReadShort.mono _ _ _)
      | (with_reducible exact impl_ReadVar.mono _ _ _)
      | (with_reducible exact impl_ShortText.mono _ _)
      | (with_reducible exact impl_Unhex.mono _ _)
      | (with_reducible exact impl_VarText.mono _ _)
      | (with_reducible exact spec_DrawHex.mono _ _)
      | (with_reducible exact spec_DrawVarText.mono _ _)
      | (with_reducible exact LeO.refl _)
      | (with_reducible exact LeO.none _)
      | (with_reducible refine LeO.ite ?_ ?_)
      | (with_reducible refine LeO.bind ?_ (fun _ => ?_))
      | exact ih0 _ _ _
      | exact ih1 _ _
      | exact ih2 _ _ _ _ _ _ _ _ _
      | exact impl_Hex.mono _ _
      | exact impl_ReadDecimal.mono _ _
      | exact impl_ReadShort.mono _ _ _
      | exact impl_ReadVar.mono _ _ _
      | exact impl_ShortText.mono _ _
      | exact impl_Unhex.mono _ _
      | exact impl_VarText.mono _ _
      | exact spec_DrawHex.mono _ _
      | exact spec_DrawVarText.mono _ _
      | exact LeO.none _
      | refine LeO.ite ?_ ?_
      | refine LeO.bind ?_ (fun _ => ?_)
    · intro y0 y1 y2 y3 y4 y5 y6 y7 y8
      unfold laws_FnNumbers.j2
      repeat' first
      | (with_reducible exact ih0 _ _ _)
      | (with_reducible exact ih1 _ _)
      | (with_reducible exact ih2 _ _ _ _ _ _ _ _ _)
      | (with_reducible exact impl_Hex.mono _ _)
      | (with_reducible exact impl_ReadDecimal.mono _ _)
      | (with_reducible exact impl_ReadShort.mono _ _ _)
      | (with_reducible exact impl_ReadVar.mono _ _ _)
      | (with_reducible exact impl_ShortText.mono _ _)
      | (with_reducible exact impl_Unhex.mono _ _)
      | (with_reducible exact impl_VarText.mono _ _)
      | (with_reducible exact spec_DrawHex.mono _ _)
      | (with_reducible exact spec_DrawVarText.mono _ _)
      | (with_reducible exact LeO.refl _)
      | (with_reducible exact LeO.none _)
      | (with_reducible refine LeO.ite ?_ ?_)
      | (with_reducible refine LeO.bind ?_ (fun _ => ?_))
      | exact ih0 _ _ _
      | exact ih1 _ _
      | exact ih2 _ _ _ _ _ _ _ _ _
      | exact impl_Hex.mono _ _
      | exact impl_ReadDecimal.mono _ _
      | exact impl_ReadShort.mono _ _ _
      | exact impl_ReadVar.mono _ _ _
      | exact impl_ShortText.mono _ _
      | exact impl_Unhex.mono _ _
      | exact impl_VarText.mono _ _
      | exact spec_DrawHex.mono _ _
      | exact spec_DrawVarText.mono _ _
      | exact LeO.none _
      | refine LeO.ite ?_ ?_
      | refine LeO.bind ?_ (fun _ => ?_)
theorem laws_FnNumbers.mono : ∀ a0 k, LeO (laws_FnNumbers.f k a0) (laws_FnNumbers.f (k + 1) a0) := by
  intro a0 k
  obtain ⟨ih0, ih1, ih2⟩ := laws_FnNumbers.mono_l k
  unfold laws_FnNumbers.f
  repeat' first
      | (with_reducible exact ih0 _ _ _)
      | (with_reducible exact ih1 _ _)
      | (with_reducible exact ih2 _ _ _ _ _ _ _ _ _)
      | (with_reducible exact impl_Hex.mono _ _)
      | (with_reducible exact impl_ReadDecimal.mono _ _)
      | (with_reducible exact impl_ReadShort.mono _ _ _)
      | (with_reducible exact impl_ReadVar.mono _ _ _)
      | (with_reducible exact impl_ShortText.mono _ _)
      | (with_reducible exact impl_Unhex.mono _ _)
      | (with_reducible exact impl_VarText.mono _ _)
      | (with_reducible exact spec_DrawHex.mono _ _)
      | (with_reducible exact spec_DrawVarText.mono _ _)
      | (with_reducible exact LeO.refl _)
      | (with_reducible exact LeO.none _)
      | (with_reducible refine LeO.ite ?_ ?_)
      | (with_reducible refine LeO.bind ?_ (fun _ => ?_))
      | exact ih0 _ _ _
      | exact ih1 _ _
      | exact ih2 _ _ _ _ _ _ _ _ _
      | exact impl_Hex.mono _ _
      | exact impl_ReadDecimal.mono _ _
      | exact impl_ReadShort.mono _ _ _
      | exact impl_ReadVar.mono _ _ _
      | exact impl_ShortText.mono _ _
      | exact impl_Unhex.mono _ _
      | exact impl_VarText.mono _ _
      | exact spec_DrawHex.mono _ _
      | exact spec_DrawVarText.mono _ _
      | exact LeO.none _
      | refine LeO.ite ?_ ?_
      | refine LeO.bind ?_ (fun _ => ?_)
set_option maxHeartbeats 8000000 in
set_option maxRecDepth 100000 in
theorem laws_FnNumbers.calls (k : Nat) (A0 : Option Addr) (c0 : Nat) (l0 : List Int) (r : Bool) (w : World) (hr0 : Kd.C (Kd.int .u8) w A0 l0.length l0) (hc0 : l0.length ≤ c0) (h : laws_FnNumbers.f k l0 = some r) (htab : Dec.Tab w) :
    Calls Tryd.prog 8 #[.slice A0 l0.length c0] w fun e w' => e = .returned (.bool r) ∧ Below w.heap.size w w' := by
  have HTAB := aM htab
  clear htab
  have HR0 := aM hr0
  have HC0 := aM hc0
  clear hr0 hc0
  have HB := aM (Below.refl w.heap.size w)
  have H : ((laws_big.f l0).bind fun t208 => (if t208 = true then (some true) else ((spec_DrawVarText.f k l0).bind fun t209 => (if t209 < 0 then (laws_FnNumbers.j0 k l0 t209 true) else (laws_FnNumbers.j0 k l0 t209 (decide (t209 > 1000000000))))))) = some r := h
  clear h
  replace H := Option.bind_eq_some_iff.mp H
  obtain ⟨t208, A20, H⟩ := H
  replace H : (if t208 = true then (some true) else ((spec_DrawVarText.f k l0).bind fun t209 => (if t209 < 0 then (laws_FnNumbers.j0 k l0 t209 true) else (laws_FnNumbers.j0 k l0 t209 (decide (t209 > 1000000000)))))) = some r := H
  have A2 := aM A20
  clear A20
  by_cases c3 : t208 = true
  · subst c3
    have H1 : (some true) = some r := by rw [if_pos rfl] at H; exact H
    clear H
    have H := H1
    clear H1
    obtain rfl := Option.some.inj H
    go_enter Tryd.func8, Tryd.ntmps8
    go_wp2_with (first | ((with_reducible refine gate_callee (f := 22) rfl ?_); refine goesL_ (some 22) rfl rfl Tryd.func22 (by kernel_rfl) rfl #[.slice A0 l0.length c0] rfl (by (try simp only [mT, mC, mN]); first | done | rfl | (simp only [lDr, lTk]; rfl)) ?_; (with_reducible refine (laws_big.calls _ _ l0 true _ ?side1 ?side2 A2.out).mono ?_); (case side1 => repeat (first | exact HR0.out | (with_reducible refine cA ?_ _) | (with_reducible refine cN ?_ _) | (with_reducible refine cD ?_))); (case side2 => exact HC0.out); rintro e w' ⟨rfl, ⟨nd, rfl⟩⟩; refine ⟨_, rfl, ?_⟩))
    go_ret
    exact ⟨by first | rfl | (simp [errW_none, errW_some] <;> rfl) | (simp [*, errW_none, errW_some] <;> rfl), by repeat (first | (with_reducible first | exact HB.out | apply lA | apply lN | apply lD) | exact HB.out)⟩
  · replace c3 := Bool.eq_false_iff.mpr c3
    subst c3
    have H1 : ((spec_DrawVarText.f k l0).bind fun t209 => (if t209 < 0 then (laws_FnNumbers.j0 k l0 t209 true) else (laws_FnNumbers.j0 k l0 t209 (decide (t209 > 1000000000))))) = some r := by rw [if_neg (show ¬ (false = true) by decide)] at H; exact H
    clear H
    have H := H1
    clear H1
    replace H := Option.bind_eq_some_iff.mp H
    obtain ⟨t209, A40, H⟩ := H
    replace H : (if t209 < 0 then (laws_FnNumbers.j0 k l0 t209 true) else (laws_FnNumbers.j0 k l0 t209 (decide (t209 > 1000000000)))) = some r := H
    have A4 := aM A40
    clear A40
    have HC5 := aM H
    clear H
    go_enter Tryd.func8, Tryd.ntmps8
    go_upto_region 4 with (first | ((with_reducible refine gate_callee (f := 22) rfl ?_); refine goesL_ (some 22) rfl rfl Tryd.func22 (by kernel_rfl) rfl #[.slice A0 l0.length c0] rfl (by (try simp only [mT, mC, mN]); first | done | rfl | (simp only [lDr, lTk]; rfl)) ?_; (with_reducible refine (laws_big.calls _ _ l0 false _ ?side1 ?side2 A2.out).mono ?_); (case side1 => repeat (first | exact HR0.out | (with_reducible refine cA ?_ _) | (with_reducible refine cN ?_ _) | (with_reducible refine cD ?_))); (case side2 => exact HC0.out); rintro e w' ⟨rfl, ⟨nd, rfl⟩⟩; refine ⟨_, rfl, ?_⟩) | ((with_reducible refine gate_callee (f := 23) rfl ?_); refine goesL_ (some 24) rfl rfl Tryd.func23 (by kernel_rfl) rfl #[.slice A0 l0.length c0] rfl (by (try simp only [mT, mC, mN]); first | done | rfl | (simp only [lDr, lTk]; rfl)) ?_; (with_reducible refine (spec_DrawVarText.calls k _ _ l0 t209 _ ?side1 ?side2 A4.out).mono ?_); (case side1 => repeat (first | exact HR0.out | (with_reducible refine cA ?_ _) | (with_reducible refine cN ?_ _) | (with_reducible refine cD ?_))); (case side2 => exact HC0.out); rintro e w6 ⟨rfl, hb⟩; refine ⟨_, rfl, ?_⟩; have n0_ := aM (below_step (by repeat (first | (with_reducible first | exact HB.out | apply lA | apply lN | apply lD) | exact HB.out)) hb); clear HB; have HB := n0_; clear n0_; (try clear hb); (try clear hb2); (try clear hk); (try clear hi)))
    (try simp only [Act.put, List.setIfInBounds_toArray, List.set_cons_zero, List.set_cons_succ])
    go_cut [30] (fun v30 wc => ∃ (kq : Nat) (x30_4 : Bool), v30 = .bool x30_4 ∧ Aside0 (laws_FnNumbers.j0 kq l0 t209 x30_4 = some r) ∧ Aside0 (kq ≤ k) ∧ Aside0 (Below w.heap.size w wc))
    case first =>
      have H := HC5.out
      clear HC5
      by_cases c7 : t209 < 0
      · rw [if_pos c7] at H
        have c7b0 : decide (t209 < 0) = true := decide_eq_true c7
        clear c7
        (first | rw [c7b0] | (simp only [i64_w, i32_w]; rw [c7b0]) | skip)
        have H' := aM H
        clear H
        go_wp2
        go_meet
        case rel => exact ⟨_, (true), (by first | rfl | (simp; done) | (simp [*]; done)), H', ⟨by first | omega | exact Nat.le_refl _⟩, ⟨by repeat (first | (with_reducible first | exact HB.out | apply lA | apply lN | apply lD) | exact HB.out)⟩⟩
      · rw [if_neg c7] at H
        have c7b0 : decide (t209 < 0) = false := decide_eq_false c7
        clear c7
        (first | rw [c7b0] | (simp only [i64_w, i32_w]; rw [c7b0]) | skip)
        have H' := aM H
        clear H
        go_wp2
        go_meet
        case rel => exact ⟨_, (decide (t209 > 1000000000)), (by first | rfl | (simp; done) | (simp [*]; done)), H', ⟨by first | omega | exact Nat.le_refl _⟩, ⟨by repeat (first | (with_reducible first | exact HB.out | apply lA | apply lN | apply lD) | exact HB.out)⟩⟩
    case rest =>
      clear HC5
      try clear c2
      try clear p2
      try clear c3
      try clear c7
      try clear c7b0
      obtain ⟨kq, x30_4, rfl, HA, HJ4, HB⟩ := hcut
      cases kq with
      | zero => exact absurd HA.out (by simp [laws_FnNumbers.j0])
      | succ kj4 =>
        have H := HA.out
        clear HA
        simp only [laws_FnNumbers.j0] at H
        have HC8 := aM H
        clear H
        go_upto_if 30 with (fail)
        go_cut [3] (fun v3 wc => ∃ (kq : Nat) (x3_7 : Int), v3 = .int .i64 x3_7 ∧ Aside0 (laws_FnNumbers.j1 kq l0 x3_7 = some r) ∧ Aside0 (kq ≤ kj4) ∧ Aside0 (Below w.heap.size w wc))
        case first =>
          have H := HC8.out
          clear HC8
          by_cases c9 : x30_4 = true
          · subst c9
            have H1 : (laws_FnNumbers.j1 kj4 l0 12345) = some r := by rw [if_pos rfl] at H; exact H
            clear H
            have H := H1
            clear H1
            have H' := aM H
            clear H
            go_wp2
            go_meet
            case rel => exact ⟨_, (12345), (by first | rfl | (simp; done) | (simp [*]; done)), H', ⟨by have := HJ4.out; first | omega | exact Nat.le_refl _⟩, ⟨by repeat (first | (with_reducible first | exact HB.out | apply lA | apply lN | apply lD) | exact HB.out)⟩⟩
          · replace c9 := Bool.eq_false_iff.mpr c9
            subst c9
            have H1 : (laws_FnNumbers.j1 kj4 l0 t209) = some r := by rw [if_neg (show ¬ (false = true) by decide)] at H; exact H
            clear H
            have H := H1
            clear H1
            have H' := aM H
            clear H
            go_wp2
            go_meet
            case rel => exact ⟨_, (t209), (by first | rfl | (simp; done) | (simp [*]; done)), H', ⟨by have := HJ4.out; first | omega | exact Nat.le_refl _⟩, ⟨by repeat (first | (with_reducible first | exact HB.out | apply lA | apply lN | apply lD) | exact HB.out)⟩⟩
        case rest =>
          clear HC8
          try clear c2
          try clear p2
          try clear c3
          try clear c7
          try clear c7b0
          try clear c8
          try clear c9
          try clear p2
          obtain ⟨kq, x3_7, rfl, HA, HJ7, HB⟩ := hcut
          cases kq with
          | zero => exact absurd HA.out (by simp [laws_FnNumbers.j1])
          | succ kj7 =>
            have H := HA.out
            clear HA
            simp only [laws_FnNumbers.j1] at H
            replace H := Option.bind_eq_some_iff.mp H
            obtain ⟨⟨t210, t211⟩, A100, H⟩ := H
            replace H : (if 1 + t210.size ≤ 9223372036854775807 then (if ((⟨#[120]⟩ : ByteArray) ++ t210).size + 1 ≤ 9223372036854775807 then ((impl_ReadVar.f kj7 (((⟨#[120]⟩ : ByteArray) ++ t210) ++ (⟨#[121]⟩ : ByteArray)) 1).bind fun bt212 => ((impl_Decimal.f x3_7).bind fun t215 => ((impl_ReadDecimal.f kj7 t215).bind fun bt216 => ((spec_DrawHex.f kj7 l0).bind fun t218 => (if (t218.size : Int) > 300 then (laws_FnNumbers.j2 kj7 x3_7 t210 t211 bt212.1 bt212.2.1 bt212.2.2 bt216.1 bt216.2 (⟨#[97, 98, 99]⟩ : ByteArray)) else (laws_FnNumbers.j2 kj7 x3_7 t210 t211 bt212.1 bt212.2.1 bt212.2.2 bt216.1 bt216.2 t218)))))) else (none)) else (none)) = some r := H
            have A10 := aM A100
            clear A100
            by_cases c11 : 1 + t210.size ≤ 9223372036854775807
            · rw [if_pos c11] at H
              have c11b0 := eq_true c11
              have c11b1 : decide (1 + t210.size ≤ 9223372036854775807) = true := decide_eq_true c11
              try have c11b2 : (9223372036854775807 < 1 + t210.size) = False := eq_false (Nat.not_lt.2 c11)
              by_cases c12 : ((⟨#[120]⟩ : ByteArray) ++ t210).size + 1 ≤ 9223372036854775807
              · rw [if_pos c12] at H
                have c12b0 := eq_true c12
                have c12b1 : decide (((⟨#[120]⟩ : ByteArray) ++ t210).size + 1 ≤ 9223372036854775807) = true := decide_eq_true c12
                try have c12b2 : (9223372036854775807 < ((⟨#[120]⟩ : ByteArray) ++ t210).size + 1) = False := eq_false (Nat.not_lt.2 c12)
                try have c12b3 : (9223372036854775807 < 1 + t210.size + 1) = False := eq_false (Nat.not_lt.2 (by have h_ := c12; simp only [ByteArray.size_append] at h_; exact h_))
                replace H := Option.bind_eq_some_iff.mp H
                obtain ⟨⟨t212, t213, t214⟩, A130, H⟩ := H
                replace H : ((impl_Decimal.f x3_7).bind fun t215 => ((impl_ReadDecimal.f kj7 t215).bind fun bt216 => ((spec_DrawHex.f kj7 l0).bind fun t218 => (if (t218.size : Int) > 300 then (laws_FnNumbers.j2 kj7 x3_7 t210 t211 t212 t213 t214 bt216.1 bt216.2 (⟨#[97, 98, 99]⟩ : ByteArray)) else (laws_FnNumbers.j2 kj7 x3_7 t210 t211 t212 t213 t214 bt216.1 bt216.2 t218))))) = some r := H
                have A13 := aM A130
                clear A130
                replace H := Option.bind_eq_some_iff.mp H
                obtain ⟨t215, A140, H⟩ := H
                replace H : ((impl_ReadDecimal.f kj7 t215).bind fun bt216 => ((spec_DrawHex.f kj7 l0).bind fun t218 => (if (t218.size : Int) > 300 then (laws_FnNumbers.j2 kj7 x3_7 t210 t211 t212 t213 t214 bt216.1 bt216.2 (⟨#[97, 98, 99]⟩ : ByteArray)) else (laws_FnNumbers.j2 kj7 x3_7 t210 t211 t212 t213 t214 bt216.1 bt216.2 t218)))) = some r := H
                have A14 := aM A140
                clear A140
                replace H := Option.bind_eq_some_iff.mp H
                obtain ⟨⟨t216, t217⟩, A150, H⟩ := H
                replace H : ((spec_DrawHex.f kj7 l0).bind fun t218 => (if (t218.size : Int) > 300 then (laws_FnNumbers.j2 kj7 x3_7 t210 t211 t212 t213 t214 t216 t217 (⟨#[97, 98, 99]⟩ : ByteArray)) else (laws_FnNumbers.j2 kj7 x3_7 t210 t211 t212 t213 t214 t216 t217 t218))) = some r := H
                have A15 := aM A150
                clear A150
                replace H := Option.bind_eq_some_iff.mp H
                obtain ⟨t218, A160, H⟩ := H
                replace H : (if (t218.size : Int) > 300 then (laws_FnNumbers.j2 kj7 x3_7 t210 t211 t212 t213 t214 t216 t217 (⟨#[97, 98, 99]⟩ : ByteArray)) else (laws_FnNumbers.j2 kj7 x3_7 t210 t211 t212 t213 t214 t216 t217 t218)) = some r := H
                have A16 := aM A160
                clear A160
                have HC17 := aM H
                clear H
                go_upto_if 54 with (first | ((with_reducible refine gate_callee (f := 24) rfl ?_); refine goesL_ (some 33) rfl rfl Tryd.func24 (by kernel_rfl) rfl #[.int .i64 x3_7] rfl (by (try simp only [mT, mC, mN]); first | done | rfl | (simp only [lDr, lTk]; rfl)) ?_; (with_reducible refine (impl_VarText.calls kj7 x3_7 t210 t211 _ A10.out).mono ?_); rintro e w18 ⟨rfl, hb⟩; refine ⟨_, rfl, ?_⟩; have n0_ := aM (below_step (by repeat (first | (with_reducible first | exact HB.out | apply lA | apply lN | apply lD) | exact HB.out)) hb); clear HB; have HB := n0_; clear n0_; (try clear hb); (try clear hb2); (try clear hk); (try clear hi)) | ((with_reducible refine gate_callee (f := 25) rfl ?_); refine goesL_ (some 40) rfl rfl Tryd.func25 (by kernel_rfl) rfl #[.string (((⟨#[120]⟩ : ByteArray) ++ t210) ++ (⟨#[121]⟩ : ByteArray)), .int .i64 1] rfl (by (try simp only [mT, mC, mN]); first | done | rfl | (simp only [lDr, lTk]; rfl)) ?_; (with_reducible refine (impl_ReadVar.calls kj7 (((⟨#[120]⟩ : ByteArray) ++ t210) ++ (⟨#[121]⟩ : ByteArray)) 1 t212 t213 t214 _ A13.out).mono ?_); rintro e w' ⟨rfl, ⟨nd, rfl⟩⟩; refine ⟨_, rfl, ?_⟩) | ((with_reducible refine gate_callee (f := 10) rfl ?_); refine goesL_ (some 46) rfl rfl Tryd.func10 (by kernel_rfl) rfl #[.int .i64 x3_7] rfl (by (try simp only [mT, mC, mN]); first | done | rfl | (simp only [lDr, lTk]; rfl)) ?_; (with_reducible refine (impl_Decimal.calls x3_7 t215 _ A14.out (Dec.tab_on HTAB.out (uL HB))).mono ?_); rintro e w19 ⟨rfl, hb⟩; refine ⟨_, rfl, ?_⟩; have n0_ := aM (below_step (by repeat (first | (with_reducible first | exact HB.out | apply lA | apply lN | apply lD) | exact HB.out)) hb); clear HB; have HB := n0_; clear n0_; (try clear hb); (try clear hb2); (try clear hk); (try clear hi)) | ((with_reducible refine gate_callee (f := 16) rfl ?_); refine goesL_ (some 47) rfl rfl Tryd.func16 (by kernel_rfl) rfl #[.string t215] rfl (by (try simp only [mT, mC, mN]); first | done | rfl | (simp only [lDr, lTk]; rfl)) ?_; (with_reducible refine (impl_ReadDecimal.calls kj7 t215 t216 t217 _ A15.out (Dec.tab_on HTAB.out (uL HB))).mono ?_); rintro e w20 ⟨rfl, hb⟩; refine ⟨_, rfl, ?_⟩; have n0_ := aM (below_step (by repeat (first | (with_reducible first | exact HB.out | apply lA | apply lN | apply lD) | exact HB.out)) hb); clear HB; have HB := n0_; clear n0_; (try clear hb); (try clear hb2); (try clear hk); (try clear hi)) | ((with_reducible refine gate_callee (f := 26) rfl ?_); refine goesL_ (some 51) rfl rfl Tryd.func26 (by kernel_rfl) rfl #[.slice A0 l0.length c0] rfl (by (try simp only [mT, mC, mN]); first | done | rfl | (simp only [lDr, lTk]; rfl)) ?_; (with_reducible refine (spec_DrawHex.calls kj7 _ _ l0 t218 _ ?side1 ?side2 A16.out).mono ?_); (case side1 => repeat (first | exact (Kd.C_below HR0.out HB.out) | (with_reducible refine cA ?_ _) | (with_reducible refine cN ?_ _) | (with_reducible refine cD ?_))); (case side2 => exact HC0.out); rintro e w21 ⟨rfl, hb⟩; refine ⟨_, rfl, ?_⟩; have n0_ := aM (below_step (by repeat (first | (with_reducible first | exact HB.out | apply lA | apply lN | apply lD) | exact HB.out)) hb); clear HB; have HB := n0_; clear n0_; (try clear hb); (try clear hb2); (try clear hk); (try clear hi)))
                (try simp only [Act.put, List.setIfInBounds_toArray, List.set_cons_zero, List.set_cons_succ])
                go_cut [11] (fun v11 wc => ∃ (kq : Nat) (x11_16 : ByteArray), v11 = .string x11_16 ∧ Aside0 (laws_FnNumbers.j2 kq x3_7 t210 t211 t212 t213 t214 t216 t217 x11_16 = some r) ∧ Aside0 (kq ≤ kj7) ∧ Aside0 (Below w.heap.size w wc))
                case first =>
                  have H := HC17.out
                  clear HC17
                  by_cases c22 : (t218.size : Int) > 300
                  · rw [if_pos c22] at H
                    have c22b0 : decide (300 < (t218.size : Int)) = true := decide_eq_true c22
                    have c22b1 : decide (300 < t218.size) = true := decide_eq_true (by omega)
                    clear c22
                    (first | rw [c22b0] | (simp only [i64_w, i32_w]; rw [c22b0]) | skip)
                    have H' := aM H
                    clear H
                    go_wp2
                    go_meet
                    case rel => exact ⟨_, ((⟨#[97, 98, 99]⟩ : ByteArray)), (by first | rfl | (simp; done) | (simp [*]; done)), H', ⟨by have := HJ4.out; have := HJ7.out; first | omega | exact Nat.le_refl _⟩, ⟨by repeat (first | (with_reducible first | exact HB.out | apply lA | apply lN | apply lD) | exact HB.out)⟩⟩
                  · rw [if_neg c22] at H
                    have c22b0 : decide (300 < (t218.size : Int)) = false := decide_eq_false c22
                    have c22b1 : decide (300 < t218.size) = false := decide_eq_false (by omega)
                    clear c22
                    (first | rw [c22b0] | (simp only [i64_w, i32_w]; rw [c22b0]) | skip)
                    have H' := aM H
                    clear H
                    go_wp2
                    go_meet
                    case rel => exact ⟨_, (t218), (by first | rfl | (simp; done) | (simp [*]; done)), H', ⟨by have := HJ4.out; have := HJ7.out; first | omega | exact Nat.le_refl _⟩, ⟨by repeat (first | (with_reducible first | exact HB.out | apply lA | apply lN | apply lD) | exact HB.out)⟩⟩
                case rest =>
                  clear HC17
                  try clear c1
                  try clear c2
                  try clear p2
                  try clear c3
                  try clear c7
                  try clear c7b0
                  try clear c8
                  try clear c9
                  try clear c10
                  try clear c11
                  try clear c11b0
                  try clear c11b1
                  try clear c11b2
                  try clear c12
                  try clear c12b0
                  try clear c12b1
                  try clear c12b2
                  try clear c16
                  try clear c22
                  try clear c22b0
                  try clear c22b1
                  try clear p2
                  obtain ⟨kq, x11_16, rfl, HA, HJ16, HB⟩ := hcut
                  cases kq with
                  | zero => exact absurd HA.out (by simp [laws_FnNumbers.j2])
                  | succ kj16 =>
                    have H := HA.out
                    clear HA
                    simp only [laws_FnNumbers.j2] at H
                    replace H := Option.bind_eq_some_iff.mp H
                    obtain ⟨⟨t219, t220⟩, A230, H⟩ := H
                    replace H : ((impl_ReadShort.f kj16 t219 0).bind fun bt221 => ((impl_Hex.f kj16 x11_16).bind fun bt224 => ((impl_Unhex.f kj16 bt224.1).bind fun bt226 => (if t211 = true then (if t214 = true then (if t217 = true then (if t220 = true then (if bt221.2.2 = true then (if bt224.2 = true then (if bt226.2 = true then (if t212 = x3_7 then (if t216 = x3_7 then (if t213 = (wrap64 ((t210.size : Int) + 1)) then (if bt221.1.toList = x11_16.toList then (if bt221.2.1 = (t219.size : Int) then (some (bt226.1.toList == x11_16.toList)) else (none)) else (none)) else (none)) else (none)) else (none)) else (none)) else (none)) else (none)) else (none)) else (none)) else (none)) else (none))))) = some r := H
                    have A23 := aM A230
                    clear A230
                    replace H := Option.bind_eq_some_iff.mp H
                    obtain ⟨⟨t221, t222, t223⟩, A240, H⟩ := H
                    replace H : ((impl_Hex.f kj16 x11_16).bind fun bt224 => ((impl_Unhex.f kj16 bt224.1).bind fun bt226 => (if t211 = true then (if t214 = true then (if t217 = true then (if t220 = true then (if t223 = true then (if bt224.2 = true then (if bt226.2 = true then (if t212 = x3_7 then (if t216 = x3_7 then (if t213 = (wrap64 ((t210.size : Int) + 1)) then (if t221.toList = x11_16.toList then (if t222 = (t219.size : Int) then (some (bt226.1.toList == x11_16.toList)) else (none)) else (none)) else (none)) else (none)) else (none)) else (none)) else (none)) else (none)) else (none)) else (none)) else (none)) else (none)))) = some r := H
                    have A24 := aM A240
                    clear A240
                    replace H := Option.bind_eq_some_iff.mp H
                    obtain ⟨⟨t224, t225⟩, A250, H⟩ := H
                    replace H : ((impl_Unhex.f kj16 t224).bind fun bt226 => (if t211 = true then (if t214 = true then (if t217 = true then (if t220 = true then (if t223 = true then (if t225 = true then (if bt226.2 = true then (if t212 = x3_7 then (if t216 = x3_7 then (if t213 = (wrap64 ((t210.size : Int) + 1)) then (if t221.toList = x11_16.toList then (if t222 = (t219.size : Int) then (some (bt226.1.toList == x11_16.toList)) else (none)) else (none)) else (none)) else (none)) else (none)) else (none)) else (none)) else (none)) else (none)) else (none)) else (none)) else (none))) = some r := H
                    have A25 := aM A250
                    clear A250
                    replace H := Option.bind_eq_some_iff.mp H
                    obtain ⟨⟨t226, t227⟩, A260, H⟩ := H
                    replace H : (if t211 = true then (if t214 = true then (if t217 = true then (if t220 = true then (if t223 = true then (if t225 = true then (if t227 = true then (if t212 = x3_7 then (if t216 = x3_7 then (if t213 = (wrap64 ((t210.size : Int) + 1)) then (if t221.toList = x11_16.toList then (if t222 = (t219.size : Int) then (some (t226.toList == x11_16.toList)) else (none)) else (none)) else (none)) else (none)) else (none)) else (none)) else (none)) else (none)) else (none)) else (none)) else (none)) else (none)) = some r := H
                    have A26 := aM A260
                    clear A260
                    by_cases c27 : t211 = true
                    · subst c27
                      have H1 : (if t214 = true then (if t217 = true then (if t220 = true then (if t223 = true then (if t225 = true then (if t227 = true then (if t212 = x3_7 then (if t216 = x3_7 then (if t213 = (wrap64 ((t210.size : Int) + 1)) then (if t221.toList = x11_16.toList then (if t222 = (t219.size : Int) then (some (t226.toList == x11_16.toList)) else (none)) else (none)) else (none)) else (none)) else (none)) else (none)) else (none)) else (none)) else (none)) else (none)) else (none)) = some r := by rw [if_pos rfl] at H; exact H
                      clear H
                      have H := H1
                      clear H1
                      by_cases c28 : t214 = true
                      · subst c28
                        have H1 : (if t217 = true then (if t220 = true then (if t223 = true then (if t225 = true then (if t227 = true then (if t212 = x3_7 then (if t216 = x3_7 then (if t213 = (wrap64 ((t210.size : Int) + 1)) then (if t221.toList = x11_16.toList then (if t222 = (t219.size : Int) then (some (t226.toList == x11_16.toList)) else (none)) else (none)) else (none)) else (none)) else (none)) else (none)) else (none)) else (none)) else (none)) else (none)) = some r := by rw [if_pos rfl] at H; exact H
                        clear H
                        have H := H1
                        clear H1
                        by_cases c29 : t217 = true
                        · subst c29
                          have H1 : (if t220 = true then (if t223 = true then (if t225 = true then (if t227 = true then (if t212 = x3_7 then (if t216 = x3_7 then (if t213 = (wrap64 ((t210.size : Int) + 1)) then (if t221.toList = x11_16.toList then (if t222 = (t219.size : Int) then (some (t226.toList == x11_16.toList)) else (none)) else (none)) else (none)) else (none)) else (none)) else (none)) else (none)) else (none)) else (none)) = some r := by rw [if_pos rfl] at H; exact H
                          clear H
                          have H := H1
                          clear H1
                          by_cases c30 : t220 = true
                          · subst c30
                            have H1 : (if t223 = true then (if t225 = true then (if t227 = true then (if t212 = x3_7 then (if t216 = x3_7 then (if t213 = (wrap64 ((t210.size : Int) + 1)) then (if t221.toList = x11_16.toList then (if t222 = (t219.size : Int) then (some (t226.toList == x11_16.toList)) else (none)) else (none)) else (none)) else (none)) else (none)) else (none)) else (none)) else (none)) = some r := by rw [if_pos rfl] at H; exact H
                            clear H
                            have H := H1
                            clear H1
                            by_cases c31 : t223 = true
                            · subst c31
                              have H1 : (if t225 = true then (if t227 = true then (if t212 = x3_7 then (if t216 = x3_7 then (if t213 = (wrap64 ((t210.size : Int) + 1)) then (if t221.toList = x11_16.toList then (if t222 = (t219.size : Int) then (some (t226.toList == x11_16.toList)) else (none)) else (none)) else (none)) else (none)) else (none)) else (none)) else (none)) = some r := by rw [if_pos rfl] at H; exact H
                              clear H
                              have H := H1
                              clear H1
                              by_cases c32 : t225 = true
                              · subst c32
                                have H1 : (if t227 = true then (if t212 = x3_7 then (if t216 = x3_7 then (if t213 = (wrap64 ((t210.size : Int) + 1)) then (if t221.toList = x11_16.toList then (if t222 = (t219.size : Int) then (some (t226.toList == x11_16.toList)) else (none)) else (none)) else (none)) else (none)) else (none)) else (none)) = some r := by rw [if_pos rfl] at H; exact H
                                clear H
                                have H := H1
                                clear H1
                                by_cases c33 : t227 = true
                                · subst c33
                                  have H1 : (if t212 = x3_7 then (if t216 = x3_7 then (if t213 = (wrap64 ((t210.size : Int) + 1)) then (if t221.toList = x11_16.toList then (if t222 = (t219.size : Int) then (some (t226.toList == x11_16.toList)) else (none)) else (none)) else (none)) else (none)) else (none)) = some r := by rw [if_pos rfl] at H; exact H
                                  clear H
                                  have H := H1
                                  clear H1
                                  by_cases c34 : t212 = x3_7
                                  · rw [if_pos c34] at H
                                    have c34b0 : (t212 == x3_7) = true := beq_iff_eq.mpr c34
                                    have c34b1 : (t212 != x3_7) = false := bne_eq_false_iff_eq.mpr c34
                                    clear c34
                                    by_cases c35 : t216 = x3_7
                                    · rw [if_pos c35] at H
                                      have c35b0 : (t216 == x3_7) = true := beq_iff_eq.mpr c35
                                      have c35b1 : (t216 != x3_7) = false := bne_eq_false_iff_eq.mpr c35
                                      clear c35
                                      by_cases c36 : t213 = (wrap64 ((t210.size : Int) + 1))
                                      · rw [if_pos c36] at H
                                        have c36b0 : (t213 == (wrap64 ((t210.size : Int) + 1))) = true := beq_iff_eq.mpr c36
                                        have c36b1 : (t213 != (wrap64 ((t210.size : Int) + 1))) = false := bne_eq_false_iff_eq.mpr c36
                                        clear c36
                                        by_cases c37 : t221.toList = x11_16.toList
                                        · rw [if_pos c37] at H
                                          have c37b0 : (t221.toList == x11_16.toList) = true := beq_iff_eq.mpr c37
                                          have c37b1 : (t221.toList != x11_16.toList) = false := bne_eq_false_iff_eq.mpr c37
                                          clear c37
                                          by_cases c38 : t222 = (t219.size : Int)
                                          · rw [if_pos c38] at H
                                            have c38b0 : (t222 == (t219.size : Int)) = true := beq_iff_eq.mpr c38
                                            have c38b1 : (t222 != (t219.size : Int)) = false := bne_eq_false_iff_eq.mpr c38
                                            clear c38
                                            obtain rfl := Option.some.inj H
                                            go_wp2_with (first | ((with_reducible refine gate_callee (f := 27) rfl ?_); refine goesL_ (some 57) rfl rfl Tryd.func27 (by kernel_rfl) rfl #[.string x11_16] rfl (by (try simp only [mT, mC, mN]); first | done | rfl | (simp only [lDr, lTk]; rfl)) ?_; (with_reducible refine (impl_ShortText.calls kj16 x11_16 t219 true _ A23.out).mono ?_); rintro e w39 ⟨rfl, hb⟩; refine ⟨_, rfl, ?_⟩; have n0_ := aM (below_step (by repeat (first | (with_reducible first | exact HB.out | apply lA | apply lN | apply lD) | exact HB.out)) hb); clear HB; have HB := n0_; clear n0_; (try clear hb); (try clear hb2); (try clear hk); (try clear hi)) | ((with_reducible refine gate_callee (f := 28) rfl ?_); refine goesL_ (some 62) rfl rfl Tryd.func28 (by kernel_rfl) rfl #[.string t219, .int .i64 0] rfl (by (try simp only [mT, mC, mN]); first | done | rfl | (simp only [lDr, lTk]; rfl)) ?_; (with_reducible refine (impl_ReadShort.calls kj16 t219 0 t221 t222 true _ A24.out).mono ?_); rintro e w' ⟨rfl, ⟨nd, rfl⟩⟩; refine ⟨_, rfl, ?_⟩) | ((with_reducible refine gate_callee (f := 29) rfl ?_); refine goesL_ (some 68) rfl rfl Tryd.func29 (by kernel_rfl) rfl #[.string x11_16] rfl (by (try simp only [mT, mC, mN]); first | done | rfl | (simp only [lDr, lTk]; rfl)) ?_; (with_reducible refine (impl_Hex.calls kj16 x11_16 t224 true _ A25.out).mono ?_); rintro e w40 ⟨rfl, hb⟩; refine ⟨_, rfl, ?_⟩; have n0_ := aM (below_step (by repeat (first | (with_reducible first | exact HB.out | apply lA | apply lN | apply lD) | exact HB.out)) hb); clear HB; have HB := n0_; clear n0_; (try clear hb); (try clear hb2); (try clear hk); (try clear hi)) | ((with_reducible refine gate_callee (f := 30) rfl ?_); refine goesL_ (some 73) rfl rfl Tryd.func30 (by kernel_rfl) rfl #[.string t224] rfl (by (try simp only [mT, mC, mN]); first | done | rfl | (simp only [lDr, lTk]; rfl)) ?_; (with_reducible refine (impl_Unhex.calls kj16 t224 t226 true _ A26.out).mono ?_); rintro e w41 ⟨rfl, hb⟩; refine ⟨_, rfl, ?_⟩; have n0_ := aM (below_step (by repeat (first | (with_reducible first | exact HB.out | apply lA | apply lN | apply lD) | exact HB.out)) hb); clear HB; have HB := n0_; clear n0_; (try clear hb); (try clear hb2); (try clear hk); (try clear hi)))
                                            go_ret
                                            exact ⟨by first | rfl | (simp [errW_none, errW_some] <;> rfl) | (simp [*, errW_none, errW_some] <;> rfl), by repeat (first | (with_reducible first | exact HB.out | apply lA | apply lN | apply lD) | exact HB.out)⟩
                                          · rw [if_neg c38] at H
                                            exact absurd H (by simp)
                                        · rw [if_neg c37] at H
                                          exact absurd H (by simp)
                                      · rw [if_neg c36] at H
                                        exact absurd H (by simp)
                                    · rw [if_neg c35] at H
                                      exact absurd H (by simp)
                                  · rw [if_neg c34] at H
                                    exact absurd H (by simp)
                                · replace c33 := Bool.eq_false_iff.mpr c33
                                  subst c33
                                  have H1 : (none) = some r := by rw [if_neg (show ¬ (false = true) by decide)] at H; exact H
                                  clear H
                                  have H := H1
                                  clear H1
                                  exact absurd H (by simp)
                              · replace c32 := Bool.eq_false_iff.mpr c32
                                subst c32
                                have H1 : (none) = some r := by rw [if_neg (show ¬ (false = true) by decide)] at H; exact H
                                clear H
                                have H := H1
                                clear H1
                                exact absurd H (by simp)
                            · replace c31 := Bool.eq_false_iff.mpr c31
                              subst c31
                              have H1 : (none) = some r := by rw [if_neg (show ¬ (false = true) by decide)] at H; exact H
                              clear H
                              have H := H1
                              clear H1
                              exact absurd H (by simp)
                          · replace c30 := Bool.eq_false_iff.mpr c30
                            subst c30
                            have H1 : (none) = some r := by rw [if_neg (show ¬ (false = true) by decide)] at H; exact H
                            clear H
                            have H := H1
                            clear H1
                            exact absurd H (by simp)
                        · replace c29 := Bool.eq_false_iff.mpr c29
                          subst c29
                          have H1 : (none) = some r := by rw [if_neg (show ¬ (false = true) by decide)] at H; exact H
                          clear H
                          have H := H1
                          clear H1
                          exact absurd H (by simp)
                      · replace c28 := Bool.eq_false_iff.mpr c28
                        subst c28
                        have H1 : (none) = some r := by rw [if_neg (show ¬ (false = true) by decide)] at H; exact H
                        clear H
                        have H := H1
                        clear H1
                        exact absurd H (by simp)
                    · replace c27 := Bool.eq_false_iff.mpr c27
                      subst c27
                      have H1 : (none) = some r := by rw [if_neg (show ¬ (false = true) by decide)] at H; exact H
                      clear H
                      have H := H1
                      clear H1
                      exact absurd H (by simp)
              · rw [if_neg c12] at H
                exact absurd H (by simp)
            · rw [if_neg c11] at H
              exact absurd H (by simp)

/-- THE ONE PURE STATEMENT of laws_FnNumbers: yours. -/
def laws_FnNumbers.Pure : Prop := ∀ (l0 : List Int), l0.length ≤ maxLen → l0.length * 1 ≤ 140737488351232 → (∀ x ∈ l0, (Lit.int .u8 x).wf = true) → ∃ k, laws_FnNumbers.f k l0 = some true

end Go.Proofs.YtmhkghmfoggaeaaDoor.QFnNumbers
