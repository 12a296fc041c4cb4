-- Written by a program of this session's own (wip/turnprint.py over the kit's print); Lean checks it.
import Derived.Test.YtidfhfaekdahpaaQFnDaysx0
import Derived.Test.YtidfhfaekdahpaaQFnDaysx1
import Derived.Test.YtidfhfaekdahpaaQFnDaysx2
import Derived.Test.YtidfhfaekdahpaaQFnDaysx3
import Derived.Test.YtidfhfaekdahpaaQFnDaysx4
import Derived.Test.YtidfhfaekdahpaaQFnDaysx5
import Derived.Test.YtidfhfaekdahpaaQFnDaysx6
namespace Go.Proofs.Ytidfhfaekdahpaa.QFnDays
open Go.RowKit Go.Proofs.YtidfhfaekdahpaaW.PrintWords Go.Proofs.YtidfhfaekdahpaaW.PrintLast Go.Proofs.YtidfhfaekdahpaaW.PrintMore
attribute [local go_sem] max2_int min2_int max_two min_two max_three min_three max_four min_four   -- for this text's walks alone
attribute [local go_sem] Go.Proofs.YtidfhfaekdahpaaQWords.run_lss_str
attribute [local go_sem] Go.Proofs.YtidfhfaekdahpaaQWords.run_geq_str
attribute [local go_sem] Go.Proofs.YtidfhfaekdahpaaQWords.run_leq_str
attribute [local go_sem] Go.Proofs.YtidfhfaekdahpaaQWords.run_gtr_str
set_option linter.unusedVariables false
set_option linter.unusedSimpArgs false

attribute [local go_sem high] eqA72
/-! what is stored in a box is told at once, and the state is named anew -/
theorem toset {P : Program} {ops : Array Oper} {l : List Oper} {a : Act} {Q : Exit → Act → World → Prop} {W : World} {p : Addr} {u : Value} (h : ∀ w1, w1 = W.setCell p u → wpList P ops Q l a w1) : wpList P ops Q l a (W.setCell p u) := h _ rfl
/-! ### laws_FnDays: function 12 -/
mutual
def laws_FnDays.j0 : Nat → Int → Bool → Bool → Int → Int → Int → Int → Int → Option (Bool)
  | 0, _, _, _, _, _, _, _, _ => none
  | k + 1, x4, x5, x32, x227000, x227001, x227002, x227003, x227004 => if x32 = true then (none) else (if x5 = true then ((impl_CivilOf.f k x4).bind fun bt231 => ((impl_DaysIn.f k x227000 x227001).bind fun t238 => (if bt231.2.2.2.2.2 = true then (if (!(bt231.1 == x227000) || (!(bt231.2.1 == x227001) || (!(bt231.2.2.1 == x227002) || (!(bt231.2.2.2.1 == x227003) || (!(bt231.2.2.2.2.1 == x227004)))))) = true then (laws_FnDays.j1 k t238 true x227000 x227001 x227002 x227003 x227004) else (if t238 < 28 then (laws_FnDays.j1 k t238 true x227000 x227001 x227002 x227003 x227004) else (if t238 > 31 then (laws_FnDays.j1 k t238 true x227000 x227001 x227002 x227003 x227004) else (if x227001 = 2 then ((impl_LeapYear.f x227000).bind fun t239 => (laws_FnDays.j1 k t238 ((t238 == 29) != t239) x227000 x227001 x227002 x227003 x227004)) else (laws_FnDays.j1 k t238 false x227000 x227001 x227002 x227003 x227004))))) else (laws_FnDays.j1 k t238 true x227000 x227001 x227002 x227003 x227004)))) else (some (x4 == 0)))
def laws_FnDays.j1 : Nat → Int → Bool → Int → Int → Int → Int → Int → Option (Bool)
  | 0, _, _, _, _, _, _, _ => none
  | k + 1, x8, x74, x227000, x227001, x227002, x227003, x227004 => if x74 = true then (none) else (if (wrap64 ((Int.tmod x227001 12) + 1)) = 1 then ((impl_MinuteOf.f k (wrap64 (x227000 + 1)) (wrap64 ((Int.tmod x227001 12) + 1)) 1 x227003 x227004).bind fun bt241 => ((impl_MinuteOf.f k x227000 x227001 x8 x227003 x227004).bind fun bt243 => (if bt241.2 = true then (if bt241.1 = (wrap64 (bt243.1 + 1440)) then ((impl_DaysIn.f k x227000 13).bind fun t245 => (some (t245 == 0))) else (none)) else (if (wrap64 (x227000 + 1)) = 2100 then ((impl_DaysIn.f k x227000 13).bind fun t246 => (some (t246 == 0))) else (if bt241.1 = (wrap64 (bt243.1 + 1440)) then ((impl_DaysIn.f k x227000 13).bind fun t247 => (some (t247 == 0))) else (none)))))) else ((impl_MinuteOf.f k x227000 (wrap64 ((Int.tmod x227001 12) + 1)) 1 x227003 x227004).bind fun bt248 => ((impl_MinuteOf.f k x227000 x227001 x8 x227003 x227004).bind fun bt250 => (if bt248.2 = true then (if bt248.1 = (wrap64 (bt250.1 + 1440)) then ((impl_DaysIn.f k x227000 13).bind fun t252 => (some (t252 == 0))) else (none)) else (if x227000 = 2100 then ((impl_DaysIn.f k x227000 13).bind fun t253 => (some (t253 == 0))) else (if bt248.1 = (wrap64 (bt250.1 + 1440)) then ((impl_DaysIn.f k x227000 13).bind fun t254 => (some (t254 == 0))) else (none)))))))
end
def laws_FnDays.f (k : Nat) (l0 : List Int) : Option (Bool) := (laws_big.f l0).bind fun t220 => (if t220 = true then (some true) else ((spec_DrawMinuteOf.f k l0).bind fun bt221 => ((impl_MinuteOf.f k bt221.1 bt221.2.1 bt221.2.2.1 bt221.2.2.2.1 bt221.2.2.2.2).bind fun bt227 => ((spec_CivilOk.f bt221.1 bt221.2.1 bt221.2.2.1 bt221.2.2.2.1 bt221.2.2.2.2).bind fun t229 => (if (bt227.2 != t229) = true then (laws_FnDays.j0 k bt227.1 bt227.2 true bt221.1 bt221.2.1 bt221.2.2.1 bt221.2.2.2.1 bt221.2.2.2.2) else ((impl_CivilOk.f k bt221.1 bt221.2.1 bt221.2.2.1 bt221.2.2.2.1 bt221.2.2.2.2).bind fun t230 => (laws_FnDays.j0 k bt227.1 bt227.2 (t230 != bt227.2) bt221.1 bt221.2.1 bt221.2.2.1 bt221.2.2.2.1 bt221.2.2.2.2)))))))
theorem laws_FnDays.mono_l : ∀ k, (∀ y0 y1 y2 y3 y4 y5 y6 y7, LeO (laws_FnDays.j0 k y0 y1 y2 y3 y4 y5 y6 y7) (laws_FnDays.j0 (k + 1) y0 y1 y2 y3 y4 y5 y6 y7)) ∧ (∀ y0 y1 y2 y3 y4 y5 y6, LeO (laws_FnDays.j1 k y0 y1 y2 y3 y4 y5 y6) (laws_FnDays.j1 (k + 1) y0 y1 y2 y3 y4 y5 y6))
  | 0 => ⟨fun _ _ _ _ _ _ _ _ r h => by simp [laws_FnDays.j0] at h, fun _ _ _ _ _ _ _ r h => by simp [laws_FnDays.j1] at h⟩
  | k + 1 => by
    obtain ⟨ih0, ih1⟩ := laws_FnDays.mono_l k
    refine ⟨?_, ?_⟩
    · intro y0 y1 y2 y3 y4 y5 y6 y7
      unfold laws_FnDays.j0
      repeat' first
      | (with_reducible exact ih0 _ _ _ _ _ _ _ _)
      | (with_reducible exact ih1 _ _ _ _ _ _ _)
      | (with_reducible exact impl_CivilOf.mono _ _)
      | (with_reducible exact impl_CivilOk.mono _ _ _ _ _ _)
      | (with_reducible exact impl_DaysIn.mono _ _ _)
      | (with_reducible exact impl_MinuteOf.mono _ _ _ _ _ _)
      | (with_reducible exact spec_DrawMinuteOf.mono _ _)
      | (with_reducible exact LeO.refl _)
      | (with_reducible exact LeO.none _)
      | (with_reducible refine LeO.ite ?_ ?_)
      | (with_reducible refine LeO.bind ?_ (fun _ => ?_))
      | exact ih0 _ _ _ _ _ _ _ _
      | exact ih1 _ _ _ _ _ _ _
      | exact impl_CivilOf.mono _ _
      | exact impl_CivilOk.mono _ _ _ _ _ _
      | exact impl_DaysIn.mono _ _ _
      | exact impl_MinuteOf.mono _ _ _ _ _ _
      | exact spec_DrawMinuteOf.mono _ _
      | exact LeO.none _
      | refine LeO.ite ?_ ?_
      | refine LeO.bind ?_ (fun _ => ?_)
    · intro y0 y1 y2 y3 y4 y5 y6
      unfold laws_FnDays.j1
      repeat' first
      | (with_reducible exact ih0 _ _ _ _ _ _ _ _)
      | (with_reducible exact ih1 _ _ _ _ _ _ _)
      | (with_reducible exact impl_CivilOf.mono _ _)
      | (with_reducible exact impl_CivilOk.mono _ _ _ _ _ _)
      | (with_reducible exact impl_DaysIn.mono _ _ _)
      | (with_reducible exact impl_MinuteOf.mono _ _ _ _ _ _)
      | (with_reducible exact spec_DrawMinuteOf.mono _ _)
      | (with_reducible exact LeO.refl _)
      | (with_reducible exact LeO.none _)
      | (with_reducible refine LeO.ite ?_ ?_)
      | (with_reducible refine LeO.bind ?_ (fun _ => ?_))
      | exact ih0 _ _ _ _ _ _ _ _
      | exact ih1 _ _ _ _ _ _ _
      | exact impl_CivilOf.mono _ _
      | exact impl_CivilOk.mono _ _ _ _ _ _
      | exact impl_DaysIn.mono _ _ _
      | exact impl_MinuteOf.mono _ _ _ _ _ _
      | exact spec_DrawMinuteOf.mono _ _
      | exact LeO.none _
      | refine LeO.ite ?_ ?_
      | refine LeO.bind ?_ (fun _ => ?_)
theorem laws_FnDays.mono : ∀ a0 k, LeO (laws_FnDays.f k a0) (laws_FnDays.f (k + 1) a0) := by
  intro a0 k
  obtain ⟨ih0, ih1⟩ := laws_FnDays.mono_l k
  unfold laws_FnDays.f
  repeat' first
      | (with_reducible exact ih0 _ _ _ _ _ _ _ _)
      | (with_reducible exact ih1 _ _ _ _ _ _ _)
      | (with_reducible exact impl_CivilOf.mono _ _)
      | (with_reducible exact impl_CivilOk.mono _ _ _ _ _ _)
      | (with_reducible exact impl_DaysIn.mono _ _ _)
      | (with_reducible exact impl_MinuteOf.mono _ _ _ _ _ _)
      | (with_reducible exact spec_DrawMinuteOf.mono _ _)
      | (with_reducible exact LeO.refl _)
      | (with_reducible exact LeO.none _)
      | (with_reducible refine LeO.ite ?_ ?_)
      | (with_reducible refine LeO.bind ?_ (fun _ => ?_))
      | exact ih0 _ _ _ _ _ _ _ _
      | exact ih1 _ _ _ _ _ _ _
      | exact impl_CivilOf.mono _ _
      | exact impl_CivilOk.mono _ _ _ _ _ _
      | exact impl_DaysIn.mono _ _ _
      | exact impl_MinuteOf.mono _ _ _ _ _ _
      | exact spec_DrawMinuteOf.mono _ _
      | exact LeO.none _
      | refine LeO.ite ?_ ?_
      | refine LeO.bind ?_ (fun _ => ?_)
set_option maxHeartbeats 8000000 in
set_option maxRecDepth 100000 in
theorem laws_FnDays.calls (k : Nat) (A0 : Option Addr) (c0 : Nat) (l0 : List Int) (r : Bool) (w : World) (hr0 : Kd.C (Kd.int .u8) w A0 l0.length l0) (hc0 : l0.length ≤ c0) (h : laws_FnDays.f k l0 = some r) :
    Calls Try.prog 12 #[.slice A0 l0.length c0] w fun e w' => e = .returned (.bool r) ∧ Below w.heap.size w w' := by
  have hu72 := Try.underlying72
  have HR0 := aM hr0
  have HC0 := aM hc0
  clear hr0 hc0
  have HB := aM (Below.refl w.heap.size w)
  have H : ((laws_big.f l0).bind fun t220 => (if t220 = true then (some true) else ((spec_DrawMinuteOf.f k l0).bind fun bt221 => ((impl_MinuteOf.f k bt221.1 bt221.2.1 bt221.2.2.1 bt221.2.2.2.1 bt221.2.2.2.2).bind fun bt227 => ((spec_CivilOk.f bt221.1 bt221.2.1 bt221.2.2.1 bt221.2.2.2.1 bt221.2.2.2.2).bind fun t229 => (if (bt227.2 != t229) = true then (laws_FnDays.j0 k bt227.1 bt227.2 true bt221.1 bt221.2.1 bt221.2.2.1 bt221.2.2.2.1 bt221.2.2.2.2) else ((impl_CivilOk.f k bt221.1 bt221.2.1 bt221.2.2.1 bt221.2.2.2.1 bt221.2.2.2.2).bind fun t230 => (laws_FnDays.j0 k bt227.1 bt227.2 (t230 != bt227.2) bt221.1 bt221.2.1 bt221.2.2.1 bt221.2.2.2.1 bt221.2.2.2.2)))))))) = some r := h
  clear h
  replace H := Option.bind_eq_some_iff.mp H
  obtain ⟨t220, A20, H⟩ := H
  replace H : (if t220 = true then (some true) else ((spec_DrawMinuteOf.f k l0).bind fun bt221 => ((impl_MinuteOf.f k bt221.1 bt221.2.1 bt221.2.2.1 bt221.2.2.2.1 bt221.2.2.2.2).bind fun bt227 => ((spec_CivilOk.f bt221.1 bt221.2.1 bt221.2.2.1 bt221.2.2.2.1 bt221.2.2.2.2).bind fun t229 => (if (bt227.2 != t229) = true then (laws_FnDays.j0 k bt227.1 bt227.2 true bt221.1 bt221.2.1 bt221.2.2.1 bt221.2.2.2.1 bt221.2.2.2.2) else ((impl_CivilOk.f k bt221.1 bt221.2.1 bt221.2.2.1 bt221.2.2.2.1 bt221.2.2.2.2).bind fun t230 => (laws_FnDays.j0 k bt227.1 bt227.2 (t230 != bt227.2) bt221.1 bt221.2.1 bt221.2.2.1 bt221.2.2.2.1 bt221.2.2.2.2))))))) = some r := H
  have A2 := aM A20
  clear A20
  by_cases c3 : t220 = true
  · subst c3
    have H1 : (some true) = some r := by rw [if_pos rfl] at H; exact H
    clear H
    have H := H1
    clear H1
    obtain rfl := Option.some.inj H
    go_enter Try.func12, Try.ntmps12
    go_wp2_with (first | ((with_reducible refine gate_callee (f := 24) rfl ?_); refine goesL_ (some 15) rfl rfl Try.func24 (by kernel_rfl) rfl #[.slice A0 l0.length c0] rfl (by (try simp only [mT, mC, mN]); first | done | rfl | (simp only [lDr, lTk]; rfl)) ?_; (with_reducible refine (laws_big.calls _ _ l0 true _ ?side1 ?side2 A2.out).mono ?_); (case side1 => repeat (first | exact HR0.out | (with_reducible refine cA ?_ _) | (with_reducible refine cN ?_ _) | (with_reducible refine cD ?_))); (case side2 => exact HC0.out); rintro e w' ⟨rfl, ⟨nd, rfl⟩⟩; refine ⟨_, rfl, ?_⟩))
    go_ret
    exact ⟨by first | rfl | (simp [errW_none, errW_some] <;> rfl) | (simp [*, errW_none, errW_some] <;> rfl), by repeat (first | (with_reducible first | exact HB.out | apply lA | apply lN | apply lD) | exact HB.out)⟩
  · replace c3 := Bool.eq_false_iff.mpr c3
    subst c3
    have H1 : ((spec_DrawMinuteOf.f k l0).bind fun bt221 => ((impl_MinuteOf.f k bt221.1 bt221.2.1 bt221.2.2.1 bt221.2.2.2.1 bt221.2.2.2.2).bind fun bt227 => ((spec_CivilOk.f bt221.1 bt221.2.1 bt221.2.2.1 bt221.2.2.2.1 bt221.2.2.2.2).bind fun t229 => (if (bt227.2 != t229) = true then (laws_FnDays.j0 k bt227.1 bt227.2 true bt221.1 bt221.2.1 bt221.2.2.1 bt221.2.2.2.1 bt221.2.2.2.2) else ((impl_CivilOk.f k bt221.1 bt221.2.1 bt221.2.2.1 bt221.2.2.2.1 bt221.2.2.2.2).bind fun t230 => (laws_FnDays.j0 k bt227.1 bt227.2 (t230 != bt227.2) bt221.1 bt221.2.1 bt221.2.2.1 bt221.2.2.2.1 bt221.2.2.2.2)))))) = some r := by rw [if_neg (show ¬ (false = true) by decide)] at H; exact H
    clear H
    have H := H1
    clear H1
    replace H := Option.bind_eq_some_iff.mp H
    obtain ⟨⟨t221, t222, t223, t224, t225⟩, A40, H⟩ := H
    replace H : ((impl_MinuteOf.f k t221 t222 t223 t224 t225).bind fun bt227 => ((spec_CivilOk.f t221 t222 t223 t224 t225).bind fun t229 => (if (bt227.2 != t229) = true then (laws_FnDays.j0 k bt227.1 bt227.2 true t221 t222 t223 t224 t225) else ((impl_CivilOk.f k t221 t222 t223 t224 t225).bind fun t230 => (laws_FnDays.j0 k bt227.1 bt227.2 (t230 != bt227.2) t221 t222 t223 t224 t225))))) = some r := H
    have A4 := aM A40
    clear A40
    replace H := Option.bind_eq_some_iff.mp H
    obtain ⟨⟨t227, t228⟩, A50, H⟩ := H
    replace H : ((spec_CivilOk.f t221 t222 t223 t224 t225).bind fun t229 => (if (t228 != t229) = true then (laws_FnDays.j0 k t227 t228 true t221 t222 t223 t224 t225) else ((impl_CivilOk.f k t221 t222 t223 t224 t225).bind fun t230 => (laws_FnDays.j0 k t227 t228 (t230 != t228) t221 t222 t223 t224 t225)))) = some r := H
    have A5 := aM A50
    clear A50
    have HC6 := aM H
    clear H
    go_enter Try.func12, Try.ntmps12
    go_upto_region 5 with (first | ((with_reducible refine gate_callee (f := 24) rfl ?_); refine goesL_ (some 15) rfl rfl Try.func24 (by kernel_rfl) rfl #[.slice A0 l0.length c0] rfl (by (try simp only [mT, mC, mN]); first | done | rfl | (simp only [lDr, lTk]; rfl)) ?_; (with_reducible refine (laws_big.calls _ _ l0 false _ ?side1 ?side2 A2.out).mono ?_); (case side1 => repeat (first | exact HR0.out | (with_reducible refine cA ?_ _) | (with_reducible refine cN ?_ _) | (with_reducible refine cD ?_))); (case side2 => exact HC0.out); rintro e w' ⟨rfl, ⟨nd, rfl⟩⟩; refine ⟨_, rfl, ?_⟩) | ((with_reducible refine gate_callee (f := 50) rfl ?_); refine goesL_ (some 17) rfl rfl Try.func50 (by kernel_rfl) rfl #[.slice A0 l0.length c0] rfl (by (try simp only [mT, mC, mN]); first | done | rfl | (simp only [lDr, lTk]; rfl)) ?_; (with_reducible refine (spec_DrawMinuteOf.calls k _ _ l0 t221 t222 t223 t224 t225 _ ?side1 ?side2 A4.out).mono ?_); (case side1 => repeat (first | exact HR0.out | (with_reducible refine cA ?_ _) | (with_reducible refine cN ?_ _) | (with_reducible refine cD ?_))); (case side2 => exact HC0.out); rintro e w7 ⟨rfl, hb⟩; refine ⟨_, rfl, ?_⟩; have n0_ := aM (below_step (by repeat (first | (with_reducible first | exact HB.out | apply lA | apply lN | apply lD) | exact HB.out)) hb); clear HB; have HB := n0_; clear n0_; (try clear hb); (try clear hb2); (try clear hk); (try clear hi)) | ((with_reducible refine gate_dst (N := 3) rfl ?_); refine box_event ?hg (N := 3) ?hd (cs := #[.int .i64 0, .int .i64 0, .int .i64 0, .int .i64 0, .int .i64 0]) (t := 72) ?hr ?_; (case hd => rfl); (case hg => rfl); (case hr => first | (go_simp; done) | (go_simp; rfl)); intro gb226 hg w8 hbox hb; have n0_ := aM (below_step (by repeat (first | (with_reducible first | exact HB.out | apply lA | apply lN | apply lD) | exact HB.out)) hb); have n1_ := aM (hbox); have n2_ := aM ((by rw [hg]; exact (below_size (by repeat (first | (with_reducible first | exact HB.out | apply lA | apply lN | apply lD) | exact HB.out))) : w.heap.size ≤ gb226)); have n3_ := aM ((by rw [hg]; exact (below_size (by repeat (first | (with_reducible first | exact HB.out | apply lA | apply lN | apply lD) | exact HB.out))) : w.heap.size ≤ gb226)); clear HB; have HB := n0_; have BK226 := n1_; have GW226 := n2_; have GE226 := n3_; clear n0_ n1_ n2_ n3_; clear hb hbox hg; have hcz9_0 : w8.cell? ⟨gb226, 0, none⟩ = some (.int .i64 0) := (blk_cell BK226.out 0).trans rfl; have hcz9_1 : w8.cell? ⟨gb226, 1, none⟩ = some (.int .i64 0) := (blk_cell BK226.out 1).trans rfl; have hcz9_2 : w8.cell? ⟨gb226, 2, none⟩ = some (.int .i64 0) := (blk_cell BK226.out 2).trans rfl; have hcz9_3 : w8.cell? ⟨gb226, 3, none⟩ = some (.int .i64 0) := (blk_cell BK226.out 3).trans rfl; have hcz9_4 : w8.cell? ⟨gb226, 4, none⟩ = some (.int .i64 0) := (blk_cell BK226.out 4).trans rfl; have hfz9_0 := blk_frozen BK226.out 0; have hfz9_1 := blk_frozen BK226.out 1; have hfz9_2 := blk_frozen BK226.out 2; have hfz9_3 := blk_frozen BK226.out 3; have hfz9_4 := blk_frozen BK226.out 4) | ((with_reducible refine gate_callee (f := 51) rfl ?_); refine goesL_ (some 20) rfl rfl Try.func51 (by kernel_rfl) rfl #[.agg #[.int .i64 t221, .int .i64 t222, .int .i64 t223, .int .i64 t224, .int .i64 t225]] rfl (by (try simp only [mT, mC, mN]); first | done | rfl | (simp only [lDr, lTk]; rfl)) ?_; (with_reducible refine (impl_MinuteOf.calls k t221 t222 t223 t224 t225 t227 t228 _ A5.out).mono ?_); rintro e w10 ⟨rfl, hb⟩; refine ⟨_, rfl, ?_⟩; have n0_ := aM (blk_below (g := gb226) (o := .cells #[.int .i64 t221, .int .i64 t222, .int .i64 t223, .int .i64 t224, .int .i64 t225] 72 (0, 0)) (by (with_reducible repeat first | apply bN | apply bD | apply bA); refine blk_put (cs := #[.int .i64 t221, .int .i64 t222, .int .i64 t223, .int .i64 t224, .int .i64 0]) ?_ 4 _ rfl; (with_reducible repeat first | apply bN | apply bD | apply bA); refine blk_put (cs := #[.int .i64 t221, .int .i64 t222, .int .i64 t223, .int .i64 0, .int .i64 0]) ?_ 3 _ rfl; (with_reducible repeat first | apply bN | apply bD | apply bA); refine blk_put (cs := #[.int .i64 t221, .int .i64 t222, .int .i64 0, .int .i64 0, .int .i64 0]) ?_ 2 _ rfl; (with_reducible repeat first | apply bN | apply bD | apply bA); refine blk_put (cs := #[.int .i64 t221, .int .i64 0, .int .i64 0, .int .i64 0, .int .i64 0]) ?_ 1 _ rfl; (with_reducible repeat first | apply bN | apply bD | apply bA); refine blk_put (cs := #[.int .i64 0, .int .i64 0, .int .i64 0, .int .i64 0, .int .i64 0]) ?_ 0 _ rfl; (with_reducible repeat first | apply bN | apply bD | apply bA); exact BK226.out) hb); have n1_ := aM (below_step (by repeat (first | (with_reducible first | exact HB.out | apply lA | apply lN | apply lD | refine lS ?_ GE226.out) | exact HB.out)) hb); clear BK226; clear HB; have BK226 := n0_; have HB := n1_; clear n0_ n1_; (try clear hb); (try clear hb2); (try clear hk); (try clear hi)))
    (try simp only [Act.put, List.setIfInBounds_toArray, List.set_cons_zero, List.set_cons_succ])
    go_cut [32] (fun v32 wc => ∃ (kq : Nat) (x32_5 : Bool), v32 = .bool x32_5 ∧ Aside0 (laws_FnDays.j0 kq t227 t228 x32_5 t221 t222 t223 t224 t225 = some r) ∧ Aside0 (kq ≤ k) ∧ Aside0 (wc.heap[gb226]? = some (.cells #[.int .i64 t221, .int .i64 t222, .int .i64 t223, .int .i64 t224, .int .i64 t225] 72 (0, 0))) ∧ Aside0 (Below w.heap.size w wc))
    case first =>
      have H := HC6.out
      clear HC6
      replace H := Option.bind_eq_some_iff.mp H
      obtain ⟨t229, A110, H⟩ := H
      replace H : (if (t228 != t229) = true then (laws_FnDays.j0 k t227 t228 true t221 t222 t223 t224 t225) else ((impl_CivilOk.f k t221 t222 t223 t224 t225).bind fun t230 => (laws_FnDays.j0 k t227 t228 (t230 != t228) t221 t222 t223 t224 t225))) = some r := H
      have A11 := aM A110
      clear A110
      by_cases c12 : (t228 != t229) = true
      · rw [if_pos c12] at H
        have c12b0 : (t228 != t229) = true := c12
        (try (have c12b1 : decide (t228 = t229) = false := by simpa using c12))
        (try (have c12b2 : (t228 == t229) = false := by simpa using c12))
        (try (have c12b3 : ¬ (t228 = t229) := by simpa using c12))
        clear c12
        (first | rw [c12b0] | (simp only [i64_w, i32_w]; rw [c12b0]) | skip)
        have H' := aM H
        clear H
        have hcz13_0 : w10.cell? ⟨gb226, 0, none⟩ = some (.int .i64 t221) := (blk_cell BK226.out 0).trans rfl
        have hcz13_1 : w10.cell? ⟨gb226, 1, none⟩ = some (.int .i64 t222) := (blk_cell BK226.out 1).trans rfl
        have hcz13_2 : w10.cell? ⟨gb226, 2, none⟩ = some (.int .i64 t223) := (blk_cell BK226.out 2).trans rfl
        have hcz13_3 : w10.cell? ⟨gb226, 3, none⟩ = some (.int .i64 t224) := (blk_cell BK226.out 3).trans rfl
        have hcz13_4 : w10.cell? ⟨gb226, 4, none⟩ = some (.int .i64 t225) := (blk_cell BK226.out 4).trans rfl
        have hfz13_0 := blk_frozen BK226.out 0
        have hfz13_1 := blk_frozen BK226.out 1
        have hfz13_2 := blk_frozen BK226.out 2
        have hfz13_3 := blk_frozen BK226.out 3
        have hfz13_4 := blk_frozen BK226.out 4
        go_wp2_with (first | ((with_reducible refine gate_callee (f := 52) rfl ?_); refine goesL_ (some 25) rfl rfl Try.func52 (by kernel_rfl) rfl #[.agg #[.int .i64 t221, .int .i64 t222, .int .i64 t223, .int .i64 t224, .int .i64 t225]] rfl (by (try simp only [mT, mC, mN]); first | done | rfl | (simp only [lDr, lTk]; rfl)) ?_; (with_reducible refine (spec_CivilOk.calls t221 t222 t223 t224 t225 t229 _ A11.out).mono ?_); rintro e w14 ⟨rfl, hb⟩; refine ⟨_, rfl, ?_⟩; have n0_ := aM (blk_below (g := gb226) (o := .cells #[.int .i64 t221, .int .i64 t222, .int .i64 t223, .int .i64 t224, .int .i64 t225] 72 (0, 0)) (by (with_reducible repeat first | apply bN | apply bD | apply bA); exact BK226.out) hb); have n1_ := aM (below_step (by repeat (first | (with_reducible first | exact HB.out | apply lA | apply lN | apply lD | refine lS ?_ GE226.out) | exact HB.out)) hb); clear BK226; clear HB; have BK226 := n0_; have HB := n1_; clear n0_ n1_; (try clear hb); (try clear hb2); (try clear hk); (try clear hi)))
        go_meet
        case rel => exact ⟨_, (true), (by first | rfl | (simp; done) | (simp [*]; done)), H', ⟨by first | omega | exact Nat.le_refl _⟩, ⟨by (with_reducible repeat first | apply bN | apply bD | apply bA); exact BK226.out⟩, ⟨by repeat (first | (with_reducible first | exact HB.out | apply lA | apply lN | apply lD | refine lS ?_ GE226.out) | exact HB.out)⟩⟩
      · rw [if_neg c12] at H
        have c12b0 : (t228 != t229) = false := by simpa using c12
        (try (have c12b1 : decide (t228 = t229) = true := by simpa using c12))
        (try (have c12b2 : (t228 == t229) = true := by simpa using c12))
        clear c12
        (first | rw [c12b0] | (simp only [i64_w, i32_w]; rw [c12b0]) | skip)
        replace H := Option.bind_eq_some_iff.mp H
        obtain ⟨t230, A150, H⟩ := H
        replace H : (laws_FnDays.j0 k t227 t228 (t230 != t228) t221 t222 t223 t224 t225) = some r := H
        have A15 := aM A150
        clear A150
        have H' := aM H
        clear H
        have hcz16_0 : w10.cell? ⟨gb226, 0, none⟩ = some (.int .i64 t221) := (blk_cell BK226.out 0).trans rfl
        have hcz16_1 : w10.cell? ⟨gb226, 1, none⟩ = some (.int .i64 t222) := (blk_cell BK226.out 1).trans rfl
        have hcz16_2 : w10.cell? ⟨gb226, 2, none⟩ = some (.int .i64 t223) := (blk_cell BK226.out 2).trans rfl
        have hcz16_3 : w10.cell? ⟨gb226, 3, none⟩ = some (.int .i64 t224) := (blk_cell BK226.out 3).trans rfl
        have hcz16_4 : w10.cell? ⟨gb226, 4, none⟩ = some (.int .i64 t225) := (blk_cell BK226.out 4).trans rfl
        have hfz16_0 := blk_frozen BK226.out 0
        have hfz16_1 := blk_frozen BK226.out 1
        have hfz16_2 := blk_frozen BK226.out 2
        have hfz16_3 := blk_frozen BK226.out 3
        have hfz16_4 := blk_frozen BK226.out 4
        go_wp2_with (first | ((with_reducible refine gate_callee (f := 52) rfl ?_); refine goesL_ (some 25) rfl rfl Try.func52 (by kernel_rfl) rfl #[.agg #[.int .i64 t221, .int .i64 t222, .int .i64 t223, .int .i64 t224, .int .i64 t225]] rfl (by (try simp only [mT, mC, mN]); first | done | rfl | (simp only [lDr, lTk]; rfl)) ?_; (with_reducible refine (spec_CivilOk.calls t221 t222 t223 t224 t225 t229 _ A11.out).mono ?_); rintro e w17 ⟨rfl, hb⟩; refine ⟨_, rfl, ?_⟩; have n0_ := aM (blk_below (g := gb226) (o := .cells #[.int .i64 t221, .int .i64 t222, .int .i64 t223, .int .i64 t224, .int .i64 t225] 72 (0, 0)) (by (with_reducible repeat first | apply bN | apply bD | apply bA); exact BK226.out) hb); have n1_ := aM (below_step (by repeat (first | (with_reducible first | exact HB.out | apply lA | apply lN | apply lD | refine lS ?_ GE226.out) | exact HB.out)) hb); clear BK226; clear HB; have BK226 := n0_; have HB := n1_; clear n0_ n1_; (try clear hb); (try clear hb2); (try clear hk); (try clear hi); have hcz18_0 : w17.cell? ⟨gb226, 0, none⟩ = some (.int .i64 t221) := (blk_cell BK226.out 0).trans rfl; have hcz18_1 : w17.cell? ⟨gb226, 1, none⟩ = some (.int .i64 t222) := (blk_cell BK226.out 1).trans rfl; have hcz18_2 : w17.cell? ⟨gb226, 2, none⟩ = some (.int .i64 t223) := (blk_cell BK226.out 2).trans rfl; have hcz18_3 : w17.cell? ⟨gb226, 3, none⟩ = some (.int .i64 t224) := (blk_cell BK226.out 3).trans rfl; have hcz18_4 : w17.cell? ⟨gb226, 4, none⟩ = some (.int .i64 t225) := (blk_cell BK226.out 4).trans rfl; have hfz18_0 := blk_frozen BK226.out 0; have hfz18_1 := blk_frozen BK226.out 1; have hfz18_2 := blk_frozen BK226.out 2; have hfz18_3 := blk_frozen BK226.out 3; have hfz18_4 := blk_frozen BK226.out 4) | (go_at_call 53; (with_reducible refine (impl_CivilOk.calls k t221 t222 t223 t224 t225 t230 _ A15.out).mono ?_); rintro e w19 ⟨rfl, hb⟩; have n0_ := aM (blk_below (g := gb226) (o := .cells #[.int .i64 t221, .int .i64 t222, .int .i64 t223, .int .i64 t224, .int .i64 t225] 72 (0, 0)) (by (with_reducible repeat first | apply bN | apply bD | apply bA); exact BK226.out) hb); have n1_ := aM (below_step (by repeat (first | (with_reducible first | exact HB.out | apply lA | apply lN | apply lD | refine lS ?_ GE226.out) | exact HB.out)) hb); clear BK226; clear HB; have BK226 := n0_; have HB := n1_; clear n0_ n1_; (try clear hb); (try clear hb2); (try clear hk); (try clear hi)))
        go_meet
        case rel => exact ⟨_, ((t230 != t228)), (by first | rfl | (simp; done) | (simp [*]; done)), H', ⟨by first | omega | exact Nat.le_refl _⟩, ⟨by (with_reducible repeat first | apply bN | apply bD | apply bA); exact BK226.out⟩, ⟨by repeat (first | (with_reducible first | exact HB.out | apply lA | apply lN | apply lD | refine lS ?_ GE226.out) | exact HB.out)⟩⟩
    case rest =>
      clear HC6
      try clear c1
      try clear c2
      try clear p2
      try clear c3
      try clear c5
      try clear c12
      try clear c12b0
      try clear c12b1
      try clear c12b2
      try clear hcz13_0
      try clear hcz13_1
      try clear hcz13_2
      try clear hcz13_3
      try clear hcz13_4
      try clear hcz16_0
      try clear hcz16_1
      try clear hcz16_2
      try clear hcz16_3
      try clear hcz16_4
      try clear hcz18_0
      try clear hcz18_1
      try clear hcz18_2
      try clear hcz18_3
      try clear hcz18_4
      try clear hcz9_0
      try clear hcz9_1
      try clear hcz9_2
      try clear hcz9_3
      try clear hcz9_4
      try clear hfz13_0
      try clear hfz13_1
      try clear hfz13_2
      try clear hfz13_3
      try clear hfz13_4
      try clear hfz16_0
      try clear hfz16_1
      try clear hfz16_2
      try clear hfz16_3
      try clear hfz16_4
      try clear hfz18_0
      try clear hfz18_1
      try clear hfz18_2
      try clear hfz18_3
      try clear hfz18_4
      try clear hfz9_0
      try clear hfz9_1
      try clear hfz9_2
      try clear hfz9_3
      try clear hfz9_4
      obtain ⟨kq, x32_5, rfl, HA, HJ5, BK226, HB⟩ := hcut
      cases kq with
      | zero => exact absurd HA.out (by simp [laws_FnDays.j0])
      | succ kj5 =>
        have H := HA.out
        clear HA
        simp only [laws_FnDays.j0] at H
        by_cases c20 : x32_5 = true
        · subst c20
          have H1 : (none) = some r := by rw [if_pos rfl] at H; exact H
          clear H
          have H := H1
          clear H1
          exact absurd H (by simp)
        · replace c20 := Bool.eq_false_iff.mpr c20
          subst c20
          have H1 : (if t228 = true then ((impl_CivilOf.f kj5 t227).bind fun bt231 => ((impl_DaysIn.f kj5 t221 t222).bind fun t238 => (if bt231.2.2.2.2.2 = true then (if (!(bt231.1 == t221) || (!(bt231.2.1 == t222) || (!(bt231.2.2.1 == t223) || (!(bt231.2.2.2.1 == t224) || (!(bt231.2.2.2.2.1 == t225)))))) = true then (laws_FnDays.j1 kj5 t238 true t221 t222 t223 t224 t225) else (if t238 < 28 then (laws_FnDays.j1 kj5 t238 true t221 t222 t223 t224 t225) else (if t238 > 31 then (laws_FnDays.j1 kj5 t238 true t221 t222 t223 t224 t225) else (if t222 = 2 then ((impl_LeapYear.f t221).bind fun t239 => (laws_FnDays.j1 kj5 t238 ((t238 == 29) != t239) t221 t222 t223 t224 t225)) else (laws_FnDays.j1 kj5 t238 false t221 t222 t223 t224 t225))))) else (laws_FnDays.j1 kj5 t238 true t221 t222 t223 t224 t225)))) else (some (t227 == 0))) = some r := by rw [if_neg (show ¬ (false = true) by decide)] at H; exact H
          clear H
          have H := H1
          clear H1
          by_cases c21 : t228 = true
          · subst c21
            have H1 : ((impl_CivilOf.f kj5 t227).bind fun bt231 => ((impl_DaysIn.f kj5 t221 t222).bind fun t238 => (if bt231.2.2.2.2.2 = true then (if (!(bt231.1 == t221) || (!(bt231.2.1 == t222) || (!(bt231.2.2.1 == t223) || (!(bt231.2.2.2.1 == t224) || (!(bt231.2.2.2.2.1 == t225)))))) = true then (laws_FnDays.j1 kj5 t238 true t221 t222 t223 t224 t225) else (if t238 < 28 then (laws_FnDays.j1 kj5 t238 true t221 t222 t223 t224 t225) else (if t238 > 31 then (laws_FnDays.j1 kj5 t238 true t221 t222 t223 t224 t225) else (if t222 = 2 then ((impl_LeapYear.f t221).bind fun t239 => (laws_FnDays.j1 kj5 t238 ((t238 == 29) != t239) t221 t222 t223 t224 t225)) else (laws_FnDays.j1 kj5 t238 false t221 t222 t223 t224 t225))))) else (laws_FnDays.j1 kj5 t238 true t221 t222 t223 t224 t225)))) = some r := by rw [if_pos rfl] at H; exact H
            clear H
            have H := H1
            clear H1
            replace H := Option.bind_eq_some_iff.mp H
            obtain ⟨⟨t231, t232, t233, t234, t235, t236⟩, A220, H⟩ := H
            replace H : ((impl_DaysIn.f kj5 t221 t222).bind fun t238 => (if t236 = true then (if (!(t231 == t221) || (!(t232 == t222) || (!(t233 == t223) || (!(t234 == t224) || (!(t235 == t225)))))) = true then (laws_FnDays.j1 kj5 t238 true t221 t222 t223 t224 t225) else (if t238 < 28 then (laws_FnDays.j1 kj5 t238 true t221 t222 t223 t224 t225) else (if t238 > 31 then (laws_FnDays.j1 kj5 t238 true t221 t222 t223 t224 t225) else (if t222 = 2 then ((impl_LeapYear.f t221).bind fun t239 => (laws_FnDays.j1 kj5 t238 ((t238 == 29) != t239) t221 t222 t223 t224 t225)) else (laws_FnDays.j1 kj5 t238 false t221 t222 t223 t224 t225))))) else (laws_FnDays.j1 kj5 t238 true t221 t222 t223 t224 t225))) = some r := H
            have A22 := aM A220
            clear A220
            replace H := Option.bind_eq_some_iff.mp H
            obtain ⟨t238, A230, H⟩ := H
            replace H : (if t236 = true then (if (!(t231 == t221) || (!(t232 == t222) || (!(t233 == t223) || (!(t234 == t224) || (!(t235 == t225)))))) = true then (laws_FnDays.j1 kj5 t238 true t221 t222 t223 t224 t225) else (if t238 < 28 then (laws_FnDays.j1 kj5 t238 true t221 t222 t223 t224 t225) else (if t238 > 31 then (laws_FnDays.j1 kj5 t238 true t221 t222 t223 t224 t225) else (if t222 = 2 then ((impl_LeapYear.f t221).bind fun t239 => (laws_FnDays.j1 kj5 t238 ((t238 == 29) != t239) t221 t222 t223 t224 t225)) else (laws_FnDays.j1 kj5 t238 false t221 t222 t223 t224 t225))))) else (laws_FnDays.j1 kj5 t238 true t221 t222 t223 t224 t225)) = some r := H
            have A23 := aM A230
            clear A230
            have HC24 := aM H
            clear H
            go_upto_region 11 with (first | ((with_reducible refine gate_callee (f := 54) rfl ?_); refine goesL_ (some 39) rfl rfl Try.func54 (by kernel_rfl) rfl #[.int .i64 t227] rfl (by (try simp only [mT, mC, mN]); first | done | rfl | (simp only [lDr, lTk]; rfl)) ?_; (with_reducible refine (impl_CivilOf.calls kj5 t227 t231 t232 t233 t234 t235 t236 _ A22.out).mono ?_); rintro e w25 ⟨rfl, hb⟩; refine ⟨_, rfl, ?_⟩; have n0_ := aM (blk_below (g := gb226) (o := .cells #[.int .i64 t221, .int .i64 t222, .int .i64 t223, .int .i64 t224, .int .i64 t225] 72 (0, 0)) (by (with_reducible repeat first | apply bN | apply bD | apply bA); exact BK226.out) hb); have n1_ := aM (below_step (by repeat (first | (with_reducible first | exact HB.out | apply lA | apply lN | apply lD | refine lS ?_ GE226.out) | exact HB.out)) hb); clear BK226; clear HB; have BK226 := n0_; have HB := n1_; clear n0_ n1_; (try clear hb); (try clear hb2); (try clear hk); (try clear hi)) | ((with_reducible refine gate_dst (N := 6) rfl ?_); refine box_event ?hg (N := 6) ?hd (cs := #[.int .i64 0, .int .i64 0, .int .i64 0, .int .i64 0, .int .i64 0]) (t := 72) ?hr ?_; (case hd => rfl); (case hg => rfl); (case hr => first | (go_simp; done) | (go_simp; rfl)); intro gb237 hg w26 hbox hb; have n0_ := aM (blk_below (g := gb226) (o := .cells #[.int .i64 t221, .int .i64 t222, .int .i64 t223, .int .i64 t224, .int .i64 t225] 72 (0, 0)) (by (with_reducible repeat first | apply bN | apply bD | apply bA); exact BK226.out) hb); have n1_ := aM (below_step (by repeat (first | (with_reducible first | exact HB.out | apply lA | apply lN | apply lD | refine lS ?_ GE226.out) | exact HB.out)) hb); have n2_ := aM (hbox); have n3_ := aM ((by rw [hg]; exact (below_size (by repeat (first | (with_reducible first | exact HB.out | apply lA | apply lN | apply lD | refine lS ?_ GE226.out) | exact HB.out))) : w.heap.size ≤ gb237)); have n4_ := aM ((by rw [hg]; exact (below_size (by repeat (first | (with_reducible first | exact HB.out | apply lA | apply lN | apply lD | refine lS ?_ GE226.out) | exact HB.out))) : w.heap.size ≤ gb237)); have n5_ := aM ((by rw [hg]; exact Nat.ne_of_lt (blk_lt (g := gb226) (o := .cells #[.int .i64 t221, .int .i64 t222, .int .i64 t223, .int .i64 t224, .int .i64 t225] 72 (0, 0)) (by (with_reducible repeat first | apply bN | apply bD | apply bA); exact BK226.out)) : gb226 ≠ gb237)); have n6_ := aM ((by rw [hg]; exact Nat.ne_of_gt (blk_lt (g := gb226) (o := .cells #[.int .i64 t221, .int .i64 t222, .int .i64 t223, .int .i64 t224, .int .i64 t225] 72 (0, 0)) (by (with_reducible repeat first | apply bN | apply bD | apply bA); exact BK226.out)) : gb237 ≠ gb226)); clear BK226; clear HB; have BK226 := n0_; have HB := n1_; have BK237 := n2_; have GW237 := n3_; have GE237 := n4_; have NB226_237 := n5_; have NB237_226 := n6_; clear n0_ n1_ n2_ n3_ n4_ n5_ n6_; clear hb hbox hg; have hnb27 := NB237_226.out; have hnc27 := NB226_237.out; have hcz28_0 : w26.cell? ⟨gb237, 0, none⟩ = some (.int .i64 0) := (blk_cell BK237.out 0).trans rfl; have hcz28_1 : w26.cell? ⟨gb237, 1, none⟩ = some (.int .i64 0) := (blk_cell BK237.out 1).trans rfl; have hcz28_2 : w26.cell? ⟨gb237, 2, none⟩ = some (.int .i64 0) := (blk_cell BK237.out 2).trans rfl; have hcz28_3 : w26.cell? ⟨gb237, 3, none⟩ = some (.int .i64 0) := (blk_cell BK237.out 3).trans rfl; have hcz28_4 : w26.cell? ⟨gb237, 4, none⟩ = some (.int .i64 0) := (blk_cell BK237.out 4).trans rfl; have hfz28_0 := blk_frozen BK237.out 0; have hfz28_1 := blk_frozen BK237.out 1; have hfz28_2 := blk_frozen BK237.out 2; have hfz28_3 := blk_frozen BK237.out 3; have hfz28_4 := blk_frozen BK237.out 4; have hcz29_0 : w26.cell? ⟨gb226, 0, none⟩ = some (.int .i64 t221) := (blk_cell BK226.out 0).trans rfl; have hcz29_1 : w26.cell? ⟨gb226, 1, none⟩ = some (.int .i64 t222) := (blk_cell BK226.out 1).trans rfl; have hcz29_2 : w26.cell? ⟨gb226, 2, none⟩ = some (.int .i64 t223) := (blk_cell BK226.out 2).trans rfl; have hcz29_3 : w26.cell? ⟨gb226, 3, none⟩ = some (.int .i64 t224) := (blk_cell BK226.out 3).trans rfl; have hcz29_4 : w26.cell? ⟨gb226, 4, none⟩ = some (.int .i64 t225) := (blk_cell BK226.out 4).trans rfl; have hfz29_0 := blk_frozen BK226.out 0; have hfz29_1 := blk_frozen BK226.out 1; have hfz29_2 := blk_frozen BK226.out 2; have hfz29_3 := blk_frozen BK226.out 3; have hfz29_4 := blk_frozen BK226.out 4) | ((with_reducible refine gate_callee (f := 55) rfl ?_); refine goesL_ (some 46) rfl rfl Try.func55 (by kernel_rfl) rfl #[.int .i64 t221, .int .i64 t222] rfl (by (try simp only [mT, mC, mN]); first | done | rfl | (simp only [lDr, lTk]; rfl)) ?_; (with_reducible refine (impl_DaysIn.calls kj5 t221 t222 t238 _ A23.out).mono ?_); rintro e w' ⟨rfl, ⟨nd, rfl⟩⟩; refine ⟨_, rfl, ?_⟩))
            (try simp only [Act.put, List.setIfInBounds_toArray, List.set_cons_zero, List.set_cons_succ])
            go_cut [74] (fun v74 wc => ∃ (kq : Nat) (x74_23 : Bool), v74 = .bool x74_23 ∧ Aside0 (laws_FnDays.j1 kq t238 x74_23 t221 t222 t223 t224 t225 = some r) ∧ Aside0 (kq ≤ kj5) ∧ Aside0 (wc.heap[gb226]? = some (.cells #[.int .i64 t221, .int .i64 t222, .int .i64 t223, .int .i64 t224, .int .i64 t225] 72 (0, 0))) ∧ Aside0 (wc.heap[gb237]? = some (.cells #[.int .i64 t231, .int .i64 t232, .int .i64 t233, .int .i64 t234, .int .i64 t235] 72 (0, 0))) ∧ Aside0 (Below w.heap.size w wc))
            case first =>
              have H := HC24.out
              clear HC24
              refine Classical.byCases (p := t236 = true) (fun c30 => ?L1p) (fun c30 => ?L1n)
              case' L1p =>
                subst c30
                have H1 : (if (!(t231 == t221) || (!(t232 == t222) || (!(t233 == t223) || (!(t234 == t224) || (!(t235 == t225)))))) = true then (laws_FnDays.j1 kj5 t238 true t221 t222 t223 t224 t225) else (if t238 < 28 then (laws_FnDays.j1 kj5 t238 true t221 t222 t223 t224 t225) else (if t238 > 31 then (laws_FnDays.j1 kj5 t238 true t221 t222 t223 t224 t225) else (if t222 = 2 then ((impl_LeapYear.f t221).bind fun t239 => (laws_FnDays.j1 kj5 t238 ((t238 == 29) != t239) t221 t222 t223 t224 t225)) else (laws_FnDays.j1 kj5 t238 false t221 t222 t223 t224 t225))))) = some r := by rw [if_pos rfl] at H; exact H
                clear H
                have H := H1
                clear H1
                refine Classical.byCases (p := (!(t231 == t221) || (!(t232 == t222) || (!(t233 == t223) || (!(t234 == t224) || (!(t235 == t225)))))) = true) (fun c31 => ?L2p) (fun c31 => ?L2n)
                case' L2p =>
                  rw [if_pos c31] at H
                  have c31b0 : (!(t231 == t221) || (!(t232 == t222) || (!(t233 == t223) || (!(t234 == t224) || (!(t235 == t225)))))) = true := c31
                  clear c31
                  (first | rw [c31b0] | (simp only [i64_w, i32_w]; rw [c31b0]) | skip)
                  have H' := aM H
                  clear H
                  have hnb32 := NB237_226.out
                  have hnc32 := NB226_237.out
                  have hcz33_0 : w26.cell? ⟨gb237, 0, none⟩ = some (.int .i64 0) := (blk_cell BK237.out 0).trans rfl
                  have hcz33_1 : w26.cell? ⟨gb237, 1, none⟩ = some (.int .i64 0) := (blk_cell BK237.out 1).trans rfl
                  have hcz33_2 : w26.cell? ⟨gb237, 2, none⟩ = some (.int .i64 0) := (blk_cell BK237.out 2).trans rfl
                  have hcz33_3 : w26.cell? ⟨gb237, 3, none⟩ = some (.int .i64 0) := (blk_cell BK237.out 3).trans rfl
                  have hcz33_4 : w26.cell? ⟨gb237, 4, none⟩ = some (.int .i64 0) := (blk_cell BK237.out 4).trans rfl
                  have hfz33_0 := blk_frozen BK237.out 0
                  have hfz33_1 := blk_frozen BK237.out 1
                  have hfz33_2 := blk_frozen BK237.out 2
                  have hfz33_3 := blk_frozen BK237.out 3
                  have hfz33_4 := blk_frozen BK237.out 4
                  have hcz34_0 : w26.cell? ⟨gb226, 0, none⟩ = some (.int .i64 t221) := (blk_cell BK226.out 0).trans rfl
                  have hcz34_1 : w26.cell? ⟨gb226, 1, none⟩ = some (.int .i64 t222) := (blk_cell BK226.out 1).trans rfl
                  have hcz34_2 : w26.cell? ⟨gb226, 2, none⟩ = some (.int .i64 t223) := (blk_cell BK226.out 2).trans rfl
                  have hcz34_3 : w26.cell? ⟨gb226, 3, none⟩ = some (.int .i64 t224) := (blk_cell BK226.out 3).trans rfl
                  have hcz34_4 : w26.cell? ⟨gb226, 4, none⟩ = some (.int .i64 t225) := (blk_cell BK226.out 4).trans rfl
                  have hfz34_0 := blk_frozen BK226.out 0
                  have hfz34_1 := blk_frozen BK226.out 1
                  have hfz34_2 := blk_frozen BK226.out 2
                  have hfz34_3 := blk_frozen BK226.out 3
                  have hfz34_4 := blk_frozen BK226.out 4
                case' L2n =>
                  rw [if_neg c31] at H
                  have c31b0 : (!(t231 == t221) || (!(t232 == t222) || (!(t233 == t223) || (!(t234 == t224) || (!(t235 == t225)))))) = false := by simpa using c31
                  clear c31
                  (first | rw [c31b0] | (simp only [i64_w, i32_w]; rw [c31b0]) | skip)
                  refine Classical.byCases (p := t238 < 28) (fun c35 => ?L3p) (fun c35 => ?L3n)
                  case' L3p =>
                    rw [if_pos c35] at H
                    have c35b0 : decide (t238 < 28) = true := decide_eq_true c35
                    clear c35
                    have H' := aM H
                    clear H
                    have hnb36 := NB237_226.out
                    have hnc36 := NB226_237.out
                    have hcz37_0 : w26.cell? ⟨gb237, 0, none⟩ = some (.int .i64 0) := (blk_cell BK237.out 0).trans rfl
                    have hcz37_1 : w26.cell? ⟨gb237, 1, none⟩ = some (.int .i64 0) := (blk_cell BK237.out 1).trans rfl
                    have hcz37_2 : w26.cell? ⟨gb237, 2, none⟩ = some (.int .i64 0) := (blk_cell BK237.out 2).trans rfl
                    have hcz37_3 : w26.cell? ⟨gb237, 3, none⟩ = some (.int .i64 0) := (blk_cell BK237.out 3).trans rfl
                    have hcz37_4 : w26.cell? ⟨gb237, 4, none⟩ = some (.int .i64 0) := (blk_cell BK237.out 4).trans rfl
                    have hfz37_0 := blk_frozen BK237.out 0
                    have hfz37_1 := blk_frozen BK237.out 1
                    have hfz37_2 := blk_frozen BK237.out 2
                    have hfz37_3 := blk_frozen BK237.out 3
                    have hfz37_4 := blk_frozen BK237.out 4
                    have hcz38_0 : w26.cell? ⟨gb226, 0, none⟩ = some (.int .i64 t221) := (blk_cell BK226.out 0).trans rfl
                    have hcz38_1 : w26.cell? ⟨gb226, 1, none⟩ = some (.int .i64 t222) := (blk_cell BK226.out 1).trans rfl
                    have hcz38_2 : w26.cell? ⟨gb226, 2, none⟩ = some (.int .i64 t223) := (blk_cell BK226.out 2).trans rfl
                    have hcz38_3 : w26.cell? ⟨gb226, 3, none⟩ = some (.int .i64 t224) := (blk_cell BK226.out 3).trans rfl
                    have hcz38_4 : w26.cell? ⟨gb226, 4, none⟩ = some (.int .i64 t225) := (blk_cell BK226.out 4).trans rfl
                    have hfz38_0 := blk_frozen BK226.out 0
                    have hfz38_1 := blk_frozen BK226.out 1
                    have hfz38_2 := blk_frozen BK226.out 2
                    have hfz38_3 := blk_frozen BK226.out 3
                    have hfz38_4 := blk_frozen BK226.out 4
                  case' L3n =>
                    rw [if_neg c35] at H
                    have c35b0 : decide (t238 < 28) = false := decide_eq_false c35
                    clear c35
                    refine Classical.byCases (p := t238 > 31) (fun c39 => ?L4p) (fun c39 => ?L4n)
                    case' L4p =>
                      rw [if_pos c39] at H
                      have c39b0 : decide (31 < t238) = true := decide_eq_true c39
                      clear c39
                      have H' := aM H
                      clear H
                      have hnb40 := NB237_226.out
                      have hnc40 := NB226_237.out
                      have hcz41_0 : w26.cell? ⟨gb237, 0, none⟩ = some (.int .i64 0) := (blk_cell BK237.out 0).trans rfl
                      have hcz41_1 : w26.cell? ⟨gb237, 1, none⟩ = some (.int .i64 0) := (blk_cell BK237.out 1).trans rfl
                      have hcz41_2 : w26.cell? ⟨gb237, 2, none⟩ = some (.int .i64 0) := (blk_cell BK237.out 2).trans rfl
                      have hcz41_3 : w26.cell? ⟨gb237, 3, none⟩ = some (.int .i64 0) := (blk_cell BK237.out 3).trans rfl
                      have hcz41_4 : w26.cell? ⟨gb237, 4, none⟩ = some (.int .i64 0) := (blk_cell BK237.out 4).trans rfl
                      have hfz41_0 := blk_frozen BK237.out 0
                      have hfz41_1 := blk_frozen BK237.out 1
                      have hfz41_2 := blk_frozen BK237.out 2
                      have hfz41_3 := blk_frozen BK237.out 3
                      have hfz41_4 := blk_frozen BK237.out 4
                      have hcz42_0 : w26.cell? ⟨gb226, 0, none⟩ = some (.int .i64 t221) := (blk_cell BK226.out 0).trans rfl
                      have hcz42_1 : w26.cell? ⟨gb226, 1, none⟩ = some (.int .i64 t222) := (blk_cell BK226.out 1).trans rfl
                      have hcz42_2 : w26.cell? ⟨gb226, 2, none⟩ = some (.int .i64 t223) := (blk_cell BK226.out 2).trans rfl
                      have hcz42_3 : w26.cell? ⟨gb226, 3, none⟩ = some (.int .i64 t224) := (blk_cell BK226.out 3).trans rfl
                      have hcz42_4 : w26.cell? ⟨gb226, 4, none⟩ = some (.int .i64 t225) := (blk_cell BK226.out 4).trans rfl
                      have hfz42_0 := blk_frozen BK226.out 0
                      have hfz42_1 := blk_frozen BK226.out 1
                      have hfz42_2 := blk_frozen BK226.out 2
                      have hfz42_3 := blk_frozen BK226.out 3
                      have hfz42_4 := blk_frozen BK226.out 4
                    case' L4n =>
                      rw [if_neg c39] at H
                      have c39b0 : decide (31 < t238) = false := decide_eq_false c39
                      clear c39
                      refine Classical.byCases (p := t222 = 2) (fun c43 => ?L5p) (fun c43 => ?L5n)
                      case' L5p =>
                        rw [if_pos c43] at H
                        have c43b0 : (t222 == 2) = true := beq_iff_eq.mpr c43
                        have c43b1 : (t222 != 2) = false := bne_eq_false_iff_eq.mpr c43
                        clear c43
                        replace H := Option.bind_eq_some_iff.mp H
                        obtain ⟨t239, A440, H⟩ := H
                        replace H : (laws_FnDays.j1 kj5 t238 ((t238 == 29) != t239) t221 t222 t223 t224 t225) = some r := H
                        have A44 := aM A440
                        clear A440
                        have H' := aM H
                        clear H
                        have hnb45 := NB237_226.out
                        have hnc45 := NB226_237.out
                        have hcz46_0 : w26.cell? ⟨gb237, 0, none⟩ = some (.int .i64 0) := (blk_cell BK237.out 0).trans rfl
                        have hcz46_1 : w26.cell? ⟨gb237, 1, none⟩ = some (.int .i64 0) := (blk_cell BK237.out 1).trans rfl
                        have hcz46_2 : w26.cell? ⟨gb237, 2, none⟩ = some (.int .i64 0) := (blk_cell BK237.out 2).trans rfl
                        have hcz46_3 : w26.cell? ⟨gb237, 3, none⟩ = some (.int .i64 0) := (blk_cell BK237.out 3).trans rfl
                        have hcz46_4 : w26.cell? ⟨gb237, 4, none⟩ = some (.int .i64 0) := (blk_cell BK237.out 4).trans rfl
                        have hfz46_0 := blk_frozen BK237.out 0
                        have hfz46_1 := blk_frozen BK237.out 1
                        have hfz46_2 := blk_frozen BK237.out 2
                        have hfz46_3 := blk_frozen BK237.out 3
                        have hfz46_4 := blk_frozen BK237.out 4
                        have hcz47_0 : w26.cell? ⟨gb226, 0, none⟩ = some (.int .i64 t221) := (blk_cell BK226.out 0).trans rfl
                        have hcz47_1 : w26.cell? ⟨gb226, 1, none⟩ = some (.int .i64 t222) := (blk_cell BK226.out 1).trans rfl
                        have hcz47_2 : w26.cell? ⟨gb226, 2, none⟩ = some (.int .i64 t223) := (blk_cell BK226.out 2).trans rfl
                        have hcz47_3 : w26.cell? ⟨gb226, 3, none⟩ = some (.int .i64 t224) := (blk_cell BK226.out 3).trans rfl
                        have hcz47_4 : w26.cell? ⟨gb226, 4, none⟩ = some (.int .i64 t225) := (blk_cell BK226.out 4).trans rfl
                        have hfz47_0 := blk_frozen BK226.out 0
                        have hfz47_1 := blk_frozen BK226.out 1
                        have hfz47_2 := blk_frozen BK226.out 2
                        have hfz47_3 := blk_frozen BK226.out 3
                        have hfz47_4 := blk_frozen BK226.out 4
                        go_wp2_with (first | (go_at_call 56; (with_reducible refine (impl_LeapYear.calls t221 t239 _ A44.out).mono ?_); rintro e w' ⟨rfl, ⟨nd, rfl⟩⟩))
                        go_meet
                        case rel => exact ⟨_, (((t238 == 29) != t239)), (by first | rfl | (simp; done) | (simp [*]; done)), H', ⟨by have := HJ5.out; first | omega | exact Nat.le_refl _⟩, ⟨by (with_reducible repeat first | apply bN | apply bD | apply bA); refine blk_far ?_ NB226_237.out _; (with_reducible repeat first | apply bN | apply bD | apply bA); refine blk_far ?_ NB226_237.out _; (with_reducible repeat first | apply bN | apply bD | apply bA); refine blk_far ?_ NB226_237.out _; (with_reducible repeat first | apply bN | apply bD | apply bA); refine blk_far ?_ NB226_237.out _; (with_reducible repeat first | apply bN | apply bD | apply bA); refine blk_far ?_ NB226_237.out _; (with_reducible repeat first | apply bN | apply bD | apply bA); exact BK226.out⟩, ⟨by (with_reducible repeat first | apply bN | apply bD | apply bA); refine blk_put (cs := #[.int .i64 t231, .int .i64 t232, .int .i64 t233, .int .i64 t234, .int .i64 0]) ?_ 4 _ rfl; (with_reducible repeat first | apply bN | apply bD | apply bA); refine blk_put (cs := #[.int .i64 t231, .int .i64 t232, .int .i64 t233, .int .i64 0, .int .i64 0]) ?_ 3 _ rfl; (with_reducible repeat first | apply bN | apply bD | apply bA); refine blk_put (cs := #[.int .i64 t231, .int .i64 t232, .int .i64 0, .int .i64 0, .int .i64 0]) ?_ 2 _ rfl; (with_reducible repeat first | apply bN | apply bD | apply bA); refine blk_put (cs := #[.int .i64 t231, .int .i64 0, .int .i64 0, .int .i64 0, .int .i64 0]) ?_ 1 _ rfl; (with_reducible repeat first | apply bN | apply bD | apply bA); refine blk_put (cs := #[.int .i64 0, .int .i64 0, .int .i64 0, .int .i64 0, .int .i64 0]) ?_ 0 _ rfl; (with_reducible repeat first | apply bN | apply bD | apply bA); exact BK237.out⟩, ⟨by repeat (first | (with_reducible first | exact HB.out | apply lA | apply lN | apply lD | refine lS ?_ GE226.out | refine lS ?_ GE237.out) | exact HB.out)⟩⟩
                      case' L5n =>
                        rw [if_neg c43] at H
                        have c43b0 : (t222 == 2) = false := beq_eq_false_iff_ne.mpr c43
                        have c43b1 : (t222 != 2) = true := bne_iff_ne.mpr c43
                        have H' := aM H
                        clear H
                        have hnb48 := NB237_226.out
                        have hnc48 := NB226_237.out
                        have hcz49_0 : w26.cell? ⟨gb237, 0, none⟩ = some (.int .i64 0) := (blk_cell BK237.out 0).trans rfl
                        have hcz49_1 : w26.cell? ⟨gb237, 1, none⟩ = some (.int .i64 0) := (blk_cell BK237.out 1).trans rfl
                        have hcz49_2 : w26.cell? ⟨gb237, 2, none⟩ = some (.int .i64 0) := (blk_cell BK237.out 2).trans rfl
                        have hcz49_3 : w26.cell? ⟨gb237, 3, none⟩ = some (.int .i64 0) := (blk_cell BK237.out 3).trans rfl
                        have hcz49_4 : w26.cell? ⟨gb237, 4, none⟩ = some (.int .i64 0) := (blk_cell BK237.out 4).trans rfl
                        have hfz49_0 := blk_frozen BK237.out 0
                        have hfz49_1 := blk_frozen BK237.out 1
                        have hfz49_2 := blk_frozen BK237.out 2
                        have hfz49_3 := blk_frozen BK237.out 3
                        have hfz49_4 := blk_frozen BK237.out 4
                        have hcz50_0 : w26.cell? ⟨gb226, 0, none⟩ = some (.int .i64 t221) := (blk_cell BK226.out 0).trans rfl
                        have hcz50_1 : w26.cell? ⟨gb226, 1, none⟩ = some (.int .i64 t222) := (blk_cell BK226.out 1).trans rfl
                        have hcz50_2 : w26.cell? ⟨gb226, 2, none⟩ = some (.int .i64 t223) := (blk_cell BK226.out 2).trans rfl
                        have hcz50_3 : w26.cell? ⟨gb226, 3, none⟩ = some (.int .i64 t224) := (blk_cell BK226.out 3).trans rfl
                        have hcz50_4 : w26.cell? ⟨gb226, 4, none⟩ = some (.int .i64 t225) := (blk_cell BK226.out 4).trans rfl
                        have hfz50_0 := blk_frozen BK226.out 0
                        have hfz50_1 := blk_frozen BK226.out 1
                        have hfz50_2 := blk_frozen BK226.out 2
                        have hfz50_3 := blk_frozen BK226.out 3
                        have hfz50_4 := blk_frozen BK226.out 4
              case' L1n =>
                replace c30 := Bool.eq_false_iff.mpr c30
                subst c30
                have H1 : (laws_FnDays.j1 kj5 t238 true t221 t222 t223 t224 t225) = some r := by rw [if_neg (show ¬ (false = true) by decide)] at H; exact H
                clear H
                have H := H1
                clear H1
                have H' := aM H
                clear H
              case L2p | L3p | L4p | L4n | L1n =>
                go_wp2
                go_meet
                case rel => exact ⟨_, (_), (by first | rfl | (simp; done) | (simp [*]; done)), H', ⟨by have := HJ5.out; first | omega | exact Nat.le_refl _⟩, ⟨by (with_reducible repeat first | apply bN | apply bD | apply bA); refine blk_far ?_ NB226_237.out _; (with_reducible repeat first | apply bN | apply bD | apply bA); refine blk_far ?_ NB226_237.out _; (with_reducible repeat first | apply bN | apply bD | apply bA); refine blk_far ?_ NB226_237.out _; (with_reducible repeat first | apply bN | apply bD | apply bA); refine blk_far ?_ NB226_237.out _; (with_reducible repeat first | apply bN | apply bD | apply bA); refine blk_far ?_ NB226_237.out _; (with_reducible repeat first | apply bN | apply bD | apply bA); exact BK226.out⟩, ⟨by (with_reducible repeat first | apply bN | apply bD | apply bA); refine blk_put (cs := #[.int .i64 t231, .int .i64 t232, .int .i64 t233, .int .i64 t234, .int .i64 0]) ?_ 4 _ rfl; (with_reducible repeat first | apply bN | apply bD | apply bA); refine blk_put (cs := #[.int .i64 t231, .int .i64 t232, .int .i64 t233, .int .i64 0, .int .i64 0]) ?_ 3 _ rfl; (with_reducible repeat first | apply bN | apply bD | apply bA); refine blk_put (cs := #[.int .i64 t231, .int .i64 t232, .int .i64 0, .int .i64 0, .int .i64 0]) ?_ 2 _ rfl; (with_reducible repeat first | apply bN | apply bD | apply bA); refine blk_put (cs := #[.int .i64 t231, .int .i64 0, .int .i64 0, .int .i64 0, .int .i64 0]) ?_ 1 _ rfl; (with_reducible repeat first | apply bN | apply bD | apply bA); refine blk_put (cs := #[.int .i64 0, .int .i64 0, .int .i64 0, .int .i64 0, .int .i64 0]) ?_ 0 _ rfl; (with_reducible repeat first | apply bN | apply bD | apply bA); exact BK237.out⟩, ⟨by repeat (first | (with_reducible first | exact HB.out | apply lA | apply lN | apply lD | refine lS ?_ GE226.out | refine lS ?_ GE237.out) | exact HB.out)⟩⟩
            case rest =>
              clear HC24
              try clear c1
              try clear c2
              try clear p2
              try clear c3
              try clear c4
              try clear c5
              try clear c12
              try clear c12b0
              try clear c12b1
              try clear c12b2
              try clear c20
              try clear c21
              try clear c24
              try clear c27
              try clear c30
              try clear c31
              try clear c31b0
              try clear c32
              try clear c35
              try clear c35b0
              try clear c36
              try clear c39
              try clear c39b0
              try clear c40
              try clear c43
              try clear c43b0
              try clear c43b1
              try clear c45
              try clear c48
              try clear c50
              try clear hcz13_0
              try clear hcz13_1
              try clear hcz13_2
              try clear hcz13_3
              try clear hcz13_4
              try clear hcz16_0
              try clear hcz16_1
              try clear hcz16_2
              try clear hcz16_3
              try clear hcz16_4
              try clear hcz18_0
              try clear hcz18_1
              try clear hcz18_2
              try clear hcz18_3
              try clear hcz18_4
              try clear hcz28_0
              try clear hcz28_1
              try clear hcz28_2
              try clear hcz28_3
              try clear hcz28_4
              try clear hcz29_0
              try clear hcz29_1
              try clear hcz29_2
              try clear hcz29_3
              try clear hcz29_4
              try clear hcz33_0
              try clear hcz33_1
              try clear hcz33_2
              try clear hcz33_3
              try clear hcz33_4
              try clear hcz34_0
              try clear hcz34_1
              try clear hcz34_2
              try clear hcz34_3
              try clear hcz34_4
              try clear hcz37_0
              try clear hcz37_1
              try clear hcz37_2
              try clear hcz37_3
              try clear hcz37_4
              try clear hcz38_0
              try clear hcz38_1
              try clear hcz38_2
              try clear hcz38_3
              try clear hcz38_4
              try clear hcz41_0
              try clear hcz41_1
              try clear hcz41_2
              try clear hcz41_3
              try clear hcz41_4
              try clear hcz42_0
              try clear hcz42_1
              try clear hcz42_2
              try clear hcz42_3
              try clear hcz42_4
              try clear hcz46_0
              try clear hcz46_1
              try clear hcz46_2
              try clear hcz46_3
              try clear hcz46_4
              try clear hcz47_0
              try clear hcz47_1
              try clear hcz47_2
              try clear hcz47_3
              try clear hcz47_4
              try clear hcz49_0
              try clear hcz49_1
              try clear hcz49_2
              try clear hcz49_3
              try clear hcz49_4
              try clear hcz50_0
              try clear hcz50_1
              try clear hcz50_2
              try clear hcz50_3
              try clear hcz50_4
              try clear hcz9_0
              try clear hcz9_1
              try clear hcz9_2
              try clear hcz9_3
              try clear hcz9_4
              try clear hfz13_0
              try clear hfz13_1
              try clear hfz13_2
              try clear hfz13_3
              try clear hfz13_4
              try clear hfz16_0
              try clear hfz16_1
              try clear hfz16_2
              try clear hfz16_3
              try clear hfz16_4
              try clear hfz18_0
              try clear hfz18_1
              try clear hfz18_2
              try clear hfz18_3
              try clear hfz18_4
              try clear hfz28_0
              try clear hfz28_1
              try clear hfz28_2
              try clear hfz28_3
              try clear hfz28_4
              try clear hfz29_0
              try clear hfz29_1
              try clear hfz29_2
              try clear hfz29_3
              try clear hfz29_4
              try clear hfz33_0
              try clear hfz33_1
              try clear hfz33_2
              try clear hfz33_3
              try clear hfz33_4
              try clear hfz34_0
              try clear hfz34_1
              try clear hfz34_2
              try clear hfz34_3
              try clear hfz34_4
              try clear hfz37_0
              try clear hfz37_1
              try clear hfz37_2
              try clear hfz37_3
              try clear hfz37_4
              try clear hfz38_0
              try clear hfz38_1
              try clear hfz38_2
              try clear hfz38_3
              try clear hfz38_4
              try clear hfz41_0
              try clear hfz41_1
              try clear hfz41_2
              try clear hfz41_3
              try clear hfz41_4
              try clear hfz42_0
              try clear hfz42_1
              try clear hfz42_2
              try clear hfz42_3
              try clear hfz42_4
              try clear hfz46_0
              try clear hfz46_1
              try clear hfz46_2
              try clear hfz46_3
              try clear hfz46_4
              try clear hfz47_0
              try clear hfz47_1
              try clear hfz47_2
              try clear hfz47_3
              try clear hfz47_4
              try clear hfz49_0
              try clear hfz49_1
              try clear hfz49_2
              try clear hfz49_3
              try clear hfz49_4
              try clear hfz50_0
              try clear hfz50_1
              try clear hfz50_2
              try clear hfz50_3
              try clear hfz50_4
              try clear hfz9_0
              try clear hfz9_1
              try clear hfz9_2
              try clear hfz9_3
              try clear hfz9_4
              try clear p2
              obtain ⟨kq, x74_23, rfl, HA, HJ23, BK226, BK237, HB⟩ := hcut
              cases kq with
              | zero => exact absurd HA.out (by simp [laws_FnDays.j1])
              | succ kj23 =>
                have H := HA.out
                clear HA
                simp only [laws_FnDays.j1] at H
                refine Classical.byCases (p := x74_23 = true) (fun c51 => ?L6p) (fun c51 => ?L6n)
                case' L6p =>
                  subst c51
                  have H1 : (none) = some r := by rw [if_pos rfl] at H; exact H
                  clear H
                  have H := H1
                  clear H1
                  exact absurd H (by simp)
                case' L6n =>
                  replace c51 := Bool.eq_false_iff.mpr c51
                  subst c51
                  have H1 : (if (wrap64 ((Int.tmod t222 12) + 1)) = 1 then ((impl_MinuteOf.f kj23 (wrap64 (t221 + 1)) (wrap64 ((Int.tmod t222 12) + 1)) 1 t224 t225).bind fun bt241 => ((impl_MinuteOf.f kj23 t221 t222 t238 t224 t225).bind fun bt243 => (if bt241.2 = true then (if bt241.1 = (wrap64 (bt243.1 + 1440)) then ((impl_DaysIn.f kj23 t221 13).bind fun t245 => (some (t245 == 0))) else (none)) else (if (wrap64 (t221 + 1)) = 2100 then ((impl_DaysIn.f kj23 t221 13).bind fun t246 => (some (t246 == 0))) else (if bt241.1 = (wrap64 (bt243.1 + 1440)) then ((impl_DaysIn.f kj23 t221 13).bind fun t246 => (some (t246 == 0))) else (none)))))) else ((impl_MinuteOf.f kj23 t221 (wrap64 ((Int.tmod t222 12) + 1)) 1 t224 t225).bind fun bt248 => ((impl_MinuteOf.f kj23 t221 t222 t238 t224 t225).bind fun bt250 => (if bt248.2 = true then (if bt248.1 = (wrap64 (bt250.1 + 1440)) then ((impl_DaysIn.f kj23 t221 13).bind fun t252 => (some (t252 == 0))) else (none)) else (if t221 = 2100 then ((impl_DaysIn.f kj23 t221 13).bind fun t253 => (some (t253 == 0))) else (if bt248.1 = (wrap64 (bt250.1 + 1440)) then ((impl_DaysIn.f kj23 t221 13).bind fun t253 => (some (t253 == 0))) else (none))))))) = some r := by rw [if_neg (show ¬ (false = true) by decide)] at H; exact H
                  clear H
                  have H := H1
                  clear H1
                  refine Classical.byCases (p := (wrap64 ((Int.tmod t222 12) + 1)) = 1) (fun c52 => ?L7p) (fun c52 => ?L7n)
                  case' L7p =>
                    rw [if_pos c52] at H
                    have c52b0 : ((wrap64 ((Int.tmod t222 12) + 1)) == 1) = true := beq_iff_eq.mpr c52
                    have c52b1 : ((wrap64 ((Int.tmod t222 12) + 1)) != 1) = false := bne_eq_false_iff_eq.mpr c52
                    clear c52
                    replace H := Option.bind_eq_some_iff.mp H
                    obtain ⟨⟨t241, t242⟩, A530, H⟩ := H
                    replace H : ((impl_MinuteOf.f kj23 t221 t222 t238 t224 t225).bind fun bt243 => (if t242 = true then (if t241 = (wrap64 (bt243.1 + 1440)) then ((impl_DaysIn.f kj23 t221 13).bind fun t245 => (some (t245 == 0))) else (none)) else (if (wrap64 (t221 + 1)) = 2100 then ((impl_DaysIn.f kj23 t221 13).bind fun t246 => (some (t246 == 0))) else (if t241 = (wrap64 (bt243.1 + 1440)) then ((impl_DaysIn.f kj23 t221 13).bind fun t246 => (some (t246 == 0))) else (none))))) = some r := H
                    have A53 := aM A530
                    clear A530
                    replace H := Option.bind_eq_some_iff.mp H
                    obtain ⟨⟨t243, t244⟩, A540, H⟩ := H
                    replace H : (if t242 = true then (if t241 = (wrap64 (t243 + 1440)) then ((impl_DaysIn.f kj23 t221 13).bind fun t245 => (some (t245 == 0))) else (none)) else (if (wrap64 (t221 + 1)) = 2100 then ((impl_DaysIn.f kj23 t221 13).bind fun t246 => (some (t246 == 0))) else (if t241 = (wrap64 (t243 + 1440)) then ((impl_DaysIn.f kj23 t221 13).bind fun t246 => (some (t246 == 0))) else (none)))) = some r := H
                    have A54 := aM A540
                    clear A540
                    refine Classical.byCases (p := t242 = true) (fun c55 => ?L8p) (fun c55 => ?L8n)
                    case' L8p =>
                      subst c55
                      have H1 : (if t241 = (wrap64 (t243 + 1440)) then ((impl_DaysIn.f kj23 t221 13).bind fun t245 => (some (t245 == 0))) else (none)) = some r := by rw [if_pos rfl] at H; exact H
                      clear H
                      have H := H1
                      clear H1
                      by_cases c56 : t241 = (wrap64 (t243 + 1440))
                      · rw [if_pos c56] at H
                        have c56b0 : (t241 == (wrap64 (t243 + 1440))) = true := beq_iff_eq.mpr c56
                        have c56b1 : (t241 != (wrap64 (t243 + 1440))) = false := bne_eq_false_iff_eq.mpr c56
                        clear c56
                        replace H := Option.bind_eq_some_iff.mp H
                        obtain ⟨t245, A570, H⟩ := H
                        replace H : (some (t245 == 0)) = some r := H
                        have A57 := aM A570
                        clear A570
                        obtain rfl := Option.some.inj H
                        have hnb58 := NB226_237.out
                        have hnc58 := NB237_226.out
                        have hcz59_0 : wc.cell? ⟨gb226, 0, none⟩ = some (.int .i64 t221) := (blk_cell BK226.out 0).trans rfl
                        have hcz59_1 : wc.cell? ⟨gb226, 1, none⟩ = some (.int .i64 t222) := (blk_cell BK226.out 1).trans rfl
                        have hcz59_2 : wc.cell? ⟨gb226, 2, none⟩ = some (.int .i64 t223) := (blk_cell BK226.out 2).trans rfl
                        have hcz59_3 : wc.cell? ⟨gb226, 3, none⟩ = some (.int .i64 t224) := (blk_cell BK226.out 3).trans rfl
                        have hcz59_4 : wc.cell? ⟨gb226, 4, none⟩ = some (.int .i64 t225) := (blk_cell BK226.out 4).trans rfl
                        have hfz59_0 := blk_frozen BK226.out 0
                        have hfz59_1 := blk_frozen BK226.out 1
                        have hfz59_2 := blk_frozen BK226.out 2
                        have hfz59_3 := blk_frozen BK226.out 3
                        have hfz59_4 := blk_frozen BK226.out 4
                        go_wp2_with (first | (with_reducible refine toset ?_; intro wS eS; (try clear hc226_0); (try clear hc226_1); (try clear hc226_2); (try clear hc226_3); (try clear hc226_4); (try clear hc240_0); (try clear hc240_1); (try clear hc240_2); (try clear hc240_3); (try clear hc240_4); (try clear hf226_0); (try clear hf226_1); (try clear hf226_2); (try clear hf226_3); (try clear hf226_4); (try clear hf240_0); (try clear hf240_1); (try clear hf240_2); (try clear hf240_3); (try clear hf240_4); have n0_ := aM (show wS.heap[gb226]? = some (.cells #[.int .i64 t221, .int .i64 t222, .int .i64 t223, .int .i64 t224, .int .i64 t225] 72 (0, 0)) by (rw [eS]; (with_reducible repeat first | apply bN | apply bD | apply bA | refine blk_far ?_ NB226_240.out _); with_reducible exact BK226.out)); have n1_ := aM (show wS.heap[gb237]? = some (.cells #[.int .i64 t231, .int .i64 t232, .int .i64 t233, .int .i64 t234, .int .i64 t235] 72 (0, 0)) by (rw [eS]; (with_reducible repeat first | apply bN | apply bD | apply bA | refine blk_far ?_ NB237_240.out _); with_reducible exact BK237.out)); have n2_ := aM (show wS.heap[gb240]? = some (.cells #[.int .i64 t221, .int .i64 t222, .int .i64 t223, .int .i64 t224, .int .i64 t225] 72 (0, 0)) by (rw [eS]; with_reducible refine blk_put (cs := #[.int .i64 t221, .int .i64 t222, .int .i64 t223, .int .i64 t224, .int .i64 0]) ?_ 4 _ ?e; (case e => first | exact rfl | (simp only [sT, sZ, sU])); (with_reducible repeat first | apply bN | apply bD | apply bA); with_reducible refine blk_put (cs := #[.int .i64 t221, .int .i64 t222, .int .i64 t223, .int .i64 0, .int .i64 0]) ?_ 3 _ ?e; (case e => first | exact rfl | (simp only [sT, sZ, sU])); (with_reducible repeat first | apply bN | apply bD | apply bA); with_reducible refine blk_put (cs := #[.int .i64 t221, .int .i64 t222, .int .i64 0, .int .i64 0, .int .i64 0]) ?_ 2 _ ?e; (case e => first | exact rfl | (simp only [sT, sZ, sU])); (with_reducible repeat first | apply bN | apply bD | apply bA); with_reducible refine blk_put (cs := #[.int .i64 t221, .int .i64 0, .int .i64 0, .int .i64 0, .int .i64 0]) ?_ 1 _ ?e; (case e => first | exact rfl | (simp only [sT, sZ, sU])); (with_reducible repeat first | apply bN | apply bD | apply bA); with_reducible refine blk_put (cs := #[.int .i64 0, .int .i64 0, .int .i64 0, .int .i64 0, .int .i64 0]) ?_ 0 _ ?e; (case e => first | exact rfl | (simp only [sT, sZ, sU])); (with_reducible repeat first | apply bN | apply bD | apply bA); with_reducible exact BK240.out)); have n3_ := aM (show Below w.heap.size w wS by (rw [eS]; (with_reducible repeat first | apply lA | apply lN | apply lD | refine lS ?_ GE240.out); with_reducible exact HB.out)); clear eS BK226 BK237 BK240 HB; have BK226 := n0_; have BK237 := n1_; have BK240 := n2_; have HB := n3_; clear n0_ n1_ n2_ n3_; have hc226_0 := blk_cell BK226.out 0; have hf226_0 := blk_frozen BK226.out 0; have hc226_1 := blk_cell BK226.out 1; have hf226_1 := blk_frozen BK226.out 1; have hc226_2 := blk_cell BK226.out 2; have hf226_2 := blk_frozen BK226.out 2; have hc226_3 := blk_cell BK226.out 3; have hf226_3 := blk_frozen BK226.out 3; have hc226_4 := blk_cell BK226.out 4; have hf226_4 := blk_frozen BK226.out 4; have hc240_0 := blk_cell BK240.out 0; have hf240_0 := blk_frozen BK240.out 0; have hc240_1 := blk_cell BK240.out 1; have hf240_1 := blk_frozen BK240.out 1; have hc240_2 := blk_cell BK240.out 2; have hf240_2 := blk_frozen BK240.out 2; have hc240_3 := blk_cell BK240.out 3; have hf240_3 := blk_frozen BK240.out 3; have hc240_4 := blk_cell BK240.out 4; have hf240_4 := blk_frozen BK240.out 4; simp only [List.getElem?_toArray, List.getElem?_cons_zero, List.getElem?_cons_succ] at hc226_0 hc226_1 hc226_2 hc226_3 hc226_4 hc240_0 hc240_1 hc240_2 hc240_3 hc240_4) | (with_reducible refine toset ?_; intro wS eS; (try clear hc226_0); (try clear hc226_1); (try clear hc226_2); (try clear hc226_3); (try clear hc226_4); (try clear hc240_0); (try clear hc240_1); (try clear hc240_2); (try clear hc240_3); (try clear hc240_4); (try clear hf226_0); (try clear hf226_1); (try clear hf226_2); (try clear hf226_3); (try clear hf226_4); (try clear hf240_0); (try clear hf240_1); (try clear hf240_2); (try clear hf240_3); (try clear hf240_4); have n0_ := aM (show wS.heap[gb226]? = some (.cells #[.int .i64 t221, .int .i64 t222, .int .i64 t223, .int .i64 t224, .int .i64 t225] 72 (0, 0)) by (rw [eS]; (with_reducible repeat first | apply bN | apply bD | apply bA | refine blk_far ?_ NB226_240.out _); with_reducible exact BK226.out)); have n1_ := aM (show wS.heap[gb237]? = some (.cells #[.int .i64 t231, .int .i64 t232, .int .i64 t233, .int .i64 t234, .int .i64 t235] 72 (0, 0)) by (rw [eS]; (with_reducible repeat first | apply bN | apply bD | apply bA | refine blk_far ?_ NB237_240.out _); with_reducible exact BK237.out)); have n2_ := aM (show wS.heap[gb240]? = some (.cells #[.int .i64 t221, .int .i64 t222, .int .i64 1, .int .i64 t224, .int .i64 t225] 72 (0, 0)) by (rw [eS]; with_reducible refine blk_put (cs := #[.int .i64 t221, .int .i64 t222, .int .i64 t223, .int .i64 t224, .int .i64 t225]) ?_ 2 _ ?e; (case e => first | exact rfl | (simp only [sT, sZ, sU])); (with_reducible repeat first | apply bN | apply bD | apply bA); with_reducible exact BK240.out)); have n3_ := aM (show Below w.heap.size w wS by (rw [eS]; (with_reducible repeat first | apply lA | apply lN | apply lD | refine lS ?_ GE240.out); with_reducible exact HB.out)); clear eS BK226 BK237 BK240 HB; have BK226 := n0_; have BK237 := n1_; have BK240 := n2_; have HB := n3_; clear n0_ n1_ n2_ n3_; have hc226_0 := blk_cell BK226.out 0; have hf226_0 := blk_frozen BK226.out 0; have hc226_1 := blk_cell BK226.out 1; have hf226_1 := blk_frozen BK226.out 1; have hc226_2 := blk_cell BK226.out 2; have hf226_2 := blk_frozen BK226.out 2; have hc226_3 := blk_cell BK226.out 3; have hf226_3 := blk_frozen BK226.out 3; have hc226_4 := blk_cell BK226.out 4; have hf226_4 := blk_frozen BK226.out 4; have hc240_0 := blk_cell BK240.out 0; have hf240_0 := blk_frozen BK240.out 0; have hc240_1 := blk_cell BK240.out 1; have hf240_1 := blk_frozen BK240.out 1; have hc240_2 := blk_cell BK240.out 2; have hf240_2 := blk_frozen BK240.out 2; have hc240_3 := blk_cell BK240.out 3; have hf240_3 := blk_frozen BK240.out 3; have hc240_4 := blk_cell BK240.out 4; have hf240_4 := blk_frozen BK240.out 4; simp only [List.getElem?_toArray, List.getElem?_cons_zero, List.getElem?_cons_succ] at hc226_0 hc226_1 hc226_2 hc226_3 hc226_4 hc240_0 hc240_1 hc240_2 hc240_3 hc240_4) | (with_reducible refine toset ?_; intro wS eS; (try clear hc226_0); (try clear hc226_1); (try clear hc226_2); (try clear hc226_3); (try clear hc226_4); (try clear hc240_0); (try clear hc240_1); (try clear hc240_2); (try clear hc240_3); (try clear hc240_4); (try clear hf226_0); (try clear hf226_1); (try clear hf226_2); (try clear hf226_3); (try clear hf226_4); (try clear hf240_0); (try clear hf240_1); (try clear hf240_2); (try clear hf240_3); (try clear hf240_4); have n0_ := aM (show wS.heap[gb226]? = some (.cells #[.int .i64 t221, .int .i64 t222, .int .i64 t223, .int .i64 t224, .int .i64 t225] 72 (0, 0)) by (rw [eS]; (with_reducible repeat first | apply bN | apply bD | apply bA | refine blk_far ?_ NB226_240.out _); with_reducible exact BK226.out)); have n1_ := aM (show wS.heap[gb237]? = some (.cells #[.int .i64 t231, .int .i64 t232, .int .i64 t233, .int .i64 t234, .int .i64 t235] 72 (0, 0)) by (rw [eS]; (with_reducible repeat first | apply bN | apply bD | apply bA | refine blk_far ?_ NB237_240.out _); with_reducible exact BK237.out)); have n2_ := aM (show wS.heap[gb240]? = some (.cells #[.int .i64 t221, .int .i64 (wrap64 ((Int.tmod t222 12) + 1)), .int .i64 1, .int .i64 t224, .int .i64 t225] 72 (0, 0)) by (rw [eS]; with_reducible refine blk_put (cs := #[.int .i64 t221, .int .i64 t222, .int .i64 1, .int .i64 t224, .int .i64 t225]) ?_ 1 _ ?e; (case e => first | exact rfl | (simp only [sT, sZ, sU])); (with_reducible repeat first | apply bN | apply bD | apply bA); with_reducible exact BK240.out)); have n3_ := aM (show Below w.heap.size w wS by (rw [eS]; (with_reducible repeat first | apply lA | apply lN | apply lD | refine lS ?_ GE240.out); with_reducible exact HB.out)); clear eS BK226 BK237 BK240 HB; have BK226 := n0_; have BK237 := n1_; have BK240 := n2_; have HB := n3_; clear n0_ n1_ n2_ n3_; have hc226_0 := blk_cell BK226.out 0; have hf226_0 := blk_frozen BK226.out 0; have hc226_1 := blk_cell BK226.out 1; have hf226_1 := blk_frozen BK226.out 1; have hc226_2 := blk_cell BK226.out 2; have hf226_2 := blk_frozen BK226.out 2; have hc226_3 := blk_cell BK226.out 3; have hf226_3 := blk_frozen BK226.out 3; have hc226_4 := blk_cell BK226.out 4; have hf226_4 := blk_frozen BK226.out 4; have hc240_0 := blk_cell BK240.out 0; have hf240_0 := blk_frozen BK240.out 0; have hc240_1 := blk_cell BK240.out 1; have hf240_1 := blk_frozen BK240.out 1; have hc240_2 := blk_cell BK240.out 2; have hf240_2 := blk_frozen BK240.out 2; have hc240_3 := blk_cell BK240.out 3; have hf240_3 := blk_frozen BK240.out 3; have hc240_4 := blk_cell BK240.out 4; have hf240_4 := blk_frozen BK240.out 4; simp only [List.getElem?_toArray, List.getElem?_cons_zero, List.getElem?_cons_succ] at hc226_0 hc226_1 hc226_2 hc226_3 hc226_4 hc240_0 hc240_1 hc240_2 hc240_3 hc240_4) | (with_reducible refine toset ?_; intro wS eS; (try clear hc226_0); (try clear hc226_1); (try clear hc226_2); (try clear hc226_3); (try clear hc226_4); (try clear hc240_0); (try clear hc240_1); (try clear hc240_2); (try clear hc240_3); (try clear hc240_4); (try clear hf226_0); (try clear hf226_1); (try clear hf226_2); (try clear hf226_3); (try clear hf226_4); (try clear hf240_0); (try clear hf240_1); (try clear hf240_2); (try clear hf240_3); (try clear hf240_4); have n0_ := aM (show wS.heap[gb226]? = some (.cells #[.int .i64 t221, .int .i64 t222, .int .i64 t223, .int .i64 t224, .int .i64 t225] 72 (0, 0)) by (rw [eS]; (with_reducible repeat first | apply bN | apply bD | apply bA | refine blk_far ?_ NB226_240.out _); with_reducible exact BK226.out)); have n1_ := aM (show wS.heap[gb237]? = some (.cells #[.int .i64 t231, .int .i64 t232, .int .i64 t233, .int .i64 t234, .int .i64 t235] 72 (0, 0)) by (rw [eS]; (with_reducible repeat first | apply bN | apply bD | apply bA | refine blk_far ?_ NB237_240.out _); with_reducible exact BK237.out)); have n2_ := aM (show wS.heap[gb240]? = some (.cells #[.int .i64 (wrap64 (t221 + 1)), .int .i64 (wrap64 ((Int.tmod t222 12) + 1)), .int .i64 1, .int .i64 t224, .int .i64 t225] 72 (0, 0)) by (rw [eS]; with_reducible refine blk_put (cs := #[.int .i64 t221, .int .i64 (wrap64 ((Int.tmod t222 12) + 1)), .int .i64 1, .int .i64 t224, .int .i64 t225]) ?_ 0 _ ?e; (case e => first | exact rfl | (simp only [sT, sZ, sU])); (with_reducible repeat first | apply bN | apply bD | apply bA); with_reducible exact BK240.out)); have n3_ := aM (show Below w.heap.size w wS by (rw [eS]; (with_reducible repeat first | apply lA | apply lN | apply lD | refine lS ?_ GE240.out); with_reducible exact HB.out)); clear eS BK226 BK237 BK240 HB; have BK226 := n0_; have BK237 := n1_; have BK240 := n2_; have HB := n3_; clear n0_ n1_ n2_ n3_; have hc226_0 := blk_cell BK226.out 0; have hf226_0 := blk_frozen BK226.out 0; have hc226_1 := blk_cell BK226.out 1; have hf226_1 := blk_frozen BK226.out 1; have hc226_2 := blk_cell BK226.out 2; have hf226_2 := blk_frozen BK226.out 2; have hc226_3 := blk_cell BK226.out 3; have hf226_3 := blk_frozen BK226.out 3; have hc226_4 := blk_cell BK226.out 4; have hf226_4 := blk_frozen BK226.out 4; have hc240_0 := blk_cell BK240.out 0; have hf240_0 := blk_frozen BK240.out 0; have hc240_1 := blk_cell BK240.out 1; have hf240_1 := blk_frozen BK240.out 1; have hc240_2 := blk_cell BK240.out 2; have hf240_2 := blk_frozen BK240.out 2; have hc240_3 := blk_cell BK240.out 3; have hf240_3 := blk_frozen BK240.out 3; have hc240_4 := blk_cell BK240.out 4; have hf240_4 := blk_frozen BK240.out 4; simp only [List.getElem?_toArray, List.getElem?_cons_zero, List.getElem?_cons_succ] at hc226_0 hc226_1 hc226_2 hc226_3 hc226_4 hc240_0 hc240_1 hc240_2 hc240_3 hc240_4) | ((with_reducible refine gate_dst (N := 9) rfl ?_); refine box_event ?hg (N := 9) ?hd (cs := #[.int .i64 0, .int .i64 0, .int .i64 0, .int .i64 0, .int .i64 0]) (t := 72) ?hr ?_; (case hd => rfl); (case hg => rfl); (case hr => first | (go_simp; done) | (go_simp; rfl)); intro gb240 hg w60 hbox hb; have n0_ := aM (blk_below (g := gb226) (o := .cells #[.int .i64 t221, .int .i64 t222, .int .i64 t223, .int .i64 t224, .int .i64 t225] 72 (0, 0)) (by (with_reducible repeat first | apply bN | apply bD | apply bA); exact BK226.out) hb); have n1_ := aM (blk_below (g := gb237) (o := .cells #[.int .i64 t231, .int .i64 t232, .int .i64 t233, .int .i64 t234, .int .i64 t235] 72 (0, 0)) (by (with_reducible repeat first | apply bN | apply bD | apply bA); exact BK237.out) hb); have n2_ := aM (below_step (by repeat (first | (with_reducible first | exact HB.out | apply lA | apply lN | apply lD | refine lS ?_ GE226.out | refine lS ?_ GE237.out) | exact HB.out)) hb); have n3_ := aM (hbox); have n4_ := aM ((by rw [hg]; exact (below_size (by repeat (first | (with_reducible first | exact HB.out | apply lA | apply lN | apply lD | refine lS ?_ GE226.out | refine lS ?_ GE237.out) | exact HB.out))) : w.heap.size ≤ gb240)); have n5_ := aM ((by rw [hg]; exact (below_size (by repeat (first | (with_reducible first | exact HB.out | apply lA | apply lN | apply lD | refine lS ?_ GE226.out | refine lS ?_ GE237.out) | exact HB.out))) : w.heap.size ≤ gb240)); have n6_ := aM ((by rw [hg]; exact Nat.ne_of_lt (blk_lt (g := gb226) (o := .cells #[.int .i64 t221, .int .i64 t222, .int .i64 t223, .int .i64 t224, .int .i64 t225] 72 (0, 0)) (by (with_reducible repeat first | apply bN | apply bD | apply bA); exact BK226.out)) : gb226 ≠ gb240)); have n7_ := aM ((by rw [hg]; exact Nat.ne_of_gt (blk_lt (g := gb226) (o := .cells #[.int .i64 t221, .int .i64 t222, .int .i64 t223, .int .i64 t224, .int .i64 t225] 72 (0, 0)) (by (with_reducible repeat first | apply bN | apply bD | apply bA); exact BK226.out)) : gb240 ≠ gb226)); have n8_ := aM ((by rw [hg]; exact Nat.ne_of_lt (blk_lt (g := gb237) (o := .cells #[.int .i64 t231, .int .i64 t232, .int .i64 t233, .int .i64 t234, .int .i64 t235] 72 (0, 0)) (by (with_reducible repeat first | apply bN | apply bD | apply bA); exact BK237.out)) : gb237 ≠ gb240)); have n9_ := aM ((by rw [hg]; exact Nat.ne_of_gt (blk_lt (g := gb237) (o := .cells #[.int .i64 t231, .int .i64 t232, .int .i64 t233, .int .i64 t234, .int .i64 t235] 72 (0, 0)) (by (with_reducible repeat first | apply bN | apply bD | apply bA); exact BK237.out)) : gb240 ≠ gb237)); clear BK226; clear BK237; clear HB; have BK226 := n0_; have BK237 := n1_; have HB := n2_; have BK240 := n3_; have GW240 := n4_; have GE240 := n5_; have NB226_240 := n6_; have NB240_226 := n7_; have NB237_240 := n8_; have NB240_237 := n9_; clear n0_ n1_ n2_ n3_ n4_ n5_ n6_ n7_ n8_ n9_; clear hb hbox hg; have hnb61 := NB240_226.out; have hnc61 := NB226_240.out; have hnb62 := NB240_237.out; have hnc62 := NB237_240.out; have hcz63_0 : w60.cell? ⟨gb240, 0, none⟩ = some (.int .i64 0) := (blk_cell BK240.out 0).trans rfl; have hcz63_1 : w60.cell? ⟨gb240, 1, none⟩ = some (.int .i64 0) := (blk_cell BK240.out 1).trans rfl; have hcz63_2 : w60.cell? ⟨gb240, 2, none⟩ = some (.int .i64 0) := (blk_cell BK240.out 2).trans rfl; have hcz63_3 : w60.cell? ⟨gb240, 3, none⟩ = some (.int .i64 0) := (blk_cell BK240.out 3).trans rfl; have hcz63_4 : w60.cell? ⟨gb240, 4, none⟩ = some (.int .i64 0) := (blk_cell BK240.out 4).trans rfl; have hfz63_0 := blk_frozen BK240.out 0; have hfz63_1 := blk_frozen BK240.out 1; have hfz63_2 := blk_frozen BK240.out 2; have hfz63_3 := blk_frozen BK240.out 3; have hfz63_4 := blk_frozen BK240.out 4; have hcz64_0 : w60.cell? ⟨gb226, 0, none⟩ = some (.int .i64 t221) := (blk_cell BK226.out 0).trans rfl; have hcz64_1 : w60.cell? ⟨gb226, 1, none⟩ = some (.int .i64 t222) := (blk_cell BK226.out 1).trans rfl; have hcz64_2 : w60.cell? ⟨gb226, 2, none⟩ = some (.int .i64 t223) := (blk_cell BK226.out 2).trans rfl; have hcz64_3 : w60.cell? ⟨gb226, 3, none⟩ = some (.int .i64 t224) := (blk_cell BK226.out 3).trans rfl; have hcz64_4 : w60.cell? ⟨gb226, 4, none⟩ = some (.int .i64 t225) := (blk_cell BK226.out 4).trans rfl; have hfz64_0 := blk_frozen BK226.out 0; have hfz64_1 := blk_frozen BK226.out 1; have hfz64_2 := blk_frozen BK226.out 2; have hfz64_3 := blk_frozen BK226.out 3; have hfz64_4 := blk_frozen BK226.out 4) | ((with_reducible refine gate_callee (f := 51) rfl ?_); refine goesL_ (some 91) rfl rfl Try.func51 (by kernel_rfl) rfl #[.agg #[.int .i64 (wrap64 (t221 + 1)), .int .i64 (wrap64 ((Int.tmod t222 12) + 1)), .int .i64 1, .int .i64 t224, .int .i64 t225]] rfl (by (try simp only [mT, mC, mN]); first | done | rfl | (simp only [lDr, lTk]; rfl)) ?_; (with_reducible refine (impl_MinuteOf.calls kj23 (wrap64 (t221 + 1)) (wrap64 ((Int.tmod t222 12) + 1)) 1 t224 t225 t241 true _ A53.out).mono ?_); rintro e w65 ⟨rfl, hb⟩; refine ⟨_, rfl, ?_⟩; have n0_ := aM (blk_below (g := gb226) (o := .cells #[.int .i64 t221, .int .i64 t222, .int .i64 t223, .int .i64 t224, .int .i64 t225] 72 (0, 0)) (by (with_reducible repeat first | apply bN | apply bD | apply bA); exact BK226.out) hb); have n1_ := aM (blk_below (g := gb237) (o := .cells #[.int .i64 t231, .int .i64 t232, .int .i64 t233, .int .i64 t234, .int .i64 t235] 72 (0, 0)) (by (with_reducible repeat first | apply bN | apply bD | apply bA); exact BK237.out) hb); have n2_ := aM (blk_below (g := gb240) (o := .cells #[.int .i64 (wrap64 (t221 + 1)), .int .i64 (wrap64 ((Int.tmod t222 12) + 1)), .int .i64 1, .int .i64 t224, .int .i64 t225] 72 (0, 0)) (by (with_reducible repeat first | apply bN | apply bD | apply bA); exact BK240.out) hb); have n3_ := aM (below_step (by repeat (first | (with_reducible first | exact HB.out | apply lA | apply lN | apply lD | refine lS ?_ GE226.out | refine lS ?_ GE237.out | refine lS ?_ GE240.out) | exact HB.out)) hb); clear BK226; clear BK237; clear BK240; clear HB; have BK226 := n0_; have BK237 := n1_; have BK240 := n2_; have HB := n3_; clear n0_ n1_ n2_ n3_; (try clear hb); (try clear hb2); (try clear hk); (try clear hi); have hcz66_0 : w65.cell? ⟨gb226, 0, none⟩ = some (.int .i64 t221) := (blk_cell BK226.out 0).trans rfl; have hcz66_1 : w65.cell? ⟨gb226, 1, none⟩ = some (.int .i64 t222) := (blk_cell BK226.out 1).trans rfl; have hcz66_2 : w65.cell? ⟨gb226, 2, none⟩ = some (.int .i64 t223) := (blk_cell BK226.out 2).trans rfl; have hcz66_3 : w65.cell? ⟨gb226, 3, none⟩ = some (.int .i64 t224) := (blk_cell BK226.out 3).trans rfl; have hcz66_4 : w65.cell? ⟨gb226, 4, none⟩ = some (.int .i64 t225) := (blk_cell BK226.out 4).trans rfl; have hfz66_0 := blk_frozen BK226.out 0; have hfz66_1 := blk_frozen BK226.out 1; have hfz66_2 := blk_frozen BK226.out 2; have hfz66_3 := blk_frozen BK226.out 3; have hfz66_4 := blk_frozen BK226.out 4) | ((with_reducible refine gate_callee (f := 51) rfl ?_); refine goesL_ (some 98) rfl rfl Try.func51 (by kernel_rfl) rfl #[.agg #[.int .i64 t221, .int .i64 t222, .int .i64 t238, .int .i64 t224, .int .i64 t225]] rfl (by (try simp only [mT, mC, mN]); first | done | rfl | (simp only [lDr, lTk]; rfl)) ?_; (with_reducible refine (impl_MinuteOf.calls kj23 t221 t222 t238 t224 t225 t243 t244 _ A54.out).mono ?_); rintro e w67 ⟨rfl, hb⟩; refine ⟨_, rfl, ?_⟩; have n0_ := aM (blk_below (g := gb226) (o := .cells #[.int .i64 t221, .int .i64 t222, .int .i64 t238, .int .i64 t224, .int .i64 t225] 72 (0, 0)) (by (with_reducible repeat first | apply bN | apply bD | apply bA); refine blk_put (cs := #[.int .i64 t221, .int .i64 t222, .int .i64 t223, .int .i64 t224, .int .i64 t225]) ?_ 2 _ rfl; (with_reducible repeat first | apply bN | apply bD | apply bA); exact BK226.out) hb); have n1_ := aM (blk_below (g := gb237) (o := .cells #[.int .i64 t231, .int .i64 t232, .int .i64 t233, .int .i64 t234, .int .i64 t235] 72 (0, 0)) (by (with_reducible repeat first | apply bN | apply bD | apply bA); refine blk_far ?_ NB237_226.out _; (with_reducible repeat first | apply bN | apply bD | apply bA); exact BK237.out) hb); have n2_ := aM (blk_below (g := gb240) (o := .cells #[.int .i64 (wrap64 (t221 + 1)), .int .i64 (wrap64 ((Int.tmod t222 12) + 1)), .int .i64 1, .int .i64 t224, .int .i64 t225] 72 (0, 0)) (by (with_reducible repeat first | apply bN | apply bD | apply bA); refine blk_far ?_ NB240_226.out _; (with_reducible repeat first | apply bN | apply bD | apply bA); exact BK240.out) hb); have n3_ := aM (below_step (by repeat (first | (with_reducible first | exact HB.out | apply lA | apply lN | apply lD | refine lS ?_ GE226.out | refine lS ?_ GE237.out | refine lS ?_ GE240.out) | exact HB.out)) hb); clear BK226; clear BK237; clear BK240; clear HB; have BK226 := n0_; have BK237 := n1_; have BK240 := n2_; have HB := n3_; clear n0_ n1_ n2_ n3_; (try clear hb); (try clear hb2); (try clear hk); (try clear hi); have hcz68_0 : w67.cell? ⟨gb226, 0, none⟩ = some (.int .i64 t221) := (blk_cell BK226.out 0).trans rfl; have hcz68_1 : w67.cell? ⟨gb226, 1, none⟩ = some (.int .i64 t222) := (blk_cell BK226.out 1).trans rfl; have hcz68_2 : w67.cell? ⟨gb226, 2, none⟩ = some (.int .i64 t238) := (blk_cell BK226.out 2).trans rfl; have hcz68_3 : w67.cell? ⟨gb226, 3, none⟩ = some (.int .i64 t224) := (blk_cell BK226.out 3).trans rfl; have hcz68_4 : w67.cell? ⟨gb226, 4, none⟩ = some (.int .i64 t225) := (blk_cell BK226.out 4).trans rfl; have hfz68_0 := blk_frozen BK226.out 0; have hfz68_1 := blk_frozen BK226.out 1; have hfz68_2 := blk_frozen BK226.out 2; have hfz68_3 := blk_frozen BK226.out 3; have hfz68_4 := blk_frozen BK226.out 4) | (go_at_call 55; (with_reducible refine (impl_DaysIn.calls kj23 t221 13 t245 _ A57.out).mono ?_); rintro e w' ⟨rfl, ⟨nd, rfl⟩⟩))
                        go_ret
                        exact ⟨by first | rfl | (simp [errW_none, errW_some] <;> rfl) | (simp [*, errW_none, errW_some] <;> rfl), by repeat (first | (with_reducible first | exact HB.out | apply lA | apply lN | apply lD | refine lS ?_ GE226.out | refine lS ?_ GE237.out | refine lS ?_ GE240.out) | exact HB.out)⟩
                      · rw [if_neg c56] at H
                        exact absurd H (by simp)
                    case' L8n =>
                      replace c55 := Bool.eq_false_iff.mpr c55
                      subst c55
                      have H1 : (if (wrap64 (t221 + 1)) = 2100 then ((impl_DaysIn.f kj23 t221 13).bind fun t246 => (some (t246 == 0))) else (if t241 = (wrap64 (t243 + 1440)) then ((impl_DaysIn.f kj23 t221 13).bind fun t246 => (some (t246 == 0))) else (none))) = some r := by rw [if_neg (show ¬ (false = true) by decide)] at H; exact H
                      clear H
                      have H := H1
                      clear H1
                      refine Classical.byCases (p := (wrap64 (t221 + 1)) = 2100) (fun c69 => ?L9p) (fun c69 => ?L9n)
                      case' L9p =>
                        rw [if_pos c69] at H
                        have c69b0 : ((wrap64 (t221 + 1)) == 2100) = true := beq_iff_eq.mpr c69
                        have c69b1 : ((wrap64 (t221 + 1)) != 2100) = false := bne_eq_false_iff_eq.mpr c69
                        clear c69
                        replace H := Option.bind_eq_some_iff.mp H
                        obtain ⟨t246, A700, H⟩ := H
                        replace H : (some (t246 == 0)) = some r := H
                        have A70 := aM A700
                        clear A700
                        obtain rfl := Option.some.inj H
                        have hnb71 := NB226_237.out
                        have hnc71 := NB237_226.out
                        have hcz72_0 : wc.cell? ⟨gb226, 0, none⟩ = some (.int .i64 t221) := (blk_cell BK226.out 0).trans rfl
                        have hcz72_1 : wc.cell? ⟨gb226, 1, none⟩ = some (.int .i64 t222) := (blk_cell BK226.out 1).trans rfl
                        have hcz72_2 : wc.cell? ⟨gb226, 2, none⟩ = some (.int .i64 t223) := (blk_cell BK226.out 2).trans rfl
                        have hcz72_3 : wc.cell? ⟨gb226, 3, none⟩ = some (.int .i64 t224) := (blk_cell BK226.out 3).trans rfl
                        have hcz72_4 : wc.cell? ⟨gb226, 4, none⟩ = some (.int .i64 t225) := (blk_cell BK226.out 4).trans rfl
                        have hfz72_0 := blk_frozen BK226.out 0
                        have hfz72_1 := blk_frozen BK226.out 1
                        have hfz72_2 := blk_frozen BK226.out 2
                        have hfz72_3 := blk_frozen BK226.out 3
                        have hfz72_4 := blk_frozen BK226.out 4
                      case' L9n =>
                        rw [if_neg c69] at H
                        have c69b0 : ((wrap64 (t221 + 1)) == 2100) = false := beq_eq_false_iff_ne.mpr c69
                        have c69b1 : ((wrap64 (t221 + 1)) != 2100) = true := bne_iff_ne.mpr c69
                        refine Classical.byCases (p := t241 = (wrap64 (t243 + 1440))) (fun c83 => ?L10p) (fun c83 => ?L10n)
                        case' L10p =>
                          rw [if_pos c83] at H
                          have c83b0 : (t241 == (wrap64 (t243 + 1440))) = true := beq_iff_eq.mpr c83
                          have c83b1 : (t241 != (wrap64 (t243 + 1440))) = false := bne_eq_false_iff_eq.mpr c83
                          clear c83
                          replace H := Option.bind_eq_some_iff.mp H
                          obtain ⟨t246, A700, H⟩ := H
                          replace H : (some (t246 == 0)) = some r := H
                          have A70 := aM A700
                          clear A700
                          obtain rfl := Option.some.inj H
                          have hnb85 := NB226_237.out
                          have hnc85 := NB237_226.out
                          have hcz86_0 : wc.cell? ⟨gb226, 0, none⟩ = some (.int .i64 t221) := (blk_cell BK226.out 0).trans rfl
                          have hcz86_1 : wc.cell? ⟨gb226, 1, none⟩ = some (.int .i64 t222) := (blk_cell BK226.out 1).trans rfl
                          have hcz86_2 : wc.cell? ⟨gb226, 2, none⟩ = some (.int .i64 t223) := (blk_cell BK226.out 2).trans rfl
                          have hcz86_3 : wc.cell? ⟨gb226, 3, none⟩ = some (.int .i64 t224) := (blk_cell BK226.out 3).trans rfl
                          have hcz86_4 : wc.cell? ⟨gb226, 4, none⟩ = some (.int .i64 t225) := (blk_cell BK226.out 4).trans rfl
                          have hfz86_0 := blk_frozen BK226.out 0
                          have hfz86_1 := blk_frozen BK226.out 1
                          have hfz86_2 := blk_frozen BK226.out 2
                          have hfz86_3 := blk_frozen BK226.out 3
                          have hfz86_4 := blk_frozen BK226.out 4
                        case' L10n =>
                          rw [if_neg c83] at H
                          exact absurd H (by simp)
                  case' L7n =>
                    rw [if_neg c52] at H
                    have c52b0 : ((wrap64 ((Int.tmod t222 12) + 1)) == 1) = false := beq_eq_false_iff_ne.mpr c52
                    have c52b1 : ((wrap64 ((Int.tmod t222 12) + 1)) != 1) = true := bne_iff_ne.mpr c52
                    replace H := Option.bind_eq_some_iff.mp H
                    obtain ⟨⟨t248, t249⟩, A970, H⟩ := H
                    replace H : ((impl_MinuteOf.f kj23 t221 t222 t238 t224 t225).bind fun bt250 => (if t249 = true then (if t248 = (wrap64 (bt250.1 + 1440)) then ((impl_DaysIn.f kj23 t221 13).bind fun t252 => (some (t252 == 0))) else (none)) else (if t221 = 2100 then ((impl_DaysIn.f kj23 t221 13).bind fun t253 => (some (t253 == 0))) else (if t248 = (wrap64 (bt250.1 + 1440)) then ((impl_DaysIn.f kj23 t221 13).bind fun t253 => (some (t253 == 0))) else (none))))) = some r := H
                    have A97 := aM A970
                    clear A970
                    replace H := Option.bind_eq_some_iff.mp H
                    obtain ⟨⟨t250, t251⟩, A980, H⟩ := H
                    replace H : (if t249 = true then (if t248 = (wrap64 (t250 + 1440)) then ((impl_DaysIn.f kj23 t221 13).bind fun t252 => (some (t252 == 0))) else (none)) else (if t221 = 2100 then ((impl_DaysIn.f kj23 t221 13).bind fun t253 => (some (t253 == 0))) else (if t248 = (wrap64 (t250 + 1440)) then ((impl_DaysIn.f kj23 t221 13).bind fun t253 => (some (t253 == 0))) else (none)))) = some r := H
                    have A98 := aM A980
                    clear A980
                    refine Classical.byCases (p := t249 = true) (fun c99 => ?L11p) (fun c99 => ?L11n)
                    case' L11p =>
                      subst c99
                      have H1 : (if t248 = (wrap64 (t250 + 1440)) then ((impl_DaysIn.f kj23 t221 13).bind fun t252 => (some (t252 == 0))) else (none)) = some r := by rw [if_pos rfl] at H; exact H
                      clear H
                      have H := H1
                      clear H1
                      by_cases c100 : t248 = (wrap64 (t250 + 1440))
                      · rw [if_pos c100] at H
                        have c100b0 : (t248 == (wrap64 (t250 + 1440))) = true := beq_iff_eq.mpr c100
                        have c100b1 : (t248 != (wrap64 (t250 + 1440))) = false := bne_eq_false_iff_eq.mpr c100
                        clear c100
                        replace H := Option.bind_eq_some_iff.mp H
                        obtain ⟨t252, A1010, H⟩ := H
                        replace H : (some (t252 == 0)) = some r := H
                        have A101 := aM A1010
                        clear A1010
                        obtain rfl := Option.some.inj H
                        have hnb102 := NB226_237.out
                        have hnc102 := NB237_226.out
                        have hcz103_0 : wc.cell? ⟨gb226, 0, none⟩ = some (.int .i64 t221) := (blk_cell BK226.out 0).trans rfl
                        have hcz103_1 : wc.cell? ⟨gb226, 1, none⟩ = some (.int .i64 t222) := (blk_cell BK226.out 1).trans rfl
                        have hcz103_2 : wc.cell? ⟨gb226, 2, none⟩ = some (.int .i64 t223) := (blk_cell BK226.out 2).trans rfl
                        have hcz103_3 : wc.cell? ⟨gb226, 3, none⟩ = some (.int .i64 t224) := (blk_cell BK226.out 3).trans rfl
                        have hcz103_4 : wc.cell? ⟨gb226, 4, none⟩ = some (.int .i64 t225) := (blk_cell BK226.out 4).trans rfl
                        have hfz103_0 := blk_frozen BK226.out 0
                        have hfz103_1 := blk_frozen BK226.out 1
                        have hfz103_2 := blk_frozen BK226.out 2
                        have hfz103_3 := blk_frozen BK226.out 3
                        have hfz103_4 := blk_frozen BK226.out 4
                        go_wp2_with (first | (with_reducible refine toset ?_; intro wS eS; (try clear hc226_0); (try clear hc226_1); (try clear hc226_2); (try clear hc226_3); (try clear hc226_4); (try clear hc240_0); (try clear hc240_1); (try clear hc240_2); (try clear hc240_3); (try clear hc240_4); (try clear hf226_0); (try clear hf226_1); (try clear hf226_2); (try clear hf226_3); (try clear hf226_4); (try clear hf240_0); (try clear hf240_1); (try clear hf240_2); (try clear hf240_3); (try clear hf240_4); have n0_ := aM (show wS.heap[gb226]? = some (.cells #[.int .i64 t221, .int .i64 t222, .int .i64 t223, .int .i64 t224, .int .i64 t225] 72 (0, 0)) by (rw [eS]; (with_reducible repeat first | apply bN | apply bD | apply bA | refine blk_far ?_ NB226_240.out _); with_reducible exact BK226.out)); have n1_ := aM (show wS.heap[gb237]? = some (.cells #[.int .i64 t231, .int .i64 t232, .int .i64 t233, .int .i64 t234, .int .i64 t235] 72 (0, 0)) by (rw [eS]; (with_reducible repeat first | apply bN | apply bD | apply bA | refine blk_far ?_ NB237_240.out _); with_reducible exact BK237.out)); have n2_ := aM (show wS.heap[gb240]? = some (.cells #[.int .i64 t221, .int .i64 t222, .int .i64 t223, .int .i64 t224, .int .i64 t225] 72 (0, 0)) by (rw [eS]; with_reducible refine blk_put (cs := #[.int .i64 t221, .int .i64 t222, .int .i64 t223, .int .i64 t224, .int .i64 0]) ?_ 4 _ ?e; (case e => first | exact rfl | (simp only [sT, sZ, sU])); (with_reducible repeat first | apply bN | apply bD | apply bA); with_reducible refine blk_put (cs := #[.int .i64 t221, .int .i64 t222, .int .i64 t223, .int .i64 0, .int .i64 0]) ?_ 3 _ ?e; (case e => first | exact rfl | (simp only [sT, sZ, sU])); (with_reducible repeat first | apply bN | apply bD | apply bA); with_reducible refine blk_put (cs := #[.int .i64 t221, .int .i64 t222, .int .i64 0, .int .i64 0, .int .i64 0]) ?_ 2 _ ?e; (case e => first | exact rfl | (simp only [sT, sZ, sU])); (with_reducible repeat first | apply bN | apply bD | apply bA); with_reducible refine blk_put (cs := #[.int .i64 t221, .int .i64 0, .int .i64 0, .int .i64 0, .int .i64 0]) ?_ 1 _ ?e; (case e => first | exact rfl | (simp only [sT, sZ, sU])); (with_reducible repeat first | apply bN | apply bD | apply bA); with_reducible refine blk_put (cs := #[.int .i64 0, .int .i64 0, .int .i64 0, .int .i64 0, .int .i64 0]) ?_ 0 _ ?e; (case e => first | exact rfl | (simp only [sT, sZ, sU])); (with_reducible repeat first | apply bN | apply bD | apply bA); with_reducible exact BK240.out)); have n3_ := aM (show Below w.heap.size w wS by (rw [eS]; (with_reducible repeat first | apply lA | apply lN | apply lD | refine lS ?_ GE240.out); with_reducible exact HB.out)); clear eS BK226 BK237 BK240 HB; have BK226 := n0_; have BK237 := n1_; have BK240 := n2_; have HB := n3_; clear n0_ n1_ n2_ n3_; have hc226_0 := blk_cell BK226.out 0; have hf226_0 := blk_frozen BK226.out 0; have hc226_1 := blk_cell BK226.out 1; have hf226_1 := blk_frozen BK226.out 1; have hc226_2 := blk_cell BK226.out 2; have hf226_2 := blk_frozen BK226.out 2; have hc226_3 := blk_cell BK226.out 3; have hf226_3 := blk_frozen BK226.out 3; have hc226_4 := blk_cell BK226.out 4; have hf226_4 := blk_frozen BK226.out 4; have hc240_0 := blk_cell BK240.out 0; have hf240_0 := blk_frozen BK240.out 0; have hc240_1 := blk_cell BK240.out 1; have hf240_1 := blk_frozen BK240.out 1; have hc240_2 := blk_cell BK240.out 2; have hf240_2 := blk_frozen BK240.out 2; have hc240_3 := blk_cell BK240.out 3; have hf240_3 := blk_frozen BK240.out 3; have hc240_4 := blk_cell BK240.out 4; have hf240_4 := blk_frozen BK240.out 4; simp only [List.getElem?_toArray, List.getElem?_cons_zero, List.getElem?_cons_succ] at hc226_0 hc226_1 hc226_2 hc226_3 hc226_4 hc240_0 hc240_1 hc240_2 hc240_3 hc240_4) | (with_reducible refine toset ?_; intro wS eS; (try clear hc226_0); (try clear hc226_1); (try clear hc226_2); (try clear hc226_3); (try clear hc226_4); (try clear hc240_0); (try clear hc240_1); (try clear hc240_2); (try clear hc240_3); (try clear hc240_4); (try clear hf226_0); (try clear hf226_1); (try clear hf226_2); (try clear hf226_3); (try clear hf226_4); (try clear hf240_0); (try clear hf240_1); (try clear hf240_2); (try clear hf240_3); (try clear hf240_4); have n0_ := aM (show wS.heap[gb226]? = some (.cells #[.int .i64 t221, .int .i64 t222, .int .i64 t223, .int .i64 t224, .int .i64 t225] 72 (0, 0)) by (rw [eS]; (with_reducible repeat first | apply bN | apply bD | apply bA | refine blk_far ?_ NB226_240.out _); with_reducible exact BK226.out)); have n1_ := aM (show wS.heap[gb237]? = some (.cells #[.int .i64 t231, .int .i64 t232, .int .i64 t233, .int .i64 t234, .int .i64 t235] 72 (0, 0)) by (rw [eS]; (with_reducible repeat first | apply bN | apply bD | apply bA | refine blk_far ?_ NB237_240.out _); with_reducible exact BK237.out)); have n2_ := aM (show wS.heap[gb240]? = some (.cells #[.int .i64 t221, .int .i64 t222, .int .i64 1, .int .i64 t224, .int .i64 t225] 72 (0, 0)) by (rw [eS]; with_reducible refine blk_put (cs := #[.int .i64 t221, .int .i64 t222, .int .i64 t223, .int .i64 t224, .int .i64 t225]) ?_ 2 _ ?e; (case e => first | exact rfl | (simp only [sT, sZ, sU])); (with_reducible repeat first | apply bN | apply bD | apply bA); with_reducible exact BK240.out)); have n3_ := aM (show Below w.heap.size w wS by (rw [eS]; (with_reducible repeat first | apply lA | apply lN | apply lD | refine lS ?_ GE240.out); with_reducible exact HB.out)); clear eS BK226 BK237 BK240 HB; have BK226 := n0_; have BK237 := n1_; have BK240 := n2_; have HB := n3_; clear n0_ n1_ n2_ n3_; have hc226_0 := blk_cell BK226.out 0; have hf226_0 := blk_frozen BK226.out 0; have hc226_1 := blk_cell BK226.out 1; have hf226_1 := blk_frozen BK226.out 1; have hc226_2 := blk_cell BK226.out 2; have hf226_2 := blk_frozen BK226.out 2; have hc226_3 := blk_cell BK226.out 3; have hf226_3 := blk_frozen BK226.out 3; have hc226_4 := blk_cell BK226.out 4; have hf226_4 := blk_frozen BK226.out 4; have hc240_0 := blk_cell BK240.out 0; have hf240_0 := blk_frozen BK240.out 0; have hc240_1 := blk_cell BK240.out 1; have hf240_1 := blk_frozen BK240.out 1; have hc240_2 := blk_cell BK240.out 2; have hf240_2 := blk_frozen BK240.out 2; have hc240_3 := blk_cell BK240.out 3; have hf240_3 := blk_frozen BK240.out 3; have hc240_4 := blk_cell BK240.out 4; have hf240_4 := blk_frozen BK240.out 4; simp only [List.getElem?_toArray, List.getElem?_cons_zero, List.getElem?_cons_succ] at hc226_0 hc226_1 hc226_2 hc226_3 hc226_4 hc240_0 hc240_1 hc240_2 hc240_3 hc240_4) | (with_reducible refine toset ?_; intro wS eS; (try clear hc226_0); (try clear hc226_1); (try clear hc226_2); (try clear hc226_3); (try clear hc226_4); (try clear hc240_0); (try clear hc240_1); (try clear hc240_2); (try clear hc240_3); (try clear hc240_4); (try clear hf226_0); (try clear hf226_1); (try clear hf226_2); (try clear hf226_3); (try clear hf226_4); (try clear hf240_0); (try clear hf240_1); (try clear hf240_2); (try clear hf240_3); (try clear hf240_4); have n0_ := aM (show wS.heap[gb226]? = some (.cells #[.int .i64 t221, .int .i64 t222, .int .i64 t223, .int .i64 t224, .int .i64 t225] 72 (0, 0)) by (rw [eS]; (with_reducible repeat first | apply bN | apply bD | apply bA | refine blk_far ?_ NB226_240.out _); with_reducible exact BK226.out)); have n1_ := aM (show wS.heap[gb237]? = some (.cells #[.int .i64 t231, .int .i64 t232, .int .i64 t233, .int .i64 t234, .int .i64 t235] 72 (0, 0)) by (rw [eS]; (with_reducible repeat first | apply bN | apply bD | apply bA | refine blk_far ?_ NB237_240.out _); with_reducible exact BK237.out)); have n2_ := aM (show wS.heap[gb240]? = some (.cells #[.int .i64 t221, .int .i64 (wrap64 ((Int.tmod t222 12) + 1)), .int .i64 1, .int .i64 t224, .int .i64 t225] 72 (0, 0)) by (rw [eS]; with_reducible refine blk_put (cs := #[.int .i64 t221, .int .i64 t222, .int .i64 1, .int .i64 t224, .int .i64 t225]) ?_ 1 _ ?e; (case e => first | exact rfl | (simp only [sT, sZ, sU])); (with_reducible repeat first | apply bN | apply bD | apply bA); with_reducible exact BK240.out)); have n3_ := aM (show Below w.heap.size w wS by (rw [eS]; (with_reducible repeat first | apply lA | apply lN | apply lD | refine lS ?_ GE240.out); with_reducible exact HB.out)); clear eS BK226 BK237 BK240 HB; have BK226 := n0_; have BK237 := n1_; have BK240 := n2_; have HB := n3_; clear n0_ n1_ n2_ n3_; have hc226_0 := blk_cell BK226.out 0; have hf226_0 := blk_frozen BK226.out 0; have hc226_1 := blk_cell BK226.out 1; have hf226_1 := blk_frozen BK226.out 1; have hc226_2 := blk_cell BK226.out 2; have hf226_2 := blk_frozen BK226.out 2; have hc226_3 := blk_cell BK226.out 3; have hf226_3 := blk_frozen BK226.out 3; have hc226_4 := blk_cell BK226.out 4; have hf226_4 := blk_frozen BK226.out 4; have hc240_0 := blk_cell BK240.out 0; have hf240_0 := blk_frozen BK240.out 0; have hc240_1 := blk_cell BK240.out 1; have hf240_1 := blk_frozen BK240.out 1; have hc240_2 := blk_cell BK240.out 2; have hf240_2 := blk_frozen BK240.out 2; have hc240_3 := blk_cell BK240.out 3; have hf240_3 := blk_frozen BK240.out 3; have hc240_4 := blk_cell BK240.out 4; have hf240_4 := blk_frozen BK240.out 4; simp only [List.getElem?_toArray, List.getElem?_cons_zero, List.getElem?_cons_succ] at hc226_0 hc226_1 hc226_2 hc226_3 hc226_4 hc240_0 hc240_1 hc240_2 hc240_3 hc240_4) | (with_reducible refine toset ?_; intro wS eS; (try clear hc226_0); (try clear hc226_1); (try clear hc226_2); (try clear hc226_3); (try clear hc226_4); (try clear hc240_0); (try clear hc240_1); (try clear hc240_2); (try clear hc240_3); (try clear hc240_4); (try clear hf226_0); (try clear hf226_1); (try clear hf226_2); (try clear hf226_3); (try clear hf226_4); (try clear hf240_0); (try clear hf240_1); (try clear hf240_2); (try clear hf240_3); (try clear hf240_4); have n0_ := aM (show wS.heap[gb226]? = some (.cells #[.int .i64 t221, .int .i64 t222, .int .i64 t223, .int .i64 t224, .int .i64 t225] 72 (0, 0)) by (rw [eS]; (with_reducible repeat first | apply bN | apply bD | apply bA | refine blk_far ?_ NB226_240.out _); with_reducible exact BK226.out)); have n1_ := aM (show wS.heap[gb237]? = some (.cells #[.int .i64 t231, .int .i64 t232, .int .i64 t233, .int .i64 t234, .int .i64 t235] 72 (0, 0)) by (rw [eS]; (with_reducible repeat first | apply bN | apply bD | apply bA | refine blk_far ?_ NB237_240.out _); with_reducible exact BK237.out)); have n2_ := aM (show wS.heap[gb240]? = some (.cells #[.int .i64 (wrap64 (t221 + 1)), .int .i64 (wrap64 ((Int.tmod t222 12) + 1)), .int .i64 1, .int .i64 t224, .int .i64 t225] 72 (0, 0)) by (rw [eS]; with_reducible refine blk_put (cs := #[.int .i64 t221, .int .i64 (wrap64 ((Int.tmod t222 12) + 1)), .int .i64 1, .int .i64 t224, .int .i64 t225]) ?_ 0 _ ?e; (case e => first | exact rfl | (simp only [sT, sZ, sU])); (with_reducible repeat first | apply bN | apply bD | apply bA); with_reducible exact BK240.out)); have n3_ := aM (show Below w.heap.size w wS by (rw [eS]; (with_reducible repeat first | apply lA | apply lN | apply lD | refine lS ?_ GE240.out); with_reducible exact HB.out)); clear eS BK226 BK237 BK240 HB; have BK226 := n0_; have BK237 := n1_; have BK240 := n2_; have HB := n3_; clear n0_ n1_ n2_ n3_; have hc226_0 := blk_cell BK226.out 0; have hf226_0 := blk_frozen BK226.out 0; have hc226_1 := blk_cell BK226.out 1; have hf226_1 := blk_frozen BK226.out 1; have hc226_2 := blk_cell BK226.out 2; have hf226_2 := blk_frozen BK226.out 2; have hc226_3 := blk_cell BK226.out 3; have hf226_3 := blk_frozen BK226.out 3; have hc226_4 := blk_cell BK226.out 4; have hf226_4 := blk_frozen BK226.out 4; have hc240_0 := blk_cell BK240.out 0; have hf240_0 := blk_frozen BK240.out 0; have hc240_1 := blk_cell BK240.out 1; have hf240_1 := blk_frozen BK240.out 1; have hc240_2 := blk_cell BK240.out 2; have hf240_2 := blk_frozen BK240.out 2; have hc240_3 := blk_cell BK240.out 3; have hf240_3 := blk_frozen BK240.out 3; have hc240_4 := blk_cell BK240.out 4; have hf240_4 := blk_frozen BK240.out 4; simp only [List.getElem?_toArray, List.getElem?_cons_zero, List.getElem?_cons_succ] at hc226_0 hc226_1 hc226_2 hc226_3 hc226_4 hc240_0 hc240_1 hc240_2 hc240_3 hc240_4) | ((with_reducible refine gate_dst (N := 9) rfl ?_); refine box_event ?hg (N := 9) ?hd (cs := #[.int .i64 0, .int .i64 0, .int .i64 0, .int .i64 0, .int .i64 0]) (t := 72) ?hr ?_; (case hd => rfl); (case hg => rfl); (case hr => first | (go_simp; done) | (go_simp; rfl)); intro gb240 hg w104 hbox hb; have n0_ := aM (blk_below (g := gb226) (o := .cells #[.int .i64 t221, .int .i64 t222, .int .i64 t223, .int .i64 t224, .int .i64 t225] 72 (0, 0)) (by (with_reducible repeat first | apply bN | apply bD | apply bA); exact BK226.out) hb); have n1_ := aM (blk_below (g := gb237) (o := .cells #[.int .i64 t231, .int .i64 t232, .int .i64 t233, .int .i64 t234, .int .i64 t235] 72 (0, 0)) (by (with_reducible repeat first | apply bN | apply bD | apply bA); exact BK237.out) hb); have n2_ := aM (below_step (by repeat (first | (with_reducible first | exact HB.out | apply lA | apply lN | apply lD | refine lS ?_ GE226.out | refine lS ?_ GE237.out) | exact HB.out)) hb); have n3_ := aM (hbox); have n4_ := aM ((by rw [hg]; exact (below_size (by repeat (first | (with_reducible first | exact HB.out | apply lA | apply lN | apply lD | refine lS ?_ GE226.out | refine lS ?_ GE237.out) | exact HB.out))) : w.heap.size ≤ gb240)); have n5_ := aM ((by rw [hg]; exact (below_size (by repeat (first | (with_reducible first | exact HB.out | apply lA | apply lN | apply lD | refine lS ?_ GE226.out | refine lS ?_ GE237.out) | exact HB.out))) : w.heap.size ≤ gb240)); have n6_ := aM ((by rw [hg]; exact Nat.ne_of_lt (blk_lt (g := gb226) (o := .cells #[.int .i64 t221, .int .i64 t222, .int .i64 t223, .int .i64 t224, .int .i64 t225] 72 (0, 0)) (by (with_reducible repeat first | apply bN | apply bD | apply bA); exact BK226.out)) : gb226 ≠ gb240)); have n7_ := aM ((by rw [hg]; exact Nat.ne_of_gt (blk_lt (g := gb226) (o := .cells #[.int .i64 t221, .int .i64 t222, .int .i64 t223, .int .i64 t224, .int .i64 t225] 72 (0, 0)) (by (with_reducible repeat first | apply bN | apply bD | apply bA); exact BK226.out)) : gb240 ≠ gb226)); have n8_ := aM ((by rw [hg]; exact Nat.ne_of_lt (blk_lt (g := gb237) (o := .cells #[.int .i64 t231, .int .i64 t232, .int .i64 t233, .int .i64 t234, .int .i64 t235] 72 (0, 0)) (by (with_reducible repeat first | apply bN | apply bD | apply bA); exact BK237.out)) : gb237 ≠ gb240)); have n9_ := aM ((by rw [hg]; exact Nat.ne_of_gt (blk_lt (g := gb237) (o := .cells #[.int .i64 t231, .int .i64 t232, .int .i64 t233, .int .i64 t234, .int .i64 t235] 72 (0, 0)) (by (with_reducible repeat first | apply bN | apply bD | apply bA); exact BK237.out)) : gb240 ≠ gb237)); clear BK226; clear BK237; clear HB; have BK226 := n0_; have BK237 := n1_; have HB := n2_; have BK240 := n3_; have GW240 := n4_; have GE240 := n5_; have NB226_240 := n6_; have NB240_226 := n7_; have NB237_240 := n8_; have NB240_237 := n9_; clear n0_ n1_ n2_ n3_ n4_ n5_ n6_ n7_ n8_ n9_; clear hb hbox hg; have hnb105 := NB240_226.out; have hnc105 := NB226_240.out; have hnb106 := NB240_237.out; have hnc106 := NB237_240.out; have hcz107_0 : w104.cell? ⟨gb240, 0, none⟩ = some (.int .i64 0) := (blk_cell BK240.out 0).trans rfl; have hcz107_1 : w104.cell? ⟨gb240, 1, none⟩ = some (.int .i64 0) := (blk_cell BK240.out 1).trans rfl; have hcz107_2 : w104.cell? ⟨gb240, 2, none⟩ = some (.int .i64 0) := (blk_cell BK240.out 2).trans rfl; have hcz107_3 : w104.cell? ⟨gb240, 3, none⟩ = some (.int .i64 0) := (blk_cell BK240.out 3).trans rfl; have hcz107_4 : w104.cell? ⟨gb240, 4, none⟩ = some (.int .i64 0) := (blk_cell BK240.out 4).trans rfl; have hfz107_0 := blk_frozen BK240.out 0; have hfz107_1 := blk_frozen BK240.out 1; have hfz107_2 := blk_frozen BK240.out 2; have hfz107_3 := blk_frozen BK240.out 3; have hfz107_4 := blk_frozen BK240.out 4; have hcz108_0 : w104.cell? ⟨gb226, 0, none⟩ = some (.int .i64 t221) := (blk_cell BK226.out 0).trans rfl; have hcz108_1 : w104.cell? ⟨gb226, 1, none⟩ = some (.int .i64 t222) := (blk_cell BK226.out 1).trans rfl; have hcz108_2 : w104.cell? ⟨gb226, 2, none⟩ = some (.int .i64 t223) := (blk_cell BK226.out 2).trans rfl; have hcz108_3 : w104.cell? ⟨gb226, 3, none⟩ = some (.int .i64 t224) := (blk_cell BK226.out 3).trans rfl; have hcz108_4 : w104.cell? ⟨gb226, 4, none⟩ = some (.int .i64 t225) := (blk_cell BK226.out 4).trans rfl; have hfz108_0 := blk_frozen BK226.out 0; have hfz108_1 := blk_frozen BK226.out 1; have hfz108_2 := blk_frozen BK226.out 2; have hfz108_3 := blk_frozen BK226.out 3; have hfz108_4 := blk_frozen BK226.out 4) | ((with_reducible refine gate_callee (f := 51) rfl ?_); refine goesL_ (some 91) rfl rfl Try.func51 (by kernel_rfl) rfl #[.agg #[.int .i64 t221, .int .i64 (wrap64 ((Int.tmod t222 12) + 1)), .int .i64 1, .int .i64 t224, .int .i64 t225]] rfl (by (try simp only [mT, mC, mN]); first | done | rfl | (simp only [lDr, lTk]; rfl)) ?_; (with_reducible refine (impl_MinuteOf.calls kj23 t221 (wrap64 ((Int.tmod t222 12) + 1)) 1 t224 t225 t248 true _ A97.out).mono ?_); rintro e w109 ⟨rfl, hb⟩; refine ⟨_, rfl, ?_⟩; have n0_ := aM (blk_below (g := gb226) (o := .cells #[.int .i64 t221, .int .i64 t222, .int .i64 t223, .int .i64 t224, .int .i64 t225] 72 (0, 0)) (by (with_reducible repeat first | apply bN | apply bD | apply bA); exact BK226.out) hb); have n1_ := aM (blk_below (g := gb237) (o := .cells #[.int .i64 t231, .int .i64 t232, .int .i64 t233, .int .i64 t234, .int .i64 t235] 72 (0, 0)) (by (with_reducible repeat first | apply bN | apply bD | apply bA); exact BK237.out) hb); have n2_ := aM (blk_below (g := gb240) (o := .cells #[.int .i64 t221, .int .i64 (wrap64 ((Int.tmod t222 12) + 1)), .int .i64 1, .int .i64 t224, .int .i64 t225] 72 (0, 0)) (by (with_reducible repeat first | apply bN | apply bD | apply bA); exact BK240.out) hb); have n3_ := aM (below_step (by repeat (first | (with_reducible first | exact HB.out | apply lA | apply lN | apply lD | refine lS ?_ GE226.out | refine lS ?_ GE237.out | refine lS ?_ GE240.out) | exact HB.out)) hb); clear BK226; clear BK237; clear BK240; clear HB; have BK226 := n0_; have BK237 := n1_; have BK240 := n2_; have HB := n3_; clear n0_ n1_ n2_ n3_; (try clear hb); (try clear hb2); (try clear hk); (try clear hi); have hcz110_0 : w109.cell? ⟨gb226, 0, none⟩ = some (.int .i64 t221) := (blk_cell BK226.out 0).trans rfl; have hcz110_1 : w109.cell? ⟨gb226, 1, none⟩ = some (.int .i64 t222) := (blk_cell BK226.out 1).trans rfl; have hcz110_2 : w109.cell? ⟨gb226, 2, none⟩ = some (.int .i64 t223) := (blk_cell BK226.out 2).trans rfl; have hcz110_3 : w109.cell? ⟨gb226, 3, none⟩ = some (.int .i64 t224) := (blk_cell BK226.out 3).trans rfl; have hcz110_4 : w109.cell? ⟨gb226, 4, none⟩ = some (.int .i64 t225) := (blk_cell BK226.out 4).trans rfl; have hfz110_0 := blk_frozen BK226.out 0; have hfz110_1 := blk_frozen BK226.out 1; have hfz110_2 := blk_frozen BK226.out 2; have hfz110_3 := blk_frozen BK226.out 3; have hfz110_4 := blk_frozen BK226.out 4) | ((with_reducible refine gate_callee (f := 51) rfl ?_); refine goesL_ (some 98) rfl rfl Try.func51 (by kernel_rfl) rfl #[.agg #[.int .i64 t221, .int .i64 t222, .int .i64 t238, .int .i64 t224, .int .i64 t225]] rfl (by (try simp only [mT, mC, mN]); first | done | rfl | (simp only [lDr, lTk]; rfl)) ?_; (with_reducible refine (impl_MinuteOf.calls kj23 t221 t222 t238 t224 t225 t250 t251 _ A98.out).mono ?_); rintro e w111 ⟨rfl, hb⟩; refine ⟨_, rfl, ?_⟩; have n0_ := aM (blk_below (g := gb226) (o := .cells #[.int .i64 t221, .int .i64 t222, .int .i64 t238, .int .i64 t224, .int .i64 t225] 72 (0, 0)) (by (with_reducible repeat first | apply bN | apply bD | apply bA); refine blk_put (cs := #[.int .i64 t221, .int .i64 t222, .int .i64 t223, .int .i64 t224, .int .i64 t225]) ?_ 2 _ rfl; (with_reducible repeat first | apply bN | apply bD | apply bA); exact BK226.out) hb); have n1_ := aM (blk_below (g := gb237) (o := .cells #[.int .i64 t231, .int .i64 t232, .int .i64 t233, .int .i64 t234, .int .i64 t235] 72 (0, 0)) (by (with_reducible repeat first | apply bN | apply bD | apply bA); refine blk_far ?_ NB237_226.out _; (with_reducible repeat first | apply bN | apply bD | apply bA); exact BK237.out) hb); have n2_ := aM (blk_below (g := gb240) (o := .cells #[.int .i64 t221, .int .i64 (wrap64 ((Int.tmod t222 12) + 1)), .int .i64 1, .int .i64 t224, .int .i64 t225] 72 (0, 0)) (by (with_reducible repeat first | apply bN | apply bD | apply bA); refine blk_far ?_ NB240_226.out _; (with_reducible repeat first | apply bN | apply bD | apply bA); exact BK240.out) hb); have n3_ := aM (below_step (by repeat (first | (with_reducible first | exact HB.out | apply lA | apply lN | apply lD | refine lS ?_ GE226.out | refine lS ?_ GE237.out | refine lS ?_ GE240.out) | exact HB.out)) hb); clear BK226; clear BK237; clear BK240; clear HB; have BK226 := n0_; have BK237 := n1_; have BK240 := n2_; have HB := n3_; clear n0_ n1_ n2_ n3_; (try clear hb); (try clear hb2); (try clear hk); (try clear hi); have hcz112_0 : w111.cell? ⟨gb226, 0, none⟩ = some (.int .i64 t221) := (blk_cell BK226.out 0).trans rfl; have hcz112_1 : w111.cell? ⟨gb226, 1, none⟩ = some (.int .i64 t222) := (blk_cell BK226.out 1).trans rfl; have hcz112_2 : w111.cell? ⟨gb226, 2, none⟩ = some (.int .i64 t238) := (blk_cell BK226.out 2).trans rfl; have hcz112_3 : w111.cell? ⟨gb226, 3, none⟩ = some (.int .i64 t224) := (blk_cell BK226.out 3).trans rfl; have hcz112_4 : w111.cell? ⟨gb226, 4, none⟩ = some (.int .i64 t225) := (blk_cell BK226.out 4).trans rfl; have hfz112_0 := blk_frozen BK226.out 0; have hfz112_1 := blk_frozen BK226.out 1; have hfz112_2 := blk_frozen BK226.out 2; have hfz112_3 := blk_frozen BK226.out 3; have hfz112_4 := blk_frozen BK226.out 4) | (go_at_call 55; (with_reducible refine (impl_DaysIn.calls kj23 t221 13 t252 _ A101.out).mono ?_); rintro e w' ⟨rfl, ⟨nd, rfl⟩⟩))
                        go_ret
                        exact ⟨by first | rfl | (simp [errW_none, errW_some] <;> rfl) | (simp [*, errW_none, errW_some] <;> rfl), by repeat (first | (with_reducible first | exact HB.out | apply lA | apply lN | apply lD | refine lS ?_ GE226.out | refine lS ?_ GE237.out | refine lS ?_ GE240.out) | exact HB.out)⟩
                      · rw [if_neg c100] at H
                        exact absurd H (by simp)
                    case' L11n =>
                      replace c99 := Bool.eq_false_iff.mpr c99
                      subst c99
                      have H1 : (if t221 = 2100 then ((impl_DaysIn.f kj23 t221 13).bind fun t253 => (some (t253 == 0))) else (if t248 = (wrap64 (t250 + 1440)) then ((impl_DaysIn.f kj23 t221 13).bind fun t253 => (some (t253 == 0))) else (none))) = some r := by rw [if_neg (show ¬ (false = true) by decide)] at H; exact H
                      clear H
                      have H := H1
                      clear H1
                      refine Classical.byCases (p := t221 = 2100) (fun c113 => ?L12p) (fun c113 => ?L12n)
                      case' L12p =>
                        rw [if_pos c113] at H
                        have c113b0 : (t221 == 2100) = true := beq_iff_eq.mpr c113
                        have c113b1 : (t221 != 2100) = false := bne_eq_false_iff_eq.mpr c113
                        clear c113
                        replace H := Option.bind_eq_some_iff.mp H
                        obtain ⟨t253, A1140, H⟩ := H
                        replace H : (some (t253 == 0)) = some r := H
                        have A114 := aM A1140
                        clear A1140
                        obtain rfl := Option.some.inj H
                        have hnb115 := NB226_237.out
                        have hnc115 := NB237_226.out
                        have hcz116_0 : wc.cell? ⟨gb226, 0, none⟩ = some (.int .i64 t221) := (blk_cell BK226.out 0).trans rfl
                        have hcz116_1 : wc.cell? ⟨gb226, 1, none⟩ = some (.int .i64 t222) := (blk_cell BK226.out 1).trans rfl
                        have hcz116_2 : wc.cell? ⟨gb226, 2, none⟩ = some (.int .i64 t223) := (blk_cell BK226.out 2).trans rfl
                        have hcz116_3 : wc.cell? ⟨gb226, 3, none⟩ = some (.int .i64 t224) := (blk_cell BK226.out 3).trans rfl
                        have hcz116_4 : wc.cell? ⟨gb226, 4, none⟩ = some (.int .i64 t225) := (blk_cell BK226.out 4).trans rfl
                        have hfz116_0 := blk_frozen BK226.out 0
                        have hfz116_1 := blk_frozen BK226.out 1
                        have hfz116_2 := blk_frozen BK226.out 2
                        have hfz116_3 := blk_frozen BK226.out 3
                        have hfz116_4 := blk_frozen BK226.out 4
                      case' L12n =>
                        rw [if_neg c113] at H
                        have c113b0 : (t221 == 2100) = false := beq_eq_false_iff_ne.mpr c113
                        have c113b1 : (t221 != 2100) = true := bne_iff_ne.mpr c113
                        refine Classical.byCases (p := t248 = (wrap64 (t250 + 1440))) (fun c127 => ?L13p) (fun c127 => ?L13n)
                        case' L13p =>
                          rw [if_pos c127] at H
                          have c127b0 : (t248 == (wrap64 (t250 + 1440))) = true := beq_iff_eq.mpr c127
                          have c127b1 : (t248 != (wrap64 (t250 + 1440))) = false := bne_eq_false_iff_eq.mpr c127
                          clear c127
                          replace H := Option.bind_eq_some_iff.mp H
                          obtain ⟨t253, A1140, H⟩ := H
                          replace H : (some (t253 == 0)) = some r := H
                          have A114 := aM A1140
                          clear A1140
                          obtain rfl := Option.some.inj H
                          have hnb129 := NB226_237.out
                          have hnc129 := NB237_226.out
                          have hcz130_0 : wc.cell? ⟨gb226, 0, none⟩ = some (.int .i64 t221) := (blk_cell BK226.out 0).trans rfl
                          have hcz130_1 : wc.cell? ⟨gb226, 1, none⟩ = some (.int .i64 t222) := (blk_cell BK226.out 1).trans rfl
                          have hcz130_2 : wc.cell? ⟨gb226, 2, none⟩ = some (.int .i64 t223) := (blk_cell BK226.out 2).trans rfl
                          have hcz130_3 : wc.cell? ⟨gb226, 3, none⟩ = some (.int .i64 t224) := (blk_cell BK226.out 3).trans rfl
                          have hcz130_4 : wc.cell? ⟨gb226, 4, none⟩ = some (.int .i64 t225) := (blk_cell BK226.out 4).trans rfl
                          have hfz130_0 := blk_frozen BK226.out 0
                          have hfz130_1 := blk_frozen BK226.out 1
                          have hfz130_2 := blk_frozen BK226.out 2
                          have hfz130_3 := blk_frozen BK226.out 3
                          have hfz130_4 := blk_frozen BK226.out 4
                        case' L13n =>
                          rw [if_neg c127] at H
                          exact absurd H (by simp)
                case L9p | L9n =>
                  go_wp2_with (first | (with_reducible refine toset ?_; intro wS eS; (try clear hc226_0); (try clear hc226_1); (try clear hc226_2); (try clear hc226_3); (try clear hc226_4); (try clear hc240_0); (try clear hc240_1); (try clear hc240_2); (try clear hc240_3); (try clear hc240_4); (try clear hf226_0); (try clear hf226_1); (try clear hf226_2); (try clear hf226_3); (try clear hf226_4); (try clear hf240_0); (try clear hf240_1); (try clear hf240_2); (try clear hf240_3); (try clear hf240_4); have n0_ := aM (show wS.heap[gb226]? = some (.cells #[.int .i64 t221, .int .i64 t222, .int .i64 t223, .int .i64 t224, .int .i64 t225] 72 (0, 0)) by (rw [eS]; (with_reducible repeat first | apply bN | apply bD | apply bA | refine blk_far ?_ NB226_240.out _); with_reducible exact BK226.out)); have n1_ := aM (show wS.heap[gb237]? = some (.cells #[.int .i64 t231, .int .i64 t232, .int .i64 t233, .int .i64 t234, .int .i64 t235] 72 (0, 0)) by (rw [eS]; (with_reducible repeat first | apply bN | apply bD | apply bA | refine blk_far ?_ NB237_240.out _); with_reducible exact BK237.out)); have n2_ := aM (show wS.heap[gb240]? = some (.cells #[.int .i64 t221, .int .i64 t222, .int .i64 t223, .int .i64 t224, .int .i64 t225] 72 (0, 0)) by (rw [eS]; with_reducible refine blk_put (cs := #[.int .i64 t221, .int .i64 t222, .int .i64 t223, .int .i64 t224, .int .i64 0]) ?_ 4 _ ?e; (case e => first | exact rfl | (simp only [sT, sZ, sU])); (with_reducible repeat first | apply bN | apply bD | apply bA); with_reducible refine blk_put (cs := #[.int .i64 t221, .int .i64 t222, .int .i64 t223, .int .i64 0, .int .i64 0]) ?_ 3 _ ?e; (case e => first | exact rfl | (simp only [sT, sZ, sU])); (with_reducible repeat first | apply bN | apply bD | apply bA); with_reducible refine blk_put (cs := #[.int .i64 t221, .int .i64 t222, .int .i64 0, .int .i64 0, .int .i64 0]) ?_ 2 _ ?e; (case e => first | exact rfl | (simp only [sT, sZ, sU])); (with_reducible repeat first | apply bN | apply bD | apply bA); with_reducible refine blk_put (cs := #[.int .i64 t221, .int .i64 0, .int .i64 0, .int .i64 0, .int .i64 0]) ?_ 1 _ ?e; (case e => first | exact rfl | (simp only [sT, sZ, sU])); (with_reducible repeat first | apply bN | apply bD | apply bA); with_reducible refine blk_put (cs := #[.int .i64 0, .int .i64 0, .int .i64 0, .int .i64 0, .int .i64 0]) ?_ 0 _ ?e; (case e => first | exact rfl | (simp only [sT, sZ, sU])); (with_reducible repeat first | apply bN | apply bD | apply bA); with_reducible exact BK240.out)); have n3_ := aM (show Below w.heap.size w wS by (rw [eS]; (with_reducible repeat first | apply lA | apply lN | apply lD | refine lS ?_ GE240.out); with_reducible exact HB.out)); clear eS BK226 BK237 BK240 HB; have BK226 := n0_; have BK237 := n1_; have BK240 := n2_; have HB := n3_; clear n0_ n1_ n2_ n3_; have hc226_0 := blk_cell BK226.out 0; have hf226_0 := blk_frozen BK226.out 0; have hc226_1 := blk_cell BK226.out 1; have hf226_1 := blk_frozen BK226.out 1; have hc226_2 := blk_cell BK226.out 2; have hf226_2 := blk_frozen BK226.out 2; have hc226_3 := blk_cell BK226.out 3; have hf226_3 := blk_frozen BK226.out 3; have hc226_4 := blk_cell BK226.out 4; have hf226_4 := blk_frozen BK226.out 4; have hc240_0 := blk_cell BK240.out 0; have hf240_0 := blk_frozen BK240.out 0; have hc240_1 := blk_cell BK240.out 1; have hf240_1 := blk_frozen BK240.out 1; have hc240_2 := blk_cell BK240.out 2; have hf240_2 := blk_frozen BK240.out 2; have hc240_3 := blk_cell BK240.out 3; have hf240_3 := blk_frozen BK240.out 3; have hc240_4 := blk_cell BK240.out 4; have hf240_4 := blk_frozen BK240.out 4; simp only [List.getElem?_toArray, List.getElem?_cons_zero, List.getElem?_cons_succ] at hc226_0 hc226_1 hc226_2 hc226_3 hc226_4 hc240_0 hc240_1 hc240_2 hc240_3 hc240_4) | (with_reducible refine toset ?_; intro wS eS; (try clear hc226_0); (try clear hc226_1); (try clear hc226_2); (try clear hc226_3); (try clear hc226_4); (try clear hc240_0); (try clear hc240_1); (try clear hc240_2); (try clear hc240_3); (try clear hc240_4); (try clear hf226_0); (try clear hf226_1); (try clear hf226_2); (try clear hf226_3); (try clear hf226_4); (try clear hf240_0); (try clear hf240_1); (try clear hf240_2); (try clear hf240_3); (try clear hf240_4); have n0_ := aM (show wS.heap[gb226]? = some (.cells #[.int .i64 t221, .int .i64 t222, .int .i64 t223, .int .i64 t224, .int .i64 t225] 72 (0, 0)) by (rw [eS]; (with_reducible repeat first | apply bN | apply bD | apply bA | refine blk_far ?_ NB226_240.out _); with_reducible exact BK226.out)); have n1_ := aM (show wS.heap[gb237]? = some (.cells #[.int .i64 t231, .int .i64 t232, .int .i64 t233, .int .i64 t234, .int .i64 t235] 72 (0, 0)) by (rw [eS]; (with_reducible repeat first | apply bN | apply bD | apply bA | refine blk_far ?_ NB237_240.out _); with_reducible exact BK237.out)); have n2_ := aM (show wS.heap[gb240]? = some (.cells #[.int .i64 t221, .int .i64 t222, .int .i64 1, .int .i64 t224, .int .i64 t225] 72 (0, 0)) by (rw [eS]; with_reducible refine blk_put (cs := #[.int .i64 t221, .int .i64 t222, .int .i64 t223, .int .i64 t224, .int .i64 t225]) ?_ 2 _ ?e; (case e => first | exact rfl | (simp only [sT, sZ, sU])); (with_reducible repeat first | apply bN | apply bD | apply bA); with_reducible exact BK240.out)); have n3_ := aM (show Below w.heap.size w wS by (rw [eS]; (with_reducible repeat first | apply lA | apply lN | apply lD | refine lS ?_ GE240.out); with_reducible exact HB.out)); clear eS BK226 BK237 BK240 HB; have BK226 := n0_; have BK237 := n1_; have BK240 := n2_; have HB := n3_; clear n0_ n1_ n2_ n3_; have hc226_0 := blk_cell BK226.out 0; have hf226_0 := blk_frozen BK226.out 0; have hc226_1 := blk_cell BK226.out 1; have hf226_1 := blk_frozen BK226.out 1; have hc226_2 := blk_cell BK226.out 2; have hf226_2 := blk_frozen BK226.out 2; have hc226_3 := blk_cell BK226.out 3; have hf226_3 := blk_frozen BK226.out 3; have hc226_4 := blk_cell BK226.out 4; have hf226_4 := blk_frozen BK226.out 4; have hc240_0 := blk_cell BK240.out 0; have hf240_0 := blk_frozen BK240.out 0; have hc240_1 := blk_cell BK240.out 1; have hf240_1 := blk_frozen BK240.out 1; have hc240_2 := blk_cell BK240.out 2; have hf240_2 := blk_frozen BK240.out 2; have hc240_3 := blk_cell BK240.out 3; have hf240_3 := blk_frozen BK240.out 3; have hc240_4 := blk_cell BK240.out 4; have hf240_4 := blk_frozen BK240.out 4; simp only [List.getElem?_toArray, List.getElem?_cons_zero, List.getElem?_cons_succ] at hc226_0 hc226_1 hc226_2 hc226_3 hc226_4 hc240_0 hc240_1 hc240_2 hc240_3 hc240_4) | (with_reducible refine toset ?_; intro wS eS; (try clear hc226_0); (try clear hc226_1); (try clear hc226_2); (try clear hc226_3); (try clear hc226_4); (try clear hc240_0); (try clear hc240_1); (try clear hc240_2); (try clear hc240_3); (try clear hc240_4); (try clear hf226_0); (try clear hf226_1); (try clear hf226_2); (try clear hf226_3); (try clear hf226_4); (try clear hf240_0); (try clear hf240_1); (try clear hf240_2); (try clear hf240_3); (try clear hf240_4); have n0_ := aM (show wS.heap[gb226]? = some (.cells #[.int .i64 t221, .int .i64 t222, .int .i64 t223, .int .i64 t224, .int .i64 t225] 72 (0, 0)) by (rw [eS]; (with_reducible repeat first | apply bN | apply bD | apply bA | refine blk_far ?_ NB226_240.out _); with_reducible exact BK226.out)); have n1_ := aM (show wS.heap[gb237]? = some (.cells #[.int .i64 t231, .int .i64 t232, .int .i64 t233, .int .i64 t234, .int .i64 t235] 72 (0, 0)) by (rw [eS]; (with_reducible repeat first | apply bN | apply bD | apply bA | refine blk_far ?_ NB237_240.out _); with_reducible exact BK237.out)); have n2_ := aM (show wS.heap[gb240]? = some (.cells #[.int .i64 t221, .int .i64 (wrap64 ((Int.tmod t222 12) + 1)), .int .i64 1, .int .i64 t224, .int .i64 t225] 72 (0, 0)) by (rw [eS]; with_reducible refine blk_put (cs := #[.int .i64 t221, .int .i64 t222, .int .i64 1, .int .i64 t224, .int .i64 t225]) ?_ 1 _ ?e; (case e => first | exact rfl | (simp only [sT, sZ, sU])); (with_reducible repeat first | apply bN | apply bD | apply bA); with_reducible exact BK240.out)); have n3_ := aM (show Below w.heap.size w wS by (rw [eS]; (with_reducible repeat first | apply lA | apply lN | apply lD | refine lS ?_ GE240.out); with_reducible exact HB.out)); clear eS BK226 BK237 BK240 HB; have BK226 := n0_; have BK237 := n1_; have BK240 := n2_; have HB := n3_; clear n0_ n1_ n2_ n3_; have hc226_0 := blk_cell BK226.out 0; have hf226_0 := blk_frozen BK226.out 0; have hc226_1 := blk_cell BK226.out 1; have hf226_1 := blk_frozen BK226.out 1; have hc226_2 := blk_cell BK226.out 2; have hf226_2 := blk_frozen BK226.out 2; have hc226_3 := blk_cell BK226.out 3; have hf226_3 := blk_frozen BK226.out 3; have hc226_4 := blk_cell BK226.out 4; have hf226_4 := blk_frozen BK226.out 4; have hc240_0 := blk_cell BK240.out 0; have hf240_0 := blk_frozen BK240.out 0; have hc240_1 := blk_cell BK240.out 1; have hf240_1 := blk_frozen BK240.out 1; have hc240_2 := blk_cell BK240.out 2; have hf240_2 := blk_frozen BK240.out 2; have hc240_3 := blk_cell BK240.out 3; have hf240_3 := blk_frozen BK240.out 3; have hc240_4 := blk_cell BK240.out 4; have hf240_4 := blk_frozen BK240.out 4; simp only [List.getElem?_toArray, List.getElem?_cons_zero, List.getElem?_cons_succ] at hc226_0 hc226_1 hc226_2 hc226_3 hc226_4 hc240_0 hc240_1 hc240_2 hc240_3 hc240_4) | (with_reducible refine toset ?_; intro wS eS; (try clear hc226_0); (try clear hc226_1); (try clear hc226_2); (try clear hc226_3); (try clear hc226_4); (try clear hc240_0); (try clear hc240_1); (try clear hc240_2); (try clear hc240_3); (try clear hc240_4); (try clear hf226_0); (try clear hf226_1); (try clear hf226_2); (try clear hf226_3); (try clear hf226_4); (try clear hf240_0); (try clear hf240_1); (try clear hf240_2); (try clear hf240_3); (try clear hf240_4); have n0_ := aM (show wS.heap[gb226]? = some (.cells #[.int .i64 t221, .int .i64 t222, .int .i64 t223, .int .i64 t224, .int .i64 t225] 72 (0, 0)) by (rw [eS]; (with_reducible repeat first | apply bN | apply bD | apply bA | refine blk_far ?_ NB226_240.out _); with_reducible exact BK226.out)); have n1_ := aM (show wS.heap[gb237]? = some (.cells #[.int .i64 t231, .int .i64 t232, .int .i64 t233, .int .i64 t234, .int .i64 t235] 72 (0, 0)) by (rw [eS]; (with_reducible repeat first | apply bN | apply bD | apply bA | refine blk_far ?_ NB237_240.out _); with_reducible exact BK237.out)); have n2_ := aM (show wS.heap[gb240]? = some (.cells #[.int .i64 (wrap64 (t221 + 1)), .int .i64 (wrap64 ((Int.tmod t222 12) + 1)), .int .i64 1, .int .i64 t224, .int .i64 t225] 72 (0, 0)) by (rw [eS]; with_reducible refine blk_put (cs := #[.int .i64 t221, .int .i64 (wrap64 ((Int.tmod t222 12) + 1)), .int .i64 1, .int .i64 t224, .int .i64 t225]) ?_ 0 _ ?e; (case e => first | exact rfl | (simp only [sT, sZ, sU])); (with_reducible repeat first | apply bN | apply bD | apply bA); with_reducible exact BK240.out)); have n3_ := aM (show Below w.heap.size w wS by (rw [eS]; (with_reducible repeat first | apply lA | apply lN | apply lD | refine lS ?_ GE240.out); with_reducible exact HB.out)); clear eS BK226 BK237 BK240 HB; have BK226 := n0_; have BK237 := n1_; have BK240 := n2_; have HB := n3_; clear n0_ n1_ n2_ n3_; have hc226_0 := blk_cell BK226.out 0; have hf226_0 := blk_frozen BK226.out 0; have hc226_1 := blk_cell BK226.out 1; have hf226_1 := blk_frozen BK226.out 1; have hc226_2 := blk_cell BK226.out 2; have hf226_2 := blk_frozen BK226.out 2; have hc226_3 := blk_cell BK226.out 3; have hf226_3 := blk_frozen BK226.out 3; have hc226_4 := blk_cell BK226.out 4; have hf226_4 := blk_frozen BK226.out 4; have hc240_0 := blk_cell BK240.out 0; have hf240_0 := blk_frozen BK240.out 0; have hc240_1 := blk_cell BK240.out 1; have hf240_1 := blk_frozen BK240.out 1; have hc240_2 := blk_cell BK240.out 2; have hf240_2 := blk_frozen BK240.out 2; have hc240_3 := blk_cell BK240.out 3; have hf240_3 := blk_frozen BK240.out 3; have hc240_4 := blk_cell BK240.out 4; have hf240_4 := blk_frozen BK240.out 4; simp only [List.getElem?_toArray, List.getElem?_cons_zero, List.getElem?_cons_succ] at hc226_0 hc226_1 hc226_2 hc226_3 hc226_4 hc240_0 hc240_1 hc240_2 hc240_3 hc240_4) | ((with_reducible refine gate_dst (N := 9) rfl ?_); refine box_event ?hg (N := 9) ?hd (cs := #[.int .i64 0, .int .i64 0, .int .i64 0, .int .i64 0, .int .i64 0]) (t := 72) ?hr ?_; (case hd => rfl); (case hg => rfl); (case hr => first | (go_simp; done) | (go_simp; rfl)); intro gb240 hg w73 hbox hb; have n0_ := aM (blk_below (g := gb226) (o := .cells #[.int .i64 t221, .int .i64 t222, .int .i64 t223, .int .i64 t224, .int .i64 t225] 72 (0, 0)) (by (with_reducible repeat first | apply bN | apply bD | apply bA); exact BK226.out) hb); have n1_ := aM (blk_below (g := gb237) (o := .cells #[.int .i64 t231, .int .i64 t232, .int .i64 t233, .int .i64 t234, .int .i64 t235] 72 (0, 0)) (by (with_reducible repeat first | apply bN | apply bD | apply bA); exact BK237.out) hb); have n2_ := aM (below_step (by repeat (first | (with_reducible first | exact HB.out | apply lA | apply lN | apply lD | refine lS ?_ GE226.out | refine lS ?_ GE237.out) | exact HB.out)) hb); have n3_ := aM (hbox); have n4_ := aM ((by rw [hg]; exact (below_size (by repeat (first | (with_reducible first | exact HB.out | apply lA | apply lN | apply lD | refine lS ?_ GE226.out | refine lS ?_ GE237.out) | exact HB.out))) : w.heap.size ≤ gb240)); have n5_ := aM ((by rw [hg]; exact (below_size (by repeat (first | (with_reducible first | exact HB.out | apply lA | apply lN | apply lD | refine lS ?_ GE226.out | refine lS ?_ GE237.out) | exact HB.out))) : w.heap.size ≤ gb240)); have n6_ := aM ((by rw [hg]; exact Nat.ne_of_lt (blk_lt (g := gb226) (o := .cells #[.int .i64 t221, .int .i64 t222, .int .i64 t223, .int .i64 t224, .int .i64 t225] 72 (0, 0)) (by (with_reducible repeat first | apply bN | apply bD | apply bA); exact BK226.out)) : gb226 ≠ gb240)); have n7_ := aM ((by rw [hg]; exact Nat.ne_of_gt (blk_lt (g := gb226) (o := .cells #[.int .i64 t221, .int .i64 t222, .int .i64 t223, .int .i64 t224, .int .i64 t225] 72 (0, 0)) (by (with_reducible repeat first | apply bN | apply bD | apply bA); exact BK226.out)) : gb240 ≠ gb226)); have n8_ := aM ((by rw [hg]; exact Nat.ne_of_lt (blk_lt (g := gb237) (o := .cells #[.int .i64 t231, .int .i64 t232, .int .i64 t233, .int .i64 t234, .int .i64 t235] 72 (0, 0)) (by (with_reducible repeat first | apply bN | apply bD | apply bA); exact BK237.out)) : gb237 ≠ gb240)); have n9_ := aM ((by rw [hg]; exact Nat.ne_of_gt (blk_lt (g := gb237) (o := .cells #[.int .i64 t231, .int .i64 t232, .int .i64 t233, .int .i64 t234, .int .i64 t235] 72 (0, 0)) (by (with_reducible repeat first | apply bN | apply bD | apply bA); exact BK237.out)) : gb240 ≠ gb237)); clear BK226; clear BK237; clear HB; have BK226 := n0_; have BK237 := n1_; have HB := n2_; have BK240 := n3_; have GW240 := n4_; have GE240 := n5_; have NB226_240 := n6_; have NB240_226 := n7_; have NB237_240 := n8_; have NB240_237 := n9_; clear n0_ n1_ n2_ n3_ n4_ n5_ n6_ n7_ n8_ n9_; clear hb hbox hg; have hnb74 := NB240_226.out; have hnc74 := NB226_240.out; have hnb75 := NB240_237.out; have hnc75 := NB237_240.out; have hcz76_0 : w73.cell? ⟨gb240, 0, none⟩ = some (.int .i64 0) := (blk_cell BK240.out 0).trans rfl; have hcz76_1 : w73.cell? ⟨gb240, 1, none⟩ = some (.int .i64 0) := (blk_cell BK240.out 1).trans rfl; have hcz76_2 : w73.cell? ⟨gb240, 2, none⟩ = some (.int .i64 0) := (blk_cell BK240.out 2).trans rfl; have hcz76_3 : w73.cell? ⟨gb240, 3, none⟩ = some (.int .i64 0) := (blk_cell BK240.out 3).trans rfl; have hcz76_4 : w73.cell? ⟨gb240, 4, none⟩ = some (.int .i64 0) := (blk_cell BK240.out 4).trans rfl; have hfz76_0 := blk_frozen BK240.out 0; have hfz76_1 := blk_frozen BK240.out 1; have hfz76_2 := blk_frozen BK240.out 2; have hfz76_3 := blk_frozen BK240.out 3; have hfz76_4 := blk_frozen BK240.out 4; have hcz77_0 : w73.cell? ⟨gb226, 0, none⟩ = some (.int .i64 t221) := (blk_cell BK226.out 0).trans rfl; have hcz77_1 : w73.cell? ⟨gb226, 1, none⟩ = some (.int .i64 t222) := (blk_cell BK226.out 1).trans rfl; have hcz77_2 : w73.cell? ⟨gb226, 2, none⟩ = some (.int .i64 t223) := (blk_cell BK226.out 2).trans rfl; have hcz77_3 : w73.cell? ⟨gb226, 3, none⟩ = some (.int .i64 t224) := (blk_cell BK226.out 3).trans rfl; have hcz77_4 : w73.cell? ⟨gb226, 4, none⟩ = some (.int .i64 t225) := (blk_cell BK226.out 4).trans rfl; have hfz77_0 := blk_frozen BK226.out 0; have hfz77_1 := blk_frozen BK226.out 1; have hfz77_2 := blk_frozen BK226.out 2; have hfz77_3 := blk_frozen BK226.out 3; have hfz77_4 := blk_frozen BK226.out 4) | ((with_reducible refine gate_callee (f := 51) rfl ?_); refine goesL_ (some 91) rfl rfl Try.func51 (by kernel_rfl) rfl #[.agg #[.int .i64 (wrap64 (t221 + 1)), .int .i64 (wrap64 ((Int.tmod t222 12) + 1)), .int .i64 1, .int .i64 t224, .int .i64 t225]] rfl (by (try simp only [mT, mC, mN]); first | done | rfl | (simp only [lDr, lTk]; rfl)) ?_; (with_reducible refine (impl_MinuteOf.calls kj23 (wrap64 (t221 + 1)) (wrap64 ((Int.tmod t222 12) + 1)) 1 t224 t225 t241 false _ A53.out).mono ?_); rintro e w78 ⟨rfl, hb⟩; refine ⟨_, rfl, ?_⟩; have n0_ := aM (blk_below (g := gb226) (o := .cells #[.int .i64 t221, .int .i64 t222, .int .i64 t223, .int .i64 t224, .int .i64 t225] 72 (0, 0)) (by (with_reducible repeat first | apply bN | apply bD | apply bA); exact BK226.out) hb); have n1_ := aM (blk_below (g := gb237) (o := .cells #[.int .i64 t231, .int .i64 t232, .int .i64 t233, .int .i64 t234, .int .i64 t235] 72 (0, 0)) (by (with_reducible repeat first | apply bN | apply bD | apply bA); exact BK237.out) hb); have n2_ := aM (blk_below (g := gb240) (o := .cells #[.int .i64 (wrap64 (t221 + 1)), .int .i64 (wrap64 ((Int.tmod t222 12) + 1)), .int .i64 1, .int .i64 t224, .int .i64 t225] 72 (0, 0)) (by (with_reducible repeat first | apply bN | apply bD | apply bA); exact BK240.out) hb); have n3_ := aM (below_step (by repeat (first | (with_reducible first | exact HB.out | apply lA | apply lN | apply lD | refine lS ?_ GE226.out | refine lS ?_ GE237.out | refine lS ?_ GE240.out) | exact HB.out)) hb); clear BK226; clear BK237; clear BK240; clear HB; have BK226 := n0_; have BK237 := n1_; have BK240 := n2_; have HB := n3_; clear n0_ n1_ n2_ n3_; (try clear hb); (try clear hb2); (try clear hk); (try clear hi); have hcz79_0 : w78.cell? ⟨gb226, 0, none⟩ = some (.int .i64 t221) := (blk_cell BK226.out 0).trans rfl; have hcz79_1 : w78.cell? ⟨gb226, 1, none⟩ = some (.int .i64 t222) := (blk_cell BK226.out 1).trans rfl; have hcz79_2 : w78.cell? ⟨gb226, 2, none⟩ = some (.int .i64 t223) := (blk_cell BK226.out 2).trans rfl; have hcz79_3 : w78.cell? ⟨gb226, 3, none⟩ = some (.int .i64 t224) := (blk_cell BK226.out 3).trans rfl; have hcz79_4 : w78.cell? ⟨gb226, 4, none⟩ = some (.int .i64 t225) := (blk_cell BK226.out 4).trans rfl; have hfz79_0 := blk_frozen BK226.out 0; have hfz79_1 := blk_frozen BK226.out 1; have hfz79_2 := blk_frozen BK226.out 2; have hfz79_3 := blk_frozen BK226.out 3; have hfz79_4 := blk_frozen BK226.out 4) | ((with_reducible refine gate_callee (f := 51) rfl ?_); refine goesL_ (some 98) rfl rfl Try.func51 (by kernel_rfl) rfl #[.agg #[.int .i64 t221, .int .i64 t222, .int .i64 t238, .int .i64 t224, .int .i64 t225]] rfl (by (try simp only [mT, mC, mN]); first | done | rfl | (simp only [lDr, lTk]; rfl)) ?_; (with_reducible refine (impl_MinuteOf.calls kj23 t221 t222 t238 t224 t225 t243 t244 _ A54.out).mono ?_); rintro e w80 ⟨rfl, hb⟩; refine ⟨_, rfl, ?_⟩; have n0_ := aM (blk_below (g := gb226) (o := .cells #[.int .i64 t221, .int .i64 t222, .int .i64 t238, .int .i64 t224, .int .i64 t225] 72 (0, 0)) (by (with_reducible repeat first | apply bN | apply bD | apply bA); refine blk_put (cs := #[.int .i64 t221, .int .i64 t222, .int .i64 t223, .int .i64 t224, .int .i64 t225]) ?_ 2 _ rfl; (with_reducible repeat first | apply bN | apply bD | apply bA); exact BK226.out) hb); have n1_ := aM (blk_below (g := gb237) (o := .cells #[.int .i64 t231, .int .i64 t232, .int .i64 t233, .int .i64 t234, .int .i64 t235] 72 (0, 0)) (by (with_reducible repeat first | apply bN | apply bD | apply bA); refine blk_far ?_ NB237_226.out _; (with_reducible repeat first | apply bN | apply bD | apply bA); exact BK237.out) hb); have n2_ := aM (blk_below (g := gb240) (o := .cells #[.int .i64 (wrap64 (t221 + 1)), .int .i64 (wrap64 ((Int.tmod t222 12) + 1)), .int .i64 1, .int .i64 t224, .int .i64 t225] 72 (0, 0)) (by (with_reducible repeat first | apply bN | apply bD | apply bA); refine blk_far ?_ NB240_226.out _; (with_reducible repeat first | apply bN | apply bD | apply bA); exact BK240.out) hb); have n3_ := aM (below_step (by repeat (first | (with_reducible first | exact HB.out | apply lA | apply lN | apply lD | refine lS ?_ GE226.out | refine lS ?_ GE237.out | refine lS ?_ GE240.out) | exact HB.out)) hb); clear BK226; clear BK237; clear BK240; clear HB; have BK226 := n0_; have BK237 := n1_; have BK240 := n2_; have HB := n3_; clear n0_ n1_ n2_ n3_; (try clear hb); (try clear hb2); (try clear hk); (try clear hi); have hcz81_0 : w80.cell? ⟨gb240, 0, none⟩ = some (.int .i64 (wrap64 (t221 + 1))) := (blk_cell BK240.out 0).trans rfl; have hcz81_1 : w80.cell? ⟨gb240, 1, none⟩ = some (.int .i64 (wrap64 ((Int.tmod t222 12) + 1))) := (blk_cell BK240.out 1).trans rfl; have hcz81_2 : w80.cell? ⟨gb240, 2, none⟩ = some (.int .i64 1) := (blk_cell BK240.out 2).trans rfl; have hcz81_3 : w80.cell? ⟨gb240, 3, none⟩ = some (.int .i64 t224) := (blk_cell BK240.out 3).trans rfl; have hcz81_4 : w80.cell? ⟨gb240, 4, none⟩ = some (.int .i64 t225) := (blk_cell BK240.out 4).trans rfl; have hfz81_0 := blk_frozen BK240.out 0; have hfz81_1 := blk_frozen BK240.out 1; have hfz81_2 := blk_frozen BK240.out 2; have hfz81_3 := blk_frozen BK240.out 3; have hfz81_4 := blk_frozen BK240.out 4; have hcz82_0 : w80.cell? ⟨gb226, 0, none⟩ = some (.int .i64 t221) := (blk_cell BK226.out 0).trans rfl; have hcz82_1 : w80.cell? ⟨gb226, 1, none⟩ = some (.int .i64 t222) := (blk_cell BK226.out 1).trans rfl; have hcz82_2 : w80.cell? ⟨gb226, 2, none⟩ = some (.int .i64 t238) := (blk_cell BK226.out 2).trans rfl; have hcz82_3 : w80.cell? ⟨gb226, 3, none⟩ = some (.int .i64 t224) := (blk_cell BK226.out 3).trans rfl; have hcz82_4 : w80.cell? ⟨gb226, 4, none⟩ = some (.int .i64 t225) := (blk_cell BK226.out 4).trans rfl; have hfz82_0 := blk_frozen BK226.out 0; have hfz82_1 := blk_frozen BK226.out 1; have hfz82_2 := blk_frozen BK226.out 2; have hfz82_3 := blk_frozen BK226.out 3; have hfz82_4 := blk_frozen BK226.out 4) | (go_at_call 55; (with_reducible refine (impl_DaysIn.calls kj23 t221 13 t246 _ A70.out).mono ?_); rintro e w' ⟨rfl, ⟨nd, rfl⟩⟩))
                  go_ret
                  exact ⟨by first | rfl | (simp [errW_none, errW_some] <;> rfl) | (simp [*, errW_none, errW_some] <;> rfl), by repeat (first | (with_reducible first | exact HB.out | apply lA | apply lN | apply lD | refine lS ?_ GE226.out | refine lS ?_ GE237.out | refine lS ?_ GE240.out) | exact HB.out)⟩
                case L12p | L12n =>
                  go_wp2_with (first | (with_reducible refine toset ?_; intro wS eS; (try clear hc226_0); (try clear hc226_1); (try clear hc226_2); (try clear hc226_3); (try clear hc226_4); (try clear hc240_0); (try clear hc240_1); (try clear hc240_2); (try clear hc240_3); (try clear hc240_4); (try clear hf226_0); (try clear hf226_1); (try clear hf226_2); (try clear hf226_3); (try clear hf226_4); (try clear hf240_0); (try clear hf240_1); (try clear hf240_2); (try clear hf240_3); (try clear hf240_4); have n0_ := aM (show wS.heap[gb226]? = some (.cells #[.int .i64 t221, .int .i64 t222, .int .i64 t223, .int .i64 t224, .int .i64 t225] 72 (0, 0)) by (rw [eS]; (with_reducible repeat first | apply bN | apply bD | apply bA | refine blk_far ?_ NB226_240.out _); with_reducible exact BK226.out)); have n1_ := aM (show wS.heap[gb237]? = some (.cells #[.int .i64 t231, .int .i64 t232, .int .i64 t233, .int .i64 t234, .int .i64 t235] 72 (0, 0)) by (rw [eS]; (with_reducible repeat first | apply bN | apply bD | apply bA | refine blk_far ?_ NB237_240.out _); with_reducible exact BK237.out)); have n2_ := aM (show wS.heap[gb240]? = some (.cells #[.int .i64 t221, .int .i64 t222, .int .i64 t223, .int .i64 t224, .int .i64 t225] 72 (0, 0)) by (rw [eS]; with_reducible refine blk_put (cs := #[.int .i64 t221, .int .i64 t222, .int .i64 t223, .int .i64 t224, .int .i64 0]) ?_ 4 _ ?e; (case e => first | exact rfl | (simp only [sT, sZ, sU])); (with_reducible repeat first | apply bN | apply bD | apply bA); with_reducible refine blk_put (cs := #[.int .i64 t221, .int .i64 t222, .int .i64 t223, .int .i64 0, .int .i64 0]) ?_ 3 _ ?e; (case e => first | exact rfl | (simp only [sT, sZ, sU])); (with_reducible repeat first | apply bN | apply bD | apply bA); with_reducible refine blk_put (cs := #[.int .i64 t221, .int .i64 t222, .int .i64 0, .int .i64 0, .int .i64 0]) ?_ 2 _ ?e; (case e => first | exact rfl | (simp only [sT, sZ, sU])); (with_reducible repeat first | apply bN | apply bD | apply bA); with_reducible refine blk_put (cs := #[.int .i64 t221, .int .i64 0, .int .i64 0, .int .i64 0, .int .i64 0]) ?_ 1 _ ?e; (case e => first | exact rfl | (simp only [sT, sZ, sU])); (with_reducible repeat first | apply bN | apply bD | apply bA); with_reducible refine blk_put (cs := #[.int .i64 0, .int .i64 0, .int .i64 0, .int .i64 0, .int .i64 0]) ?_ 0 _ ?e; (case e => first | exact rfl | (simp only [sT, sZ, sU])); (with_reducible repeat first | apply bN | apply bD | apply bA); with_reducible exact BK240.out)); have n3_ := aM (show Below w.heap.size w wS by (rw [eS]; (with_reducible repeat first | apply lA | apply lN | apply lD | refine lS ?_ GE240.out); with_reducible exact HB.out)); clear eS BK226 BK237 BK240 HB; have BK226 := n0_; have BK237 := n1_; have BK240 := n2_; have HB := n3_; clear n0_ n1_ n2_ n3_; have hc226_0 := blk_cell BK226.out 0; have hf226_0 := blk_frozen BK226.out 0; have hc226_1 := blk_cell BK226.out 1; have hf226_1 := blk_frozen BK226.out 1; have hc226_2 := blk_cell BK226.out 2; have hf226_2 := blk_frozen BK226.out 2; have hc226_3 := blk_cell BK226.out 3; have hf226_3 := blk_frozen BK226.out 3; have hc226_4 := blk_cell BK226.out 4; have hf226_4 := blk_frozen BK226.out 4; have hc240_0 := blk_cell BK240.out 0; have hf240_0 := blk_frozen BK240.out 0; have hc240_1 := blk_cell BK240.out 1; have hf240_1 := blk_frozen BK240.out 1; have hc240_2 := blk_cell BK240.out 2; have hf240_2 := blk_frozen BK240.out 2; have hc240_3 := blk_cell BK240.out 3; have hf240_3 := blk_frozen BK240.out 3; have hc240_4 := blk_cell BK240.out 4; have hf240_4 := blk_frozen BK240.out 4; simp only [List.getElem?_toArray, List.getElem?_cons_zero, List.getElem?_cons_succ] at hc226_0 hc226_1 hc226_2 hc226_3 hc226_4 hc240_0 hc240_1 hc240_2 hc240_3 hc240_4) | (with_reducible refine toset ?_; intro wS eS; (try clear hc226_0); (try clear hc226_1); (try clear hc226_2); (try clear hc226_3); (try clear hc226_4); (try clear hc240_0); (try clear hc240_1); (try clear hc240_2); (try clear hc240_3); (try clear hc240_4); (try clear hf226_0); (try clear hf226_1); (try clear hf226_2); (try clear hf226_3); (try clear hf226_4); (try clear hf240_0); (try clear hf240_1); (try clear hf240_2); (try clear hf240_3); (try clear hf240_4); have n0_ := aM (show wS.heap[gb226]? = some (.cells #[.int .i64 t221, .int .i64 t222, .int .i64 t223, .int .i64 t224, .int .i64 t225] 72 (0, 0)) by (rw [eS]; (with_reducible repeat first | apply bN | apply bD | apply bA | refine blk_far ?_ NB226_240.out _); with_reducible exact BK226.out)); have n1_ := aM (show wS.heap[gb237]? = some (.cells #[.int .i64 t231, .int .i64 t232, .int .i64 t233, .int .i64 t234, .int .i64 t235] 72 (0, 0)) by (rw [eS]; (with_reducible repeat first | apply bN | apply bD | apply bA | refine blk_far ?_ NB237_240.out _); with_reducible exact BK237.out)); have n2_ := aM (show wS.heap[gb240]? = some (.cells #[.int .i64 t221, .int .i64 t222, .int .i64 1, .int .i64 t224, .int .i64 t225] 72 (0, 0)) by (rw [eS]; with_reducible refine blk_put (cs := #[.int .i64 t221, .int .i64 t222, .int .i64 t223, .int .i64 t224, .int .i64 t225]) ?_ 2 _ ?e; (case e => first | exact rfl | (simp only [sT, sZ, sU])); (with_reducible repeat first | apply bN | apply bD | apply bA); with_reducible exact BK240.out)); have n3_ := aM (show Below w.heap.size w wS by (rw [eS]; (with_reducible repeat first | apply lA | apply lN | apply lD | refine lS ?_ GE240.out); with_reducible exact HB.out)); clear eS BK226 BK237 BK240 HB; have BK226 := n0_; have BK237 := n1_; have BK240 := n2_; have HB := n3_; clear n0_ n1_ n2_ n3_; have hc226_0 := blk_cell BK226.out 0; have hf226_0 := blk_frozen BK226.out 0; have hc226_1 := blk_cell BK226.out 1; have hf226_1 := blk_frozen BK226.out 1; have hc226_2 := blk_cell BK226.out 2; have hf226_2 := blk_frozen BK226.out 2; have hc226_3 := blk_cell BK226.out 3; have hf226_3 := blk_frozen BK226.out 3; have hc226_4 := blk_cell BK226.out 4; have hf226_4 := blk_frozen BK226.out 4; have hc240_0 := blk_cell BK240.out 0; have hf240_0 := blk_frozen BK240.out 0; have hc240_1 := blk_cell BK240.out 1; have hf240_1 := blk_frozen BK240.out 1; have hc240_2 := blk_cell BK240.out 2; have hf240_2 := blk_frozen BK240.out 2; have hc240_3 := blk_cell BK240.out 3; have hf240_3 := blk_frozen BK240.out 3; have hc240_4 := blk_cell BK240.out 4; have hf240_4 := blk_frozen BK240.out 4; simp only [List.getElem?_toArray, List.getElem?_cons_zero, List.getElem?_cons_succ] at hc226_0 hc226_1 hc226_2 hc226_3 hc226_4 hc240_0 hc240_1 hc240_2 hc240_3 hc240_4) | (with_reducible refine toset ?_; intro wS eS; (try clear hc226_0); (try clear hc226_1); (try clear hc226_2); (try clear hc226_3); (try clear hc226_4); (try clear hc240_0); (try clear hc240_1); (try clear hc240_2); (try clear hc240_3); (try clear hc240_4); (try clear hf226_0); (try clear hf226_1); (try clear hf226_2); (try clear hf226_3); (try clear hf226_4); (try clear hf240_0); (try clear hf240_1); (try clear hf240_2); (try clear hf240_3); (try clear hf240_4); have n0_ := aM (show wS.heap[gb226]? = some (.cells #[.int .i64 t221, .int .i64 t222, .int .i64 t223, .int .i64 t224, .int .i64 t225] 72 (0, 0)) by (rw [eS]; (with_reducible repeat first | apply bN | apply bD | apply bA | refine blk_far ?_ NB226_240.out _); with_reducible exact BK226.out)); have n1_ := aM (show wS.heap[gb237]? = some (.cells #[.int .i64 t231, .int .i64 t232, .int .i64 t233, .int .i64 t234, .int .i64 t235] 72 (0, 0)) by (rw [eS]; (with_reducible repeat first | apply bN | apply bD | apply bA | refine blk_far ?_ NB237_240.out _); with_reducible exact BK237.out)); have n2_ := aM (show wS.heap[gb240]? = some (.cells #[.int .i64 t221, .int .i64 (wrap64 ((Int.tmod t222 12) + 1)), .int .i64 1, .int .i64 t224, .int .i64 t225] 72 (0, 0)) by (rw [eS]; with_reducible refine blk_put (cs := #[.int .i64 t221, .int .i64 t222, .int .i64 1, .int .i64 t224, .int .i64 t225]) ?_ 1 _ ?e; (case e => first | exact rfl | (simp only [sT, sZ, sU])); (with_reducible repeat first | apply bN | apply bD | apply bA); with_reducible exact BK240.out)); have n3_ := aM (show Below w.heap.size w wS by (rw [eS]; (with_reducible repeat first | apply lA | apply lN | apply lD | refine lS ?_ GE240.out); with_reducible exact HB.out)); clear eS BK226 BK237 BK240 HB; have BK226 := n0_; have BK237 := n1_; have BK240 := n2_; have HB := n3_; clear n0_ n1_ n2_ n3_; have hc226_0 := blk_cell BK226.out 0; have hf226_0 := blk_frozen BK226.out 0; have hc226_1 := blk_cell BK226.out 1; have hf226_1 := blk_frozen BK226.out 1; have hc226_2 := blk_cell BK226.out 2; have hf226_2 := blk_frozen BK226.out 2; have hc226_3 := blk_cell BK226.out 3; have hf226_3 := blk_frozen BK226.out 3; have hc226_4 := blk_cell BK226.out 4; have hf226_4 := blk_frozen BK226.out 4; have hc240_0 := blk_cell BK240.out 0; have hf240_0 := blk_frozen BK240.out 0; have hc240_1 := blk_cell BK240.out 1; have hf240_1 := blk_frozen BK240.out 1; have hc240_2 := blk_cell BK240.out 2; have hf240_2 := blk_frozen BK240.out 2; have hc240_3 := blk_cell BK240.out 3; have hf240_3 := blk_frozen BK240.out 3; have hc240_4 := blk_cell BK240.out 4; have hf240_4 := blk_frozen BK240.out 4; simp only [List.getElem?_toArray, List.getElem?_cons_zero, List.getElem?_cons_succ] at hc226_0 hc226_1 hc226_2 hc226_3 hc226_4 hc240_0 hc240_1 hc240_2 hc240_3 hc240_4) | (with_reducible refine toset ?_; intro wS eS; (try clear hc226_0); (try clear hc226_1); (try clear hc226_2); (try clear hc226_3); (try clear hc226_4); (try clear hc240_0); (try clear hc240_1); (try clear hc240_2); (try clear hc240_3); (try clear hc240_4); (try clear hf226_0); (try clear hf226_1); (try clear hf226_2); (try clear hf226_3); (try clear hf226_4); (try clear hf240_0); (try clear hf240_1); (try clear hf240_2); (try clear hf240_3); (try clear hf240_4); have n0_ := aM (show wS.heap[gb226]? = some (.cells #[.int .i64 t221, .int .i64 t222, .int .i64 t223, .int .i64 t224, .int .i64 t225] 72 (0, 0)) by (rw [eS]; (with_reducible repeat first | apply bN | apply bD | apply bA | refine blk_far ?_ NB226_240.out _); with_reducible exact BK226.out)); have n1_ := aM (show wS.heap[gb237]? = some (.cells #[.int .i64 t231, .int .i64 t232, .int .i64 t233, .int .i64 t234, .int .i64 t235] 72 (0, 0)) by (rw [eS]; (with_reducible repeat first | apply bN | apply bD | apply bA | refine blk_far ?_ NB237_240.out _); with_reducible exact BK237.out)); have n2_ := aM (show wS.heap[gb240]? = some (.cells #[.int .i64 (wrap64 (t221 + 1)), .int .i64 (wrap64 ((Int.tmod t222 12) + 1)), .int .i64 1, .int .i64 t224, .int .i64 t225] 72 (0, 0)) by (rw [eS]; with_reducible refine blk_put (cs := #[.int .i64 t221, .int .i64 (wrap64 ((Int.tmod t222 12) + 1)), .int .i64 1, .int .i64 t224, .int .i64 t225]) ?_ 0 _ ?e; (case e => first | exact rfl | (simp only [sT, sZ, sU])); (with_reducible repeat first | apply bN | apply bD | apply bA); with_reducible exact BK240.out)); have n3_ := aM (show Below w.heap.size w wS by (rw [eS]; (with_reducible repeat first | apply lA | apply lN | apply lD | refine lS ?_ GE240.out); with_reducible exact HB.out)); clear eS BK226 BK237 BK240 HB; have BK226 := n0_; have BK237 := n1_; have BK240 := n2_; have HB := n3_; clear n0_ n1_ n2_ n3_; have hc226_0 := blk_cell BK226.out 0; have hf226_0 := blk_frozen BK226.out 0; have hc226_1 := blk_cell BK226.out 1; have hf226_1 := blk_frozen BK226.out 1; have hc226_2 := blk_cell BK226.out 2; have hf226_2 := blk_frozen BK226.out 2; have hc226_3 := blk_cell BK226.out 3; have hf226_3 := blk_frozen BK226.out 3; have hc226_4 := blk_cell BK226.out 4; have hf226_4 := blk_frozen BK226.out 4; have hc240_0 := blk_cell BK240.out 0; have hf240_0 := blk_frozen BK240.out 0; have hc240_1 := blk_cell BK240.out 1; have hf240_1 := blk_frozen BK240.out 1; have hc240_2 := blk_cell BK240.out 2; have hf240_2 := blk_frozen BK240.out 2; have hc240_3 := blk_cell BK240.out 3; have hf240_3 := blk_frozen BK240.out 3; have hc240_4 := blk_cell BK240.out 4; have hf240_4 := blk_frozen BK240.out 4; simp only [List.getElem?_toArray, List.getElem?_cons_zero, List.getElem?_cons_succ] at hc226_0 hc226_1 hc226_2 hc226_3 hc226_4 hc240_0 hc240_1 hc240_2 hc240_3 hc240_4) | ((with_reducible refine gate_dst (N := 9) rfl ?_); refine box_event ?hg (N := 9) ?hd (cs := #[.int .i64 0, .int .i64 0, .int .i64 0, .int .i64 0, .int .i64 0]) (t := 72) ?hr ?_; (case hd => rfl); (case hg => rfl); (case hr => first | (go_simp; done) | (go_simp; rfl)); intro gb240 hg w117 hbox hb; have n0_ := aM (blk_below (g := gb226) (o := .cells #[.int .i64 t221, .int .i64 t222, .int .i64 t223, .int .i64 t224, .int .i64 t225] 72 (0, 0)) (by (with_reducible repeat first | apply bN | apply bD | apply bA); exact BK226.out) hb); have n1_ := aM (blk_below (g := gb237) (o := .cells #[.int .i64 t231, .int .i64 t232, .int .i64 t233, .int .i64 t234, .int .i64 t235] 72 (0, 0)) (by (with_reducible repeat first | apply bN | apply bD | apply bA); exact BK237.out) hb); have n2_ := aM (below_step (by repeat (first | (with_reducible first | exact HB.out | apply lA | apply lN | apply lD | refine lS ?_ GE226.out | refine lS ?_ GE237.out) | exact HB.out)) hb); have n3_ := aM (hbox); have n4_ := aM ((by rw [hg]; exact (below_size (by repeat (first | (with_reducible first | exact HB.out | apply lA | apply lN | apply lD | refine lS ?_ GE226.out | refine lS ?_ GE237.out) | exact HB.out))) : w.heap.size ≤ gb240)); have n5_ := aM ((by rw [hg]; exact (below_size (by repeat (first | (with_reducible first | exact HB.out | apply lA | apply lN | apply lD | refine lS ?_ GE226.out | refine lS ?_ GE237.out) | exact HB.out))) : w.heap.size ≤ gb240)); have n6_ := aM ((by rw [hg]; exact Nat.ne_of_lt (blk_lt (g := gb226) (o := .cells #[.int .i64 t221, .int .i64 t222, .int .i64 t223, .int .i64 t224, .int .i64 t225] 72 (0, 0)) (by (with_reducible repeat first | apply bN | apply bD | apply bA); exact BK226.out)) : gb226 ≠ gb240)); have n7_ := aM ((by rw [hg]; exact Nat.ne_of_gt (blk_lt (g := gb226) (o := .cells #[.int .i64 t221, .int .i64 t222, .int .i64 t223, .int .i64 t224, .int .i64 t225] 72 (0, 0)) (by (with_reducible repeat first | apply bN | apply bD | apply bA); exact BK226.out)) : gb240 ≠ gb226)); have n8_ := aM ((by rw [hg]; exact Nat.ne_of_lt (blk_lt (g := gb237) (o := .cells #[.int .i64 t231, .int .i64 t232, .int .i64 t233, .int .i64 t234, .int .i64 t235] 72 (0, 0)) (by (with_reducible repeat first | apply bN | apply bD | apply bA); exact BK237.out)) : gb237 ≠ gb240)); have n9_ := aM ((by rw [hg]; exact Nat.ne_of_gt (blk_lt (g := gb237) (o := .cells #[.int .i64 t231, .int .i64 t232, .int .i64 t233, .int .i64 t234, .int .i64 t235] 72 (0, 0)) (by (with_reducible repeat first | apply bN | apply bD | apply bA); exact BK237.out)) : gb240 ≠ gb237)); clear BK226; clear BK237; clear HB; have BK226 := n0_; have BK237 := n1_; have HB := n2_; have BK240 := n3_; have GW240 := n4_; have GE240 := n5_; have NB226_240 := n6_; have NB240_226 := n7_; have NB237_240 := n8_; have NB240_237 := n9_; clear n0_ n1_ n2_ n3_ n4_ n5_ n6_ n7_ n8_ n9_; clear hb hbox hg; have hnb118 := NB240_226.out; have hnc118 := NB226_240.out; have hnb119 := NB240_237.out; have hnc119 := NB237_240.out; have hcz120_0 : w117.cell? ⟨gb240, 0, none⟩ = some (.int .i64 0) := (blk_cell BK240.out 0).trans rfl; have hcz120_1 : w117.cell? ⟨gb240, 1, none⟩ = some (.int .i64 0) := (blk_cell BK240.out 1).trans rfl; have hcz120_2 : w117.cell? ⟨gb240, 2, none⟩ = some (.int .i64 0) := (blk_cell BK240.out 2).trans rfl; have hcz120_3 : w117.cell? ⟨gb240, 3, none⟩ = some (.int .i64 0) := (blk_cell BK240.out 3).trans rfl; have hcz120_4 : w117.cell? ⟨gb240, 4, none⟩ = some (.int .i64 0) := (blk_cell BK240.out 4).trans rfl; have hfz120_0 := blk_frozen BK240.out 0; have hfz120_1 := blk_frozen BK240.out 1; have hfz120_2 := blk_frozen BK240.out 2; have hfz120_3 := blk_frozen BK240.out 3; have hfz120_4 := blk_frozen BK240.out 4; have hcz121_0 : w117.cell? ⟨gb226, 0, none⟩ = some (.int .i64 t221) := (blk_cell BK226.out 0).trans rfl; have hcz121_1 : w117.cell? ⟨gb226, 1, none⟩ = some (.int .i64 t222) := (blk_cell BK226.out 1).trans rfl; have hcz121_2 : w117.cell? ⟨gb226, 2, none⟩ = some (.int .i64 t223) := (blk_cell BK226.out 2).trans rfl; have hcz121_3 : w117.cell? ⟨gb226, 3, none⟩ = some (.int .i64 t224) := (blk_cell BK226.out 3).trans rfl; have hcz121_4 : w117.cell? ⟨gb226, 4, none⟩ = some (.int .i64 t225) := (blk_cell BK226.out 4).trans rfl; have hfz121_0 := blk_frozen BK226.out 0; have hfz121_1 := blk_frozen BK226.out 1; have hfz121_2 := blk_frozen BK226.out 2; have hfz121_3 := blk_frozen BK226.out 3; have hfz121_4 := blk_frozen BK226.out 4) | ((with_reducible refine gate_callee (f := 51) rfl ?_); refine goesL_ (some 91) rfl rfl Try.func51 (by kernel_rfl) rfl #[.agg #[.int .i64 t221, .int .i64 (wrap64 ((Int.tmod t222 12) + 1)), .int .i64 1, .int .i64 t224, .int .i64 t225]] rfl (by (try simp only [mT, mC, mN]); first | done | rfl | (simp only [lDr, lTk]; rfl)) ?_; (with_reducible refine (impl_MinuteOf.calls kj23 t221 (wrap64 ((Int.tmod t222 12) + 1)) 1 t224 t225 t248 false _ A97.out).mono ?_); rintro e w122 ⟨rfl, hb⟩; refine ⟨_, rfl, ?_⟩; have n0_ := aM (blk_below (g := gb226) (o := .cells #[.int .i64 t221, .int .i64 t222, .int .i64 t223, .int .i64 t224, .int .i64 t225] 72 (0, 0)) (by (with_reducible repeat first | apply bN | apply bD | apply bA); exact BK226.out) hb); have n1_ := aM (blk_below (g := gb237) (o := .cells #[.int .i64 t231, .int .i64 t232, .int .i64 t233, .int .i64 t234, .int .i64 t235] 72 (0, 0)) (by (with_reducible repeat first | apply bN | apply bD | apply bA); exact BK237.out) hb); have n2_ := aM (blk_below (g := gb240) (o := .cells #[.int .i64 t221, .int .i64 (wrap64 ((Int.tmod t222 12) + 1)), .int .i64 1, .int .i64 t224, .int .i64 t225] 72 (0, 0)) (by (with_reducible repeat first | apply bN | apply bD | apply bA); exact BK240.out) hb); have n3_ := aM (below_step (by repeat (first | (with_reducible first | exact HB.out | apply lA | apply lN | apply lD | refine lS ?_ GE226.out | refine lS ?_ GE237.out | refine lS ?_ GE240.out) | exact HB.out)) hb); clear BK226; clear BK237; clear BK240; clear HB; have BK226 := n0_; have BK237 := n1_; have BK240 := n2_; have HB := n3_; clear n0_ n1_ n2_ n3_; (try clear hb); (try clear hb2); (try clear hk); (try clear hi); have hcz123_0 : w122.cell? ⟨gb226, 0, none⟩ = some (.int .i64 t221) := (blk_cell BK226.out 0).trans rfl; have hcz123_1 : w122.cell? ⟨gb226, 1, none⟩ = some (.int .i64 t222) := (blk_cell BK226.out 1).trans rfl; have hcz123_2 : w122.cell? ⟨gb226, 2, none⟩ = some (.int .i64 t223) := (blk_cell BK226.out 2).trans rfl; have hcz123_3 : w122.cell? ⟨gb226, 3, none⟩ = some (.int .i64 t224) := (blk_cell BK226.out 3).trans rfl; have hcz123_4 : w122.cell? ⟨gb226, 4, none⟩ = some (.int .i64 t225) := (blk_cell BK226.out 4).trans rfl; have hfz123_0 := blk_frozen BK226.out 0; have hfz123_1 := blk_frozen BK226.out 1; have hfz123_2 := blk_frozen BK226.out 2; have hfz123_3 := blk_frozen BK226.out 3; have hfz123_4 := blk_frozen BK226.out 4) | ((with_reducible refine gate_callee (f := 51) rfl ?_); refine goesL_ (some 98) rfl rfl Try.func51 (by kernel_rfl) rfl #[.agg #[.int .i64 t221, .int .i64 t222, .int .i64 t238, .int .i64 t224, .int .i64 t225]] rfl (by (try simp only [mT, mC, mN]); first | done | rfl | (simp only [lDr, lTk]; rfl)) ?_; (with_reducible refine (impl_MinuteOf.calls kj23 t221 t222 t238 t224 t225 t250 t251 _ A98.out).mono ?_); rintro e w124 ⟨rfl, hb⟩; refine ⟨_, rfl, ?_⟩; have n0_ := aM (blk_below (g := gb226) (o := .cells #[.int .i64 t221, .int .i64 t222, .int .i64 t238, .int .i64 t224, .int .i64 t225] 72 (0, 0)) (by (with_reducible repeat first | apply bN | apply bD | apply bA); refine blk_put (cs := #[.int .i64 t221, .int .i64 t222, .int .i64 t223, .int .i64 t224, .int .i64 t225]) ?_ 2 _ rfl; (with_reducible repeat first | apply bN | apply bD | apply bA); exact BK226.out) hb); have n1_ := aM (blk_below (g := gb237) (o := .cells #[.int .i64 t231, .int .i64 t232, .int .i64 t233, .int .i64 t234, .int .i64 t235] 72 (0, 0)) (by (with_reducible repeat first | apply bN | apply bD | apply bA); refine blk_far ?_ NB237_226.out _; (with_reducible repeat first | apply bN | apply bD | apply bA); exact BK237.out) hb); have n2_ := aM (blk_below (g := gb240) (o := .cells #[.int .i64 t221, .int .i64 (wrap64 ((Int.tmod t222 12) + 1)), .int .i64 1, .int .i64 t224, .int .i64 t225] 72 (0, 0)) (by (with_reducible repeat first | apply bN | apply bD | apply bA); refine blk_far ?_ NB240_226.out _; (with_reducible repeat first | apply bN | apply bD | apply bA); exact BK240.out) hb); have n3_ := aM (below_step (by repeat (first | (with_reducible first | exact HB.out | apply lA | apply lN | apply lD | refine lS ?_ GE226.out | refine lS ?_ GE237.out | refine lS ?_ GE240.out) | exact HB.out)) hb); clear BK226; clear BK237; clear BK240; clear HB; have BK226 := n0_; have BK237 := n1_; have BK240 := n2_; have HB := n3_; clear n0_ n1_ n2_ n3_; (try clear hb); (try clear hb2); (try clear hk); (try clear hi); have hcz125_0 : w124.cell? ⟨gb240, 0, none⟩ = some (.int .i64 t221) := (blk_cell BK240.out 0).trans rfl; have hcz125_1 : w124.cell? ⟨gb240, 1, none⟩ = some (.int .i64 (wrap64 ((Int.tmod t222 12) + 1))) := (blk_cell BK240.out 1).trans rfl; have hcz125_2 : w124.cell? ⟨gb240, 2, none⟩ = some (.int .i64 1) := (blk_cell BK240.out 2).trans rfl; have hcz125_3 : w124.cell? ⟨gb240, 3, none⟩ = some (.int .i64 t224) := (blk_cell BK240.out 3).trans rfl; have hcz125_4 : w124.cell? ⟨gb240, 4, none⟩ = some (.int .i64 t225) := (blk_cell BK240.out 4).trans rfl; have hfz125_0 := blk_frozen BK240.out 0; have hfz125_1 := blk_frozen BK240.out 1; have hfz125_2 := blk_frozen BK240.out 2; have hfz125_3 := blk_frozen BK240.out 3; have hfz125_4 := blk_frozen BK240.out 4; have hcz126_0 : w124.cell? ⟨gb226, 0, none⟩ = some (.int .i64 t221) := (blk_cell BK226.out 0).trans rfl; have hcz126_1 : w124.cell? ⟨gb226, 1, none⟩ = some (.int .i64 t222) := (blk_cell BK226.out 1).trans rfl; have hcz126_2 : w124.cell? ⟨gb226, 2, none⟩ = some (.int .i64 t238) := (blk_cell BK226.out 2).trans rfl; have hcz126_3 : w124.cell? ⟨gb226, 3, none⟩ = some (.int .i64 t224) := (blk_cell BK226.out 3).trans rfl; have hcz126_4 : w124.cell? ⟨gb226, 4, none⟩ = some (.int .i64 t225) := (blk_cell BK226.out 4).trans rfl; have hfz126_0 := blk_frozen BK226.out 0; have hfz126_1 := blk_frozen BK226.out 1; have hfz126_2 := blk_frozen BK226.out 2; have hfz126_3 := blk_frozen BK226.out 3; have hfz126_4 := blk_frozen BK226.out 4) | (go_at_call 55; (with_reducible refine (impl_DaysIn.calls kj23 t221 13 t253 _ A114.out).mono ?_); rintro e w' ⟨rfl, ⟨nd, rfl⟩⟩))
                  go_ret
                  exact ⟨by first | rfl | (simp [errW_none, errW_some] <;> rfl) | (simp [*, errW_none, errW_some] <;> rfl), by repeat (first | (with_reducible first | exact HB.out | apply lA | apply lN | apply lD | refine lS ?_ GE226.out | refine lS ?_ GE237.out | refine lS ?_ GE240.out) | exact HB.out)⟩
          · replace c21 := Bool.eq_false_iff.mpr c21
            subst c21
            have H1 : (some (t227 == 0)) = some r := by rw [if_neg (show ¬ (false = true) by decide)] at H; exact H
            clear H
            have H := H1
            clear H1
            obtain rfl := Option.some.inj H
            go_wp2
            go_ret
            exact ⟨by first | rfl | (simp [errW_none, errW_some] <;> rfl) | (simp [*, errW_none, errW_some] <;> rfl), by repeat (first | (with_reducible first | exact HB.out | apply lA | apply lN | apply lD | refine lS ?_ GE226.out) | exact HB.out)⟩

/-- THE ONE PURE STATEMENT of laws_FnDays: yours. -/
def laws_FnDays.Pure : Prop := ∀ (l0 : List Int), l0.length ≤ maxLen → l0.length * 1 ≤ 140737488351232 → (∀ x ∈ l0, (Lit.int .u8 x).wf = true) → ∃ k, laws_FnDays.f k l0 = some true
theorem laws_FnDays.walk (P : laws_FnDays.Pure) (a0 : Option Addr) (len0 cap0 : Nat) (z0 : List Int) (w : World) (w0 : (a0 = none ∧ len0 = 0 ∧ cap0 = 0 ∧ z0 = []) ∨ ∃ x, a0 = some x ∧ len0 ≤ cap0 ∧ cap0 ≤ maxLen ∧ z0.length = cap0 ∧ (∀ i, i < z0.length → w.cell? (x.add i) = some (.int .u8 (z0.getD i 0))) ∧ ∀ n ∈ z0, (Lit.int .u8 n).wf = true) (y0 : len0 * 1 ≤ 140737488351232) :
    Calls Try.prog 12 #[.slice a0 len0 cap0] w fun e w' => e = .returned (.bool true) ∧ Below w.heap.size w w' := by
  obtain ⟨l0, rfl, hr0, hm0, hw0, hc0⟩ := ReadsInt.ofRowC w0
  obtain ⟨k, h⟩ := P l0 hm0 y0 hw0
  refine (laws_FnDays.calls k _ _ l0 true w (Kd.C_of_reads (d := (0 : Int)) (h1 := fun _ => rfl) hr0) hc0 h).mono ?_
  rintro e w' ⟨rfl, hd⟩
  exact ⟨rfl, hd⟩

end Go.Proofs.Ytidfhfaekdahpaa.QFnDays
