-- Own work (wip/turnprint.py over the kit's print).
import Derived.Test.YtlglildjehcogaaDoorQFnExactCronTextx0
import Derived.Test.YtlglildjehcogaaDoorQFnExactCronTextx1
import Derived.Test.YtlglildjehcogaaDoorQFnExactCronTextx2
import Derived.Test.YtlglildjehcogaaDoorQFnExactCronTextx3
namespace Go.Proofs.YtlglildjehcogaaDoor.QFnExactCronText
open Go.RowKit Go.Proofs.YtlglildjehcogaaDoorW.PrintWords Go.Proofs.YtlglildjehcogaaDoorW.PrintLast Go.Proofs.YtlglildjehcogaaDoorW.PrintMore
attribute [local go_sem] max2_int min2_int max_two min_two max_three min_three max_four min_four   -- for this text's walks alone
set_option linter.unusedVariables false
set_option linter.unusedSimpArgs false

/-! ### laws_FnExactCronText: function 3 -/
def laws_FnExactCronText.f (k : Nat) (l0_0 : List Int) (l0_1 : List Int) (l0_2 : List Int) (l0_3 : List Int) (l0_4 : List Int) : Option (Bool) := (laws_szCron.f l0_0 l0_1 l0_2 l0_3 l0_4 1048576).bind fun t171 => (if t171 < 0 then (some true) else ((laws_toCron.f k l0_0 l0_1 l0_2 l0_3 l0_4).bind fun bt172 => ((spec_CronText.f k bt172.1 bt172.2.1 bt172.2.2.1 bt172.2.2.2.1 bt172.2.2.2.2).bind fun bt187 => ((laws_toCron.f k l0_0 l0_1 l0_2 l0_3 l0_4).bind fun bt189 => ((impl_CronText.f bt189.1 bt189.2.1 bt189.2.2.1 bt189.2.2.2.1 bt189.2.2.2.2).bind fun bt205 => (if bt205.1.toList = bt187.1.toList then (if (bt205.2 != bt187.2) = true then (none) else ((laws_toCron.f k l0_0 l0_1 l0_2 l0_3 l0_4).bind fun bt207 => ((laws_eqCron.f k bt189.1 bt189.2.1 bt189.2.2.1 bt189.2.2.2.1 bt189.2.2.2.2 bt207.1 bt207.2.1 bt207.2.2.1 bt207.2.2.2.1 bt207.2.2.2.2).bind fun t222 => (if t222 = true then (some true) else (none))))) else (none)))))))
theorem laws_FnExactCronText.mono : ∀ a0 a1 a2 a3 a4 k, LeO (laws_FnExactCronText.f k a0 a1 a2 a3 a4) (laws_FnExactCronText.f (k + 1) a0 a1 a2 a3 a4) := by
 intro a0 a1 a2 a3 a4 k
 unfold laws_FnExactCronText.f
 repeat' first
  | (with_reducible exact laws_eqCron.mono _ _ _ _ _ _ _ _ _ _ _)
  | (with_reducible exact laws_toCron.mono _ _ _ _ _ _)
  | (with_reducible exact spec_CronText.mono _ _ _ _ _ _)
  | (with_reducible exact LeO.refl _)
  | (with_reducible exact LeO.none _)
  | (with_reducible refine LeO.ite ?_ ?_)
  | (with_reducible refine LeO.bind ?_ (fun _ => ?_))
  | exact laws_eqCron.mono _ _ _ _ _ _ _ _ _ _ _
  | exact laws_toCron.mono _ _ _ _ _ _
  | exact spec_CronText.mono _ _ _ _ _ _
  | exact LeO.none _
  | refine LeO.ite ?_ ?_
  | refine LeO.bind ?_ (fun _ => ?_)
set_option maxHeartbeats 8000000 in
set_option maxRecDepth 100000 in
theorem laws_FnExactCronText.calls (k : Nat) (A0_0 : Option Addr) (c0_0 : Nat) (l0_0 : List Int) (A0_1 : Option Addr) (c0_1 : Nat) (l0_1 : List Int) (A0_2 : Option Addr) (c0_2 : Nat) (l0_2 : List Int) (A0_3 : Option Addr) (c0_3 : Nat) (l0_3 : List Int) (A0_4 : Option Addr) (c0_4 : Nat) (l0_4 : List Int) (r : Bool) (w : World) (hr0_0 : Kd.C (Kd.int .i64) w A0_0 l0_0.length l0_0) (hc0_0 : l0_0.length ≤ c0_0) (hr0_1 : Kd.C (Kd.int .i64) w A0_1 l0_1.length l0_1) (hc0_1 : l0_1.length ≤ c0_1) (hr0_2 : Kd.C (Kd.int .i64) w A0_2 l0_2.length l0_2) (hc0_2 : l0_2.length ≤ c0_2) (hr0_3 : Kd.C (Kd.int .i64) w A0_3 l0_3.length l0_3) (hc0_3 : l0_3.length ≤ c0_3) (hr0_4 : Kd.C (Kd.int .i64) w A0_4 l0_4.length l0_4) (hc0_4 : l0_4.length ≤ c0_4) (h : laws_FnExactCronText.f k l0_0 l0_1 l0_2 l0_3 l0_4 = some r) :
 Calls Tryd.prog 3 #[.agg #[.slice A0_0 l0_0.length c0_0, .slice A0_1 l0_1.length c0_1, .slice A0_2 l0_2.length c0_2, .slice A0_3 l0_3.length c0_3, .slice A0_4 l0_4.length c0_4]] w fun e w' => e = .returned (.bool r) ∧ Below w.heap.size w w' := by
 have hu24 := Tryd.underlying24
 have hu28 := Tryd.underlying28
 have HR0_0 := aM hr0_0
 have HC0_0 := aM hc0_0
 clear hr0_0 hc0_0
 have HR0_1 := aM hr0_1
 have HC0_1 := aM hc0_1
 clear hr0_1 hc0_1
 have HR0_2 := aM hr0_2
 have HC0_2 := aM hc0_2
 clear hr0_2 hc0_2
 have HR0_3 := aM hr0_3
 have HC0_3 := aM hc0_3
 clear hr0_3 hc0_3
 have HR0_4 := aM hr0_4
 have HC0_4 := aM hc0_4
 clear hr0_4 hc0_4
 have HB := aM (Below.refl w.heap.size w)
 have H : ((laws_szCron.f l0_0 l0_1 l0_2 l0_3 l0_4 1048576).bind fun t171 => (if t171 < 0 then (some true) else ((laws_toCron.f k l0_0 l0_1 l0_2 l0_3 l0_4).bind fun bt172 => ((spec_CronText.f k bt172.1 bt172.2.1 bt172.2.2.1 bt172.2.2.2.1 bt172.2.2.2.2).bind fun bt187 => ((laws_toCron.f k l0_0 l0_1 l0_2 l0_3 l0_4).bind fun bt189 => ((impl_CronText.f bt189.1 bt189.2.1 bt189.2.2.1 bt189.2.2.2.1 bt189.2.2.2.2).bind fun bt205 => (if bt205.1.toList = bt187.1.toList then (if (bt205.2 != bt187.2) = true then (none) else ((laws_toCron.f k l0_0 l0_1 l0_2 l0_3 l0_4).bind fun bt207 => ((laws_eqCron.f k bt189.1 bt189.2.1 bt189.2.2.1 bt189.2.2.2.1 bt189.2.2.2.2 bt207.1 bt207.2.1 bt207.2.2.1 bt207.2.2.2.1 bt207.2.2.2.2).bind fun t222 => (if t222 = true then (some true) else (none))))) else (none)))))))) = some r := h
 clear h
 replace H := Option.bind_eq_some_iff.mp H
 obtain ⟨t171, A20, H⟩ := H
 try dsimp only at H
 have A2 := aM A20
 clear A20
 by_cases c3 : t171 < 0
 ·rw [if_pos c3] at H
  have c3b0 : decide (t171 < 0) = true := decide_eq_true c3
  clear c3
  obtain rfl := Option.some.inj H
  go_enter Tryd.func3, Tryd.ntmps3
  go_wp2_with (first | ((with_reducible refine gate_dst (N := 1) rfl ?_); refine bxE 1 #[.slice A0_0 l0_0.length c0_0, .slice A0_1 l0_1.length c0_1, .slice A0_2 l0_2.length c0_2, .slice A0_3 l0_3.length c0_3, .slice A0_4 l0_4.length c0_4] 24 ?_; intro gb170 hg w4 hbox hb; have BK170 := aM (hbox); have GW170 := szG hg (uL HB); have GE170 := szG hg (uL HB); replace HB := aM (below_step (uL HB) hb); clear hb hbox hg; have hcz5_0 := czA BK170.out 0 (.slice A0_0 l0_0.length c0_0); have hcz5_1 := czA BK170.out 1 (.slice A0_1 l0_1.length c0_1); have hcz5_2 := czA BK170.out 2 (.slice A0_2 l0_2.length c0_2); have hcz5_3 := czA BK170.out 3 (.slice A0_3 l0_3.length c0_3); have hcz5_4 := czA BK170.out 4 (.slice A0_4 l0_4.length c0_4); have hfz5_0 := blk_frozen BK170.out 0; have hfz5_1 := blk_frozen BK170.out 1; have hfz5_2 := blk_frozen BK170.out 2; have hfz5_3 := blk_frozen BK170.out 3; have hfz5_4 := blk_frozen BK170.out 4) | ((with_reducible refine gate_callee (f := 4) rfl ?_); refine gL (some 11) Tryd.func4 #[.agg #[.slice A0_0 l0_0.length c0_0, .slice A0_1 l0_1.length c0_1, .slice A0_2 l0_2.length c0_2, .slice A0_3 l0_3.length c0_3, .slice A0_4 l0_4.length c0_4], .int .i64 1048576] ?_; (with_reducible refine (laws_szCron.calls _ _ l0_0 _ _ l0_1 _ _ l0_2 _ _ l0_3 _ _ l0_4 1048576 t171 _ ?side1 ?side2 ?side3 ?side4 ?side5 ?side6 ?side7 ?side8 ?side9 ?side10 A2.out).mono ?_); (case side1 => exact uC HR0_0 HB); (case side2 => exact HC0_0.out); (case side3 => exact uC HR0_1 HB); (case side4 => exact HC0_1.out); (case side5 => exact uC HR0_2 HB); (case side6 => exact HC0_2.out); (case side7 => exact uC HR0_3 HB); (case side8 => exact HC0_3.out); (case side9 => exact uC HR0_4 HB); (case side10 => exact HC0_4.out); rintro e w6 ⟨rfl, hb⟩; refine ⟨_, rfl, ?_⟩; replace BK170 := blkB BK170 hb; replace HB := aM (below_step (uL HB) hb); try clear hb))
  go_ret
  exact rX HB
 ·rw [if_neg c3] at H
  have c3b0 : decide (t171 < 0) = false := decide_eq_false c3
  clear c3
  replace H := Option.bind_eq_some_iff.mp H
  obtain ⟨⟨t172, t175, t178, t181, t184⟩, A70, H⟩ := H
  try dsimp only at H
  have A7 := aM A70
  clear A70
  replace H := Option.bind_eq_some_iff.mp H
  obtain ⟨⟨t187, t188⟩, A80, H⟩ := H
  try dsimp only at H
  have A8 := aM A80
  clear A80
  replace H := Option.bind_eq_some_iff.mp H
  obtain ⟨⟨t189, t192, t195, t198, t201⟩, A90, H⟩ := H
  try dsimp only at H
  have A9 := aM A90
  clear A90
  replace H := Option.bind_eq_some_iff.mp H
  obtain ⟨⟨t205, t206⟩, A100, H⟩ := H
  try dsimp only at H
  have A10 := aM A100
  clear A100
  by_cases c11 : t205.toList = t187.toList
  ·rw [if_pos c11] at H
   have c11b0 : (t205.toList == t187.toList) = true := beq_iff_eq.mpr c11
   have c11b1 : (t205.toList != t187.toList) = false := bne_eq_false_iff_eq.mpr c11
   clear c11
   by_cases c12 : (t206 != t188) = true
   ·rw [if_pos c12] at H
    exact absurd H (by simp)
   ·rw [if_neg c12] at H
    have c12b0 : (t206 != t188) = false := by simpa using c12
    (try (have c12b1 : decide (t206 = t188) = true := by simpa using c12))
    (try (have c12b2 : (t206 == t188) = true := by simpa using c12))
    clear c12
    replace H := Option.bind_eq_some_iff.mp H
    obtain ⟨⟨t207, t210, t213, t216, t219⟩, A130, H⟩ := H
    try dsimp only at H
    have A13 := aM A130
    clear A130
    replace H := Option.bind_eq_some_iff.mp H
    obtain ⟨t222, A140, H⟩ := H
    replace H : (if t222 = true then (some true) else (none)) = some r := H
    have A14 := aM A140
    clear A140
    by_cases c15 : t222 = true
    ·subst c15
     have H1 : (some true) = some r := by rw [if_pos rfl] at H; exact H
     clear H; have H := H1; clear H1
     obtain rfl := Option.some.inj H
     go_enter Tryd.func3, Tryd.ntmps3
     try go_wp2_with (first | ((with_reducible refine gate_dst (N := 1) rfl ?_); refine bxE 1 #[.slice A0_0 l0_0.length c0_0, .slice A0_1 l0_1.length c0_1, .slice A0_2 l0_2.length c0_2, .slice A0_3 l0_3.length c0_3, .slice A0_4 l0_4.length c0_4] 24 ?_; intro gb170 hg w16 hbox hb; have BK170 := aM (hbox); have GW170 := szG hg (uL HB); have GE170 := szG hg (uL HB); replace HB := aM (below_step (uL HB) hb); clear hb hbox hg; have hcz17_0 := czA BK170.out 0 (.slice A0_0 l0_0.length c0_0); have hcz17_1 := czA BK170.out 1 (.slice A0_1 l0_1.length c0_1); have hcz17_2 := czA BK170.out 2 (.slice A0_2 l0_2.length c0_2); have hcz17_3 := czA BK170.out 3 (.slice A0_3 l0_3.length c0_3); have hcz17_4 := czA BK170.out 4 (.slice A0_4 l0_4.length c0_4); have hfz17_0 := blk_frozen BK170.out 0; have hfz17_1 := blk_frozen BK170.out 1; have hfz17_2 := blk_frozen BK170.out 2; have hfz17_3 := blk_frozen BK170.out 3; have hfz17_4 := blk_frozen BK170.out 4) | ((with_reducible refine gate_callee (f := 4) rfl ?_); refine gL (some 11) Tryd.func4 #[.agg #[.slice A0_0 l0_0.length c0_0, .slice A0_1 l0_1.length c0_1, .slice A0_2 l0_2.length c0_2, .slice A0_3 l0_3.length c0_3, .slice A0_4 l0_4.length c0_4], .int .i64 1048576] ?_; (with_reducible refine (laws_szCron.calls _ _ l0_0 _ _ l0_1 _ _ l0_2 _ _ l0_3 _ _ l0_4 1048576 t171 _ ?side1 ?side2 ?side3 ?side4 ?side5 ?side6 ?side7 ?side8 ?side9 ?side10 A2.out).mono ?_); (case side1 => exact uC HR0_0 HB); (case side2 => exact HC0_0.out); (case side3 => exact uC HR0_1 HB); (case side4 => exact HC0_1.out); (case side5 => exact uC HR0_2 HB); (case side6 => exact HC0_2.out); (case side7 => exact uC HR0_3 HB); (case side8 => exact HC0_3.out); (case side9 => exact uC HR0_4 HB); (case side10 => exact HC0_4.out); rintro e w18 ⟨rfl, hb⟩; refine ⟨_, rfl, ?_⟩; replace BK170 := blkB BK170 hb; replace HB := aM (below_step (uL HB) hb); try clear hb; have hcz19_0 := czA BK170.out 0 (.slice A0_0 l0_0.length c0_0); have hcz19_1 := czA BK170.out 1 (.slice A0_1 l0_1.length c0_1); have hcz19_2 := czA BK170.out 2 (.slice A0_2 l0_2.length c0_2); have hcz19_3 := czA BK170.out 3 (.slice A0_3 l0_3.length c0_3); have hcz19_4 := czA BK170.out 4 (.slice A0_4 l0_4.length c0_4); have hfz19_0 := blk_frozen BK170.out 0; have hfz19_1 := blk_frozen BK170.out 1; have hfz19_2 := blk_frozen BK170.out 2; have hfz19_3 := blk_frozen BK170.out 3; have hfz19_4 := blk_frozen BK170.out 4) | ((with_reducible refine gate_callee (f := 6) rfl ?_); refine gL (some 16) Tryd.func6 #[.agg #[.slice A0_0 l0_0.length c0_0, .slice A0_1 l0_1.length c0_1, .slice A0_2 l0_2.length c0_2, .slice A0_3 l0_3.length c0_3, .slice A0_4 l0_4.length c0_4]] ?_; (with_reducible refine (laws_toCron.calls k _ _ l0_0 _ _ l0_1 _ _ l0_2 _ _ l0_3 _ _ l0_4 t172 t175 t178 t181 t184 _ ?side1 ?side2 ?side3 ?side4 ?side5 ?side6 ?side7 ?side8 ?side9 ?side10 A7.out).mono ?_); (case side1 => exact uC HR0_0 HB); (case side2 => exact HC0_0.out); (case side3 => exact uC HR0_1 HB); (case side4 => exact HC0_1.out); (case side5 => exact uC HR0_2 HB); (case side6 => exact HC0_2.out); (case side7 => exact uC HR0_3 HB); (case side8 => exact HC0_3.out); (case side9 => exact uC HR0_4 HB); (case side10 => exact HC0_4.out); rintro e w20 ⟨v173, v176, v179, v182, v185, rfl, ho0, ho1, ho2, ho3, ho4, hb⟩; refine ⟨_, rfl, ?_⟩; have HO174 := aM (Kd.R_lower ho0 (below_size (uL HB))); have HO177 := aM (Kd.R_lower ho1 (below_size (uL HB))); have HO180 := aM (Kd.R_lower ho2 (below_size (uL HB))); have HO183 := aM (Kd.R_lower ho3 (below_size (uL HB))); have HO186 := aM (Kd.R_lower ho4 (below_size (uL HB))); replace BK170 := blkB BK170 hb; replace HB := aM (below_step (uL HB) hb); try clear hb ho0 ho1 ho2 ho3 ho4; obtain ⟨Ao21, co21, eo21⟩ := Kd.R_slice HO174.out; subst eo21; obtain ⟨Ao22, co22, eo22⟩ := Kd.R_slice HO177.out; subst eo22; obtain ⟨Ao23, co23, eo23⟩ := Kd.R_slice HO180.out; subst eo23; obtain ⟨Ao24, co24, eo24⟩ := Kd.R_slice HO183.out; subst eo24; obtain ⟨Ao25, co25, eo25⟩ := Kd.R_slice HO186.out; subst eo25) | ((with_reducible refine gate_callee (f := 5) rfl ?_); refine gL (some 17) Tryd.func5 #[.agg #[.slice Ao21 t172.length co21, .slice Ao22 t175.length co22, .slice Ao23 t178.length co23, .slice Ao24 t181.length co24, .slice Ao25 t184.length co25]] ?_; (with_reducible refine (spec_CronText.calls k _ _ t172 _ _ t175 _ _ t178 _ _ t181 _ _ t184 t187 t188 _ ?side1 ?side2 ?side3 ?side4 ?side5 ?side6 ?side7 ?side8 ?side9 ?side10 A8.out).mono ?_); (case side1 => repeat (first | exact (Kd.R_reads' HO174.out).2.2 | (with_reducible refine cA ?_ _) | (with_reducible refine cN ?_ _) | (with_reducible refine cD ?_))); (case side2 => exact (Kd.R_reads' HO174.out).2.1); (case side3 => repeat (first | exact (Kd.R_reads' HO177.out).2.2 | (with_reducible refine cA ?_ _) | (with_reducible refine cN ?_ _) | (with_reducible refine cD ?_))); (case side4 => exact (Kd.R_reads' HO177.out).2.1); (case side5 => repeat (first | exact (Kd.R_reads' HO180.out).2.2 | (with_reducible refine cA ?_ _) | (with_reducible refine cN ?_ _) | (with_reducible refine cD ?_))); (case side6 => exact (Kd.R_reads' HO180.out).2.1); (case side7 => repeat (first | exact (Kd.R_reads' HO183.out).2.2 | (with_reducible refine cA ?_ _) | (with_reducible refine cN ?_ _) | (with_reducible refine cD ?_))); (case side8 => exact (Kd.R_reads' HO183.out).2.1); (case side9 => repeat (first | exact (Kd.R_reads' HO186.out).2.2 | (with_reducible refine cA ?_ _) | (with_reducible refine cN ?_ _) | (with_reducible refine cD ?_))); (case side10 => exact (Kd.R_reads' HO186.out).2.1); rintro e w26 ⟨rfl, hb⟩; refine ⟨_, rfl, ?_⟩; replace HO174 := aM (Kd.R_below (uR HO174) hb); replace HO177 := aM (Kd.R_below (uR HO177) hb); replace HO180 := aM (Kd.R_below (uR HO180) hb); replace HO183 := aM (Kd.R_below (uR HO183) hb); replace HO186 := aM (Kd.R_below (uR HO186) hb); replace BK170 := blkB BK170 hb; replace HB := aM (below_step (uL HB) hb); try clear hb; have hcz27_0 := czA BK170.out 0 (.slice A0_0 l0_0.length c0_0); have hcz27_1 := czA BK170.out 1 (.slice A0_1 l0_1.length c0_1); have hcz27_2 := czA BK170.out 2 (.slice A0_2 l0_2.length c0_2); have hcz27_3 := czA BK170.out 3 (.slice A0_3 l0_3.length c0_3); have hcz27_4 := czA BK170.out 4 (.slice A0_4 l0_4.length c0_4); have hfz27_0 := blk_frozen BK170.out 0; have hfz27_1 := blk_frozen BK170.out 1; have hfz27_2 := blk_frozen BK170.out 2; have hfz27_3 := blk_frozen BK170.out 3; have hfz27_4 := blk_frozen BK170.out 4) | ((with_reducible refine gate_callee (f := 6) rfl ?_); refine gL (some 21) Tryd.func6 #[.agg #[.slice A0_0 l0_0.length c0_0, .slice A0_1 l0_1.length c0_1, .slice A0_2 l0_2.length c0_2, .slice A0_3 l0_3.length c0_3, .slice A0_4 l0_4.length c0_4]] ?_; (with_reducible refine (laws_toCron.calls k _ _ l0_0 _ _ l0_1 _ _ l0_2 _ _ l0_3 _ _ l0_4 t189 t192 t195 t198 t201 _ ?side1 ?side2 ?side3 ?side4 ?side5 ?side6 ?side7 ?side8 ?side9 ?side10 A9.out).mono ?_); (case side1 => exact uC HR0_0 HB); (case side2 => exact HC0_0.out); (case side3 => exact uC HR0_1 HB); (case side4 => exact HC0_1.out); (case side5 => exact uC HR0_2 HB); (case side6 => exact HC0_2.out); (case side7 => exact uC HR0_3 HB); (case side8 => exact HC0_3.out); (case side9 => exact uC HR0_4 HB); (case side10 => exact HC0_4.out); rintro e w28 ⟨v190, v193, v196, v199, v202, rfl, ho0, ho1, ho2, ho3, ho4, hb⟩; refine ⟨_, rfl, ?_⟩; have HO191 := aM (Kd.R_lower (Kd.R_new' (Kd.R_new' (Kd.R_new' (Kd.R_new' (Kd.R_new' ho0 (Kd.R_lt (uR HO174))) (Kd.R_lt (uR HO177))) (Kd.R_lt (uR HO180))) (Kd.R_lt (uR HO183))) (Kd.R_lt (uR HO186))) (below_size (uL HB))); have HO194 := aM (Kd.R_lower (Kd.R_new' (Kd.R_new' (Kd.R_new' (Kd.R_new' (Kd.R_new' ho1 (Kd.R_lt (uR HO174))) (Kd.R_lt (uR HO177))) (Kd.R_lt (uR HO180))) (Kd.R_lt (uR HO183))) (Kd.R_lt (uR HO186))) (below_size (uL HB))); have HO197 := aM (Kd.R_lower (Kd.R_new' (Kd.R_new' (Kd.R_new' (Kd.R_new' (Kd.R_new' ho2 (Kd.R_lt (uR HO174))) (Kd.R_lt (uR HO177))) (Kd.R_lt (uR HO180))) (Kd.R_lt (uR HO183))) (Kd.R_lt (uR HO186))) (below_size (uL HB))); have HO200 := aM (Kd.R_lower (Kd.R_new' (Kd.R_new' (Kd.R_new' (Kd.R_new' (Kd.R_new' ho3 (Kd.R_lt (uR HO174))) (Kd.R_lt (uR HO177))) (Kd.R_lt (uR HO180))) (Kd.R_lt (uR HO183))) (Kd.R_lt (uR HO186))) (below_size (uL HB))); have HO203 := aM (Kd.R_lower (Kd.R_new' (Kd.R_new' (Kd.R_new' (Kd.R_new' (Kd.R_new' ho4 (Kd.R_lt (uR HO174))) (Kd.R_lt (uR HO177))) (Kd.R_lt (uR HO180))) (Kd.R_lt (uR HO183))) (Kd.R_lt (uR HO186))) (below_size (uL HB))); replace HO174 := aM (Kd.R_mono (Kd.R_told (Kd.R_told (Kd.R_told (Kd.R_told (Kd.R_told (Kd.R_old (uR HO174) hb) (Kd.R_base ho0)) (Kd.R_base ho1)) (Kd.R_base ho2)) (Kd.R_base ho3)) (Kd.R_base ho4)) (fun _ h_ => h_.1)); replace HO177 := aM (Kd.R_mono (Kd.R_told (Kd.R_told (Kd.R_told (Kd.R_told (Kd.R_told (Kd.R_old (uR HO177) hb) (Kd.R_base ho0)) (Kd.R_base ho1)) (Kd.R_base ho2)) (Kd.R_base ho3)) (Kd.R_base ho4)) (fun _ h_ => h_.1)); replace HO180 := aM (Kd.R_mono (Kd.R_told (Kd.R_told (Kd.R_told (Kd.R_told (Kd.R_told (Kd.R_old (uR HO180) hb) (Kd.R_base ho0)) (Kd.R_base ho1)) (Kd.R_base ho2)) (Kd.R_base ho3)) (Kd.R_base ho4)) (fun _ h_ => h_.1)); replace HO183 := aM (Kd.R_mono (Kd.R_told (Kd.R_told (Kd.R_told (Kd.R_told (Kd.R_told (Kd.R_old (uR HO183) hb) (Kd.R_base ho0)) (Kd.R_base ho1)) (Kd.R_base ho2)) (Kd.R_base ho3)) (Kd.R_base ho4)) (fun _ h_ => h_.1)); replace HO186 := aM (Kd.R_mono (Kd.R_told (Kd.R_told (Kd.R_told (Kd.R_told (Kd.R_told (Kd.R_old (uR HO186) hb) (Kd.R_base ho0)) (Kd.R_base ho1)) (Kd.R_base ho2)) (Kd.R_base ho3)) (Kd.R_base ho4)) (fun _ h_ => h_.1)); replace BK170 := blkB BK170 hb; replace HB := aM (below_step (uL HB) hb); try clear hb ho0 ho1 ho2 ho3 ho4) | ((with_reducible refine gate_dst (N := 6) rfl ?_); refine bxE 6 #[.slice none 0 0, .slice none 0 0, .slice none 0 0, .slice none 0 0, .slice none 0 0] 28 ?_; intro gb204 hg w29 hbox hb; have BK204 := aM (hbox); have GW204 := szG hg (uL HB); have GE204 := szG hg (uL HB); have NB170_204 := neL hg BK170; have NB204_170 := neG hg BK170; replace HO174 := aM (Kd.R_below (uR HO174) hb); replace HO177 := aM (Kd.R_below (uR HO177) hb); replace HO180 := aM (Kd.R_below (uR HO180) hb); replace HO183 := aM (Kd.R_below (uR HO183) hb); replace HO186 := aM (Kd.R_below (uR HO186) hb); replace HO191 := aM (Kd.R_below (uR HO191) hb); replace HO194 := aM (Kd.R_below (uR HO194) hb); replace HO197 := aM (Kd.R_below (uR HO197) hb); replace HO200 := aM (Kd.R_below (uR HO200) hb); replace HO203 := aM (Kd.R_below (uR HO203) hb); replace BK170 := blkB BK170 hb; replace HB := aM (below_step (uL HB) hb); clear hb hbox hg; obtain ⟨Ao30, co30, eo30⟩ := Kd.R_slice HO191.out; subst eo30; have hnb31 := NB204_170.out; have hnc31 := NB170_204.out; have hcz32_0 := czA BK204.out 0 (.slice none 0 0); have hcz32_1 := czA BK204.out 1 (.slice none 0 0); have hcz32_2 := czA BK204.out 2 (.slice none 0 0); have hcz32_3 := czA BK204.out 3 (.slice none 0 0); have hcz32_4 := czA BK204.out 4 (.slice none 0 0); have hfz32_0 := blk_frozen BK204.out 0; have hfz32_1 := blk_frozen BK204.out 1; have hfz32_2 := blk_frozen BK204.out 2; have hfz32_3 := blk_frozen BK204.out 3; have hfz32_4 := blk_frozen BK204.out 4; obtain ⟨Ao33, co33, eo33⟩ := Kd.R_slice HO194.out; subst eo33; obtain ⟨Ao34, co34, eo34⟩ := Kd.R_slice HO197.out; subst eo34; obtain ⟨Ao35, co35, eo35⟩ := Kd.R_slice HO200.out; subst eo35; obtain ⟨Ao36, co36, eo36⟩ := Kd.R_slice HO203.out; subst eo36) | ((with_reducible refine gate_callee (f := 7) rfl ?_); refine gL (some 24) Tryd.func7 #[.agg #[.slice Ao30 t189.length co30, .slice Ao33 t192.length co33, .slice Ao34 t195.length co34, .slice Ao35 t198.length co35, .slice Ao36 t201.length co36]] ?_; (with_reducible refine (impl_CronText.calls _ _ t189 _ _ t192 _ _ t195 _ _ t198 _ _ t201 t205 t206 _ ?side1 ?side2 ?side3 ?side4 ?side5 ?side6 ?side7 ?side8 ?side9 ?side10 A10.out).mono ?_); (case side1 => refine (Kd.R_reads' (e := 3) (base := w.heap.size) (ok := fun k_ => ((((((some k_ ≠ (.slice Ao33 t192.length co33 : Value).ownBlock ∧ (some k_ ≠ (.slice Ao34 t195.length co34 : Value).ownBlock ∧ (some k_ ≠ (.slice Ao35 t198.length co35 : Value).ownBlock ∧ some k_ ≠ (.slice Ao36 t201.length co36 : Value).ownBlock))) ∧ some k_ ≠ (.slice Ao21 t172.length co21 : Value).ownBlock) ∧ some k_ ≠ (.slice Ao22 t175.length co22 : Value).ownBlock) ∧ some k_ ≠ (.slice Ao23 t178.length co23 : Value).ownBlock) ∧ some k_ ≠ (.slice Ao24 t181.length co24 : Value).ownBlock) ∧ some k_ ≠ (.slice Ao25 t184.length co25 : Value).ownBlock)) (n := t189.length) (c := co30) ?_).2.2; exact (by (with_reducible repeat first | apply rA | apply rN | apply rD); exact (Kd.R_mono (Kd.R_far (p := ⟨gb204, 4, none⟩) (Kd.R_far (p := ⟨gb204, 3, none⟩) (Kd.R_far (p := ⟨gb204, 2, none⟩) (Kd.R_far (p := ⟨gb204, 1, none⟩) (Kd.R_far (p := ⟨gb204, 0, none⟩) (Kd.R_types HO191.out BK204.out (by decide)) (fun _ hk => hk.2) (.slice Ao30 t189.length co30)) (fun _ hk => hk.2) (.slice Ao33 t192.length co33)) (fun _ hk => hk.2) (.slice Ao34 t195.length co34)) (fun _ hk => hk.2) (.slice Ao35 t198.length co35)) (fun _ hk => hk.2) (.slice Ao36 t201.length co36)) (fun _ h_ => h_.1)))); (case side2 => exact (Kd.R_reads' HO191.out).2.1); (case side3 => refine (Kd.R_reads' (e := 3) (base := w.heap.size) (ok := fun k_ => ((((((some k_ ≠ (.slice Ao30 t189.length co30 : Value).ownBlock ∧ (some k_ ≠ (.slice Ao34 t195.length co34 : Value).ownBlock ∧ (some k_ ≠ (.slice Ao35 t198.length co35 : Value).ownBlock ∧ some k_ ≠ (.slice Ao36 t201.length co36 : Value).ownBlock))) ∧ some k_ ≠ (.slice Ao21 t172.length co21 : Value).ownBlock) ∧ some k_ ≠ (.slice Ao22 t175.length co22 : Value).ownBlock) ∧ some k_ ≠ (.slice Ao23 t178.length co23 : Value).ownBlock) ∧ some k_ ≠ (.slice Ao24 t181.length co24 : Value).ownBlock) ∧ some k_ ≠ (.slice Ao25 t184.length co25 : Value).ownBlock)) (n := t192.length) (c := co33) ?_).2.2; exact (by (with_reducible repeat first | apply rA | apply rN | apply rD); exact (Kd.R_mono (Kd.R_far (p := ⟨gb204, 4, none⟩) (Kd.R_far (p := ⟨gb204, 3, none⟩) (Kd.R_far (p := ⟨gb204, 2, none⟩) (Kd.R_far (p := ⟨gb204, 1, none⟩) (Kd.R_far (p := ⟨gb204, 0, none⟩) (Kd.R_types HO194.out BK204.out (by decide)) (fun _ hk => hk.2) (.slice Ao30 t189.length co30)) (fun _ hk => hk.2) (.slice Ao33 t192.length co33)) (fun _ hk => hk.2) (.slice Ao34 t195.length co34)) (fun _ hk => hk.2) (.slice Ao35 t198.length co35)) (fun _ hk => hk.2) (.slice Ao36 t201.length co36)) (fun _ h_ => h_.1)))); (case side4 => exact (Kd.R_reads' HO194.out).2.1); (case side5 => refine (Kd.R_reads' (e := 3) (base := w.heap.size) (ok := fun k_ => ((((((some k_ ≠ (.slice Ao30 t189.length co30 : Value).ownBlock ∧ (some k_ ≠ (.slice Ao33 t192.length co33 : Value).ownBlock ∧ (some k_ ≠ (.slice Ao35 t198.length co35 : Value).ownBlock ∧ some k_ ≠ (.slice Ao36 t201.length co36 : Value).ownBlock))) ∧ some k_ ≠ (.slice Ao21 t172.length co21 : Value).ownBlock) ∧ some k_ ≠ (.slice Ao22 t175.length co22 : Value).ownBlock) ∧ some k_ ≠ (.slice Ao23 t178.length co23 : Value).ownBlock) ∧ some k_ ≠ (.slice Ao24 t181.length co24 : Value).ownBlock) ∧ some k_ ≠ (.slice Ao25 t184.length co25 : Value).ownBlock)) (n := t195.length) (c := co34) ?_).2.2; exact (by (with_reducible repeat first | apply rA | apply rN | apply rD); exact (Kd.R_mono (Kd.R_far (p := ⟨gb204, 4, none⟩) (Kd.R_far (p := ⟨gb204, 3, none⟩) (Kd.R_far (p := ⟨gb204, 2, none⟩) (Kd.R_far (p := ⟨gb204, 1, none⟩) (Kd.R_far (p := ⟨gb204, 0, none⟩) (Kd.R_types HO197.out BK204.out (by decide)) (fun _ hk => hk.2) (.slice Ao30 t189.length co30)) (fun _ hk => hk.2) (.slice Ao33 t192.length co33)) (fun _ hk => hk.2) (.slice Ao34 t195.length co34)) (fun _ hk => hk.2) (.slice Ao35 t198.length co35)) (fun _ hk => hk.2) (.slice Ao36 t201.length co36)) (fun _ h_ => h_.1)))); (case side6 => exact (Kd.R_reads' HO197.out).2.1); (case side7 => refine (Kd.R_reads' (e := 3) (base := w.heap.size) (ok := fun k_ => ((((((some k_ ≠ (.slice Ao30 t189.length co30 : Value).ownBlock ∧ (some k_ ≠ (.slice Ao33 t192.length co33 : Value).ownBlock ∧ (some k_ ≠ (.slice Ao34 t195.length co34 : Value).ownBlock ∧ some k_ ≠ (.slice Ao36 t201.length co36 : Value).ownBlock))) ∧ some k_ ≠ (.slice Ao21 t172.length co21 : Value).ownBlock) ∧ some k_ ≠ (.slice Ao22 t175.length co22 : Value).ownBlock) ∧ some k_ ≠ (.slice Ao23 t178.length co23 : Value).ownBlock) ∧ some k_ ≠ (.slice Ao24 t181.length co24 : Value).ownBlock) ∧ some k_ ≠ (.slice Ao25 t184.length co25 : Value).ownBlock)) (n := t198.length) (c := co35) ?_).2.2; exact (by (with_reducible repeat first | apply rA | apply rN | apply rD); exact (Kd.R_mono (Kd.R_far (p := ⟨gb204, 4, none⟩) (Kd.R_far (p := ⟨gb204, 3, none⟩) (Kd.R_far (p := ⟨gb204, 2, none⟩) (Kd.R_far (p := ⟨gb204, 1, none⟩) (Kd.R_far (p := ⟨gb204, 0, none⟩) (Kd.R_types HO200.out BK204.out (by decide)) (fun _ hk => hk.2) (.slice Ao30 t189.length co30)) (fun _ hk => hk.2) (.slice Ao33 t192.length co33)) (fun _ hk => hk.2) (.slice Ao34 t195.length co34)) (fun _ hk => hk.2) (.slice Ao35 t198.length co35)) (fun _ hk => hk.2) (.slice Ao36 t201.length co36)) (fun _ h_ => h_.1)))); (case side8 => exact (Kd.R_reads' HO200.out).2.1); (case side9 => refine (Kd.R_reads' (e := 3) (base := w.heap.size) (ok := fun k_ => ((((((some k_ ≠ (.slice Ao30 t189.length co30 : Value).ownBlock ∧ (some k_ ≠ (.slice Ao33 t192.length co33 : Value).ownBlock ∧ (some k_ ≠ (.slice Ao34 t195.length co34 : Value).ownBlock ∧ some k_ ≠ (.slice Ao35 t198.length co35 : Value).ownBlock))) ∧ some k_ ≠ (.slice Ao21 t172.length co21 : Value).ownBlock) ∧ some k_ ≠ (.slice Ao22 t175.length co22 : Value).ownBlock) ∧ some k_ ≠ (.slice Ao23 t178.length co23 : Value).ownBlock) ∧ some k_ ≠ (.slice Ao24 t181.length co24 : Value).ownBlock) ∧ some k_ ≠ (.slice Ao25 t184.length co25 : Value).ownBlock)) (n := t201.length) (c := co36) ?_).2.2; exact (by (with_reducible repeat first | apply rA | apply rN | apply rD); exact (Kd.R_mono (Kd.R_far (p := ⟨gb204, 4, none⟩) (Kd.R_far (p := ⟨gb204, 3, none⟩) (Kd.R_far (p := ⟨gb204, 2, none⟩) (Kd.R_far (p := ⟨gb204, 1, none⟩) (Kd.R_far (p := ⟨gb204, 0, none⟩) (Kd.R_types HO203.out BK204.out (by decide)) (fun _ hk => hk.2) (.slice Ao30 t189.length co30)) (fun _ hk => hk.2) (.slice Ao33 t192.length co33)) (fun _ hk => hk.2) (.slice Ao34 t195.length co34)) (fun _ hk => hk.2) (.slice Ao35 t198.length co35)) (fun _ hk => hk.2) (.slice Ao36 t201.length co36)) (fun _ h_ => h_.1)))); (case side10 => exact (Kd.R_reads' HO203.out).2.1); rintro e w37 ⟨rfl, hb⟩; refine ⟨_, rfl, ?_⟩; replace HO174 := aM (Kd.R_below (by (with_reducible repeat first | apply rA | apply rN | apply rD); exact (Kd.R_mono (Kd.R_far (p := ⟨gb204, 4, none⟩) (Kd.R_far (p := ⟨gb204, 3, none⟩) (Kd.R_far (p := ⟨gb204, 2, none⟩) (Kd.R_far (p := ⟨gb204, 1, none⟩) (Kd.R_far (p := ⟨gb204, 0, none⟩) (Kd.R_types HO174.out BK204.out (by decide)) (fun _ hk => hk.2) (.slice Ao30 t189.length co30)) (fun _ hk => hk.2) (.slice Ao33 t192.length co33)) (fun _ hk => hk.2) (.slice Ao34 t195.length co34)) (fun _ hk => hk.2) (.slice Ao35 t198.length co35)) (fun _ hk => hk.2) (.slice Ao36 t201.length co36)) (fun _ h_ => h_.1))) hb); replace HO177 := aM (Kd.R_below (by (with_reducible repeat first | apply rA | apply rN | apply rD); exact (Kd.R_mono (Kd.R_far (p := ⟨gb204, 4, none⟩) (Kd.R_far (p := ⟨gb204, 3, none⟩) (Kd.R_far (p := ⟨gb204, 2, none⟩) (Kd.R_far (p := ⟨gb204, 1, none⟩) (Kd.R_far (p := ⟨gb204, 0, none⟩) (Kd.R_types HO177.out BK204.out (by decide)) (fun _ hk => hk.2) (.slice Ao30 t189.length co30)) (fun _ hk => hk.2) (.slice Ao33 t192.length co33)) (fun _ hk => hk.2) (.slice Ao34 t195.length co34)) (fun _ hk => hk.2) (.slice Ao35 t198.length co35)) (fun _ hk => hk.2) (.slice Ao36 t201.length co36)) (fun _ h_ => h_.1))) hb); replace HO180 := aM (Kd.R_below (by (with_reducible repeat first | apply rA | apply rN | apply rD); exact (Kd.R_mono (Kd.R_far (p := ⟨gb204, 4, none⟩) (Kd.R_far (p := ⟨gb204, 3, none⟩) (Kd.R_far (p := ⟨gb204, 2, none⟩) (Kd.R_far (p := ⟨gb204, 1, none⟩) (Kd.R_far (p := ⟨gb204, 0, none⟩) (Kd.R_types HO180.out BK204.out (by decide)) (fun _ hk => hk.2) (.slice Ao30 t189.length co30)) (fun _ hk => hk.2) (.slice Ao33 t192.length co33)) (fun _ hk => hk.2) (.slice Ao34 t195.length co34)) (fun _ hk => hk.2) (.slice Ao35 t198.length co35)) (fun _ hk => hk.2) (.slice Ao36 t201.length co36)) (fun _ h_ => h_.1))) hb); replace HO183 := aM (Kd.R_below (by (with_reducible repeat first | apply rA | apply rN | apply rD); exact (Kd.R_mono (Kd.R_far (p := ⟨gb204, 4, none⟩) (Kd.R_far (p := ⟨gb204, 3, none⟩) (Kd.R_far (p := ⟨gb204, 2, none⟩) (Kd.R_far (p := ⟨gb204, 1, none⟩) (Kd.R_far (p := ⟨gb204, 0, none⟩) (Kd.R_types HO183.out BK204.out (by decide)) (fun _ hk => hk.2) (.slice Ao30 t189.length co30)) (fun _ hk => hk.2) (.slice Ao33 t192.length co33)) (fun _ hk => hk.2) (.slice Ao34 t195.length co34)) (fun _ hk => hk.2) (.slice Ao35 t198.length co35)) (fun _ hk => hk.2) (.slice Ao36 t201.length co36)) (fun _ h_ => h_.1))) hb); replace HO186 := aM (Kd.R_below (by (with_reducible repeat first | apply rA | apply rN | apply rD); exact (Kd.R_mono (Kd.R_far (p := ⟨gb204, 4, none⟩) (Kd.R_far (p := ⟨gb204, 3, none⟩) (Kd.R_far (p := ⟨gb204, 2, none⟩) (Kd.R_far (p := ⟨gb204, 1, none⟩) (Kd.R_far (p := ⟨gb204, 0, none⟩) (Kd.R_types HO186.out BK204.out (by decide)) (fun _ hk => hk.2) (.slice Ao30 t189.length co30)) (fun _ hk => hk.2) (.slice Ao33 t192.length co33)) (fun _ hk => hk.2) (.slice Ao34 t195.length co34)) (fun _ hk => hk.2) (.slice Ao35 t198.length co35)) (fun _ hk => hk.2) (.slice Ao36 t201.length co36)) (fun _ h_ => h_.1))) hb); replace HO191 := aM (Kd.R_below (by (with_reducible repeat first | apply rA | apply rN | apply rD); exact (Kd.R_mono (Kd.R_far (p := ⟨gb204, 4, none⟩) (Kd.R_far (p := ⟨gb204, 3, none⟩) (Kd.R_far (p := ⟨gb204, 2, none⟩) (Kd.R_far (p := ⟨gb204, 1, none⟩) (Kd.R_far (p := ⟨gb204, 0, none⟩) (Kd.R_types HO191.out BK204.out (by decide)) (fun _ hk => hk.2) (.slice Ao30 t189.length co30)) (fun _ hk => hk.2) (.slice Ao33 t192.length co33)) (fun _ hk => hk.2) (.slice Ao34 t195.length co34)) (fun _ hk => hk.2) (.slice Ao35 t198.length co35)) (fun _ hk => hk.2) (.slice Ao36 t201.length co36)) (fun _ h_ => h_.1))) hb); replace HO194 := aM (Kd.R_below (by (with_reducible repeat first | apply rA | apply rN | apply rD); exact (Kd.R_mono (Kd.R_far (p := ⟨gb204, 4, none⟩) (Kd.R_far (p := ⟨gb204, 3, none⟩) (Kd.R_far (p := ⟨gb204, 2, none⟩) (Kd.R_far (p := ⟨gb204, 1, none⟩) (Kd.R_far (p := ⟨gb204, 0, none⟩) (Kd.R_types HO194.out BK204.out (by decide)) (fun _ hk => hk.2) (.slice Ao30 t189.length co30)) (fun _ hk => hk.2) (.slice Ao33 t192.length co33)) (fun _ hk => hk.2) (.slice Ao34 t195.length co34)) (fun _ hk => hk.2) (.slice Ao35 t198.length co35)) (fun _ hk => hk.2) (.slice Ao36 t201.length co36)) (fun _ h_ => h_.1))) hb); replace HO197 := aM (Kd.R_below (by (with_reducible repeat first | apply rA | apply rN | apply rD); exact (Kd.R_mono (Kd.R_far (p := ⟨gb204, 4, none⟩) (Kd.R_far (p := ⟨gb204, 3, none⟩) (Kd.R_far (p := ⟨gb204, 2, none⟩) (Kd.R_far (p := ⟨gb204, 1, none⟩) (Kd.R_far (p := ⟨gb204, 0, none⟩) (Kd.R_types HO197.out BK204.out (by decide)) (fun _ hk => hk.2) (.slice Ao30 t189.length co30)) (fun _ hk => hk.2) (.slice Ao33 t192.length co33)) (fun _ hk => hk.2) (.slice Ao34 t195.length co34)) (fun _ hk => hk.2) (.slice Ao35 t198.length co35)) (fun _ hk => hk.2) (.slice Ao36 t201.length co36)) (fun _ h_ => h_.1))) hb); replace HO200 := aM (Kd.R_below (by (with_reducible repeat first | apply rA | apply rN | apply rD); exact (Kd.R_mono (Kd.R_far (p := ⟨gb204, 4, none⟩) (Kd.R_far (p := ⟨gb204, 3, none⟩) (Kd.R_far (p := ⟨gb204, 2, none⟩) (Kd.R_far (p := ⟨gb204, 1, none⟩) (Kd.R_far (p := ⟨gb204, 0, none⟩) (Kd.R_types HO200.out BK204.out (by decide)) (fun _ hk => hk.2) (.slice Ao30 t189.length co30)) (fun _ hk => hk.2) (.slice Ao33 t192.length co33)) (fun _ hk => hk.2) (.slice Ao34 t195.length co34)) (fun _ hk => hk.2) (.slice Ao35 t198.length co35)) (fun _ hk => hk.2) (.slice Ao36 t201.length co36)) (fun _ h_ => h_.1))) hb); replace HO203 := aM (Kd.R_below (by (with_reducible repeat first | apply rA | apply rN | apply rD); exact (Kd.R_mono (Kd.R_far (p := ⟨gb204, 4, none⟩) (Kd.R_far (p := ⟨gb204, 3, none⟩) (Kd.R_far (p := ⟨gb204, 2, none⟩) (Kd.R_far (p := ⟨gb204, 1, none⟩) (Kd.R_far (p := ⟨gb204, 0, none⟩) (Kd.R_types HO203.out BK204.out (by decide)) (fun _ hk => hk.2) (.slice Ao30 t189.length co30)) (fun _ hk => hk.2) (.slice Ao33 t192.length co33)) (fun _ hk => hk.2) (.slice Ao34 t195.length co34)) (fun _ hk => hk.2) (.slice Ao35 t198.length co35)) (fun _ hk => hk.2) (.slice Ao36 t201.length co36)) (fun _ h_ => h_.1))) hb); replace BK170 := blkB BK170 hb; replace BK204 := aM (blk_below (g := gb204) (o := .cells #[.slice Ao30 t189.length co30, .slice Ao33 t192.length co33, .slice Ao34 t195.length co34, .slice Ao35 t198.length co35, .slice Ao36 t201.length co36] 28 (0, 0)) (by refine nB ?_; refine blk_put (cs := #[.slice Ao30 t189.length co30, .slice Ao33 t192.length co33, .slice Ao34 t195.length co34, .slice Ao35 t198.length co35, .slice none 0 0]) ?_ 4 _ rfl; refine nB ?_; refine blk_put (cs := #[.slice Ao30 t189.length co30, .slice Ao33 t192.length co33, .slice Ao34 t195.length co34, .slice none 0 0, .slice none 0 0]) ?_ 3 _ rfl; refine nB ?_; refine blk_put (cs := #[.slice Ao30 t189.length co30, .slice Ao33 t192.length co33, .slice none 0 0, .slice none 0 0, .slice none 0 0]) ?_ 2 _ rfl; refine nB ?_; refine blk_put (cs := #[.slice Ao30 t189.length co30, .slice none 0 0, .slice none 0 0, .slice none 0 0, .slice none 0 0]) ?_ 1 _ rfl; refine nB ?_; refine blk_put (cs := #[.slice none 0 0, .slice none 0 0, .slice none 0 0, .slice none 0 0, .slice none 0 0]) ?_ 0 _ rfl; exact nB BK204.out) hb); replace HB := aM (below_step (uL HB) hb); try clear hb))
     replace HO174 := aM (Kd.R_drew HO174.out)
     replace HO177 := aM (Kd.R_drew HO177.out)
     replace HO180 := aM (Kd.R_drew HO180.out)
     replace HO183 := aM (Kd.R_drew HO183.out)
     replace HO186 := aM (Kd.R_drew HO186.out)
     replace HO191 := aM (Kd.R_drew HO191.out)
     replace HO194 := aM (Kd.R_drew HO194.out)
     replace HO197 := aM (Kd.R_drew HO197.out)
     replace HO200 := aM (Kd.R_drew HO200.out)
     replace HO203 := aM (Kd.R_drew HO203.out)
     replace BK170 := aM (blk_drew BK170.out)
     replace BK204 := aM (blk_drew BK204.out)
     replace HB := aM (below_drew1 HB.out)
     refine start_ (n := 5) (S := fun w' => w'.cell? ⟨gb204, 0, none⟩ = some (.slice Ao30 t189.length co30) ∧ w'.cell? ⟨gb204, 1, none⟩ = some (.slice Ao33 t192.length co33) ∧ w'.cell? ⟨gb204, 2, none⟩ = some (.slice Ao34 t195.length co34) ∧ w'.cell? ⟨gb204, 3, none⟩ = some (.slice Ao35 t198.length co35) ∧ w'.cell? ⟨gb204, 4, none⟩ = some (.slice Ao36 t201.length co36) ∧ w'.cell? ⟨gb170, 0, none⟩ = some (.slice A0_0 l0_0.length c0_0) ∧ w'.cell? ⟨gb170, 1, none⟩ = some (.slice A0_1 l0_1.length c0_1) ∧ w'.cell? ⟨gb170, 2, none⟩ = some (.slice A0_2 l0_2.length c0_2) ∧ w'.cell? ⟨gb170, 3, none⟩ = some (.slice A0_3 l0_3.length c0_3) ∧ w'.cell? ⟨gb170, 4, none⟩ = some (.slice A0_4 l0_4.length c0_4)) (ds := []) (bB 5 0) (by kernel_rfl) rfl rfl ⟨(blk_cell BK204.out 0).trans rfl, (blk_cell BK204.out 1).trans rfl, (blk_cell BK204.out 2).trans rfl, (blk_cell BK204.out 3).trans rfl, (blk_cell BK204.out 4).trans rfl, (blk_cell BK170.out 0).trans rfl, (blk_cell BK170.out 1).trans rfl, (blk_cell BK170.out 2).trans rfl, (blk_cell BK170.out 3).trans rfl, (blk_cell BK170.out 4).trans rfl⟩ (fun hHeld => ?_)
     generalize w37.drew = w38 at HO174 HO177 HO180 HO183 HO186 HO191 HO194 HO197 HO200 HO203 BK170 BK204 HB hHeld ⊢
     refine take_ (i := 0) (N := some 35) (v := ?_) (a' := ?_) (bB 5 1) rfl rfl (by kernel_rfl) (fun _ _ _ h => h) (Or.inl ⟨by rfl, ?_⟩) hHeld ?_ ?_
     rotate_left
     ·rintro w' ⟨s0, s1, s2, s3, s4, s5, s6, s7, s8, s9⟩
      go_simp
      with_reducible rfl
     rotate_left
     ·simp only [aP, aQ, sT, sZ, sU, i64_w, i32_w]
      rfl
     refine take_ (i := 1) (N := some 36) (v := ?_) (a' := ?_) (bB 5 3) rfl rfl (by kernel_rfl) (fun _ _ _ h => h) (Or.inl ⟨by rfl, ?_⟩) hHeld ?_ ?_
     rotate_left
     ·rintro w' ⟨s0, s1, s2, s3, s4, s5, s6, s7, s8, s9⟩
      go_simp
      with_reducible rfl
     rotate_left
     ·simp only [aP, aQ, sT, sZ, sU, i64_w, i32_w]
      rfl
     refine one_ (i := 2) (N := some 37) (bB 5 7) rfl rfl (by kernel_rfl) (by decide) (fun K hK => ?_)
     refine gX Tryd.func6 #[.agg #[.slice A0_0 l0_0.length c0_0, .slice A0_1 l0_1.length c0_1, .slice A0_2 l0_2.length c0_2, .slice A0_3 l0_3.length c0_3, .slice A0_4 l0_4.length c0_4]] ?_
     with_reducible refine (laws_toCron.calls k _ _ l0_0 _ _ l0_1 _ _ l0_2 _ _ l0_3 _ _ l0_4 t207 t210 t213 t216 t219 _ ?side1 ?side2 ?side3 ?side4 ?side5 ?side6 ?side7 ?side8 ?side9 ?side10 A13.out).mono ?_
     (case side1 => exact uC HR0_0 HB)
     (case side2 => exact HC0_0.out)
     (case side3 => exact uC HR0_1 HB)
     (case side4 => exact HC0_1.out)
     (case side5 => exact uC HR0_2 HB)
     (case side6 => exact HC0_2.out)
     (case side7 => exact uC HR0_3 HB)
     (case side8 => exact HC0_3.out)
     (case side9 => exact uC HR0_4 HB)
     (case side10 => exact HC0_4.out)
     rintro e w39 ⟨v208, v211, v214, v217, v220, rfl, ho0, ho1, ho2, ho3, ho4, hb⟩
     refine ⟨_, rfl, ?_⟩
     have HO209 := aM (Kd.R_lower (Kd.R_new' (Kd.R_new' (Kd.R_new' (Kd.R_new' (Kd.R_new' (Kd.R_new' (Kd.R_new' (Kd.R_new' (Kd.R_new' (Kd.R_new' ho0 (Kd.R_lt (uR HO174))) (Kd.R_lt (uR HO177))) (Kd.R_lt (uR HO180))) (Kd.R_lt (uR HO183))) (Kd.R_lt (uR HO186))) (Kd.R_lt (uR HO191))) (Kd.R_lt (uR HO194))) (Kd.R_lt (uR HO197))) (Kd.R_lt (uR HO200))) (Kd.R_lt (uR HO203))) (below_size (uL HB)))
     have HO212 := aM (Kd.R_lower (Kd.R_new' (Kd.R_new' (Kd.R_new' (Kd.R_new' (Kd.R_new' (Kd.R_new' (Kd.R_new' (Kd.R_new' (Kd.R_new' (Kd.R_new' ho1 (Kd.R_lt (uR HO174))) (Kd.R_lt (uR HO177))) (Kd.R_lt (uR HO180))) (Kd.R_lt (uR HO183))) (Kd.R_lt (uR HO186))) (Kd.R_lt (uR HO191))) (Kd.R_lt (uR HO194))) (Kd.R_lt (uR HO197))) (Kd.R_lt (uR HO200))) (Kd.R_lt (uR HO203))) (below_size (uL HB)))
     have HO215 := aM (Kd.R_lower (Kd.R_new' (Kd.R_new' (Kd.R_new' (Kd.R_new' (Kd.R_new' (Kd.R_new' (Kd.R_new' (Kd.R_new' (Kd.R_new' (Kd.R_new' ho2 (Kd.R_lt (uR HO174))) (Kd.R_lt (uR HO177))) (Kd.R_lt (uR HO180))) (Kd.R_lt (uR HO183))) (Kd.R_lt (uR HO186))) (Kd.R_lt (uR HO191))) (Kd.R_lt (uR HO194))) (Kd.R_lt (uR HO197))) (Kd.R_lt (uR HO200))) (Kd.R_lt (uR HO203))) (below_size (uL HB)))
     have HO218 := aM (Kd.R_lower (Kd.R_new' (Kd.R_new' (Kd.R_new' (Kd.R_new' (Kd.R_new' (Kd.R_new' (Kd.R_new' (Kd.R_new' (Kd.R_new' (Kd.R_new' ho3 (Kd.R_lt (uR HO174))) (Kd.R_lt (uR HO177))) (Kd.R_lt (uR HO180))) (Kd.R_lt (uR HO183))) (Kd.R_lt (uR HO186))) (Kd.R_lt (uR HO191))) (Kd.R_lt (uR HO194))) (Kd.R_lt (uR HO197))) (Kd.R_lt (uR HO200))) (Kd.R_lt (uR HO203))) (below_size (uL HB)))
     have HO221 := aM (Kd.R_lower (Kd.R_new' (Kd.R_new' (Kd.R_new' (Kd.R_new' (Kd.R_new' (Kd.R_new' (Kd.R_new' (Kd.R_new' (Kd.R_new' (Kd.R_new' ho4 (Kd.R_lt (uR HO174))) (Kd.R_lt (uR HO177))) (Kd.R_lt (uR HO180))) (Kd.R_lt (uR HO183))) (Kd.R_lt (uR HO186))) (Kd.R_lt (uR HO191))) (Kd.R_lt (uR HO194))) (Kd.R_lt (uR HO197))) (Kd.R_lt (uR HO200))) (Kd.R_lt (uR HO203))) (below_size (uL HB)))
     replace HO174 := aM (Kd.R_mono (Kd.R_told (Kd.R_told (Kd.R_told (Kd.R_told (Kd.R_told (Kd.R_old (uR HO174) hb) (Kd.R_base ho0)) (Kd.R_base ho1)) (Kd.R_base ho2)) (Kd.R_base ho3)) (Kd.R_base ho4)) (fun _ h_ => h_.1))
     replace HO177 := aM (Kd.R_mono (Kd.R_told (Kd.R_told (Kd.R_told (Kd.R_told (Kd.R_told (Kd.R_old (uR HO177) hb) (Kd.R_base ho0)) (Kd.R_base ho1)) (Kd.R_base ho2)) (Kd.R_base ho3)) (Kd.R_base ho4)) (fun _ h_ => h_.1))
     replace HO180 := aM (Kd.R_mono (Kd.R_told (Kd.R_told (Kd.R_told (Kd.R_told (Kd.R_told (Kd.R_old (uR HO180) hb) (Kd.R_base ho0)) (Kd.R_base ho1)) (Kd.R_base ho2)) (Kd.R_base ho3)) (Kd.R_base ho4)) (fun _ h_ => h_.1))
     replace HO183 := aM (Kd.R_mono (Kd.R_told (Kd.R_told (Kd.R_told (Kd.R_told (Kd.R_told (Kd.R_old (uR HO183) hb) (Kd.R_base ho0)) (Kd.R_base ho1)) (Kd.R_base ho2)) (Kd.R_base ho3)) (Kd.R_base ho4)) (fun _ h_ => h_.1))
     replace HO186 := aM (Kd.R_mono (Kd.R_told (Kd.R_told (Kd.R_told (Kd.R_told (Kd.R_told (Kd.R_old (uR HO186) hb) (Kd.R_base ho0)) (Kd.R_base ho1)) (Kd.R_base ho2)) (Kd.R_base ho3)) (Kd.R_base ho4)) (fun _ h_ => h_.1))
     replace HO191 := aM (Kd.R_mono (Kd.R_told (Kd.R_told (Kd.R_told (Kd.R_told (Kd.R_told (Kd.R_old (uR HO191) hb) (Kd.R_base ho0)) (Kd.R_base ho1)) (Kd.R_base ho2)) (Kd.R_base ho3)) (Kd.R_base ho4)) (fun _ h_ => h_.1))
     replace HO194 := aM (Kd.R_mono (Kd.R_told (Kd.R_told (Kd.R_told (Kd.R_told (Kd.R_told (Kd.R_old (uR HO194) hb) (Kd.R_base ho0)) (Kd.R_base ho1)) (Kd.R_base ho2)) (Kd.R_base ho3)) (Kd.R_base ho4)) (fun _ h_ => h_.1))
     replace HO197 := aM (Kd.R_mono (Kd.R_told (Kd.R_told (Kd.R_told (Kd.R_told (Kd.R_told (Kd.R_old (uR HO197) hb) (Kd.R_base ho0)) (Kd.R_base ho1)) (Kd.R_base ho2)) (Kd.R_base ho3)) (Kd.R_base ho4)) (fun _ h_ => h_.1))
     replace HO200 := aM (Kd.R_mono (Kd.R_told (Kd.R_told (Kd.R_told (Kd.R_told (Kd.R_told (Kd.R_old (uR HO200) hb) (Kd.R_base ho0)) (Kd.R_base ho1)) (Kd.R_base ho2)) (Kd.R_base ho3)) (Kd.R_base ho4)) (fun _ h_ => h_.1))
     replace HO203 := aM (Kd.R_mono (Kd.R_told (Kd.R_told (Kd.R_told (Kd.R_told (Kd.R_told (Kd.R_old (uR HO203) hb) (Kd.R_base ho0)) (Kd.R_base ho1)) (Kd.R_base ho2)) (Kd.R_base ho3)) (Kd.R_base ho4)) (fun _ h_ => h_.1))
     replace BK170 := blkB BK170 hb
     replace BK204 := blkB BK204 hb
     replace HB := aM (below_step (uL HB) hb)
     (try clear hb)
     (try clear hb2)
     (try clear hk)
     (try clear hi)
     (try clear ho0)
     (try clear ho1)
     (try clear ho2)
     (try clear ho3)
     (try clear ho4)
     obtain ⟨Ao40, co40, eo40⟩ := Kd.R_slice HO209.out
     (first | subst eo40 | (injection eo40 with f1_ f2_ f3_; have f4_ := f1_.symm; have f5_ := f3_.symm; clear f1_ f2_ f3_; subst f4_; subst f5_))
     obtain ⟨Ao41, co41, eo41⟩ := Kd.R_slice HO212.out
     (first | subst eo41 | (injection eo41 with f1_ f2_ f3_; have f4_ := f1_.symm; have f5_ := f3_.symm; clear f1_ f2_ f3_; subst f4_; subst f5_))
     obtain ⟨Ao42, co42, eo42⟩ := Kd.R_slice HO215.out
     (first | subst eo42 | (injection eo42 with f1_ f2_ f3_; have f4_ := f1_.symm; have f5_ := f3_.symm; clear f1_ f2_ f3_; subst f4_; subst f5_))
     obtain ⟨Ao43, co43, eo43⟩ := Kd.R_slice HO218.out
     (first | subst eo43 | (injection eo43 with f1_ f2_ f3_; have f4_ := f1_.symm; have f5_ := f3_.symm; clear f1_ f2_ f3_; subst f4_; subst f5_))
     obtain ⟨Ao44, co44, eo44⟩ := Kd.R_slice HO221.out
     (first | subst eo44 | (injection eo44 with f1_ f2_ f3_; have f4_ := f1_.symm; have f5_ := f3_.symm; clear f1_ f2_ f3_; subst f4_; subst f5_))
     refine hK.out _ _ ⟨(blk_cell BK204.out 0).trans rfl, (blk_cell BK204.out 1).trans rfl, (blk_cell BK204.out 2).trans rfl, (blk_cell BK204.out 3).trans rfl, (blk_cell BK204.out 4).trans rfl, (blk_cell BK170.out 0).trans rfl, (blk_cell BK170.out 1).trans rfl, (blk_cell BK170.out 2).trans rfl, (blk_cell BK170.out 3).trans rfl, (blk_cell BK170.out 4).trans rfl⟩ (fun hHeld => ?_)
     clear hK K
     refine nX 37 ?_
     refine one_ (i := 3) (N := some 38) (bB 5 15) rfl rfl (by kernel_rfl) (by decide) (fun K hK => ?_)
     refine gX Tryd.func8 #[.agg #[.slice Ao30 t189.length co30, .slice Ao33 t192.length co33, .slice Ao34 t195.length co34, .slice Ao35 t198.length co35, .slice Ao36 t201.length co36], .agg #[.slice Ao40 t207.length co40, .slice Ao41 t210.length co41, .slice Ao42 t213.length co42, .slice Ao43 t216.length co43, .slice Ao44 t219.length co44]] ?_
     with_reducible refine (laws_eqCron.calls k _ _ t189 _ _ t192 _ _ t195 _ _ t198 _ _ t201 _ _ t207 _ _ t210 _ _ t213 _ _ t216 _ _ t219 true _ ?side1 ?side2 ?side3 ?side4 ?side5 ?side6 ?side7 ?side8 ?side9 ?side10 ?side11 ?side12 ?side13 ?side14 ?side15 ?side16 ?side17 ?side18 ?side19 ?side20 A14.out).mono ?_
     (case side1 => repeat (first | exact (Kd.R_reads' HO191.out).2.2 | (with_reducible refine cA ?_ _) | (with_reducible refine cN ?_ _) | (with_reducible refine cD ?_)))
     (case side2 => exact (Kd.R_reads' HO191.out).2.1)
     (case side3 => repeat (first | exact (Kd.R_reads' HO194.out).2.2 | (with_reducible refine cA ?_ _) | (with_reducible refine cN ?_ _) | (with_reducible refine cD ?_)))
     (case side4 => exact (Kd.R_reads' HO194.out).2.1)
     (case side5 => repeat (first | exact (Kd.R_reads' HO197.out).2.2 | (with_reducible refine cA ?_ _) | (with_reducible refine cN ?_ _) | (with_reducible refine cD ?_)))
     (case side6 => exact (Kd.R_reads' HO197.out).2.1)
     (case side7 => repeat (first | exact (Kd.R_reads' HO200.out).2.2 | (with_reducible refine cA ?_ _) | (with_reducible refine cN ?_ _) | (with_reducible refine cD ?_)))
     (case side8 => exact (Kd.R_reads' HO200.out).2.1)
     (case side9 => repeat (first | exact (Kd.R_reads' HO203.out).2.2 | (with_reducible refine cA ?_ _) | (with_reducible refine cN ?_ _) | (with_reducible refine cD ?_)))
     (case side10 => exact (Kd.R_reads' HO203.out).2.1)
     (case side11 => repeat (first | exact (Kd.R_reads' HO209.out).2.2 | (with_reducible refine cA ?_ _) | (with_reducible refine cN ?_ _) | (with_reducible refine cD ?_)))
     (case side12 => exact (Kd.R_reads' HO209.out).2.1)
     (case side13 => repeat (first | exact (Kd.R_reads' HO212.out).2.2 | (with_reducible refine cA ?_ _) | (with_reducible refine cN ?_ _) | (with_reducible refine cD ?_)))
     (case side14 => exact (Kd.R_reads' HO212.out).2.1)
     (case side15 => repeat (first | exact (Kd.R_reads' HO215.out).2.2 | (with_reducible refine cA ?_ _) | (with_reducible refine cN ?_ _) | (with_reducible refine cD ?_)))
     (case side16 => exact (Kd.R_reads' HO215.out).2.1)
     (case side17 => repeat (first | exact (Kd.R_reads' HO218.out).2.2 | (with_reducible refine cA ?_ _) | (with_reducible refine cN ?_ _) | (with_reducible refine cD ?_)))
     (case side18 => exact (Kd.R_reads' HO218.out).2.1)
     (case side19 => repeat (first | exact (Kd.R_reads' HO221.out).2.2 | (with_reducible refine cA ?_ _) | (with_reducible refine cN ?_ _) | (with_reducible refine cD ?_)))
     (case side20 => exact (Kd.R_reads' HO221.out).2.1)
     rintro e w45 ⟨rfl, hb⟩
     refine ⟨_, rfl, ?_⟩
     replace HO174 := aM (Kd.R_below (uR HO174) hb)
     replace HO177 := aM (Kd.R_below (uR HO177) hb)
     replace HO180 := aM (Kd.R_below (uR HO180) hb)
     replace HO183 := aM (Kd.R_below (uR HO183) hb)
     replace HO186 := aM (Kd.R_below (uR HO186) hb)
     replace HO191 := aM (Kd.R_below (uR HO191) hb)
     replace HO194 := aM (Kd.R_below (uR HO194) hb)
     replace HO197 := aM (Kd.R_below (uR HO197) hb)
     replace HO200 := aM (Kd.R_below (uR HO200) hb)
     replace HO203 := aM (Kd.R_below (uR HO203) hb)
     replace HO209 := aM (Kd.R_below (uR HO209) hb)
     replace HO212 := aM (Kd.R_below (uR HO212) hb)
     replace HO215 := aM (Kd.R_below (uR HO215) hb)
     replace HO218 := aM (Kd.R_below (uR HO218) hb)
     replace HO221 := aM (Kd.R_below (uR HO221) hb)
     replace BK170 := blkB BK170 hb
     replace BK204 := blkB BK204 hb
     replace HB := aM (below_step (uL HB) hb)
     (try clear hb)
     (try clear hb2)
     (try clear hk)
     (try clear hi)
     refine hK.out _ _ ⟨(blk_cell BK204.out 0).trans rfl, (blk_cell BK204.out 1).trans rfl, (blk_cell BK204.out 2).trans rfl, (blk_cell BK204.out 3).trans rfl, (blk_cell BK204.out 4).trans rfl, (blk_cell BK170.out 0).trans rfl, (blk_cell BK170.out 1).trans rfl, (blk_cell BK170.out 2).trans rfl, (blk_cell BK170.out 3).trans rfl, (blk_cell BK170.out 4).trans rfl⟩ (fun hHeld => ?_)
     clear hK K
     refine nX 38 ?_
     refine pX 4 39 (bB 5 31) (by kernel_rfl) ?_
     refine done_ (by kernel_rfl) ?_
     try go_wp2
     go_ret
     exact rX HB
    ·replace c15 := Bool.eq_false_iff.mpr c15
     subst c15
     have H1 : (none) = some r := by rw [if_neg (show ¬ (false = true) by decide)] at H; exact H
     clear H; have H := H1; clear H1
     exact absurd H (by simp)
  ·rw [if_neg c11] at H
   exact absurd H (by simp)

end Go.Proofs.YtlglildjehcogaaDoor.QFnExactCronText
