-- Own work (wip/turnprint.py over the kit's print).
import Derived.Test.YtacdceahdbaonaaQFnExactJournalTextx0
import Derived.Test.YtacdceahdbaonaaQFnExactJournalTextx1
import Derived.Test.YtacdceahdbaonaaQFnExactJournalTextx2
import Derived.Test.YtacdceahdbaonaaQFnExactJournalTextx6
import Derived.Test.YtacdceahdbaonaaQFnExactJournalTextx9
namespace Go.Proofs.Ytacdceahdbaonaa.QFnExactJournalText
open Go.RowKit Go.Proofs.YtacdceahdbaonaaW.PrintWords Go.Proofs.YtacdceahdbaonaaW.PrintLast Go.Proofs.YtacdceahdbaonaaW.PrintMore
attribute [local go_sem] max2_int min2_int max_two min_two max_three min_three max_four min_four   -- for this text's walks alone
set_option linter.unusedVariables false
set_option linter.unusedSimpArgs false

/-! ### laws_FnExactJournalText: function 12 -/
def laws_FnExactJournalText.f (k : Nat) (a0_0 : Int) (a0_1 : Int) (a0_2 : Int) (a0_3 : Int) (a0_4 : Int) (l0_5 : List (S37)) : Option (Bool) := (laws_szJournal.f k a0_0 a0_1 a0_2 a0_3 a0_4 l0_5 1048576).bind fun t288 => (if t288 < 0 then (some true) else ((laws_toJournal.f k a0_0 a0_1 a0_2 a0_3 a0_4 l0_5).bind fun bt289 => ((spec_JournalText.f k bt289.1 bt289.2.1 bt289.2.2.1 bt289.2.2.2.1 bt289.2.2.2.2.1 bt289.2.2.2.2.2).bind fun bt297 => ((laws_toJournal.f k a0_0 a0_1 a0_2 a0_3 a0_4 l0_5).bind fun bt299 => ((impl_JournalText.f k bt299.1 bt299.2.1 bt299.2.2.1 bt299.2.2.2.1 bt299.2.2.2.2.1 bt299.2.2.2.2.2).bind fun bt308 => (if bt308.1.toList = bt297.1.toList then (if (bt308.2 != bt297.2) = true then (none) else ((laws_toJournal.f k a0_0 a0_1 a0_2 a0_3 a0_4 l0_5).bind fun bt310 => ((laws_eqJournal.f k bt299.1 bt299.2.1 bt299.2.2.1 bt299.2.2.2.1 bt299.2.2.2.2.1 bt299.2.2.2.2.2 bt310.1 bt310.2.1 bt310.2.2.1 bt310.2.2.2.1 bt310.2.2.2.2.1 bt310.2.2.2.2.2).bind fun t318 => (if t318 = true then (some true) else (none))))) else (none)))))))
theorem laws_FnExactJournalText.mono : ∀ a0 a1 a2 a3 a4 a5 k, LeO (laws_FnExactJournalText.f k a0 a1 a2 a3 a4 a5) (laws_FnExactJournalText.f (k + 1) a0 a1 a2 a3 a4 a5) := by
 intro a0 a1 a2 a3 a4 a5 k
 unfold laws_FnExactJournalText.f
 repeat' first
  | (with_reducible exact impl_JournalText.mono _ _ _ _ _ _ _)
  | (with_reducible exact laws_eqJournal.mono _ _ _ _ _ _ _ _ _ _ _ _ _)
  | (with_reducible exact laws_szJournal.mono _ _ _ _ _ _ _ _)
  | (with_reducible exact laws_toJournal.mono _ _ _ _ _ _ _)
  | (with_reducible exact spec_JournalText.mono _ _ _ _ _ _ _)
  | (with_reducible exact LeO.refl _)
  | (with_reducible exact LeO.none _)
  | (with_reducible refine LeO.ite ?_ ?_)
  | (with_reducible refine LeO.bind ?_ (fun _ => ?_))
  | exact impl_JournalText.mono _ _ _ _ _ _ _
  | exact laws_eqJournal.mono _ _ _ _ _ _ _ _ _ _ _ _ _
  | exact laws_szJournal.mono _ _ _ _ _ _ _ _
  | exact laws_toJournal.mono _ _ _ _ _ _ _
  | exact spec_JournalText.mono _ _ _ _ _ _ _
  | exact LeO.none _
  | refine LeO.ite ?_ ?_
  | refine LeO.bind ?_ (fun _ => ?_)
set_option maxHeartbeats 8000000 in
set_option maxRecDepth 100000 in
theorem laws_FnExactJournalText.calls (k : Nat) (a0_0 : Int) (a0_1 : Int) (a0_2 : Int) (a0_3 : Int) (a0_4 : Int) (A0_5 : Option Addr) (c0_5 : Nat) (l0_5 : List (S37)) (r : Bool) (w : World) (hr0_5 : Kd.C k37 w A0_5 l0_5.length l0_5) (hc0_5 : l0_5.length ≤ c0_5) (h : laws_FnExactJournalText.f k a0_0 a0_1 a0_2 a0_3 a0_4 l0_5 = some r) :
 Calls Try.prog 12 #[.agg #[.int .i64 a0_0, .int .i64 a0_1, .int .i64 a0_2, .int .i64 a0_3, .int .i64 a0_4, .slice A0_5 l0_5.length c0_5]] w fun e w' => e = .returned (.bool r) ∧ Below w.heap.size w w' := by
 have hu55 := Try.underlying55
 have hu59 := Try.underlying59
 have HR0_5 := aM hr0_5
 have HC0_5 := aM hc0_5
 clear hr0_5 hc0_5
 have HB := aM (Below.refl w.heap.size w)
 have H : ((laws_szJournal.f k a0_0 a0_1 a0_2 a0_3 a0_4 l0_5 1048576).bind fun t288 => (if t288 < 0 then (some true) else ((laws_toJournal.f k a0_0 a0_1 a0_2 a0_3 a0_4 l0_5).bind fun bt289 => ((spec_JournalText.f k bt289.1 bt289.2.1 bt289.2.2.1 bt289.2.2.2.1 bt289.2.2.2.2.1 bt289.2.2.2.2.2).bind fun bt297 => ((laws_toJournal.f k a0_0 a0_1 a0_2 a0_3 a0_4 l0_5).bind fun bt299 => ((impl_JournalText.f k bt299.1 bt299.2.1 bt299.2.2.1 bt299.2.2.2.1 bt299.2.2.2.2.1 bt299.2.2.2.2.2).bind fun bt308 => (if bt308.1.toList = bt297.1.toList then (if (bt308.2 != bt297.2) = true then (none) else ((laws_toJournal.f k a0_0 a0_1 a0_2 a0_3 a0_4 l0_5).bind fun bt310 => ((laws_eqJournal.f k bt299.1 bt299.2.1 bt299.2.2.1 bt299.2.2.2.1 bt299.2.2.2.2.1 bt299.2.2.2.2.2 bt310.1 bt310.2.1 bt310.2.2.1 bt310.2.2.2.1 bt310.2.2.2.2.1 bt310.2.2.2.2.2).bind fun t318 => (if t318 = true then (some true) else (none))))) else (none)))))))) = some r := h
 clear h
 replace H := Option.bind_eq_some_iff.mp H
 obtain ⟨t288, A20, H⟩ := H
 try dsimp only at H
 have A2 := aM A20
 clear A20
 by_cases c3 : t288 < 0
 ·rw [if_pos c3] at H
  have c3b0 : decide (t288 < 0) = true := decide_eq_true c3
  clear c3
  obtain rfl := Option.some.inj H
  go_enter Try.func12, Try.ntmps12
  go_wp2_with (first | ((with_reducible refine gate_dst (N := 1) rfl ?_); refine bxE 1 #[.int .i64 a0_0, .int .i64 a0_1, .int .i64 a0_2, .int .i64 a0_3, .int .i64 a0_4, .slice A0_5 l0_5.length c0_5] 55 ?_; intro gb287 hg w4 hbox hb; have BK287 := aM (hbox); have GW287 := szG hg (uL HB); have GE287 := szG hg (uL HB); replace HB := aM (below_step (uL HB) hb); clear hb hbox hg; have hcz5_0 := czA BK287.out 0 (.int .i64 a0_0); have hcz5_1 := czA BK287.out 1 (.int .i64 a0_1); have hcz5_2 := czA BK287.out 2 (.int .i64 a0_2); have hcz5_3 := czA BK287.out 3 (.int .i64 a0_3); have hcz5_4 := czA BK287.out 4 (.int .i64 a0_4); have hcz5_5 := czA BK287.out 5 (.slice A0_5 l0_5.length c0_5); have hfz5_0 := blk_frozen BK287.out 0; have hfz5_1 := blk_frozen BK287.out 1; have hfz5_2 := blk_frozen BK287.out 2; have hfz5_3 := blk_frozen BK287.out 3; have hfz5_4 := blk_frozen BK287.out 4; have hfz5_5 := blk_frozen BK287.out 5) | ((with_reducible refine gate_callee (f := 36) rfl ?_); refine gL (some 11) Try.func36 #[.agg #[.int .i64 a0_0, .int .i64 a0_1, .int .i64 a0_2, .int .i64 a0_3, .int .i64 a0_4, .slice A0_5 l0_5.length c0_5], .int .i64 1048576] ?_; (with_reducible refine (laws_szJournal.calls k a0_0 a0_1 a0_2 a0_3 a0_4 _ _ l0_5 1048576 t288 _ ?side1 ?side2 A2.out).mono ?_); (case side1 => exact uC HR0_5 HB); (case side2 => exact HC0_5.out); rintro e w6 ⟨rfl, hb⟩; refine ⟨_, rfl, ?_⟩; replace BK287 := blkB BK287 hb; replace HB := aM (below_step (uL HB) hb); try clear hb))
  go_ret
  exact rX HB
 ·rw [if_neg c3] at H
  have c3b0 : decide (t288 < 0) = false := decide_eq_false c3
  clear c3
  replace H := Option.bind_eq_some_iff.mp H
  obtain ⟨⟨t289, t290, t291, t292, t293, t294⟩, A70, H⟩ := H
  try dsimp only at H
  have A7 := aM A70
  clear A70
  replace H := Option.bind_eq_some_iff.mp H
  obtain ⟨⟨t297, t298⟩, A80, H⟩ := H
  try dsimp only at H
  have A8 := aM A80
  clear A80
  replace H := Option.bind_eq_some_iff.mp H
  obtain ⟨⟨t299, t300, t301, t302, t303, t304⟩, A90, H⟩ := H
  try dsimp only at H
  have A9 := aM A90
  clear A90
  replace H := Option.bind_eq_some_iff.mp H
  obtain ⟨⟨t308, t309⟩, A100, H⟩ := H
  try dsimp only at H
  have A10 := aM A100
  clear A100
  by_cases c11 : t308.toList = t297.toList
  ·rw [if_pos c11] at H
   have c11b0 : (t308.toList == t297.toList) = true := beq_iff_eq.mpr c11
   have c11b1 : (t308.toList != t297.toList) = false := bne_eq_false_iff_eq.mpr c11
   clear c11
   by_cases c12 : (t309 != t298) = true
   ·rw [if_pos c12] at H
    exact absurd H (by simp)
   ·rw [if_neg c12] at H
    have c12b0 : (t309 != t298) = false := by simpa using c12
    (try (have c12b1 : decide (t309 = t298) = true := by simpa using c12))
    (try (have c12b2 : (t309 == t298) = true := by simpa using c12))
    clear c12
    replace H := Option.bind_eq_some_iff.mp H
    obtain ⟨⟨t310, t311, t312, t313, t314, t315⟩, A130, H⟩ := H
    try dsimp only at H
    have A13 := aM A130
    clear A130
    replace H := Option.bind_eq_some_iff.mp H
    obtain ⟨t318, A140, H⟩ := H
    replace H : (if t318 = true then (some true) else (none)) = some r := H
    have A14 := aM A140
    clear A140
    by_cases c15 : t318 = true
    ·subst c15
     have H1 : (some true) = some r := by rw [if_pos rfl] at H; exact H
     clear H; have H := H1; clear H1
     obtain rfl := Option.some.inj H
     go_enter Try.func12, Try.ntmps12
     try go_wp2_with (first | ((with_reducible refine gate_dst (N := 1) rfl ?_); refine bxE 1 #[.int .i64 a0_0, .int .i64 a0_1, .int .i64 a0_2, .int .i64 a0_3, .int .i64 a0_4, .slice A0_5 l0_5.length c0_5] 55 ?_; intro gb287 hg w16 hbox hb; have BK287 := aM (hbox); have GW287 := szG hg (uL HB); have GE287 := szG hg (uL HB); replace HB := aM (below_step (uL HB) hb); clear hb hbox hg; have hcz17_0 := czA BK287.out 0 (.int .i64 a0_0); have hcz17_1 := czA BK287.out 1 (.int .i64 a0_1); have hcz17_2 := czA BK287.out 2 (.int .i64 a0_2); have hcz17_3 := czA BK287.out 3 (.int .i64 a0_3); have hcz17_4 := czA BK287.out 4 (.int .i64 a0_4); have hcz17_5 := czA BK287.out 5 (.slice A0_5 l0_5.length c0_5); have hfz17_0 := blk_frozen BK287.out 0; have hfz17_1 := blk_frozen BK287.out 1; have hfz17_2 := blk_frozen BK287.out 2; have hfz17_3 := blk_frozen BK287.out 3; have hfz17_4 := blk_frozen BK287.out 4; have hfz17_5 := blk_frozen BK287.out 5) | ((with_reducible refine gate_callee (f := 36) rfl ?_); refine gL (some 11) Try.func36 #[.agg #[.int .i64 a0_0, .int .i64 a0_1, .int .i64 a0_2, .int .i64 a0_3, .int .i64 a0_4, .slice A0_5 l0_5.length c0_5], .int .i64 1048576] ?_; (with_reducible refine (laws_szJournal.calls k a0_0 a0_1 a0_2 a0_3 a0_4 _ _ l0_5 1048576 t288 _ ?side1 ?side2 A2.out).mono ?_); (case side1 => exact uC HR0_5 HB); (case side2 => exact HC0_5.out); rintro e w18 ⟨rfl, hb⟩; refine ⟨_, rfl, ?_⟩; replace BK287 := blkB BK287 hb; replace HB := aM (below_step (uL HB) hb); try clear hb; have hcz19_0 := czA BK287.out 0 (.int .i64 a0_0); have hcz19_1 := czA BK287.out 1 (.int .i64 a0_1); have hcz19_2 := czA BK287.out 2 (.int .i64 a0_2); have hcz19_3 := czA BK287.out 3 (.int .i64 a0_3); have hcz19_4 := czA BK287.out 4 (.int .i64 a0_4); have hcz19_5 := czA BK287.out 5 (.slice A0_5 l0_5.length c0_5); have hfz19_0 := blk_frozen BK287.out 0; have hfz19_1 := blk_frozen BK287.out 1; have hfz19_2 := blk_frozen BK287.out 2; have hfz19_3 := blk_frozen BK287.out 3; have hfz19_4 := blk_frozen BK287.out 4; have hfz19_5 := blk_frozen BK287.out 5) | ((with_reducible refine gate_callee (f := 38) rfl ?_); refine gL (some 16) Try.func38 #[.agg #[.int .i64 a0_0, .int .i64 a0_1, .int .i64 a0_2, .int .i64 a0_3, .int .i64 a0_4, .slice A0_5 l0_5.length c0_5]] ?_; (with_reducible refine (laws_toJournal.calls k a0_0 a0_1 a0_2 a0_3 a0_4 _ _ l0_5 t289 t290 t291 t292 t293 t294 _ ?side1 ?side2 A7.out).mono ?_); (case side1 => exact uC HR0_5 HB); (case side2 => exact HC0_5.out); rintro e w20 ⟨v295, rfl, ho0, hb⟩; refine ⟨_, rfl, ?_⟩; have HO296 := aM (Kd.R_lower ho0 (below_size (uL HB))); replace BK287 := blkB BK287 hb; replace HB := aM (below_step (uL HB) hb); try clear hb ho0; obtain ⟨Ao21, co21, eo21⟩ := Kd.R_slice HO296.out; subst eo21) | ((with_reducible refine gate_callee (f := 41) rfl ?_); refine gL (some 17) Try.func41 #[.agg #[.int .i64 t289, .int .i64 t290, .int .i64 t291, .int .i64 t292, .int .i64 t293, .slice Ao21 t294.length co21]] ?_; (with_reducible refine (spec_JournalText.calls k t289 t290 t291 t292 t293 _ _ t294 t297 t298 _ ?side1 ?side2 A8.out).mono ?_); (case side1 => repeat (first | exact (Kd.R_reads' HO296.out).2.2 | (with_reducible refine cA ?_ _) | (with_reducible refine cN ?_ _) | (with_reducible refine cD ?_))); (case side2 => exact (Kd.R_reads' HO296.out).2.1); rintro e w22 ⟨rfl, hb⟩; refine ⟨_, rfl, ?_⟩; replace HO296 := aM (Kd.R_below (uR HO296) hb); replace BK287 := blkB BK287 hb; replace HB := aM (below_step (uL HB) hb); try clear hb; have hcz23_0 := czA BK287.out 0 (.int .i64 a0_0); have hcz23_1 := czA BK287.out 1 (.int .i64 a0_1); have hcz23_2 := czA BK287.out 2 (.int .i64 a0_2); have hcz23_3 := czA BK287.out 3 (.int .i64 a0_3); have hcz23_4 := czA BK287.out 4 (.int .i64 a0_4); have hcz23_5 := czA BK287.out 5 (.slice A0_5 l0_5.length c0_5); have hfz23_0 := blk_frozen BK287.out 0; have hfz23_1 := blk_frozen BK287.out 1; have hfz23_2 := blk_frozen BK287.out 2; have hfz23_3 := blk_frozen BK287.out 3; have hfz23_4 := blk_frozen BK287.out 4; have hfz23_5 := blk_frozen BK287.out 5) | ((with_reducible refine gate_callee (f := 38) rfl ?_); refine gL (some 21) Try.func38 #[.agg #[.int .i64 a0_0, .int .i64 a0_1, .int .i64 a0_2, .int .i64 a0_3, .int .i64 a0_4, .slice A0_5 l0_5.length c0_5]] ?_; (with_reducible refine (laws_toJournal.calls k a0_0 a0_1 a0_2 a0_3 a0_4 _ _ l0_5 t299 t300 t301 t302 t303 t304 _ ?side1 ?side2 A9.out).mono ?_); (case side1 => exact uC HR0_5 HB); (case side2 => exact HC0_5.out); rintro e w24 ⟨v305, rfl, ho0, hb⟩; refine ⟨_, rfl, ?_⟩; have HO306 := aM (Kd.R_lower (Kd.R_new' ho0 (Kd.R_lt (uR HO296))) (below_size (uL HB))); replace HO296 := aM (Kd.R_elder' (uR HO296) (Kd.R_base ho0) hb); replace BK287 := blkB BK287 hb; replace HB := aM (below_step (uL HB) hb); try clear hb ho0) | ((with_reducible refine gate_dst (N := 6) rfl ?_); refine bxE 6 #[.int .i64 0, .int .i64 0, .int .i64 0, .int .i64 0, .int .i64 0, .slice none 0 0] 59 ?_; intro gb307 hg w25 hbox hb; have BK307 := aM (hbox); have GW307 := szG hg (uL HB); have GE307 := szG hg (uL HB); have NB287_307 := neL hg BK287; have NB307_287 := neG hg BK287; replace HO296 := aM (Kd.R_below (uR HO296) hb); replace HO306 := aM (Kd.R_below (uR HO306) hb); replace BK287 := blkB BK287 hb; replace HB := aM (below_step (uL HB) hb); clear hb hbox hg; have hnb26 := NB307_287.out; have hnc26 := NB287_307.out; have hcz27_0 := czA BK307.out 0 (.int .i64 0); have hcz27_1 := czA BK307.out 1 (.int .i64 0); have hcz27_2 := czA BK307.out 2 (.int .i64 0); have hcz27_3 := czA BK307.out 3 (.int .i64 0); have hcz27_4 := czA BK307.out 4 (.int .i64 0); have hcz27_5 := czA BK307.out 5 (.slice none 0 0); have hfz27_0 := blk_frozen BK307.out 0; have hfz27_1 := blk_frozen BK307.out 1; have hfz27_2 := blk_frozen BK307.out 2; have hfz27_3 := blk_frozen BK307.out 3; have hfz27_4 := blk_frozen BK307.out 4; have hfz27_5 := blk_frozen BK307.out 5; obtain ⟨Ao28, co28, eo28⟩ := Kd.R_slice HO306.out; subst eo28) | ((with_reducible refine gate_callee (f := 42) rfl ?_); refine gL (some 24) Try.func42 #[.agg #[.int .i64 t299, .int .i64 t300, .int .i64 t301, .int .i64 t302, .int .i64 t303, .slice Ao28 t304.length co28]] ?_; (with_reducible refine (impl_JournalText.calls k t299 t300 t301 t302 t303 _ _ t304 t308 t309 _ ?side1 ?side2 A10.out).mono ?_); (case side1 => refine (Kd.R_reads' (e := 40) (base := w.heap.size) (ok := fun k_ => (True ∧ some k_ ≠ (.slice Ao21 t294.length co21 : Value).ownBlock)) (n := t304.length) (c := co28) ?_).2.2; exact (by (with_reducible repeat first | apply rA | apply rN | apply rD); exact (Kd.R_mono (Kd.R_far (p := ⟨gb307, 5, none⟩) (Kd.R_far (p := ⟨gb307, 4, none⟩) (Kd.R_far (p := ⟨gb307, 3, none⟩) (Kd.R_far (p := ⟨gb307, 2, none⟩) (Kd.R_far (p := ⟨gb307, 1, none⟩) (Kd.R_far (p := ⟨gb307, 0, none⟩) (Kd.R_types HO306.out BK307.out (by decide)) (fun _ hk => hk.2) (.int .i64 t299)) (fun _ hk => hk.2) (.int .i64 t300)) (fun _ hk => hk.2) (.int .i64 t301)) (fun _ hk => hk.2) (.int .i64 t302)) (fun _ hk => hk.2) (.int .i64 t303)) (fun _ hk => hk.2) (.slice Ao28 t304.length co28)) (fun _ h_ => h_.1)))); (case side2 => exact (Kd.R_reads' HO306.out).2.1); rintro e w29 ⟨rfl, hb⟩; refine ⟨_, rfl, ?_⟩; replace HO296 := aM (Kd.R_below (by (with_reducible repeat first | apply rA | apply rN | apply rD); exact (Kd.R_mono (Kd.R_far (p := ⟨gb307, 5, none⟩) (Kd.R_far (p := ⟨gb307, 4, none⟩) (Kd.R_far (p := ⟨gb307, 3, none⟩) (Kd.R_far (p := ⟨gb307, 2, none⟩) (Kd.R_far (p := ⟨gb307, 1, none⟩) (Kd.R_far (p := ⟨gb307, 0, none⟩) (Kd.R_types HO296.out BK307.out (by decide)) (fun _ hk => hk.2) (.int .i64 t299)) (fun _ hk => hk.2) (.int .i64 t300)) (fun _ hk => hk.2) (.int .i64 t301)) (fun _ hk => hk.2) (.int .i64 t302)) (fun _ hk => hk.2) (.int .i64 t303)) (fun _ hk => hk.2) (.slice Ao28 t304.length co28)) (fun _ h_ => h_.1))) hb); replace HO306 := aM (Kd.R_below (by (with_reducible repeat first | apply rA | apply rN | apply rD); exact (Kd.R_mono (Kd.R_far (p := ⟨gb307, 5, none⟩) (Kd.R_far (p := ⟨gb307, 4, none⟩) (Kd.R_far (p := ⟨gb307, 3, none⟩) (Kd.R_far (p := ⟨gb307, 2, none⟩) (Kd.R_far (p := ⟨gb307, 1, none⟩) (Kd.R_far (p := ⟨gb307, 0, none⟩) (Kd.R_types HO306.out BK307.out (by decide)) (fun _ hk => hk.2) (.int .i64 t299)) (fun _ hk => hk.2) (.int .i64 t300)) (fun _ hk => hk.2) (.int .i64 t301)) (fun _ hk => hk.2) (.int .i64 t302)) (fun _ hk => hk.2) (.int .i64 t303)) (fun _ hk => hk.2) (.slice Ao28 t304.length co28)) (fun _ h_ => h_.1))) hb); replace BK287 := blkB BK287 hb; replace BK307 := aM (blk_below (g := gb307) (o := .cells #[.int .i64 t299, .int .i64 t300, .int .i64 t301, .int .i64 t302, .int .i64 t303, .slice Ao28 t304.length co28] 59 (0, 0)) (by refine nB ?_; refine blk_put (cs := #[.int .i64 t299, .int .i64 t300, .int .i64 t301, .int .i64 t302, .int .i64 t303, .slice none 0 0]) ?_ 5 _ rfl; refine nB ?_; refine blk_put (cs := #[.int .i64 t299, .int .i64 t300, .int .i64 t301, .int .i64 t302, .int .i64 0, .slice none 0 0]) ?_ 4 _ rfl; refine nB ?_; refine blk_put (cs := #[.int .i64 t299, .int .i64 t300, .int .i64 t301, .int .i64 0, .int .i64 0, .slice none 0 0]) ?_ 3 _ rfl; refine nB ?_; refine blk_put (cs := #[.int .i64 t299, .int .i64 t300, .int .i64 0, .int .i64 0, .int .i64 0, .slice none 0 0]) ?_ 2 _ rfl; refine nB ?_; refine blk_put (cs := #[.int .i64 t299, .int .i64 0, .int .i64 0, .int .i64 0, .int .i64 0, .slice none 0 0]) ?_ 1 _ rfl; refine nB ?_; refine blk_put (cs := #[.int .i64 0, .int .i64 0, .int .i64 0, .int .i64 0, .int .i64 0, .slice none 0 0]) ?_ 0 _ rfl; exact nB BK307.out) hb); replace HB := aM (below_step (uL HB) hb); try clear hb))
     replace HO296 := aM (Kd.R_drew HO296.out)
     replace HO306 := aM (Kd.R_drew HO306.out)
     replace BK287 := aM (blk_drew BK287.out)
     replace BK307 := aM (blk_drew BK307.out)
     replace HB := aM (below_drew1 HB.out)
     refine start_ (n := 5) (S := fun w' => w'.cell? ⟨gb307, 0, none⟩ = some (.int .i64 t299) ∧ w'.cell? ⟨gb307, 1, none⟩ = some (.int .i64 t300) ∧ w'.cell? ⟨gb307, 2, none⟩ = some (.int .i64 t301) ∧ w'.cell? ⟨gb307, 3, none⟩ = some (.int .i64 t302) ∧ w'.cell? ⟨gb307, 4, none⟩ = some (.int .i64 t303) ∧ w'.cell? ⟨gb307, 5, none⟩ = some (.slice Ao28 t304.length co28) ∧ w'.cell? ⟨gb287, 0, none⟩ = some (.int .i64 a0_0) ∧ w'.cell? ⟨gb287, 1, none⟩ = some (.int .i64 a0_1) ∧ w'.cell? ⟨gb287, 2, none⟩ = some (.int .i64 a0_2) ∧ w'.cell? ⟨gb287, 3, none⟩ = some (.int .i64 a0_3) ∧ w'.cell? ⟨gb287, 4, none⟩ = some (.int .i64 a0_4) ∧ w'.cell? ⟨gb287, 5, none⟩ = some (.slice A0_5 l0_5.length c0_5)) (ds := []) (bB 5 0) (by kernel_rfl) rfl rfl ⟨(blk_cell BK307.out 0).trans rfl, (blk_cell BK307.out 1).trans rfl, (blk_cell BK307.out 2).trans rfl, (blk_cell BK307.out 3).trans rfl, (blk_cell BK307.out 4).trans rfl, (blk_cell BK307.out 5).trans rfl, (blk_cell BK287.out 0).trans rfl, (blk_cell BK287.out 1).trans rfl, (blk_cell BK287.out 2).trans rfl, (blk_cell BK287.out 3).trans rfl, (blk_cell BK287.out 4).trans rfl, (blk_cell BK287.out 5).trans rfl⟩ (fun hHeld => ?_)
     generalize w29.drew = w30 at HO296 HO306 BK287 BK307 HB hHeld ⊢
     refine take_ (i := 0) (N := some 35) (v := ?_) (a' := ?_) (bB 5 1) rfl rfl (by kernel_rfl) (fun _ _ _ h => h) (Or.inl ⟨by rfl, ?_⟩) hHeld ?_ ?_
     rotate_left
     ·rintro w' ⟨s0, s1, s2, s3, s4, s5, s6, s7, s8, s9, s10, s11⟩
      go_simp
      with_reducible rfl
     rotate_left
     ·simp only [aP, aQ, sT, sZ, sU, i64_w, i32_w]
      rfl
     refine take_ (i := 1) (N := some 36) (v := ?_) (a' := ?_) (bB 5 3) rfl rfl (by kernel_rfl) (fun _ _ _ h => h) (Or.inl ⟨by rfl, ?_⟩) hHeld ?_ ?_
     rotate_left
     ·rintro w' ⟨s0, s1, s2, s3, s4, s5, s6, s7, s8, s9, s10, s11⟩
      go_simp
      with_reducible rfl
     rotate_left
     ·simp only [aP, aQ, sT, sZ, sU, i64_w, i32_w]
      rfl
     refine one_ (i := 2) (N := some 37) (bB 5 7) rfl rfl (by kernel_rfl) (by decide) (fun K hK => ?_)
     refine gX Try.func38 #[.agg #[.int .i64 a0_0, .int .i64 a0_1, .int .i64 a0_2, .int .i64 a0_3, .int .i64 a0_4, .slice A0_5 l0_5.length c0_5]] ?_
     with_reducible refine (laws_toJournal.calls k a0_0 a0_1 a0_2 a0_3 a0_4 _ _ l0_5 t310 t311 t312 t313 t314 t315 _ ?side1 ?side2 A13.out).mono ?_
     (case side1 => exact uC HR0_5 HB)
     (case side2 => exact HC0_5.out)
     rintro e w31 ⟨v316, rfl, ho0, hb⟩
     refine ⟨_, rfl, ?_⟩
     have HO317 := aM (Kd.R_lower (Kd.R_new' (Kd.R_new' ho0 (Kd.R_lt (uR HO296))) (Kd.R_lt (uR HO306))) (below_size (uL HB)))
     replace HO296 := aM (Kd.R_elder' (uR HO296) (Kd.R_base ho0) hb)
     replace HO306 := aM (Kd.R_elder' (uR HO306) (Kd.R_base ho0) hb)
     replace BK287 := blkB BK287 hb
     replace BK307 := blkB BK307 hb
     replace HB := aM (below_step (uL HB) hb)
     (try clear hb)
     (try clear hb2)
     (try clear hk)
     (try clear hi)
     (try clear ho0)
     obtain ⟨Ao32, co32, eo32⟩ := Kd.R_slice HO317.out
     (first | subst eo32 | (injection eo32 with f1_ f2_ f3_; have f4_ := f1_.symm; have f5_ := f3_.symm; clear f1_ f2_ f3_; subst f4_; subst f5_))
     refine hK.out _ _ ⟨(blk_cell BK307.out 0).trans rfl, (blk_cell BK307.out 1).trans rfl, (blk_cell BK307.out 2).trans rfl, (blk_cell BK307.out 3).trans rfl, (blk_cell BK307.out 4).trans rfl, (blk_cell BK307.out 5).trans rfl, (blk_cell BK287.out 0).trans rfl, (blk_cell BK287.out 1).trans rfl, (blk_cell BK287.out 2).trans rfl, (blk_cell BK287.out 3).trans rfl, (blk_cell BK287.out 4).trans rfl, (blk_cell BK287.out 5).trans rfl⟩ (fun hHeld => ?_)
     clear hK K
     refine nX 37 ?_
     refine one_ (i := 3) (N := some 38) (bB 5 15) rfl rfl (by kernel_rfl) (by decide) (fun K hK => ?_)
     refine gX Try.func40 #[.agg #[.int .i64 t299, .int .i64 t300, .int .i64 t301, .int .i64 t302, .int .i64 t303, .slice Ao28 t304.length co28], .agg #[.int .i64 t310, .int .i64 t311, .int .i64 t312, .int .i64 t313, .int .i64 t314, .slice Ao32 t315.length co32]] ?_
     with_reducible refine (laws_eqJournal.calls k t299 t300 t301 t302 t303 _ _ t304 t310 t311 t312 t313 t314 _ _ t315 true _ ?side1 ?side2 ?side3 ?side4 A14.out).mono ?_
     (case side1 => repeat (first | exact (Kd.R_reads' HO306.out).2.2 | (with_reducible refine cA ?_ _) | (with_reducible refine cN ?_ _) | (with_reducible refine cD ?_)))
     (case side2 => exact (Kd.R_reads' HO306.out).2.1)
     (case side3 => repeat (first | exact (Kd.R_reads' HO317.out).2.2 | (with_reducible refine cA ?_ _) | (with_reducible refine cN ?_ _) | (with_reducible refine cD ?_)))
     (case side4 => exact (Kd.R_reads' HO317.out).2.1)
     rintro e w33 ⟨rfl, hb⟩
     refine ⟨_, rfl, ?_⟩
     replace HO296 := aM (Kd.R_below (uR HO296) hb)
     replace HO306 := aM (Kd.R_below (uR HO306) hb)
     replace HO317 := aM (Kd.R_below (uR HO317) hb)
     replace BK287 := blkB BK287 hb
     replace BK307 := blkB BK307 hb
     replace HB := aM (below_step (uL HB) hb)
     (try clear hb)
     (try clear hb2)
     (try clear hk)
     (try clear hi)
     refine hK.out _ _ ⟨(blk_cell BK307.out 0).trans rfl, (blk_cell BK307.out 1).trans rfl, (blk_cell BK307.out 2).trans rfl, (blk_cell BK307.out 3).trans rfl, (blk_cell BK307.out 4).trans rfl, (blk_cell BK307.out 5).trans rfl, (blk_cell BK287.out 0).trans rfl, (blk_cell BK287.out 1).trans rfl, (blk_cell BK287.out 2).trans rfl, (blk_cell BK287.out 3).trans rfl, (blk_cell BK287.out 4).trans rfl, (blk_cell BK287.out 5).trans rfl⟩ (fun hHeld => ?_)
     clear hK K
     refine nX 38 ?_
     refine pX 4 39 (bB 5 31) (by kernel_rfl) ?_
     refine done_ (by kernel_rfl) ?_
     try go_wp2
     go_ret
     exact rX HB
    ·replace c15 := Bool.eq_false_iff.mpr c15
     subst c15
     have H1 : (none) = some r := by rw [if_neg (show ¬ (false = true) by decide)] at H; exact H
     clear H; have H := H1; clear H1
     exact absurd H (by simp)
  ·rw [if_neg c11] at H
   exact absurd H (by simp)

end Go.Proofs.Ytacdceahdbaonaa.QFnExactJournalText
