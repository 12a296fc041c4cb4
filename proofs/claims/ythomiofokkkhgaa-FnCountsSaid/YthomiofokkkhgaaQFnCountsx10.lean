-- Own work (wip/turnprint.py over the kit's print).
import Derived.Test.YthomiofokkkhgaaQFnCountsx0
import Derived.Test.YthomiofokkkhgaaQFnCountsx9
namespace Go.Proofs.Ythomiofokkkhgaa.QFnCounts
open Go.RowKit Go.Proofs.YthomiofokkkhgaaW.PrintWords Go.Proofs.YthomiofokkkhgaaW.PrintLast Go.Proofs.YthomiofokkkhgaaW.PrintMore
attribute [local go_sem] max2_int min2_int max_two min_two max_three min_three max_four min_four   -- for this text's walks alone
set_option linter.unusedVariables false
set_option linter.unusedSimpArgs false

/-! ### spec_l10Day: function 34 -/
def spec_l10Day.f (k : Nat) (l0_0 : List Int) (l0_1 : List Int) (l0_2 : List Int) (l0_3 : List Int) (l0_4 : List Int) (a1 : Int) : Option (Bool) := (spec_CivilOf.f k a1).bind fun bt387 => ((spec_l10In.f k l0_2 bt387.2.2.1).bind fun t394 => ((spec_WeekdayOf.f a1).bind fun t395 => ((spec_l10In.f k l0_4 t395).bind fun t396 => ((spec_l10In.f k l0_3 bt387.2.1).bind fun t397 => (if t397 = true then (if (l0_2.length : Int) = 31 then (if t394 = true then (some t396) else (some false)) else (if (l0_4.length : Int) = 7 then (if t394 = true then (some t396) else (some false)) else (if t394 = true then (some true) else (some t396)))) else (some false))))))
theorem spec_l10Day.mono : ∀ a0 a1 a2 a3 a4 a5 k, LeO (spec_l10Day.f k a0 a1 a2 a3 a4 a5) (spec_l10Day.f (k + 1) a0 a1 a2 a3 a4 a5) := by
 intro a0 a1 a2 a3 a4 a5 k
 unfold spec_l10Day.f
 repeat' first
  | (with_reducible exact spec_CivilOf.mono _ _)
  | (with_reducible exact spec_l10In.mono _ _ _)
  | (with_reducible exact LeO.refl _)
  | (with_reducible exact LeO.none _)
  | (with_reducible refine LeO.ite ?_ ?_)
  | (with_reducible refine LeO.bind ?_ (fun _ => ?_))
  | exact spec_CivilOf.mono _ _
  | exact spec_l10In.mono _ _ _
  | exact LeO.none _
  | refine LeO.ite ?_ ?_
  | refine LeO.bind ?_ (fun _ => ?_)
set_option maxHeartbeats 8000000 in
set_option maxRecDepth 100000 in
theorem spec_l10Day.calls (k : Nat) (A0_0 : Option Addr) (c0_0 : Nat) (l0_0 : List Int) (A0_1 : Option Addr) (c0_1 : Nat) (l0_1 : List Int) (A0_2 : Option Addr) (c0_2 : Nat) (l0_2 : List Int) (A0_3 : Option Addr) (c0_3 : Nat) (l0_3 : List Int) (A0_4 : Option Addr) (c0_4 : Nat) (l0_4 : List Int) (a1 : Int) (r : Bool) (w : World) (hr0_0 : Kd.C (Kd.int .i64) w A0_0 l0_0.length l0_0) (hc0_0 : l0_0.length ≤ c0_0) (hr0_1 : Kd.C (Kd.int .i64) w A0_1 l0_1.length l0_1) (hc0_1 : l0_1.length ≤ c0_1) (hr0_2 : Kd.C (Kd.int .i64) w A0_2 l0_2.length l0_2) (hc0_2 : l0_2.length ≤ c0_2) (hr0_3 : Kd.C (Kd.int .i64) w A0_3 l0_3.length l0_3) (hc0_3 : l0_3.length ≤ c0_3) (hr0_4 : Kd.C (Kd.int .i64) w A0_4 l0_4.length l0_4) (hc0_4 : l0_4.length ≤ c0_4) (h : spec_l10Day.f k l0_0 l0_1 l0_2 l0_3 l0_4 a1 = some r) :
 Calls Try.prog 34 #[.agg #[.slice A0_0 l0_0.length c0_0, .slice A0_1 l0_1.length c0_1, .slice A0_2 l0_2.length c0_2, .slice A0_3 l0_3.length c0_3, .slice A0_4 l0_4.length c0_4], .int .i64 a1] w fun e w' => e = .returned (.bool r) ∧ Below w.heap.size w w' := by
 have hu26 := Try.underlying26
 have hu51 := Try.underlying51
 have HR0_0 := aM hr0_0
 have HC0_0 := aM hc0_0
 clear hr0_0 hc0_0
 have HR0_1 := aM hr0_1
 have HC0_1 := aM hc0_1
 clear hr0_1 hc0_1
 have HR0_2 := aM hr0_2
 have HC0_2 := aM hc0_2
 clear hr0_2 hc0_2
 have HR0_3 := aM hr0_3
 have HC0_3 := aM hc0_3
 clear hr0_3 hc0_3
 have HR0_4 := aM hr0_4
 have HC0_4 := aM hc0_4
 clear hr0_4 hc0_4
 have HB := aM (Below.refl w.heap.size w)
 have H : ((spec_CivilOf.f k a1).bind fun bt387 => ((spec_l10In.f k l0_2 bt387.2.2.1).bind fun t394 => ((spec_WeekdayOf.f a1).bind fun t395 => ((spec_l10In.f k l0_4 t395).bind fun t396 => ((spec_l10In.f k l0_3 bt387.2.1).bind fun t397 => (if t397 = true then (if (l0_2.length : Int) = 31 then (if t394 = true then (some t396) else (some false)) else (if (l0_4.length : Int) = 7 then (if t394 = true then (some t396) else (some false)) else (if t394 = true then (some true) else (some t396)))) else (some false))))))) = some r := h
 clear h
 replace H := Option.bind_eq_some_iff.mp H
 obtain ⟨⟨t387, t388, t389, t390, t391, t392⟩, A30, H⟩ := H
 try dsimp only at H
 have A3 := aM A30
 clear A30
 replace H := Option.bind_eq_some_iff.mp H
 obtain ⟨t394, A40, H⟩ := H
 try dsimp only at H
 have A4 := aM A40
 clear A40
 replace H := Option.bind_eq_some_iff.mp H
 obtain ⟨t395, A50, H⟩ := H
 try dsimp only at H
 have A5 := aM A50
 clear A50
 replace H := Option.bind_eq_some_iff.mp H
 obtain ⟨t396, A60, H⟩ := H
 try dsimp only at H
 have A6 := aM A60
 clear A60
 replace H := Option.bind_eq_some_iff.mp H
 obtain ⟨t397, A70, H⟩ := H
 try dsimp only at H
 have A7 := aM A70
 clear A70
 refine Classical.byCases (p := t397 = true) (fun c8 => ?L1p) (fun c8 => ?L1n)
 case' L1p =>
  subst c8
  rw [if_pos rfl] at H
  refine Classical.byCases (p := (l0_2.length : Int) = 31) (fun c9 => ?L2p) (fun c9 => ?L2n)
  case' L2p =>
   rw [if_pos c9] at H
   have c9b0 : ((l0_2.length : Int) == 31) = true := beq_iff_eq.mpr c9
   have c9b1 : ((l0_2.length : Int) != 31) = false := bne_eq_false_iff_eq.mpr c9
   clear c9
   refine Classical.byCases (p := t394 = true) (fun c10 => ?L3p) (fun c10 => ?L3n)
   case' L3p =>
    subst c10
    have H1 : (some t396) = some r := by rw [if_pos rfl] at H; exact H
    clear H; have H := H1; clear H1
    obtain rfl := Option.some.inj H
   case' L3n =>
    replace c10 := Bool.eq_false_iff.mpr c10
    subst c10
    have H1 : (some false) = some r := by rw [if_neg (show ¬ (false = true) by decide)] at H; exact H
    clear H; have H := H1; clear H1
    obtain rfl := Option.some.inj H
  case' L2n =>
   rw [if_neg c9] at H
   have c9b0 : ((l0_2.length : Int) == 31) = false := beq_eq_false_iff_ne.mpr c9
   have c9b1 : ((l0_2.length : Int) != 31) = true := bne_iff_ne.mpr c9
   refine Classical.byCases (p := (l0_4.length : Int) = 7) (fun c23 => ?L4p) (fun c23 => ?L4n)
   case' L4p =>
    rw [if_pos c23] at H
    have c23b0 : ((l0_4.length : Int) == 7) = true := beq_iff_eq.mpr c23
    have c23b1 : ((l0_4.length : Int) != 7) = false := bne_eq_false_iff_eq.mpr c23
    clear c23
    refine Classical.byCases (p := t394 = true) (fun c24 => ?L5p) (fun c24 => ?L5n)
    case' L5p =>
     subst c24
     have H1 : (some t396) = some r := by rw [if_pos rfl] at H; exact H
     clear H; have H := H1; clear H1
     obtain rfl := Option.some.inj H
    case' L5n =>
     replace c24 := Bool.eq_false_iff.mpr c24
     subst c24
     have H1 : (some false) = some r := by rw [if_neg (show ¬ (false = true) by decide)] at H; exact H
     clear H; have H := H1; clear H1
     obtain rfl := Option.some.inj H
   case' L4n =>
    rw [if_neg c23] at H
    have c23b0 : ((l0_4.length : Int) == 7) = false := beq_eq_false_iff_ne.mpr c23
    have c23b1 : ((l0_4.length : Int) != 7) = true := bne_iff_ne.mpr c23
    refine Classical.byCases (p := t394 = true) (fun c37 => ?L6p) (fun c37 => ?L6n)
    case' L6p =>
     subst c37
     have H1 : (some true) = some r := by rw [if_pos rfl] at H; exact H
     clear H; have H := H1; clear H1
     obtain rfl := Option.some.inj H
    case' L6n =>
     replace c37 := Bool.eq_false_iff.mpr c37
     subst c37
     have H1 : (some t396) = some r := by rw [if_neg (show ¬ (false = true) by decide)] at H; exact H
     clear H; have H := H1; clear H1
     obtain rfl := Option.some.inj H
 case' L1n =>
  replace c8 := Bool.eq_false_iff.mpr c8
  subst c8
  have H1 : (some false) = some r := by rw [if_neg (show ¬ (false = true) by decide)] at H; exact H
  clear H; have H := H1; clear H1
  obtain rfl := Option.some.inj H
  go_enter Try.func34, Try.ntmps34
  go_wp2_with (first | ((with_reducible refine gate_dst (N := 2) rfl ?_); (try (refine gate_guard (by rfl) ?_; dsimp only)); refine bxE 2 #[.slice A0_0 l0_0.length c0_0, .slice A0_1 l0_1.length c0_1, .slice A0_2 l0_2.length c0_2, .slice A0_3 l0_3.length c0_3, .slice A0_4 l0_4.length c0_4] 26 ?_; intro gb386 hg w50 hbox hb; have BK386 := aM (hbox); have GW386 := szG hg (uL HB); have GE386 := szG hg (uL HB); replace HB := aM (below_step (uL HB) hb); clear hb hbox hg) | (go_at_call 42; (with_reducible refine (spec_CivilOf.calls k a1 t387 t388 t389 t390 t391 t392 _ A3.out).mono ?_); rintro e w51 ⟨rfl, hb⟩; replace BK386 := blkB BK386 hb; replace HB := aM (below_step (uL HB) hb); try clear hb) | ((with_reducible refine gate_dst (N := 5) rfl ?_); (try (refine gate_guard (by rfl) ?_; dsimp only)); refine bxE 5 #[.int .i64 0, .int .i64 0, .int .i64 0, .int .i64 0, .int .i64 0] 51 ?_; intro gb393 hg w52 hbox hb; have BK393 := aM (hbox); have GW393 := szG hg (uL HB); have GE393 := szG hg (uL HB); have NB386_393 := neL hg BK386; have NB393_386 := neG hg BK386; replace BK386 := blkB BK386 hb; replace HB := aM (below_step (uL HB) hb); clear hb hbox hg; have hnb53 := NB393_386.out; have hnc53 := NB386_393.out; have hcz54_0 := czA BK393.out 0 (.int .i64 0); have hcz54_1 := czA BK393.out 1 (.int .i64 0); have hcz54_2 := czA BK393.out 2 (.int .i64 0); have hcz54_3 := czA BK393.out 3 (.int .i64 0); have hcz54_4 := czA BK393.out 4 (.int .i64 0); have hfz54_0 := blk_frozen BK393.out 0; have hfz54_1 := blk_frozen BK393.out 1; have hfz54_2 := blk_frozen BK393.out 2; have hfz54_3 := blk_frozen BK393.out 3; have hfz54_4 := blk_frozen BK393.out 4; have hcz55_0 := czA BK386.out 0 (.slice A0_0 l0_0.length c0_0); have hcz55_1 := czA BK386.out 1 (.slice A0_1 l0_1.length c0_1); have hcz55_2 := czA BK386.out 2 (.slice A0_2 l0_2.length c0_2); have hcz55_3 := czA BK386.out 3 (.slice A0_3 l0_3.length c0_3); have hcz55_4 := czA BK386.out 4 (.slice A0_4 l0_4.length c0_4); have hfz55_0 := blk_frozen BK386.out 0; have hfz55_1 := blk_frozen BK386.out 1; have hfz55_2 := blk_frozen BK386.out 2; have hfz55_3 := blk_frozen BK386.out 3; have hfz55_4 := blk_frozen BK386.out 4) | (go_at_call 43; (with_reducible refine (spec_l10In.calls k _ _ l0_2 t389 t394 _ ?side1 ?side2 A4.out).mono ?_); (case side1 => exact Kd.C_below HR0_2.out (uL HB)); (case side2 => exact HC0_2.out); rintro e w' ⟨rfl, ⟨nd, rfl⟩⟩; (try first | exact ⟨rfl, _, World.drewN_drewN _ _ _⟩ | exact ⟨rfl, _, Eq.trans (World.drewN_drewN _ _ _) (congrArg (World.drewN _) (Nat.add_assoc _ _ _))⟩)) | (go_at_call 44; (with_reducible refine (spec_WeekdayOf.calls a1 t395 _ A5.out).mono ?_); rintro e w' ⟨rfl, ⟨nd, rfl⟩⟩; (try first | exact ⟨rfl, _, World.drewN_drewN _ _ _⟩ | exact ⟨rfl, _, Eq.trans (World.drewN_drewN _ _ _) (congrArg (World.drewN _) (Nat.add_assoc _ _ _))⟩)) | (go_at_call 43; (with_reducible refine (spec_l10In.calls k _ _ l0_4 t395 t396 _ ?side1 ?side2 A6.out).mono ?_); (case side1 => exact Kd.C_below HR0_4.out (uL HB)); (case side2 => exact HC0_4.out); rintro e w' ⟨rfl, ⟨nd, rfl⟩⟩; (try first | exact ⟨rfl, _, World.drewN_drewN _ _ _⟩ | exact ⟨rfl, _, Eq.trans (World.drewN_drewN _ _ _) (congrArg (World.drewN _) (Nat.add_assoc _ _ _))⟩)) | (go_at_call 43; (with_reducible refine (spec_l10In.calls k _ _ l0_3 t388 false _ ?side1 ?side2 A7.out).mono ?_); (case side1 => exact Kd.C_below HR0_3.out (uL HB)); (case side2 => exact HC0_3.out); rintro e w' ⟨rfl, ⟨nd, rfl⟩⟩; (try first | exact ⟨rfl, _, World.drewN_drewN _ _ _⟩ | exact ⟨rfl, _, Eq.trans (World.drewN_drewN _ _ _) (congrArg (World.drewN _) (Nat.add_assoc _ _ _))⟩)))
  repeat (go_quiet (first | ((with_reducible refine gate_dst (N := 2) rfl ?_); (try (refine gate_guard (by rfl) ?_; dsimp only)); refine bxE 2 #[.slice A0_0 l0_0.length c0_0, .slice A0_1 l0_1.length c0_1, .slice A0_2 l0_2.length c0_2, .slice A0_3 l0_3.length c0_3, .slice A0_4 l0_4.length c0_4] 26 ?_; intro gb386 hg w50 hbox hb; have BK386 := aM (hbox); have GW386 := szG hg (uL HB); have GE386 := szG hg (uL HB); replace HB := aM (below_step (uL HB) hb); clear hb hbox hg) | (go_at_call 42; (with_reducible refine (spec_CivilOf.calls k a1 t387 t388 t389 t390 t391 t392 _ A3.out).mono ?_); rintro e w51 ⟨rfl, hb⟩; replace BK386 := blkB BK386 hb; replace HB := aM (below_step (uL HB) hb); try clear hb) | ((with_reducible refine gate_dst (N := 5) rfl ?_); (try (refine gate_guard (by rfl) ?_; dsimp only)); refine bxE 5 #[.int .i64 0, .int .i64 0, .int .i64 0, .int .i64 0, .int .i64 0] 51 ?_; intro gb393 hg w52 hbox hb; have BK393 := aM (hbox); have GW393 := szG hg (uL HB); have GE393 := szG hg (uL HB); have NB386_393 := neL hg BK386; have NB393_386 := neG hg BK386; replace BK386 := blkB BK386 hb; replace HB := aM (below_step (uL HB) hb); clear hb hbox hg; have hnb53 := NB393_386.out; have hnc53 := NB386_393.out; have hcz54_0 := czA BK393.out 0 (.int .i64 0); have hcz54_1 := czA BK393.out 1 (.int .i64 0); have hcz54_2 := czA BK393.out 2 (.int .i64 0); have hcz54_3 := czA BK393.out 3 (.int .i64 0); have hcz54_4 := czA BK393.out 4 (.int .i64 0); have hfz54_0 := blk_frozen BK393.out 0; have hfz54_1 := blk_frozen BK393.out 1; have hfz54_2 := blk_frozen BK393.out 2; have hfz54_3 := blk_frozen BK393.out 3; have hfz54_4 := blk_frozen BK393.out 4; have hcz55_0 := czA BK386.out 0 (.slice A0_0 l0_0.length c0_0); have hcz55_1 := czA BK386.out 1 (.slice A0_1 l0_1.length c0_1); have hcz55_2 := czA BK386.out 2 (.slice A0_2 l0_2.length c0_2); have hcz55_3 := czA BK386.out 3 (.slice A0_3 l0_3.length c0_3); have hcz55_4 := czA BK386.out 4 (.slice A0_4 l0_4.length c0_4); have hfz55_0 := blk_frozen BK386.out 0; have hfz55_1 := blk_frozen BK386.out 1; have hfz55_2 := blk_frozen BK386.out 2; have hfz55_3 := blk_frozen BK386.out 3; have hfz55_4 := blk_frozen BK386.out 4) | (go_at_call 43; (with_reducible refine (spec_l10In.calls k _ _ l0_2 t389 t394 _ ?side1 ?side2 A4.out).mono ?_); (case side1 => exact Kd.C_below HR0_2.out (uL HB)); (case side2 => exact HC0_2.out); rintro e w' ⟨rfl, ⟨nd, rfl⟩⟩; (try first | exact ⟨rfl, _, World.drewN_drewN _ _ _⟩ | exact ⟨rfl, _, Eq.trans (World.drewN_drewN _ _ _) (congrArg (World.drewN _) (Nat.add_assoc _ _ _))⟩)) | (go_at_call 44; (with_reducible refine (spec_WeekdayOf.calls a1 t395 _ A5.out).mono ?_); rintro e w' ⟨rfl, ⟨nd, rfl⟩⟩; (try first | exact ⟨rfl, _, World.drewN_drewN _ _ _⟩ | exact ⟨rfl, _, Eq.trans (World.drewN_drewN _ _ _) (congrArg (World.drewN _) (Nat.add_assoc _ _ _))⟩)) | (go_at_call 43; (with_reducible refine (spec_l10In.calls k _ _ l0_4 t395 t396 _ ?side1 ?side2 A6.out).mono ?_); (case side1 => exact Kd.C_below HR0_4.out (uL HB)); (case side2 => exact HC0_4.out); rintro e w' ⟨rfl, ⟨nd, rfl⟩⟩; (try first | exact ⟨rfl, _, World.drewN_drewN _ _ _⟩ | exact ⟨rfl, _, Eq.trans (World.drewN_drewN _ _ _) (congrArg (World.drewN _) (Nat.add_assoc _ _ _))⟩)) | (go_at_call 43; (with_reducible refine (spec_l10In.calls k _ _ l0_3 t388 false _ ?side1 ?side2 A7.out).mono ?_); (case side1 => exact Kd.C_below HR0_3.out (uL HB)); (case side2 => exact HC0_3.out); rintro e w' ⟨rfl, ⟨nd, rfl⟩⟩; (try first | exact ⟨rfl, _, World.drewN_drewN _ _ _⟩ | exact ⟨rfl, _, Eq.trans (World.drewN_drewN _ _ _) (congrArg (World.drewN _) (Nat.add_assoc _ _ _))⟩))); try go_wp2_with (first | ((with_reducible refine gate_dst (N := 2) rfl ?_); (try (refine gate_guard (by rfl) ?_; dsimp only)); refine bxE 2 #[.slice A0_0 l0_0.length c0_0, .slice A0_1 l0_1.length c0_1, .slice A0_2 l0_2.length c0_2, .slice A0_3 l0_3.length c0_3, .slice A0_4 l0_4.length c0_4] 26 ?_; intro gb386 hg w50 hbox hb; have BK386 := aM (hbox); have GW386 := szG hg (uL HB); have GE386 := szG hg (uL HB); replace HB := aM (below_step (uL HB) hb); clear hb hbox hg) | (go_at_call 42; (with_reducible refine (spec_CivilOf.calls k a1 t387 t388 t389 t390 t391 t392 _ A3.out).mono ?_); rintro e w51 ⟨rfl, hb⟩; replace BK386 := blkB BK386 hb; replace HB := aM (below_step (uL HB) hb); try clear hb) | ((with_reducible refine gate_dst (N := 5) rfl ?_); (try (refine gate_guard (by rfl) ?_; dsimp only)); refine bxE 5 #[.int .i64 0, .int .i64 0, .int .i64 0, .int .i64 0, .int .i64 0] 51 ?_; intro gb393 hg w52 hbox hb; have BK393 := aM (hbox); have GW393 := szG hg (uL HB); have GE393 := szG hg (uL HB); have NB386_393 := neL hg BK386; have NB393_386 := neG hg BK386; replace BK386 := blkB BK386 hb; replace HB := aM (below_step (uL HB) hb); clear hb hbox hg; have hnb53 := NB393_386.out; have hnc53 := NB386_393.out; have hcz54_0 := czA BK393.out 0 (.int .i64 0); have hcz54_1 := czA BK393.out 1 (.int .i64 0); have hcz54_2 := czA BK393.out 2 (.int .i64 0); have hcz54_3 := czA BK393.out 3 (.int .i64 0); have hcz54_4 := czA BK393.out 4 (.int .i64 0); have hfz54_0 := blk_frozen BK393.out 0; have hfz54_1 := blk_frozen BK393.out 1; have hfz54_2 := blk_frozen BK393.out 2; have hfz54_3 := blk_frozen BK393.out 3; have hfz54_4 := blk_frozen BK393.out 4; have hcz55_0 := czA BK386.out 0 (.slice A0_0 l0_0.length c0_0); have hcz55_1 := czA BK386.out 1 (.slice A0_1 l0_1.length c0_1); have hcz55_2 := czA BK386.out 2 (.slice A0_2 l0_2.length c0_2); have hcz55_3 := czA BK386.out 3 (.slice A0_3 l0_3.length c0_3); have hcz55_4 := czA BK386.out 4 (.slice A0_4 l0_4.length c0_4); have hfz55_0 := blk_frozen BK386.out 0; have hfz55_1 := blk_frozen BK386.out 1; have hfz55_2 := blk_frozen BK386.out 2; have hfz55_3 := blk_frozen BK386.out 3; have hfz55_4 := blk_frozen BK386.out 4) | (go_at_call 43; (with_reducible refine (spec_l10In.calls k _ _ l0_2 t389 t394 _ ?side1 ?side2 A4.out).mono ?_); (case side1 => exact Kd.C_below HR0_2.out (uL HB)); (case side2 => exact HC0_2.out); rintro e w' ⟨rfl, ⟨nd, rfl⟩⟩; (try first | exact ⟨rfl, _, World.drewN_drewN _ _ _⟩ | exact ⟨rfl, _, Eq.trans (World.drewN_drewN _ _ _) (congrArg (World.drewN _) (Nat.add_assoc _ _ _))⟩)) | (go_at_call 44; (with_reducible refine (spec_WeekdayOf.calls a1 t395 _ A5.out).mono ?_); rintro e w' ⟨rfl, ⟨nd, rfl⟩⟩; (try first | exact ⟨rfl, _, World.drewN_drewN _ _ _⟩ | exact ⟨rfl, _, Eq.trans (World.drewN_drewN _ _ _) (congrArg (World.drewN _) (Nat.add_assoc _ _ _))⟩)) | (go_at_call 43; (with_reducible refine (spec_l10In.calls k _ _ l0_4 t395 t396 _ ?side1 ?side2 A6.out).mono ?_); (case side1 => exact Kd.C_below HR0_4.out (uL HB)); (case side2 => exact HC0_4.out); rintro e w' ⟨rfl, ⟨nd, rfl⟩⟩; (try first | exact ⟨rfl, _, World.drewN_drewN _ _ _⟩ | exact ⟨rfl, _, Eq.trans (World.drewN_drewN _ _ _) (congrArg (World.drewN _) (Nat.add_assoc _ _ _))⟩)) | (go_at_call 43; (with_reducible refine (spec_l10In.calls k _ _ l0_3 t388 false _ ?side1 ?side2 A7.out).mono ?_); (case side1 => exact Kd.C_below HR0_3.out (uL HB)); (case side2 => exact HC0_3.out); rintro e w' ⟨rfl, ⟨nd, rfl⟩⟩; (try first | exact ⟨rfl, _, World.drewN_drewN _ _ _⟩ | exact ⟨rfl, _, Eq.trans (World.drewN_drewN _ _ _) (congrArg (World.drewN _) (Nat.add_assoc _ _ _))⟩))))
  go_ret
  exact rX HB
 case L3p | L3n | L5p | L5n | L6p | L6n =>
  go_enter Try.func34, Try.ntmps34
  go_wp2_with (first | ((with_reducible refine gate_dst (N := 2) rfl ?_); (try (refine gate_guard (by rfl) ?_; dsimp only)); refine bxE 2 #[.slice A0_0 l0_0.length c0_0, .slice A0_1 l0_1.length c0_1, .slice A0_2 l0_2.length c0_2, .slice A0_3 l0_3.length c0_3, .slice A0_4 l0_4.length c0_4] 26 ?_; intro gb386 hg w11 hbox hb; have BK386 := aM (hbox); have GW386 := szG hg (uL HB); have GE386 := szG hg (uL HB); replace HB := aM (below_step (uL HB) hb); clear hb hbox hg) | (go_at_call 42; (with_reducible refine (spec_CivilOf.calls k a1 t387 t388 t389 t390 t391 t392 _ A3.out).mono ?_); rintro e w12 ⟨rfl, hb⟩; replace BK386 := blkB BK386 hb; replace HB := aM (below_step (uL HB) hb); try clear hb) | ((with_reducible refine gate_dst (N := 5) rfl ?_); (try (refine gate_guard (by rfl) ?_; dsimp only)); refine bxE 5 #[.int .i64 0, .int .i64 0, .int .i64 0, .int .i64 0, .int .i64 0] 51 ?_; intro gb393 hg w13 hbox hb; have BK393 := aM (hbox); have GW393 := szG hg (uL HB); have GE393 := szG hg (uL HB); have NB386_393 := neL hg BK386; have NB393_386 := neG hg BK386; replace BK386 := blkB BK386 hb; replace HB := aM (below_step (uL HB) hb); clear hb hbox hg; have hnb14 := NB393_386.out; have hnc14 := NB386_393.out; have hcz15_0 := czA BK393.out 0 (.int .i64 0); have hcz15_1 := czA BK393.out 1 (.int .i64 0); have hcz15_2 := czA BK393.out 2 (.int .i64 0); have hcz15_3 := czA BK393.out 3 (.int .i64 0); have hcz15_4 := czA BK393.out 4 (.int .i64 0); have hfz15_0 := blk_frozen BK393.out 0; have hfz15_1 := blk_frozen BK393.out 1; have hfz15_2 := blk_frozen BK393.out 2; have hfz15_3 := blk_frozen BK393.out 3; have hfz15_4 := blk_frozen BK393.out 4; have hcz16_0 := czA BK386.out 0 (.slice A0_0 l0_0.length c0_0); have hcz16_1 := czA BK386.out 1 (.slice A0_1 l0_1.length c0_1); have hcz16_2 := czA BK386.out 2 (.slice A0_2 l0_2.length c0_2); have hcz16_3 := czA BK386.out 3 (.slice A0_3 l0_3.length c0_3); have hcz16_4 := czA BK386.out 4 (.slice A0_4 l0_4.length c0_4); have hfz16_0 := blk_frozen BK386.out 0; have hfz16_1 := blk_frozen BK386.out 1; have hfz16_2 := blk_frozen BK386.out 2; have hfz16_3 := blk_frozen BK386.out 3; have hfz16_4 := blk_frozen BK386.out 4) | (go_at_call 43; (with_reducible refine (spec_l10In.calls k _ _ l0_2 t389 _ _ ?side1 ?side2 A4.out).mono ?_); (case side1 => exact Kd.C_below HR0_2.out (uL HB)); (case side2 => exact HC0_2.out); rintro e w' ⟨rfl, ⟨nd, rfl⟩⟩; (try first | exact ⟨rfl, _, World.drewN_drewN _ _ _⟩ | exact ⟨rfl, _, Eq.trans (World.drewN_drewN _ _ _) (congrArg (World.drewN _) (Nat.add_assoc _ _ _))⟩)) | (go_at_call 44; (with_reducible refine (spec_WeekdayOf.calls a1 t395 _ A5.out).mono ?_); rintro e w' ⟨rfl, ⟨nd, rfl⟩⟩; (try first | exact ⟨rfl, _, World.drewN_drewN _ _ _⟩ | exact ⟨rfl, _, Eq.trans (World.drewN_drewN _ _ _) (congrArg (World.drewN _) (Nat.add_assoc _ _ _))⟩)) | (go_at_call 43; (with_reducible refine (spec_l10In.calls k _ _ l0_4 t395 t396 _ ?side1 ?side2 A6.out).mono ?_); (case side1 => exact Kd.C_below HR0_4.out (uL HB)); (case side2 => exact HC0_4.out); rintro e w' ⟨rfl, ⟨nd, rfl⟩⟩; (try first | exact ⟨rfl, _, World.drewN_drewN _ _ _⟩ | exact ⟨rfl, _, Eq.trans (World.drewN_drewN _ _ _) (congrArg (World.drewN _) (Nat.add_assoc _ _ _))⟩)) | (go_at_call 43; (with_reducible refine (spec_l10In.calls k _ _ l0_3 t388 true _ ?side1 ?side2 A7.out).mono ?_); (case side1 => exact Kd.C_below HR0_3.out (uL HB)); (case side2 => exact HC0_3.out); rintro e w' ⟨rfl, ⟨nd, rfl⟩⟩; (try first | exact ⟨rfl, _, World.drewN_drewN _ _ _⟩ | exact ⟨rfl, _, Eq.trans (World.drewN_drewN _ _ _) (congrArg (World.drewN _) (Nat.add_assoc _ _ _))⟩)))
  repeat (go_quiet (first | ((with_reducible refine gate_dst (N := 2) rfl ?_); (try (refine gate_guard (by rfl) ?_; dsimp only)); refine bxE 2 #[.slice A0_0 l0_0.length c0_0, .slice A0_1 l0_1.length c0_1, .slice A0_2 l0_2.length c0_2, .slice A0_3 l0_3.length c0_3, .slice A0_4 l0_4.length c0_4] 26 ?_; intro gb386 hg w11 hbox hb; have BK386 := aM (hbox); have GW386 := szG hg (uL HB); have GE386 := szG hg (uL HB); replace HB := aM (below_step (uL HB) hb); clear hb hbox hg) | (go_at_call 42; (with_reducible refine (spec_CivilOf.calls k a1 t387 t388 t389 t390 t391 t392 _ A3.out).mono ?_); rintro e w12 ⟨rfl, hb⟩; replace BK386 := blkB BK386 hb; replace HB := aM (below_step (uL HB) hb); try clear hb) | ((with_reducible refine gate_dst (N := 5) rfl ?_); (try (refine gate_guard (by rfl) ?_; dsimp only)); refine bxE 5 #[.int .i64 0, .int .i64 0, .int .i64 0, .int .i64 0, .int .i64 0] 51 ?_; intro gb393 hg w13 hbox hb; have BK393 := aM (hbox); have GW393 := szG hg (uL HB); have GE393 := szG hg (uL HB); have NB386_393 := neL hg BK386; have NB393_386 := neG hg BK386; replace BK386 := blkB BK386 hb; replace HB := aM (below_step (uL HB) hb); clear hb hbox hg; have hnb14 := NB393_386.out; have hnc14 := NB386_393.out; have hcz15_0 := czA BK393.out 0 (.int .i64 0); have hcz15_1 := czA BK393.out 1 (.int .i64 0); have hcz15_2 := czA BK393.out 2 (.int .i64 0); have hcz15_3 := czA BK393.out 3 (.int .i64 0); have hcz15_4 := czA BK393.out 4 (.int .i64 0); have hfz15_0 := blk_frozen BK393.out 0; have hfz15_1 := blk_frozen BK393.out 1; have hfz15_2 := blk_frozen BK393.out 2; have hfz15_3 := blk_frozen BK393.out 3; have hfz15_4 := blk_frozen BK393.out 4; have hcz16_0 := czA BK386.out 0 (.slice A0_0 l0_0.length c0_0); have hcz16_1 := czA BK386.out 1 (.slice A0_1 l0_1.length c0_1); have hcz16_2 := czA BK386.out 2 (.slice A0_2 l0_2.length c0_2); have hcz16_3 := czA BK386.out 3 (.slice A0_3 l0_3.length c0_3); have hcz16_4 := czA BK386.out 4 (.slice A0_4 l0_4.length c0_4); have hfz16_0 := blk_frozen BK386.out 0; have hfz16_1 := blk_frozen BK386.out 1; have hfz16_2 := blk_frozen BK386.out 2; have hfz16_3 := blk_frozen BK386.out 3; have hfz16_4 := blk_frozen BK386.out 4) | (go_at_call 43; (with_reducible refine (spec_l10In.calls k _ _ l0_2 t389 _ _ ?side1 ?side2 A4.out).mono ?_); (case side1 => exact Kd.C_below HR0_2.out (uL HB)); (case side2 => exact HC0_2.out); rintro e w' ⟨rfl, ⟨nd, rfl⟩⟩; (try first | exact ⟨rfl, _, World.drewN_drewN _ _ _⟩ | exact ⟨rfl, _, Eq.trans (World.drewN_drewN _ _ _) (congrArg (World.drewN _) (Nat.add_assoc _ _ _))⟩)) | (go_at_call 44; (with_reducible refine (spec_WeekdayOf.calls a1 t395 _ A5.out).mono ?_); rintro e w' ⟨rfl, ⟨nd, rfl⟩⟩; (try first | exact ⟨rfl, _, World.drewN_drewN _ _ _⟩ | exact ⟨rfl, _, Eq.trans (World.drewN_drewN _ _ _) (congrArg (World.drewN _) (Nat.add_assoc _ _ _))⟩)) | (go_at_call 43; (with_reducible refine (spec_l10In.calls k _ _ l0_4 t395 t396 _ ?side1 ?side2 A6.out).mono ?_); (case side1 => exact Kd.C_below HR0_4.out (uL HB)); (case side2 => exact HC0_4.out); rintro e w' ⟨rfl, ⟨nd, rfl⟩⟩; (try first | exact ⟨rfl, _, World.drewN_drewN _ _ _⟩ | exact ⟨rfl, _, Eq.trans (World.drewN_drewN _ _ _) (congrArg (World.drewN _) (Nat.add_assoc _ _ _))⟩)) | (go_at_call 43; (with_reducible refine (spec_l10In.calls k _ _ l0_3 t388 true _ ?side1 ?side2 A7.out).mono ?_); (case side1 => exact Kd.C_below HR0_3.out (uL HB)); (case side2 => exact HC0_3.out); rintro e w' ⟨rfl, ⟨nd, rfl⟩⟩; (try first | exact ⟨rfl, _, World.drewN_drewN _ _ _⟩ | exact ⟨rfl, _, Eq.trans (World.drewN_drewN _ _ _) (congrArg (World.drewN _) (Nat.add_assoc _ _ _))⟩))); try go_wp2_with (first | ((with_reducible refine gate_dst (N := 2) rfl ?_); (try (refine gate_guard (by rfl) ?_; dsimp only)); refine bxE 2 #[.slice A0_0 l0_0.length c0_0, .slice A0_1 l0_1.length c0_1, .slice A0_2 l0_2.length c0_2, .slice A0_3 l0_3.length c0_3, .slice A0_4 l0_4.length c0_4] 26 ?_; intro gb386 hg w11 hbox hb; have BK386 := aM (hbox); have GW386 := szG hg (uL HB); have GE386 := szG hg (uL HB); replace HB := aM (below_step (uL HB) hb); clear hb hbox hg) | (go_at_call 42; (with_reducible refine (spec_CivilOf.calls k a1 t387 t388 t389 t390 t391 t392 _ A3.out).mono ?_); rintro e w12 ⟨rfl, hb⟩; replace BK386 := blkB BK386 hb; replace HB := aM (below_step (uL HB) hb); try clear hb) | ((with_reducible refine gate_dst (N := 5) rfl ?_); (try (refine gate_guard (by rfl) ?_; dsimp only)); refine bxE 5 #[.int .i64 0, .int .i64 0, .int .i64 0, .int .i64 0, .int .i64 0] 51 ?_; intro gb393 hg w13 hbox hb; have BK393 := aM (hbox); have GW393 := szG hg (uL HB); have GE393 := szG hg (uL HB); have NB386_393 := neL hg BK386; have NB393_386 := neG hg BK386; replace BK386 := blkB BK386 hb; replace HB := aM (below_step (uL HB) hb); clear hb hbox hg; have hnb14 := NB393_386.out; have hnc14 := NB386_393.out; have hcz15_0 := czA BK393.out 0 (.int .i64 0); have hcz15_1 := czA BK393.out 1 (.int .i64 0); have hcz15_2 := czA BK393.out 2 (.int .i64 0); have hcz15_3 := czA BK393.out 3 (.int .i64 0); have hcz15_4 := czA BK393.out 4 (.int .i64 0); have hfz15_0 := blk_frozen BK393.out 0; have hfz15_1 := blk_frozen BK393.out 1; have hfz15_2 := blk_frozen BK393.out 2; have hfz15_3 := blk_frozen BK393.out 3; have hfz15_4 := blk_frozen BK393.out 4; have hcz16_0 := czA BK386.out 0 (.slice A0_0 l0_0.length c0_0); have hcz16_1 := czA BK386.out 1 (.slice A0_1 l0_1.length c0_1); have hcz16_2 := czA BK386.out 2 (.slice A0_2 l0_2.length c0_2); have hcz16_3 := czA BK386.out 3 (.slice A0_3 l0_3.length c0_3); have hcz16_4 := czA BK386.out 4 (.slice A0_4 l0_4.length c0_4); have hfz16_0 := blk_frozen BK386.out 0; have hfz16_1 := blk_frozen BK386.out 1; have hfz16_2 := blk_frozen BK386.out 2; have hfz16_3 := blk_frozen BK386.out 3; have hfz16_4 := blk_frozen BK386.out 4) | (go_at_call 43; (with_reducible refine (spec_l10In.calls k _ _ l0_2 t389 _ _ ?side1 ?side2 A4.out).mono ?_); (case side1 => exact Kd.C_below HR0_2.out (uL HB)); (case side2 => exact HC0_2.out); rintro e w' ⟨rfl, ⟨nd, rfl⟩⟩; (try first | exact ⟨rfl, _, World.drewN_drewN _ _ _⟩ | exact ⟨rfl, _, Eq.trans (World.drewN_drewN _ _ _) (congrArg (World.drewN _) (Nat.add_assoc _ _ _))⟩)) | (go_at_call 44; (with_reducible refine (spec_WeekdayOf.calls a1 t395 _ A5.out).mono ?_); rintro e w' ⟨rfl, ⟨nd, rfl⟩⟩; (try first | exact ⟨rfl, _, World.drewN_drewN _ _ _⟩ | exact ⟨rfl, _, Eq.trans (World.drewN_drewN _ _ _) (congrArg (World.drewN _) (Nat.add_assoc _ _ _))⟩)) | (go_at_call 43; (with_reducible refine (spec_l10In.calls k _ _ l0_4 t395 t396 _ ?side1 ?side2 A6.out).mono ?_); (case side1 => exact Kd.C_below HR0_4.out (uL HB)); (case side2 => exact HC0_4.out); rintro e w' ⟨rfl, ⟨nd, rfl⟩⟩; (try first | exact ⟨rfl, _, World.drewN_drewN _ _ _⟩ | exact ⟨rfl, _, Eq.trans (World.drewN_drewN _ _ _) (congrArg (World.drewN _) (Nat.add_assoc _ _ _))⟩)) | (go_at_call 43; (with_reducible refine (spec_l10In.calls k _ _ l0_3 t388 true _ ?side1 ?side2 A7.out).mono ?_); (case side1 => exact Kd.C_below HR0_3.out (uL HB)); (case side2 => exact HC0_3.out); rintro e w' ⟨rfl, ⟨nd, rfl⟩⟩; (try first | exact ⟨rfl, _, World.drewN_drewN _ _ _⟩ | exact ⟨rfl, _, Eq.trans (World.drewN_drewN _ _ _) (congrArg (World.drewN _) (Nat.add_assoc _ _ _))⟩))))
  go_ret
  exact rX HB

end Go.Proofs.Ythomiofokkkhgaa.QFnCounts
