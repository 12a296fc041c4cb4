-- Own work (wip/turnprint.py over the kit's print).
import Derived.Test.YtacdceahdbaonaaQFnExactLogPutx0
import Derived.Test.YtacdceahdbaonaaQFnExactLogPutx5
namespace Go.Proofs.Ytacdceahdbaonaa.QFnExactLogPut
open Go.RowKit Go.Proofs.YtacdceahdbaonaaW.PrintWords Go.Proofs.YtacdceahdbaonaaW.PrintLast Go.Proofs.YtacdceahdbaonaaW.PrintMore
attribute [local go_sem] max2_int min2_int max_two min_two max_three min_three max_four min_four   -- for this text's walks alone
set_option linter.unusedVariables false
set_option linter.unusedSimpArgs false

/-! ### impl_LogOk: function 27 -/
mutual
def impl_LogOk.j0 : Nat → Bool → Int → Int → List (S40) → Option (Bool)
 | 0, _, _, _, _ => none
 | k + 1, x30, x213000, x213001, x213002 => if x30 = true then (some false) else (impl_LogOk.l0 k x213001 x213002 (x213002.length : Int) 0)
def impl_LogOk.l0 : Nat → Int → List (S40) → Int → Int → Option (Bool)
 | 0, _, _, _, _ => none
 | k + 1, x3, x34, x35, x36 => if x36 < x35 then (if 0 ≤ x36 then (if x36 < (x34.length : Int) then ((impl_EntryOk.f k ((rd_T40 x34 x36).f0) ((rd_T40 x34 x36).f1) ((rd_T40 x34 x36).f2)).bind fun t217 => (if t217 = true then (if ((rd_T40 x34 x36).f0) < x3 then (some false) else (impl_LogOk.l0 k ((rd_T40 x34 x36).f0) x34 x35 (wrap64 (x36 + 1)))) else (some false))) else (none)) else (none)) else (some true)
end
def impl_LogOk.f (k : Nat) (a0_0 : Int) (a0_1 : Int) (l0_2 : List (S40)) : Option (Bool) := (impl_isIndex.f a0_0).bind fun t213 => (if t213 = true then ((impl_isTerm.f a0_1).bind fun t214 => (if t214 = true then (if (l0_2.length : Int) > 60 then (impl_LogOk.j0 k true a0_0 a0_1 l0_2) else (impl_LogOk.j0 k (decide ((wrap64 (a0_0 + (l0_2.length : Int))) > 1000000)) a0_0 a0_1 l0_2)) else (impl_LogOk.j0 k true a0_0 a0_1 l0_2))) else (impl_LogOk.j0 k true a0_0 a0_1 l0_2))
theorem impl_LogOk.mono_l : ∀ k, (∀ y0 y1 y2 y3, LeO (impl_LogOk.j0 k y0 y1 y2 y3) (impl_LogOk.j0 (k + 1) y0 y1 y2 y3)) ∧ (∀ y0 y1 y2 y3, LeO (impl_LogOk.l0 k y0 y1 y2 y3) (impl_LogOk.l0 (k + 1) y0 y1 y2 y3))
 | 0 => ⟨fun _ _ _ _ r h => by simp [impl_LogOk.j0] at h, fun _ _ _ _ r h => by simp [impl_LogOk.l0] at h⟩
 | k + 1 => by
  obtain ⟨ih0, ih1⟩ := impl_LogOk.mono_l k
  refine ⟨?_, ?_⟩
  ·intro y0 y1 y2 y3
   unfold impl_LogOk.j0
   repeat' first
   | (with_reducible exact ih0 _ _ _ _)
   | (with_reducible exact ih1 _ _ _ _)
   | (with_reducible exact impl_EntryOk.mono _ _ _ _)
   | (with_reducible exact LeO.refl _)
   | (with_reducible exact LeO.none _)
   | (with_reducible refine LeO.ite ?_ ?_)
   | (with_reducible refine LeO.bind ?_ (fun _ => ?_))
   | exact ih0 _ _ _ _
   | exact ih1 _ _ _ _
   | exact impl_EntryOk.mono _ _ _ _
   | exact LeO.none _
   | refine LeO.ite ?_ ?_
   | refine LeO.bind ?_ (fun _ => ?_)
  ·intro y0 y1 y2 y3
   unfold impl_LogOk.l0
   repeat' first
   | (with_reducible exact ih0 _ _ _ _)
   | (with_reducible exact ih1 _ _ _ _)
   | (with_reducible exact impl_EntryOk.mono _ _ _ _)
   | (with_reducible exact LeO.refl _)
   | (with_reducible exact LeO.none _)
   | (with_reducible refine LeO.ite ?_ ?_)
   | (with_reducible refine LeO.bind ?_ (fun _ => ?_))
   | exact ih0 _ _ _ _
   | exact ih1 _ _ _ _
   | exact impl_EntryOk.mono _ _ _ _
   | exact LeO.none _
   | refine LeO.ite ?_ ?_
   | refine LeO.bind ?_ (fun _ => ?_)
theorem impl_LogOk.mono : ∀ a0 a1 a2 k, LeO (impl_LogOk.f k a0 a1 a2) (impl_LogOk.f (k + 1) a0 a1 a2) := by
 intro a0 a1 a2 k
 obtain ⟨ih0, ih1⟩ := impl_LogOk.mono_l k
 unfold impl_LogOk.f
 repeat' first
  | (with_reducible exact ih0 _ _ _ _)
  | (with_reducible exact ih1 _ _ _ _)
  | (with_reducible exact impl_EntryOk.mono _ _ _ _)
  | (with_reducible exact LeO.refl _)
  | (with_reducible exact LeO.none _)
  | (with_reducible refine LeO.ite ?_ ?_)
  | (with_reducible refine LeO.bind ?_ (fun _ => ?_))
  | exact ih0 _ _ _ _
  | exact ih1 _ _ _ _
  | exact impl_EntryOk.mono _ _ _ _
  | exact LeO.none _
  | refine LeO.ite ?_ ?_
  | refine LeO.bind ?_ (fun _ => ?_)
set_option maxHeartbeats 8000000 in
set_option maxRecDepth 100000 in
theorem impl_LogOk.calls (k : Nat) (a0_0 : Int) (a0_1 : Int) (A0_2 : Option Addr) (c0_2 : Nat) (l0_2 : List (S40)) (r : Bool) (w : World) (hr0_2 : Kd.C k40 w A0_2 l0_2.length l0_2) (hc0_2 : l0_2.length ≤ c0_2) (h : impl_LogOk.f k a0_0 a0_1 l0_2 = some r) :
 Calls Try.prog 27 #[.agg #[.int .i64 a0_0, .int .i64 a0_1, .slice A0_2 l0_2.length c0_2]] w fun e w' => e = .returned (.bool r) ∧ Below w.heap.size w w' := by
 have hu30 := Try.underlying30
 have hu40 := Try.underlying40
 have HR0_2 := aM hr0_2
 have HC0_2 := aM hc0_2
 clear hr0_2 hc0_2
 have HB := aM (Below.refl w.heap.size w)
 have H : ((impl_isIndex.f a0_0).bind fun t213 => (if t213 = true then ((impl_isTerm.f a0_1).bind fun t214 => (if t214 = true then (if (l0_2.length : Int) > 60 then (impl_LogOk.j0 k true a0_0 a0_1 l0_2) else (impl_LogOk.j0 k (decide ((wrap64 (a0_0 + (l0_2.length : Int))) > 1000000)) a0_0 a0_1 l0_2)) else (impl_LogOk.j0 k true a0_0 a0_1 l0_2))) else (impl_LogOk.j0 k true a0_0 a0_1 l0_2))) = some r := h
 clear h
 have HC2 := aM H
 clear H
 go_enter Try.func27, Try.ntmps27
 go_upto_region 1 with (first | ((with_reducible refine gate_dst (N := 1) rfl ?_); (try (refine gate_guard (by rfl) ?_; dsimp only)); refine bxE 1 #[.int .i64 a0_0, .int .i64 a0_1, .slice A0_2 l0_2.length c0_2] 30 ?_; intro gb212 hg w3 hbox hb; have BK212 := aM (hbox); have GW212 := szG hg (uL HB); have GE212 := szG hg (uL HB); replace HB := aM (below_step (uL HB) hb); clear hb hbox hg))
 (try simp only [Act.put, List.setIfInBounds_toArray, List.set_cons_zero, List.set_cons_succ])
 go_cut [30] (fun v30 wc => ∃ (kq : Nat) (x30_1 : Bool), v30 = .bool x30_1 ∧ Aside0 (impl_LogOk.j0 kq x30_1 a0_0 a0_1 l0_2 = some r) ∧ Aside0 (kq ≤ k) ∧ Aside0 (wc.heap[gb212]? = some (.cells #[.int .i64 a0_0, .int .i64 a0_1, (.slice A0_2 l0_2.length c0_2)] 30 (0, 0))) ∧ Aside0 (Below w.heap.size w wc))
 case first =>
  have H := HC2.out
  clear HC2
  replace H := Option.bind_eq_some_iff.mp H
  obtain ⟨t213, A40, H⟩ := H
  try dsimp only at H
  have A4 := aM A40
  clear A40
  refine Classical.byCases (p := t213 = true) (fun c5 => ?L1p) (fun c5 => ?L1n)
  case' L1p =>
   subst c5
   rw [if_pos rfl] at H
   replace H := Option.bind_eq_some_iff.mp H
   obtain ⟨t214, A60, H⟩ := H
   try dsimp only at H
   have A6 := aM A60
   clear A60
   refine Classical.byCases (p := t214 = true) (fun c7 => ?L2p) (fun c7 => ?L2n)
   case' L2p =>
    subst c7
    rw [if_pos rfl] at H
    refine Classical.byCases (p := (l0_2.length : Int) > 60) (fun c8 => ?L3p) (fun c8 => ?L3n)
    case' L3p =>
     rw [if_pos c8] at H
     have c8b0 : decide (60 < (l0_2.length : Int)) = true := decide_eq_true c8
     have c8b1 : decide (60 < l0_2.length) = true := decide_eq_true (by omega)
     clear c8
     (first | rw [c8b0] | (simp only [i64_w, i32_w]; rw [c8b0]) | skip)
     have H' := aM H
     clear H
     have hcz9_0 := czA BK212.out 0 (.int .i64 a0_0)
     have hcz9_1 := czA BK212.out 1 (.int .i64 a0_1)
     have hcz9_2 := czA BK212.out 2 (.slice A0_2 l0_2.length c0_2)
     have hfz9_0 := blk_frozen BK212.out 0; have hfz9_1 := blk_frozen BK212.out 1; have hfz9_2 := blk_frozen BK212.out 2
    case' L3n =>
     rw [if_neg c8] at H
     have c8b0 : decide (60 < (l0_2.length : Int)) = false := decide_eq_false c8
     have c8b1 : decide (60 < l0_2.length) = false := decide_eq_false (by omega)
     clear c8
     (first | rw [c8b0] | (simp only [i64_w, i32_w]; rw [c8b0]) | skip)
     have H' := aM H
     clear H
     have hcz10_0 := czA BK212.out 0 (.int .i64 a0_0)
     have hcz10_1 := czA BK212.out 1 (.int .i64 a0_1)
     have hcz10_2 := czA BK212.out 2 (.slice A0_2 l0_2.length c0_2)
     have hfz10_0 := blk_frozen BK212.out 0; have hfz10_1 := blk_frozen BK212.out 1; have hfz10_2 := blk_frozen BK212.out 2
     go_wp2_with (first | ((with_reducible refine gate_callee (f := 55) rfl ?_); refine gL (some 8) Try.func55 #[.int .i64 a0_0] ?_; (with_reducible refine (impl_isIndex.calls a0_0 true _ A4.out).mono ?_); rintro e w' ⟨rfl, ⟨nd, rfl⟩⟩; refine ⟨_, rfl, ?_⟩) | (go_at_call 50; (with_reducible refine (impl_isTerm.calls a0_1 true _ A6.out).mono ?_); rintro e w' ⟨rfl, ⟨nd, rfl⟩⟩))
     go_meet
     case rel => exact ⟨_, (decide ((wrap64 (a0_0 + (l0_2.length : Int))) > 1000000)), (by first | rfl | (simp; done) | (simp [*]; done)), H', ⟨by first | omega | exact Nat.le_refl _⟩, ⟨by exact nB BK212.out⟩, ⟨uL HB⟩⟩
   case' L2n =>
    replace c7 := Bool.eq_false_iff.mpr c7
    subst c7
    have H1 : (impl_LogOk.j0 k true a0_0 a0_1 l0_2) = some r := by rw [if_neg (show ¬ (false = true) by decide)] at H; exact H
    clear H; have H := H1; clear H1
    have H' := aM H
    clear H
    have hcz11_0 := czA BK212.out 0 (.int .i64 a0_0)
    have hcz11_1 := czA BK212.out 1 (.int .i64 a0_1)
    have hcz11_2 := czA BK212.out 2 (.slice A0_2 l0_2.length c0_2)
    have hfz11_0 := blk_frozen BK212.out 0; have hfz11_1 := blk_frozen BK212.out 1; have hfz11_2 := blk_frozen BK212.out 2
  case' L1n =>
   replace c5 := Bool.eq_false_iff.mpr c5
   subst c5
   have H1 : (impl_LogOk.j0 k true a0_0 a0_1 l0_2) = some r := by rw [if_neg (show ¬ (false = true) by decide)] at H; exact H
   clear H; have H := H1; clear H1
   have H' := aM H
   clear H
   have hcz12_0 := czA BK212.out 0 (.int .i64 a0_0)
   have hcz12_1 := czA BK212.out 1 (.int .i64 a0_1)
   have hcz12_2 := czA BK212.out 2 (.slice A0_2 l0_2.length c0_2)
   have hfz12_0 := blk_frozen BK212.out 0; have hfz12_1 := blk_frozen BK212.out 1; have hfz12_2 := blk_frozen BK212.out 2
   go_wp2_with (first | ((with_reducible refine gate_callee (f := 55) rfl ?_); refine gL (some 8) Try.func55 #[.int .i64 a0_0] ?_; (with_reducible refine (impl_isIndex.calls a0_0 false _ A4.out).mono ?_); rintro e w' ⟨rfl, ⟨nd, rfl⟩⟩; refine ⟨_, rfl, ?_⟩))
   go_meet
   case rel => exact ⟨_, (true), (by first | rfl | (simp; done) | (simp [*]; done)), H', ⟨by first | omega | exact Nat.le_refl _⟩, ⟨by exact nB BK212.out⟩, ⟨uL HB⟩⟩
  case L2p | L2n =>
   go_wp2_with (first | ((with_reducible refine gate_callee (f := 55) rfl ?_); refine gL (some 8) Try.func55 #[.int .i64 a0_0] ?_; (with_reducible refine (impl_isIndex.calls a0_0 true _ A4.out).mono ?_); rintro e w' ⟨rfl, ⟨nd, rfl⟩⟩; refine ⟨_, rfl, ?_⟩) | (go_at_call 50; (with_reducible refine (impl_isTerm.calls a0_1 _ _ A6.out).mono ?_); rintro e w' ⟨rfl, ⟨nd, rfl⟩⟩))
   go_meet
   case rel => exact ⟨_, (true), (by first | rfl | (simp; done) | (simp [*]; done)), H', ⟨by first | omega | exact Nat.le_refl _⟩, ⟨by exact nB BK212.out⟩, ⟨uL HB⟩⟩
 case rest =>
  clear HC2
  try clear c2; try clear p2; try clear c5; try clear p6; try clear c7; try clear c8; try clear c8b0; try clear c8b1; try clear hcz10_0; try clear hcz10_1; try clear hcz10_2; try clear hcz11_0; try clear hcz11_1; try clear hcz11_2; try clear hcz12_0; try clear hcz12_1; try clear hcz12_2; try clear hcz9_0; try clear hcz9_1; try clear hcz9_2; try clear hfz10_0; try clear hfz10_1; try clear hfz10_2; try clear hfz11_0; try clear hfz11_1; try clear hfz11_2; try clear hfz12_0; try clear hfz12_1; try clear hfz12_2; try clear hfz9_0; try clear hfz9_1; try clear hfz9_2
  obtain ⟨kq, x30_1, rfl, HA, HJ1, BK212, HB⟩ := hcut
  cases kq with
  | zero => exact absurd HA.out (by simp [impl_LogOk.j0])
  | succ kj1 =>
   have H := HA.out
   clear HA
   simp only [impl_LogOk.j0] at H
   by_cases c13 : x30_1 = true
   ·subst c13
    have H1 : (some false) = some r := by rw [if_pos rfl] at H; exact H
    clear H; have H := H1; clear H1
    obtain rfl := Option.some.inj H
    go_wp2
    go_ret
    exact rX HB
   ·replace c13 := Bool.eq_false_iff.mpr c13
    subst c13
    have H1 : (impl_LogOk.l0 kj1 a0_1 l0_2 (l0_2.length : Int) 0) = some r := by rw [if_neg (show ¬ (false = true) by decide)] at H; exact H
    clear H; have H := H1; clear H1
    have H' := aM H
    clear H
    have hcz14_0 := czA BK212.out 0 (.int .i64 a0_0)
    have hcz14_1 := czA BK212.out 1 (.int .i64 a0_1)
    have hcz14_2 := czA BK212.out 2 (.slice A0_2 l0_2.length c0_2)
    have hfz14_0 := blk_frozen BK212.out 0; have hfz14_1 := blk_frozen BK212.out 1; have hfz14_2 := blk_frozen BK212.out 2
    go_wp2
    go_loopg [3, 36] kj1 (fun kq v3 v36 w' => ∃ (x3_2 : Int) (x36_2 : Int), v3 = .int .i64 x3_2 ∧ v36 = .int .i64 x36_2 ∧ Aside0 (impl_LogOk.l0 kq x3_2 l0_2 (l0_2.length : Int) x36_2 = some r) ∧ Aside0 (kq ≤ kj1) ∧ Aside0 (w'.heap[gb212]? = some (.cells #[.int .i64 a0_0, .int .i64 a0_1, (.slice A0_2 l0_2.length c0_2)] 30 (0, 0))) ∧ Aside0 (Below w.heap.size w w'))
    case atStart => exact ⟨(a0_1), (0), (by first | rfl | (simp; done) | (simp [*]; done)), (by first | rfl | (simp; done) | (simp [*]; done)), H', ⟨Nat.le_refl _⟩, ⟨by exact nB BK212.out⟩, ⟨uL HB⟩⟩
    case round =>
     clear H'
     try clear c1; try clear c2; try clear p2; try clear c5; try clear p6; try clear c7; try clear c8; try clear c8b0; try clear c8b1; try clear c13; try clear hcz10_0; try clear hcz10_1; try clear hcz10_2; try clear hcz11_0; try clear hcz11_1; try clear hcz11_2; try clear hcz12_0; try clear hcz12_1; try clear hcz12_2; try clear hcz14_0; try clear hcz14_1; try clear hcz14_2; try clear hcz9_0; try clear hcz9_1; try clear hcz9_2; try clear hfz10_0; try clear hfz10_1; try clear hfz10_2; try clear hfz11_0; try clear hfz11_1; try clear hfz11_2; try clear hfz12_0; try clear hfz12_1; try clear hfz12_2; try clear hfz14_0; try clear hfz14_1; try clear hfz14_2; try clear hfz9_0; try clear hfz9_1; try clear hfz9_2; try clear p2; try clear p6
     obtain ⟨x3_2, x36_2, rfl, rfl, HA, HK2, BK212, HB⟩ := hrel
     cases gk with
     | zero => exact absurd HA.out (by simp [impl_LogOk.l0])
     | succ k2 =>
      have H := HA.out
      clear HA
      simp only [impl_LogOk.l0] at H
      by_cases c15 : x36_2 < (l0_2.length : Int)
      ·rw [if_pos c15] at H
       have c15b0 : decide (x36_2 < (l0_2.length : Int)) = true := decide_eq_true c15
       clear c15
       by_cases c16 : 0 ≤ x36_2
       ·rw [if_pos c16] at H
        have c16b0 : decide (0 ≤ x36_2) = true := decide_eq_true c16
        clear c16
        by_cases c17 : x36_2 < (l0_2.length : Int)
        ·rw [if_pos c17] at H
         have c17b0 : decide (x36_2 < (l0_2.length : Int)) = true := decide_eq_true c17
         clear c17
         replace H := Option.bind_eq_some_iff.mp H
         obtain ⟨t217, A180, H⟩ := H
         try dsimp only at H
         have A18 := aM A180
         clear A180
         by_cases c19 : t217 = true
         ·subst c19
          rw [if_pos rfl] at H
          by_cases c20 : ((rd_T40 l0_2 x36_2).f0) < x3_2
          ·rw [if_pos c20] at H
           have c20b0 : decide (((rd_T40 l0_2 x36_2).f0) < x3_2) = true := decide_eq_true c20
           clear c20
           obtain rfl := Option.some.inj H
           have p215 : 0 ≤ (x36_2 : Int) := of_decide_eq_true (by first | (with_reducible assumption) | assumption)
           have q215 : x36_2 < (l0_2.length : Int) := of_decide_eq_true (by first | (with_reducible assumption) | assumption)
           obtain ⟨ad215, e215, hx215_0, hx215_1, hx215_2⟩ := at_T40 HR0_2.out x36_2 p215 q215
           cases e215
           replace hx215_0 := hxB HB hx215_0; replace hx215_1 := hxB HB hx215_1; replace hx215_2 := hxB HB hx215_2; replace p215 := eq_true p215; replace q215 := eq_true q215
           go_wp2_with (first | ((with_reducible refine gate_dst (N := 5) rfl ?_); (try (refine gate_guard (by rfl) ?_; dsimp only)); refine bxE 5 #[.int .i64 0, .int .i64 0, .string (⟨#[]⟩ : ByteArray)] 40 ?_; intro gb216 hg w21 hbox hb; have BK216 := aM (hbox); have GW216 := szG hg (uL HB); have GE216 := szG hg (uL HB); have NB212_216 := neL hg BK212; have NB216_212 := neG hg BK212; replace BK212 := blkB BK212 hb; replace HB := aM (below_step (uL HB) hb); clear hb hbox hg; have hnb22 := NB216_212.out; have hnc22 := NB212_216.out; have hcz23_0 := czA BK216.out 0 (.int .i64 0); have hcz23_1 := czA BK216.out 1 (.int .i64 0); have hcz23_2 := czA BK216.out 2 (.string (⟨#[]⟩ : ByteArray)); have hfz23_0 := blk_frozen BK216.out 0; have hfz23_1 := blk_frozen BK216.out 1; have hfz23_2 := blk_frozen BK216.out 2) | ((with_reducible refine gate_callee (f := 23) rfl ?_); refine gL (some 41) Try.func23 #[.agg #[.int .i64 ((rd_T40 l0_2 x36_2).f0), .int .i64 ((rd_T40 l0_2 x36_2).f1), .string ((rd_T40 l0_2 x36_2).f2)]] ?_; (with_reducible refine (impl_EntryOk.calls k2 ((rd_T40 l0_2 x36_2).f0) ((rd_T40 l0_2 x36_2).f1) ((rd_T40 l0_2 x36_2).f2) true _ A18.out).mono ?_); rintro e w24 ⟨rfl, hb⟩; refine ⟨_, rfl, ?_⟩; replace BK212 := blkB BK212 hb; replace BK216 := aM (blk_below (g := gb216) (o := .cells #[.int .i64 ((rd_T40 l0_2 x36_2).f0), .int .i64 ((rd_T40 l0_2 x36_2).f1), .string ((rd_T40 l0_2 x36_2).f2)] 40 (0, 0)) (by refine nB ?_; refine blk_put (cs := #[.int .i64 ((rd_T40 l0_2 x36_2).f0), .int .i64 ((rd_T40 l0_2 x36_2).f1), .string (⟨#[]⟩ : ByteArray)]) ?_ 2 _ rfl; refine nB ?_; refine blk_put (cs := #[.int .i64 ((rd_T40 l0_2 x36_2).f0), .int .i64 0, .string (⟨#[]⟩ : ByteArray)]) ?_ 1 _ rfl; refine nB ?_; refine blk_put (cs := #[.int .i64 0, .int .i64 0, .string (⟨#[]⟩ : ByteArray)]) ?_ 0 _ rfl; exact nB BK216.out) hb); replace HB := aM (below_step (uL HB) hb); try clear hb; have hcz25_0 := czA BK216.out 0 (.int .i64 ((rd_T40 l0_2 x36_2).f0)); have hcz25_1 := czA BK216.out 1 (.int .i64 ((rd_T40 l0_2 x36_2).f1)); have hcz25_2 := czA BK216.out 2 (.string ((rd_T40 l0_2 x36_2).f2)); have hfz25_0 := blk_frozen BK216.out 0; have hfz25_1 := blk_frozen BK216.out 1; have hfz25_2 := blk_frozen BK216.out 2))
           go_ret
           exact rX HB
          ·rw [if_neg c20] at H
           have c20b0 : decide (((rd_T40 l0_2 x36_2).f0) < x3_2) = false := decide_eq_false c20
           clear c20
           have H' := aM H
           clear H
           have p215 : 0 ≤ (x36_2 : Int) := of_decide_eq_true (by first | (with_reducible assumption) | assumption)
           have q215 : x36_2 < (l0_2.length : Int) := of_decide_eq_true (by first | (with_reducible assumption) | assumption)
           obtain ⟨ad215, e215, hx215_0, hx215_1, hx215_2⟩ := at_T40 HR0_2.out x36_2 p215 q215
           cases e215
           replace hx215_0 := hxB HB hx215_0; replace hx215_1 := hxB HB hx215_1; replace hx215_2 := hxB HB hx215_2; replace p215 := eq_true p215; replace q215 := eq_true q215
           go_wp2_with (first | ((with_reducible refine gate_dst (N := 5) rfl ?_); (try (refine gate_guard (by rfl) ?_; dsimp only)); refine bxE 5 #[.int .i64 0, .int .i64 0, .string (⟨#[]⟩ : ByteArray)] 40 ?_; intro gb216 hg w26 hbox hb; have BK216 := aM (hbox); have GW216 := szG hg (uL HB); have GE216 := szG hg (uL HB); have NB212_216 := neL hg BK212; have NB216_212 := neG hg BK212; replace BK212 := blkB BK212 hb; replace HB := aM (below_step (uL HB) hb); clear hb hbox hg; have hnb27 := NB216_212.out; have hnc27 := NB212_216.out; have hcz28_0 := czA BK216.out 0 (.int .i64 0); have hcz28_1 := czA BK216.out 1 (.int .i64 0); have hcz28_2 := czA BK216.out 2 (.string (⟨#[]⟩ : ByteArray)); have hfz28_0 := blk_frozen BK216.out 0; have hfz28_1 := blk_frozen BK216.out 1; have hfz28_2 := blk_frozen BK216.out 2) | ((with_reducible refine gate_callee (f := 23) rfl ?_); refine gL (some 41) Try.func23 #[.agg #[.int .i64 ((rd_T40 l0_2 x36_2).f0), .int .i64 ((rd_T40 l0_2 x36_2).f1), .string ((rd_T40 l0_2 x36_2).f2)]] ?_; (with_reducible refine (impl_EntryOk.calls k2 ((rd_T40 l0_2 x36_2).f0) ((rd_T40 l0_2 x36_2).f1) ((rd_T40 l0_2 x36_2).f2) true _ A18.out).mono ?_); rintro e w29 ⟨rfl, hb⟩; refine ⟨_, rfl, ?_⟩; replace BK212 := blkB BK212 hb; replace BK216 := aM (blk_below (g := gb216) (o := .cells #[.int .i64 ((rd_T40 l0_2 x36_2).f0), .int .i64 ((rd_T40 l0_2 x36_2).f1), .string ((rd_T40 l0_2 x36_2).f2)] 40 (0, 0)) (by refine nB ?_; refine blk_put (cs := #[.int .i64 ((rd_T40 l0_2 x36_2).f0), .int .i64 ((rd_T40 l0_2 x36_2).f1), .string (⟨#[]⟩ : ByteArray)]) ?_ 2 _ rfl; refine nB ?_; refine blk_put (cs := #[.int .i64 ((rd_T40 l0_2 x36_2).f0), .int .i64 0, .string (⟨#[]⟩ : ByteArray)]) ?_ 1 _ rfl; refine nB ?_; refine blk_put (cs := #[.int .i64 0, .int .i64 0, .string (⟨#[]⟩ : ByteArray)]) ?_ 0 _ rfl; exact nB BK216.out) hb); replace HB := aM (below_step (uL HB) hb); try clear hb; have hcz30_0 := czA BK216.out 0 (.int .i64 ((rd_T40 l0_2 x36_2).f0)); have hcz30_1 := czA BK216.out 1 (.int .i64 ((rd_T40 l0_2 x36_2).f1)); have hcz30_2 := czA BK216.out 2 (.string ((rd_T40 l0_2 x36_2).f2)); have hfz30_0 := blk_frozen BK216.out 0; have hfz30_1 := blk_frozen BK216.out 1; have hfz30_2 := blk_frozen BK216.out 2))
           go_roundg k2
           case measure => have := HJ1.out; have := HK2.out; omega
           case rel => exact ⟨((rd_T40 l0_2 x36_2).f0), (wrap64 (x36_2 + 1)), (by first | rfl | (simp; done) | (simp [*]; done)), (by first | rfl | (simp; done) | (simp [*]; done)), H', ⟨by have := HJ1.out; have := HK2.out; omega⟩, ⟨by exact nB BK212.out⟩, ⟨uL HB⟩⟩
         ·replace c19 := Bool.eq_false_iff.mpr c19
          subst c19
          have H1 : (some false) = some r := by rw [if_neg (show ¬ (false = true) by decide)] at H; exact H
          clear H; have H := H1; clear H1
          obtain rfl := Option.some.inj H
          have p215 : 0 ≤ (x36_2 : Int) := of_decide_eq_true (by first | (with_reducible assumption) | assumption)
          have q215 : x36_2 < (l0_2.length : Int) := of_decide_eq_true (by first | (with_reducible assumption) | assumption)
          obtain ⟨ad215, e215, hx215_0, hx215_1, hx215_2⟩ := at_T40 HR0_2.out x36_2 p215 q215
          cases e215
          replace hx215_0 := hxB HB hx215_0; replace hx215_1 := hxB HB hx215_1; replace hx215_2 := hxB HB hx215_2; replace p215 := eq_true p215; replace q215 := eq_true q215
          go_wp2_with (first | ((with_reducible refine gate_dst (N := 5) rfl ?_); (try (refine gate_guard (by rfl) ?_; dsimp only)); refine bxE 5 #[.int .i64 0, .int .i64 0, .string (⟨#[]⟩ : ByteArray)] 40 ?_; intro gb216 hg w31 hbox hb; have BK216 := aM (hbox); have GW216 := szG hg (uL HB); have GE216 := szG hg (uL HB); have NB212_216 := neL hg BK212; have NB216_212 := neG hg BK212; replace BK212 := blkB BK212 hb; replace HB := aM (below_step (uL HB) hb); clear hb hbox hg; have hnb32 := NB216_212.out; have hnc32 := NB212_216.out; have hcz33_0 := czA BK216.out 0 (.int .i64 0); have hcz33_1 := czA BK216.out 1 (.int .i64 0); have hcz33_2 := czA BK216.out 2 (.string (⟨#[]⟩ : ByteArray)); have hfz33_0 := blk_frozen BK216.out 0; have hfz33_1 := blk_frozen BK216.out 1; have hfz33_2 := blk_frozen BK216.out 2) | ((with_reducible refine gate_callee (f := 23) rfl ?_); refine gL (some 41) Try.func23 #[.agg #[.int .i64 ((rd_T40 l0_2 x36_2).f0), .int .i64 ((rd_T40 l0_2 x36_2).f1), .string ((rd_T40 l0_2 x36_2).f2)]] ?_; (with_reducible refine (impl_EntryOk.calls k2 ((rd_T40 l0_2 x36_2).f0) ((rd_T40 l0_2 x36_2).f1) ((rd_T40 l0_2 x36_2).f2) false _ A18.out).mono ?_); rintro e w34 ⟨rfl, hb⟩; refine ⟨_, rfl, ?_⟩; replace BK212 := blkB BK212 hb; replace BK216 := aM (blk_below (g := gb216) (o := .cells #[.int .i64 ((rd_T40 l0_2 x36_2).f0), .int .i64 ((rd_T40 l0_2 x36_2).f1), .string ((rd_T40 l0_2 x36_2).f2)] 40 (0, 0)) (by refine nB ?_; refine blk_put (cs := #[.int .i64 ((rd_T40 l0_2 x36_2).f0), .int .i64 ((rd_T40 l0_2 x36_2).f1), .string (⟨#[]⟩ : ByteArray)]) ?_ 2 _ rfl; refine nB ?_; refine blk_put (cs := #[.int .i64 ((rd_T40 l0_2 x36_2).f0), .int .i64 0, .string (⟨#[]⟩ : ByteArray)]) ?_ 1 _ rfl; refine nB ?_; refine blk_put (cs := #[.int .i64 0, .int .i64 0, .string (⟨#[]⟩ : ByteArray)]) ?_ 0 _ rfl; exact nB BK216.out) hb); replace HB := aM (below_step (uL HB) hb); try clear hb))
          go_ret
          exact rX HB
        ·rw [if_neg c17] at H
         exact absurd H (by simp)
       ·rw [if_neg c16] at H
        exact absurd H (by simp)
      ·rw [if_neg c15] at H
       have c15b0 : decide (x36_2 < (l0_2.length : Int)) = false := decide_eq_false c15
       clear c15
       obtain rfl := Option.some.inj H
       go_wp2
       go_ret
       exact rX HB

/-! ### impl_Log_last: function 45 (given by the session) -/
def impl_Log_last.f (a0 : Int) (_a1 : Int) (l2 : List S40) : Option Int := some (wrap64 (a0 + (l2.length : Int)))
set_option maxHeartbeats 2000000 in
set_option maxRecDepth 100000 in
theorem impl_Log_last.calls (g : Nat) (a0 : Int) (a1 : Int) (A2 : Option Addr) (c2 : Nat) (l2 : List S40) (r : Int) (w : World) (hr : Kd.C k40 w A2 l2.length l2) (hc : l2.length ≤ c2) (hb : w.heap[g]? = some (.cells #[.int .i64 a0, .int .i64 a1, .slice A2 l2.length c2] 30 (0, 0))) (h : impl_Log_last.f a0 a1 l2 = some r) :
 Calls Try.prog 45 #[.pointer (some ⟨g, 0, none⟩)] w fun e w' => e = .returned (.int .i64 r) ∧ Below w.heap.size w w' := by
 have HB := Aside0.mk (Below.refl w.heap.size w)
 obtain rfl := Option.some.inj h
 clear h hr hc
 have hcz0 := czA hb 0 (.int .i64 a0)
 have hcz2 := czA hb 2 (.slice A2 l2.length c2)
 have hfz := blk_frozen hb 0
 clear hb
 go_enter Try.func45, Try.ntmps45
 go_wp2
 repeat (go_quiet (fail); try go_wp2)
 go_ret
 exact ⟨rfl, by repeat (first | exact HB.out | apply below_alloc | apply pw_below_drewN | apply below_drew1)⟩

/-! ### impl_Entry: function 59 (given by the session) -/
def impl_Entry.f (l0 : List S40) : Option (List S40) := if l0.length ≤ 1099511627776 then some l0 else none
set_option maxHeartbeats 2000000 in
set_option maxRecDepth 100000 in
theorem impl_Entry.calls (A0 : Option Addr) (c0 : Nat) (l0 : List S40) (r : List S40) (w : World) (hr0 : Kd.C k40 w A0 l0.length l0) (hc0 : l0.length ≤ c0) (h : impl_Entry.f l0 = some r) :
 Calls Try.prog 59 #[.slice A0 l0.length c0] w fun e w' => ∃ v0_ : Value, e = .returned (v0_) ∧ Kd.R k40 40 w' w.heap.size (fun _ => True) v0_ r ∧ Below w.heap.size w w' := by
 unfold impl_Entry.f at h
 by_cases hs : l0.length ≤ 1099511627776
 case neg => rw [if_neg hs] at h; cases h
 rw [if_pos hs] at h
 obtain rfl := Option.some.inj h
 clear h
 have HR0 := Aside0.mk hr0
 clear hr0
 have HB := Aside0.mk (Below.refl w.heap.size w)
 cases A0 with
 | none =>
  have h0 : l0 = [] := by
   rcases Nat.eq_zero_or_pos l0.length with h0 | h0
   ·exact List.eq_nil_of_length_eq_zero h0
   ·obtain ⟨ad, h1, _⟩ := HR0.out.2.2 h0
    cases h1
  subst h0
  have hq := fun W => Lib.run_eql_slice_nil (P := Try.prog) W 28 40 none 0 c0 0 0 Try.underlying28
  go_enter Try.func59, Try.ntmps59
  go_wp2
  go_ret
  exact ⟨_, rfl, Kd.R_nil _ _ _ _ _, HB.out⟩
 | some ad =>
  have hq := fun W => Lib.run_eql_slice_nil (P := Try.prog) W 28 40 (some ad) l0.length c0 0 0 Try.underlying28
  go_enter Try.func59, Try.ntmps59
  go_wp2_with (first | ((with_reducible refine gate_dst (N := 5) rfl ?_); refine Kd.R_lit k40 _ 40 ?hg (N := 5) ?hd (xs := ([] : List S40)) (inner := []) (ok := fun _ => True) (okp := fun _ => True) ?hr ?hp (fun _ hk => hk) trivial (Below.refl _ _) (Nat.le_refl _) (by simp) ?_; (case hd => rfl); (case hg => rfl); (case hr => first | (go_simp; done) | (go_simp; rfl)); (case hp => exact (Reps.none _ _)); intro v5 w2 ho3 hb hg_ hnew_; clear hg_ hnew_; have n1_ := Aside0.mk (below_step (by repeat (first | (with_reducible first | exact HB.out | apply below_alloc | apply pw_below_drewN | apply below_drew1) | exact HB.out)) hb); clear HB; have HO := Aside0.mk ho3; have HB := n1_; clear n1_; clear hb ho3) | ((with_reducible refine gate_builtin (b := .append) (xs := #[.tmp 5, .tmp 6]) rfl ?_); at_builtin; refine Kd.R_append_rows k40 (w0 := w) w.heap.size rfl (.tmp 5) (.tmp 6) 28 40 _ _ rfl Try.underlying28 info40 rfl (by decide) (by omega) v5 [] l0 _ _ _ (fun _ => True) (fun _ => False) rfl rfl ?aO ?aR (fun _ _ h => h) (fun _ h => h.elim) (fun _ _ => trivial) HB.out (below_size HB.out) (by simp only [List.length_nil]; omega) ?_; (case aO => exact HO.out); (case aR => exact Kd.C_below HR0.out HB.out); intro v7 w6 ho hb hg hat; simp only [List.nil_append] at ho; have HO2 := Aside0.mk ho; have HB2 := Aside0.mk hb; clear ho hat hb hg))
  go_ret
  exact ⟨_, rfl, HO2.out, HB2.out⟩

/-! ### impl_copyLog: function 56 -/
def impl_copyLog.f (a0_0 : Int) (a0_1 : Int) (l0_2 : List (S40)) : Option (Int × Int × (List (S40))) := (impl_Entry.f l0_2).bind fun t220 => (some (a0_0, a0_1, t220))
set_option maxHeartbeats 8000000 in
set_option maxRecDepth 100000 in
theorem impl_copyLog.calls (a0_0 : Int) (a0_1 : Int) (A0_2 : Option Addr) (c0_2 : Nat) (l0_2 : List (S40)) (r1 : Int) (r2 : Int) (r3 : List (S40)) (w : World) (hr0_2 : Kd.C k40 w A0_2 l0_2.length l0_2) (hc0_2 : l0_2.length ≤ c0_2) (h : impl_copyLog.f a0_0 a0_1 l0_2 = some (r1, r2, r3)) :
 Calls Try.prog 56 #[.agg #[.int .i64 a0_0, .int .i64 a0_1, .slice A0_2 l0_2.length c0_2]] w fun e w' => ∃ v2_ : Value, e = .returned (.agg #[.int .i64 r1, .int .i64 r2, v2_]) ∧ Kd.R k40 40 w' w.heap.size (fun _ => True) v2_ r3 ∧ Below w.heap.size w w' := by
 have hu30 := Try.underlying30
 have HR0_2 := aM hr0_2
 have HC0_2 := aM hc0_2
 clear hr0_2 hc0_2
 have HB := aM (Below.refl w.heap.size w)
 have H : ((impl_Entry.f l0_2).bind fun t220 => (some (a0_0, a0_1, t220))) = some (r1, r2, r3) := h
 clear h
 replace H := Option.bind_eq_some_iff.mp H
 obtain ⟨t220, A20, H⟩ := H
 replace H : (some (a0_0, a0_1, t220)) = some (r1, r2, r3) := H
 have A2 := aM A20
 clear A20
 simp only [Option.some.injEq, Prod.mk.injEq] at H
 obtain ⟨rfl, rfl, rfl⟩ := H
 go_enter Try.func56, Try.ntmps56
 go_wp2_with (first | ((with_reducible refine gate_dst (N := 1) rfl ?_); refine bxE 1 #[.int .i64 a0_0, .int .i64 a0_1, .slice A0_2 l0_2.length c0_2] 30 ?_; intro gb218 hg w3 hbox hb; have BK218 := aM (hbox); have GW218 := szG hg (uL HB); have GE218 := szG hg (uL HB); replace HB := aM (below_step (uL HB) hb); clear hb hbox hg) | ((with_reducible refine gate_dst (N := 2) rfl ?_); refine bxE 2 #[.int .i64 0, .int .i64 0, .slice none 0 0] 30 ?_; intro gb219 hg w4 hbox hb; have BK219 := aM (hbox); have GW219 := szG hg (uL HB); have GE219 := szG hg (uL HB); have NB218_219 := neL hg BK218; have NB219_218 := neG hg BK218; replace BK218 := blkB BK218 hb; replace HB := aM (below_step (uL HB) hb); clear hb hbox hg; have hnb5 := NB218_219.out; have hnc5 := NB219_218.out; have hcz6_0 := czA BK218.out 0 (.int .i64 a0_0); have hcz6_1 := czA BK218.out 1 (.int .i64 a0_1); have hcz6_2 := czA BK218.out 2 (.slice A0_2 l0_2.length c0_2); have hfz6_0 := blk_frozen BK218.out 0; have hfz6_1 := blk_frozen BK218.out 1; have hfz6_2 := blk_frozen BK218.out 2) | ((with_reducible refine gate_callee (f := 59) rfl ?_); refine gL (some 5) Try.func59 #[.slice A0_2 l0_2.length c0_2] ?_; (with_reducible refine (impl_Entry.calls _ _ l0_2 t220 _ ?side1 ?side2 A2.out).mono ?_); (case side1 => exact uC HR0_2 HB); (case side2 => exact HC0_2.out); rintro e w7 ⟨v221, rfl, ho0, hb⟩; refine ⟨_, rfl, ?_⟩; have HO222 := aM (Kd.R_lower ho0 (below_size (uL HB))); replace BK218 := blkB BK218 hb; replace BK219 := blkB BK219 hb; replace HB := aM (below_step (uL HB) hb); try clear hb ho0; obtain ⟨Ao8, co8, eo8⟩ := Kd.R_slice HO222.out; subst eo8; have hcz9_0 := czA BK218.out 0 (.int .i64 a0_0); have hcz9_1 := czA BK218.out 1 (.int .i64 a0_1); have hcz9_2 := czA BK218.out 2 (.slice A0_2 l0_2.length c0_2); have hfz9_0 := blk_frozen BK218.out 0; have hfz9_1 := blk_frozen BK218.out 1; have hfz9_2 := blk_frozen BK218.out 2; have hcz10_0 := czA BK219.out 0 (.int .i64 0); have hcz10_1 := czA BK219.out 1 (.int .i64 0); have hcz10_2 := czA BK219.out 2 (.slice none 0 0); have hfz10_0 := blk_frozen BK219.out 0; have hfz10_1 := blk_frozen BK219.out 1; have hfz10_2 := blk_frozen BK219.out 2))
 refine bodyPost_ret (results_cell_row rfl _ _ gb219 30 #[.int .i64 a0_0, .int .i64 a0_1, .slice Ao8 t220.length co8] (0, 0) _ rfl (by refine nB ?_; refine blk_put (cs := #[.int .i64 a0_0, .int .i64 a0_1, .slice none 0 0]) ?_ 2 _ rfl; refine nB ?_; refine blk_put (cs := #[.int .i64 a0_0, .int .i64 0, .slice none 0 0]) ?_ 1 _ rfl; refine nB ?_; refine blk_put (cs := #[.int .i64 0, .int .i64 0, .slice none 0 0]) ?_ 0 _ rfl; refine nB ?_; refine blk_far ?_ NB219_218.out _; exact nB BK219.out) Try.underlying30 rfl (by kernel_rfl)) rfl ?_
 exact ⟨_, by first | rfl | (simp [errW_none, errW_some] <;> rfl) | (simp [*, errW_none, errW_some] <;> rfl), by (with_reducible repeat first | apply rA | apply rN | apply rD); exact Kd.R_mono (Kd.R_far (p := ⟨gb219, 2, none⟩) (Kd.R_far (p := ⟨gb219, 1, none⟩) (Kd.R_far (p := ⟨gb219, 0, none⟩) (Kd.R_far (p := ⟨gb218, 2, none⟩) (Kd.R_types (Kd.R_types HO222.out BK218.out (by decide)) BK219.out (by decide)) (fun _ hk => hk.1.2) (.slice Ao8 t220.length co8)) (fun _ hk => hk.2) (.int .i64 a0_0)) (fun _ hk => hk.2) (.int .i64 a0_1)) (fun _ hk => hk.2) (.slice Ao8 t220.length co8)) (fun _ hk => trivial), uL HB⟩

end Go.Proofs.Ytacdceahdbaonaa.QFnExactLogPut
