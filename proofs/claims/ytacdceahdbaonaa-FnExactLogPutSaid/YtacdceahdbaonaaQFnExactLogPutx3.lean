-- Own work (wip/turnprint.py over the kit's print).
import Derived.Test.YtacdceahdbaonaaQFnExactLogPutx0
import Derived.Test.YtacdceahdbaonaaQFnExactLogPutx2
namespace Go.Proofs.Ytacdceahdbaonaa.QFnExactLogPut
open Go.RowKit Go.Proofs.YtacdceahdbaonaaW.PrintWords Go.Proofs.YtacdceahdbaonaaW.PrintLast Go.Proofs.YtacdceahdbaonaaW.PrintMore
attribute [local go_sem] max2_int min2_int max_two min_two max_three min_three max_four min_four   -- for this text's walks alone
set_option linter.unusedVariables false
set_option linter.unusedSimpArgs false

/-! ### spec_LogOk: function 26 -/
mutual
def spec_LogOk.j0 : Nat → Bool → Int → Int → List (S40) → Option (Bool)
 | 0, _, _, _, _ => none
 | k + 1, x29, x164000, x164001, x164002 => if x29 = true then (some false) else (spec_LogOk.l0 k x164001 0 x164000 x164001 x164002)
def spec_LogOk.l0 : Nat → Int → Int → Int → Int → List (S40) → Option (Bool)
 | 0, _, _, _, _, _ => none
 | k + 1, x3, x4, x164000, x164001, x164002 => if x4 < (x164002.length : Int) then (if 0 ≤ x4 then ((spec_EntryOk.f k ((rd_T40 x164002 x4).f0) ((rd_T40 x164002 x4).f1) ((rd_T40 x164002 x4).f2)).bind fun t167 => (if t167 = true then (if ((rd_T40 x164002 x4).f0) < x3 then (some false) else (spec_LogOk.l0 k ((rd_T40 x164002 x4).f0) (wrap64 (x4 + 1)) x164000 x164001 x164002)) else (some false))) else (none)) else (some true)
end
def spec_LogOk.f (k : Nat) (a0_0 : Int) (a0_1 : Int) (l0_2 : List (S40)) : Option (Bool) := (spec_l01In.f a0_0 0 1000000).bind fun t164 => (if t164 = true then ((spec_l01In.f a0_1 0 100000).bind fun t165 => (if t165 = true then (if (l0_2.length : Int) > 60 then (spec_LogOk.j0 k true a0_0 a0_1 l0_2) else (spec_LogOk.j0 k (decide ((wrap64 (a0_0 + (l0_2.length : Int))) > 1000000)) a0_0 a0_1 l0_2)) else (spec_LogOk.j0 k true a0_0 a0_1 l0_2))) else (spec_LogOk.j0 k true a0_0 a0_1 l0_2))
theorem spec_LogOk.mono_l : ∀ k, (∀ y0 y1 y2 y3, LeO (spec_LogOk.j0 k y0 y1 y2 y3) (spec_LogOk.j0 (k + 1) y0 y1 y2 y3)) ∧ (∀ y0 y1 y2 y3 y4, LeO (spec_LogOk.l0 k y0 y1 y2 y3 y4) (spec_LogOk.l0 (k + 1) y0 y1 y2 y3 y4))
 | 0 => ⟨fun _ _ _ _ r h => by simp [spec_LogOk.j0] at h, fun _ _ _ _ _ r h => by simp [spec_LogOk.l0] at h⟩
 | k + 1 => by
  obtain ⟨ih0, ih1⟩ := spec_LogOk.mono_l k
  refine ⟨?_, ?_⟩
  ·intro y0 y1 y2 y3
   unfold spec_LogOk.j0
   repeat' first
   | (with_reducible exact ih0 _ _ _ _)
   | (with_reducible exact ih1 _ _ _ _ _)
   | (with_reducible exact spec_EntryOk.mono _ _ _ _)
   | (with_reducible exact LeO.refl _)
   | (with_reducible exact LeO.none _)
   | (with_reducible refine LeO.ite ?_ ?_)
   | (with_reducible refine LeO.bind ?_ (fun _ => ?_))
   | exact ih0 _ _ _ _
   | exact ih1 _ _ _ _ _
   | exact spec_EntryOk.mono _ _ _ _
   | exact LeO.none _
   | refine LeO.ite ?_ ?_
   | refine LeO.bind ?_ (fun _ => ?_)
  ·intro y0 y1 y2 y3 y4
   unfold spec_LogOk.l0
   repeat' first
   | (with_reducible exact ih0 _ _ _ _)
   | (with_reducible exact ih1 _ _ _ _ _)
   | (with_reducible exact spec_EntryOk.mono _ _ _ _)
   | (with_reducible exact LeO.refl _)
   | (with_reducible exact LeO.none _)
   | (with_reducible refine LeO.ite ?_ ?_)
   | (with_reducible refine LeO.bind ?_ (fun _ => ?_))
   | exact ih0 _ _ _ _
   | exact ih1 _ _ _ _ _
   | exact spec_EntryOk.mono _ _ _ _
   | exact LeO.none _
   | refine LeO.ite ?_ ?_
   | refine LeO.bind ?_ (fun _ => ?_)
theorem spec_LogOk.mono : ∀ a0 a1 a2 k, LeO (spec_LogOk.f k a0 a1 a2) (spec_LogOk.f (k + 1) a0 a1 a2) := by
 intro a0 a1 a2 k
 obtain ⟨ih0, ih1⟩ := spec_LogOk.mono_l k
 unfold spec_LogOk.f
 repeat' first
  | (with_reducible exact ih0 _ _ _ _)
  | (with_reducible exact ih1 _ _ _ _ _)
  | (with_reducible exact spec_EntryOk.mono _ _ _ _)
  | (with_reducible exact LeO.refl _)
  | (with_reducible exact LeO.none _)
  | (with_reducible refine LeO.ite ?_ ?_)
  | (with_reducible refine LeO.bind ?_ (fun _ => ?_))
  | exact ih0 _ _ _ _
  | exact ih1 _ _ _ _ _
  | exact spec_EntryOk.mono _ _ _ _
  | exact LeO.none _
  | refine LeO.ite ?_ ?_
  | refine LeO.bind ?_ (fun _ => ?_)
set_option maxHeartbeats 8000000 in
set_option maxRecDepth 100000 in
theorem spec_LogOk.calls (k : Nat) (a0_0 : Int) (a0_1 : Int) (A0_2 : Option Addr) (c0_2 : Nat) (l0_2 : List (S40)) (r : Bool) (w : World) (hr0_2 : Kd.C k40 w A0_2 l0_2.length l0_2) (hc0_2 : l0_2.length ≤ c0_2) (h : spec_LogOk.f k a0_0 a0_1 l0_2 = some r) :
 Calls Try.prog 26 #[.agg #[.int .i64 a0_0, .int .i64 a0_1, .slice A0_2 l0_2.length c0_2]] w fun e w' => e = .returned (.bool r) ∧ Below w.heap.size w w' := by
 have hu30 := Try.underlying30
 have hu40 := Try.underlying40
 have HR0_2 := aM hr0_2
 have HC0_2 := aM hc0_2
 clear hr0_2 hc0_2
 have HB := aM (Below.refl w.heap.size w)
 have H : ((spec_l01In.f a0_0 0 1000000).bind fun t164 => (if t164 = true then ((spec_l01In.f a0_1 0 100000).bind fun t165 => (if t165 = true then (if (l0_2.length : Int) > 60 then (spec_LogOk.j0 k true a0_0 a0_1 l0_2) else (spec_LogOk.j0 k (decide ((wrap64 (a0_0 + (l0_2.length : Int))) > 1000000)) a0_0 a0_1 l0_2)) else (spec_LogOk.j0 k true a0_0 a0_1 l0_2))) else (spec_LogOk.j0 k true a0_0 a0_1 l0_2))) = some r := h
 clear h
 have HC2 := aM H
 clear H
 go_enter Try.func26, Try.ntmps26
 go_upto_region 1 with (first | ((with_reducible refine gate_dst (N := 1) rfl ?_); (try (refine gate_guard (by rfl) ?_; dsimp only)); refine bxE 1 #[.int .i64 a0_0, .int .i64 a0_1, .slice A0_2 l0_2.length c0_2] 30 ?_; intro gb163 hg w3 hbox hb; have BK163 := aM (hbox); have GW163 := szG hg (uL HB); have GE163 := szG hg (uL HB); replace HB := aM (below_step (uL HB) hb); clear hb hbox hg))
 (try simp only [Act.put, List.setIfInBounds_toArray, List.set_cons_zero, List.set_cons_succ])
 go_cut [29] (fun v29 wc => ∃ (kq : Nat) (x29_1 : Bool), v29 = .bool x29_1 ∧ Aside0 (spec_LogOk.j0 kq x29_1 a0_0 a0_1 l0_2 = some r) ∧ Aside0 (kq ≤ k) ∧ Aside0 (wc.heap[gb163]? = some (.cells #[.int .i64 a0_0, .int .i64 a0_1, (.slice A0_2 l0_2.length c0_2)] 30 (0, 0))) ∧ Aside0 (Below w.heap.size w wc))
 case first =>
  have H := HC2.out
  clear HC2
  replace H := Option.bind_eq_some_iff.mp H
  obtain ⟨t164, A40, H⟩ := H
  try dsimp only at H
  have A4 := aM A40
  clear A40
  refine Classical.byCases (p := t164 = true) (fun c5 => ?L1p) (fun c5 => ?L1n)
  case' L1p =>
   subst c5
   rw [if_pos rfl] at H
   replace H := Option.bind_eq_some_iff.mp H
   obtain ⟨t165, A60, H⟩ := H
   try dsimp only at H
   have A6 := aM A60
   clear A60
   refine Classical.byCases (p := t165 = true) (fun c7 => ?L2p) (fun c7 => ?L2n)
   case' L2p =>
    subst c7
    rw [if_pos rfl] at H
    refine Classical.byCases (p := (l0_2.length : Int) > 60) (fun c8 => ?L3p) (fun c8 => ?L3n)
    case' L3p =>
     rw [if_pos c8] at H
     have c8b0 : decide (60 < (l0_2.length : Int)) = true := decide_eq_true c8
     have c8b1 : decide (60 < l0_2.length) = true := decide_eq_true (by omega)
     clear c8
     (first | rw [c8b0] | (simp only [i64_w, i32_w]; rw [c8b0]) | skip)
     have H' := aM H
     clear H
     have hcz9_0 := czA BK163.out 0 (.int .i64 a0_0)
     have hcz9_1 := czA BK163.out 1 (.int .i64 a0_1)
     have hcz9_2 := czA BK163.out 2 (.slice A0_2 l0_2.length c0_2)
     have hfz9_0 := blk_frozen BK163.out 0; have hfz9_1 := blk_frozen BK163.out 1; have hfz9_2 := blk_frozen BK163.out 2
    case' L3n =>
     rw [if_neg c8] at H
     have c8b0 : decide (60 < (l0_2.length : Int)) = false := decide_eq_false c8
     have c8b1 : decide (60 < l0_2.length) = false := decide_eq_false (by omega)
     clear c8
     (first | rw [c8b0] | (simp only [i64_w, i32_w]; rw [c8b0]) | skip)
     have H' := aM H
     clear H
     have hcz10_0 := czA BK163.out 0 (.int .i64 a0_0)
     have hcz10_1 := czA BK163.out 1 (.int .i64 a0_1)
     have hcz10_2 := czA BK163.out 2 (.slice A0_2 l0_2.length c0_2)
     have hfz10_0 := blk_frozen BK163.out 0; have hfz10_1 := blk_frozen BK163.out 1; have hfz10_2 := blk_frozen BK163.out 2
     go_wp2_with (first | ((with_reducible refine gate_callee (f := 48) rfl ?_); refine gL (some 7) Try.func48 #[.int .i64 a0_0, .int .i64 0, .int .i64 1000000] ?_; (with_reducible refine (spec_l01In.calls a0_0 0 1000000 true _ A4.out).mono ?_); rintro e w' ⟨rfl, ⟨nd, rfl⟩⟩; refine ⟨_, rfl, ?_⟩) | (go_at_call 48; (with_reducible refine (spec_l01In.calls a0_1 0 100000 true _ A6.out).mono ?_); rintro e w' ⟨rfl, ⟨nd, rfl⟩⟩))
     go_meet
     case rel => exact ⟨_, (decide ((wrap64 (a0_0 + (l0_2.length : Int))) > 1000000)), (by first | rfl | (simp; done) | (simp [*]; done)), H', ⟨by first | omega | exact Nat.le_refl _⟩, ⟨by exact nB BK163.out⟩, ⟨uL HB⟩⟩
   case' L2n =>
    replace c7 := Bool.eq_false_iff.mpr c7
    subst c7
    have H1 : (spec_LogOk.j0 k true a0_0 a0_1 l0_2) = some r := by rw [if_neg (show ¬ (false = true) by decide)] at H; exact H
    clear H; have H := H1; clear H1
    have H' := aM H
    clear H
    have hcz11_0 := czA BK163.out 0 (.int .i64 a0_0)
    have hcz11_1 := czA BK163.out 1 (.int .i64 a0_1)
    have hcz11_2 := czA BK163.out 2 (.slice A0_2 l0_2.length c0_2)
    have hfz11_0 := blk_frozen BK163.out 0; have hfz11_1 := blk_frozen BK163.out 1; have hfz11_2 := blk_frozen BK163.out 2
  case' L1n =>
   replace c5 := Bool.eq_false_iff.mpr c5
   subst c5
   have H1 : (spec_LogOk.j0 k true a0_0 a0_1 l0_2) = some r := by rw [if_neg (show ¬ (false = true) by decide)] at H; exact H
   clear H; have H := H1; clear H1
   have H' := aM H
   clear H
   have hcz12_0 := czA BK163.out 0 (.int .i64 a0_0)
   have hcz12_1 := czA BK163.out 1 (.int .i64 a0_1)
   have hcz12_2 := czA BK163.out 2 (.slice A0_2 l0_2.length c0_2)
   have hfz12_0 := blk_frozen BK163.out 0; have hfz12_1 := blk_frozen BK163.out 1; have hfz12_2 := blk_frozen BK163.out 2
   go_wp2_with (first | ((with_reducible refine gate_callee (f := 48) rfl ?_); refine gL (some 7) Try.func48 #[.int .i64 a0_0, .int .i64 0, .int .i64 1000000] ?_; (with_reducible refine (spec_l01In.calls a0_0 0 1000000 false _ A4.out).mono ?_); rintro e w' ⟨rfl, ⟨nd, rfl⟩⟩; refine ⟨_, rfl, ?_⟩))
   go_meet
   case rel => exact ⟨_, (true), (by first | rfl | (simp; done) | (simp [*]; done)), H', ⟨by first | omega | exact Nat.le_refl _⟩, ⟨by exact nB BK163.out⟩, ⟨uL HB⟩⟩
  case L2p | L2n =>
   go_wp2_with (first | ((with_reducible refine gate_callee (f := 48) rfl ?_); refine gL (some 7) Try.func48 #[.int .i64 a0_0, .int .i64 0, .int .i64 1000000] ?_; (with_reducible refine (spec_l01In.calls a0_0 0 1000000 true _ A4.out).mono ?_); rintro e w' ⟨rfl, ⟨nd, rfl⟩⟩; refine ⟨_, rfl, ?_⟩) | (go_at_call 48; (with_reducible refine (spec_l01In.calls a0_1 0 100000 _ _ A6.out).mono ?_); rintro e w' ⟨rfl, ⟨nd, rfl⟩⟩))
   go_meet
   case rel => exact ⟨_, (true), (by first | rfl | (simp; done) | (simp [*]; done)), H', ⟨by first | omega | exact Nat.le_refl _⟩, ⟨by exact nB BK163.out⟩, ⟨uL HB⟩⟩
 case rest =>
  clear HC2
  try clear c2; try clear p2; try clear c4; try clear c5; try clear p6; try clear c7; try clear c8; try clear c8b0; try clear c8b1; try clear hcz10_0; try clear hcz10_1; try clear hcz10_2; try clear hcz11_0; try clear hcz11_1; try clear hcz11_2; try clear hcz12_0; try clear hcz12_1; try clear hcz12_2; try clear hcz9_0; try clear hcz9_1; try clear hcz9_2; try clear hfz10_0; try clear hfz10_1; try clear hfz10_2; try clear hfz11_0; try clear hfz11_1; try clear hfz11_2; try clear hfz12_0; try clear hfz12_1; try clear hfz12_2; try clear hfz9_0; try clear hfz9_1; try clear hfz9_2
  obtain ⟨kq, x29_1, rfl, HA, HJ1, BK163, HB⟩ := hcut
  cases kq with
  | zero => exact absurd HA.out (by simp [spec_LogOk.j0])
  | succ kj1 =>
   have H := HA.out
   clear HA
   simp only [spec_LogOk.j0] at H
   by_cases c13 : x29_1 = true
   ·subst c13
    have H1 : (some false) = some r := by rw [if_pos rfl] at H; exact H
    clear H; have H := H1; clear H1
    obtain rfl := Option.some.inj H
    go_wp2
    go_ret
    exact rX HB
   ·replace c13 := Bool.eq_false_iff.mpr c13
    subst c13
    have H1 : (spec_LogOk.l0 kj1 a0_1 0 a0_0 a0_1 l0_2) = some r := by rw [if_neg (show ¬ (false = true) by decide)] at H; exact H
    clear H; have H := H1; clear H1
    have H' := aM H
    clear H
    have hcz14_0 := czA BK163.out 0 (.int .i64 a0_0)
    have hcz14_1 := czA BK163.out 1 (.int .i64 a0_1)
    have hcz14_2 := czA BK163.out 2 (.slice A0_2 l0_2.length c0_2)
    have hfz14_0 := blk_frozen BK163.out 0; have hfz14_1 := blk_frozen BK163.out 1; have hfz14_2 := blk_frozen BK163.out 2
    go_wp2
    go_loopg [3, 4] kj1 (fun kq v3 v4 w' => ∃ (x3_2 : Int) (x4_2 : Int), v3 = .int .i64 x3_2 ∧ v4 = .int .i64 x4_2 ∧ Aside0 (spec_LogOk.l0 kq x3_2 x4_2 a0_0 a0_1 l0_2 = some r) ∧ Aside0 (kq ≤ kj1) ∧ Aside0 (w'.heap[gb163]? = some (.cells #[.int .i64 a0_0, .int .i64 a0_1, (.slice A0_2 l0_2.length c0_2)] 30 (0, 0))) ∧ Aside0 (Below w.heap.size w w'))
    case atStart => exact ⟨(a0_1), (0), (by first | rfl | (simp; done) | (simp [*]; done)), (by first | rfl | (simp; done) | (simp [*]; done)), H', ⟨Nat.le_refl _⟩, ⟨by exact nB BK163.out⟩, ⟨uL HB⟩⟩
    case round =>
     clear H'
     try clear c1; try clear c2; try clear p2; try clear c4; try clear c5; try clear p6; try clear c7; try clear c8; try clear c8b0; try clear c8b1; try clear c13; try clear hcz10_0; try clear hcz10_1; try clear hcz10_2; try clear hcz11_0; try clear hcz11_1; try clear hcz11_2; try clear hcz12_0; try clear hcz12_1; try clear hcz12_2; try clear hcz14_0; try clear hcz14_1; try clear hcz14_2; try clear hcz9_0; try clear hcz9_1; try clear hcz9_2; try clear hfz10_0; try clear hfz10_1; try clear hfz10_2; try clear hfz11_0; try clear hfz11_1; try clear hfz11_2; try clear hfz12_0; try clear hfz12_1; try clear hfz12_2; try clear hfz14_0; try clear hfz14_1; try clear hfz14_2; try clear hfz9_0; try clear hfz9_1; try clear hfz9_2; try clear p2; try clear p6
     obtain ⟨x3_2, x4_2, rfl, rfl, HA, HK2, BK163, HB⟩ := hrel
     cases gk with
     | zero => exact absurd HA.out (by simp [spec_LogOk.l0])
     | succ k2 =>
      have H := HA.out
      clear HA
      simp only [spec_LogOk.l0] at H
      by_cases c15 : x4_2 < (l0_2.length : Int)
      ·rw [if_pos c15] at H
       have c15b0 : decide (x4_2 < (l0_2.length : Int)) = true := decide_eq_true c15
       clear c15
       by_cases c16 : 0 ≤ x4_2
       ·rw [if_pos c16] at H
        have c16b0 : decide (0 ≤ x4_2) = true := decide_eq_true c16
        clear c16
        replace H := Option.bind_eq_some_iff.mp H
        obtain ⟨t167, A170, H⟩ := H
        try dsimp only at H
        have A17 := aM A170
        clear A170
        by_cases c18 : t167 = true
        ·subst c18
         rw [if_pos rfl] at H
         by_cases c19 : ((rd_T40 l0_2 x4_2).f0) < x3_2
         ·rw [if_pos c19] at H
          have c19b0 : decide (((rd_T40 l0_2 x4_2).f0) < x3_2) = true := decide_eq_true c19
          clear c19
          obtain rfl := Option.some.inj H
          have hcz20_0 := czA BK163.out 0 (.int .i64 a0_0)
          have hcz20_1 := czA BK163.out 1 (.int .i64 a0_1)
          have hcz20_2 := czA BK163.out 2 (.slice A0_2 l0_2.length c0_2)
          have hfz20_0 := blk_frozen BK163.out 0; have hfz20_1 := blk_frozen BK163.out 1; have hfz20_2 := blk_frozen BK163.out 2
          have p166 : 0 ≤ (x4_2 : Int) := of_decide_eq_true (by first | (with_reducible assumption) | assumption)
          have q166 : x4_2 < (l0_2.length : Int) := of_decide_eq_true (by first | (with_reducible assumption) | assumption)
          obtain ⟨ad166, e166, hx166_0, hx166_1, hx166_2⟩ := at_T40 HR0_2.out x4_2 p166 q166
          cases e166
          replace hx166_0 := hxB HB hx166_0; replace hx166_1 := hxB HB hx166_1; replace hx166_2 := hxB HB hx166_2; replace p166 := eq_true p166; replace q166 := eq_true q166
          go_wp2_with (first | ((with_reducible refine gate_callee (f := 21) rfl ?_); refine gL (some 44) Try.func21 #[.agg #[.int .i64 ((rd_T40 l0_2 x4_2).f0), .int .i64 ((rd_T40 l0_2 x4_2).f1), .string ((rd_T40 l0_2 x4_2).f2)]] ?_; (with_reducible refine (spec_EntryOk.calls k2 ((rd_T40 l0_2 x4_2).f0) ((rd_T40 l0_2 x4_2).f1) ((rd_T40 l0_2 x4_2).f2) true _ A17.out).mono ?_); rintro e w21 ⟨rfl, hb⟩; refine ⟨_, rfl, ?_⟩; replace BK163 := blkB BK163 hb; replace HB := aM (below_step (uL HB) hb); try clear hb; have hcz22_0 := czA BK163.out 0 (.int .i64 a0_0); have hcz22_1 := czA BK163.out 1 (.int .i64 a0_1); have hcz22_2 := czA BK163.out 2 (.slice (some ad166) l0_2.length c0_2); have hfz22_0 := blk_frozen BK163.out 0; have hfz22_1 := blk_frozen BK163.out 1; have hfz22_2 := blk_frozen BK163.out 2; have p168 : 0 ≤ (x4_2 : Int) := of_decide_eq_true (by first | (with_reducible assumption) | assumption); have q168 : x4_2 < (l0_2.length : Int) := of_decide_eq_true (by first | (with_reducible assumption) | assumption); obtain ⟨ad168, e168, hx168_0, hx168_1, hx168_2⟩ := at_T40 HR0_2.out x4_2 p168 q168; obtain rfl : ad166 = ad168 := (by injection e168); replace hx168_0 := hyB HB hx168_0; replace hx168_1 := hyB HB hx168_1; replace hx168_2 := hyB HB hx168_2; replace p168 := eq_true p168; replace q168 := eq_true q168))
          go_ret
          exact rX HB
         ·rw [if_neg c19] at H
          have c19b0 : decide (((rd_T40 l0_2 x4_2).f0) < x3_2) = false := decide_eq_false c19
          clear c19
          have H' := aM H
          clear H
          have hcz23_0 := czA BK163.out 0 (.int .i64 a0_0)
          have hcz23_1 := czA BK163.out 1 (.int .i64 a0_1)
          have hcz23_2 := czA BK163.out 2 (.slice A0_2 l0_2.length c0_2)
          have hfz23_0 := blk_frozen BK163.out 0; have hfz23_1 := blk_frozen BK163.out 1; have hfz23_2 := blk_frozen BK163.out 2
          have p166 : 0 ≤ (x4_2 : Int) := of_decide_eq_true (by first | (with_reducible assumption) | assumption)
          have q166 : x4_2 < (l0_2.length : Int) := of_decide_eq_true (by first | (with_reducible assumption) | assumption)
          obtain ⟨ad166, e166, hx166_0, hx166_1, hx166_2⟩ := at_T40 HR0_2.out x4_2 p166 q166
          cases e166
          replace hx166_0 := hxB HB hx166_0; replace hx166_1 := hxB HB hx166_1; replace hx166_2 := hxB HB hx166_2; replace p166 := eq_true p166; replace q166 := eq_true q166
          go_wp2_with (first | ((with_reducible refine gate_callee (f := 21) rfl ?_); refine gL (some 44) Try.func21 #[.agg #[.int .i64 ((rd_T40 l0_2 x4_2).f0), .int .i64 ((rd_T40 l0_2 x4_2).f1), .string ((rd_T40 l0_2 x4_2).f2)]] ?_; (with_reducible refine (spec_EntryOk.calls k2 ((rd_T40 l0_2 x4_2).f0) ((rd_T40 l0_2 x4_2).f1) ((rd_T40 l0_2 x4_2).f2) true _ A17.out).mono ?_); rintro e w24 ⟨rfl, hb⟩; refine ⟨_, rfl, ?_⟩; replace BK163 := blkB BK163 hb; replace HB := aM (below_step (uL HB) hb); try clear hb; have hcz25_0 := czA BK163.out 0 (.int .i64 a0_0); have hcz25_1 := czA BK163.out 1 (.int .i64 a0_1); have hcz25_2 := czA BK163.out 2 (.slice (some ad166) l0_2.length c0_2); have hfz25_0 := blk_frozen BK163.out 0; have hfz25_1 := blk_frozen BK163.out 1; have hfz25_2 := blk_frozen BK163.out 2; have p168 : 0 ≤ (x4_2 : Int) := of_decide_eq_true (by first | (with_reducible assumption) | assumption); have q168 : x4_2 < (l0_2.length : Int) := of_decide_eq_true (by first | (with_reducible assumption) | assumption); obtain ⟨ad168, e168, hx168_0, hx168_1, hx168_2⟩ := at_T40 HR0_2.out x4_2 p168 q168; obtain rfl : ad166 = ad168 := (by injection e168); replace hx168_0 := hyB HB hx168_0; replace hx168_1 := hyB HB hx168_1; replace hx168_2 := hyB HB hx168_2; replace p168 := eq_true p168; replace q168 := eq_true q168; have p169 : 0 ≤ (x4_2 : Int) := of_decide_eq_true (by first | (with_reducible assumption) | assumption); have q169 : x4_2 < (l0_2.length : Int) := of_decide_eq_true (by first | (with_reducible assumption) | assumption); obtain ⟨ad169, e169, hx169_0, hx169_1, hx169_2⟩ := at_T40 HR0_2.out x4_2 p169 q169; obtain rfl : ad166 = ad169 := (by injection e169); replace hx169_0 := hyB HB hx169_0; replace hx169_1 := hyB HB hx169_1; replace hx169_2 := hyB HB hx169_2; replace p169 := eq_true p169; replace q169 := eq_true q169))
          go_roundg k2
          case measure => have := HJ1.out; have := HK2.out; omega
          case rel => exact ⟨((rd_T40 l0_2 x4_2).f0), (wrap64 (x4_2 + 1)), (by first | rfl | (simp; done) | (simp [*]; done)), (by first | rfl | (simp; done) | (simp [*]; done)), H', ⟨by have := HJ1.out; have := HK2.out; omega⟩, ⟨by exact nB BK163.out⟩, ⟨uL HB⟩⟩
        ·replace c18 := Bool.eq_false_iff.mpr c18
         subst c18
         have H1 : (some false) = some r := by rw [if_neg (show ¬ (false = true) by decide)] at H; exact H
         clear H; have H := H1; clear H1
         obtain rfl := Option.some.inj H
         have hcz26_0 := czA BK163.out 0 (.int .i64 a0_0)
         have hcz26_1 := czA BK163.out 1 (.int .i64 a0_1)
         have hcz26_2 := czA BK163.out 2 (.slice A0_2 l0_2.length c0_2)
         have hfz26_0 := blk_frozen BK163.out 0; have hfz26_1 := blk_frozen BK163.out 1; have hfz26_2 := blk_frozen BK163.out 2
         have p166 : 0 ≤ (x4_2 : Int) := of_decide_eq_true (by first | (with_reducible assumption) | assumption)
         have q166 : x4_2 < (l0_2.length : Int) := of_decide_eq_true (by first | (with_reducible assumption) | assumption)
         obtain ⟨ad166, e166, hx166_0, hx166_1, hx166_2⟩ := at_T40 HR0_2.out x4_2 p166 q166
         cases e166
         replace hx166_0 := hxB HB hx166_0; replace hx166_1 := hxB HB hx166_1; replace hx166_2 := hxB HB hx166_2; replace p166 := eq_true p166; replace q166 := eq_true q166
         go_wp2_with (first | ((with_reducible refine gate_callee (f := 21) rfl ?_); refine gL (some 44) Try.func21 #[.agg #[.int .i64 ((rd_T40 l0_2 x4_2).f0), .int .i64 ((rd_T40 l0_2 x4_2).f1), .string ((rd_T40 l0_2 x4_2).f2)]] ?_; (with_reducible refine (spec_EntryOk.calls k2 ((rd_T40 l0_2 x4_2).f0) ((rd_T40 l0_2 x4_2).f1) ((rd_T40 l0_2 x4_2).f2) false _ A17.out).mono ?_); rintro e w27 ⟨rfl, hb⟩; refine ⟨_, rfl, ?_⟩; replace BK163 := blkB BK163 hb; replace HB := aM (below_step (uL HB) hb); try clear hb))
         go_ret
         exact rX HB
       ·rw [if_neg c16] at H
        exact absurd H (by simp)
      ·rw [if_neg c15] at H
       have c15b0 : decide (x4_2 < (l0_2.length : Int)) = false := decide_eq_false c15
       clear c15
       obtain rfl := Option.some.inj H
       have hcz28_0 := czA BK163.out 0 (.int .i64 a0_0)
       have hcz28_1 := czA BK163.out 1 (.int .i64 a0_1)
       have hcz28_2 := czA BK163.out 2 (.slice A0_2 l0_2.length c0_2)
       have hfz28_0 := blk_frozen BK163.out 0; have hfz28_1 := blk_frozen BK163.out 1; have hfz28_2 := blk_frozen BK163.out 2
       go_wp2
       go_ret
       exact rX HB

/-! ### spec_l06Last: function 47 -/
def spec_l06Last.f (a0_0 : Int) (a0_1 : Int) (l0_2 : List (S40)) : Option (Int) := some (wrap64 (a0_0 + (l0_2.length : Int)))
set_option maxHeartbeats 8000000 in
set_option maxRecDepth 100000 in
theorem spec_l06Last.calls (a0_0 : Int) (a0_1 : Int) (A0_2 : Option Addr) (c0_2 : Nat) (l0_2 : List (S40)) (r : Int) (w : World) (hr0_2 : Kd.C k40 w A0_2 l0_2.length l0_2) (hc0_2 : l0_2.length ≤ c0_2) (h : spec_l06Last.f a0_0 a0_1 l0_2 = some r) :
 Calls Try.prog 47 #[.agg #[.int .i64 a0_0, .int .i64 a0_1, .slice A0_2 l0_2.length c0_2]] w fun e w' => e = .returned (.int .i64 r) ∧ Below w.heap.size w w' := by
 have hu30 := Try.underlying30
 have HR0_2 := aM hr0_2
 have HC0_2 := aM hc0_2
 clear hr0_2 hc0_2
 have HB := aM (Below.refl w.heap.size w)
 have H : (some (wrap64 (a0_0 + (l0_2.length : Int)))) = some r := h
 clear h
 obtain rfl := Option.some.inj H
 go_enter Try.func47, Try.ntmps47
 go_wp2_with (first | ((with_reducible refine gate_dst (N := 1) rfl ?_); refine bxE 1 #[.int .i64 a0_0, .int .i64 a0_1, .slice A0_2 l0_2.length c0_2] 30 ?_; intro gb170 hg w2 hbox hb; have BK170 := aM (hbox); have GW170 := szG hg (uL HB); have GE170 := szG hg (uL HB); replace HB := aM (below_step (uL HB) hb); clear hb hbox hg; have hcz3_0 := czA BK170.out 0 (.int .i64 a0_0); have hcz3_1 := czA BK170.out 1 (.int .i64 a0_1); have hcz3_2 := czA BK170.out 2 (.slice A0_2 l0_2.length c0_2); have hfz3_0 := blk_frozen BK170.out 0; have hfz3_1 := blk_frozen BK170.out 1; have hfz3_2 := blk_frozen BK170.out 2))
 go_ret
 exact rX HB

end Go.Proofs.Ytacdceahdbaonaa.QFnExactLogPut
