-- Own work (wip/turnprint.py over the kit's print).
import Derived.Test.YthomiofokkkhgaaDoorQFnExactSnapActsx0
import Derived.Test.YthomiofokkkhgaaDoorQFnExactSnapActsx6
namespace Go.Proofs.YthomiofokkkhgaaDoor.QFnExactSnapActs
open Go.RowKit Go.Proofs.YthomiofokkkhgaaDoorW.PrintWords Go.Proofs.YthomiofokkkhgaaDoorW.PrintLast Go.Proofs.YthomiofokkkhgaaDoorW.PrintMore
attribute [local go_sem] max2_int min2_int max_two min_two max_three min_three max_four min_four   -- for this text's walks alone
set_option linter.unusedVariables false
set_option linter.unusedSimpArgs false

/-! ### impl_FileAt: function 34 -/
def impl_FileAt.l0 : Nat → ByteArray → List (S71) → Int → Int → Option (ByteArray × Bool)
 | 0, _, _, _, _ => none
 | k + 1, x1, x9, x10, x11 => if x11 < x10 then (if 0 ≤ x11 then (if x11 < (x9.length : Int) then (if ((rd_T71 x9 x11).f0).toList = x1.toList then (some ((rd_T71 x9 x11).f1, true)) else (impl_FileAt.l0 k x1 x9 x10 (wrap64 (x11 + 1)))) else (none)) else (none)) else (some ((⟨#[]⟩ : ByteArray), false))
def impl_FileAt.f (k : Nat) (l0_0 : List (S71)) (a1 : ByteArray) : Option (ByteArray × Bool) := impl_FileAt.l0 k a1 l0_0 (l0_0.length : Int) 0
theorem impl_FileAt.mono_l : ∀ k, (∀ y0 y1 y2 y3, LeO (impl_FileAt.l0 k y0 y1 y2 y3) (impl_FileAt.l0 (k + 1) y0 y1 y2 y3))
 | 0 => fun _ _ _ _ r h => by simp [impl_FileAt.l0] at h
 | k + 1 => by
  have ih0 := impl_FileAt.mono_l k
  ·intro y0 y1 y2 y3
   unfold impl_FileAt.l0
   repeat' first
   | (with_reducible exact ih0 _ _ _ _)
   | (with_reducible exact LeO.refl _)
   | (with_reducible exact LeO.none _)
   | (with_reducible refine LeO.ite ?_ ?_)
   | (with_reducible refine LeO.bind ?_ (fun _ => ?_))
   | exact ih0 _ _ _ _
   | exact LeO.none _
   | refine LeO.ite ?_ ?_
   | refine LeO.bind ?_ (fun _ => ?_)
theorem impl_FileAt.mono : ∀ a0 a1 k, LeO (impl_FileAt.f k a0 a1) (impl_FileAt.f (k + 1) a0 a1) := by
 intro a0 a1 k
 have ih0 := impl_FileAt.mono_l k
 unfold impl_FileAt.f
 repeat' first
  | (with_reducible exact ih0 _ _ _ _)
  | (with_reducible exact LeO.refl _)
  | (with_reducible exact LeO.none _)
  | (with_reducible refine LeO.ite ?_ ?_)
  | (with_reducible refine LeO.bind ?_ (fun _ => ?_))
  | exact ih0 _ _ _ _
  | exact LeO.none _
  | refine LeO.ite ?_ ?_
  | refine LeO.bind ?_ (fun _ => ?_)
set_option maxHeartbeats 8000000 in
set_option maxRecDepth 100000 in
theorem impl_FileAt.calls (k : Nat) (A0_0 : Option Addr) (c0_0 : Nat) (l0_0 : List (S71)) (a1 : ByteArray) (r1 : ByteArray) (r2 : Bool) (w : World) (hr0_0 : Kd.C k71 w A0_0 l0_0.length l0_0) (hc0_0 : l0_0.length ≤ c0_0) (h : impl_FileAt.f k l0_0 a1 = some (r1, r2)) :
 Calls Tryd.prog 34 #[.agg #[.slice A0_0 l0_0.length c0_0], .string a1] w fun e w' => e = .returned (.tuple #[.string r1, .bool r2]) ∧ Below w.heap.size w w' := by
 have hu35 := Tryd.underlying35
 have hu71 := Tryd.underlying71
 have HR0_0 := aM hr0_0
 have HC0_0 := aM hc0_0
 clear hr0_0 hc0_0
 have HB := aM (Below.refl w.heap.size w)
 have H : (impl_FileAt.l0 k a1 l0_0 (l0_0.length : Int) 0) = some (r1, r2) := h
 clear h
 have H' := aM H
 clear H
 go_enter Tryd.func34, Tryd.ntmps34
 go_wp2_with (first | ((with_reducible refine gate_dst (N := 2) rfl ?_); refine bxE 2 #[.slice A0_0 l0_0.length c0_0] 35 ?_; intro gb291 hg w3 hbox hb; have BK291 := aM (hbox); have GW291 := szG hg (uL HB); have GE291 := szG hg (uL HB); replace HB := aM (below_step (uL HB) hb); clear hb hbox hg; have hcz4_0 := czA BK291.out 0 (.slice A0_0 l0_0.length c0_0); have hfz4_0 := blk_frozen BK291.out 0))
 go_loopg [11] k (fun kq v11 w' => ∃ (x11_1 : Int), v11 = .int .i64 x11_1 ∧ Aside0 (impl_FileAt.l0 kq a1 l0_0 (l0_0.length : Int) x11_1 = some (r1, r2)) ∧ Aside0 (kq ≤ k) ∧ Aside0 (w'.heap[gb291]? = some (.cells #[(.slice A0_0 l0_0.length c0_0)] 35 (0, 0))) ∧ Aside0 (Below w.heap.size w w'))
 case atStart => exact ⟨(0), (by first | rfl | (simp; done) | (simp [*]; done)), H', ⟨Nat.le_refl _⟩, ⟨by exact nB BK291.out⟩, ⟨uL HB⟩⟩
 case round =>
  clear H'
  try clear p2; try clear c3; try clear hcz4_0; try clear hfz4_0
  obtain ⟨x11_1, rfl, HA, HK1, BK291, HB⟩ := hrel
  cases gk with
  | zero => exact absurd HA.out (by simp [impl_FileAt.l0])
  | succ k1 =>
   have H := HA.out
   clear HA
   simp only [impl_FileAt.l0] at H
   by_cases c5 : x11_1 < (l0_0.length : Int)
   ·rw [if_pos c5] at H
    have c5b0 : decide (x11_1 < (l0_0.length : Int)) = true := decide_eq_true c5
    clear c5
    by_cases c6 : 0 ≤ x11_1
    ·rw [if_pos c6] at H
     have c6b0 : decide (0 ≤ x11_1) = true := decide_eq_true c6
     clear c6
     by_cases c7 : x11_1 < (l0_0.length : Int)
     ·rw [if_pos c7] at H
      have c7b0 : decide (x11_1 < (l0_0.length : Int)) = true := decide_eq_true c7
      clear c7
      by_cases c8 : ((rd_T71 l0_0 x11_1).f0).toList = a1.toList
      ·rw [if_pos c8] at H
       have c8b0 : (((rd_T71 l0_0 x11_1).f0).toList == a1.toList) = true := beq_iff_eq.mpr c8
       have c8b1 : (((rd_T71 l0_0 x11_1).f0).toList != a1.toList) = false := bne_eq_false_iff_eq.mpr c8
       clear c8
       simp only [Option.some.injEq, Prod.mk.injEq] at H
       obtain ⟨rfl, rfl⟩ := H
       have p292 : 0 ≤ (x11_1 : Int) := of_decide_eq_true (by first | (with_reducible assumption) | assumption)
       have q292 : x11_1 < (l0_0.length : Int) := of_decide_eq_true (by first | (with_reducible assumption) | assumption)
       obtain ⟨ad292, e292, hx292_0, hx292_1, hx292_2⟩ := at_T71 HR0_0.out x11_1 p292 q292
       cases e292
       replace hx292_0 := hxB HB hx292_0; replace hx292_1 := hxB HB hx292_1; replace hx292_2 := hxB HB hx292_2; replace p292 := eq_true p292; replace q292 := eq_true q292
       go_wp2_with (first | ((with_reducible refine gate_dst (N := 7) rfl ?_); refine bxE 7 #[.string (⟨#[]⟩ : ByteArray), .string (⟨#[]⟩ : ByteArray), .int .i64 0] 71 ?_; intro gb293 hg w9 hbox hb; have BK293 := aM (hbox); have GW293 := szG hg (uL HB); have GE293 := szG hg (uL HB); have NB291_293 := neL hg BK291; have NB293_291 := neG hg BK291; replace BK291 := blkB BK291 hb; replace HB := aM (below_step (uL HB) hb); clear hb hbox hg; have hnb10 := NB293_291.out; have hnc10 := NB291_293.out; have hcz11_0 := czA BK293.out 0 (.string (⟨#[]⟩ : ByteArray)); have hcz11_1 := czA BK293.out 1 (.string (⟨#[]⟩ : ByteArray)); have hcz11_2 := czA BK293.out 2 (.int .i64 0); have hfz11_0 := blk_frozen BK293.out 0; have hfz11_1 := blk_frozen BK293.out 1; have hfz11_2 := blk_frozen BK293.out 2))
       go_ret2
       exact rX HB
      ·rw [if_neg c8] at H
       have c8b0 : (((rd_T71 l0_0 x11_1).f0).toList == a1.toList) = false := beq_eq_false_iff_ne.mpr c8
       have c8b1 : (((rd_T71 l0_0 x11_1).f0).toList != a1.toList) = true := bne_iff_ne.mpr c8
       have H' := aM H
       clear H
       have p292 : 0 ≤ (x11_1 : Int) := of_decide_eq_true (by first | (with_reducible assumption) | assumption)
       have q292 : x11_1 < (l0_0.length : Int) := of_decide_eq_true (by first | (with_reducible assumption) | assumption)
       obtain ⟨ad292, e292, hx292_0, hx292_1, hx292_2⟩ := at_T71 HR0_0.out x11_1 p292 q292
       cases e292
       replace hx292_0 := hxB HB hx292_0; replace hx292_1 := hxB HB hx292_1; replace hx292_2 := hxB HB hx292_2; replace p292 := eq_true p292; replace q292 := eq_true q292
       go_wp2_with (first | ((with_reducible refine gate_dst (N := 7) rfl ?_); refine bxE 7 #[.string (⟨#[]⟩ : ByteArray), .string (⟨#[]⟩ : ByteArray), .int .i64 0] 71 ?_; intro gb293 hg w12 hbox hb; have BK293 := aM (hbox); have GW293 := szG hg (uL HB); have GE293 := szG hg (uL HB); have NB291_293 := neL hg BK291; have NB293_291 := neG hg BK291; replace BK291 := blkB BK291 hb; replace HB := aM (below_step (uL HB) hb); clear hb hbox hg; have hnb13 := NB293_291.out; have hnc13 := NB291_293.out; have hcz14_0 := czA BK293.out 0 (.string (⟨#[]⟩ : ByteArray)); have hcz14_1 := czA BK293.out 1 (.string (⟨#[]⟩ : ByteArray)); have hcz14_2 := czA BK293.out 2 (.int .i64 0); have hfz14_0 := blk_frozen BK293.out 0; have hfz14_1 := blk_frozen BK293.out 1; have hfz14_2 := blk_frozen BK293.out 2))
       go_roundg k1
       case measure => have := HK1.out; omega
       case rel => exact ⟨(wrap64 (x11_1 + 1)), (by first | rfl | (simp; done) | (simp [*]; done)), H', ⟨by have := HK1.out; omega⟩, ⟨by refine nB ?_; refine blk_far ?_ NB291_293.out _; refine nB ?_; refine blk_far ?_ NB291_293.out _; refine nB ?_; refine blk_far ?_ NB291_293.out _; exact nB BK291.out⟩, ⟨uL HB⟩⟩
     ·rw [if_neg c7] at H
      exact absurd H (by simp)
    ·rw [if_neg c6] at H
     exact absurd H (by simp)
   ·rw [if_neg c5] at H
    have c5b0 : decide (x11_1 < (l0_0.length : Int)) = false := decide_eq_false c5
    clear c5
    simp only [Option.some.injEq, Prod.mk.injEq] at H
    obtain ⟨rfl, rfl⟩ := H
    go_wp2
    go_ret2
    exact rX HB

/-! ### impl_Decimal: function 70 (given by the session) -/
def impl_Decimal.f (a0 : Int) : Option (ByteArray) := if -9223372036854775808 ≤ a0 ∧ a0 ≤ 9223372036854775807 then some ⟨(Lib.itoa a0).toArray⟩ else none
theorem impl_Decimal.calls (a0 : Int) (r : ByteArray) (w : World) (h : impl_Decimal.f a0 = some r) (htab : Cx.Ok w) :
 Calls Tryd.prog 70 #[.int .i64 a0] w fun e w' => e = .returned (.string r) ∧ Below w.heap.size w w' := by
 unfold impl_Decimal.f at h
 by_cases hs : -9223372036854775808 ≤ a0 ∧ a0 ≤ 9223372036854775807
 case neg => rw [if_neg hs] at h; cases h
 rw [if_pos hs] at h
 obtain rfl := Option.some.inj h
 exact Cx.decimal a0 hs.1 hs.2 w htab.1

/-! ### impl_SnapName: function 36 -/
def impl_SnapName.f (a0 : Int) : Option (ByteArray) := (impl_isIndex.f a0).bind fun t294 => (if t294 = true then ((impl_Decimal.f a0).bind fun t295 => (if 1 + t295.size ≤ 9223372036854775807 then (some ((⟨#[115]⟩ : ByteArray) ++ t295)) else (none))) else (some (⟨#[]⟩ : ByteArray)))
set_option maxHeartbeats 8000000 in
set_option maxRecDepth 100000 in
theorem impl_SnapName.calls (a0 : Int) (r : ByteArray) (w : World) (h : impl_SnapName.f a0 = some r) (htab : Cx.Ok w) :
 Calls Tryd.prog 36 #[.int .i64 a0] w fun e w' => e = .returned (.string r) ∧ Below w.heap.size w w' := by
 have HTAB := aM htab
 clear htab
 have HB := aM (Below.refl w.heap.size w)
 have H : ((impl_isIndex.f a0).bind fun t294 => (if t294 = true then ((impl_Decimal.f a0).bind fun t295 => (if 1 + t295.size ≤ 9223372036854775807 then (some ((⟨#[115]⟩ : ByteArray) ++ t295)) else (none))) else (some (⟨#[]⟩ : ByteArray)))) = some r := h
 clear h
 replace H := Option.bind_eq_some_iff.mp H
 obtain ⟨t294, A20, H⟩ := H
 try dsimp only at H
 have A2 := aM A20
 clear A20
 by_cases c3 : t294 = true
 ·subst c3
  rw [if_pos rfl] at H
  replace H := Option.bind_eq_some_iff.mp H
  obtain ⟨t295, A40, H⟩ := H
  replace H : (if 1 + t295.size ≤ 9223372036854775807 then (some ((⟨#[115]⟩ : ByteArray) ++ t295)) else (none)) = some r := H
  have A4 := aM A40
  clear A40
  by_cases c5 : 1 + t295.size ≤ 9223372036854775807
  ·rw [if_pos c5] at H
   have c5b0 := eq_true c5
   have c5b1 : decide (1 + t295.size ≤ 9223372036854775807) = true := decide_eq_true c5
   try have c5b2 : (9223372036854775807 < 1 + t295.size) = False := eq_false (Nat.not_lt.2 c5)
   obtain rfl := Option.some.inj H
   go_enter Tryd.func36, Tryd.ntmps36
   go_wp2_with (first | ((with_reducible refine gate_callee (f := 61) rfl ?_); refine gL (some 4) Tryd.func61 #[.int .i64 a0] ?_; (with_reducible refine (impl_isIndex.calls a0 true _ A2.out).mono ?_); rintro e w' ⟨rfl, ⟨nd, rfl⟩⟩; refine ⟨_, rfl, ?_⟩) | ((with_reducible refine gate_callee (f := 70) rfl ?_); refine gL (some 7) Tryd.func70 #[.int .i64 a0] ?_; (with_reducible refine (impl_Decimal.calls a0 t295 _ A4.out (Cx.on HTAB.out (uL HB))).mono ?_); rintro e w6 ⟨rfl, hb⟩; refine ⟨_, rfl, ?_⟩; replace HB := aM (below_step (uL HB) hb); try clear hb))
   go_ret
   exact rX HB
  ·rw [if_neg c5] at H
   exact absurd H (by simp)
 ·replace c3 := Bool.eq_false_iff.mpr c3
  subst c3
  have H1 : (some (⟨#[]⟩ : ByteArray)) = some r := by rw [if_neg (show ¬ (false = true) by decide)] at H; exact H
  clear H; have H := H1; clear H1
  obtain rfl := Option.some.inj H
  go_enter Tryd.func36, Tryd.ntmps36
  go_wp2_with (first | ((with_reducible refine gate_callee (f := 61) rfl ?_); refine gL (some 4) Tryd.func61 #[.int .i64 a0] ?_; (with_reducible refine (impl_isIndex.calls a0 false _ A2.out).mono ?_); rintro e w' ⟨rfl, ⟨nd, rfl⟩⟩; refine ⟨_, rfl, ?_⟩))
  go_ret
  exact rX HB

/-! ### stringslite_HasPrefix: function 101 -/
def stringslite_HasPrefix.f (a0 : ByteArray) (a1 : ByteArray) : Option (Bool) := if (a0.size : Int) ≥ (a1.size : Int) then (if 0 ≤ (a1.size : Int) then (if (a1.size : Int) ≤ (a0.size : Int) then (some ((a0.extract 0 ((a1.size : Int) : Int).toNat).toList == a1.toList)) else (none)) else (none)) else (some false)
set_option maxHeartbeats 8000000 in
set_option maxRecDepth 100000 in
theorem stringslite_HasPrefix.calls (a0 : ByteArray) (a1 : ByteArray) (r : Bool) (w : World) (h : stringslite_HasPrefix.f a0 a1 = some r) :
 Calls Tryd.prog 101 #[.string a0, .string a1] w fun e w' => e = .returned (.bool r) ∧ Drawn0 w w' := by
 have H : (if (a0.size : Int) ≥ (a1.size : Int) then (if 0 ≤ (a1.size : Int) then (if (a1.size : Int) ≤ (a0.size : Int) then (some ((a0.extract 0 ((a1.size : Int) : Int).toNat).toList == a1.toList)) else (none)) else (none)) else (some false)) = some r := h
 clear h
 by_cases c3 : (a0.size : Int) ≥ (a1.size : Int)
 ·rw [if_pos c3] at H
  have c3b0 : decide ((a1.size : Int) ≤ (a0.size : Int)) = true := decide_eq_true c3
  have c3b1 : decide (a1.size ≤ a0.size) = true := decide_eq_true (Int.ofNat_le.mp c3)
  clear c3
  by_cases c4 : 0 ≤ (a1.size : Int)
  ·rw [if_pos c4] at H
   have c4b0 := eq_true c4
   have c4b1 : decide (0 ≤ (a1.size : Int)) = true := decide_eq_true c4
   clear c4
   by_cases c5 : (a1.size : Int) ≤ (a0.size : Int)
   ·rw [if_pos c5] at H
    have c5b0 := eq_true c5
    have c5b1 : decide ((a1.size : Int) ≤ (a0.size : Int)) = true := decide_eq_true c5
    clear c5
    obtain rfl := Option.some.inj H
    go_enter Tryd.func101, Tryd.ntmps101
    go_wp2
    go_ret
    exact ⟨by first | rfl | (simp; done) | (simp [*]; done), by repeat (first | exact Drawn0.refl _ | apply Drawn0.step)⟩
   ·rw [if_neg c5] at H
    exact absurd H (by simp)
  ·rw [if_neg c4] at H
   exact absurd H (by simp)
 ·rw [if_neg c3] at H
  have c3b0 : decide ((a1.size : Int) ≤ (a0.size : Int)) = false := decide_eq_false c3
  have c3b1 : decide (a1.size ≤ a0.size) = false := decide_eq_false (fun h => c3 (Int.ofNat_le.mpr h))
  clear c3
  obtain rfl := Option.some.inj H
  go_enter Tryd.func101, Tryd.ntmps101
  go_wp2
  go_ret
  exact ⟨by first | rfl | (simp; done) | (simp [*]; done), by repeat (first | exact Drawn0.refl _ | apply Drawn0.step)⟩

/-! ### stringslite_CutPrefix: function 91 -/
def stringslite_CutPrefix.f (a0 : ByteArray) (a1 : ByteArray) : Option (ByteArray × Bool) := (stringslite_HasPrefix.f a0 a1).bind fun t296 => (if t296 = true then (if 0 ≤ (a1.size : Int) then (if (a1.size : Int) ≤ (a0.size : Int) then (some (a0.extract ((a1.size : Int) : Int).toNat a0.size, true)) else (none)) else (none)) else (some (a0, false)))
set_option maxHeartbeats 8000000 in
set_option maxRecDepth 100000 in
theorem stringslite_CutPrefix.calls (a0 : ByteArray) (a1 : ByteArray) (r1 : ByteArray) (r2 : Bool) (w : World) (h : stringslite_CutPrefix.f a0 a1 = some (r1, r2)) :
 Calls Tryd.prog 91 #[.string a0, .string a1] w fun e w' => e = .returned (.tuple #[.string r1, .bool r2]) ∧ Drawn0 w w' := by
 have H : ((stringslite_HasPrefix.f a0 a1).bind fun t296 => (if t296 = true then (if 0 ≤ (a1.size : Int) then (if (a1.size : Int) ≤ (a0.size : Int) then (some (a0.extract ((a1.size : Int) : Int).toNat a0.size, true)) else (none)) else (none)) else (some (a0, false)))) = some (r1, r2) := h
 clear h
 replace H := Option.bind_eq_some_iff.mp H
 obtain ⟨t296, A30, H⟩ := H
 try dsimp only at H
 have A3 := aM A30
 clear A30
 refine Classical.byCases (p := t296 = true) (fun c4 => ?L1p) (fun c4 => ?L1n)
 case' L1p =>
  subst c4
  rw [if_pos rfl] at H
  refine Classical.byCases (p := 0 ≤ (a1.size : Int)) (fun c5 => ?L2p) (fun c5 => ?L2n)
  case' L2p =>
   rw [if_pos c5] at H
   have c5b0 := eq_true c5
   have c5b1 : decide (0 ≤ (a1.size : Int)) = true := decide_eq_true c5
   clear c5
   refine Classical.byCases (p := (a1.size : Int) ≤ (a0.size : Int)) (fun c6 => ?L3p) (fun c6 => ?L3n)
   case' L3p =>
    rw [if_pos c6] at H
    have c6b0 := eq_true c6
    have c6b1 : decide ((a1.size : Int) ≤ (a0.size : Int)) = true := decide_eq_true c6
    clear c6
    simp only [Option.some.injEq, Prod.mk.injEq] at H
    obtain ⟨rfl, rfl⟩ := H
   case' L3n =>
    rw [if_neg c6] at H
    exact absurd H (by simp)
  case' L2n =>
   rw [if_neg c5] at H
   exact absurd H (by simp)
 case' L1n =>
  replace c4 := Bool.eq_false_iff.mpr c4
  subst c4
  have H1 : (some (a0, false)) = some (r1, r2) := by rw [if_neg (show ¬ (false = true) by decide)] at H; exact H
  clear H; have H := H1; clear H1
  simp only [Option.some.injEq, Prod.mk.injEq] at H
  obtain ⟨rfl, rfl⟩ := H
 case L1p | L1n =>
  go_enter Tryd.func91, Tryd.ntmps91
  go_wp2_with (first | ((with_reducible refine gate_callee (f := 101) rfl ?_); refine gL (some 8) Tryd.func101 #[.string a0, .string a1] ?_; (with_reducible refine (stringslite_HasPrefix.calls a0 a1 _ _ A3.out).mono ?_); rintro e w' ⟨rfl, ⟨nd, rfl⟩⟩; refine ⟨_, rfl, ?_⟩))
  go_ret2
  exact ⟨by first | rfl | (simp; done) | (simp [*]; done), by repeat (first | exact Drawn0.refl _ | apply Drawn0.step)⟩

/-! ### strings_CutPrefix: function 71 -/
def strings_CutPrefix.f (a0 : ByteArray) (a1 : ByteArray) : Option (ByteArray × Bool) := (stringslite_CutPrefix.f a0 a1).bind fun bt297 => (some (bt297.1, bt297.2))
set_option maxHeartbeats 8000000 in
set_option maxRecDepth 100000 in
theorem strings_CutPrefix.calls (a0 : ByteArray) (a1 : ByteArray) (r1 : ByteArray) (r2 : Bool) (w : World) (h : strings_CutPrefix.f a0 a1 = some (r1, r2)) :
 Calls Tryd.prog 71 #[.string a0, .string a1] w fun e w' => e = .returned (.tuple #[.string r1, .bool r2]) ∧ Drawn0 w w' := by
 have H : ((stringslite_CutPrefix.f a0 a1).bind fun bt297 => (some (bt297.1, bt297.2))) = some (r1, r2) := h
 clear h
 replace H := Option.bind_eq_some_iff.mp H
 obtain ⟨⟨t297, t298⟩, A30, H⟩ := H
 replace H : (some (t297, t298)) = some (r1, r2) := H
 have A3 := aM A30
 clear A30
 simp only [Option.some.injEq, Prod.mk.injEq] at H
 obtain ⟨rfl, rfl⟩ := H
 go_enter Tryd.func71, Tryd.ntmps71
 go_wp2_with (first | ((with_reducible refine gate_callee (f := 91) rfl ?_); refine gL (some 8) Tryd.func91 #[.string a0, .string a1] ?_; (with_reducible refine (stringslite_CutPrefix.calls a0 a1 t297 t298 _ A3.out).mono ?_); rintro e w' ⟨rfl, ⟨nd, rfl⟩⟩; refine ⟨_, rfl, ?_⟩))
 go_ret2
 exact ⟨by first | rfl | (simp; done) | (simp [*]; done), by repeat (first | exact Drawn0.refl _ | apply Drawn0.step)⟩

/-! ### impl_ReadDecimal: function 72 -/
mutual
def impl_ReadDecimal.j0 : Nat → ByteArray → Bool → Option (Int × Bool)
 | 0, _, _ => none
 | k + 1, x0, x13 => if x13 = true then (some (0, false)) else (impl_ReadDecimal.l0 k x0 0 0)
def impl_ReadDecimal.l0 : Nat → ByteArray → Int → Int → Option (Int × Bool)
 | 0, _, _, _ => none
 | k + 1, x0, x4, x5 => if x5 < (x0.size : Int) then (if 0 ≤ x5 then (if (bt x0 x5) < 48 then (some (0, false)) else (if (bt x0 x5) > 57 then (some (0, false)) else (impl_ReadDecimal.l0 k x0 (wrap64 ((wrap64 (x4 * 10)) + (((bt x0 x5) - 48) % 256))) (wrap64 (x5 + 1))))) else (none)) else (if x4 > 1000000000 then (some (0, false)) else ((impl_Decimal.f x4).bind fun t299 => (if t299.toList = x0.toList then (some (x4, true)) else (some (0, false)))))
end
def impl_ReadDecimal.f (k : Nat) (a0 : ByteArray) : Option (Int × Bool) := if (a0.size : Int) = 0 then (impl_ReadDecimal.j0 k a0 true) else (impl_ReadDecimal.j0 k a0 (decide ((a0.size : Int) > 10)))
theorem impl_ReadDecimal.mono_l : ∀ k, (∀ y0 y1, LeO (impl_ReadDecimal.j0 k y0 y1) (impl_ReadDecimal.j0 (k + 1) y0 y1)) ∧ (∀ y0 y1 y2, LeO (impl_ReadDecimal.l0 k y0 y1 y2) (impl_ReadDecimal.l0 (k + 1) y0 y1 y2))
 | 0 => ⟨fun _ _ r h => by simp [impl_ReadDecimal.j0] at h, fun _ _ _ r h => by simp [impl_ReadDecimal.l0] at h⟩
 | k + 1 => by
  obtain ⟨ih0, ih1⟩ := impl_ReadDecimal.mono_l k
  refine ⟨?_, ?_⟩
  ·intro y0 y1
   unfold impl_ReadDecimal.j0
   repeat' first
   | (with_reducible exact ih0 _ _)
   | (with_reducible exact ih1 _ _ _)
   | (with_reducible exact LeO.refl _)
   | (with_reducible exact LeO.none _)
   | (with_reducible refine LeO.ite ?_ ?_)
   | (with_reducible refine LeO.bind ?_ (fun _ => ?_))
   | exact ih0 _ _
   | exact ih1 _ _ _
   | exact LeO.none _
   | refine LeO.ite ?_ ?_
   | refine LeO.bind ?_ (fun _ => ?_)
  ·intro y0 y1 y2
   unfold impl_ReadDecimal.l0
   repeat' first
   | (with_reducible exact ih0 _ _)
   | (with_reducible exact ih1 _ _ _)
   | (with_reducible exact LeO.refl _)
   | (with_reducible exact LeO.none _)
   | (with_reducible refine LeO.ite ?_ ?_)
   | (with_reducible refine LeO.bind ?_ (fun _ => ?_))
   | exact ih0 _ _
   | exact ih1 _ _ _
   | exact LeO.none _
   | refine LeO.ite ?_ ?_
   | refine LeO.bind ?_ (fun _ => ?_)
theorem impl_ReadDecimal.mono : ∀ a0 k, LeO (impl_ReadDecimal.f k a0) (impl_ReadDecimal.f (k + 1) a0) := by
 intro a0 k
 obtain ⟨ih0, ih1⟩ := impl_ReadDecimal.mono_l k
 unfold impl_ReadDecimal.f
 repeat' first
  | (with_reducible exact ih0 _ _)
  | (with_reducible exact ih1 _ _ _)
  | (with_reducible exact LeO.refl _)
  | (with_reducible exact LeO.none _)
  | (with_reducible refine LeO.ite ?_ ?_)
  | (with_reducible refine LeO.bind ?_ (fun _ => ?_))
  | exact ih0 _ _
  | exact ih1 _ _ _
  | exact LeO.none _
  | refine LeO.ite ?_ ?_
  | refine LeO.bind ?_ (fun _ => ?_)
set_option maxHeartbeats 8000000 in
set_option maxRecDepth 100000 in
theorem impl_ReadDecimal.calls (k : Nat) (a0 : ByteArray) (r1 : Int) (r2 : Bool) (w : World) (h : impl_ReadDecimal.f k a0 = some (r1, r2)) (htab : Cx.Ok w) :
 Calls Tryd.prog 72 #[.string a0] w fun e w' => e = .returned (.tuple #[.int .i64 r1, .bool r2]) ∧ Below w.heap.size w w' := by
 have HTAB := aM htab
 clear htab
 have HB := aM (Below.refl w.heap.size w)
 have H : (if (a0.size : Int) = 0 then (impl_ReadDecimal.j0 k a0 true) else (impl_ReadDecimal.j0 k a0 (decide ((a0.size : Int) > 10)))) = some (r1, r2) := h
 clear h
 have HC2 := aM H
 clear H
 go_enter Tryd.func72, Tryd.ntmps72
 go_upto_region 1 with (fail)
 go_cut [13] (fun v13 wc => ∃ (kq : Nat) (x13_1 : Bool), v13 = .bool x13_1 ∧ Aside0 (impl_ReadDecimal.j0 kq a0 x13_1 = some (r1, r2)) ∧ Aside0 (kq ≤ k) ∧ Aside0 (Below w.heap.size w wc))
 case first =>
  have H := HC2.out
  clear HC2
  by_cases c3 : (a0.size : Int) = 0
  ·rw [if_pos c3] at H
   have c3b0 : ((a0.size : Int) == 0) = true := beq_iff_eq.mpr c3
   have c3b1 : ((a0.size : Int) != 0) = false := bne_eq_false_iff_eq.mpr c3
   clear c3
   (first | rw [c3b0] | (simp only [i64_w, i32_w]; rw [c3b0]) | skip)
   have H' := aM H
   clear H
   go_wp2
   go_meet
   case rel => exact ⟨_, (true), (by first | rfl | (simp; done) | (simp [*]; done)), H', ⟨by first | omega | exact Nat.le_refl _⟩, ⟨uL HB⟩⟩
  ·rw [if_neg c3] at H
   have c3b0 : ((a0.size : Int) == 0) = false := beq_eq_false_iff_ne.mpr c3
   have c3b1 : ((a0.size : Int) != 0) = true := bne_iff_ne.mpr c3
   (first | rw [c3b0] | (simp only [i64_w, i32_w]; rw [c3b0]) | skip)
   have H' := aM H
   clear H
   go_wp2
   go_meet
   case rel => exact ⟨_, (decide ((a0.size : Int) > 10)), (by first | rfl | (simp; done) | (simp [*]; done)), H', ⟨by first | omega | exact Nat.le_refl _⟩, ⟨uL HB⟩⟩
 case rest =>
  clear HC2
  try clear p2; try clear c3; try clear c3b0; try clear c3b1
  obtain ⟨kq, x13_1, rfl, HA, HJ1, HB⟩ := hcut
  cases kq with
  | zero => exact absurd HA.out (by simp [impl_ReadDecimal.j0])
  | succ kj1 =>
   have H := HA.out
   clear HA
   simp only [impl_ReadDecimal.j0] at H
   by_cases c4 : x13_1 = true
   ·subst c4
    have H1 : (some (0, false)) = some (r1, r2) := by rw [if_pos rfl] at H; exact H
    clear H; have H := H1; clear H1
    simp only [Option.some.injEq, Prod.mk.injEq] at H
    obtain ⟨rfl, rfl⟩ := H
    go_wp2
    go_ret2
    exact rX HB
   ·replace c4 := Bool.eq_false_iff.mpr c4
    subst c4
    have H1 : (impl_ReadDecimal.l0 kj1 a0 0 0) = some (r1, r2) := by rw [if_neg (show ¬ (false = true) by decide)] at H; exact H
    clear H; have H := H1; clear H1
    have H' := aM H
    clear H
    go_wp2
    go_loopg [4, 5] kj1 (fun kq v4 v5 w' => ∃ (x4_2 : Int) (x5_2 : Int), v4 = .int .i64 x4_2 ∧ v5 = .int .i64 x5_2 ∧ Aside0 (impl_ReadDecimal.l0 kq a0 x4_2 x5_2 = some (r1, r2)) ∧ Aside0 (kq ≤ kj1) ∧ Aside0 (Below w.heap.size w w'))
    case atStart => exact ⟨(0), (0), (by first | rfl | (simp; done) | (simp [*]; done)), (by first | rfl | (simp; done) | (simp [*]; done)), H', ⟨Nat.le_refl _⟩, ⟨uL HB⟩⟩
    case round =>
     clear H'
     try clear p2; try clear c3; try clear c3b0; try clear c3b1; try clear c4; try clear p2
     obtain ⟨x4_2, x5_2, rfl, rfl, HA, HK2, HB⟩ := hrel
     cases gk with
     | zero => exact absurd HA.out (by simp [impl_ReadDecimal.l0])
     | succ k2 =>
      have H := HA.out
      clear HA
      simp only [impl_ReadDecimal.l0] at H
      refine Classical.byCases (p := x5_2 < (a0.size : Int)) (fun c5 => ?L1p) (fun c5 => ?L1n)
      case' L1p =>
       rw [if_pos c5] at H
       have c5b0 : decide (x5_2 < (a0.size : Int)) = true := decide_eq_true c5
       clear c5
       by_cases c6 : 0 ≤ x5_2
       ·rw [if_pos c6] at H
        have c6b0 : decide (0 ≤ x5_2) = true := decide_eq_true c6
        clear c6
        by_cases c8 : (bt a0 x5_2) < 48
        ·rw [if_pos c8] at H
         have c8b0 : decide ((bt a0 x5_2) < 48) = true := decide_eq_true c8
         clear c8
         simp only [Option.some.injEq, Prod.mk.injEq] at H
         obtain ⟨rfl, rfl⟩ := H
         have p7 : 0 ≤ (x5_2 : Int) := of_decide_eq_true (by first | (with_reducible assumption) | assumption)
         have q7 : x5_2 < (a0.size : Int) := of_decide_eq_true (by first | (with_reducible assumption) | assumption)
         have hx7 := bt_at a0 x5_2
         replace p7 := eq_true p7; replace q7 := eq_true q7
         go_wp2
         go_ret2
         exact rX HB
        ·rw [if_neg c8] at H
         have c8b0 : decide ((bt a0 x5_2) < 48) = false := decide_eq_false c8
         clear c8
         by_cases c10 : (bt a0 x5_2) > 57
         ·rw [if_pos c10] at H
          have c10b0 : decide (57 < (bt a0 x5_2)) = true := decide_eq_true c10
          clear c10
          simp only [Option.some.injEq, Prod.mk.injEq] at H
          obtain ⟨rfl, rfl⟩ := H
          have p7 : 0 ≤ (x5_2 : Int) := of_decide_eq_true (by first | (with_reducible assumption) | assumption)
          have q7 : x5_2 < (a0.size : Int) := of_decide_eq_true (by first | (with_reducible assumption) | assumption)
          have hx7 := bt_at a0 x5_2
          replace p7 := eq_true p7; replace q7 := eq_true q7
          have p9 : 0 ≤ (x5_2 : Int) := of_decide_eq_true (by first | (with_reducible assumption) | assumption)
          have q9 : x5_2 < (a0.size : Int) := of_decide_eq_true (by first | (with_reducible assumption) | assumption)
          have hx9 := bt_at a0 x5_2
          replace p9 := eq_true p9; replace q9 := eq_true q9
          go_wp2
          go_ret2
          exact rX HB
         ·rw [if_neg c10] at H
          have c10b0 : decide (57 < (bt a0 x5_2)) = false := decide_eq_false c10
          clear c10
          have H' := aM H
          clear H
          have p7 : 0 ≤ (x5_2 : Int) := of_decide_eq_true (by first | (with_reducible assumption) | assumption)
          have q7 : x5_2 < (a0.size : Int) := of_decide_eq_true (by first | (with_reducible assumption) | assumption)
          have hx7 := bt_at a0 x5_2
          replace p7 := eq_true p7; replace q7 := eq_true q7
          have p9 : 0 ≤ (x5_2 : Int) := of_decide_eq_true (by first | (with_reducible assumption) | assumption)
          have q9 : x5_2 < (a0.size : Int) := of_decide_eq_true (by first | (with_reducible assumption) | assumption)
          have hx9 := bt_at a0 x5_2
          replace p9 := eq_true p9; replace q9 := eq_true q9
          have p11 : 0 ≤ (x5_2 : Int) := of_decide_eq_true (by first | (with_reducible assumption) | assumption)
          have q11 : x5_2 < (a0.size : Int) := of_decide_eq_true (by first | (with_reducible assumption) | assumption)
          have hx11 := bt_at a0 x5_2
          replace p11 := eq_true p11; replace q11 := eq_true q11
          go_wp2
          go_roundg k2
          case measure => have := HJ1.out; have := HK2.out; omega
          case rel => exact ⟨(wrap64 ((wrap64 (x4_2 * 10)) + (((bt a0 x5_2) - 48) % 256))), (wrap64 (x5_2 + 1)), (by first | rfl | (simp; done) | (simp [*]; done)), (by first | rfl | (simp; done) | (simp [*]; done)), H', ⟨by have := HJ1.out; have := HK2.out; omega⟩, ⟨uL HB⟩⟩
       ·rw [if_neg c6] at H
        exact absurd H (by simp)
      case' L1n =>
       rw [if_neg c5] at H
       have c5b0 : decide (x5_2 < (a0.size : Int)) = false := decide_eq_false c5
       clear c5
       refine Classical.byCases (p := x4_2 > 1000000000) (fun c12 => ?L2p) (fun c12 => ?L2n)
       case' L2p =>
        rw [if_pos c12] at H
        have c12b0 : decide (1000000000 < x4_2) = true := decide_eq_true c12
        clear c12
        simp only [Option.some.injEq, Prod.mk.injEq] at H
        obtain ⟨rfl, rfl⟩ := H
        go_wp2
        go_ret2
        exact rX HB
       case' L2n =>
        rw [if_neg c12] at H
        have c12b0 : decide (1000000000 < x4_2) = false := decide_eq_false c12
        clear c12
        replace H := Option.bind_eq_some_iff.mp H
        obtain ⟨t299, A130, H⟩ := H
        replace H : (if t299.toList = a0.toList then (some (x4_2, true)) else (some (0, false))) = some (r1, r2) := H
        have A13 := aM A130
        clear A130
        refine Classical.byCases (p := t299.toList = a0.toList) (fun c14 => ?L3p) (fun c14 => ?L3n)
        case' L3p =>
         rw [if_pos c14] at H
         have c14b0 : (t299.toList == a0.toList) = true := beq_iff_eq.mpr c14
         have c14b1 : (t299.toList != a0.toList) = false := bne_eq_false_iff_eq.mpr c14
         clear c14
         simp only [Option.some.injEq, Prod.mk.injEq] at H
         obtain ⟨rfl, rfl⟩ := H
        case' L3n =>
         rw [if_neg c14] at H
         have c14b0 : (t299.toList == a0.toList) = false := beq_eq_false_iff_ne.mpr c14
         have c14b1 : (t299.toList != a0.toList) = true := bne_iff_ne.mpr c14
         simp only [Option.some.injEq, Prod.mk.injEq] at H
         obtain ⟨rfl, rfl⟩ := H
      case L3p | L3n =>
       go_wp2_with (first | (go_at_call 70; (with_reducible refine (impl_Decimal.calls x4_2 t299 _ A13.out (Cx.on HTAB.out (uL HB))).mono ?_); rintro e w15 ⟨rfl, hb⟩; replace HB := aM (below_step (uL HB) hb); try clear hb))
       go_ret2
       exact rX HB

/-! ### impl_snapIndex: function 37 -/
def impl_snapIndex.f (k : Nat) (a0 : ByteArray) : Option (Int × Bool) := (strings_CutPrefix.f a0 (⟨#[115]⟩ : ByteArray)).bind fun bt300 => ((impl_ReadDecimal.f k bt300.1).bind fun bt302 => (if bt300.2 = true then (if bt302.2 = true then ((impl_isIndex.f bt302.1).bind fun t304 => (some (bt302.1, t304))) else (some (bt302.1, false))) else (some (bt302.1, false))))
theorem impl_snapIndex.mono : ∀ a0 k, LeO (impl_snapIndex.f k a0) (impl_snapIndex.f (k + 1) a0) := by
 intro a0 k
 unfold impl_snapIndex.f
 repeat' first
  | (with_reducible exact impl_ReadDecimal.mono _ _)
  | (with_reducible exact LeO.refl _)
  | (with_reducible exact LeO.none _)
  | (with_reducible refine LeO.ite ?_ ?_)
  | (with_reducible refine LeO.bind ?_ (fun _ => ?_))
  | exact impl_ReadDecimal.mono _ _
  | exact LeO.none _
  | refine LeO.ite ?_ ?_
  | refine LeO.bind ?_ (fun _ => ?_)
set_option maxHeartbeats 8000000 in
set_option maxRecDepth 100000 in
theorem impl_snapIndex.calls (k : Nat) (a0 : ByteArray) (r1 : Int) (r2 : Bool) (w : World) (h : impl_snapIndex.f k a0 = some (r1, r2)) (htab : Cx.Ok w) :
 Calls Tryd.prog 37 #[.string a0] w fun e w' => e = .returned (.tuple #[.int .i64 r1, .bool r2]) ∧ Below w.heap.size w w' := by
 have HTAB := aM htab
 clear htab
 have HB := aM (Below.refl w.heap.size w)
 have H : ((strings_CutPrefix.f a0 (⟨#[115]⟩ : ByteArray)).bind fun bt300 => ((impl_ReadDecimal.f k bt300.1).bind fun bt302 => (if bt300.2 = true then (if bt302.2 = true then ((impl_isIndex.f bt302.1).bind fun t304 => (some (bt302.1, t304))) else (some (bt302.1, false))) else (some (bt302.1, false))))) = some (r1, r2) := h
 clear h
 replace H := Option.bind_eq_some_iff.mp H
 obtain ⟨⟨t300, t301⟩, A20, H⟩ := H
 try dsimp only at H
 have A2 := aM A20
 clear A20
 replace H := Option.bind_eq_some_iff.mp H
 obtain ⟨⟨t302, t303⟩, A30, H⟩ := H
 try dsimp only at H
 have A3 := aM A30
 clear A30
 by_cases c4 : t301 = true
 ·subst c4
  have H1 : (if t303 = true then ((impl_isIndex.f t302).bind fun t304 => (some (t302, t304))) else (some (t302, false))) = some (r1, r2) := by rw [if_pos rfl] at H; exact H
  clear H; have H := H1; clear H1
  by_cases c5 : t303 = true
  ·subst c5
   have H1 : ((impl_isIndex.f t302).bind fun t304 => (some (t302, t304))) = some (r1, r2) := by rw [if_pos rfl] at H; exact H
   clear H; have H := H1; clear H1
   replace H := Option.bind_eq_some_iff.mp H
   obtain ⟨t304, A60, H⟩ := H
   replace H : (some (t302, t304)) = some (r1, r2) := H
   have A6 := aM A60
   clear A60
   simp only [Option.some.injEq, Prod.mk.injEq] at H
   obtain ⟨rfl, rfl⟩ := H
   go_enter Tryd.func37, Tryd.ntmps37
   go_wp2_with (first | ((with_reducible refine gate_callee (f := 71) rfl ?_); refine gL (some 10) Tryd.func71 #[.string a0, .string (⟨#[115]⟩ : ByteArray)] ?_; (with_reducible refine (strings_CutPrefix.calls a0 (⟨#[115]⟩ : ByteArray) t300 true _ A2.out).mono ?_); rintro e w' ⟨rfl, ⟨nd, rfl⟩⟩; refine ⟨_, rfl, ?_⟩) | ((with_reducible refine gate_callee (f := 72) rfl ?_); refine gL (some 15) Tryd.func72 #[.string t300] ?_; (with_reducible refine (impl_ReadDecimal.calls k t300 t302 true _ A3.out (Cx.on HTAB.out (uL HB))).mono ?_); rintro e w7 ⟨rfl, hb⟩; refine ⟨_, rfl, ?_⟩; replace HB := aM (below_step (uL HB) hb); try clear hb) | (go_at_call 61; (with_reducible refine (impl_isIndex.calls t302 t304 _ A6.out).mono ?_); rintro e w' ⟨rfl, ⟨nd, rfl⟩⟩))
   go_ret2
   exact rX HB
  ·replace c5 := Bool.eq_false_iff.mpr c5
   subst c5
   have H1 : (some (t302, false)) = some (r1, r2) := by rw [if_neg (show ¬ (false = true) by decide)] at H; exact H
   clear H; have H := H1; clear H1
   simp only [Option.some.injEq, Prod.mk.injEq] at H
   obtain ⟨rfl, rfl⟩ := H
   go_enter Tryd.func37, Tryd.ntmps37
   go_wp2_with (first | ((with_reducible refine gate_callee (f := 71) rfl ?_); refine gL (some 10) Tryd.func71 #[.string a0, .string (⟨#[115]⟩ : ByteArray)] ?_; (with_reducible refine (strings_CutPrefix.calls a0 (⟨#[115]⟩ : ByteArray) t300 true _ A2.out).mono ?_); rintro e w' ⟨rfl, ⟨nd, rfl⟩⟩; refine ⟨_, rfl, ?_⟩) | ((with_reducible refine gate_callee (f := 72) rfl ?_); refine gL (some 15) Tryd.func72 #[.string t300] ?_; (with_reducible refine (impl_ReadDecimal.calls k t300 t302 false _ A3.out (Cx.on HTAB.out (uL HB))).mono ?_); rintro e w8 ⟨rfl, hb⟩; refine ⟨_, rfl, ?_⟩; replace HB := aM (below_step (uL HB) hb); try clear hb))
   go_ret2
   exact rX HB
 ·replace c4 := Bool.eq_false_iff.mpr c4
  subst c4
  have H1 : (some (t302, false)) = some (r1, r2) := by rw [if_neg (show ¬ (false = true) by decide)] at H; exact H
  clear H; have H := H1; clear H1
  simp only [Option.some.injEq, Prod.mk.injEq] at H
  obtain ⟨rfl, rfl⟩ := H
  go_enter Tryd.func37, Tryd.ntmps37
  go_wp2_with (first | ((with_reducible refine gate_callee (f := 71) rfl ?_); refine gL (some 10) Tryd.func71 #[.string a0, .string (⟨#[115]⟩ : ByteArray)] ?_; (with_reducible refine (strings_CutPrefix.calls a0 (⟨#[115]⟩ : ByteArray) t300 false _ A2.out).mono ?_); rintro e w' ⟨rfl, ⟨nd, rfl⟩⟩; refine ⟨_, rfl, ?_⟩) | ((with_reducible refine gate_callee (f := 72) rfl ?_); refine gL (some 15) Tryd.func72 #[.string t300] ?_; (with_reducible refine (impl_ReadDecimal.calls k t300 t302 t303 _ A3.out (Cx.on HTAB.out (uL HB))).mono ?_); rintro e w9 ⟨rfl, hb⟩; refine ⟨_, rfl, ?_⟩; replace HB := aM (below_step (uL HB) hb); try clear hb))
  go_ret2
  exact rX HB

end Go.Proofs.YthomiofokkkhgaaDoor.QFnExactSnapActs
