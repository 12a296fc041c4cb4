-- Own work (wip/turnprint.py over the kit's print).
import Derived.Test.YthomiofokkkhgaaDoorQFnExactSnapActsx0
import Derived.Test.YthomiofokkkhgaaDoorQFnExactSnapActsx13
namespace Go.Proofs.YthomiofokkkhgaaDoor.QFnExactSnapActs
open Go.RowKit Go.Proofs.YthomiofokkkhgaaDoorW.PrintWords Go.Proofs.YthomiofokkkhgaaDoorW.PrintLast Go.Proofs.YthomiofokkkhgaaDoorW.PrintMore
attribute [local go_sem] max2_int min2_int max_two min_two max_three min_three max_four min_four   -- for this text's walks alone
set_option linter.unusedVariables false
set_option linter.unusedSimpArgs false

/-! ### laws_heldActS: function 17 -/
def laws_heldActS.l0 : Nat → List (S60) → Int → Int → Option (Int)
 | 0, _, _, _ => none
 | k + 1, x0, x1, x5 => if x5 < (x0.length : Int) then (if 0 ≤ x5 then (if ((rd_T60 x0 x5).f0) = x1 then ((laws_markText.f k (wrap64 (x1 + 1))).bind fun t347 => (if ((rd_T60 x0 x5).f1).toList = t347.toList then ((laws_markText.f k (wrap64 ((wrap64 (x1 + 1)) + 1))).bind fun t349 => (if ((rd_T60 x0 x5).f2).toList = t349.toList then ((laws_markText.f k (wrap64 ((wrap64 ((wrap64 (x1 + 1)) + 1)) + 1))).bind fun t351 => (if ((rd_T60 x0 x5).f3).toList = t351.toList then (laws_heldActS.l0 k x0 (wrap64 ((wrap64 ((wrap64 ((wrap64 (x1 + 1)) + 1)) + 1)) + 1)) (wrap64 (x5 + 1))) else (some (-1)))) else (some (-1)))) else (some (-1)))) else (some (-1))) else (none)) else (some x1)
def laws_heldActS.f (k : Nat) (l0 : List (S60)) (a1 : Int) : Option (Int) := laws_heldActS.l0 k l0 a1 0
theorem laws_heldActS.mono_l : ∀ k, (∀ y0 y1 y2, LeO (laws_heldActS.l0 k y0 y1 y2) (laws_heldActS.l0 (k + 1) y0 y1 y2))
 | 0 => fun _ _ _ r h => by simp [laws_heldActS.l0] at h
 | k + 1 => by
  have ih0 := laws_heldActS.mono_l k
  ·intro y0 y1 y2
   unfold laws_heldActS.l0
   repeat' first
   | (with_reducible exact ih0 _ _ _)
   | (with_reducible exact laws_markText.mono _ _)
   | (with_reducible exact LeO.refl _)
   | (with_reducible exact LeO.none _)
   | (with_reducible refine LeO.ite ?_ ?_)
   | (with_reducible refine LeO.bind ?_ (fun _ => ?_))
   | exact ih0 _ _ _
   | exact laws_markText.mono _ _
   | exact LeO.none _
   | refine LeO.ite ?_ ?_
   | refine LeO.bind ?_ (fun _ => ?_)
theorem laws_heldActS.mono : ∀ a0 a1 k, LeO (laws_heldActS.f k a0 a1) (laws_heldActS.f (k + 1) a0 a1) := by
 intro a0 a1 k
 have ih0 := laws_heldActS.mono_l k
 unfold laws_heldActS.f
 repeat' first
  | (with_reducible exact ih0 _ _ _)
  | (with_reducible exact laws_markText.mono _ _)
  | (with_reducible exact LeO.refl _)
  | (with_reducible exact LeO.none _)
  | (with_reducible refine LeO.ite ?_ ?_)
  | (with_reducible refine LeO.bind ?_ (fun _ => ?_))
  | exact ih0 _ _ _
  | exact laws_markText.mono _ _
  | exact LeO.none _
  | refine LeO.ite ?_ ?_
  | refine LeO.bind ?_ (fun _ => ?_)
def laws_heldActS.T7 : Bool × List (List Nat × List Nat) := (true, [([], []), ([], []), ([0, 1], [0, 1]), ([2], [2]), ([3], [3]), ([], []), ([5], [5]), ([4, 6], [4, 6])])
def laws_heldActS.B7 : List Nat := [0, 0, 3, 7, 15, 0, 32, 127]
theorem laws_heldActS.tab7 : rtab .any (opsOf Tryd.f17 7) = laws_heldActS.T7 := by kernel_rfl
theorem laws_heldActS.bits7 : waitsOk laws_heldActS.T7.2 laws_heldActS.B7 = true := by kernel_rfl
def laws_heldActS.T10 : Bool × List (List Nat × List Nat) := (true, [([], []), ([], []), ([0, 1], [0, 1]), ([2], [2]), ([3], [3]), ([], []), ([5], [5]), ([4, 6], [4, 6])])
def laws_heldActS.B10 : List Nat := [0, 0, 3, 7, 15, 0, 32, 127]
theorem laws_heldActS.tab10 : rtab .any (opsOf Tryd.f17 10) = laws_heldActS.T10 := by kernel_rfl
theorem laws_heldActS.bits10 : waitsOk laws_heldActS.T10.2 laws_heldActS.B10 = true := by kernel_rfl
def laws_heldActS.T13 : Bool × List (List Nat × List Nat) := (true, [([], []), ([], []), ([0, 1], [0, 1]), ([2], [2]), ([3], [3]), ([], []), ([5], [5]), ([4, 6], [4, 6])])
def laws_heldActS.B13 : List Nat := [0, 0, 3, 7, 15, 0, 32, 127]
theorem laws_heldActS.tab13 : rtab .any (opsOf Tryd.f17 13) = laws_heldActS.T13 := by kernel_rfl
theorem laws_heldActS.bits13 : waitsOk laws_heldActS.T13.2 laws_heldActS.B13 = true := by kernel_rfl
set_option maxHeartbeats 8000000 in
set_option maxRecDepth 100000 in
theorem laws_heldActS.calls (k : Nat) (A0 : Option Addr) (c0 : Nat) (l0 : List (S60)) (a1 : Int) (r : Int) (w : World) (hr0 : Kd.C k60 w A0 l0.length l0) (hc0 : l0.length ≤ c0) (h : laws_heldActS.f k l0 a1 = some r) :
 Calls Tryd.prog 17 #[.slice A0 l0.length c0, .int .i64 a1] w fun e w' => e = .returned (.int .i64 r) ∧ Below w.heap.size w w' := by
 have HR0 := aM hr0
 have HC0 := aM hc0
 clear hr0 hc0
 have HB := aM (Below.refl w.heap.size w)
 have H : (laws_heldActS.l0 k l0 a1 0) = some r := h
 clear h
 have H' := aM H
 clear H
 go_enter Tryd.func17, Tryd.ntmps17
 go_wp2
 go_loopg [1, 5] k (fun kq v1 v5 w' => ∃ (x1_1 : Int) (x5_1 : Int), v1 = .int .i64 x1_1 ∧ v5 = .int .i64 x5_1 ∧ Aside0 (laws_heldActS.l0 kq l0 x1_1 x5_1 = some r) ∧ Aside0 (kq ≤ k) ∧ Aside0 (Below w.heap.size w w'))
 case atStart => exact ⟨(a1), (0), (by first | rfl | (simp; done) | (simp [*]; done)), (by first | rfl | (simp; done) | (simp [*]; done)), H', ⟨Nat.le_refl _⟩, ⟨uL HB⟩⟩
 case round =>
  clear H'
  try clear c1; try clear p2
  obtain ⟨x1_1, x5_1, rfl, rfl, HA, HK1, HB⟩ := hrel
  cases gk with
  | zero => exact absurd HA.out (by simp [laws_heldActS.l0])
  | succ k1 =>
   have H := HA.out
   clear HA
   simp only [laws_heldActS.l0] at H
   by_cases c3 : x5_1 < (l0.length : Int)
   ·rw [if_pos c3] at H
    have c3b0 : decide (x5_1 < (l0.length : Int)) = true := decide_eq_true c3
    clear c3
    by_cases c4 : 0 ≤ x5_1
    ·rw [if_pos c4] at H
     have c4b0 : decide (0 ≤ x5_1) = true := decide_eq_true c4
     clear c4
     by_cases c5 : ((rd_T60 l0 x5_1).f0) = x1_1
     ·rw [if_pos c5] at H
      have c5b0 : (((rd_T60 l0 x5_1).f0) == x1_1) = true := beq_iff_eq.mpr c5
      have c5b1 : (((rd_T60 l0 x5_1).f0) != x1_1) = false := bne_eq_false_iff_eq.mpr c5
      clear c5
      replace H := Option.bind_eq_some_iff.mp H
      obtain ⟨t347, A60, H⟩ := H
      try dsimp only at H
      have A6 := aM A60
      clear A60
      by_cases c7 : ((rd_T60 l0 x5_1).f1).toList = t347.toList
      ·rw [if_pos c7] at H
       have c7b0 : (((rd_T60 l0 x5_1).f1).toList == t347.toList) = true := beq_iff_eq.mpr c7
       have c7b1 : (((rd_T60 l0 x5_1).f1).toList != t347.toList) = false := bne_eq_false_iff_eq.mpr c7
       clear c7
       replace H := Option.bind_eq_some_iff.mp H
       obtain ⟨t349, A80, H⟩ := H
       try dsimp only at H
       have A8 := aM A80
       clear A80
       by_cases c9 : ((rd_T60 l0 x5_1).f2).toList = t349.toList
       ·rw [if_pos c9] at H
        have c9b0 : (((rd_T60 l0 x5_1).f2).toList == t349.toList) = true := beq_iff_eq.mpr c9
        have c9b1 : (((rd_T60 l0 x5_1).f2).toList != t349.toList) = false := bne_eq_false_iff_eq.mpr c9
        clear c9
        replace H := Option.bind_eq_some_iff.mp H
        obtain ⟨t351, A100, H⟩ := H
        try dsimp only at H
        have A10 := aM A100
        clear A100
        by_cases c11 : ((rd_T60 l0 x5_1).f3).toList = t351.toList
        ·rw [if_pos c11] at H
         have c11b0 : (((rd_T60 l0 x5_1).f3).toList == t351.toList) = true := beq_iff_eq.mpr c11
         have c11b1 : (((rd_T60 l0 x5_1).f3).toList != t351.toList) = false := bne_eq_false_iff_eq.mpr c11
         clear c11
         have H' := aM H
         clear H
         have p345 : 0 ≤ (x5_1 : Int) := of_decide_eq_true (by first | (with_reducible assumption) | assumption)
         have q345 : x5_1 < (l0.length : Int) := of_decide_eq_true (by first | (with_reducible assumption) | assumption)
         obtain ⟨ad345, e345, hx345_0, hx345_1, hx345_2, hx345_3⟩ := at_T60 HR0.out x5_1 p345 q345
         cases e345
         replace hx345_0 := hxB HB hx345_0; replace hx345_1 := hxB HB hx345_1; replace hx345_2 := hxB HB hx345_2; replace hx345_3 := hxB HB hx345_3; replace p345 := eq_true p345; replace q345 := eq_true q345
         try go_wp2
         replace HB := aM (below_drew1 HB.out)
         have p346 : 0 ≤ (x5_1 : Int) := of_decide_eq_true (by first | (with_reducible assumption) | assumption)
         have q346 : x5_1 < (l0.length : Int) := of_decide_eq_true (by first | (with_reducible assumption) | assumption)
         obtain ⟨ad346, e346, hx346_0, hx346_1, hx346_2, hx346_3⟩ := at_T60 HR0.out x5_1 p346 q346
         have hw346_3 := hx346_3; have hw346_2 := hx346_2; have hw346_1 := hx346_1; have hw346_0 := hx346_0
         obtain rfl : ad345 = ad346 := (by injection e346)
         replace hx346_0 := hxB HB hx346_0; replace hx346_1 := hxB HB hx346_1; replace hx346_2 := hxB HB hx346_2; replace hx346_3 := hxB HB hx346_3; replace p346 := eq_true p346; replace q346 := eq_true q346
         refine start_ (n := 8) (S := fun w' => w'.cell? (ad345.add ((x5_1).toNat * 4)) = some (.int .i64 ((rd_T60 l0 x5_1).f0)) ∧ w'.cell? ⟨(ad345.add ((x5_1).toNat * 4)).block, (ad345.add ((x5_1).toNat * 4)).off + 1, none⟩ = some (.string ((rd_T60 l0 x5_1).f1)) ∧ w'.cell? ⟨(ad345.add ((x5_1).toNat * 4)).block, (ad345.add ((x5_1).toNat * 4)).off + 2, none⟩ = some (.string ((rd_T60 l0 x5_1).f2)) ∧ w'.cell? ⟨(ad345.add ((x5_1).toNat * 4)).block, (ad345.add ((x5_1).toNat * 4)).off + 3, none⟩ = some (.string ((rd_T60 l0 x5_1).f3))) (ds := []) (bB 8 0) (by kernel_rfl) rfl rfl ⟨(hyB HB hw346_0), (hyB HB hw346_1), (hyB HB hw346_2), (hyB HB hw346_3)⟩ (fun hHeld => ?_); refine with_tabW laws_heldActS.tab7 laws_heldActS.bits7 (fun HT_ HW_ => ?_)
         generalize wr.drew = w12 at HB hx346_0 hx346_1 hx346_2 hx346_3 hHeld ⊢
         refine pA HT_.out 0 21 8 1 ?_; refine pA HT_.out 1 22 8 3 ?_; refine pA HT_.out 2 23 8 7 ?_; refine pA HT_.out 3 24 8 15 ?_; refine pA HT_.out 5 26 8 47 ?_; refine tA HT_.out HW_.out 4 25 8 63 hHeld ?_
         refine oA HT_.out 6 (some 27) 8 127 (fun K hK => ?_)
         refine gX Tryd.func43 #[.int .i64 (wrap64 (x1_1 + 1))] ?_
         with_reducible refine (laws_markText.calls k1 (wrap64 (x1_1 + 1)) t347 _ A6.out).mono ?_
         rintro e w13 ⟨rfl, hb⟩
         refine ⟨_, rfl, ?_⟩
         replace HB := aM (below_step (uL HB) hb)
         (try clear hb)
         (try clear hb2)
         (try clear hk)
         (try clear hi)
         refine hK.out _ _ ⟨(hyB HB hw346_0), (hyB HB hw346_1), (hyB HB hw346_2), (hyB HB hw346_3)⟩ (fun hHeld => ?_)
         clear hK K
         refine nX 27 ?_; refine pA HT_.out 7 28 8 255 ?_
         refine done_ (done_of HT_.out (by kernel_rfl)) ?_
         try go_wp2
         replace HB := aM (below_drew1 HB.out)
         have p348 : 0 ≤ (x5_1 : Int) := of_decide_eq_true (by first | (with_reducible assumption) | assumption)
         have q348 : x5_1 < (l0.length : Int) := of_decide_eq_true (by first | (with_reducible assumption) | assumption)
         obtain ⟨ad348, e348, hx348_0, hx348_1, hx348_2, hx348_3⟩ := at_T60 HR0.out x5_1 p348 q348
         have hw348_3 := hx348_3; have hw348_2 := hx348_2; have hw348_1 := hx348_1; have hw348_0 := hx348_0
         obtain rfl : ad345 = ad348 := (by injection e348)
         replace hx348_0 := hxB HB hx348_0; replace hx348_1 := hxB HB hx348_1; replace hx348_2 := hxB HB hx348_2; replace hx348_3 := hxB HB hx348_3; replace p348 := eq_true p348; replace q348 := eq_true q348
         refine start_ (n := 8) (S := fun w' => w'.cell? (ad345.add ((x5_1).toNat * 4)) = some (.int .i64 ((rd_T60 l0 x5_1).f0)) ∧ w'.cell? ⟨(ad345.add ((x5_1).toNat * 4)).block, (ad345.add ((x5_1).toNat * 4)).off + 1, none⟩ = some (.string ((rd_T60 l0 x5_1).f1)) ∧ w'.cell? ⟨(ad345.add ((x5_1).toNat * 4)).block, (ad345.add ((x5_1).toNat * 4)).off + 2, none⟩ = some (.string ((rd_T60 l0 x5_1).f2)) ∧ w'.cell? ⟨(ad345.add ((x5_1).toNat * 4)).block, (ad345.add ((x5_1).toNat * 4)).off + 3, none⟩ = some (.string ((rd_T60 l0 x5_1).f3))) (ds := []) (bB 8 0) (by kernel_rfl) rfl rfl ⟨(hyB HB hw348_0), (hyB HB hw348_1), (hyB HB hw348_2), (hyB HB hw348_3)⟩ (fun hHeld => ?_); refine with_tabW laws_heldActS.tab10 laws_heldActS.bits10 (fun HT_ HW_ => ?_)
         generalize w13.drew = w14 at HB hx348_0 hx348_1 hx348_2 hx348_3 hHeld ⊢
         refine pA HT_.out 0 31 8 1 ?_; refine pA HT_.out 1 32 8 3 ?_; refine pA HT_.out 2 33 8 7 ?_; refine pA HT_.out 3 34 8 15 ?_; refine pA HT_.out 5 36 8 47 ?_; refine tA HT_.out HW_.out 4 35 8 63 hHeld ?_
         refine oA HT_.out 6 (some 37) 8 127 (fun K hK => ?_)
         refine gX Tryd.func43 #[.int .i64 (wrap64 ((wrap64 (x1_1 + 1)) + 1))] ?_
         with_reducible refine (laws_markText.calls k1 (wrap64 ((wrap64 (x1_1 + 1)) + 1)) t349 _ A8.out).mono ?_
         rintro e w15 ⟨rfl, hb⟩
         refine ⟨_, rfl, ?_⟩
         replace HB := aM (below_step (uL HB) hb)
         (try clear hb)
         (try clear hb2)
         (try clear hk)
         (try clear hi)
         refine hK.out _ _ ⟨(hyB HB hw348_0), (hyB HB hw348_1), (hyB HB hw348_2), (hyB HB hw348_3)⟩ (fun hHeld => ?_)
         clear hK K
         refine nX 37 ?_; refine pA HT_.out 7 38 8 255 ?_
         refine done_ (done_of HT_.out (by kernel_rfl)) ?_
         try go_wp2
         replace HB := aM (below_drew1 HB.out)
         have p350 : 0 ≤ (x5_1 : Int) := of_decide_eq_true (by first | (with_reducible assumption) | assumption)
         have q350 : x5_1 < (l0.length : Int) := of_decide_eq_true (by first | (with_reducible assumption) | assumption)
         obtain ⟨ad350, e350, hx350_0, hx350_1, hx350_2, hx350_3⟩ := at_T60 HR0.out x5_1 p350 q350
         have hw350_3 := hx350_3; have hw350_2 := hx350_2; have hw350_1 := hx350_1; have hw350_0 := hx350_0
         obtain rfl : ad345 = ad350 := (by injection e350)
         replace hx350_0 := hxB HB hx350_0; replace hx350_1 := hxB HB hx350_1; replace hx350_2 := hxB HB hx350_2; replace hx350_3 := hxB HB hx350_3; replace p350 := eq_true p350; replace q350 := eq_true q350
         refine start_ (n := 8) (S := fun w' => w'.cell? (ad345.add ((x5_1).toNat * 4)) = some (.int .i64 ((rd_T60 l0 x5_1).f0)) ∧ w'.cell? ⟨(ad345.add ((x5_1).toNat * 4)).block, (ad345.add ((x5_1).toNat * 4)).off + 1, none⟩ = some (.string ((rd_T60 l0 x5_1).f1)) ∧ w'.cell? ⟨(ad345.add ((x5_1).toNat * 4)).block, (ad345.add ((x5_1).toNat * 4)).off + 2, none⟩ = some (.string ((rd_T60 l0 x5_1).f2)) ∧ w'.cell? ⟨(ad345.add ((x5_1).toNat * 4)).block, (ad345.add ((x5_1).toNat * 4)).off + 3, none⟩ = some (.string ((rd_T60 l0 x5_1).f3))) (ds := []) (bB 8 0) (by kernel_rfl) rfl rfl ⟨(hyB HB hw350_0), (hyB HB hw350_1), (hyB HB hw350_2), (hyB HB hw350_3)⟩ (fun hHeld => ?_); refine with_tabW laws_heldActS.tab13 laws_heldActS.bits13 (fun HT_ HW_ => ?_)
         generalize w15.drew = w16 at HB hx350_0 hx350_1 hx350_2 hx350_3 hHeld ⊢
         refine pA HT_.out 0 41 8 1 ?_; refine pA HT_.out 1 42 8 3 ?_; refine pA HT_.out 2 43 8 7 ?_; refine pA HT_.out 3 44 8 15 ?_; refine pA HT_.out 5 46 8 47 ?_; refine tA HT_.out HW_.out 4 45 8 63 hHeld ?_
         refine oA HT_.out 6 (some 47) 8 127 (fun K hK => ?_)
         refine gX Tryd.func43 #[.int .i64 (wrap64 ((wrap64 ((wrap64 (x1_1 + 1)) + 1)) + 1))] ?_
         with_reducible refine (laws_markText.calls k1 (wrap64 ((wrap64 ((wrap64 (x1_1 + 1)) + 1)) + 1)) t351 _ A10.out).mono ?_
         rintro e w17 ⟨rfl, hb⟩
         refine ⟨_, rfl, ?_⟩
         replace HB := aM (below_step (uL HB) hb)
         (try clear hb)
         (try clear hb2)
         (try clear hk)
         (try clear hi)
         refine hK.out _ _ ⟨(hyB HB hw350_0), (hyB HB hw350_1), (hyB HB hw350_2), (hyB HB hw350_3)⟩ (fun hHeld => ?_)
         clear hK K
         refine nX 47 ?_; refine pA HT_.out 7 48 8 255 ?_
         refine done_ (done_of HT_.out (by kernel_rfl)) ?_
         try go_wp2
         go_roundg k1
         case measure => have := HK1.out; omega
         case rel => exact ⟨(wrap64 ((wrap64 ((wrap64 ((wrap64 (x1_1 + 1)) + 1)) + 1)) + 1)), (wrap64 (x5_1 + 1)), (by first | rfl | (simp; done) | (simp [*]; done)), (by first | rfl | (simp; done) | (simp [*]; done)), H', ⟨by have := HK1.out; omega⟩, ⟨uL HB⟩⟩
        ·rw [if_neg c11] at H
         have c11b0 : (((rd_T60 l0 x5_1).f3).toList == t351.toList) = false := beq_eq_false_iff_ne.mpr c11
         have c11b1 : (((rd_T60 l0 x5_1).f3).toList != t351.toList) = true := bne_iff_ne.mpr c11
         obtain rfl := Option.some.inj H
         have p345 : 0 ≤ (x5_1 : Int) := of_decide_eq_true (by first | (with_reducible assumption) | assumption)
         have q345 : x5_1 < (l0.length : Int) := of_decide_eq_true (by first | (with_reducible assumption) | assumption)
         obtain ⟨ad345, e345, hx345_0, hx345_1, hx345_2, hx345_3⟩ := at_T60 HR0.out x5_1 p345 q345
         cases e345
         replace hx345_0 := hxB HB hx345_0; replace hx345_1 := hxB HB hx345_1; replace hx345_2 := hxB HB hx345_2; replace hx345_3 := hxB HB hx345_3; replace p345 := eq_true p345; replace q345 := eq_true q345
         try go_wp2
         replace HB := aM (below_drew1 HB.out)
         have p346 : 0 ≤ (x5_1 : Int) := of_decide_eq_true (by first | (with_reducible assumption) | assumption)
         have q346 : x5_1 < (l0.length : Int) := of_decide_eq_true (by first | (with_reducible assumption) | assumption)
         obtain ⟨ad346, e346, hx346_0, hx346_1, hx346_2, hx346_3⟩ := at_T60 HR0.out x5_1 p346 q346
         have hw346_3 := hx346_3; have hw346_2 := hx346_2; have hw346_1 := hx346_1; have hw346_0 := hx346_0
         obtain rfl : ad345 = ad346 := (by injection e346)
         replace hx346_0 := hxB HB hx346_0; replace hx346_1 := hxB HB hx346_1; replace hx346_2 := hxB HB hx346_2; replace hx346_3 := hxB HB hx346_3; replace p346 := eq_true p346; replace q346 := eq_true q346
         refine start_ (n := 8) (S := fun w' => w'.cell? (ad345.add ((x5_1).toNat * 4)) = some (.int .i64 ((rd_T60 l0 x5_1).f0)) ∧ w'.cell? ⟨(ad345.add ((x5_1).toNat * 4)).block, (ad345.add ((x5_1).toNat * 4)).off + 1, none⟩ = some (.string ((rd_T60 l0 x5_1).f1)) ∧ w'.cell? ⟨(ad345.add ((x5_1).toNat * 4)).block, (ad345.add ((x5_1).toNat * 4)).off + 2, none⟩ = some (.string ((rd_T60 l0 x5_1).f2)) ∧ w'.cell? ⟨(ad345.add ((x5_1).toNat * 4)).block, (ad345.add ((x5_1).toNat * 4)).off + 3, none⟩ = some (.string ((rd_T60 l0 x5_1).f3))) (ds := []) (bB 8 0) (by kernel_rfl) rfl rfl ⟨(hyB HB hw346_0), (hyB HB hw346_1), (hyB HB hw346_2), (hyB HB hw346_3)⟩ (fun hHeld => ?_); refine with_tabW laws_heldActS.tab7 laws_heldActS.bits7 (fun HT_ HW_ => ?_)
         generalize wr.drew = w18 at HB hx346_0 hx346_1 hx346_2 hx346_3 hHeld ⊢
         refine pA HT_.out 0 21 8 1 ?_; refine pA HT_.out 1 22 8 3 ?_; refine pA HT_.out 2 23 8 7 ?_; refine pA HT_.out 3 24 8 15 ?_; refine pA HT_.out 5 26 8 47 ?_; refine tA HT_.out HW_.out 4 25 8 63 hHeld ?_
         refine oA HT_.out 6 (some 27) 8 127 (fun K hK => ?_)
         refine gX Tryd.func43 #[.int .i64 (wrap64 (x1_1 + 1))] ?_
         with_reducible refine (laws_markText.calls k1 (wrap64 (x1_1 + 1)) t347 _ A6.out).mono ?_
         rintro e w19 ⟨rfl, hb⟩
         refine ⟨_, rfl, ?_⟩
         replace HB := aM (below_step (uL HB) hb)
         (try clear hb)
         (try clear hb2)
         (try clear hk)
         (try clear hi)
         refine hK.out _ _ ⟨(hyB HB hw346_0), (hyB HB hw346_1), (hyB HB hw346_2), (hyB HB hw346_3)⟩ (fun hHeld => ?_)
         clear hK K
         refine nX 27 ?_; refine pA HT_.out 7 28 8 255 ?_
         refine done_ (done_of HT_.out (by kernel_rfl)) ?_
         try go_wp2
         replace HB := aM (below_drew1 HB.out)
         have p348 : 0 ≤ (x5_1 : Int) := of_decide_eq_true (by first | (with_reducible assumption) | assumption)
         have q348 : x5_1 < (l0.length : Int) := of_decide_eq_true (by first | (with_reducible assumption) | assumption)
         obtain ⟨ad348, e348, hx348_0, hx348_1, hx348_2, hx348_3⟩ := at_T60 HR0.out x5_1 p348 q348
         have hw348_3 := hx348_3; have hw348_2 := hx348_2; have hw348_1 := hx348_1; have hw348_0 := hx348_0
         obtain rfl : ad345 = ad348 := (by injection e348)
         replace hx348_0 := hxB HB hx348_0; replace hx348_1 := hxB HB hx348_1; replace hx348_2 := hxB HB hx348_2; replace hx348_3 := hxB HB hx348_3; replace p348 := eq_true p348; replace q348 := eq_true q348
         refine start_ (n := 8) (S := fun w' => w'.cell? (ad345.add ((x5_1).toNat * 4)) = some (.int .i64 ((rd_T60 l0 x5_1).f0)) ∧ w'.cell? ⟨(ad345.add ((x5_1).toNat * 4)).block, (ad345.add ((x5_1).toNat * 4)).off + 1, none⟩ = some (.string ((rd_T60 l0 x5_1).f1)) ∧ w'.cell? ⟨(ad345.add ((x5_1).toNat * 4)).block, (ad345.add ((x5_1).toNat * 4)).off + 2, none⟩ = some (.string ((rd_T60 l0 x5_1).f2)) ∧ w'.cell? ⟨(ad345.add ((x5_1).toNat * 4)).block, (ad345.add ((x5_1).toNat * 4)).off + 3, none⟩ = some (.string ((rd_T60 l0 x5_1).f3))) (ds := []) (bB 8 0) (by kernel_rfl) rfl rfl ⟨(hyB HB hw348_0), (hyB HB hw348_1), (hyB HB hw348_2), (hyB HB hw348_3)⟩ (fun hHeld => ?_); refine with_tabW laws_heldActS.tab10 laws_heldActS.bits10 (fun HT_ HW_ => ?_)
         generalize w19.drew = w20 at HB hx348_0 hx348_1 hx348_2 hx348_3 hHeld ⊢
         refine pA HT_.out 0 31 8 1 ?_; refine pA HT_.out 1 32 8 3 ?_; refine pA HT_.out 2 33 8 7 ?_; refine pA HT_.out 3 34 8 15 ?_; refine pA HT_.out 5 36 8 47 ?_; refine tA HT_.out HW_.out 4 35 8 63 hHeld ?_
         refine oA HT_.out 6 (some 37) 8 127 (fun K hK => ?_)
         refine gX Tryd.func43 #[.int .i64 (wrap64 ((wrap64 (x1_1 + 1)) + 1))] ?_
         with_reducible refine (laws_markText.calls k1 (wrap64 ((wrap64 (x1_1 + 1)) + 1)) t349 _ A8.out).mono ?_
         rintro e w21 ⟨rfl, hb⟩
         refine ⟨_, rfl, ?_⟩
         replace HB := aM (below_step (uL HB) hb)
         (try clear hb)
         (try clear hb2)
         (try clear hk)
         (try clear hi)
         refine hK.out _ _ ⟨(hyB HB hw348_0), (hyB HB hw348_1), (hyB HB hw348_2), (hyB HB hw348_3)⟩ (fun hHeld => ?_)
         clear hK K
         refine nX 37 ?_; refine pA HT_.out 7 38 8 255 ?_
         refine done_ (done_of HT_.out (by kernel_rfl)) ?_
         try go_wp2
         replace HB := aM (below_drew1 HB.out)
         have p350 : 0 ≤ (x5_1 : Int) := of_decide_eq_true (by first | (with_reducible assumption) | assumption)
         have q350 : x5_1 < (l0.length : Int) := of_decide_eq_true (by first | (with_reducible assumption) | assumption)
         obtain ⟨ad350, e350, hx350_0, hx350_1, hx350_2, hx350_3⟩ := at_T60 HR0.out x5_1 p350 q350
         have hw350_3 := hx350_3; have hw350_2 := hx350_2; have hw350_1 := hx350_1; have hw350_0 := hx350_0
         obtain rfl : ad345 = ad350 := (by injection e350)
         replace hx350_0 := hxB HB hx350_0; replace hx350_1 := hxB HB hx350_1; replace hx350_2 := hxB HB hx350_2; replace hx350_3 := hxB HB hx350_3; replace p350 := eq_true p350; replace q350 := eq_true q350
         refine start_ (n := 8) (S := fun w' => w'.cell? (ad345.add ((x5_1).toNat * 4)) = some (.int .i64 ((rd_T60 l0 x5_1).f0)) ∧ w'.cell? ⟨(ad345.add ((x5_1).toNat * 4)).block, (ad345.add ((x5_1).toNat * 4)).off + 1, none⟩ = some (.string ((rd_T60 l0 x5_1).f1)) ∧ w'.cell? ⟨(ad345.add ((x5_1).toNat * 4)).block, (ad345.add ((x5_1).toNat * 4)).off + 2, none⟩ = some (.string ((rd_T60 l0 x5_1).f2)) ∧ w'.cell? ⟨(ad345.add ((x5_1).toNat * 4)).block, (ad345.add ((x5_1).toNat * 4)).off + 3, none⟩ = some (.string ((rd_T60 l0 x5_1).f3))) (ds := []) (bB 8 0) (by kernel_rfl) rfl rfl ⟨(hyB HB hw350_0), (hyB HB hw350_1), (hyB HB hw350_2), (hyB HB hw350_3)⟩ (fun hHeld => ?_); refine with_tabW laws_heldActS.tab13 laws_heldActS.bits13 (fun HT_ HW_ => ?_)
         generalize w21.drew = w22 at HB hx350_0 hx350_1 hx350_2 hx350_3 hHeld ⊢
         refine pA HT_.out 0 41 8 1 ?_; refine pA HT_.out 1 42 8 3 ?_; refine pA HT_.out 2 43 8 7 ?_; refine pA HT_.out 3 44 8 15 ?_; refine pA HT_.out 5 46 8 47 ?_; refine tA HT_.out HW_.out 4 45 8 63 hHeld ?_
         refine oA HT_.out 6 (some 47) 8 127 (fun K hK => ?_)
         refine gX Tryd.func43 #[.int .i64 (wrap64 ((wrap64 ((wrap64 (x1_1 + 1)) + 1)) + 1))] ?_
         with_reducible refine (laws_markText.calls k1 (wrap64 ((wrap64 ((wrap64 (x1_1 + 1)) + 1)) + 1)) t351 _ A10.out).mono ?_
         rintro e w23 ⟨rfl, hb⟩
         refine ⟨_, rfl, ?_⟩
         replace HB := aM (below_step (uL HB) hb)
         (try clear hb)
         (try clear hb2)
         (try clear hk)
         (try clear hi)
         refine hK.out _ _ ⟨(hyB HB hw350_0), (hyB HB hw350_1), (hyB HB hw350_2), (hyB HB hw350_3)⟩ (fun hHeld => ?_)
         clear hK K
         refine nX 47 ?_; refine pA HT_.out 7 48 8 255 ?_
         refine done_ (done_of HT_.out (by kernel_rfl)) ?_
         try go_wp2
         go_ret
         exact rX HB
       ·rw [if_neg c9] at H
        have c9b0 : (((rd_T60 l0 x5_1).f2).toList == t349.toList) = false := beq_eq_false_iff_ne.mpr c9
        have c9b1 : (((rd_T60 l0 x5_1).f2).toList != t349.toList) = true := bne_iff_ne.mpr c9
        obtain rfl := Option.some.inj H
        have p345 : 0 ≤ (x5_1 : Int) := of_decide_eq_true (by first | (with_reducible assumption) | assumption)
        have q345 : x5_1 < (l0.length : Int) := of_decide_eq_true (by first | (with_reducible assumption) | assumption)
        obtain ⟨ad345, e345, hx345_0, hx345_1, hx345_2, hx345_3⟩ := at_T60 HR0.out x5_1 p345 q345
        cases e345
        replace hx345_0 := hxB HB hx345_0; replace hx345_1 := hxB HB hx345_1; replace hx345_2 := hxB HB hx345_2; replace hx345_3 := hxB HB hx345_3; replace p345 := eq_true p345; replace q345 := eq_true q345
        try go_wp2
        replace HB := aM (below_drew1 HB.out)
        have p346 : 0 ≤ (x5_1 : Int) := of_decide_eq_true (by first | (with_reducible assumption) | assumption)
        have q346 : x5_1 < (l0.length : Int) := of_decide_eq_true (by first | (with_reducible assumption) | assumption)
        obtain ⟨ad346, e346, hx346_0, hx346_1, hx346_2, hx346_3⟩ := at_T60 HR0.out x5_1 p346 q346
        have hw346_3 := hx346_3; have hw346_2 := hx346_2; have hw346_1 := hx346_1; have hw346_0 := hx346_0
        obtain rfl : ad345 = ad346 := (by injection e346)
        replace hx346_0 := hxB HB hx346_0; replace hx346_1 := hxB HB hx346_1; replace hx346_2 := hxB HB hx346_2; replace hx346_3 := hxB HB hx346_3; replace p346 := eq_true p346; replace q346 := eq_true q346
        refine start_ (n := 8) (S := fun w' => w'.cell? (ad345.add ((x5_1).toNat * 4)) = some (.int .i64 ((rd_T60 l0 x5_1).f0)) ∧ w'.cell? ⟨(ad345.add ((x5_1).toNat * 4)).block, (ad345.add ((x5_1).toNat * 4)).off + 1, none⟩ = some (.string ((rd_T60 l0 x5_1).f1)) ∧ w'.cell? ⟨(ad345.add ((x5_1).toNat * 4)).block, (ad345.add ((x5_1).toNat * 4)).off + 2, none⟩ = some (.string ((rd_T60 l0 x5_1).f2)) ∧ w'.cell? ⟨(ad345.add ((x5_1).toNat * 4)).block, (ad345.add ((x5_1).toNat * 4)).off + 3, none⟩ = some (.string ((rd_T60 l0 x5_1).f3))) (ds := []) (bB 8 0) (by kernel_rfl) rfl rfl ⟨(hyB HB hw346_0), (hyB HB hw346_1), (hyB HB hw346_2), (hyB HB hw346_3)⟩ (fun hHeld => ?_); refine with_tabW laws_heldActS.tab7 laws_heldActS.bits7 (fun HT_ HW_ => ?_)
        generalize wr.drew = w24 at HB hx346_0 hx346_1 hx346_2 hx346_3 hHeld ⊢
        refine pA HT_.out 0 21 8 1 ?_; refine pA HT_.out 1 22 8 3 ?_; refine pA HT_.out 2 23 8 7 ?_; refine pA HT_.out 3 24 8 15 ?_; refine pA HT_.out 5 26 8 47 ?_; refine tA HT_.out HW_.out 4 25 8 63 hHeld ?_
        refine oA HT_.out 6 (some 27) 8 127 (fun K hK => ?_)
        refine gX Tryd.func43 #[.int .i64 (wrap64 (x1_1 + 1))] ?_
        with_reducible refine (laws_markText.calls k1 (wrap64 (x1_1 + 1)) t347 _ A6.out).mono ?_
        rintro e w25 ⟨rfl, hb⟩
        refine ⟨_, rfl, ?_⟩
        replace HB := aM (below_step (uL HB) hb)
        (try clear hb)
        (try clear hb2)
        (try clear hk)
        (try clear hi)
        refine hK.out _ _ ⟨(hyB HB hw346_0), (hyB HB hw346_1), (hyB HB hw346_2), (hyB HB hw346_3)⟩ (fun hHeld => ?_)
        clear hK K
        refine nX 27 ?_; refine pA HT_.out 7 28 8 255 ?_
        refine done_ (done_of HT_.out (by kernel_rfl)) ?_
        try go_wp2
        replace HB := aM (below_drew1 HB.out)
        have p348 : 0 ≤ (x5_1 : Int) := of_decide_eq_true (by first | (with_reducible assumption) | assumption)
        have q348 : x5_1 < (l0.length : Int) := of_decide_eq_true (by first | (with_reducible assumption) | assumption)
        obtain ⟨ad348, e348, hx348_0, hx348_1, hx348_2, hx348_3⟩ := at_T60 HR0.out x5_1 p348 q348
        have hw348_3 := hx348_3; have hw348_2 := hx348_2; have hw348_1 := hx348_1; have hw348_0 := hx348_0
        obtain rfl : ad345 = ad348 := (by injection e348)
        replace hx348_0 := hxB HB hx348_0; replace hx348_1 := hxB HB hx348_1; replace hx348_2 := hxB HB hx348_2; replace hx348_3 := hxB HB hx348_3; replace p348 := eq_true p348; replace q348 := eq_true q348
        refine start_ (n := 8) (S := fun w' => w'.cell? (ad345.add ((x5_1).toNat * 4)) = some (.int .i64 ((rd_T60 l0 x5_1).f0)) ∧ w'.cell? ⟨(ad345.add ((x5_1).toNat * 4)).block, (ad345.add ((x5_1).toNat * 4)).off + 1, none⟩ = some (.string ((rd_T60 l0 x5_1).f1)) ∧ w'.cell? ⟨(ad345.add ((x5_1).toNat * 4)).block, (ad345.add ((x5_1).toNat * 4)).off + 2, none⟩ = some (.string ((rd_T60 l0 x5_1).f2)) ∧ w'.cell? ⟨(ad345.add ((x5_1).toNat * 4)).block, (ad345.add ((x5_1).toNat * 4)).off + 3, none⟩ = some (.string ((rd_T60 l0 x5_1).f3))) (ds := []) (bB 8 0) (by kernel_rfl) rfl rfl ⟨(hyB HB hw348_0), (hyB HB hw348_1), (hyB HB hw348_2), (hyB HB hw348_3)⟩ (fun hHeld => ?_); refine with_tabW laws_heldActS.tab10 laws_heldActS.bits10 (fun HT_ HW_ => ?_)
        generalize w25.drew = w26 at HB hx348_0 hx348_1 hx348_2 hx348_3 hHeld ⊢
        refine pA HT_.out 0 31 8 1 ?_; refine pA HT_.out 1 32 8 3 ?_; refine pA HT_.out 2 33 8 7 ?_; refine pA HT_.out 3 34 8 15 ?_; refine pA HT_.out 5 36 8 47 ?_; refine tA HT_.out HW_.out 4 35 8 63 hHeld ?_
        refine oA HT_.out 6 (some 37) 8 127 (fun K hK => ?_)
        refine gX Tryd.func43 #[.int .i64 (wrap64 ((wrap64 (x1_1 + 1)) + 1))] ?_
        with_reducible refine (laws_markText.calls k1 (wrap64 ((wrap64 (x1_1 + 1)) + 1)) t349 _ A8.out).mono ?_
        rintro e w27 ⟨rfl, hb⟩
        refine ⟨_, rfl, ?_⟩
        replace HB := aM (below_step (uL HB) hb)
        (try clear hb)
        (try clear hb2)
        (try clear hk)
        (try clear hi)
        refine hK.out _ _ ⟨(hyB HB hw348_0), (hyB HB hw348_1), (hyB HB hw348_2), (hyB HB hw348_3)⟩ (fun hHeld => ?_)
        clear hK K
        refine nX 37 ?_; refine pA HT_.out 7 38 8 255 ?_
        refine done_ (done_of HT_.out (by kernel_rfl)) ?_
        try go_wp2
        go_ret
        exact rX HB
      ·rw [if_neg c7] at H
       have c7b0 : (((rd_T60 l0 x5_1).f1).toList == t347.toList) = false := beq_eq_false_iff_ne.mpr c7
       have c7b1 : (((rd_T60 l0 x5_1).f1).toList != t347.toList) = true := bne_iff_ne.mpr c7
       obtain rfl := Option.some.inj H
       have p345 : 0 ≤ (x5_1 : Int) := of_decide_eq_true (by first | (with_reducible assumption) | assumption)
       have q345 : x5_1 < (l0.length : Int) := of_decide_eq_true (by first | (with_reducible assumption) | assumption)
       obtain ⟨ad345, e345, hx345_0, hx345_1, hx345_2, hx345_3⟩ := at_T60 HR0.out x5_1 p345 q345
       cases e345
       replace hx345_0 := hxB HB hx345_0; replace hx345_1 := hxB HB hx345_1; replace hx345_2 := hxB HB hx345_2; replace hx345_3 := hxB HB hx345_3; replace p345 := eq_true p345; replace q345 := eq_true q345
       try go_wp2
       replace HB := aM (below_drew1 HB.out)
       have p346 : 0 ≤ (x5_1 : Int) := of_decide_eq_true (by first | (with_reducible assumption) | assumption)
       have q346 : x5_1 < (l0.length : Int) := of_decide_eq_true (by first | (with_reducible assumption) | assumption)
       obtain ⟨ad346, e346, hx346_0, hx346_1, hx346_2, hx346_3⟩ := at_T60 HR0.out x5_1 p346 q346
       have hw346_3 := hx346_3; have hw346_2 := hx346_2; have hw346_1 := hx346_1; have hw346_0 := hx346_0
       obtain rfl : ad345 = ad346 := (by injection e346)
       replace hx346_0 := hxB HB hx346_0; replace hx346_1 := hxB HB hx346_1; replace hx346_2 := hxB HB hx346_2; replace hx346_3 := hxB HB hx346_3; replace p346 := eq_true p346; replace q346 := eq_true q346
       refine start_ (n := 8) (S := fun w' => w'.cell? (ad345.add ((x5_1).toNat * 4)) = some (.int .i64 ((rd_T60 l0 x5_1).f0)) ∧ w'.cell? ⟨(ad345.add ((x5_1).toNat * 4)).block, (ad345.add ((x5_1).toNat * 4)).off + 1, none⟩ = some (.string ((rd_T60 l0 x5_1).f1)) ∧ w'.cell? ⟨(ad345.add ((x5_1).toNat * 4)).block, (ad345.add ((x5_1).toNat * 4)).off + 2, none⟩ = some (.string ((rd_T60 l0 x5_1).f2)) ∧ w'.cell? ⟨(ad345.add ((x5_1).toNat * 4)).block, (ad345.add ((x5_1).toNat * 4)).off + 3, none⟩ = some (.string ((rd_T60 l0 x5_1).f3))) (ds := []) (bB 8 0) (by kernel_rfl) rfl rfl ⟨(hyB HB hw346_0), (hyB HB hw346_1), (hyB HB hw346_2), (hyB HB hw346_3)⟩ (fun hHeld => ?_); refine with_tabW laws_heldActS.tab7 laws_heldActS.bits7 (fun HT_ HW_ => ?_)
       generalize wr.drew = w28 at HB hx346_0 hx346_1 hx346_2 hx346_3 hHeld ⊢
       refine pA HT_.out 0 21 8 1 ?_; refine pA HT_.out 1 22 8 3 ?_; refine pA HT_.out 2 23 8 7 ?_; refine pA HT_.out 3 24 8 15 ?_; refine pA HT_.out 5 26 8 47 ?_; refine tA HT_.out HW_.out 4 25 8 63 hHeld ?_
       refine oA HT_.out 6 (some 27) 8 127 (fun K hK => ?_)
       refine gX Tryd.func43 #[.int .i64 (wrap64 (x1_1 + 1))] ?_
       with_reducible refine (laws_markText.calls k1 (wrap64 (x1_1 + 1)) t347 _ A6.out).mono ?_
       rintro e w29 ⟨rfl, hb⟩
       refine ⟨_, rfl, ?_⟩
       replace HB := aM (below_step (uL HB) hb)
       (try clear hb)
       (try clear hb2)
       (try clear hk)
       (try clear hi)
       refine hK.out _ _ ⟨(hyB HB hw346_0), (hyB HB hw346_1), (hyB HB hw346_2), (hyB HB hw346_3)⟩ (fun hHeld => ?_)
       clear hK K
       refine nX 27 ?_; refine pA HT_.out 7 28 8 255 ?_
       refine done_ (done_of HT_.out (by kernel_rfl)) ?_
       try go_wp2
       go_ret
       exact rX HB
     ·rw [if_neg c5] at H
      have c5b0 : (((rd_T60 l0 x5_1).f0) == x1_1) = false := beq_eq_false_iff_ne.mpr c5
      have c5b1 : (((rd_T60 l0 x5_1).f0) != x1_1) = true := bne_iff_ne.mpr c5
      obtain rfl := Option.some.inj H
      have p345 : 0 ≤ (x5_1 : Int) := of_decide_eq_true (by first | (with_reducible assumption) | assumption)
      have q345 : x5_1 < (l0.length : Int) := of_decide_eq_true (by first | (with_reducible assumption) | assumption)
      obtain ⟨ad345, e345, hx345_0, hx345_1, hx345_2, hx345_3⟩ := at_T60 HR0.out x5_1 p345 q345
      cases e345
      replace hx345_0 := hxB HB hx345_0; replace hx345_1 := hxB HB hx345_1; replace hx345_2 := hxB HB hx345_2; replace hx345_3 := hxB HB hx345_3; replace p345 := eq_true p345; replace q345 := eq_true q345
      go_wp2
      go_ret
      exact rX HB
    ·rw [if_neg c4] at H
     exact absurd H (by simp)
   ·rw [if_neg c3] at H
    have c3b0 : decide (x5_1 < (l0.length : Int)) = false := decide_eq_false c3
    clear c3
    obtain rfl := Option.some.inj H
    go_wp2
    go_ret
    exact rX HB

end Go.Proofs.YthomiofokkkhgaaDoor.QFnExactSnapActs
