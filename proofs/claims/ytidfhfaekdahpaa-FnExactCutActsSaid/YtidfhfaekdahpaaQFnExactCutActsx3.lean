-- Own work (wip/turnprint.py over the kit's print).
import Derived.Test.YtidfhfaekdahpaaQFnExactCutActsx0
import Derived.Test.YtidfhfaekdahpaaQFnExactCutActsx2
namespace Go.Proofs.Ytidfhfaekdahpaa.QFnExactCutActs
open Go.RowKit Go.Proofs.YtidfhfaekdahpaaW.PrintWords Go.Proofs.YtidfhfaekdahpaaW.PrintLast
set_option linter.unusedVariables false
set_option linter.unusedSimpArgs false

/-! ### laws_heldFileS: function 85 -/
def laws_heldFileS.l0 : Nat → List (S45) → Int → Int → Option (Int)
 | 0, _, _, _ => none
 | k + 1, x0, x1, x5 => if x5 < (x0.length : Int) then (if 0 ≤ x5 then ((laws_markText.f k x1).bind fun t151 => (if ((rd_T45 x0 x5).f0).toList = t151.toList then ((laws_markText.f k (wrap64 (x1 + 1))).bind fun t153 => (if ((rd_T45 x0 x5).f1).toList = t153.toList then (if ((rd_T45 x0 x5).f2) = (wrap64 ((wrap64 (x1 + 1)) + 1)) then (laws_heldFileS.l0 k x0 (wrap64 ((wrap64 ((wrap64 (x1 + 1)) + 1)) + 1)) (wrap64 (x5 + 1))) else (some (-1))) else (some (-1)))) else (some (-1)))) else (none)) else (some x1)
def laws_heldFileS.f (k : Nat) (l0 : List (S45)) (a1 : Int) : Option (Int) := laws_heldFileS.l0 k l0 a1 0
theorem laws_heldFileS.mono_l : ∀ k, (∀ y0 y1 y2, LeO (laws_heldFileS.l0 k y0 y1 y2) (laws_heldFileS.l0 (k + 1) y0 y1 y2))
 | 0 => fun _ _ _ r h => by simp [laws_heldFileS.l0] at h
 | k + 1 => by
  have ih0 := laws_heldFileS.mono_l k
  ·intro y0 y1 y2
   unfold laws_heldFileS.l0
   repeat' first
   | (with_reducible exact ih0 _ _ _)
   | (with_reducible exact laws_markText.mono _ _)
   | (with_reducible exact LeO.refl _)
   | (with_reducible exact LeO.none _)
   | (with_reducible refine LeO.ite ?_ ?_)
   | (with_reducible refine LeO.bind ?_ (fun _ => ?_))
   | exact ih0 _ _ _
   | exact laws_markText.mono _ _
   | exact LeO.none _
   | refine LeO.ite ?_ ?_
   | refine LeO.bind ?_ (fun _ => ?_)
theorem laws_heldFileS.mono : ∀ a0 a1 k, LeO (laws_heldFileS.f k a0 a1) (laws_heldFileS.f (k + 1) a0 a1) := by
 intro a0 a1 k
 have ih0 := laws_heldFileS.mono_l k
 unfold laws_heldFileS.f
 repeat' first
  | (with_reducible exact ih0 _ _ _)
  | (with_reducible exact laws_markText.mono _ _)
  | (with_reducible exact LeO.refl _)
  | (with_reducible exact LeO.none _)
  | (with_reducible refine LeO.ite ?_ ?_)
  | (with_reducible refine LeO.bind ?_ (fun _ => ?_))
  | exact ih0 _ _ _
  | exact laws_markText.mono _ _
  | exact LeO.none _
  | refine LeO.ite ?_ ?_
  | refine LeO.bind ?_ (fun _ => ?_)
def laws_heldFileS.T4 : Bool × List (List Nat × List Nat) := (true, [([], []), ([], []), ([0, 1], [0, 1]), ([2], [2]), ([3], [3]), ([], []), ([5], [5]), ([4, 6], [4, 6])])
def laws_heldFileS.B4 : List Nat := [0, 0, 3, 7, 15, 0, 32, 127]
theorem laws_heldFileS.tab4 : rtab .any (opsOf Try.f85 4) = laws_heldFileS.T4 := by kernel_rfl
theorem laws_heldFileS.bits4 : waitsOk laws_heldFileS.T4.2 laws_heldFileS.B4 = true := by kernel_rfl
def laws_heldFileS.T7 : Bool × List (List Nat × List Nat) := (true, [([], []), ([], []), ([0, 1], [0, 1]), ([2], [2]), ([3], [3]), ([], []), ([5], [5]), ([4, 6], [4, 6])])
def laws_heldFileS.B7 : List Nat := [0, 0, 3, 7, 15, 0, 32, 127]
theorem laws_heldFileS.tab7 : rtab .any (opsOf Try.f85 7) = laws_heldFileS.T7 := by kernel_rfl
theorem laws_heldFileS.bits7 : waitsOk laws_heldFileS.T7.2 laws_heldFileS.B7 = true := by kernel_rfl
set_option maxHeartbeats 8000000 in
set_option maxRecDepth 100000 in
theorem laws_heldFileS.calls (k : Nat) (A0 : Option Addr) (c0 : Nat) (l0 : List (S45)) (a1 : Int) (r : Int) (w : World) (hr0 : Kd.C k45 w A0 l0.length l0) (hc0 : l0.length ≤ c0) (h : laws_heldFileS.f k l0 a1 = some r) :
 Calls Try.prog 85 #[.slice A0 l0.length c0, .int .i64 a1] w fun e w' => e = .returned (.int .i64 r) ∧ Below w.heap.size w w' := by
 have HR0 := aM hr0
 have HC0 := aM hc0
 clear hr0 hc0
 have HB := aM (Below.refl w.heap.size w)
 have H : (laws_heldFileS.l0 k l0 a1 0) = some r := h
 clear h
 have H' := aM H
 clear H
 go_enter Try.func85, Try.ntmps85
 go_wp2
 go_loopg [1, 5] k (fun kq v1 v5 w' => ∃ (x1_1 : Int) (x5_1 : Int), v1 = .int .i64 x1_1 ∧ v5 = .int .i64 x5_1 ∧ Aside0 (laws_heldFileS.l0 kq l0 x1_1 x5_1 = some r) ∧ Aside0 (kq ≤ k) ∧ Aside0 (Below w.heap.size w w'))
 case atStart => exact ⟨(a1), (0), (by first | rfl | (simp; done) | (simp [*]; done)), (by first | rfl | (simp; done) | (simp [*]; done)), H', ⟨Nat.le_refl _⟩, ⟨uL HB⟩⟩
 case round =>
  clear H'
  try clear p2
  obtain ⟨x1_1, x5_1, rfl, rfl, HA, HK1, HB⟩ := hrel
  cases gk with
  | zero => exact absurd HA.out (by simp [laws_heldFileS.l0])
  | succ k1 =>
   have H := HA.out
   clear HA
   simp only [laws_heldFileS.l0] at H
   by_cases c3 : x5_1 < (l0.length : Int)
   ·rw [if_pos c3] at H
    have c3b0 : decide (x5_1 < (l0.length : Int)) = true := decide_eq_true c3
    clear c3
    by_cases c4 : 0 ≤ x5_1
    ·rw [if_pos c4] at H
     have c4b0 : decide (0 ≤ x5_1) = true := decide_eq_true c4
     clear c4
     replace H := Option.bind_eq_some_iff.mp H
     obtain ⟨t151, A50, H⟩ := H
     try dsimp only at H
     have A5 := aM A50
     clear A50
     by_cases c6 : ((rd_T45 l0 x5_1).f0).toList = t151.toList
     ·rw [if_pos c6] at H
      have c6b0 : (((rd_T45 l0 x5_1).f0).toList == t151.toList) = true := beq_iff_eq.mpr c6
      have c6b1 : (((rd_T45 l0 x5_1).f0).toList != t151.toList) = false := bne_eq_false_iff_eq.mpr c6
      clear c6
      replace H := Option.bind_eq_some_iff.mp H
      obtain ⟨t153, A70, H⟩ := H
      try dsimp only at H
      have A7 := aM A70
      clear A70
      by_cases c8 : ((rd_T45 l0 x5_1).f1).toList = t153.toList
      ·rw [if_pos c8] at H
       have c8b0 : (((rd_T45 l0 x5_1).f1).toList == t153.toList) = true := beq_iff_eq.mpr c8
       have c8b1 : (((rd_T45 l0 x5_1).f1).toList != t153.toList) = false := bne_eq_false_iff_eq.mpr c8
       clear c8
       by_cases c9 : ((rd_T45 l0 x5_1).f2) = (wrap64 ((wrap64 (x1_1 + 1)) + 1))
       ·rw [if_pos c9] at H
        have c9b0 : (((rd_T45 l0 x5_1).f2) == (wrap64 ((wrap64 (x1_1 + 1)) + 1))) = true := beq_iff_eq.mpr c9
        have c9b1 : (((rd_T45 l0 x5_1).f2) != (wrap64 ((wrap64 (x1_1 + 1)) + 1))) = false := bne_eq_false_iff_eq.mpr c9
        clear c9
        have H' := aM H
        clear H
        try go_wp2
        replace HB := aM (below_drew1 HB.out)
        have p150 : 0 ≤ (x5_1 : Int) := of_decide_eq_true (by first | (with_reducible assumption) | assumption)
        have q150 : x5_1 < (l0.length : Int) := of_decide_eq_true (by first | (with_reducible assumption) | assumption)
        obtain ⟨ad150, e150, hx150_0, hx150_1, hx150_2⟩ := at_T45 HR0.out x5_1 p150 q150
        have hw150_2 := hx150_2; have hw150_1 := hx150_1; have hw150_0 := hx150_0
        cases e150
        replace hx150_0 := hxB HB hx150_0; replace hx150_1 := hxB HB hx150_1; replace hx150_2 := hxB HB hx150_2; replace p150 := eq_true p150; replace q150 := eq_true q150
        refine start_ (n := 8) (S := fun w' => w'.cell? (ad150.add ((x5_1).toNat * 3)) = some (.string ((rd_T45 l0 x5_1).f0)) ∧ w'.cell? ⟨(ad150.add ((x5_1).toNat * 3)).block, (ad150.add ((x5_1).toNat * 3)).off + 1, none⟩ = some (.string ((rd_T45 l0 x5_1).f1)) ∧ w'.cell? ⟨(ad150.add ((x5_1).toNat * 3)).block, (ad150.add ((x5_1).toNat * 3)).off + 2, none⟩ = some (.int .i64 ((rd_T45 l0 x5_1).f2))) (ds := []) (bB 8 0) (by kernel_rfl) rfl rfl ⟨(hyB HB hw150_0), (hyB HB hw150_1), (hyB HB hw150_2)⟩ (fun hHeld => ?_); refine with_tabW laws_heldFileS.tab4 laws_heldFileS.bits4 (fun HT_ HW_ => ?_)
        generalize wr.drew = w10 at HB hx150_0 hx150_1 hx150_2 hHeld ⊢
        refine pA HT_.out 0 12 8 1 ?_; refine pA HT_.out 1 13 8 3 ?_; refine pA HT_.out 2 14 8 7 ?_; refine pA HT_.out 3 15 8 15 ?_; refine pA HT_.out 5 17 8 47 ?_; refine tA HT_.out HW_.out 4 16 8 63 hHeld ?_
        refine oA HT_.out 6 (some 18) 8 127 (fun K hK => ?_)
        refine gX Try.func89 #[.int .i64 x1_1] ?_
        with_reducible refine (laws_markText.calls k1 x1_1 t151 _ A5.out).mono ?_
        rintro e w11 ⟨rfl, hb⟩
        refine ⟨_, rfl, ?_⟩
        replace HB := aM (below_step (uL HB) hb)
        (try clear hb)
        (try clear hb2)
        (try clear hk)
        (try clear hi)
        refine hK.out _ _ ⟨(hyB HB hw150_0), (hyB HB hw150_1), (hyB HB hw150_2)⟩ (fun hHeld => ?_)
        clear hK K
        refine nX 18 ?_; refine pA HT_.out 7 19 8 255 ?_
        refine done_ (done_of HT_.out (by kernel_rfl)) ?_
        try go_wp2
        replace HB := aM (below_drew1 HB.out)
        have p152 : 0 ≤ (x5_1 : Int) := of_decide_eq_true (by first | (with_reducible assumption) | assumption)
        have q152 : x5_1 < (l0.length : Int) := of_decide_eq_true (by first | (with_reducible assumption) | assumption)
        obtain ⟨ad152, e152, hx152_0, hx152_1, hx152_2⟩ := at_T45 HR0.out x5_1 p152 q152
        have hw152_2 := hx152_2; have hw152_1 := hx152_1; have hw152_0 := hx152_0
        obtain rfl : ad150 = ad152 := (by injection e152)
        replace hx152_0 := hxB HB hx152_0; replace hx152_1 := hxB HB hx152_1; replace hx152_2 := hxB HB hx152_2; replace p152 := eq_true p152; replace q152 := eq_true q152
        refine start_ (n := 8) (S := fun w' => w'.cell? (ad150.add ((x5_1).toNat * 3)) = some (.string ((rd_T45 l0 x5_1).f0)) ∧ w'.cell? ⟨(ad150.add ((x5_1).toNat * 3)).block, (ad150.add ((x5_1).toNat * 3)).off + 1, none⟩ = some (.string ((rd_T45 l0 x5_1).f1)) ∧ w'.cell? ⟨(ad150.add ((x5_1).toNat * 3)).block, (ad150.add ((x5_1).toNat * 3)).off + 2, none⟩ = some (.int .i64 ((rd_T45 l0 x5_1).f2))) (ds := []) (bB 8 0) (by kernel_rfl) rfl rfl ⟨(hyB HB hw152_0), (hyB HB hw152_1), (hyB HB hw152_2)⟩ (fun hHeld => ?_); refine with_tabW laws_heldFileS.tab7 laws_heldFileS.bits7 (fun HT_ HW_ => ?_)
        generalize w11.drew = w12 at HB hx152_0 hx152_1 hx152_2 hHeld ⊢
        refine pA HT_.out 0 22 8 1 ?_; refine pA HT_.out 1 23 8 3 ?_; refine pA HT_.out 2 24 8 7 ?_; refine pA HT_.out 3 25 8 15 ?_; refine pA HT_.out 5 27 8 47 ?_; refine tA HT_.out HW_.out 4 26 8 63 hHeld ?_
        refine oA HT_.out 6 (some 28) 8 127 (fun K hK => ?_)
        refine gX Try.func89 #[.int .i64 (wrap64 (x1_1 + 1))] ?_
        with_reducible refine (laws_markText.calls k1 (wrap64 (x1_1 + 1)) t153 _ A7.out).mono ?_
        rintro e w13 ⟨rfl, hb⟩
        refine ⟨_, rfl, ?_⟩
        replace HB := aM (below_step (uL HB) hb)
        (try clear hb)
        (try clear hb2)
        (try clear hk)
        (try clear hi)
        refine hK.out _ _ ⟨(hyB HB hw152_0), (hyB HB hw152_1), (hyB HB hw152_2)⟩ (fun hHeld => ?_)
        clear hK K
        refine nX 28 ?_; refine pA HT_.out 7 29 8 255 ?_
        refine done_ (done_of HT_.out (by kernel_rfl)) ?_
        have p154 : 0 ≤ (x5_1 : Int) := of_decide_eq_true (by first | (with_reducible assumption) | assumption)
        have q154 : x5_1 < (l0.length : Int) := of_decide_eq_true (by first | (with_reducible assumption) | assumption)
        obtain ⟨ad154, e154, hx154_0, hx154_1, hx154_2⟩ := at_T45 HR0.out x5_1 p154 q154
        obtain rfl : ad150 = ad154 := (by injection e154)
        replace hx154_0 := hxB HB hx154_0; replace hx154_1 := hxB HB hx154_1; replace hx154_2 := hxB HB hx154_2; replace p154 := eq_true p154; replace q154 := eq_true q154
        try go_wp2
        go_roundg k1
        case measure => have := HK1.out; omega
        case rel => exact ⟨(wrap64 ((wrap64 ((wrap64 (x1_1 + 1)) + 1)) + 1)), (wrap64 (x5_1 + 1)), (by first | rfl | (simp; done) | (simp [*]; done)), (by first | rfl | (simp; done) | (simp [*]; done)), H', ⟨by have := HK1.out; omega⟩, ⟨uL HB⟩⟩
       ·rw [if_neg c9] at H
        have c9b0 : (((rd_T45 l0 x5_1).f2) == (wrap64 ((wrap64 (x1_1 + 1)) + 1))) = false := beq_eq_false_iff_ne.mpr c9
        have c9b1 : (((rd_T45 l0 x5_1).f2) != (wrap64 ((wrap64 (x1_1 + 1)) + 1))) = true := bne_iff_ne.mpr c9
        obtain rfl := Option.some.inj H
        try go_wp2
        replace HB := aM (below_drew1 HB.out)
        have p150 : 0 ≤ (x5_1 : Int) := of_decide_eq_true (by first | (with_reducible assumption) | assumption)
        have q150 : x5_1 < (l0.length : Int) := of_decide_eq_true (by first | (with_reducible assumption) | assumption)
        obtain ⟨ad150, e150, hx150_0, hx150_1, hx150_2⟩ := at_T45 HR0.out x5_1 p150 q150
        have hw150_2 := hx150_2; have hw150_1 := hx150_1; have hw150_0 := hx150_0
        cases e150
        replace hx150_0 := hxB HB hx150_0; replace hx150_1 := hxB HB hx150_1; replace hx150_2 := hxB HB hx150_2; replace p150 := eq_true p150; replace q150 := eq_true q150
        refine start_ (n := 8) (S := fun w' => w'.cell? (ad150.add ((x5_1).toNat * 3)) = some (.string ((rd_T45 l0 x5_1).f0)) ∧ w'.cell? ⟨(ad150.add ((x5_1).toNat * 3)).block, (ad150.add ((x5_1).toNat * 3)).off + 1, none⟩ = some (.string ((rd_T45 l0 x5_1).f1)) ∧ w'.cell? ⟨(ad150.add ((x5_1).toNat * 3)).block, (ad150.add ((x5_1).toNat * 3)).off + 2, none⟩ = some (.int .i64 ((rd_T45 l0 x5_1).f2))) (ds := []) (bB 8 0) (by kernel_rfl) rfl rfl ⟨(hyB HB hw150_0), (hyB HB hw150_1), (hyB HB hw150_2)⟩ (fun hHeld => ?_); refine with_tabW laws_heldFileS.tab4 laws_heldFileS.bits4 (fun HT_ HW_ => ?_)
        generalize wr.drew = w14 at HB hx150_0 hx150_1 hx150_2 hHeld ⊢
        refine pA HT_.out 0 12 8 1 ?_; refine pA HT_.out 1 13 8 3 ?_; refine pA HT_.out 2 14 8 7 ?_; refine pA HT_.out 3 15 8 15 ?_; refine pA HT_.out 5 17 8 47 ?_; refine tA HT_.out HW_.out 4 16 8 63 hHeld ?_
        refine oA HT_.out 6 (some 18) 8 127 (fun K hK => ?_)
        refine gX Try.func89 #[.int .i64 x1_1] ?_
        with_reducible refine (laws_markText.calls k1 x1_1 t151 _ A5.out).mono ?_
        rintro e w15 ⟨rfl, hb⟩
        refine ⟨_, rfl, ?_⟩
        replace HB := aM (below_step (uL HB) hb)
        (try clear hb)
        (try clear hb2)
        (try clear hk)
        (try clear hi)
        refine hK.out _ _ ⟨(hyB HB hw150_0), (hyB HB hw150_1), (hyB HB hw150_2)⟩ (fun hHeld => ?_)
        clear hK K
        refine nX 18 ?_; refine pA HT_.out 7 19 8 255 ?_
        refine done_ (done_of HT_.out (by kernel_rfl)) ?_
        try go_wp2
        replace HB := aM (below_drew1 HB.out)
        have p152 : 0 ≤ (x5_1 : Int) := of_decide_eq_true (by first | (with_reducible assumption) | assumption)
        have q152 : x5_1 < (l0.length : Int) := of_decide_eq_true (by first | (with_reducible assumption) | assumption)
        obtain ⟨ad152, e152, hx152_0, hx152_1, hx152_2⟩ := at_T45 HR0.out x5_1 p152 q152
        have hw152_2 := hx152_2; have hw152_1 := hx152_1; have hw152_0 := hx152_0
        obtain rfl : ad150 = ad152 := (by injection e152)
        replace hx152_0 := hxB HB hx152_0; replace hx152_1 := hxB HB hx152_1; replace hx152_2 := hxB HB hx152_2; replace p152 := eq_true p152; replace q152 := eq_true q152
        refine start_ (n := 8) (S := fun w' => w'.cell? (ad150.add ((x5_1).toNat * 3)) = some (.string ((rd_T45 l0 x5_1).f0)) ∧ w'.cell? ⟨(ad150.add ((x5_1).toNat * 3)).block, (ad150.add ((x5_1).toNat * 3)).off + 1, none⟩ = some (.string ((rd_T45 l0 x5_1).f1)) ∧ w'.cell? ⟨(ad150.add ((x5_1).toNat * 3)).block, (ad150.add ((x5_1).toNat * 3)).off + 2, none⟩ = some (.int .i64 ((rd_T45 l0 x5_1).f2))) (ds := []) (bB 8 0) (by kernel_rfl) rfl rfl ⟨(hyB HB hw152_0), (hyB HB hw152_1), (hyB HB hw152_2)⟩ (fun hHeld => ?_); refine with_tabW laws_heldFileS.tab7 laws_heldFileS.bits7 (fun HT_ HW_ => ?_)
        generalize w15.drew = w16 at HB hx152_0 hx152_1 hx152_2 hHeld ⊢
        refine pA HT_.out 0 22 8 1 ?_; refine pA HT_.out 1 23 8 3 ?_; refine pA HT_.out 2 24 8 7 ?_; refine pA HT_.out 3 25 8 15 ?_; refine pA HT_.out 5 27 8 47 ?_; refine tA HT_.out HW_.out 4 26 8 63 hHeld ?_
        refine oA HT_.out 6 (some 28) 8 127 (fun K hK => ?_)
        refine gX Try.func89 #[.int .i64 (wrap64 (x1_1 + 1))] ?_
        with_reducible refine (laws_markText.calls k1 (wrap64 (x1_1 + 1)) t153 _ A7.out).mono ?_
        rintro e w17 ⟨rfl, hb⟩
        refine ⟨_, rfl, ?_⟩
        replace HB := aM (below_step (uL HB) hb)
        (try clear hb)
        (try clear hb2)
        (try clear hk)
        (try clear hi)
        refine hK.out _ _ ⟨(hyB HB hw152_0), (hyB HB hw152_1), (hyB HB hw152_2)⟩ (fun hHeld => ?_)
        clear hK K
        refine nX 28 ?_; refine pA HT_.out 7 29 8 255 ?_
        refine done_ (done_of HT_.out (by kernel_rfl)) ?_
        have p154 : 0 ≤ (x5_1 : Int) := of_decide_eq_true (by first | (with_reducible assumption) | assumption)
        have q154 : x5_1 < (l0.length : Int) := of_decide_eq_true (by first | (with_reducible assumption) | assumption)
        obtain ⟨ad154, e154, hx154_0, hx154_1, hx154_2⟩ := at_T45 HR0.out x5_1 p154 q154
        obtain rfl : ad150 = ad154 := (by injection e154)
        replace hx154_0 := hxB HB hx154_0; replace hx154_1 := hxB HB hx154_1; replace hx154_2 := hxB HB hx154_2; replace p154 := eq_true p154; replace q154 := eq_true q154
        try go_wp2
        go_ret
        exact rX HB
      ·rw [if_neg c8] at H
       have c8b0 : (((rd_T45 l0 x5_1).f1).toList == t153.toList) = false := beq_eq_false_iff_ne.mpr c8
       have c8b1 : (((rd_T45 l0 x5_1).f1).toList != t153.toList) = true := bne_iff_ne.mpr c8
       obtain rfl := Option.some.inj H
       try go_wp2
       replace HB := aM (below_drew1 HB.out)
       have p150 : 0 ≤ (x5_1 : Int) := of_decide_eq_true (by first | (with_reducible assumption) | assumption)
       have q150 : x5_1 < (l0.length : Int) := of_decide_eq_true (by first | (with_reducible assumption) | assumption)
       obtain ⟨ad150, e150, hx150_0, hx150_1, hx150_2⟩ := at_T45 HR0.out x5_1 p150 q150
       have hw150_2 := hx150_2; have hw150_1 := hx150_1; have hw150_0 := hx150_0
       cases e150
       replace hx150_0 := hxB HB hx150_0; replace hx150_1 := hxB HB hx150_1; replace hx150_2 := hxB HB hx150_2; replace p150 := eq_true p150; replace q150 := eq_true q150
       refine start_ (n := 8) (S := fun w' => w'.cell? (ad150.add ((x5_1).toNat * 3)) = some (.string ((rd_T45 l0 x5_1).f0)) ∧ w'.cell? ⟨(ad150.add ((x5_1).toNat * 3)).block, (ad150.add ((x5_1).toNat * 3)).off + 1, none⟩ = some (.string ((rd_T45 l0 x5_1).f1)) ∧ w'.cell? ⟨(ad150.add ((x5_1).toNat * 3)).block, (ad150.add ((x5_1).toNat * 3)).off + 2, none⟩ = some (.int .i64 ((rd_T45 l0 x5_1).f2))) (ds := []) (bB 8 0) (by kernel_rfl) rfl rfl ⟨(hyB HB hw150_0), (hyB HB hw150_1), (hyB HB hw150_2)⟩ (fun hHeld => ?_); refine with_tabW laws_heldFileS.tab4 laws_heldFileS.bits4 (fun HT_ HW_ => ?_)
       generalize wr.drew = w18 at HB hx150_0 hx150_1 hx150_2 hHeld ⊢
       refine pA HT_.out 0 12 8 1 ?_; refine pA HT_.out 1 13 8 3 ?_; refine pA HT_.out 2 14 8 7 ?_; refine pA HT_.out 3 15 8 15 ?_; refine pA HT_.out 5 17 8 47 ?_; refine tA HT_.out HW_.out 4 16 8 63 hHeld ?_
       refine oA HT_.out 6 (some 18) 8 127 (fun K hK => ?_)
       refine gX Try.func89 #[.int .i64 x1_1] ?_
       with_reducible refine (laws_markText.calls k1 x1_1 t151 _ A5.out).mono ?_
       rintro e w19 ⟨rfl, hb⟩
       refine ⟨_, rfl, ?_⟩
       replace HB := aM (below_step (uL HB) hb)
       (try clear hb)
       (try clear hb2)
       (try clear hk)
       (try clear hi)
       refine hK.out _ _ ⟨(hyB HB hw150_0), (hyB HB hw150_1), (hyB HB hw150_2)⟩ (fun hHeld => ?_)
       clear hK K
       refine nX 18 ?_; refine pA HT_.out 7 19 8 255 ?_
       refine done_ (done_of HT_.out (by kernel_rfl)) ?_
       try go_wp2
       replace HB := aM (below_drew1 HB.out)
       have p152 : 0 ≤ (x5_1 : Int) := of_decide_eq_true (by first | (with_reducible assumption) | assumption)
       have q152 : x5_1 < (l0.length : Int) := of_decide_eq_true (by first | (with_reducible assumption) | assumption)
       obtain ⟨ad152, e152, hx152_0, hx152_1, hx152_2⟩ := at_T45 HR0.out x5_1 p152 q152
       have hw152_2 := hx152_2; have hw152_1 := hx152_1; have hw152_0 := hx152_0
       obtain rfl : ad150 = ad152 := (by injection e152)
       replace hx152_0 := hxB HB hx152_0; replace hx152_1 := hxB HB hx152_1; replace hx152_2 := hxB HB hx152_2; replace p152 := eq_true p152; replace q152 := eq_true q152
       refine start_ (n := 8) (S := fun w' => w'.cell? (ad150.add ((x5_1).toNat * 3)) = some (.string ((rd_T45 l0 x5_1).f0)) ∧ w'.cell? ⟨(ad150.add ((x5_1).toNat * 3)).block, (ad150.add ((x5_1).toNat * 3)).off + 1, none⟩ = some (.string ((rd_T45 l0 x5_1).f1)) ∧ w'.cell? ⟨(ad150.add ((x5_1).toNat * 3)).block, (ad150.add ((x5_1).toNat * 3)).off + 2, none⟩ = some (.int .i64 ((rd_T45 l0 x5_1).f2))) (ds := []) (bB 8 0) (by kernel_rfl) rfl rfl ⟨(hyB HB hw152_0), (hyB HB hw152_1), (hyB HB hw152_2)⟩ (fun hHeld => ?_); refine with_tabW laws_heldFileS.tab7 laws_heldFileS.bits7 (fun HT_ HW_ => ?_)
       generalize w19.drew = w20 at HB hx152_0 hx152_1 hx152_2 hHeld ⊢
       refine pA HT_.out 0 22 8 1 ?_; refine pA HT_.out 1 23 8 3 ?_; refine pA HT_.out 2 24 8 7 ?_; refine pA HT_.out 3 25 8 15 ?_; refine pA HT_.out 5 27 8 47 ?_; refine tA HT_.out HW_.out 4 26 8 63 hHeld ?_
       refine oA HT_.out 6 (some 28) 8 127 (fun K hK => ?_)
       refine gX Try.func89 #[.int .i64 (wrap64 (x1_1 + 1))] ?_
       with_reducible refine (laws_markText.calls k1 (wrap64 (x1_1 + 1)) t153 _ A7.out).mono ?_
       rintro e w21 ⟨rfl, hb⟩
       refine ⟨_, rfl, ?_⟩
       replace HB := aM (below_step (uL HB) hb)
       (try clear hb)
       (try clear hb2)
       (try clear hk)
       (try clear hi)
       refine hK.out _ _ ⟨(hyB HB hw152_0), (hyB HB hw152_1), (hyB HB hw152_2)⟩ (fun hHeld => ?_)
       clear hK K
       refine nX 28 ?_; refine pA HT_.out 7 29 8 255 ?_
       refine done_ (done_of HT_.out (by kernel_rfl)) ?_
       try go_wp2
       go_ret
       exact rX HB
     ·rw [if_neg c6] at H
      have c6b0 : (((rd_T45 l0 x5_1).f0).toList == t151.toList) = false := beq_eq_false_iff_ne.mpr c6
      have c6b1 : (((rd_T45 l0 x5_1).f0).toList != t151.toList) = true := bne_iff_ne.mpr c6
      obtain rfl := Option.some.inj H
      try go_wp2
      replace HB := aM (below_drew1 HB.out)
      have p150 : 0 ≤ (x5_1 : Int) := of_decide_eq_true (by first | (with_reducible assumption) | assumption)
      have q150 : x5_1 < (l0.length : Int) := of_decide_eq_true (by first | (with_reducible assumption) | assumption)
      obtain ⟨ad150, e150, hx150_0, hx150_1, hx150_2⟩ := at_T45 HR0.out x5_1 p150 q150
      have hw150_2 := hx150_2; have hw150_1 := hx150_1; have hw150_0 := hx150_0
      cases e150
      replace hx150_0 := hxB HB hx150_0; replace hx150_1 := hxB HB hx150_1; replace hx150_2 := hxB HB hx150_2; replace p150 := eq_true p150; replace q150 := eq_true q150
      refine start_ (n := 8) (S := fun w' => w'.cell? (ad150.add ((x5_1).toNat * 3)) = some (.string ((rd_T45 l0 x5_1).f0)) ∧ w'.cell? ⟨(ad150.add ((x5_1).toNat * 3)).block, (ad150.add ((x5_1).toNat * 3)).off + 1, none⟩ = some (.string ((rd_T45 l0 x5_1).f1)) ∧ w'.cell? ⟨(ad150.add ((x5_1).toNat * 3)).block, (ad150.add ((x5_1).toNat * 3)).off + 2, none⟩ = some (.int .i64 ((rd_T45 l0 x5_1).f2))) (ds := []) (bB 8 0) (by kernel_rfl) rfl rfl ⟨(hyB HB hw150_0), (hyB HB hw150_1), (hyB HB hw150_2)⟩ (fun hHeld => ?_); refine with_tabW laws_heldFileS.tab4 laws_heldFileS.bits4 (fun HT_ HW_ => ?_)
      generalize wr.drew = w22 at HB hx150_0 hx150_1 hx150_2 hHeld ⊢
      refine pA HT_.out 0 12 8 1 ?_; refine pA HT_.out 1 13 8 3 ?_; refine pA HT_.out 2 14 8 7 ?_; refine pA HT_.out 3 15 8 15 ?_; refine pA HT_.out 5 17 8 47 ?_; refine tA HT_.out HW_.out 4 16 8 63 hHeld ?_
      refine oA HT_.out 6 (some 18) 8 127 (fun K hK => ?_)
      refine gX Try.func89 #[.int .i64 x1_1] ?_
      with_reducible refine (laws_markText.calls k1 x1_1 t151 _ A5.out).mono ?_
      rintro e w23 ⟨rfl, hb⟩
      refine ⟨_, rfl, ?_⟩
      replace HB := aM (below_step (uL HB) hb)
      (try clear hb)
      (try clear hb2)
      (try clear hk)
      (try clear hi)
      refine hK.out _ _ ⟨(hyB HB hw150_0), (hyB HB hw150_1), (hyB HB hw150_2)⟩ (fun hHeld => ?_)
      clear hK K
      refine nX 18 ?_; refine pA HT_.out 7 19 8 255 ?_
      refine done_ (done_of HT_.out (by kernel_rfl)) ?_
      try go_wp2
      go_ret
      exact rX HB
    ·rw [if_neg c4] at H
     exact absurd H (by simp)
   ·rw [if_neg c3] at H
    have c3b0 : decide (x5_1 < (l0.length : Int)) = false := decide_eq_false c3
    clear c3
    obtain rfl := Option.some.inj H
    go_wp2
    go_ret
    exact rX HB

/-! ### laws_heldDisk: function 36 -/
def laws_heldDisk.f (k : Nat) (l0_0 : List (S45)) (a1 : Int) : Option (Int) := (laws_heldFileS.f k l0_0 a1).bind fun t156 => (if t156 < 0 then (some (-1)) else (some t156))
theorem laws_heldDisk.mono : ∀ a0 a1 k, LeO (laws_heldDisk.f k a0 a1) (laws_heldDisk.f (k + 1) a0 a1) := by
 intro a0 a1 k
 unfold laws_heldDisk.f
 repeat' first
  | (with_reducible exact laws_heldFileS.mono _ _ _)
  | (with_reducible exact LeO.refl _)
  | (with_reducible exact LeO.none _)
  | (with_reducible refine LeO.ite ?_ ?_)
  | (with_reducible refine LeO.bind ?_ (fun _ => ?_))
  | exact laws_heldFileS.mono _ _ _
  | exact LeO.none _
  | refine LeO.ite ?_ ?_
  | refine LeO.bind ?_ (fun _ => ?_)
set_option maxHeartbeats 8000000 in
set_option maxRecDepth 100000 in
theorem laws_heldDisk.calls (k : Nat) (A0_0 : Option Addr) (c0_0 : Nat) (l0_0 : List (S45)) (a1 : Int) (r : Int) (w : World) (hr0_0 : Kd.C k45 w A0_0 l0_0.length l0_0) (hc0_0 : l0_0.length ≤ c0_0) (h : laws_heldDisk.f k l0_0 a1 = some r) :
 Calls Try.prog 36 #[.agg #[.slice A0_0 l0_0.length c0_0], .int .i64 a1] w fun e w' => e = .returned (.int .i64 r) ∧ Below w.heap.size w w' := by
 have hu30 := Try.underlying30
 have HR0_0 := aM hr0_0
 have HC0_0 := aM hc0_0
 clear hr0_0 hc0_0
 have HB := aM (Below.refl w.heap.size w)
 have H : ((laws_heldFileS.f k l0_0 a1).bind fun t156 => (if t156 < 0 then (some (-1)) else (some t156))) = some r := h
 clear h
 replace H := Option.bind_eq_some_iff.mp H
 obtain ⟨t156, A30, H⟩ := H
 replace H : (if t156 < 0 then (some (-1)) else (some t156)) = some r := H
 have A3 := aM A30
 clear A30
 refine Classical.byCases (p := t156 < 0) (fun c4 => ?L1p) (fun c4 => ?L1n)
 case' L1p =>
  rw [if_pos c4] at H
  have c4b0 : decide (t156 < 0) = true := decide_eq_true c4
  clear c4
  obtain rfl := Option.some.inj H
 case' L1n =>
  rw [if_neg c4] at H
  have c4b0 : decide (t156 < 0) = false := decide_eq_false c4
  clear c4
  obtain rfl := Option.some.inj H
 case L1p | L1n =>
  go_enter Try.func36, Try.ntmps36
  go_wp2_with (first | ((with_reducible refine gate_dst (N := 2) rfl ?_); refine bxE 2 #[.slice A0_0 l0_0.length c0_0] 30 ?_; intro gb155 hg w5 hbox hb; have BK155 := aM (hbox); have GW155 := szG hg (uL HB); have GE155 := szG hg (uL HB); replace HB := aM (below_step (uL HB) hb); clear hb hbox hg; have hcz6_0 := czA BK155.out 0 (.slice A0_0 l0_0.length c0_0); have hfz6_0 := blk_frozen BK155.out 0) | ((with_reducible refine gate_callee (f := 85) rfl ?_); refine gL (some 8) Try.func85 #[.slice A0_0 l0_0.length c0_0, .int .i64 a1] ?_; (with_reducible refine (laws_heldFileS.calls k _ _ l0_0 a1 t156 _ ?side1 ?side2 A3.out).mono ?_); (case side1 => exact uC HR0_0 HB); (case side2 => exact HC0_0.out); rintro e w7 ⟨rfl, hb⟩; refine ⟨_, rfl, ?_⟩; replace BK155 := blkB BK155 hb; replace HB := aM (below_step (uL HB) hb); try clear hb))
  go_ret
  exact rX HB

end Go.Proofs.Ytidfhfaekdahpaa.QFnExactCutActs
