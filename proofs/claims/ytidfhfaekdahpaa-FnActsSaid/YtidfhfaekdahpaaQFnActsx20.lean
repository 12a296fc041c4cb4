-- Own work (wip/turnprint.py over the kit's print).
import Derived.Test.YtidfhfaekdahpaaQFnActsx0
import Derived.Test.YtidfhfaekdahpaaQFnActsx2
import Derived.Test.YtidfhfaekdahpaaQFnActsx6
import Derived.Test.YtidfhfaekdahpaaQFnActsx12
import Derived.Test.YtidfhfaekdahpaaQFnActsx13
import Derived.Test.YtidfhfaekdahpaaQFnActsx16
import Derived.Test.YtidfhfaekdahpaaQFnActsx17
import Derived.Test.YtidfhfaekdahpaaQFnActsx19
namespace Go.Proofs.Ytidfhfaekdahpaa.QFnActs
open Go.RowKit Go.Proofs.YtidfhfaekdahpaaW.PrintWords Go.Proofs.YtidfhfaekdahpaaW.PrintLast Go.Proofs.YtidfhfaekdahpaaW.PrintMore
attribute [local go_sem] max2_int min2_int max_two min_two max_three min_three max_four min_four   -- for this text's walks alone
set_option linter.unusedVariables false
set_option linter.unusedSimpArgs false

structure laws_FnActs.Facts (k : Nat) (l0 : List Int) (d : List S45) (q : List S55) (whole : Int) (left : List Int) (n : Nat) (D : Nat → List S45) (now : List S45) (X Y : Nat → ByteArray) (hx hy : Nat → Bool) (cut : List S45) (may : Bool) : Prop where
  big : l0.length ≤ 1048576
  h1 : spec_DrawCutActs.f k l0 = some (d, q, whole, left)
  h2 : impl_DoActs.f k d q = some (now, (n : Int))
  h3 : spec_DoActs.f k d q = some (now, (n : Int))
  h4 : laws_sameDisk.f k now now = some true
  hn : n ≤ q.length
  hq : q.length ≤ 1048576
  D0 : D 0 = d
  step : ∀ i, i < n → impl_DoAct.f k (D i) (rd_T55 q (i : Int)).f0 (rd_T55 q (i : Int)).f1 (rd_T55 q (i : Int)).f2 (rd_T55 q (i : Int)).f3 = some (D (i + 1), true)
  at1 : ∀ i, i < n → impl_FileAt.f k (D i) (rd_T55 q (i : Int)).f1 = some (X i, hx i)
  at2 : ∀ i, i < n → impl_FileAt.f k (D (i + 1)) (rd_T55 q (i : Int)).f1 = some (Y i, hy i)
  add : ∀ i, i < n → (rd_T55 q (i : Int)).f0 = 1 → hy i = true ∧ (X i).size + (rd_T55 q (i : Int)).f2.size ≤ 9223372036854775807 ∧ Y i = X i ++ (rd_T55 q (i : Int)).f2
  drop : ∀ i, i < n → (rd_T55 q (i : Int)).f0 = 4 → hy i = false
  h5 : impl_CutActs.f k d q whole left = some (cut, may)
  h6 : spec_CutActs.f k d q whole left = some (cut, may)
  h7 : laws_sameDisk.f k cut cut = some true
  h8 : n ≠ 0 → laws_sameDisk.f k (D n) now = some true
theorem laws_FnActs.at (k : Nat) (l0 : List Int) (t463 t474 t502 : List S45) (t466 : List S55) (t469 : Int) (t470 : List Int) (n : Nat) (D : Nat → List S45) (X Y : Nat → ByteArray) (hx hy : Nat → Bool) (t505 : Bool) (F : laws_FnActs.Facts k l0 t463 t466 t469 t470 n D t474 X Y hx hy t502 t505) (x12_2 : Int) (h0 : 0 ≤ x12_2) (h1 : x12_2 < (n : Int)) :
    ∃ (t493 t496 : ByteArray) (t494 t497 : Bool), impl_DoAct.f k (D x12_2.toNat) (rd_T55 t466 x12_2).f0 (rd_T55 t466 x12_2).f1 (rd_T55 t466 x12_2).f2 (rd_T55 t466 x12_2).f3 = some (D (x12_2 + 1).toNat, true) ∧ impl_FileAt.f k (D x12_2.toNat) (rd_T55 t466 x12_2).f1 = some (t493, t494) ∧ impl_FileAt.f k (D (x12_2 + 1).toNat) (rd_T55 t466 x12_2).f1 = some (t496, t497) ∧ ((rd_T55 t466 x12_2).f0 = 1 → t497 = true ∧ t493.size + (rd_T55 t466 x12_2).f2.size ≤ 9223372036854775807 ∧ t496 = t493 ++ (rd_T55 t466 x12_2).f2) ∧ ((rd_T55 t466 x12_2).f0 = 4 → t497 = false) := by
  obtain ⟨i, rfl⟩ := Int.eq_ofNat_of_zero_le h0
  have e : ((i : Int) + 1).toNat = i + 1 := by omega
  have hi : i < n := by omega
  rw [e]
  exact ⟨X i, Y i, hx i, hy i, F.step i hi, F.at1 i hi, F.at2 i hi, F.add i hi, F.drop i hi⟩
theorem laws_FnActs.kinds {c : Int} {x y z : ByteArray} {h : Bool} (fa : c = 1 → h = true ∧ x.size + z.size ≤ 9223372036854775807 ∧ y = x ++ z) (fd : c = 4 → h = false) :
    ((c == 1) = true ∧ (c != 1) = false ∧ (c == 4) = false ∧ (c != 4) = true ∧ h = true ∧ (x.size + z.size ≤ 9223372036854775807) = True ∧ decide (x.size + z.size ≤ 9223372036854775807) = true ∧ (9223372036854775807 < x.size + z.size) = False ∧ y = x ++ z ∧ ((x ++ z).toList == (x ++ z).toList) = true ∧ ((x ++ z).toList != (x ++ z).toList) = false) ∨
    ((c == 1) = false ∧ (c != 1) = true ∧ (c == 4) = true ∧ (c != 4) = false ∧ h = false) ∨ ((c == 1) = false ∧ (c != 1) = true ∧ (c == 4) = false ∧ (c != 4) = true) := by
  by_cases c1 : c = 1
  · obtain ⟨h1, h2, h3⟩ := fa c1
    exact .inl ⟨beq_iff_eq.mpr c1, bne_eq_false_iff_eq.mpr c1, beq_eq_false_iff_ne.mpr (by omega), bne_iff_ne.mpr (by omega), h1, eq_true h2, decide_eq_true h2, eq_false (Nat.not_lt.2 h2), h3, by simp, by simp⟩
  · by_cases c4 : c = 4
    · exact .inr (.inl ⟨beq_eq_false_iff_ne.mpr c1, bne_iff_ne.mpr c1, beq_iff_eq.mpr c4, bne_eq_false_iff_eq.mpr c4, fd c4⟩)
    · exact .inr (.inr ⟨beq_eq_false_iff_ne.mpr c1, bne_iff_ne.mpr c1, beq_eq_false_iff_ne.mpr c4, bne_iff_ne.mpr c4⟩)
def laws_FnActs.T12 : Bool × List (List Nat × List Nat) := (true, [([], []), ([], []), ([], []), ([1, 2], [1, 2]), ([3], [3]), ([0, 4], [0, 4]), ([5], [5]), ([6], [6]), ([6], [6]), ([], []), ([9, 7, 5, 0, 1, 2, 3, 4, 5, 6, 7, 9], [7, 9]), ([8, 10, 0, 1, 2, 3, 4, 5, 6, 7, 8, 9, 10], [8])])
def laws_FnActs.B12 : List Nat := [0, 0, 0, 6, 14, 31, 63, 127, 127, 0, 767, 2047]
theorem laws_FnActs.tab12 : rtab .any (opsOf Try.f10 12) = laws_FnActs.T12 := by kernel_rfl
theorem laws_FnActs.bits12 : waitsOk laws_FnActs.T12.2 laws_FnActs.B12 = true := by kernel_rfl
def laws_FnActs.T15 : Bool × List (List Nat × List Nat) := (true, [([], []), ([], []), ([], []), ([1, 2], [1, 2]), ([3], [3]), ([4], [4]), ([0, 5], [0, 5]), ([6], [6]), ([7], [7]), ([7], [7]), ([8, 6, 0, 1, 2, 3, 4, 5, 6, 7, 8], [8]), ([9, 10, 0, 1, 2, 3, 4, 5, 6, 7, 8, 9, 10], [9])])
def laws_FnActs.B15 : List Nat := [0, 0, 0, 6, 14, 30, 63, 127, 255, 255, 511, 2047]
theorem laws_FnActs.tab15 : rtab .any (opsOf Try.f10 15) = laws_FnActs.T15 := by kernel_rfl
theorem laws_FnActs.bits15 : waitsOk laws_FnActs.T15.2 laws_FnActs.B15 = true := by kernel_rfl
def laws_FnActs.T16 : Bool × List (List Nat × List Nat) := (true, [([], []), ([], []), ([], []), ([1, 2], [1, 2]), ([3], [3]), ([4], [4]), ([0, 5], [0, 5]), ([6], [6]), ([7], [7]), ([7], [7]), ([8, 6, 0, 1, 2, 3, 4, 5, 6, 7, 8], [8]), ([9, 10, 0, 1, 2, 3, 4, 5, 6, 7, 8, 9, 10], [9])])
def laws_FnActs.B16 : List Nat := [0, 0, 0, 6, 14, 30, 63, 127, 255, 255, 511, 2047]
theorem laws_FnActs.tab16 : rtab .any (opsOf Try.f10 16) = laws_FnActs.T16 := by kernel_rfl
theorem laws_FnActs.bits16 : waitsOk laws_FnActs.T16.2 laws_FnActs.B16 = true := by kernel_rfl
set_option maxHeartbeats 40000000 in
set_option maxRecDepth 100000 in
theorem laws_FnActs.go (k : Nat) (A0 : Option Addr) (c0 : Nat) (l0 : List Int) (t463 t474 t502 : List S45) (t466 : List S55) (t469 : Int) (t470 : List Int) (n : Nat) (D : Nat → List S45) (X Y : Nat → ByteArray) (hx hy : Nat → Bool) (t505 : Bool) (w : World) (hr0 : Kd.C (Kd.int .u8) w A0 l0.length l0) (hc0 : l0.length ≤ c0) (F : laws_FnActs.Facts k l0 t463 t466 t469 t470 n D t474 X Y hx hy t502 t505) :
 Calls Try.prog 10 #[.slice A0 l0.length c0] w fun e w' => e = .returned (.bool true) ∧ Below w.heap.size w w' := by
 have hu30 := Try.underlying30
 have hu55 := Try.underlying55
 have HR0 := aM hr0
 have HC0 := aM hc0
 have A2 := aM (show laws_big.f l0 = some false from congrArg some (decide_eq_false (by have := F.big; omega)))
 have A4 := aM F.h1
 have A5 := aM F.h2
 have A6 := aM F.h3
 have A26 := aM F.h4
 have HN := aM (And.intro F.hn F.hq)
 have F0 := aM F.D0
 have FAT := aM (laws_FnActs.at k l0 t463 t474 t502 t466 t469 t470 n D X Y hx hy t505 F)
 have A119 := aM F.h5
 have A120 := aM F.h6
 have A122 := aM F.h7
 have A150 := aM F.h8
 clear hr0 hc0 F
 have HB := aM (Below.refl w.heap.size w)
 go_enter Try.func10, Try.ntmps10
 go_upto_region 6 with (first | ((with_reducible refine gate_callee (f := 24) rfl ?_); refine gL (some 24) Try.func24 #[.slice A0 l0.length c0] ?_; (with_reducible refine (laws_big.calls _ _ l0 false _ ?side1 ?side2 A2.out).mono ?_); (case side1 => repeat (first | exact HR0.out | (with_reducible refine cA ?_ _) | (with_reducible refine cN ?_ _) | (with_reducible refine cD ?_))); (case side2 => exact HC0.out); rintro e w' ⟨rfl, ⟨nd, rfl⟩⟩; refine ⟨_, rfl, ?_⟩) | ((with_reducible refine gate_callee (f := 47) rfl ?_); refine gL (some 27) Try.func47 #[.slice A0 l0.length c0] ?_; (with_reducible refine (spec_DrawCutActs.calls k _ _ l0 t463 t466 t469 t470 _ ?side1 ?side2 A4.out).mono ?_); (case side1 => repeat (first | exact HR0.out | (with_reducible refine cA ?_ _) | (with_reducible refine cN ?_ _) | (with_reducible refine cD ?_))); (case side2 => exact HC0.out); rintro e w8 ⟨v464, v467, v471, rfl, ho0, ho1, ho2, hb⟩; refine ⟨_, rfl, ?_⟩; have HO465 := aM (Kd.R_lower ho0 (below_size (uL HB))); have HO468 := aM (Kd.R_lower ho1 (below_size (uL HB))); have HO472 := aM (Kd.R_lower ho2 (below_size (uL HB))); replace HB := aM (below_step (uL HB) hb); try clear hb ho0 ho1 ho2) | ((with_reducible refine gate_dst (N := 3) rfl ?_); refine bxE 3 #[.slice none 0 0] 30 ?_; intro gb473 hg w9 hbox hb; have BK473 := aM (hbox); have GW473 := szG hg (uL HB); have GE473 := szG hg (uL HB); replace HO465 := rb_ HO465 hb; replace HO468 := rb_ HO468 hb; replace HO472 := rb_ HO472 hb; replace HB := aM (below_step (uL HB) hb); clear hb hbox hg; obtain ⟨Ao10, co10, eo10⟩ := Kd.R_slice HO465.out; subst eo10; have hcz11_0 := czA BK473.out 0 (.slice none 0 0); have hfz11_0 := blk_frozen BK473.out 0; obtain ⟨Ao12, co12, eo12⟩ := Kd.R_slice HO468.out; subst eo12) | ((with_reducible refine gate_callee (f := 44) rfl ?_); refine gL (some 35) Try.func44 #[.agg #[.slice Ao10 t463.length co10], .slice Ao12 t466.length co12] ?_; (with_reducible refine (impl_DoActs.calls k _ _ t463 _ _ t466 t474 (n : Int) _ ?side1 ?side2 ?side3 ?side4 A5.out).mono ?_); (case side1 => refine (Kd.R_reads' (e := 45) (base := w.heap.size) (ok := fun k_ => True) (n := t463.length) (c := co10) ?_).2.2; exact (by (with_reducible repeat first | apply rA | apply rN | apply rD); exact (rs_ HO465 BK473 _ (fun _ h_ => h_.1)))); (case side2 => exact (Kd.R_reads' HO465.out).2.1); (case side3 => refine (Kd.R_reads' (e := 55) (base := w.heap.size) (ok := fun k_ => True) (n := t466.length) (c := co12) ?_).2.2; exact (by (with_reducible repeat first | apply rA | apply rN | apply rD); exact (rs_ HO468 BK473 _ (fun _ h_ => h_.1)))); (case side4 => exact (Kd.R_reads' HO468.out).2.1); rintro e w13 ⟨v475, rfl, ho0, hb⟩; refine ⟨_, rfl, ?_⟩; have HO476 := aM (Kd.R_lower (Kd.R_new' ho0 (Kd.R_lt (by (with_reducible repeat first | apply rA | apply rN | apply rD); exact (rs_ HO465 BK473 _ (fun _ h_ => h_.1))))) (below_size (uL HB))); replace HO465 := aM (Kd.R_elder' (by (with_reducible repeat first | apply rA | apply rN | apply rD); exact (rs_ HO465 BK473 _ (fun _ h_ => h_.1))) (Kd.R_base ho0) hb); replace HO468 := aM (Kd.R_below (by (with_reducible repeat first | apply rA | apply rN | apply rD); exact (rs_ HO468 BK473 _ (fun _ h_ => h_.1))) hb); replace HO472 := aM (Kd.R_below (by (with_reducible repeat first | apply rA | apply rN | apply rD); exact (rs_ HO472 BK473 _ (fun _ h_ => h_.1))) hb); replace BK473 := aM (blk_below (g := gb473) (o := .cells #[.slice Ao10 t463.length co10] 30 (0, 0)) (by refine nB ?_; refine blk_put (cs := #[.slice none 0 0]) ?_ 0 _ rfl; exact nB BK473.out) hb); replace HB := aM (below_step (uL HB) hb); try clear hb ho0) | ((with_reducible refine gate_dst (N := 7) rfl ?_); refine bxE 7 #[.slice none 0 0] 30 ?_; intro gb478 hg w14 hbox hb; have BK478 := aM (hbox); have GW478 := szG hg (uL HB); have GE478 := szG hg (uL HB); have NB473_478 := neL hg BK473; have NB478_473 := neG hg BK473; replace HO465 := rb_ HO465 hb; replace HO468 := rb_ HO468 hb; replace HO472 := rb_ HO472 hb; replace HO476 := rb_ HO476 hb; replace BK473 := blkB BK473 hb; replace HB := aM (below_step (uL HB) hb); clear hb hbox hg; obtain ⟨Ao15, co15, eo15⟩ := Kd.R_slice HO476.out; subst eo15; have hnb16 := NB478_473.out; have hnc16 := NB473_478.out; have hcz17_0 := czA BK478.out 0 (.slice none 0 0); have hfz17_0 := blk_frozen BK478.out 0; have hcz18_0 := czA BK473.out 0 (.slice Ao10 t463.length co10); have hfz18_0 := blk_frozen BK473.out 0) | ((with_reducible refine gate_callee (f := 42) rfl ?_); refine gL (some 41) Try.func42 #[.agg #[.slice Ao10 t463.length co10], .slice Ao12 t466.length co12] ?_; (with_reducible refine (spec_DoActs.calls k _ _ t463 _ _ t466 t474 (n : Int) _ ?side1 ?side2 ?side3 ?side4 A6.out).mono ?_); (case side1 => refine (Kd.R_reads' (e := 45) (base := w.heap.size) (ok := fun k_ => (True ∧ some k_ ≠ (.slice Ao15 t474.length co15 : Value).ownBlock)) (n := t463.length) (c := co10) ?_).2.2; exact (by (with_reducible repeat first | apply rA | apply rN | apply rD); exact (rs_ HO465 BK478 _ (fun _ h_ => h_.1)))); (case side2 => exact (Kd.R_reads' HO465.out).2.1); (case side3 => refine (Kd.R_reads' (e := 55) (base := w.heap.size) (ok := fun k_ => True) (n := t466.length) (c := co12) ?_).2.2; exact (by (with_reducible repeat first | apply rA | apply rN | apply rD); exact (rs_ HO468 BK478 _ (fun _ h_ => h_.1)))); (case side4 => exact (Kd.R_reads' HO468.out).2.1); rintro e w19 ⟨v480, rfl, ho0, hb⟩; refine ⟨_, rfl, ?_⟩; have HO481 := aM (Kd.R_lower (Kd.R_new' (Kd.R_new' ho0 (Kd.R_lt (by (with_reducible repeat first | apply rA | apply rN | apply rD); exact (rs_ HO465 BK478 _ (fun _ h_ => h_.1))))) (Kd.R_lt (by (with_reducible repeat first | apply rA | apply rN | apply rD); exact (rs_ HO476 BK478 _ (fun _ h_ => h_.1))))) (below_size (uL HB))); replace HO465 := aM (Kd.R_elder' (by (with_reducible repeat first | apply rA | apply rN | apply rD); exact (rs_ HO465 BK478 _ (fun _ h_ => h_.1))) (Kd.R_base ho0) hb); replace HO468 := aM (Kd.R_below (by (with_reducible repeat first | apply rA | apply rN | apply rD); exact (rs_ HO468 BK478 _ (fun _ h_ => h_.1))) hb); replace HO472 := aM (Kd.R_below (by (with_reducible repeat first | apply rA | apply rN | apply rD); exact (rs_ HO472 BK478 _ (fun _ h_ => h_.1))) hb); replace HO476 := aM (Kd.R_elder' (by (with_reducible repeat first | apply rA | apply rN | apply rD); exact (rs_ HO476 BK478 _ (fun _ h_ => h_.1))) (Kd.R_base ho0) hb); replace BK473 := blkB BK473 hb; replace BK478 := aM (blk_below (g := gb478) (o := .cells #[.slice Ao15 t474.length co15] 30 (0, 0)) (by refine nB ?_; refine blk_put (cs := #[.slice none 0 0]) ?_ 0 _ rfl; exact nB BK478.out) hb); replace HB := aM (below_step (uL HB) hb); try clear hb ho0) | ((with_reducible refine gate_dst (N := 9) rfl ?_); refine bxE 9 #[.slice none 0 0] 30 ?_; intro gb483 hg w20 hbox hb; have BK483 := aM (hbox); have GW483 := szG hg (uL HB); have GE483 := szG hg (uL HB); have NB473_483 := neL hg BK473; have NB483_473 := neG hg BK473; have NB478_483 := neL hg BK478; have NB483_478 := neG hg BK478; replace HO465 := rb_ HO465 hb; replace HO468 := rb_ HO468 hb; replace HO472 := rb_ HO472 hb; replace HO476 := rb_ HO476 hb; replace HO481 := rb_ HO481 hb; replace BK473 := blkB BK473 hb; replace BK478 := blkB BK478 hb; replace HB := aM (below_step (uL HB) hb); clear hb hbox hg; obtain ⟨Ao21, co21, eo21⟩ := Kd.R_slice HO481.out; subst eo21; have hnb22 := NB483_473.out; have hnc22 := NB473_483.out; have hnb23 := NB483_478.out; have hnc23 := NB478_483.out; have hcz24_0 := czA BK483.out 0 (.slice none 0 0); have hfz24_0 := blk_frozen BK483.out 0))
 (try simp only [Act.put, List.setIfInBounds_toArray, List.set_cons_zero, List.set_cons_succ])
 go_cut [52] (fun v52 wc => v52 = .bool false ∧ Aside0 (Kd.R k55 55 wc w.heap.size (fun _ => True) (.slice Ao12 t466.length co12) t466) ∧ Aside0 (Kd.R (Kd.int .i64) 3 wc w.heap.size (fun _ => True) v471 t470) ∧ Aside0 (Kd.R k45 45 wc w.heap.size (fun k_ => some k_ ≠ ((.slice Ao15 t474.length co15) : Value).ownBlock ∧ some k_ ≠ ((.slice Ao21 t474.length co21) : Value).ownBlock) (.slice Ao10 t463.length co10) t463) ∧ Aside0 (Kd.R k45 45 wc w.heap.size (fun k_ => some k_ ≠ ((.slice Ao10 t463.length co10) : Value).ownBlock ∧ some k_ ≠ ((.slice Ao21 t474.length co21) : Value).ownBlock) (.slice Ao15 t474.length co15) t474) ∧ Aside0 (Kd.R k45 45 wc w.heap.size (fun k_ => some k_ ≠ ((.slice Ao10 t463.length co10) : Value).ownBlock ∧ some k_ ≠ ((.slice Ao15 t474.length co15) : Value).ownBlock) (.slice Ao21 t474.length co21) t474) ∧ Aside0 (wc.heap[gb473]? = some (.cells #[(.slice Ao10 t463.length co10)] 30 (0, 0))) ∧ Aside0 (wc.heap[gb478]? = some (.cells #[(.slice Ao15 t474.length co15)] 30 (0, 0))) ∧ Aside0 (wc.heap[gb483]? = some (.cells #[(.slice Ao21 t474.length co21)] 30 (0, 0))) ∧ Aside0 (Below w.heap.size w wc))
 case first =>
  have c25b0 : ((n : Int) == (n : Int)) = true := beq_self_eq_true _
  have c25b1 : ((n : Int) != (n : Int)) = false := by simp
  (first | rw [c25b0] | (simp only [i64_w, i32_w]; rw [c25b0]) | skip)
  have hnb27 := NB478_473.out; have hnc27 := NB473_478.out; have hnb28 := NB478_483.out; have hnc28 := NB483_478.out
  have hcz29_0 := czA BK478.out 0 (.slice Ao15 t474.length co15)
  have hfz29_0 := blk_frozen BK478.out 0; have hnb30 := NB483_473.out; have hnc30 := NB473_483.out
  have hcz31_0 := czA BK483.out 0 (.slice none 0 0)
  have hfz31_0 := blk_frozen BK483.out 0
  go_wp2_with (first | (go_at_call 29; (with_reducible refine (laws_sameDisk.calls k _ _ t474 _ _ t474 true _ ?side1 ?side2 ?side3 ?side4 A26.out).mono ?_); (case side1 => refine (Kd.R_reads' (e := 45) (base := w.heap.size) (ok := fun k_ => ((True ∧ some k_ ≠ (.slice Ao10 t463.length co10 : Value).ownBlock) ∧ some k_ ≠ (.slice Ao21 t474.length co21 : Value).ownBlock)) (n := t474.length) (c := co15) ?_).2.2; exact (by (with_reducible repeat first | apply rA | apply rN | apply rD); exact (rs_ HO476 BK483 _ (fun _ h_ => h_.1)))); (case side2 => exact (Kd.R_reads' HO476.out).2.1); (case side3 => refine (Kd.R_reads' (e := 45) (base := w.heap.size) (ok := fun k_ => ((True ∧ some k_ ≠ (.slice Ao10 t463.length co10 : Value).ownBlock) ∧ some k_ ≠ (.slice Ao15 t474.length co15 : Value).ownBlock)) (n := t474.length) (c := co21) ?_).2.2; exact (by (with_reducible repeat first | apply rA | apply rN | apply rD); exact (rs_ HO481 BK483 _ (fun _ h_ => h_.1)))); (case side4 => exact (Kd.R_reads' HO481.out).2.1); rintro e w32 ⟨rfl, hb⟩; replace HO465 := aM (Kd.R_below (by (with_reducible repeat first | apply rA | apply rN | apply rD); exact (rs_ HO465 BK483 _ (fun _ h_ => h_.1))) hb); replace HO468 := aM (Kd.R_below (by (with_reducible repeat first | apply rA | apply rN | apply rD); exact (rs_ HO468 BK483 _ (fun _ h_ => h_.1))) hb); replace HO472 := aM (Kd.R_below (by (with_reducible repeat first | apply rA | apply rN | apply rD); exact (rs_ HO472 BK483 _ (fun _ h_ => h_.1))) hb); replace HO476 := aM (Kd.R_below (by (with_reducible repeat first | apply rA | apply rN | apply rD); exact (rs_ HO476 BK483 _ (fun _ h_ => h_.1))) hb); replace HO481 := aM (Kd.R_below (by (with_reducible repeat first | apply rA | apply rN | apply rD); exact (rs_ HO481 BK483 _ (fun _ h_ => h_.1))) hb); replace BK473 := blkB BK473 hb; replace BK478 := blkB BK478 hb; replace BK483 := aM (blk_below (g := gb483) (o := .cells #[.slice Ao21 t474.length co21] 30 (0, 0)) (by refine nB ?_; refine blk_put (cs := #[.slice none 0 0]) ?_ 0 _ rfl; exact nB BK483.out) hb); replace HB := aM (below_step (uL HB) hb); try clear hb))
  go_meet
  case rel => exact ⟨(by first | rfl | (simp; done) | (simp [*]; done)), ⟨by (with_reducible repeat first | apply rA | apply rN | apply rD); exact HO468.out⟩, ⟨by (with_reducible repeat first | apply rA | apply rN | apply rD); exact HO472.out⟩, ⟨by (with_reducible repeat first | apply rA | apply rN | apply rD); exact Kd.R_mono HO465.out (fun _ hk => ⟨hk.1.2, hk.2⟩)⟩, ⟨by (with_reducible repeat first | apply rA | apply rN | apply rD); exact Kd.R_mono HO476.out (fun _ hk => ⟨hk.1.2, hk.2⟩)⟩, ⟨by (with_reducible repeat first | apply rA | apply rN | apply rD); exact Kd.R_mono HO481.out (fun _ hk => ⟨hk.1.2, hk.2⟩)⟩, ⟨by exact nB BK473.out⟩, ⟨by exact nB BK478.out⟩, ⟨by exact nB BK483.out⟩, ⟨uL HB⟩⟩
 case rest =>
  try clear c1; try clear c2; try clear p2; try clear c3; try clear c4; try clear c10; try clear c16; try clear c22; try clear c23; try clear c24; try clear c25; try clear c25b0; try clear c25b1; try clear c27; try clear c28; try clear c30; try clear hcz11_0; try clear hcz17_0; try clear hcz18_0; try clear hcz24_0; try clear hcz29_0; try clear hcz31_0; try clear hfz11_0; try clear hfz17_0; try clear hfz18_0; try clear hfz24_0; try clear hfz29_0; try clear hfz31_0
  obtain ⟨rfl, HO_4, HO_6, HO_474000, HO_479000, HO_484000, BK473, BK478, BK483, HB⟩ := hcut
  have hnb34 := NB473_478.out; have hnc34 := NB478_473.out; have hnb35 := NB473_483.out; have hnc35 := NB483_473.out
  have hcz36_0 := czA BK473.out 0 (.slice Ao10 t463.length co10)
  have hfz36_0 := blk_frozen BK473.out 0
  go_wp2_with (first | ((with_reducible refine gate_dst (N := 11) rfl ?_); refine bxE 11 #[.slice none 0 0] 30 ?_; intro gb485 hg w37 hbox hb; have BK485 := aM (hbox); have GW485 := szG hg (uL HB); have GE485 := szG hg (uL HB); have NB473_485 := neL hg BK473; have NB485_473 := neG hg BK473; have NB478_485 := neL hg BK478; have NB485_478 := neG hg BK478; have NB483_485 := neL hg BK483; have NB485_483 := neG hg BK483; replace HO_4 := rb_ HO_4 hb; replace HO_6 := rb_ HO_6 hb; replace HO_474000 := rb_ HO_474000 hb; replace HO_479000 := rb_ HO_479000 hb; replace HO_484000 := rb_ HO_484000 hb; replace BK473 := blkB BK473 hb; replace BK478 := blkB BK478 hb; replace BK483 := blkB BK483 hb; replace HB := aM (below_step (uL HB) hb); clear hb hbox hg; have hnb38 := NB485_473.out; have hnc38 := NB473_485.out; have hnb39 := NB485_478.out; have hnc39 := NB478_485.out; have hnb40 := NB485_483.out; have hnc40 := NB483_485.out; have hcz41_0 := czA BK485.out 0 (.slice none 0 0); have hfz41_0 := blk_frozen BK485.out 0))
  go_loopg [12] (n + 1) (fun kq v12 w' => ∃ (x12_2 : Int) (x486000_2 : List (S45)) (u486000 : Value), v12 = .int .i64 x12_2 ∧ Aside0 (0 ≤ x12_2 ∧ x12_2 ≤ (n : Int) ∧ kq + x12_2.toNat = n + 1) ∧ Aside0 (x486000_2 = D x12_2.toNat) ∧ Aside0 (Kd.R k55 55 w' w.heap.size (fun _ => True) (.slice Ao12 t466.length co12) t466) ∧ Aside0 (Kd.R (Kd.int .i64) 3 w' w.heap.size (fun _ => True) v471 t470) ∧ Aside0 (Kd.R k45 45 w' w.heap.size (fun k_ => some k_ ≠ ((.slice Ao15 t474.length co15) : Value).ownBlock ∧ some k_ ≠ ((.slice Ao21 t474.length co21) : Value).ownBlock) (.slice Ao10 t463.length co10) t463) ∧ Aside0 (Kd.R k45 45 w' w.heap.size (fun k_ => some k_ ≠ ((.slice Ao10 t463.length co10) : Value).ownBlock ∧ some k_ ≠ ((.slice Ao21 t474.length co21) : Value).ownBlock ∧ some k_ ≠ (u486000 : Value).ownBlock) (.slice Ao15 t474.length co15) t474) ∧ Aside0 (Kd.R k45 45 w' w.heap.size (fun k_ => some k_ ≠ ((.slice Ao10 t463.length co10) : Value).ownBlock ∧ some k_ ≠ ((.slice Ao15 t474.length co15) : Value).ownBlock ∧ some k_ ≠ (u486000 : Value).ownBlock) (.slice Ao21 t474.length co21) t474) ∧ Aside0 (Kd.R k45 45 w' w.heap.size (fun k_ => some k_ ≠ ((.slice Ao15 t474.length co15) : Value).ownBlock ∧ some k_ ≠ ((.slice Ao21 t474.length co21) : Value).ownBlock) u486000 x486000_2) ∧ Aside0 (w'.heap[gb473]? = some (.cells #[(.slice Ao10 t463.length co10)] 30 (0, 0))) ∧ Aside0 (w'.heap[gb478]? = some (.cells #[(.slice Ao15 t474.length co15)] 30 (0, 0))) ∧ Aside0 (w'.heap[gb483]? = some (.cells #[(.slice Ao21 t474.length co21)] 30 (0, 0))) ∧ Aside0 (w'.heap[gb485]? = some (.cells #[u486000] 30 (0, 0))) ∧ Aside0 (Below w.heap.size w w'))
  case atStart => exact ⟨(0), (t463), (.slice Ao10 t463.length co10), (by first | rfl | (simp; done) | (simp [*]; done)), ⟨by omega, by omega, by show n + 1 + 0 = n + 1; rfl⟩, ⟨F0.out.symm⟩, ⟨by (with_reducible repeat first | apply rA | apply rN | apply rD); exact rs_ HO_4 BK485 _ (fun _ hk => trivial)⟩, ⟨by (with_reducible repeat first | apply rA | apply rN | apply rD); exact rs_ HO_6 BK485 _ (fun _ hk => trivial)⟩, ⟨by (with_reducible repeat first | apply rA | apply rN | apply rD); exact rs_ HO_474000 BK485 _ (fun _ hk => ⟨hk.1.1, hk.1.2⟩)⟩, ⟨by (with_reducible repeat first | apply rA | apply rN | apply rD); exact rs_ HO_479000 BK485 _ (fun _ hk => ⟨hk.1.1, ⟨hk.1.2, hk.1.1⟩⟩)⟩, ⟨by (with_reducible repeat first | apply rA | apply rN | apply rD); exact rs_ HO_484000 BK485 _ (fun _ hk => ⟨hk.1.1, ⟨hk.1.2, hk.1.1⟩⟩)⟩, ⟨by (with_reducible repeat first | apply rA | apply rN | apply rD); exact rs_ HO_474000 BK485 _ (fun _ hk => ⟨hk.1.1, hk.1.2⟩)⟩, ⟨by refine nB ?_; refine blk_far ?_ NB473_485.out _; exact nB BK473.out⟩, ⟨by refine nB ?_; refine blk_far ?_ NB478_485.out _; exact nB BK478.out⟩, ⟨by refine nB ?_; refine blk_far ?_ NB483_485.out _; exact nB BK483.out⟩, ⟨by refine nB ?_; refine blk_put (cs := #[.slice none 0 0]) ?_ 0 _ rfl; exact nB BK485.out⟩, ⟨uL HB⟩⟩
  case round =>
   try clear c1; try clear c2; try clear p2; try clear c3; try clear c4; try clear c10; try clear c16; try clear c22; try clear c23; try clear c24; try clear c25; try clear c25b0; try clear c25b1; try clear c27; try clear c28; try clear c30; try clear c33; try clear c34; try clear c35; try clear c38; try clear c39; try clear c40; try clear hcz11_0; try clear hcz17_0; try clear hcz18_0; try clear hcz24_0; try clear hcz29_0; try clear hcz31_0; try clear hcz36_0; try clear hcz41_0; try clear hfz11_0; try clear hfz17_0; try clear hfz18_0; try clear hfz24_0; try clear hfz29_0; try clear hfz31_0; try clear hfz36_0; try clear hfz41_0; try clear p2
   obtain ⟨x12_2, x486000_2, u486000, rfl, HG, HD, HO_4, HO_6, HO_474000, HO_479000, HO_484000, HO_486000, BK473, BK478, BK483, BK485, HB⟩ := hrel
   by_cases c42 : x12_2 < (n : Int)
   ·obtain ⟨k2, rfl⟩ : ∃ k2, gk = k2 + 1 := ⟨gk - 1, by have := HG.out; omega⟩
    have c42b0 : decide (x12_2 < (n : Int)) = true := decide_eq_true c42
    have c43b0 : decide (0 ≤ x12_2) = true := decide_eq_true HG.out.1
    have c44b0 : decide (x12_2 < (t466.length : Int)) = true := decide_eq_true (by have := HN.out; omega)
    obtain ⟨t493, t496, t494, t497, f45, f47, f48, fadd, fdrop⟩ := FAT.out x12_2 HG.out.1 c42
    obtain ⟨t487, e487⟩ : ∃ z, z = D (x12_2 + 1).toNat := ⟨_, rfl⟩
    rw [← e487] at f45 f48
    rw [← HD.out] at f45 f47
    have A45 := aM f45
    have A47 := aM f47
    have A48 := aM f48
    have HW12 := aM (show wrap64 (x12_2 + 1) = x12_2 + 1 from by have := HG.out; have := HN.out; unfold wrap64; omega)
    have HG2 : Aside0 (0 ≤ x12_2 + 1 ∧ x12_2 + 1 ≤ (n : Int) ∧ k2 + (x12_2 + 1).toNat = n + 1) := ⟨by have := HG.out; omega⟩
    have HD2 := aM e487
    have FADD := aM fadd
    have FDROP := aM fdrop
    clear c42 f45 f47 f48 fadd fdrop e487
    obtain ⟨Ao98, co98, eo98⟩ := Kd.R_slice HO_486000.out
    subst eo98
    try go_wp2
    replace HO_4 := aM (Kd.R_drew HO_4.out)
    replace HO_6 := aM (Kd.R_drew HO_6.out)
    replace HO_474000 := aM (Kd.R_drew HO_474000.out)
    replace HO_479000 := aM (Kd.R_drew HO_479000.out)
    replace HO_484000 := aM (Kd.R_drew HO_484000.out)
    replace HO_486000 := aM (Kd.R_drew HO_486000.out)
    replace BK473 := aM (blk_drew BK473.out)
    replace BK478 := aM (blk_drew BK478.out)
    replace BK483 := aM (blk_drew BK483.out)
    replace BK485 := aM (blk_drew BK485.out)
    replace HB := aM (below_drew1 HB.out)
    have p486 : 0 ≤ (x12_2 : Int) := of_decide_eq_true (by first | (with_reducible assumption) | assumption)
    have q486 : x12_2 < (t466.length : Int) := of_decide_eq_true (by first | (with_reducible assumption) | assumption)
    obtain ⟨ad486, e486, hx486_0, hx486_1, hx486_2, hx486_3⟩ := at_T55 (Kd.R_reads' HO_4.out).2.2 x12_2 p486 q486
    cases e486
    replace p486 := eq_true p486; replace q486 := eq_true q486
    refine start_ (n := 12) (S := fun w' => w'.cell? ⟨gb485, 0, none⟩ = some (.slice Ao98 x486000_2.length co98) ∧ w'.cell? (ad486.add ((x12_2).toNat * 4)) = some (.int .i64 ((rd_T55 t466 x12_2).f0)) ∧ w'.cell? ⟨(ad486.add ((x12_2).toNat * 4)).block, (ad486.add ((x12_2).toNat * 4)).off + 1, none⟩ = some (.string ((rd_T55 t466 x12_2).f1)) ∧ w'.cell? ⟨(ad486.add ((x12_2).toNat * 4)).block, (ad486.add ((x12_2).toNat * 4)).off + 2, none⟩ = some (.string ((rd_T55 t466 x12_2).f2)) ∧ w'.cell? ⟨(ad486.add ((x12_2).toNat * 4)).block, (ad486.add ((x12_2).toNat * 4)).off + 3, none⟩ = some (.string ((rd_T55 t466 x12_2).f3))) (ds := []) (bB 12 0) (by kernel_rfl) rfl rfl ⟨(blk_cell BK485.out 0).trans rfl, hx486_0, hx486_1, hx486_2, hx486_3⟩ (fun hHeld => ?_); refine with_tabW laws_FnActs.tab12 laws_FnActs.bits12 (fun HT_ HW_ => ?_)
    generalize wr.drew = w99 at HO_4 HO_6 HO_474000 HO_479000 HO_484000 HO_486000 BK473 BK478 BK483 BK485 HB hx486_0 hx486_1 hx486_2 hx486_3 hHeld ⊢
    refine pA HT_.out 1 61 12 2 ?_; refine pA HT_.out 2 62 12 6 ?_; refine pA HT_.out 3 63 12 14 ?_; refine tA HT_.out HW_.out 0 60 12 15 hHeld ?_; refine tA HT_.out HW_.out 4 64 12 31 hHeld ?_
    refine join_ (σ := Value × Nat) 2 #[true, true, true, true, true, true, true, true, true, true, false, false] (fun s_ => [(65, .tuple #[.agg #[s_.1], .bool true]), (13, .pointer (some ⟨s_.2, 0, none⟩)), (59, .tuple #[.agg #[s_.1], .bool true]), (66, .agg #[s_.1]), (67, .bool true)]) (fun s_ w' => (w'.cell? ⟨gb485, 0, none⟩ = some (.slice Ao98 x486000_2.length co98) ∧ w'.cell? (ad486.add ((x12_2).toNat * 4)) = some (.int .i64 ((rd_T55 t466 x12_2).f0)) ∧ w'.cell? ⟨(ad486.add ((x12_2).toNat * 4)).block, (ad486.add ((x12_2).toNat * 4)).off + 1, none⟩ = some (.string ((rd_T55 t466 x12_2).f1)) ∧ w'.cell? ⟨(ad486.add ((x12_2).toNat * 4)).block, (ad486.add ((x12_2).toNat * 4)).off + 2, none⟩ = some (.string ((rd_T55 t466 x12_2).f2)) ∧ w'.cell? ⟨(ad486.add ((x12_2).toNat * 4)).block, (ad486.add ((x12_2).toNat * 4)).off + 3, none⟩ = some (.string ((rd_T55 t466 x12_2).f3))) ∧ (Kd.R k45 45 w' w.heap.size (fun k_ => some k_ ≠ (.slice Ao10 t463.length co10 : Value).ownBlock ∧ some k_ ≠ (.slice Ao15 t474.length co15 : Value).ownBlock ∧ some k_ ≠ (.slice Ao21 t474.length co21 : Value).ownBlock ∧ some k_ ≠ (.slice Ao98 x486000_2.length co98 : Value).ownBlock) s_.1 t487) ∧ (Kd.R k55 55 w' w.heap.size (fun _ => True) (.slice (some ad486) t466.length co12) t466) ∧ (Kd.R k45 45 w' w.heap.size (fun k_ => some k_ ≠ (s_.1 : Value).ownBlock ∧ some k_ ≠ (.slice Ao15 t474.length co15 : Value).ownBlock ∧ some k_ ≠ (.slice Ao21 t474.length co21 : Value).ownBlock) (.slice Ao10 t463.length co10) t463) ∧ (Kd.R k45 45 w' w.heap.size (fun k_ => some k_ ≠ (s_.1 : Value).ownBlock ∧ some k_ ≠ (.slice Ao10 t463.length co10 : Value).ownBlock ∧ some k_ ≠ (.slice Ao21 t474.length co21 : Value).ownBlock ∧ some k_ ≠ (.slice Ao98 x486000_2.length co98 : Value).ownBlock) (.slice Ao15 t474.length co15) t474) ∧ (Kd.R k45 45 w' w.heap.size (fun k_ => some k_ ≠ (s_.1 : Value).ownBlock ∧ some k_ ≠ (.slice Ao10 t463.length co10 : Value).ownBlock ∧ some k_ ≠ (.slice Ao15 t474.length co15 : Value).ownBlock ∧ some k_ ≠ (.slice Ao98 x486000_2.length co98 : Value).ownBlock) (.slice Ao21 t474.length co21) t474) ∧ (Kd.R k45 45 w' w.heap.size (fun k_ => some k_ ≠ (s_.1 : Value).ownBlock ∧ some k_ ≠ (.slice Ao15 t474.length co15 : Value).ownBlock ∧ some k_ ≠ (.slice Ao21 t474.length co21 : Value).ownBlock) (.slice Ao98 x486000_2.length co98) x486000_2) ∧ (Kd.R (Kd.int .i64) 3 w' w.heap.size (fun _ => True) v471 t470) ∧ (w'.heap[gb473]? = some (.cells #[.slice Ao10 t463.length co10] 30 (0, 0))) ∧ (w'.heap[gb478]? = some (.cells #[.slice Ao15 t474.length co15] 30 (0, 0))) ∧ (w'.heap[gb483]? = some (.cells #[.slice Ao21 t474.length co21] 30 (0, 0))) ∧ (w'.heap[gb485]? = some (.cells #[.slice Ao98 x486000_2.length co98] 30 (0, 0))) ∧ (w'.heap[s_.2]? = some (.cells #[.slice none 0 0] 30 (0, 0))) ∧ (w.heap.size ≤ s_.2) ∧ (w.heap.size ≤ s_.2) ∧ (gb473 ≠ s_.2) ∧ (s_.2 ≠ gb473) ∧ (gb478 ≠ s_.2) ∧ (s_.2 ≠ gb478) ∧ (gb483 ≠ s_.2) ∧ (s_.2 ≠ gb483) ∧ (gb485 ≠ s_.2) ∧ (s_.2 ≠ gb485) ∧ (Below w.heap.size w w')) ?_ ?_
    rotate_left
    ·intro hCont
     refine two_ (i := 5) (j := 9) (Ni := some 65) (Nj := some 13) #[true, true, true, true, true, true, false, false, false, false, false, false] #[true, true, true, true, true, false, false, false, false, true, false, false] rfl rfl rfl rfl (two_of HT_.out (by kernel_rfl)) (by decide) (by decide) (fun K hK => ?_) (fun K hK => ?_)
     ·skip
      refine gX Try.func40 #[.agg #[.slice Ao98 x486000_2.length co98], .agg #[.int .i64 ((rd_T55 t466 x12_2).f0), .string ((rd_T55 t466 x12_2).f1), .string ((rd_T55 t466 x12_2).f2), .string ((rd_T55 t466 x12_2).f3)]] ?_
      with_reducible refine (impl_DoAct.calls k _ _ x486000_2 ((rd_T55 t466 x12_2).f0) ((rd_T55 t466 x12_2).f1) ((rd_T55 t466 x12_2).f2) ((rd_T55 t466 x12_2).f3) t487 true _ ?side1 ?side2 A45.out).mono ?_
      (case side1 => repeat (first | exact (Kd.R_reads' HO_486000.out).2.2 | (with_reducible refine cA ?_ _) | (with_reducible refine cN ?_ _) | (with_reducible refine cD ?_)))
      (case side2 => exact (Kd.R_reads' HO_486000.out).2.1)
      rintro e w100 ⟨v488, rfl, ho0, hb⟩
      have HS1_ := (hb.cell (World.block_lt_of_cell? _ _ (hHeld.2.1))).trans (hHeld.2.1)
      have HS2_ := (hb.cell (World.block_lt_of_cell? _ _ (hHeld.2.2.1))).trans (hHeld.2.2.1)
      have HS3_ := (hb.cell (World.block_lt_of_cell? _ _ (hHeld.2.2.2.1))).trans (hHeld.2.2.2.1)
      have HS4_ := (hb.cell (World.block_lt_of_cell? _ _ (hHeld.2.2.2.2))).trans (hHeld.2.2.2.2)
      refine ⟨_, rfl, ?_⟩
      have HO489 := aM (Kd.R_lower (Kd.R_new' (Kd.R_new' (Kd.R_new' (Kd.R_new' ho0 (Kd.R_lt (uR HO_474000))) (Kd.R_lt (uR HO_479000))) (Kd.R_lt (uR HO_484000))) (Kd.R_lt (uR HO_486000))) (below_size (uL HB)))
      replace HO_4 := rb_ HO_4 hb
      replace HO_6 := rb_ HO_6 hb
      replace HO_474000 := aM (Kd.R_elder' (uR HO_474000) (Kd.R_base ho0) hb)
      replace HO_479000 := aM (Kd.R_elder' (uR HO_479000) (Kd.R_base ho0) hb)
      replace HO_484000 := aM (Kd.R_elder' (uR HO_484000) (Kd.R_base ho0) hb)
      replace HO_486000 := aM (Kd.R_elder' (uR HO_486000) (Kd.R_base ho0) hb)
      replace BK473 := blkB BK473 hb
      replace BK478 := blkB BK478 hb
      replace BK483 := blkB BK483 hb
      replace BK485 := blkB BK485 hb
      replace HB := aM (below_step (uL HB) hb)
      try clear hb
      (try clear ho0)
      refine hK.out _ _ ⟨(blk_cell BK485.out 0).trans rfl, HS1_, HS2_, HS3_, HS4_⟩ (fun hHeld => ?_)
      clear hK K
      refine nX 65 ?_; refine pA HT_.out 6 59 12 127 ?_; refine pA HT_.out 7 66 12 255 ?_; refine pA HT_.out 8 67 12 511 ?_
      refine oA HT_.out 9 (some 13) 12 1023 (fun K hK => ?_)
      refine bxS 13 #[.slice none 0 0] 30 ?_
      intro gb491 hg w101 hbox hb
      have HS1_ := (hb.cell (World.block_lt_of_cell? _ _ (hHeld.2.1))).trans (hHeld.2.1)
      have HS2_ := (hb.cell (World.block_lt_of_cell? _ _ (hHeld.2.2.1))).trans (hHeld.2.2.1)
      have HS3_ := (hb.cell (World.block_lt_of_cell? _ _ (hHeld.2.2.2.1))).trans (hHeld.2.2.2.1)
      have HS4_ := (hb.cell (World.block_lt_of_cell? _ _ (hHeld.2.2.2.2))).trans (hHeld.2.2.2.2)
      have n0_ := rb_ HO_4 hb; have n1_ := rb_ HO_6 hb; have n2_ := rb_ HO_474000 hb; have n3_ := rb_ HO_479000 hb; have n4_ := rb_ HO_484000 hb; have n5_ := rb_ HO_486000 hb; have n6_ := rb_ HO489 hb; have n7_ := blkB BK473 hb; have n8_ := blkB BK478 hb; have n9_ := blkB BK483 hb; have n10_ := blkB BK485 hb
      have n11_ := aM (below_step (uL HB) hb)
      have n12_ := aM (hbox)
      have n13_ := szG hg (uL HB); have n14_ := szG hg (uL HB); have n15_ := neL hg BK473; have n16_ := neG hg BK473; have n17_ := neL hg BK478; have n18_ := neG hg BK478; have n19_ := neL hg BK483; have n20_ := neG hg BK483; have n21_ := neL hg BK485; have n22_ := neG hg BK485; clear HO_4 HO_6 HO_474000 HO_479000 HO_484000 HO_486000 HO489 BK473 BK478 BK483 BK485 HB; have HO_4 := n0_; have HO_6 := n1_; have HO_474000 := n2_; have HO_479000 := n3_; have HO_484000 := n4_; have HO_486000 := n5_; have HO489 := n6_; have BK473 := n7_; have BK478 := n8_; have BK483 := n9_; have BK485 := n10_; have HB := n11_; have BK491 := n12_; have GW491 := n13_; have GE491 := n14_; have NB473_491 := n15_; have NB491_473 := n16_; have NB478_491 := n17_; have NB491_478 := n18_; have NB483_491 := n19_; have NB491_483 := n20_; have NB485_491 := n21_; have NB491_485 := n22_; clear n0_ n1_ n2_ n3_ n4_ n5_ n6_ n7_ n8_ n9_ n10_ n11_ n12_ n13_ n14_ n15_ n16_ n17_ n18_ n19_ n20_ n21_ n22_ hb hbox hg
      refine hK.out _ _ ⟨(blk_cell BK485.out 0).trans rfl, HS1_, HS2_, HS3_, HS4_⟩ (fun hHeld => ?_)
      clear hK K
      refine nX 13 ?_
      exact norm_ (by simp only [putAll, Act.put, List.setIfInBounds_toArray, List.set_cons_zero, List.set_cons_succ]) (hCont (v488, gb491) _ ⟨hHeld, (by (with_reducible repeat first | apply rA | apply rN | apply rD); exact Kd.R_mono HO489.out (fun _ hk => ⟨hk.1.1.1.2, ⟨hk.1.1.2, ⟨hk.1.2, hk.2⟩⟩⟩)), (uR HO_4), (by (with_reducible repeat first | apply rA | apply rN | apply rD); exact Kd.R_mono HO_474000.out (fun _ hk => ⟨hk.2, ⟨hk.1.1, hk.1.2⟩⟩)), (by (with_reducible repeat first | apply rA | apply rN | apply rD); exact Kd.R_mono HO_479000.out (fun _ hk => ⟨hk.2, ⟨hk.1.1, ⟨hk.1.2.1, hk.1.2.2⟩⟩⟩)), (by (with_reducible repeat first | apply rA | apply rN | apply rD); exact Kd.R_mono HO_484000.out (fun _ hk => ⟨hk.2, ⟨hk.1.1, ⟨hk.1.2.1, hk.1.2.2⟩⟩⟩)), (by (with_reducible repeat first | apply rA | apply rN | apply rD); exact Kd.R_mono HO_486000.out (fun _ hk => ⟨hk.2, ⟨hk.1.1, hk.1.2⟩⟩)), (uR HO_6), (uB BK473), (uB BK478), (uB BK483), (uB BK485), (uB BK491), GW491.out, GE491.out, NB473_491.out, NB491_473.out, NB478_491.out, NB491_478.out, NB483_491.out, NB491_483.out, NB485_491.out, NB491_485.out, (uL HB)⟩)
     ·skip
      refine bxS 13 #[.slice none 0 0] 30 ?_
      intro gb491 hg w100 hbox hb
      have HS1_ := (hb.cell (World.block_lt_of_cell? _ _ (hHeld.2.1))).trans (hHeld.2.1)
      have HS2_ := (hb.cell (World.block_lt_of_cell? _ _ (hHeld.2.2.1))).trans (hHeld.2.2.1)
      have HS3_ := (hb.cell (World.block_lt_of_cell? _ _ (hHeld.2.2.2.1))).trans (hHeld.2.2.2.1)
      have HS4_ := (hb.cell (World.block_lt_of_cell? _ _ (hHeld.2.2.2.2))).trans (hHeld.2.2.2.2)
      have n0_ := rb_ HO_4 hb; have n1_ := rb_ HO_6 hb; have n2_ := rb_ HO_474000 hb; have n3_ := rb_ HO_479000 hb; have n4_ := rb_ HO_484000 hb; have n5_ := rb_ HO_486000 hb; have n6_ := blkB BK473 hb; have n7_ := blkB BK478 hb; have n8_ := blkB BK483 hb; have n9_ := blkB BK485 hb
      have n10_ := aM (below_step (uL HB) hb)
      have n11_ := aM (hbox)
      have n12_ := szG hg (uL HB); have n13_ := szG hg (uL HB); have n14_ := neL hg BK473; have n15_ := neG hg BK473; have n16_ := neL hg BK478; have n17_ := neG hg BK478; have n18_ := neL hg BK483; have n19_ := neG hg BK483; have n20_ := neL hg BK485; have n21_ := neG hg BK485; clear HO_4 HO_6 HO_474000 HO_479000 HO_484000 HO_486000 BK473 BK478 BK483 BK485 HB; have HO_4 := n0_; have HO_6 := n1_; have HO_474000 := n2_; have HO_479000 := n3_; have HO_484000 := n4_; have HO_486000 := n5_; have BK473 := n6_; have BK478 := n7_; have BK483 := n8_; have BK485 := n9_; have HB := n10_; have BK491 := n11_; have GW491 := n12_; have GE491 := n13_; have NB473_491 := n14_; have NB491_473 := n15_; have NB478_491 := n16_; have NB491_478 := n17_; have NB483_491 := n18_; have NB491_483 := n19_; have NB485_491 := n20_; have NB491_485 := n21_; clear n0_ n1_ n2_ n3_ n4_ n5_ n6_ n7_ n8_ n9_ n10_ n11_ n12_ n13_ n14_ n15_ n16_ n17_ n18_ n19_ n20_ n21_ hb hbox hg
      refine hK.out _ _ ⟨(blk_cell BK485.out 0).trans rfl, HS1_, HS2_, HS3_, HS4_⟩ (fun hHeld => ?_)
      clear hK K
      refine nX 13 ?_
      refine oA HT_.out 5 (some 65) 12 575 (fun K hK => ?_)
      refine gX Try.func40 #[.agg #[.slice Ao98 x486000_2.length co98], .agg #[.int .i64 ((rd_T55 t466 x12_2).f0), .string ((rd_T55 t466 x12_2).f1), .string ((rd_T55 t466 x12_2).f2), .string ((rd_T55 t466 x12_2).f3)]] ?_
      with_reducible refine (impl_DoAct.calls k _ _ x486000_2 ((rd_T55 t466 x12_2).f0) ((rd_T55 t466 x12_2).f1) ((rd_T55 t466 x12_2).f2) ((rd_T55 t466 x12_2).f3) t487 true _ ?side1 ?side2 A45.out).mono ?_
      (case side1 => repeat (first | exact (Kd.R_reads' HO_486000.out).2.2 | (with_reducible refine cA ?_ _) | (with_reducible refine cN ?_ _) | (with_reducible refine cD ?_)))
      (case side2 => exact (Kd.R_reads' HO_486000.out).2.1)
      rintro e w101 ⟨v488, rfl, ho0, hb⟩
      have HS1_ := (hb.cell (World.block_lt_of_cell? _ _ (hHeld.2.1))).trans (hHeld.2.1)
      have HS2_ := (hb.cell (World.block_lt_of_cell? _ _ (hHeld.2.2.1))).trans (hHeld.2.2.1)
      have HS3_ := (hb.cell (World.block_lt_of_cell? _ _ (hHeld.2.2.2.1))).trans (hHeld.2.2.2.1)
      have HS4_ := (hb.cell (World.block_lt_of_cell? _ _ (hHeld.2.2.2.2))).trans (hHeld.2.2.2.2)
      refine ⟨_, rfl, ?_⟩
      have HO489 := aM (Kd.R_lower (Kd.R_new' (Kd.R_new' (Kd.R_new' (Kd.R_new' ho0 (Kd.R_lt (uR HO_474000))) (Kd.R_lt (uR HO_479000))) (Kd.R_lt (uR HO_484000))) (Kd.R_lt (uR HO_486000))) (below_size (uL HB)))
      replace HO_4 := rb_ HO_4 hb
      replace HO_6 := rb_ HO_6 hb
      replace HO_474000 := aM (Kd.R_elder' (uR HO_474000) (Kd.R_base ho0) hb)
      replace HO_479000 := aM (Kd.R_elder' (uR HO_479000) (Kd.R_base ho0) hb)
      replace HO_484000 := aM (Kd.R_elder' (uR HO_484000) (Kd.R_base ho0) hb)
      replace HO_486000 := aM (Kd.R_elder' (uR HO_486000) (Kd.R_base ho0) hb)
      replace BK473 := blkB BK473 hb
      replace BK478 := blkB BK478 hb
      replace BK483 := blkB BK483 hb
      replace BK485 := blkB BK485 hb
      replace BK491 := blkB BK491 hb
      replace HB := aM (below_step (uL HB) hb)
      try clear hb
      (try clear ho0)
      refine hK.out _ _ ⟨(blk_cell BK485.out 0).trans rfl, HS1_, HS2_, HS3_, HS4_⟩ (fun hHeld => ?_)
      clear hK K
      refine nX 65 ?_; refine pA HT_.out 6 59 12 639 ?_; refine pA HT_.out 7 66 12 767 ?_; refine pA HT_.out 8 67 12 1023 ?_
      exact norm_ (by simp only [putAll, Act.put, List.setIfInBounds_toArray, List.set_cons_zero, List.set_cons_succ]) (hCont (v488, gb491) _ ⟨hHeld, (by (with_reducible repeat first | apply rA | apply rN | apply rD); exact Kd.R_mono HO489.out (fun _ hk => ⟨hk.1.1.1.2, ⟨hk.1.1.2, ⟨hk.1.2, hk.2⟩⟩⟩)), (uR HO_4), (by (with_reducible repeat first | apply rA | apply rN | apply rD); exact Kd.R_mono HO_474000.out (fun _ hk => ⟨hk.2, ⟨hk.1.1, hk.1.2⟩⟩)), (by (with_reducible repeat first | apply rA | apply rN | apply rD); exact Kd.R_mono HO_479000.out (fun _ hk => ⟨hk.2, ⟨hk.1.1, ⟨hk.1.2.1, hk.1.2.2⟩⟩⟩)), (by (with_reducible repeat first | apply rA | apply rN | apply rD); exact Kd.R_mono HO_484000.out (fun _ hk => ⟨hk.2, ⟨hk.1.1, ⟨hk.1.2.1, hk.1.2.2⟩⟩⟩)), (by (with_reducible repeat first | apply rA | apply rN | apply rD); exact Kd.R_mono HO_486000.out (fun _ hk => ⟨hk.2, ⟨hk.1.1, hk.1.2⟩⟩)), (uR HO_6), (uB BK473), (uB BK478), (uB BK483), (uB BK485), (uB BK491), GW491.out, GE491.out, NB473_491.out, NB491_473.out, NB478_491.out, NB491_478.out, NB483_491.out, NB491_483.out, NB485_491.out, NB491_485.out, (uL HB)⟩)
    rintro ⟨v488, gb491⟩ w102 ⟨hS_, h0_, h1_, h2_, h3_, h4_, h5_, h6_, h7_, h8_, h9_, h10_, h11_, h12_, h13_, h14_, h15_, h16_, h17_, h18_, h19_, h20_, h21_, h22_⟩
    have n0_ : Aside0 (Kd.R k45 45 w102 w.heap.size (fun k_ => some k_ ≠ (.slice Ao10 t463.length co10 : Value).ownBlock ∧ some k_ ≠ (.slice Ao15 t474.length co15 : Value).ownBlock ∧ some k_ ≠ (.slice Ao21 t474.length co21 : Value).ownBlock ∧ some k_ ≠ (.slice Ao98 x486000_2.length co98 : Value).ownBlock) v488 t487) := ⟨h0_⟩
    have n1_ : Aside0 (Kd.R k55 55 w102 w.heap.size (fun _ => True) (.slice (some ad486) t466.length co12) t466) := ⟨h1_⟩
    have n2_ : Aside0 (Kd.R k45 45 w102 w.heap.size (fun k_ => some k_ ≠ (v488 : Value).ownBlock ∧ some k_ ≠ (.slice Ao15 t474.length co15 : Value).ownBlock ∧ some k_ ≠ (.slice Ao21 t474.length co21 : Value).ownBlock) (.slice Ao10 t463.length co10) t463) := ⟨h2_⟩
    have n3_ : Aside0 (Kd.R k45 45 w102 w.heap.size (fun k_ => some k_ ≠ (v488 : Value).ownBlock ∧ some k_ ≠ (.slice Ao10 t463.length co10 : Value).ownBlock ∧ some k_ ≠ (.slice Ao21 t474.length co21 : Value).ownBlock ∧ some k_ ≠ (.slice Ao98 x486000_2.length co98 : Value).ownBlock) (.slice Ao15 t474.length co15) t474) := ⟨h3_⟩
    have n4_ : Aside0 (Kd.R k45 45 w102 w.heap.size (fun k_ => some k_ ≠ (v488 : Value).ownBlock ∧ some k_ ≠ (.slice Ao10 t463.length co10 : Value).ownBlock ∧ some k_ ≠ (.slice Ao15 t474.length co15 : Value).ownBlock ∧ some k_ ≠ (.slice Ao98 x486000_2.length co98 : Value).ownBlock) (.slice Ao21 t474.length co21) t474) := ⟨h4_⟩
    have n5_ : Aside0 (Kd.R k45 45 w102 w.heap.size (fun k_ => some k_ ≠ (v488 : Value).ownBlock ∧ some k_ ≠ (.slice Ao15 t474.length co15 : Value).ownBlock ∧ some k_ ≠ (.slice Ao21 t474.length co21 : Value).ownBlock) (.slice Ao98 x486000_2.length co98) x486000_2) := ⟨h5_⟩
    have n6_ : Aside0 (Kd.R (Kd.int .i64) 3 w102 w.heap.size (fun _ => True) v471 t470) := ⟨h6_⟩
    have n7_ : Aside0 (w102.heap[gb473]? = some (.cells #[.slice Ao10 t463.length co10] 30 (0, 0))) := ⟨h7_⟩
    have n8_ : Aside0 (w102.heap[gb478]? = some (.cells #[.slice Ao15 t474.length co15] 30 (0, 0))) := ⟨h8_⟩
    have n9_ : Aside0 (w102.heap[gb483]? = some (.cells #[.slice Ao21 t474.length co21] 30 (0, 0))) := ⟨h9_⟩
    have n10_ : Aside0 (w102.heap[gb485]? = some (.cells #[.slice Ao98 x486000_2.length co98] 30 (0, 0))) := ⟨h10_⟩
    have n11_ : Aside0 (w102.heap[gb491]? = some (.cells #[.slice none 0 0] 30 (0, 0))) := ⟨h11_⟩
    have n12_ : Aside0 (w.heap.size ≤ gb491) := ⟨h12_⟩
    have n13_ : Aside0 (w.heap.size ≤ gb491) := ⟨h13_⟩
    have n14_ : Aside0 (gb473 ≠ gb491) := ⟨h14_⟩
    have n15_ : Aside0 (gb491 ≠ gb473) := ⟨h15_⟩
    have n16_ : Aside0 (gb478 ≠ gb491) := ⟨h16_⟩
    have n17_ : Aside0 (gb491 ≠ gb478) := ⟨h17_⟩
    have n18_ : Aside0 (gb483 ≠ gb491) := ⟨h18_⟩
    have n19_ : Aside0 (gb491 ≠ gb483) := ⟨h19_⟩
    have n20_ : Aside0 (gb485 ≠ gb491) := ⟨h20_⟩
    have n21_ : Aside0 (gb491 ≠ gb485) := ⟨h21_⟩
    have n22_ : Aside0 (Below w.heap.size w w102) := ⟨h22_⟩
    clear HO_4 HO_6 HO_474000 HO_479000 HO_484000 HO_486000 BK473 BK478 BK483 BK485 HB h0_ h1_ h2_ h3_ h4_ h5_ h6_ h7_ h8_ h9_ h10_ h11_ h12_ h13_ h14_ h15_ h16_ h17_ h18_ h19_ h20_ h21_ h22_; have HO489 := n0_; have HO_4 := n1_; have HO_474000 := n2_; have HO_479000 := n3_; have HO_484000 := n4_; have HO_486000 := n5_; have HO_6 := n6_; have BK473 := n7_; have BK478 := n8_; have BK483 := n9_; have BK485 := n10_; have BK491 := n11_; have GW491 := n12_; have GE491 := n13_; have NB473_491 := n14_; have NB491_473 := n15_; have NB478_491 := n16_; have NB491_478 := n17_; have NB483_491 := n18_; have NB491_483 := n19_; have NB485_491 := n20_; have NB491_485 := n21_; have HB := n22_; clear n0_ n1_ n2_ n3_ n4_ n5_ n6_ n7_ n8_ n9_ n10_ n11_ n12_ n13_ n14_ n15_ n16_ n17_ n18_ n19_ n20_ n21_ n22_
    have hHeld : w102.cell? ⟨gb485, 0, none⟩ = some (.slice Ao98 x486000_2.length co98) ∧ w102.cell? (ad486.add ((x12_2).toNat * 4)) = some (.int .i64 ((rd_T55 t466 x12_2).f0)) ∧ w102.cell? ⟨(ad486.add ((x12_2).toNat * 4)).block, (ad486.add ((x12_2).toNat * 4)).off + 1, none⟩ = some (.string ((rd_T55 t466 x12_2).f1)) ∧ w102.cell? ⟨(ad486.add ((x12_2).toNat * 4)).block, (ad486.add ((x12_2).toNat * 4)).off + 2, none⟩ = some (.string ((rd_T55 t466 x12_2).f2)) ∧ w102.cell? ⟨(ad486.add ((x12_2).toNat * 4)).block, (ad486.add ((x12_2).toNat * 4)).off + 3, none⟩ = some (.string ((rd_T55 t466 x12_2).f3)) := hS_
    obtain ⟨Ao103, co103, eo103⟩ := Kd.R_slice HO489.out
    (first | subst eo103 | (injection eo103 with f1_ f2_ f3_; have f4_ := f1_.symm; have f5_ := f3_.symm; clear f1_ f2_ f3_; subst f4_; subst f5_))
    refine norm_ (a' := ?_) ?_ ?_
    rotate_left
    ·simp only [putAll, Act.put, List.setIfInBounds_toArray, List.set_cons_zero, List.set_cons_succ]
     rfl
    refine oA HT_.out 10 none 12 2047 (fun K hK => ?_)
    have hs104 := czA BK491.out 0 (.slice none 0 0)
    have hfs104 := blk_frozen BK491.out 0; have hns104_0 := NB473_491.out; have hns104_1 := NB478_491.out; have hns104_2 := NB483_491.out; have hns104_3 := NB485_491.out; have hms104_0 := NB491_473.out; have hms104_1 := NB491_478.out; have hms104_2 := NB491_483.out; have hms104_3 := NB491_485.out
    refine skip_ (w1 := ?_) (by rfl) rfl ?_ ?_
    rotate_left
    ·go_simp
     rfl
    refine hK.out _ _ ⟨((cell_far (p := ⟨gb491, _, none⟩) NB485_491.out _).trans (hHeld.1)), ((cell_far (p := ⟨gb491, _, none⟩) (by first | exact Kd.own_blk (Kd.R_ne HO_4.out BK491.out (by decide)) | (rw [add_block]; exact Kd.own_blk (Kd.R_ne HO_4.out BK491.out (by decide))) | (show (Addr.add _ _).block ≠ _; rw [add_block]; exact Kd.own_blk (Kd.R_ne HO_4.out BK491.out (by decide))) | (dsimp only; exact Kd.own_blk (Kd.R_ne HO_4.out BK491.out (by decide)))) _).trans (hHeld.2.1)), ((cell_far (p := ⟨gb491, _, none⟩) (by first | exact Kd.own_blk (Kd.R_ne HO_4.out BK491.out (by decide)) | (rw [add_block]; exact Kd.own_blk (Kd.R_ne HO_4.out BK491.out (by decide))) | (show (Addr.add _ _).block ≠ _; rw [add_block]; exact Kd.own_blk (Kd.R_ne HO_4.out BK491.out (by decide))) | (dsimp only; exact Kd.own_blk (Kd.R_ne HO_4.out BK491.out (by decide)))) _).trans (hHeld.2.2.1)), ((cell_far (p := ⟨gb491, _, none⟩) (by first | exact Kd.own_blk (Kd.R_ne HO_4.out BK491.out (by decide)) | (rw [add_block]; exact Kd.own_blk (Kd.R_ne HO_4.out BK491.out (by decide))) | (show (Addr.add _ _).block ≠ _; rw [add_block]; exact Kd.own_blk (Kd.R_ne HO_4.out BK491.out (by decide))) | (dsimp only; exact Kd.own_blk (Kd.R_ne HO_4.out BK491.out (by decide)))) _).trans (hHeld.2.2.2.1)), ((cell_far (p := ⟨gb491, _, none⟩) (by first | exact Kd.own_blk (Kd.R_ne HO_4.out BK491.out (by decide)) | (rw [add_block]; exact Kd.own_blk (Kd.R_ne HO_4.out BK491.out (by decide))) | (show (Addr.add _ _).block ≠ _; rw [add_block]; exact Kd.own_blk (Kd.R_ne HO_4.out BK491.out (by decide))) | (dsimp only; exact Kd.own_blk (Kd.R_ne HO_4.out BK491.out (by decide)))) _).trans (hHeld.2.2.2.2))⟩ (fun hHeld => ?_)
    clear hK K
    refine pA HT_.out 11 14 12 4095 ?_
    refine done_ (done_of HT_.out (by kernel_rfl)) ?_
    try go_wp2
    have n0_ : Aside0 (Kd.R k55 55 (w102.setCell ⟨gb491, 0, none⟩ (.slice Ao103 t487.length co103)) w.heap.size (fun _ => True) (.slice (some ad486) t466.length co12) t466) := ⟨by (with_reducible repeat first | apply rA | apply rN | apply rD); exact rs_ HO_4 BK491 _ (fun _ hk => trivial)⟩
    have n1_ : Aside0 (Kd.R (Kd.int .i64) 3 (w102.setCell ⟨gb491, 0, none⟩ (.slice Ao103 t487.length co103)) w.heap.size (fun _ => True) v471 t470) := ⟨by (with_reducible repeat first | apply rA | apply rN | apply rD); exact rs_ HO_6 BK491 _ (fun _ hk => trivial)⟩
    have n2_ : Aside0 (Kd.R k45 45 (w102.setCell ⟨gb491, 0, none⟩ (.slice Ao103 t487.length co103)) w.heap.size (fun k_ => some k_ ≠ (.slice Ao15 t474.length co15 : Value).ownBlock ∧ some k_ ≠ (.slice Ao21 t474.length co21 : Value).ownBlock ∧ some k_ ≠ (.slice Ao103 t487.length co103 : Value).ownBlock) (.slice Ao10 t463.length co10) t463) := ⟨by (with_reducible repeat first | apply rA | apply rN | apply rD); exact rs_ HO_474000 BK491 _ (fun _ hk => ⟨hk.1.2.1, ⟨hk.1.2.2, hk.1.1⟩⟩)⟩
    have n3_ : Aside0 (Kd.R k45 45 (w102.setCell ⟨gb491, 0, none⟩ (.slice Ao103 t487.length co103)) w.heap.size (fun k_ => some k_ ≠ (.slice Ao10 t463.length co10 : Value).ownBlock ∧ some k_ ≠ (.slice Ao21 t474.length co21 : Value).ownBlock ∧ some k_ ≠ (.slice Ao98 x486000_2.length co98 : Value).ownBlock ∧ some k_ ≠ (.slice Ao103 t487.length co103 : Value).ownBlock) (.slice Ao15 t474.length co15) t474) := ⟨by (with_reducible repeat first | apply rA | apply rN | apply rD); exact rs_ HO_479000 BK491 _ (fun _ hk => ⟨hk.1.2.1, ⟨hk.1.2.2.1, ⟨hk.1.2.2.2, hk.1.1⟩⟩⟩)⟩
    have n4_ : Aside0 (Kd.R k45 45 (w102.setCell ⟨gb491, 0, none⟩ (.slice Ao103 t487.length co103)) w.heap.size (fun k_ => some k_ ≠ (.slice Ao10 t463.length co10 : Value).ownBlock ∧ some k_ ≠ (.slice Ao15 t474.length co15 : Value).ownBlock ∧ some k_ ≠ (.slice Ao98 x486000_2.length co98 : Value).ownBlock ∧ some k_ ≠ (.slice Ao103 t487.length co103 : Value).ownBlock) (.slice Ao21 t474.length co21) t474) := ⟨by (with_reducible repeat first | apply rA | apply rN | apply rD); exact rs_ HO_484000 BK491 _ (fun _ hk => ⟨hk.1.2.1, ⟨hk.1.2.2.1, ⟨hk.1.2.2.2, hk.1.1⟩⟩⟩)⟩
    have n5_ : Aside0 (Kd.R k45 45 (w102.setCell ⟨gb491, 0, none⟩ (.slice Ao103 t487.length co103)) w.heap.size (fun k_ => some k_ ≠ (.slice Ao15 t474.length co15 : Value).ownBlock ∧ some k_ ≠ (.slice Ao21 t474.length co21 : Value).ownBlock ∧ some k_ ≠ (.slice Ao103 t487.length co103 : Value).ownBlock) (.slice Ao98 x486000_2.length co98) x486000_2) := ⟨by (with_reducible repeat first | apply rA | apply rN | apply rD); exact rs_ HO_486000 BK491 _ (fun _ hk => ⟨hk.1.2.1, ⟨hk.1.2.2, hk.1.1⟩⟩)⟩
    have n6_ : Aside0 (Kd.R k45 45 (w102.setCell ⟨gb491, 0, none⟩ (.slice Ao103 t487.length co103)) w.heap.size (fun k_ => some k_ ≠ (.slice Ao10 t463.length co10 : Value).ownBlock ∧ some k_ ≠ (.slice Ao15 t474.length co15 : Value).ownBlock ∧ some k_ ≠ (.slice Ao21 t474.length co21 : Value).ownBlock ∧ some k_ ≠ (.slice Ao98 x486000_2.length co98 : Value).ownBlock) (.slice Ao103 t487.length co103) t487) := ⟨by (with_reducible repeat first | apply rA | apply rN | apply rD); exact rs_ HO489 BK491 _ (fun _ hk => ⟨hk.1.1, ⟨hk.1.2.1, ⟨hk.1.2.2.1, hk.1.2.2.2⟩⟩⟩)⟩
    have n7_ : Aside0 ((w102.setCell ⟨gb491, 0, none⟩ (.slice Ao103 t487.length co103)).heap[gb473]? = some (.cells #[.slice Ao10 t463.length co10] 30 (0, 0))) := ⟨by refine nB ?_; refine blk_far ?_ NB473_491.out _; exact nB BK473.out⟩
    have n8_ : Aside0 ((w102.setCell ⟨gb491, 0, none⟩ (.slice Ao103 t487.length co103)).heap[gb478]? = some (.cells #[.slice Ao15 t474.length co15] 30 (0, 0))) := ⟨by refine nB ?_; refine blk_far ?_ NB478_491.out _; exact nB BK478.out⟩
    have n9_ : Aside0 ((w102.setCell ⟨gb491, 0, none⟩ (.slice Ao103 t487.length co103)).heap[gb483]? = some (.cells #[.slice Ao21 t474.length co21] 30 (0, 0))) := ⟨by refine nB ?_; refine blk_far ?_ NB483_491.out _; exact nB BK483.out⟩
    have n10_ : Aside0 ((w102.setCell ⟨gb491, 0, none⟩ (.slice Ao103 t487.length co103)).heap[gb485]? = some (.cells #[.slice Ao98 x486000_2.length co98] 30 (0, 0))) := ⟨by refine nB ?_; refine blk_far ?_ NB485_491.out _; exact nB BK485.out⟩
    have n11_ : Aside0 ((w102.setCell ⟨gb491, 0, none⟩ (.slice Ao103 t487.length co103)).heap[gb491]? = some (.cells #[.slice Ao103 t487.length co103] 30 (0, 0))) := ⟨by refine nB ?_; refine blk_put (cs := #[.slice none 0 0]) ?_ 0 _ rfl; exact nB BK491.out⟩
    have n12_ : Aside0 (Below w.heap.size w (w102.setCell ⟨gb491, 0, none⟩ (.slice Ao103 t487.length co103))) := ⟨uL HB⟩
    (try clear HO_4)
    (try clear HO_6)
    (try clear HO_474000)
    (try clear HO_479000)
    (try clear HO_484000)
    (try clear HO_486000)
    (try clear HO489)
    (try clear BK473)
    (try clear BK478)
    (try clear BK483)
    (try clear BK485)
    (try clear BK491)
    (try clear HB)
    generalize (w102.setCell ⟨gb491, 0, none⟩ (.slice Ao103 t487.length co103)) = w105 at n0_ n1_ n2_ n3_ n4_ n5_ n6_ n7_ n8_ n9_ n10_ n11_ n12_ ⊢
    have HO_4 := n0_; have HO_6 := n1_; have HO_474000 := n2_; have HO_479000 := n3_; have HO_484000 := n4_; have HO_486000 := n5_; have HO489 := n6_; have BK473 := n7_; have BK478 := n8_; have BK483 := n9_; have BK485 := n10_; have BK491 := n11_; have HB := n12_; clear n0_ n1_ n2_ n3_ n4_ n5_ n6_ n7_ n8_ n9_ n10_ n11_ n12_
    replace HO_4 := aM (Kd.R_drew HO_4.out)
    replace HO_6 := aM (Kd.R_drew HO_6.out)
    replace HO_474000 := aM (Kd.R_drew HO_474000.out)
    replace HO_479000 := aM (Kd.R_drew HO_479000.out)
    replace HO_484000 := aM (Kd.R_drew HO_484000.out)
    replace HO_486000 := aM (Kd.R_drew HO_486000.out)
    replace HO489 := aM (Kd.R_drew HO489.out)
    replace BK473 := aM (blk_drew BK473.out)
    replace BK478 := aM (blk_drew BK478.out)
    replace BK483 := aM (blk_drew BK483.out)
    replace BK485 := aM (blk_drew BK485.out)
    replace BK491 := aM (blk_drew BK491.out)
    replace HB := aM (below_drew1 HB.out)
    have p492 : 0 ≤ (x12_2 : Int) := of_decide_eq_true (by first | (with_reducible assumption) | assumption)
    have q492 : x12_2 < (t466.length : Int) := of_decide_eq_true (by first | (with_reducible assumption) | assumption)
    obtain ⟨ad492, e492, hx492_0, hx492_1, hx492_2, hx492_3⟩ := at_T55 (Kd.R_reads' HO_4.out).2.2 x12_2 p492 q492
    obtain rfl : ad486 = ad492 := (by injection e492)
    replace p492 := eq_true p492; replace q492 := eq_true q492
    refine start_ (n := 12) (S := fun w' => w'.cell? ⟨gb485, 0, none⟩ = some (.slice Ao98 x486000_2.length co98) ∧ w'.cell? (ad486.add ((x12_2).toNat * 4)) = some (.int .i64 ((rd_T55 t466 x12_2).f0)) ∧ w'.cell? ⟨(ad486.add ((x12_2).toNat * 4)).block, (ad486.add ((x12_2).toNat * 4)).off + 1, none⟩ = some (.string ((rd_T55 t466 x12_2).f1)) ∧ w'.cell? ⟨(ad486.add ((x12_2).toNat * 4)).block, (ad486.add ((x12_2).toNat * 4)).off + 2, none⟩ = some (.string ((rd_T55 t466 x12_2).f2)) ∧ w'.cell? ⟨(ad486.add ((x12_2).toNat * 4)).block, (ad486.add ((x12_2).toNat * 4)).off + 3, none⟩ = some (.string ((rd_T55 t466 x12_2).f3))) (ds := []) (bB 12 0) (by kernel_rfl) rfl rfl ⟨(blk_cell BK485.out 0).trans rfl, hx492_0, hx492_1, hx492_2, hx492_3⟩ (fun hHeld => ?_); refine with_tabW laws_FnActs.tab15 laws_FnActs.bits15 (fun HT_ HW_ => ?_)
    generalize w105.drew = w106 at HO_4 HO_6 HO_474000 HO_479000 HO_484000 HO_486000 HO489 BK473 BK478 BK483 BK485 BK491 HB hx492_0 hx492_1 hx492_2 hx492_3 hHeld ⊢
    refine pA HT_.out 1 72 12 2 ?_; refine pA HT_.out 2 73 12 6 ?_; refine pA HT_.out 3 74 12 14 ?_; refine pA HT_.out 4 75 12 30 ?_; refine tA HT_.out HW_.out 0 71 12 31 hHeld ?_; refine tA HT_.out HW_.out 5 76 12 63 hHeld ?_
    refine oA HT_.out 6 (some 77) 12 127 (fun K hK => ?_)
    refine gX Try.func18 #[.agg #[.slice Ao98 x486000_2.length co98], .string ((rd_T55 t466 x12_2).f1)] ?_
    with_reducible refine (impl_FileAt.calls k _ _ x486000_2 ((rd_T55 t466 x12_2).f1) t493 t494 _ ?side1 ?side2 A47.out).mono ?_
    (case side1 => repeat (first | exact (Kd.R_reads' HO_486000.out).2.2 | (with_reducible refine cA ?_ _) | (with_reducible refine cN ?_ _) | (with_reducible refine cD ?_)))
    (case side2 => exact (Kd.R_reads' HO_486000.out).2.1)
    rintro e w107 ⟨rfl, hb⟩
    have HS1_ := (hb.cell (World.block_lt_of_cell? _ _ (hHeld.2.1))).trans (hHeld.2.1)
    have HS2_ := (hb.cell (World.block_lt_of_cell? _ _ (hHeld.2.2.1))).trans (hHeld.2.2.1)
    have HS3_ := (hb.cell (World.block_lt_of_cell? _ _ (hHeld.2.2.2.1))).trans (hHeld.2.2.2.1)
    have HS4_ := (hb.cell (World.block_lt_of_cell? _ _ (hHeld.2.2.2.2))).trans (hHeld.2.2.2.2)
    refine ⟨_, rfl, ?_⟩
    replace HO_4 := rb_ HO_4 hb
    replace HO_6 := rb_ HO_6 hb
    replace HO_474000 := rb_ HO_474000 hb
    replace HO_479000 := rb_ HO_479000 hb
    replace HO_484000 := rb_ HO_484000 hb
    replace HO_486000 := rb_ HO_486000 hb
    replace HO489 := rb_ HO489 hb
    replace BK473 := blkB BK473 hb
    replace BK478 := blkB BK478 hb
    replace BK483 := blkB BK483 hb
    replace BK485 := blkB BK485 hb
    replace BK491 := blkB BK491 hb
    replace HB := aM (below_step (uL HB) hb)
    try clear hb
    refine hK.out _ _ ⟨(blk_cell BK485.out 0).trans rfl, HS1_, HS2_, HS3_, HS4_⟩ (fun hHeld => ?_)
    clear hK K
    refine nX 77 ?_; refine pA HT_.out 7 70 12 255 ?_; refine pA HT_.out 8 78 12 511 ?_; refine pA HT_.out 9 79 12 1023 ?_; refine pA HT_.out 10 15 12 2047 ?_; refine pA HT_.out 11 16 12 4095 ?_
    refine done_ (done_of HT_.out (by kernel_rfl)) ?_
    try go_wp2
    replace HO_4 := aM (Kd.R_drew HO_4.out)
    replace HO_6 := aM (Kd.R_drew HO_6.out)
    replace HO_474000 := aM (Kd.R_drew HO_474000.out)
    replace HO_479000 := aM (Kd.R_drew HO_479000.out)
    replace HO_484000 := aM (Kd.R_drew HO_484000.out)
    replace HO_486000 := aM (Kd.R_drew HO_486000.out)
    replace HO489 := aM (Kd.R_drew HO489.out)
    replace BK473 := aM (blk_drew BK473.out)
    replace BK478 := aM (blk_drew BK478.out)
    replace BK483 := aM (blk_drew BK483.out)
    replace BK485 := aM (blk_drew BK485.out)
    replace BK491 := aM (blk_drew BK491.out)
    replace HB := aM (below_drew1 HB.out)
    have p495 : 0 ≤ (x12_2 : Int) := of_decide_eq_true (by first | (with_reducible assumption) | assumption)
    have q495 : x12_2 < (t466.length : Int) := of_decide_eq_true (by first | (with_reducible assumption) | assumption)
    obtain ⟨ad495, e495, hx495_0, hx495_1, hx495_2, hx495_3⟩ := at_T55 (Kd.R_reads' HO_4.out).2.2 x12_2 p495 q495
    obtain rfl : ad486 = ad495 := (by injection e495)
    replace p495 := eq_true p495; replace q495 := eq_true q495
    refine start_ (n := 12) (S := fun w' => w'.cell? ⟨gb491, 0, none⟩ = some (.slice Ao103 t487.length co103) ∧ w'.cell? (ad486.add ((x12_2).toNat * 4)) = some (.int .i64 ((rd_T55 t466 x12_2).f0)) ∧ w'.cell? ⟨(ad486.add ((x12_2).toNat * 4)).block, (ad486.add ((x12_2).toNat * 4)).off + 1, none⟩ = some (.string ((rd_T55 t466 x12_2).f1)) ∧ w'.cell? ⟨(ad486.add ((x12_2).toNat * 4)).block, (ad486.add ((x12_2).toNat * 4)).off + 2, none⟩ = some (.string ((rd_T55 t466 x12_2).f2)) ∧ w'.cell? ⟨(ad486.add ((x12_2).toNat * 4)).block, (ad486.add ((x12_2).toNat * 4)).off + 3, none⟩ = some (.string ((rd_T55 t466 x12_2).f3))) (ds := []) (bB 12 0) (by kernel_rfl) rfl rfl ⟨(blk_cell BK491.out 0).trans rfl, hx495_0, hx495_1, hx495_2, hx495_3⟩ (fun hHeld => ?_); refine with_tabW laws_FnActs.tab16 laws_FnActs.bits16 (fun HT_ HW_ => ?_)
    generalize w107.drew = w108 at HO_4 HO_6 HO_474000 HO_479000 HO_484000 HO_486000 HO489 BK473 BK478 BK483 BK485 BK491 HB hx495_0 hx495_1 hx495_2 hx495_3 hHeld ⊢
    refine pA HT_.out 1 82 12 2 ?_; refine pA HT_.out 2 83 12 6 ?_; refine pA HT_.out 3 84 12 14 ?_; refine pA HT_.out 4 85 12 30 ?_; refine tA HT_.out HW_.out 0 81 12 31 hHeld ?_; refine tA HT_.out HW_.out 5 86 12 63 hHeld ?_
    refine oA HT_.out 6 (some 87) 12 127 (fun K hK => ?_)
    refine gX Try.func18 #[.agg #[.slice Ao103 t487.length co103], .string ((rd_T55 t466 x12_2).f1)] ?_
    with_reducible refine (impl_FileAt.calls k _ _ t487 ((rd_T55 t466 x12_2).f1) t496 t497 _ ?side1 ?side2 A48.out).mono ?_
    (case side1 => repeat (first | exact (Kd.R_reads' HO489.out).2.2 | (with_reducible refine cA ?_ _) | (with_reducible refine cN ?_ _) | (with_reducible refine cD ?_)))
    (case side2 => exact (Kd.R_reads' HO489.out).2.1)
    rintro e w109 ⟨rfl, hb⟩
    have HS1_ := (hb.cell (World.block_lt_of_cell? _ _ (hHeld.2.1))).trans (hHeld.2.1)
    have HS2_ := (hb.cell (World.block_lt_of_cell? _ _ (hHeld.2.2.1))).trans (hHeld.2.2.1)
    have HS3_ := (hb.cell (World.block_lt_of_cell? _ _ (hHeld.2.2.2.1))).trans (hHeld.2.2.2.1)
    have HS4_ := (hb.cell (World.block_lt_of_cell? _ _ (hHeld.2.2.2.2))).trans (hHeld.2.2.2.2)
    refine ⟨_, rfl, ?_⟩
    replace HO_4 := rb_ HO_4 hb
    replace HO_6 := rb_ HO_6 hb
    replace HO_474000 := rb_ HO_474000 hb
    replace HO_479000 := rb_ HO_479000 hb
    replace HO_484000 := rb_ HO_484000 hb
    replace HO_486000 := rb_ HO_486000 hb
    replace HO489 := rb_ HO489 hb
    replace BK473 := blkB BK473 hb
    replace BK478 := blkB BK478 hb
    replace BK483 := blkB BK483 hb
    replace BK485 := blkB BK485 hb
    replace BK491 := blkB BK491 hb
    replace HB := aM (below_step (uL HB) hb)
    try clear hb
    refine hK.out _ _ ⟨(blk_cell BK491.out 0).trans rfl, HS1_, HS2_, HS3_, HS4_⟩ (fun hHeld => ?_)
    clear hK K
    refine nX 87 ?_; refine pA HT_.out 7 80 12 255 ?_; refine pA HT_.out 8 88 12 511 ?_; refine pA HT_.out 9 89 12 1023 ?_; refine pA HT_.out 10 17 12 2047 ?_; refine pA HT_.out 11 18 12 4095 ?_
    refine done_ (done_of HT_.out (by kernel_rfl)) ?_
    have p498 : 0 ≤ (x12_2 : Int) := of_decide_eq_true (by first | (with_reducible assumption) | assumption)
    have q498 : x12_2 < (t466.length : Int) := of_decide_eq_true (by first | (with_reducible assumption) | assumption)
    obtain ⟨ad498, e498, hx498_0, hx498_1, hx498_2, hx498_3⟩ := at_T55 (Kd.R_reads' HO_4.out).2.2 x12_2 p498 q498
    obtain rfl : ad486 = ad498 := (by injection e498)
    replace p498 := eq_true p498; replace q498 := eq_true q498
    have p501 : 0 ≤ (x12_2 : Int) := of_decide_eq_true (by first | (with_reducible assumption) | assumption)
    have q501 : x12_2 < (t466.length : Int) := of_decide_eq_true (by first | (with_reducible assumption) | assumption)
    obtain ⟨ad501, e501, hx501_0, hx501_1, hx501_2, hx501_3⟩ := at_T55 (Kd.R_reads' HO_4.out).2.2 x12_2 p501 q501
    obtain rfl : ad486 = ad501 := (by injection e501)
    replace p501 := eq_true p501; replace q501 := eq_true q501; have hnb110 := NB491_473.out; have hnc110 := NB473_491.out; have hnb111 := NB491_478.out; have hnc111 := NB478_491.out; have hnb112 := NB491_483.out; have hnc112 := NB483_491.out; have hnb113 := NB491_485.out; have hnc113 := NB485_491.out
    have hcz114_0 := czA BK491.out 0 (.slice Ao103 t487.length co103)
    have hfz114_0 := blk_frozen BK491.out 0; have hnb115 := NB485_473.out; have hnc115 := NB473_485.out; have hnb116 := NB485_478.out; have hnc116 := NB478_485.out; have hnb117 := NB485_483.out; have hnc117 := NB483_485.out
    have hcz118_0 := czA BK485.out 0 (.slice Ao98 x486000_2.length co98)
    have hfz118_0 := blk_frozen BK485.out 0
    obtain ⟨c49b0, c49b1, c53b0, c53b1, rfl, c51b0, c51b1, c51b2, rfl, c52b0, c52b1⟩ | ⟨c49b0, c49b1, c53b0, c53b1, rfl⟩ | ⟨c49b0, c49b1, c53b0, c53b1⟩ := laws_FnActs.kinds FADD.out FDROP.out
    all_goals
     try go_wp2
     rw [HW12.out]
     go_roundg k2
     case measure => omega
     case rel => exact ⟨(x12_2 + 1), (t487), (.slice Ao103 t487.length co103), (by first | rfl | (simp; done) | (simp [*]; done)), HG2, HD2, ⟨by (with_reducible repeat first | apply rA | apply rN | apply rD); exact rs_ HO_4 BK485 _ (fun _ hk => trivial)⟩, ⟨by (with_reducible repeat first | apply rA | apply rN | apply rD); exact rs_ HO_6 BK485 _ (fun _ hk => trivial)⟩, ⟨by (with_reducible repeat first | apply rA | apply rN | apply rD); exact rs_ HO_474000 BK485 _ (fun _ hk => ⟨hk.1.1, hk.1.2.1⟩)⟩, ⟨by (with_reducible repeat first | apply rA | apply rN | apply rD); exact rs_ HO_479000 BK485 _ (fun _ hk => ⟨hk.1.1, ⟨hk.1.2.1, hk.1.2.2.2⟩⟩)⟩, ⟨by (with_reducible repeat first | apply rA | apply rN | apply rD); exact rs_ HO_484000 BK485 _ (fun _ hk => ⟨hk.1.1, ⟨hk.1.2.1, hk.1.2.2.2⟩⟩)⟩, ⟨by (with_reducible repeat first | apply rA | apply rN | apply rD); exact rs_ HO489 BK485 _ (fun _ hk => ⟨hk.1.2.1, hk.1.2.2.1⟩)⟩, ⟨by refine nB ?_; refine blk_far ?_ NB473_485.out _; exact nB BK473.out⟩, ⟨by refine nB ?_; refine blk_far ?_ NB478_485.out _; exact nB BK478.out⟩, ⟨by refine nB ?_; refine blk_far ?_ NB483_485.out _; exact nB BK483.out⟩, ⟨by refine nB ?_; refine blk_put (cs := #[.slice Ao98 x486000_2.length co98]) ?_ 0 _ rfl; exact nB BK485.out⟩, ⟨uL HB⟩⟩
   ·have c42b0 : decide (x12_2 < (n : Int)) = false := decide_eq_false c42
    obtain rfl : x12_2 = (n : Int) := by have := HG.out; omega
    clear c42
    have HDn := aM (show x486000_2 = D n from HD.out)
    have c121b0 : (t505 == t505) = true := by simp
    have c121b1 : decide (t505 = t505) = true := by simp
    have c124c : ((n : Int) == 0) = true ∧ ((n : Int) != 0) = false ∨ n ≠ 0 ∧ ((n : Int) == 0) = false ∧ ((n : Int) != 0) = true := by
      by_cases hz : n = 0
      · exact .inl ⟨by simp [hz], by simp [hz]⟩
      · exact .inr ⟨hz, by simp [hz], by simp [hz]⟩
    have A150b := aM (show n ≠ 0 → laws_sameDisk.f k x486000_2 t474 = some true from fun h => by rw [HDn.out]; exact A150.out h)
    obtain ⟨c124b0, c124b1⟩ | ⟨hz, c124b0, c124b1⟩ := c124c
    all_goals
     have hnb151 := NB473_478.out; have hnc151 := NB478_473.out; have hnb152 := NB473_483.out; have hnc152 := NB483_473.out; have hnb153 := NB473_485.out; have hnc153 := NB485_473.out
     have hcz154_0 := czA BK473.out 0 (.slice Ao10 t463.length co10)
     have hfz154_0 := blk_frozen BK473.out 0
     obtain ⟨Ao155, co155, eo155⟩ := Kd.R_slice HO_6.out
     subst eo155
     go_wp2_with (first | ((with_reducible refine gate_callee (f := 48) rfl ?_); refine gL (some 128) Try.func48 #[.agg #[.slice Ao10 t463.length co10], .slice Ao12 t466.length co12, .int .i64 t469, .slice Ao155 t470.length co155] ?_; (with_reducible refine (impl_CutActs.calls k _ _ t463 _ _ t466 t469 _ _ t470 t502 t505 _ ?side1 ?side2 ?side3 ?side4 ?side5 ?side6 A119.out).mono ?_); (case side1 => repeat (first | exact (Kd.R_reads' HO_474000.out).2.2 | (with_reducible refine cA ?_ _) | (with_reducible refine cN ?_ _) | (with_reducible refine cD ?_))); (case side2 => exact (Kd.R_reads' HO_474000.out).2.1); (case side3 => repeat (first | exact (Kd.R_reads' HO_4.out).2.2 | (with_reducible refine cA ?_ _) | (with_reducible refine cN ?_ _) | (with_reducible refine cD ?_))); (case side4 => exact (Kd.R_reads' HO_4.out).2.1); (case side5 => repeat (first | exact (Kd.R_reads' HO_6.out).2.2 | (with_reducible refine cA ?_ _) | (with_reducible refine cN ?_ _) | (with_reducible refine cD ?_))); (case side6 => exact (Kd.R_reads' HO_6.out).2.1); rintro e w156 ⟨v503, rfl, ho0, hb⟩; refine ⟨_, rfl, ?_⟩; have HO504 := aM (Kd.R_lower (Kd.R_new' (Kd.R_new' (Kd.R_new' (Kd.R_new' ho0 (Kd.R_lt (uR HO_474000))) (Kd.R_lt (uR HO_479000))) (Kd.R_lt (uR HO_484000))) (Kd.R_lt (uR HO_486000))) (below_size (uL HB))); replace HO_4 := rb_ HO_4 hb; replace HO_6 := rb_ HO_6 hb; replace HO_474000 := aM (Kd.R_elder' (uR HO_474000) (Kd.R_base ho0) hb); replace HO_479000 := aM (Kd.R_elder' (uR HO_479000) (Kd.R_base ho0) hb); replace HO_484000 := aM (Kd.R_elder' (uR HO_484000) (Kd.R_base ho0) hb); replace HO_486000 := aM (Kd.R_elder' (uR HO_486000) (Kd.R_base ho0) hb); replace BK473 := blkB BK473 hb; replace BK478 := blkB BK478 hb; replace BK483 := blkB BK483 hb; replace BK485 := blkB BK485 hb; replace HB := aM (below_step (uL HB) hb); try clear hb ho0) | ((with_reducible refine gate_dst (N := 19) rfl ?_); refine bxE 19 #[.slice none 0 0] 30 ?_; intro gb506 hg w157 hbox hb; have BK506 := aM (hbox); have GW506 := szG hg (uL HB); have GE506 := szG hg (uL HB); have NB473_506 := neL hg BK473; have NB506_473 := neG hg BK473; have NB478_506 := neL hg BK478; have NB506_478 := neG hg BK478; have NB483_506 := neL hg BK483; have NB506_483 := neG hg BK483; have NB485_506 := neL hg BK485; have NB506_485 := neG hg BK485; replace HO_4 := rb_ HO_4 hb; replace HO_6 := rb_ HO_6 hb; replace HO_474000 := rb_ HO_474000 hb; replace HO_479000 := rb_ HO_479000 hb; replace HO_484000 := rb_ HO_484000 hb; replace HO_486000 := rb_ HO_486000 hb; replace HO504 := rb_ HO504 hb; replace BK473 := blkB BK473 hb; replace BK478 := blkB BK478 hb; replace BK483 := blkB BK483 hb; replace BK485 := blkB BK485 hb; replace HB := aM (below_step (uL HB) hb); clear hb hbox hg; obtain ⟨Ao158, co158, eo158⟩ := Kd.R_slice HO504.out; subst eo158; have hnb159 := NB506_473.out; have hnc159 := NB473_506.out; have hnb160 := NB506_478.out; have hnc160 := NB478_506.out; have hnb161 := NB506_483.out; have hnc161 := NB483_506.out; have hnb162 := NB506_485.out; have hnc162 := NB485_506.out; have hcz163_0 := czA BK506.out 0 (.slice none 0 0); have hfz163_0 := blk_frozen BK506.out 0; have hcz164_0 := czA BK473.out 0 (.slice Ao10 t463.length co10); have hfz164_0 := blk_frozen BK473.out 0) | ((with_reducible refine gate_callee (f := 49) rfl ?_); refine gL (some 136) Try.func49 #[.agg #[.slice Ao10 t463.length co10], .slice Ao12 t466.length co12, .int .i64 t469, .slice Ao155 t470.length co155] ?_; (with_reducible refine (spec_CutActs.calls k _ _ t463 _ _ t466 t469 _ _ t470 t502 t505 _ ?side1 ?side2 ?side3 ?side4 ?side5 ?side6 A120.out).mono ?_); (case side1 => refine (Kd.R_reads' (e := 45) (base := w.heap.size) (ok := fun k_ => ((some k_ ≠ (.slice Ao15 t474.length co15 : Value).ownBlock ∧ some k_ ≠ (.slice Ao21 t474.length co21 : Value).ownBlock) ∧ some k_ ≠ (.slice Ao158 t502.length co158 : Value).ownBlock)) (n := t463.length) (c := co10) ?_).2.2; exact (by (with_reducible repeat first | apply rA | apply rN | apply rD); exact (rs_ HO_474000 BK506 _ (fun _ h_ => h_.1)))); (case side2 => exact (Kd.R_reads' HO_474000.out).2.1); (case side3 => refine (Kd.R_reads' (e := 55) (base := w.heap.size) (ok := fun k_ => True) (n := t466.length) (c := co12) ?_).2.2; exact (by (with_reducible repeat first | apply rA | apply rN | apply rD); exact (rs_ HO_4 BK506 _ (fun _ h_ => h_.1)))); (case side4 => exact (Kd.R_reads' HO_4.out).2.1); (case side5 => refine (Kd.R_reads' (e := 3) (base := w.heap.size) (ok := fun k_ => True) (n := t470.length) (c := co155) ?_).2.2; exact (by (with_reducible repeat first | apply rA | apply rN | apply rD); exact (rs_ HO_6 BK506 _ (fun _ h_ => h_.1)))); (case side6 => exact (Kd.R_reads' HO_6.out).2.1); rintro e w165 ⟨v508, rfl, ho0, hb⟩; refine ⟨_, rfl, ?_⟩; have HO509 := aM (Kd.R_lower (Kd.R_new' (Kd.R_new' (Kd.R_new' (Kd.R_new' (Kd.R_new' ho0 (Kd.R_lt (by (with_reducible repeat first | apply rA | apply rN | apply rD); exact (rs_ HO_474000 BK506 _ (fun _ h_ => h_.1))))) (Kd.R_lt (by (with_reducible repeat first | apply rA | apply rN | apply rD); exact (rs_ HO_479000 BK506 _ (fun _ h_ => h_.1))))) (Kd.R_lt (by (with_reducible repeat first | apply rA | apply rN | apply rD); exact (rs_ HO_484000 BK506 _ (fun _ h_ => h_.1))))) (Kd.R_lt (by (with_reducible repeat first | apply rA | apply rN | apply rD); exact (rs_ HO_486000 BK506 _ (fun _ h_ => h_.1))))) (Kd.R_lt (by (with_reducible repeat first | apply rA | apply rN | apply rD); exact (rs_ HO504 BK506 _ (fun _ h_ => h_.1))))) (below_size (uL HB))); replace HO_4 := aM (Kd.R_below (by (with_reducible repeat first | apply rA | apply rN | apply rD); exact (rs_ HO_4 BK506 _ (fun _ h_ => h_.1))) hb); replace HO_6 := aM (Kd.R_below (by (with_reducible repeat first | apply rA | apply rN | apply rD); exact (rs_ HO_6 BK506 _ (fun _ h_ => h_.1))) hb); replace HO_474000 := aM (Kd.R_elder' (by (with_reducible repeat first | apply rA | apply rN | apply rD); exact (rs_ HO_474000 BK506 _ (fun _ h_ => h_.1))) (Kd.R_base ho0) hb); replace HO_479000 := aM (Kd.R_elder' (by (with_reducible repeat first | apply rA | apply rN | apply rD); exact (rs_ HO_479000 BK506 _ (fun _ h_ => h_.1))) (Kd.R_base ho0) hb); replace HO_484000 := aM (Kd.R_elder' (by (with_reducible repeat first | apply rA | apply rN | apply rD); exact (rs_ HO_484000 BK506 _ (fun _ h_ => h_.1))) (Kd.R_base ho0) hb); replace HO_486000 := aM (Kd.R_elder' (by (with_reducible repeat first | apply rA | apply rN | apply rD); exact (rs_ HO_486000 BK506 _ (fun _ h_ => h_.1))) (Kd.R_base ho0) hb); replace HO504 := aM (Kd.R_elder' (by (with_reducible repeat first | apply rA | apply rN | apply rD); exact (rs_ HO504 BK506 _ (fun _ h_ => h_.1))) (Kd.R_base ho0) hb); replace BK473 := blkB BK473 hb; replace BK478 := blkB BK478 hb; replace BK483 := blkB BK483 hb; replace BK485 := blkB BK485 hb; replace BK506 := aM (blk_below (g := gb506) (o := .cells #[.slice Ao158 t502.length co158] 30 (0, 0)) (by refine nB ?_; refine blk_put (cs := #[.slice none 0 0]) ?_ 0 _ rfl; exact nB BK506.out) hb); replace HB := aM (below_step (uL HB) hb); try clear hb ho0) | ((with_reducible refine gate_dst (N := 21) rfl ?_); refine bxE 21 #[.slice none 0 0] 30 ?_; intro gb511 hg w166 hbox hb; have BK511 := aM (hbox); have GW511 := szG hg (uL HB); have GE511 := szG hg (uL HB); have NB473_511 := neL hg BK473; have NB511_473 := neG hg BK473; have NB478_511 := neL hg BK478; have NB511_478 := neG hg BK478; have NB483_511 := neL hg BK483; have NB511_483 := neG hg BK483; have NB485_511 := neL hg BK485; have NB511_485 := neG hg BK485; have NB506_511 := neL hg BK506; have NB511_506 := neG hg BK506; replace HO_4 := rb_ HO_4 hb; replace HO_6 := rb_ HO_6 hb; replace HO_474000 := rb_ HO_474000 hb; replace HO_479000 := rb_ HO_479000 hb; replace HO_484000 := rb_ HO_484000 hb; replace HO_486000 := rb_ HO_486000 hb; replace HO504 := rb_ HO504 hb; replace HO509 := rb_ HO509 hb; replace BK473 := blkB BK473 hb; replace BK478 := blkB BK478 hb; replace BK483 := blkB BK483 hb; replace BK485 := blkB BK485 hb; replace BK506 := blkB BK506 hb; replace HB := aM (below_step (uL HB) hb); clear hb hbox hg; obtain ⟨Ao167, co167, eo167⟩ := Kd.R_slice HO509.out; subst eo167; have hnb168 := NB511_473.out; have hnc168 := NB473_511.out; have hnb169 := NB511_478.out; have hnc169 := NB478_511.out; have hnb170 := NB511_483.out; have hnc170 := NB483_511.out; have hnb171 := NB511_485.out; have hnc171 := NB485_511.out; have hnb172 := NB511_506.out; have hnc172 := NB506_511.out; have hcz173_0 := czA BK511.out 0 (.slice none 0 0); have hfz173_0 := blk_frozen BK511.out 0; have hcz174_0 := czA BK506.out 0 (.slice Ao158 t502.length co158); have hfz174_0 := blk_frozen BK506.out 0) | (go_at_call 29; (with_reducible refine (laws_sameDisk.calls k _ _ t502 _ _ t502 true _ ?side1 ?side2 ?side3 ?side4 A122.out).mono ?_); (case side1 => refine (Kd.R_reads' (e := 45) (base := w.heap.size) (ok := fun k_ => (((((True ∧ some k_ ≠ (.slice Ao10 t463.length co10 : Value).ownBlock) ∧ some k_ ≠ (.slice Ao15 t474.length co15 : Value).ownBlock) ∧ some k_ ≠ (.slice Ao21 t474.length co21 : Value).ownBlock) ∧ some k_ ≠ (u486000 : Value).ownBlock) ∧ some k_ ≠ (.slice Ao167 t502.length co167 : Value).ownBlock)) (n := t502.length) (c := co158) ?_).2.2; exact (by (with_reducible repeat first | apply rA | apply rN | apply rD); exact (rs_ HO504 BK511 _ (fun _ h_ => h_.1)))); (case side2 => exact (Kd.R_reads' HO504.out).2.1); (case side3 => refine (Kd.R_reads' (e := 45) (base := w.heap.size) (ok := fun k_ => (((((True ∧ some k_ ≠ (.slice Ao10 t463.length co10 : Value).ownBlock) ∧ some k_ ≠ (.slice Ao15 t474.length co15 : Value).ownBlock) ∧ some k_ ≠ (.slice Ao21 t474.length co21 : Value).ownBlock) ∧ some k_ ≠ (u486000 : Value).ownBlock) ∧ some k_ ≠ (.slice Ao158 t502.length co158 : Value).ownBlock)) (n := t502.length) (c := co167) ?_).2.2; exact (by (with_reducible repeat first | apply rA | apply rN | apply rD); exact (rs_ HO509 BK511 _ (fun _ h_ => h_.1)))); (case side4 => exact (Kd.R_reads' HO509.out).2.1); rintro e w175 ⟨rfl, hb⟩; replace HO_4 := aM (Kd.R_below (by (with_reducible repeat first | apply rA | apply rN | apply rD); exact (rs_ HO_4 BK511 _ (fun _ h_ => h_.1))) hb); replace HO_6 := aM (Kd.R_below (by (with_reducible repeat first | apply rA | apply rN | apply rD); exact (rs_ HO_6 BK511 _ (fun _ h_ => h_.1))) hb); replace HO_474000 := aM (Kd.R_below (by (with_reducible repeat first | apply rA | apply rN | apply rD); exact (rs_ HO_474000 BK511 _ (fun _ h_ => h_.1))) hb); replace HO_479000 := aM (Kd.R_below (by (with_reducible repeat first | apply rA | apply rN | apply rD); exact (rs_ HO_479000 BK511 _ (fun _ h_ => h_.1))) hb); replace HO_484000 := aM (Kd.R_below (by (with_reducible repeat first | apply rA | apply rN | apply rD); exact (rs_ HO_484000 BK511 _ (fun _ h_ => h_.1))) hb); replace HO_486000 := aM (Kd.R_below (by (with_reducible repeat first | apply rA | apply rN | apply rD); exact (rs_ HO_486000 BK511 _ (fun _ h_ => h_.1))) hb); replace HO504 := aM (Kd.R_below (by (with_reducible repeat first | apply rA | apply rN | apply rD); exact (rs_ HO504 BK511 _ (fun _ h_ => h_.1))) hb); replace HO509 := aM (Kd.R_below (by (with_reducible repeat first | apply rA | apply rN | apply rD); exact (rs_ HO509 BK511 _ (fun _ h_ => h_.1))) hb); replace BK473 := blkB BK473 hb; replace BK478 := blkB BK478 hb; replace BK483 := blkB BK483 hb; replace BK485 := blkB BK485 hb; replace BK506 := blkB BK506 hb; replace BK511 := aM (blk_below (g := gb511) (o := .cells #[.slice Ao167 t502.length co167] 30 (0, 0)) (by refine nB ?_; refine blk_put (cs := #[.slice none 0 0]) ?_ 0 _ rfl; exact nB BK511.out) hb); replace HB := aM (below_step (uL HB) hb); try clear hb; have hnb176 := NB485_478.out; have hnc176 := NB478_485.out; have hnb177 := NB485_483.out; have hnc177 := NB483_485.out; have hcz178_0 := czA BK485.out 0 (u486000); have hfz178_0 := blk_frozen BK485.out 0; have hnb179 := NB478_483.out; have hnc179 := NB483_478.out; have hcz180_0 := czA BK478.out 0 (.slice Ao15 t474.length co15); have hfz180_0 := blk_frozen BK478.out 0; obtain ⟨Ao181, co181, eo181⟩ := Kd.R_slice HO_486000.out; subst eo181) | (go_at_call 29; (with_reducible refine (laws_sameDisk.calls k _ _ x486000_2 _ _ t474 true _ ?side1 ?side2 ?side3 ?side4 (A150b.out hz)).mono ?_); (case side1 => repeat (first | exact (Kd.R_reads' HO_486000.out).2.2 | (with_reducible refine cA ?_ _) | (with_reducible refine cN ?_ _) | (with_reducible refine cD ?_))); (case side2 => exact (Kd.R_reads' HO_486000.out).2.1); (case side3 => repeat (first | exact (Kd.R_reads' HO_479000.out).2.2 | (with_reducible refine cA ?_ _) | (with_reducible refine cN ?_ _) | (with_reducible refine cD ?_))); (case side4 => exact (Kd.R_reads' HO_479000.out).2.1); rintro e w182 ⟨rfl, hb⟩; replace HO_4 := rb_ HO_4 hb; replace HO_6 := rb_ HO_6 hb; replace HO_474000 := rb_ HO_474000 hb; replace HO_479000 := rb_ HO_479000 hb; replace HO_484000 := rb_ HO_484000 hb; replace HO_486000 := rb_ HO_486000 hb; replace HO504 := rb_ HO504 hb; replace HO509 := rb_ HO509 hb; replace BK473 := blkB BK473 hb; replace BK478 := blkB BK478 hb; replace BK483 := blkB BK483 hb; replace BK485 := blkB BK485 hb; replace BK506 := blkB BK506 hb; replace BK511 := blkB BK511 hb; replace HB := aM (below_step (uL HB) hb); try clear hb))
     go_ret
     exact rX HB
set_option maxHeartbeats 8000000 in
set_option maxRecDepth 100000 in
theorem laws_FnActs.long (A0 : Option Addr) (c0 : Nat) (l0 : List Int) (w : World) (hr0 : Kd.C (Kd.int .u8) w A0 l0.length l0) (hc0 : l0.length ≤ c0) (hn : 1048576 < l0.length) :
 Calls Try.prog 10 #[.slice A0 l0.length c0] w fun e w' => e = .returned (.bool true) ∧ Below w.heap.size w w' := by
 have HR0 := aM hr0
 have HC0 := aM hc0
 have A0_ := aM (show laws_big.f l0 = some true from congrArg some (decide_eq_true (by omega)))
 clear hr0 hc0 hn
 have HB := aM (Below.refl w.heap.size w)
 go_enter Try.func10, Try.ntmps10
 go_wp2_with (first | (go_at_call 24; (with_reducible refine (laws_big.calls A0 c0 l0 true _ (uC HR0 HB) HC0.out A0_.out).mono ?_); rintro e w9 ⟨rfl, nd, rfl⟩))
 go_ret
 exact ⟨rfl, uL HB⟩
/-- what is asked of the draws, the disks and the acts that the law goes through -/
def laws_FnActs.Fine (k : Nat) (l0 : List Int) : Prop := 1048576 < l0.length ∨ ∃ d q whole left n D now X Y hx hy cut may, laws_FnActs.Facts k l0 d q whole left n D now X Y hx hy cut may
open Classical in
noncomputable def laws_FnActs.f (k : Nat) (l0 : List Int) : Option (Bool) := if laws_FnActs.Fine k l0 then some true else none
theorem laws_FnActs.calls (k : Nat) (A0 : Option Addr) (c0 : Nat) (l0 : List Int) (r : Bool) (w : World) (hr0 : Kd.C (Kd.int .u8) w A0 l0.length l0) (hc0 : l0.length ≤ c0) (h : laws_FnActs.f k l0 = some r) :
 Calls Try.prog 10 #[.slice A0 l0.length c0] w fun e w' => e = .returned (.bool r) ∧ Below w.heap.size w w' := by
 unfold laws_FnActs.f at h
 by_cases hf : laws_FnActs.Fine k l0
 · rw [if_pos hf] at h
   obtain rfl := Option.some.inj h
   rcases hf with hn | ⟨d, q, a, z, n, D, now, X, Y, hx, hy, cut, may, F⟩
   · exact laws_FnActs.long A0 c0 l0 w hr0 hc0 hn
   · exact laws_FnActs.go k A0 c0 l0 d now cut q a z n D X Y hx hy may w hr0 hc0 F
 · rw [if_neg hf] at h
   cases h
/-- THE ONE PURE STATEMENT of laws_FnActs: yours. -/
def laws_FnActs.Pure : Prop := ∀ (l0 : List Int), l0.length ≤ maxLen → l0.length * 1 ≤ 140737488351232 → (∀ x ∈ l0, (Lit.int .u8 x).wf = true) → ∃ k, laws_FnActs.f k l0 = some true

end Go.Proofs.Ytidfhfaekdahpaa.QFnActs
