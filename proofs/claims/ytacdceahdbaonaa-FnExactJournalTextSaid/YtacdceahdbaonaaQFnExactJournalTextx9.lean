-- Own work (wip/turnprint.py over the kit's print).
import Derived.Test.YtacdceahdbaonaaQFnExactJournalTextx0
import Derived.Test.YtacdceahdbaonaaQFnExactJournalTextx7
import Derived.Test.YtacdceahdbaonaaQFnExactJournalTextx8
namespace Go.Proofs.Ytacdceahdbaonaa.QFnExactJournalText
open Go.RowKit Go.Proofs.YtacdceahdbaonaaW.PrintWords Go.Proofs.YtacdceahdbaonaaW.PrintLast Go.Proofs.YtacdceahdbaonaaW.PrintMore
attribute [local go_sem] max2_int min2_int max_two min_two max_three min_three max_four min_four   -- for this text's walks alone
set_option linter.unusedVariables false
set_option linter.unusedSimpArgs false

/-! ### impl_entryText: function 54 -/
def impl_entryText.f (k : Nat) (a0 : Int) (a1_0 : Int) (a1_1 : Int) (a1_2 : ByteArray) : Option (ByteArray) := (impl_varText.f k a0).bind fun t274 => (if 1 + t274.size ≤ 9223372036854775807 then ((impl_varText.f k a1_0).bind fun t275 => (if ((⟨#[69]⟩ : ByteArray) ++ t274).size + t275.size ≤ 9223372036854775807 then ((impl_octets.f k (([a1_1] : List Int))).bind fun t279 => (if (((⟨#[69]⟩ : ByteArray) ++ t274) ++ t275).size + t279.size ≤ 9223372036854775807 then (if ((((⟨#[69]⟩ : ByteArray) ++ t274) ++ t275) ++ t279).size + a1_2.size ≤ 9223372036854775807 then (some (((((⟨#[69]⟩ : ByteArray) ++ t274) ++ t275) ++ t279) ++ a1_2)) else (none)) else (none))) else (none))) else (none))
theorem impl_entryText.mono : ∀ a0 a1 a2 a3 k, LeO (impl_entryText.f k a0 a1 a2 a3) (impl_entryText.f (k + 1) a0 a1 a2 a3) := by
 intro a0 a1 a2 a3 k
 unfold impl_entryText.f
 repeat' first
  | (with_reducible exact impl_octets.mono _ _)
  | (with_reducible exact impl_varText.mono _ _)
  | (with_reducible exact LeO.refl _)
  | (with_reducible exact LeO.none _)
  | (with_reducible refine LeO.ite ?_ ?_)
  | (with_reducible refine LeO.bind ?_ (fun _ => ?_))
  | exact impl_octets.mono _ _
  | exact impl_varText.mono _ _
  | exact LeO.none _
  | refine LeO.ite ?_ ?_
  | refine LeO.bind ?_ (fun _ => ?_)
def impl_entryText.T1 : Bool × List (List Nat × List Nat) := (true, [([], []), ([0], [0]), ([1], [1]), ([], []), ([3], [3]), ([4, 1], [4]), ([2, 5], [2, 5]), ([], []), ([7], [7]), ([8], [8]), ([9, 5], [9]), ([6, 10], [6, 10]), ([], []), ([12], [12]), ([11, 13], [11, 13]), ([14, 10, 0, 1, 2, 3, 4, 5, 6, 7, 8, 9, 10, 11, 12, 13, 14], [14])])
def impl_entryText.B1 : List Nat := [0, 1, 3, 0, 8, 27, 63, 0, 128, 384, 955, 2047, 0, 4096, 16383, 32767]
theorem impl_entryText.tab1 : rtab .any (opsOf Try.f54 1) = impl_entryText.T1 := by kernel_rfl
theorem impl_entryText.bits1 : waitsOk impl_entryText.T1.2 impl_entryText.B1 = true := by kernel_rfl
set_option maxHeartbeats 8000000 in
set_option maxRecDepth 100000 in
theorem impl_entryText.calls (k : Nat) (a0 : Int) (a1_0 : Int) (a1_1 : Int) (a1_2 : ByteArray) (r : ByteArray) (w : World) (h : impl_entryText.f k a0 a1_0 a1_1 a1_2 = some r) :
 Calls Try.prog 54 #[.int .i64 a0, .agg #[.int .i64 a1_0, .int .i64 a1_1, .string a1_2]] w fun e w' => e = .returned (.string r) ∧ Below w.heap.size w w' := by
 have hu40 := Try.underlying40
 have HB := aM (Below.refl w.heap.size w)
 have H : ((impl_varText.f k a0).bind fun t274 => (if 1 + t274.size ≤ 9223372036854775807 then ((impl_varText.f k a1_0).bind fun t275 => (if ((⟨#[69]⟩ : ByteArray) ++ t274).size + t275.size ≤ 9223372036854775807 then ((impl_octets.f k (([a1_1] : List Int))).bind fun t279 => (if (((⟨#[69]⟩ : ByteArray) ++ t274) ++ t275).size + t279.size ≤ 9223372036854775807 then (if ((((⟨#[69]⟩ : ByteArray) ++ t274) ++ t275) ++ t279).size + a1_2.size ≤ 9223372036854775807 then (some (((((⟨#[69]⟩ : ByteArray) ++ t274) ++ t275) ++ t279) ++ a1_2)) else (none)) else (none))) else (none))) else (none))) = some r := h
 clear h
 replace H := Option.bind_eq_some_iff.mp H
 obtain ⟨t274, A30, H⟩ := H
 try dsimp only at H
 have A3 := aM A30
 clear A30
 by_cases c4 : 1 + t274.size ≤ 9223372036854775807
 ·rw [if_pos c4] at H
  have c4b0 := eq_true c4
  have c4b1 : decide (1 + t274.size ≤ 9223372036854775807) = true := decide_eq_true c4
  try have c4b2 : (9223372036854775807 < 1 + t274.size) = False := eq_false (Nat.not_lt.2 c4)
  replace H := Option.bind_eq_some_iff.mp H
  obtain ⟨t275, A50, H⟩ := H
  try dsimp only at H
  have A5 := aM A50
  clear A50
  by_cases c6 : ((⟨#[69]⟩ : ByteArray) ++ t274).size + t275.size ≤ 9223372036854775807
  ·rw [if_pos c6] at H
   have c6b0 := eq_true c6
   have c6b1 : decide (((⟨#[69]⟩ : ByteArray) ++ t274).size + t275.size ≤ 9223372036854775807) = true := decide_eq_true c6
   try have c6b2 : (9223372036854775807 < ((⟨#[69]⟩ : ByteArray) ++ t274).size + t275.size) = False := eq_false (Nat.not_lt.2 c6)
   try have c6b3 : (9223372036854775807 < 1 + t274.size + t275.size) = False := eq_false (Nat.not_lt.2 (by have h_ := c6; simp only [ByteArray.size_append] at h_; exact h_))
   obtain ⟨y276, hy276⟩ : ∃ y_ : List Int, y_ = (([a1_1] : List Int)) := ⟨_, rfl⟩
   replace H : ((impl_octets.f k y276).bind fun t279 => (if (((⟨#[69]⟩ : ByteArray) ++ t274) ++ t275).size + t279.size ≤ 9223372036854775807 then (if ((((⟨#[69]⟩ : ByteArray) ++ t274) ++ t275) ++ t279).size + a1_2.size ≤ 9223372036854775807 then (some (((((⟨#[69]⟩ : ByteArray) ++ t274) ++ t275) ++ t279) ++ a1_2)) else (none)) else (none))) = some r := by first | (rw [hy276]; with_reducible exact H) | (have H2_ := (Option.bind_some _ _).symm.trans H; rw [hy276]; with_reducible exact H2_) | (have H2_ := (Option.bind_some _ _).symm.trans H; with_reducible exact H2_) | with_reducible exact H | (rw [hy276]; exact H) | exact H
   have Ny276 := aM hy276
   clear hy276
   replace H := Option.bind_eq_some_iff.mp H
   obtain ⟨t279, A70, H⟩ := H
   try dsimp only at H
   have A7 := aM A70
   clear A70
   by_cases c8 : (((⟨#[69]⟩ : ByteArray) ++ t274) ++ t275).size + t279.size ≤ 9223372036854775807
   ·rw [if_pos c8] at H
    have c8b0 := eq_true c8
    have c8b1 : decide ((((⟨#[69]⟩ : ByteArray) ++ t274) ++ t275).size + t279.size ≤ 9223372036854775807) = true := decide_eq_true c8
    try have c8b2 : (9223372036854775807 < (((⟨#[69]⟩ : ByteArray) ++ t274) ++ t275).size + t279.size) = False := eq_false (Nat.not_lt.2 c8)
    try have c8b3 : (9223372036854775807 < 1 + t274.size + t275.size + t279.size) = False := eq_false (Nat.not_lt.2 (by have h_ := c8; simp only [ByteArray.size_append] at h_; exact h_))
    by_cases c9 : ((((⟨#[69]⟩ : ByteArray) ++ t274) ++ t275) ++ t279).size + a1_2.size ≤ 9223372036854775807
    ·rw [if_pos c9] at H
     have c9b0 := eq_true c9
     have c9b1 : decide (((((⟨#[69]⟩ : ByteArray) ++ t274) ++ t275) ++ t279).size + a1_2.size ≤ 9223372036854775807) = true := decide_eq_true c9
     try have c9b2 : (9223372036854775807 < ((((⟨#[69]⟩ : ByteArray) ++ t274) ++ t275) ++ t279).size + a1_2.size) = False := eq_false (Nat.not_lt.2 c9)
     try have c9b3 : (9223372036854775807 < 1 + t274.size + t275.size + t279.size + a1_2.size) = False := eq_false (Nat.not_lt.2 (by have h_ := c9; simp only [ByteArray.size_append] at h_; exact h_))
     obtain rfl := Option.some.inj H
     go_enter Try.func54, Try.ntmps54
     try go_wp2_with (first | ((with_reducible refine gate_dst (N := 3) rfl ?_); refine bxE 3 #[.int .i64 a1_0, .int .i64 a1_1, .string a1_2] 40 ?_; intro gb273 hg w10 hbox hb; have BK273 := aM (hbox); have GW273 := szG hg (uL HB); have GE273 := szG hg (uL HB); replace HB := aM (below_step (uL HB) hb); clear hb hbox hg))
     replace BK273 := aM (blk_drew BK273.out)
     replace HB := aM (below_drew1 HB.out)
     refine start_ (n := 16) (S := fun w' => True) (ds := []) (bB 16 0) (by kernel_rfl) rfl rfl trivial (fun hHeld => ?_); refine with_tabW impl_entryText.tab1 impl_entryText.bits1 (fun HT_ HW_ => ?_)
     generalize w10.drew = w11 at BK273 HB hHeld ⊢
     refine pA HT_.out 0 5 16 1 ?_; refine pA HT_.out 3 8 16 9 ?_; refine pA HT_.out 7 12 16 137 ?_; refine pA HT_.out 12 17 16 4233 ?_
     refine inv_at [1, 2, 4, 5, 6, 8, 9, 10, 11, 13, 14, 15] (fun a0_ b a w' => ∃ (v277 : Value), a = putSel a0_ b [(1, 6, .string t274), (2, 7, .string ((⟨#[69]⟩ : ByteArray) ++ t274)), (4, 9, .int .i64 a1_0), (5, 10, .string t275), (6, 11, .string (((⟨#[69]⟩ : ByteArray) ++ t274) ++ t275)), (8, 13, .int .i64 a1_1), (9, 14, v277), (10, 15, .string t279), (11, 16, .string ((((⟨#[69]⟩ : ByteArray) ++ t274) ++ t275) ++ t279)), (13, 18, .string a1_2), (14, 19, .string (((((⟨#[69]⟩ : ByteArray) ++ t274) ++ t275) ++ t279) ++ a1_2)), (15, 4, .string (((((⟨#[69]⟩ : ByteArray) ++ t274) ++ t275) ++ t279) ++ a1_2))] ∧ (w'.heap[gb273]? = some (.cells #[.int .i64 a1_0, .int .i64 a1_1, .string a1_2] 40 (0, 0))) ∧ (Below w.heap.size w w') ∧ (b 9 = true → Kd.R (Kd.int .i64) 3 w' w.heap.size (fun _ => True) v277 y276)) HT_.out HW_.out (by kernel_rfl) (by kernel_rfl) ?_ ?_ ?_
     ·exact ⟨.bool false, by simp only [putSel, Bool.false_eq_true, if_false], BK273.out, HB.out, fun h_ => absurd h_ (by decide)⟩
     ·skip
      clear BK273 HB
      refine steps_cons ?_ ?_
      ·rintro b a w' ⟨v277, ha, Q_BK273, Q_HB, Q_HO278⟩ hb_ hon hoff
       refine ⟨_, rfl, fun K hK => ?_⟩
       have e5 : a.tmps[5]? = some (.int .i64 a0) := by rw [ha]; exact (putSel_off rfl).trans rfl
       replace ha := aM ha
       have BK273 := aM Q_BK273
       have HB := aM Q_HB
       refine goes_ Try.func64 (by kernel_rfl) rfl #[.int .i64 a0] (by rfl) rfl rfl (by first | (simp only [List.map_toArray, List.map_cons, List.map_nil, Act.eval, Array.getD_eq_getD_getElem?, Option.getD_some, e5]; done) | (simp only [List.map_toArray, List.map_cons, List.map_nil, Act.eval, Array.getD_eq_getD_getElem?, Option.getD_some, e5]; rfl)) ?_
       with_reducible refine (impl_varText.calls k a0 t274 _ A3.out).mono ?_
       rintro e w12 ⟨rfl, hb⟩
       refine ⟨_, rfl, ?_⟩
       have n0_ := blkB BK273 hb
       have n1_ := aM (below_step (uL HB) hb)
       have z_HO278 := fun (h0_ : b 9 = true) => (show Kd.R (Kd.int .i64) 3 w12 w.heap.size (fun _ => True) v277 y276 from by first | exact (Kd.R_below (by (with_reducible repeat first | apply rA | apply rN | apply rD); exact (Q_HO278 h0_)) hb) | exact Kd.R_mono (Kd.R_below (by (with_reducible repeat first | apply rA | apply rN | apply rD); exact (Q_HO278 h0_)) hb) (fun _ h_ => by first | trivial | exact h_ | exact h_.1))
       clear BK273 HB; have BK273 := n0_; have HB := n1_; clear n0_ n1_
       (try clear hb)
       (try clear hb2)
       (try clear hk)
       (try clear hi)
       refine hK.out _ _ ⟨v277, (by rw [ha.out]; exact putSel_upk 0 hb_ rfl rfl rfl), (uB BK273), (uL HB), z_HO278⟩
      refine steps_cons ?_ ?_
      ·rintro b a w' ⟨v277, ha, Q_BK273, Q_HB, Q_HO278⟩ hb_ hon hoff
       refine ⟨_, rfl, fun K hK => ?_⟩
       have e6 : a.tmps[6]? = some (.string t274) := by rw [ha]; exact putSel_on (e := (1, 6, .string t274)) 0 rfl rfl (hon 1 (by kernel_rfl)) rfl
       replace ha := aM ha
       have BK273 := aM Q_BK273
       have HB := aM Q_HB
       refine value_ (w1 := w') (v := .string ((⟨#[69]⟩ : ByteArray) ++ t274)) (by rfl) rfl ?_ ?_
       ·go_simp
        (try simp only [i64_w])
        try rfl
       refine hK.out _ _ ⟨v277, (by rw [ha.out]; exact putSel_upk 1 hb_ rfl rfl rfl), Q_BK273, Q_HB, Q_HO278⟩
      refine steps_cons ?_ ?_
      ·rintro b a w' ⟨v277, ha, Q_BK273, Q_HB, Q_HO278⟩ hb_ hon hoff
       refine ⟨_, rfl, fun K hK => ?_⟩
       have e8 : a.tmps[8]? = some (.pointer (some ⟨gb273, 0, none⟩)) := by rw [ha]; exact (putSel_off rfl).trans rfl
       replace ha := aM ha
       have BK273 := aM Q_BK273
       have HB := aM Q_HB
       have hc0_ : w'.cell? ⟨gb273, 0, none⟩ = some (.int .i64 a1_0) := (blk_cell BK273.out 0).trans rfl
       have hc1_ : w'.cell? ⟨gb273, 1, none⟩ = some (.int .i64 a1_1) := (blk_cell BK273.out 1).trans rfl
       have hc2_ : w'.cell? ⟨gb273, 2, none⟩ = some (.string a1_2) := (blk_cell BK273.out 2).trans rfl
       refine value_ (w1 := w') (v := .int .i64 a1_0) (by rfl) rfl ?_ ?_
       ·go_simp
        (try simp only [i64_w])
        try rfl
       refine hK.out _ _ ⟨v277, (by rw [ha.out]; exact putSel_upk 2 hb_ rfl rfl rfl), Q_BK273, Q_HB, Q_HO278⟩
      refine steps_cons ?_ ?_
      ·rintro b a w' ⟨v277, ha, Q_BK273, Q_HB, Q_HO278⟩ hb_ hon hoff
       refine ⟨_, rfl, fun K hK => ?_⟩
       have e9 : a.tmps[9]? = some (.int .i64 a1_0) := by rw [ha]; exact putSel_on (e := (4, 9, .int .i64 a1_0)) 2 rfl rfl (hon 4 (by kernel_rfl)) rfl
       replace ha := aM ha
       have BK273 := aM Q_BK273
       have HB := aM Q_HB
       refine goes_ Try.func64 (by kernel_rfl) rfl #[.int .i64 a1_0] (by rfl) rfl rfl (by first | (simp only [List.map_toArray, List.map_cons, List.map_nil, Act.eval, Array.getD_eq_getD_getElem?, Option.getD_some, e9]; done) | (simp only [List.map_toArray, List.map_cons, List.map_nil, Act.eval, Array.getD_eq_getD_getElem?, Option.getD_some, e9]; rfl)) ?_
       with_reducible refine (impl_varText.calls k a1_0 t275 _ A5.out).mono ?_
       rintro e w14 ⟨rfl, hb⟩
       refine ⟨_, rfl, ?_⟩
       have n0_ := blkB BK273 hb
       have n1_ := aM (below_step (uL HB) hb)
       have z_HO278 := fun (h0_ : b 9 = true) => (show Kd.R (Kd.int .i64) 3 w14 w.heap.size (fun _ => True) v277 y276 from by first | exact (Kd.R_below (by (with_reducible repeat first | apply rA | apply rN | apply rD); exact (Q_HO278 h0_)) hb) | exact Kd.R_mono (Kd.R_below (by (with_reducible repeat first | apply rA | apply rN | apply rD); exact (Q_HO278 h0_)) hb) (fun _ h_ => by first | trivial | exact h_ | exact h_.1))
       clear BK273 HB; have BK273 := n0_; have HB := n1_; clear n0_ n1_
       (try clear hb)
       (try clear hb2)
       (try clear hk)
       (try clear hi)
       refine hK.out _ _ ⟨v277, (by rw [ha.out]; exact putSel_upk 3 hb_ rfl rfl rfl), (uB BK273), (uL HB), z_HO278⟩
      refine steps_cons ?_ ?_
      ·rintro b a w' ⟨v277, ha, Q_BK273, Q_HB, Q_HO278⟩ hb_ hon hoff
       refine ⟨_, rfl, fun K hK => ?_⟩
       have e7 : a.tmps[7]? = some (.string ((⟨#[69]⟩ : ByteArray) ++ t274)) := by rw [ha]; exact putSel_on (e := (2, 7, .string ((⟨#[69]⟩ : ByteArray) ++ t274))) 1 rfl rfl (hon 2 (by kernel_rfl)) rfl
       have e10 : a.tmps[10]? = some (.string t275) := by rw [ha]; exact putSel_on (e := (5, 10, .string t275)) 3 rfl rfl (hon 5 (by kernel_rfl)) rfl
       replace ha := aM ha
       have BK273 := aM Q_BK273
       have HB := aM Q_HB
       refine value_ (w1 := w') (v := .string (((⟨#[69]⟩ : ByteArray) ++ t274) ++ t275)) (by rfl) rfl ?_ ?_
       ·go_simp
        (try simp only [i64_w])
        try rfl
       refine hK.out _ _ ⟨v277, (by rw [ha.out]; exact putSel_upk 4 hb_ rfl rfl rfl), Q_BK273, Q_HB, Q_HO278⟩
      refine steps_cons ?_ ?_
      ·rintro b a w' ⟨v277, ha, Q_BK273, Q_HB, Q_HO278⟩ hb_ hon hoff
       refine ⟨_, rfl, fun K hK => ?_⟩
       have e12 : a.tmps[12]? = some (.pointer (some ⟨gb273, 1, none⟩)) := by rw [ha]; exact (putSel_off rfl).trans rfl
       replace ha := aM ha
       have BK273 := aM Q_BK273
       have HB := aM Q_HB
       have hc0_ : w'.cell? ⟨gb273, 0, none⟩ = some (.int .i64 a1_0) := (blk_cell BK273.out 0).trans rfl
       have hc1_ : w'.cell? ⟨gb273, 1, none⟩ = some (.int .i64 a1_1) := (blk_cell BK273.out 1).trans rfl
       have hc2_ : w'.cell? ⟨gb273, 2, none⟩ = some (.string a1_2) := (blk_cell BK273.out 2).trans rfl
       refine value_ (w1 := w') (v := .int .i64 a1_1) (by rfl) rfl ?_ ?_
       ·go_simp
        (try simp only [i64_w])
        try rfl
       refine hK.out _ _ ⟨v277, (by rw [ha.out]; exact putSel_upk 5 hb_ rfl rfl rfl), Q_BK273, Q_HB, fun h0_ => absurd ((hoff 9 (by kernel_rfl)).symm.trans h0_) (by decide)⟩
      refine steps_cons ?_ ?_
      ·rintro b a w' ⟨v277, ha, Q_BK273, Q_HB, Q_HO278⟩ hb_ hon hoff
       refine ⟨_, rfl, fun K hK => ?_⟩
       have e13 : a.tmps[13]? = some (.int .i64 a1_1) := by rw [ha]; exact putSel_on (e := (8, 13, .int .i64 a1_1)) 5 rfl rfl (hon 8 (by kernel_rfl)) rfl
       replace ha := aM ha
       have BK273 := aM Q_BK273
       have HB := aM Q_HB
       refine Kd.R_lit_step (Kd.int .i64) _ 3 ?hg (N := 14) ?hd (xs := ([a1_1] : List Int)) (inner := [.int .i64 a1_1]) (ok := fun _ => True) (okp := fun _ => True) ?hr ?hp (fun _ hk => hk) trivial (Below.refl _ _) (Nat.le_refl _) (by simp) ?_; (case hd => rfl); (case hg => rfl); (case hr => first | (go_simp; done) | (go_simp; rfl)); (case hp => exact (Reps.one (show Kd.M (Kd.int .i64) _ _ _ a1_1 [.int .i64 a1_1] from rfl) (Reps.none _ _)))
       intro v277 w12 ho13 hb hg_ hnew_
       clear hg_ hnew_
       (first | rw [← Ny276.out] at ho13 | (simp only [Int.reduceToNat] at ho13; rw [← Ny276.out] at ho13))
       have n0_ := aM (Kd.R_lower ho13 (below_size (uL HB)))
       have n1_ := blkB BK273 hb
       have n2_ := aM (below_step (uL HB) hb)
       clear BK273 HB; have HO278 := n0_; have BK273 := n1_; have HB := n2_; clear n0_ n1_ n2_ hb ho13
       refine hK.out _ _ ⟨v277, (by rw [ha.out]; exact putSel_upk 6 hb_ rfl rfl rfl), (uB BK273), (uL HB), fun _ => (uR HO278)⟩
      refine steps_cons ?_ ?_
      ·rintro b a w' ⟨v277, ha, Q_BK273, Q_HB, Q_HO278⟩ hb_ hon hoff
       refine ⟨_, rfl, fun K hK => ?_⟩
       have e14 : a.tmps[14]? = some (v277) := by rw [ha]; exact putSel_on (e := (9, 14, v277)) 6 rfl rfl (hon 9 (by kernel_rfl)) rfl
       replace ha := aM ha
       have BK273 := aM Q_BK273
       have HB := aM Q_HB
       have HO278 := aM (Q_HO278 (hon 9 (by kernel_rfl)))
       obtain ⟨Ao17, co17, eo17⟩ := Kd.R_slice HO278.out
       (first | subst eo17 | (injection eo17 with f1_ f2_ f3_; have f4_ := f1_.symm; have f5_ := f3_.symm; clear f1_ f2_ f3_; subst f4_; subst f5_))
       refine goes_ Try.func71 (by kernel_rfl) rfl #[.slice Ao17 y276.length co17] (by rfl) rfl rfl (by first | (simp only [List.map_toArray, List.map_cons, List.map_nil, Act.eval, Array.getD_eq_getD_getElem?, Option.getD_some, e14]; done) | (simp only [List.map_toArray, List.map_cons, List.map_nil, Act.eval, Array.getD_eq_getD_getElem?, Option.getD_some, e14]; rfl)) ?_
       with_reducible refine (impl_octets.calls k _ _ y276 t279 _ ?side1 ?side2 A7.out).mono ?_
       (case side1 => repeat (first | exact (Kd.R_reads' HO278.out).2.2 | (with_reducible refine cA ?_ _) | (with_reducible refine cN ?_ _) | (with_reducible refine cD ?_)))
       (case side2 => exact (Kd.R_reads' HO278.out).2.1)
       rintro e w18 ⟨rfl, hb⟩
       refine ⟨_, rfl, ?_⟩
       replace HO278 := aM (Kd.R_below (uR HO278) hb)
       replace BK273 := blkB BK273 hb
       replace HB := aM (below_step (uL HB) hb)
       (try clear hb)
       (try clear hb2)
       (try clear hk)
       (try clear hi)
       refine hK.out _ _ ⟨.slice Ao17 y276.length co17, (by rw [ha.out]; exact putSel_upk 7 hb_ rfl rfl rfl), (uB BK273), (uL HB), fun _ => (uR HO278)⟩
      refine steps_cons ?_ ?_
      ·rintro b a w' ⟨v277, ha, Q_BK273, Q_HB, Q_HO278⟩ hb_ hon hoff
       refine ⟨_, rfl, fun K hK => ?_⟩
       have e11 : a.tmps[11]? = some (.string (((⟨#[69]⟩ : ByteArray) ++ t274) ++ t275)) := by rw [ha]; exact putSel_on (e := (6, 11, .string (((⟨#[69]⟩ : ByteArray) ++ t274) ++ t275))) 4 rfl rfl (hon 6 (by kernel_rfl)) rfl
       have e15 : a.tmps[15]? = some (.string t279) := by rw [ha]; exact putSel_on (e := (10, 15, .string t279)) 7 rfl rfl (hon 10 (by kernel_rfl)) rfl
       replace ha := aM ha
       have BK273 := aM Q_BK273
       have HB := aM Q_HB
       have HO278 := aM (Q_HO278 (hon 9 (by kernel_rfl)))
       refine value_ (w1 := w') (v := .string ((((⟨#[69]⟩ : ByteArray) ++ t274) ++ t275) ++ t279)) (by rfl) rfl ?_ ?_
       ·go_simp
        (try simp only [i64_w])
        try rfl
       refine hK.out _ _ ⟨v277, (by rw [ha.out]; exact putSel_upk 8 hb_ rfl rfl rfl), Q_BK273, Q_HB, Q_HO278⟩
      refine steps_cons ?_ ?_
      ·rintro b a w' ⟨v277, ha, Q_BK273, Q_HB, Q_HO278⟩ hb_ hon hoff
       refine ⟨_, rfl, fun K hK => ?_⟩
       have e17 : a.tmps[17]? = some (.pointer (some ⟨gb273, 2, none⟩)) := by rw [ha]; exact (putSel_off rfl).trans rfl
       replace ha := aM ha
       have BK273 := aM Q_BK273
       have HB := aM Q_HB
       have hc0_ : w'.cell? ⟨gb273, 0, none⟩ = some (.int .i64 a1_0) := (blk_cell BK273.out 0).trans rfl
       have hc1_ : w'.cell? ⟨gb273, 1, none⟩ = some (.int .i64 a1_1) := (blk_cell BK273.out 1).trans rfl
       have hc2_ : w'.cell? ⟨gb273, 2, none⟩ = some (.string a1_2) := (blk_cell BK273.out 2).trans rfl
       refine value_ (w1 := w') (v := .string a1_2) (by rfl) rfl ?_ ?_
       ·go_simp
        (try simp only [i64_w])
        try rfl
       refine hK.out _ _ ⟨v277, (by rw [ha.out]; exact putSel_upk 9 hb_ rfl rfl rfl), Q_BK273, Q_HB, Q_HO278⟩
      refine steps_cons ?_ ?_
      ·rintro b a w' ⟨v277, ha, Q_BK273, Q_HB, Q_HO278⟩ hb_ hon hoff
       refine ⟨_, rfl, fun K hK => ?_⟩
       have e16 : a.tmps[16]? = some (.string ((((⟨#[69]⟩ : ByteArray) ++ t274) ++ t275) ++ t279)) := by rw [ha]; exact putSel_on (e := (11, 16, .string ((((⟨#[69]⟩ : ByteArray) ++ t274) ++ t275) ++ t279))) 8 rfl rfl (hon 11 (by kernel_rfl)) rfl
       have e18 : a.tmps[18]? = some (.string a1_2) := by rw [ha]; exact putSel_on (e := (13, 18, .string a1_2)) 9 rfl rfl (hon 13 (by kernel_rfl)) rfl
       replace ha := aM ha
       have BK273 := aM Q_BK273
       have HB := aM Q_HB
       have HO278 := aM (Q_HO278 (hon 9 (by kernel_rfl)))
       refine value_ (w1 := w') (v := .string (((((⟨#[69]⟩ : ByteArray) ++ t274) ++ t275) ++ t279) ++ a1_2)) (by rfl) rfl ?_ ?_
       ·go_simp
        (try simp only [i64_w])
        try rfl
       refine hK.out _ _ ⟨v277, (by rw [ha.out]; exact putSel_upk 10 hb_ rfl rfl rfl), Q_BK273, Q_HB, Q_HO278⟩
      refine steps_cons ?_ ?_
      ·rintro b a w' ⟨v277, ha, Q_BK273, Q_HB, Q_HO278⟩ hb_ hon hoff
       refine ⟨_, rfl, fun K hK => ?_⟩
       have e19 : a.tmps[19]? = some (.string (((((⟨#[69]⟩ : ByteArray) ++ t274) ++ t275) ++ t279) ++ a1_2)) := by rw [ha]; exact putSel_on (e := (14, 19, .string (((((⟨#[69]⟩ : ByteArray) ++ t274) ++ t275) ++ t279) ++ a1_2))) 10 rfl rfl (hon 14 (by kernel_rfl)) rfl
       replace ha := aM ha
       have BK273 := aM Q_BK273
       have HB := aM Q_HB
       have HO278 := aM (Q_HO278 (hon 9 (by kernel_rfl)))
       refine value_ (w1 := w') (v := .string (((((⟨#[69]⟩ : ByteArray) ++ t274) ++ t275) ++ t279) ++ a1_2)) (by rfl) rfl ?_ ?_
       ·go_simp
        (try simp only [i64_w])
        try rfl
       refine hK.out _ _ ⟨v277, (by rw [ha.out]; exact putSel_upk 11 hb_ rfl rfl rfl), Q_BK273, Q_HB, Q_HO278⟩
      exact steps_nil
     rintro b a w18 hall ⟨v277, ha, Q_BK273, Q_HB, Q_HO278⟩
     clear BK273 HB
     have hb1_ := hall 1 (by kernel_rfl)
     have hb2_ := hall 2 (by kernel_rfl)
     have hb4_ := hall 4 (by kernel_rfl)
     have hb5_ := hall 5 (by kernel_rfl)
     have hb6_ := hall 6 (by kernel_rfl)
     have hb8_ := hall 8 (by kernel_rfl)
     have hb9_ := hall 9 (by kernel_rfl)
     have hb10_ := hall 10 (by kernel_rfl)
     have hb11_ := hall 11 (by kernel_rfl)
     have hb13_ := hall 13 (by kernel_rfl)
     have hb14_ := hall 14 (by kernel_rfl)
     have hb15_ := hall 15 (by kernel_rfl)
     subst ha
     simp only [putSel, hb1_, hb2_, hb4_, hb5_, hb6_, hb8_, hb9_, hb10_, hb11_, hb13_, hb14_, hb15_, if_true, Act.put, List.setIfInBounds_toArray, List.set_cons_zero, List.set_cons_succ]
     have BK273 := aM Q_BK273
     clear Q_BK273
     have HB := aM Q_HB
     clear Q_HB
     have HO278 := aM (Q_HO278 hb9_)
     clear Q_HO278 hall hb1_ hb2_ hb4_ hb5_ hb6_ hb8_ hb9_ hb10_ hb11_ hb13_ hb14_ hb15_
     try go_wp2
     go_ret
     exact rX HB
    ·rw [if_neg c9] at H
     exact absurd H (by simp)
   ·rw [if_neg c8] at H
    exact absurd H (by simp)
  ·rw [if_neg c6] at H
   exact absurd H (by simp)
 ·rw [if_neg c4] at H
  exact absurd H (by simp)

/-! ### impl_entryFrames: function 66 (given by the session) -/
def impl_entryFrames.go (k : Nat) (s : Int) : List S40 → Nat → ByteArray → Option ByteArray
 | [], _, acc => some acc
 | e :: q, i, acc => (impl_entryText.f k (wrap64 (wrap64 (wrap64 (s + 1)) + (i : Int))) e.f0 e.f1 e.f2).bind fun t => (impl_frame.f k t).bind fun x => if acc.size + x.size ≤ 140737488355328 then impl_entryFrames.go k s q (i + 1) (acc ++ x) else none
def impl_entryFrames.f (k : Nat) (a0_0 : Int) (a0_1 : Int) (l0_2 : List S40) (a1 : Int) : Option ByteArray := if a1 = 0 ∧ l0_2.length ≤ 1099511627776 then impl_entryFrames.go k a0_0 l0_2 0 ⟨#[]⟩ else none
theorem impl_entryFrames.go_mono (k : Nat) (s : Int) : ∀ (q : List S40) (i : Nat) (acc : ByteArray), LeO (impl_entryFrames.go k s q i acc) (impl_entryFrames.go (k + 1) s q i acc)
 | [], _, _ => LeO.refl _
 | e :: q, i, acc => by
  unfold impl_entryFrames.go
  refine LeO.bind (impl_entryText.mono _ _ _ _ _) (fun t => LeO.bind (impl_frame.mono _ _) (fun x => ?_))
  exact LeO.ite (impl_entryFrames.go_mono k s q (i + 1) (acc ++ x)) (LeO.refl _)
theorem impl_entryFrames.mono : ∀ a0 a1 a2 a3 k, LeO (impl_entryFrames.f k a0 a1 a2 a3) (impl_entryFrames.f (k + 1) a0 a1 a2 a3) := by
 intro a0 a1 a2 a3 k
 unfold impl_entryFrames.f
 exact LeO.ite (impl_entryFrames.go_mono k _ _ _ _) (LeO.refl _)
theorem impl_entryFrames.drop (l : List S40) (i : Nat) (h : i < l.length) : l.drop i = rd_T40 l (i : Int) :: l.drop (i + 1) := by
 have e : rd_T40 l (i : Int) = l.getD i z40 := rfl
 rw [e, List.drop_eq_getElem_cons h, List.getD_eq_getElem?_getD, List.getElem?_eq_getElem h]
 rfl
theorem impl_entryFrames.cells (acc x : ByteArray) : Lib.byteCells acc.data.toList ++ Lib.strCells x = Lib.byteCells (acc ++ x).data.toList := by
 simp [Lib.byteCells, Lib.strCells]
set_option maxHeartbeats 8000000 in
set_option maxRecDepth 100000 in
theorem impl_entryFrames.calls (k : Nat) (a0_0 : Int) (a0_1 : Int) (A0_2 : Option Addr) (c0_2 : Nat) (l0_2 : List S40) (a1 : Int) (r : ByteArray) (w : World) (hr0_2 : Kd.C k40 w A0_2 l0_2.length l0_2) (hc0_2 : l0_2.length ≤ c0_2) (h : impl_entryFrames.f k a0_0 a0_1 l0_2 a1 = some r) :
 Calls Try.prog 66 #[.agg #[.int .i64 a0_0, .int .i64 a0_1, .slice A0_2 l0_2.length c0_2], .int .i64 a1] w fun e w' => e = .returned (.string r) ∧ Below w.heap.size w w' := by
 unfold impl_entryFrames.f at h
 by_cases hz : a1 = 0 ∧ l0_2.length ≤ 1099511627776
 case neg => rw [if_neg hz] at h; cases h
 rw [if_pos hz] at h
 obtain ⟨rfl, hlen⟩ := hz
 have HR := aM hr0_2
 have HC := aM hc0_2
 have HH := aM h
 have HB := aM (Below.refl w.heap.size w)
 clear hr0_2 hc0_2 h
 go_enter Try.func66, Try.ntmps66
 go_wp2_with (first | ((with_reducible refine gate_dst (N := 2) rfl ?_); refine bxE 2 #[.int .i64 a0_0, .int .i64 a0_1, .slice A0_2 l0_2.length c0_2] 30 ?_; intro gb hg w2 hbox hb; have BK := aM hbox; have HB2 := aM (below_step HB.out hb); clear HB hb hbox hg) | ((with_reducible refine gate_dst (N := 5) rfl ?_); refine bxE 5 #[.pointer none, .slice none 0 0] 94 ?_; intro gr hg w3 hbox hb; have HI := aM (Bld.fresh hbox); have GR := aM (show w.heap.size ≤ gr by rw [hg]; exact below_size HB2.out); have HG := aM (show gr ≤ w3.heap.size from Nat.le_of_lt (blk_lt hbox)); have NE := aM (show gb < gr by rw [hg]; exact blk_lt BK.out); have BK3 := aM (blk_below BK.out hb); have HB3 := aM (below_step HB2.out hb); clear BK hb hbox hg; have hcz0 := czA BK3.out 0 (.int .i64 a0_0); have hcz2 := czA BK3.out 2 (.slice A0_2 l0_2.length c0_2)))
 go_loopw [13] (fun v13 wr => ∃ (i : Nat) (acc : ByteArray), i ≤ l0_2.length ∧ v13 = .int .i64 (i : Int) ∧ Aside0 (impl_entryFrames.go k a0_0 (l0_2.drop i) i acc = some r) ∧ Aside0 (Lib.IsBuilder 94 5 gr gr (Lib.byteCells acc.data.toList) wr) ∧ Aside0 (wr.heap[gb]? = some (.cells #[.int .i64 a0_0, .int .i64 a0_1, .slice A0_2 l0_2.length c0_2] 30 (0, 0))) ∧ Aside0 (Below w.heap.size w wr) ∧ Aside0 (gr ≤ wr.heap.size)) (fun v13 wr => l0_2.length - (intOf v13).toNat)
 case atStart => exact ⟨0, ⟨#[]⟩, Nat.zero_le _, rfl, HH, HI, BK3, HB3, HG⟩
 case round =>
  clear HH HI HG HB2 BK3 HB3
  obtain ⟨i, acc, hi, rfl, HA, HI, BK, HB, HG⟩ := hrel
  by_cases hlt : i < l0_2.length
  ·have H := HA.out
   rw [impl_entryFrames.drop l0_2 i hlt] at H
   unfold impl_entryFrames.go at H
   obtain ⟨t, ht, H2⟩ := Option.bind_eq_some_iff.mp H
   obtain ⟨x, hx, H3⟩ := Option.bind_eq_some_iff.mp H2
   by_cases hsz : acc.size + x.size ≤ 140737488355328
   case neg => rw [if_neg hsz] at H3; cases H3
   rw [if_pos hsz] at H3
   have AT := aM ht
   have AX := aM hx
   have AN := aM H3
   have HSZ := aM hsz
   clear H H2 H3 ht hx hsz HA
   obtain ⟨ad, e, hx0, hx1, hx2⟩ := at_T40 HR.out (i : Int) (by omega) (by omega)
   cases e
   simp only [Int.toNat_natCast] at hx0 hx1 hx2
   have hx0 := hyB HB hx0
   have hx1 := hyB HB hx1
   have hx2 := hyB HB hx2
   have c1 : decide ((i : Int) < (l0_2.length : Int)) = true := decide_eq_true (by omega)
   have p1 : (0 ≤ (i : Int)) = True := eq_true (by omega)
   have q1 : ((i : Int) < (l0_2.length : Int)) = True := eq_true (by omega)
   have hcz0 := czA BK.out 0 (.int .i64 a0_0)
   have HBL := aM (show (Lib.byteCells acc.data.toList).length + x.size ≤ 140737488355328 by rw [Lib.byteCells_length]; exact HSZ.out)
   go_wp2_with (first | ((with_reducible refine gate_dst (N := 7) rfl ?_); (try (refine gate_guard (by rfl) ?_; dsimp only)); refine bxE 7 #[.int .i64 0, .int .i64 0, .string (⟨#[]⟩ : ByteArray)] 40 ?_; intro ge hg w4 hbox hb; have BE := aM hbox; have HW := aM hb; have BK4 := aM (blk_below BK.out hb); have NK := aM (show gb ≠ ge by rw [hg]; exact Nat.ne_of_lt (blk_lt BK.out)); have GI := aM (show wr.heap.size ≤ ge by rw [hg]; exact Nat.le_refl _); clear hb hbox hg; have hnb := NK.out; have hnc := NK.out.symm; have hcy0 := czA BE.out 0 (.int .i64 0); have hcy1 := czA BE.out 1 (.int .i64 0); have hcy2 := czA BE.out 2 (.string (⟨#[]⟩ : ByteArray)); have hfy0 := blk_frozen BE.out 0; have hfy1 := blk_frozen BE.out 1; have hfy2 := blk_frozen BE.out 2; have hcz4 := czA BK4.out 0 (.int .i64 a0_0)) | (go_at_call 54; refine (impl_entryText.calls k _ _ _ _ t _ AT.out).mono ?_; rintro e w5 ⟨rfl, hb5⟩; have HW5 := aM (below_step (uL HW) hb5); clear hb5) | (go_at_call 63; refine (impl_frame.calls k t x _ AX.out).mono ?_; rintro e w6 ⟨rfl, hb6⟩; have HW6 := aM (below_step (uL HW5) hb6); clear hb6) | (go_at_call 76; refine (Bld.write gr gr _ x _ (Bld.below HI.out (uL HW6)) HBL.out (Nat.le_trans HG.out (show wr.heap.size ≤ _ from (HW6.out).size))).mono ?_; rintro e w7 ⟨rfl, hI7, hb7⟩; have HW7 := aM hb7; have HI7 := aM hI7; clear hI7 hb7))
   refine ⟨⟨i + 1, acc ++ x, by omega, by rw [show (i : Int) + 1 = ((i + 1 : Nat) : Int) by omega], AN, ⟨?_⟩, ⟨(HW7.out.block gb NE.out).trans (blk_below BK.out HW6.out)⟩, ⟨(below_step HB.out HW6.out).trans (HW7.out.mono GR.out)⟩, ⟨?_⟩⟩, ?_⟩
   ·rw [← impl_entryFrames.cells]
    exact Or.inr HI7.out
   ·exact Nat.le_trans HG.out (Nat.le_trans HW6.out.size HW7.out.size)
   ·simp only [intOf]
    omega
  ·obtain rfl : i = l0_2.length := by omega
   have H := HA.out
   rw [List.drop_eq_nil_of_le (Nat.le_refl _)] at H
   unfold impl_entryFrames.go at H
   obtain rfl := Option.some.inj H
   clear H HA
   have c1 : decide ((l0_2.length : Int) < (l0_2.length : Int)) = false := decide_eq_false (by omega)
   go_wp2_with (first | (go_at_call 77; refine (Try.Builder_String_any gr gr acc.data.toList _ HI.out HG.out).mono ?_; rintro e w5 ⟨rfl, hb5⟩; have HB5 := aM hb5; clear hb5))
   go_ret
   exact ⟨rfl, HB.out.trans (HB5.out.mono GR.out)⟩

/-! ### impl_JournalText: function 42 -/
def impl_JournalText.f (k : Nat) (a0_0 : Int) (a0_1 : Int) (a0_2 : Int) (a0_3 : Int) (a0_4 : Int) (l0_5 : List (S40)) : Option (ByteArray × Bool) := (impl_JournalOk.f k a0_0 a0_1 a0_2 a0_3 a0_4 l0_5).bind fun t281 => (if t281 = true then ((impl_varText.f k a0_3).bind fun t282 => (if 1 + t282.size ≤ 9223372036854775807 then ((impl_varText.f k a0_4).bind fun t283 => (if ((⟨#[66]⟩ : ByteArray) ++ t282).size + t283.size ≤ 9223372036854775807 then ((impl_frame.f k (((⟨#[66]⟩ : ByteArray) ++ t282) ++ t283)).bind fun t284 => ((impl_headFrame.f k a0_1 a0_2).bind fun t285 => (if t284.size + t285.size ≤ 9223372036854775807 then ((impl_entryFrames.f k a0_3 a0_4 l0_5 0).bind fun t286 => (if (t284 ++ t285).size + t286.size ≤ 9223372036854775807 then (if (((t284 ++ t285) ++ t286).size : Int) > 20000 then (some ((⟨#[]⟩ : ByteArray), false)) else (some ((t284 ++ t285) ++ t286, true))) else (none))) else (none)))) else (none))) else (none))) else (some ((⟨#[]⟩ : ByteArray), false)))
theorem impl_JournalText.mono : ∀ a0 a1 a2 a3 a4 a5 k, LeO (impl_JournalText.f k a0 a1 a2 a3 a4 a5) (impl_JournalText.f (k + 1) a0 a1 a2 a3 a4 a5) := by
 intro a0 a1 a2 a3 a4 a5 k
 unfold impl_JournalText.f
 repeat' first
  | (with_reducible exact impl_JournalOk.mono _ _ _ _ _ _ _)
  | (with_reducible exact impl_entryFrames.mono _ _ _ _ _)
  | (with_reducible exact impl_frame.mono _ _)
  | (with_reducible exact impl_headFrame.mono _ _ _)
  | (with_reducible exact impl_varText.mono _ _)
  | (with_reducible exact LeO.refl _)
  | (with_reducible exact LeO.none _)
  | (with_reducible refine LeO.ite ?_ ?_)
  | (with_reducible refine LeO.bind ?_ (fun _ => ?_))
  | exact impl_JournalOk.mono _ _ _ _ _ _ _
  | exact impl_entryFrames.mono _ _ _ _ _
  | exact impl_frame.mono _ _
  | exact impl_headFrame.mono _ _ _
  | exact impl_varText.mono _ _
  | exact LeO.none _
  | refine LeO.ite ?_ ?_
  | refine LeO.bind ?_ (fun _ => ?_)
def impl_JournalText.T3 : Bool × List (List Nat × List Nat) := (true, [([], []), ([0], [0]), ([1], [1]), ([2], [2]), ([3], [3]), ([], []), ([5], [5]), ([6], [6]), ([7, 3], [7]), ([4, 8], [4, 8]), ([9, 8], [9]), ([], []), ([11], [11]), ([], []), ([13], [13]), ([12, 14, 10], [12, 14]), ([10, 15], [10, 15]), ([], []), ([17], [17]), ([18, 15], [18]), ([16, 19], [16, 19]), ([20, 19, 0, 1, 2, 3, 4, 5, 6, 7, 8, 9, 10, 11, 12, 13, 14, 15, 16, 17, 18, 19, 20], [20])])
def impl_JournalText.B3 : List Nat := [0, 1, 3, 7, 15, 0, 32, 96, 239, 511, 1023, 0, 2048, 0, 8192, 32767, 65535, 0, 131072, 458751, 1048575, 2097151]
theorem impl_JournalText.tab3 : rtab .any (opsOf Try.f42 3) = impl_JournalText.T3 := by kernel_rfl
theorem impl_JournalText.bits3 : waitsOk impl_JournalText.T3.2 impl_JournalText.B3 = true := by kernel_rfl
set_option maxHeartbeats 8000000 in
set_option maxRecDepth 100000 in
theorem impl_JournalText.calls (k : Nat) (a0_0 : Int) (a0_1 : Int) (a0_2 : Int) (a0_3 : Int) (a0_4 : Int) (A0_5 : Option Addr) (c0_5 : Nat) (l0_5 : List (S40)) (r1 : ByteArray) (r2 : Bool) (w : World) (hr0_5 : Kd.C k40 w A0_5 l0_5.length l0_5) (hc0_5 : l0_5.length ≤ c0_5) (h : impl_JournalText.f k a0_0 a0_1 a0_2 a0_3 a0_4 l0_5 = some (r1, r2)) :
 Calls Try.prog 42 #[.agg #[.int .i64 a0_0, .int .i64 a0_1, .int .i64 a0_2, .int .i64 a0_3, .int .i64 a0_4, .slice A0_5 l0_5.length c0_5]] w fun e w' => e = .returned (.tuple #[.string r1, .bool r2]) ∧ Below w.heap.size w w' := by
 have hu59 := Try.underlying59
 have hu30 := Try.underlying30
 have HR0_5 := aM hr0_5
 have HC0_5 := aM hc0_5
 clear hr0_5 hc0_5
 have HB := aM (Below.refl w.heap.size w)
 have H : ((impl_JournalOk.f k a0_0 a0_1 a0_2 a0_3 a0_4 l0_5).bind fun t281 => (if t281 = true then ((impl_varText.f k a0_3).bind fun t282 => (if 1 + t282.size ≤ 9223372036854775807 then ((impl_varText.f k a0_4).bind fun t283 => (if ((⟨#[66]⟩ : ByteArray) ++ t282).size + t283.size ≤ 9223372036854775807 then ((impl_frame.f k (((⟨#[66]⟩ : ByteArray) ++ t282) ++ t283)).bind fun t284 => ((impl_headFrame.f k a0_1 a0_2).bind fun t285 => (if t284.size + t285.size ≤ 9223372036854775807 then ((impl_entryFrames.f k a0_3 a0_4 l0_5 0).bind fun t286 => (if (t284 ++ t285).size + t286.size ≤ 9223372036854775807 then (if (((t284 ++ t285) ++ t286).size : Int) > 20000 then (some ((⟨#[]⟩ : ByteArray), false)) else (some ((t284 ++ t285) ++ t286, true))) else (none))) else (none)))) else (none))) else (none))) else (some ((⟨#[]⟩ : ByteArray), false)))) = some (r1, r2) := h
 clear h
 replace H := Option.bind_eq_some_iff.mp H
 obtain ⟨t281, A20, H⟩ := H
 try dsimp only at H
 have A2 := aM A20
 clear A20
 refine Classical.byCases (p := t281 = true) (fun c3 => ?L1p) (fun c3 => ?L1n)
 case' L1p =>
  subst c3
  rw [if_pos rfl] at H
  replace H := Option.bind_eq_some_iff.mp H
  obtain ⟨t282, A40, H⟩ := H
  try dsimp only at H
  have A4 := aM A40
  clear A40
  refine Classical.byCases (p := 1 + t282.size ≤ 9223372036854775807) (fun c5 => ?L2p) (fun c5 => ?L2n)
  case' L2p =>
   rw [if_pos c5] at H
   have c5b0 := eq_true c5
   have c5b1 : decide (1 + t282.size ≤ 9223372036854775807) = true := decide_eq_true c5
   try have c5b2 : (9223372036854775807 < 1 + t282.size) = False := eq_false (Nat.not_lt.2 c5)
   replace H := Option.bind_eq_some_iff.mp H
   obtain ⟨t283, A60, H⟩ := H
   try dsimp only at H
   have A6 := aM A60
   clear A60
   refine Classical.byCases (p := ((⟨#[66]⟩ : ByteArray) ++ t282).size + t283.size ≤ 9223372036854775807) (fun c7 => ?L3p) (fun c7 => ?L3n)
   case' L3p =>
    rw [if_pos c7] at H
    have c7b0 := eq_true c7
    have c7b1 : decide (((⟨#[66]⟩ : ByteArray) ++ t282).size + t283.size ≤ 9223372036854775807) = true := decide_eq_true c7
    try have c7b2 : (9223372036854775807 < ((⟨#[66]⟩ : ByteArray) ++ t282).size + t283.size) = False := eq_false (Nat.not_lt.2 c7)
    try have c7b3 : (9223372036854775807 < 1 + t282.size + t283.size) = False := eq_false (Nat.not_lt.2 (by have h_ := c7; simp only [ByteArray.size_append] at h_; exact h_))
    replace H := Option.bind_eq_some_iff.mp H
    obtain ⟨t284, A80, H⟩ := H
    try dsimp only at H
    have A8 := aM A80
    clear A80
    replace H := Option.bind_eq_some_iff.mp H
    obtain ⟨t285, A90, H⟩ := H
    try dsimp only at H
    have A9 := aM A90
    clear A90
    refine Classical.byCases (p := t284.size + t285.size ≤ 9223372036854775807) (fun c10 => ?L4p) (fun c10 => ?L4n)
    case' L4p =>
     rw [if_pos c10] at H
     have c10b0 := eq_true c10
     have c10b1 : decide (t284.size + t285.size ≤ 9223372036854775807) = true := decide_eq_true c10
     try have c10b2 : (9223372036854775807 < t284.size + t285.size) = False := eq_false (Nat.not_lt.2 c10)
     replace H := Option.bind_eq_some_iff.mp H
     obtain ⟨t286, A110, H⟩ := H
     try dsimp only at H
     have A11 := aM A110
     clear A110
     refine Classical.byCases (p := (t284 ++ t285).size + t286.size ≤ 9223372036854775807) (fun c12 => ?L5p) (fun c12 => ?L5n)
     case' L5p =>
      rw [if_pos c12] at H
      have c12b0 := eq_true c12
      have c12b1 : decide ((t284 ++ t285).size + t286.size ≤ 9223372036854775807) = true := decide_eq_true c12
      try have c12b2 : (9223372036854775807 < (t284 ++ t285).size + t286.size) = False := eq_false (Nat.not_lt.2 c12)
      try have c12b3 : (9223372036854775807 < t284.size + t285.size + t286.size) = False := eq_false (Nat.not_lt.2 (by have h_ := c12; simp only [ByteArray.size_append] at h_; exact h_))
      refine Classical.byCases (p := (((t284 ++ t285) ++ t286).size : Int) > 20000) (fun c13 => ?L6p) (fun c13 => ?L6n)
      case' L6p =>
       rw [if_pos c13] at H
       have c13b0 : decide (20000 < (((t284 ++ t285) ++ t286).size : Int)) = true := decide_eq_true c13
       (try (have c13f0 := c13b0; simp only [ByteArray.size_append, Int.natCast_add] at c13f0))
       have c13b1 : decide (20000 < ((t284 ++ t285) ++ t286).size) = true := decide_eq_true (by omega)
       (try (have c13f1 := c13b1; simp only [ByteArray.size_append, Int.natCast_add] at c13f1))
       clear c13
       simp only [Option.some.injEq, Prod.mk.injEq] at H
       obtain ⟨rfl, rfl⟩ := H
      case' L6n =>
       rw [if_neg c13] at H
       have c13b0 : decide (20000 < (((t284 ++ t285) ++ t286).size : Int)) = false := decide_eq_false c13
       (try (have c13f0 := c13b0; simp only [ByteArray.size_append, Int.natCast_add] at c13f0))
       have c13b1 : decide (20000 < ((t284 ++ t285) ++ t286).size) = false := decide_eq_false (by omega)
       (try (have c13f1 := c13b1; simp only [ByteArray.size_append, Int.natCast_add] at c13f1))
       clear c13
       simp only [Option.some.injEq, Prod.mk.injEq] at H
       obtain ⟨rfl, rfl⟩ := H
     case' L5n =>
      rw [if_neg c12] at H
      exact absurd H (by simp)
    case' L4n =>
     rw [if_neg c10] at H
     exact absurd H (by simp)
   case' L3n =>
    rw [if_neg c7] at H
    exact absurd H (by simp)
  case' L2n =>
   rw [if_neg c5] at H
   exact absurd H (by simp)
 case' L1n =>
  replace c3 := Bool.eq_false_iff.mpr c3
  subst c3
  have H1 : (some ((⟨#[]⟩ : ByteArray), false)) = some (r1, r2) := by rw [if_neg (show ¬ (false = true) by decide)] at H; exact H
  clear H; have H := H1; clear H1
  simp only [Option.some.injEq, Prod.mk.injEq] at H
  obtain ⟨rfl, rfl⟩ := H
  go_enter Try.func42, Try.ntmps42
  go_wp2_with (first | ((with_reducible refine gate_dst (N := 1) rfl ?_); refine bxE 1 #[.int .i64 a0_0, .int .i64 a0_1, .int .i64 a0_2, .int .i64 a0_3, .int .i64 a0_4, .slice A0_5 l0_5.length c0_5] 59 ?_; intro gb280 hg w32 hbox hb; have BK280 := aM (hbox); have GW280 := szG hg (uL HB); have GE280 := szG hg (uL HB); replace HB := aM (below_step (uL HB) hb); clear hb hbox hg; have hcz33_0 := czA BK280.out 0 (.int .i64 a0_0); have hcz33_1 := czA BK280.out 1 (.int .i64 a0_1); have hcz33_2 := czA BK280.out 2 (.int .i64 a0_2); have hcz33_3 := czA BK280.out 3 (.int .i64 a0_3); have hcz33_4 := czA BK280.out 4 (.int .i64 a0_4); have hcz33_5 := czA BK280.out 5 (.slice A0_5 l0_5.length c0_5); have hfz33_0 := blk_frozen BK280.out 0; have hfz33_1 := blk_frozen BK280.out 1; have hfz33_2 := blk_frozen BK280.out 2; have hfz33_3 := blk_frozen BK280.out 3; have hfz33_4 := blk_frozen BK280.out 4; have hfz33_5 := blk_frozen BK280.out 5) | ((with_reducible refine gate_callee (f := 39) rfl ?_); refine gL (some 6) Try.func39 #[.agg #[.int .i64 a0_0, .int .i64 a0_1, .int .i64 a0_2, .int .i64 a0_3, .int .i64 a0_4, .slice A0_5 l0_5.length c0_5]] ?_; (with_reducible refine (impl_JournalOk.calls k a0_0 a0_1 a0_2 a0_3 a0_4 _ _ l0_5 false _ ?side1 ?side2 A2.out).mono ?_); (case side1 => exact uC HR0_5 HB); (case side2 => exact HC0_5.out); rintro e w34 ⟨rfl, hb⟩; refine ⟨_, rfl, ?_⟩; replace BK280 := blkB BK280 hb; replace HB := aM (below_step (uL HB) hb); try clear hb))
  go_ret2
  exact rX HB
 case L6p | L6n =>
  go_enter Try.func42, Try.ntmps42
  try go_wp2_with (first | ((with_reducible refine gate_dst (N := 1) rfl ?_); refine bxE 1 #[.int .i64 a0_0, .int .i64 a0_1, .int .i64 a0_2, .int .i64 a0_3, .int .i64 a0_4, .slice A0_5 l0_5.length c0_5] 59 ?_; intro gb280 hg w14 hbox hb; have BK280 := aM (hbox); have GW280 := szG hg (uL HB); have GE280 := szG hg (uL HB); replace HB := aM (below_step (uL HB) hb); clear hb hbox hg; have hcz15_0 := czA BK280.out 0 (.int .i64 a0_0); have hcz15_1 := czA BK280.out 1 (.int .i64 a0_1); have hcz15_2 := czA BK280.out 2 (.int .i64 a0_2); have hcz15_3 := czA BK280.out 3 (.int .i64 a0_3); have hcz15_4 := czA BK280.out 4 (.int .i64 a0_4); have hcz15_5 := czA BK280.out 5 (.slice A0_5 l0_5.length c0_5); have hfz15_0 := blk_frozen BK280.out 0; have hfz15_1 := blk_frozen BK280.out 1; have hfz15_2 := blk_frozen BK280.out 2; have hfz15_3 := blk_frozen BK280.out 3; have hfz15_4 := blk_frozen BK280.out 4; have hfz15_5 := blk_frozen BK280.out 5) | ((with_reducible refine gate_callee (f := 39) rfl ?_); refine gL (some 6) Try.func39 #[.agg #[.int .i64 a0_0, .int .i64 a0_1, .int .i64 a0_2, .int .i64 a0_3, .int .i64 a0_4, .slice A0_5 l0_5.length c0_5]] ?_; (with_reducible refine (impl_JournalOk.calls k a0_0 a0_1 a0_2 a0_3 a0_4 _ _ l0_5 true _ ?side1 ?side2 A2.out).mono ?_); (case side1 => exact uC HR0_5 HB); (case side2 => exact HC0_5.out); rintro e w16 ⟨rfl, hb⟩; refine ⟨_, rfl, ?_⟩; replace BK280 := blkB BK280 hb; replace HB := aM (below_step (uL HB) hb); try clear hb))
  replace BK280 := aM (blk_drew BK280.out)
  replace HB := aM (below_drew1 HB.out)
  refine start_ (n := 22) (S := fun w' => w'.cell? ⟨gb280, 0, none⟩ = some (.int .i64 a0_0) ∧ w'.cell? ⟨gb280, 1, none⟩ = some (.int .i64 a0_1) ∧ w'.cell? ⟨gb280, 2, none⟩ = some (.int .i64 a0_2) ∧ w'.cell? ⟨gb280, 3, none⟩ = some (.int .i64 a0_3) ∧ w'.cell? ⟨gb280, 4, none⟩ = some (.int .i64 a0_4) ∧ w'.cell? ⟨gb280, 5, none⟩ = some (.slice A0_5 l0_5.length c0_5)) (ds := []) (bB 22 0) (by kernel_rfl) rfl rfl ⟨(blk_cell BK280.out 0).trans rfl, (blk_cell BK280.out 1).trans rfl, (blk_cell BK280.out 2).trans rfl, (blk_cell BK280.out 3).trans rfl, (blk_cell BK280.out 4).trans rfl, (blk_cell BK280.out 5).trans rfl⟩ (fun hHeld => ?_); refine with_tabW impl_JournalText.tab3 impl_JournalText.bits3 (fun HT_ HW_ => ?_)
  generalize w16.drew = w17 at BK280 HB hHeld ⊢
  refine pA HT_.out 0 8 22 1 ?_; refine pA HT_.out 1 9 22 3 ?_; refine pA HT_.out 5 13 22 35 ?_; refine pA HT_.out 6 14 22 99 ?_; refine pA HT_.out 11 19 22 2147 ?_; refine pA HT_.out 13 21 22 10339 ?_; refine pA HT_.out 17 25 22 141411 ?_; refine tA HT_.out HW_.out 2 10 22 141415 hHeld ?_; refine tA HT_.out HW_.out 7 15 22 141543 hHeld ?_; refine tA HT_.out HW_.out 12 20 22 145639 hHeld ?_; refine tA HT_.out HW_.out 14 22 22 162023 hHeld ?_; refine tA HT_.out HW_.out 18 26 22 424167 hHeld ?_
  refine oA HT_.out 3 (some 11) 22 424175 (fun K hK => ?_)
  refine gX Try.func64 #[.int .i64 a0_3] ?_
  with_reducible refine (impl_varText.calls k a0_3 t282 _ A4.out).mono ?_
  rintro e w18 ⟨rfl, hb⟩
  refine ⟨_, rfl, ?_⟩
  replace BK280 := blkB BK280 hb
  replace HB := aM (below_step (uL HB) hb)
  (try clear hb)
  (try clear hb2)
  (try clear hk)
  (try clear hi)
  refine hK.out _ _ ⟨(blk_cell BK280.out 0).trans rfl, (blk_cell BK280.out 1).trans rfl, (blk_cell BK280.out 2).trans rfl, (blk_cell BK280.out 3).trans rfl, (blk_cell BK280.out 4).trans rfl, (blk_cell BK280.out 5).trans rfl⟩ (fun hHeld => ?_)
  clear hK K
  refine nX 11 ?_; refine pA HT_.out 4 12 22 424191 ?_
  refine oA HT_.out 8 (some 16) 22 424447 (fun K hK => ?_)
  refine gX Try.func64 #[.int .i64 a0_4] ?_
  with_reducible refine (impl_varText.calls k a0_4 t283 _ A6.out).mono ?_
  rintro e w19 ⟨rfl, hb⟩
  refine ⟨_, rfl, ?_⟩
  replace BK280 := blkB BK280 hb
  replace HB := aM (below_step (uL HB) hb)
  (try clear hb)
  (try clear hb2)
  (try clear hk)
  (try clear hi)
  refine hK.out _ _ ⟨(blk_cell BK280.out 0).trans rfl, (blk_cell BK280.out 1).trans rfl, (blk_cell BK280.out 2).trans rfl, (blk_cell BK280.out 3).trans rfl, (blk_cell BK280.out 4).trans rfl, (blk_cell BK280.out 5).trans rfl⟩ (fun hHeld => ?_)
  clear hK K
  refine nX 16 ?_; refine pA HT_.out 9 17 22 424959 ?_
  refine oA HT_.out 10 (some 18) 22 425983 (fun K hK => ?_)
  refine gX Try.func63 #[.string (((⟨#[66]⟩ : ByteArray) ++ t282) ++ t283)] ?_
  with_reducible refine (impl_frame.calls k (((⟨#[66]⟩ : ByteArray) ++ t282) ++ t283) t284 _ A8.out).mono ?_
  rintro e w20 ⟨rfl, hb⟩
  refine ⟨_, rfl, ?_⟩
  replace BK280 := blkB BK280 hb
  replace HB := aM (below_step (uL HB) hb)
  (try clear hb)
  (try clear hb2)
  (try clear hk)
  (try clear hi)
  refine hK.out _ _ ⟨(blk_cell BK280.out 0).trans rfl, (blk_cell BK280.out 1).trans rfl, (blk_cell BK280.out 2).trans rfl, (blk_cell BK280.out 3).trans rfl, (blk_cell BK280.out 4).trans rfl, (blk_cell BK280.out 5).trans rfl⟩ (fun hHeld => ?_)
  clear hK K
  refine nX 18 ?_
  refine oA HT_.out 15 (some 23) 22 458751 (fun K hK => ?_)
  refine gX Try.func65 #[.int .i64 a0_1, .int .i64 a0_2] ?_
  with_reducible refine (impl_headFrame.calls k a0_1 a0_2 t285 _ A9.out).mono ?_
  rintro e w21 ⟨rfl, hb⟩
  refine ⟨_, rfl, ?_⟩
  replace BK280 := blkB BK280 hb
  replace HB := aM (below_step (uL HB) hb)
  (try clear hb)
  (try clear hb2)
  (try clear hk)
  (try clear hi)
  refine hK.out _ _ ⟨(blk_cell BK280.out 0).trans rfl, (blk_cell BK280.out 1).trans rfl, (blk_cell BK280.out 2).trans rfl, (blk_cell BK280.out 3).trans rfl, (blk_cell BK280.out 4).trans rfl, (blk_cell BK280.out 5).trans rfl⟩ (fun hHeld => ?_)
  clear hK K
  refine nX 23 ?_; refine pA HT_.out 16 24 22 524287 ?_
  refine oA HT_.out 19 (some 27) 22 1048575 (fun K hK => ?_)
  refine gX Try.func66 #[.agg #[.int .i64 a0_3, .int .i64 a0_4, .slice A0_5 l0_5.length c0_5], .int .i64 0] ?_
  with_reducible refine (impl_entryFrames.calls k a0_3 a0_4 _ _ l0_5 0 t286 _ ?side1 ?side2 A11.out).mono ?_
  (case side1 => exact uC HR0_5 HB)
  (case side2 => exact HC0_5.out)
  rintro e w22 ⟨rfl, hb⟩
  refine ⟨_, rfl, ?_⟩
  replace BK280 := blkB BK280 hb
  replace HB := aM (below_step (uL HB) hb)
  (try clear hb)
  (try clear hb2)
  (try clear hk)
  (try clear hi)
  refine hK.out _ _ ⟨(blk_cell BK280.out 0).trans rfl, (blk_cell BK280.out 1).trans rfl, (blk_cell BK280.out 2).trans rfl, (blk_cell BK280.out 3).trans rfl, (blk_cell BK280.out 4).trans rfl, (blk_cell BK280.out 5).trans rfl⟩ (fun hHeld => ?_)
  clear hK K
  refine nX 27 ?_; refine pA HT_.out 20 28 22 2097151 ?_; refine pA HT_.out 21 4 22 4194303 ?_
  refine done_ (done_of HT_.out (by kernel_rfl)) ?_
  try go_wp2
  go_ret2
  exact rX HB

end Go.Proofs.Ytacdceahdbaonaa.QFnExactJournalText
