-- Own work (wip/turnprint.py over the kit's print).
import Derived.Test.YtacdceahdbaonaaQFnExactJournalTextx0
import Derived.Test.YtacdceahdbaonaaQFnExactJournalTextx2
import Derived.Test.YtacdceahdbaonaaQFnExactJournalTextx3
import Derived.Test.YtacdceahdbaonaaQFnExactJournalTextx4
namespace Go.Proofs.Ytacdceahdbaonaa.QFnExactJournalText
open Go.RowKit Go.Proofs.YtacdceahdbaonaaW.PrintWords Go.Proofs.YtacdceahdbaonaaW.PrintLast Go.Proofs.YtacdceahdbaonaaW.PrintMore
attribute [local go_sem] max2_int min2_int max_two min_two max_three min_three max_four min_four   -- for this text's walks alone
set_option linter.unusedVariables false
set_option linter.unusedSimpArgs false

/-! ### spec_EntryText: function 24 -/
def spec_EntryText.j0 : Nat → Int → Bool → Int → Int → ByteArray → Option (ByteArray × Bool)
 | 0, _, _, _, _, _ => none
 | k + 1, x0, x13, x210000, x210001, x210002 => if x13 = true then (some ((⟨#[]⟩ : ByteArray), false)) else ((spec_l01Var.f k x0).bind fun t212 => (if 1 + t212.size ≤ 9223372036854775807 then ((spec_l01Var.f k x210000).bind fun t213 => (if ((⟨#[69]⟩ : ByteArray) ++ t212).size + t213.size ≤ 9223372036854775807 then ((some (([(x210001) % 256] : List Int) : List Int)).bind fun y214 => (if (((⟨#[69]⟩ : ByteArray) ++ t212) ++ t213).size + (strOfNums y214).size ≤ 9223372036854775807 then (if ((((⟨#[69]⟩ : ByteArray) ++ t212) ++ t213) ++ (strOfNums y214)).size + x210002.size ≤ 9223372036854775807 then (some (((((⟨#[69]⟩ : ByteArray) ++ t212) ++ t213) ++ (strOfNums y214)) ++ x210002, true)) else (none)) else (none))) else (none))) else (none)))
def spec_EntryText.f (k : Nat) (a0 : Int) (a1_0 : Int) (a1_1 : Int) (a1_2 : ByteArray) : Option (ByteArray × Bool) := (spec_EntryOk.f k a1_0 a1_1 a1_2).bind fun t210 => (if t210 = true then ((spec_l01In.f a0 1 1000000).bind fun t211 => (spec_EntryText.j0 k a0 (!t211) a1_0 a1_1 a1_2)) else (spec_EntryText.j0 k a0 true a1_0 a1_1 a1_2))
theorem spec_EntryText.mono_l : ∀ k, (∀ y0 y1 y2 y3 y4, LeO (spec_EntryText.j0 k y0 y1 y2 y3 y4) (spec_EntryText.j0 (k + 1) y0 y1 y2 y3 y4))
 | 0 => fun _ _ _ _ _ r h => by simp [spec_EntryText.j0] at h
 | k + 1 => by
  have ih0 := spec_EntryText.mono_l k
  ·intro y0 y1 y2 y3 y4
   unfold spec_EntryText.j0
   repeat' first
   | (with_reducible exact ih0 _ _ _ _ _)
   | (with_reducible exact spec_EntryOk.mono _ _ _ _)
   | (with_reducible exact spec_l01Var.mono _ _)
   | (with_reducible exact LeO.refl _)
   | (with_reducible exact LeO.none _)
   | (with_reducible refine LeO.ite ?_ ?_)
   | (with_reducible refine LeO.bind ?_ (fun _ => ?_))
   | exact ih0 _ _ _ _ _
   | exact spec_EntryOk.mono _ _ _ _
   | exact spec_l01Var.mono _ _
   | exact LeO.none _
   | refine LeO.ite ?_ ?_
   | refine LeO.bind ?_ (fun _ => ?_)
theorem spec_EntryText.mono : ∀ a0 a1 a2 a3 k, LeO (spec_EntryText.f k a0 a1 a2 a3) (spec_EntryText.f (k + 1) a0 a1 a2 a3) := by
 intro a0 a1 a2 a3 k
 have ih0 := spec_EntryText.mono_l k
 unfold spec_EntryText.f
 repeat' first
  | (with_reducible exact ih0 _ _ _ _ _)
  | (with_reducible exact spec_EntryOk.mono _ _ _ _)
  | (with_reducible exact spec_l01Var.mono _ _)
  | (with_reducible exact LeO.refl _)
  | (with_reducible exact LeO.none _)
  | (with_reducible refine LeO.ite ?_ ?_)
  | (with_reducible refine LeO.bind ?_ (fun _ => ?_))
  | exact ih0 _ _ _ _ _
  | exact spec_EntryOk.mono _ _ _ _
  | exact spec_l01Var.mono _ _
  | exact LeO.none _
  | refine LeO.ite ?_ ?_
  | refine LeO.bind ?_ (fun _ => ?_)
def spec_EntryText.T3 : Bool × List (List Nat × List Nat) := (true, [([], []), ([0], [0]), ([1], [1]), ([], []), ([3], [3]), ([4, 1], [4]), ([2, 5], [2, 5]), ([], []), ([7], [7]), ([8], [8]), ([9], [9]), ([10], [10]), ([6, 11], [6, 11]), ([], []), ([13], [13]), ([12, 14], [12, 14]), ([15, 5, 0, 1, 2, 3, 4, 5, 6, 7, 8, 9, 10, 11, 12, 13, 14, 15], [15]), ([16, 0, 1, 2, 3, 4, 5, 6, 7, 8, 9, 10, 11, 12, 13, 14, 15, 16], [])])
def spec_EntryText.B3 : List Nat := [0, 1, 3, 0, 8, 27, 63, 0, 128, 384, 896, 1920, 4095, 0, 8192, 32767, 65535, 131071]
theorem spec_EntryText.tab3 : rtab .any (opsOf Try.f24 3) = spec_EntryText.T3 := by kernel_rfl
theorem spec_EntryText.bits3 : waitsOk spec_EntryText.T3.2 spec_EntryText.B3 = true := by kernel_rfl
set_option maxHeartbeats 8000000 in
set_option maxRecDepth 100000 in
theorem spec_EntryText.calls (k : Nat) (a0 : Int) (a1_0 : Int) (a1_1 : Int) (a1_2 : ByteArray) (r1 : ByteArray) (r2 : Bool) (w : World) (h : spec_EntryText.f k a0 a1_0 a1_1 a1_2 = some (r1, r2)) :
 Calls Try.prog 24 #[.int .i64 a0, .agg #[.int .i64 a1_0, .int .i64 a1_1, .string a1_2]] w fun e w' => e = .returned (.tuple #[.string r1, .bool r2]) ∧ Below w.heap.size w w' := by
 have hu40 := Try.underlying40
 have HB := aM (Below.refl w.heap.size w)
 have H : ((spec_EntryOk.f k a1_0 a1_1 a1_2).bind fun t210 => (if t210 = true then ((spec_l01In.f a0 1 1000000).bind fun t211 => (spec_EntryText.j0 k a0 (!t211) a1_0 a1_1 a1_2)) else (spec_EntryText.j0 k a0 true a1_0 a1_1 a1_2))) = some (r1, r2) := h
 clear h
 have HC3 := aM H
 clear H
 go_enter Try.func24, Try.ntmps24
 go_upto_region 1 with (first | ((with_reducible refine gate_dst (N := 3) rfl ?_); refine bxE 3 #[.int .i64 a1_0, .int .i64 a1_1, .string a1_2] 40 ?_; intro gb209 hg w4 hbox hb; have BK209 := aM (hbox); have GW209 := szG hg (uL HB); have GE209 := szG hg (uL HB); replace HB := aM (below_step (uL HB) hb); clear hb hbox hg))
 (try simp only [Act.put, List.setIfInBounds_toArray, List.set_cons_zero, List.set_cons_succ])
 go_cut [13] (fun v13 wc => ∃ (kq : Nat) (x13_2 : Bool), v13 = .bool x13_2 ∧ Aside0 (spec_EntryText.j0 kq a0 x13_2 a1_0 a1_1 a1_2 = some (r1, r2)) ∧ Aside0 (kq ≤ k) ∧ Aside0 (wc.heap[gb209]? = some (.cells #[.int .i64 a1_0, .int .i64 a1_1, .string a1_2] 40 (0, 0))) ∧ Aside0 (Below w.heap.size w wc))
 case first =>
  have H := HC3.out
  clear HC3
  replace H := Option.bind_eq_some_iff.mp H
  obtain ⟨t210, A50, H⟩ := H
  try dsimp only at H
  have A5 := aM A50
  clear A50
  by_cases c6 : t210 = true
  ·subst c6
   have H1 : ((spec_l01In.f a0 1 1000000).bind fun t211 => (spec_EntryText.j0 k a0 (!t211) a1_0 a1_1 a1_2)) = some (r1, r2) := by rw [if_pos rfl] at H; exact H
   clear H; have H := H1; clear H1
   replace H := Option.bind_eq_some_iff.mp H
   obtain ⟨t211, A70, H⟩ := H
   replace H : (spec_EntryText.j0 k a0 (!t211) a1_0 a1_1 a1_2) = some (r1, r2) := H
   have A7 := aM A70
   clear A70
   have H' := aM H
   clear H
   have hcz8_0 := czA BK209.out 0 (.int .i64 a1_0)
   have hcz8_1 := czA BK209.out 1 (.int .i64 a1_1)
   have hcz8_2 := czA BK209.out 2 (.string a1_2)
   have hfz8_0 := blk_frozen BK209.out 0; have hfz8_1 := blk_frozen BK209.out 1; have hfz8_2 := blk_frozen BK209.out 2
   go_wp2_with (first | ((with_reducible refine gate_callee (f := 21) rfl ?_); refine gL (some 7) Try.func21 #[.agg #[.int .i64 a1_0, .int .i64 a1_1, .string a1_2]] ?_; (with_reducible refine (spec_EntryOk.calls k a1_0 a1_1 a1_2 true _ A5.out).mono ?_); rintro e w9 ⟨rfl, hb⟩; refine ⟨_, rfl, ?_⟩; replace BK209 := blkB BK209 hb; replace HB := aM (below_step (uL HB) hb); try clear hb) | (go_at_call 48; (with_reducible refine (spec_l01In.calls a0 1 1000000 t211 _ A7.out).mono ?_); rintro e w' ⟨rfl, ⟨nd, rfl⟩⟩))
   go_meet
   case rel => exact ⟨_, (!t211), (by first | rfl | (simp; done) | (simp [*]; done)), H', ⟨by first | omega | exact Nat.le_refl _⟩, ⟨by exact nB BK209.out⟩, ⟨uL HB⟩⟩
  ·replace c6 := Bool.eq_false_iff.mpr c6
   subst c6
   have H1 : (spec_EntryText.j0 k a0 true a1_0 a1_1 a1_2) = some (r1, r2) := by rw [if_neg (show ¬ (false = true) by decide)] at H; exact H
   clear H; have H := H1; clear H1
   have H' := aM H
   clear H
   have hcz10_0 := czA BK209.out 0 (.int .i64 a1_0)
   have hcz10_1 := czA BK209.out 1 (.int .i64 a1_1)
   have hcz10_2 := czA BK209.out 2 (.string a1_2)
   have hfz10_0 := blk_frozen BK209.out 0; have hfz10_1 := blk_frozen BK209.out 1; have hfz10_2 := blk_frozen BK209.out 2
   go_wp2_with (first | ((with_reducible refine gate_callee (f := 21) rfl ?_); refine gL (some 7) Try.func21 #[.agg #[.int .i64 a1_0, .int .i64 a1_1, .string a1_2]] ?_; (with_reducible refine (spec_EntryOk.calls k a1_0 a1_1 a1_2 false _ A5.out).mono ?_); rintro e w11 ⟨rfl, hb⟩; refine ⟨_, rfl, ?_⟩; replace BK209 := blkB BK209 hb; replace HB := aM (below_step (uL HB) hb); try clear hb))
   go_meet
   case rel => exact ⟨_, (true), (by first | rfl | (simp; done) | (simp [*]; done)), H', ⟨by first | omega | exact Nat.le_refl _⟩, ⟨by exact nB BK209.out⟩, ⟨uL HB⟩⟩
 case rest =>
  clear HC3
  try clear c2; try clear p2; try clear c6; try clear hcz10_0; try clear hcz10_1; try clear hcz10_2; try clear hcz8_0; try clear hcz8_1; try clear hcz8_2; try clear hfz10_0; try clear hfz10_1; try clear hfz10_2; try clear hfz8_0; try clear hfz8_1; try clear hfz8_2
  obtain ⟨kq, x13_2, rfl, HA, HJ2, BK209, HB⟩ := hcut
  cases kq with
  | zero => exact absurd HA.out (by simp [spec_EntryText.j0])
  | succ kj2 =>
   have H := HA.out
   clear HA
   simp only [spec_EntryText.j0] at H
   by_cases c12 : x13_2 = true
   ·subst c12
    have H1 : (some ((⟨#[]⟩ : ByteArray), false)) = some (r1, r2) := by rw [if_pos rfl] at H; exact H
    clear H; have H := H1; clear H1
    simp only [Option.some.injEq, Prod.mk.injEq] at H
    obtain ⟨rfl, rfl⟩ := H
    go_wp2
    go_ret2
    exact rX HB
   ·replace c12 := Bool.eq_false_iff.mpr c12
    subst c12
    rw [if_neg (show ¬ (false = true) by decide)] at H
    replace H := Option.bind_eq_some_iff.mp H
    obtain ⟨t212, A130, H⟩ := H
    try dsimp only at H
    have A13 := aM A130
    clear A130
    by_cases c14 : 1 + t212.size ≤ 9223372036854775807
    ·rw [if_pos c14] at H
     have c14b0 := eq_true c14
     have c14b1 : decide (1 + t212.size ≤ 9223372036854775807) = true := decide_eq_true c14
     try have c14b2 : (9223372036854775807 < 1 + t212.size) = False := eq_false (Nat.not_lt.2 c14)
     replace H := Option.bind_eq_some_iff.mp H
     obtain ⟨t213, A150, H⟩ := H
     try dsimp only at H
     have A15 := aM A150
     clear A150
     by_cases c16 : ((⟨#[69]⟩ : ByteArray) ++ t212).size + t213.size ≤ 9223372036854775807
     ·rw [if_pos c16] at H
      have c16b0 := eq_true c16
      have c16b1 : decide (((⟨#[69]⟩ : ByteArray) ++ t212).size + t213.size ≤ 9223372036854775807) = true := decide_eq_true c16
      try have c16b2 : (9223372036854775807 < ((⟨#[69]⟩ : ByteArray) ++ t212).size + t213.size) = False := eq_false (Nat.not_lt.2 c16)
      try have c16b3 : (9223372036854775807 < 1 + t212.size + t213.size) = False := eq_false (Nat.not_lt.2 (by have h_ := c16; simp only [ByteArray.size_append] at h_; exact h_))
      obtain ⟨y214, hy214⟩ : ∃ y_ : List Int, y_ = (([(a1_1) % 256] : List Int)) := ⟨_, rfl⟩
      replace H : (if (((⟨#[69]⟩ : ByteArray) ++ t212) ++ t213).size + (strOfNums y214).size ≤ 9223372036854775807 then (if ((((⟨#[69]⟩ : ByteArray) ++ t212) ++ t213) ++ (strOfNums y214)).size + a1_2.size ≤ 9223372036854775807 then (some (((((⟨#[69]⟩ : ByteArray) ++ t212) ++ t213) ++ (strOfNums y214)) ++ a1_2, true)) else (none)) else (none)) = some (r1, r2) := by first | (rw [hy214]; with_reducible exact H) | (have H2_ := (Option.bind_some _ _).symm.trans H; rw [hy214]; with_reducible exact H2_) | (have H2_ := (Option.bind_some _ _).symm.trans H; with_reducible exact H2_) | with_reducible exact H | (rw [hy214]; exact H) | exact H
      have Ny214 := aM hy214
      clear hy214
      by_cases c17 : (((⟨#[69]⟩ : ByteArray) ++ t212) ++ t213).size + (strOfNums y214).size ≤ 9223372036854775807
      ·rw [if_pos c17] at H
       have c17b0 := eq_true c17
       have c17b1 : decide ((((⟨#[69]⟩ : ByteArray) ++ t212) ++ t213).size + (strOfNums y214).size ≤ 9223372036854775807) = true := decide_eq_true c17
       try have c17b2 : (9223372036854775807 < (((⟨#[69]⟩ : ByteArray) ++ t212) ++ t213).size + (strOfNums y214).size) = False := eq_false (Nat.not_lt.2 c17)
       try have c17b3 : (9223372036854775807 < 1 + t212.size + t213.size + (strOfNums y214).size) = False := eq_false (Nat.not_lt.2 (by have h_ := c17; simp only [ByteArray.size_append] at h_; exact h_))
       by_cases c18 : ((((⟨#[69]⟩ : ByteArray) ++ t212) ++ t213) ++ (strOfNums y214)).size + a1_2.size ≤ 9223372036854775807
       ·rw [if_pos c18] at H
        have c18b0 := eq_true c18
        have c18b1 : decide (((((⟨#[69]⟩ : ByteArray) ++ t212) ++ t213) ++ (strOfNums y214)).size + a1_2.size ≤ 9223372036854775807) = true := decide_eq_true c18
        try have c18b2 : (9223372036854775807 < ((((⟨#[69]⟩ : ByteArray) ++ t212) ++ t213) ++ (strOfNums y214)).size + a1_2.size) = False := eq_false (Nat.not_lt.2 c18)
        try have c18b3 : (9223372036854775807 < 1 + t212.size + t213.size + (strOfNums y214).size + a1_2.size) = False := eq_false (Nat.not_lt.2 (by have h_ := c18; simp only [ByteArray.size_append] at h_; exact h_))
        simp only [Option.some.injEq, Prod.mk.injEq] at H
        obtain ⟨rfl, rfl⟩ := H
        try go_wp2
        replace BK209 := aM (blk_drew BK209.out)
        replace HB := aM (below_drew1 HB.out)
        refine start_ (n := 18) (S := fun w' => w'.cell? ⟨gb209, 0, none⟩ = some (.int .i64 a1_0) ∧ w'.cell? ⟨gb209, 1, none⟩ = some (.int .i64 a1_1) ∧ w'.cell? ⟨gb209, 2, none⟩ = some (.string a1_2)) (ds := []) (bB 18 0) (by kernel_rfl) rfl rfl ⟨(blk_cell BK209.out 0).trans rfl, (blk_cell BK209.out 1).trans rfl, (blk_cell BK209.out 2).trans rfl⟩ (fun hHeld => ?_); refine with_tabW spec_EntryText.tab3 spec_EntryText.bits3 (fun HT_ HW_ => ?_)
        generalize wc.drew = w19 at BK209 HB hHeld ⊢
        refine pA HT_.out 0 14 18 1 ?_; refine pA HT_.out 3 17 18 9 ?_; refine pA HT_.out 7 21 18 137 ?_; refine pA HT_.out 13 27 18 8329 ?_; refine tA HT_.out HW_.out 4 18 18 8345 hHeld ?_; refine tA HT_.out HW_.out 8 22 18 8601 hHeld ?_; refine pA HT_.out 9 23 18 9113 ?_; refine tA HT_.out HW_.out 14 28 18 25497 hHeld ?_
        refine join_ (σ := Value) 4 #[true, true, true, true, true, true, true, true, true, true, true, true, false, true, true, false, false, false] (fun s_ => [(15, .string t212), (19, .string t213), (24, s_), (25, .string (strOfNums y214)), (16, .string ((⟨#[69]⟩ : ByteArray) ++ t212)), (20, .string (((⟨#[69]⟩ : ByteArray) ++ t212) ++ t213))]) (fun s_ w' => (w'.cell? ⟨gb209, 0, none⟩ = some (.int .i64 a1_0) ∧ w'.cell? ⟨gb209, 1, none⟩ = some (.int .i64 a1_1) ∧ w'.cell? ⟨gb209, 2, none⟩ = some (.string a1_2)) ∧ (Kd.R (Kd.int .u8) 5 w' w.heap.size (fun _ => True) s_ y214) ∧ (w'.heap[gb209]? = some (.cells #[.int .i64 a1_0, .int .i64 a1_1, .string a1_2] 40 (0, 0))) ∧ (Below w.heap.size w w')) ?_ ?_
        rotate_left
        ·intro hJ1_5_10_11
         refine join_ (σ := Value) 5 #[true, true, true, true, true, true, true, true, true, true, true, false, false, true, true, false, false, false] (fun s_ => [(15, .string t212), (19, .string t213), (24, s_), (16, .string ((⟨#[69]⟩ : ByteArray) ++ t212)), (20, .string (((⟨#[69]⟩ : ByteArray) ++ t212) ++ t213))]) (fun s_ w' => (w'.cell? ⟨gb209, 0, none⟩ = some (.int .i64 a1_0) ∧ w'.cell? ⟨gb209, 1, none⟩ = some (.int .i64 a1_1) ∧ w'.cell? ⟨gb209, 2, none⟩ = some (.string a1_2)) ∧ (Kd.R (Kd.int .u8) 5 w' w.heap.size (fun _ => True) s_ y214) ∧ (w'.heap[gb209]? = some (.cells #[.int .i64 a1_0, .int .i64 a1_1, .string a1_2] 40 (0, 0))) ∧ (Below w.heap.size w w')) ?_ ?_
         rotate_left
         ·intro hJ1_5_10
          refine join_ (σ := Value) 6 #[true, true, true, true, true, false, false, true, true, true, true, true, false, true, true, false, false, false] (fun s_ => [(15, .string t212), (24, s_), (25, .string (strOfNums y214)), (16, .string ((⟨#[69]⟩ : ByteArray) ++ t212))]) (fun s_ w' => (w'.cell? ⟨gb209, 0, none⟩ = some (.int .i64 a1_0) ∧ w'.cell? ⟨gb209, 1, none⟩ = some (.int .i64 a1_1) ∧ w'.cell? ⟨gb209, 2, none⟩ = some (.string a1_2)) ∧ (Kd.R (Kd.int .u8) 5 w' w.heap.size (fun _ => True) s_ y214) ∧ (w'.heap[gb209]? = some (.cells #[.int .i64 a1_0, .int .i64 a1_1, .string a1_2] 40 (0, 0))) ∧ (Below w.heap.size w w')) ?_ ?_
          rotate_left
          ·intro hJ1_10_11
           refine join_ (σ := Unit) 6 #[true, true, true, true, true, true, true, true, true, true, false, false, false, true, true, false, false, false] (fun s_ => [(15, .string t212), (19, .string t213), (16, .string ((⟨#[69]⟩ : ByteArray) ++ t212)), (20, .string (((⟨#[69]⟩ : ByteArray) ++ t212) ++ t213))]) (fun s_ w' => (w'.cell? ⟨gb209, 0, none⟩ = some (.int .i64 a1_0) ∧ w'.cell? ⟨gb209, 1, none⟩ = some (.int .i64 a1_1) ∧ w'.cell? ⟨gb209, 2, none⟩ = some (.string a1_2)) ∧ (w'.heap[gb209]? = some (.cells #[.int .i64 a1_0, .int .i64 a1_1, .string a1_2] 40 (0, 0))) ∧ (Below w.heap.size w w')) ?_ ?_
           rotate_left
           ·intro hJ1_5
            refine join_ (σ := Value) 7 #[true, true, true, true, true, false, false, true, true, true, true, false, false, true, true, false, false, false] (fun s_ => [(15, .string t212), (24, s_), (16, .string ((⟨#[69]⟩ : ByteArray) ++ t212))]) (fun s_ w' => (w'.cell? ⟨gb209, 0, none⟩ = some (.int .i64 a1_0) ∧ w'.cell? ⟨gb209, 1, none⟩ = some (.int .i64 a1_1) ∧ w'.cell? ⟨gb209, 2, none⟩ = some (.string a1_2)) ∧ (Kd.R (Kd.int .u8) 5 w' w.heap.size (fun _ => True) s_ y214) ∧ (w'.heap[gb209]? = some (.cells #[.int .i64 a1_0, .int .i64 a1_1, .string a1_2] 40 (0, 0))) ∧ (Below w.heap.size w w')) ?_ ?_
            rotate_left
            ·intro hJ1_10
             refine join_ (σ := Value) 8 #[true, false, false, true, true, false, false, true, true, true, true, true, false, true, true, false, false, false] (fun s_ => [(24, s_), (25, .string (strOfNums y214))]) (fun s_ w' => (w'.cell? ⟨gb209, 0, none⟩ = some (.int .i64 a1_0) ∧ w'.cell? ⟨gb209, 1, none⟩ = some (.int .i64 a1_1) ∧ w'.cell? ⟨gb209, 2, none⟩ = some (.string a1_2)) ∧ (Kd.R (Kd.int .u8) 5 w' w.heap.size (fun _ => True) s_ y214) ∧ (w'.heap[gb209]? = some (.cells #[.int .i64 a1_0, .int .i64 a1_1, .string a1_2] 40 (0, 0))) ∧ (Below w.heap.size w w')) ?_ ?_
             rotate_left
             ·intro hJ10_11
              refine join_ (σ := Unit) 8 #[true, true, true, true, true, false, false, true, true, true, false, false, false, true, true, false, false, false] (fun s_ => [(15, .string t212), (16, .string ((⟨#[69]⟩ : ByteArray) ++ t212))]) (fun s_ w' => (w'.cell? ⟨gb209, 0, none⟩ = some (.int .i64 a1_0) ∧ w'.cell? ⟨gb209, 1, none⟩ = some (.int .i64 a1_1) ∧ w'.cell? ⟨gb209, 2, none⟩ = some (.string a1_2)) ∧ (w'.heap[gb209]? = some (.cells #[.int .i64 a1_0, .int .i64 a1_1, .string a1_2] 40 (0, 0))) ∧ (Below w.heap.size w w')) ?_ ?_
              rotate_left
              ·intro hJ1
               refine join_ (σ := Value) 9 #[true, false, false, true, true, false, false, true, true, true, true, false, false, true, true, false, false, false] (fun s_ => [(24, s_)]) (fun s_ w' => (w'.cell? ⟨gb209, 0, none⟩ = some (.int .i64 a1_0) ∧ w'.cell? ⟨gb209, 1, none⟩ = some (.int .i64 a1_1) ∧ w'.cell? ⟨gb209, 2, none⟩ = some (.string a1_2)) ∧ (Kd.R (Kd.int .u8) 5 w' w.heap.size (fun _ => True) s_ y214) ∧ (w'.heap[gb209]? = some (.cells #[.int .i64 a1_0, .int .i64 a1_1, .string a1_2] 40 (0, 0))) ∧ (Below w.heap.size w w')) ?_ ?_
               rotate_left
               ·intro hJ10
                refine two_ (i := 1) (j := 10) (Ni := some 15) (Nj := some 24) #[true, true, false, true, true, false, false, true, true, true, false, false, false, true, true, false, false, false] #[true, false, false, true, true, false, false, true, true, true, true, false, false, true, true, false, false, false] rfl rfl rfl rfl (two_of HT_.out (by kernel_rfl)) (by decide) (by decide) (fun K hK => ?_) (fun K hK => ?_)
                ·skip
                 refine gX Try.func52 #[.int .i64 a0] ?_
                 with_reducible refine (spec_l01Var.calls kj2 a0 t212 _ A13.out).mono ?_
                 rintro e w20 ⟨rfl, hb⟩
                 refine ⟨_, rfl, ?_⟩
                 replace BK209 := blkB BK209 hb
                 replace HB := aM (below_step (uL HB) hb)
                 (try clear hb)
                 (try clear hb2)
                 (try clear hk)
                 (try clear hi)
                 refine hK.out _ _ ⟨(blk_cell BK209.out 0).trans rfl, (blk_cell BK209.out 1).trans rfl, (blk_cell BK209.out 2).trans rfl⟩ (fun hHeld => ?_)
                 clear hK K
                 refine nX 15 ?_; refine pA HT_.out 2 16 18 25503 ?_
                 exact norm_ (by first | (simp only [putAll, Act.put, List.setIfInBounds_toArray, List.set_cons_zero, List.set_cons_succ]; done) | (simp only [putAll, Act.put, List.setIfInBounds_toArray, List.set_cons_zero, List.set_cons_succ]; rfl)) (hJ1 () _ ⟨hHeld, (uB BK209), (uL HB)⟩)
                ·skip
                 refine Kd.R_lit_step (Kd.int .u8) _ 5 ?hg (N := 24) ?hd (xs := ([(a1_1) % 256] : List Int)) (inner := [.int .u8 ((a1_1) % 256)]) (ok := fun _ => True) (okp := fun _ => True) ?hr ?hp (fun _ hk => hk) trivial (Below.refl _ _) (Nat.le_refl _) (by simp) ?_; (case hd => rfl); (case hg => rfl); (case hr => first | (go_simp; done) | (go_simp; rfl)); (case hp => exact (Reps.one (show Kd.M (Kd.int .u8) _ _ _ ((a1_1) % 256) [.int .u8 ((a1_1) % 256)] from rfl) (Reps.none _ _)))
                 intro v215 w20 ho21 hb hg_ hnew_
                 clear hg_ hnew_
                 (first | rw [← Ny214.out] at ho21 | (simp only [Int.reduceToNat] at ho21; rw [← Ny214.out] at ho21))
                 have n0_ := aM (Kd.R_lower ho21 (below_size (uL HB)))
                 have n1_ := blkB BK209 hb
                 have n2_ := aM (below_step (uL HB) hb)
                 clear BK209 HB; have HO216 := n0_; have BK209 := n1_; have HB := n2_; clear n0_ n1_ n2_ hb ho21
                 refine hK.out _ _ ⟨(blk_cell BK209.out 0).trans rfl, (blk_cell BK209.out 1).trans rfl, (blk_cell BK209.out 2).trans rfl⟩ (fun hHeld => ?_)
                 clear hK K
                 refine nX 24 ?_
                 exact norm_ (by first | (simp only [putAll, Act.put, List.setIfInBounds_toArray, List.set_cons_zero, List.set_cons_succ]; done) | (simp only [putAll, Act.put, List.setIfInBounds_toArray, List.set_cons_zero, List.set_cons_succ]; rfl)) (hJ10 (v215) _ ⟨hHeld, (uR HO216), (uB BK209), (uL HB)⟩)
               ·skip
                rintro v215 w22 ⟨hS_, h0_, h1_, h2_⟩
                have n0_ : Aside0 (Kd.R (Kd.int .u8) 5 w22 w.heap.size (fun _ => True) v215 y214) := ⟨h0_⟩
                have n1_ : Aside0 (w22.heap[gb209]? = some (.cells #[.int .i64 a1_0, .int .i64 a1_1, .string a1_2] 40 (0, 0))) := ⟨h1_⟩
                have n2_ : Aside0 (Below w.heap.size w w22) := ⟨h2_⟩
                clear BK209 HB h0_ h1_ h2_; have HO216 := n0_; have BK209 := n1_; have HB := n2_; clear n0_ n1_ n2_
                have hHeld : w22.cell? ⟨gb209, 0, none⟩ = some (.int .i64 a1_0) ∧ w22.cell? ⟨gb209, 1, none⟩ = some (.int .i64 a1_1) ∧ w22.cell? ⟨gb209, 2, none⟩ = some (.string a1_2) := hS_
                refine norm_ (a' := ?_) ?_ ?_
                rotate_left
                ·simp only [putAll, Act.put, List.setIfInBounds_toArray, List.set_cons_zero, List.set_cons_succ]
                 rfl
                refine two_ (i := 1) (j := 11) (Ni := some 15) (Nj := some 25) #[true, true, false, true, true, false, false, true, true, true, true, false, false, true, true, false, false, false] #[true, false, false, true, true, false, false, true, true, true, true, true, false, true, true, false, false, false] rfl rfl rfl rfl (two_of HT_.out (by kernel_rfl)) (by decide) (by decide) (fun K hK => ?_) (fun K hK => ?_)
                ·skip
                 refine gX Try.func52 #[.int .i64 a0] ?_
                 with_reducible refine (spec_l01Var.calls kj2 a0 t212 _ A13.out).mono ?_
                 rintro e w23 ⟨rfl, hb⟩
                 refine ⟨_, rfl, ?_⟩
                 replace HO216 := aM (Kd.R_below (uR HO216) hb)
                 replace BK209 := blkB BK209 hb
                 replace HB := aM (below_step (uL HB) hb)
                 (try clear hb)
                 (try clear hb2)
                 (try clear hk)
                 (try clear hi)
                 refine hK.out _ _ ⟨(blk_cell BK209.out 0).trans rfl, (blk_cell BK209.out 1).trans rfl, (blk_cell BK209.out 2).trans rfl⟩ (fun hHeld => ?_)
                 clear hK K
                 refine nX 15 ?_; refine pA HT_.out 2 16 18 26527 ?_
                 exact norm_ (by first | (simp only [putAll, Act.put, List.setIfInBounds_toArray, List.set_cons_zero, List.set_cons_succ]; done) | (simp only [putAll, Act.put, List.setIfInBounds_toArray, List.set_cons_zero, List.set_cons_succ]; rfl)) (hJ1_10 (v215) _ ⟨hHeld, (uR HO216), (uB BK209), (uL HB)⟩)
                ·skip
                 have hcv23 := own_string (P := Try.prog) Try.underlying75 Try.underlying5 Try.underlying9 (Kd.own_of_R HO216.out)
                 refine value_ (w1 := ?_) (v := ?_) (by rfl) rfl ?_ ?_
                 rotate_left 2
                 ·go_simp
                  constructor
                  ·rfl
                  ·rfl
                 clear hcv23
                 refine hK.out _ _ ⟨(blk_cell BK209.out 0).trans rfl, (blk_cell BK209.out 1).trans rfl, (blk_cell BK209.out 2).trans rfl⟩ (fun hHeld => ?_)
                 clear hK K
                 refine nX 25 ?_
                 exact norm_ (by first | (simp only [putAll, Act.put, List.setIfInBounds_toArray, List.set_cons_zero, List.set_cons_succ]; done) | (simp only [putAll, Act.put, List.setIfInBounds_toArray, List.set_cons_zero, List.set_cons_succ]; rfl)) (hJ10_11 (v215) _ ⟨hHeld, (uR HO216), (uB BK209), (uL HB)⟩)
              ·skip
               rintro _ w21 ⟨hS_, h0_, h1_⟩
               have n0_ : Aside0 (w21.heap[gb209]? = some (.cells #[.int .i64 a1_0, .int .i64 a1_1, .string a1_2] 40 (0, 0))) := ⟨h0_⟩
               have n1_ : Aside0 (Below w.heap.size w w21) := ⟨h1_⟩
               clear BK209 HB h0_ h1_; have BK209 := n0_; have HB := n1_; clear n0_ n1_
               have hHeld : w21.cell? ⟨gb209, 0, none⟩ = some (.int .i64 a1_0) ∧ w21.cell? ⟨gb209, 1, none⟩ = some (.int .i64 a1_1) ∧ w21.cell? ⟨gb209, 2, none⟩ = some (.string a1_2) := hS_
               refine norm_ (a' := ?_) ?_ ?_
               rotate_left
               ·simp only [putAll, Act.put, List.setIfInBounds_toArray, List.set_cons_zero, List.set_cons_succ]
                rfl
               refine two_ (i := 5) (j := 10) (Ni := some 19) (Nj := some 24) #[true, true, true, true, true, true, false, true, true, true, false, false, false, true, true, false, false, false] #[true, true, true, true, true, false, false, true, true, true, true, false, false, true, true, false, false, false] rfl rfl rfl rfl (two_of HT_.out (by kernel_rfl)) (by decide) (by decide) (fun K hK => ?_) (fun K hK => ?_)
               ·skip
                refine gX Try.func52 #[.int .i64 a1_0] ?_
                with_reducible refine (spec_l01Var.calls kj2 a1_0 t213 _ A15.out).mono ?_
                rintro e w22 ⟨rfl, hb⟩
                refine ⟨_, rfl, ?_⟩
                replace BK209 := blkB BK209 hb
                replace HB := aM (below_step (uL HB) hb)
                (try clear hb)
                (try clear hb2)
                (try clear hk)
                (try clear hi)
                refine hK.out _ _ ⟨(blk_cell BK209.out 0).trans rfl, (blk_cell BK209.out 1).trans rfl, (blk_cell BK209.out 2).trans rfl⟩ (fun hHeld => ?_)
                clear hK K
                refine nX 19 ?_; refine pA HT_.out 6 20 18 25599 ?_
                exact norm_ (by first | (simp only [putAll, Act.put, List.setIfInBounds_toArray, List.set_cons_zero, List.set_cons_succ]; done) | (simp only [putAll, Act.put, List.setIfInBounds_toArray, List.set_cons_zero, List.set_cons_succ]; rfl)) (hJ1_5 () _ ⟨hHeld, (uB BK209), (uL HB)⟩)
               ·skip
                refine Kd.R_lit_step (Kd.int .u8) _ 5 ?hg (N := 24) ?hd (xs := ([(a1_1) % 256] : List Int)) (inner := [.int .u8 ((a1_1) % 256)]) (ok := fun _ => True) (okp := fun _ => True) ?hr ?hp (fun _ hk => hk) trivial (Below.refl _ _) (Nat.le_refl _) (by simp) ?_; (case hd => rfl); (case hg => rfl); (case hr => first | (go_simp; done) | (go_simp; rfl)); (case hp => exact (Reps.one (show Kd.M (Kd.int .u8) _ _ _ ((a1_1) % 256) [.int .u8 ((a1_1) % 256)] from rfl) (Reps.none _ _)))
                intro v215 w22 ho23 hb hg_ hnew_
                clear hg_ hnew_
                (first | rw [← Ny214.out] at ho23 | (simp only [Int.reduceToNat] at ho23; rw [← Ny214.out] at ho23))
                have n0_ := aM (Kd.R_lower ho23 (below_size (uL HB)))
                have n1_ := blkB BK209 hb
                have n2_ := aM (below_step (uL HB) hb)
                clear BK209 HB; have HO216 := n0_; have BK209 := n1_; have HB := n2_; clear n0_ n1_ n2_ hb ho23
                refine hK.out _ _ ⟨(blk_cell BK209.out 0).trans rfl, (blk_cell BK209.out 1).trans rfl, (blk_cell BK209.out 2).trans rfl⟩ (fun hHeld => ?_)
                clear hK K
                refine nX 24 ?_
                exact norm_ (by first | (simp only [putAll, Act.put, List.setIfInBounds_toArray, List.set_cons_zero, List.set_cons_succ]; done) | (simp only [putAll, Act.put, List.setIfInBounds_toArray, List.set_cons_zero, List.set_cons_succ]; rfl)) (hJ1_10 (v215) _ ⟨hHeld, (uR HO216), (uB BK209), (uL HB)⟩)
             ·skip
              rintro v215 w23 ⟨hS_, h0_, h1_, h2_⟩
              have n0_ : Aside0 (Kd.R (Kd.int .u8) 5 w23 w.heap.size (fun _ => True) v215 y214) := ⟨h0_⟩
              have n1_ : Aside0 (w23.heap[gb209]? = some (.cells #[.int .i64 a1_0, .int .i64 a1_1, .string a1_2] 40 (0, 0))) := ⟨h1_⟩
              have n2_ : Aside0 (Below w.heap.size w w23) := ⟨h2_⟩
              clear BK209 HB h0_ h1_ h2_; have HO216 := n0_; have BK209 := n1_; have HB := n2_; clear n0_ n1_ n2_
              have hHeld : w23.cell? ⟨gb209, 0, none⟩ = some (.int .i64 a1_0) ∧ w23.cell? ⟨gb209, 1, none⟩ = some (.int .i64 a1_1) ∧ w23.cell? ⟨gb209, 2, none⟩ = some (.string a1_2) := hS_
              refine norm_ (a' := ?_) ?_ ?_
              rotate_left
              ·simp only [putAll, Act.put, List.setIfInBounds_toArray, List.set_cons_zero, List.set_cons_succ]
               rfl
              refine oA HT_.out 1 (some 15) 18 28571 (fun K hK => ?_)
              refine gX Try.func52 #[.int .i64 a0] ?_
              with_reducible refine (spec_l01Var.calls kj2 a0 t212 _ A13.out).mono ?_
              rintro e w24 ⟨rfl, hb⟩
              refine ⟨_, rfl, ?_⟩
              replace HO216 := aM (Kd.R_below (uR HO216) hb)
              replace BK209 := blkB BK209 hb
              replace HB := aM (below_step (uL HB) hb)
              (try clear hb)
              (try clear hb2)
              (try clear hk)
              (try clear hi)
              refine hK.out _ _ ⟨(blk_cell BK209.out 0).trans rfl, (blk_cell BK209.out 1).trans rfl, (blk_cell BK209.out 2).trans rfl⟩ (fun hHeld => ?_)
              clear hK K
              refine nX 15 ?_; refine pA HT_.out 2 16 18 28575 ?_
              exact norm_ (by first | (simp only [putAll, Act.put, List.setIfInBounds_toArray, List.set_cons_zero, List.set_cons_succ]; done) | (simp only [putAll, Act.put, List.setIfInBounds_toArray, List.set_cons_zero, List.set_cons_succ]; rfl)) (hJ1_10_11 (v215) _ ⟨hHeld, (uR HO216), (uB BK209), (uL HB)⟩)
            ·skip
             rintro v215 w23 ⟨hS_, h0_, h1_, h2_⟩
             have n0_ : Aside0 (Kd.R (Kd.int .u8) 5 w23 w.heap.size (fun _ => True) v215 y214) := ⟨h0_⟩
             have n1_ : Aside0 (w23.heap[gb209]? = some (.cells #[.int .i64 a1_0, .int .i64 a1_1, .string a1_2] 40 (0, 0))) := ⟨h1_⟩
             have n2_ : Aside0 (Below w.heap.size w w23) := ⟨h2_⟩
             clear BK209 HB h0_ h1_ h2_; have HO216 := n0_; have BK209 := n1_; have HB := n2_; clear n0_ n1_ n2_
             have hHeld : w23.cell? ⟨gb209, 0, none⟩ = some (.int .i64 a1_0) ∧ w23.cell? ⟨gb209, 1, none⟩ = some (.int .i64 a1_1) ∧ w23.cell? ⟨gb209, 2, none⟩ = some (.string a1_2) := hS_
             refine norm_ (a' := ?_) ?_ ?_
             rotate_left
             ·simp only [putAll, Act.put, List.setIfInBounds_toArray, List.set_cons_zero, List.set_cons_succ]
              rfl
             refine two_ (i := 5) (j := 11) (Ni := some 19) (Nj := some 25) #[true, true, true, true, true, true, false, true, true, true, true, false, false, true, true, false, false, false] #[true, true, true, true, true, false, false, true, true, true, true, true, false, true, true, false, false, false] rfl rfl rfl rfl (two_of HT_.out (by kernel_rfl)) (by decide) (by decide) (fun K hK => ?_) (fun K hK => ?_)
             ·skip
              refine gX Try.func52 #[.int .i64 a1_0] ?_
              with_reducible refine (spec_l01Var.calls kj2 a1_0 t213 _ A15.out).mono ?_
              rintro e w24 ⟨rfl, hb⟩
              refine ⟨_, rfl, ?_⟩
              replace HO216 := aM (Kd.R_below (uR HO216) hb)
              replace BK209 := blkB BK209 hb
              replace HB := aM (below_step (uL HB) hb)
              (try clear hb)
              (try clear hb2)
              (try clear hk)
              (try clear hi)
              refine hK.out _ _ ⟨(blk_cell BK209.out 0).trans rfl, (blk_cell BK209.out 1).trans rfl, (blk_cell BK209.out 2).trans rfl⟩ (fun hHeld => ?_)
              clear hK K
              refine nX 19 ?_; refine pA HT_.out 6 20 18 26623 ?_
              exact norm_ (by first | (simp only [putAll, Act.put, List.setIfInBounds_toArray, List.set_cons_zero, List.set_cons_succ]; done) | (simp only [putAll, Act.put, List.setIfInBounds_toArray, List.set_cons_zero, List.set_cons_succ]; rfl)) (hJ1_5_10 (v215) _ ⟨hHeld, (uR HO216), (uB BK209), (uL HB)⟩)
             ·skip
              have hcv24 := own_string (P := Try.prog) Try.underlying75 Try.underlying5 Try.underlying9 (Kd.own_of_R HO216.out)
              refine value_ (w1 := ?_) (v := ?_) (by rfl) rfl ?_ ?_
              rotate_left 2
              ·go_simp
               constructor
               ·rfl
               ·rfl
              clear hcv24
              refine hK.out _ _ ⟨(blk_cell BK209.out 0).trans rfl, (blk_cell BK209.out 1).trans rfl, (blk_cell BK209.out 2).trans rfl⟩ (fun hHeld => ?_)
              clear hK K
              refine nX 25 ?_
              exact norm_ (by first | (simp only [putAll, Act.put, List.setIfInBounds_toArray, List.set_cons_zero, List.set_cons_succ]; done) | (simp only [putAll, Act.put, List.setIfInBounds_toArray, List.set_cons_zero, List.set_cons_succ]; rfl)) (hJ1_10_11 (v215) _ ⟨hHeld, (uR HO216), (uB BK209), (uL HB)⟩)
           ·skip
            rintro _ w22 ⟨hS_, h0_, h1_⟩
            have n0_ : Aside0 (w22.heap[gb209]? = some (.cells #[.int .i64 a1_0, .int .i64 a1_1, .string a1_2] 40 (0, 0))) := ⟨h0_⟩
            have n1_ : Aside0 (Below w.heap.size w w22) := ⟨h1_⟩
            clear BK209 HB h0_ h1_; have BK209 := n0_; have HB := n1_; clear n0_ n1_
            have hHeld : w22.cell? ⟨gb209, 0, none⟩ = some (.int .i64 a1_0) ∧ w22.cell? ⟨gb209, 1, none⟩ = some (.int .i64 a1_1) ∧ w22.cell? ⟨gb209, 2, none⟩ = some (.string a1_2) := hS_
            refine norm_ (a' := ?_) ?_ ?_
            rotate_left
            ·simp only [putAll, Act.put, List.setIfInBounds_toArray, List.set_cons_zero, List.set_cons_succ]
             rfl
            refine oA HT_.out 10 (some 24) 18 26623 (fun K hK => ?_)
            refine Kd.R_lit_step (Kd.int .u8) _ 5 ?hg (N := 24) ?hd (xs := ([(a1_1) % 256] : List Int)) (inner := [.int .u8 ((a1_1) % 256)]) (ok := fun _ => True) (okp := fun _ => True) ?hr ?hp (fun _ hk => hk) trivial (Below.refl _ _) (Nat.le_refl _) (by simp) ?_; (case hd => rfl); (case hg => rfl); (case hr => first | (go_simp; done) | (go_simp; rfl)); (case hp => exact (Reps.one (show Kd.M (Kd.int .u8) _ _ _ ((a1_1) % 256) [.int .u8 ((a1_1) % 256)] from rfl) (Reps.none _ _)))
            intro v215 w23 ho24 hb hg_ hnew_
            clear hg_ hnew_
            (first | rw [← Ny214.out] at ho24 | (simp only [Int.reduceToNat] at ho24; rw [← Ny214.out] at ho24))
            have n0_ := aM (Kd.R_lower ho24 (below_size (uL HB)))
            have n1_ := blkB BK209 hb
            have n2_ := aM (below_step (uL HB) hb)
            clear BK209 HB; have HO216 := n0_; have BK209 := n1_; have HB := n2_; clear n0_ n1_ n2_ hb ho24
            refine hK.out _ _ ⟨(blk_cell BK209.out 0).trans rfl, (blk_cell BK209.out 1).trans rfl, (blk_cell BK209.out 2).trans rfl⟩ (fun hHeld => ?_)
            clear hK K
            refine nX 24 ?_
            exact norm_ (by first | (simp only [putAll, Act.put, List.setIfInBounds_toArray, List.set_cons_zero, List.set_cons_succ]; done) | (simp only [putAll, Act.put, List.setIfInBounds_toArray, List.set_cons_zero, List.set_cons_succ]; rfl)) (hJ1_5_10 (v215) _ ⟨hHeld, (uR HO216), (uB BK209), (uL HB)⟩)
          ·skip
           rintro v215 w24 ⟨hS_, h0_, h1_, h2_⟩
           have n0_ : Aside0 (Kd.R (Kd.int .u8) 5 w24 w.heap.size (fun _ => True) v215 y214) := ⟨h0_⟩
           have n1_ : Aside0 (w24.heap[gb209]? = some (.cells #[.int .i64 a1_0, .int .i64 a1_1, .string a1_2] 40 (0, 0))) := ⟨h1_⟩
           have n2_ : Aside0 (Below w.heap.size w w24) := ⟨h2_⟩
           clear BK209 HB h0_ h1_ h2_; have HO216 := n0_; have BK209 := n1_; have HB := n2_; clear n0_ n1_ n2_
           have hHeld : w24.cell? ⟨gb209, 0, none⟩ = some (.int .i64 a1_0) ∧ w24.cell? ⟨gb209, 1, none⟩ = some (.int .i64 a1_1) ∧ w24.cell? ⟨gb209, 2, none⟩ = some (.string a1_2) := hS_
           refine norm_ (a' := ?_) ?_ ?_
           rotate_left
           ·simp only [putAll, Act.put, List.setIfInBounds_toArray, List.set_cons_zero, List.set_cons_succ]
            rfl
           refine oA HT_.out 5 (some 19) 18 28607 (fun K hK => ?_)
           refine gX Try.func52 #[.int .i64 a1_0] ?_
           with_reducible refine (spec_l01Var.calls kj2 a1_0 t213 _ A15.out).mono ?_
           rintro e w25 ⟨rfl, hb⟩
           refine ⟨_, rfl, ?_⟩
           replace HO216 := aM (Kd.R_below (uR HO216) hb)
           replace BK209 := blkB BK209 hb
           replace HB := aM (below_step (uL HB) hb)
           (try clear hb)
           (try clear hb2)
           (try clear hk)
           (try clear hi)
           refine hK.out _ _ ⟨(blk_cell BK209.out 0).trans rfl, (blk_cell BK209.out 1).trans rfl, (blk_cell BK209.out 2).trans rfl⟩ (fun hHeld => ?_)
           clear hK K
           refine nX 19 ?_; refine pA HT_.out 6 20 18 28671 ?_
           exact norm_ (by first | (simp only [putAll, Act.put, List.setIfInBounds_toArray, List.set_cons_zero, List.set_cons_succ]; done) | (simp only [putAll, Act.put, List.setIfInBounds_toArray, List.set_cons_zero, List.set_cons_succ]; rfl)) (hJ1_5_10_11 (v215) _ ⟨hHeld, (uR HO216), (uB BK209), (uL HB)⟩)
         ·skip
          rintro v215 w24 ⟨hS_, h0_, h1_, h2_⟩
          have n0_ : Aside0 (Kd.R (Kd.int .u8) 5 w24 w.heap.size (fun _ => True) v215 y214) := ⟨h0_⟩
          have n1_ : Aside0 (w24.heap[gb209]? = some (.cells #[.int .i64 a1_0, .int .i64 a1_1, .string a1_2] 40 (0, 0))) := ⟨h1_⟩
          have n2_ : Aside0 (Below w.heap.size w w24) := ⟨h2_⟩
          clear BK209 HB h0_ h1_ h2_; have HO216 := n0_; have BK209 := n1_; have HB := n2_; clear n0_ n1_ n2_
          have hHeld : w24.cell? ⟨gb209, 0, none⟩ = some (.int .i64 a1_0) ∧ w24.cell? ⟨gb209, 1, none⟩ = some (.int .i64 a1_1) ∧ w24.cell? ⟨gb209, 2, none⟩ = some (.string a1_2) := hS_
          refine norm_ (a' := ?_) ?_ ?_
          rotate_left
          ·simp only [putAll, Act.put, List.setIfInBounds_toArray, List.set_cons_zero, List.set_cons_succ]
           rfl
          refine oA HT_.out 11 (some 25) 18 28671 (fun K hK => ?_)
          have hcv25 := own_string (P := Try.prog) Try.underlying75 Try.underlying5 Try.underlying9 (Kd.own_of_R HO216.out)
          refine value_ (w1 := ?_) (v := ?_) (by rfl) rfl ?_ ?_
          rotate_left 2
          ·go_simp
           constructor
           ·rfl
           ·rfl
          clear hcv25
          refine hK.out _ _ ⟨(blk_cell BK209.out 0).trans rfl, (blk_cell BK209.out 1).trans rfl, (blk_cell BK209.out 2).trans rfl⟩ (fun hHeld => ?_)
          clear hK K
          refine nX 25 ?_
          exact norm_ (by first | (simp only [putAll, Act.put, List.setIfInBounds_toArray, List.set_cons_zero, List.set_cons_succ]; done) | (simp only [putAll, Act.put, List.setIfInBounds_toArray, List.set_cons_zero, List.set_cons_succ]; rfl)) (hJ1_5_10_11 (v215) _ ⟨hHeld, (uR HO216), (uB BK209), (uL HB)⟩)
        rintro v215 w25 ⟨hS_, h0_, h1_, h2_⟩
        have n0_ : Aside0 (Kd.R (Kd.int .u8) 5 w25 w.heap.size (fun _ => True) v215 y214) := ⟨h0_⟩
        have n1_ : Aside0 (w25.heap[gb209]? = some (.cells #[.int .i64 a1_0, .int .i64 a1_1, .string a1_2] 40 (0, 0))) := ⟨h1_⟩
        have n2_ : Aside0 (Below w.heap.size w w25) := ⟨h2_⟩
        clear BK209 HB h0_ h1_ h2_; have HO216 := n0_; have BK209 := n1_; have HB := n2_; clear n0_ n1_ n2_
        have hHeld : w25.cell? ⟨gb209, 0, none⟩ = some (.int .i64 a1_0) ∧ w25.cell? ⟨gb209, 1, none⟩ = some (.int .i64 a1_1) ∧ w25.cell? ⟨gb209, 2, none⟩ = some (.string a1_2) := hS_
        refine norm_ (a' := ?_) ?_ ?_
        rotate_left
        ·simp only [putAll, Act.put, List.setIfInBounds_toArray, List.set_cons_zero, List.set_cons_succ]
         rfl
        refine pA HT_.out 12 26 18 32767 ?_; refine pA HT_.out 15 29 18 65535 ?_; refine pA HT_.out 16 4 18 131071 ?_; refine pA HT_.out 17 5 18 262143 ?_
        refine done_ (done_of HT_.out (by kernel_rfl)) ?_
        try go_wp2
        go_ret2
        exact rX HB
       ·rw [if_neg c18] at H
        exact absurd H (by simp)
      ·rw [if_neg c17] at H
       exact absurd H (by simp)
     ·rw [if_neg c16] at H
      exact absurd H (by simp)
    ·rw [if_neg c14] at H
     exact absurd H (by simp)

end Go.Proofs.Ytacdceahdbaonaa.QFnExactJournalText
