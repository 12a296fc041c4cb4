-- Own work (wip/turnprint.py over the kit's print).
import Derived.Test.YtacdceahdbaonaaQFnExactLogPutx0
import Derived.Test.YtacdceahdbaonaaQFnExactLogPutx2
import Derived.Test.YtacdceahdbaonaaQFnExactLogPutx3
namespace Go.Proofs.Ytacdceahdbaonaa.QFnExactLogPut
open Go.RowKit Go.Proofs.YtacdceahdbaonaaW.PrintWords Go.Proofs.YtacdceahdbaonaaW.PrintLast Go.Proofs.YtacdceahdbaonaaW.PrintMore
attribute [local go_sem] max2_int min2_int max_two min_two max_three min_three max_four min_four   -- for this text's walks alone
set_option linter.unusedVariables false
set_option linter.unusedSimpArgs false

/-! ### spec_LogPut: function 28 -/
def spec_LogPut.j0 : Nat → Int → Bool → Int → Int → List (S40) → Int → Int → ByteArray → Option (Int × Int × (List (S40)) × Bool)
 | 0, _, _, _, _, _, _, _, _ => none
 | k + 1, x1, x22, x172000, x172001, x172002, x173000, x173001, x173002 => if x22 = true then (some (0, 0, ([] : List (S40)), false)) else ((some (([] : List (S40)) : List (S40))).bind fun y177 => (if 0 ≤ (wrap64 ((wrap64 (x1 - x172000)) - 1)) then (if (wrap64 ((wrap64 (x1 - x172000)) - 1)) ≤ (x172002.length : Int) then ((some (x172002.take ((wrap64 ((wrap64 (x1 - x172000)) - 1)) : Int).toNat : List (S40))).bind fun y180 => (if y177.length + y180.length < 4398046511104 then ((some (y177 ++ y180 : List (S40))).bind fun y184 => ((some (([(⟨x173000, x173001, x173002⟩ : S40)] : List (S40)) : List (S40))).bind fun y187 => (if y184.length + y187.length < 4398046511104 then ((some (y184 ++ y187 : List (S40))).bind fun y190 => ((spec_LogOk.f k x172000 x172001 y190).bind fun t194 => (if t194 = true then (some (x172000, x172001, y190, true)) else (some (0, 0, ([] : List (S40)), false))))) else (none)))) else (none))) else (none)) else (none)))
def spec_LogPut.f (k : Nat) (a0_0 : Int) (a0_1 : Int) (l0_2 : List (S40)) (a1 : Int) (a2_0 : Int) (a2_1 : Int) (a2_2 : ByteArray) : Option (Int × Int × (List (S40)) × Bool) := (spec_LogOk.f k a0_0 a0_1 l0_2).bind fun t174 => (if t174 = true then ((spec_l06Last.f a0_0 a0_1 l0_2).bind fun t175 => ((spec_l01In.f a1 (wrap64 (a0_0 + 1)) (wrap64 (t175 + 1))).bind fun t176 => (spec_LogPut.j0 k a1 (!t176) a0_0 a0_1 l0_2 a2_0 a2_1 a2_2))) else (spec_LogPut.j0 k a1 true a0_0 a0_1 l0_2 a2_0 a2_1 a2_2))
theorem spec_LogPut.mono_l : ∀ k, (∀ y0 y1 y2 y3 y4 y5 y6 y7, LeO (spec_LogPut.j0 k y0 y1 y2 y3 y4 y5 y6 y7) (spec_LogPut.j0 (k + 1) y0 y1 y2 y3 y4 y5 y6 y7))
 | 0 => fun _ _ _ _ _ _ _ _ r h => by simp [spec_LogPut.j0] at h
 | k + 1 => by
  have ih0 := spec_LogPut.mono_l k
  ·intro y0 y1 y2 y3 y4 y5 y6 y7
   unfold spec_LogPut.j0
   repeat' first
   | (with_reducible exact ih0 _ _ _ _ _ _ _ _)
   | (with_reducible exact spec_LogOk.mono _ _ _ _)
   | (with_reducible exact LeO.refl _)
   | (with_reducible exact LeO.none _)
   | (with_reducible refine LeO.ite ?_ ?_)
   | (with_reducible refine LeO.bind ?_ (fun _ => ?_))
   | exact ih0 _ _ _ _ _ _ _ _
   | exact spec_LogOk.mono _ _ _ _
   | exact LeO.none _
   | refine LeO.ite ?_ ?_
   | refine LeO.bind ?_ (fun _ => ?_)
theorem spec_LogPut.mono : ∀ a0 a1 a2 a3 a4 a5 a6 k, LeO (spec_LogPut.f k a0 a1 a2 a3 a4 a5 a6) (spec_LogPut.f (k + 1) a0 a1 a2 a3 a4 a5 a6) := by
 intro a0 a1 a2 a3 a4 a5 a6 k
 have ih0 := spec_LogPut.mono_l k
 unfold spec_LogPut.f
 repeat' first
  | (with_reducible exact ih0 _ _ _ _ _ _ _ _)
  | (with_reducible exact spec_LogOk.mono _ _ _ _)
  | (with_reducible exact LeO.refl _)
  | (with_reducible exact LeO.none _)
  | (with_reducible refine LeO.ite ?_ ?_)
  | (with_reducible refine LeO.bind ?_ (fun _ => ?_))
  | exact ih0 _ _ _ _ _ _ _ _
  | exact spec_LogOk.mono _ _ _ _
  | exact LeO.none _
  | refine LeO.ite ?_ ?_
  | refine LeO.bind ?_ (fun _ => ?_)
def spec_LogPut.T1 : Bool × List (List Nat × List Nat) := (true, [([], []), ([0], [0]), ([1], [1]), ([2, 1], [2]), ([3], [3]), ([3], [3]), ([5, 3], [3, 5]), ([6, 3], [3, 6]), ([3], [3]), ([8, 3, 3], [3, 8]), ([9, 3], [3, 9]), ([4, 7, 10, 9, 3], [3, 4, 7, 10]), ([11, 3], [3, 11]), ([3, 12], [3, 12])])
def spec_LogPut.B1 : List Nat := [0, 1, 3, 7, 15, 15, 47, 111, 15, 271, 783, 2047, 4095, 8191]
theorem spec_LogPut.tab1 : rtab .any (opsOf Try.f28 1) = spec_LogPut.T1 := by kernel_rfl
theorem spec_LogPut.bits1 : waitsOk spec_LogPut.T1.2 spec_LogPut.B1 = true := by kernel_rfl
def spec_LogPut.T3 : Bool × List (List Nat × List Nat) := (true, [([], []), ([0], [0]), ([], []), ([2], [2]), ([], []), ([], []), ([5], [5]), ([], []), ([], []), ([8], [8]), ([7, 9], [7, 9]), ([10], [10]), ([6, 11], [6, 11]), ([4, 12], [4, 12]), ([], []), ([14], [14]), ([13, 15, 13], [13, 15]), ([1, 3, 16], [1, 3, 16]), ([], []), ([18, 17, 16, 0, 1, 2, 3, 4, 5, 6, 7, 8, 9, 10, 11, 12, 13, 14, 15, 16, 17, 18], [17, 18])])
def spec_LogPut.B3 : List Nat := [0, 1, 0, 4, 0, 0, 32, 0, 0, 256, 896, 1920, 4064, 8176, 0, 16384, 65520, 131071, 0, 524287]
theorem spec_LogPut.tab3 : rtab .any (opsOf Try.f28 3) = spec_LogPut.T3 := by kernel_rfl
theorem spec_LogPut.bits3 : waitsOk spec_LogPut.T3.2 spec_LogPut.B3 = true := by kernel_rfl
set_option maxHeartbeats 8000000 in
set_option maxRecDepth 100000 in
theorem spec_LogPut.calls (k : Nat) (a0_0 : Int) (a0_1 : Int) (A0_2 : Option Addr) (c0_2 : Nat) (l0_2 : List (S40)) (a1 : Int) (a2_0 : Int) (a2_1 : Int) (a2_2 : ByteArray) (r1 : Int) (r2 : Int) (r3 : List (S40)) (r4 : Bool) (w : World) (hr0_2 : Kd.C k40 w A0_2 l0_2.length l0_2) (hc0_2 : l0_2.length ≤ c0_2) (h : spec_LogPut.f k a0_0 a0_1 l0_2 a1 a2_0 a2_1 a2_2 = some (r1, r2, r3, r4)) :
 Calls Try.prog 28 #[.agg #[.int .i64 a0_0, .int .i64 a0_1, .slice A0_2 l0_2.length c0_2], .int .i64 a1, .agg #[.int .i64 a2_0, .int .i64 a2_1, .string a2_2]] w fun e w' => ∃ v2_ : Value, e = .returned (.tuple #[.agg #[.int .i64 r1, .int .i64 r2, v2_], .bool r4]) ∧ Kd.R k40 40 w' w.heap.size (fun _ => True) v2_ r3 ∧ Below w.heap.size w w' := by
 have hu30 := Try.underlying30
 have hu40 := Try.underlying40
 have HR0_2 := aM hr0_2
 have HC0_2 := aM hc0_2
 clear hr0_2 hc0_2
 have HB := aM (Below.refl w.heap.size w)
 have H : ((spec_LogOk.f k a0_0 a0_1 l0_2).bind fun t174 => (if t174 = true then ((spec_l06Last.f a0_0 a0_1 l0_2).bind fun t175 => ((spec_l01In.f a1 (wrap64 (a0_0 + 1)) (wrap64 (t175 + 1))).bind fun t176 => (spec_LogPut.j0 k a1 (!t176) a0_0 a0_1 l0_2 a2_0 a2_1 a2_2))) else (spec_LogPut.j0 k a1 true a0_0 a0_1 l0_2 a2_0 a2_1 a2_2))) = some (r1, r2, r3, r4) := h
 clear h
 have HC4 := aM H
 clear H
 go_enter Try.func28, Try.ntmps28
 go_upto_region 1 with (first | ((with_reducible refine gate_dst (N := 3) rfl ?_); refine bxE 3 #[.int .i64 a0_0, .int .i64 a0_1, .slice A0_2 l0_2.length c0_2] 30 ?_; intro gb171 hg w5 hbox hb; have BK171 := aM (hbox); have GW171 := szG hg (uL HB); have GE171 := szG hg (uL HB); replace HB := aM (below_step (uL HB) hb); clear hb hbox hg) | ((with_reducible refine gate_dst (N := 5) rfl ?_); refine bxE 5 #[.int .i64 a2_0, .int .i64 a2_1, .string a2_2] 40 ?_; intro gb172 hg w6 hbox hb; have BK172 := aM (hbox); have GW172 := szG hg (uL HB); have GE172 := szG hg (uL HB); have NB171_172 := neL hg BK171; have NB172_171 := neG hg BK171; replace BK171 := blkB BK171 hb; replace HB := aM (below_step (uL HB) hb); clear hb hbox hg) | ((with_reducible refine gate_dst (N := 6) rfl ?_); refine bxE 6 #[.int .i64 0, .int .i64 0, .slice none 0 0] 30 ?_; intro gb173 hg w7 hbox hb; have BK173 := aM (hbox); have GW173 := szG hg (uL HB); have GE173 := szG hg (uL HB); have NB171_173 := neL hg BK171; have NB173_171 := neG hg BK171; have NB172_173 := neL hg BK172; have NB173_172 := neG hg BK172; replace BK171 := blkB BK171 hb; replace BK172 := blkB BK172 hb; replace HB := aM (below_step (uL HB) hb); clear hb hbox hg))
 (try simp only [Act.put, List.setIfInBounds_toArray, List.set_cons_zero, List.set_cons_succ])
 go_cut [22] (fun v22 wc => ∃ (kq : Nat) (x22_3 : Bool), v22 = .bool x22_3 ∧ Aside0 (spec_LogPut.j0 kq a1 x22_3 a0_0 a0_1 l0_2 a2_0 a2_1 a2_2 = some (r1, r2, r3, r4)) ∧ Aside0 (kq ≤ k) ∧ Aside0 (wc.heap[gb171]? = some (.cells #[.int .i64 a0_0, .int .i64 a0_1, (.slice A0_2 l0_2.length c0_2)] 30 (0, 0))) ∧ Aside0 (wc.heap[gb172]? = some (.cells #[.int .i64 a2_0, .int .i64 a2_1, .string a2_2] 40 (0, 0))) ∧ Aside0 (wc.heap[gb173]? = some (.cells #[.int .i64 0, .int .i64 0, (.slice none 0 0)] 30 (0, 0))) ∧ Aside0 (Below w.heap.size w wc))
 case first =>
  have H := HC4.out
  clear HC4
  replace H := Option.bind_eq_some_iff.mp H
  obtain ⟨t174, A80, H⟩ := H
  try dsimp only at H
  have A8 := aM A80
  clear A80
  by_cases c9 : t174 = true
  ·subst c9
   rw [if_pos rfl] at H
   replace H := Option.bind_eq_some_iff.mp H
   obtain ⟨t175, A100, H⟩ := H
   try dsimp only at H
   have A10 := aM A100
   clear A100
   replace H := Option.bind_eq_some_iff.mp H
   obtain ⟨t176, A110, H⟩ := H
   replace H : (spec_LogPut.j0 k a1 (!t176) a0_0 a0_1 l0_2 a2_0 a2_1 a2_2) = some (r1, r2, r3, r4) := H
   have A11 := aM A110
   clear A110
   have H' := aM H
   clear H
   try go_wp2
   replace BK171 := aM (blk_drew BK171.out)
   replace BK172 := aM (blk_drew BK172.out)
   replace BK173 := aM (blk_drew BK173.out)
   replace HB := aM (below_drew1 HB.out)
   refine start_ (n := 14) (S := fun w' => w'.cell? ⟨gb171, 0, none⟩ = some (.int .i64 a0_0) ∧ w'.cell? ⟨gb171, 1, none⟩ = some (.int .i64 a0_1) ∧ w'.cell? ⟨gb171, 2, none⟩ = some (.slice A0_2 l0_2.length c0_2)) (ds := []) (bB 14 0) (by kernel_rfl) rfl rfl ⟨(blk_cell BK171.out 0).trans rfl, (blk_cell BK171.out 1).trans rfl, (blk_cell BK171.out 2).trans rfl⟩ (fun hHeld => ?_); refine with_tabW spec_LogPut.tab1 spec_LogPut.bits1 (fun HT_ HW_ => ?_)
   generalize w7.drew = w12 at BK171 BK172 BK173 HB hHeld ⊢
   refine tA HT_.out HW_.out 0 9 14 1 hHeld ?_
   refine oA HT_.out 1 (some 10) 14 3 (fun K hK => ?_)
   refine gX Try.func26 #[.agg #[.int .i64 a0_0, .int .i64 a0_1, .slice A0_2 l0_2.length c0_2]] ?_
   with_reducible refine (spec_LogOk.calls k a0_0 a0_1 _ _ l0_2 true _ ?side1 ?side2 A8.out).mono ?_
   (case side1 => exact uC HR0_2 HB)
   (case side2 => exact HC0_2.out)
   rintro e w13 ⟨rfl, hb⟩
   refine ⟨_, rfl, ?_⟩
   replace BK171 := blkB BK171 hb
   replace BK172 := blkB BK172 hb
   replace BK173 := blkB BK173 hb
   replace HB := aM (below_step (uL HB) hb)
   (try clear hb)
   (try clear hb2)
   (try clear hk)
   (try clear hi)
   refine hK.out _ _ ⟨(blk_cell BK171.out 0).trans rfl, (blk_cell BK171.out 1).trans rfl, (blk_cell BK171.out 2).trans rfl⟩ (fun hHeld => ?_)
   clear hK K
   refine nX 10 ?_; refine pA HT_.out 2 11 14 7 ?_; refine pA HT_.out 3 12 14 15 ?_; refine pA HT_.out 4 13 14 31 ?_; refine pA HT_.out 5 14 14 63 ?_; refine tA HT_.out HW_.out 6 15 14 127 hHeld ?_; refine pA HT_.out 7 16 14 255 ?_; refine tA HT_.out HW_.out 8 17 14 511 hHeld ?_
   refine oA HT_.out 9 (some 18) 14 1023 (fun K hK => ?_)
   refine gX Try.func47 #[.agg #[.int .i64 a0_0, .int .i64 a0_1, .slice A0_2 l0_2.length c0_2]] ?_
   with_reducible refine (spec_l06Last.calls a0_0 a0_1 _ _ l0_2 t175 _ ?side1 ?side2 A10.out).mono ?_
   (case side1 => exact uC HR0_2 HB)
   (case side2 => exact HC0_2.out)
   rintro e w14 ⟨rfl, hb⟩
   refine ⟨_, rfl, ?_⟩
   replace BK171 := blkB BK171 hb
   replace BK172 := blkB BK172 hb
   replace BK173 := blkB BK173 hb
   replace HB := aM (below_step (uL HB) hb)
   (try clear hb)
   (try clear hb2)
   (try clear hk)
   (try clear hi)
   refine hK.out _ _ ⟨(blk_cell BK171.out 0).trans rfl, (blk_cell BK171.out 1).trans rfl, (blk_cell BK171.out 2).trans rfl⟩ (fun hHeld => ?_)
   clear hK K
   refine nX 18 ?_; refine pA HT_.out 10 19 14 2047 ?_
   refine oA HT_.out 11 (some 20) 14 4095 (fun K hK => ?_)
   refine gX Try.func48 #[.int .i64 a1, .int .i64 (wrap64 (a0_0 + 1)), .int .i64 (wrap64 (t175 + 1))] ?_
   with_reducible refine (spec_l01In.calls a1 (wrap64 (a0_0 + 1)) (wrap64 (t175 + 1)) t176 _ A11.out).mono ?_
   rintro e w' ⟨rfl, ⟨nd, rfl⟩⟩
   refine ⟨_, rfl, ?_⟩
   refine hK.out _ _ ⟨(blk_cell BK171.out 0).trans rfl, (blk_cell BK171.out 1).trans rfl, (blk_cell BK171.out 2).trans rfl⟩ (fun hHeld => ?_)
   clear hK K
   refine nX 20 ?_; refine pA HT_.out 12 21 14 8191 ?_; refine pA HT_.out 13 22 14 16383 ?_
   refine done_ (done_of HT_.out (by kernel_rfl)) ?_
   try go_wp2
   go_meet
   case rel => exact ⟨_, (!t176), (by first | rfl | (simp; done) | (simp [*]; done)), H', ⟨by first | omega | exact Nat.le_refl _⟩, ⟨by exact nB BK171.out⟩, ⟨by exact nB BK172.out⟩, ⟨by exact nB BK173.out⟩, ⟨uL HB⟩⟩
  ·replace c9 := Bool.eq_false_iff.mpr c9
   subst c9
   have H1 : (spec_LogPut.j0 k a1 true a0_0 a0_1 l0_2 a2_0 a2_1 a2_2) = some (r1, r2, r3, r4) := by rw [if_neg (show ¬ (false = true) by decide)] at H; exact H
   clear H; have H := H1; clear H1
   have H' := aM H
   clear H
   try go_wp2
   replace BK171 := aM (blk_drew BK171.out)
   replace BK172 := aM (blk_drew BK172.out)
   replace BK173 := aM (blk_drew BK173.out)
   replace HB := aM (below_drew1 HB.out)
   refine start_ (n := 14) (S := fun w' => w'.cell? ⟨gb171, 0, none⟩ = some (.int .i64 a0_0) ∧ w'.cell? ⟨gb171, 1, none⟩ = some (.int .i64 a0_1) ∧ w'.cell? ⟨gb171, 2, none⟩ = some (.slice A0_2 l0_2.length c0_2)) (ds := []) (bB 14 0) (by kernel_rfl) rfl rfl ⟨(blk_cell BK171.out 0).trans rfl, (blk_cell BK171.out 1).trans rfl, (blk_cell BK171.out 2).trans rfl⟩ (fun hHeld => ?_); refine with_tabW spec_LogPut.tab1 spec_LogPut.bits1 (fun HT_ HW_ => ?_)
   generalize w7.drew = w15 at BK171 BK172 BK173 HB hHeld ⊢
   refine tA HT_.out HW_.out 0 9 14 1 hHeld ?_
   refine oA HT_.out 1 (some 10) 14 3 (fun K hK => ?_)
   refine gX Try.func26 #[.agg #[.int .i64 a0_0, .int .i64 a0_1, .slice A0_2 l0_2.length c0_2]] ?_
   with_reducible refine (spec_LogOk.calls k a0_0 a0_1 _ _ l0_2 false _ ?side1 ?side2 A8.out).mono ?_
   (case side1 => exact uC HR0_2 HB)
   (case side2 => exact HC0_2.out)
   rintro e w16 ⟨rfl, hb⟩
   refine ⟨_, rfl, ?_⟩
   replace BK171 := blkB BK171 hb
   replace BK172 := blkB BK172 hb
   replace BK173 := blkB BK173 hb
   replace HB := aM (below_step (uL HB) hb)
   (try clear hb)
   (try clear hb2)
   (try clear hk)
   (try clear hi)
   refine hK.out _ _ ⟨(blk_cell BK171.out 0).trans rfl, (blk_cell BK171.out 1).trans rfl, (blk_cell BK171.out 2).trans rfl⟩ (fun hHeld => ?_)
   clear hK K
   refine nX 10 ?_; refine pA HT_.out 2 11 14 7 ?_; refine pA HT_.out 3 12 14 15 ?_; refine pB HT_.out 4 13 14 31 ?_; refine pB HT_.out 5 14 14 63 ?_; refine pB HT_.out 6 15 14 127 ?_; refine pB HT_.out 7 16 14 255 ?_; refine pB HT_.out 8 17 14 511 ?_; refine pB HT_.out 9 18 14 1023 ?_; refine pB HT_.out 10 19 14 2047 ?_; refine pB HT_.out 11 20 14 4095 ?_; refine pB HT_.out 12 21 14 8191 ?_; refine pA HT_.out 13 22 14 16383 ?_
   refine done_ (done_of HT_.out (by kernel_rfl)) ?_
   try go_wp2
   go_meet
   case rel => exact ⟨_, (true), (by first | rfl | (simp; done) | (simp [*]; done)), H', ⟨by first | omega | exact Nat.le_refl _⟩, ⟨by exact nB BK171.out⟩, ⟨by exact nB BK172.out⟩, ⟨by exact nB BK173.out⟩, ⟨uL HB⟩⟩
 case rest =>
  clear HC4
  try clear c2; try clear p2; try clear c4; try clear p6; try clear c9
  obtain ⟨kq, x22_3, rfl, HA, HJ3, BK171, BK172, BK173, HB⟩ := hcut
  cases kq with
  | zero => exact absurd HA.out (by simp [spec_LogPut.j0])
  | succ kj3 =>
   have H := HA.out
   clear HA
   simp only [spec_LogPut.j0] at H
   by_cases c17 : x22_3 = true
   ·subst c17
    have H1 : (some (0, 0, ([] : List (S40)), false)) = some (r1, r2, r3, r4) := by rw [if_pos rfl] at H; exact H
    clear H; have H := H1; clear H1
    simp only [Option.some.injEq, Prod.mk.injEq] at H
    obtain ⟨rfl, rfl, rfl, rfl⟩ := H
    have hnb18 := NB173_171.out; have hnc18 := NB171_173.out; have hnb19 := NB173_172.out; have hnc19 := NB172_173.out
    have hcz20_0 := czA BK173.out 0 (.int .i64 0)
    have hcz20_1 := czA BK173.out 1 (.int .i64 0)
    have hcz20_2 := czA BK173.out 2 (.slice none 0 0)
    have hfz20_0 := blk_frozen BK173.out 0; have hfz20_1 := blk_frozen BK173.out 1; have hfz20_2 := blk_frozen BK173.out 2
    go_wp2
    refine bodyPost_ret (results_ct rfl _ _ gb173 30 #[.int .i64 0, .int .i64 0, .slice none 0 0] (0, 0) _ rfl (by refine nB ?_; refine blk_put (cs := #[.int .i64 0, .int .i64 0, .slice none 0 0]) ?_ 2 _ rfl; refine nB ?_; refine blk_put (cs := #[.int .i64 0, .int .i64 0, .slice none 0 0]) ?_ 1 _ rfl; refine nB ?_; refine blk_put (cs := #[.int .i64 0, .int .i64 0, .slice none 0 0]) ?_ 0 _ rfl; exact nB BK173.out) Try.underlying30 rfl (by kernel_rfl)) rfl ?_
    exact ⟨_, by first | rfl | (simp [errW_none, errW_some] <;> rfl) | (simp [*, errW_none, errW_some] <;> rfl), by first | exact Kd.R_nil _ _ _ _ _ | exact Kd.N_nil _ _ _ _ _ | exact Kd.V_nil _ _ _ _ _ | exact Kd.Q_nil _ _ _ _ _ | exact Kd.S_nil _ _ _ _ _, uL HB⟩
   ·replace c17 := Bool.eq_false_iff.mpr c17
    subst c17
    rw [if_neg (show ¬ (false = true) by decide)] at H
    obtain ⟨y177, hy177⟩ : ∃ y_ : List (S40), y_ = (([] : List (S40))) := ⟨_, rfl⟩
    replace H : (if 0 ≤ (wrap64 ((wrap64 (a1 - a0_0)) - 1)) then (if (wrap64 ((wrap64 (a1 - a0_0)) - 1)) ≤ (l0_2.length : Int) then ((some (l0_2.take ((wrap64 ((wrap64 (a1 - a0_0)) - 1)) : Int).toNat : List (S40))).bind fun y180 => (if y177.length + y180.length < 4398046511104 then ((some (y177 ++ y180 : List (S40))).bind fun y184 => ((some (([(⟨a2_0, a2_1, a2_2⟩ : S40)] : List (S40)) : List (S40))).bind fun y187 => (if y184.length + y187.length < 4398046511104 then ((some (y184 ++ y187 : List (S40))).bind fun y190 => ((spec_LogOk.f kj3 a0_0 a0_1 y190).bind fun t194 => (if t194 = true then (some (a0_0, a0_1, y190, true)) else (some (0, 0, ([] : List (S40)), false))))) else (none)))) else (none))) else (none)) else (none)) = some (r1, r2, r3, r4) := by first | (rw [hy177]; with_reducible exact H) | (have H2_ := (Option.bind_some _ _).symm.trans H; rw [hy177]; with_reducible exact H2_) | (have H2_ := (Option.bind_some _ _).symm.trans H; with_reducible exact H2_) | with_reducible exact H | (rw [hy177]; exact H) | exact H
    have Ny177 := aM hy177
    clear hy177
    obtain ⟨ji21, hji21⟩ : ∃ j_ : Int, (wrap64 ((wrap64 (a1 - a0_0)) - 1)) = j_ := ⟨_, rfl⟩
    replace H : (if 0 ≤ (ji21) then (if (ji21) ≤ (l0_2.length : Int) then ((some (l0_2.take ((ji21) : Int).toNat : List (S40))).bind fun y180 => (if y177.length + y180.length < 4398046511104 then ((some (y177 ++ y180 : List (S40))).bind fun y184 => ((some (([(⟨a2_0, a2_1, a2_2⟩ : S40)] : List (S40)) : List (S40))).bind fun y187 => (if y184.length + y187.length < 4398046511104 then ((some (y184 ++ y187 : List (S40))).bind fun y190 => ((spec_LogOk.f kj3 a0_0 a0_1 y190).bind fun t194 => (if t194 = true then (some (a0_0, a0_1, y190, true)) else (some (0, 0, ([] : List (S40)), false))))) else (none)))) else (none))) else (none)) else (none)) = some (r1, r2, r3, r4) := by first | (rw [hji21] at H; exact H) | (simp only [hji21] at H ⊢; exact H)
    have hji21w : (IntKind.i64.wrap ((wrap64 (a1 - a0_0)) - 1)) = ji21 := (i64_w _).trans hji21
    by_cases c22 : 0 ≤ (ji21)
    ·rw [if_pos c22] at H
     have c22b0 := eq_true c22
     have c22b1 : decide (0 ≤ (ji21)) = true := decide_eq_true c22
     clear c22
     by_cases c23 : (ji21) ≤ (l0_2.length : Int)
     ·rw [if_pos c23] at H
      have c23b0 := eq_true c23
      have c23b1 : decide ((ji21) ≤ (l0_2.length : Int)) = true := decide_eq_true c23
      clear c23
      obtain ⟨y180, hy180⟩ : ∃ y_ : List (S40), y_ = (l0_2.take ((ji21) : Int).toNat) := ⟨_, rfl⟩
      replace H : (if y177.length + y180.length < 4398046511104 then ((some (y177 ++ y180 : List (S40))).bind fun y184 => ((some (([(⟨a2_0, a2_1, a2_2⟩ : S40)] : List (S40)) : List (S40))).bind fun y187 => (if y184.length + y187.length < 4398046511104 then ((some (y184 ++ y187 : List (S40))).bind fun y190 => ((spec_LogOk.f kj3 a0_0 a0_1 y190).bind fun t194 => (if t194 = true then (some (a0_0, a0_1, y190, true)) else (some (0, 0, ([] : List (S40)), false))))) else (none)))) else (none)) = some (r1, r2, r3, r4) := by first | (rw [hy180]; with_reducible exact H) | (have H2_ := (Option.bind_some _ _).symm.trans H; rw [hy180]; with_reducible exact H2_) | (have H2_ := (Option.bind_some _ _).symm.trans H; with_reducible exact H2_) | with_reducible exact H | (rw [hy180]; exact H) | exact H
      have Ny180 := aM hy180
      clear hy180
      by_cases c24 : y177.length + y180.length < 4398046511104
      ·rw [if_pos c24] at H
       have LMc24 := aM c24
       clear c24
       obtain ⟨y184, hy184⟩ : ∃ y_ : List (S40), y_ = (y177 ++ y180) := ⟨_, rfl⟩
       replace H : ((some (([(⟨a2_0, a2_1, a2_2⟩ : S40)] : List (S40)) : List (S40))).bind fun y187 => (if y184.length + y187.length < 4398046511104 then ((some (y184 ++ y187 : List (S40))).bind fun y190 => ((spec_LogOk.f kj3 a0_0 a0_1 y190).bind fun t194 => (if t194 = true then (some (a0_0, a0_1, y190, true)) else (some (0, 0, ([] : List (S40)), false))))) else (none))) = some (r1, r2, r3, r4) := by first | (rw [hy184]; with_reducible exact H) | (have H2_ := (Option.bind_some _ _).symm.trans H; rw [hy184]; with_reducible exact H2_) | (have H2_ := (Option.bind_some _ _).symm.trans H; with_reducible exact H2_) | with_reducible exact H | (rw [hy184]; exact H) | exact H
       have Ny184 := aM hy184
       clear hy184
       obtain ⟨y187, hy187⟩ : ∃ y_ : List (S40), y_ = (([(⟨a2_0, a2_1, a2_2⟩ : S40)] : List (S40))) := ⟨_, rfl⟩
       replace H : (if y184.length + y187.length < 4398046511104 then ((some (y184 ++ y187 : List (S40))).bind fun y190 => ((spec_LogOk.f kj3 a0_0 a0_1 y190).bind fun t194 => (if t194 = true then (some (a0_0, a0_1, y190, true)) else (some (0, 0, ([] : List (S40)), false))))) else (none)) = some (r1, r2, r3, r4) := by first | (rw [hy187]; with_reducible exact H) | (have H2_ := (Option.bind_some _ _).symm.trans H; rw [hy187]; with_reducible exact H2_) | (have H2_ := (Option.bind_some _ _).symm.trans H; with_reducible exact H2_) | with_reducible exact H | (rw [hy187]; exact H) | exact H
       have Ny187 := aM hy187
       clear hy187
       by_cases c25 : y184.length + y187.length < 4398046511104
       ·rw [if_pos c25] at H
        have LMc25 := aM c25
        clear c25
        obtain ⟨y190, hy190⟩ : ∃ y_ : List (S40), y_ = (y184 ++ y187) := ⟨_, rfl⟩
        replace H : ((spec_LogOk.f kj3 a0_0 a0_1 y190).bind fun t194 => (if t194 = true then (some (a0_0, a0_1, y190, true)) else (some (0, 0, ([] : List (S40)), false)))) = some (r1, r2, r3, r4) := by first | (rw [hy190]; with_reducible exact H) | (have H2_ := (Option.bind_some _ _).symm.trans H; rw [hy190]; with_reducible exact H2_) | (have H2_ := (Option.bind_some _ _).symm.trans H; with_reducible exact H2_) | with_reducible exact H | (rw [hy190]; exact H) | exact H
        have Ny190 := aM hy190
        clear hy190
        replace H := Option.bind_eq_some_iff.mp H
        obtain ⟨t194, A260, H⟩ := H
        replace H : (if t194 = true then (some (a0_0, a0_1, y190, true)) else (some (0, 0, ([] : List (S40)), false))) = some (r1, r2, r3, r4) := H
        have A26 := aM A260
        clear A260
        by_cases c27 : t194 = true
        ·subst c27
         have H1 : (some (a0_0, a0_1, y190, true)) = some (r1, r2, r3, r4) := by rw [if_pos rfl] at H; exact H
         clear H; have H := H1; clear H1
         simp only [Option.some.injEq, Prod.mk.injEq] at H
         obtain ⟨rfl, rfl, rfl, rfl⟩ := H
         try go_wp2
         replace BK171 := aM (blk_drew BK171.out)
         replace BK172 := aM (blk_drew BK172.out)
         replace BK173 := aM (blk_drew BK173.out)
         replace HB := aM (below_drew1 HB.out)
         have q29 : ((ji21) : Int) ≤ ((l0_2.length : Int) : Int) := of_decide_eq_true (by first | (with_reducible assumption) | assumption)
         obtain ⟨i029, hi029, _, hsz29, _⟩ := info_parts info40
         have hroom29 : l0_2.length ≤ c0_2 := HC0_2.out
         have hC29 : Kd.C k40 _ A0_2 l0_2.length l0_2 := HR0_2.out
         have hcut29 := cut_to (P := Try.prog) 28 40 .i64 Try.underlying28 hi029 A0_2 l0_2.length c0_2 (ji21) (of_decide_eq_true (by first | (with_reducible assumption) | assumption)) q29 hroom29
         have hr29 := Kd.C_take (m := ((ji21) : Int).toNat) hC29 (by omega)
         have hy29 : y180.length = ((ji21) : Int).toNat := (by rw [Ny180.out, List.length_take]; omega)
         rw [← Ny180.out] at hr29
         rw [← hy29] at hcut29
         have HR183 := aM hr29
         have HC183 := aM (show y180.length ≤ c0_2 from by omega)
         clear hr29 hC29 hroom29 hi029 hsz29
         have KY29 := aM hy29
         clear hy29
         replace q29 := eq_true q29
         refine start_ (n := 20) (S := fun w' => w'.cell? ⟨gb171, 0, none⟩ = some (.int .i64 a0_0) ∧ w'.cell? ⟨gb171, 1, none⟩ = some (.int .i64 a0_1) ∧ w'.cell? ⟨gb171, 2, none⟩ = some (.slice A0_2 l0_2.length c0_2) ∧ w'.cell? ⟨gb172, 0, none⟩ = some (.int .i64 a2_0) ∧ w'.cell? ⟨gb172, 1, none⟩ = some (.int .i64 a2_1) ∧ w'.cell? ⟨gb172, 2, none⟩ = some (.string a2_2)) (ds := []) (bB 20 0) (by kernel_rfl) rfl rfl ⟨(blk_cell BK171.out 0).trans rfl, (blk_cell BK171.out 1).trans rfl, (blk_cell BK171.out 2).trans rfl, (blk_cell BK172.out 0).trans rfl, (blk_cell BK172.out 1).trans rfl, (blk_cell BK172.out 2).trans rfl⟩ (fun hHeld => ?_); refine with_tabW spec_LogPut.tab3 spec_LogPut.bits3 (fun HT_ HW_ => ?_)
         generalize wc.drew = w28 at BK171 BK172 BK173 HB HR183 hHeld ⊢
         refine pA HT_.out 0 24 20 1 ?_; refine pA HT_.out 2 26 20 5 ?_; refine pA HT_.out 5 29 20 37 ?_; refine pA HT_.out 7 31 20 165 ?_; refine pA HT_.out 8 32 20 421 ?_; refine tA HT_.out HW_.out 1 25 20 423 hHeld ?_; refine tA HT_.out HW_.out 3 27 20 431 hHeld ?_; refine tA HT_.out HW_.out 6 30 20 495 hHeld ?_; refine tA HT_.out HW_.out 9 33 20 1007 hHeld ?_; refine pA HT_.out 10 34 20 2031 ?_; refine pA HT_.out 11 35 20 4079 ?_; refine pA HT_.out 12 36 20 8175 ?_; refine tA HT_.out HW_.out 14 38 20 24559 hHeld ?_
         refine join_ (σ := Value × Value × Value × Value × Nat) 1 #[true, true, true, true, true, true, true, true, true, true, true, true, true, true, true, true, true, true, true, false] (fun s_ => [(28, s_.1), (37, s_.2.1), (39, s_.2.2.1), (40, s_.2.2.2.1), (8, .pointer (some ⟨s_.2.2.2.2, 0, none⟩)), (41, .agg #[.int .i64 a0_0, .int .i64 a0_1, s_.2.2.2.1])]) (fun s_ w' => (w'.cell? ⟨gb171, 0, none⟩ = some (.int .i64 a0_0) ∧ w'.cell? ⟨gb171, 1, none⟩ = some (.int .i64 a0_1) ∧ w'.cell? ⟨gb171, 2, none⟩ = some (.slice A0_2 l0_2.length c0_2) ∧ w'.cell? ⟨gb172, 0, none⟩ = some (.int .i64 a2_0) ∧ w'.cell? ⟨gb172, 1, none⟩ = some (.int .i64 a2_1) ∧ w'.cell? ⟨gb172, 2, none⟩ = some (.string a2_2)) ∧ (Kd.R k40 40 w' w.heap.size (fun k_ => some k_ ≠ (s_.2.2.2.1 : Value).ownBlock ∧ k_ ≠ gb172) s_.2.2.1 y187) ∧ (Kd.R k40 40 w' w.heap.size (fun k_ => some k_ ≠ (s_.2.2.1 : Value).ownBlock ∧ k_ ≠ gb172) s_.2.2.2.1 y190) ∧ (w'.heap[gb171]? = some (.cells #[.int .i64 a0_0, .int .i64 a0_1, .slice A0_2 l0_2.length c0_2] 30 (0, 0))) ∧ (w'.heap[gb172]? = some (.cells #[.int .i64 a2_0, .int .i64 a2_1, .string a2_2] 40 (0, 0))) ∧ (w'.heap[gb173]? = some (.cells #[.int .i64 0, .int .i64 0, .slice none 0 0] 30 (0, 0))) ∧ (w'.heap[s_.2.2.2.2]? = some (.cells #[.int .i64 0, .int .i64 0, .slice none 0 0] 30 (0, 0))) ∧ (w.heap.size ≤ s_.2.2.2.2) ∧ (w.heap.size ≤ s_.2.2.2.2) ∧ (gb171 ≠ s_.2.2.2.2) ∧ (s_.2.2.2.2 ≠ gb171) ∧ (gb172 ≠ s_.2.2.2.2) ∧ (s_.2.2.2.2 ≠ gb172) ∧ (gb173 ≠ s_.2.2.2.2) ∧ (s_.2.2.2.2 ≠ gb173) ∧ (Below w.heap.size w w')) ?_ ?_
         rotate_left
         ·intro hJ4_13_15_16_18
          refine join_ (σ := Value × Value × Value × Value) 2 #[true, true, true, true, true, true, true, true, true, true, true, true, true, true, true, true, true, true, false, false] (fun s_ => [(28, s_.1), (37, s_.2.1), (39, s_.2.2.1), (40, s_.2.2.2), (41, .agg #[.int .i64 a0_0, .int .i64 a0_1, s_.2.2.2])]) (fun s_ w' => (w'.cell? ⟨gb171, 0, none⟩ = some (.int .i64 a0_0) ∧ w'.cell? ⟨gb171, 1, none⟩ = some (.int .i64 a0_1) ∧ w'.cell? ⟨gb171, 2, none⟩ = some (.slice A0_2 l0_2.length c0_2) ∧ w'.cell? ⟨gb172, 0, none⟩ = some (.int .i64 a2_0) ∧ w'.cell? ⟨gb172, 1, none⟩ = some (.int .i64 a2_1) ∧ w'.cell? ⟨gb172, 2, none⟩ = some (.string a2_2)) ∧ (Kd.R k40 40 w' w.heap.size (fun k_ => some k_ ≠ (s_.2.2.2 : Value).ownBlock ∧ k_ ≠ gb172) s_.2.2.1 y187) ∧ (Kd.R k40 40 w' w.heap.size (fun k_ => some k_ ≠ (s_.2.2.1 : Value).ownBlock ∧ k_ ≠ gb172) s_.2.2.2 y190) ∧ (w'.heap[gb171]? = some (.cells #[.int .i64 a0_0, .int .i64 a0_1, .slice A0_2 l0_2.length c0_2] 30 (0, 0))) ∧ (w'.heap[gb172]? = some (.cells #[.int .i64 a2_0, .int .i64 a2_1, .string a2_2] 40 (0, 0))) ∧ (w'.heap[gb173]? = some (.cells #[.int .i64 0, .int .i64 0, .slice none 0 0] 30 (0, 0))) ∧ (Below w.heap.size w w')) ?_ ?_
          rotate_left
          ·intro hJ4_13_15_16
           refine join_ (σ := Value × Value × Value × Nat) 3 #[true, true, true, true, true, true, true, true, true, true, true, true, true, true, true, true, false, false, true, false] (fun s_ => [(28, s_.1), (37, s_.2.1), (39, s_.2.2.1), (8, .pointer (some ⟨s_.2.2.2, 0, none⟩))]) (fun s_ w' => (w'.cell? ⟨gb171, 0, none⟩ = some (.int .i64 a0_0) ∧ w'.cell? ⟨gb171, 1, none⟩ = some (.int .i64 a0_1) ∧ w'.cell? ⟨gb171, 2, none⟩ = some (.slice A0_2 l0_2.length c0_2) ∧ w'.cell? ⟨gb172, 0, none⟩ = some (.int .i64 a2_0) ∧ w'.cell? ⟨gb172, 1, none⟩ = some (.int .i64 a2_1) ∧ w'.cell? ⟨gb172, 2, none⟩ = some (.string a2_2)) ∧ (Kd.R k40 40 w' w.heap.size (fun k_ => some k_ ≠ (s_.2.2.1 : Value).ownBlock ∧ k_ ≠ gb172) s_.2.1 y184) ∧ (Kd.R k40 40 w' w.heap.size (fun k_ => some k_ ≠ (s_.2.1 : Value).ownBlock ∧ k_ ≠ gb172) s_.2.2.1 y187) ∧ (w'.heap[gb171]? = some (.cells #[.int .i64 a0_0, .int .i64 a0_1, .slice A0_2 l0_2.length c0_2] 30 (0, 0))) ∧ (w'.heap[gb172]? = some (.cells #[.int .i64 a2_0, .int .i64 a2_1, .string a2_2] 40 (0, 0))) ∧ (w'.heap[gb173]? = some (.cells #[.int .i64 0, .int .i64 0, .slice none 0 0] 30 (0, 0))) ∧ (w'.heap[s_.2.2.2]? = some (.cells #[.int .i64 0, .int .i64 0, .slice none 0 0] 30 (0, 0))) ∧ (w.heap.size ≤ s_.2.2.2) ∧ (w.heap.size ≤ s_.2.2.2) ∧ (gb171 ≠ s_.2.2.2) ∧ (s_.2.2.2 ≠ gb171) ∧ (gb172 ≠ s_.2.2.2) ∧ (s_.2.2.2 ≠ gb172) ∧ (gb173 ≠ s_.2.2.2) ∧ (s_.2.2.2 ≠ gb173) ∧ (Below w.heap.size w w')) ?_ ?_
           rotate_left
           ·intro hJ4_13_15_18
            refine join_ (σ := Value × Value × Value) 4 #[true, true, true, true, true, true, true, true, true, true, true, true, true, true, true, true, false, false, false, false] (fun s_ => [(28, s_.1), (37, s_.2.1), (39, s_.2.2)]) (fun s_ w' => (w'.cell? ⟨gb171, 0, none⟩ = some (.int .i64 a0_0) ∧ w'.cell? ⟨gb171, 1, none⟩ = some (.int .i64 a0_1) ∧ w'.cell? ⟨gb171, 2, none⟩ = some (.slice A0_2 l0_2.length c0_2) ∧ w'.cell? ⟨gb172, 0, none⟩ = some (.int .i64 a2_0) ∧ w'.cell? ⟨gb172, 1, none⟩ = some (.int .i64 a2_1) ∧ w'.cell? ⟨gb172, 2, none⟩ = some (.string a2_2)) ∧ (Kd.R k40 40 w' w.heap.size (fun k_ => some k_ ≠ (s_.2.2 : Value).ownBlock ∧ k_ ≠ gb172) s_.2.1 y184) ∧ (Kd.R k40 40 w' w.heap.size (fun k_ => some k_ ≠ (s_.2.1 : Value).ownBlock ∧ k_ ≠ gb172) s_.2.2 y187) ∧ (w'.heap[gb171]? = some (.cells #[.int .i64 a0_0, .int .i64 a0_1, .slice A0_2 l0_2.length c0_2] 30 (0, 0))) ∧ (w'.heap[gb172]? = some (.cells #[.int .i64 a2_0, .int .i64 a2_1, .string a2_2] 40 (0, 0))) ∧ (w'.heap[gb173]? = some (.cells #[.int .i64 0, .int .i64 0, .slice none 0 0] 30 (0, 0))) ∧ (Below w.heap.size w w')) ?_ ?_
            rotate_left
            ·intro hJ4_13_15
             refine join_ (σ := Value × Value × Nat) 4 #[true, true, true, true, true, true, true, true, true, true, true, true, true, true, true, false, false, false, true, false] (fun s_ => [(28, s_.1), (37, s_.2.1), (8, .pointer (some ⟨s_.2.2, 0, none⟩))]) (fun s_ w' => (w'.cell? ⟨gb171, 0, none⟩ = some (.int .i64 a0_0) ∧ w'.cell? ⟨gb171, 1, none⟩ = some (.int .i64 a0_1) ∧ w'.cell? ⟨gb171, 2, none⟩ = some (.slice A0_2 l0_2.length c0_2) ∧ w'.cell? ⟨gb172, 0, none⟩ = some (.int .i64 a2_0) ∧ w'.cell? ⟨gb172, 1, none⟩ = some (.int .i64 a2_1) ∧ w'.cell? ⟨gb172, 2, none⟩ = some (.string a2_2)) ∧ (Kd.R k40 40 w' w.heap.size (fun k_ => k_ ≠ gb172) s_.2.1 y184) ∧ (w'.heap[gb171]? = some (.cells #[.int .i64 a0_0, .int .i64 a0_1, .slice A0_2 l0_2.length c0_2] 30 (0, 0))) ∧ (w'.heap[gb172]? = some (.cells #[.int .i64 a2_0, .int .i64 a2_1, .string a2_2] 40 (0, 0))) ∧ (w'.heap[gb173]? = some (.cells #[.int .i64 0, .int .i64 0, .slice none 0 0] 30 (0, 0))) ∧ (w'.heap[s_.2.2]? = some (.cells #[.int .i64 0, .int .i64 0, .slice none 0 0] 30 (0, 0))) ∧ (w.heap.size ≤ s_.2.2) ∧ (w.heap.size ≤ s_.2.2) ∧ (gb171 ≠ s_.2.2) ∧ (s_.2.2 ≠ gb171) ∧ (gb172 ≠ s_.2.2) ∧ (s_.2.2 ≠ gb172) ∧ (gb173 ≠ s_.2.2) ∧ (s_.2.2 ≠ gb173) ∧ (Below w.heap.size w w')) ?_ ?_
             rotate_left
             ·intro hJ4_13_18
              refine join_ (σ := Value × Value × Nat) 4 #[true, true, true, true, true, true, true, true, true, true, true, true, true, false, true, true, false, false, true, false] (fun s_ => [(28, s_.1), (39, s_.2.1), (8, .pointer (some ⟨s_.2.2, 0, none⟩))]) (fun s_ w' => (w'.cell? ⟨gb171, 0, none⟩ = some (.int .i64 a0_0) ∧ w'.cell? ⟨gb171, 1, none⟩ = some (.int .i64 a0_1) ∧ w'.cell? ⟨gb171, 2, none⟩ = some (.slice A0_2 l0_2.length c0_2) ∧ w'.cell? ⟨gb172, 0, none⟩ = some (.int .i64 a2_0) ∧ w'.cell? ⟨gb172, 1, none⟩ = some (.int .i64 a2_1) ∧ w'.cell? ⟨gb172, 2, none⟩ = some (.string a2_2)) ∧ (Kd.R k40 40 w' w.heap.size (fun k_ => some k_ ≠ (s_.2.1 : Value).ownBlock ∧ k_ ≠ gb172) s_.1 y177) ∧ (Kd.R k40 40 w' w.heap.size (fun k_ => some k_ ≠ (s_.1 : Value).ownBlock ∧ k_ ≠ gb172) s_.2.1 y187) ∧ (w'.heap[gb171]? = some (.cells #[.int .i64 a0_0, .int .i64 a0_1, .slice A0_2 l0_2.length c0_2] 30 (0, 0))) ∧ (w'.heap[gb172]? = some (.cells #[.int .i64 a2_0, .int .i64 a2_1, .string a2_2] 40 (0, 0))) ∧ (w'.heap[gb173]? = some (.cells #[.int .i64 0, .int .i64 0, .slice none 0 0] 30 (0, 0))) ∧ (w'.heap[s_.2.2]? = some (.cells #[.int .i64 0, .int .i64 0, .slice none 0 0] 30 (0, 0))) ∧ (w.heap.size ≤ s_.2.2) ∧ (w.heap.size ≤ s_.2.2) ∧ (gb171 ≠ s_.2.2) ∧ (s_.2.2 ≠ gb171) ∧ (gb172 ≠ s_.2.2) ∧ (s_.2.2 ≠ gb172) ∧ (gb173 ≠ s_.2.2) ∧ (s_.2.2 ≠ gb173) ∧ (Below w.heap.size w w')) ?_ ?_
              rotate_left
              ·intro hJ4_15_18
               refine join_ (σ := Value × Value) 5 #[true, true, true, true, true, true, true, true, true, true, true, true, true, true, true, false, false, false, false, false] (fun s_ => [(28, s_.1), (37, s_.2)]) (fun s_ w' => (w'.cell? ⟨gb171, 0, none⟩ = some (.int .i64 a0_0) ∧ w'.cell? ⟨gb171, 1, none⟩ = some (.int .i64 a0_1) ∧ w'.cell? ⟨gb171, 2, none⟩ = some (.slice A0_2 l0_2.length c0_2) ∧ w'.cell? ⟨gb172, 0, none⟩ = some (.int .i64 a2_0) ∧ w'.cell? ⟨gb172, 1, none⟩ = some (.int .i64 a2_1) ∧ w'.cell? ⟨gb172, 2, none⟩ = some (.string a2_2)) ∧ (Kd.R k40 40 w' w.heap.size (fun k_ => k_ ≠ gb172) s_.2 y184) ∧ (w'.heap[gb171]? = some (.cells #[.int .i64 a0_0, .int .i64 a0_1, .slice A0_2 l0_2.length c0_2] 30 (0, 0))) ∧ (w'.heap[gb172]? = some (.cells #[.int .i64 a2_0, .int .i64 a2_1, .string a2_2] 40 (0, 0))) ∧ (w'.heap[gb173]? = some (.cells #[.int .i64 0, .int .i64 0, .slice none 0 0] 30 (0, 0))) ∧ (Below w.heap.size w w')) ?_ ?_
               rotate_left
               ·intro hJ4_13
                refine join_ (σ := Value × Value) 5 #[true, true, true, true, true, true, true, true, true, true, true, true, true, false, true, true, false, false, false, false] (fun s_ => [(28, s_.1), (39, s_.2)]) (fun s_ w' => (w'.cell? ⟨gb171, 0, none⟩ = some (.int .i64 a0_0) ∧ w'.cell? ⟨gb171, 1, none⟩ = some (.int .i64 a0_1) ∧ w'.cell? ⟨gb171, 2, none⟩ = some (.slice A0_2 l0_2.length c0_2) ∧ w'.cell? ⟨gb172, 0, none⟩ = some (.int .i64 a2_0) ∧ w'.cell? ⟨gb172, 1, none⟩ = some (.int .i64 a2_1) ∧ w'.cell? ⟨gb172, 2, none⟩ = some (.string a2_2)) ∧ (Kd.R k40 40 w' w.heap.size (fun k_ => some k_ ≠ (s_.2 : Value).ownBlock ∧ k_ ≠ gb172) s_.1 y177) ∧ (Kd.R k40 40 w' w.heap.size (fun k_ => some k_ ≠ (s_.1 : Value).ownBlock ∧ k_ ≠ gb172) s_.2 y187) ∧ (w'.heap[gb171]? = some (.cells #[.int .i64 a0_0, .int .i64 a0_1, .slice A0_2 l0_2.length c0_2] 30 (0, 0))) ∧ (w'.heap[gb172]? = some (.cells #[.int .i64 a2_0, .int .i64 a2_1, .string a2_2] 40 (0, 0))) ∧ (w'.heap[gb173]? = some (.cells #[.int .i64 0, .int .i64 0, .slice none 0 0] 30 (0, 0))) ∧ (Below w.heap.size w w')) ?_ ?_
                rotate_left
                ·intro hJ4_15
                 refine join_ (σ := Value × Nat) 5 #[true, true, true, true, true, true, true, true, true, true, true, true, true, false, true, false, false, false, true, false] (fun s_ => [(28, s_.1), (8, .pointer (some ⟨s_.2, 0, none⟩))]) (fun s_ w' => (w'.cell? ⟨gb171, 0, none⟩ = some (.int .i64 a0_0) ∧ w'.cell? ⟨gb171, 1, none⟩ = some (.int .i64 a0_1) ∧ w'.cell? ⟨gb171, 2, none⟩ = some (.slice A0_2 l0_2.length c0_2) ∧ w'.cell? ⟨gb172, 0, none⟩ = some (.int .i64 a2_0) ∧ w'.cell? ⟨gb172, 1, none⟩ = some (.int .i64 a2_1) ∧ w'.cell? ⟨gb172, 2, none⟩ = some (.string a2_2)) ∧ (Kd.R k40 40 w' w.heap.size (fun k_ => k_ ≠ gb172) s_.1 y177) ∧ (w'.heap[gb171]? = some (.cells #[.int .i64 a0_0, .int .i64 a0_1, .slice A0_2 l0_2.length c0_2] 30 (0, 0))) ∧ (w'.heap[gb172]? = some (.cells #[.int .i64 a2_0, .int .i64 a2_1, .string a2_2] 40 (0, 0))) ∧ (w'.heap[gb173]? = some (.cells #[.int .i64 0, .int .i64 0, .slice none 0 0] 30 (0, 0))) ∧ (w'.heap[s_.2]? = some (.cells #[.int .i64 0, .int .i64 0, .slice none 0 0] 30 (0, 0))) ∧ (w.heap.size ≤ s_.2) ∧ (w.heap.size ≤ s_.2) ∧ (gb171 ≠ s_.2) ∧ (s_.2 ≠ gb171) ∧ (gb172 ≠ s_.2) ∧ (s_.2 ≠ gb172) ∧ (gb173 ≠ s_.2) ∧ (s_.2 ≠ gb173) ∧ (Below w.heap.size w w')) ?_ ?_
                 rotate_left
                 ·intro hJ4_18
                  refine join_ (σ := Value × Nat) 5 #[true, true, true, true, false, true, true, true, true, true, true, true, true, false, true, true, false, false, true, false] (fun s_ => [(39, s_.1), (8, .pointer (some ⟨s_.2, 0, none⟩))]) (fun s_ w' => (w'.cell? ⟨gb171, 0, none⟩ = some (.int .i64 a0_0) ∧ w'.cell? ⟨gb171, 1, none⟩ = some (.int .i64 a0_1) ∧ w'.cell? ⟨gb171, 2, none⟩ = some (.slice A0_2 l0_2.length c0_2) ∧ w'.cell? ⟨gb172, 0, none⟩ = some (.int .i64 a2_0) ∧ w'.cell? ⟨gb172, 1, none⟩ = some (.int .i64 a2_1) ∧ w'.cell? ⟨gb172, 2, none⟩ = some (.string a2_2)) ∧ (Kd.R k40 40 w' w.heap.size (fun k_ => k_ ≠ gb172) s_.1 y187) ∧ (w'.heap[gb171]? = some (.cells #[.int .i64 a0_0, .int .i64 a0_1, .slice A0_2 l0_2.length c0_2] 30 (0, 0))) ∧ (w'.heap[gb172]? = some (.cells #[.int .i64 a2_0, .int .i64 a2_1, .string a2_2] 40 (0, 0))) ∧ (w'.heap[gb173]? = some (.cells #[.int .i64 0, .int .i64 0, .slice none 0 0] 30 (0, 0))) ∧ (w'.heap[s_.2]? = some (.cells #[.int .i64 0, .int .i64 0, .slice none 0 0] 30 (0, 0))) ∧ (w.heap.size ≤ s_.2) ∧ (w.heap.size ≤ s_.2) ∧ (gb171 ≠ s_.2) ∧ (s_.2 ≠ gb171) ∧ (gb172 ≠ s_.2) ∧ (s_.2 ≠ gb172) ∧ (gb173 ≠ s_.2) ∧ (s_.2 ≠ gb173) ∧ (Below w.heap.size w w')) ?_ ?_
                  rotate_left
                  ·intro hJ15_18
                   refine join_ (σ := Value) 6 #[true, true, true, true, true, true, true, true, true, true, true, true, true, false, true, false, false, false, false, false] (fun s_ => [(28, s_)]) (fun s_ w' => (w'.cell? ⟨gb171, 0, none⟩ = some (.int .i64 a0_0) ∧ w'.cell? ⟨gb171, 1, none⟩ = some (.int .i64 a0_1) ∧ w'.cell? ⟨gb171, 2, none⟩ = some (.slice A0_2 l0_2.length c0_2) ∧ w'.cell? ⟨gb172, 0, none⟩ = some (.int .i64 a2_0) ∧ w'.cell? ⟨gb172, 1, none⟩ = some (.int .i64 a2_1) ∧ w'.cell? ⟨gb172, 2, none⟩ = some (.string a2_2)) ∧ (Kd.R k40 40 w' w.heap.size (fun k_ => k_ ≠ gb172) s_ y177) ∧ (w'.heap[gb171]? = some (.cells #[.int .i64 a0_0, .int .i64 a0_1, .slice A0_2 l0_2.length c0_2] 30 (0, 0))) ∧ (w'.heap[gb172]? = some (.cells #[.int .i64 a2_0, .int .i64 a2_1, .string a2_2] 40 (0, 0))) ∧ (w'.heap[gb173]? = some (.cells #[.int .i64 0, .int .i64 0, .slice none 0 0] 30 (0, 0))) ∧ (Below w.heap.size w w')) ?_ ?_
                   rotate_left
                   ·intro hJ4
                    refine join_ (σ := Value) 6 #[true, true, true, true, false, true, true, true, true, true, true, true, true, false, true, true, false, false, false, false] (fun s_ => [(39, s_)]) (fun s_ w' => (w'.cell? ⟨gb171, 0, none⟩ = some (.int .i64 a0_0) ∧ w'.cell? ⟨gb171, 1, none⟩ = some (.int .i64 a0_1) ∧ w'.cell? ⟨gb171, 2, none⟩ = some (.slice A0_2 l0_2.length c0_2) ∧ w'.cell? ⟨gb172, 0, none⟩ = some (.int .i64 a2_0) ∧ w'.cell? ⟨gb172, 1, none⟩ = some (.int .i64 a2_1) ∧ w'.cell? ⟨gb172, 2, none⟩ = some (.string a2_2)) ∧ (Kd.R k40 40 w' w.heap.size (fun k_ => k_ ≠ gb172) s_ y187) ∧ (w'.heap[gb171]? = some (.cells #[.int .i64 a0_0, .int .i64 a0_1, .slice A0_2 l0_2.length c0_2] 30 (0, 0))) ∧ (w'.heap[gb172]? = some (.cells #[.int .i64 a2_0, .int .i64 a2_1, .string a2_2] 40 (0, 0))) ∧ (w'.heap[gb173]? = some (.cells #[.int .i64 0, .int .i64 0, .slice none 0 0] 30 (0, 0))) ∧ (Below w.heap.size w w')) ?_ ?_
                    rotate_left
                    ·intro hJ15
                     refine join_ (σ := Nat) 6 #[true, true, true, true, false, true, true, true, true, true, true, true, true, false, true, false, false, false, true, false] (fun s_ => [(8, .pointer (some ⟨s_, 0, none⟩))]) (fun s_ w' => (w'.cell? ⟨gb171, 0, none⟩ = some (.int .i64 a0_0) ∧ w'.cell? ⟨gb171, 1, none⟩ = some (.int .i64 a0_1) ∧ w'.cell? ⟨gb171, 2, none⟩ = some (.slice A0_2 l0_2.length c0_2) ∧ w'.cell? ⟨gb172, 0, none⟩ = some (.int .i64 a2_0) ∧ w'.cell? ⟨gb172, 1, none⟩ = some (.int .i64 a2_1) ∧ w'.cell? ⟨gb172, 2, none⟩ = some (.string a2_2)) ∧ (w'.heap[gb171]? = some (.cells #[.int .i64 a0_0, .int .i64 a0_1, .slice A0_2 l0_2.length c0_2] 30 (0, 0))) ∧ (w'.heap[gb172]? = some (.cells #[.int .i64 a2_0, .int .i64 a2_1, .string a2_2] 40 (0, 0))) ∧ (w'.heap[gb173]? = some (.cells #[.int .i64 0, .int .i64 0, .slice none 0 0] 30 (0, 0))) ∧ (w'.heap[s_]? = some (.cells #[.int .i64 0, .int .i64 0, .slice none 0 0] 30 (0, 0))) ∧ (w.heap.size ≤ s_) ∧ (w.heap.size ≤ s_) ∧ (gb171 ≠ s_) ∧ (s_ ≠ gb171) ∧ (gb172 ≠ s_) ∧ (s_ ≠ gb172) ∧ (gb173 ≠ s_) ∧ (s_ ≠ gb173) ∧ (Below w.heap.size w w')) ?_ ?_
                     rotate_left
                     ·intro hJ18
                      refine three_ (i := 4) (j := 15) (k := 18) (Ni := some 28) (Nj := some 39) (Nk := some 8) #[true, true, true, true, true, true, true, true, true, true, true, true, true, false, true, false, false, false, false, false] #[true, true, true, true, false, true, true, true, true, true, true, true, true, false, true, true, false, false, false, false] #[true, true, true, true, false, true, true, true, true, true, true, true, true, false, true, false, false, false, true, false] rfl rfl rfl rfl rfl rfl (three_of HT_.out (by kernel_rfl)) (by decide) (by decide) (by decide) (fun K hK => ?_) (fun K hK => ?_) (fun K hK => ?_)
                      ·skip
                       refine Kd.R_lit_step k40 _ 40 ?hg (N := 28) ?hd (xs := ([] : List (S40))) (inner := []) (ok := fun _ => True) (okp := fun _ => True) ?hr ?hp (fun _ hk => hk) trivial (Below.refl _ _) (Nat.le_refl _) (by simp) ?_; (case hd => rfl); (case hg => rfl); (case hr => first | (go_simp; done) | (go_simp; rfl)); (case hp => exact (Reps.none _ _))
                       intro v178 w30 ho31 hb hg_ hnew_
                       clear hg_ hnew_
                       (first | rw [← Ny177.out] at ho31 | (simp only [Int.reduceToNat] at ho31; rw [← Ny177.out] at ho31))
                       have n0_ := aM (Kd.R_lower (Kd.R_newB ho31 (g := gb172) (o := .cells #[.int .i64 a2_0, .int .i64 a2_1, .string a2_2] 40 (0, 0)) (uB BK172)) (below_size (uL HB)))
                       have n1_ := blkB BK171 hb; have n2_ := blkB BK172 hb; have n3_ := blkB BK173 hb
                       have n4_ := aM (below_step (uL HB) hb)
                       clear BK171 BK172 BK173 HB; have HO179 := n0_; have BK171 := n1_; have BK172 := n2_; have BK173 := n3_; have HB := n4_; clear n0_ n1_ n2_ n3_ n4_ hb ho31
                       refine hK.out _ _ ⟨(blk_cell BK171.out 0).trans rfl, (blk_cell BK171.out 1).trans rfl, (blk_cell BK171.out 2).trans rfl, (blk_cell BK172.out 0).trans rfl, (blk_cell BK172.out 1).trans rfl, (blk_cell BK172.out 2).trans rfl⟩ (fun hHeld => ?_)
                       clear hK K
                       refine nX 28 ?_
                       exact norm_ (by first | (simp only [putAll, Act.put, List.setIfInBounds_toArray, List.set_cons_zero, List.set_cons_succ]; done) | (simp only [putAll, Act.put, List.setIfInBounds_toArray, List.set_cons_zero, List.set_cons_succ]; rfl)) (hJ4 (v178) _ ⟨hHeld, (by (with_reducible repeat first | apply rA | apply rN | apply rD); exact Kd.R_mono HO179.out (fun _ hk => hk.2)), (uB BK171), (uB BK172), (uB BK173), (uL HB)⟩)
                      ·skip
                       refine Kd.R_lit_step k40 _ 40 ?hg (N := 39) ?hd (xs := ([(⟨a2_0, a2_1, a2_2⟩ : S40)] : List (S40))) (inner := [.int .i64 a2_0, .int .i64 a2_1, .string a2_2]) (ok := fun _ => True) (okp := fun _ => True) ?hr ?hp (fun _ hk => hk) trivial (Below.refl _ _) (Nat.le_refl _) (by simp) ?_; (case hd => rfl); (case hg => rfl); (case hr => first | (go_simp; done) | (go_simp; rfl)); (case hp => exact (Reps.c3 (show Kd.M k40 _ _ _ (⟨a2_0, a2_1, a2_2⟩ : S40) [.int .i64 a2_0, .int .i64 a2_1, .string a2_2] from (k40_mkM _ _ _ (⟨a2_0, a2_1, a2_2⟩ : S40) )) (Reps.none _ _)))
                       intro v188 w30 ho31 hb hg_ hnew_
                       clear hg_ hnew_
                       (first | rw [← Ny187.out] at ho31 | (simp only [Int.reduceToNat] at ho31; rw [← Ny187.out] at ho31))
                       have n0_ := aM (Kd.R_lower (Kd.R_newB ho31 (g := gb172) (o := .cells #[.int .i64 a2_0, .int .i64 a2_1, .string a2_2] 40 (0, 0)) (uB BK172)) (below_size (uL HB)))
                       have n1_ := blkB BK171 hb; have n2_ := blkB BK172 hb; have n3_ := blkB BK173 hb
                       have n4_ := aM (below_step (uL HB) hb)
                       clear BK171 BK172 BK173 HB; have HO189 := n0_; have BK171 := n1_; have BK172 := n2_; have BK173 := n3_; have HB := n4_; clear n0_ n1_ n2_ n3_ n4_ hb ho31
                       refine hK.out _ _ ⟨(blk_cell BK171.out 0).trans rfl, (blk_cell BK171.out 1).trans rfl, (blk_cell BK171.out 2).trans rfl, (blk_cell BK172.out 0).trans rfl, (blk_cell BK172.out 1).trans rfl, (blk_cell BK172.out 2).trans rfl⟩ (fun hHeld => ?_)
                       clear hK K
                       refine nX 39 ?_
                       exact norm_ (by first | (simp only [putAll, Act.put, List.setIfInBounds_toArray, List.set_cons_zero, List.set_cons_succ]; done) | (simp only [putAll, Act.put, List.setIfInBounds_toArray, List.set_cons_zero, List.set_cons_succ]; rfl)) (hJ15 (v188) _ ⟨hHeld, (by (with_reducible repeat first | apply rA | apply rN | apply rD); exact Kd.R_mono HO189.out (fun _ hk => hk.2)), (uB BK171), (uB BK172), (uB BK173), (uL HB)⟩)
                      ·skip
                       refine bxS 8 #[.int .i64 0, .int .i64 0, .slice none 0 0] 30 ?_
                       intro gb193 hg w30 hbox hb
                       have n0_ := blkB BK171 hb; have n1_ := blkB BK172 hb; have n2_ := blkB BK173 hb
                       have n3_ := aM (below_step (uL HB) hb)
                       have n4_ := aM (hbox)
                       have n5_ := szG hg (uL HB); have n6_ := szG hg (uL HB); have n7_ := neL hg BK171; have n8_ := neG hg BK171; have n9_ := neL hg BK172; have n10_ := neG hg BK172; have n11_ := neL hg BK173; have n12_ := neG hg BK173; clear BK171 BK172 BK173 HB; have BK171 := n0_; have BK172 := n1_; have BK173 := n2_; have HB := n3_; have BK193 := n4_; have GW193 := n5_; have GE193 := n6_; have NB171_193 := n7_; have NB193_171 := n8_; have NB172_193 := n9_; have NB193_172 := n10_; have NB173_193 := n11_; have NB193_173 := n12_; clear n0_ n1_ n2_ n3_ n4_ n5_ n6_ n7_ n8_ n9_ n10_ n11_ n12_ hb hbox hg
                       refine hK.out _ _ ⟨(blk_cell BK171.out 0).trans rfl, (blk_cell BK171.out 1).trans rfl, (blk_cell BK171.out 2).trans rfl, (blk_cell BK172.out 0).trans rfl, (blk_cell BK172.out 1).trans rfl, (blk_cell BK172.out 2).trans rfl⟩ (fun hHeld => ?_)
                       clear hK K
                       refine nX 8 ?_
                       exact norm_ (by first | (simp only [putAll, Act.put, List.setIfInBounds_toArray, List.set_cons_zero, List.set_cons_succ]; done) | (simp only [putAll, Act.put, List.setIfInBounds_toArray, List.set_cons_zero, List.set_cons_succ]; rfl)) (hJ18 (gb193) _ ⟨hHeld, (uB BK171), (uB BK172), (uB BK173), (uB BK193), GW193.out, GE193.out, NB171_193.out, NB193_171.out, NB172_193.out, NB193_172.out, NB173_193.out, NB193_173.out, (uL HB)⟩)
                     ·skip
                      rintro gb193 w31 ⟨hS_, h0_, h1_, h2_, h3_, h4_, h5_, h6_, h7_, h8_, h9_, h10_, h11_, h12_⟩
                      have n0_ : Aside0 (w31.heap[gb171]? = some (.cells #[.int .i64 a0_0, .int .i64 a0_1, .slice A0_2 l0_2.length c0_2] 30 (0, 0))) := ⟨h0_⟩
                      have n1_ : Aside0 (w31.heap[gb172]? = some (.cells #[.int .i64 a2_0, .int .i64 a2_1, .string a2_2] 40 (0, 0))) := ⟨h1_⟩
                      have n2_ : Aside0 (w31.heap[gb173]? = some (.cells #[.int .i64 0, .int .i64 0, .slice none 0 0] 30 (0, 0))) := ⟨h2_⟩
                      have n3_ : Aside0 (w31.heap[gb193]? = some (.cells #[.int .i64 0, .int .i64 0, .slice none 0 0] 30 (0, 0))) := ⟨h3_⟩
                      have n4_ : Aside0 (w.heap.size ≤ gb193) := ⟨h4_⟩
                      have n5_ : Aside0 (w.heap.size ≤ gb193) := ⟨h5_⟩
                      have n6_ : Aside0 (gb171 ≠ gb193) := ⟨h6_⟩
                      have n7_ : Aside0 (gb193 ≠ gb171) := ⟨h7_⟩
                      have n8_ : Aside0 (gb172 ≠ gb193) := ⟨h8_⟩
                      have n9_ : Aside0 (gb193 ≠ gb172) := ⟨h9_⟩
                      have n10_ : Aside0 (gb173 ≠ gb193) := ⟨h10_⟩
                      have n11_ : Aside0 (gb193 ≠ gb173) := ⟨h11_⟩
                      have n12_ : Aside0 (Below w.heap.size w w31) := ⟨h12_⟩
                      clear BK171 BK172 BK173 HB h0_ h1_ h2_ h3_ h4_ h5_ h6_ h7_ h8_ h9_ h10_ h11_ h12_; have BK171 := n0_; have BK172 := n1_; have BK173 := n2_; have BK193 := n3_; have GW193 := n4_; have GE193 := n5_; have NB171_193 := n6_; have NB193_171 := n7_; have NB172_193 := n8_; have NB193_172 := n9_; have NB173_193 := n10_; have NB193_173 := n11_; have HB := n12_; clear n0_ n1_ n2_ n3_ n4_ n5_ n6_ n7_ n8_ n9_ n10_ n11_ n12_
                      have hHeld : w31.cell? ⟨gb171, 0, none⟩ = some (.int .i64 a0_0) ∧ w31.cell? ⟨gb171, 1, none⟩ = some (.int .i64 a0_1) ∧ w31.cell? ⟨gb171, 2, none⟩ = some (.slice A0_2 l0_2.length c0_2) ∧ w31.cell? ⟨gb172, 0, none⟩ = some (.int .i64 a2_0) ∧ w31.cell? ⟨gb172, 1, none⟩ = some (.int .i64 a2_1) ∧ w31.cell? ⟨gb172, 2, none⟩ = some (.string a2_2) := hS_
                      refine norm_ (a' := ?_) ?_ ?_
                      rotate_left
                      ·simp only [putAll, Act.put, List.setIfInBounds_toArray, List.set_cons_zero, List.set_cons_succ]
                       rfl
                      refine two_ (i := 4) (j := 15) (Ni := some 28) (Nj := some 39) #[true, true, true, true, true, true, true, true, true, true, true, true, true, false, true, false, false, false, true, false] #[true, true, true, true, false, true, true, true, true, true, true, true, true, false, true, true, false, false, true, false] rfl rfl rfl rfl (two_of HT_.out (by kernel_rfl)) (by decide) (by decide) (fun K hK => ?_) (fun K hK => ?_)
                      ·skip
                       refine Kd.R_lit_step k40 _ 40 ?hg (N := 28) ?hd (xs := ([] : List (S40))) (inner := []) (ok := fun _ => True) (okp := fun _ => True) ?hr ?hp (fun _ hk => hk) trivial (Below.refl _ _) (Nat.le_refl _) (by simp) ?_; (case hd => rfl); (case hg => rfl); (case hr => first | (go_simp; done) | (go_simp; rfl)); (case hp => exact (Reps.none _ _))
                       intro v178 w32 ho33 hb hg_ hnew_
                       clear hg_ hnew_
                       (first | rw [← Ny177.out] at ho33 | (simp only [Int.reduceToNat] at ho33; rw [← Ny177.out] at ho33))
                       have n0_ := aM (Kd.R_lower (Kd.R_newB ho33 (g := gb172) (o := .cells #[.int .i64 a2_0, .int .i64 a2_1, .string a2_2] 40 (0, 0)) (uB BK172)) (below_size (uL HB)))
                       have n1_ := blkB BK171 hb; have n2_ := blkB BK172 hb; have n3_ := blkB BK173 hb; have n4_ := blkB BK193 hb
                       have n5_ := aM (below_step (uL HB) hb)
                       clear BK171 BK172 BK173 BK193 HB; have HO179 := n0_; have BK171 := n1_; have BK172 := n2_; have BK173 := n3_; have BK193 := n4_; have HB := n5_; clear n0_ n1_ n2_ n3_ n4_ n5_ hb ho33
                       refine hK.out _ _ ⟨(blk_cell BK171.out 0).trans rfl, (blk_cell BK171.out 1).trans rfl, (blk_cell BK171.out 2).trans rfl, (blk_cell BK172.out 0).trans rfl, (blk_cell BK172.out 1).trans rfl, (blk_cell BK172.out 2).trans rfl⟩ (fun hHeld => ?_)
                       clear hK K
                       refine nX 28 ?_
                       exact norm_ (by first | (simp only [putAll, Act.put, List.setIfInBounds_toArray, List.set_cons_zero, List.set_cons_succ]; done) | (simp only [putAll, Act.put, List.setIfInBounds_toArray, List.set_cons_zero, List.set_cons_succ]; rfl)) (hJ4_18 (v178, gb193) _ ⟨hHeld, (by (with_reducible repeat first | apply rA | apply rN | apply rD); exact Kd.R_mono HO179.out (fun _ hk => hk.2)), (uB BK171), (uB BK172), (uB BK173), (uB BK193), GW193.out, GE193.out, NB171_193.out, NB193_171.out, NB172_193.out, NB193_172.out, NB173_193.out, NB193_173.out, (uL HB)⟩)
                      ·skip
                       refine Kd.R_lit_step k40 _ 40 ?hg (N := 39) ?hd (xs := ([(⟨a2_0, a2_1, a2_2⟩ : S40)] : List (S40))) (inner := [.int .i64 a2_0, .int .i64 a2_1, .string a2_2]) (ok := fun _ => True) (okp := fun _ => True) ?hr ?hp (fun _ hk => hk) trivial (Below.refl _ _) (Nat.le_refl _) (by simp) ?_; (case hd => rfl); (case hg => rfl); (case hr => first | (go_simp; done) | (go_simp; rfl)); (case hp => exact (Reps.c3 (show Kd.M k40 _ _ _ (⟨a2_0, a2_1, a2_2⟩ : S40) [.int .i64 a2_0, .int .i64 a2_1, .string a2_2] from (k40_mkM _ _ _ (⟨a2_0, a2_1, a2_2⟩ : S40) )) (Reps.none _ _)))
                       intro v188 w32 ho33 hb hg_ hnew_
                       clear hg_ hnew_
                       (first | rw [← Ny187.out] at ho33 | (simp only [Int.reduceToNat] at ho33; rw [← Ny187.out] at ho33))
                       have n0_ := aM (Kd.R_lower (Kd.R_newB ho33 (g := gb172) (o := .cells #[.int .i64 a2_0, .int .i64 a2_1, .string a2_2] 40 (0, 0)) (uB BK172)) (below_size (uL HB)))
                       have n1_ := blkB BK171 hb; have n2_ := blkB BK172 hb; have n3_ := blkB BK173 hb; have n4_ := blkB BK193 hb
                       have n5_ := aM (below_step (uL HB) hb)
                       clear BK171 BK172 BK173 BK193 HB; have HO189 := n0_; have BK171 := n1_; have BK172 := n2_; have BK173 := n3_; have BK193 := n4_; have HB := n5_; clear n0_ n1_ n2_ n3_ n4_ n5_ hb ho33
                       refine hK.out _ _ ⟨(blk_cell BK171.out 0).trans rfl, (blk_cell BK171.out 1).trans rfl, (blk_cell BK171.out 2).trans rfl, (blk_cell BK172.out 0).trans rfl, (blk_cell BK172.out 1).trans rfl, (blk_cell BK172.out 2).trans rfl⟩ (fun hHeld => ?_)
                       clear hK K
                       refine nX 39 ?_
                       exact norm_ (by first | (simp only [putAll, Act.put, List.setIfInBounds_toArray, List.set_cons_zero, List.set_cons_succ]; done) | (simp only [putAll, Act.put, List.setIfInBounds_toArray, List.set_cons_zero, List.set_cons_succ]; rfl)) (hJ15_18 (v188, gb193) _ ⟨hHeld, (by (with_reducible repeat first | apply rA | apply rN | apply rD); exact Kd.R_mono HO189.out (fun _ hk => hk.2)), (uB BK171), (uB BK172), (uB BK173), (uB BK193), GW193.out, GE193.out, NB171_193.out, NB193_171.out, NB172_193.out, NB193_172.out, NB173_193.out, NB193_173.out, (uL HB)⟩)
                    ·skip
                     rintro v188 w32 ⟨hS_, h0_, h1_, h2_, h3_, h4_⟩
                     have n0_ : Aside0 (Kd.R k40 40 w32 w.heap.size (fun k_ => k_ ≠ gb172) v188 y187) := ⟨h0_⟩
                     have n1_ : Aside0 (w32.heap[gb171]? = some (.cells #[.int .i64 a0_0, .int .i64 a0_1, .slice A0_2 l0_2.length c0_2] 30 (0, 0))) := ⟨h1_⟩
                     have n2_ : Aside0 (w32.heap[gb172]? = some (.cells #[.int .i64 a2_0, .int .i64 a2_1, .string a2_2] 40 (0, 0))) := ⟨h2_⟩
                     have n3_ : Aside0 (w32.heap[gb173]? = some (.cells #[.int .i64 0, .int .i64 0, .slice none 0 0] 30 (0, 0))) := ⟨h3_⟩
                     have n4_ : Aside0 (Below w.heap.size w w32) := ⟨h4_⟩
                     clear BK171 BK172 BK173 HB h0_ h1_ h2_ h3_ h4_; have HO189 := n0_; have BK171 := n1_; have BK172 := n2_; have BK173 := n3_; have HB := n4_; clear n0_ n1_ n2_ n3_ n4_
                     have hHeld : w32.cell? ⟨gb171, 0, none⟩ = some (.int .i64 a0_0) ∧ w32.cell? ⟨gb171, 1, none⟩ = some (.int .i64 a0_1) ∧ w32.cell? ⟨gb171, 2, none⟩ = some (.slice A0_2 l0_2.length c0_2) ∧ w32.cell? ⟨gb172, 0, none⟩ = some (.int .i64 a2_0) ∧ w32.cell? ⟨gb172, 1, none⟩ = some (.int .i64 a2_1) ∧ w32.cell? ⟨gb172, 2, none⟩ = some (.string a2_2) := hS_
                     refine norm_ (a' := ?_) ?_ ?_
                     rotate_left
                     ·simp only [putAll, Act.put, List.setIfInBounds_toArray, List.set_cons_zero, List.set_cons_succ]
                      rfl
                     refine two_ (i := 4) (j := 18) (Ni := some 28) (Nj := some 8) #[true, true, true, true, true, true, true, true, true, true, true, true, true, false, true, true, false, false, false, false] #[true, true, true, true, false, true, true, true, true, true, true, true, true, false, true, true, false, false, true, false] rfl rfl rfl rfl (two_of HT_.out (by kernel_rfl)) (by decide) (by decide) (fun K hK => ?_) (fun K hK => ?_)
                     ·skip
                      refine Kd.R_lit_step k40 _ 40 ?hg (N := 28) ?hd (xs := ([] : List (S40))) (inner := []) (ok := fun _ => True) (okp := fun _ => True) ?hr ?hp (fun _ hk => hk) trivial (Below.refl _ _) (Nat.le_refl _) (by simp) ?_; (case hd => rfl); (case hg => rfl); (case hr => first | (go_simp; done) | (go_simp; rfl)); (case hp => exact (Reps.none _ _))
                      intro v178 w33 ho34 hb hg_ hnew_
                      clear hg_ hnew_
                      (first | rw [← Ny177.out] at ho34 | (simp only [Int.reduceToNat] at ho34; rw [← Ny177.out] at ho34))
                      have n0_ := aM (Kd.R_elder' (uR HO189) (Kd.R_base ho34) hb)
                      have n1_ := aM (Kd.R_lower (Kd.R_newB (Kd.R_new' ho34 (Kd.R_lt (uR HO189))) (g := gb172) (o := .cells #[.int .i64 a2_0, .int .i64 a2_1, .string a2_2] 40 (0, 0)) (uB BK172)) (below_size (uL HB)))
                      have n2_ := blkB BK171 hb; have n3_ := blkB BK172 hb; have n4_ := blkB BK173 hb
                      have n5_ := aM (below_step (uL HB) hb)
                      clear HO189 BK171 BK172 BK173 HB; have HO189 := n0_; have HO179 := n1_; have BK171 := n2_; have BK172 := n3_; have BK173 := n4_; have HB := n5_; clear n0_ n1_ n2_ n3_ n4_ n5_ hb ho34
                      refine hK.out _ _ ⟨(blk_cell BK171.out 0).trans rfl, (blk_cell BK171.out 1).trans rfl, (blk_cell BK171.out 2).trans rfl, (blk_cell BK172.out 0).trans rfl, (blk_cell BK172.out 1).trans rfl, (blk_cell BK172.out 2).trans rfl⟩ (fun hHeld => ?_)
                      clear hK K
                      refine nX 28 ?_
                      exact norm_ (by first | (simp only [putAll, Act.put, List.setIfInBounds_toArray, List.set_cons_zero, List.set_cons_succ]; done) | (simp only [putAll, Act.put, List.setIfInBounds_toArray, List.set_cons_zero, List.set_cons_succ]; rfl)) (hJ4_15 (v178, v188) _ ⟨hHeld, (by (with_reducible repeat first | apply rA | apply rN | apply rD); exact Kd.R_mono HO179.out (fun _ hk => ⟨hk.1.2, hk.2⟩)), (by (with_reducible repeat first | apply rA | apply rN | apply rD); exact Kd.R_mono HO189.out (fun _ hk => ⟨hk.2, hk.1⟩)), (uB BK171), (uB BK172), (uB BK173), (uL HB)⟩)
                     ·skip
                      refine bxS 8 #[.int .i64 0, .int .i64 0, .slice none 0 0] 30 ?_
                      intro gb193 hg w33 hbox hb
                      have n0_ := aM (Kd.R_below (uR HO189) hb); have n1_ := blkB BK171 hb; have n2_ := blkB BK172 hb; have n3_ := blkB BK173 hb
                      have n4_ := aM (below_step (uL HB) hb)
                      have n5_ := aM (hbox)
                      have n6_ := szG hg (uL HB); have n7_ := szG hg (uL HB); have n8_ := neL hg BK171; have n9_ := neG hg BK171; have n10_ := neL hg BK172; have n11_ := neG hg BK172; have n12_ := neL hg BK173; have n13_ := neG hg BK173; clear HO189 BK171 BK172 BK173 HB; have HO189 := n0_; have BK171 := n1_; have BK172 := n2_; have BK173 := n3_; have HB := n4_; have BK193 := n5_; have GW193 := n6_; have GE193 := n7_; have NB171_193 := n8_; have NB193_171 := n9_; have NB172_193 := n10_; have NB193_172 := n11_; have NB173_193 := n12_; have NB193_173 := n13_; clear n0_ n1_ n2_ n3_ n4_ n5_ n6_ n7_ n8_ n9_ n10_ n11_ n12_ n13_ hb hbox hg
                      refine hK.out _ _ ⟨(blk_cell BK171.out 0).trans rfl, (blk_cell BK171.out 1).trans rfl, (blk_cell BK171.out 2).trans rfl, (blk_cell BK172.out 0).trans rfl, (blk_cell BK172.out 1).trans rfl, (blk_cell BK172.out 2).trans rfl⟩ (fun hHeld => ?_)
                      clear hK K
                      refine nX 8 ?_
                      exact norm_ (by first | (simp only [putAll, Act.put, List.setIfInBounds_toArray, List.set_cons_zero, List.set_cons_succ]; done) | (simp only [putAll, Act.put, List.setIfInBounds_toArray, List.set_cons_zero, List.set_cons_succ]; rfl)) (hJ15_18 (v188, gb193) _ ⟨hHeld, (uR HO189), (uB BK171), (uB BK172), (uB BK173), (uB BK193), GW193.out, GE193.out, NB171_193.out, NB193_171.out, NB172_193.out, NB193_172.out, NB173_193.out, NB193_173.out, (uL HB)⟩)
                   ·skip
                    rintro v178 w32 ⟨hS_, h0_, h1_, h2_, h3_, h4_⟩
                    have n0_ : Aside0 (Kd.R k40 40 w32 w.heap.size (fun k_ => k_ ≠ gb172) v178 y177) := ⟨h0_⟩
                    have n1_ : Aside0 (w32.heap[gb171]? = some (.cells #[.int .i64 a0_0, .int .i64 a0_1, .slice A0_2 l0_2.length c0_2] 30 (0, 0))) := ⟨h1_⟩
                    have n2_ : Aside0 (w32.heap[gb172]? = some (.cells #[.int .i64 a2_0, .int .i64 a2_1, .string a2_2] 40 (0, 0))) := ⟨h2_⟩
                    have n3_ : Aside0 (w32.heap[gb173]? = some (.cells #[.int .i64 0, .int .i64 0, .slice none 0 0] 30 (0, 0))) := ⟨h3_⟩
                    have n4_ : Aside0 (Below w.heap.size w w32) := ⟨h4_⟩
                    clear BK171 BK172 BK173 HB h0_ h1_ h2_ h3_ h4_; have HO179 := n0_; have BK171 := n1_; have BK172 := n2_; have BK173 := n3_; have HB := n4_; clear n0_ n1_ n2_ n3_ n4_
                    have hHeld : w32.cell? ⟨gb171, 0, none⟩ = some (.int .i64 a0_0) ∧ w32.cell? ⟨gb171, 1, none⟩ = some (.int .i64 a0_1) ∧ w32.cell? ⟨gb171, 2, none⟩ = some (.slice A0_2 l0_2.length c0_2) ∧ w32.cell? ⟨gb172, 0, none⟩ = some (.int .i64 a2_0) ∧ w32.cell? ⟨gb172, 1, none⟩ = some (.int .i64 a2_1) ∧ w32.cell? ⟨gb172, 2, none⟩ = some (.string a2_2) := hS_
                    refine norm_ (a' := ?_) ?_ ?_
                    rotate_left
                    ·simp only [putAll, Act.put, List.setIfInBounds_toArray, List.set_cons_zero, List.set_cons_succ]
                     rfl
                    refine three_ (i := 13) (j := 15) (k := 18) (Ni := some 37) (Nj := some 39) (Nk := some 8) #[true, true, true, true, true, true, true, true, true, true, true, true, true, true, true, false, false, false, false, false] #[true, true, true, true, true, true, true, true, true, true, true, true, true, false, true, true, false, false, false, false] #[true, true, true, true, true, true, true, true, true, true, true, true, true, false, true, false, false, false, true, false] rfl rfl rfl rfl rfl rfl (three_of HT_.out (by kernel_rfl)) (by decide) (by decide) (by decide) (fun K hK => ?_) (fun K hK => ?_) (fun K hK => ?_)
                    ·skip
                     refine Kd.R_append_rows_step k40 (w0 := w) w.heap.size (by rfl) (.tmp 28) (.tmp 36) 28 40 (.agg #[(.int .i64 0), (.int .i64 0), (.string ⟨#[]⟩)]) 32 rfl Try.underlying28 info40 rfl (by decide) (by omega) v178 y177 y180 _ _ _ (fun k_ => k_ ≠ gb172) (fun _ => False) rfl rfl ?aO ?aR (fun _ _ h => h) (fun _ h => h.elim) ?aF ?aB ?aS ?aL ?_
                     (case aR => repeat (first | exact (Kd.C_below HR183.out HB.out) | (with_reducible refine cA ?_ _) | (with_reducible refine cN ?_ _) | (with_reducible refine cD ?_)))
                     (case aB => exact (uL HB))
                     (case aF => exact (fun k_ hk => Kd.freshB (g := gb172) (o := .cells #[.int .i64 a2_0, .int .i64 a2_1, .string a2_2] 40 (0, 0)) (uB BK172) k_ hk))
                     (case aO => exact (uR HO179))
                     (case aS => exact (below_size (uL HB)))
                     (case aL => have := LMc24.out; omega)
                     intro v185 w33 ho hb hg hat
                     rw [← Ny184.out] at ho
                     have n0_ := aM (blk_grown (g := gb171) (o := .cells #[.int .i64 a0_0, .int .i64 a0_1, .slice A0_2 l0_2.length c0_2] 30 (0, 0)) (uB BK171) hg (Kd.R_ne HO179.out BK171.out (by decide)))
                     have n1_ := aM (blk_grown (g := gb172) (o := .cells #[.int .i64 a2_0, .int .i64 a2_1, .string a2_2] 40 (0, 0)) (uB BK172) hg (Kd.R_away HO179.out (fun _ hk => hk)))
                     have n2_ := aM (blk_grown (g := gb173) (o := .cells #[.int .i64 0, .int .i64 0, .slice none 0 0] 30 (0, 0)) (uB BK173) hg (Kd.R_ne HO179.out BK173.out (by decide)))
                     have n3_ := aM (hb)
                     have n4_ := aM (ho)
                     clear BK171 BK172 BK173 HB HO179; have BK171 := n0_; have BK172 := n1_; have BK173 := n2_; have HB := n3_; have HO186 := n4_; clear n0_ n1_ n2_ n3_ n4_ ho hb hg hat
                     refine hK.out _ _ ⟨(blk_cell BK171.out 0).trans rfl, (blk_cell BK171.out 1).trans rfl, (blk_cell BK171.out 2).trans rfl, (blk_cell BK172.out 0).trans rfl, (blk_cell BK172.out 1).trans rfl, (blk_cell BK172.out 2).trans rfl⟩ (fun hHeld => ?_)
                     clear hK K
                     refine nX 37 ?_
                     exact norm_ (by first | (simp only [putAll, Act.put, List.setIfInBounds_toArray, List.set_cons_zero, List.set_cons_succ]; done) | (simp only [putAll, Act.put, List.setIfInBounds_toArray, List.set_cons_zero, List.set_cons_succ]; rfl)) (hJ4_13 (v178, v185) _ ⟨hHeld, (uR HO186), (uB BK171), (uB BK172), (uB BK173), (uL HB)⟩)
                    ·skip
                     refine Kd.R_lit_step k40 _ 40 ?hg (N := 39) ?hd (xs := ([(⟨a2_0, a2_1, a2_2⟩ : S40)] : List (S40))) (inner := [.int .i64 a2_0, .int .i64 a2_1, .string a2_2]) (ok := fun _ => True) (okp := fun _ => True) ?hr ?hp (fun _ hk => hk) trivial (Below.refl _ _) (Nat.le_refl _) (by simp) ?_; (case hd => rfl); (case hg => rfl); (case hr => first | (go_simp; done) | (go_simp; rfl)); (case hp => exact (Reps.c3 (show Kd.M k40 _ _ _ (⟨a2_0, a2_1, a2_2⟩ : S40) [.int .i64 a2_0, .int .i64 a2_1, .string a2_2] from (k40_mkM _ _ _ (⟨a2_0, a2_1, a2_2⟩ : S40) )) (Reps.none _ _)))
                     intro v188 w33 ho34 hb hg_ hnew_
                     clear hg_ hnew_
                     (first | rw [← Ny187.out] at ho34 | (simp only [Int.reduceToNat] at ho34; rw [← Ny187.out] at ho34))
                     have n0_ := aM (Kd.R_elder' (uR HO179) (Kd.R_base ho34) hb)
                     have n1_ := aM (Kd.R_lower (Kd.R_newB (Kd.R_new' ho34 (Kd.R_lt (uR HO179))) (g := gb172) (o := .cells #[.int .i64 a2_0, .int .i64 a2_1, .string a2_2] 40 (0, 0)) (uB BK172)) (below_size (uL HB)))
                     have n2_ := blkB BK171 hb; have n3_ := blkB BK172 hb; have n4_ := blkB BK173 hb
                     have n5_ := aM (below_step (uL HB) hb)
                     clear HO179 BK171 BK172 BK173 HB; have HO179 := n0_; have HO189 := n1_; have BK171 := n2_; have BK172 := n3_; have BK173 := n4_; have HB := n5_; clear n0_ n1_ n2_ n3_ n4_ n5_ hb ho34
                     refine hK.out _ _ ⟨(blk_cell BK171.out 0).trans rfl, (blk_cell BK171.out 1).trans rfl, (blk_cell BK171.out 2).trans rfl, (blk_cell BK172.out 0).trans rfl, (blk_cell BK172.out 1).trans rfl, (blk_cell BK172.out 2).trans rfl⟩ (fun hHeld => ?_)
                     clear hK K
                     refine nX 39 ?_
                     exact norm_ (by first | (simp only [putAll, Act.put, List.setIfInBounds_toArray, List.set_cons_zero, List.set_cons_succ]; done) | (simp only [putAll, Act.put, List.setIfInBounds_toArray, List.set_cons_zero, List.set_cons_succ]; rfl)) (hJ4_15 (v178, v188) _ ⟨hHeld, (by (with_reducible repeat first | apply rA | apply rN | apply rD); exact Kd.R_mono HO179.out (fun _ hk => ⟨hk.2, hk.1⟩)), (by (with_reducible repeat first | apply rA | apply rN | apply rD); exact Kd.R_mono HO189.out (fun _ hk => ⟨hk.1.2, hk.2⟩)), (uB BK171), (uB BK172), (uB BK173), (uL HB)⟩)
                    ·skip
                     refine bxS 8 #[.int .i64 0, .int .i64 0, .slice none 0 0] 30 ?_
                     intro gb193 hg w33 hbox hb
                     have n0_ := aM (Kd.R_below (uR HO179) hb); have n1_ := blkB BK171 hb; have n2_ := blkB BK172 hb; have n3_ := blkB BK173 hb
                     have n4_ := aM (below_step (uL HB) hb)
                     have n5_ := aM (hbox)
                     have n6_ := szG hg (uL HB); have n7_ := szG hg (uL HB); have n8_ := neL hg BK171; have n9_ := neG hg BK171; have n10_ := neL hg BK172; have n11_ := neG hg BK172; have n12_ := neL hg BK173; have n13_ := neG hg BK173; clear HO179 BK171 BK172 BK173 HB; have HO179 := n0_; have BK171 := n1_; have BK172 := n2_; have BK173 := n3_; have HB := n4_; have BK193 := n5_; have GW193 := n6_; have GE193 := n7_; have NB171_193 := n8_; have NB193_171 := n9_; have NB172_193 := n10_; have NB193_172 := n11_; have NB173_193 := n12_; have NB193_173 := n13_; clear n0_ n1_ n2_ n3_ n4_ n5_ n6_ n7_ n8_ n9_ n10_ n11_ n12_ n13_ hb hbox hg
                     refine hK.out _ _ ⟨(blk_cell BK171.out 0).trans rfl, (blk_cell BK171.out 1).trans rfl, (blk_cell BK171.out 2).trans rfl, (blk_cell BK172.out 0).trans rfl, (blk_cell BK172.out 1).trans rfl, (blk_cell BK172.out 2).trans rfl⟩ (fun hHeld => ?_)
                     clear hK K
                     refine nX 8 ?_
                     exact norm_ (by first | (simp only [putAll, Act.put, List.setIfInBounds_toArray, List.set_cons_zero, List.set_cons_succ]; done) | (simp only [putAll, Act.put, List.setIfInBounds_toArray, List.set_cons_zero, List.set_cons_succ]; rfl)) (hJ4_18 (v178, gb193) _ ⟨hHeld, (uR HO179), (uB BK171), (uB BK172), (uB BK173), (uB BK193), GW193.out, GE193.out, NB171_193.out, NB193_171.out, NB172_193.out, NB193_172.out, NB173_193.out, NB193_173.out, (uL HB)⟩)
                  ·skip
                   rintro ⟨v188, gb193⟩ w33 ⟨hS_, h0_, h1_, h2_, h3_, h4_, h5_, h6_, h7_, h8_, h9_, h10_, h11_, h12_, h13_⟩
                   have n0_ : Aside0 (Kd.R k40 40 w33 w.heap.size (fun k_ => k_ ≠ gb172) v188 y187) := ⟨h0_⟩
                   have n1_ : Aside0 (w33.heap[gb171]? = some (.cells #[.int .i64 a0_0, .int .i64 a0_1, .slice A0_2 l0_2.length c0_2] 30 (0, 0))) := ⟨h1_⟩
                   have n2_ : Aside0 (w33.heap[gb172]? = some (.cells #[.int .i64 a2_0, .int .i64 a2_1, .string a2_2] 40 (0, 0))) := ⟨h2_⟩
                   have n3_ : Aside0 (w33.heap[gb173]? = some (.cells #[.int .i64 0, .int .i64 0, .slice none 0 0] 30 (0, 0))) := ⟨h3_⟩
                   have n4_ : Aside0 (w33.heap[gb193]? = some (.cells #[.int .i64 0, .int .i64 0, .slice none 0 0] 30 (0, 0))) := ⟨h4_⟩
                   have n5_ : Aside0 (w.heap.size ≤ gb193) := ⟨h5_⟩
                   have n6_ : Aside0 (w.heap.size ≤ gb193) := ⟨h6_⟩
                   have n7_ : Aside0 (gb171 ≠ gb193) := ⟨h7_⟩
                   have n8_ : Aside0 (gb193 ≠ gb171) := ⟨h8_⟩
                   have n9_ : Aside0 (gb172 ≠ gb193) := ⟨h9_⟩
                   have n10_ : Aside0 (gb193 ≠ gb172) := ⟨h10_⟩
                   have n11_ : Aside0 (gb173 ≠ gb193) := ⟨h11_⟩
                   have n12_ : Aside0 (gb193 ≠ gb173) := ⟨h12_⟩
                   have n13_ : Aside0 (Below w.heap.size w w33) := ⟨h13_⟩
                   clear BK171 BK172 BK173 HB h0_ h1_ h2_ h3_ h4_ h5_ h6_ h7_ h8_ h9_ h10_ h11_ h12_ h13_; have HO189 := n0_; have BK171 := n1_; have BK172 := n2_; have BK173 := n3_; have BK193 := n4_; have GW193 := n5_; have GE193 := n6_; have NB171_193 := n7_; have NB193_171 := n8_; have NB172_193 := n9_; have NB193_172 := n10_; have NB173_193 := n11_; have NB193_173 := n12_; have HB := n13_; clear n0_ n1_ n2_ n3_ n4_ n5_ n6_ n7_ n8_ n9_ n10_ n11_ n12_ n13_
                   have hHeld : w33.cell? ⟨gb171, 0, none⟩ = some (.int .i64 a0_0) ∧ w33.cell? ⟨gb171, 1, none⟩ = some (.int .i64 a0_1) ∧ w33.cell? ⟨gb171, 2, none⟩ = some (.slice A0_2 l0_2.length c0_2) ∧ w33.cell? ⟨gb172, 0, none⟩ = some (.int .i64 a2_0) ∧ w33.cell? ⟨gb172, 1, none⟩ = some (.int .i64 a2_1) ∧ w33.cell? ⟨gb172, 2, none⟩ = some (.string a2_2) := hS_
                   refine norm_ (a' := ?_) ?_ ?_
                   rotate_left
                   ·simp only [putAll, Act.put, List.setIfInBounds_toArray, List.set_cons_zero, List.set_cons_succ]
                    rfl
                   refine oA HT_.out 4 (some 28) 20 319487 (fun K hK => ?_)
                   refine Kd.R_lit_step k40 _ 40 ?hg (N := 28) ?hd (xs := ([] : List (S40))) (inner := []) (ok := fun _ => True) (okp := fun _ => True) ?hr ?hp (fun _ hk => hk) trivial (Below.refl _ _) (Nat.le_refl _) (by simp) ?_; (case hd => rfl); (case hg => rfl); (case hr => first | (go_simp; done) | (go_simp; rfl)); (case hp => exact (Reps.none _ _))
                   intro v178 w34 ho35 hb hg_ hnew_
                   clear hg_ hnew_
                   (first | rw [← Ny177.out] at ho35 | (simp only [Int.reduceToNat] at ho35; rw [← Ny177.out] at ho35))
                   have n0_ := aM (Kd.R_elder' (uR HO189) (Kd.R_base ho35) hb)
                   have n1_ := aM (Kd.R_lower (Kd.R_newB (Kd.R_new' ho35 (Kd.R_lt (uR HO189))) (g := gb172) (o := .cells #[.int .i64 a2_0, .int .i64 a2_1, .string a2_2] 40 (0, 0)) (uB BK172)) (below_size (uL HB)))
                   have n2_ := blkB BK171 hb; have n3_ := blkB BK172 hb; have n4_ := blkB BK173 hb; have n5_ := blkB BK193 hb
                   have n6_ := aM (below_step (uL HB) hb)
                   clear HO189 BK171 BK172 BK173 BK193 HB; have HO189 := n0_; have HO179 := n1_; have BK171 := n2_; have BK172 := n3_; have BK173 := n4_; have BK193 := n5_; have HB := n6_; clear n0_ n1_ n2_ n3_ n4_ n5_ n6_ hb ho35
                   refine hK.out _ _ ⟨(blk_cell BK171.out 0).trans rfl, (blk_cell BK171.out 1).trans rfl, (blk_cell BK171.out 2).trans rfl, (blk_cell BK172.out 0).trans rfl, (blk_cell BK172.out 1).trans rfl, (blk_cell BK172.out 2).trans rfl⟩ (fun hHeld => ?_)
                   clear hK K
                   refine nX 28 ?_
                   exact norm_ (by first | (simp only [putAll, Act.put, List.setIfInBounds_toArray, List.set_cons_zero, List.set_cons_succ]; done) | (simp only [putAll, Act.put, List.setIfInBounds_toArray, List.set_cons_zero, List.set_cons_succ]; rfl)) (hJ4_15_18 (v178, v188, gb193) _ ⟨hHeld, (by (with_reducible repeat first | apply rA | apply rN | apply rD); exact Kd.R_mono HO179.out (fun _ hk => ⟨hk.1.2, hk.2⟩)), (by (with_reducible repeat first | apply rA | apply rN | apply rD); exact Kd.R_mono HO189.out (fun _ hk => ⟨hk.2, hk.1⟩)), (uB BK171), (uB BK172), (uB BK173), (uB BK193), GW193.out, GE193.out, NB171_193.out, NB193_171.out, NB172_193.out, NB193_172.out, NB173_193.out, NB193_173.out, (uL HB)⟩)
                 ·skip
                  rintro ⟨v178, gb193⟩ w33 ⟨hS_, h0_, h1_, h2_, h3_, h4_, h5_, h6_, h7_, h8_, h9_, h10_, h11_, h12_, h13_⟩
                  have n0_ : Aside0 (Kd.R k40 40 w33 w.heap.size (fun k_ => k_ ≠ gb172) v178 y177) := ⟨h0_⟩
                  have n1_ : Aside0 (w33.heap[gb171]? = some (.cells #[.int .i64 a0_0, .int .i64 a0_1, .slice A0_2 l0_2.length c0_2] 30 (0, 0))) := ⟨h1_⟩
                  have n2_ : Aside0 (w33.heap[gb172]? = some (.cells #[.int .i64 a2_0, .int .i64 a2_1, .string a2_2] 40 (0, 0))) := ⟨h2_⟩
                  have n3_ : Aside0 (w33.heap[gb173]? = some (.cells #[.int .i64 0, .int .i64 0, .slice none 0 0] 30 (0, 0))) := ⟨h3_⟩
                  have n4_ : Aside0 (w33.heap[gb193]? = some (.cells #[.int .i64 0, .int .i64 0, .slice none 0 0] 30 (0, 0))) := ⟨h4_⟩
                  have n5_ : Aside0 (w.heap.size ≤ gb193) := ⟨h5_⟩
                  have n6_ : Aside0 (w.heap.size ≤ gb193) := ⟨h6_⟩
                  have n7_ : Aside0 (gb171 ≠ gb193) := ⟨h7_⟩
                  have n8_ : Aside0 (gb193 ≠ gb171) := ⟨h8_⟩
                  have n9_ : Aside0 (gb172 ≠ gb193) := ⟨h9_⟩
                  have n10_ : Aside0 (gb193 ≠ gb172) := ⟨h10_⟩
                  have n11_ : Aside0 (gb173 ≠ gb193) := ⟨h11_⟩
                  have n12_ : Aside0 (gb193 ≠ gb173) := ⟨h12_⟩
                  have n13_ : Aside0 (Below w.heap.size w w33) := ⟨h13_⟩
                  clear BK171 BK172 BK173 HB h0_ h1_ h2_ h3_ h4_ h5_ h6_ h7_ h8_ h9_ h10_ h11_ h12_ h13_; have HO179 := n0_; have BK171 := n1_; have BK172 := n2_; have BK173 := n3_; have BK193 := n4_; have GW193 := n5_; have GE193 := n6_; have NB171_193 := n7_; have NB193_171 := n8_; have NB172_193 := n9_; have NB193_172 := n10_; have NB173_193 := n11_; have NB193_173 := n12_; have HB := n13_; clear n0_ n1_ n2_ n3_ n4_ n5_ n6_ n7_ n8_ n9_ n10_ n11_ n12_ n13_
                  have hHeld : w33.cell? ⟨gb171, 0, none⟩ = some (.int .i64 a0_0) ∧ w33.cell? ⟨gb171, 1, none⟩ = some (.int .i64 a0_1) ∧ w33.cell? ⟨gb171, 2, none⟩ = some (.slice A0_2 l0_2.length c0_2) ∧ w33.cell? ⟨gb172, 0, none⟩ = some (.int .i64 a2_0) ∧ w33.cell? ⟨gb172, 1, none⟩ = some (.int .i64 a2_1) ∧ w33.cell? ⟨gb172, 2, none⟩ = some (.string a2_2) := hS_
                  refine norm_ (a' := ?_) ?_ ?_
                  rotate_left
                  ·simp only [putAll, Act.put, List.setIfInBounds_toArray, List.set_cons_zero, List.set_cons_succ]
                   rfl
                  refine two_ (i := 13) (j := 15) (Ni := some 37) (Nj := some 39) #[true, true, true, true, true, true, true, true, true, true, true, true, true, true, true, false, false, false, true, false] #[true, true, true, true, true, true, true, true, true, true, true, true, true, false, true, true, false, false, true, false] rfl rfl rfl rfl (two_of HT_.out (by kernel_rfl)) (by decide) (by decide) (fun K hK => ?_) (fun K hK => ?_)
                  ·skip
                   refine Kd.R_append_rows_step k40 (w0 := w) w.heap.size (by rfl) (.tmp 28) (.tmp 36) 28 40 (.agg #[(.int .i64 0), (.int .i64 0), (.string ⟨#[]⟩)]) 32 rfl Try.underlying28 info40 rfl (by decide) (by omega) v178 y177 y180 _ _ _ (fun k_ => k_ ≠ gb172) (fun _ => False) rfl rfl ?aO ?aR (fun _ _ h => h) (fun _ h => h.elim) ?aF ?aB ?aS ?aL ?_
                   (case aR => repeat (first | exact (Kd.C_below HR183.out HB.out) | (with_reducible refine cA ?_ _) | (with_reducible refine cN ?_ _) | (with_reducible refine cD ?_)))
                   (case aB => exact (uL HB))
                   (case aF => exact (fun k_ hk => Kd.freshB (g := gb172) (o := .cells #[.int .i64 a2_0, .int .i64 a2_1, .string a2_2] 40 (0, 0)) (uB BK172) k_ hk))
                   (case aO => exact (uR HO179))
                   (case aS => exact (below_size (uL HB)))
                   (case aL => have := LMc24.out; omega)
                   intro v185 w34 ho hb hg hat
                   rw [← Ny184.out] at ho
                   have n0_ := aM (blk_grown (g := gb171) (o := .cells #[.int .i64 a0_0, .int .i64 a0_1, .slice A0_2 l0_2.length c0_2] 30 (0, 0)) (uB BK171) hg (Kd.R_ne HO179.out BK171.out (by decide)))
                   have n1_ := aM (blk_grown (g := gb172) (o := .cells #[.int .i64 a2_0, .int .i64 a2_1, .string a2_2] 40 (0, 0)) (uB BK172) hg (Kd.R_away HO179.out (fun _ hk => hk)))
                   have n2_ := aM (blk_grown (g := gb173) (o := .cells #[.int .i64 0, .int .i64 0, .slice none 0 0] 30 (0, 0)) (uB BK173) hg (Kd.R_ne HO179.out BK173.out (by decide)))
                   have n3_ := aM (blk_grown (g := gb193) (o := .cells #[.int .i64 0, .int .i64 0, .slice none 0 0] 30 (0, 0)) (uB BK193) hg (Kd.R_ne HO179.out BK193.out (by decide)))
                   have n4_ := aM (hb)
                   have n5_ := aM (ho)
                   clear BK171 BK172 BK173 BK193 HB HO179; have BK171 := n0_; have BK172 := n1_; have BK173 := n2_; have BK193 := n3_; have HB := n4_; have HO186 := n5_; clear n0_ n1_ n2_ n3_ n4_ n5_ ho hb hg hat
                   refine hK.out _ _ ⟨(blk_cell BK171.out 0).trans rfl, (blk_cell BK171.out 1).trans rfl, (blk_cell BK171.out 2).trans rfl, (blk_cell BK172.out 0).trans rfl, (blk_cell BK172.out 1).trans rfl, (blk_cell BK172.out 2).trans rfl⟩ (fun hHeld => ?_)
                   clear hK K
                   refine nX 37 ?_
                   exact norm_ (by first | (simp only [putAll, Act.put, List.setIfInBounds_toArray, List.set_cons_zero, List.set_cons_succ]; done) | (simp only [putAll, Act.put, List.setIfInBounds_toArray, List.set_cons_zero, List.set_cons_succ]; rfl)) (hJ4_13_18 (v178, v185, gb193) _ ⟨hHeld, (uR HO186), (uB BK171), (uB BK172), (uB BK173), (uB BK193), GW193.out, GE193.out, NB171_193.out, NB193_171.out, NB172_193.out, NB193_172.out, NB173_193.out, NB193_173.out, (uL HB)⟩)
                  ·skip
                   refine Kd.R_lit_step k40 _ 40 ?hg (N := 39) ?hd (xs := ([(⟨a2_0, a2_1, a2_2⟩ : S40)] : List (S40))) (inner := [.int .i64 a2_0, .int .i64 a2_1, .string a2_2]) (ok := fun _ => True) (okp := fun _ => True) ?hr ?hp (fun _ hk => hk) trivial (Below.refl _ _) (Nat.le_refl _) (by simp) ?_; (case hd => rfl); (case hg => rfl); (case hr => first | (go_simp; done) | (go_simp; rfl)); (case hp => exact (Reps.c3 (show Kd.M k40 _ _ _ (⟨a2_0, a2_1, a2_2⟩ : S40) [.int .i64 a2_0, .int .i64 a2_1, .string a2_2] from (k40_mkM _ _ _ (⟨a2_0, a2_1, a2_2⟩ : S40) )) (Reps.none _ _)))
                   intro v188 w34 ho35 hb hg_ hnew_
                   clear hg_ hnew_
                   (first | rw [← Ny187.out] at ho35 | (simp only [Int.reduceToNat] at ho35; rw [← Ny187.out] at ho35))
                   have n0_ := aM (Kd.R_elder' (uR HO179) (Kd.R_base ho35) hb)
                   have n1_ := aM (Kd.R_lower (Kd.R_newB (Kd.R_new' ho35 (Kd.R_lt (uR HO179))) (g := gb172) (o := .cells #[.int .i64 a2_0, .int .i64 a2_1, .string a2_2] 40 (0, 0)) (uB BK172)) (below_size (uL HB)))
                   have n2_ := blkB BK171 hb; have n3_ := blkB BK172 hb; have n4_ := blkB BK173 hb; have n5_ := blkB BK193 hb
                   have n6_ := aM (below_step (uL HB) hb)
                   clear HO179 BK171 BK172 BK173 BK193 HB; have HO179 := n0_; have HO189 := n1_; have BK171 := n2_; have BK172 := n3_; have BK173 := n4_; have BK193 := n5_; have HB := n6_; clear n0_ n1_ n2_ n3_ n4_ n5_ n6_ hb ho35
                   refine hK.out _ _ ⟨(blk_cell BK171.out 0).trans rfl, (blk_cell BK171.out 1).trans rfl, (blk_cell BK171.out 2).trans rfl, (blk_cell BK172.out 0).trans rfl, (blk_cell BK172.out 1).trans rfl, (blk_cell BK172.out 2).trans rfl⟩ (fun hHeld => ?_)
                   clear hK K
                   refine nX 39 ?_
                   exact norm_ (by first | (simp only [putAll, Act.put, List.setIfInBounds_toArray, List.set_cons_zero, List.set_cons_succ]; done) | (simp only [putAll, Act.put, List.setIfInBounds_toArray, List.set_cons_zero, List.set_cons_succ]; rfl)) (hJ4_15_18 (v178, v188, gb193) _ ⟨hHeld, (by (with_reducible repeat first | apply rA | apply rN | apply rD); exact Kd.R_mono HO179.out (fun _ hk => ⟨hk.2, hk.1⟩)), (by (with_reducible repeat first | apply rA | apply rN | apply rD); exact Kd.R_mono HO189.out (fun _ hk => ⟨hk.1.2, hk.2⟩)), (uB BK171), (uB BK172), (uB BK173), (uB BK193), GW193.out, GE193.out, NB171_193.out, NB193_171.out, NB172_193.out, NB193_172.out, NB173_193.out, NB193_173.out, (uL HB)⟩)
                ·skip
                 rintro ⟨v178, v188⟩ w34 ⟨hS_, h0_, h1_, h2_, h3_, h4_, h5_⟩
                 have n0_ : Aside0 (Kd.R k40 40 w34 w.heap.size (fun k_ => some k_ ≠ (v188 : Value).ownBlock ∧ k_ ≠ gb172) v178 y177) := ⟨h0_⟩
                 have n1_ : Aside0 (Kd.R k40 40 w34 w.heap.size (fun k_ => some k_ ≠ (v178 : Value).ownBlock ∧ k_ ≠ gb172) v188 y187) := ⟨h1_⟩
                 have n2_ : Aside0 (w34.heap[gb171]? = some (.cells #[.int .i64 a0_0, .int .i64 a0_1, .slice A0_2 l0_2.length c0_2] 30 (0, 0))) := ⟨h2_⟩
                 have n3_ : Aside0 (w34.heap[gb172]? = some (.cells #[.int .i64 a2_0, .int .i64 a2_1, .string a2_2] 40 (0, 0))) := ⟨h3_⟩
                 have n4_ : Aside0 (w34.heap[gb173]? = some (.cells #[.int .i64 0, .int .i64 0, .slice none 0 0] 30 (0, 0))) := ⟨h4_⟩
                 have n5_ : Aside0 (Below w.heap.size w w34) := ⟨h5_⟩
                 clear BK171 BK172 BK173 HB h0_ h1_ h2_ h3_ h4_ h5_; have HO179 := n0_; have HO189 := n1_; have BK171 := n2_; have BK172 := n3_; have BK173 := n4_; have HB := n5_; clear n0_ n1_ n2_ n3_ n4_ n5_
                 have hHeld : w34.cell? ⟨gb171, 0, none⟩ = some (.int .i64 a0_0) ∧ w34.cell? ⟨gb171, 1, none⟩ = some (.int .i64 a0_1) ∧ w34.cell? ⟨gb171, 2, none⟩ = some (.slice A0_2 l0_2.length c0_2) ∧ w34.cell? ⟨gb172, 0, none⟩ = some (.int .i64 a2_0) ∧ w34.cell? ⟨gb172, 1, none⟩ = some (.int .i64 a2_1) ∧ w34.cell? ⟨gb172, 2, none⟩ = some (.string a2_2) := hS_
                 refine norm_ (a' := ?_) ?_ ?_
                 rotate_left
                 ·simp only [putAll, Act.put, List.setIfInBounds_toArray, List.set_cons_zero, List.set_cons_succ]
                  rfl
                 refine two_ (i := 13) (j := 18) (Ni := some 37) (Nj := some 8) #[true, true, true, true, true, true, true, true, true, true, true, true, true, true, true, true, false, false, false, false] #[true, true, true, true, true, true, true, true, true, true, true, true, true, false, true, true, false, false, true, false] rfl rfl rfl rfl (two_of HT_.out (by kernel_rfl)) (by decide) (by decide) (fun K hK => ?_) (fun K hK => ?_)
                 ·skip
                  refine Kd.R_append_rows_step k40 (w0 := w) w.heap.size (by rfl) (.tmp 28) (.tmp 36) 28 40 (.agg #[(.int .i64 0), (.int .i64 0), (.string ⟨#[]⟩)]) 32 rfl Try.underlying28 info40 rfl (by decide) (by omega) v178 y177 y180 _ _ _ (fun k_ => some k_ ≠ (v188 : Value).ownBlock ∧ k_ ≠ gb172) (fun _ => False) rfl rfl ?aO ?aR (fun _ _ h => h) (fun _ h => h.elim) ?aF ?aB ?aS ?aL ?_
                  (case aR => repeat (first | exact (Kd.C_below HR183.out HB.out) | (with_reducible refine cA ?_ _) | (with_reducible refine cN ?_ _) | (with_reducible refine cD ?_)))
                  (case aB => exact (uL HB))
                  (case aF => exact (fun k_ hk => ⟨Kd.fresh' (Kd.R_lt (uR HO189)) k_ hk, Kd.freshB (g := gb172) (o := .cells #[.int .i64 a2_0, .int .i64 a2_1, .string a2_2] 40 (0, 0)) (uB BK172) k_ hk⟩))
                  (case aO => exact (uR HO179))
                  (case aS => exact (below_size (uL HB)))
                  (case aL => have := LMc24.out; omega)
                  intro v185 w35 ho hb hg hat
                  rw [← Ny184.out] at ho
                  have n0_ := aM (blk_grown (g := gb171) (o := .cells #[.int .i64 a0_0, .int .i64 a0_1, .slice A0_2 l0_2.length c0_2] 30 (0, 0)) (uB BK171) hg (Kd.R_ne HO179.out BK171.out (by decide)))
                  have n1_ := aM (blk_grown (g := gb172) (o := .cells #[.int .i64 a2_0, .int .i64 a2_1, .string a2_2] 40 (0, 0)) (uB BK172) hg (Kd.R_away HO179.out (fun _ hk => hk.2)))
                  have n2_ := aM (blk_grown (g := gb173) (o := .cells #[.int .i64 0, .int .i64 0, .slice none 0 0] 30 (0, 0)) (uB BK173) hg (Kd.R_ne HO179.out BK173.out (by decide)))
                  have n3_ := aM (Kd.R_after (ok := (fun k_ => k_ ≠ gb172)) (by (with_reducible repeat first | apply rA | apply rN | apply rD); exact Kd.R_mono HO189.out (fun _ hk => ⟨hk.2, hk.1⟩)) hg hat)
                  have n4_ := aM (hb)
                  have n5_ := aM (ho)
                  clear BK171 BK172 BK173 HO189 HB HO179; have BK171 := n0_; have BK172 := n1_; have BK173 := n2_; have HO189 := n3_; have HB := n4_; have HO186 := n5_; clear n0_ n1_ n2_ n3_ n4_ n5_ ho hb hg hat
                  refine hK.out _ _ ⟨(blk_cell BK171.out 0).trans rfl, (blk_cell BK171.out 1).trans rfl, (blk_cell BK171.out 2).trans rfl, (blk_cell BK172.out 0).trans rfl, (blk_cell BK172.out 1).trans rfl, (blk_cell BK172.out 2).trans rfl⟩ (fun hHeld => ?_)
                  clear hK K
                  refine nX 37 ?_
                  exact norm_ (by first | (simp only [putAll, Act.put, List.setIfInBounds_toArray, List.set_cons_zero, List.set_cons_succ]; done) | (simp only [putAll, Act.put, List.setIfInBounds_toArray, List.set_cons_zero, List.set_cons_succ]; rfl)) (hJ4_13_15 (v178, v185, v188) _ ⟨hHeld, (uR HO186), (by (with_reducible repeat first | apply rA | apply rN | apply rD); exact Kd.R_mono HO189.out (fun _ hk => ⟨hk.2, hk.1⟩)), (uB BK171), (uB BK172), (uB BK173), (uL HB)⟩)
                 ·skip
                  refine bxS 8 #[.int .i64 0, .int .i64 0, .slice none 0 0] 30 ?_
                  intro gb193 hg w35 hbox hb
                  have n0_ := aM (Kd.R_below (uR HO179) hb); have n1_ := aM (Kd.R_below (uR HO189) hb); have n2_ := blkB BK171 hb; have n3_ := blkB BK172 hb; have n4_ := blkB BK173 hb
                  have n5_ := aM (below_step (uL HB) hb)
                  have n6_ := aM (hbox)
                  have n7_ := szG hg (uL HB); have n8_ := szG hg (uL HB); have n9_ := neL hg BK171; have n10_ := neG hg BK171; have n11_ := neL hg BK172; have n12_ := neG hg BK172; have n13_ := neL hg BK173; have n14_ := neG hg BK173; clear HO179 HO189 BK171 BK172 BK173 HB; have HO179 := n0_; have HO189 := n1_; have BK171 := n2_; have BK172 := n3_; have BK173 := n4_; have HB := n5_; have BK193 := n6_; have GW193 := n7_; have GE193 := n8_; have NB171_193 := n9_; have NB193_171 := n10_; have NB172_193 := n11_; have NB193_172 := n12_; have NB173_193 := n13_; have NB193_173 := n14_; clear n0_ n1_ n2_ n3_ n4_ n5_ n6_ n7_ n8_ n9_ n10_ n11_ n12_ n13_ n14_ hb hbox hg
                  refine hK.out _ _ ⟨(blk_cell BK171.out 0).trans rfl, (blk_cell BK171.out 1).trans rfl, (blk_cell BK171.out 2).trans rfl, (blk_cell BK172.out 0).trans rfl, (blk_cell BK172.out 1).trans rfl, (blk_cell BK172.out 2).trans rfl⟩ (fun hHeld => ?_)
                  clear hK K
                  refine nX 8 ?_
                  exact norm_ (by first | (simp only [putAll, Act.put, List.setIfInBounds_toArray, List.set_cons_zero, List.set_cons_succ]; done) | (simp only [putAll, Act.put, List.setIfInBounds_toArray, List.set_cons_zero, List.set_cons_succ]; rfl)) (hJ4_15_18 (v178, v188, gb193) _ ⟨hHeld, (uR HO179), (uR HO189), (uB BK171), (uB BK172), (uB BK173), (uB BK193), GW193.out, GE193.out, NB171_193.out, NB193_171.out, NB172_193.out, NB193_172.out, NB173_193.out, NB193_173.out, (uL HB)⟩)
               ·skip
                rintro ⟨v178, v185⟩ w33 ⟨hS_, h0_, h1_, h2_, h3_, h4_⟩
                have n0_ : Aside0 (Kd.R k40 40 w33 w.heap.size (fun k_ => k_ ≠ gb172) v185 y184) := ⟨h0_⟩
                have n1_ : Aside0 (w33.heap[gb171]? = some (.cells #[.int .i64 a0_0, .int .i64 a0_1, .slice A0_2 l0_2.length c0_2] 30 (0, 0))) := ⟨h1_⟩
                have n2_ : Aside0 (w33.heap[gb172]? = some (.cells #[.int .i64 a2_0, .int .i64 a2_1, .string a2_2] 40 (0, 0))) := ⟨h2_⟩
                have n3_ : Aside0 (w33.heap[gb173]? = some (.cells #[.int .i64 0, .int .i64 0, .slice none 0 0] 30 (0, 0))) := ⟨h3_⟩
                have n4_ : Aside0 (Below w.heap.size w w33) := ⟨h4_⟩
                clear BK171 BK172 BK173 HB h0_ h1_ h2_ h3_ h4_; have HO186 := n0_; have BK171 := n1_; have BK172 := n2_; have BK173 := n3_; have HB := n4_; clear n0_ n1_ n2_ n3_ n4_
                have hHeld : w33.cell? ⟨gb171, 0, none⟩ = some (.int .i64 a0_0) ∧ w33.cell? ⟨gb171, 1, none⟩ = some (.int .i64 a0_1) ∧ w33.cell? ⟨gb171, 2, none⟩ = some (.slice A0_2 l0_2.length c0_2) ∧ w33.cell? ⟨gb172, 0, none⟩ = some (.int .i64 a2_0) ∧ w33.cell? ⟨gb172, 1, none⟩ = some (.int .i64 a2_1) ∧ w33.cell? ⟨gb172, 2, none⟩ = some (.string a2_2) := hS_
                refine norm_ (a' := ?_) ?_ ?_
                rotate_left
                ·simp only [putAll, Act.put, List.setIfInBounds_toArray, List.set_cons_zero, List.set_cons_succ]
                 rfl
                refine two_ (i := 15) (j := 18) (Ni := some 39) (Nj := some 8) #[true, true, true, true, true, true, true, true, true, true, true, true, true, true, true, true, false, false, false, false] #[true, true, true, true, true, true, true, true, true, true, true, true, true, true, true, false, false, false, true, false] rfl rfl rfl rfl (two_of HT_.out (by kernel_rfl)) (by decide) (by decide) (fun K hK => ?_) (fun K hK => ?_)
                ·skip
                 refine Kd.R_lit_step k40 _ 40 ?hg (N := 39) ?hd (xs := ([(⟨a2_0, a2_1, a2_2⟩ : S40)] : List (S40))) (inner := [.int .i64 a2_0, .int .i64 a2_1, .string a2_2]) (ok := fun _ => True) (okp := fun _ => True) ?hr ?hp (fun _ hk => hk) trivial (Below.refl _ _) (Nat.le_refl _) (by simp) ?_; (case hd => rfl); (case hg => rfl); (case hr => first | (go_simp; done) | (go_simp; rfl)); (case hp => exact (Reps.c3 (show Kd.M k40 _ _ _ (⟨a2_0, a2_1, a2_2⟩ : S40) [.int .i64 a2_0, .int .i64 a2_1, .string a2_2] from (k40_mkM _ _ _ (⟨a2_0, a2_1, a2_2⟩ : S40) )) (Reps.none _ _)))
                 intro v188 w34 ho35 hb hg_ hnew_
                 clear hg_ hnew_
                 (first | rw [← Ny187.out] at ho35 | (simp only [Int.reduceToNat] at ho35; rw [← Ny187.out] at ho35))
                 have n0_ := aM (Kd.R_elder' (uR HO186) (Kd.R_base ho35) hb)
                 have n1_ := aM (Kd.R_lower (Kd.R_newB (Kd.R_new' ho35 (Kd.R_lt (uR HO186))) (g := gb172) (o := .cells #[.int .i64 a2_0, .int .i64 a2_1, .string a2_2] 40 (0, 0)) (uB BK172)) (below_size (uL HB)))
                 have n2_ := blkB BK171 hb; have n3_ := blkB BK172 hb; have n4_ := blkB BK173 hb
                 have n5_ := aM (below_step (uL HB) hb)
                 clear HO186 BK171 BK172 BK173 HB; have HO186 := n0_; have HO189 := n1_; have BK171 := n2_; have BK172 := n3_; have BK173 := n4_; have HB := n5_; clear n0_ n1_ n2_ n3_ n4_ n5_ hb ho35
                 refine hK.out _ _ ⟨(blk_cell BK171.out 0).trans rfl, (blk_cell BK171.out 1).trans rfl, (blk_cell BK171.out 2).trans rfl, (blk_cell BK172.out 0).trans rfl, (blk_cell BK172.out 1).trans rfl, (blk_cell BK172.out 2).trans rfl⟩ (fun hHeld => ?_)
                 clear hK K
                 refine nX 39 ?_
                 exact norm_ (by first | (simp only [putAll, Act.put, List.setIfInBounds_toArray, List.set_cons_zero, List.set_cons_succ]; done) | (simp only [putAll, Act.put, List.setIfInBounds_toArray, List.set_cons_zero, List.set_cons_succ]; rfl)) (hJ4_13_15 (v178, v185, v188) _ ⟨hHeld, (by (with_reducible repeat first | apply rA | apply rN | apply rD); exact Kd.R_mono HO186.out (fun _ hk => ⟨hk.2, hk.1⟩)), (by (with_reducible repeat first | apply rA | apply rN | apply rD); exact Kd.R_mono HO189.out (fun _ hk => ⟨hk.1.2, hk.2⟩)), (uB BK171), (uB BK172), (uB BK173), (uL HB)⟩)
                ·skip
                 refine bxS 8 #[.int .i64 0, .int .i64 0, .slice none 0 0] 30 ?_
                 intro gb193 hg w34 hbox hb
                 have n0_ := aM (Kd.R_below (uR HO186) hb); have n1_ := blkB BK171 hb; have n2_ := blkB BK172 hb; have n3_ := blkB BK173 hb
                 have n4_ := aM (below_step (uL HB) hb)
                 have n5_ := aM (hbox)
                 have n6_ := szG hg (uL HB); have n7_ := szG hg (uL HB); have n8_ := neL hg BK171; have n9_ := neG hg BK171; have n10_ := neL hg BK172; have n11_ := neG hg BK172; have n12_ := neL hg BK173; have n13_ := neG hg BK173; clear HO186 BK171 BK172 BK173 HB; have HO186 := n0_; have BK171 := n1_; have BK172 := n2_; have BK173 := n3_; have HB := n4_; have BK193 := n5_; have GW193 := n6_; have GE193 := n7_; have NB171_193 := n8_; have NB193_171 := n9_; have NB172_193 := n10_; have NB193_172 := n11_; have NB173_193 := n12_; have NB193_173 := n13_; clear n0_ n1_ n2_ n3_ n4_ n5_ n6_ n7_ n8_ n9_ n10_ n11_ n12_ n13_ hb hbox hg
                 refine hK.out _ _ ⟨(blk_cell BK171.out 0).trans rfl, (blk_cell BK171.out 1).trans rfl, (blk_cell BK171.out 2).trans rfl, (blk_cell BK172.out 0).trans rfl, (blk_cell BK172.out 1).trans rfl, (blk_cell BK172.out 2).trans rfl⟩ (fun hHeld => ?_)
                 clear hK K
                 refine nX 8 ?_
                 exact norm_ (by first | (simp only [putAll, Act.put, List.setIfInBounds_toArray, List.set_cons_zero, List.set_cons_succ]; done) | (simp only [putAll, Act.put, List.setIfInBounds_toArray, List.set_cons_zero, List.set_cons_succ]; rfl)) (hJ4_13_18 (v178, v185, gb193) _ ⟨hHeld, (uR HO186), (uB BK171), (uB BK172), (uB BK173), (uB BK193), GW193.out, GE193.out, NB171_193.out, NB193_171.out, NB172_193.out, NB193_172.out, NB173_193.out, NB193_173.out, (uL HB)⟩)
              ·skip
               rintro ⟨v178, v188, gb193⟩ w35 ⟨hS_, h0_, h1_, h2_, h3_, h4_, h5_, h6_, h7_, h8_, h9_, h10_, h11_, h12_, h13_, h14_⟩
               have n0_ : Aside0 (Kd.R k40 40 w35 w.heap.size (fun k_ => some k_ ≠ (v188 : Value).ownBlock ∧ k_ ≠ gb172) v178 y177) := ⟨h0_⟩
               have n1_ : Aside0 (Kd.R k40 40 w35 w.heap.size (fun k_ => some k_ ≠ (v178 : Value).ownBlock ∧ k_ ≠ gb172) v188 y187) := ⟨h1_⟩
               have n2_ : Aside0 (w35.heap[gb171]? = some (.cells #[.int .i64 a0_0, .int .i64 a0_1, .slice A0_2 l0_2.length c0_2] 30 (0, 0))) := ⟨h2_⟩
               have n3_ : Aside0 (w35.heap[gb172]? = some (.cells #[.int .i64 a2_0, .int .i64 a2_1, .string a2_2] 40 (0, 0))) := ⟨h3_⟩
               have n4_ : Aside0 (w35.heap[gb173]? = some (.cells #[.int .i64 0, .int .i64 0, .slice none 0 0] 30 (0, 0))) := ⟨h4_⟩
               have n5_ : Aside0 (w35.heap[gb193]? = some (.cells #[.int .i64 0, .int .i64 0, .slice none 0 0] 30 (0, 0))) := ⟨h5_⟩
               have n6_ : Aside0 (w.heap.size ≤ gb193) := ⟨h6_⟩
               have n7_ : Aside0 (w.heap.size ≤ gb193) := ⟨h7_⟩
               have n8_ : Aside0 (gb171 ≠ gb193) := ⟨h8_⟩
               have n9_ : Aside0 (gb193 ≠ gb171) := ⟨h9_⟩
               have n10_ : Aside0 (gb172 ≠ gb193) := ⟨h10_⟩
               have n11_ : Aside0 (gb193 ≠ gb172) := ⟨h11_⟩
               have n12_ : Aside0 (gb173 ≠ gb193) := ⟨h12_⟩
               have n13_ : Aside0 (gb193 ≠ gb173) := ⟨h13_⟩
               have n14_ : Aside0 (Below w.heap.size w w35) := ⟨h14_⟩
               clear BK171 BK172 BK173 HB h0_ h1_ h2_ h3_ h4_ h5_ h6_ h7_ h8_ h9_ h10_ h11_ h12_ h13_ h14_; have HO179 := n0_; have HO189 := n1_; have BK171 := n2_; have BK172 := n3_; have BK173 := n4_; have BK193 := n5_; have GW193 := n6_; have GE193 := n7_; have NB171_193 := n8_; have NB193_171 := n9_; have NB172_193 := n10_; have NB193_172 := n11_; have NB173_193 := n12_; have NB193_173 := n13_; have HB := n14_; clear n0_ n1_ n2_ n3_ n4_ n5_ n6_ n7_ n8_ n9_ n10_ n11_ n12_ n13_ n14_
               have hHeld : w35.cell? ⟨gb171, 0, none⟩ = some (.int .i64 a0_0) ∧ w35.cell? ⟨gb171, 1, none⟩ = some (.int .i64 a0_1) ∧ w35.cell? ⟨gb171, 2, none⟩ = some (.slice A0_2 l0_2.length c0_2) ∧ w35.cell? ⟨gb172, 0, none⟩ = some (.int .i64 a2_0) ∧ w35.cell? ⟨gb172, 1, none⟩ = some (.int .i64 a2_1) ∧ w35.cell? ⟨gb172, 2, none⟩ = some (.string a2_2) := hS_
               refine norm_ (a' := ?_) ?_ ?_
               rotate_left
               ·simp only [putAll, Act.put, List.setIfInBounds_toArray, List.set_cons_zero, List.set_cons_succ]
                rfl
               refine oA HT_.out 13 (some 37) 20 327679 (fun K hK => ?_)
               refine Kd.R_append_rows_step k40 (w0 := w) w.heap.size (by rfl) (.tmp 28) (.tmp 36) 28 40 (.agg #[(.int .i64 0), (.int .i64 0), (.string ⟨#[]⟩)]) 32 rfl Try.underlying28 info40 rfl (by decide) (by omega) v178 y177 y180 _ _ _ (fun k_ => some k_ ≠ (v188 : Value).ownBlock ∧ k_ ≠ gb172) (fun _ => False) rfl rfl ?aO ?aR (fun _ _ h => h) (fun _ h => h.elim) ?aF ?aB ?aS ?aL ?_
               (case aR => repeat (first | exact (Kd.C_below HR183.out HB.out) | (with_reducible refine cA ?_ _) | (with_reducible refine cN ?_ _) | (with_reducible refine cD ?_)))
               (case aB => exact (uL HB))
               (case aF => exact (fun k_ hk => ⟨Kd.fresh' (Kd.R_lt (uR HO189)) k_ hk, Kd.freshB (g := gb172) (o := .cells #[.int .i64 a2_0, .int .i64 a2_1, .string a2_2] 40 (0, 0)) (uB BK172) k_ hk⟩))
               (case aO => exact (uR HO179))
               (case aS => exact (below_size (uL HB)))
               (case aL => have := LMc24.out; omega)
               intro v185 w36 ho hb hg hat
               rw [← Ny184.out] at ho
               have n0_ := aM (blk_grown (g := gb171) (o := .cells #[.int .i64 a0_0, .int .i64 a0_1, .slice A0_2 l0_2.length c0_2] 30 (0, 0)) (uB BK171) hg (Kd.R_ne HO179.out BK171.out (by decide)))
               have n1_ := aM (blk_grown (g := gb172) (o := .cells #[.int .i64 a2_0, .int .i64 a2_1, .string a2_2] 40 (0, 0)) (uB BK172) hg (Kd.R_away HO179.out (fun _ hk => hk.2)))
               have n2_ := aM (blk_grown (g := gb173) (o := .cells #[.int .i64 0, .int .i64 0, .slice none 0 0] 30 (0, 0)) (uB BK173) hg (Kd.R_ne HO179.out BK173.out (by decide)))
               have n3_ := aM (Kd.R_after (ok := (fun k_ => k_ ≠ gb172)) (by (with_reducible repeat first | apply rA | apply rN | apply rD); exact Kd.R_mono HO189.out (fun _ hk => ⟨hk.2, hk.1⟩)) hg hat)
               have n4_ := aM (blk_grown (g := gb193) (o := .cells #[.int .i64 0, .int .i64 0, .slice none 0 0] 30 (0, 0)) (uB BK193) hg (Kd.R_ne HO179.out BK193.out (by decide)))
               have n5_ := aM (hb)
               have n6_ := aM (ho)
               clear BK171 BK172 BK173 HO189 BK193 HB HO179; have BK171 := n0_; have BK172 := n1_; have BK173 := n2_; have HO189 := n3_; have BK193 := n4_; have HB := n5_; have HO186 := n6_; clear n0_ n1_ n2_ n3_ n4_ n5_ n6_ ho hb hg hat
               refine hK.out _ _ ⟨(blk_cell BK171.out 0).trans rfl, (blk_cell BK171.out 1).trans rfl, (blk_cell BK171.out 2).trans rfl, (blk_cell BK172.out 0).trans rfl, (blk_cell BK172.out 1).trans rfl, (blk_cell BK172.out 2).trans rfl⟩ (fun hHeld => ?_)
               clear hK K
               refine nX 37 ?_
               exact norm_ (by first | (simp only [putAll, Act.put, List.setIfInBounds_toArray, List.set_cons_zero, List.set_cons_succ]; done) | (simp only [putAll, Act.put, List.setIfInBounds_toArray, List.set_cons_zero, List.set_cons_succ]; rfl)) (hJ4_13_15_18 (v178, v185, v188, gb193) _ ⟨hHeld, (uR HO186), (by (with_reducible repeat first | apply rA | apply rN | apply rD); exact Kd.R_mono HO189.out (fun _ hk => ⟨hk.2, hk.1⟩)), (uB BK171), (uB BK172), (uB BK173), (uB BK193), GW193.out, GE193.out, NB171_193.out, NB193_171.out, NB172_193.out, NB193_172.out, NB173_193.out, NB193_173.out, (uL HB)⟩)
             ·skip
              rintro ⟨v178, v185, gb193⟩ w34 ⟨hS_, h0_, h1_, h2_, h3_, h4_, h5_, h6_, h7_, h8_, h9_, h10_, h11_, h12_, h13_⟩
              have n0_ : Aside0 (Kd.R k40 40 w34 w.heap.size (fun k_ => k_ ≠ gb172) v185 y184) := ⟨h0_⟩
              have n1_ : Aside0 (w34.heap[gb171]? = some (.cells #[.int .i64 a0_0, .int .i64 a0_1, .slice A0_2 l0_2.length c0_2] 30 (0, 0))) := ⟨h1_⟩
              have n2_ : Aside0 (w34.heap[gb172]? = some (.cells #[.int .i64 a2_0, .int .i64 a2_1, .string a2_2] 40 (0, 0))) := ⟨h2_⟩
              have n3_ : Aside0 (w34.heap[gb173]? = some (.cells #[.int .i64 0, .int .i64 0, .slice none 0 0] 30 (0, 0))) := ⟨h3_⟩
              have n4_ : Aside0 (w34.heap[gb193]? = some (.cells #[.int .i64 0, .int .i64 0, .slice none 0 0] 30 (0, 0))) := ⟨h4_⟩
              have n5_ : Aside0 (w.heap.size ≤ gb193) := ⟨h5_⟩
              have n6_ : Aside0 (w.heap.size ≤ gb193) := ⟨h6_⟩
              have n7_ : Aside0 (gb171 ≠ gb193) := ⟨h7_⟩
              have n8_ : Aside0 (gb193 ≠ gb171) := ⟨h8_⟩
              have n9_ : Aside0 (gb172 ≠ gb193) := ⟨h9_⟩
              have n10_ : Aside0 (gb193 ≠ gb172) := ⟨h10_⟩
              have n11_ : Aside0 (gb173 ≠ gb193) := ⟨h11_⟩
              have n12_ : Aside0 (gb193 ≠ gb173) := ⟨h12_⟩
              have n13_ : Aside0 (Below w.heap.size w w34) := ⟨h13_⟩
              clear BK171 BK172 BK173 HB h0_ h1_ h2_ h3_ h4_ h5_ h6_ h7_ h8_ h9_ h10_ h11_ h12_ h13_; have HO186 := n0_; have BK171 := n1_; have BK172 := n2_; have BK173 := n3_; have BK193 := n4_; have GW193 := n5_; have GE193 := n6_; have NB171_193 := n7_; have NB193_171 := n8_; have NB172_193 := n9_; have NB193_172 := n10_; have NB173_193 := n11_; have NB193_173 := n12_; have HB := n13_; clear n0_ n1_ n2_ n3_ n4_ n5_ n6_ n7_ n8_ n9_ n10_ n11_ n12_ n13_
              have hHeld : w34.cell? ⟨gb171, 0, none⟩ = some (.int .i64 a0_0) ∧ w34.cell? ⟨gb171, 1, none⟩ = some (.int .i64 a0_1) ∧ w34.cell? ⟨gb171, 2, none⟩ = some (.slice A0_2 l0_2.length c0_2) ∧ w34.cell? ⟨gb172, 0, none⟩ = some (.int .i64 a2_0) ∧ w34.cell? ⟨gb172, 1, none⟩ = some (.int .i64 a2_1) ∧ w34.cell? ⟨gb172, 2, none⟩ = some (.string a2_2) := hS_
              refine norm_ (a' := ?_) ?_ ?_
              rotate_left
              ·simp only [putAll, Act.put, List.setIfInBounds_toArray, List.set_cons_zero, List.set_cons_succ]
               rfl
              refine oA HT_.out 15 (some 39) 20 327679 (fun K hK => ?_)
              refine Kd.R_lit_step k40 _ 40 ?hg (N := 39) ?hd (xs := ([(⟨a2_0, a2_1, a2_2⟩ : S40)] : List (S40))) (inner := [.int .i64 a2_0, .int .i64 a2_1, .string a2_2]) (ok := fun _ => True) (okp := fun _ => True) ?hr ?hp (fun _ hk => hk) trivial (Below.refl _ _) (Nat.le_refl _) (by simp) ?_; (case hd => rfl); (case hg => rfl); (case hr => first | (go_simp; done) | (go_simp; rfl)); (case hp => exact (Reps.c3 (show Kd.M k40 _ _ _ (⟨a2_0, a2_1, a2_2⟩ : S40) [.int .i64 a2_0, .int .i64 a2_1, .string a2_2] from (k40_mkM _ _ _ (⟨a2_0, a2_1, a2_2⟩ : S40) )) (Reps.none _ _)))
              intro v188 w35 ho36 hb hg_ hnew_
              clear hg_ hnew_
              (first | rw [← Ny187.out] at ho36 | (simp only [Int.reduceToNat] at ho36; rw [← Ny187.out] at ho36))
              have n0_ := aM (Kd.R_elder' (uR HO186) (Kd.R_base ho36) hb)
              have n1_ := aM (Kd.R_lower (Kd.R_newB (Kd.R_new' ho36 (Kd.R_lt (uR HO186))) (g := gb172) (o := .cells #[.int .i64 a2_0, .int .i64 a2_1, .string a2_2] 40 (0, 0)) (uB BK172)) (below_size (uL HB)))
              have n2_ := blkB BK171 hb; have n3_ := blkB BK172 hb; have n4_ := blkB BK173 hb; have n5_ := blkB BK193 hb
              have n6_ := aM (below_step (uL HB) hb)
              clear HO186 BK171 BK172 BK173 BK193 HB; have HO186 := n0_; have HO189 := n1_; have BK171 := n2_; have BK172 := n3_; have BK173 := n4_; have BK193 := n5_; have HB := n6_; clear n0_ n1_ n2_ n3_ n4_ n5_ n6_ hb ho36
              refine hK.out _ _ ⟨(blk_cell BK171.out 0).trans rfl, (blk_cell BK171.out 1).trans rfl, (blk_cell BK171.out 2).trans rfl, (blk_cell BK172.out 0).trans rfl, (blk_cell BK172.out 1).trans rfl, (blk_cell BK172.out 2).trans rfl⟩ (fun hHeld => ?_)
              clear hK K
              refine nX 39 ?_
              exact norm_ (by first | (simp only [putAll, Act.put, List.setIfInBounds_toArray, List.set_cons_zero, List.set_cons_succ]; done) | (simp only [putAll, Act.put, List.setIfInBounds_toArray, List.set_cons_zero, List.set_cons_succ]; rfl)) (hJ4_13_15_18 (v178, v185, v188, gb193) _ ⟨hHeld, (by (with_reducible repeat first | apply rA | apply rN | apply rD); exact Kd.R_mono HO186.out (fun _ hk => ⟨hk.2, hk.1⟩)), (by (with_reducible repeat first | apply rA | apply rN | apply rD); exact Kd.R_mono HO189.out (fun _ hk => ⟨hk.1.2, hk.2⟩)), (uB BK171), (uB BK172), (uB BK173), (uB BK193), GW193.out, GE193.out, NB171_193.out, NB193_171.out, NB172_193.out, NB193_172.out, NB173_193.out, NB193_173.out, (uL HB)⟩)
            ·skip
             rintro ⟨v178, v185, v188⟩ w35 ⟨hS_, h0_, h1_, h2_, h3_, h4_, h5_⟩
             have n0_ : Aside0 (Kd.R k40 40 w35 w.heap.size (fun k_ => some k_ ≠ (v188 : Value).ownBlock ∧ k_ ≠ gb172) v185 y184) := ⟨h0_⟩
             have n1_ : Aside0 (Kd.R k40 40 w35 w.heap.size (fun k_ => some k_ ≠ (v185 : Value).ownBlock ∧ k_ ≠ gb172) v188 y187) := ⟨h1_⟩
             have n2_ : Aside0 (w35.heap[gb171]? = some (.cells #[.int .i64 a0_0, .int .i64 a0_1, .slice A0_2 l0_2.length c0_2] 30 (0, 0))) := ⟨h2_⟩
             have n3_ : Aside0 (w35.heap[gb172]? = some (.cells #[.int .i64 a2_0, .int .i64 a2_1, .string a2_2] 40 (0, 0))) := ⟨h3_⟩
             have n4_ : Aside0 (w35.heap[gb173]? = some (.cells #[.int .i64 0, .int .i64 0, .slice none 0 0] 30 (0, 0))) := ⟨h4_⟩
             have n5_ : Aside0 (Below w.heap.size w w35) := ⟨h5_⟩
             clear BK171 BK172 BK173 HB h0_ h1_ h2_ h3_ h4_ h5_; have HO186 := n0_; have HO189 := n1_; have BK171 := n2_; have BK172 := n3_; have BK173 := n4_; have HB := n5_; clear n0_ n1_ n2_ n3_ n4_ n5_
             have hHeld : w35.cell? ⟨gb171, 0, none⟩ = some (.int .i64 a0_0) ∧ w35.cell? ⟨gb171, 1, none⟩ = some (.int .i64 a0_1) ∧ w35.cell? ⟨gb171, 2, none⟩ = some (.slice A0_2 l0_2.length c0_2) ∧ w35.cell? ⟨gb172, 0, none⟩ = some (.int .i64 a2_0) ∧ w35.cell? ⟨gb172, 1, none⟩ = some (.int .i64 a2_1) ∧ w35.cell? ⟨gb172, 2, none⟩ = some (.string a2_2) := hS_
             obtain ⟨Ao37, co37, eo37⟩ := Kd.R_slice HO189.out
             (first | subst eo37 | (injection eo37 with f1_ f2_ f3_; have f4_ := f1_.symm; have f5_ := f3_.symm; clear f1_ f2_ f3_; subst f4_; subst f5_))
             refine norm_ (a' := ?_) ?_ ?_
             rotate_left
             ·simp only [putAll, Act.put, List.setIfInBounds_toArray, List.set_cons_zero, List.set_cons_succ]
              rfl
             refine two_ (i := 16) (j := 18) (Ni := some 40) (Nj := some 8) #[true, true, true, true, true, true, true, true, true, true, true, true, true, true, true, true, true, false, false, false] #[true, true, true, true, true, true, true, true, true, true, true, true, true, true, true, true, false, false, true, false] rfl rfl rfl rfl (two_of HT_.out (by kernel_rfl)) (by decide) (by decide) (fun K hK => ?_) (fun K hK => ?_)
             ·skip
              refine Kd.R_append_rows_step k40 (w0 := w) w.heap.size (by rfl) (.tmp 37) (.tmp 39) 28 40 (.agg #[(.int .i64 0), (.int .i64 0), (.string ⟨#[]⟩)]) 32 rfl Try.underlying28 info40 rfl (by decide) (by omega) v185 y184 y187 _ _ _ (fun k_ => some k_ ≠ (.slice Ao37 y187.length co37 : Value).ownBlock ∧ k_ ≠ gb172) (fun _ => False) rfl rfl ?aO ?aR (fun _ _ h => h) (fun _ h => h.elim) ?aF ?aB ?aS ?aL ?_
              (case aR => repeat (first | exact (Kd.R_reads' HO189.out).2.2 | (with_reducible refine cA ?_ _) | (with_reducible refine cN ?_ _) | (with_reducible refine cD ?_)))
              (case aB => exact (uL HB))
              (case aF => exact (fun k_ hk => ⟨Kd.fresh' (Kd.R_lt (uR HO189)) k_ hk, Kd.freshB (g := gb172) (o := .cells #[.int .i64 a2_0, .int .i64 a2_1, .string a2_2] 40 (0, 0)) (uB BK172) k_ hk⟩))
              (case aO => exact (uR HO186))
              (case aS => exact (below_size (uL HB)))
              (case aL => have := LMc25.out; omega)
              intro v191 w36 ho hb hg hat
              rw [← Ny190.out] at ho
              have n0_ := aM (blk_grown (g := gb171) (o := .cells #[.int .i64 a0_0, .int .i64 a0_1, .slice A0_2 l0_2.length c0_2] 30 (0, 0)) (uB BK171) hg (Kd.R_ne HO186.out BK171.out (by decide)))
              have n1_ := aM (blk_grown (g := gb172) (o := .cells #[.int .i64 a2_0, .int .i64 a2_1, .string a2_2] 40 (0, 0)) (uB BK172) hg (Kd.R_away HO186.out (fun _ hk => hk.2)))
              have n2_ := aM (blk_grown (g := gb173) (o := .cells #[.int .i64 0, .int .i64 0, .slice none 0 0] 30 (0, 0)) (uB BK173) hg (Kd.R_ne HO186.out BK173.out (by decide)))
              have n3_ := aM (Kd.R_after (ok := (fun k_ => k_ ≠ gb172)) (by (with_reducible repeat first | apply rA | apply rN | apply rD); exact Kd.R_mono HO189.out (fun _ hk => ⟨hk.2, hk.1⟩)) hg hat)
              have n4_ := aM (hb)
              have n5_ := aM (ho)
              clear BK171 BK172 BK173 HO189 HB HO186; have BK171 := n0_; have BK172 := n1_; have BK173 := n2_; have HO189 := n3_; have HB := n4_; have HO192 := n5_; clear n0_ n1_ n2_ n3_ n4_ n5_ ho hb hg hat
              obtain ⟨Ao38, co38, eo38⟩ := Kd.R_slice HO192.out
              (first | subst eo38 | (injection eo38 with f1_ f2_ f3_; have f4_ := f1_.symm; have f5_ := f3_.symm; clear f1_ f2_ f3_; subst f4_; subst f5_))
              refine hK.out _ _ ⟨(blk_cell BK171.out 0).trans rfl, (blk_cell BK171.out 1).trans rfl, (blk_cell BK171.out 2).trans rfl, (blk_cell BK172.out 0).trans rfl, (blk_cell BK172.out 1).trans rfl, (blk_cell BK172.out 2).trans rfl⟩ (fun hHeld => ?_)
              clear hK K
              refine nX 40 ?_; refine pA HT_.out 17 41 20 262143 ?_
              exact norm_ (by first | (simp only [putAll, Act.put, List.setIfInBounds_toArray, List.set_cons_zero, List.set_cons_succ]; done) | (simp only [putAll, Act.put, List.setIfInBounds_toArray, List.set_cons_zero, List.set_cons_succ]; rfl)) (hJ4_13_15_16 (v178, v185, .slice Ao37 y187.length co37, .slice Ao38 y190.length co38) _ ⟨hHeld, (by (with_reducible repeat first | apply rA | apply rN | apply rD); exact Kd.R_mono HO189.out (fun _ hk => ⟨hk.2, hk.1⟩)), (uR HO192), (uB BK171), (uB BK172), (uB BK173), (uL HB)⟩)
             ·skip
              refine bxS 8 #[.int .i64 0, .int .i64 0, .slice none 0 0] 30 ?_
              intro gb193 hg w36 hbox hb
              have n0_ := aM (Kd.R_below (uR HO186) hb); have n1_ := aM (Kd.R_below (uR HO189) hb); have n2_ := blkB BK171 hb; have n3_ := blkB BK172 hb; have n4_ := blkB BK173 hb
              have n5_ := aM (below_step (uL HB) hb)
              have n6_ := aM (hbox)
              have n7_ := szG hg (uL HB); have n8_ := szG hg (uL HB); have n9_ := neL hg BK171; have n10_ := neG hg BK171; have n11_ := neL hg BK172; have n12_ := neG hg BK172; have n13_ := neL hg BK173; have n14_ := neG hg BK173; clear HO186 HO189 BK171 BK172 BK173 HB; have HO186 := n0_; have HO189 := n1_; have BK171 := n2_; have BK172 := n3_; have BK173 := n4_; have HB := n5_; have BK193 := n6_; have GW193 := n7_; have GE193 := n8_; have NB171_193 := n9_; have NB193_171 := n10_; have NB172_193 := n11_; have NB193_172 := n12_; have NB173_193 := n13_; have NB193_173 := n14_; clear n0_ n1_ n2_ n3_ n4_ n5_ n6_ n7_ n8_ n9_ n10_ n11_ n12_ n13_ n14_ hb hbox hg
              refine hK.out _ _ ⟨(blk_cell BK171.out 0).trans rfl, (blk_cell BK171.out 1).trans rfl, (blk_cell BK171.out 2).trans rfl, (blk_cell BK172.out 0).trans rfl, (blk_cell BK172.out 1).trans rfl, (blk_cell BK172.out 2).trans rfl⟩ (fun hHeld => ?_)
              clear hK K
              refine nX 8 ?_
              exact norm_ (by first | (simp only [putAll, Act.put, List.setIfInBounds_toArray, List.set_cons_zero, List.set_cons_succ]; done) | (simp only [putAll, Act.put, List.setIfInBounds_toArray, List.set_cons_zero, List.set_cons_succ]; rfl)) (hJ4_13_15_18 (v178, v185, .slice Ao37 y187.length co37, gb193) _ ⟨hHeld, (uR HO186), (uR HO189), (uB BK171), (uB BK172), (uB BK173), (uB BK193), GW193.out, GE193.out, NB171_193.out, NB193_171.out, NB172_193.out, NB193_172.out, NB173_193.out, NB193_173.out, (uL HB)⟩)
           ·skip
            rintro ⟨v178, v185, v188, gb193⟩ w36 ⟨hS_, h0_, h1_, h2_, h3_, h4_, h5_, h6_, h7_, h8_, h9_, h10_, h11_, h12_, h13_, h14_⟩
            have n0_ : Aside0 (Kd.R k40 40 w36 w.heap.size (fun k_ => some k_ ≠ (v188 : Value).ownBlock ∧ k_ ≠ gb172) v185 y184) := ⟨h0_⟩
            have n1_ : Aside0 (Kd.R k40 40 w36 w.heap.size (fun k_ => some k_ ≠ (v185 : Value).ownBlock ∧ k_ ≠ gb172) v188 y187) := ⟨h1_⟩
            have n2_ : Aside0 (w36.heap[gb171]? = some (.cells #[.int .i64 a0_0, .int .i64 a0_1, .slice A0_2 l0_2.length c0_2] 30 (0, 0))) := ⟨h2_⟩
            have n3_ : Aside0 (w36.heap[gb172]? = some (.cells #[.int .i64 a2_0, .int .i64 a2_1, .string a2_2] 40 (0, 0))) := ⟨h3_⟩
            have n4_ : Aside0 (w36.heap[gb173]? = some (.cells #[.int .i64 0, .int .i64 0, .slice none 0 0] 30 (0, 0))) := ⟨h4_⟩
            have n5_ : Aside0 (w36.heap[gb193]? = some (.cells #[.int .i64 0, .int .i64 0, .slice none 0 0] 30 (0, 0))) := ⟨h5_⟩
            have n6_ : Aside0 (w.heap.size ≤ gb193) := ⟨h6_⟩
            have n7_ : Aside0 (w.heap.size ≤ gb193) := ⟨h7_⟩
            have n8_ : Aside0 (gb171 ≠ gb193) := ⟨h8_⟩
            have n9_ : Aside0 (gb193 ≠ gb171) := ⟨h9_⟩
            have n10_ : Aside0 (gb172 ≠ gb193) := ⟨h10_⟩
            have n11_ : Aside0 (gb193 ≠ gb172) := ⟨h11_⟩
            have n12_ : Aside0 (gb173 ≠ gb193) := ⟨h12_⟩
            have n13_ : Aside0 (gb193 ≠ gb173) := ⟨h13_⟩
            have n14_ : Aside0 (Below w.heap.size w w36) := ⟨h14_⟩
            clear BK171 BK172 BK173 HB h0_ h1_ h2_ h3_ h4_ h5_ h6_ h7_ h8_ h9_ h10_ h11_ h12_ h13_ h14_; have HO186 := n0_; have HO189 := n1_; have BK171 := n2_; have BK172 := n3_; have BK173 := n4_; have BK193 := n5_; have GW193 := n6_; have GE193 := n7_; have NB171_193 := n8_; have NB193_171 := n9_; have NB172_193 := n10_; have NB193_172 := n11_; have NB173_193 := n12_; have NB193_173 := n13_; have HB := n14_; clear n0_ n1_ n2_ n3_ n4_ n5_ n6_ n7_ n8_ n9_ n10_ n11_ n12_ n13_ n14_
            have hHeld : w36.cell? ⟨gb171, 0, none⟩ = some (.int .i64 a0_0) ∧ w36.cell? ⟨gb171, 1, none⟩ = some (.int .i64 a0_1) ∧ w36.cell? ⟨gb171, 2, none⟩ = some (.slice A0_2 l0_2.length c0_2) ∧ w36.cell? ⟨gb172, 0, none⟩ = some (.int .i64 a2_0) ∧ w36.cell? ⟨gb172, 1, none⟩ = some (.int .i64 a2_1) ∧ w36.cell? ⟨gb172, 2, none⟩ = some (.string a2_2) := hS_
            obtain ⟨Ao38, co38, eo38⟩ := Kd.R_slice HO189.out
            (first | subst eo38 | (injection eo38 with f1_ f2_ f3_; have f4_ := f1_.symm; have f5_ := f3_.symm; clear f1_ f2_ f3_; subst f4_; subst f5_))
            refine norm_ (a' := ?_) ?_ ?_
            rotate_left
            ·simp only [putAll, Act.put, List.setIfInBounds_toArray, List.set_cons_zero, List.set_cons_succ]
             rfl
            refine oA HT_.out 16 (some 40) 20 393215 (fun K hK => ?_)
            refine Kd.R_append_rows_step k40 (w0 := w) w.heap.size (by rfl) (.tmp 37) (.tmp 39) 28 40 (.agg #[(.int .i64 0), (.int .i64 0), (.string ⟨#[]⟩)]) 32 rfl Try.underlying28 info40 rfl (by decide) (by omega) v185 y184 y187 _ _ _ (fun k_ => some k_ ≠ (.slice Ao38 y187.length co38 : Value).ownBlock ∧ k_ ≠ gb172) (fun _ => False) rfl rfl ?aO ?aR (fun _ _ h => h) (fun _ h => h.elim) ?aF ?aB ?aS ?aL ?_
            (case aR => repeat (first | exact (Kd.R_reads' HO189.out).2.2 | (with_reducible refine cA ?_ _) | (with_reducible refine cN ?_ _) | (with_reducible refine cD ?_)))
            (case aB => exact (uL HB))
            (case aF => exact (fun k_ hk => ⟨Kd.fresh' (Kd.R_lt (uR HO189)) k_ hk, Kd.freshB (g := gb172) (o := .cells #[.int .i64 a2_0, .int .i64 a2_1, .string a2_2] 40 (0, 0)) (uB BK172) k_ hk⟩))
            (case aO => exact (uR HO186))
            (case aS => exact (below_size (uL HB)))
            (case aL => have := LMc25.out; omega)
            intro v191 w37 ho hb hg hat
            rw [← Ny190.out] at ho
            have n0_ := aM (blk_grown (g := gb171) (o := .cells #[.int .i64 a0_0, .int .i64 a0_1, .slice A0_2 l0_2.length c0_2] 30 (0, 0)) (uB BK171) hg (Kd.R_ne HO186.out BK171.out (by decide)))
            have n1_ := aM (blk_grown (g := gb172) (o := .cells #[.int .i64 a2_0, .int .i64 a2_1, .string a2_2] 40 (0, 0)) (uB BK172) hg (Kd.R_away HO186.out (fun _ hk => hk.2)))
            have n2_ := aM (blk_grown (g := gb173) (o := .cells #[.int .i64 0, .int .i64 0, .slice none 0 0] 30 (0, 0)) (uB BK173) hg (Kd.R_ne HO186.out BK173.out (by decide)))
            have n3_ := aM (Kd.R_after (ok := (fun k_ => k_ ≠ gb172)) (by (with_reducible repeat first | apply rA | apply rN | apply rD); exact Kd.R_mono HO189.out (fun _ hk => ⟨hk.2, hk.1⟩)) hg hat)
            have n4_ := aM (blk_grown (g := gb193) (o := .cells #[.int .i64 0, .int .i64 0, .slice none 0 0] 30 (0, 0)) (uB BK193) hg (Kd.R_ne HO186.out BK193.out (by decide)))
            have n5_ := aM (hb)
            have n6_ := aM (ho)
            clear BK171 BK172 BK173 HO189 BK193 HB HO186; have BK171 := n0_; have BK172 := n1_; have BK173 := n2_; have HO189 := n3_; have BK193 := n4_; have HB := n5_; have HO192 := n6_; clear n0_ n1_ n2_ n3_ n4_ n5_ n6_ ho hb hg hat
            obtain ⟨Ao39, co39, eo39⟩ := Kd.R_slice HO192.out
            (first | subst eo39 | (injection eo39 with f1_ f2_ f3_; have f4_ := f1_.symm; have f5_ := f3_.symm; clear f1_ f2_ f3_; subst f4_; subst f5_))
            refine hK.out _ _ ⟨(blk_cell BK171.out 0).trans rfl, (blk_cell BK171.out 1).trans rfl, (blk_cell BK171.out 2).trans rfl, (blk_cell BK172.out 0).trans rfl, (blk_cell BK172.out 1).trans rfl, (blk_cell BK172.out 2).trans rfl⟩ (fun hHeld => ?_)
            clear hK K
            refine nX 40 ?_; refine pA HT_.out 17 41 20 524287 ?_
            exact norm_ (by first | (simp only [putAll, Act.put, List.setIfInBounds_toArray, List.set_cons_zero, List.set_cons_succ]; done) | (simp only [putAll, Act.put, List.setIfInBounds_toArray, List.set_cons_zero, List.set_cons_succ]; rfl)) (hJ4_13_15_16_18 (v178, v185, .slice Ao38 y187.length co38, .slice Ao39 y190.length co39, gb193) _ ⟨hHeld, (by (with_reducible repeat first | apply rA | apply rN | apply rD); exact Kd.R_mono HO189.out (fun _ hk => ⟨hk.2, hk.1⟩)), (uR HO192), (uB BK171), (uB BK172), (uB BK173), (uB BK193), GW193.out, GE193.out, NB171_193.out, NB193_171.out, NB172_193.out, NB193_172.out, NB173_193.out, NB193_173.out, (uL HB)⟩)
          ·skip
           rintro ⟨v178, v185, v188, v191⟩ w38 ⟨hS_, h0_, h1_, h2_, h3_, h4_, h5_⟩
           have n0_ : Aside0 (Kd.R k40 40 w38 w.heap.size (fun k_ => some k_ ≠ (v191 : Value).ownBlock ∧ k_ ≠ gb172) v188 y187) := ⟨h0_⟩
           have n1_ : Aside0 (Kd.R k40 40 w38 w.heap.size (fun k_ => some k_ ≠ (v188 : Value).ownBlock ∧ k_ ≠ gb172) v191 y190) := ⟨h1_⟩
           have n2_ : Aside0 (w38.heap[gb171]? = some (.cells #[.int .i64 a0_0, .int .i64 a0_1, .slice A0_2 l0_2.length c0_2] 30 (0, 0))) := ⟨h2_⟩
           have n3_ : Aside0 (w38.heap[gb172]? = some (.cells #[.int .i64 a2_0, .int .i64 a2_1, .string a2_2] 40 (0, 0))) := ⟨h3_⟩
           have n4_ : Aside0 (w38.heap[gb173]? = some (.cells #[.int .i64 0, .int .i64 0, .slice none 0 0] 30 (0, 0))) := ⟨h4_⟩
           have n5_ : Aside0 (Below w.heap.size w w38) := ⟨h5_⟩
           clear BK171 BK172 BK173 HB h0_ h1_ h2_ h3_ h4_ h5_; have HO189 := n0_; have HO192 := n1_; have BK171 := n2_; have BK172 := n3_; have BK173 := n4_; have HB := n5_; clear n0_ n1_ n2_ n3_ n4_ n5_
           have hHeld : w38.cell? ⟨gb171, 0, none⟩ = some (.int .i64 a0_0) ∧ w38.cell? ⟨gb171, 1, none⟩ = some (.int .i64 a0_1) ∧ w38.cell? ⟨gb171, 2, none⟩ = some (.slice A0_2 l0_2.length c0_2) ∧ w38.cell? ⟨gb172, 0, none⟩ = some (.int .i64 a2_0) ∧ w38.cell? ⟨gb172, 1, none⟩ = some (.int .i64 a2_1) ∧ w38.cell? ⟨gb172, 2, none⟩ = some (.string a2_2) := hS_
           obtain ⟨Ao39, co39, eo39⟩ := Kd.R_slice HO192.out
           (first | subst eo39 | (injection eo39 with f1_ f2_ f3_; have f4_ := f1_.symm; have f5_ := f3_.symm; clear f1_ f2_ f3_; subst f4_; subst f5_))
           refine norm_ (a' := ?_) ?_ ?_
           rotate_left
           ·simp only [putAll, Act.put, List.setIfInBounds_toArray, List.set_cons_zero, List.set_cons_succ]
            rfl
           refine oA HT_.out 18 (some 8) 20 524287 (fun K hK => ?_)
           refine bxS 8 #[.int .i64 0, .int .i64 0, .slice none 0 0] 30 ?_
           intro gb193 hg w40 hbox hb
           have n0_ := aM (Kd.R_below (uR HO189) hb); have n1_ := aM (Kd.R_below (uR HO192) hb); have n2_ := blkB BK171 hb; have n3_ := blkB BK172 hb; have n4_ := blkB BK173 hb
           have n5_ := aM (below_step (uL HB) hb)
           have n6_ := aM (hbox)
           have n7_ := szG hg (uL HB); have n8_ := szG hg (uL HB); have n9_ := neL hg BK171; have n10_ := neG hg BK171; have n11_ := neL hg BK172; have n12_ := neG hg BK172; have n13_ := neL hg BK173; have n14_ := neG hg BK173; clear HO189 HO192 BK171 BK172 BK173 HB; have HO189 := n0_; have HO192 := n1_; have BK171 := n2_; have BK172 := n3_; have BK173 := n4_; have HB := n5_; have BK193 := n6_; have GW193 := n7_; have GE193 := n8_; have NB171_193 := n9_; have NB193_171 := n10_; have NB172_193 := n11_; have NB193_172 := n12_; have NB173_193 := n13_; have NB193_173 := n14_; clear n0_ n1_ n2_ n3_ n4_ n5_ n6_ n7_ n8_ n9_ n10_ n11_ n12_ n13_ n14_ hb hbox hg
           refine hK.out _ _ ⟨(blk_cell BK171.out 0).trans rfl, (blk_cell BK171.out 1).trans rfl, (blk_cell BK171.out 2).trans rfl, (blk_cell BK172.out 0).trans rfl, (blk_cell BK172.out 1).trans rfl, (blk_cell BK172.out 2).trans rfl⟩ (fun hHeld => ?_)
           clear hK K
           refine nX 8 ?_
           exact norm_ (by first | (simp only [putAll, Act.put, List.setIfInBounds_toArray, List.set_cons_zero, List.set_cons_succ]; done) | (simp only [putAll, Act.put, List.setIfInBounds_toArray, List.set_cons_zero, List.set_cons_succ]; rfl)) (hJ4_13_15_16_18 (v178, v185, v188, .slice Ao39 y190.length co39, gb193) _ ⟨hHeld, (uR HO189), (uR HO192), (uB BK171), (uB BK172), (uB BK173), (uB BK193), GW193.out, GE193.out, NB171_193.out, NB193_171.out, NB172_193.out, NB193_172.out, NB173_193.out, NB193_173.out, (uL HB)⟩)
         rintro ⟨v178, v185, v188, v191, gb193⟩ w39 ⟨hS_, h0_, h1_, h2_, h3_, h4_, h5_, h6_, h7_, h8_, h9_, h10_, h11_, h12_, h13_, h14_⟩
         have n0_ : Aside0 (Kd.R k40 40 w39 w.heap.size (fun k_ => some k_ ≠ (v191 : Value).ownBlock ∧ k_ ≠ gb172) v188 y187) := ⟨h0_⟩
         have n1_ : Aside0 (Kd.R k40 40 w39 w.heap.size (fun k_ => some k_ ≠ (v188 : Value).ownBlock ∧ k_ ≠ gb172) v191 y190) := ⟨h1_⟩
         have n2_ : Aside0 (w39.heap[gb171]? = some (.cells #[.int .i64 a0_0, .int .i64 a0_1, .slice A0_2 l0_2.length c0_2] 30 (0, 0))) := ⟨h2_⟩
         have n3_ : Aside0 (w39.heap[gb172]? = some (.cells #[.int .i64 a2_0, .int .i64 a2_1, .string a2_2] 40 (0, 0))) := ⟨h3_⟩
         have n4_ : Aside0 (w39.heap[gb173]? = some (.cells #[.int .i64 0, .int .i64 0, .slice none 0 0] 30 (0, 0))) := ⟨h4_⟩
         have n5_ : Aside0 (w39.heap[gb193]? = some (.cells #[.int .i64 0, .int .i64 0, .slice none 0 0] 30 (0, 0))) := ⟨h5_⟩
         have n6_ : Aside0 (w.heap.size ≤ gb193) := ⟨h6_⟩
         have n7_ : Aside0 (w.heap.size ≤ gb193) := ⟨h7_⟩
         have n8_ : Aside0 (gb171 ≠ gb193) := ⟨h8_⟩
         have n9_ : Aside0 (gb193 ≠ gb171) := ⟨h9_⟩
         have n10_ : Aside0 (gb172 ≠ gb193) := ⟨h10_⟩
         have n11_ : Aside0 (gb193 ≠ gb172) := ⟨h11_⟩
         have n12_ : Aside0 (gb173 ≠ gb193) := ⟨h12_⟩
         have n13_ : Aside0 (gb193 ≠ gb173) := ⟨h13_⟩
         have n14_ : Aside0 (Below w.heap.size w w39) := ⟨h14_⟩
         clear BK171 BK172 BK173 HB h0_ h1_ h2_ h3_ h4_ h5_ h6_ h7_ h8_ h9_ h10_ h11_ h12_ h13_ h14_; have HO189 := n0_; have HO192 := n1_; have BK171 := n2_; have BK172 := n3_; have BK173 := n4_; have BK193 := n5_; have GW193 := n6_; have GE193 := n7_; have NB171_193 := n8_; have NB193_171 := n9_; have NB172_193 := n10_; have NB193_172 := n11_; have NB173_193 := n12_; have NB193_173 := n13_; have HB := n14_; clear n0_ n1_ n2_ n3_ n4_ n5_ n6_ n7_ n8_ n9_ n10_ n11_ n12_ n13_ n14_
         have hHeld : w39.cell? ⟨gb171, 0, none⟩ = some (.int .i64 a0_0) ∧ w39.cell? ⟨gb171, 1, none⟩ = some (.int .i64 a0_1) ∧ w39.cell? ⟨gb171, 2, none⟩ = some (.slice A0_2 l0_2.length c0_2) ∧ w39.cell? ⟨gb172, 0, none⟩ = some (.int .i64 a2_0) ∧ w39.cell? ⟨gb172, 1, none⟩ = some (.int .i64 a2_1) ∧ w39.cell? ⟨gb172, 2, none⟩ = some (.string a2_2) := hS_
         obtain ⟨Ao40, co40, eo40⟩ := Kd.R_slice HO192.out
         (first | subst eo40 | (injection eo40 with f1_ f2_ f3_; have f4_ := f1_.symm; have f5_ := f3_.symm; clear f1_ f2_ f3_; subst f4_; subst f5_))
         refine norm_ (a' := ?_) ?_ ?_
         rotate_left
         ·simp only [putAll, Act.put, List.setIfInBounds_toArray, List.set_cons_zero, List.set_cons_succ]
          rfl
         refine oA HT_.out 19 none 20 1048575 (fun K hK => ?_)
         have hs41 := czA BK193.out 0 (.int .i64 0)
         have hfs41 := blk_frozen BK193.out 0; have hns41_0 := NB171_193.out; have hns41_1 := NB172_193.out; have hns41_2 := NB173_193.out; have hms41_0 := NB193_171.out; have hms41_1 := NB193_172.out; have hms41_2 := NB193_173.out
         have hs42 := czA BK193.out 1 (.int .i64 0)
         have hfs42 := blk_frozen BK193.out 1; have hns42_0 := NB171_193.out; have hns42_1 := NB172_193.out; have hns42_2 := NB173_193.out; have hms42_0 := NB193_171.out; have hms42_1 := NB193_172.out; have hms42_2 := NB193_173.out
         have hs43 := czA BK193.out 2 (.slice none 0 0)
         have hfs43 := blk_frozen BK193.out 2; have hns43_0 := NB171_193.out; have hns43_1 := NB172_193.out; have hns43_2 := NB173_193.out; have hms43_0 := NB193_171.out; have hms43_1 := NB193_172.out; have hms43_2 := NB193_173.out
         refine skip_ (w1 := ?_) (by rfl) rfl ?_ ?_
         rotate_left
         ·go_simp
          rfl
         refine hK.out _ _ ⟨((cell_far (p := ⟨gb193, _, none⟩) NB171_193.out _).trans (((cell_far (p := ⟨gb193, _, none⟩) NB171_193.out _).trans (((cell_far (p := ⟨gb193, _, none⟩) NB171_193.out _).trans (hHeld.1)))))), ((cell_far (p := ⟨gb193, _, none⟩) NB171_193.out _).trans (((cell_far (p := ⟨gb193, _, none⟩) NB171_193.out _).trans (((cell_far (p := ⟨gb193, _, none⟩) NB171_193.out _).trans (hHeld.2.1)))))), ((cell_far (p := ⟨gb193, _, none⟩) NB171_193.out _).trans (((cell_far (p := ⟨gb193, _, none⟩) NB171_193.out _).trans (((cell_far (p := ⟨gb193, _, none⟩) NB171_193.out _).trans (hHeld.2.2.1)))))), ((cell_far (p := ⟨gb193, _, none⟩) NB172_193.out _).trans (((cell_far (p := ⟨gb193, _, none⟩) NB172_193.out _).trans (((cell_far (p := ⟨gb193, _, none⟩) NB172_193.out _).trans (hHeld.2.2.2.1)))))), ((cell_far (p := ⟨gb193, _, none⟩) NB172_193.out _).trans (((cell_far (p := ⟨gb193, _, none⟩) NB172_193.out _).trans (((cell_far (p := ⟨gb193, _, none⟩) NB172_193.out _).trans (hHeld.2.2.2.2.1)))))), ((cell_far (p := ⟨gb193, _, none⟩) NB172_193.out _).trans (((cell_far (p := ⟨gb193, _, none⟩) NB172_193.out _).trans (((cell_far (p := ⟨gb193, _, none⟩) NB172_193.out _).trans (hHeld.2.2.2.2.2))))))⟩ (fun hHeld => ?_)
         clear hK K
         refine done_ (done_of HT_.out (by kernel_rfl)) ?_
         have hnb44 := NB193_171.out; have hnc44 := NB171_193.out; have hnb45 := NB193_172.out; have hnc45 := NB172_193.out; have hnb46 := NB193_173.out; have hnc46 := NB173_193.out
         have hcz47_0 := czA BK193.out 0 (.int .i64 0)
         have hcz47_1 := czA BK193.out 1 (.int .i64 0)
         have hcz47_2 := czA BK193.out 2 (.slice none 0 0)
         have hfz47_0 := blk_frozen BK193.out 0; have hfz47_1 := blk_frozen BK193.out 1; have hfz47_2 := blk_frozen BK193.out 2
         try go_wp2_with (first | ((with_reducible refine gate_callee (f := 26) rfl ?_); refine gL (some 43) Try.func26 #[.agg #[.int .i64 a0_0, .int .i64 a0_1, .slice Ao40 y190.length co40]] ?_; (with_reducible refine (spec_LogOk.calls kj3 a0_0 a0_1 _ _ y190 true _ ?side1 ?side2 A26.out).mono ?_); (case side1 => refine (Kd.R_reads' (e := 40) (base := w.heap.size) (ok := fun k_ => (some k_ ≠ (v188 : Value).ownBlock ∧ k_ ≠ gb172)) (n := y190.length) (c := co40) ?_).2.2; exact (by (with_reducible repeat first | apply rA | apply rN | apply rD); exact (Kd.R_mono (Kd.R_far (p := ⟨gb193, 2, none⟩) (Kd.R_far (p := ⟨gb193, 1, none⟩) (Kd.R_far (p := ⟨gb193, 0, none⟩) (Kd.R_types HO192.out BK193.out (by decide)) (fun _ hk => hk.2) (.int .i64 a0_0)) (fun _ hk => hk.2) (.int .i64 a0_1)) (fun _ hk => hk.2) (.slice Ao40 y190.length co40)) (fun _ h_ => h_.1)))); (case side2 => exact (Kd.R_reads' HO192.out).2.1); rintro e w48 ⟨rfl, hb⟩; refine ⟨_, rfl, ?_⟩; replace HO189 := aM (Kd.R_below (by (with_reducible repeat first | apply rA | apply rN | apply rD); exact (Kd.R_mono (Kd.R_far (p := ⟨gb193, 2, none⟩) (Kd.R_far (p := ⟨gb193, 1, none⟩) (Kd.R_far (p := ⟨gb193, 0, none⟩) (Kd.R_types HO189.out BK193.out (by decide)) (fun _ hk => hk.2) (.int .i64 a0_0)) (fun _ hk => hk.2) (.int .i64 a0_1)) (fun _ hk => hk.2) (.slice Ao40 y190.length co40)) (fun _ h_ => h_.1))) hb); replace HO192 := aM (Kd.R_below (by (with_reducible repeat first | apply rA | apply rN | apply rD); exact (Kd.R_mono (Kd.R_far (p := ⟨gb193, 2, none⟩) (Kd.R_far (p := ⟨gb193, 1, none⟩) (Kd.R_far (p := ⟨gb193, 0, none⟩) (Kd.R_types HO192.out BK193.out (by decide)) (fun _ hk => hk.2) (.int .i64 a0_0)) (fun _ hk => hk.2) (.int .i64 a0_1)) (fun _ hk => hk.2) (.slice Ao40 y190.length co40)) (fun _ h_ => h_.1))) hb); replace BK171 := blkB BK171 hb; replace BK172 := blkB BK172 hb; replace BK173 := blkB BK173 hb; replace BK193 := aM (blk_below (g := gb193) (o := .cells #[.int .i64 a0_0, .int .i64 a0_1, .slice Ao40 y190.length co40] 30 (0, 0)) (by refine nB ?_; refine blk_put (cs := #[.int .i64 a0_0, .int .i64 a0_1, .slice none 0 0]) ?_ 2 _ rfl; refine nB ?_; refine blk_put (cs := #[.int .i64 a0_0, .int .i64 0, .slice none 0 0]) ?_ 1 _ rfl; refine nB ?_; refine blk_put (cs := #[.int .i64 0, .int .i64 0, .slice none 0 0]) ?_ 0 _ rfl; exact nB BK193.out) hb); replace HB := aM (below_step (uL HB) hb); try clear hb; have hcz49_0 := czA BK193.out 0 (.int .i64 a0_0); have hcz49_1 := czA BK193.out 1 (.int .i64 a0_1); have hcz49_2 := czA BK193.out 2 (.slice Ao40 y190.length co40); have hfz49_0 := blk_frozen BK193.out 0; have hfz49_1 := blk_frozen BK193.out 1; have hfz49_2 := blk_frozen BK193.out 2; have hnb50 := NB173_171.out; have hnc50 := NB171_173.out; have hnb51 := NB173_172.out; have hnc51 := NB172_173.out; have hcz52_0 := czA BK173.out 0 (.int .i64 0); have hcz52_1 := czA BK173.out 1 (.int .i64 0); have hcz52_2 := czA BK173.out 2 (.slice none 0 0); have hfz52_0 := blk_frozen BK173.out 0; have hfz52_1 := blk_frozen BK173.out 1; have hfz52_2 := blk_frozen BK173.out 2))
         refine bodyPost_ret (results_ct rfl _ _ gb173 30 #[.int .i64 a0_0, .int .i64 a0_1, .slice Ao40 y190.length co40] (0, 0) _ rfl (by refine nB ?_; refine blk_put (cs := #[.int .i64 a0_0, .int .i64 a0_1, .slice none 0 0]) ?_ 2 _ rfl; refine nB ?_; refine blk_put (cs := #[.int .i64 a0_0, .int .i64 0, .slice none 0 0]) ?_ 1 _ rfl; refine nB ?_; refine blk_put (cs := #[.int .i64 0, .int .i64 0, .slice none 0 0]) ?_ 0 _ rfl; exact nB BK173.out) Try.underlying30 rfl (by kernel_rfl)) rfl ?_
         exact ⟨_, by first | rfl | (simp [errW_none, errW_some] <;> rfl) | (simp only [← hji21]; first | rfl | (simp [errW_none, errW_some] <;> rfl)) | (simp [*, errW_none, errW_some] <;> rfl), by (with_reducible repeat first | apply rA | apply rN | apply rD); exact Kd.R_mono (Kd.R_far (p := ⟨gb173, 2, none⟩) (Kd.R_far (p := ⟨gb173, 1, none⟩) (Kd.R_far (p := ⟨gb173, 0, none⟩) (Kd.R_types HO192.out BK173.out (by decide)) (fun _ hk => hk.2) (.int .i64 a0_0)) (fun _ hk => hk.2) (.int .i64 a0_1)) (fun _ hk => hk.2) (.slice Ao40 y190.length co40)) (fun _ hk => trivial), uL HB⟩
        ·replace c27 := Bool.eq_false_iff.mpr c27
         subst c27
         have H1 : (some (0, 0, ([] : List (S40)), false)) = some (r1, r2, r3, r4) := by rw [if_neg (show ¬ (false = true) by decide)] at H; exact H
         clear H; have H := H1; clear H1
         simp only [Option.some.injEq, Prod.mk.injEq] at H
         obtain ⟨rfl, rfl, rfl, rfl⟩ := H
         try go_wp2
         replace BK171 := aM (blk_drew BK171.out)
         replace BK172 := aM (blk_drew BK172.out)
         replace BK173 := aM (blk_drew BK173.out)
         replace HB := aM (below_drew1 HB.out)
         have q54 : ((ji21) : Int) ≤ ((l0_2.length : Int) : Int) := of_decide_eq_true (by first | (with_reducible assumption) | assumption)
         obtain ⟨i054, hi054, _, hsz54, _⟩ := info_parts info40
         have hroom54 : l0_2.length ≤ c0_2 := HC0_2.out
         have hC54 : Kd.C k40 _ A0_2 l0_2.length l0_2 := HR0_2.out
         have hcut54 := cut_to (P := Try.prog) 28 40 .i64 Try.underlying28 hi054 A0_2 l0_2.length c0_2 (ji21) (of_decide_eq_true (by first | (with_reducible assumption) | assumption)) q54 hroom54
         have hr54 := Kd.C_take (m := ((ji21) : Int).toNat) hC54 (by omega)
         have hy54 : y180.length = ((ji21) : Int).toNat := (by rw [Ny180.out, List.length_take]; omega)
         rw [← Ny180.out] at hr54
         rw [← hy54] at hcut54
         have HR183 := aM hr54
         have HC183 := aM (show y180.length ≤ c0_2 from by omega)
         clear hr54 hC54 hroom54 hi054 hsz54
         have KY54 := aM hy54
         clear hy54
         replace q54 := eq_true q54
         refine start_ (n := 20) (S := fun w' => w'.cell? ⟨gb171, 0, none⟩ = some (.int .i64 a0_0) ∧ w'.cell? ⟨gb171, 1, none⟩ = some (.int .i64 a0_1) ∧ w'.cell? ⟨gb171, 2, none⟩ = some (.slice A0_2 l0_2.length c0_2) ∧ w'.cell? ⟨gb172, 0, none⟩ = some (.int .i64 a2_0) ∧ w'.cell? ⟨gb172, 1, none⟩ = some (.int .i64 a2_1) ∧ w'.cell? ⟨gb172, 2, none⟩ = some (.string a2_2)) (ds := []) (bB 20 0) (by kernel_rfl) rfl rfl ⟨(blk_cell BK171.out 0).trans rfl, (blk_cell BK171.out 1).trans rfl, (blk_cell BK171.out 2).trans rfl, (blk_cell BK172.out 0).trans rfl, (blk_cell BK172.out 1).trans rfl, (blk_cell BK172.out 2).trans rfl⟩ (fun hHeld => ?_); refine with_tabW spec_LogPut.tab3 spec_LogPut.bits3 (fun HT_ HW_ => ?_)
         generalize wc.drew = w53 at BK171 BK172 BK173 HB HR183 hHeld ⊢
         refine pA HT_.out 0 24 20 1 ?_; refine pA HT_.out 2 26 20 5 ?_; refine pA HT_.out 5 29 20 37 ?_; refine pA HT_.out 7 31 20 165 ?_; refine pA HT_.out 8 32 20 421 ?_; refine tA HT_.out HW_.out 1 25 20 423 hHeld ?_; refine tA HT_.out HW_.out 3 27 20 431 hHeld ?_; refine tA HT_.out HW_.out 6 30 20 495 hHeld ?_; refine tA HT_.out HW_.out 9 33 20 1007 hHeld ?_; refine pA HT_.out 10 34 20 2031 ?_; refine pA HT_.out 11 35 20 4079 ?_; refine pA HT_.out 12 36 20 8175 ?_; refine tA HT_.out HW_.out 14 38 20 24559 hHeld ?_
         refine join_ (σ := Value × Value × Value × Value × Nat) 1 #[true, true, true, true, true, true, true, true, true, true, true, true, true, true, true, true, true, true, true, false] (fun s_ => [(28, s_.1), (37, s_.2.1), (39, s_.2.2.1), (40, s_.2.2.2.1), (8, .pointer (some ⟨s_.2.2.2.2, 0, none⟩)), (41, .agg #[.int .i64 a0_0, .int .i64 a0_1, s_.2.2.2.1])]) (fun s_ w' => (w'.cell? ⟨gb171, 0, none⟩ = some (.int .i64 a0_0) ∧ w'.cell? ⟨gb171, 1, none⟩ = some (.int .i64 a0_1) ∧ w'.cell? ⟨gb171, 2, none⟩ = some (.slice A0_2 l0_2.length c0_2) ∧ w'.cell? ⟨gb172, 0, none⟩ = some (.int .i64 a2_0) ∧ w'.cell? ⟨gb172, 1, none⟩ = some (.int .i64 a2_1) ∧ w'.cell? ⟨gb172, 2, none⟩ = some (.string a2_2)) ∧ (Kd.R k40 40 w' w.heap.size (fun k_ => some k_ ≠ (s_.2.2.2.1 : Value).ownBlock ∧ k_ ≠ gb172) s_.2.2.1 y187) ∧ (Kd.R k40 40 w' w.heap.size (fun k_ => some k_ ≠ (s_.2.2.1 : Value).ownBlock ∧ k_ ≠ gb172) s_.2.2.2.1 y190) ∧ (w'.heap[gb171]? = some (.cells #[.int .i64 a0_0, .int .i64 a0_1, .slice A0_2 l0_2.length c0_2] 30 (0, 0))) ∧ (w'.heap[gb172]? = some (.cells #[.int .i64 a2_0, .int .i64 a2_1, .string a2_2] 40 (0, 0))) ∧ (w'.heap[gb173]? = some (.cells #[.int .i64 0, .int .i64 0, .slice none 0 0] 30 (0, 0))) ∧ (w'.heap[s_.2.2.2.2]? = some (.cells #[.int .i64 0, .int .i64 0, .slice none 0 0] 30 (0, 0))) ∧ (w.heap.size ≤ s_.2.2.2.2) ∧ (w.heap.size ≤ s_.2.2.2.2) ∧ (gb171 ≠ s_.2.2.2.2) ∧ (s_.2.2.2.2 ≠ gb171) ∧ (gb172 ≠ s_.2.2.2.2) ∧ (s_.2.2.2.2 ≠ gb172) ∧ (gb173 ≠ s_.2.2.2.2) ∧ (s_.2.2.2.2 ≠ gb173) ∧ (Below w.heap.size w w')) ?_ ?_
         rotate_left
         ·intro hJ4_13_15_16_18
          refine join_ (σ := Value × Value × Value × Value) 2 #[true, true, true, true, true, true, true, true, true, true, true, true, true, true, true, true, true, true, false, false] (fun s_ => [(28, s_.1), (37, s_.2.1), (39, s_.2.2.1), (40, s_.2.2.2), (41, .agg #[.int .i64 a0_0, .int .i64 a0_1, s_.2.2.2])]) (fun s_ w' => (w'.cell? ⟨gb171, 0, none⟩ = some (.int .i64 a0_0) ∧ w'.cell? ⟨gb171, 1, none⟩ = some (.int .i64 a0_1) ∧ w'.cell? ⟨gb171, 2, none⟩ = some (.slice A0_2 l0_2.length c0_2) ∧ w'.cell? ⟨gb172, 0, none⟩ = some (.int .i64 a2_0) ∧ w'.cell? ⟨gb172, 1, none⟩ = some (.int .i64 a2_1) ∧ w'.cell? ⟨gb172, 2, none⟩ = some (.string a2_2)) ∧ (Kd.R k40 40 w' w.heap.size (fun k_ => some k_ ≠ (s_.2.2.2 : Value).ownBlock ∧ k_ ≠ gb172) s_.2.2.1 y187) ∧ (Kd.R k40 40 w' w.heap.size (fun k_ => some k_ ≠ (s_.2.2.1 : Value).ownBlock ∧ k_ ≠ gb172) s_.2.2.2 y190) ∧ (w'.heap[gb171]? = some (.cells #[.int .i64 a0_0, .int .i64 a0_1, .slice A0_2 l0_2.length c0_2] 30 (0, 0))) ∧ (w'.heap[gb172]? = some (.cells #[.int .i64 a2_0, .int .i64 a2_1, .string a2_2] 40 (0, 0))) ∧ (w'.heap[gb173]? = some (.cells #[.int .i64 0, .int .i64 0, .slice none 0 0] 30 (0, 0))) ∧ (Below w.heap.size w w')) ?_ ?_
          rotate_left
          ·intro hJ4_13_15_16
           refine join_ (σ := Value × Value × Value × Nat) 3 #[true, true, true, true, true, true, true, true, true, true, true, true, true, true, true, true, false, false, true, false] (fun s_ => [(28, s_.1), (37, s_.2.1), (39, s_.2.2.1), (8, .pointer (some ⟨s_.2.2.2, 0, none⟩))]) (fun s_ w' => (w'.cell? ⟨gb171, 0, none⟩ = some (.int .i64 a0_0) ∧ w'.cell? ⟨gb171, 1, none⟩ = some (.int .i64 a0_1) ∧ w'.cell? ⟨gb171, 2, none⟩ = some (.slice A0_2 l0_2.length c0_2) ∧ w'.cell? ⟨gb172, 0, none⟩ = some (.int .i64 a2_0) ∧ w'.cell? ⟨gb172, 1, none⟩ = some (.int .i64 a2_1) ∧ w'.cell? ⟨gb172, 2, none⟩ = some (.string a2_2)) ∧ (Kd.R k40 40 w' w.heap.size (fun k_ => some k_ ≠ (s_.2.2.1 : Value).ownBlock ∧ k_ ≠ gb172) s_.2.1 y184) ∧ (Kd.R k40 40 w' w.heap.size (fun k_ => some k_ ≠ (s_.2.1 : Value).ownBlock ∧ k_ ≠ gb172) s_.2.2.1 y187) ∧ (w'.heap[gb171]? = some (.cells #[.int .i64 a0_0, .int .i64 a0_1, .slice A0_2 l0_2.length c0_2] 30 (0, 0))) ∧ (w'.heap[gb172]? = some (.cells #[.int .i64 a2_0, .int .i64 a2_1, .string a2_2] 40 (0, 0))) ∧ (w'.heap[gb173]? = some (.cells #[.int .i64 0, .int .i64 0, .slice none 0 0] 30 (0, 0))) ∧ (w'.heap[s_.2.2.2]? = some (.cells #[.int .i64 0, .int .i64 0, .slice none 0 0] 30 (0, 0))) ∧ (w.heap.size ≤ s_.2.2.2) ∧ (w.heap.size ≤ s_.2.2.2) ∧ (gb171 ≠ s_.2.2.2) ∧ (s_.2.2.2 ≠ gb171) ∧ (gb172 ≠ s_.2.2.2) ∧ (s_.2.2.2 ≠ gb172) ∧ (gb173 ≠ s_.2.2.2) ∧ (s_.2.2.2 ≠ gb173) ∧ (Below w.heap.size w w')) ?_ ?_
           rotate_left
           ·intro hJ4_13_15_18
            refine join_ (σ := Value × Value × Value) 4 #[true, true, true, true, true, true, true, true, true, true, true, true, true, true, true, true, false, false, false, false] (fun s_ => [(28, s_.1), (37, s_.2.1), (39, s_.2.2)]) (fun s_ w' => (w'.cell? ⟨gb171, 0, none⟩ = some (.int .i64 a0_0) ∧ w'.cell? ⟨gb171, 1, none⟩ = some (.int .i64 a0_1) ∧ w'.cell? ⟨gb171, 2, none⟩ = some (.slice A0_2 l0_2.length c0_2) ∧ w'.cell? ⟨gb172, 0, none⟩ = some (.int .i64 a2_0) ∧ w'.cell? ⟨gb172, 1, none⟩ = some (.int .i64 a2_1) ∧ w'.cell? ⟨gb172, 2, none⟩ = some (.string a2_2)) ∧ (Kd.R k40 40 w' w.heap.size (fun k_ => some k_ ≠ (s_.2.2 : Value).ownBlock ∧ k_ ≠ gb172) s_.2.1 y184) ∧ (Kd.R k40 40 w' w.heap.size (fun k_ => some k_ ≠ (s_.2.1 : Value).ownBlock ∧ k_ ≠ gb172) s_.2.2 y187) ∧ (w'.heap[gb171]? = some (.cells #[.int .i64 a0_0, .int .i64 a0_1, .slice A0_2 l0_2.length c0_2] 30 (0, 0))) ∧ (w'.heap[gb172]? = some (.cells #[.int .i64 a2_0, .int .i64 a2_1, .string a2_2] 40 (0, 0))) ∧ (w'.heap[gb173]? = some (.cells #[.int .i64 0, .int .i64 0, .slice none 0 0] 30 (0, 0))) ∧ (Below w.heap.size w w')) ?_ ?_
            rotate_left
            ·intro hJ4_13_15
             refine join_ (σ := Value × Value × Nat) 4 #[true, true, true, true, true, true, true, true, true, true, true, true, true, true, true, false, false, false, true, false] (fun s_ => [(28, s_.1), (37, s_.2.1), (8, .pointer (some ⟨s_.2.2, 0, none⟩))]) (fun s_ w' => (w'.cell? ⟨gb171, 0, none⟩ = some (.int .i64 a0_0) ∧ w'.cell? ⟨gb171, 1, none⟩ = some (.int .i64 a0_1) ∧ w'.cell? ⟨gb171, 2, none⟩ = some (.slice A0_2 l0_2.length c0_2) ∧ w'.cell? ⟨gb172, 0, none⟩ = some (.int .i64 a2_0) ∧ w'.cell? ⟨gb172, 1, none⟩ = some (.int .i64 a2_1) ∧ w'.cell? ⟨gb172, 2, none⟩ = some (.string a2_2)) ∧ (Kd.R k40 40 w' w.heap.size (fun k_ => k_ ≠ gb172) s_.2.1 y184) ∧ (w'.heap[gb171]? = some (.cells #[.int .i64 a0_0, .int .i64 a0_1, .slice A0_2 l0_2.length c0_2] 30 (0, 0))) ∧ (w'.heap[gb172]? = some (.cells #[.int .i64 a2_0, .int .i64 a2_1, .string a2_2] 40 (0, 0))) ∧ (w'.heap[gb173]? = some (.cells #[.int .i64 0, .int .i64 0, .slice none 0 0] 30 (0, 0))) ∧ (w'.heap[s_.2.2]? = some (.cells #[.int .i64 0, .int .i64 0, .slice none 0 0] 30 (0, 0))) ∧ (w.heap.size ≤ s_.2.2) ∧ (w.heap.size ≤ s_.2.2) ∧ (gb171 ≠ s_.2.2) ∧ (s_.2.2 ≠ gb171) ∧ (gb172 ≠ s_.2.2) ∧ (s_.2.2 ≠ gb172) ∧ (gb173 ≠ s_.2.2) ∧ (s_.2.2 ≠ gb173) ∧ (Below w.heap.size w w')) ?_ ?_
             rotate_left
             ·intro hJ4_13_18
              refine join_ (σ := Value × Value × Nat) 4 #[true, true, true, true, true, true, true, true, true, true, true, true, true, false, true, true, false, false, true, false] (fun s_ => [(28, s_.1), (39, s_.2.1), (8, .pointer (some ⟨s_.2.2, 0, none⟩))]) (fun s_ w' => (w'.cell? ⟨gb171, 0, none⟩ = some (.int .i64 a0_0) ∧ w'.cell? ⟨gb171, 1, none⟩ = some (.int .i64 a0_1) ∧ w'.cell? ⟨gb171, 2, none⟩ = some (.slice A0_2 l0_2.length c0_2) ∧ w'.cell? ⟨gb172, 0, none⟩ = some (.int .i64 a2_0) ∧ w'.cell? ⟨gb172, 1, none⟩ = some (.int .i64 a2_1) ∧ w'.cell? ⟨gb172, 2, none⟩ = some (.string a2_2)) ∧ (Kd.R k40 40 w' w.heap.size (fun k_ => some k_ ≠ (s_.2.1 : Value).ownBlock ∧ k_ ≠ gb172) s_.1 y177) ∧ (Kd.R k40 40 w' w.heap.size (fun k_ => some k_ ≠ (s_.1 : Value).ownBlock ∧ k_ ≠ gb172) s_.2.1 y187) ∧ (w'.heap[gb171]? = some (.cells #[.int .i64 a0_0, .int .i64 a0_1, .slice A0_2 l0_2.length c0_2] 30 (0, 0))) ∧ (w'.heap[gb172]? = some (.cells #[.int .i64 a2_0, .int .i64 a2_1, .string a2_2] 40 (0, 0))) ∧ (w'.heap[gb173]? = some (.cells #[.int .i64 0, .int .i64 0, .slice none 0 0] 30 (0, 0))) ∧ (w'.heap[s_.2.2]? = some (.cells #[.int .i64 0, .int .i64 0, .slice none 0 0] 30 (0, 0))) ∧ (w.heap.size ≤ s_.2.2) ∧ (w.heap.size ≤ s_.2.2) ∧ (gb171 ≠ s_.2.2) ∧ (s_.2.2 ≠ gb171) ∧ (gb172 ≠ s_.2.2) ∧ (s_.2.2 ≠ gb172) ∧ (gb173 ≠ s_.2.2) ∧ (s_.2.2 ≠ gb173) ∧ (Below w.heap.size w w')) ?_ ?_
              rotate_left
              ·intro hJ4_15_18
               refine join_ (σ := Value × Value) 5 #[true, true, true, true, true, true, true, true, true, true, true, true, true, true, true, false, false, false, false, false] (fun s_ => [(28, s_.1), (37, s_.2)]) (fun s_ w' => (w'.cell? ⟨gb171, 0, none⟩ = some (.int .i64 a0_0) ∧ w'.cell? ⟨gb171, 1, none⟩ = some (.int .i64 a0_1) ∧ w'.cell? ⟨gb171, 2, none⟩ = some (.slice A0_2 l0_2.length c0_2) ∧ w'.cell? ⟨gb172, 0, none⟩ = some (.int .i64 a2_0) ∧ w'.cell? ⟨gb172, 1, none⟩ = some (.int .i64 a2_1) ∧ w'.cell? ⟨gb172, 2, none⟩ = some (.string a2_2)) ∧ (Kd.R k40 40 w' w.heap.size (fun k_ => k_ ≠ gb172) s_.2 y184) ∧ (w'.heap[gb171]? = some (.cells #[.int .i64 a0_0, .int .i64 a0_1, .slice A0_2 l0_2.length c0_2] 30 (0, 0))) ∧ (w'.heap[gb172]? = some (.cells #[.int .i64 a2_0, .int .i64 a2_1, .string a2_2] 40 (0, 0))) ∧ (w'.heap[gb173]? = some (.cells #[.int .i64 0, .int .i64 0, .slice none 0 0] 30 (0, 0))) ∧ (Below w.heap.size w w')) ?_ ?_
               rotate_left
               ·intro hJ4_13
                refine join_ (σ := Value × Value) 5 #[true, true, true, true, true, true, true, true, true, true, true, true, true, false, true, true, false, false, false, false] (fun s_ => [(28, s_.1), (39, s_.2)]) (fun s_ w' => (w'.cell? ⟨gb171, 0, none⟩ = some (.int .i64 a0_0) ∧ w'.cell? ⟨gb171, 1, none⟩ = some (.int .i64 a0_1) ∧ w'.cell? ⟨gb171, 2, none⟩ = some (.slice A0_2 l0_2.length c0_2) ∧ w'.cell? ⟨gb172, 0, none⟩ = some (.int .i64 a2_0) ∧ w'.cell? ⟨gb172, 1, none⟩ = some (.int .i64 a2_1) ∧ w'.cell? ⟨gb172, 2, none⟩ = some (.string a2_2)) ∧ (Kd.R k40 40 w' w.heap.size (fun k_ => some k_ ≠ (s_.2 : Value).ownBlock ∧ k_ ≠ gb172) s_.1 y177) ∧ (Kd.R k40 40 w' w.heap.size (fun k_ => some k_ ≠ (s_.1 : Value).ownBlock ∧ k_ ≠ gb172) s_.2 y187) ∧ (w'.heap[gb171]? = some (.cells #[.int .i64 a0_0, .int .i64 a0_1, .slice A0_2 l0_2.length c0_2] 30 (0, 0))) ∧ (w'.heap[gb172]? = some (.cells #[.int .i64 a2_0, .int .i64 a2_1, .string a2_2] 40 (0, 0))) ∧ (w'.heap[gb173]? = some (.cells #[.int .i64 0, .int .i64 0, .slice none 0 0] 30 (0, 0))) ∧ (Below w.heap.size w w')) ?_ ?_
                rotate_left
                ·intro hJ4_15
                 refine join_ (σ := Value × Nat) 5 #[true, true, true, true, true, true, true, true, true, true, true, true, true, false, true, false, false, false, true, false] (fun s_ => [(28, s_.1), (8, .pointer (some ⟨s_.2, 0, none⟩))]) (fun s_ w' => (w'.cell? ⟨gb171, 0, none⟩ = some (.int .i64 a0_0) ∧ w'.cell? ⟨gb171, 1, none⟩ = some (.int .i64 a0_1) ∧ w'.cell? ⟨gb171, 2, none⟩ = some (.slice A0_2 l0_2.length c0_2) ∧ w'.cell? ⟨gb172, 0, none⟩ = some (.int .i64 a2_0) ∧ w'.cell? ⟨gb172, 1, none⟩ = some (.int .i64 a2_1) ∧ w'.cell? ⟨gb172, 2, none⟩ = some (.string a2_2)) ∧ (Kd.R k40 40 w' w.heap.size (fun k_ => k_ ≠ gb172) s_.1 y177) ∧ (w'.heap[gb171]? = some (.cells #[.int .i64 a0_0, .int .i64 a0_1, .slice A0_2 l0_2.length c0_2] 30 (0, 0))) ∧ (w'.heap[gb172]? = some (.cells #[.int .i64 a2_0, .int .i64 a2_1, .string a2_2] 40 (0, 0))) ∧ (w'.heap[gb173]? = some (.cells #[.int .i64 0, .int .i64 0, .slice none 0 0] 30 (0, 0))) ∧ (w'.heap[s_.2]? = some (.cells #[.int .i64 0, .int .i64 0, .slice none 0 0] 30 (0, 0))) ∧ (w.heap.size ≤ s_.2) ∧ (w.heap.size ≤ s_.2) ∧ (gb171 ≠ s_.2) ∧ (s_.2 ≠ gb171) ∧ (gb172 ≠ s_.2) ∧ (s_.2 ≠ gb172) ∧ (gb173 ≠ s_.2) ∧ (s_.2 ≠ gb173) ∧ (Below w.heap.size w w')) ?_ ?_
                 rotate_left
                 ·intro hJ4_18
                  refine join_ (σ := Value × Nat) 5 #[true, true, true, true, false, true, true, true, true, true, true, true, true, false, true, true, false, false, true, false] (fun s_ => [(39, s_.1), (8, .pointer (some ⟨s_.2, 0, none⟩))]) (fun s_ w' => (w'.cell? ⟨gb171, 0, none⟩ = some (.int .i64 a0_0) ∧ w'.cell? ⟨gb171, 1, none⟩ = some (.int .i64 a0_1) ∧ w'.cell? ⟨gb171, 2, none⟩ = some (.slice A0_2 l0_2.length c0_2) ∧ w'.cell? ⟨gb172, 0, none⟩ = some (.int .i64 a2_0) ∧ w'.cell? ⟨gb172, 1, none⟩ = some (.int .i64 a2_1) ∧ w'.cell? ⟨gb172, 2, none⟩ = some (.string a2_2)) ∧ (Kd.R k40 40 w' w.heap.size (fun k_ => k_ ≠ gb172) s_.1 y187) ∧ (w'.heap[gb171]? = some (.cells #[.int .i64 a0_0, .int .i64 a0_1, .slice A0_2 l0_2.length c0_2] 30 (0, 0))) ∧ (w'.heap[gb172]? = some (.cells #[.int .i64 a2_0, .int .i64 a2_1, .string a2_2] 40 (0, 0))) ∧ (w'.heap[gb173]? = some (.cells #[.int .i64 0, .int .i64 0, .slice none 0 0] 30 (0, 0))) ∧ (w'.heap[s_.2]? = some (.cells #[.int .i64 0, .int .i64 0, .slice none 0 0] 30 (0, 0))) ∧ (w.heap.size ≤ s_.2) ∧ (w.heap.size ≤ s_.2) ∧ (gb171 ≠ s_.2) ∧ (s_.2 ≠ gb171) ∧ (gb172 ≠ s_.2) ∧ (s_.2 ≠ gb172) ∧ (gb173 ≠ s_.2) ∧ (s_.2 ≠ gb173) ∧ (Below w.heap.size w w')) ?_ ?_
                  rotate_left
                  ·intro hJ15_18
                   refine join_ (σ := Value) 6 #[true, true, true, true, true, true, true, true, true, true, true, true, true, false, true, false, false, false, false, false] (fun s_ => [(28, s_)]) (fun s_ w' => (w'.cell? ⟨gb171, 0, none⟩ = some (.int .i64 a0_0) ∧ w'.cell? ⟨gb171, 1, none⟩ = some (.int .i64 a0_1) ∧ w'.cell? ⟨gb171, 2, none⟩ = some (.slice A0_2 l0_2.length c0_2) ∧ w'.cell? ⟨gb172, 0, none⟩ = some (.int .i64 a2_0) ∧ w'.cell? ⟨gb172, 1, none⟩ = some (.int .i64 a2_1) ∧ w'.cell? ⟨gb172, 2, none⟩ = some (.string a2_2)) ∧ (Kd.R k40 40 w' w.heap.size (fun k_ => k_ ≠ gb172) s_ y177) ∧ (w'.heap[gb171]? = some (.cells #[.int .i64 a0_0, .int .i64 a0_1, .slice A0_2 l0_2.length c0_2] 30 (0, 0))) ∧ (w'.heap[gb172]? = some (.cells #[.int .i64 a2_0, .int .i64 a2_1, .string a2_2] 40 (0, 0))) ∧ (w'.heap[gb173]? = some (.cells #[.int .i64 0, .int .i64 0, .slice none 0 0] 30 (0, 0))) ∧ (Below w.heap.size w w')) ?_ ?_
                   rotate_left
                   ·intro hJ4
                    refine join_ (σ := Value) 6 #[true, true, true, true, false, true, true, true, true, true, true, true, true, false, true, true, false, false, false, false] (fun s_ => [(39, s_)]) (fun s_ w' => (w'.cell? ⟨gb171, 0, none⟩ = some (.int .i64 a0_0) ∧ w'.cell? ⟨gb171, 1, none⟩ = some (.int .i64 a0_1) ∧ w'.cell? ⟨gb171, 2, none⟩ = some (.slice A0_2 l0_2.length c0_2) ∧ w'.cell? ⟨gb172, 0, none⟩ = some (.int .i64 a2_0) ∧ w'.cell? ⟨gb172, 1, none⟩ = some (.int .i64 a2_1) ∧ w'.cell? ⟨gb172, 2, none⟩ = some (.string a2_2)) ∧ (Kd.R k40 40 w' w.heap.size (fun k_ => k_ ≠ gb172) s_ y187) ∧ (w'.heap[gb171]? = some (.cells #[.int .i64 a0_0, .int .i64 a0_1, .slice A0_2 l0_2.length c0_2] 30 (0, 0))) ∧ (w'.heap[gb172]? = some (.cells #[.int .i64 a2_0, .int .i64 a2_1, .string a2_2] 40 (0, 0))) ∧ (w'.heap[gb173]? = some (.cells #[.int .i64 0, .int .i64 0, .slice none 0 0] 30 (0, 0))) ∧ (Below w.heap.size w w')) ?_ ?_
                    rotate_left
                    ·intro hJ15
                     refine join_ (σ := Nat) 6 #[true, true, true, true, false, true, true, true, true, true, true, true, true, false, true, false, false, false, true, false] (fun s_ => [(8, .pointer (some ⟨s_, 0, none⟩))]) (fun s_ w' => (w'.cell? ⟨gb171, 0, none⟩ = some (.int .i64 a0_0) ∧ w'.cell? ⟨gb171, 1, none⟩ = some (.int .i64 a0_1) ∧ w'.cell? ⟨gb171, 2, none⟩ = some (.slice A0_2 l0_2.length c0_2) ∧ w'.cell? ⟨gb172, 0, none⟩ = some (.int .i64 a2_0) ∧ w'.cell? ⟨gb172, 1, none⟩ = some (.int .i64 a2_1) ∧ w'.cell? ⟨gb172, 2, none⟩ = some (.string a2_2)) ∧ (w'.heap[gb171]? = some (.cells #[.int .i64 a0_0, .int .i64 a0_1, .slice A0_2 l0_2.length c0_2] 30 (0, 0))) ∧ (w'.heap[gb172]? = some (.cells #[.int .i64 a2_0, .int .i64 a2_1, .string a2_2] 40 (0, 0))) ∧ (w'.heap[gb173]? = some (.cells #[.int .i64 0, .int .i64 0, .slice none 0 0] 30 (0, 0))) ∧ (w'.heap[s_]? = some (.cells #[.int .i64 0, .int .i64 0, .slice none 0 0] 30 (0, 0))) ∧ (w.heap.size ≤ s_) ∧ (w.heap.size ≤ s_) ∧ (gb171 ≠ s_) ∧ (s_ ≠ gb171) ∧ (gb172 ≠ s_) ∧ (s_ ≠ gb172) ∧ (gb173 ≠ s_) ∧ (s_ ≠ gb173) ∧ (Below w.heap.size w w')) ?_ ?_
                     rotate_left
                     ·intro hJ18
                      refine three_ (i := 4) (j := 15) (k := 18) (Ni := some 28) (Nj := some 39) (Nk := some 8) #[true, true, true, true, true, true, true, true, true, true, true, true, true, false, true, false, false, false, false, false] #[true, true, true, true, false, true, true, true, true, true, true, true, true, false, true, true, false, false, false, false] #[true, true, true, true, false, true, true, true, true, true, true, true, true, false, true, false, false, false, true, false] rfl rfl rfl rfl rfl rfl (three_of HT_.out (by kernel_rfl)) (by decide) (by decide) (by decide) (fun K hK => ?_) (fun K hK => ?_) (fun K hK => ?_)
                      ·skip
                       refine Kd.R_lit_step k40 _ 40 ?hg (N := 28) ?hd (xs := ([] : List (S40))) (inner := []) (ok := fun _ => True) (okp := fun _ => True) ?hr ?hp (fun _ hk => hk) trivial (Below.refl _ _) (Nat.le_refl _) (by simp) ?_; (case hd => rfl); (case hg => rfl); (case hr => first | (go_simp; done) | (go_simp; rfl)); (case hp => exact (Reps.none _ _))
                       intro v178 w55 ho56 hb hg_ hnew_
                       clear hg_ hnew_
                       (first | rw [← Ny177.out] at ho56 | (simp only [Int.reduceToNat] at ho56; rw [← Ny177.out] at ho56))
                       have n0_ := aM (Kd.R_lower (Kd.R_newB ho56 (g := gb172) (o := .cells #[.int .i64 a2_0, .int .i64 a2_1, .string a2_2] 40 (0, 0)) (uB BK172)) (below_size (uL HB)))
                       have n1_ := blkB BK171 hb; have n2_ := blkB BK172 hb; have n3_ := blkB BK173 hb
                       have n4_ := aM (below_step (uL HB) hb)
                       clear BK171 BK172 BK173 HB; have HO179 := n0_; have BK171 := n1_; have BK172 := n2_; have BK173 := n3_; have HB := n4_; clear n0_ n1_ n2_ n3_ n4_ hb ho56
                       refine hK.out _ _ ⟨(blk_cell BK171.out 0).trans rfl, (blk_cell BK171.out 1).trans rfl, (blk_cell BK171.out 2).trans rfl, (blk_cell BK172.out 0).trans rfl, (blk_cell BK172.out 1).trans rfl, (blk_cell BK172.out 2).trans rfl⟩ (fun hHeld => ?_)
                       clear hK K
                       refine nX 28 ?_
                       exact norm_ (by first | (simp only [putAll, Act.put, List.setIfInBounds_toArray, List.set_cons_zero, List.set_cons_succ]; done) | (simp only [putAll, Act.put, List.setIfInBounds_toArray, List.set_cons_zero, List.set_cons_succ]; rfl)) (hJ4 (v178) _ ⟨hHeld, (by (with_reducible repeat first | apply rA | apply rN | apply rD); exact Kd.R_mono HO179.out (fun _ hk => hk.2)), (uB BK171), (uB BK172), (uB BK173), (uL HB)⟩)
                      ·skip
                       refine Kd.R_lit_step k40 _ 40 ?hg (N := 39) ?hd (xs := ([(⟨a2_0, a2_1, a2_2⟩ : S40)] : List (S40))) (inner := [.int .i64 a2_0, .int .i64 a2_1, .string a2_2]) (ok := fun _ => True) (okp := fun _ => True) ?hr ?hp (fun _ hk => hk) trivial (Below.refl _ _) (Nat.le_refl _) (by simp) ?_; (case hd => rfl); (case hg => rfl); (case hr => first | (go_simp; done) | (go_simp; rfl)); (case hp => exact (Reps.c3 (show Kd.M k40 _ _ _ (⟨a2_0, a2_1, a2_2⟩ : S40) [.int .i64 a2_0, .int .i64 a2_1, .string a2_2] from (k40_mkM _ _ _ (⟨a2_0, a2_1, a2_2⟩ : S40) )) (Reps.none _ _)))
                       intro v188 w55 ho56 hb hg_ hnew_
                       clear hg_ hnew_
                       (first | rw [← Ny187.out] at ho56 | (simp only [Int.reduceToNat] at ho56; rw [← Ny187.out] at ho56))
                       have n0_ := aM (Kd.R_lower (Kd.R_newB ho56 (g := gb172) (o := .cells #[.int .i64 a2_0, .int .i64 a2_1, .string a2_2] 40 (0, 0)) (uB BK172)) (below_size (uL HB)))
                       have n1_ := blkB BK171 hb; have n2_ := blkB BK172 hb; have n3_ := blkB BK173 hb
                       have n4_ := aM (below_step (uL HB) hb)
                       clear BK171 BK172 BK173 HB; have HO189 := n0_; have BK171 := n1_; have BK172 := n2_; have BK173 := n3_; have HB := n4_; clear n0_ n1_ n2_ n3_ n4_ hb ho56
                       refine hK.out _ _ ⟨(blk_cell BK171.out 0).trans rfl, (blk_cell BK171.out 1).trans rfl, (blk_cell BK171.out 2).trans rfl, (blk_cell BK172.out 0).trans rfl, (blk_cell BK172.out 1).trans rfl, (blk_cell BK172.out 2).trans rfl⟩ (fun hHeld => ?_)
                       clear hK K
                       refine nX 39 ?_
                       exact norm_ (by first | (simp only [putAll, Act.put, List.setIfInBounds_toArray, List.set_cons_zero, List.set_cons_succ]; done) | (simp only [putAll, Act.put, List.setIfInBounds_toArray, List.set_cons_zero, List.set_cons_succ]; rfl)) (hJ15 (v188) _ ⟨hHeld, (by (with_reducible repeat first | apply rA | apply rN | apply rD); exact Kd.R_mono HO189.out (fun _ hk => hk.2)), (uB BK171), (uB BK172), (uB BK173), (uL HB)⟩)
                      ·skip
                       refine bxS 8 #[.int .i64 0, .int .i64 0, .slice none 0 0] 30 ?_
                       intro gb193 hg w55 hbox hb
                       have n0_ := blkB BK171 hb; have n1_ := blkB BK172 hb; have n2_ := blkB BK173 hb
                       have n3_ := aM (below_step (uL HB) hb)
                       have n4_ := aM (hbox)
                       have n5_ := szG hg (uL HB); have n6_ := szG hg (uL HB); have n7_ := neL hg BK171; have n8_ := neG hg BK171; have n9_ := neL hg BK172; have n10_ := neG hg BK172; have n11_ := neL hg BK173; have n12_ := neG hg BK173; clear BK171 BK172 BK173 HB; have BK171 := n0_; have BK172 := n1_; have BK173 := n2_; have HB := n3_; have BK193 := n4_; have GW193 := n5_; have GE193 := n6_; have NB171_193 := n7_; have NB193_171 := n8_; have NB172_193 := n9_; have NB193_172 := n10_; have NB173_193 := n11_; have NB193_173 := n12_; clear n0_ n1_ n2_ n3_ n4_ n5_ n6_ n7_ n8_ n9_ n10_ n11_ n12_ hb hbox hg
                       refine hK.out _ _ ⟨(blk_cell BK171.out 0).trans rfl, (blk_cell BK171.out 1).trans rfl, (blk_cell BK171.out 2).trans rfl, (blk_cell BK172.out 0).trans rfl, (blk_cell BK172.out 1).trans rfl, (blk_cell BK172.out 2).trans rfl⟩ (fun hHeld => ?_)
                       clear hK K
                       refine nX 8 ?_
                       exact norm_ (by first | (simp only [putAll, Act.put, List.setIfInBounds_toArray, List.set_cons_zero, List.set_cons_succ]; done) | (simp only [putAll, Act.put, List.setIfInBounds_toArray, List.set_cons_zero, List.set_cons_succ]; rfl)) (hJ18 (gb193) _ ⟨hHeld, (uB BK171), (uB BK172), (uB BK173), (uB BK193), GW193.out, GE193.out, NB171_193.out, NB193_171.out, NB172_193.out, NB193_172.out, NB173_193.out, NB193_173.out, (uL HB)⟩)
                     ·skip
                      rintro gb193 w56 ⟨hS_, h0_, h1_, h2_, h3_, h4_, h5_, h6_, h7_, h8_, h9_, h10_, h11_, h12_⟩
                      have n0_ : Aside0 (w56.heap[gb171]? = some (.cells #[.int .i64 a0_0, .int .i64 a0_1, .slice A0_2 l0_2.length c0_2] 30 (0, 0))) := ⟨h0_⟩
                      have n1_ : Aside0 (w56.heap[gb172]? = some (.cells #[.int .i64 a2_0, .int .i64 a2_1, .string a2_2] 40 (0, 0))) := ⟨h1_⟩
                      have n2_ : Aside0 (w56.heap[gb173]? = some (.cells #[.int .i64 0, .int .i64 0, .slice none 0 0] 30 (0, 0))) := ⟨h2_⟩
                      have n3_ : Aside0 (w56.heap[gb193]? = some (.cells #[.int .i64 0, .int .i64 0, .slice none 0 0] 30 (0, 0))) := ⟨h3_⟩
                      have n4_ : Aside0 (w.heap.size ≤ gb193) := ⟨h4_⟩
                      have n5_ : Aside0 (w.heap.size ≤ gb193) := ⟨h5_⟩
                      have n6_ : Aside0 (gb171 ≠ gb193) := ⟨h6_⟩
                      have n7_ : Aside0 (gb193 ≠ gb171) := ⟨h7_⟩
                      have n8_ : Aside0 (gb172 ≠ gb193) := ⟨h8_⟩
                      have n9_ : Aside0 (gb193 ≠ gb172) := ⟨h9_⟩
                      have n10_ : Aside0 (gb173 ≠ gb193) := ⟨h10_⟩
                      have n11_ : Aside0 (gb193 ≠ gb173) := ⟨h11_⟩
                      have n12_ : Aside0 (Below w.heap.size w w56) := ⟨h12_⟩
                      clear BK171 BK172 BK173 HB h0_ h1_ h2_ h3_ h4_ h5_ h6_ h7_ h8_ h9_ h10_ h11_ h12_; have BK171 := n0_; have BK172 := n1_; have BK173 := n2_; have BK193 := n3_; have GW193 := n4_; have GE193 := n5_; have NB171_193 := n6_; have NB193_171 := n7_; have NB172_193 := n8_; have NB193_172 := n9_; have NB173_193 := n10_; have NB193_173 := n11_; have HB := n12_; clear n0_ n1_ n2_ n3_ n4_ n5_ n6_ n7_ n8_ n9_ n10_ n11_ n12_
                      have hHeld : w56.cell? ⟨gb171, 0, none⟩ = some (.int .i64 a0_0) ∧ w56.cell? ⟨gb171, 1, none⟩ = some (.int .i64 a0_1) ∧ w56.cell? ⟨gb171, 2, none⟩ = some (.slice A0_2 l0_2.length c0_2) ∧ w56.cell? ⟨gb172, 0, none⟩ = some (.int .i64 a2_0) ∧ w56.cell? ⟨gb172, 1, none⟩ = some (.int .i64 a2_1) ∧ w56.cell? ⟨gb172, 2, none⟩ = some (.string a2_2) := hS_
                      refine norm_ (a' := ?_) ?_ ?_
                      rotate_left
                      ·simp only [putAll, Act.put, List.setIfInBounds_toArray, List.set_cons_zero, List.set_cons_succ]
                       rfl
                      refine two_ (i := 4) (j := 15) (Ni := some 28) (Nj := some 39) #[true, true, true, true, true, true, true, true, true, true, true, true, true, false, true, false, false, false, true, false] #[true, true, true, true, false, true, true, true, true, true, true, true, true, false, true, true, false, false, true, false] rfl rfl rfl rfl (two_of HT_.out (by kernel_rfl)) (by decide) (by decide) (fun K hK => ?_) (fun K hK => ?_)
                      ·skip
                       refine Kd.R_lit_step k40 _ 40 ?hg (N := 28) ?hd (xs := ([] : List (S40))) (inner := []) (ok := fun _ => True) (okp := fun _ => True) ?hr ?hp (fun _ hk => hk) trivial (Below.refl _ _) (Nat.le_refl _) (by simp) ?_; (case hd => rfl); (case hg => rfl); (case hr => first | (go_simp; done) | (go_simp; rfl)); (case hp => exact (Reps.none _ _))
                       intro v178 w57 ho58 hb hg_ hnew_
                       clear hg_ hnew_
                       (first | rw [← Ny177.out] at ho58 | (simp only [Int.reduceToNat] at ho58; rw [← Ny177.out] at ho58))
                       have n0_ := aM (Kd.R_lower (Kd.R_newB ho58 (g := gb172) (o := .cells #[.int .i64 a2_0, .int .i64 a2_1, .string a2_2] 40 (0, 0)) (uB BK172)) (below_size (uL HB)))
                       have n1_ := blkB BK171 hb; have n2_ := blkB BK172 hb; have n3_ := blkB BK173 hb; have n4_ := blkB BK193 hb
                       have n5_ := aM (below_step (uL HB) hb)
                       clear BK171 BK172 BK173 BK193 HB; have HO179 := n0_; have BK171 := n1_; have BK172 := n2_; have BK173 := n3_; have BK193 := n4_; have HB := n5_; clear n0_ n1_ n2_ n3_ n4_ n5_ hb ho58
                       refine hK.out _ _ ⟨(blk_cell BK171.out 0).trans rfl, (blk_cell BK171.out 1).trans rfl, (blk_cell BK171.out 2).trans rfl, (blk_cell BK172.out 0).trans rfl, (blk_cell BK172.out 1).trans rfl, (blk_cell BK172.out 2).trans rfl⟩ (fun hHeld => ?_)
                       clear hK K
                       refine nX 28 ?_
                       exact norm_ (by first | (simp only [putAll, Act.put, List.setIfInBounds_toArray, List.set_cons_zero, List.set_cons_succ]; done) | (simp only [putAll, Act.put, List.setIfInBounds_toArray, List.set_cons_zero, List.set_cons_succ]; rfl)) (hJ4_18 (v178, gb193) _ ⟨hHeld, (by (with_reducible repeat first | apply rA | apply rN | apply rD); exact Kd.R_mono HO179.out (fun _ hk => hk.2)), (uB BK171), (uB BK172), (uB BK173), (uB BK193), GW193.out, GE193.out, NB171_193.out, NB193_171.out, NB172_193.out, NB193_172.out, NB173_193.out, NB193_173.out, (uL HB)⟩)
                      ·skip
                       refine Kd.R_lit_step k40 _ 40 ?hg (N := 39) ?hd (xs := ([(⟨a2_0, a2_1, a2_2⟩ : S40)] : List (S40))) (inner := [.int .i64 a2_0, .int .i64 a2_1, .string a2_2]) (ok := fun _ => True) (okp := fun _ => True) ?hr ?hp (fun _ hk => hk) trivial (Below.refl _ _) (Nat.le_refl _) (by simp) ?_; (case hd => rfl); (case hg => rfl); (case hr => first | (go_simp; done) | (go_simp; rfl)); (case hp => exact (Reps.c3 (show Kd.M k40 _ _ _ (⟨a2_0, a2_1, a2_2⟩ : S40) [.int .i64 a2_0, .int .i64 a2_1, .string a2_2] from (k40_mkM _ _ _ (⟨a2_0, a2_1, a2_2⟩ : S40) )) (Reps.none _ _)))
                       intro v188 w57 ho58 hb hg_ hnew_
                       clear hg_ hnew_
                       (first | rw [← Ny187.out] at ho58 | (simp only [Int.reduceToNat] at ho58; rw [← Ny187.out] at ho58))
                       have n0_ := aM (Kd.R_lower (Kd.R_newB ho58 (g := gb172) (o := .cells #[.int .i64 a2_0, .int .i64 a2_1, .string a2_2] 40 (0, 0)) (uB BK172)) (below_size (uL HB)))
                       have n1_ := blkB BK171 hb; have n2_ := blkB BK172 hb; have n3_ := blkB BK173 hb; have n4_ := blkB BK193 hb
                       have n5_ := aM (below_step (uL HB) hb)
                       clear BK171 BK172 BK173 BK193 HB; have HO189 := n0_; have BK171 := n1_; have BK172 := n2_; have BK173 := n3_; have BK193 := n4_; have HB := n5_; clear n0_ n1_ n2_ n3_ n4_ n5_ hb ho58
                       refine hK.out _ _ ⟨(blk_cell BK171.out 0).trans rfl, (blk_cell BK171.out 1).trans rfl, (blk_cell BK171.out 2).trans rfl, (blk_cell BK172.out 0).trans rfl, (blk_cell BK172.out 1).trans rfl, (blk_cell BK172.out 2).trans rfl⟩ (fun hHeld => ?_)
                       clear hK K
                       refine nX 39 ?_
                       exact norm_ (by first | (simp only [putAll, Act.put, List.setIfInBounds_toArray, List.set_cons_zero, List.set_cons_succ]; done) | (simp only [putAll, Act.put, List.setIfInBounds_toArray, List.set_cons_zero, List.set_cons_succ]; rfl)) (hJ15_18 (v188, gb193) _ ⟨hHeld, (by (with_reducible repeat first | apply rA | apply rN | apply rD); exact Kd.R_mono HO189.out (fun _ hk => hk.2)), (uB BK171), (uB BK172), (uB BK173), (uB BK193), GW193.out, GE193.out, NB171_193.out, NB193_171.out, NB172_193.out, NB193_172.out, NB173_193.out, NB193_173.out, (uL HB)⟩)
                    ·skip
                     rintro v188 w57 ⟨hS_, h0_, h1_, h2_, h3_, h4_⟩
                     have n0_ : Aside0 (Kd.R k40 40 w57 w.heap.size (fun k_ => k_ ≠ gb172) v188 y187) := ⟨h0_⟩
                     have n1_ : Aside0 (w57.heap[gb171]? = some (.cells #[.int .i64 a0_0, .int .i64 a0_1, .slice A0_2 l0_2.length c0_2] 30 (0, 0))) := ⟨h1_⟩
                     have n2_ : Aside0 (w57.heap[gb172]? = some (.cells #[.int .i64 a2_0, .int .i64 a2_1, .string a2_2] 40 (0, 0))) := ⟨h2_⟩
                     have n3_ : Aside0 (w57.heap[gb173]? = some (.cells #[.int .i64 0, .int .i64 0, .slice none 0 0] 30 (0, 0))) := ⟨h3_⟩
                     have n4_ : Aside0 (Below w.heap.size w w57) := ⟨h4_⟩
                     clear BK171 BK172 BK173 HB h0_ h1_ h2_ h3_ h4_; have HO189 := n0_; have BK171 := n1_; have BK172 := n2_; have BK173 := n3_; have HB := n4_; clear n0_ n1_ n2_ n3_ n4_
                     have hHeld : w57.cell? ⟨gb171, 0, none⟩ = some (.int .i64 a0_0) ∧ w57.cell? ⟨gb171, 1, none⟩ = some (.int .i64 a0_1) ∧ w57.cell? ⟨gb171, 2, none⟩ = some (.slice A0_2 l0_2.length c0_2) ∧ w57.cell? ⟨gb172, 0, none⟩ = some (.int .i64 a2_0) ∧ w57.cell? ⟨gb172, 1, none⟩ = some (.int .i64 a2_1) ∧ w57.cell? ⟨gb172, 2, none⟩ = some (.string a2_2) := hS_
                     refine norm_ (a' := ?_) ?_ ?_
                     rotate_left
                     ·simp only [putAll, Act.put, List.setIfInBounds_toArray, List.set_cons_zero, List.set_cons_succ]
                      rfl
                     refine two_ (i := 4) (j := 18) (Ni := some 28) (Nj := some 8) #[true, true, true, true, true, true, true, true, true, true, true, true, true, false, true, true, false, false, false, false] #[true, true, true, true, false, true, true, true, true, true, true, true, true, false, true, true, false, false, true, false] rfl rfl rfl rfl (two_of HT_.out (by kernel_rfl)) (by decide) (by decide) (fun K hK => ?_) (fun K hK => ?_)
                     ·skip
                      refine Kd.R_lit_step k40 _ 40 ?hg (N := 28) ?hd (xs := ([] : List (S40))) (inner := []) (ok := fun _ => True) (okp := fun _ => True) ?hr ?hp (fun _ hk => hk) trivial (Below.refl _ _) (Nat.le_refl _) (by simp) ?_; (case hd => rfl); (case hg => rfl); (case hr => first | (go_simp; done) | (go_simp; rfl)); (case hp => exact (Reps.none _ _))
                      intro v178 w58 ho59 hb hg_ hnew_
                      clear hg_ hnew_
                      (first | rw [← Ny177.out] at ho59 | (simp only [Int.reduceToNat] at ho59; rw [← Ny177.out] at ho59))
                      have n0_ := aM (Kd.R_elder' (uR HO189) (Kd.R_base ho59) hb)
                      have n1_ := aM (Kd.R_lower (Kd.R_newB (Kd.R_new' ho59 (Kd.R_lt (uR HO189))) (g := gb172) (o := .cells #[.int .i64 a2_0, .int .i64 a2_1, .string a2_2] 40 (0, 0)) (uB BK172)) (below_size (uL HB)))
                      have n2_ := blkB BK171 hb; have n3_ := blkB BK172 hb; have n4_ := blkB BK173 hb
                      have n5_ := aM (below_step (uL HB) hb)
                      clear HO189 BK171 BK172 BK173 HB; have HO189 := n0_; have HO179 := n1_; have BK171 := n2_; have BK172 := n3_; have BK173 := n4_; have HB := n5_; clear n0_ n1_ n2_ n3_ n4_ n5_ hb ho59
                      refine hK.out _ _ ⟨(blk_cell BK171.out 0).trans rfl, (blk_cell BK171.out 1).trans rfl, (blk_cell BK171.out 2).trans rfl, (blk_cell BK172.out 0).trans rfl, (blk_cell BK172.out 1).trans rfl, (blk_cell BK172.out 2).trans rfl⟩ (fun hHeld => ?_)
                      clear hK K
                      refine nX 28 ?_
                      exact norm_ (by first | (simp only [putAll, Act.put, List.setIfInBounds_toArray, List.set_cons_zero, List.set_cons_succ]; done) | (simp only [putAll, Act.put, List.setIfInBounds_toArray, List.set_cons_zero, List.set_cons_succ]; rfl)) (hJ4_15 (v178, v188) _ ⟨hHeld, (by (with_reducible repeat first | apply rA | apply rN | apply rD); exact Kd.R_mono HO179.out (fun _ hk => ⟨hk.1.2, hk.2⟩)), (by (with_reducible repeat first | apply rA | apply rN | apply rD); exact Kd.R_mono HO189.out (fun _ hk => ⟨hk.2, hk.1⟩)), (uB BK171), (uB BK172), (uB BK173), (uL HB)⟩)
                     ·skip
                      refine bxS 8 #[.int .i64 0, .int .i64 0, .slice none 0 0] 30 ?_
                      intro gb193 hg w58 hbox hb
                      have n0_ := aM (Kd.R_below (uR HO189) hb); have n1_ := blkB BK171 hb; have n2_ := blkB BK172 hb; have n3_ := blkB BK173 hb
                      have n4_ := aM (below_step (uL HB) hb)
                      have n5_ := aM (hbox)
                      have n6_ := szG hg (uL HB); have n7_ := szG hg (uL HB); have n8_ := neL hg BK171; have n9_ := neG hg BK171; have n10_ := neL hg BK172; have n11_ := neG hg BK172; have n12_ := neL hg BK173; have n13_ := neG hg BK173; clear HO189 BK171 BK172 BK173 HB; have HO189 := n0_; have BK171 := n1_; have BK172 := n2_; have BK173 := n3_; have HB := n4_; have BK193 := n5_; have GW193 := n6_; have GE193 := n7_; have NB171_193 := n8_; have NB193_171 := n9_; have NB172_193 := n10_; have NB193_172 := n11_; have NB173_193 := n12_; have NB193_173 := n13_; clear n0_ n1_ n2_ n3_ n4_ n5_ n6_ n7_ n8_ n9_ n10_ n11_ n12_ n13_ hb hbox hg
                      refine hK.out _ _ ⟨(blk_cell BK171.out 0).trans rfl, (blk_cell BK171.out 1).trans rfl, (blk_cell BK171.out 2).trans rfl, (blk_cell BK172.out 0).trans rfl, (blk_cell BK172.out 1).trans rfl, (blk_cell BK172.out 2).trans rfl⟩ (fun hHeld => ?_)
                      clear hK K
                      refine nX 8 ?_
                      exact norm_ (by first | (simp only [putAll, Act.put, List.setIfInBounds_toArray, List.set_cons_zero, List.set_cons_succ]; done) | (simp only [putAll, Act.put, List.setIfInBounds_toArray, List.set_cons_zero, List.set_cons_succ]; rfl)) (hJ15_18 (v188, gb193) _ ⟨hHeld, (uR HO189), (uB BK171), (uB BK172), (uB BK173), (uB BK193), GW193.out, GE193.out, NB171_193.out, NB193_171.out, NB172_193.out, NB193_172.out, NB173_193.out, NB193_173.out, (uL HB)⟩)
                   ·skip
                    rintro v178 w57 ⟨hS_, h0_, h1_, h2_, h3_, h4_⟩
                    have n0_ : Aside0 (Kd.R k40 40 w57 w.heap.size (fun k_ => k_ ≠ gb172) v178 y177) := ⟨h0_⟩
                    have n1_ : Aside0 (w57.heap[gb171]? = some (.cells #[.int .i64 a0_0, .int .i64 a0_1, .slice A0_2 l0_2.length c0_2] 30 (0, 0))) := ⟨h1_⟩
                    have n2_ : Aside0 (w57.heap[gb172]? = some (.cells #[.int .i64 a2_0, .int .i64 a2_1, .string a2_2] 40 (0, 0))) := ⟨h2_⟩
                    have n3_ : Aside0 (w57.heap[gb173]? = some (.cells #[.int .i64 0, .int .i64 0, .slice none 0 0] 30 (0, 0))) := ⟨h3_⟩
                    have n4_ : Aside0 (Below w.heap.size w w57) := ⟨h4_⟩
                    clear BK171 BK172 BK173 HB h0_ h1_ h2_ h3_ h4_; have HO179 := n0_; have BK171 := n1_; have BK172 := n2_; have BK173 := n3_; have HB := n4_; clear n0_ n1_ n2_ n3_ n4_
                    have hHeld : w57.cell? ⟨gb171, 0, none⟩ = some (.int .i64 a0_0) ∧ w57.cell? ⟨gb171, 1, none⟩ = some (.int .i64 a0_1) ∧ w57.cell? ⟨gb171, 2, none⟩ = some (.slice A0_2 l0_2.length c0_2) ∧ w57.cell? ⟨gb172, 0, none⟩ = some (.int .i64 a2_0) ∧ w57.cell? ⟨gb172, 1, none⟩ = some (.int .i64 a2_1) ∧ w57.cell? ⟨gb172, 2, none⟩ = some (.string a2_2) := hS_
                    refine norm_ (a' := ?_) ?_ ?_
                    rotate_left
                    ·simp only [putAll, Act.put, List.setIfInBounds_toArray, List.set_cons_zero, List.set_cons_succ]
                     rfl
                    refine three_ (i := 13) (j := 15) (k := 18) (Ni := some 37) (Nj := some 39) (Nk := some 8) #[true, true, true, true, true, true, true, true, true, true, true, true, true, true, true, false, false, false, false, false] #[true, true, true, true, true, true, true, true, true, true, true, true, true, false, true, true, false, false, false, false] #[true, true, true, true, true, true, true, true, true, true, true, true, true, false, true, false, false, false, true, false] rfl rfl rfl rfl rfl rfl (three_of HT_.out (by kernel_rfl)) (by decide) (by decide) (by decide) (fun K hK => ?_) (fun K hK => ?_) (fun K hK => ?_)
                    ·skip
                     refine Kd.R_append_rows_step k40 (w0 := w) w.heap.size (by rfl) (.tmp 28) (.tmp 36) 28 40 (.agg #[(.int .i64 0), (.int .i64 0), (.string ⟨#[]⟩)]) 32 rfl Try.underlying28 info40 rfl (by decide) (by omega) v178 y177 y180 _ _ _ (fun k_ => k_ ≠ gb172) (fun _ => False) rfl rfl ?aO ?aR (fun _ _ h => h) (fun _ h => h.elim) ?aF ?aB ?aS ?aL ?_
                     (case aR => repeat (first | exact (Kd.C_below HR183.out HB.out) | (with_reducible refine cA ?_ _) | (with_reducible refine cN ?_ _) | (with_reducible refine cD ?_)))
                     (case aB => exact (uL HB))
                     (case aF => exact (fun k_ hk => Kd.freshB (g := gb172) (o := .cells #[.int .i64 a2_0, .int .i64 a2_1, .string a2_2] 40 (0, 0)) (uB BK172) k_ hk))
                     (case aO => exact (uR HO179))
                     (case aS => exact (below_size (uL HB)))
                     (case aL => have := LMc24.out; omega)
                     intro v185 w58 ho hb hg hat
                     rw [← Ny184.out] at ho
                     have n0_ := aM (blk_grown (g := gb171) (o := .cells #[.int .i64 a0_0, .int .i64 a0_1, .slice A0_2 l0_2.length c0_2] 30 (0, 0)) (uB BK171) hg (Kd.R_ne HO179.out BK171.out (by decide)))
                     have n1_ := aM (blk_grown (g := gb172) (o := .cells #[.int .i64 a2_0, .int .i64 a2_1, .string a2_2] 40 (0, 0)) (uB BK172) hg (Kd.R_away HO179.out (fun _ hk => hk)))
                     have n2_ := aM (blk_grown (g := gb173) (o := .cells #[.int .i64 0, .int .i64 0, .slice none 0 0] 30 (0, 0)) (uB BK173) hg (Kd.R_ne HO179.out BK173.out (by decide)))
                     have n3_ := aM (hb)
                     have n4_ := aM (ho)
                     clear BK171 BK172 BK173 HB HO179; have BK171 := n0_; have BK172 := n1_; have BK173 := n2_; have HB := n3_; have HO186 := n4_; clear n0_ n1_ n2_ n3_ n4_ ho hb hg hat
                     refine hK.out _ _ ⟨(blk_cell BK171.out 0).trans rfl, (blk_cell BK171.out 1).trans rfl, (blk_cell BK171.out 2).trans rfl, (blk_cell BK172.out 0).trans rfl, (blk_cell BK172.out 1).trans rfl, (blk_cell BK172.out 2).trans rfl⟩ (fun hHeld => ?_)
                     clear hK K
                     refine nX 37 ?_
                     exact norm_ (by first | (simp only [putAll, Act.put, List.setIfInBounds_toArray, List.set_cons_zero, List.set_cons_succ]; done) | (simp only [putAll, Act.put, List.setIfInBounds_toArray, List.set_cons_zero, List.set_cons_succ]; rfl)) (hJ4_13 (v178, v185) _ ⟨hHeld, (uR HO186), (uB BK171), (uB BK172), (uB BK173), (uL HB)⟩)
                    ·skip
                     refine Kd.R_lit_step k40 _ 40 ?hg (N := 39) ?hd (xs := ([(⟨a2_0, a2_1, a2_2⟩ : S40)] : List (S40))) (inner := [.int .i64 a2_0, .int .i64 a2_1, .string a2_2]) (ok := fun _ => True) (okp := fun _ => True) ?hr ?hp (fun _ hk => hk) trivial (Below.refl _ _) (Nat.le_refl _) (by simp) ?_; (case hd => rfl); (case hg => rfl); (case hr => first | (go_simp; done) | (go_simp; rfl)); (case hp => exact (Reps.c3 (show Kd.M k40 _ _ _ (⟨a2_0, a2_1, a2_2⟩ : S40) [.int .i64 a2_0, .int .i64 a2_1, .string a2_2] from (k40_mkM _ _ _ (⟨a2_0, a2_1, a2_2⟩ : S40) )) (Reps.none _ _)))
                     intro v188 w58 ho59 hb hg_ hnew_
                     clear hg_ hnew_
                     (first | rw [← Ny187.out] at ho59 | (simp only [Int.reduceToNat] at ho59; rw [← Ny187.out] at ho59))
                     have n0_ := aM (Kd.R_elder' (uR HO179) (Kd.R_base ho59) hb)
                     have n1_ := aM (Kd.R_lower (Kd.R_newB (Kd.R_new' ho59 (Kd.R_lt (uR HO179))) (g := gb172) (o := .cells #[.int .i64 a2_0, .int .i64 a2_1, .string a2_2] 40 (0, 0)) (uB BK172)) (below_size (uL HB)))
                     have n2_ := blkB BK171 hb; have n3_ := blkB BK172 hb; have n4_ := blkB BK173 hb
                     have n5_ := aM (below_step (uL HB) hb)
                     clear HO179 BK171 BK172 BK173 HB; have HO179 := n0_; have HO189 := n1_; have BK171 := n2_; have BK172 := n3_; have BK173 := n4_; have HB := n5_; clear n0_ n1_ n2_ n3_ n4_ n5_ hb ho59
                     refine hK.out _ _ ⟨(blk_cell BK171.out 0).trans rfl, (blk_cell BK171.out 1).trans rfl, (blk_cell BK171.out 2).trans rfl, (blk_cell BK172.out 0).trans rfl, (blk_cell BK172.out 1).trans rfl, (blk_cell BK172.out 2).trans rfl⟩ (fun hHeld => ?_)
                     clear hK K
                     refine nX 39 ?_
                     exact norm_ (by first | (simp only [putAll, Act.put, List.setIfInBounds_toArray, List.set_cons_zero, List.set_cons_succ]; done) | (simp only [putAll, Act.put, List.setIfInBounds_toArray, List.set_cons_zero, List.set_cons_succ]; rfl)) (hJ4_15 (v178, v188) _ ⟨hHeld, (by (with_reducible repeat first | apply rA | apply rN | apply rD); exact Kd.R_mono HO179.out (fun _ hk => ⟨hk.2, hk.1⟩)), (by (with_reducible repeat first | apply rA | apply rN | apply rD); exact Kd.R_mono HO189.out (fun _ hk => ⟨hk.1.2, hk.2⟩)), (uB BK171), (uB BK172), (uB BK173), (uL HB)⟩)
                    ·skip
                     refine bxS 8 #[.int .i64 0, .int .i64 0, .slice none 0 0] 30 ?_
                     intro gb193 hg w58 hbox hb
                     have n0_ := aM (Kd.R_below (uR HO179) hb); have n1_ := blkB BK171 hb; have n2_ := blkB BK172 hb; have n3_ := blkB BK173 hb
                     have n4_ := aM (below_step (uL HB) hb)
                     have n5_ := aM (hbox)
                     have n6_ := szG hg (uL HB); have n7_ := szG hg (uL HB); have n8_ := neL hg BK171; have n9_ := neG hg BK171; have n10_ := neL hg BK172; have n11_ := neG hg BK172; have n12_ := neL hg BK173; have n13_ := neG hg BK173; clear HO179 BK171 BK172 BK173 HB; have HO179 := n0_; have BK171 := n1_; have BK172 := n2_; have BK173 := n3_; have HB := n4_; have BK193 := n5_; have GW193 := n6_; have GE193 := n7_; have NB171_193 := n8_; have NB193_171 := n9_; have NB172_193 := n10_; have NB193_172 := n11_; have NB173_193 := n12_; have NB193_173 := n13_; clear n0_ n1_ n2_ n3_ n4_ n5_ n6_ n7_ n8_ n9_ n10_ n11_ n12_ n13_ hb hbox hg
                     refine hK.out _ _ ⟨(blk_cell BK171.out 0).trans rfl, (blk_cell BK171.out 1).trans rfl, (blk_cell BK171.out 2).trans rfl, (blk_cell BK172.out 0).trans rfl, (blk_cell BK172.out 1).trans rfl, (blk_cell BK172.out 2).trans rfl⟩ (fun hHeld => ?_)
                     clear hK K
                     refine nX 8 ?_
                     exact norm_ (by first | (simp only [putAll, Act.put, List.setIfInBounds_toArray, List.set_cons_zero, List.set_cons_succ]; done) | (simp only [putAll, Act.put, List.setIfInBounds_toArray, List.set_cons_zero, List.set_cons_succ]; rfl)) (hJ4_18 (v178, gb193) _ ⟨hHeld, (uR HO179), (uB BK171), (uB BK172), (uB BK173), (uB BK193), GW193.out, GE193.out, NB171_193.out, NB193_171.out, NB172_193.out, NB193_172.out, NB173_193.out, NB193_173.out, (uL HB)⟩)
                  ·skip
                   rintro ⟨v188, gb193⟩ w58 ⟨hS_, h0_, h1_, h2_, h3_, h4_, h5_, h6_, h7_, h8_, h9_, h10_, h11_, h12_, h13_⟩
                   have n0_ : Aside0 (Kd.R k40 40 w58 w.heap.size (fun k_ => k_ ≠ gb172) v188 y187) := ⟨h0_⟩
                   have n1_ : Aside0 (w58.heap[gb171]? = some (.cells #[.int .i64 a0_0, .int .i64 a0_1, .slice A0_2 l0_2.length c0_2] 30 (0, 0))) := ⟨h1_⟩
                   have n2_ : Aside0 (w58.heap[gb172]? = some (.cells #[.int .i64 a2_0, .int .i64 a2_1, .string a2_2] 40 (0, 0))) := ⟨h2_⟩
                   have n3_ : Aside0 (w58.heap[gb173]? = some (.cells #[.int .i64 0, .int .i64 0, .slice none 0 0] 30 (0, 0))) := ⟨h3_⟩
                   have n4_ : Aside0 (w58.heap[gb193]? = some (.cells #[.int .i64 0, .int .i64 0, .slice none 0 0] 30 (0, 0))) := ⟨h4_⟩
                   have n5_ : Aside0 (w.heap.size ≤ gb193) := ⟨h5_⟩
                   have n6_ : Aside0 (w.heap.size ≤ gb193) := ⟨h6_⟩
                   have n7_ : Aside0 (gb171 ≠ gb193) := ⟨h7_⟩
                   have n8_ : Aside0 (gb193 ≠ gb171) := ⟨h8_⟩
                   have n9_ : Aside0 (gb172 ≠ gb193) := ⟨h9_⟩
                   have n10_ : Aside0 (gb193 ≠ gb172) := ⟨h10_⟩
                   have n11_ : Aside0 (gb173 ≠ gb193) := ⟨h11_⟩
                   have n12_ : Aside0 (gb193 ≠ gb173) := ⟨h12_⟩
                   have n13_ : Aside0 (Below w.heap.size w w58) := ⟨h13_⟩
                   clear BK171 BK172 BK173 HB h0_ h1_ h2_ h3_ h4_ h5_ h6_ h7_ h8_ h9_ h10_ h11_ h12_ h13_; have HO189 := n0_; have BK171 := n1_; have BK172 := n2_; have BK173 := n3_; have BK193 := n4_; have GW193 := n5_; have GE193 := n6_; have NB171_193 := n7_; have NB193_171 := n8_; have NB172_193 := n9_; have NB193_172 := n10_; have NB173_193 := n11_; have NB193_173 := n12_; have HB := n13_; clear n0_ n1_ n2_ n3_ n4_ n5_ n6_ n7_ n8_ n9_ n10_ n11_ n12_ n13_
                   have hHeld : w58.cell? ⟨gb171, 0, none⟩ = some (.int .i64 a0_0) ∧ w58.cell? ⟨gb171, 1, none⟩ = some (.int .i64 a0_1) ∧ w58.cell? ⟨gb171, 2, none⟩ = some (.slice A0_2 l0_2.length c0_2) ∧ w58.cell? ⟨gb172, 0, none⟩ = some (.int .i64 a2_0) ∧ w58.cell? ⟨gb172, 1, none⟩ = some (.int .i64 a2_1) ∧ w58.cell? ⟨gb172, 2, none⟩ = some (.string a2_2) := hS_
                   refine norm_ (a' := ?_) ?_ ?_
                   rotate_left
                   ·simp only [putAll, Act.put, List.setIfInBounds_toArray, List.set_cons_zero, List.set_cons_succ]
                    rfl
                   refine oA HT_.out 4 (some 28) 20 319487 (fun K hK => ?_)
                   refine Kd.R_lit_step k40 _ 40 ?hg (N := 28) ?hd (xs := ([] : List (S40))) (inner := []) (ok := fun _ => True) (okp := fun _ => True) ?hr ?hp (fun _ hk => hk) trivial (Below.refl _ _) (Nat.le_refl _) (by simp) ?_; (case hd => rfl); (case hg => rfl); (case hr => first | (go_simp; done) | (go_simp; rfl)); (case hp => exact (Reps.none _ _))
                   intro v178 w59 ho60 hb hg_ hnew_
                   clear hg_ hnew_
                   (first | rw [← Ny177.out] at ho60 | (simp only [Int.reduceToNat] at ho60; rw [← Ny177.out] at ho60))
                   have n0_ := aM (Kd.R_elder' (uR HO189) (Kd.R_base ho60) hb)
                   have n1_ := aM (Kd.R_lower (Kd.R_newB (Kd.R_new' ho60 (Kd.R_lt (uR HO189))) (g := gb172) (o := .cells #[.int .i64 a2_0, .int .i64 a2_1, .string a2_2] 40 (0, 0)) (uB BK172)) (below_size (uL HB)))
                   have n2_ := blkB BK171 hb; have n3_ := blkB BK172 hb; have n4_ := blkB BK173 hb; have n5_ := blkB BK193 hb
                   have n6_ := aM (below_step (uL HB) hb)
                   clear HO189 BK171 BK172 BK173 BK193 HB; have HO189 := n0_; have HO179 := n1_; have BK171 := n2_; have BK172 := n3_; have BK173 := n4_; have BK193 := n5_; have HB := n6_; clear n0_ n1_ n2_ n3_ n4_ n5_ n6_ hb ho60
                   refine hK.out _ _ ⟨(blk_cell BK171.out 0).trans rfl, (blk_cell BK171.out 1).trans rfl, (blk_cell BK171.out 2).trans rfl, (blk_cell BK172.out 0).trans rfl, (blk_cell BK172.out 1).trans rfl, (blk_cell BK172.out 2).trans rfl⟩ (fun hHeld => ?_)
                   clear hK K
                   refine nX 28 ?_
                   exact norm_ (by first | (simp only [putAll, Act.put, List.setIfInBounds_toArray, List.set_cons_zero, List.set_cons_succ]; done) | (simp only [putAll, Act.put, List.setIfInBounds_toArray, List.set_cons_zero, List.set_cons_succ]; rfl)) (hJ4_15_18 (v178, v188, gb193) _ ⟨hHeld, (by (with_reducible repeat first | apply rA | apply rN | apply rD); exact Kd.R_mono HO179.out (fun _ hk => ⟨hk.1.2, hk.2⟩)), (by (with_reducible repeat first | apply rA | apply rN | apply rD); exact Kd.R_mono HO189.out (fun _ hk => ⟨hk.2, hk.1⟩)), (uB BK171), (uB BK172), (uB BK173), (uB BK193), GW193.out, GE193.out, NB171_193.out, NB193_171.out, NB172_193.out, NB193_172.out, NB173_193.out, NB193_173.out, (uL HB)⟩)
                 ·skip
                  rintro ⟨v178, gb193⟩ w58 ⟨hS_, h0_, h1_, h2_, h3_, h4_, h5_, h6_, h7_, h8_, h9_, h10_, h11_, h12_, h13_⟩
                  have n0_ : Aside0 (Kd.R k40 40 w58 w.heap.size (fun k_ => k_ ≠ gb172) v178 y177) := ⟨h0_⟩
                  have n1_ : Aside0 (w58.heap[gb171]? = some (.cells #[.int .i64 a0_0, .int .i64 a0_1, .slice A0_2 l0_2.length c0_2] 30 (0, 0))) := ⟨h1_⟩
                  have n2_ : Aside0 (w58.heap[gb172]? = some (.cells #[.int .i64 a2_0, .int .i64 a2_1, .string a2_2] 40 (0, 0))) := ⟨h2_⟩
                  have n3_ : Aside0 (w58.heap[gb173]? = some (.cells #[.int .i64 0, .int .i64 0, .slice none 0 0] 30 (0, 0))) := ⟨h3_⟩
                  have n4_ : Aside0 (w58.heap[gb193]? = some (.cells #[.int .i64 0, .int .i64 0, .slice none 0 0] 30 (0, 0))) := ⟨h4_⟩
                  have n5_ : Aside0 (w.heap.size ≤ gb193) := ⟨h5_⟩
                  have n6_ : Aside0 (w.heap.size ≤ gb193) := ⟨h6_⟩
                  have n7_ : Aside0 (gb171 ≠ gb193) := ⟨h7_⟩
                  have n8_ : Aside0 (gb193 ≠ gb171) := ⟨h8_⟩
                  have n9_ : Aside0 (gb172 ≠ gb193) := ⟨h9_⟩
                  have n10_ : Aside0 (gb193 ≠ gb172) := ⟨h10_⟩
                  have n11_ : Aside0 (gb173 ≠ gb193) := ⟨h11_⟩
                  have n12_ : Aside0 (gb193 ≠ gb173) := ⟨h12_⟩
                  have n13_ : Aside0 (Below w.heap.size w w58) := ⟨h13_⟩
                  clear BK171 BK172 BK173 HB h0_ h1_ h2_ h3_ h4_ h5_ h6_ h7_ h8_ h9_ h10_ h11_ h12_ h13_; have HO179 := n0_; have BK171 := n1_; have BK172 := n2_; have BK173 := n3_; have BK193 := n4_; have GW193 := n5_; have GE193 := n6_; have NB171_193 := n7_; have NB193_171 := n8_; have NB172_193 := n9_; have NB193_172 := n10_; have NB173_193 := n11_; have NB193_173 := n12_; have HB := n13_; clear n0_ n1_ n2_ n3_ n4_ n5_ n6_ n7_ n8_ n9_ n10_ n11_ n12_ n13_
                  have hHeld : w58.cell? ⟨gb171, 0, none⟩ = some (.int .i64 a0_0) ∧ w58.cell? ⟨gb171, 1, none⟩ = some (.int .i64 a0_1) ∧ w58.cell? ⟨gb171, 2, none⟩ = some (.slice A0_2 l0_2.length c0_2) ∧ w58.cell? ⟨gb172, 0, none⟩ = some (.int .i64 a2_0) ∧ w58.cell? ⟨gb172, 1, none⟩ = some (.int .i64 a2_1) ∧ w58.cell? ⟨gb172, 2, none⟩ = some (.string a2_2) := hS_
                  refine norm_ (a' := ?_) ?_ ?_
                  rotate_left
                  ·simp only [putAll, Act.put, List.setIfInBounds_toArray, List.set_cons_zero, List.set_cons_succ]
                   rfl
                  refine two_ (i := 13) (j := 15) (Ni := some 37) (Nj := some 39) #[true, true, true, true, true, true, true, true, true, true, true, true, true, true, true, false, false, false, true, false] #[true, true, true, true, true, true, true, true, true, true, true, true, true, false, true, true, false, false, true, false] rfl rfl rfl rfl (two_of HT_.out (by kernel_rfl)) (by decide) (by decide) (fun K hK => ?_) (fun K hK => ?_)
                  ·skip
                   refine Kd.R_append_rows_step k40 (w0 := w) w.heap.size (by rfl) (.tmp 28) (.tmp 36) 28 40 (.agg #[(.int .i64 0), (.int .i64 0), (.string ⟨#[]⟩)]) 32 rfl Try.underlying28 info40 rfl (by decide) (by omega) v178 y177 y180 _ _ _ (fun k_ => k_ ≠ gb172) (fun _ => False) rfl rfl ?aO ?aR (fun _ _ h => h) (fun _ h => h.elim) ?aF ?aB ?aS ?aL ?_
                   (case aR => repeat (first | exact (Kd.C_below HR183.out HB.out) | (with_reducible refine cA ?_ _) | (with_reducible refine cN ?_ _) | (with_reducible refine cD ?_)))
                   (case aB => exact (uL HB))
                   (case aF => exact (fun k_ hk => Kd.freshB (g := gb172) (o := .cells #[.int .i64 a2_0, .int .i64 a2_1, .string a2_2] 40 (0, 0)) (uB BK172) k_ hk))
                   (case aO => exact (uR HO179))
                   (case aS => exact (below_size (uL HB)))
                   (case aL => have := LMc24.out; omega)
                   intro v185 w59 ho hb hg hat
                   rw [← Ny184.out] at ho
                   have n0_ := aM (blk_grown (g := gb171) (o := .cells #[.int .i64 a0_0, .int .i64 a0_1, .slice A0_2 l0_2.length c0_2] 30 (0, 0)) (uB BK171) hg (Kd.R_ne HO179.out BK171.out (by decide)))
                   have n1_ := aM (blk_grown (g := gb172) (o := .cells #[.int .i64 a2_0, .int .i64 a2_1, .string a2_2] 40 (0, 0)) (uB BK172) hg (Kd.R_away HO179.out (fun _ hk => hk)))
                   have n2_ := aM (blk_grown (g := gb173) (o := .cells #[.int .i64 0, .int .i64 0, .slice none 0 0] 30 (0, 0)) (uB BK173) hg (Kd.R_ne HO179.out BK173.out (by decide)))
                   have n3_ := aM (blk_grown (g := gb193) (o := .cells #[.int .i64 0, .int .i64 0, .slice none 0 0] 30 (0, 0)) (uB BK193) hg (Kd.R_ne HO179.out BK193.out (by decide)))
                   have n4_ := aM (hb)
                   have n5_ := aM (ho)
                   clear BK171 BK172 BK173 BK193 HB HO179; have BK171 := n0_; have BK172 := n1_; have BK173 := n2_; have BK193 := n3_; have HB := n4_; have HO186 := n5_; clear n0_ n1_ n2_ n3_ n4_ n5_ ho hb hg hat
                   refine hK.out _ _ ⟨(blk_cell BK171.out 0).trans rfl, (blk_cell BK171.out 1).trans rfl, (blk_cell BK171.out 2).trans rfl, (blk_cell BK172.out 0).trans rfl, (blk_cell BK172.out 1).trans rfl, (blk_cell BK172.out 2).trans rfl⟩ (fun hHeld => ?_)
                   clear hK K
                   refine nX 37 ?_
                   exact norm_ (by first | (simp only [putAll, Act.put, List.setIfInBounds_toArray, List.set_cons_zero, List.set_cons_succ]; done) | (simp only [putAll, Act.put, List.setIfInBounds_toArray, List.set_cons_zero, List.set_cons_succ]; rfl)) (hJ4_13_18 (v178, v185, gb193) _ ⟨hHeld, (uR HO186), (uB BK171), (uB BK172), (uB BK173), (uB BK193), GW193.out, GE193.out, NB171_193.out, NB193_171.out, NB172_193.out, NB193_172.out, NB173_193.out, NB193_173.out, (uL HB)⟩)
                  ·skip
                   refine Kd.R_lit_step k40 _ 40 ?hg (N := 39) ?hd (xs := ([(⟨a2_0, a2_1, a2_2⟩ : S40)] : List (S40))) (inner := [.int .i64 a2_0, .int .i64 a2_1, .string a2_2]) (ok := fun _ => True) (okp := fun _ => True) ?hr ?hp (fun _ hk => hk) trivial (Below.refl _ _) (Nat.le_refl _) (by simp) ?_; (case hd => rfl); (case hg => rfl); (case hr => first | (go_simp; done) | (go_simp; rfl)); (case hp => exact (Reps.c3 (show Kd.M k40 _ _ _ (⟨a2_0, a2_1, a2_2⟩ : S40) [.int .i64 a2_0, .int .i64 a2_1, .string a2_2] from (k40_mkM _ _ _ (⟨a2_0, a2_1, a2_2⟩ : S40) )) (Reps.none _ _)))
                   intro v188 w59 ho60 hb hg_ hnew_
                   clear hg_ hnew_
                   (first | rw [← Ny187.out] at ho60 | (simp only [Int.reduceToNat] at ho60; rw [← Ny187.out] at ho60))
                   have n0_ := aM (Kd.R_elder' (uR HO179) (Kd.R_base ho60) hb)
                   have n1_ := aM (Kd.R_lower (Kd.R_newB (Kd.R_new' ho60 (Kd.R_lt (uR HO179))) (g := gb172) (o := .cells #[.int .i64 a2_0, .int .i64 a2_1, .string a2_2] 40 (0, 0)) (uB BK172)) (below_size (uL HB)))
                   have n2_ := blkB BK171 hb; have n3_ := blkB BK172 hb; have n4_ := blkB BK173 hb; have n5_ := blkB BK193 hb
                   have n6_ := aM (below_step (uL HB) hb)
                   clear HO179 BK171 BK172 BK173 BK193 HB; have HO179 := n0_; have HO189 := n1_; have BK171 := n2_; have BK172 := n3_; have BK173 := n4_; have BK193 := n5_; have HB := n6_; clear n0_ n1_ n2_ n3_ n4_ n5_ n6_ hb ho60
                   refine hK.out _ _ ⟨(blk_cell BK171.out 0).trans rfl, (blk_cell BK171.out 1).trans rfl, (blk_cell BK171.out 2).trans rfl, (blk_cell BK172.out 0).trans rfl, (blk_cell BK172.out 1).trans rfl, (blk_cell BK172.out 2).trans rfl⟩ (fun hHeld => ?_)
                   clear hK K
                   refine nX 39 ?_
                   exact norm_ (by first | (simp only [putAll, Act.put, List.setIfInBounds_toArray, List.set_cons_zero, List.set_cons_succ]; done) | (simp only [putAll, Act.put, List.setIfInBounds_toArray, List.set_cons_zero, List.set_cons_succ]; rfl)) (hJ4_15_18 (v178, v188, gb193) _ ⟨hHeld, (by (with_reducible repeat first | apply rA | apply rN | apply rD); exact Kd.R_mono HO179.out (fun _ hk => ⟨hk.2, hk.1⟩)), (by (with_reducible repeat first | apply rA | apply rN | apply rD); exact Kd.R_mono HO189.out (fun _ hk => ⟨hk.1.2, hk.2⟩)), (uB BK171), (uB BK172), (uB BK173), (uB BK193), GW193.out, GE193.out, NB171_193.out, NB193_171.out, NB172_193.out, NB193_172.out, NB173_193.out, NB193_173.out, (uL HB)⟩)
                ·skip
                 rintro ⟨v178, v188⟩ w59 ⟨hS_, h0_, h1_, h2_, h3_, h4_, h5_⟩
                 have n0_ : Aside0 (Kd.R k40 40 w59 w.heap.size (fun k_ => some k_ ≠ (v188 : Value).ownBlock ∧ k_ ≠ gb172) v178 y177) := ⟨h0_⟩
                 have n1_ : Aside0 (Kd.R k40 40 w59 w.heap.size (fun k_ => some k_ ≠ (v178 : Value).ownBlock ∧ k_ ≠ gb172) v188 y187) := ⟨h1_⟩
                 have n2_ : Aside0 (w59.heap[gb171]? = some (.cells #[.int .i64 a0_0, .int .i64 a0_1, .slice A0_2 l0_2.length c0_2] 30 (0, 0))) := ⟨h2_⟩
                 have n3_ : Aside0 (w59.heap[gb172]? = some (.cells #[.int .i64 a2_0, .int .i64 a2_1, .string a2_2] 40 (0, 0))) := ⟨h3_⟩
                 have n4_ : Aside0 (w59.heap[gb173]? = some (.cells #[.int .i64 0, .int .i64 0, .slice none 0 0] 30 (0, 0))) := ⟨h4_⟩
                 have n5_ : Aside0 (Below w.heap.size w w59) := ⟨h5_⟩
                 clear BK171 BK172 BK173 HB h0_ h1_ h2_ h3_ h4_ h5_; have HO179 := n0_; have HO189 := n1_; have BK171 := n2_; have BK172 := n3_; have BK173 := n4_; have HB := n5_; clear n0_ n1_ n2_ n3_ n4_ n5_
                 have hHeld : w59.cell? ⟨gb171, 0, none⟩ = some (.int .i64 a0_0) ∧ w59.cell? ⟨gb171, 1, none⟩ = some (.int .i64 a0_1) ∧ w59.cell? ⟨gb171, 2, none⟩ = some (.slice A0_2 l0_2.length c0_2) ∧ w59.cell? ⟨gb172, 0, none⟩ = some (.int .i64 a2_0) ∧ w59.cell? ⟨gb172, 1, none⟩ = some (.int .i64 a2_1) ∧ w59.cell? ⟨gb172, 2, none⟩ = some (.string a2_2) := hS_
                 refine norm_ (a' := ?_) ?_ ?_
                 rotate_left
                 ·simp only [putAll, Act.put, List.setIfInBounds_toArray, List.set_cons_zero, List.set_cons_succ]
                  rfl
                 refine two_ (i := 13) (j := 18) (Ni := some 37) (Nj := some 8) #[true, true, true, true, true, true, true, true, true, true, true, true, true, true, true, true, false, false, false, false] #[true, true, true, true, true, true, true, true, true, true, true, true, true, false, true, true, false, false, true, false] rfl rfl rfl rfl (two_of HT_.out (by kernel_rfl)) (by decide) (by decide) (fun K hK => ?_) (fun K hK => ?_)
                 ·skip
                  refine Kd.R_append_rows_step k40 (w0 := w) w.heap.size (by rfl) (.tmp 28) (.tmp 36) 28 40 (.agg #[(.int .i64 0), (.int .i64 0), (.string ⟨#[]⟩)]) 32 rfl Try.underlying28 info40 rfl (by decide) (by omega) v178 y177 y180 _ _ _ (fun k_ => some k_ ≠ (v188 : Value).ownBlock ∧ k_ ≠ gb172) (fun _ => False) rfl rfl ?aO ?aR (fun _ _ h => h) (fun _ h => h.elim) ?aF ?aB ?aS ?aL ?_
                  (case aR => repeat (first | exact (Kd.C_below HR183.out HB.out) | (with_reducible refine cA ?_ _) | (with_reducible refine cN ?_ _) | (with_reducible refine cD ?_)))
                  (case aB => exact (uL HB))
                  (case aF => exact (fun k_ hk => ⟨Kd.fresh' (Kd.R_lt (uR HO189)) k_ hk, Kd.freshB (g := gb172) (o := .cells #[.int .i64 a2_0, .int .i64 a2_1, .string a2_2] 40 (0, 0)) (uB BK172) k_ hk⟩))
                  (case aO => exact (uR HO179))
                  (case aS => exact (below_size (uL HB)))
                  (case aL => have := LMc24.out; omega)
                  intro v185 w60 ho hb hg hat
                  rw [← Ny184.out] at ho
                  have n0_ := aM (blk_grown (g := gb171) (o := .cells #[.int .i64 a0_0, .int .i64 a0_1, .slice A0_2 l0_2.length c0_2] 30 (0, 0)) (uB BK171) hg (Kd.R_ne HO179.out BK171.out (by decide)))
                  have n1_ := aM (blk_grown (g := gb172) (o := .cells #[.int .i64 a2_0, .int .i64 a2_1, .string a2_2] 40 (0, 0)) (uB BK172) hg (Kd.R_away HO179.out (fun _ hk => hk.2)))
                  have n2_ := aM (blk_grown (g := gb173) (o := .cells #[.int .i64 0, .int .i64 0, .slice none 0 0] 30 (0, 0)) (uB BK173) hg (Kd.R_ne HO179.out BK173.out (by decide)))
                  have n3_ := aM (Kd.R_after (ok := (fun k_ => k_ ≠ gb172)) (by (with_reducible repeat first | apply rA | apply rN | apply rD); exact Kd.R_mono HO189.out (fun _ hk => ⟨hk.2, hk.1⟩)) hg hat)
                  have n4_ := aM (hb)
                  have n5_ := aM (ho)
                  clear BK171 BK172 BK173 HO189 HB HO179; have BK171 := n0_; have BK172 := n1_; have BK173 := n2_; have HO189 := n3_; have HB := n4_; have HO186 := n5_; clear n0_ n1_ n2_ n3_ n4_ n5_ ho hb hg hat
                  refine hK.out _ _ ⟨(blk_cell BK171.out 0).trans rfl, (blk_cell BK171.out 1).trans rfl, (blk_cell BK171.out 2).trans rfl, (blk_cell BK172.out 0).trans rfl, (blk_cell BK172.out 1).trans rfl, (blk_cell BK172.out 2).trans rfl⟩ (fun hHeld => ?_)
                  clear hK K
                  refine nX 37 ?_
                  exact norm_ (by first | (simp only [putAll, Act.put, List.setIfInBounds_toArray, List.set_cons_zero, List.set_cons_succ]; done) | (simp only [putAll, Act.put, List.setIfInBounds_toArray, List.set_cons_zero, List.set_cons_succ]; rfl)) (hJ4_13_15 (v178, v185, v188) _ ⟨hHeld, (uR HO186), (by (with_reducible repeat first | apply rA | apply rN | apply rD); exact Kd.R_mono HO189.out (fun _ hk => ⟨hk.2, hk.1⟩)), (uB BK171), (uB BK172), (uB BK173), (uL HB)⟩)
                 ·skip
                  refine bxS 8 #[.int .i64 0, .int .i64 0, .slice none 0 0] 30 ?_
                  intro gb193 hg w60 hbox hb
                  have n0_ := aM (Kd.R_below (uR HO179) hb); have n1_ := aM (Kd.R_below (uR HO189) hb); have n2_ := blkB BK171 hb; have n3_ := blkB BK172 hb; have n4_ := blkB BK173 hb
                  have n5_ := aM (below_step (uL HB) hb)
                  have n6_ := aM (hbox)
                  have n7_ := szG hg (uL HB); have n8_ := szG hg (uL HB); have n9_ := neL hg BK171; have n10_ := neG hg BK171; have n11_ := neL hg BK172; have n12_ := neG hg BK172; have n13_ := neL hg BK173; have n14_ := neG hg BK173; clear HO179 HO189 BK171 BK172 BK173 HB; have HO179 := n0_; have HO189 := n1_; have BK171 := n2_; have BK172 := n3_; have BK173 := n4_; have HB := n5_; have BK193 := n6_; have GW193 := n7_; have GE193 := n8_; have NB171_193 := n9_; have NB193_171 := n10_; have NB172_193 := n11_; have NB193_172 := n12_; have NB173_193 := n13_; have NB193_173 := n14_; clear n0_ n1_ n2_ n3_ n4_ n5_ n6_ n7_ n8_ n9_ n10_ n11_ n12_ n13_ n14_ hb hbox hg
                  refine hK.out _ _ ⟨(blk_cell BK171.out 0).trans rfl, (blk_cell BK171.out 1).trans rfl, (blk_cell BK171.out 2).trans rfl, (blk_cell BK172.out 0).trans rfl, (blk_cell BK172.out 1).trans rfl, (blk_cell BK172.out 2).trans rfl⟩ (fun hHeld => ?_)
                  clear hK K
                  refine nX 8 ?_
                  exact norm_ (by first | (simp only [putAll, Act.put, List.setIfInBounds_toArray, List.set_cons_zero, List.set_cons_succ]; done) | (simp only [putAll, Act.put, List.setIfInBounds_toArray, List.set_cons_zero, List.set_cons_succ]; rfl)) (hJ4_15_18 (v178, v188, gb193) _ ⟨hHeld, (uR HO179), (uR HO189), (uB BK171), (uB BK172), (uB BK173), (uB BK193), GW193.out, GE193.out, NB171_193.out, NB193_171.out, NB172_193.out, NB193_172.out, NB173_193.out, NB193_173.out, (uL HB)⟩)
               ·skip
                rintro ⟨v178, v185⟩ w58 ⟨hS_, h0_, h1_, h2_, h3_, h4_⟩
                have n0_ : Aside0 (Kd.R k40 40 w58 w.heap.size (fun k_ => k_ ≠ gb172) v185 y184) := ⟨h0_⟩
                have n1_ : Aside0 (w58.heap[gb171]? = some (.cells #[.int .i64 a0_0, .int .i64 a0_1, .slice A0_2 l0_2.length c0_2] 30 (0, 0))) := ⟨h1_⟩
                have n2_ : Aside0 (w58.heap[gb172]? = some (.cells #[.int .i64 a2_0, .int .i64 a2_1, .string a2_2] 40 (0, 0))) := ⟨h2_⟩
                have n3_ : Aside0 (w58.heap[gb173]? = some (.cells #[.int .i64 0, .int .i64 0, .slice none 0 0] 30 (0, 0))) := ⟨h3_⟩
                have n4_ : Aside0 (Below w.heap.size w w58) := ⟨h4_⟩
                clear BK171 BK172 BK173 HB h0_ h1_ h2_ h3_ h4_; have HO186 := n0_; have BK171 := n1_; have BK172 := n2_; have BK173 := n3_; have HB := n4_; clear n0_ n1_ n2_ n3_ n4_
                have hHeld : w58.cell? ⟨gb171, 0, none⟩ = some (.int .i64 a0_0) ∧ w58.cell? ⟨gb171, 1, none⟩ = some (.int .i64 a0_1) ∧ w58.cell? ⟨gb171, 2, none⟩ = some (.slice A0_2 l0_2.length c0_2) ∧ w58.cell? ⟨gb172, 0, none⟩ = some (.int .i64 a2_0) ∧ w58.cell? ⟨gb172, 1, none⟩ = some (.int .i64 a2_1) ∧ w58.cell? ⟨gb172, 2, none⟩ = some (.string a2_2) := hS_
                refine norm_ (a' := ?_) ?_ ?_
                rotate_left
                ·simp only [putAll, Act.put, List.setIfInBounds_toArray, List.set_cons_zero, List.set_cons_succ]
                 rfl
                refine two_ (i := 15) (j := 18) (Ni := some 39) (Nj := some 8) #[true, true, true, true, true, true, true, true, true, true, true, true, true, true, true, true, false, false, false, false] #[true, true, true, true, true, true, true, true, true, true, true, true, true, true, true, false, false, false, true, false] rfl rfl rfl rfl (two_of HT_.out (by kernel_rfl)) (by decide) (by decide) (fun K hK => ?_) (fun K hK => ?_)
                ·skip
                 refine Kd.R_lit_step k40 _ 40 ?hg (N := 39) ?hd (xs := ([(⟨a2_0, a2_1, a2_2⟩ : S40)] : List (S40))) (inner := [.int .i64 a2_0, .int .i64 a2_1, .string a2_2]) (ok := fun _ => True) (okp := fun _ => True) ?hr ?hp (fun _ hk => hk) trivial (Below.refl _ _) (Nat.le_refl _) (by simp) ?_; (case hd => rfl); (case hg => rfl); (case hr => first | (go_simp; done) | (go_simp; rfl)); (case hp => exact (Reps.c3 (show Kd.M k40 _ _ _ (⟨a2_0, a2_1, a2_2⟩ : S40) [.int .i64 a2_0, .int .i64 a2_1, .string a2_2] from (k40_mkM _ _ _ (⟨a2_0, a2_1, a2_2⟩ : S40) )) (Reps.none _ _)))
                 intro v188 w59 ho60 hb hg_ hnew_
                 clear hg_ hnew_
                 (first | rw [← Ny187.out] at ho60 | (simp only [Int.reduceToNat] at ho60; rw [← Ny187.out] at ho60))
                 have n0_ := aM (Kd.R_elder' (uR HO186) (Kd.R_base ho60) hb)
                 have n1_ := aM (Kd.R_lower (Kd.R_newB (Kd.R_new' ho60 (Kd.R_lt (uR HO186))) (g := gb172) (o := .cells #[.int .i64 a2_0, .int .i64 a2_1, .string a2_2] 40 (0, 0)) (uB BK172)) (below_size (uL HB)))
                 have n2_ := blkB BK171 hb; have n3_ := blkB BK172 hb; have n4_ := blkB BK173 hb
                 have n5_ := aM (below_step (uL HB) hb)
                 clear HO186 BK171 BK172 BK173 HB; have HO186 := n0_; have HO189 := n1_; have BK171 := n2_; have BK172 := n3_; have BK173 := n4_; have HB := n5_; clear n0_ n1_ n2_ n3_ n4_ n5_ hb ho60
                 refine hK.out _ _ ⟨(blk_cell BK171.out 0).trans rfl, (blk_cell BK171.out 1).trans rfl, (blk_cell BK171.out 2).trans rfl, (blk_cell BK172.out 0).trans rfl, (blk_cell BK172.out 1).trans rfl, (blk_cell BK172.out 2).trans rfl⟩ (fun hHeld => ?_)
                 clear hK K
                 refine nX 39 ?_
                 exact norm_ (by first | (simp only [putAll, Act.put, List.setIfInBounds_toArray, List.set_cons_zero, List.set_cons_succ]; done) | (simp only [putAll, Act.put, List.setIfInBounds_toArray, List.set_cons_zero, List.set_cons_succ]; rfl)) (hJ4_13_15 (v178, v185, v188) _ ⟨hHeld, (by (with_reducible repeat first | apply rA | apply rN | apply rD); exact Kd.R_mono HO186.out (fun _ hk => ⟨hk.2, hk.1⟩)), (by (with_reducible repeat first | apply rA | apply rN | apply rD); exact Kd.R_mono HO189.out (fun _ hk => ⟨hk.1.2, hk.2⟩)), (uB BK171), (uB BK172), (uB BK173), (uL HB)⟩)
                ·skip
                 refine bxS 8 #[.int .i64 0, .int .i64 0, .slice none 0 0] 30 ?_
                 intro gb193 hg w59 hbox hb
                 have n0_ := aM (Kd.R_below (uR HO186) hb); have n1_ := blkB BK171 hb; have n2_ := blkB BK172 hb; have n3_ := blkB BK173 hb
                 have n4_ := aM (below_step (uL HB) hb)
                 have n5_ := aM (hbox)
                 have n6_ := szG hg (uL HB); have n7_ := szG hg (uL HB); have n8_ := neL hg BK171; have n9_ := neG hg BK171; have n10_ := neL hg BK172; have n11_ := neG hg BK172; have n12_ := neL hg BK173; have n13_ := neG hg BK173; clear HO186 BK171 BK172 BK173 HB; have HO186 := n0_; have BK171 := n1_; have BK172 := n2_; have BK173 := n3_; have HB := n4_; have BK193 := n5_; have GW193 := n6_; have GE193 := n7_; have NB171_193 := n8_; have NB193_171 := n9_; have NB172_193 := n10_; have NB193_172 := n11_; have NB173_193 := n12_; have NB193_173 := n13_; clear n0_ n1_ n2_ n3_ n4_ n5_ n6_ n7_ n8_ n9_ n10_ n11_ n12_ n13_ hb hbox hg
                 refine hK.out _ _ ⟨(blk_cell BK171.out 0).trans rfl, (blk_cell BK171.out 1).trans rfl, (blk_cell BK171.out 2).trans rfl, (blk_cell BK172.out 0).trans rfl, (blk_cell BK172.out 1).trans rfl, (blk_cell BK172.out 2).trans rfl⟩ (fun hHeld => ?_)
                 clear hK K
                 refine nX 8 ?_
                 exact norm_ (by first | (simp only [putAll, Act.put, List.setIfInBounds_toArray, List.set_cons_zero, List.set_cons_succ]; done) | (simp only [putAll, Act.put, List.setIfInBounds_toArray, List.set_cons_zero, List.set_cons_succ]; rfl)) (hJ4_13_18 (v178, v185, gb193) _ ⟨hHeld, (uR HO186), (uB BK171), (uB BK172), (uB BK173), (uB BK193), GW193.out, GE193.out, NB171_193.out, NB193_171.out, NB172_193.out, NB193_172.out, NB173_193.out, NB193_173.out, (uL HB)⟩)
              ·skip
               rintro ⟨v178, v188, gb193⟩ w60 ⟨hS_, h0_, h1_, h2_, h3_, h4_, h5_, h6_, h7_, h8_, h9_, h10_, h11_, h12_, h13_, h14_⟩
               have n0_ : Aside0 (Kd.R k40 40 w60 w.heap.size (fun k_ => some k_ ≠ (v188 : Value).ownBlock ∧ k_ ≠ gb172) v178 y177) := ⟨h0_⟩
               have n1_ : Aside0 (Kd.R k40 40 w60 w.heap.size (fun k_ => some k_ ≠ (v178 : Value).ownBlock ∧ k_ ≠ gb172) v188 y187) := ⟨h1_⟩
               have n2_ : Aside0 (w60.heap[gb171]? = some (.cells #[.int .i64 a0_0, .int .i64 a0_1, .slice A0_2 l0_2.length c0_2] 30 (0, 0))) := ⟨h2_⟩
               have n3_ : Aside0 (w60.heap[gb172]? = some (.cells #[.int .i64 a2_0, .int .i64 a2_1, .string a2_2] 40 (0, 0))) := ⟨h3_⟩
               have n4_ : Aside0 (w60.heap[gb173]? = some (.cells #[.int .i64 0, .int .i64 0, .slice none 0 0] 30 (0, 0))) := ⟨h4_⟩
               have n5_ : Aside0 (w60.heap[gb193]? = some (.cells #[.int .i64 0, .int .i64 0, .slice none 0 0] 30 (0, 0))) := ⟨h5_⟩
               have n6_ : Aside0 (w.heap.size ≤ gb193) := ⟨h6_⟩
               have n7_ : Aside0 (w.heap.size ≤ gb193) := ⟨h7_⟩
               have n8_ : Aside0 (gb171 ≠ gb193) := ⟨h8_⟩
               have n9_ : Aside0 (gb193 ≠ gb171) := ⟨h9_⟩
               have n10_ : Aside0 (gb172 ≠ gb193) := ⟨h10_⟩
               have n11_ : Aside0 (gb193 ≠ gb172) := ⟨h11_⟩
               have n12_ : Aside0 (gb173 ≠ gb193) := ⟨h12_⟩
               have n13_ : Aside0 (gb193 ≠ gb173) := ⟨h13_⟩
               have n14_ : Aside0 (Below w.heap.size w w60) := ⟨h14_⟩
               clear BK171 BK172 BK173 HB h0_ h1_ h2_ h3_ h4_ h5_ h6_ h7_ h8_ h9_ h10_ h11_ h12_ h13_ h14_; have HO179 := n0_; have HO189 := n1_; have BK171 := n2_; have BK172 := n3_; have BK173 := n4_; have BK193 := n5_; have GW193 := n6_; have GE193 := n7_; have NB171_193 := n8_; have NB193_171 := n9_; have NB172_193 := n10_; have NB193_172 := n11_; have NB173_193 := n12_; have NB193_173 := n13_; have HB := n14_; clear n0_ n1_ n2_ n3_ n4_ n5_ n6_ n7_ n8_ n9_ n10_ n11_ n12_ n13_ n14_
               have hHeld : w60.cell? ⟨gb171, 0, none⟩ = some (.int .i64 a0_0) ∧ w60.cell? ⟨gb171, 1, none⟩ = some (.int .i64 a0_1) ∧ w60.cell? ⟨gb171, 2, none⟩ = some (.slice A0_2 l0_2.length c0_2) ∧ w60.cell? ⟨gb172, 0, none⟩ = some (.int .i64 a2_0) ∧ w60.cell? ⟨gb172, 1, none⟩ = some (.int .i64 a2_1) ∧ w60.cell? ⟨gb172, 2, none⟩ = some (.string a2_2) := hS_
               refine norm_ (a' := ?_) ?_ ?_
               rotate_left
               ·simp only [putAll, Act.put, List.setIfInBounds_toArray, List.set_cons_zero, List.set_cons_succ]
                rfl
               refine oA HT_.out 13 (some 37) 20 327679 (fun K hK => ?_)
               refine Kd.R_append_rows_step k40 (w0 := w) w.heap.size (by rfl) (.tmp 28) (.tmp 36) 28 40 (.agg #[(.int .i64 0), (.int .i64 0), (.string ⟨#[]⟩)]) 32 rfl Try.underlying28 info40 rfl (by decide) (by omega) v178 y177 y180 _ _ _ (fun k_ => some k_ ≠ (v188 : Value).ownBlock ∧ k_ ≠ gb172) (fun _ => False) rfl rfl ?aO ?aR (fun _ _ h => h) (fun _ h => h.elim) ?aF ?aB ?aS ?aL ?_
               (case aR => repeat (first | exact (Kd.C_below HR183.out HB.out) | (with_reducible refine cA ?_ _) | (with_reducible refine cN ?_ _) | (with_reducible refine cD ?_)))
               (case aB => exact (uL HB))
               (case aF => exact (fun k_ hk => ⟨Kd.fresh' (Kd.R_lt (uR HO189)) k_ hk, Kd.freshB (g := gb172) (o := .cells #[.int .i64 a2_0, .int .i64 a2_1, .string a2_2] 40 (0, 0)) (uB BK172) k_ hk⟩))
               (case aO => exact (uR HO179))
               (case aS => exact (below_size (uL HB)))
               (case aL => have := LMc24.out; omega)
               intro v185 w61 ho hb hg hat
               rw [← Ny184.out] at ho
               have n0_ := aM (blk_grown (g := gb171) (o := .cells #[.int .i64 a0_0, .int .i64 a0_1, .slice A0_2 l0_2.length c0_2] 30 (0, 0)) (uB BK171) hg (Kd.R_ne HO179.out BK171.out (by decide)))
               have n1_ := aM (blk_grown (g := gb172) (o := .cells #[.int .i64 a2_0, .int .i64 a2_1, .string a2_2] 40 (0, 0)) (uB BK172) hg (Kd.R_away HO179.out (fun _ hk => hk.2)))
               have n2_ := aM (blk_grown (g := gb173) (o := .cells #[.int .i64 0, .int .i64 0, .slice none 0 0] 30 (0, 0)) (uB BK173) hg (Kd.R_ne HO179.out BK173.out (by decide)))
               have n3_ := aM (Kd.R_after (ok := (fun k_ => k_ ≠ gb172)) (by (with_reducible repeat first | apply rA | apply rN | apply rD); exact Kd.R_mono HO189.out (fun _ hk => ⟨hk.2, hk.1⟩)) hg hat)
               have n4_ := aM (blk_grown (g := gb193) (o := .cells #[.int .i64 0, .int .i64 0, .slice none 0 0] 30 (0, 0)) (uB BK193) hg (Kd.R_ne HO179.out BK193.out (by decide)))
               have n5_ := aM (hb)
               have n6_ := aM (ho)
               clear BK171 BK172 BK173 HO189 BK193 HB HO179; have BK171 := n0_; have BK172 := n1_; have BK173 := n2_; have HO189 := n3_; have BK193 := n4_; have HB := n5_; have HO186 := n6_; clear n0_ n1_ n2_ n3_ n4_ n5_ n6_ ho hb hg hat
               refine hK.out _ _ ⟨(blk_cell BK171.out 0).trans rfl, (blk_cell BK171.out 1).trans rfl, (blk_cell BK171.out 2).trans rfl, (blk_cell BK172.out 0).trans rfl, (blk_cell BK172.out 1).trans rfl, (blk_cell BK172.out 2).trans rfl⟩ (fun hHeld => ?_)
               clear hK K
               refine nX 37 ?_
               exact norm_ (by first | (simp only [putAll, Act.put, List.setIfInBounds_toArray, List.set_cons_zero, List.set_cons_succ]; done) | (simp only [putAll, Act.put, List.setIfInBounds_toArray, List.set_cons_zero, List.set_cons_succ]; rfl)) (hJ4_13_15_18 (v178, v185, v188, gb193) _ ⟨hHeld, (uR HO186), (by (with_reducible repeat first | apply rA | apply rN | apply rD); exact Kd.R_mono HO189.out (fun _ hk => ⟨hk.2, hk.1⟩)), (uB BK171), (uB BK172), (uB BK173), (uB BK193), GW193.out, GE193.out, NB171_193.out, NB193_171.out, NB172_193.out, NB193_172.out, NB173_193.out, NB193_173.out, (uL HB)⟩)
             ·skip
              rintro ⟨v178, v185, gb193⟩ w59 ⟨hS_, h0_, h1_, h2_, h3_, h4_, h5_, h6_, h7_, h8_, h9_, h10_, h11_, h12_, h13_⟩
              have n0_ : Aside0 (Kd.R k40 40 w59 w.heap.size (fun k_ => k_ ≠ gb172) v185 y184) := ⟨h0_⟩
              have n1_ : Aside0 (w59.heap[gb171]? = some (.cells #[.int .i64 a0_0, .int .i64 a0_1, .slice A0_2 l0_2.length c0_2] 30 (0, 0))) := ⟨h1_⟩
              have n2_ : Aside0 (w59.heap[gb172]? = some (.cells #[.int .i64 a2_0, .int .i64 a2_1, .string a2_2] 40 (0, 0))) := ⟨h2_⟩
              have n3_ : Aside0 (w59.heap[gb173]? = some (.cells #[.int .i64 0, .int .i64 0, .slice none 0 0] 30 (0, 0))) := ⟨h3_⟩
              have n4_ : Aside0 (w59.heap[gb193]? = some (.cells #[.int .i64 0, .int .i64 0, .slice none 0 0] 30 (0, 0))) := ⟨h4_⟩
              have n5_ : Aside0 (w.heap.size ≤ gb193) := ⟨h5_⟩
              have n6_ : Aside0 (w.heap.size ≤ gb193) := ⟨h6_⟩
              have n7_ : Aside0 (gb171 ≠ gb193) := ⟨h7_⟩
              have n8_ : Aside0 (gb193 ≠ gb171) := ⟨h8_⟩
              have n9_ : Aside0 (gb172 ≠ gb193) := ⟨h9_⟩
              have n10_ : Aside0 (gb193 ≠ gb172) := ⟨h10_⟩
              have n11_ : Aside0 (gb173 ≠ gb193) := ⟨h11_⟩
              have n12_ : Aside0 (gb193 ≠ gb173) := ⟨h12_⟩
              have n13_ : Aside0 (Below w.heap.size w w59) := ⟨h13_⟩
              clear BK171 BK172 BK173 HB h0_ h1_ h2_ h3_ h4_ h5_ h6_ h7_ h8_ h9_ h10_ h11_ h12_ h13_; have HO186 := n0_; have BK171 := n1_; have BK172 := n2_; have BK173 := n3_; have BK193 := n4_; have GW193 := n5_; have GE193 := n6_; have NB171_193 := n7_; have NB193_171 := n8_; have NB172_193 := n9_; have NB193_172 := n10_; have NB173_193 := n11_; have NB193_173 := n12_; have HB := n13_; clear n0_ n1_ n2_ n3_ n4_ n5_ n6_ n7_ n8_ n9_ n10_ n11_ n12_ n13_
              have hHeld : w59.cell? ⟨gb171, 0, none⟩ = some (.int .i64 a0_0) ∧ w59.cell? ⟨gb171, 1, none⟩ = some (.int .i64 a0_1) ∧ w59.cell? ⟨gb171, 2, none⟩ = some (.slice A0_2 l0_2.length c0_2) ∧ w59.cell? ⟨gb172, 0, none⟩ = some (.int .i64 a2_0) ∧ w59.cell? ⟨gb172, 1, none⟩ = some (.int .i64 a2_1) ∧ w59.cell? ⟨gb172, 2, none⟩ = some (.string a2_2) := hS_
              refine norm_ (a' := ?_) ?_ ?_
              rotate_left
              ·simp only [putAll, Act.put, List.setIfInBounds_toArray, List.set_cons_zero, List.set_cons_succ]
               rfl
              refine oA HT_.out 15 (some 39) 20 327679 (fun K hK => ?_)
              refine Kd.R_lit_step k40 _ 40 ?hg (N := 39) ?hd (xs := ([(⟨a2_0, a2_1, a2_2⟩ : S40)] : List (S40))) (inner := [.int .i64 a2_0, .int .i64 a2_1, .string a2_2]) (ok := fun _ => True) (okp := fun _ => True) ?hr ?hp (fun _ hk => hk) trivial (Below.refl _ _) (Nat.le_refl _) (by simp) ?_; (case hd => rfl); (case hg => rfl); (case hr => first | (go_simp; done) | (go_simp; rfl)); (case hp => exact (Reps.c3 (show Kd.M k40 _ _ _ (⟨a2_0, a2_1, a2_2⟩ : S40) [.int .i64 a2_0, .int .i64 a2_1, .string a2_2] from (k40_mkM _ _ _ (⟨a2_0, a2_1, a2_2⟩ : S40) )) (Reps.none _ _)))
              intro v188 w60 ho61 hb hg_ hnew_
              clear hg_ hnew_
              (first | rw [← Ny187.out] at ho61 | (simp only [Int.reduceToNat] at ho61; rw [← Ny187.out] at ho61))
              have n0_ := aM (Kd.R_elder' (uR HO186) (Kd.R_base ho61) hb)
              have n1_ := aM (Kd.R_lower (Kd.R_newB (Kd.R_new' ho61 (Kd.R_lt (uR HO186))) (g := gb172) (o := .cells #[.int .i64 a2_0, .int .i64 a2_1, .string a2_2] 40 (0, 0)) (uB BK172)) (below_size (uL HB)))
              have n2_ := blkB BK171 hb; have n3_ := blkB BK172 hb; have n4_ := blkB BK173 hb; have n5_ := blkB BK193 hb
              have n6_ := aM (below_step (uL HB) hb)
              clear HO186 BK171 BK172 BK173 BK193 HB; have HO186 := n0_; have HO189 := n1_; have BK171 := n2_; have BK172 := n3_; have BK173 := n4_; have BK193 := n5_; have HB := n6_; clear n0_ n1_ n2_ n3_ n4_ n5_ n6_ hb ho61
              refine hK.out _ _ ⟨(blk_cell BK171.out 0).trans rfl, (blk_cell BK171.out 1).trans rfl, (blk_cell BK171.out 2).trans rfl, (blk_cell BK172.out 0).trans rfl, (blk_cell BK172.out 1).trans rfl, (blk_cell BK172.out 2).trans rfl⟩ (fun hHeld => ?_)
              clear hK K
              refine nX 39 ?_
              exact norm_ (by first | (simp only [putAll, Act.put, List.setIfInBounds_toArray, List.set_cons_zero, List.set_cons_succ]; done) | (simp only [putAll, Act.put, List.setIfInBounds_toArray, List.set_cons_zero, List.set_cons_succ]; rfl)) (hJ4_13_15_18 (v178, v185, v188, gb193) _ ⟨hHeld, (by (with_reducible repeat first | apply rA | apply rN | apply rD); exact Kd.R_mono HO186.out (fun _ hk => ⟨hk.2, hk.1⟩)), (by (with_reducible repeat first | apply rA | apply rN | apply rD); exact Kd.R_mono HO189.out (fun _ hk => ⟨hk.1.2, hk.2⟩)), (uB BK171), (uB BK172), (uB BK173), (uB BK193), GW193.out, GE193.out, NB171_193.out, NB193_171.out, NB172_193.out, NB193_172.out, NB173_193.out, NB193_173.out, (uL HB)⟩)
            ·skip
             rintro ⟨v178, v185, v188⟩ w60 ⟨hS_, h0_, h1_, h2_, h3_, h4_, h5_⟩
             have n0_ : Aside0 (Kd.R k40 40 w60 w.heap.size (fun k_ => some k_ ≠ (v188 : Value).ownBlock ∧ k_ ≠ gb172) v185 y184) := ⟨h0_⟩
             have n1_ : Aside0 (Kd.R k40 40 w60 w.heap.size (fun k_ => some k_ ≠ (v185 : Value).ownBlock ∧ k_ ≠ gb172) v188 y187) := ⟨h1_⟩
             have n2_ : Aside0 (w60.heap[gb171]? = some (.cells #[.int .i64 a0_0, .int .i64 a0_1, .slice A0_2 l0_2.length c0_2] 30 (0, 0))) := ⟨h2_⟩
             have n3_ : Aside0 (w60.heap[gb172]? = some (.cells #[.int .i64 a2_0, .int .i64 a2_1, .string a2_2] 40 (0, 0))) := ⟨h3_⟩
             have n4_ : Aside0 (w60.heap[gb173]? = some (.cells #[.int .i64 0, .int .i64 0, .slice none 0 0] 30 (0, 0))) := ⟨h4_⟩
             have n5_ : Aside0 (Below w.heap.size w w60) := ⟨h5_⟩
             clear BK171 BK172 BK173 HB h0_ h1_ h2_ h3_ h4_ h5_; have HO186 := n0_; have HO189 := n1_; have BK171 := n2_; have BK172 := n3_; have BK173 := n4_; have HB := n5_; clear n0_ n1_ n2_ n3_ n4_ n5_
             have hHeld : w60.cell? ⟨gb171, 0, none⟩ = some (.int .i64 a0_0) ∧ w60.cell? ⟨gb171, 1, none⟩ = some (.int .i64 a0_1) ∧ w60.cell? ⟨gb171, 2, none⟩ = some (.slice A0_2 l0_2.length c0_2) ∧ w60.cell? ⟨gb172, 0, none⟩ = some (.int .i64 a2_0) ∧ w60.cell? ⟨gb172, 1, none⟩ = some (.int .i64 a2_1) ∧ w60.cell? ⟨gb172, 2, none⟩ = some (.string a2_2) := hS_
             obtain ⟨Ao62, co62, eo62⟩ := Kd.R_slice HO189.out
             (first | subst eo62 | (injection eo62 with f1_ f2_ f3_; have f4_ := f1_.symm; have f5_ := f3_.symm; clear f1_ f2_ f3_; subst f4_; subst f5_))
             refine norm_ (a' := ?_) ?_ ?_
             rotate_left
             ·simp only [putAll, Act.put, List.setIfInBounds_toArray, List.set_cons_zero, List.set_cons_succ]
              rfl
             refine two_ (i := 16) (j := 18) (Ni := some 40) (Nj := some 8) #[true, true, true, true, true, true, true, true, true, true, true, true, true, true, true, true, true, false, false, false] #[true, true, true, true, true, true, true, true, true, true, true, true, true, true, true, true, false, false, true, false] rfl rfl rfl rfl (two_of HT_.out (by kernel_rfl)) (by decide) (by decide) (fun K hK => ?_) (fun K hK => ?_)
             ·skip
              refine Kd.R_append_rows_step k40 (w0 := w) w.heap.size (by rfl) (.tmp 37) (.tmp 39) 28 40 (.agg #[(.int .i64 0), (.int .i64 0), (.string ⟨#[]⟩)]) 32 rfl Try.underlying28 info40 rfl (by decide) (by omega) v185 y184 y187 _ _ _ (fun k_ => some k_ ≠ (.slice Ao62 y187.length co62 : Value).ownBlock ∧ k_ ≠ gb172) (fun _ => False) rfl rfl ?aO ?aR (fun _ _ h => h) (fun _ h => h.elim) ?aF ?aB ?aS ?aL ?_
              (case aR => repeat (first | exact (Kd.R_reads' HO189.out).2.2 | (with_reducible refine cA ?_ _) | (with_reducible refine cN ?_ _) | (with_reducible refine cD ?_)))
              (case aB => exact (uL HB))
              (case aF => exact (fun k_ hk => ⟨Kd.fresh' (Kd.R_lt (uR HO189)) k_ hk, Kd.freshB (g := gb172) (o := .cells #[.int .i64 a2_0, .int .i64 a2_1, .string a2_2] 40 (0, 0)) (uB BK172) k_ hk⟩))
              (case aO => exact (uR HO186))
              (case aS => exact (below_size (uL HB)))
              (case aL => have := LMc25.out; omega)
              intro v191 w61 ho hb hg hat
              rw [← Ny190.out] at ho
              have n0_ := aM (blk_grown (g := gb171) (o := .cells #[.int .i64 a0_0, .int .i64 a0_1, .slice A0_2 l0_2.length c0_2] 30 (0, 0)) (uB BK171) hg (Kd.R_ne HO186.out BK171.out (by decide)))
              have n1_ := aM (blk_grown (g := gb172) (o := .cells #[.int .i64 a2_0, .int .i64 a2_1, .string a2_2] 40 (0, 0)) (uB BK172) hg (Kd.R_away HO186.out (fun _ hk => hk.2)))
              have n2_ := aM (blk_grown (g := gb173) (o := .cells #[.int .i64 0, .int .i64 0, .slice none 0 0] 30 (0, 0)) (uB BK173) hg (Kd.R_ne HO186.out BK173.out (by decide)))
              have n3_ := aM (Kd.R_after (ok := (fun k_ => k_ ≠ gb172)) (by (with_reducible repeat first | apply rA | apply rN | apply rD); exact Kd.R_mono HO189.out (fun _ hk => ⟨hk.2, hk.1⟩)) hg hat)
              have n4_ := aM (hb)
              have n5_ := aM (ho)
              clear BK171 BK172 BK173 HO189 HB HO186; have BK171 := n0_; have BK172 := n1_; have BK173 := n2_; have HO189 := n3_; have HB := n4_; have HO192 := n5_; clear n0_ n1_ n2_ n3_ n4_ n5_ ho hb hg hat
              obtain ⟨Ao63, co63, eo63⟩ := Kd.R_slice HO192.out
              (first | subst eo63 | (injection eo63 with f1_ f2_ f3_; have f4_ := f1_.symm; have f5_ := f3_.symm; clear f1_ f2_ f3_; subst f4_; subst f5_))
              refine hK.out _ _ ⟨(blk_cell BK171.out 0).trans rfl, (blk_cell BK171.out 1).trans rfl, (blk_cell BK171.out 2).trans rfl, (blk_cell BK172.out 0).trans rfl, (blk_cell BK172.out 1).trans rfl, (blk_cell BK172.out 2).trans rfl⟩ (fun hHeld => ?_)
              clear hK K
              refine nX 40 ?_; refine pA HT_.out 17 41 20 262143 ?_
              exact norm_ (by first | (simp only [putAll, Act.put, List.setIfInBounds_toArray, List.set_cons_zero, List.set_cons_succ]; done) | (simp only [putAll, Act.put, List.setIfInBounds_toArray, List.set_cons_zero, List.set_cons_succ]; rfl)) (hJ4_13_15_16 (v178, v185, .slice Ao62 y187.length co62, .slice Ao63 y190.length co63) _ ⟨hHeld, (by (with_reducible repeat first | apply rA | apply rN | apply rD); exact Kd.R_mono HO189.out (fun _ hk => ⟨hk.2, hk.1⟩)), (uR HO192), (uB BK171), (uB BK172), (uB BK173), (uL HB)⟩)
             ·skip
              refine bxS 8 #[.int .i64 0, .int .i64 0, .slice none 0 0] 30 ?_
              intro gb193 hg w61 hbox hb
              have n0_ := aM (Kd.R_below (uR HO186) hb); have n1_ := aM (Kd.R_below (uR HO189) hb); have n2_ := blkB BK171 hb; have n3_ := blkB BK172 hb; have n4_ := blkB BK173 hb
              have n5_ := aM (below_step (uL HB) hb)
              have n6_ := aM (hbox)
              have n7_ := szG hg (uL HB); have n8_ := szG hg (uL HB); have n9_ := neL hg BK171; have n10_ := neG hg BK171; have n11_ := neL hg BK172; have n12_ := neG hg BK172; have n13_ := neL hg BK173; have n14_ := neG hg BK173; clear HO186 HO189 BK171 BK172 BK173 HB; have HO186 := n0_; have HO189 := n1_; have BK171 := n2_; have BK172 := n3_; have BK173 := n4_; have HB := n5_; have BK193 := n6_; have GW193 := n7_; have GE193 := n8_; have NB171_193 := n9_; have NB193_171 := n10_; have NB172_193 := n11_; have NB193_172 := n12_; have NB173_193 := n13_; have NB193_173 := n14_; clear n0_ n1_ n2_ n3_ n4_ n5_ n6_ n7_ n8_ n9_ n10_ n11_ n12_ n13_ n14_ hb hbox hg
              refine hK.out _ _ ⟨(blk_cell BK171.out 0).trans rfl, (blk_cell BK171.out 1).trans rfl, (blk_cell BK171.out 2).trans rfl, (blk_cell BK172.out 0).trans rfl, (blk_cell BK172.out 1).trans rfl, (blk_cell BK172.out 2).trans rfl⟩ (fun hHeld => ?_)
              clear hK K
              refine nX 8 ?_
              exact norm_ (by first | (simp only [putAll, Act.put, List.setIfInBounds_toArray, List.set_cons_zero, List.set_cons_succ]; done) | (simp only [putAll, Act.put, List.setIfInBounds_toArray, List.set_cons_zero, List.set_cons_succ]; rfl)) (hJ4_13_15_18 (v178, v185, .slice Ao62 y187.length co62, gb193) _ ⟨hHeld, (uR HO186), (uR HO189), (uB BK171), (uB BK172), (uB BK173), (uB BK193), GW193.out, GE193.out, NB171_193.out, NB193_171.out, NB172_193.out, NB193_172.out, NB173_193.out, NB193_173.out, (uL HB)⟩)
           ·skip
            rintro ⟨v178, v185, v188, gb193⟩ w61 ⟨hS_, h0_, h1_, h2_, h3_, h4_, h5_, h6_, h7_, h8_, h9_, h10_, h11_, h12_, h13_, h14_⟩
            have n0_ : Aside0 (Kd.R k40 40 w61 w.heap.size (fun k_ => some k_ ≠ (v188 : Value).ownBlock ∧ k_ ≠ gb172) v185 y184) := ⟨h0_⟩
            have n1_ : Aside0 (Kd.R k40 40 w61 w.heap.size (fun k_ => some k_ ≠ (v185 : Value).ownBlock ∧ k_ ≠ gb172) v188 y187) := ⟨h1_⟩
            have n2_ : Aside0 (w61.heap[gb171]? = some (.cells #[.int .i64 a0_0, .int .i64 a0_1, .slice A0_2 l0_2.length c0_2] 30 (0, 0))) := ⟨h2_⟩
            have n3_ : Aside0 (w61.heap[gb172]? = some (.cells #[.int .i64 a2_0, .int .i64 a2_1, .string a2_2] 40 (0, 0))) := ⟨h3_⟩
            have n4_ : Aside0 (w61.heap[gb173]? = some (.cells #[.int .i64 0, .int .i64 0, .slice none 0 0] 30 (0, 0))) := ⟨h4_⟩
            have n5_ : Aside0 (w61.heap[gb193]? = some (.cells #[.int .i64 0, .int .i64 0, .slice none 0 0] 30 (0, 0))) := ⟨h5_⟩
            have n6_ : Aside0 (w.heap.size ≤ gb193) := ⟨h6_⟩
            have n7_ : Aside0 (w.heap.size ≤ gb193) := ⟨h7_⟩
            have n8_ : Aside0 (gb171 ≠ gb193) := ⟨h8_⟩
            have n9_ : Aside0 (gb193 ≠ gb171) := ⟨h9_⟩
            have n10_ : Aside0 (gb172 ≠ gb193) := ⟨h10_⟩
            have n11_ : Aside0 (gb193 ≠ gb172) := ⟨h11_⟩
            have n12_ : Aside0 (gb173 ≠ gb193) := ⟨h12_⟩
            have n13_ : Aside0 (gb193 ≠ gb173) := ⟨h13_⟩
            have n14_ : Aside0 (Below w.heap.size w w61) := ⟨h14_⟩
            clear BK171 BK172 BK173 HB h0_ h1_ h2_ h3_ h4_ h5_ h6_ h7_ h8_ h9_ h10_ h11_ h12_ h13_ h14_; have HO186 := n0_; have HO189 := n1_; have BK171 := n2_; have BK172 := n3_; have BK173 := n4_; have BK193 := n5_; have GW193 := n6_; have GE193 := n7_; have NB171_193 := n8_; have NB193_171 := n9_; have NB172_193 := n10_; have NB193_172 := n11_; have NB173_193 := n12_; have NB193_173 := n13_; have HB := n14_; clear n0_ n1_ n2_ n3_ n4_ n5_ n6_ n7_ n8_ n9_ n10_ n11_ n12_ n13_ n14_
            have hHeld : w61.cell? ⟨gb171, 0, none⟩ = some (.int .i64 a0_0) ∧ w61.cell? ⟨gb171, 1, none⟩ = some (.int .i64 a0_1) ∧ w61.cell? ⟨gb171, 2, none⟩ = some (.slice A0_2 l0_2.length c0_2) ∧ w61.cell? ⟨gb172, 0, none⟩ = some (.int .i64 a2_0) ∧ w61.cell? ⟨gb172, 1, none⟩ = some (.int .i64 a2_1) ∧ w61.cell? ⟨gb172, 2, none⟩ = some (.string a2_2) := hS_
            obtain ⟨Ao63, co63, eo63⟩ := Kd.R_slice HO189.out
            (first | subst eo63 | (injection eo63 with f1_ f2_ f3_; have f4_ := f1_.symm; have f5_ := f3_.symm; clear f1_ f2_ f3_; subst f4_; subst f5_))
            refine norm_ (a' := ?_) ?_ ?_
            rotate_left
            ·simp only [putAll, Act.put, List.setIfInBounds_toArray, List.set_cons_zero, List.set_cons_succ]
             rfl
            refine oA HT_.out 16 (some 40) 20 393215 (fun K hK => ?_)
            refine Kd.R_append_rows_step k40 (w0 := w) w.heap.size (by rfl) (.tmp 37) (.tmp 39) 28 40 (.agg #[(.int .i64 0), (.int .i64 0), (.string ⟨#[]⟩)]) 32 rfl Try.underlying28 info40 rfl (by decide) (by omega) v185 y184 y187 _ _ _ (fun k_ => some k_ ≠ (.slice Ao63 y187.length co63 : Value).ownBlock ∧ k_ ≠ gb172) (fun _ => False) rfl rfl ?aO ?aR (fun _ _ h => h) (fun _ h => h.elim) ?aF ?aB ?aS ?aL ?_
            (case aR => repeat (first | exact (Kd.R_reads' HO189.out).2.2 | (with_reducible refine cA ?_ _) | (with_reducible refine cN ?_ _) | (with_reducible refine cD ?_)))
            (case aB => exact (uL HB))
            (case aF => exact (fun k_ hk => ⟨Kd.fresh' (Kd.R_lt (uR HO189)) k_ hk, Kd.freshB (g := gb172) (o := .cells #[.int .i64 a2_0, .int .i64 a2_1, .string a2_2] 40 (0, 0)) (uB BK172) k_ hk⟩))
            (case aO => exact (uR HO186))
            (case aS => exact (below_size (uL HB)))
            (case aL => have := LMc25.out; omega)
            intro v191 w62 ho hb hg hat
            rw [← Ny190.out] at ho
            have n0_ := aM (blk_grown (g := gb171) (o := .cells #[.int .i64 a0_0, .int .i64 a0_1, .slice A0_2 l0_2.length c0_2] 30 (0, 0)) (uB BK171) hg (Kd.R_ne HO186.out BK171.out (by decide)))
            have n1_ := aM (blk_grown (g := gb172) (o := .cells #[.int .i64 a2_0, .int .i64 a2_1, .string a2_2] 40 (0, 0)) (uB BK172) hg (Kd.R_away HO186.out (fun _ hk => hk.2)))
            have n2_ := aM (blk_grown (g := gb173) (o := .cells #[.int .i64 0, .int .i64 0, .slice none 0 0] 30 (0, 0)) (uB BK173) hg (Kd.R_ne HO186.out BK173.out (by decide)))
            have n3_ := aM (Kd.R_after (ok := (fun k_ => k_ ≠ gb172)) (by (with_reducible repeat first | apply rA | apply rN | apply rD); exact Kd.R_mono HO189.out (fun _ hk => ⟨hk.2, hk.1⟩)) hg hat)
            have n4_ := aM (blk_grown (g := gb193) (o := .cells #[.int .i64 0, .int .i64 0, .slice none 0 0] 30 (0, 0)) (uB BK193) hg (Kd.R_ne HO186.out BK193.out (by decide)))
            have n5_ := aM (hb)
            have n6_ := aM (ho)
            clear BK171 BK172 BK173 HO189 BK193 HB HO186; have BK171 := n0_; have BK172 := n1_; have BK173 := n2_; have HO189 := n3_; have BK193 := n4_; have HB := n5_; have HO192 := n6_; clear n0_ n1_ n2_ n3_ n4_ n5_ n6_ ho hb hg hat
            obtain ⟨Ao64, co64, eo64⟩ := Kd.R_slice HO192.out
            (first | subst eo64 | (injection eo64 with f1_ f2_ f3_; have f4_ := f1_.symm; have f5_ := f3_.symm; clear f1_ f2_ f3_; subst f4_; subst f5_))
            refine hK.out _ _ ⟨(blk_cell BK171.out 0).trans rfl, (blk_cell BK171.out 1).trans rfl, (blk_cell BK171.out 2).trans rfl, (blk_cell BK172.out 0).trans rfl, (blk_cell BK172.out 1).trans rfl, (blk_cell BK172.out 2).trans rfl⟩ (fun hHeld => ?_)
            clear hK K
            refine nX 40 ?_; refine pA HT_.out 17 41 20 524287 ?_
            exact norm_ (by first | (simp only [putAll, Act.put, List.setIfInBounds_toArray, List.set_cons_zero, List.set_cons_succ]; done) | (simp only [putAll, Act.put, List.setIfInBounds_toArray, List.set_cons_zero, List.set_cons_succ]; rfl)) (hJ4_13_15_16_18 (v178, v185, .slice Ao63 y187.length co63, .slice Ao64 y190.length co64, gb193) _ ⟨hHeld, (by (with_reducible repeat first | apply rA | apply rN | apply rD); exact Kd.R_mono HO189.out (fun _ hk => ⟨hk.2, hk.1⟩)), (uR HO192), (uB BK171), (uB BK172), (uB BK173), (uB BK193), GW193.out, GE193.out, NB171_193.out, NB193_171.out, NB172_193.out, NB193_172.out, NB173_193.out, NB193_173.out, (uL HB)⟩)
          ·skip
           rintro ⟨v178, v185, v188, v191⟩ w63 ⟨hS_, h0_, h1_, h2_, h3_, h4_, h5_⟩
           have n0_ : Aside0 (Kd.R k40 40 w63 w.heap.size (fun k_ => some k_ ≠ (v191 : Value).ownBlock ∧ k_ ≠ gb172) v188 y187) := ⟨h0_⟩
           have n1_ : Aside0 (Kd.R k40 40 w63 w.heap.size (fun k_ => some k_ ≠ (v188 : Value).ownBlock ∧ k_ ≠ gb172) v191 y190) := ⟨h1_⟩
           have n2_ : Aside0 (w63.heap[gb171]? = some (.cells #[.int .i64 a0_0, .int .i64 a0_1, .slice A0_2 l0_2.length c0_2] 30 (0, 0))) := ⟨h2_⟩
           have n3_ : Aside0 (w63.heap[gb172]? = some (.cells #[.int .i64 a2_0, .int .i64 a2_1, .string a2_2] 40 (0, 0))) := ⟨h3_⟩
           have n4_ : Aside0 (w63.heap[gb173]? = some (.cells #[.int .i64 0, .int .i64 0, .slice none 0 0] 30 (0, 0))) := ⟨h4_⟩
           have n5_ : Aside0 (Below w.heap.size w w63) := ⟨h5_⟩
           clear BK171 BK172 BK173 HB h0_ h1_ h2_ h3_ h4_ h5_; have HO189 := n0_; have HO192 := n1_; have BK171 := n2_; have BK172 := n3_; have BK173 := n4_; have HB := n5_; clear n0_ n1_ n2_ n3_ n4_ n5_
           have hHeld : w63.cell? ⟨gb171, 0, none⟩ = some (.int .i64 a0_0) ∧ w63.cell? ⟨gb171, 1, none⟩ = some (.int .i64 a0_1) ∧ w63.cell? ⟨gb171, 2, none⟩ = some (.slice A0_2 l0_2.length c0_2) ∧ w63.cell? ⟨gb172, 0, none⟩ = some (.int .i64 a2_0) ∧ w63.cell? ⟨gb172, 1, none⟩ = some (.int .i64 a2_1) ∧ w63.cell? ⟨gb172, 2, none⟩ = some (.string a2_2) := hS_
           obtain ⟨Ao64, co64, eo64⟩ := Kd.R_slice HO192.out
           (first | subst eo64 | (injection eo64 with f1_ f2_ f3_; have f4_ := f1_.symm; have f5_ := f3_.symm; clear f1_ f2_ f3_; subst f4_; subst f5_))
           refine norm_ (a' := ?_) ?_ ?_
           rotate_left
           ·simp only [putAll, Act.put, List.setIfInBounds_toArray, List.set_cons_zero, List.set_cons_succ]
            rfl
           refine oA HT_.out 18 (some 8) 20 524287 (fun K hK => ?_)
           refine bxS 8 #[.int .i64 0, .int .i64 0, .slice none 0 0] 30 ?_
           intro gb193 hg w65 hbox hb
           have n0_ := aM (Kd.R_below (uR HO189) hb); have n1_ := aM (Kd.R_below (uR HO192) hb); have n2_ := blkB BK171 hb; have n3_ := blkB BK172 hb; have n4_ := blkB BK173 hb
           have n5_ := aM (below_step (uL HB) hb)
           have n6_ := aM (hbox)
           have n7_ := szG hg (uL HB); have n8_ := szG hg (uL HB); have n9_ := neL hg BK171; have n10_ := neG hg BK171; have n11_ := neL hg BK172; have n12_ := neG hg BK172; have n13_ := neL hg BK173; have n14_ := neG hg BK173; clear HO189 HO192 BK171 BK172 BK173 HB; have HO189 := n0_; have HO192 := n1_; have BK171 := n2_; have BK172 := n3_; have BK173 := n4_; have HB := n5_; have BK193 := n6_; have GW193 := n7_; have GE193 := n8_; have NB171_193 := n9_; have NB193_171 := n10_; have NB172_193 := n11_; have NB193_172 := n12_; have NB173_193 := n13_; have NB193_173 := n14_; clear n0_ n1_ n2_ n3_ n4_ n5_ n6_ n7_ n8_ n9_ n10_ n11_ n12_ n13_ n14_ hb hbox hg
           refine hK.out _ _ ⟨(blk_cell BK171.out 0).trans rfl, (blk_cell BK171.out 1).trans rfl, (blk_cell BK171.out 2).trans rfl, (blk_cell BK172.out 0).trans rfl, (blk_cell BK172.out 1).trans rfl, (blk_cell BK172.out 2).trans rfl⟩ (fun hHeld => ?_)
           clear hK K
           refine nX 8 ?_
           exact norm_ (by first | (simp only [putAll, Act.put, List.setIfInBounds_toArray, List.set_cons_zero, List.set_cons_succ]; done) | (simp only [putAll, Act.put, List.setIfInBounds_toArray, List.set_cons_zero, List.set_cons_succ]; rfl)) (hJ4_13_15_16_18 (v178, v185, v188, .slice Ao64 y190.length co64, gb193) _ ⟨hHeld, (uR HO189), (uR HO192), (uB BK171), (uB BK172), (uB BK173), (uB BK193), GW193.out, GE193.out, NB171_193.out, NB193_171.out, NB172_193.out, NB193_172.out, NB173_193.out, NB193_173.out, (uL HB)⟩)
         rintro ⟨v178, v185, v188, v191, gb193⟩ w64 ⟨hS_, h0_, h1_, h2_, h3_, h4_, h5_, h6_, h7_, h8_, h9_, h10_, h11_, h12_, h13_, h14_⟩
         have n0_ : Aside0 (Kd.R k40 40 w64 w.heap.size (fun k_ => some k_ ≠ (v191 : Value).ownBlock ∧ k_ ≠ gb172) v188 y187) := ⟨h0_⟩
         have n1_ : Aside0 (Kd.R k40 40 w64 w.heap.size (fun k_ => some k_ ≠ (v188 : Value).ownBlock ∧ k_ ≠ gb172) v191 y190) := ⟨h1_⟩
         have n2_ : Aside0 (w64.heap[gb171]? = some (.cells #[.int .i64 a0_0, .int .i64 a0_1, .slice A0_2 l0_2.length c0_2] 30 (0, 0))) := ⟨h2_⟩
         have n3_ : Aside0 (w64.heap[gb172]? = some (.cells #[.int .i64 a2_0, .int .i64 a2_1, .string a2_2] 40 (0, 0))) := ⟨h3_⟩
         have n4_ : Aside0 (w64.heap[gb173]? = some (.cells #[.int .i64 0, .int .i64 0, .slice none 0 0] 30 (0, 0))) := ⟨h4_⟩
         have n5_ : Aside0 (w64.heap[gb193]? = some (.cells #[.int .i64 0, .int .i64 0, .slice none 0 0] 30 (0, 0))) := ⟨h5_⟩
         have n6_ : Aside0 (w.heap.size ≤ gb193) := ⟨h6_⟩
         have n7_ : Aside0 (w.heap.size ≤ gb193) := ⟨h7_⟩
         have n8_ : Aside0 (gb171 ≠ gb193) := ⟨h8_⟩
         have n9_ : Aside0 (gb193 ≠ gb171) := ⟨h9_⟩
         have n10_ : Aside0 (gb172 ≠ gb193) := ⟨h10_⟩
         have n11_ : Aside0 (gb193 ≠ gb172) := ⟨h11_⟩
         have n12_ : Aside0 (gb173 ≠ gb193) := ⟨h12_⟩
         have n13_ : Aside0 (gb193 ≠ gb173) := ⟨h13_⟩
         have n14_ : Aside0 (Below w.heap.size w w64) := ⟨h14_⟩
         clear BK171 BK172 BK173 HB h0_ h1_ h2_ h3_ h4_ h5_ h6_ h7_ h8_ h9_ h10_ h11_ h12_ h13_ h14_; have HO189 := n0_; have HO192 := n1_; have BK171 := n2_; have BK172 := n3_; have BK173 := n4_; have BK193 := n5_; have GW193 := n6_; have GE193 := n7_; have NB171_193 := n8_; have NB193_171 := n9_; have NB172_193 := n10_; have NB193_172 := n11_; have NB173_193 := n12_; have NB193_173 := n13_; have HB := n14_; clear n0_ n1_ n2_ n3_ n4_ n5_ n6_ n7_ n8_ n9_ n10_ n11_ n12_ n13_ n14_
         have hHeld : w64.cell? ⟨gb171, 0, none⟩ = some (.int .i64 a0_0) ∧ w64.cell? ⟨gb171, 1, none⟩ = some (.int .i64 a0_1) ∧ w64.cell? ⟨gb171, 2, none⟩ = some (.slice A0_2 l0_2.length c0_2) ∧ w64.cell? ⟨gb172, 0, none⟩ = some (.int .i64 a2_0) ∧ w64.cell? ⟨gb172, 1, none⟩ = some (.int .i64 a2_1) ∧ w64.cell? ⟨gb172, 2, none⟩ = some (.string a2_2) := hS_
         obtain ⟨Ao65, co65, eo65⟩ := Kd.R_slice HO192.out
         (first | subst eo65 | (injection eo65 with f1_ f2_ f3_; have f4_ := f1_.symm; have f5_ := f3_.symm; clear f1_ f2_ f3_; subst f4_; subst f5_))
         refine norm_ (a' := ?_) ?_ ?_
         rotate_left
         ·simp only [putAll, Act.put, List.setIfInBounds_toArray, List.set_cons_zero, List.set_cons_succ]
          rfl
         refine oA HT_.out 19 none 20 1048575 (fun K hK => ?_)
         have hs66 := czA BK193.out 0 (.int .i64 0)
         have hfs66 := blk_frozen BK193.out 0; have hns66_0 := NB171_193.out; have hns66_1 := NB172_193.out; have hns66_2 := NB173_193.out; have hms66_0 := NB193_171.out; have hms66_1 := NB193_172.out; have hms66_2 := NB193_173.out
         have hs67 := czA BK193.out 1 (.int .i64 0)
         have hfs67 := blk_frozen BK193.out 1; have hns67_0 := NB171_193.out; have hns67_1 := NB172_193.out; have hns67_2 := NB173_193.out; have hms67_0 := NB193_171.out; have hms67_1 := NB193_172.out; have hms67_2 := NB193_173.out
         have hs68 := czA BK193.out 2 (.slice none 0 0)
         have hfs68 := blk_frozen BK193.out 2; have hns68_0 := NB171_193.out; have hns68_1 := NB172_193.out; have hns68_2 := NB173_193.out; have hms68_0 := NB193_171.out; have hms68_1 := NB193_172.out; have hms68_2 := NB193_173.out
         refine skip_ (w1 := ?_) (by rfl) rfl ?_ ?_
         rotate_left
         ·go_simp
          rfl
         refine hK.out _ _ ⟨((cell_far (p := ⟨gb193, _, none⟩) NB171_193.out _).trans (((cell_far (p := ⟨gb193, _, none⟩) NB171_193.out _).trans (((cell_far (p := ⟨gb193, _, none⟩) NB171_193.out _).trans (hHeld.1)))))), ((cell_far (p := ⟨gb193, _, none⟩) NB171_193.out _).trans (((cell_far (p := ⟨gb193, _, none⟩) NB171_193.out _).trans (((cell_far (p := ⟨gb193, _, none⟩) NB171_193.out _).trans (hHeld.2.1)))))), ((cell_far (p := ⟨gb193, _, none⟩) NB171_193.out _).trans (((cell_far (p := ⟨gb193, _, none⟩) NB171_193.out _).trans (((cell_far (p := ⟨gb193, _, none⟩) NB171_193.out _).trans (hHeld.2.2.1)))))), ((cell_far (p := ⟨gb193, _, none⟩) NB172_193.out _).trans (((cell_far (p := ⟨gb193, _, none⟩) NB172_193.out _).trans (((cell_far (p := ⟨gb193, _, none⟩) NB172_193.out _).trans (hHeld.2.2.2.1)))))), ((cell_far (p := ⟨gb193, _, none⟩) NB172_193.out _).trans (((cell_far (p := ⟨gb193, _, none⟩) NB172_193.out _).trans (((cell_far (p := ⟨gb193, _, none⟩) NB172_193.out _).trans (hHeld.2.2.2.2.1)))))), ((cell_far (p := ⟨gb193, _, none⟩) NB172_193.out _).trans (((cell_far (p := ⟨gb193, _, none⟩) NB172_193.out _).trans (((cell_far (p := ⟨gb193, _, none⟩) NB172_193.out _).trans (hHeld.2.2.2.2.2))))))⟩ (fun hHeld => ?_)
         clear hK K
         refine done_ (done_of HT_.out (by kernel_rfl)) ?_
         have hnb69 := NB193_171.out; have hnc69 := NB171_193.out; have hnb70 := NB193_172.out; have hnc70 := NB172_193.out; have hnb71 := NB193_173.out; have hnc71 := NB173_193.out
         have hcz72_0 := czA BK193.out 0 (.int .i64 0)
         have hcz72_1 := czA BK193.out 1 (.int .i64 0)
         have hcz72_2 := czA BK193.out 2 (.slice none 0 0)
         have hfz72_0 := blk_frozen BK193.out 0; have hfz72_1 := blk_frozen BK193.out 1; have hfz72_2 := blk_frozen BK193.out 2
         try go_wp2_with (first | ((with_reducible refine gate_callee (f := 26) rfl ?_); refine gL (some 43) Try.func26 #[.agg #[.int .i64 a0_0, .int .i64 a0_1, .slice Ao65 y190.length co65]] ?_; (with_reducible refine (spec_LogOk.calls kj3 a0_0 a0_1 _ _ y190 false _ ?side1 ?side2 A26.out).mono ?_); (case side1 => refine (Kd.R_reads' (e := 40) (base := w.heap.size) (ok := fun k_ => (some k_ ≠ (v188 : Value).ownBlock ∧ k_ ≠ gb172)) (n := y190.length) (c := co65) ?_).2.2; exact (by (with_reducible repeat first | apply rA | apply rN | apply rD); exact (Kd.R_mono (Kd.R_far (p := ⟨gb193, 2, none⟩) (Kd.R_far (p := ⟨gb193, 1, none⟩) (Kd.R_far (p := ⟨gb193, 0, none⟩) (Kd.R_types HO192.out BK193.out (by decide)) (fun _ hk => hk.2) (.int .i64 a0_0)) (fun _ hk => hk.2) (.int .i64 a0_1)) (fun _ hk => hk.2) (.slice Ao65 y190.length co65)) (fun _ h_ => h_.1)))); (case side2 => exact (Kd.R_reads' HO192.out).2.1); rintro e w73 ⟨rfl, hb⟩; refine ⟨_, rfl, ?_⟩; replace HO189 := aM (Kd.R_below (by (with_reducible repeat first | apply rA | apply rN | apply rD); exact (Kd.R_mono (Kd.R_far (p := ⟨gb193, 2, none⟩) (Kd.R_far (p := ⟨gb193, 1, none⟩) (Kd.R_far (p := ⟨gb193, 0, none⟩) (Kd.R_types HO189.out BK193.out (by decide)) (fun _ hk => hk.2) (.int .i64 a0_0)) (fun _ hk => hk.2) (.int .i64 a0_1)) (fun _ hk => hk.2) (.slice Ao65 y190.length co65)) (fun _ h_ => h_.1))) hb); replace HO192 := aM (Kd.R_below (by (with_reducible repeat first | apply rA | apply rN | apply rD); exact (Kd.R_mono (Kd.R_far (p := ⟨gb193, 2, none⟩) (Kd.R_far (p := ⟨gb193, 1, none⟩) (Kd.R_far (p := ⟨gb193, 0, none⟩) (Kd.R_types HO192.out BK193.out (by decide)) (fun _ hk => hk.2) (.int .i64 a0_0)) (fun _ hk => hk.2) (.int .i64 a0_1)) (fun _ hk => hk.2) (.slice Ao65 y190.length co65)) (fun _ h_ => h_.1))) hb); replace BK171 := blkB BK171 hb; replace BK172 := blkB BK172 hb; replace BK173 := blkB BK173 hb; replace BK193 := aM (blk_below (g := gb193) (o := .cells #[.int .i64 a0_0, .int .i64 a0_1, .slice Ao65 y190.length co65] 30 (0, 0)) (by refine nB ?_; refine blk_put (cs := #[.int .i64 a0_0, .int .i64 a0_1, .slice none 0 0]) ?_ 2 _ rfl; refine nB ?_; refine blk_put (cs := #[.int .i64 a0_0, .int .i64 0, .slice none 0 0]) ?_ 1 _ rfl; refine nB ?_; refine blk_put (cs := #[.int .i64 0, .int .i64 0, .slice none 0 0]) ?_ 0 _ rfl; exact nB BK193.out) hb); replace HB := aM (below_step (uL HB) hb); try clear hb; have hnb74 := NB173_171.out; have hnc74 := NB171_173.out; have hnb75 := NB173_172.out; have hnc75 := NB172_173.out; have hcz76_0 := czA BK173.out 0 (.int .i64 0); have hcz76_1 := czA BK173.out 1 (.int .i64 0); have hcz76_2 := czA BK173.out 2 (.slice none 0 0); have hfz76_0 := blk_frozen BK173.out 0; have hfz76_1 := blk_frozen BK173.out 1; have hfz76_2 := blk_frozen BK173.out 2))
         refine bodyPost_ret (results_ct rfl _ _ gb173 30 #[.int .i64 0, .int .i64 0, .slice none 0 0] (0, 0) _ rfl (by refine nB ?_; refine blk_put (cs := #[.int .i64 0, .int .i64 0, .slice none 0 0]) ?_ 2 _ rfl; refine nB ?_; refine blk_put (cs := #[.int .i64 0, .int .i64 0, .slice none 0 0]) ?_ 1 _ rfl; refine nB ?_; refine blk_put (cs := #[.int .i64 0, .int .i64 0, .slice none 0 0]) ?_ 0 _ rfl; exact nB BK173.out) Try.underlying30 rfl (by kernel_rfl)) rfl ?_
         exact ⟨_, by first | rfl | (simp [errW_none, errW_some] <;> rfl) | (simp only [← hji21]; first | rfl | (simp [errW_none, errW_some] <;> rfl)) | (simp [*, errW_none, errW_some] <;> rfl), by first | exact Kd.R_nil _ _ _ _ _ | exact Kd.N_nil _ _ _ _ _ | exact Kd.V_nil _ _ _ _ _ | exact Kd.Q_nil _ _ _ _ _ | exact Kd.S_nil _ _ _ _ _, uL HB⟩
       ·rw [if_neg c25] at H
        exact absurd H (by simp)
      ·rw [if_neg c24] at H
       exact absurd H (by simp)
     ·rw [if_neg c23] at H
      exact absurd H (by simp)
    ·rw [if_neg c22] at H
     exact absurd H (by simp)

end Go.Proofs.Ytacdceahdbaonaa.QFnExactLogPut
