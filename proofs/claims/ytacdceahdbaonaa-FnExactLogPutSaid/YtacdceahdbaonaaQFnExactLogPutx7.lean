-- Own work (wip/turnprint.py over the kit's print).
import Derived.Test.YtacdceahdbaonaaQFnExactLogPutx0
import Derived.Test.YtacdceahdbaonaaQFnExactLogPutx5
import Derived.Test.YtacdceahdbaonaaQFnExactLogPutx6
namespace Go.Proofs.Ytacdceahdbaonaa.QFnExactLogPut
open Go.RowKit Go.Proofs.YtacdceahdbaonaaW.PrintWords Go.Proofs.YtacdceahdbaonaaW.PrintLast Go.Proofs.YtacdceahdbaonaaW.PrintMore
attribute [local go_sem] max2_int min2_int max_two min_two max_three min_three max_four min_four   -- for this text's walks alone
set_option linter.unusedVariables false
set_option linter.unusedSimpArgs false

/-! ### impl_LogPut: function 29 -/
def impl_LogPut.j0 : Nat → Int → Bool → Int → Int → List (S40) → Int → Int → ByteArray → Option (Int × Int × (List (S40)) × Bool)
 | 0, _, _, _, _, _, _, _, _ => none
 | k + 1, x1, x21, x224000, x224001, x224002, x225000, x225001, x225002 => if x21 = true then (some (0, 0, ([] : List (S40)), false)) else ((impl_copyLog.f x224000 x224001 x224002).bind fun bt229 => (if 0 ≤ (wrap64 ((wrap64 (x1 - x224000)) - 1)) then (if (wrap64 ((wrap64 (x1 - x224000)) - 1)) ≤ (bt229.2.2.length : Int) then ((some (bt229.2.2.take ((wrap64 ((wrap64 (x1 - x224000)) - 1)) : Int).toNat : List (S40))).bind fun y235 => (if y235.length < 4398046511104 then ((some (y235 ++ [(⟨x225000, x225001, x225002⟩ : S40)] : List (S40))).bind fun y238 => ((impl_LogOk.f k bt229.1 bt229.2.1 y238).bind fun t241 => (if t241 = true then (some (bt229.1, bt229.2.1, y238, true)) else (some (0, 0, ([] : List (S40)), false))))) else (none))) else (none)) else (none)))
def impl_LogPut.f (k : Nat) (a0_0 : Int) (a0_1 : Int) (l0_2 : List (S40)) (a1 : Int) (a2_0 : Int) (a2_1 : Int) (a2_2 : ByteArray) : Option (Int × Int × (List (S40)) × Bool) := (impl_LogOk.f k a0_0 a0_1 l0_2).bind fun t226 => (if t226 = true then ((impl_Log_last.f a0_0 a0_1 l0_2).bind fun t227 => ((impl_inRange.f a1 (wrap64 (a0_0 + 1)) (wrap64 (t227 + 1))).bind fun t228 => (impl_LogPut.j0 k a1 (!t228) a0_0 a0_1 l0_2 a2_0 a2_1 a2_2))) else (impl_LogPut.j0 k a1 true a0_0 a0_1 l0_2 a2_0 a2_1 a2_2))
theorem impl_LogPut.mono_l : ∀ k, (∀ y0 y1 y2 y3 y4 y5 y6 y7, LeO (impl_LogPut.j0 k y0 y1 y2 y3 y4 y5 y6 y7) (impl_LogPut.j0 (k + 1) y0 y1 y2 y3 y4 y5 y6 y7))
 | 0 => fun _ _ _ _ _ _ _ _ r h => by simp [impl_LogPut.j0] at h
 | k + 1 => by
  have ih0 := impl_LogPut.mono_l k
  ·intro y0 y1 y2 y3 y4 y5 y6 y7
   unfold impl_LogPut.j0
   repeat' first
   | (with_reducible exact ih0 _ _ _ _ _ _ _ _)
   | (with_reducible exact impl_LogOk.mono _ _ _ _)
   | (with_reducible exact LeO.refl _)
   | (with_reducible exact LeO.none _)
   | (with_reducible refine LeO.ite ?_ ?_)
   | (with_reducible refine LeO.bind ?_ (fun _ => ?_))
   | exact ih0 _ _ _ _ _ _ _ _
   | exact impl_LogOk.mono _ _ _ _
   | exact LeO.none _
   | refine LeO.ite ?_ ?_
   | refine LeO.bind ?_ (fun _ => ?_)
theorem impl_LogPut.mono : ∀ a0 a1 a2 a3 a4 a5 a6 k, LeO (impl_LogPut.f k a0 a1 a2 a3 a4 a5 a6) (impl_LogPut.f (k + 1) a0 a1 a2 a3 a4 a5 a6) := by
 intro a0 a1 a2 a3 a4 a5 a6 k
 have ih0 := impl_LogPut.mono_l k
 unfold impl_LogPut.f
 repeat' first
  | (with_reducible exact ih0 _ _ _ _ _ _ _ _)
  | (with_reducible exact impl_LogOk.mono _ _ _ _)
  | (with_reducible exact LeO.refl _)
  | (with_reducible exact LeO.none _)
  | (with_reducible refine LeO.ite ?_ ?_)
  | (with_reducible refine LeO.bind ?_ (fun _ => ?_))
  | exact ih0 _ _ _ _ _ _ _ _
  | exact impl_LogOk.mono _ _ _ _
  | exact LeO.none _
  | refine LeO.ite ?_ ?_
  | refine LeO.bind ?_ (fun _ => ?_)
def impl_LogPut.T1 : Bool × List (List Nat × List Nat) := (true, [([], []), ([0], [0]), ([1], [1]), ([2, 1], [2]), ([3], [3]), ([3], [3]), ([5, 3], [3, 5]), ([6, 3], [3, 6]), ([3, 3], [3]), ([8, 3], [3, 8]), ([4, 7, 9, 8, 3], [3, 4, 7, 9]), ([10, 3], [3, 10]), ([3, 11], [3, 11])])
def impl_LogPut.B1 : List Nat := [0, 1, 3, 7, 15, 15, 47, 111, 15, 271, 1023, 2047, 4095]
theorem impl_LogPut.tab1 : rtab .any (opsOf Try.f29 1) = impl_LogPut.T1 := by kernel_rfl
theorem impl_LogPut.bits1 : waitsOk impl_LogPut.T1.2 impl_LogPut.B1 = true := by kernel_rfl
def impl_LogPut.T4 : Bool × List (List Nat × List Nat) := (true, [([], []), ([0], [0]), ([], []), ([], []), ([3], [3]), ([2, 4], [2, 4]), ([5], [5]), ([1, 6], [1, 6]), ([], []), ([8], [8]), ([7, 9], [7, 9]), ([0, 1, 2, 3, 4, 5, 6, 7, 8, 9, 10], []), ([11, 10, 10, 0, 1, 2, 3, 4, 5, 6, 7, 8, 9, 10], [10, 11])])
def impl_LogPut.B4 : List Nat := [0, 1, 0, 0, 8, 28, 60, 127, 0, 256, 1023, 2047, 4095]
theorem impl_LogPut.tab4 : rtab .any (opsOf Try.f29 4) = impl_LogPut.T4 := by kernel_rfl
theorem impl_LogPut.bits4 : waitsOk impl_LogPut.T4.2 impl_LogPut.B4 = true := by kernel_rfl
set_option maxHeartbeats 8000000 in
set_option maxRecDepth 100000 in
theorem impl_LogPut.calls (k : Nat) (a0_0 : Int) (a0_1 : Int) (A0_2 : Option Addr) (c0_2 : Nat) (l0_2 : List (S40)) (a1 : Int) (a2_0 : Int) (a2_1 : Int) (a2_2 : ByteArray) (r1 : Int) (r2 : Int) (r3 : List (S40)) (r4 : Bool) (w : World) (hr0_2 : Kd.C k40 w A0_2 l0_2.length l0_2) (hc0_2 : l0_2.length ≤ c0_2) (h : impl_LogPut.f k a0_0 a0_1 l0_2 a1 a2_0 a2_1 a2_2 = some (r1, r2, r3, r4)) :
 Calls Try.prog 29 #[.agg #[.int .i64 a0_0, .int .i64 a0_1, .slice A0_2 l0_2.length c0_2], .int .i64 a1, .agg #[.int .i64 a2_0, .int .i64 a2_1, .string a2_2]] w fun e w' => ∃ v2_ : Value, e = .returned (.tuple #[.agg #[.int .i64 r1, .int .i64 r2, v2_], .bool r4]) ∧ Kd.R k40 40 w' w.heap.size (fun _ => True) v2_ r3 ∧ Below w.heap.size w w' := by
 have hu30 := Try.underlying30
 have hu40 := Try.underlying40
 have HR0_2 := aM hr0_2
 have HC0_2 := aM hc0_2
 clear hr0_2 hc0_2
 have HB := aM (Below.refl w.heap.size w)
 have H : ((impl_LogOk.f k a0_0 a0_1 l0_2).bind fun t226 => (if t226 = true then ((impl_Log_last.f a0_0 a0_1 l0_2).bind fun t227 => ((impl_inRange.f a1 (wrap64 (a0_0 + 1)) (wrap64 (t227 + 1))).bind fun t228 => (impl_LogPut.j0 k a1 (!t228) a0_0 a0_1 l0_2 a2_0 a2_1 a2_2))) else (impl_LogPut.j0 k a1 true a0_0 a0_1 l0_2 a2_0 a2_1 a2_2))) = some (r1, r2, r3, r4) := h
 clear h
 have HC4 := aM H
 clear H
 go_enter Try.func29, Try.ntmps29
 go_upto_region 1 with (first | ((with_reducible refine gate_dst (N := 3) rfl ?_); refine bxE 3 #[.int .i64 a0_0, .int .i64 a0_1, .slice A0_2 l0_2.length c0_2] 30 ?_; intro gb223 hg w5 hbox hb; have BK223 := aM (hbox); have GW223 := szG hg (uL HB); have GE223 := szG hg (uL HB); replace HB := aM (below_step (uL HB) hb); clear hb hbox hg) | ((with_reducible refine gate_dst (N := 5) rfl ?_); refine bxE 5 #[.int .i64 a2_0, .int .i64 a2_1, .string a2_2] 40 ?_; intro gb224 hg w6 hbox hb; have BK224 := aM (hbox); have GW224 := szG hg (uL HB); have GE224 := szG hg (uL HB); have NB223_224 := neL hg BK223; have NB224_223 := neG hg BK223; replace BK223 := blkB BK223 hb; replace HB := aM (below_step (uL HB) hb); clear hb hbox hg) | ((with_reducible refine gate_dst (N := 6) rfl ?_); refine bxE 6 #[.int .i64 0, .int .i64 0, .slice none 0 0] 30 ?_; intro gb225 hg w7 hbox hb; have BK225 := aM (hbox); have GW225 := szG hg (uL HB); have GE225 := szG hg (uL HB); have NB223_225 := neL hg BK223; have NB225_223 := neG hg BK223; have NB224_225 := neL hg BK224; have NB225_224 := neG hg BK224; replace BK223 := blkB BK223 hb; replace BK224 := blkB BK224 hb; replace HB := aM (below_step (uL HB) hb); clear hb hbox hg))
 (try simp only [Act.put, List.setIfInBounds_toArray, List.set_cons_zero, List.set_cons_succ])
 go_cut [21] (fun v21 wc => ∃ (kq : Nat) (x21_3 : Bool), v21 = .bool x21_3 ∧ Aside0 (impl_LogPut.j0 kq a1 x21_3 a0_0 a0_1 l0_2 a2_0 a2_1 a2_2 = some (r1, r2, r3, r4)) ∧ Aside0 (kq ≤ k) ∧ Aside0 (wc.heap[gb223]? = some (.cells #[.int .i64 a0_0, .int .i64 a0_1, (.slice A0_2 l0_2.length c0_2)] 30 (0, 0))) ∧ Aside0 (wc.heap[gb224]? = some (.cells #[.int .i64 a2_0, .int .i64 a2_1, .string a2_2] 40 (0, 0))) ∧ Aside0 (wc.heap[gb225]? = some (.cells #[.int .i64 0, .int .i64 0, (.slice none 0 0)] 30 (0, 0))) ∧ Aside0 (Below w.heap.size w wc))
 case first =>
  have H := HC4.out
  clear HC4
  replace H := Option.bind_eq_some_iff.mp H
  obtain ⟨t226, A80, H⟩ := H
  try dsimp only at H
  have A8 := aM A80
  clear A80
  by_cases c9 : t226 = true
  ·subst c9
   rw [if_pos rfl] at H
   replace H := Option.bind_eq_some_iff.mp H
   obtain ⟨t227, A100, H⟩ := H
   try dsimp only at H
   have A10 := aM A100
   clear A100
   replace H := Option.bind_eq_some_iff.mp H
   obtain ⟨t228, A110, H⟩ := H
   replace H : (impl_LogPut.j0 k a1 (!t228) a0_0 a0_1 l0_2 a2_0 a2_1 a2_2) = some (r1, r2, r3, r4) := H
   have A11 := aM A110
   clear A110
   have H' := aM H
   clear H
   try go_wp2
   replace BK223 := aM (blk_drew BK223.out)
   replace BK224 := aM (blk_drew BK224.out)
   replace BK225 := aM (blk_drew BK225.out)
   replace HB := aM (below_drew1 HB.out)
   refine start_ (n := 13) (S := fun w' => w'.cell? ⟨gb223, 0, none⟩ = some (.int .i64 a0_0) ∧ w'.cell? ⟨gb223, 1, none⟩ = some (.int .i64 a0_1) ∧ w'.cell? ⟨gb223, 2, none⟩ = some (.slice A0_2 l0_2.length c0_2)) (ds := []) (bB 13 0) (by kernel_rfl) rfl rfl ⟨(blk_cell BK223.out 0).trans rfl, (blk_cell BK223.out 1).trans rfl, (blk_cell BK223.out 2).trans rfl⟩ (fun hHeld => ?_); refine with_tabW impl_LogPut.tab1 impl_LogPut.bits1 (fun HT_ HW_ => ?_)
   generalize w7.drew = w12 at BK223 BK224 BK225 HB hHeld ⊢
   refine tA HT_.out HW_.out 0 9 13 1 hHeld ?_
   refine oA HT_.out 1 (some 10) 13 3 (fun K hK => ?_)
   refine gX Try.func27 #[.agg #[.int .i64 a0_0, .int .i64 a0_1, .slice A0_2 l0_2.length c0_2]] ?_
   with_reducible refine (impl_LogOk.calls k a0_0 a0_1 _ _ l0_2 true _ ?side1 ?side2 A8.out).mono ?_
   (case side1 => exact uC HR0_2 HB)
   (case side2 => exact HC0_2.out)
   rintro e w13 ⟨rfl, hb⟩
   refine ⟨_, rfl, ?_⟩
   replace BK223 := blkB BK223 hb
   replace BK224 := blkB BK224 hb
   replace BK225 := blkB BK225 hb
   replace HB := aM (below_step (uL HB) hb)
   (try clear hb)
   (try clear hb2)
   (try clear hk)
   (try clear hi)
   refine hK.out _ _ ⟨(blk_cell BK223.out 0).trans rfl, (blk_cell BK223.out 1).trans rfl, (blk_cell BK223.out 2).trans rfl⟩ (fun hHeld => ?_)
   clear hK K
   refine nX 10 ?_; refine pA HT_.out 2 11 13 7 ?_; refine pA HT_.out 3 12 13 15 ?_; refine pA HT_.out 4 13 13 31 ?_; refine pA HT_.out 5 14 13 63 ?_; refine tA HT_.out HW_.out 6 15 13 127 hHeld ?_; refine pA HT_.out 7 16 13 255 ?_
   refine oA HT_.out 8 (some 17) 13 511 (fun K hK => ?_)
   refine gX Try.func45 #[.pointer (some ⟨gb223, 0, none⟩)] ?_
   with_reducible refine (impl_Log_last.calls gb223 a0_0 a0_1 A0_2 c0_2 l0_2 t227 _ ?side1 ?side2 ?side3 A10.out).mono ?_
   (case side1 => exact uC HR0_2 HB)
   (case side2 => exact HC0_2.out)
   (case side3 => exact by exact nB BK223.out)
   rintro e w14 ⟨rfl, hb⟩
   refine ⟨_, rfl, ?_⟩
   replace BK223 := blkB BK223 hb
   replace BK224 := blkB BK224 hb
   replace BK225 := blkB BK225 hb
   replace HB := aM (below_step (uL HB) hb)
   (try clear hb)
   (try clear hb2)
   (try clear hk)
   (try clear hi)
   refine hK.out _ _ ⟨(blk_cell BK223.out 0).trans rfl, (blk_cell BK223.out 1).trans rfl, (blk_cell BK223.out 2).trans rfl⟩ (fun hHeld => ?_)
   clear hK K
   refine nX 17 ?_; refine pA HT_.out 9 18 13 1023 ?_
   refine oA HT_.out 10 (some 19) 13 2047 (fun K hK => ?_)
   refine gX Try.func53 #[.int .i64 a1, .int .i64 (wrap64 (a0_0 + 1)), .int .i64 (wrap64 (t227 + 1))] ?_
   with_reducible refine (impl_inRange.calls a1 (wrap64 (a0_0 + 1)) (wrap64 (t227 + 1)) t228 _ A11.out).mono ?_
   rintro e w' ⟨rfl, ⟨nd, rfl⟩⟩
   refine ⟨_, rfl, ?_⟩
   refine hK.out _ _ ⟨(blk_cell BK223.out 0).trans rfl, (blk_cell BK223.out 1).trans rfl, (blk_cell BK223.out 2).trans rfl⟩ (fun hHeld => ?_)
   clear hK K
   refine nX 19 ?_; refine pA HT_.out 11 20 13 4095 ?_; refine pA HT_.out 12 21 13 8191 ?_
   refine done_ (done_of HT_.out (by kernel_rfl)) ?_
   try go_wp2
   go_meet
   case rel => exact ⟨_, (!t228), (by first | rfl | (simp; done) | (simp [*]; done)), H', ⟨by first | omega | exact Nat.le_refl _⟩, ⟨by exact nB BK223.out⟩, ⟨by exact nB BK224.out⟩, ⟨by exact nB BK225.out⟩, ⟨uL HB⟩⟩
  ·replace c9 := Bool.eq_false_iff.mpr c9
   subst c9
   have H1 : (impl_LogPut.j0 k a1 true a0_0 a0_1 l0_2 a2_0 a2_1 a2_2) = some (r1, r2, r3, r4) := by rw [if_neg (show ¬ (false = true) by decide)] at H; exact H
   clear H; have H := H1; clear H1
   have H' := aM H
   clear H
   try go_wp2
   replace BK223 := aM (blk_drew BK223.out)
   replace BK224 := aM (blk_drew BK224.out)
   replace BK225 := aM (blk_drew BK225.out)
   replace HB := aM (below_drew1 HB.out)
   refine start_ (n := 13) (S := fun w' => w'.cell? ⟨gb223, 0, none⟩ = some (.int .i64 a0_0) ∧ w'.cell? ⟨gb223, 1, none⟩ = some (.int .i64 a0_1) ∧ w'.cell? ⟨gb223, 2, none⟩ = some (.slice A0_2 l0_2.length c0_2)) (ds := []) (bB 13 0) (by kernel_rfl) rfl rfl ⟨(blk_cell BK223.out 0).trans rfl, (blk_cell BK223.out 1).trans rfl, (blk_cell BK223.out 2).trans rfl⟩ (fun hHeld => ?_); refine with_tabW impl_LogPut.tab1 impl_LogPut.bits1 (fun HT_ HW_ => ?_)
   generalize w7.drew = w15 at BK223 BK224 BK225 HB hHeld ⊢
   refine tA HT_.out HW_.out 0 9 13 1 hHeld ?_
   refine oA HT_.out 1 (some 10) 13 3 (fun K hK => ?_)
   refine gX Try.func27 #[.agg #[.int .i64 a0_0, .int .i64 a0_1, .slice A0_2 l0_2.length c0_2]] ?_
   with_reducible refine (impl_LogOk.calls k a0_0 a0_1 _ _ l0_2 false _ ?side1 ?side2 A8.out).mono ?_
   (case side1 => exact uC HR0_2 HB)
   (case side2 => exact HC0_2.out)
   rintro e w16 ⟨rfl, hb⟩
   refine ⟨_, rfl, ?_⟩
   replace BK223 := blkB BK223 hb
   replace BK224 := blkB BK224 hb
   replace BK225 := blkB BK225 hb
   replace HB := aM (below_step (uL HB) hb)
   (try clear hb)
   (try clear hb2)
   (try clear hk)
   (try clear hi)
   refine hK.out _ _ ⟨(blk_cell BK223.out 0).trans rfl, (blk_cell BK223.out 1).trans rfl, (blk_cell BK223.out 2).trans rfl⟩ (fun hHeld => ?_)
   clear hK K
   refine nX 10 ?_; refine pA HT_.out 2 11 13 7 ?_; refine pA HT_.out 3 12 13 15 ?_; refine pB HT_.out 4 13 13 31 ?_; refine pB HT_.out 5 14 13 63 ?_; refine pB HT_.out 6 15 13 127 ?_; refine pB HT_.out 7 16 13 255 ?_; refine pB HT_.out 8 17 13 511 ?_; refine pB HT_.out 9 18 13 1023 ?_; refine pB HT_.out 10 19 13 2047 ?_; refine pB HT_.out 11 20 13 4095 ?_; refine pA HT_.out 12 21 13 8191 ?_
   refine done_ (done_of HT_.out (by kernel_rfl)) ?_
   try go_wp2
   go_meet
   case rel => exact ⟨_, (true), (by first | rfl | (simp; done) | (simp [*]; done)), H', ⟨by first | omega | exact Nat.le_refl _⟩, ⟨by exact nB BK223.out⟩, ⟨by exact nB BK224.out⟩, ⟨by exact nB BK225.out⟩, ⟨uL HB⟩⟩
 case rest =>
  clear HC4
  try clear c2; try clear p2; try clear c4; try clear c5; try clear p6; try clear c9
  obtain ⟨kq, x21_3, rfl, HA, HJ3, BK223, BK224, BK225, HB⟩ := hcut
  cases kq with
  | zero => exact absurd HA.out (by simp [impl_LogPut.j0])
  | succ kj3 =>
   have H := HA.out
   clear HA
   simp only [impl_LogPut.j0] at H
   by_cases c17 : x21_3 = true
   ·subst c17
    have H1 : (some (0, 0, ([] : List (S40)), false)) = some (r1, r2, r3, r4) := by rw [if_pos rfl] at H; exact H
    clear H; have H := H1; clear H1
    simp only [Option.some.injEq, Prod.mk.injEq] at H
    obtain ⟨rfl, rfl, rfl, rfl⟩ := H
    have hnb18 := NB225_223.out; have hnc18 := NB223_225.out; have hnb19 := NB225_224.out; have hnc19 := NB224_225.out
    have hcz20_0 := czA BK225.out 0 (.int .i64 0)
    have hcz20_1 := czA BK225.out 1 (.int .i64 0)
    have hcz20_2 := czA BK225.out 2 (.slice none 0 0)
    have hfz20_0 := blk_frozen BK225.out 0; have hfz20_1 := blk_frozen BK225.out 1; have hfz20_2 := blk_frozen BK225.out 2
    go_wp2
    refine bodyPost_ret (results_ct rfl _ _ gb225 30 #[.int .i64 0, .int .i64 0, .slice none 0 0] (0, 0) _ rfl (by refine nB ?_; refine blk_put (cs := #[.int .i64 0, .int .i64 0, .slice none 0 0]) ?_ 2 _ rfl; refine nB ?_; refine blk_put (cs := #[.int .i64 0, .int .i64 0, .slice none 0 0]) ?_ 1 _ rfl; refine nB ?_; refine blk_put (cs := #[.int .i64 0, .int .i64 0, .slice none 0 0]) ?_ 0 _ rfl; exact nB BK225.out) Try.underlying30 rfl (by kernel_rfl)) rfl ?_
    exact ⟨_, by first | rfl | (simp [errW_none, errW_some] <;> rfl) | (simp [*, errW_none, errW_some] <;> rfl), by first | exact Kd.R_nil _ _ _ _ _ | exact Kd.N_nil _ _ _ _ _ | exact Kd.V_nil _ _ _ _ _ | exact Kd.Q_nil _ _ _ _ _ | exact Kd.S_nil _ _ _ _ _, uL HB⟩
   ·replace c17 := Bool.eq_false_iff.mpr c17
    subst c17
    rw [if_neg (show ¬ (false = true) by decide)] at H
    replace H := Option.bind_eq_some_iff.mp H
    obtain ⟨⟨t229, t230, t231⟩, A210, H⟩ := H
    try dsimp only at H
    have A21 := aM A210
    clear A210
    obtain ⟨ji22, hji22⟩ : ∃ j_ : Int, (wrap64 ((wrap64 (a1 - a0_0)) - 1)) = j_ := ⟨_, rfl⟩
    replace H : (if 0 ≤ (ji22) then (if (ji22) ≤ (t231.length : Int) then ((some (t231.take ((ji22) : Int).toNat : List (S40))).bind fun y235 => (if y235.length < 4398046511104 then ((some (y235 ++ [(⟨a2_0, a2_1, a2_2⟩ : S40)] : List (S40))).bind fun y238 => ((impl_LogOk.f kj3 t229 t230 y238).bind fun t241 => (if t241 = true then (some (t229, t230, y238, true)) else (some (0, 0, ([] : List (S40)), false))))) else (none))) else (none)) else (none)) = some (r1, r2, r3, r4) := by first | (rw [hji22] at H; exact H) | (simp only [hji22] at H ⊢; exact H)
    (try rw [hji22] at A21)
    have hji22w : (IntKind.i64.wrap ((wrap64 (a1 - a0_0)) - 1)) = ji22 := (i64_w _).trans hji22
    by_cases c23 : 0 ≤ (ji22)
    ·rw [if_pos c23] at H
     have c23b0 := eq_true c23
     have c23b1 : decide (0 ≤ (ji22)) = true := decide_eq_true c23
     clear c23
     by_cases c24 : (ji22) ≤ (t231.length : Int)
     ·rw [if_pos c24] at H
      have c24b0 := eq_true c24
      have c24b1 : decide ((ji22) ≤ (t231.length : Int)) = true := decide_eq_true c24
      clear c24
      obtain ⟨y235, hy235⟩ : ∃ y_ : List (S40), y_ = (t231.take ((ji22) : Int).toNat) := ⟨_, rfl⟩
      replace H : (if y235.length < 4398046511104 then ((some (y235 ++ [(⟨a2_0, a2_1, a2_2⟩ : S40)] : List (S40))).bind fun y238 => ((impl_LogOk.f kj3 t229 t230 y238).bind fun t241 => (if t241 = true then (some (t229, t230, y238, true)) else (some (0, 0, ([] : List (S40)), false))))) else (none)) = some (r1, r2, r3, r4) := by first | (rw [hy235]; with_reducible exact H) | (have H2_ := (Option.bind_some _ _).symm.trans H; rw [hy235]; with_reducible exact H2_) | (have H2_ := (Option.bind_some _ _).symm.trans H; with_reducible exact H2_) | with_reducible exact H | (rw [hy235]; exact H) | exact H
      have Ny235 := aM hy235
      clear hy235
      by_cases c25 : y235.length < 4398046511104
      ·rw [if_pos c25] at H
       have LMc25 := aM c25
       clear c25
       obtain ⟨y238, hy238⟩ : ∃ y_ : List (S40), y_ = (y235 ++ [(⟨a2_0, a2_1, a2_2⟩ : S40)]) := ⟨_, rfl⟩
       replace H : ((impl_LogOk.f kj3 t229 t230 y238).bind fun t241 => (if t241 = true then (some (t229, t230, y238, true)) else (some (0, 0, ([] : List (S40)), false)))) = some (r1, r2, r3, r4) := by first | (rw [hy238]; with_reducible exact H) | (have H2_ := (Option.bind_some _ _).symm.trans H; rw [hy238]; with_reducible exact H2_) | (have H2_ := (Option.bind_some _ _).symm.trans H; with_reducible exact H2_) | with_reducible exact H | (rw [hy238]; exact H) | exact H
       have Ny238 := aM hy238
       clear hy238
       replace H := Option.bind_eq_some_iff.mp H
       obtain ⟨t241, A260, H⟩ := H
       replace H : (if t241 = true then (some (t229, t230, y238, true)) else (some (0, 0, ([] : List (S40)), false))) = some (r1, r2, r3, r4) := H
       have A26 := aM A260
       clear A260
       by_cases c27 : t241 = true
       ·subst c27
        have H1 : (some (t229, t230, y238, true)) = some (r1, r2, r3, r4) := by rw [if_pos rfl] at H; exact H
        clear H; have H := H1; clear H1
        simp only [Option.some.injEq, Prod.mk.injEq] at H
        obtain ⟨rfl, rfl, rfl, rfl⟩ := H
        have hnb28 := NB223_224.out; have hnc28 := NB224_223.out; have hnb29 := NB223_225.out; have hnc29 := NB225_223.out
        have hcz30_0 := czA BK223.out 0 (.int .i64 a0_0)
        have hcz30_1 := czA BK223.out 1 (.int .i64 a0_1)
        have hcz30_2 := czA BK223.out 2 (.slice A0_2 l0_2.length c0_2)
        have hfz30_0 := blk_frozen BK223.out 0; have hfz30_1 := blk_frozen BK223.out 1; have hfz30_2 := blk_frozen BK223.out 2
        try go_wp2_with (first | ((with_reducible refine gate_callee (f := 56) rfl ?_); refine gL (some 24) Try.func56 #[.agg #[.int .i64 a0_0, .int .i64 a0_1, .slice A0_2 l0_2.length c0_2]] ?_; (with_reducible refine (impl_copyLog.calls a0_0 a0_1 _ _ l0_2 t229 t230 t231 _ ?side1 ?side2 A21.out).mono ?_); (case side1 => exact uC HR0_2 HB); (case side2 => exact HC0_2.out); rintro e w31 ⟨v232, rfl, ho0, hb⟩; refine ⟨_, rfl, ?_⟩; have HO233 := aM (Kd.R_lower (Kd.R_newB ho0 (g := gb224) (o := .cells #[.int .i64 a2_0, .int .i64 a2_1, .string a2_2] 40 (0, 0)) (uB BK224)) (below_size (uL HB))); replace BK223 := blkB BK223 hb; replace BK224 := blkB BK224 hb; replace BK225 := blkB BK225 hb; replace HB := aM (below_step (uL HB) hb); try clear hb ho0) | ((with_reducible refine gate_dst (N := 8) rfl ?_); refine bxE 8 #[.int .i64 0, .int .i64 0, .slice none 0 0] 30 ?_; intro gb234 hg w32 hbox hb; have BK234 := aM (hbox); have GW234 := szG hg (uL HB); have GE234 := szG hg (uL HB); have NB223_234 := neL hg BK223; have NB234_223 := neG hg BK223; have NB224_234 := neL hg BK224; have NB234_224 := neG hg BK224; have NB225_234 := neL hg BK225; have NB234_225 := neG hg BK225; replace HO233 := aM (Kd.R_below (uR HO233) hb); replace BK223 := blkB BK223 hb; replace BK224 := blkB BK224 hb; replace BK225 := blkB BK225 hb; replace HB := aM (below_step (uL HB) hb); clear hb hbox hg; have hnb33 := NB234_223.out; have hnc33 := NB223_234.out; have hnb34 := NB234_224.out; have hnc34 := NB224_234.out; have hnb35 := NB234_225.out; have hnc35 := NB225_234.out; have hcz36_0 := czA BK234.out 0 (.int .i64 0); have hcz36_1 := czA BK234.out 1 (.int .i64 0); have hcz36_2 := czA BK234.out 2 (.slice none 0 0); have hfz36_0 := blk_frozen BK234.out 0; have hfz36_1 := blk_frozen BK234.out 1; have hfz36_2 := blk_frozen BK234.out 2; obtain ⟨Ao37, co37, eo37⟩ := Kd.R_slice HO233.out; subst eo37))
        have n0_ : Aside0 (Kd.R k40 40 (((w32.setCell ⟨gb234, 0, none⟩ (.int .i64 t229)).setCell ⟨gb234, 1, none⟩ (.int .i64 t230)).setCell ⟨gb234, 2, none⟩ (.slice Ao37 t231.length co37)) w.heap.size (fun k_ => k_ ≠ gb224) (.slice Ao37 t231.length co37) t231) := ⟨by (with_reducible repeat first | apply rA | apply rN | apply rD); exact Kd.R_mono (Kd.R_far (p := ⟨gb234, 2, none⟩) (Kd.R_far (p := ⟨gb234, 1, none⟩) (Kd.R_far (p := ⟨gb234, 0, none⟩) (Kd.R_types HO233.out BK234.out (by decide)) (fun _ hk => hk.2) (.int .i64 t229)) (fun _ hk => hk.2) (.int .i64 t230)) (fun _ hk => hk.2) (.slice Ao37 t231.length co37)) (fun _ hk => hk.1.2)⟩
        have n1_ : Aside0 ((((w32.setCell ⟨gb234, 0, none⟩ (.int .i64 t229)).setCell ⟨gb234, 1, none⟩ (.int .i64 t230)).setCell ⟨gb234, 2, none⟩ (.slice Ao37 t231.length co37)).heap[gb223]? = some (.cells #[.int .i64 a0_0, .int .i64 a0_1, .slice A0_2 l0_2.length c0_2] 30 (0, 0))) := ⟨by refine nB ?_; refine blk_far ?_ NB223_234.out _; refine nB ?_; refine blk_far ?_ NB223_234.out _; refine nB ?_; refine blk_far ?_ NB223_234.out _; exact nB BK223.out⟩
        have n2_ : Aside0 ((((w32.setCell ⟨gb234, 0, none⟩ (.int .i64 t229)).setCell ⟨gb234, 1, none⟩ (.int .i64 t230)).setCell ⟨gb234, 2, none⟩ (.slice Ao37 t231.length co37)).heap[gb224]? = some (.cells #[.int .i64 a2_0, .int .i64 a2_1, .string a2_2] 40 (0, 0))) := ⟨by refine nB ?_; refine blk_far ?_ NB224_234.out _; refine nB ?_; refine blk_far ?_ NB224_234.out _; refine nB ?_; refine blk_far ?_ NB224_234.out _; exact nB BK224.out⟩
        have n3_ : Aside0 ((((w32.setCell ⟨gb234, 0, none⟩ (.int .i64 t229)).setCell ⟨gb234, 1, none⟩ (.int .i64 t230)).setCell ⟨gb234, 2, none⟩ (.slice Ao37 t231.length co37)).heap[gb225]? = some (.cells #[.int .i64 0, .int .i64 0, .slice none 0 0] 30 (0, 0))) := ⟨by refine nB ?_; refine blk_far ?_ NB225_234.out _; refine nB ?_; refine blk_far ?_ NB225_234.out _; refine nB ?_; refine blk_far ?_ NB225_234.out _; exact nB BK225.out⟩
        have n4_ : Aside0 ((((w32.setCell ⟨gb234, 0, none⟩ (.int .i64 t229)).setCell ⟨gb234, 1, none⟩ (.int .i64 t230)).setCell ⟨gb234, 2, none⟩ (.slice Ao37 t231.length co37)).heap[gb234]? = some (.cells #[.int .i64 t229, .int .i64 t230, .slice Ao37 t231.length co37] 30 (0, 0))) := ⟨by refine nB ?_; refine blk_put (cs := #[.int .i64 t229, .int .i64 t230, .slice none 0 0]) ?_ 2 _ rfl; refine nB ?_; refine blk_put (cs := #[.int .i64 t229, .int .i64 0, .slice none 0 0]) ?_ 1 _ rfl; refine nB ?_; refine blk_put (cs := #[.int .i64 0, .int .i64 0, .slice none 0 0]) ?_ 0 _ rfl; exact nB BK234.out⟩
        have n5_ : Aside0 (Below w.heap.size w (((w32.setCell ⟨gb234, 0, none⟩ (.int .i64 t229)).setCell ⟨gb234, 1, none⟩ (.int .i64 t230)).setCell ⟨gb234, 2, none⟩ (.slice Ao37 t231.length co37))) := ⟨uL HB⟩
        (try clear HO233)
        (try clear BK223)
        (try clear BK224)
        (try clear BK225)
        (try clear BK234)
        (try clear HB)
        generalize (((w32.setCell ⟨gb234, 0, none⟩ (.int .i64 t229)).setCell ⟨gb234, 1, none⟩ (.int .i64 t230)).setCell ⟨gb234, 2, none⟩ (.slice Ao37 t231.length co37)) = w38 at n0_ n1_ n2_ n3_ n4_ n5_ ⊢
        have HO233 := n0_; have BK223 := n1_; have BK224 := n2_; have BK225 := n3_; have BK234 := n4_; have HB := n5_; clear n0_ n1_ n2_ n3_ n4_ n5_
        replace HO233 := aM (Kd.R_drew HO233.out)
        replace BK223 := aM (blk_drew BK223.out)
        replace BK224 := aM (blk_drew BK224.out)
        replace BK225 := aM (blk_drew BK225.out)
        replace BK234 := aM (blk_drew BK234.out)
        replace HB := aM (below_drew1 HB.out)
        have q40 : ((ji22) : Int) ≤ ((t231.length : Int) : Int) := of_decide_eq_true (by first | (with_reducible assumption) | assumption)
        obtain ⟨i040, hi040, _, hsz40, _⟩ := info_parts info40
        have hcut40 := cut_to (P := Try.prog) 28 40 .i64 Try.underlying28 hi040 Ao37 t231.length co37 (ji22) (of_decide_eq_true (by first | (with_reducible assumption) | assumption)) q40 (Kd.R_reads' HO233.out).2.1
        have hr40 := Kd.R_take (m := ((ji22) : Int).toNat) HO233.out (by omega)
        have hy40 : y235.length = ((ji22) : Int).toNat := (by rw [Ny235.out, List.length_take]; omega)
        rw [← Ny235.out] at hr40
        rw [← hy40] at hr40 hcut40
        clear hy40 hi040 hsz40 HO233
        have HO237 := aM hr40
        clear hr40
        replace q40 := eq_true q40
        refine start_ (n := 13) (S := fun w' => w'.cell? ⟨gb234, 0, none⟩ = some (.int .i64 t229) ∧ w'.cell? ⟨gb234, 1, none⟩ = some (.int .i64 t230) ∧ w'.cell? ⟨gb234, 2, none⟩ = some (.slice Ao37 t231.length co37) ∧ w'.cell? ⟨gb223, 0, none⟩ = some (.int .i64 a0_0) ∧ w'.cell? ⟨gb223, 1, none⟩ = some (.int .i64 a0_1) ∧ w'.cell? ⟨gb223, 2, none⟩ = some (.slice A0_2 l0_2.length c0_2) ∧ w'.cell? ⟨gb224, 0, none⟩ = some (.int .i64 a2_0) ∧ w'.cell? ⟨gb224, 1, none⟩ = some (.int .i64 a2_1) ∧ w'.cell? ⟨gb224, 2, none⟩ = some (.string a2_2)) (ds := [12]) (bB 13 0) (by kernel_rfl) rfl rfl ⟨(blk_cell BK234.out 0).trans rfl, (blk_cell BK234.out 1).trans rfl, (blk_cell BK234.out 2).trans rfl, (blk_cell BK223.out 0).trans rfl, (blk_cell BK223.out 1).trans rfl, (blk_cell BK223.out 2).trans rfl, (blk_cell BK224.out 0).trans rfl, (blk_cell BK224.out 1).trans rfl, (blk_cell BK224.out 2).trans rfl⟩ (fun hHeld => ?_); refine with_tabW impl_LogPut.tab4 impl_LogPut.bits4 (fun HT_ HW_ => ?_)
        generalize w38.drew = w39 at BK223 BK224 BK225 BK234 HB HO237 hHeld ⊢
        refine pA HT_.out 0 25 13 1 ?_; refine pA HT_.out 2 27 13 5 ?_; refine pA HT_.out 3 28 13 13 ?_; refine tA HT_.out HW_.out 1 26 13 15 hHeld ?_; refine tA HT_.out HW_.out 4 29 13 31 hHeld ?_; refine pA HT_.out 5 30 13 63 ?_; refine pA HT_.out 6 31 13 127 ?_; refine pA HT_.out 7 32 13 255 ?_; refine tA HT_.out HW_.out 8 33 13 511 hHeld ?_
        refine oA HT_.out 9 (some 34) 13 1023 (fun K hK => ?_)
        refine value_ (w1 := ?_) (v := ?_) (by rfl) rfl ?_ ?_
        rotate_left 2
        ·go_simp
         constructor
         ·rfl
         ·rfl
        refine hK.out _ _ ⟨(blk_cell (blk_alloc BK234.out _) 0).trans rfl, (blk_cell (blk_alloc BK234.out _) 1).trans rfl, (blk_cell (blk_alloc BK234.out _) 2).trans rfl, (blk_cell (blk_alloc BK223.out _) 0).trans rfl, (blk_cell (blk_alloc BK223.out _) 1).trans rfl, (blk_cell (blk_alloc BK223.out _) 2).trans rfl, (blk_cell (blk_alloc BK224.out _) 0).trans rfl, (blk_cell (blk_alloc BK224.out _) 1).trans rfl, (blk_cell (blk_alloc BK224.out _) 2).trans rfl⟩ (fun hHeld => ?_)
        clear hK K
        refine nX 34 ?_
        refine oA HT_.out 10 (some 35) 13 2047 (fun K hK => ?_)
        refine Kd.R_append_step k40 (w0 := w) w.heap.size (by rfl) (.tmp 32) (.tmp 34) 28 40 (.agg #[(.int .i64 0), (.int .i64 0), (.string ⟨#[]⟩)]) 32 rfl Try.underlying28 info40 rfl (by decide) (by omega) (.slice Ao37 y235.length co37) y235 (⟨a2_0, a2_1, a2_2⟩ : S40) [.int .i64 a2_0, .int .i64 a2_1, .string a2_2] (fun k_ => k_ ≠ gb224) (fun _ => False) rfl rfl ?aP (fun _ hk => hk.elim) ?aF ?aO ?aB ?aS ?aL ?_
        (case aP => exact k40_mkM _ _ _ (⟨a2_0, a2_1, a2_2⟩ : S40))
        (case aB => exact (uL HB))
        (case aF => exact (fun k_ hk => Kd.freshB (g := gb224) (o := .cells #[.int .i64 a2_0, .int .i64 a2_1, .string a2_2] 40 (0, 0)) (uB BK224) k_ hk))
        (case aO => exact (uR HO237))
        (case aS => exact (below_size (uL HB)))
        (case aL => have := LMc25.out; omega)
        intro v239 w41 ho hb hg hat
        rw [← Ny238.out] at ho
        have n0_ := aM (blk_grown (g := gb223) (o := .cells #[.int .i64 a0_0, .int .i64 a0_1, .slice A0_2 l0_2.length c0_2] 30 (0, 0)) (uB BK223) hg (Kd.R_ne HO237.out BK223.out (by decide)))
        have n1_ := aM (blk_grown (g := gb224) (o := .cells #[.int .i64 a2_0, .int .i64 a2_1, .string a2_2] 40 (0, 0)) (uB BK224) hg (Kd.R_away HO237.out (fun _ hk => hk)))
        have n2_ := aM (blk_grown (g := gb225) (o := .cells #[.int .i64 0, .int .i64 0, .slice none 0 0] 30 (0, 0)) (uB BK225) hg (Kd.R_ne HO237.out BK225.out (by decide)))
        have n3_ := aM (blk_grown (g := gb234) (o := .cells #[.int .i64 t229, .int .i64 t230, .slice Ao37 t231.length co37] 30 (0, 0)) (uB BK234) hg (Kd.R_ne HO237.out BK234.out (by decide)))
        have n4_ := aM (hb)
        have n5_ := aM (ho)
        clear BK223 BK224 BK225 BK234 HB HO237; have BK223 := n0_; have BK224 := n1_; have BK225 := n2_; have BK234 := n3_; have HB := n4_; have HO240 := n5_; clear n0_ n1_ n2_ n3_ n4_ n5_ ho hb hg hat
        obtain ⟨Ao42, co42, eo42⟩ := Kd.R_slice HO240.out
        (first | subst eo42 | (injection eo42 with f1_ f2_ f3_; have f4_ := f1_.symm; have f5_ := f3_.symm; clear f1_ f2_ f3_; subst f4_; subst f5_))
        refine hK.out _ _ ⟨(blk_cell BK234.out 0).trans rfl, (blk_cell BK234.out 1).trans rfl, (blk_cell BK234.out 2).trans rfl, (blk_cell BK223.out 0).trans rfl, (blk_cell BK223.out 1).trans rfl, (blk_cell BK223.out 2).trans rfl, (blk_cell BK224.out 0).trans rfl, (blk_cell BK224.out 1).trans rfl, (blk_cell BK224.out 2).trans rfl⟩ (fun hHeld => ?_)
        clear hK K
        refine nX 35 ?_; refine pA HT_.out 11 36 13 4095 ?_
        refine last_ (i := 12) (N := none) (bB 13 8191) rfl rfl (one_of HT_.out (by kernel_rfl)) (by decide) (fun K hK => ?_)
        have hs43 := czA BK234.out 2 (.slice Ao37 t231.length co37)
        have hfs43 := blk_frozen BK234.out 2; have hns43_0 := NB223_234.out; have hns43_1 := NB224_234.out; have hns43_2 := NB225_234.out; have hms43_0 := NB234_223.out; have hms43_1 := NB234_224.out; have hms43_2 := NB234_225.out
        refine skip_ (w1 := ?_) (by rfl) rfl ?_ ?_
        rotate_left
        ·go_simp
         rfl
        refine hK.out _ _ ?_
        clear hK K
        refine done_ (done_of HT_.out (by kernel_rfl)) ?_
        have hcz44_0 := czA BK234.out 0 (.int .i64 t229)
        have hcz44_1 := czA BK234.out 1 (.int .i64 t230)
        have hcz44_2 := czA BK234.out 2 (.slice Ao37 t231.length co37)
        have hfz44_0 := blk_frozen BK234.out 0; have hfz44_1 := blk_frozen BK234.out 1; have hfz44_2 := blk_frozen BK234.out 2
        try go_wp2_with (first | ((with_reducible refine gate_callee (f := 27) rfl ?_); refine gL (some 38) Try.func27 #[.agg #[.int .i64 t229, .int .i64 t230, .slice Ao42 y238.length co42]] ?_; (with_reducible refine (impl_LogOk.calls kj3 t229 t230 _ _ y238 true _ ?side1 ?side2 A26.out).mono ?_); (case side1 => refine (Kd.R_reads' (e := 40) (base := w.heap.size) (ok := fun k_ => k_ ≠ gb224) (n := y238.length) (c := co42) ?_).2.2; exact (by (with_reducible repeat first | apply rA | apply rN | apply rD); exact (Kd.R_mono (Kd.R_far (p := ⟨gb234, 2, none⟩) (Kd.R_types HO240.out BK234.out (by decide)) (fun _ hk => hk.2) (.slice Ao42 y238.length co42)) (fun _ h_ => h_.1)))); (case side2 => exact (Kd.R_reads' HO240.out).2.1); rintro e w45 ⟨rfl, hb⟩; refine ⟨_, rfl, ?_⟩; replace HO240 := aM (Kd.R_below (by (with_reducible repeat first | apply rA | apply rN | apply rD); exact (Kd.R_mono (Kd.R_far (p := ⟨gb234, 2, none⟩) (Kd.R_types HO240.out BK234.out (by decide)) (fun _ hk => hk.2) (.slice Ao42 y238.length co42)) (fun _ h_ => h_.1))) hb); replace BK223 := blkB BK223 hb; replace BK224 := blkB BK224 hb; replace BK225 := blkB BK225 hb; replace BK234 := aM (blk_below (g := gb234) (o := .cells #[.int .i64 t229, .int .i64 t230, .slice Ao42 y238.length co42] 30 (0, 0)) (by refine nB ?_; refine blk_put (cs := #[.int .i64 t229, .int .i64 t230, .slice Ao37 t231.length co37]) ?_ 2 _ rfl; exact nB BK234.out) hb); replace HB := aM (below_step (uL HB) hb); try clear hb; have hcz46_0 := czA BK234.out 0 (.int .i64 t229); have hcz46_1 := czA BK234.out 1 (.int .i64 t230); have hcz46_2 := czA BK234.out 2 (.slice Ao42 y238.length co42); have hfz46_0 := blk_frozen BK234.out 0; have hfz46_1 := blk_frozen BK234.out 1; have hfz46_2 := blk_frozen BK234.out 2; have hnb47 := NB225_224.out; have hnc47 := NB224_225.out; have hcz48_0 := czA BK225.out 0 (.int .i64 0); have hcz48_1 := czA BK225.out 1 (.int .i64 0); have hcz48_2 := czA BK225.out 2 (.slice none 0 0); have hfz48_0 := blk_frozen BK225.out 0; have hfz48_1 := blk_frozen BK225.out 1; have hfz48_2 := blk_frozen BK225.out 2))
        refine bodyPost_ret (results_ct rfl _ _ gb225 30 #[.int .i64 t229, .int .i64 t230, .slice Ao42 y238.length co42] (0, 0) _ rfl (by refine nB ?_; refine blk_put (cs := #[.int .i64 t229, .int .i64 t230, .slice none 0 0]) ?_ 2 _ rfl; refine nB ?_; refine blk_put (cs := #[.int .i64 t229, .int .i64 0, .slice none 0 0]) ?_ 1 _ rfl; refine nB ?_; refine blk_put (cs := #[.int .i64 0, .int .i64 0, .slice none 0 0]) ?_ 0 _ rfl; exact nB BK225.out) Try.underlying30 rfl (by kernel_rfl)) rfl ?_
        exact ⟨_, by first | rfl | (simp [errW_none, errW_some] <;> rfl) | (simp only [← hji22]; first | rfl | (simp [errW_none, errW_some] <;> rfl)) | (simp [*, errW_none, errW_some] <;> rfl), by (with_reducible repeat first | apply rA | apply rN | apply rD); exact Kd.R_mono (Kd.R_far (p := ⟨gb225, 2, none⟩) (Kd.R_far (p := ⟨gb225, 1, none⟩) (Kd.R_far (p := ⟨gb225, 0, none⟩) (Kd.R_types HO240.out BK225.out (by decide)) (fun _ hk => hk.2) (.int .i64 t229)) (fun _ hk => hk.2) (.int .i64 t230)) (fun _ hk => hk.2) (.slice Ao42 y238.length co42)) (fun _ hk => trivial), uL HB⟩
       ·replace c27 := Bool.eq_false_iff.mpr c27
        subst c27
        have H1 : (some (0, 0, ([] : List (S40)), false)) = some (r1, r2, r3, r4) := by rw [if_neg (show ¬ (false = true) by decide)] at H; exact H
        clear H; have H := H1; clear H1
        simp only [Option.some.injEq, Prod.mk.injEq] at H
        obtain ⟨rfl, rfl, rfl, rfl⟩ := H
        have hnb49 := NB223_224.out; have hnc49 := NB224_223.out; have hnb50 := NB223_225.out; have hnc50 := NB225_223.out
        have hcz51_0 := czA BK223.out 0 (.int .i64 a0_0)
        have hcz51_1 := czA BK223.out 1 (.int .i64 a0_1)
        have hcz51_2 := czA BK223.out 2 (.slice A0_2 l0_2.length c0_2)
        have hfz51_0 := blk_frozen BK223.out 0; have hfz51_1 := blk_frozen BK223.out 1; have hfz51_2 := blk_frozen BK223.out 2
        try go_wp2_with (first | ((with_reducible refine gate_callee (f := 56) rfl ?_); refine gL (some 24) Try.func56 #[.agg #[.int .i64 a0_0, .int .i64 a0_1, .slice A0_2 l0_2.length c0_2]] ?_; (with_reducible refine (impl_copyLog.calls a0_0 a0_1 _ _ l0_2 t229 t230 t231 _ ?side1 ?side2 A21.out).mono ?_); (case side1 => exact uC HR0_2 HB); (case side2 => exact HC0_2.out); rintro e w52 ⟨v232, rfl, ho0, hb⟩; refine ⟨_, rfl, ?_⟩; have HO233 := aM (Kd.R_lower (Kd.R_newB ho0 (g := gb224) (o := .cells #[.int .i64 a2_0, .int .i64 a2_1, .string a2_2] 40 (0, 0)) (uB BK224)) (below_size (uL HB))); replace BK223 := blkB BK223 hb; replace BK224 := blkB BK224 hb; replace BK225 := blkB BK225 hb; replace HB := aM (below_step (uL HB) hb); try clear hb ho0) | ((with_reducible refine gate_dst (N := 8) rfl ?_); refine bxE 8 #[.int .i64 0, .int .i64 0, .slice none 0 0] 30 ?_; intro gb234 hg w53 hbox hb; have BK234 := aM (hbox); have GW234 := szG hg (uL HB); have GE234 := szG hg (uL HB); have NB223_234 := neL hg BK223; have NB234_223 := neG hg BK223; have NB224_234 := neL hg BK224; have NB234_224 := neG hg BK224; have NB225_234 := neL hg BK225; have NB234_225 := neG hg BK225; replace HO233 := aM (Kd.R_below (uR HO233) hb); replace BK223 := blkB BK223 hb; replace BK224 := blkB BK224 hb; replace BK225 := blkB BK225 hb; replace HB := aM (below_step (uL HB) hb); clear hb hbox hg; have hnb54 := NB234_223.out; have hnc54 := NB223_234.out; have hnb55 := NB234_224.out; have hnc55 := NB224_234.out; have hnb56 := NB234_225.out; have hnc56 := NB225_234.out; have hcz57_0 := czA BK234.out 0 (.int .i64 0); have hcz57_1 := czA BK234.out 1 (.int .i64 0); have hcz57_2 := czA BK234.out 2 (.slice none 0 0); have hfz57_0 := blk_frozen BK234.out 0; have hfz57_1 := blk_frozen BK234.out 1; have hfz57_2 := blk_frozen BK234.out 2; obtain ⟨Ao58, co58, eo58⟩ := Kd.R_slice HO233.out; subst eo58))
        have n0_ : Aside0 (Kd.R k40 40 (((w53.setCell ⟨gb234, 0, none⟩ (.int .i64 t229)).setCell ⟨gb234, 1, none⟩ (.int .i64 t230)).setCell ⟨gb234, 2, none⟩ (.slice Ao58 t231.length co58)) w.heap.size (fun k_ => k_ ≠ gb224) (.slice Ao58 t231.length co58) t231) := ⟨by (with_reducible repeat first | apply rA | apply rN | apply rD); exact Kd.R_mono (Kd.R_far (p := ⟨gb234, 2, none⟩) (Kd.R_far (p := ⟨gb234, 1, none⟩) (Kd.R_far (p := ⟨gb234, 0, none⟩) (Kd.R_types HO233.out BK234.out (by decide)) (fun _ hk => hk.2) (.int .i64 t229)) (fun _ hk => hk.2) (.int .i64 t230)) (fun _ hk => hk.2) (.slice Ao58 t231.length co58)) (fun _ hk => hk.1.2)⟩
        have n1_ : Aside0 ((((w53.setCell ⟨gb234, 0, none⟩ (.int .i64 t229)).setCell ⟨gb234, 1, none⟩ (.int .i64 t230)).setCell ⟨gb234, 2, none⟩ (.slice Ao58 t231.length co58)).heap[gb223]? = some (.cells #[.int .i64 a0_0, .int .i64 a0_1, .slice A0_2 l0_2.length c0_2] 30 (0, 0))) := ⟨by refine nB ?_; refine blk_far ?_ NB223_234.out _; refine nB ?_; refine blk_far ?_ NB223_234.out _; refine nB ?_; refine blk_far ?_ NB223_234.out _; exact nB BK223.out⟩
        have n2_ : Aside0 ((((w53.setCell ⟨gb234, 0, none⟩ (.int .i64 t229)).setCell ⟨gb234, 1, none⟩ (.int .i64 t230)).setCell ⟨gb234, 2, none⟩ (.slice Ao58 t231.length co58)).heap[gb224]? = some (.cells #[.int .i64 a2_0, .int .i64 a2_1, .string a2_2] 40 (0, 0))) := ⟨by refine nB ?_; refine blk_far ?_ NB224_234.out _; refine nB ?_; refine blk_far ?_ NB224_234.out _; refine nB ?_; refine blk_far ?_ NB224_234.out _; exact nB BK224.out⟩
        have n3_ : Aside0 ((((w53.setCell ⟨gb234, 0, none⟩ (.int .i64 t229)).setCell ⟨gb234, 1, none⟩ (.int .i64 t230)).setCell ⟨gb234, 2, none⟩ (.slice Ao58 t231.length co58)).heap[gb225]? = some (.cells #[.int .i64 0, .int .i64 0, .slice none 0 0] 30 (0, 0))) := ⟨by refine nB ?_; refine blk_far ?_ NB225_234.out _; refine nB ?_; refine blk_far ?_ NB225_234.out _; refine nB ?_; refine blk_far ?_ NB225_234.out _; exact nB BK225.out⟩
        have n4_ : Aside0 ((((w53.setCell ⟨gb234, 0, none⟩ (.int .i64 t229)).setCell ⟨gb234, 1, none⟩ (.int .i64 t230)).setCell ⟨gb234, 2, none⟩ (.slice Ao58 t231.length co58)).heap[gb234]? = some (.cells #[.int .i64 t229, .int .i64 t230, .slice Ao58 t231.length co58] 30 (0, 0))) := ⟨by refine nB ?_; refine blk_put (cs := #[.int .i64 t229, .int .i64 t230, .slice none 0 0]) ?_ 2 _ rfl; refine nB ?_; refine blk_put (cs := #[.int .i64 t229, .int .i64 0, .slice none 0 0]) ?_ 1 _ rfl; refine nB ?_; refine blk_put (cs := #[.int .i64 0, .int .i64 0, .slice none 0 0]) ?_ 0 _ rfl; exact nB BK234.out⟩
        have n5_ : Aside0 (Below w.heap.size w (((w53.setCell ⟨gb234, 0, none⟩ (.int .i64 t229)).setCell ⟨gb234, 1, none⟩ (.int .i64 t230)).setCell ⟨gb234, 2, none⟩ (.slice Ao58 t231.length co58))) := ⟨uL HB⟩
        (try clear HO233)
        (try clear BK223)
        (try clear BK224)
        (try clear BK225)
        (try clear BK234)
        (try clear HB)
        generalize (((w53.setCell ⟨gb234, 0, none⟩ (.int .i64 t229)).setCell ⟨gb234, 1, none⟩ (.int .i64 t230)).setCell ⟨gb234, 2, none⟩ (.slice Ao58 t231.length co58)) = w59 at n0_ n1_ n2_ n3_ n4_ n5_ ⊢
        have HO233 := n0_; have BK223 := n1_; have BK224 := n2_; have BK225 := n3_; have BK234 := n4_; have HB := n5_; clear n0_ n1_ n2_ n3_ n4_ n5_
        replace HO233 := aM (Kd.R_drew HO233.out)
        replace BK223 := aM (blk_drew BK223.out)
        replace BK224 := aM (blk_drew BK224.out)
        replace BK225 := aM (blk_drew BK225.out)
        replace BK234 := aM (blk_drew BK234.out)
        replace HB := aM (below_drew1 HB.out)
        have q61 : ((ji22) : Int) ≤ ((t231.length : Int) : Int) := of_decide_eq_true (by first | (with_reducible assumption) | assumption)
        obtain ⟨i061, hi061, _, hsz61, _⟩ := info_parts info40
        have hcut61 := cut_to (P := Try.prog) 28 40 .i64 Try.underlying28 hi061 Ao58 t231.length co58 (ji22) (of_decide_eq_true (by first | (with_reducible assumption) | assumption)) q61 (Kd.R_reads' HO233.out).2.1
        have hr61 := Kd.R_take (m := ((ji22) : Int).toNat) HO233.out (by omega)
        have hy61 : y235.length = ((ji22) : Int).toNat := (by rw [Ny235.out, List.length_take]; omega)
        rw [← Ny235.out] at hr61
        rw [← hy61] at hr61 hcut61
        clear hy61 hi061 hsz61 HO233
        have HO237 := aM hr61
        clear hr61
        replace q61 := eq_true q61
        refine start_ (n := 13) (S := fun w' => w'.cell? ⟨gb234, 0, none⟩ = some (.int .i64 t229) ∧ w'.cell? ⟨gb234, 1, none⟩ = some (.int .i64 t230) ∧ w'.cell? ⟨gb234, 2, none⟩ = some (.slice Ao58 t231.length co58) ∧ w'.cell? ⟨gb223, 0, none⟩ = some (.int .i64 a0_0) ∧ w'.cell? ⟨gb223, 1, none⟩ = some (.int .i64 a0_1) ∧ w'.cell? ⟨gb223, 2, none⟩ = some (.slice A0_2 l0_2.length c0_2) ∧ w'.cell? ⟨gb224, 0, none⟩ = some (.int .i64 a2_0) ∧ w'.cell? ⟨gb224, 1, none⟩ = some (.int .i64 a2_1) ∧ w'.cell? ⟨gb224, 2, none⟩ = some (.string a2_2)) (ds := [12]) (bB 13 0) (by kernel_rfl) rfl rfl ⟨(blk_cell BK234.out 0).trans rfl, (blk_cell BK234.out 1).trans rfl, (blk_cell BK234.out 2).trans rfl, (blk_cell BK223.out 0).trans rfl, (blk_cell BK223.out 1).trans rfl, (blk_cell BK223.out 2).trans rfl, (blk_cell BK224.out 0).trans rfl, (blk_cell BK224.out 1).trans rfl, (blk_cell BK224.out 2).trans rfl⟩ (fun hHeld => ?_); refine with_tabW impl_LogPut.tab4 impl_LogPut.bits4 (fun HT_ HW_ => ?_)
        generalize w59.drew = w60 at BK223 BK224 BK225 BK234 HB HO237 hHeld ⊢
        refine pA HT_.out 0 25 13 1 ?_; refine pA HT_.out 2 27 13 5 ?_; refine pA HT_.out 3 28 13 13 ?_; refine tA HT_.out HW_.out 1 26 13 15 hHeld ?_; refine tA HT_.out HW_.out 4 29 13 31 hHeld ?_; refine pA HT_.out 5 30 13 63 ?_; refine pA HT_.out 6 31 13 127 ?_; refine pA HT_.out 7 32 13 255 ?_; refine tA HT_.out HW_.out 8 33 13 511 hHeld ?_
        refine oA HT_.out 9 (some 34) 13 1023 (fun K hK => ?_)
        refine value_ (w1 := ?_) (v := ?_) (by rfl) rfl ?_ ?_
        rotate_left 2
        ·go_simp
         constructor
         ·rfl
         ·rfl
        refine hK.out _ _ ⟨(blk_cell (blk_alloc BK234.out _) 0).trans rfl, (blk_cell (blk_alloc BK234.out _) 1).trans rfl, (blk_cell (blk_alloc BK234.out _) 2).trans rfl, (blk_cell (blk_alloc BK223.out _) 0).trans rfl, (blk_cell (blk_alloc BK223.out _) 1).trans rfl, (blk_cell (blk_alloc BK223.out _) 2).trans rfl, (blk_cell (blk_alloc BK224.out _) 0).trans rfl, (blk_cell (blk_alloc BK224.out _) 1).trans rfl, (blk_cell (blk_alloc BK224.out _) 2).trans rfl⟩ (fun hHeld => ?_)
        clear hK K
        refine nX 34 ?_
        refine oA HT_.out 10 (some 35) 13 2047 (fun K hK => ?_)
        refine Kd.R_append_step k40 (w0 := w) w.heap.size (by rfl) (.tmp 32) (.tmp 34) 28 40 (.agg #[(.int .i64 0), (.int .i64 0), (.string ⟨#[]⟩)]) 32 rfl Try.underlying28 info40 rfl (by decide) (by omega) (.slice Ao58 y235.length co58) y235 (⟨a2_0, a2_1, a2_2⟩ : S40) [.int .i64 a2_0, .int .i64 a2_1, .string a2_2] (fun k_ => k_ ≠ gb224) (fun _ => False) rfl rfl ?aP (fun _ hk => hk.elim) ?aF ?aO ?aB ?aS ?aL ?_
        (case aP => exact k40_mkM _ _ _ (⟨a2_0, a2_1, a2_2⟩ : S40))
        (case aB => exact (uL HB))
        (case aF => exact (fun k_ hk => Kd.freshB (g := gb224) (o := .cells #[.int .i64 a2_0, .int .i64 a2_1, .string a2_2] 40 (0, 0)) (uB BK224) k_ hk))
        (case aO => exact (uR HO237))
        (case aS => exact (below_size (uL HB)))
        (case aL => have := LMc25.out; omega)
        intro v239 w62 ho hb hg hat
        rw [← Ny238.out] at ho
        have n0_ := aM (blk_grown (g := gb223) (o := .cells #[.int .i64 a0_0, .int .i64 a0_1, .slice A0_2 l0_2.length c0_2] 30 (0, 0)) (uB BK223) hg (Kd.R_ne HO237.out BK223.out (by decide)))
        have n1_ := aM (blk_grown (g := gb224) (o := .cells #[.int .i64 a2_0, .int .i64 a2_1, .string a2_2] 40 (0, 0)) (uB BK224) hg (Kd.R_away HO237.out (fun _ hk => hk)))
        have n2_ := aM (blk_grown (g := gb225) (o := .cells #[.int .i64 0, .int .i64 0, .slice none 0 0] 30 (0, 0)) (uB BK225) hg (Kd.R_ne HO237.out BK225.out (by decide)))
        have n3_ := aM (blk_grown (g := gb234) (o := .cells #[.int .i64 t229, .int .i64 t230, .slice Ao58 t231.length co58] 30 (0, 0)) (uB BK234) hg (Kd.R_ne HO237.out BK234.out (by decide)))
        have n4_ := aM (hb)
        have n5_ := aM (ho)
        clear BK223 BK224 BK225 BK234 HB HO237; have BK223 := n0_; have BK224 := n1_; have BK225 := n2_; have BK234 := n3_; have HB := n4_; have HO240 := n5_; clear n0_ n1_ n2_ n3_ n4_ n5_ ho hb hg hat
        obtain ⟨Ao63, co63, eo63⟩ := Kd.R_slice HO240.out
        (first | subst eo63 | (injection eo63 with f1_ f2_ f3_; have f4_ := f1_.symm; have f5_ := f3_.symm; clear f1_ f2_ f3_; subst f4_; subst f5_))
        refine hK.out _ _ ⟨(blk_cell BK234.out 0).trans rfl, (blk_cell BK234.out 1).trans rfl, (blk_cell BK234.out 2).trans rfl, (blk_cell BK223.out 0).trans rfl, (blk_cell BK223.out 1).trans rfl, (blk_cell BK223.out 2).trans rfl, (blk_cell BK224.out 0).trans rfl, (blk_cell BK224.out 1).trans rfl, (blk_cell BK224.out 2).trans rfl⟩ (fun hHeld => ?_)
        clear hK K
        refine nX 35 ?_; refine pA HT_.out 11 36 13 4095 ?_
        refine last_ (i := 12) (N := none) (bB 13 8191) rfl rfl (one_of HT_.out (by kernel_rfl)) (by decide) (fun K hK => ?_)
        have hs64 := czA BK234.out 2 (.slice Ao58 t231.length co58)
        have hfs64 := blk_frozen BK234.out 2; have hns64_0 := NB223_234.out; have hns64_1 := NB224_234.out; have hns64_2 := NB225_234.out; have hms64_0 := NB234_223.out; have hms64_1 := NB234_224.out; have hms64_2 := NB234_225.out
        refine skip_ (w1 := ?_) (by rfl) rfl ?_ ?_
        rotate_left
        ·go_simp
         rfl
        refine hK.out _ _ ?_
        clear hK K
        refine done_ (done_of HT_.out (by kernel_rfl)) ?_
        have hcz65_0 := czA BK234.out 0 (.int .i64 t229)
        have hcz65_1 := czA BK234.out 1 (.int .i64 t230)
        have hcz65_2 := czA BK234.out 2 (.slice Ao58 t231.length co58)
        have hfz65_0 := blk_frozen BK234.out 0; have hfz65_1 := blk_frozen BK234.out 1; have hfz65_2 := blk_frozen BK234.out 2
        try go_wp2_with (first | ((with_reducible refine gate_callee (f := 27) rfl ?_); refine gL (some 38) Try.func27 #[.agg #[.int .i64 t229, .int .i64 t230, .slice Ao63 y238.length co63]] ?_; (with_reducible refine (impl_LogOk.calls kj3 t229 t230 _ _ y238 false _ ?side1 ?side2 A26.out).mono ?_); (case side1 => refine (Kd.R_reads' (e := 40) (base := w.heap.size) (ok := fun k_ => k_ ≠ gb224) (n := y238.length) (c := co63) ?_).2.2; exact (by (with_reducible repeat first | apply rA | apply rN | apply rD); exact (Kd.R_mono (Kd.R_far (p := ⟨gb234, 2, none⟩) (Kd.R_types HO240.out BK234.out (by decide)) (fun _ hk => hk.2) (.slice Ao63 y238.length co63)) (fun _ h_ => h_.1)))); (case side2 => exact (Kd.R_reads' HO240.out).2.1); rintro e w66 ⟨rfl, hb⟩; refine ⟨_, rfl, ?_⟩; replace HO240 := aM (Kd.R_below (by (with_reducible repeat first | apply rA | apply rN | apply rD); exact (Kd.R_mono (Kd.R_far (p := ⟨gb234, 2, none⟩) (Kd.R_types HO240.out BK234.out (by decide)) (fun _ hk => hk.2) (.slice Ao63 y238.length co63)) (fun _ h_ => h_.1))) hb); replace BK223 := blkB BK223 hb; replace BK224 := blkB BK224 hb; replace BK225 := blkB BK225 hb; replace BK234 := aM (blk_below (g := gb234) (o := .cells #[.int .i64 t229, .int .i64 t230, .slice Ao63 y238.length co63] 30 (0, 0)) (by refine nB ?_; refine blk_put (cs := #[.int .i64 t229, .int .i64 t230, .slice Ao58 t231.length co58]) ?_ 2 _ rfl; exact nB BK234.out) hb); replace HB := aM (below_step (uL HB) hb); try clear hb; have hnb67 := NB225_224.out; have hnc67 := NB224_225.out; have hcz68_0 := czA BK225.out 0 (.int .i64 0); have hcz68_1 := czA BK225.out 1 (.int .i64 0); have hcz68_2 := czA BK225.out 2 (.slice none 0 0); have hfz68_0 := blk_frozen BK225.out 0; have hfz68_1 := blk_frozen BK225.out 1; have hfz68_2 := blk_frozen BK225.out 2))
        refine bodyPost_ret (results_ct rfl _ _ gb225 30 #[.int .i64 0, .int .i64 0, .slice none 0 0] (0, 0) _ rfl (by refine nB ?_; refine blk_put (cs := #[.int .i64 0, .int .i64 0, .slice none 0 0]) ?_ 2 _ rfl; refine nB ?_; refine blk_put (cs := #[.int .i64 0, .int .i64 0, .slice none 0 0]) ?_ 1 _ rfl; refine nB ?_; refine blk_put (cs := #[.int .i64 0, .int .i64 0, .slice none 0 0]) ?_ 0 _ rfl; exact nB BK225.out) Try.underlying30 rfl (by kernel_rfl)) rfl ?_
        exact ⟨_, by first | rfl | (simp [errW_none, errW_some] <;> rfl) | (simp only [← hji22]; first | rfl | (simp [errW_none, errW_some] <;> rfl)) | (simp [*, errW_none, errW_some] <;> rfl), by first | exact Kd.R_nil _ _ _ _ _ | exact Kd.N_nil _ _ _ _ _ | exact Kd.V_nil _ _ _ _ _ | exact Kd.Q_nil _ _ _ _ _ | exact Kd.S_nil _ _ _ _ _, uL HB⟩
      ·rw [if_neg c25] at H
       exact absurd H (by simp)
     ·rw [if_neg c24] at H
      exact absurd H (by simp)
    ·rw [if_neg c23] at H
     exact absurd H (by simp)

end Go.Proofs.Ytacdceahdbaonaa.QFnExactLogPut
