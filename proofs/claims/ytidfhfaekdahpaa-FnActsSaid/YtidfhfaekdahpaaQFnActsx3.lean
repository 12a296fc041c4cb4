-- Own work (wip/turnprint.py over the kit's print).
import Derived.Test.YtidfhfaekdahpaaQFnActsx0
import Derived.Test.YtidfhfaekdahpaaQFnActsx2
namespace Go.Proofs.Ytidfhfaekdahpaa.QFnActs
open Go.RowKit Go.Proofs.YtidfhfaekdahpaaW.PrintWords Go.Proofs.YtidfhfaekdahpaaW.PrintLast Go.Proofs.YtidfhfaekdahpaaW.PrintMore
attribute [local go_sem] max2_int min2_int max_two min_two max_three min_three max_four min_four   -- for this text's walks alone
attribute [local go_sem] Go.Proofs.YtidfhfaekdahpaaQWords.run_lss_str
attribute [local go_sem] Go.Proofs.YtidfhfaekdahpaaQWords.run_geq_str
attribute [local go_sem] Go.Proofs.YtidfhfaekdahpaaQWords.run_leq_str
attribute [local go_sem] Go.Proofs.YtidfhfaekdahpaaQWords.run_gtr_str
set_option linter.unusedVariables false
set_option linter.unusedSimpArgs false

/-! ### impl_DiskOk: function 21 -/
def impl_DiskOk.l0 : Nat → List (S45) → Int → Int → List (S45) → Option (Bool)
 | 0, _, _, _, _ => none
 | k + 1, x6, x7, x8, x112000 => if x8 < x7 then (if 0 ≤ x8 then (if x8 < (x6.length : Int) then ((impl_fileOk.f ((rd_T45 x6 x8).f0) ((rd_T45 x6 x8).f1) ((rd_T45 x6 x8).f2)).bind fun t114 => (if t114 = true then (if x8 > 0 then (if 0 ≤ (wrap64 (x8 - 1)) then (if (wrap64 (x8 - 1)) < (x112000.length : Int) then (if ((Op.bytesLess (((rd_T45 x112000 (wrap64 (x8 - 1))).f0).toList) (((rd_T45 x6 x8).f0).toList)) = true) then (impl_DiskOk.l0 k x6 x7 (wrap64 (x8 + 1)) x112000) else (some false)) else (none)) else (none)) else (impl_DiskOk.l0 k x6 x7 (wrap64 (x8 + 1)) x112000)) else (some false))) else (none)) else (none)) else (some (decide ((x112000.length : Int) ≤ 30)))
def impl_DiskOk.f (k : Nat) (l0_0 : List (S45)) : Option (Bool) := impl_DiskOk.l0 k l0_0 (l0_0.length : Int) 0 l0_0
theorem impl_DiskOk.mono_l : ∀ k, (∀ y0 y1 y2 y3, LeO (impl_DiskOk.l0 k y0 y1 y2 y3) (impl_DiskOk.l0 (k + 1) y0 y1 y2 y3))
 | 0 => fun _ _ _ _ r h => by simp [impl_DiskOk.l0] at h
 | k + 1 => by
  have ih0 := impl_DiskOk.mono_l k
  ·intro y0 y1 y2 y3
   unfold impl_DiskOk.l0
   repeat' first
   | (with_reducible exact ih0 _ _ _ _)
   | (with_reducible exact LeO.refl _)
   | (with_reducible exact LeO.none _)
   | (with_reducible refine LeO.ite ?_ ?_)
   | (with_reducible refine LeO.bind ?_ (fun _ => ?_))
   | exact ih0 _ _ _ _
   | exact LeO.none _
   | refine LeO.ite ?_ ?_
   | refine LeO.bind ?_ (fun _ => ?_)
theorem impl_DiskOk.mono : ∀ a0 k, LeO (impl_DiskOk.f k a0) (impl_DiskOk.f (k + 1) a0) := by
 intro a0 k
 have ih0 := impl_DiskOk.mono_l k
 unfold impl_DiskOk.f
 repeat' first
  | (with_reducible exact ih0 _ _ _ _)
  | (with_reducible exact LeO.refl _)
  | (with_reducible exact LeO.none _)
  | (with_reducible refine LeO.ite ?_ ?_)
  | (with_reducible refine LeO.bind ?_ (fun _ => ?_))
  | exact ih0 _ _ _ _
  | exact LeO.none _
  | refine LeO.ite ?_ ?_
  | refine LeO.bind ?_ (fun _ => ?_)
def impl_DiskOk.T4 : Bool × List (List Nat × List Nat) := (true, [([], []), ([0], [0]), ([1], [1]), ([2, 1], [2]), ([3], [3]), ([4, 3], [3, 4]), ([5, 3, 3], [3, 5]), ([6], [6]), ([7, 6], [6, 7]), ([6], [6]), ([9, 6], [6, 9]), ([8, 10, 6], [6, 8, 10]), ([11, 6], [6, 11]), ([12, 6], [6, 12]), ([6], [6]), ([14, 6], [6, 14]), ([13, 15, 6], [6, 13, 15]), ([6, 16, 3], [3, 6, 16]), ([3, 17], [3, 17])])
def impl_DiskOk.B4 : List Nat := [0, 1, 3, 7, 15, 31, 63, 127, 255, 127, 639, 2047, 4095, 8191, 127, 16511, 65535, 131071, 262143]
theorem impl_DiskOk.tab4 : rtab .any (opsOf Try.f21 4) = impl_DiskOk.T4 := by kernel_rfl
theorem impl_DiskOk.bits4 : waitsOk impl_DiskOk.T4.2 impl_DiskOk.B4 = true := by kernel_rfl
set_option maxHeartbeats 8000000 in
set_option maxRecDepth 100000 in
theorem impl_DiskOk.calls (k : Nat) (A0_0 : Option Addr) (c0_0 : Nat) (l0_0 : List (S45)) (r : Bool) (w : World) (hr0_0 : Kd.C k45 w A0_0 l0_0.length l0_0) (hc0_0 : l0_0.length ≤ c0_0) (h : impl_DiskOk.f k l0_0 = some r) :
 Calls Try.prog 21 #[.agg #[.slice A0_0 l0_0.length c0_0]] w fun e w' => e = .returned (.bool r) ∧ Below w.heap.size w w' := by
 have hu30 := Try.underlying30
 have hu45 := Try.underlying45
 have HR0_0 := aM hr0_0
 have HC0_0 := aM hc0_0
 clear hr0_0 hc0_0
 have HB := aM (Below.refl w.heap.size w)
 have H : (impl_DiskOk.l0 k l0_0 (l0_0.length : Int) 0 l0_0) = some r := h
 clear h
 have H' := aM H
 clear H
 go_enter Try.func21, Try.ntmps21
 go_wp2_with (first | ((with_reducible refine gate_dst (N := 1) rfl ?_); refine bxE 1 #[.slice A0_0 l0_0.length c0_0] 30 ?_; intro gb111 hg w2 hbox hb; have BK111 := aM (hbox); have GW111 := szG hg (uL HB); have GE111 := szG hg (uL HB); replace HB := aM (below_step (uL HB) hb); clear hb hbox hg; have hcz3_0 := czA BK111.out 0 (.slice A0_0 l0_0.length c0_0); have hfz3_0 := blk_frozen BK111.out 0))
 go_loopg [8] k (fun kq v8 w' => ∃ (x8_1 : Int), v8 = .int .i64 x8_1 ∧ Aside0 (impl_DiskOk.l0 kq l0_0 (l0_0.length : Int) x8_1 l0_0 = some r) ∧ Aside0 (kq ≤ k) ∧ Aside0 (w'.heap[gb111]? = some (.cells #[(.slice A0_0 l0_0.length c0_0)] 30 (0, 0))) ∧ Aside0 (Below w.heap.size w w'))
 case atStart => exact ⟨(0), (by first | rfl | (simp; done) | (simp [*]; done)), H', ⟨Nat.le_refl _⟩, ⟨by exact nB BK111.out⟩, ⟨uL HB⟩⟩
 case round =>
  clear H'
  try clear c2; try clear p2; try clear hcz3_0; try clear hfz3_0
  obtain ⟨x8_1, rfl, HA, HK1, BK111, HB⟩ := hrel
  cases gk with
  | zero => exact absurd HA.out (by simp [impl_DiskOk.l0])
  | succ k1 =>
   have H := HA.out
   clear HA
   simp only [impl_DiskOk.l0] at H
   by_cases c4 : x8_1 < (l0_0.length : Int)
   ·rw [if_pos c4] at H
    have c4b0 : decide (x8_1 < (l0_0.length : Int)) = true := decide_eq_true c4
    clear c4
    by_cases c5 : 0 ≤ x8_1
    ·rw [if_pos c5] at H
     have c5b0 : decide (0 ≤ x8_1) = true := decide_eq_true c5
     clear c5
     by_cases c6 : x8_1 < (l0_0.length : Int)
     ·rw [if_pos c6] at H
      have c6b0 : decide (x8_1 < (l0_0.length : Int)) = true := decide_eq_true c6
      clear c6
      replace H := Option.bind_eq_some_iff.mp H
      obtain ⟨t114, A70, H⟩ := H
      try dsimp only at H
      have A7 := aM A70
      clear A70
      by_cases c8 : t114 = true
      ·subst c8
       rw [if_pos rfl] at H
       by_cases c9 : x8_1 > 0
       ·rw [if_pos c9] at H
        have c9b0 : decide (0 < x8_1) = true := decide_eq_true c9
        clear c9
        obtain ⟨ji10, hji10⟩ : ∃ j_ : Int, (wrap64 (x8_1 - 1)) = j_ := ⟨_, rfl⟩
        replace H : (if 0 ≤ (ji10) then (if (ji10) < (l0_0.length : Int) then (if ((Op.bytesLess (((rd_T45 l0_0 (ji10)).f0).toList) (((rd_T45 l0_0 x8_1).f0).toList)) = true) then (impl_DiskOk.l0 k1 l0_0 (l0_0.length : Int) (wrap64 (x8_1 + 1)) l0_0) else (some false)) else (none)) else (none)) = some r := by first | (rw [hji10] at H; exact H) | (simp only [hji10] at H ⊢; exact H)
        (try rw [hji10] at A7)
        have hji10w : (IntKind.i64.wrap (x8_1 - 1)) = ji10 := (i64_w _).trans hji10
        by_cases c11 : 0 ≤ (ji10)
        ·rw [if_pos c11] at H
         have c11b0 : decide (0 ≤ (ji10)) = true := decide_eq_true c11
         clear c11
         by_cases c12 : (ji10) < (l0_0.length : Int)
         ·rw [if_pos c12] at H
          have c12b0 : decide ((ji10) < (l0_0.length : Int)) = true := decide_eq_true c12
          clear c12
          by_cases c13 : ((Op.bytesLess (((rd_T45 l0_0 (ji10)).f0).toList) (((rd_T45 l0_0 x8_1).f0).toList)) = true)
          ·rw [if_pos c13] at H
           have c13b0 : (Op.bytesLess (((rd_T45 l0_0 (ji10)).f0).toList) (((rd_T45 l0_0 x8_1).f0).toList)) = true := c13
           clear c13
           have H' := aM H
           clear H
           have p112 : 0 ≤ (x8_1 : Int) := of_decide_eq_true (by first | (with_reducible assumption) | assumption)
           have q112 : x8_1 < (l0_0.length : Int) := of_decide_eq_true (by first | (with_reducible assumption) | assumption)
           obtain ⟨ad112, e112, hx112_0, hx112_1, hx112_2⟩ := at_T45 HR0_0.out x8_1 p112 q112
           cases e112
           replace hx112_0 := hxB HB hx112_0; replace hx112_1 := hxB HB hx112_1; replace hx112_2 := hxB HB hx112_2; replace p112 := eq_true p112; replace q112 := eq_true q112
           try go_wp2_with (first | ((with_reducible refine gate_dst (N := 4) rfl ?_); refine bxE 4 #[.string (⟨#[]⟩ : ByteArray), .string (⟨#[]⟩ : ByteArray), .int .i64 0] 45 ?_; intro gb113 hg w14 hbox hb; have BK113 := aM (hbox); have GW113 := szG hg (uL HB); have GE113 := szG hg (uL HB); have NB111_113 := neL hg BK111; have NB113_111 := neG hg BK111; replace BK111 := blkB BK111 hb; replace HB := aM (below_step (uL HB) hb); clear hb hbox hg; have hnb15 := NB113_111.out; have hnc15 := NB111_113.out; have hcz16_0 := czA BK113.out 0 (.string (⟨#[]⟩ : ByteArray)); have hcz16_1 := czA BK113.out 1 (.string (⟨#[]⟩ : ByteArray)); have hcz16_2 := czA BK113.out 2 (.int .i64 0); have hfz16_0 := blk_frozen BK113.out 0; have hfz16_1 := blk_frozen BK113.out 1; have hfz16_2 := blk_frozen BK113.out 2))
           have n0_ : Aside0 ((((w14.setCell ⟨gb113, 0, none⟩ (.string ((rd_T45 l0_0 x8_1).f0))).setCell ⟨gb113, 1, none⟩ (.string ((rd_T45 l0_0 x8_1).f1))).setCell ⟨gb113, 2, none⟩ (.int .i64 ((rd_T45 l0_0 x8_1).f2))).heap[gb111]? = some (.cells #[.slice (some ad112) l0_0.length c0_0] 30 (0, 0))) := ⟨by refine nB ?_; refine blk_far ?_ NB111_113.out _; refine nB ?_; refine blk_far ?_ NB111_113.out _; refine nB ?_; refine blk_far ?_ NB111_113.out _; exact nB BK111.out⟩
           have n1_ : Aside0 ((((w14.setCell ⟨gb113, 0, none⟩ (.string ((rd_T45 l0_0 x8_1).f0))).setCell ⟨gb113, 1, none⟩ (.string ((rd_T45 l0_0 x8_1).f1))).setCell ⟨gb113, 2, none⟩ (.int .i64 ((rd_T45 l0_0 x8_1).f2))).heap[gb113]? = some (.cells #[.string ((rd_T45 l0_0 x8_1).f0), .string ((rd_T45 l0_0 x8_1).f1), .int .i64 ((rd_T45 l0_0 x8_1).f2)] 45 (0, 0))) := ⟨by refine nB ?_; refine blk_put (cs := #[.string ((rd_T45 l0_0 x8_1).f0), .string ((rd_T45 l0_0 x8_1).f1), .int .i64 0]) ?_ 2 _ rfl; refine nB ?_; refine blk_put (cs := #[.string ((rd_T45 l0_0 x8_1).f0), .string (⟨#[]⟩ : ByteArray), .int .i64 0]) ?_ 1 _ rfl; refine nB ?_; refine blk_put (cs := #[.string (⟨#[]⟩ : ByteArray), .string (⟨#[]⟩ : ByteArray), .int .i64 0]) ?_ 0 _ rfl; exact nB BK113.out⟩
           have n2_ : Aside0 (Below w.heap.size w (((w14.setCell ⟨gb113, 0, none⟩ (.string ((rd_T45 l0_0 x8_1).f0))).setCell ⟨gb113, 1, none⟩ (.string ((rd_T45 l0_0 x8_1).f1))).setCell ⟨gb113, 2, none⟩ (.int .i64 ((rd_T45 l0_0 x8_1).f2)))) := ⟨uL HB⟩
           (try clear BK111)
           (try clear BK113)
           (try clear HB)
           generalize (((w14.setCell ⟨gb113, 0, none⟩ (.string ((rd_T45 l0_0 x8_1).f0))).setCell ⟨gb113, 1, none⟩ (.string ((rd_T45 l0_0 x8_1).f1))).setCell ⟨gb113, 2, none⟩ (.int .i64 ((rd_T45 l0_0 x8_1).f2))) = w17 at n0_ n1_ n2_ ⊢
           have BK111 := n0_; have BK113 := n1_; have HB := n2_; clear n0_ n1_ n2_
           replace BK111 := aM (blk_drew BK111.out)
           replace BK113 := aM (blk_drew BK113.out)
           replace HB := aM (below_drew1 HB.out)
           have p115 : 0 ≤ ((ji10) : Int) := of_decide_eq_true (by first | (with_reducible assumption) | assumption)
           have q115 : (ji10) < (l0_0.length : Int) := of_decide_eq_true (by first | (with_reducible assumption) | assumption)
           obtain ⟨ad115, e115, hx115_0, hx115_1, hx115_2⟩ := at_T45 HR0_0.out (ji10) p115 q115
           have hw115_2 := hx115_2; have hw115_1 := hx115_1; have hw115_0 := hx115_0
           obtain rfl : ad112 = ad115 := (by injection e115)
           replace hx115_0 := hxB HB hx115_0; replace hx115_1 := hxB HB hx115_1; replace hx115_2 := hxB HB hx115_2; replace p115 := eq_true p115; replace q115 := eq_true q115
           refine start_ (n := 19) (S := fun w' => w'.cell? ⟨gb113, 0, none⟩ = some (.string ((rd_T45 l0_0 x8_1).f0)) ∧ w'.cell? ⟨gb113, 1, none⟩ = some (.string ((rd_T45 l0_0 x8_1).f1)) ∧ w'.cell? ⟨gb113, 2, none⟩ = some (.int .i64 ((rd_T45 l0_0 x8_1).f2)) ∧ w'.cell? ⟨gb111, 0, none⟩ = some (.slice (some ad112) l0_0.length c0_0) ∧ w'.cell? (ad112.add (((ji10)).toNat * 3)) = some (.string ((rd_T45 l0_0 (ji10)).f0)) ∧ w'.cell? ⟨(ad112.add (((ji10)).toNat * 3)).block, (ad112.add (((ji10)).toNat * 3)).off + 1, none⟩ = some (.string ((rd_T45 l0_0 (ji10)).f1)) ∧ w'.cell? ⟨(ad112.add (((ji10)).toNat * 3)).block, (ad112.add (((ji10)).toNat * 3)).off + 2, none⟩ = some (.int .i64 ((rd_T45 l0_0 (ji10)).f2))) (ds := []) (bB 19 0) (by kernel_rfl) rfl rfl ⟨(blk_cell BK113.out 0).trans rfl, (blk_cell BK113.out 1).trans rfl, (blk_cell BK113.out 2).trans rfl, (blk_cell BK111.out 0).trans rfl, (hyB HB hw115_0), (hyB HB hw115_1), (hyB HB hw115_2)⟩ (fun hHeld => ?_); refine with_tabW impl_DiskOk.tab4 impl_DiskOk.bits4 (fun HT_ HW_ => ?_)
           generalize w17.drew = w18 at BK111 BK113 HB hx115_0 hx115_1 hx115_2 hHeld ⊢
           refine tA HT_.out HW_.out 0 13 19 1 hHeld ?_
           refine oA HT_.out 1 (some 14) 19 3 (fun K hK => ?_)
           refine gX Try.func75 #[.agg #[.string ((rd_T45 l0_0 x8_1).f0), .string ((rd_T45 l0_0 x8_1).f1), .int .i64 ((rd_T45 l0_0 x8_1).f2)]] ?_
           with_reducible refine (impl_fileOk.calls ((rd_T45 l0_0 x8_1).f0) ((rd_T45 l0_0 x8_1).f1) ((rd_T45 l0_0 x8_1).f2) true _ A7.out).mono ?_
           rintro e w19 ⟨rfl, hb⟩
           refine ⟨_, rfl, ?_⟩
           replace BK111 := blkB BK111 hb
           replace BK113 := blkB BK113 hb
           replace HB := aM (below_step (uL HB) hb)
           (try clear hb)
           (try clear hb2)
           (try clear hk)
           (try clear hi)
           refine hK.out _ _ ⟨(blk_cell BK113.out 0).trans rfl, (blk_cell BK113.out 1).trans rfl, (blk_cell BK113.out 2).trans rfl, (blk_cell BK111.out 0).trans rfl, (hyB HB hw115_0), (hyB HB hw115_1), (hyB HB hw115_2)⟩ (fun hHeld => ?_)
           clear hK K
           refine nX 14 ?_; refine pA HT_.out 2 15 19 7 ?_; refine pA HT_.out 3 16 19 15 ?_; refine pA HT_.out 4 17 19 31 ?_; refine pA HT_.out 5 18 19 63 ?_; refine pA HT_.out 6 19 19 127 ?_; refine pA HT_.out 7 20 19 255 ?_; refine pA HT_.out 9 22 19 767 ?_; refine pA HT_.out 10 23 19 1791 ?_; refine pA HT_.out 14 27 19 18175 ?_; refine tA HT_.out HW_.out 8 21 19 18431 hHeld ?_; refine pA HT_.out 11 24 19 20479 ?_; refine pA HT_.out 12 25 19 24575 ?_; refine tA HT_.out HW_.out 13 26 19 32767 hHeld ?_; refine tA HT_.out HW_.out 15 28 19 65535 hHeld ?_; refine pA HT_.out 16 29 19 131071 ?_; refine pA HT_.out 17 30 19 262143 ?_; refine pA HT_.out 18 31 19 524287 ?_
           refine done_ (done_of HT_.out (by kernel_rfl)) ?_
           try go_wp2
           go_roundg k1
           case measure => have := HK1.out; omega
           case rel => exact ⟨(wrap64 (x8_1 + 1)), (by first | rfl | (simp; done) | (simp [*]; done)), H', ⟨by have := HK1.out; omega⟩, ⟨by exact nB BK111.out⟩, ⟨uL HB⟩⟩
          ·rw [if_neg c13] at H
           have c13b0 : (Op.bytesLess (((rd_T45 l0_0 (ji10)).f0).toList) (((rd_T45 l0_0 x8_1).f0).toList)) = false := by simpa using c13
           clear c13
           obtain rfl := Option.some.inj H
           have p112 : 0 ≤ (x8_1 : Int) := of_decide_eq_true (by first | (with_reducible assumption) | assumption)
           have q112 : x8_1 < (l0_0.length : Int) := of_decide_eq_true (by first | (with_reducible assumption) | assumption)
           obtain ⟨ad112, e112, hx112_0, hx112_1, hx112_2⟩ := at_T45 HR0_0.out x8_1 p112 q112
           cases e112
           replace hx112_0 := hxB HB hx112_0; replace hx112_1 := hxB HB hx112_1; replace hx112_2 := hxB HB hx112_2; replace p112 := eq_true p112; replace q112 := eq_true q112
           try go_wp2_with (first | ((with_reducible refine gate_dst (N := 4) rfl ?_); refine bxE 4 #[.string (⟨#[]⟩ : ByteArray), .string (⟨#[]⟩ : ByteArray), .int .i64 0] 45 ?_; intro gb113 hg w20 hbox hb; have BK113 := aM (hbox); have GW113 := szG hg (uL HB); have GE113 := szG hg (uL HB); have NB111_113 := neL hg BK111; have NB113_111 := neG hg BK111; replace BK111 := blkB BK111 hb; replace HB := aM (below_step (uL HB) hb); clear hb hbox hg; have hnb21 := NB113_111.out; have hnc21 := NB111_113.out; have hcz22_0 := czA BK113.out 0 (.string (⟨#[]⟩ : ByteArray)); have hcz22_1 := czA BK113.out 1 (.string (⟨#[]⟩ : ByteArray)); have hcz22_2 := czA BK113.out 2 (.int .i64 0); have hfz22_0 := blk_frozen BK113.out 0; have hfz22_1 := blk_frozen BK113.out 1; have hfz22_2 := blk_frozen BK113.out 2))
           have n0_ : Aside0 ((((w20.setCell ⟨gb113, 0, none⟩ (.string ((rd_T45 l0_0 x8_1).f0))).setCell ⟨gb113, 1, none⟩ (.string ((rd_T45 l0_0 x8_1).f1))).setCell ⟨gb113, 2, none⟩ (.int .i64 ((rd_T45 l0_0 x8_1).f2))).heap[gb111]? = some (.cells #[.slice (some ad112) l0_0.length c0_0] 30 (0, 0))) := ⟨by refine nB ?_; refine blk_far ?_ NB111_113.out _; refine nB ?_; refine blk_far ?_ NB111_113.out _; refine nB ?_; refine blk_far ?_ NB111_113.out _; exact nB BK111.out⟩
           have n1_ : Aside0 ((((w20.setCell ⟨gb113, 0, none⟩ (.string ((rd_T45 l0_0 x8_1).f0))).setCell ⟨gb113, 1, none⟩ (.string ((rd_T45 l0_0 x8_1).f1))).setCell ⟨gb113, 2, none⟩ (.int .i64 ((rd_T45 l0_0 x8_1).f2))).heap[gb113]? = some (.cells #[.string ((rd_T45 l0_0 x8_1).f0), .string ((rd_T45 l0_0 x8_1).f1), .int .i64 ((rd_T45 l0_0 x8_1).f2)] 45 (0, 0))) := ⟨by refine nB ?_; refine blk_put (cs := #[.string ((rd_T45 l0_0 x8_1).f0), .string ((rd_T45 l0_0 x8_1).f1), .int .i64 0]) ?_ 2 _ rfl; refine nB ?_; refine blk_put (cs := #[.string ((rd_T45 l0_0 x8_1).f0), .string (⟨#[]⟩ : ByteArray), .int .i64 0]) ?_ 1 _ rfl; refine nB ?_; refine blk_put (cs := #[.string (⟨#[]⟩ : ByteArray), .string (⟨#[]⟩ : ByteArray), .int .i64 0]) ?_ 0 _ rfl; exact nB BK113.out⟩
           have n2_ : Aside0 (Below w.heap.size w (((w20.setCell ⟨gb113, 0, none⟩ (.string ((rd_T45 l0_0 x8_1).f0))).setCell ⟨gb113, 1, none⟩ (.string ((rd_T45 l0_0 x8_1).f1))).setCell ⟨gb113, 2, none⟩ (.int .i64 ((rd_T45 l0_0 x8_1).f2)))) := ⟨uL HB⟩
           (try clear BK111)
           (try clear BK113)
           (try clear HB)
           generalize (((w20.setCell ⟨gb113, 0, none⟩ (.string ((rd_T45 l0_0 x8_1).f0))).setCell ⟨gb113, 1, none⟩ (.string ((rd_T45 l0_0 x8_1).f1))).setCell ⟨gb113, 2, none⟩ (.int .i64 ((rd_T45 l0_0 x8_1).f2))) = w23 at n0_ n1_ n2_ ⊢
           have BK111 := n0_; have BK113 := n1_; have HB := n2_; clear n0_ n1_ n2_
           replace BK111 := aM (blk_drew BK111.out)
           replace BK113 := aM (blk_drew BK113.out)
           replace HB := aM (below_drew1 HB.out)
           have p115 : 0 ≤ ((ji10) : Int) := of_decide_eq_true (by first | (with_reducible assumption) | assumption)
           have q115 : (ji10) < (l0_0.length : Int) := of_decide_eq_true (by first | (with_reducible assumption) | assumption)
           obtain ⟨ad115, e115, hx115_0, hx115_1, hx115_2⟩ := at_T45 HR0_0.out (ji10) p115 q115
           have hw115_2 := hx115_2; have hw115_1 := hx115_1; have hw115_0 := hx115_0
           obtain rfl : ad112 = ad115 := (by injection e115)
           replace hx115_0 := hxB HB hx115_0; replace hx115_1 := hxB HB hx115_1; replace hx115_2 := hxB HB hx115_2; replace p115 := eq_true p115; replace q115 := eq_true q115
           refine start_ (n := 19) (S := fun w' => w'.cell? ⟨gb113, 0, none⟩ = some (.string ((rd_T45 l0_0 x8_1).f0)) ∧ w'.cell? ⟨gb113, 1, none⟩ = some (.string ((rd_T45 l0_0 x8_1).f1)) ∧ w'.cell? ⟨gb113, 2, none⟩ = some (.int .i64 ((rd_T45 l0_0 x8_1).f2)) ∧ w'.cell? ⟨gb111, 0, none⟩ = some (.slice (some ad112) l0_0.length c0_0) ∧ w'.cell? (ad112.add (((ji10)).toNat * 3)) = some (.string ((rd_T45 l0_0 (ji10)).f0)) ∧ w'.cell? ⟨(ad112.add (((ji10)).toNat * 3)).block, (ad112.add (((ji10)).toNat * 3)).off + 1, none⟩ = some (.string ((rd_T45 l0_0 (ji10)).f1)) ∧ w'.cell? ⟨(ad112.add (((ji10)).toNat * 3)).block, (ad112.add (((ji10)).toNat * 3)).off + 2, none⟩ = some (.int .i64 ((rd_T45 l0_0 (ji10)).f2))) (ds := []) (bB 19 0) (by kernel_rfl) rfl rfl ⟨(blk_cell BK113.out 0).trans rfl, (blk_cell BK113.out 1).trans rfl, (blk_cell BK113.out 2).trans rfl, (blk_cell BK111.out 0).trans rfl, (hyB HB hw115_0), (hyB HB hw115_1), (hyB HB hw115_2)⟩ (fun hHeld => ?_); refine with_tabW impl_DiskOk.tab4 impl_DiskOk.bits4 (fun HT_ HW_ => ?_)
           generalize w23.drew = w24 at BK111 BK113 HB hx115_0 hx115_1 hx115_2 hHeld ⊢
           refine tA HT_.out HW_.out 0 13 19 1 hHeld ?_
           refine oA HT_.out 1 (some 14) 19 3 (fun K hK => ?_)
           refine gX Try.func75 #[.agg #[.string ((rd_T45 l0_0 x8_1).f0), .string ((rd_T45 l0_0 x8_1).f1), .int .i64 ((rd_T45 l0_0 x8_1).f2)]] ?_
           with_reducible refine (impl_fileOk.calls ((rd_T45 l0_0 x8_1).f0) ((rd_T45 l0_0 x8_1).f1) ((rd_T45 l0_0 x8_1).f2) true _ A7.out).mono ?_
           rintro e w25 ⟨rfl, hb⟩
           refine ⟨_, rfl, ?_⟩
           replace BK111 := blkB BK111 hb
           replace BK113 := blkB BK113 hb
           replace HB := aM (below_step (uL HB) hb)
           (try clear hb)
           (try clear hb2)
           (try clear hk)
           (try clear hi)
           refine hK.out _ _ ⟨(blk_cell BK113.out 0).trans rfl, (blk_cell BK113.out 1).trans rfl, (blk_cell BK113.out 2).trans rfl, (blk_cell BK111.out 0).trans rfl, (hyB HB hw115_0), (hyB HB hw115_1), (hyB HB hw115_2)⟩ (fun hHeld => ?_)
           clear hK K
           refine nX 14 ?_; refine pA HT_.out 2 15 19 7 ?_; refine pA HT_.out 3 16 19 15 ?_; refine pA HT_.out 4 17 19 31 ?_; refine pA HT_.out 5 18 19 63 ?_; refine pA HT_.out 6 19 19 127 ?_; refine pA HT_.out 7 20 19 255 ?_; refine pA HT_.out 9 22 19 767 ?_; refine pA HT_.out 10 23 19 1791 ?_; refine pA HT_.out 14 27 19 18175 ?_; refine tA HT_.out HW_.out 8 21 19 18431 hHeld ?_; refine pA HT_.out 11 24 19 20479 ?_; refine pA HT_.out 12 25 19 24575 ?_; refine tA HT_.out HW_.out 13 26 19 32767 hHeld ?_; refine tA HT_.out HW_.out 15 28 19 65535 hHeld ?_; refine pA HT_.out 16 29 19 131071 ?_; refine pA HT_.out 17 30 19 262143 ?_; refine pA HT_.out 18 31 19 524287 ?_
           refine done_ (done_of HT_.out (by kernel_rfl)) ?_
           try go_wp2
           go_ret
           exact ⟨by first | rfl | (simp [errW_none, errW_some] <;> rfl) | (simp only [← hji10]; first | rfl | (simp [errW_none, errW_some] <;> rfl)) | (simp [*, errW_none, errW_some] <;> rfl), uL HB⟩
         ·rw [if_neg c12] at H
          exact absurd H (by simp)
        ·rw [if_neg c11] at H
         exact absurd H (by simp)
       ·rw [if_neg c9] at H
        have c9b0 : decide (0 < x8_1) = false := decide_eq_false c9
        clear c9
        have H' := aM H
        clear H
        have p112 : 0 ≤ (x8_1 : Int) := of_decide_eq_true (by first | (with_reducible assumption) | assumption)
        have q112 : x8_1 < (l0_0.length : Int) := of_decide_eq_true (by first | (with_reducible assumption) | assumption)
        obtain ⟨ad112, e112, hx112_0, hx112_1, hx112_2⟩ := at_T45 HR0_0.out x8_1 p112 q112
        cases e112
        replace hx112_0 := hxB HB hx112_0; replace hx112_1 := hxB HB hx112_1; replace hx112_2 := hxB HB hx112_2; replace p112 := eq_true p112; replace q112 := eq_true q112
        try go_wp2_with (first | ((with_reducible refine gate_dst (N := 4) rfl ?_); refine bxE 4 #[.string (⟨#[]⟩ : ByteArray), .string (⟨#[]⟩ : ByteArray), .int .i64 0] 45 ?_; intro gb113 hg w26 hbox hb; have BK113 := aM (hbox); have GW113 := szG hg (uL HB); have GE113 := szG hg (uL HB); have NB111_113 := neL hg BK111; have NB113_111 := neG hg BK111; replace BK111 := blkB BK111 hb; replace HB := aM (below_step (uL HB) hb); clear hb hbox hg; have hnb27 := NB113_111.out; have hnc27 := NB111_113.out; have hcz28_0 := czA BK113.out 0 (.string (⟨#[]⟩ : ByteArray)); have hcz28_1 := czA BK113.out 1 (.string (⟨#[]⟩ : ByteArray)); have hcz28_2 := czA BK113.out 2 (.int .i64 0); have hfz28_0 := blk_frozen BK113.out 0; have hfz28_1 := blk_frozen BK113.out 1; have hfz28_2 := blk_frozen BK113.out 2))
        have n0_ : Aside0 ((((w26.setCell ⟨gb113, 0, none⟩ (.string ((rd_T45 l0_0 x8_1).f0))).setCell ⟨gb113, 1, none⟩ (.string ((rd_T45 l0_0 x8_1).f1))).setCell ⟨gb113, 2, none⟩ (.int .i64 ((rd_T45 l0_0 x8_1).f2))).heap[gb111]? = some (.cells #[.slice (some ad112) l0_0.length c0_0] 30 (0, 0))) := ⟨by refine nB ?_; refine blk_far ?_ NB111_113.out _; refine nB ?_; refine blk_far ?_ NB111_113.out _; refine nB ?_; refine blk_far ?_ NB111_113.out _; exact nB BK111.out⟩
        have n1_ : Aside0 ((((w26.setCell ⟨gb113, 0, none⟩ (.string ((rd_T45 l0_0 x8_1).f0))).setCell ⟨gb113, 1, none⟩ (.string ((rd_T45 l0_0 x8_1).f1))).setCell ⟨gb113, 2, none⟩ (.int .i64 ((rd_T45 l0_0 x8_1).f2))).heap[gb113]? = some (.cells #[.string ((rd_T45 l0_0 x8_1).f0), .string ((rd_T45 l0_0 x8_1).f1), .int .i64 ((rd_T45 l0_0 x8_1).f2)] 45 (0, 0))) := ⟨by refine nB ?_; refine blk_put (cs := #[.string ((rd_T45 l0_0 x8_1).f0), .string ((rd_T45 l0_0 x8_1).f1), .int .i64 0]) ?_ 2 _ rfl; refine nB ?_; refine blk_put (cs := #[.string ((rd_T45 l0_0 x8_1).f0), .string (⟨#[]⟩ : ByteArray), .int .i64 0]) ?_ 1 _ rfl; refine nB ?_; refine blk_put (cs := #[.string (⟨#[]⟩ : ByteArray), .string (⟨#[]⟩ : ByteArray), .int .i64 0]) ?_ 0 _ rfl; exact nB BK113.out⟩
        have n2_ : Aside0 (Below w.heap.size w (((w26.setCell ⟨gb113, 0, none⟩ (.string ((rd_T45 l0_0 x8_1).f0))).setCell ⟨gb113, 1, none⟩ (.string ((rd_T45 l0_0 x8_1).f1))).setCell ⟨gb113, 2, none⟩ (.int .i64 ((rd_T45 l0_0 x8_1).f2)))) := ⟨uL HB⟩
        (try clear BK111)
        (try clear BK113)
        (try clear HB)
        generalize (((w26.setCell ⟨gb113, 0, none⟩ (.string ((rd_T45 l0_0 x8_1).f0))).setCell ⟨gb113, 1, none⟩ (.string ((rd_T45 l0_0 x8_1).f1))).setCell ⟨gb113, 2, none⟩ (.int .i64 ((rd_T45 l0_0 x8_1).f2))) = w29 at n0_ n1_ n2_ ⊢
        have BK111 := n0_; have BK113 := n1_; have HB := n2_; clear n0_ n1_ n2_
        replace BK111 := aM (blk_drew BK111.out)
        replace BK113 := aM (blk_drew BK113.out)
        replace HB := aM (below_drew1 HB.out)
        refine start_ (n := 19) (S := fun w' => w'.cell? ⟨gb113, 0, none⟩ = some (.string ((rd_T45 l0_0 x8_1).f0)) ∧ w'.cell? ⟨gb113, 1, none⟩ = some (.string ((rd_T45 l0_0 x8_1).f1)) ∧ w'.cell? ⟨gb113, 2, none⟩ = some (.int .i64 ((rd_T45 l0_0 x8_1).f2))) (ds := []) (bB 19 0) (by kernel_rfl) rfl rfl ⟨(blk_cell BK113.out 0).trans rfl, (blk_cell BK113.out 1).trans rfl, (blk_cell BK113.out 2).trans rfl⟩ (fun hHeld => ?_); refine with_tabW impl_DiskOk.tab4 impl_DiskOk.bits4 (fun HT_ HW_ => ?_)
        generalize w29.drew = w30 at BK111 BK113 HB hHeld ⊢
        refine tA HT_.out HW_.out 0 13 19 1 hHeld ?_
        refine oA HT_.out 1 (some 14) 19 3 (fun K hK => ?_)
        refine gX Try.func75 #[.agg #[.string ((rd_T45 l0_0 x8_1).f0), .string ((rd_T45 l0_0 x8_1).f1), .int .i64 ((rd_T45 l0_0 x8_1).f2)]] ?_
        with_reducible refine (impl_fileOk.calls ((rd_T45 l0_0 x8_1).f0) ((rd_T45 l0_0 x8_1).f1) ((rd_T45 l0_0 x8_1).f2) true _ A7.out).mono ?_
        rintro e w31 ⟨rfl, hb⟩
        refine ⟨_, rfl, ?_⟩
        replace BK111 := blkB BK111 hb
        replace BK113 := blkB BK113 hb
        replace HB := aM (below_step (uL HB) hb)
        (try clear hb)
        (try clear hb2)
        (try clear hk)
        (try clear hi)
        refine hK.out _ _ ⟨(blk_cell BK113.out 0).trans rfl, (blk_cell BK113.out 1).trans rfl, (blk_cell BK113.out 2).trans rfl⟩ (fun hHeld => ?_)
        clear hK K
        refine nX 14 ?_; refine pA HT_.out 2 15 19 7 ?_; refine pA HT_.out 3 16 19 15 ?_; refine pA HT_.out 4 17 19 31 ?_; refine pA HT_.out 5 18 19 63 ?_; refine pA HT_.out 6 19 19 127 ?_; refine pB HT_.out 7 20 19 255 ?_; refine pB HT_.out 8 21 19 511 ?_; refine pB HT_.out 9 22 19 1023 ?_; refine pB HT_.out 10 23 19 2047 ?_; refine pB HT_.out 11 24 19 4095 ?_; refine pB HT_.out 12 25 19 8191 ?_; refine pB HT_.out 13 26 19 16383 ?_; refine pB HT_.out 14 27 19 32767 ?_; refine pB HT_.out 15 28 19 65535 ?_; refine pB HT_.out 16 29 19 131071 ?_; refine pA HT_.out 17 30 19 262143 ?_; refine pA HT_.out 18 31 19 524287 ?_
        refine done_ (done_of HT_.out (by kernel_rfl)) ?_
        try go_wp2
        go_roundg k1
        case measure => have := HK1.out; omega
        case rel => exact ⟨(wrap64 (x8_1 + 1)), (by first | rfl | (simp; done) | (simp [*]; done)), H', ⟨by have := HK1.out; omega⟩, ⟨by exact nB BK111.out⟩, ⟨uL HB⟩⟩
      ·replace c8 := Bool.eq_false_iff.mpr c8
       subst c8
       have H1 : (some false) = some r := by rw [if_neg (show ¬ (false = true) by decide)] at H; exact H
       clear H; have H := H1; clear H1
       obtain rfl := Option.some.inj H
       have p112 : 0 ≤ (x8_1 : Int) := of_decide_eq_true (by first | (with_reducible assumption) | assumption)
       have q112 : x8_1 < (l0_0.length : Int) := of_decide_eq_true (by first | (with_reducible assumption) | assumption)
       obtain ⟨ad112, e112, hx112_0, hx112_1, hx112_2⟩ := at_T45 HR0_0.out x8_1 p112 q112
       cases e112
       replace hx112_0 := hxB HB hx112_0; replace hx112_1 := hxB HB hx112_1; replace hx112_2 := hxB HB hx112_2; replace p112 := eq_true p112; replace q112 := eq_true q112
       try go_wp2_with (first | ((with_reducible refine gate_dst (N := 4) rfl ?_); refine bxE 4 #[.string (⟨#[]⟩ : ByteArray), .string (⟨#[]⟩ : ByteArray), .int .i64 0] 45 ?_; intro gb113 hg w32 hbox hb; have BK113 := aM (hbox); have GW113 := szG hg (uL HB); have GE113 := szG hg (uL HB); have NB111_113 := neL hg BK111; have NB113_111 := neG hg BK111; replace BK111 := blkB BK111 hb; replace HB := aM (below_step (uL HB) hb); clear hb hbox hg; have hnb33 := NB113_111.out; have hnc33 := NB111_113.out; have hcz34_0 := czA BK113.out 0 (.string (⟨#[]⟩ : ByteArray)); have hcz34_1 := czA BK113.out 1 (.string (⟨#[]⟩ : ByteArray)); have hcz34_2 := czA BK113.out 2 (.int .i64 0); have hfz34_0 := blk_frozen BK113.out 0; have hfz34_1 := blk_frozen BK113.out 1; have hfz34_2 := blk_frozen BK113.out 2))
       have n0_ : Aside0 ((((w32.setCell ⟨gb113, 0, none⟩ (.string ((rd_T45 l0_0 x8_1).f0))).setCell ⟨gb113, 1, none⟩ (.string ((rd_T45 l0_0 x8_1).f1))).setCell ⟨gb113, 2, none⟩ (.int .i64 ((rd_T45 l0_0 x8_1).f2))).heap[gb111]? = some (.cells #[.slice (some ad112) l0_0.length c0_0] 30 (0, 0))) := ⟨by refine nB ?_; refine blk_far ?_ NB111_113.out _; refine nB ?_; refine blk_far ?_ NB111_113.out _; refine nB ?_; refine blk_far ?_ NB111_113.out _; exact nB BK111.out⟩
       have n1_ : Aside0 ((((w32.setCell ⟨gb113, 0, none⟩ (.string ((rd_T45 l0_0 x8_1).f0))).setCell ⟨gb113, 1, none⟩ (.string ((rd_T45 l0_0 x8_1).f1))).setCell ⟨gb113, 2, none⟩ (.int .i64 ((rd_T45 l0_0 x8_1).f2))).heap[gb113]? = some (.cells #[.string ((rd_T45 l0_0 x8_1).f0), .string ((rd_T45 l0_0 x8_1).f1), .int .i64 ((rd_T45 l0_0 x8_1).f2)] 45 (0, 0))) := ⟨by refine nB ?_; refine blk_put (cs := #[.string ((rd_T45 l0_0 x8_1).f0), .string ((rd_T45 l0_0 x8_1).f1), .int .i64 0]) ?_ 2 _ rfl; refine nB ?_; refine blk_put (cs := #[.string ((rd_T45 l0_0 x8_1).f0), .string (⟨#[]⟩ : ByteArray), .int .i64 0]) ?_ 1 _ rfl; refine nB ?_; refine blk_put (cs := #[.string (⟨#[]⟩ : ByteArray), .string (⟨#[]⟩ : ByteArray), .int .i64 0]) ?_ 0 _ rfl; exact nB BK113.out⟩
       have n2_ : Aside0 (Below w.heap.size w (((w32.setCell ⟨gb113, 0, none⟩ (.string ((rd_T45 l0_0 x8_1).f0))).setCell ⟨gb113, 1, none⟩ (.string ((rd_T45 l0_0 x8_1).f1))).setCell ⟨gb113, 2, none⟩ (.int .i64 ((rd_T45 l0_0 x8_1).f2)))) := ⟨uL HB⟩
       (try clear BK111)
       (try clear BK113)
       (try clear HB)
       generalize (((w32.setCell ⟨gb113, 0, none⟩ (.string ((rd_T45 l0_0 x8_1).f0))).setCell ⟨gb113, 1, none⟩ (.string ((rd_T45 l0_0 x8_1).f1))).setCell ⟨gb113, 2, none⟩ (.int .i64 ((rd_T45 l0_0 x8_1).f2))) = w35 at n0_ n1_ n2_ ⊢
       have BK111 := n0_; have BK113 := n1_; have HB := n2_; clear n0_ n1_ n2_
       replace BK111 := aM (blk_drew BK111.out)
       replace BK113 := aM (blk_drew BK113.out)
       replace HB := aM (below_drew1 HB.out)
       refine start_ (n := 19) (S := fun w' => w'.cell? ⟨gb113, 0, none⟩ = some (.string ((rd_T45 l0_0 x8_1).f0)) ∧ w'.cell? ⟨gb113, 1, none⟩ = some (.string ((rd_T45 l0_0 x8_1).f1)) ∧ w'.cell? ⟨gb113, 2, none⟩ = some (.int .i64 ((rd_T45 l0_0 x8_1).f2))) (ds := []) (bB 19 0) (by kernel_rfl) rfl rfl ⟨(blk_cell BK113.out 0).trans rfl, (blk_cell BK113.out 1).trans rfl, (blk_cell BK113.out 2).trans rfl⟩ (fun hHeld => ?_); refine with_tabW impl_DiskOk.tab4 impl_DiskOk.bits4 (fun HT_ HW_ => ?_)
       generalize w35.drew = w36 at BK111 BK113 HB hHeld ⊢
       refine tA HT_.out HW_.out 0 13 19 1 hHeld ?_
       refine oA HT_.out 1 (some 14) 19 3 (fun K hK => ?_)
       refine gX Try.func75 #[.agg #[.string ((rd_T45 l0_0 x8_1).f0), .string ((rd_T45 l0_0 x8_1).f1), .int .i64 ((rd_T45 l0_0 x8_1).f2)]] ?_
       with_reducible refine (impl_fileOk.calls ((rd_T45 l0_0 x8_1).f0) ((rd_T45 l0_0 x8_1).f1) ((rd_T45 l0_0 x8_1).f2) false _ A7.out).mono ?_
       rintro e w37 ⟨rfl, hb⟩
       refine ⟨_, rfl, ?_⟩
       replace BK111 := blkB BK111 hb
       replace BK113 := blkB BK113 hb
       replace HB := aM (below_step (uL HB) hb)
       (try clear hb)
       (try clear hb2)
       (try clear hk)
       (try clear hi)
       refine hK.out _ _ ⟨(blk_cell BK113.out 0).trans rfl, (blk_cell BK113.out 1).trans rfl, (blk_cell BK113.out 2).trans rfl⟩ (fun hHeld => ?_)
       clear hK K
       refine nX 14 ?_; refine pA HT_.out 2 15 19 7 ?_; refine pA HT_.out 3 16 19 15 ?_; refine pB HT_.out 4 17 19 31 ?_; refine pB HT_.out 5 18 19 63 ?_; refine pB HT_.out 6 19 19 127 ?_; refine pB HT_.out 7 20 19 255 ?_; refine pB HT_.out 8 21 19 511 ?_; refine pB HT_.out 9 22 19 1023 ?_; refine pB HT_.out 10 23 19 2047 ?_; refine pB HT_.out 11 24 19 4095 ?_; refine pB HT_.out 12 25 19 8191 ?_; refine pB HT_.out 13 26 19 16383 ?_; refine pB HT_.out 14 27 19 32767 ?_; refine pB HT_.out 15 28 19 65535 ?_; refine pB HT_.out 16 29 19 131071 ?_; refine pB HT_.out 17 30 19 262143 ?_; refine pA HT_.out 18 31 19 524287 ?_
       refine done_ (done_of HT_.out (by kernel_rfl)) ?_
       try go_wp2
       go_ret
       exact rX HB
     ·rw [if_neg c6] at H
      exact absurd H (by simp)
    ·rw [if_neg c5] at H
     exact absurd H (by simp)
   ·rw [if_neg c4] at H
    have c4b0 : decide (x8_1 < (l0_0.length : Int)) = false := decide_eq_false c4
    clear c4
    obtain rfl := Option.some.inj H
    have hcz38_0 := czA BK111.out 0 (.slice A0_0 l0_0.length c0_0)
    have hfz38_0 := blk_frozen BK111.out 0
    go_wp2
    go_ret
    exact rX HB

end Go.Proofs.Ytidfhfaekdahpaa.QFnActs
