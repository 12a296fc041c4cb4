-- Own work (wip/turnprint.py over the kit's print).
import Derived.Test.YthomiofokkkhgaaDoorQFnExactSnapActsx0
import Derived.Test.YthomiofokkkhgaaDoorQFnExactSnapActsx8
namespace Go.Proofs.YthomiofokkkhgaaDoor.QFnExactSnapActs
open Go.RowKit Go.Proofs.YthomiofokkkhgaaDoorW.PrintWords Go.Proofs.YthomiofokkkhgaaDoorW.PrintLast Go.Proofs.YthomiofokkkhgaaDoorW.PrintMore
attribute [local go_sem] max2_int min2_int max_two min_two max_three min_three max_four min_four   -- for this text's walks alone
attribute [local go_sem] Go.Proofs.YthomiofokkkhgaaDoorQWords.run_lss_str
attribute [local go_sem] Go.Proofs.YthomiofokkkhgaaDoorQWords.run_geq_str
attribute [local go_sem] Go.Proofs.YthomiofokkkhgaaDoorQWords.run_leq_str
attribute [local go_sem] Go.Proofs.YthomiofokkkhgaaDoorQWords.run_gtr_str
set_option linter.unusedVariables false
set_option linter.unusedSimpArgs false

/-! ### impl_DiskOk: function 33 -/
def impl_DiskOk.l0 : Nat → List (S71) → Int → Int → List (S71) → Option (Bool)
 | 0, _, _, _, _ => none
 | k + 1, x6, x7, x8, x287000 => if x8 < x7 then (if 0 ≤ x8 then (if x8 < (x6.length : Int) then ((impl_fileOk.f ((rd_T71 x6 x8).f0) ((rd_T71 x6 x8).f1) ((rd_T71 x6 x8).f2)).bind fun t289 => (if t289 = true then (if x8 > 0 then (if 0 ≤ (wrap64 (x8 - 1)) then (if (wrap64 (x8 - 1)) < (x287000.length : Int) then (if ((Op.bytesLess (((rd_T71 x287000 (wrap64 (x8 - 1))).f0).toList) (((rd_T71 x6 x8).f0).toList)) = true) then (impl_DiskOk.l0 k x6 x7 (wrap64 (x8 + 1)) x287000) else (some false)) else (none)) else (none)) else (impl_DiskOk.l0 k x6 x7 (wrap64 (x8 + 1)) x287000)) else (some false))) else (none)) else (none)) else (some (decide ((x287000.length : Int) ≤ 30)))
def impl_DiskOk.f (k : Nat) (l0_0 : List (S71)) : Option (Bool) := impl_DiskOk.l0 k l0_0 (l0_0.length : Int) 0 l0_0
theorem impl_DiskOk.mono_l : ∀ k, (∀ y0 y1 y2 y3, LeO (impl_DiskOk.l0 k y0 y1 y2 y3) (impl_DiskOk.l0 (k + 1) y0 y1 y2 y3))
 | 0 => fun _ _ _ _ r h => by simp [impl_DiskOk.l0] at h
 | k + 1 => by
  have ih0 := impl_DiskOk.mono_l k
  ·intro y0 y1 y2 y3
   unfold impl_DiskOk.l0
   repeat' first
   | (with_reducible exact ih0 _ _ _ _)
   | (with_reducible exact LeO.refl _)
   | (with_reducible exact LeO.none _)
   | (with_reducible refine LeO.ite ?_ ?_)
   | (with_reducible refine LeO.bind ?_ (fun _ => ?_))
   | exact ih0 _ _ _ _
   | exact LeO.none _
   | refine LeO.ite ?_ ?_
   | refine LeO.bind ?_ (fun _ => ?_)
theorem impl_DiskOk.mono : ∀ a0 k, LeO (impl_DiskOk.f k a0) (impl_DiskOk.f (k + 1) a0) := by
 intro a0 k
 have ih0 := impl_DiskOk.mono_l k
 unfold impl_DiskOk.f
 repeat' first
  | (with_reducible exact ih0 _ _ _ _)
  | (with_reducible exact LeO.refl _)
  | (with_reducible exact LeO.none _)
  | (with_reducible refine LeO.ite ?_ ?_)
  | (with_reducible refine LeO.bind ?_ (fun _ => ?_))
  | exact ih0 _ _ _ _
  | exact LeO.none _
  | refine LeO.ite ?_ ?_
  | refine LeO.bind ?_ (fun _ => ?_)
def impl_DiskOk.T4 : Bool × List (List Nat × List Nat) := (true, [([], []), ([0], [0]), ([1], [1]), ([2, 1], [2]), ([3], [3]), ([4, 3], [3, 4]), ([5, 3, 3], [3, 5]), ([6], [6]), ([7, 6], [6, 7]), ([6], [6]), ([9, 6], [6, 9]), ([8, 10, 6], [6, 8, 10]), ([11, 6], [6, 11]), ([12, 6], [6, 12]), ([6], [6]), ([14, 6], [6, 14]), ([13, 15, 6], [6, 13, 15]), ([6, 16, 3], [3, 6, 16]), ([3, 17], [3, 17])])
def impl_DiskOk.B4 : List Nat := [0, 1, 3, 7, 15, 31, 63, 127, 255, 127, 639, 2047, 4095, 8191, 127, 16511, 65535, 131071, 262143]
theorem impl_DiskOk.tab4 : rtab .any (opsOf Tryd.f33 4) = impl_DiskOk.T4 := by kernel_rfl
theorem impl_DiskOk.bits4 : waitsOk impl_DiskOk.T4.2 impl_DiskOk.B4 = true := by kernel_rfl
set_option maxHeartbeats 8000000 in
set_option maxRecDepth 100000 in
theorem impl_DiskOk.calls (k : Nat) (A0_0 : Option Addr) (c0_0 : Nat) (l0_0 : List (S71)) (r : Bool) (w : World) (hr0_0 : Kd.C k71 w A0_0 l0_0.length l0_0) (hc0_0 : l0_0.length ≤ c0_0) (h : impl_DiskOk.f k l0_0 = some r) :
 Calls Tryd.prog 33 #[.agg #[.slice A0_0 l0_0.length c0_0]] w fun e w' => e = .returned (.bool r) ∧ Below w.heap.size w w' := by
 have hu35 := Tryd.underlying35
 have hu71 := Tryd.underlying71
 have HR0_0 := aM hr0_0
 have HC0_0 := aM hc0_0
 clear hr0_0 hc0_0
 have HB := aM (Below.refl w.heap.size w)
 have H : (impl_DiskOk.l0 k l0_0 (l0_0.length : Int) 0 l0_0) = some r := h
 clear h
 have H' := aM H
 clear H
 go_enter Tryd.func33, Tryd.ntmps33
 go_wp2_with (first | ((with_reducible refine gate_dst (N := 1) rfl ?_); refine bxE 1 #[.slice A0_0 l0_0.length c0_0] 35 ?_; intro gb286 hg w2 hbox hb; have BK286 := aM (hbox); have GW286 := szG hg (uL HB); have GE286 := szG hg (uL HB); replace HB := aM (below_step (uL HB) hb); clear hb hbox hg; have hcz3_0 := czA BK286.out 0 (.slice A0_0 l0_0.length c0_0); have hfz3_0 := blk_frozen BK286.out 0))
 go_loopg [8] k (fun kq v8 w' => ∃ (x8_1 : Int), v8 = .int .i64 x8_1 ∧ Aside0 (impl_DiskOk.l0 kq l0_0 (l0_0.length : Int) x8_1 l0_0 = some r) ∧ Aside0 (kq ≤ k) ∧ Aside0 (w'.heap[gb286]? = some (.cells #[(.slice A0_0 l0_0.length c0_0)] 35 (0, 0))) ∧ Aside0 (Below w.heap.size w w'))
 case atStart => exact ⟨(0), (by first | rfl | (simp; done) | (simp [*]; done)), H', ⟨Nat.le_refl _⟩, ⟨by exact nB BK286.out⟩, ⟨uL HB⟩⟩
 case round =>
  clear H'
  try clear p2; try clear c3; try clear hcz3_0; try clear hfz3_0
  obtain ⟨x8_1, rfl, HA, HK1, BK286, HB⟩ := hrel
  cases gk with
  | zero => exact absurd HA.out (by simp [impl_DiskOk.l0])
  | succ k1 =>
   have H := HA.out
   clear HA
   simp only [impl_DiskOk.l0] at H
   by_cases c4 : x8_1 < (l0_0.length : Int)
   ·rw [if_pos c4] at H
    have c4b0 : decide (x8_1 < (l0_0.length : Int)) = true := decide_eq_true c4
    clear c4
    by_cases c5 : 0 ≤ x8_1
    ·rw [if_pos c5] at H
     have c5b0 : decide (0 ≤ x8_1) = true := decide_eq_true c5
     clear c5
     by_cases c6 : x8_1 < (l0_0.length : Int)
     ·rw [if_pos c6] at H
      have c6b0 : decide (x8_1 < (l0_0.length : Int)) = true := decide_eq_true c6
      clear c6
      replace H := Option.bind_eq_some_iff.mp H
      obtain ⟨t289, A70, H⟩ := H
      try dsimp only at H
      have A7 := aM A70
      clear A70
      by_cases c8 : t289 = true
      ·subst c8
       rw [if_pos rfl] at H
       by_cases c9 : x8_1 > 0
       ·rw [if_pos c9] at H
        have c9b0 : decide (0 < x8_1) = true := decide_eq_true c9
        clear c9
        obtain ⟨ji10, hji10⟩ : ∃ j_ : Int, (wrap64 (x8_1 - 1)) = j_ := ⟨_, rfl⟩
        replace H : (if 0 ≤ (ji10) then (if (ji10) < (l0_0.length : Int) then (if ((Op.bytesLess (((rd_T71 l0_0 (ji10)).f0).toList) (((rd_T71 l0_0 x8_1).f0).toList)) = true) then (impl_DiskOk.l0 k1 l0_0 (l0_0.length : Int) (wrap64 (x8_1 + 1)) l0_0) else (some false)) else (none)) else (none)) = some r := by first | (rw [hji10] at H; exact H) | (simp only [hji10] at H ⊢; exact H)
        (try rw [hji10] at A7)
        have hji10w : (IntKind.i64.wrap (x8_1 - 1)) = ji10 := (i64_w _).trans hji10
        by_cases c11 : 0 ≤ (ji10)
        ·rw [if_pos c11] at H
         have c11b0 : decide (0 ≤ (ji10)) = true := decide_eq_true c11
         clear c11
         by_cases c12 : (ji10) < (l0_0.length : Int)
         ·rw [if_pos c12] at H
          have c12b0 : decide ((ji10) < (l0_0.length : Int)) = true := decide_eq_true c12
          clear c12
          by_cases c13 : ((Op.bytesLess (((rd_T71 l0_0 (ji10)).f0).toList) (((rd_T71 l0_0 x8_1).f0).toList)) = true)
          ·rw [if_pos c13] at H
           have c13b0 : (Op.bytesLess (((rd_T71 l0_0 (ji10)).f0).toList) (((rd_T71 l0_0 x8_1).f0).toList)) = true := c13
           clear c13
           have H' := aM H
           clear H
           have p287 : 0 ≤ (x8_1 : Int) := of_decide_eq_true (by first | (with_reducible assumption) | assumption)
           have q287 : x8_1 < (l0_0.length : Int) := of_decide_eq_true (by first | (with_reducible assumption) | assumption)
           obtain ⟨ad287, e287, hx287_0, hx287_1, hx287_2⟩ := at_T71 HR0_0.out x8_1 p287 q287
           cases e287
           replace hx287_0 := hxB HB hx287_0; replace hx287_1 := hxB HB hx287_1; replace hx287_2 := hxB HB hx287_2; replace p287 := eq_true p287; replace q287 := eq_true q287
           try go_wp2_with (first | ((with_reducible refine gate_dst (N := 4) rfl ?_); refine bxE 4 #[.string (⟨#[]⟩ : ByteArray), .string (⟨#[]⟩ : ByteArray), .int .i64 0] 71 ?_; intro gb288 hg w14 hbox hb; have BK288 := aM (hbox); have GW288 := szG hg (uL HB); have GE288 := szG hg (uL HB); have NB286_288 := neL hg BK286; have NB288_286 := neG hg BK286; replace BK286 := blkB BK286 hb; replace HB := aM (below_step (uL HB) hb); clear hb hbox hg; have hnb15 := NB288_286.out; have hnc15 := NB286_288.out; have hcz16_0 := czA BK288.out 0 (.string (⟨#[]⟩ : ByteArray)); have hcz16_1 := czA BK288.out 1 (.string (⟨#[]⟩ : ByteArray)); have hcz16_2 := czA BK288.out 2 (.int .i64 0); have hfz16_0 := blk_frozen BK288.out 0; have hfz16_1 := blk_frozen BK288.out 1; have hfz16_2 := blk_frozen BK288.out 2))
           have n0_ : Aside0 ((((w14.setCell ⟨gb288, 0, none⟩ (.string ((rd_T71 l0_0 x8_1).f0))).setCell ⟨gb288, 1, none⟩ (.string ((rd_T71 l0_0 x8_1).f1))).setCell ⟨gb288, 2, none⟩ (.int .i64 ((rd_T71 l0_0 x8_1).f2))).heap[gb286]? = some (.cells #[.slice (some ad287) l0_0.length c0_0] 35 (0, 0))) := ⟨by refine nB ?_; refine blk_far ?_ NB286_288.out _; refine nB ?_; refine blk_far ?_ NB286_288.out _; refine nB ?_; refine blk_far ?_ NB286_288.out _; exact nB BK286.out⟩
           have n1_ : Aside0 ((((w14.setCell ⟨gb288, 0, none⟩ (.string ((rd_T71 l0_0 x8_1).f0))).setCell ⟨gb288, 1, none⟩ (.string ((rd_T71 l0_0 x8_1).f1))).setCell ⟨gb288, 2, none⟩ (.int .i64 ((rd_T71 l0_0 x8_1).f2))).heap[gb288]? = some (.cells #[.string ((rd_T71 l0_0 x8_1).f0), .string ((rd_T71 l0_0 x8_1).f1), .int .i64 ((rd_T71 l0_0 x8_1).f2)] 71 (0, 0))) := ⟨by refine nB ?_; refine blk_put (cs := #[.string ((rd_T71 l0_0 x8_1).f0), .string ((rd_T71 l0_0 x8_1).f1), .int .i64 0]) ?_ 2 _ rfl; refine nB ?_; refine blk_put (cs := #[.string ((rd_T71 l0_0 x8_1).f0), .string (⟨#[]⟩ : ByteArray), .int .i64 0]) ?_ 1 _ rfl; refine nB ?_; refine blk_put (cs := #[.string (⟨#[]⟩ : ByteArray), .string (⟨#[]⟩ : ByteArray), .int .i64 0]) ?_ 0 _ rfl; exact nB BK288.out⟩
           have n2_ : Aside0 (Below w.heap.size w (((w14.setCell ⟨gb288, 0, none⟩ (.string ((rd_T71 l0_0 x8_1).f0))).setCell ⟨gb288, 1, none⟩ (.string ((rd_T71 l0_0 x8_1).f1))).setCell ⟨gb288, 2, none⟩ (.int .i64 ((rd_T71 l0_0 x8_1).f2)))) := ⟨uL HB⟩
           (try clear BK286)
           (try clear BK288)
           (try clear HB)
           generalize (((w14.setCell ⟨gb288, 0, none⟩ (.string ((rd_T71 l0_0 x8_1).f0))).setCell ⟨gb288, 1, none⟩ (.string ((rd_T71 l0_0 x8_1).f1))).setCell ⟨gb288, 2, none⟩ (.int .i64 ((rd_T71 l0_0 x8_1).f2))) = w17 at n0_ n1_ n2_ ⊢
           have BK286 := n0_; have BK288 := n1_; have HB := n2_; clear n0_ n1_ n2_
           replace BK286 := aM (blk_drew BK286.out)
           replace BK288 := aM (blk_drew BK288.out)
           replace HB := aM (below_drew1 HB.out)
           have p290 : 0 ≤ ((ji10) : Int) := of_decide_eq_true (by first | (with_reducible assumption) | assumption)
           have q290 : (ji10) < (l0_0.length : Int) := of_decide_eq_true (by first | (with_reducible assumption) | assumption)
           obtain ⟨ad290, e290, hx290_0, hx290_1, hx290_2⟩ := at_T71 HR0_0.out (ji10) p290 q290
           have hw290_2 := hx290_2; have hw290_1 := hx290_1; have hw290_0 := hx290_0
           obtain rfl : ad287 = ad290 := (by injection e290)
           replace hx290_0 := hxB HB hx290_0; replace hx290_1 := hxB HB hx290_1; replace hx290_2 := hxB HB hx290_2; replace p290 := eq_true p290; replace q290 := eq_true q290
           refine start_ (n := 19) (S := fun w' => w'.cell? ⟨gb288, 0, none⟩ = some (.string ((rd_T71 l0_0 x8_1).f0)) ∧ w'.cell? ⟨gb288, 1, none⟩ = some (.string ((rd_T71 l0_0 x8_1).f1)) ∧ w'.cell? ⟨gb288, 2, none⟩ = some (.int .i64 ((rd_T71 l0_0 x8_1).f2)) ∧ w'.cell? ⟨gb286, 0, none⟩ = some (.slice (some ad287) l0_0.length c0_0) ∧ w'.cell? (ad287.add (((ji10)).toNat * 3)) = some (.string ((rd_T71 l0_0 (ji10)).f0)) ∧ w'.cell? ⟨(ad287.add (((ji10)).toNat * 3)).block, (ad287.add (((ji10)).toNat * 3)).off + 1, none⟩ = some (.string ((rd_T71 l0_0 (ji10)).f1)) ∧ w'.cell? ⟨(ad287.add (((ji10)).toNat * 3)).block, (ad287.add (((ji10)).toNat * 3)).off + 2, none⟩ = some (.int .i64 ((rd_T71 l0_0 (ji10)).f2))) (ds := []) (bB 19 0) (by kernel_rfl) rfl rfl ⟨(blk_cell BK288.out 0).trans rfl, (blk_cell BK288.out 1).trans rfl, (blk_cell BK288.out 2).trans rfl, (blk_cell BK286.out 0).trans rfl, (hyB HB hw290_0), (hyB HB hw290_1), (hyB HB hw290_2)⟩ (fun hHeld => ?_); refine with_tabW impl_DiskOk.tab4 impl_DiskOk.bits4 (fun HT_ HW_ => ?_)
           generalize w17.drew = w18 at BK286 BK288 HB hx290_0 hx290_1 hx290_2 hHeld ⊢
           refine tA HT_.out HW_.out 0 13 19 1 hHeld ?_
           refine oA HT_.out 1 (some 14) 19 3 (fun K hK => ?_)
           refine gX Tryd.func68 #[.agg #[.string ((rd_T71 l0_0 x8_1).f0), .string ((rd_T71 l0_0 x8_1).f1), .int .i64 ((rd_T71 l0_0 x8_1).f2)]] ?_
           with_reducible refine (impl_fileOk.calls ((rd_T71 l0_0 x8_1).f0) ((rd_T71 l0_0 x8_1).f1) ((rd_T71 l0_0 x8_1).f2) true _ A7.out).mono ?_
           rintro e w19 ⟨rfl, hb⟩
           refine ⟨_, rfl, ?_⟩
           replace BK286 := blkB BK286 hb
           replace BK288 := blkB BK288 hb
           replace HB := aM (below_step (uL HB) hb)
           (try clear hb)
           (try clear hb2)
           (try clear hk)
           (try clear hi)
           refine hK.out _ _ ⟨(blk_cell BK288.out 0).trans rfl, (blk_cell BK288.out 1).trans rfl, (blk_cell BK288.out 2).trans rfl, (blk_cell BK286.out 0).trans rfl, (hyB HB hw290_0), (hyB HB hw290_1), (hyB HB hw290_2)⟩ (fun hHeld => ?_)
           clear hK K
           refine nX 14 ?_; refine pA HT_.out 2 15 19 7 ?_; refine pA HT_.out 3 16 19 15 ?_; refine pA HT_.out 4 17 19 31 ?_; refine pA HT_.out 5 18 19 63 ?_; refine pA HT_.out 6 19 19 127 ?_; refine pA HT_.out 7 20 19 255 ?_; refine pA HT_.out 9 22 19 767 ?_; refine pA HT_.out 10 23 19 1791 ?_; refine pA HT_.out 14 27 19 18175 ?_; refine tA HT_.out HW_.out 8 21 19 18431 hHeld ?_; refine pA HT_.out 11 24 19 20479 ?_; refine pA HT_.out 12 25 19 24575 ?_; refine tA HT_.out HW_.out 13 26 19 32767 hHeld ?_; refine tA HT_.out HW_.out 15 28 19 65535 hHeld ?_; refine pA HT_.out 16 29 19 131071 ?_; refine pA HT_.out 17 30 19 262143 ?_; refine pA HT_.out 18 31 19 524287 ?_
           refine done_ (done_of HT_.out (by kernel_rfl)) ?_
           try go_wp2
           go_roundg k1
           case measure => have := HK1.out; omega
           case rel => exact ⟨(wrap64 (x8_1 + 1)), (by first | rfl | (simp; done) | (simp [*]; done)), H', ⟨by have := HK1.out; omega⟩, ⟨by exact nB BK286.out⟩, ⟨uL HB⟩⟩
          ·rw [if_neg c13] at H
           have c13b0 : (Op.bytesLess (((rd_T71 l0_0 (ji10)).f0).toList) (((rd_T71 l0_0 x8_1).f0).toList)) = false := by simpa using c13
           clear c13
           obtain rfl := Option.some.inj H
           have p287 : 0 ≤ (x8_1 : Int) := of_decide_eq_true (by first | (with_reducible assumption) | assumption)
           have q287 : x8_1 < (l0_0.length : Int) := of_decide_eq_true (by first | (with_reducible assumption) | assumption)
           obtain ⟨ad287, e287, hx287_0, hx287_1, hx287_2⟩ := at_T71 HR0_0.out x8_1 p287 q287
           cases e287
           replace hx287_0 := hxB HB hx287_0; replace hx287_1 := hxB HB hx287_1; replace hx287_2 := hxB HB hx287_2; replace p287 := eq_true p287; replace q287 := eq_true q287
           try go_wp2_with (first | ((with_reducible refine gate_dst (N := 4) rfl ?_); refine bxE 4 #[.string (⟨#[]⟩ : ByteArray), .string (⟨#[]⟩ : ByteArray), .int .i64 0] 71 ?_; intro gb288 hg w20 hbox hb; have BK288 := aM (hbox); have GW288 := szG hg (uL HB); have GE288 := szG hg (uL HB); have NB286_288 := neL hg BK286; have NB288_286 := neG hg BK286; replace BK286 := blkB BK286 hb; replace HB := aM (below_step (uL HB) hb); clear hb hbox hg; have hnb21 := NB288_286.out; have hnc21 := NB286_288.out; have hcz22_0 := czA BK288.out 0 (.string (⟨#[]⟩ : ByteArray)); have hcz22_1 := czA BK288.out 1 (.string (⟨#[]⟩ : ByteArray)); have hcz22_2 := czA BK288.out 2 (.int .i64 0); have hfz22_0 := blk_frozen BK288.out 0; have hfz22_1 := blk_frozen BK288.out 1; have hfz22_2 := blk_frozen BK288.out 2))
           have n0_ : Aside0 ((((w20.setCell ⟨gb288, 0, none⟩ (.string ((rd_T71 l0_0 x8_1).f0))).setCell ⟨gb288, 1, none⟩ (.string ((rd_T71 l0_0 x8_1).f1))).setCell ⟨gb288, 2, none⟩ (.int .i64 ((rd_T71 l0_0 x8_1).f2))).heap[gb286]? = some (.cells #[.slice (some ad287) l0_0.length c0_0] 35 (0, 0))) := ⟨by refine nB ?_; refine blk_far ?_ NB286_288.out _; refine nB ?_; refine blk_far ?_ NB286_288.out _; refine nB ?_; refine blk_far ?_ NB286_288.out _; exact nB BK286.out⟩
           have n1_ : Aside0 ((((w20.setCell ⟨gb288, 0, none⟩ (.string ((rd_T71 l0_0 x8_1).f0))).setCell ⟨gb288, 1, none⟩ (.string ((rd_T71 l0_0 x8_1).f1))).setCell ⟨gb288, 2, none⟩ (.int .i64 ((rd_T71 l0_0 x8_1).f2))).heap[gb288]? = some (.cells #[.string ((rd_T71 l0_0 x8_1).f0), .string ((rd_T71 l0_0 x8_1).f1), .int .i64 ((rd_T71 l0_0 x8_1).f2)] 71 (0, 0))) := ⟨by refine nB ?_; refine blk_put (cs := #[.string ((rd_T71 l0_0 x8_1).f0), .string ((rd_T71 l0_0 x8_1).f1), .int .i64 0]) ?_ 2 _ rfl; refine nB ?_; refine blk_put (cs := #[.string ((rd_T71 l0_0 x8_1).f0), .string (⟨#[]⟩ : ByteArray), .int .i64 0]) ?_ 1 _ rfl; refine nB ?_; refine blk_put (cs := #[.string (⟨#[]⟩ : ByteArray), .string (⟨#[]⟩ : ByteArray), .int .i64 0]) ?_ 0 _ rfl; exact nB BK288.out⟩
           have n2_ : Aside0 (Below w.heap.size w (((w20.setCell ⟨gb288, 0, none⟩ (.string ((rd_T71 l0_0 x8_1).f0))).setCell ⟨gb288, 1, none⟩ (.string ((rd_T71 l0_0 x8_1).f1))).setCell ⟨gb288, 2, none⟩ (.int .i64 ((rd_T71 l0_0 x8_1).f2)))) := ⟨uL HB⟩
           (try clear BK286)
           (try clear BK288)
           (try clear HB)
           generalize (((w20.setCell ⟨gb288, 0, none⟩ (.string ((rd_T71 l0_0 x8_1).f0))).setCell ⟨gb288, 1, none⟩ (.string ((rd_T71 l0_0 x8_1).f1))).setCell ⟨gb288, 2, none⟩ (.int .i64 ((rd_T71 l0_0 x8_1).f2))) = w23 at n0_ n1_ n2_ ⊢
           have BK286 := n0_; have BK288 := n1_; have HB := n2_; clear n0_ n1_ n2_
           replace BK286 := aM (blk_drew BK286.out)
           replace BK288 := aM (blk_drew BK288.out)
           replace HB := aM (below_drew1 HB.out)
           have p290 : 0 ≤ ((ji10) : Int) := of_decide_eq_true (by first | (with_reducible assumption) | assumption)
           have q290 : (ji10) < (l0_0.length : Int) := of_decide_eq_true (by first | (with_reducible assumption) | assumption)
           obtain ⟨ad290, e290, hx290_0, hx290_1, hx290_2⟩ := at_T71 HR0_0.out (ji10) p290 q290
           have hw290_2 := hx290_2; have hw290_1 := hx290_1; have hw290_0 := hx290_0
           obtain rfl : ad287 = ad290 := (by injection e290)
           replace hx290_0 := hxB HB hx290_0; replace hx290_1 := hxB HB hx290_1; replace hx290_2 := hxB HB hx290_2; replace p290 := eq_true p290; replace q290 := eq_true q290
           refine start_ (n := 19) (S := fun w' => w'.cell? ⟨gb288, 0, none⟩ = some (.string ((rd_T71 l0_0 x8_1).f0)) ∧ w'.cell? ⟨gb288, 1, none⟩ = some (.string ((rd_T71 l0_0 x8_1).f1)) ∧ w'.cell? ⟨gb288, 2, none⟩ = some (.int .i64 ((rd_T71 l0_0 x8_1).f2)) ∧ w'.cell? ⟨gb286, 0, none⟩ = some (.slice (some ad287) l0_0.length c0_0) ∧ w'.cell? (ad287.add (((ji10)).toNat * 3)) = some (.string ((rd_T71 l0_0 (ji10)).f0)) ∧ w'.cell? ⟨(ad287.add (((ji10)).toNat * 3)).block, (ad287.add (((ji10)).toNat * 3)).off + 1, none⟩ = some (.string ((rd_T71 l0_0 (ji10)).f1)) ∧ w'.cell? ⟨(ad287.add (((ji10)).toNat * 3)).block, (ad287.add (((ji10)).toNat * 3)).off + 2, none⟩ = some (.int .i64 ((rd_T71 l0_0 (ji10)).f2))) (ds := []) (bB 19 0) (by kernel_rfl) rfl rfl ⟨(blk_cell BK288.out 0).trans rfl, (blk_cell BK288.out 1).trans rfl, (blk_cell BK288.out 2).trans rfl, (blk_cell BK286.out 0).trans rfl, (hyB HB hw290_0), (hyB HB hw290_1), (hyB HB hw290_2)⟩ (fun hHeld => ?_); refine with_tabW impl_DiskOk.tab4 impl_DiskOk.bits4 (fun HT_ HW_ => ?_)
           generalize w23.drew = w24 at BK286 BK288 HB hx290_0 hx290_1 hx290_2 hHeld ⊢
           refine tA HT_.out HW_.out 0 13 19 1 hHeld ?_
           refine oA HT_.out 1 (some 14) 19 3 (fun K hK => ?_)
           refine gX Tryd.func68 #[.agg #[.string ((rd_T71 l0_0 x8_1).f0), .string ((rd_T71 l0_0 x8_1).f1), .int .i64 ((rd_T71 l0_0 x8_1).f2)]] ?_
           with_reducible refine (impl_fileOk.calls ((rd_T71 l0_0 x8_1).f0) ((rd_T71 l0_0 x8_1).f1) ((rd_T71 l0_0 x8_1).f2) true _ A7.out).mono ?_
           rintro e w25 ⟨rfl, hb⟩
           refine ⟨_, rfl, ?_⟩
           replace BK286 := blkB BK286 hb
           replace BK288 := blkB BK288 hb
           replace HB := aM (below_step (uL HB) hb)
           (try clear hb)
           (try clear hb2)
           (try clear hk)
           (try clear hi)
           refine hK.out _ _ ⟨(blk_cell BK288.out 0).trans rfl, (blk_cell BK288.out 1).trans rfl, (blk_cell BK288.out 2).trans rfl, (blk_cell BK286.out 0).trans rfl, (hyB HB hw290_0), (hyB HB hw290_1), (hyB HB hw290_2)⟩ (fun hHeld => ?_)
           clear hK K
           refine nX 14 ?_; refine pA HT_.out 2 15 19 7 ?_; refine pA HT_.out 3 16 19 15 ?_; refine pA HT_.out 4 17 19 31 ?_; refine pA HT_.out 5 18 19 63 ?_; refine pA HT_.out 6 19 19 127 ?_; refine pA HT_.out 7 20 19 255 ?_; refine pA HT_.out 9 22 19 767 ?_; refine pA HT_.out 10 23 19 1791 ?_; refine pA HT_.out 14 27 19 18175 ?_; refine tA HT_.out HW_.out 8 21 19 18431 hHeld ?_; refine pA HT_.out 11 24 19 20479 ?_; refine pA HT_.out 12 25 19 24575 ?_; refine tA HT_.out HW_.out 13 26 19 32767 hHeld ?_; refine tA HT_.out HW_.out 15 28 19 65535 hHeld ?_; refine pA HT_.out 16 29 19 131071 ?_; refine pA HT_.out 17 30 19 262143 ?_; refine pA HT_.out 18 31 19 524287 ?_
           refine done_ (done_of HT_.out (by kernel_rfl)) ?_
           try go_wp2
           go_ret
           exact ⟨by first | rfl | (simp [errW_none, errW_some] <;> rfl) | (simp only [← hji10]; first | rfl | (simp [errW_none, errW_some] <;> rfl)) | (simp [*, errW_none, errW_some] <;> rfl), uL HB⟩
         ·rw [if_neg c12] at H
          exact absurd H (by simp)
        ·rw [if_neg c11] at H
         exact absurd H (by simp)
       ·rw [if_neg c9] at H
        have c9b0 : decide (0 < x8_1) = false := decide_eq_false c9
        clear c9
        have H' := aM H
        clear H
        have p287 : 0 ≤ (x8_1 : Int) := of_decide_eq_true (by first | (with_reducible assumption) | assumption)
        have q287 : x8_1 < (l0_0.length : Int) := of_decide_eq_true (by first | (with_reducible assumption) | assumption)
        obtain ⟨ad287, e287, hx287_0, hx287_1, hx287_2⟩ := at_T71 HR0_0.out x8_1 p287 q287
        cases e287
        replace hx287_0 := hxB HB hx287_0; replace hx287_1 := hxB HB hx287_1; replace hx287_2 := hxB HB hx287_2; replace p287 := eq_true p287; replace q287 := eq_true q287
        try go_wp2_with (first | ((with_reducible refine gate_dst (N := 4) rfl ?_); refine bxE 4 #[.string (⟨#[]⟩ : ByteArray), .string (⟨#[]⟩ : ByteArray), .int .i64 0] 71 ?_; intro gb288 hg w26 hbox hb; have BK288 := aM (hbox); have GW288 := szG hg (uL HB); have GE288 := szG hg (uL HB); have NB286_288 := neL hg BK286; have NB288_286 := neG hg BK286; replace BK286 := blkB BK286 hb; replace HB := aM (below_step (uL HB) hb); clear hb hbox hg; have hnb27 := NB288_286.out; have hnc27 := NB286_288.out; have hcz28_0 := czA BK288.out 0 (.string (⟨#[]⟩ : ByteArray)); have hcz28_1 := czA BK288.out 1 (.string (⟨#[]⟩ : ByteArray)); have hcz28_2 := czA BK288.out 2 (.int .i64 0); have hfz28_0 := blk_frozen BK288.out 0; have hfz28_1 := blk_frozen BK288.out 1; have hfz28_2 := blk_frozen BK288.out 2))
        have n0_ : Aside0 ((((w26.setCell ⟨gb288, 0, none⟩ (.string ((rd_T71 l0_0 x8_1).f0))).setCell ⟨gb288, 1, none⟩ (.string ((rd_T71 l0_0 x8_1).f1))).setCell ⟨gb288, 2, none⟩ (.int .i64 ((rd_T71 l0_0 x8_1).f2))).heap[gb286]? = some (.cells #[.slice (some ad287) l0_0.length c0_0] 35 (0, 0))) := ⟨by refine nB ?_; refine blk_far ?_ NB286_288.out _; refine nB ?_; refine blk_far ?_ NB286_288.out _; refine nB ?_; refine blk_far ?_ NB286_288.out _; exact nB BK286.out⟩
        have n1_ : Aside0 ((((w26.setCell ⟨gb288, 0, none⟩ (.string ((rd_T71 l0_0 x8_1).f0))).setCell ⟨gb288, 1, none⟩ (.string ((rd_T71 l0_0 x8_1).f1))).setCell ⟨gb288, 2, none⟩ (.int .i64 ((rd_T71 l0_0 x8_1).f2))).heap[gb288]? = some (.cells #[.string ((rd_T71 l0_0 x8_1).f0), .string ((rd_T71 l0_0 x8_1).f1), .int .i64 ((rd_T71 l0_0 x8_1).f2)] 71 (0, 0))) := ⟨by refine nB ?_; refine blk_put (cs := #[.string ((rd_T71 l0_0 x8_1).f0), .string ((rd_T71 l0_0 x8_1).f1), .int .i64 0]) ?_ 2 _ rfl; refine nB ?_; refine blk_put (cs := #[.string ((rd_T71 l0_0 x8_1).f0), .string (⟨#[]⟩ : ByteArray), .int .i64 0]) ?_ 1 _ rfl; refine nB ?_; refine blk_put (cs := #[.string (⟨#[]⟩ : ByteArray), .string (⟨#[]⟩ : ByteArray), .int .i64 0]) ?_ 0 _ rfl; exact nB BK288.out⟩
        have n2_ : Aside0 (Below w.heap.size w (((w26.setCell ⟨gb288, 0, none⟩ (.string ((rd_T71 l0_0 x8_1).f0))).setCell ⟨gb288, 1, none⟩ (.string ((rd_T71 l0_0 x8_1).f1))).setCell ⟨gb288, 2, none⟩ (.int .i64 ((rd_T71 l0_0 x8_1).f2)))) := ⟨uL HB⟩
        (try clear BK286)
        (try clear BK288)
        (try clear HB)
        generalize (((w26.setCell ⟨gb288, 0, none⟩ (.string ((rd_T71 l0_0 x8_1).f0))).setCell ⟨gb288, 1, none⟩ (.string ((rd_T71 l0_0 x8_1).f1))).setCell ⟨gb288, 2, none⟩ (.int .i64 ((rd_T71 l0_0 x8_1).f2))) = w29 at n0_ n1_ n2_ ⊢
        have BK286 := n0_; have BK288 := n1_; have HB := n2_; clear n0_ n1_ n2_
        replace BK286 := aM (blk_drew BK286.out)
        replace BK288 := aM (blk_drew BK288.out)
        replace HB := aM (below_drew1 HB.out)
        refine start_ (n := 19) (S := fun w' => w'.cell? ⟨gb288, 0, none⟩ = some (.string ((rd_T71 l0_0 x8_1).f0)) ∧ w'.cell? ⟨gb288, 1, none⟩ = some (.string ((rd_T71 l0_0 x8_1).f1)) ∧ w'.cell? ⟨gb288, 2, none⟩ = some (.int .i64 ((rd_T71 l0_0 x8_1).f2))) (ds := []) (bB 19 0) (by kernel_rfl) rfl rfl ⟨(blk_cell BK288.out 0).trans rfl, (blk_cell BK288.out 1).trans rfl, (blk_cell BK288.out 2).trans rfl⟩ (fun hHeld => ?_); refine with_tabW impl_DiskOk.tab4 impl_DiskOk.bits4 (fun HT_ HW_ => ?_)
        generalize w29.drew = w30 at BK286 BK288 HB hHeld ⊢
        refine tA HT_.out HW_.out 0 13 19 1 hHeld ?_
        refine oA HT_.out 1 (some 14) 19 3 (fun K hK => ?_)
        refine gX Tryd.func68 #[.agg #[.string ((rd_T71 l0_0 x8_1).f0), .string ((rd_T71 l0_0 x8_1).f1), .int .i64 ((rd_T71 l0_0 x8_1).f2)]] ?_
        with_reducible refine (impl_fileOk.calls ((rd_T71 l0_0 x8_1).f0) ((rd_T71 l0_0 x8_1).f1) ((rd_T71 l0_0 x8_1).f2) true _ A7.out).mono ?_
        rintro e w31 ⟨rfl, hb⟩
        refine ⟨_, rfl, ?_⟩
        replace BK286 := blkB BK286 hb
        replace BK288 := blkB BK288 hb
        replace HB := aM (below_step (uL HB) hb)
        (try clear hb)
        (try clear hb2)
        (try clear hk)
        (try clear hi)
        refine hK.out _ _ ⟨(blk_cell BK288.out 0).trans rfl, (blk_cell BK288.out 1).trans rfl, (blk_cell BK288.out 2).trans rfl⟩ (fun hHeld => ?_)
        clear hK K
        refine nX 14 ?_; refine pA HT_.out 2 15 19 7 ?_; refine pA HT_.out 3 16 19 15 ?_; refine pA HT_.out 4 17 19 31 ?_; refine pA HT_.out 5 18 19 63 ?_; refine pA HT_.out 6 19 19 127 ?_; refine pB HT_.out 7 20 19 255 ?_; refine pB HT_.out 8 21 19 511 ?_; refine pB HT_.out 9 22 19 1023 ?_; refine pB HT_.out 10 23 19 2047 ?_; refine pB HT_.out 11 24 19 4095 ?_; refine pB HT_.out 12 25 19 8191 ?_; refine pB HT_.out 13 26 19 16383 ?_; refine pB HT_.out 14 27 19 32767 ?_; refine pB HT_.out 15 28 19 65535 ?_; refine pB HT_.out 16 29 19 131071 ?_; refine pA HT_.out 17 30 19 262143 ?_; refine pA HT_.out 18 31 19 524287 ?_
        refine done_ (done_of HT_.out (by kernel_rfl)) ?_
        try go_wp2
        go_roundg k1
        case measure => have := HK1.out; omega
        case rel => exact ⟨(wrap64 (x8_1 + 1)), (by first | rfl | (simp; done) | (simp [*]; done)), H', ⟨by have := HK1.out; omega⟩, ⟨by exact nB BK286.out⟩, ⟨uL HB⟩⟩
      ·replace c8 := Bool.eq_false_iff.mpr c8
       subst c8
       have H1 : (some false) = some r := by rw [if_neg (show ¬ (false = true) by decide)] at H; exact H
       clear H; have H := H1; clear H1
       obtain rfl := Option.some.inj H
       have p287 : 0 ≤ (x8_1 : Int) := of_decide_eq_true (by first | (with_reducible assumption) | assumption)
       have q287 : x8_1 < (l0_0.length : Int) := of_decide_eq_true (by first | (with_reducible assumption) | assumption)
       obtain ⟨ad287, e287, hx287_0, hx287_1, hx287_2⟩ := at_T71 HR0_0.out x8_1 p287 q287
       cases e287
       replace hx287_0 := hxB HB hx287_0; replace hx287_1 := hxB HB hx287_1; replace hx287_2 := hxB HB hx287_2; replace p287 := eq_true p287; replace q287 := eq_true q287
       try go_wp2_with (first | ((with_reducible refine gate_dst (N := 4) rfl ?_); refine bxE 4 #[.string (⟨#[]⟩ : ByteArray), .string (⟨#[]⟩ : ByteArray), .int .i64 0] 71 ?_; intro gb288 hg w32 hbox hb; have BK288 := aM (hbox); have GW288 := szG hg (uL HB); have GE288 := szG hg (uL HB); have NB286_288 := neL hg BK286; have NB288_286 := neG hg BK286; replace BK286 := blkB BK286 hb; replace HB := aM (below_step (uL HB) hb); clear hb hbox hg; have hnb33 := NB288_286.out; have hnc33 := NB286_288.out; have hcz34_0 := czA BK288.out 0 (.string (⟨#[]⟩ : ByteArray)); have hcz34_1 := czA BK288.out 1 (.string (⟨#[]⟩ : ByteArray)); have hcz34_2 := czA BK288.out 2 (.int .i64 0); have hfz34_0 := blk_frozen BK288.out 0; have hfz34_1 := blk_frozen BK288.out 1; have hfz34_2 := blk_frozen BK288.out 2))
       have n0_ : Aside0 ((((w32.setCell ⟨gb288, 0, none⟩ (.string ((rd_T71 l0_0 x8_1).f0))).setCell ⟨gb288, 1, none⟩ (.string ((rd_T71 l0_0 x8_1).f1))).setCell ⟨gb288, 2, none⟩ (.int .i64 ((rd_T71 l0_0 x8_1).f2))).heap[gb286]? = some (.cells #[.slice (some ad287) l0_0.length c0_0] 35 (0, 0))) := ⟨by refine nB ?_; refine blk_far ?_ NB286_288.out _; refine nB ?_; refine blk_far ?_ NB286_288.out _; refine nB ?_; refine blk_far ?_ NB286_288.out _; exact nB BK286.out⟩
       have n1_ : Aside0 ((((w32.setCell ⟨gb288, 0, none⟩ (.string ((rd_T71 l0_0 x8_1).f0))).setCell ⟨gb288, 1, none⟩ (.string ((rd_T71 l0_0 x8_1).f1))).setCell ⟨gb288, 2, none⟩ (.int .i64 ((rd_T71 l0_0 x8_1).f2))).heap[gb288]? = some (.cells #[.string ((rd_T71 l0_0 x8_1).f0), .string ((rd_T71 l0_0 x8_1).f1), .int .i64 ((rd_T71 l0_0 x8_1).f2)] 71 (0, 0))) := ⟨by refine nB ?_; refine blk_put (cs := #[.string ((rd_T71 l0_0 x8_1).f0), .string ((rd_T71 l0_0 x8_1).f1), .int .i64 0]) ?_ 2 _ rfl; refine nB ?_; refine blk_put (cs := #[.string ((rd_T71 l0_0 x8_1).f0), .string (⟨#[]⟩ : ByteArray), .int .i64 0]) ?_ 1 _ rfl; refine nB ?_; refine blk_put (cs := #[.string (⟨#[]⟩ : ByteArray), .string (⟨#[]⟩ : ByteArray), .int .i64 0]) ?_ 0 _ rfl; exact nB BK288.out⟩
       have n2_ : Aside0 (Below w.heap.size w (((w32.setCell ⟨gb288, 0, none⟩ (.string ((rd_T71 l0_0 x8_1).f0))).setCell ⟨gb288, 1, none⟩ (.string ((rd_T71 l0_0 x8_1).f1))).setCell ⟨gb288, 2, none⟩ (.int .i64 ((rd_T71 l0_0 x8_1).f2)))) := ⟨uL HB⟩
       (try clear BK286)
       (try clear BK288)
       (try clear HB)
       generalize (((w32.setCell ⟨gb288, 0, none⟩ (.string ((rd_T71 l0_0 x8_1).f0))).setCell ⟨gb288, 1, none⟩ (.string ((rd_T71 l0_0 x8_1).f1))).setCell ⟨gb288, 2, none⟩ (.int .i64 ((rd_T71 l0_0 x8_1).f2))) = w35 at n0_ n1_ n2_ ⊢
       have BK286 := n0_; have BK288 := n1_; have HB := n2_; clear n0_ n1_ n2_
       replace BK286 := aM (blk_drew BK286.out)
       replace BK288 := aM (blk_drew BK288.out)
       replace HB := aM (below_drew1 HB.out)
       refine start_ (n := 19) (S := fun w' => w'.cell? ⟨gb288, 0, none⟩ = some (.string ((rd_T71 l0_0 x8_1).f0)) ∧ w'.cell? ⟨gb288, 1, none⟩ = some (.string ((rd_T71 l0_0 x8_1).f1)) ∧ w'.cell? ⟨gb288, 2, none⟩ = some (.int .i64 ((rd_T71 l0_0 x8_1).f2))) (ds := []) (bB 19 0) (by kernel_rfl) rfl rfl ⟨(blk_cell BK288.out 0).trans rfl, (blk_cell BK288.out 1).trans rfl, (blk_cell BK288.out 2).trans rfl⟩ (fun hHeld => ?_); refine with_tabW impl_DiskOk.tab4 impl_DiskOk.bits4 (fun HT_ HW_ => ?_)
       generalize w35.drew = w36 at BK286 BK288 HB hHeld ⊢
       refine tA HT_.out HW_.out 0 13 19 1 hHeld ?_
       refine oA HT_.out 1 (some 14) 19 3 (fun K hK => ?_)
       refine gX Tryd.func68 #[.agg #[.string ((rd_T71 l0_0 x8_1).f0), .string ((rd_T71 l0_0 x8_1).f1), .int .i64 ((rd_T71 l0_0 x8_1).f2)]] ?_
       with_reducible refine (impl_fileOk.calls ((rd_T71 l0_0 x8_1).f0) ((rd_T71 l0_0 x8_1).f1) ((rd_T71 l0_0 x8_1).f2) false _ A7.out).mono ?_
       rintro e w37 ⟨rfl, hb⟩
       refine ⟨_, rfl, ?_⟩
       replace BK286 := blkB BK286 hb
       replace BK288 := blkB BK288 hb
       replace HB := aM (below_step (uL HB) hb)
       (try clear hb)
       (try clear hb2)
       (try clear hk)
       (try clear hi)
       refine hK.out _ _ ⟨(blk_cell BK288.out 0).trans rfl, (blk_cell BK288.out 1).trans rfl, (blk_cell BK288.out 2).trans rfl⟩ (fun hHeld => ?_)
       clear hK K
       refine nX 14 ?_; refine pA HT_.out 2 15 19 7 ?_; refine pA HT_.out 3 16 19 15 ?_; refine pB HT_.out 4 17 19 31 ?_; refine pB HT_.out 5 18 19 63 ?_; refine pB HT_.out 6 19 19 127 ?_; refine pB HT_.out 7 20 19 255 ?_; refine pB HT_.out 8 21 19 511 ?_; refine pB HT_.out 9 22 19 1023 ?_; refine pB HT_.out 10 23 19 2047 ?_; refine pB HT_.out 11 24 19 4095 ?_; refine pB HT_.out 12 25 19 8191 ?_; refine pB HT_.out 13 26 19 16383 ?_; refine pB HT_.out 14 27 19 32767 ?_; refine pB HT_.out 15 28 19 65535 ?_; refine pB HT_.out 16 29 19 131071 ?_; refine pB HT_.out 17 30 19 262143 ?_; refine pA HT_.out 18 31 19 524287 ?_
       refine done_ (done_of HT_.out (by kernel_rfl)) ?_
       try go_wp2
       go_ret
       exact rX HB
     ·rw [if_neg c6] at H
      exact absurd H (by simp)
    ·rw [if_neg c5] at H
     exact absurd H (by simp)
   ·rw [if_neg c4] at H
    have c4b0 : decide (x8_1 < (l0_0.length : Int)) = false := decide_eq_false c4
    clear c4
    obtain rfl := Option.some.inj H
    have hcz38_0 := czA BK286.out 0 (.slice A0_0 l0_0.length c0_0)
    have hfz38_0 := blk_frozen BK286.out 0
    go_wp2
    go_ret
    exact rX HB

end Go.Proofs.YthomiofokkkhgaaDoor.QFnExactSnapActs
