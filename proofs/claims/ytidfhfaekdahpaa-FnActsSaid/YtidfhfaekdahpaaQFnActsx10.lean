-- Own work (wip/turnprint.py over the kit's print).
import Derived.Test.YtidfhfaekdahpaaQFnActsx0
namespace Go.Proofs.Ytidfhfaekdahpaa.QFnActs
open Go.RowKit Go.Proofs.YtidfhfaekdahpaaW.PrintWords Go.Proofs.YtidfhfaekdahpaaW.PrintLast Go.Proofs.YtidfhfaekdahpaaW.PrintMore
attribute [local go_sem] max2_int min2_int max_two min_two max_three min_three max_four min_four   -- for this text's walks alone
set_option linter.unusedVariables false
set_option linter.unusedSimpArgs false

/-! ### spec_l03Without: function 86 -/
def spec_l03Without.l0 : Nat → ByteArray → Int → List (S45) → List (S45) → Option ((List (S45)))
 | 0, _, _, _, _ => none
 | k + 1, x1, x6, x148000, x150000 => if x6 < (x148000.length : Int) then (if 0 ≤ x6 then (if ((rd_T45 x148000 x6).f0).toList = x1.toList then (spec_l03Without.l0 k x1 (wrap64 (x6 + 1)) x148000 x150000) else (if x150000.length < 3518437208883 then (spec_l03Without.l0 k x1 (wrap64 (x6 + 1)) x148000 (x150000 ++ [(⟨(rd_T45 x148000 x6).f0, (rd_T45 x148000 x6).f1, (rd_T45 x148000 x6).f2⟩ : S45)])) else (none))) else (none)) else (some x150000)
def spec_l03Without.f (k : Nat) (l0_0 : List (S45)) (a1 : ByteArray) : Option ((List (S45))) := spec_l03Without.l0 k a1 0 l0_0 ([] : List (S45))
theorem spec_l03Without.mono_l : ∀ k, (∀ y0 y1 y2 y3, LeO (spec_l03Without.l0 k y0 y1 y2 y3) (spec_l03Without.l0 (k + 1) y0 y1 y2 y3))
 | 0 => fun _ _ _ _ r h => by simp [spec_l03Without.l0] at h
 | k + 1 => by
  have ih0 := spec_l03Without.mono_l k
  ·intro y0 y1 y2 y3
   unfold spec_l03Without.l0
   repeat' first
   | (with_reducible exact ih0 _ _ _ _)
   | (with_reducible exact LeO.refl _)
   | (with_reducible exact LeO.none _)
   | (with_reducible refine LeO.ite ?_ ?_)
   | (with_reducible refine LeO.bind ?_ (fun _ => ?_))
   | exact ih0 _ _ _ _
   | exact LeO.none _
   | refine LeO.ite ?_ ?_
   | refine LeO.bind ?_ (fun _ => ?_)
theorem spec_l03Without.mono : ∀ a0 a1 k, LeO (spec_l03Without.f k a0 a1) (spec_l03Without.f (k + 1) a0 a1) := by
 intro a0 a1 k
 have ih0 := spec_l03Without.mono_l k
 unfold spec_l03Without.f
 repeat' first
  | (with_reducible exact ih0 _ _ _ _)
  | (with_reducible exact LeO.refl _)
  | (with_reducible exact LeO.none _)
  | (with_reducible refine LeO.ite ?_ ?_)
  | (with_reducible refine LeO.bind ?_ (fun _ => ?_))
  | exact ih0 _ _ _ _
  | exact LeO.none _
  | refine LeO.ite ?_ ?_
  | refine LeO.bind ?_ (fun _ => ?_)
def spec_l03Without.T6 : Bool × List (List Nat × List Nat) := (true, [([], []), ([0], [0]), ([], []), ([2], [2]), ([], []), ([3, 4], [3, 4]), ([5], [5]), ([6], [6]), ([1, 7], [1, 7]), ([0, 1, 2, 3, 4, 5, 6, 7, 8], []), ([9, 8, 8, 0, 1, 2, 3, 4, 5, 6, 7, 8], [8, 9])])
def spec_l03Without.B6 : List Nat := [0, 1, 0, 4, 0, 28, 60, 124, 255, 511, 1023]
theorem spec_l03Without.tab6 : rtab .any (opsOf Try.f86 6) = spec_l03Without.T6 := by kernel_rfl
theorem spec_l03Without.bits6 : waitsOk spec_l03Without.T6.2 spec_l03Without.B6 = true := by kernel_rfl
set_option maxHeartbeats 8000000 in
set_option maxRecDepth 100000 in
theorem spec_l03Without.calls (k : Nat) (A0_0 : Option Addr) (c0_0 : Nat) (l0_0 : List (S45)) (a1 : ByteArray) (r : List (S45)) (w : World) (hr0_0 : Kd.C k45 w A0_0 l0_0.length l0_0) (hc0_0 : l0_0.length ≤ c0_0) (h : spec_l03Without.f k l0_0 a1 = some r) :
 Calls Try.prog 86 #[.agg #[.slice A0_0 l0_0.length c0_0], .string a1] w fun e w' => ∃ v0_ : Value, e = .returned (.agg #[v0_]) ∧ Kd.R k45 45 w' w.heap.size (fun _ => True) v0_ r ∧ Below w.heap.size w w' := by
 have hu30 := Try.underlying30
 have hu45 := Try.underlying45
 have HR0_0 := aM hr0_0
 have HC0_0 := aM hc0_0
 clear hr0_0 hc0_0
 have HB := aM (Below.refl w.heap.size w)
 have H : (spec_l03Without.l0 k a1 0 l0_0 ([] : List (S45))) = some r := h
 clear h
 have H' := aM H
 clear H
 go_enter Try.func86, Try.ntmps86
 go_wp2_with (first | ((with_reducible refine gate_dst (N := 2) rfl ?_); refine bxE 2 #[.slice A0_0 l0_0.length c0_0] 30 ?_; intro gb147 hg w3 hbox hb; have BK147 := aM (hbox); have GW147 := szG hg (uL HB); have GE147 := szG hg (uL HB); replace HB := aM (below_step (uL HB) hb); clear hb hbox hg) | ((with_reducible refine gate_dst (N := 4) rfl ?_); refine bxE 4 #[.slice none 0 0] 30 ?_; intro gb148 hg w4 hbox hb; have BK148 := aM (hbox); have GW148 := szG hg (uL HB); have GE148 := szG hg (uL HB); have NB147_148 := neL hg BK147; have NB148_147 := neG hg BK147; replace BK147 := blkB BK147 hb; replace HB := aM (below_step (uL HB) hb); clear hb hbox hg) | ((with_reducible refine gate_dst (N := 5) rfl ?_); refine bxE 5 #[.slice none 0 0] 30 ?_; intro gb149 hg w5 hbox hb; have BK149 := aM (hbox); have GW149 := szG hg (uL HB); have GE149 := szG hg (uL HB); have NB147_149 := neL hg BK147; have NB149_147 := neG hg BK147; have NB148_149 := neL hg BK148; have NB149_148 := neG hg BK148; replace BK147 := blkB BK147 hb; replace BK148 := blkB BK148 hb; replace HB := aM (below_step (uL HB) hb); clear hb hbox hg; have hnb6 := NB149_147.out; have hnc6 := NB147_149.out; have hnb7 := NB149_148.out; have hnc7 := NB148_149.out; have hcz8_0 := czA BK149.out 0 (.slice none 0 0); have hfz8_0 := blk_frozen BK149.out 0))
 go_loopg [6] k (fun kq v6 w' => ∃ (x6_1 : Int) (x150000_1 : List (S45)) (u150000 : Value), v6 = .int .i64 x6_1 ∧ Aside0 (spec_l03Without.l0 kq a1 x6_1 l0_0 x150000_1 = some r) ∧ Aside0 (kq ≤ k) ∧ Aside0 (Kd.R k45 45 w' w.heap.size (fun _ => True) u150000 x150000_1) ∧ Aside0 (w'.heap[gb147]? = some (.cells #[(.slice A0_0 l0_0.length c0_0)] 30 (0, 0))) ∧ Aside0 (w'.heap[gb148]? = some (.cells #[(.slice none 0 0)] 30 (0, 0))) ∧ Aside0 (w'.heap[gb149]? = some (.cells #[u150000] 30 (0, 0))) ∧ Aside0 (Below w.heap.size w w'))
 case atStart => exact ⟨(0), (([] : List (S45))), (.slice none 0 0), (by first | rfl | (simp; done) | (simp [*]; done)), H', ⟨Nat.le_refl _⟩, ⟨by first | exact Kd.R_nil _ _ _ _ _ | exact Kd.N_nil _ _ _ _ _ | exact Kd.V_nil _ _ _ _ _ | exact Kd.Q_nil _ _ _ _ _ | exact Kd.S_nil _ _ _ _ _⟩, ⟨by refine nB ?_; refine blk_far ?_ NB147_149.out _; exact nB BK147.out⟩, ⟨by refine nB ?_; refine blk_far ?_ NB148_149.out _; exact nB BK148.out⟩, ⟨by refine nB ?_; refine blk_put (cs := #[.slice none 0 0]) ?_ 0 _ rfl; exact nB BK149.out⟩, ⟨uL HB⟩⟩
 case round =>
  clear H'
  try clear p2; try clear c6; try clear c7; try clear c8; try clear hcz8_0; try clear hfz8_0
  obtain ⟨x6_1, x150000_1, u150000, rfl, HA, HK1, HO_150000, BK147, BK148, BK149, HB⟩ := hrel
  cases gk with
  | zero => exact absurd HA.out (by simp [spec_l03Without.l0])
  | succ k1 =>
   have H := HA.out
   clear HA
   simp only [spec_l03Without.l0] at H
   by_cases c9 : x6_1 < (l0_0.length : Int)
   ·rw [if_pos c9] at H
    have c9b0 : decide (x6_1 < (l0_0.length : Int)) = true := decide_eq_true c9
    clear c9
    by_cases c10 : 0 ≤ x6_1
    ·rw [if_pos c10] at H
     have c10b0 : decide (0 ≤ x6_1) = true := decide_eq_true c10
     clear c10
     by_cases c11 : ((rd_T45 l0_0 x6_1).f0).toList = a1.toList
     ·rw [if_pos c11] at H
      have c11b0 : (((rd_T45 l0_0 x6_1).f0).toList == a1.toList) = true := beq_iff_eq.mpr c11
      have c11b1 : (((rd_T45 l0_0 x6_1).f0).toList != a1.toList) = false := bne_eq_false_iff_eq.mpr c11
      clear c11
      have H' := aM H
      clear H
      have hnb12 := NB147_148.out; have hnc12 := NB148_147.out; have hnb13 := NB147_149.out; have hnc13 := NB149_147.out
      have hcz14_0 := czA BK147.out 0 (.slice A0_0 l0_0.length c0_0)
      have hfz14_0 := blk_frozen BK147.out 0
      have p150 : 0 ≤ (x6_1 : Int) := of_decide_eq_true (by first | (with_reducible assumption) | assumption)
      have q150 : x6_1 < (l0_0.length : Int) := of_decide_eq_true (by first | (with_reducible assumption) | assumption)
      obtain ⟨ad150, e150, hx150_0, hx150_1, hx150_2⟩ := at_T45 HR0_0.out x6_1 p150 q150
      cases e150
      replace hx150_0 := hxB HB hx150_0; replace hx150_1 := hxB HB hx150_1; replace hx150_2 := hxB HB hx150_2; replace p150 := eq_true p150; replace q150 := eq_true q150
      go_wp2
      go_roundg k1
      case measure => have := HK1.out; omega
      case rel => exact ⟨(wrap64 (x6_1 + 1)), (x150000_1), (u150000), (by first | rfl | (simp; done) | (simp [*]; done)), H', ⟨by have := HK1.out; omega⟩, ⟨by (with_reducible repeat first | apply rA | apply rN | apply rD); exact HO_150000.out⟩, ⟨by exact nB BK147.out⟩, ⟨by exact nB BK148.out⟩, ⟨by exact nB BK149.out⟩, ⟨uL HB⟩⟩
     ·rw [if_neg c11] at H
      have c11b0 : (((rd_T45 l0_0 x6_1).f0).toList == a1.toList) = false := beq_eq_false_iff_ne.mpr c11
      have c11b1 : (((rd_T45 l0_0 x6_1).f0).toList != a1.toList) = true := bne_iff_ne.mpr c11
      by_cases c15 : x150000_1.length < 3518437208883
      ·rw [if_pos c15] at H
       have LMc15 := aM c15
       clear c15
       obtain ⟨y152, hy152⟩ : ∃ y_ : List (S45), y_ = (x150000_1 ++ [(⟨(rd_T45 l0_0 x6_1).f0, (rd_T45 l0_0 x6_1).f1, (rd_T45 l0_0 x6_1).f2⟩ : S45)]) := ⟨_, rfl⟩
       replace H : (spec_l03Without.l0 k1 a1 (wrap64 (x6_1 + 1)) l0_0 y152) = some r := by first | (rw [hy152]; with_reducible exact H) | (have H2_ := (Option.bind_some _ _).symm.trans H; rw [hy152]; with_reducible exact H2_) | (have H2_ := (Option.bind_some _ _).symm.trans H; with_reducible exact H2_) | with_reducible exact H | (rw [hy152]; exact H) | exact H
       have Ny152 := aM hy152
       clear hy152
       have H' := aM H
       clear H
       have hnb16 := NB147_148.out; have hnc16 := NB148_147.out; have hnb17 := NB147_149.out; have hnc17 := NB149_147.out
       have hcz18_0 := czA BK147.out 0 (.slice A0_0 l0_0.length c0_0)
       have hfz18_0 := blk_frozen BK147.out 0
       have p150 : 0 ≤ (x6_1 : Int) := of_decide_eq_true (by first | (with_reducible assumption) | assumption)
       have q150 : x6_1 < (l0_0.length : Int) := of_decide_eq_true (by first | (with_reducible assumption) | assumption)
       obtain ⟨ad150, e150, hx150_0, hx150_1, hx150_2⟩ := at_T45 HR0_0.out x6_1 p150 q150
       cases e150
       replace hx150_0 := hxB HB hx150_0; replace hx150_1 := hxB HB hx150_1; replace hx150_2 := hxB HB hx150_2; replace p150 := eq_true p150; replace q150 := eq_true q150
       try go_wp2
       replace HO_150000 := aM (Kd.R_drew HO_150000.out)
       replace BK147 := aM (blk_drew BK147.out)
       replace BK148 := aM (blk_drew BK148.out)
       replace BK149 := aM (blk_drew BK149.out)
       replace HB := aM (below_drew1 HB.out)
       have p151 : 0 ≤ (x6_1 : Int) := of_decide_eq_true (by first | (with_reducible assumption) | assumption)
       have q151 : x6_1 < (l0_0.length : Int) := of_decide_eq_true (by first | (with_reducible assumption) | assumption)
       obtain ⟨ad151, e151, hx151_0, hx151_1, hx151_2⟩ := at_T45 HR0_0.out x6_1 p151 q151
       have hw151_2 := hx151_2; have hw151_1 := hx151_1; have hw151_0 := hx151_0
       obtain rfl : ad150 = ad151 := (by injection e151)
       replace hx151_0 := hxB HB hx151_0; replace hx151_1 := hxB HB hx151_1; replace hx151_2 := hxB HB hx151_2; replace p151 := eq_true p151; replace q151 := eq_true q151
       refine start_ (n := 11) (S := fun w' => w'.cell? ⟨gb149, 0, none⟩ = some (u150000) ∧ w'.cell? ⟨gb147, 0, none⟩ = some (.slice (some ad150) l0_0.length c0_0) ∧ w'.cell? (ad150.add ((x6_1).toNat * 3)) = some (.string ((rd_T45 l0_0 x6_1).f0)) ∧ w'.cell? ⟨(ad150.add ((x6_1).toNat * 3)).block, (ad150.add ((x6_1).toNat * 3)).off + 1, none⟩ = some (.string ((rd_T45 l0_0 x6_1).f1)) ∧ w'.cell? ⟨(ad150.add ((x6_1).toNat * 3)).block, (ad150.add ((x6_1).toNat * 3)).off + 2, none⟩ = some (.int .i64 ((rd_T45 l0_0 x6_1).f2))) (ds := [10]) (bB 11 0) (by kernel_rfl) rfl rfl ⟨(blk_cell BK149.out 0).trans rfl, (blk_cell BK147.out 0).trans rfl, (hyB HB hw151_0), (hyB HB hw151_1), (hyB HB hw151_2)⟩ (fun hHeld => ?_); refine with_tabW spec_l03Without.tab6 spec_l03Without.bits6 (fun HT_ HW_ => ?_)
       generalize wr.drew = w19 at HO_150000 BK147 BK148 BK149 HB hx151_0 hx151_1 hx151_2 hHeld ⊢
       refine pA HT_.out 0 23 11 1 ?_; refine pA HT_.out 2 25 11 5 ?_; refine pA HT_.out 4 27 11 21 ?_; refine tA HT_.out HW_.out 1 24 11 23 hHeld ?_; refine tA HT_.out HW_.out 3 26 11 31 hHeld ?_; refine pA HT_.out 5 28 11 63 ?_; refine tA HT_.out HW_.out 6 29 11 127 hHeld ?_
       refine oA HT_.out 7 (some 30) 11 255 (fun K hK => ?_)
       refine value_ (w1 := ?_) (v := ?_) (by rfl) rfl ?_ ?_
       rotate_left 2
       ·go_simp
        constructor
        ·rfl
        ·rfl
       refine hK.out _ _ ⟨(blk_cell (blk_alloc BK149.out _) 0).trans rfl, (blk_cell (blk_alloc BK147.out _) 0).trans rfl, (World.cell?_alloc_lt _ _ _ (World.block_lt_of_cell? _ _ ((hyB HB hw151_0)))).trans ((hyB HB hw151_0)), (World.cell?_alloc_lt _ _ _ (World.block_lt_of_cell? _ _ ((hyB HB hw151_1)))).trans ((hyB HB hw151_1)), (World.cell?_alloc_lt _ _ _ (World.block_lt_of_cell? _ _ ((hyB HB hw151_2)))).trans ((hyB HB hw151_2))⟩ (fun hHeld => ?_)
       clear hK K
       refine nX 30 ?_
       refine oA HT_.out 8 (some 31) 11 511 (fun K hK => ?_)
       refine Kd.R_append_step k45 (w0 := w) w.heap.size (by rfl) (.tmp 24) (.tmp 30) 28 45 (.agg #[(.string ⟨#[]⟩), (.string ⟨#[]⟩), (.int .i64 0)]) 40 rfl Try.underlying28 info45 rfl (by decide) (by omega) u150000 x150000_1 (⟨(rd_T45 l0_0 x6_1).f0, (rd_T45 l0_0 x6_1).f1, (rd_T45 l0_0 x6_1).f2⟩ : S45) [.string ((rd_T45 l0_0 x6_1).f0), .string ((rd_T45 l0_0 x6_1).f1), .int .i64 ((rd_T45 l0_0 x6_1).f2)] (fun _ => True) (fun _ => False) rfl rfl ?aP (fun _ hk => hk.elim) ?aF ?aO ?aB ?aS ?aL ?_
       (case aP => exact k45_mkM _ _ _ (⟨(rd_T45 l0_0 x6_1).f0, (rd_T45 l0_0 x6_1).f1, (rd_T45 l0_0 x6_1).f2⟩ : S45))
       (case aB => exact (uL HB))
       (case aF => exact (fun _ _ => trivial))
       (case aO => exact (uR HO_150000))
       (case aS => exact (below_size (uL HB)))
       (case aL => have := LMc15.out; omega)
       intro v153 w20 ho hb hg hat
       rw [← Ny152.out] at ho
       have n0_ := aM (blk_grown (g := gb147) (o := .cells #[.slice (some ad150) l0_0.length c0_0] 30 (0, 0)) (uB BK147) hg (Kd.R_ne HO_150000.out BK147.out (by decide)))
       have n1_ := aM (blk_grown (g := gb148) (o := .cells #[.slice none 0 0] 30 (0, 0)) (uB BK148) hg (Kd.R_ne HO_150000.out BK148.out (by decide)))
       have n2_ := aM (blk_grown (g := gb149) (o := .cells #[u150000] 30 (0, 0)) (uB BK149) hg (Kd.R_ne HO_150000.out BK149.out (by decide)))
       have n3_ := aM (hb)
       have n4_ := aM (ho)
       clear BK147 BK148 BK149 HB HO_150000; have BK147 := n0_; have BK148 := n1_; have BK149 := n2_; have HB := n3_; have HO154 := n4_; clear n0_ n1_ n2_ n3_ n4_ ho hb hg hat
       obtain ⟨Ao21, co21, eo21⟩ := Kd.R_slice HO154.out
       (first | subst eo21 | (injection eo21 with f1_ f2_ f3_; have f4_ := f1_.symm; have f5_ := f3_.symm; clear f1_ f2_ f3_; subst f4_; subst f5_))
       refine hK.out _ _ ⟨(blk_cell BK149.out 0).trans rfl, (blk_cell BK147.out 0).trans rfl, (hyB HB hw151_0), (hyB HB hw151_1), (hyB HB hw151_2)⟩ (fun hHeld => ?_)
       clear hK K
       refine nX 31 ?_; refine pA HT_.out 9 32 11 1023 ?_
       refine last_ (i := 10) (N := none) (bB 11 2047) rfl rfl (one_of HT_.out (by kernel_rfl)) (by decide) (fun K hK => ?_)
       have hs22 := czA BK149.out 0 (u150000)
       have hfs22 := blk_frozen BK149.out 0; have hns22_0 := NB147_149.out; have hns22_1 := NB148_149.out; have hms22_0 := NB149_147.out; have hms22_1 := NB149_148.out
       refine skip_ (w1 := ?_) (by rfl) rfl ?_ ?_
       rotate_left
       ·go_simp
        rfl
       refine hK.out _ _ ?_
       clear hK K
       refine done_ (done_of HT_.out (by kernel_rfl)) ?_
       try go_wp2
       go_roundg k1
       case measure => have := HK1.out; omega
       case rel => exact ⟨(wrap64 (x6_1 + 1)), (y152), (.slice Ao21 y152.length co21), (by first | rfl | (simp; done) | (simp [*]; done)), H', ⟨by have := HK1.out; omega⟩, ⟨by (with_reducible repeat first | apply rA | apply rN | apply rD); exact Kd.R_mono (Kd.R_far (p := ⟨gb149, 0, none⟩) (Kd.R_types HO154.out BK149.out (by decide)) (fun _ hk => hk.2) (.slice Ao21 y152.length co21)) (fun _ hk => trivial)⟩, ⟨by refine nB ?_; refine blk_far ?_ NB147_149.out _; exact nB BK147.out⟩, ⟨by refine nB ?_; refine blk_far ?_ NB148_149.out _; exact nB BK148.out⟩, ⟨by refine nB ?_; refine blk_put (cs := #[u150000]) ?_ 0 _ rfl; exact nB BK149.out⟩, ⟨uL HB⟩⟩
      ·rw [if_neg c15] at H
       exact absurd H (by simp)
    ·rw [if_neg c10] at H
     exact absurd H (by simp)
   ·rw [if_neg c9] at H
    have c9b0 : decide (x6_1 < (l0_0.length : Int)) = false := decide_eq_false c9
    clear c9
    obtain rfl := Option.some.inj H
    have hnb23 := NB147_148.out; have hnc23 := NB148_147.out; have hnb24 := NB147_149.out; have hnc24 := NB149_147.out
    have hcz25_0 := czA BK147.out 0 (.slice A0_0 l0_0.length c0_0)
    have hfz25_0 := blk_frozen BK147.out 0; have hnb26 := NB149_148.out; have hnc26 := NB148_149.out
    have hcz27_0 := czA BK149.out 0 (u150000)
    have hfz27_0 := blk_frozen BK149.out 0
    obtain ⟨Ao28, co28, eo28⟩ := Kd.R_slice HO_150000.out
    subst eo28
    have hcz29_0 := czA BK148.out 0 (.slice none 0 0)
    have hfz29_0 := blk_frozen BK148.out 0
    go_wp2
    refine bodyPost_ret (results_cell_row rfl _ _ gb148 30 #[.slice Ao28 x150000_1.length co28] (0, 0) _ rfl (by refine nB ?_; refine blk_put (cs := #[.slice none 0 0]) ?_ 0 _ rfl; exact nB BK148.out) Try.underlying30 rfl (by kernel_rfl)) rfl ?_
    exact ⟨_, by first | rfl | (simp [errW_none, errW_some] <;> rfl) | (simp [*, errW_none, errW_some] <;> rfl), by (with_reducible repeat first | apply rA | apply rN | apply rD); exact Kd.R_mono (Kd.R_far (p := ⟨gb148, 0, none⟩) (Kd.R_types HO_150000.out BK148.out (by decide)) (fun _ hk => hk.2) (.slice Ao28 x150000_1.length co28)) (fun _ hk => trivial), uL HB⟩

end Go.Proofs.Ytidfhfaekdahpaa.QFnActs
