-- Own work (wip/turnprint.py over the kit's print).
import Derived.Test.YtidfhfaekdahpaaQFnActsx0
import Derived.Test.YtidfhfaekdahpaaQFnActsx11
namespace Go.Proofs.Ytidfhfaekdahpaa.QFnActs
open Go.RowKit Go.Proofs.YtidfhfaekdahpaaW.PrintWords Go.Proofs.YtidfhfaekdahpaaW.PrintLast Go.Proofs.YtidfhfaekdahpaaW.PrintMore
attribute [local go_sem] max2_int min2_int max_two min_two max_three min_three max_four min_four   -- for this text's walks alone
set_option linter.unusedVariables false
set_option linter.unusedSimpArgs false

/-! ### spec_DoActs: function 42 -/
def spec_DoActs.l0 : Nat → List (S55) → Int → List (S45) → Option ((List (S45)) × Int)
 | 0, _, _, _ => none
 | k + 1, x1, x7, x193000 => if x7 < (x1.length : Int) then (if 0 ≤ x7 then ((spec_DoAct.f k x193000 ((rd_T55 x1 x7).f0) ((rd_T55 x1 x7).f1) ((rd_T55 x1 x7).f2) ((rd_T55 x1 x7).f3)).bind fun bt194 => (if bt194.2 = true then (spec_DoActs.l0 k x1 (wrap64 (x7 + 1)) bt194.1) else (some (x193000, x7)))) else (none)) else (some (x193000, (x1.length : Int)))
def spec_DoActs.f (k : Nat) (l0_0 : List (S45)) (l1 : List (S55)) : Option ((List (S45)) × Int) := (some (([] : List (S45)) : List (S45))).bind fun y186 => (if y186.length + l0_0.length < 3518437208883 then (spec_DoActs.l0 k l1 0 (y186 ++ l0_0)) else (none))
theorem spec_DoActs.mono_l : ∀ k, (∀ y0 y1 y2, LeO (spec_DoActs.l0 k y0 y1 y2) (spec_DoActs.l0 (k + 1) y0 y1 y2))
 | 0 => fun _ _ _ r h => by simp [spec_DoActs.l0] at h
 | k + 1 => by
  have ih0 := spec_DoActs.mono_l k
  ·intro y0 y1 y2
   unfold spec_DoActs.l0
   repeat' first
   | (with_reducible exact ih0 _ _ _)
   | (with_reducible exact spec_DoAct.mono _ _ _ _ _ _)
   | (with_reducible exact LeO.refl _)
   | (with_reducible exact LeO.none _)
   | (with_reducible refine LeO.ite ?_ ?_)
   | (with_reducible refine LeO.bind ?_ (fun _ => ?_))
   | exact ih0 _ _ _
   | exact spec_DoAct.mono _ _ _ _ _ _
   | exact LeO.none _
   | refine LeO.ite ?_ ?_
   | refine LeO.bind ?_ (fun _ => ?_)
theorem spec_DoActs.mono : ∀ a0 a1 k, LeO (spec_DoActs.f k a0 a1) (spec_DoActs.f (k + 1) a0 a1) := by
 intro a0 a1 k
 have ih0 := spec_DoActs.mono_l k
 unfold spec_DoActs.f
 repeat' first
  | (with_reducible exact ih0 _ _ _)
  | (with_reducible exact spec_DoAct.mono _ _ _ _ _ _)
  | (with_reducible exact LeO.refl _)
  | (with_reducible exact LeO.none _)
  | (with_reducible refine LeO.ite ?_ ?_)
  | (with_reducible refine LeO.bind ?_ (fun _ => ?_))
  | exact ih0 _ _ _
  | exact spec_DoAct.mono _ _ _ _ _ _
  | exact LeO.none _
  | refine LeO.ite ?_ ?_
  | refine LeO.bind ?_ (fun _ => ?_)
def spec_DoActs.T5 : Bool × List (List Nat × List Nat) := (true, [([], []), ([], []), ([], []), ([1, 2], [1, 2]), ([3], [3]), ([0, 4], [0, 4]), ([5], [5]), ([6], [6]), ([6], [6]), ([], []), ([9, 7, 5, 0, 1, 2, 3, 4, 5, 6, 7, 9], [7, 9]), ([8, 10, 0, 1, 2, 3, 4, 5, 6, 7, 8, 9, 10], [8])])
def spec_DoActs.B5 : List Nat := [0, 0, 0, 6, 14, 31, 63, 127, 127, 0, 767, 2047]
theorem spec_DoActs.tab5 : rtab .any (opsOf Try.f42 5) = spec_DoActs.T5 := by kernel_rfl
theorem spec_DoActs.bits5 : waitsOk spec_DoActs.T5.2 spec_DoActs.B5 = true := by kernel_rfl
set_option maxHeartbeats 8000000 in
set_option maxRecDepth 100000 in
theorem spec_DoActs.calls (k : Nat) (A0_0 : Option Addr) (c0_0 : Nat) (l0_0 : List (S45)) (A1 : Option Addr) (c1 : Nat) (l1 : List (S55)) (r1 : List (S45)) (r2 : Int) (w : World) (hr0_0 : Kd.C k45 w A0_0 l0_0.length l0_0) (hc0_0 : l0_0.length ≤ c0_0) (hr1 : Kd.C k55 w A1 l1.length l1) (hc1 : l1.length ≤ c1) (h : spec_DoActs.f k l0_0 l1 = some (r1, r2)) :
 Calls Try.prog 42 #[.agg #[.slice A0_0 l0_0.length c0_0], .slice A1 l1.length c1] w fun e w' => ∃ v0_ : Value, e = .returned (.tuple #[.agg #[v0_], .int .i64 r2]) ∧ Kd.R k45 45 w' w.heap.size (fun _ => True) v0_ r1 ∧ Below w.heap.size w w' := by
 have hu30 := Try.underlying30
 have hu55 := Try.underlying55
 have HR0_0 := aM hr0_0
 have HC0_0 := aM hc0_0
 clear hr0_0 hc0_0
 have HR1 := aM hr1
 have HC1 := aM hc1
 clear hr1 hc1
 have HB := aM (Below.refl w.heap.size w)
 have H : ((some (([] : List (S45)) : List (S45))).bind fun y186 => (if y186.length + l0_0.length < 3518437208883 then (spec_DoActs.l0 k l1 0 (y186 ++ l0_0)) else (none))) = some (r1, r2) := h
 clear h
 obtain ⟨y186, hy186⟩ : ∃ y_ : List (S45), y_ = (([] : List (S45))) := ⟨_, rfl⟩
 replace H : (if y186.length + l0_0.length < 3518437208883 then (spec_DoActs.l0 k l1 0 (y186 ++ l0_0)) else (none)) = some (r1, r2) := by first | (rw [hy186]; with_reducible exact H) | (have H2_ := (Option.bind_some _ _).symm.trans H; rw [hy186]; with_reducible exact H2_) | (have H2_ := (Option.bind_some _ _).symm.trans H; with_reducible exact H2_) | with_reducible exact H | (rw [hy186]; exact H) | exact H
 have Ny186 := aM hy186
 clear hy186
 by_cases c3 : y186.length + l0_0.length < 3518437208883
 ·rw [if_pos c3] at H
  have LMc3 := aM c3
  clear c3
  obtain ⟨y189, hy189⟩ : ∃ y_ : List (S45), y_ = (y186 ++ l0_0) := ⟨_, rfl⟩
  replace H : (spec_DoActs.l0 k l1 0 y189) = some (r1, r2) := by first | (rw [hy189]; with_reducible exact H) | (have H2_ := (Option.bind_some _ _).symm.trans H; rw [hy189]; with_reducible exact H2_) | (have H2_ := (Option.bind_some _ _).symm.trans H; with_reducible exact H2_) | with_reducible exact H | (rw [hy189]; exact H) | exact H
  have Ny189 := aM hy189
  clear hy189
  have H' := aM H
  clear H
  go_enter Try.func42, Try.ntmps42
  go_wp2_with (first | ((with_reducible refine gate_dst (N := 2) rfl ?_); refine bxE 2 #[.slice A0_0 l0_0.length c0_0] 30 ?_; intro gb184 hg w4 hbox hb; have BK184 := aM (hbox); have GW184 := szG hg (uL HB); have GE184 := szG hg (uL HB); replace HB := aM (below_step (uL HB) hb); clear hb hbox hg) | ((with_reducible refine gate_dst (N := 4) rfl ?_); refine bxE 4 #[.slice none 0 0] 30 ?_; intro gb185 hg w5 hbox hb; have BK185 := aM (hbox); have GW185 := szG hg (uL HB); have GE185 := szG hg (uL HB); have NB184_185 := neL hg BK184; have NB185_184 := neG hg BK184; replace BK184 := blkB BK184 hb; replace HB := aM (below_step (uL HB) hb); clear hb hbox hg) | ((with_reducible refine gate_dst (N := 10) rfl ?_); refine Kd.R_lit k45 _ 45 ?hg (N := 10) ?hd (xs := ([] : List (S45))) (inner := []) (ok := fun _ => True) (okp := fun _ => True) ?hr ?hp (fun _ hk => hk) trivial (Below.refl _ _) (Nat.le_refl _) (by simp) ?_; (case hd => rfl); (case hg => rfl); (case hr => first | (go_simp; done) | (go_simp; rfl)); (case hp => exact (Reps.none _ _)); intro v187 w6 ho7 hb hg_ hnew_; clear hg_ hnew_; (first | rw [← Ny186.out] at ho7 | (simp only [Int.reduceToNat] at ho7; rw [← Ny186.out] at ho7)); have HO188 := aM (Kd.R_lower ho7 (below_size (uL HB))); replace BK184 := blkB BK184 hb; replace BK185 := blkB BK185 hb; replace HB := aM (below_step (uL HB) hb); clear hb ho7; have hnb8 := NB184_185.out; have hnc8 := NB185_184.out; have hcz9_0 := czA BK184.out 0 (.slice A0_0 l0_0.length c0_0); have hfz9_0 := blk_frozen BK184.out 0) | ((with_reducible refine gate_builtin (b := .append) (xs := #[.tmp 10, .tmp 12]) rfl ?_); at_builtin; refine Kd.R_append_rows k45 (w0 := w) w.heap.size rfl (.tmp 10) (.tmp 12) 28 45 (.agg #[(.string ⟨#[]⟩), (.string ⟨#[]⟩), (.int .i64 0)]) 40 rfl Try.underlying28 info45 rfl (by decide) (by omega) v187 y186 l0_0 _ _ _ (fun _ => True) (fun _ => False) rfl rfl ?aO ?aR (fun _ _ h => h) (fun _ h => h.elim) ?aF ?aB ?aS ?aL ?_; (case aR => repeat (first | exact (Kd.C_below HR0_0.out HB.out) | (with_reducible refine cA ?_ _) | (with_reducible refine cN ?_ _) | (with_reducible refine cD ?_))); (case aB => exact (uL HB)); (case aF => exact (fun _ _ => trivial)); (case aO => exact (uR HO188)); (case aS => exact (below_size (uL HB))); (case aL => have := LMc3.out; omega); intro v190 w10 ho hb hg hat; rw [← Ny189.out] at ho; have HO191 := aM (ho); replace BK184 := aM (blk_grown (g := gb184) (o := .cells #[.slice A0_0 l0_0.length c0_0] 30 (0, 0)) (uB BK184) hg (Kd.R_ne HO188.out BK184.out (by decide))); replace BK185 := aM (blk_grown (g := gb185) (o := .cells #[.slice none 0 0] 30 (0, 0)) (uB BK185) hg (Kd.R_ne HO188.out BK185.out (by decide))); replace HB := aM (hb); clear HO188; clear ho hb hg hat; obtain ⟨Ao11, co11, eo11⟩ := Kd.R_slice HO191.out; subst eo11) | ((with_reducible refine gate_dst (N := 6) rfl ?_); refine bxE 6 #[.slice none 0 0] 30 ?_; intro gb192 hg w12 hbox hb; have BK192 := aM (hbox); have GW192 := szG hg (uL HB); have GE192 := szG hg (uL HB); have NB184_192 := neL hg BK184; have NB192_184 := neG hg BK184; have NB185_192 := neL hg BK185; have NB192_185 := neG hg BK185; replace HO191 := aM (Kd.R_below (uR HO191) hb); replace BK184 := blkB BK184 hb; replace BK185 := blkB BK185 hb; replace HB := aM (below_step (uL HB) hb); clear hb hbox hg; have hnb13 := NB192_184.out; have hnc13 := NB184_192.out; have hnb14 := NB192_185.out; have hnc14 := NB185_192.out; have hcz15_0 := czA BK192.out 0 (.slice none 0 0); have hfz15_0 := blk_frozen BK192.out 0))
  go_loopg [7] k (fun kq v7 w' => ∃ (x7_1 : Int) (x193000_1 : List (S45)) (u193000 : Value), v7 = .int .i64 x7_1 ∧ Aside0 (spec_DoActs.l0 kq l1 x7_1 x193000_1 = some (r1, r2)) ∧ Aside0 (kq ≤ k) ∧ Aside0 (Kd.R k45 45 w' w.heap.size (fun _ => True) u193000 x193000_1) ∧ Aside0 (w'.heap[gb184]? = some (.cells #[(.slice A0_0 l0_0.length c0_0)] 30 (0, 0))) ∧ Aside0 (w'.heap[gb185]? = some (.cells #[(.slice none 0 0)] 30 (0, 0))) ∧ Aside0 (w'.heap[gb192]? = some (.cells #[u193000] 30 (0, 0))) ∧ Aside0 (Below w.heap.size w w'))
  case atStart => exact ⟨(0), (y189), (.slice Ao11 y189.length co11), (by first | rfl | (simp; done) | (simp [*]; done)), H', ⟨Nat.le_refl _⟩, ⟨by (with_reducible repeat first | apply rA | apply rN | apply rD); exact Kd.R_mono (Kd.R_far (p := ⟨gb192, 0, none⟩) (Kd.R_types HO191.out BK192.out (by decide)) (fun _ hk => hk.2) (.slice Ao11 y189.length co11)) (fun _ hk => trivial)⟩, ⟨by refine nB ?_; refine blk_far ?_ NB184_192.out _; exact nB BK184.out⟩, ⟨by refine nB ?_; refine blk_far ?_ NB185_192.out _; exact nB BK185.out⟩, ⟨by refine nB ?_; refine blk_put (cs := #[.slice none 0 0]) ?_ 0 _ rfl; exact nB BK192.out⟩, ⟨uL HB⟩⟩
  case round =>
   clear H'
   try clear c1; try clear p2; try clear c3; try clear c4; try clear c8; try clear c13; try clear c14; try clear hcz15_0; try clear hcz9_0; try clear hfz15_0; try clear hfz9_0
   obtain ⟨x7_1, x193000_1, u193000, rfl, HA, HK1, HO_193000, BK184, BK185, BK192, HB⟩ := hrel
   cases gk with
   | zero => exact absurd HA.out (by simp [spec_DoActs.l0])
   | succ k1 =>
    have H := HA.out
    clear HA
    simp only [spec_DoActs.l0] at H
    by_cases c16 : x7_1 < (l1.length : Int)
    ·rw [if_pos c16] at H
     have c16b0 : decide (x7_1 < (l1.length : Int)) = true := decide_eq_true c16
     clear c16
     by_cases c17 : 0 ≤ x7_1
     ·rw [if_pos c17] at H
      have c17b0 : decide (0 ≤ x7_1) = true := decide_eq_true c17
      clear c17
      replace H := Option.bind_eq_some_iff.mp H
      obtain ⟨⟨t194, t197⟩, A180, H⟩ := H
      replace H : (if t197 = true then (spec_DoActs.l0 k1 l1 (wrap64 (x7_1 + 1)) t194) else (some (x193000_1, x7_1))) = some (r1, r2) := H
      have A18 := aM A180
      clear A180
      by_cases c19 : t197 = true
      ·subst c19
       have H1 : (spec_DoActs.l0 k1 l1 (wrap64 (x7_1 + 1)) t194) = some (r1, r2) := by rw [if_pos rfl] at H; exact H
       clear H; have H := H1; clear H1
       have H' := aM H
       clear H
       obtain ⟨Ao20, co20, eo20⟩ := Kd.R_slice HO_193000.out
       subst eo20
       try go_wp2
       replace HO_193000 := aM (Kd.R_drew HO_193000.out)
       replace BK184 := aM (blk_drew BK184.out)
       replace BK185 := aM (blk_drew BK185.out)
       replace BK192 := aM (blk_drew BK192.out)
       replace HB := aM (below_drew1 HB.out)
       have p193 : 0 ≤ (x7_1 : Int) := of_decide_eq_true (by first | (with_reducible assumption) | assumption)
       have q193 : x7_1 < (l1.length : Int) := of_decide_eq_true (by first | (with_reducible assumption) | assumption)
       obtain ⟨ad193, e193, hx193_0, hx193_1, hx193_2, hx193_3⟩ := at_T55 HR1.out x7_1 p193 q193
       have hw193_3 := hx193_3; have hw193_2 := hx193_2; have hw193_1 := hx193_1; have hw193_0 := hx193_0
       cases e193
       replace hx193_0 := hxB HB hx193_0; replace hx193_1 := hxB HB hx193_1; replace hx193_2 := hxB HB hx193_2; replace hx193_3 := hxB HB hx193_3; replace p193 := eq_true p193; replace q193 := eq_true q193
       refine start_ (n := 12) (S := fun w' => w'.cell? ⟨gb192, 0, none⟩ = some (.slice Ao20 x193000_1.length co20) ∧ w'.cell? (ad193.add ((x7_1).toNat * 4)) = some (.int .i64 ((rd_T55 l1 x7_1).f0)) ∧ w'.cell? ⟨(ad193.add ((x7_1).toNat * 4)).block, (ad193.add ((x7_1).toNat * 4)).off + 1, none⟩ = some (.string ((rd_T55 l1 x7_1).f1)) ∧ w'.cell? ⟨(ad193.add ((x7_1).toNat * 4)).block, (ad193.add ((x7_1).toNat * 4)).off + 2, none⟩ = some (.string ((rd_T55 l1 x7_1).f2)) ∧ w'.cell? ⟨(ad193.add ((x7_1).toNat * 4)).block, (ad193.add ((x7_1).toNat * 4)).off + 3, none⟩ = some (.string ((rd_T55 l1 x7_1).f3))) (ds := []) (bB 12 0) (by kernel_rfl) rfl rfl ⟨(blk_cell BK192.out 0).trans rfl, (hyB HB hw193_0), (hyB HB hw193_1), (hyB HB hw193_2), (hyB HB hw193_3)⟩ (fun hHeld => ?_); refine with_tabW spec_DoActs.tab5 spec_DoActs.bits5 (fun HT_ HW_ => ?_)
       generalize wr.drew = w21 at HO_193000 BK184 BK185 BK192 HB hx193_0 hx193_1 hx193_2 hx193_3 hHeld ⊢
       refine pA HT_.out 1 23 12 2 ?_; refine pA HT_.out 2 24 12 6 ?_; refine pA HT_.out 3 25 12 14 ?_; refine tA HT_.out HW_.out 0 22 12 15 hHeld ?_; refine tA HT_.out HW_.out 4 26 12 31 hHeld ?_
       refine join_ (σ := Value × Nat) 2 #[true, true, true, true, true, true, true, true, true, true, false, false] (fun s_ => [(27, .tuple #[.agg #[s_.1], .bool true]), (8, .pointer (some ⟨s_.2, 0, none⟩)), (21, .tuple #[.agg #[s_.1], .bool true]), (28, .agg #[s_.1]), (29, .bool true)]) (fun s_ w' => (w'.cell? ⟨gb192, 0, none⟩ = some (.slice Ao20 x193000_1.length co20) ∧ w'.cell? (ad193.add ((x7_1).toNat * 4)) = some (.int .i64 ((rd_T55 l1 x7_1).f0)) ∧ w'.cell? ⟨(ad193.add ((x7_1).toNat * 4)).block, (ad193.add ((x7_1).toNat * 4)).off + 1, none⟩ = some (.string ((rd_T55 l1 x7_1).f1)) ∧ w'.cell? ⟨(ad193.add ((x7_1).toNat * 4)).block, (ad193.add ((x7_1).toNat * 4)).off + 2, none⟩ = some (.string ((rd_T55 l1 x7_1).f2)) ∧ w'.cell? ⟨(ad193.add ((x7_1).toNat * 4)).block, (ad193.add ((x7_1).toNat * 4)).off + 3, none⟩ = some (.string ((rd_T55 l1 x7_1).f3))) ∧ (Kd.R k45 45 w' w.heap.size (fun k_ => some k_ ≠ (.slice Ao20 x193000_1.length co20 : Value).ownBlock) s_.1 t194) ∧ (Kd.R k45 45 w' w.heap.size (fun k_ => some k_ ≠ (s_.1 : Value).ownBlock) (.slice Ao20 x193000_1.length co20) x193000_1) ∧ (w'.heap[gb184]? = some (.cells #[.slice A0_0 l0_0.length c0_0] 30 (0, 0))) ∧ (w'.heap[gb185]? = some (.cells #[.slice none 0 0] 30 (0, 0))) ∧ (w'.heap[gb192]? = some (.cells #[.slice Ao20 x193000_1.length co20] 30 (0, 0))) ∧ (w'.heap[s_.2]? = some (.cells #[.slice none 0 0] 30 (0, 0))) ∧ (w.heap.size ≤ s_.2) ∧ (w.heap.size ≤ s_.2) ∧ (gb184 ≠ s_.2) ∧ (s_.2 ≠ gb184) ∧ (gb185 ≠ s_.2) ∧ (s_.2 ≠ gb185) ∧ (gb192 ≠ s_.2) ∧ (s_.2 ≠ gb192) ∧ (Below w.heap.size w w')) ?_ ?_
       rotate_left
       ·intro hCont
        refine two_ (i := 5) (j := 9) (Ni := some 27) (Nj := some 8) #[true, true, true, true, true, true, false, false, false, false, false, false] #[true, true, true, true, true, false, false, false, false, true, false, false] rfl rfl rfl rfl (two_of HT_.out (by kernel_rfl)) (by decide) (by decide) (fun K hK => ?_) (fun K hK => ?_)
        ·skip
         refine gX Try.func38 #[.agg #[.slice Ao20 x193000_1.length co20], .agg #[.int .i64 ((rd_T55 l1 x7_1).f0), .string ((rd_T55 l1 x7_1).f1), .string ((rd_T55 l1 x7_1).f2), .string ((rd_T55 l1 x7_1).f3)]] ?_
         with_reducible refine (spec_DoAct.calls k1 _ _ x193000_1 ((rd_T55 l1 x7_1).f0) ((rd_T55 l1 x7_1).f1) ((rd_T55 l1 x7_1).f2) ((rd_T55 l1 x7_1).f3) t194 true _ ?side1 ?side2 A18.out).mono ?_
         (case side1 => repeat (first | exact (Kd.R_reads' HO_193000.out).2.2 | (with_reducible refine cA ?_ _) | (with_reducible refine cN ?_ _) | (with_reducible refine cD ?_)))
         (case side2 => exact (Kd.R_reads' HO_193000.out).2.1)
         rintro e w22 ⟨v195, rfl, ho0, hb⟩
         refine ⟨_, rfl, ?_⟩
         have HO196 := aM (Kd.R_lower (Kd.R_new' ho0 (Kd.R_lt (uR HO_193000))) (below_size (uL HB)))
         replace HO_193000 := aM (Kd.R_elder' (uR HO_193000) (Kd.R_base ho0) hb)
         replace BK184 := blkB BK184 hb
         replace BK185 := blkB BK185 hb
         replace BK192 := blkB BK192 hb
         replace HB := aM (below_step (uL HB) hb)
         (try clear hb)
         (try clear hb2)
         (try clear hk)
         (try clear hi)
         (try clear ho0)
         refine hK.out _ _ ⟨(blk_cell BK192.out 0).trans rfl, (hyB HB hw193_0), (hyB HB hw193_1), (hyB HB hw193_2), (hyB HB hw193_3)⟩ (fun hHeld => ?_)
         clear hK K
         refine nX 27 ?_; refine pA HT_.out 6 21 12 127 ?_; refine pA HT_.out 7 28 12 255 ?_; refine pA HT_.out 8 29 12 511 ?_
         refine oA HT_.out 9 (some 8) 12 1023 (fun K hK => ?_)
         refine bxS 8 #[.slice none 0 0] 30 ?_
         intro gb198 hg w23 hbox hb
         have n0_ := aM (Kd.R_below (uR HO_193000) hb); have n1_ := aM (Kd.R_below (uR HO196) hb); have n2_ := blkB BK184 hb; have n3_ := blkB BK185 hb; have n4_ := blkB BK192 hb
         have n5_ := aM (below_step (uL HB) hb)
         have n6_ := aM (hbox)
         have n7_ := szG hg (uL HB); have n8_ := szG hg (uL HB); have n9_ := neL hg BK184; have n10_ := neG hg BK184; have n11_ := neL hg BK185; have n12_ := neG hg BK185; have n13_ := neL hg BK192; have n14_ := neG hg BK192; clear HO_193000 HO196 BK184 BK185 BK192 HB; have HO_193000 := n0_; have HO196 := n1_; have BK184 := n2_; have BK185 := n3_; have BK192 := n4_; have HB := n5_; have BK198 := n6_; have GW198 := n7_; have GE198 := n8_; have NB184_198 := n9_; have NB198_184 := n10_; have NB185_198 := n11_; have NB198_185 := n12_; have NB192_198 := n13_; have NB198_192 := n14_; clear n0_ n1_ n2_ n3_ n4_ n5_ n6_ n7_ n8_ n9_ n10_ n11_ n12_ n13_ n14_ hb hbox hg
         refine hK.out _ _ ⟨(blk_cell BK192.out 0).trans rfl, (hyB HB hw193_0), (hyB HB hw193_1), (hyB HB hw193_2), (hyB HB hw193_3)⟩ (fun hHeld => ?_)
         clear hK K
         refine nX 8 ?_
         exact norm_ (by simp only [putAll, Act.put, List.setIfInBounds_toArray, List.set_cons_zero, List.set_cons_succ]) (hCont (v195, gb198) _ ⟨hHeld, (by (with_reducible repeat first | apply rA | apply rN | apply rD); exact Kd.R_mono HO196.out (fun _ hk => hk.2)), (by (with_reducible repeat first | apply rA | apply rN | apply rD); exact Kd.R_mono HO_193000.out (fun _ hk => hk.2)), (uB BK184), (uB BK185), (uB BK192), (uB BK198), GW198.out, GE198.out, NB184_198.out, NB198_184.out, NB185_198.out, NB198_185.out, NB192_198.out, NB198_192.out, (uL HB)⟩)
        ·skip
         refine bxS 8 #[.slice none 0 0] 30 ?_
         intro gb198 hg w22 hbox hb
         have n0_ := aM (Kd.R_below (uR HO_193000) hb); have n1_ := blkB BK184 hb; have n2_ := blkB BK185 hb; have n3_ := blkB BK192 hb
         have n4_ := aM (below_step (uL HB) hb)
         have n5_ := aM (hbox)
         have n6_ := szG hg (uL HB); have n7_ := szG hg (uL HB); have n8_ := neL hg BK184; have n9_ := neG hg BK184; have n10_ := neL hg BK185; have n11_ := neG hg BK185; have n12_ := neL hg BK192; have n13_ := neG hg BK192; clear HO_193000 BK184 BK185 BK192 HB; have HO_193000 := n0_; have BK184 := n1_; have BK185 := n2_; have BK192 := n3_; have HB := n4_; have BK198 := n5_; have GW198 := n6_; have GE198 := n7_; have NB184_198 := n8_; have NB198_184 := n9_; have NB185_198 := n10_; have NB198_185 := n11_; have NB192_198 := n12_; have NB198_192 := n13_; clear n0_ n1_ n2_ n3_ n4_ n5_ n6_ n7_ n8_ n9_ n10_ n11_ n12_ n13_ hb hbox hg
         refine hK.out _ _ ⟨(blk_cell BK192.out 0).trans rfl, (hyB HB hw193_0), (hyB HB hw193_1), (hyB HB hw193_2), (hyB HB hw193_3)⟩ (fun hHeld => ?_)
         clear hK K
         refine nX 8 ?_
         refine oA HT_.out 5 (some 27) 12 575 (fun K hK => ?_)
         refine gX Try.func38 #[.agg #[.slice Ao20 x193000_1.length co20], .agg #[.int .i64 ((rd_T55 l1 x7_1).f0), .string ((rd_T55 l1 x7_1).f1), .string ((rd_T55 l1 x7_1).f2), .string ((rd_T55 l1 x7_1).f3)]] ?_
         with_reducible refine (spec_DoAct.calls k1 _ _ x193000_1 ((rd_T55 l1 x7_1).f0) ((rd_T55 l1 x7_1).f1) ((rd_T55 l1 x7_1).f2) ((rd_T55 l1 x7_1).f3) t194 true _ ?side1 ?side2 A18.out).mono ?_
         (case side1 => repeat (first | exact (Kd.R_reads' HO_193000.out).2.2 | (with_reducible refine cA ?_ _) | (with_reducible refine cN ?_ _) | (with_reducible refine cD ?_)))
         (case side2 => exact (Kd.R_reads' HO_193000.out).2.1)
         rintro e w23 ⟨v195, rfl, ho0, hb⟩
         refine ⟨_, rfl, ?_⟩
         have HO196 := aM (Kd.R_lower (Kd.R_new' ho0 (Kd.R_lt (uR HO_193000))) (below_size (uL HB)))
         replace HO_193000 := aM (Kd.R_elder' (uR HO_193000) (Kd.R_base ho0) hb)
         replace BK184 := blkB BK184 hb
         replace BK185 := blkB BK185 hb
         replace BK192 := blkB BK192 hb
         replace BK198 := blkB BK198 hb
         replace HB := aM (below_step (uL HB) hb)
         (try clear hb)
         (try clear hb2)
         (try clear hk)
         (try clear hi)
         (try clear ho0)
         refine hK.out _ _ ⟨(blk_cell BK192.out 0).trans rfl, (hyB HB hw193_0), (hyB HB hw193_1), (hyB HB hw193_2), (hyB HB hw193_3)⟩ (fun hHeld => ?_)
         clear hK K
         refine nX 27 ?_; refine pA HT_.out 6 21 12 639 ?_; refine pA HT_.out 7 28 12 767 ?_; refine pA HT_.out 8 29 12 1023 ?_
         exact norm_ (by simp only [putAll, Act.put, List.setIfInBounds_toArray, List.set_cons_zero, List.set_cons_succ]) (hCont (v195, gb198) _ ⟨hHeld, (by (with_reducible repeat first | apply rA | apply rN | apply rD); exact Kd.R_mono HO196.out (fun _ hk => hk.2)), (by (with_reducible repeat first | apply rA | apply rN | apply rD); exact Kd.R_mono HO_193000.out (fun _ hk => hk.2)), (uB BK184), (uB BK185), (uB BK192), (uB BK198), GW198.out, GE198.out, NB184_198.out, NB198_184.out, NB185_198.out, NB198_185.out, NB192_198.out, NB198_192.out, (uL HB)⟩)
       rintro ⟨v195, gb198⟩ w24 ⟨hS_, h0_, h1_, h2_, h3_, h4_, h5_, h6_, h7_, h8_, h9_, h10_, h11_, h12_, h13_, h14_⟩
       have n0_ : Aside0 (Kd.R k45 45 w24 w.heap.size (fun k_ => some k_ ≠ (.slice Ao20 x193000_1.length co20 : Value).ownBlock) v195 t194) := ⟨h0_⟩
       have n1_ : Aside0 (Kd.R k45 45 w24 w.heap.size (fun k_ => some k_ ≠ (v195 : Value).ownBlock) (.slice Ao20 x193000_1.length co20) x193000_1) := ⟨h1_⟩
       have n2_ : Aside0 (w24.heap[gb184]? = some (.cells #[.slice A0_0 l0_0.length c0_0] 30 (0, 0))) := ⟨h2_⟩
       have n3_ : Aside0 (w24.heap[gb185]? = some (.cells #[.slice none 0 0] 30 (0, 0))) := ⟨h3_⟩
       have n4_ : Aside0 (w24.heap[gb192]? = some (.cells #[.slice Ao20 x193000_1.length co20] 30 (0, 0))) := ⟨h4_⟩
       have n5_ : Aside0 (w24.heap[gb198]? = some (.cells #[.slice none 0 0] 30 (0, 0))) := ⟨h5_⟩
       have n6_ : Aside0 (w.heap.size ≤ gb198) := ⟨h6_⟩
       have n7_ : Aside0 (w.heap.size ≤ gb198) := ⟨h7_⟩
       have n8_ : Aside0 (gb184 ≠ gb198) := ⟨h8_⟩
       have n9_ : Aside0 (gb198 ≠ gb184) := ⟨h9_⟩
       have n10_ : Aside0 (gb185 ≠ gb198) := ⟨h10_⟩
       have n11_ : Aside0 (gb198 ≠ gb185) := ⟨h11_⟩
       have n12_ : Aside0 (gb192 ≠ gb198) := ⟨h12_⟩
       have n13_ : Aside0 (gb198 ≠ gb192) := ⟨h13_⟩
       have n14_ : Aside0 (Below w.heap.size w w24) := ⟨h14_⟩
       clear HO_193000 BK184 BK185 BK192 HB h0_ h1_ h2_ h3_ h4_ h5_ h6_ h7_ h8_ h9_ h10_ h11_ h12_ h13_ h14_; have HO196 := n0_; have HO_193000 := n1_; have BK184 := n2_; have BK185 := n3_; have BK192 := n4_; have BK198 := n5_; have GW198 := n6_; have GE198 := n7_; have NB184_198 := n8_; have NB198_184 := n9_; have NB185_198 := n10_; have NB198_185 := n11_; have NB192_198 := n12_; have NB198_192 := n13_; have HB := n14_; clear n0_ n1_ n2_ n3_ n4_ n5_ n6_ n7_ n8_ n9_ n10_ n11_ n12_ n13_ n14_
       have hHeld : w24.cell? ⟨gb192, 0, none⟩ = some (.slice Ao20 x193000_1.length co20) ∧ w24.cell? (ad193.add ((x7_1).toNat * 4)) = some (.int .i64 ((rd_T55 l1 x7_1).f0)) ∧ w24.cell? ⟨(ad193.add ((x7_1).toNat * 4)).block, (ad193.add ((x7_1).toNat * 4)).off + 1, none⟩ = some (.string ((rd_T55 l1 x7_1).f1)) ∧ w24.cell? ⟨(ad193.add ((x7_1).toNat * 4)).block, (ad193.add ((x7_1).toNat * 4)).off + 2, none⟩ = some (.string ((rd_T55 l1 x7_1).f2)) ∧ w24.cell? ⟨(ad193.add ((x7_1).toNat * 4)).block, (ad193.add ((x7_1).toNat * 4)).off + 3, none⟩ = some (.string ((rd_T55 l1 x7_1).f3)) := hS_
       obtain ⟨Ao25, co25, eo25⟩ := Kd.R_slice HO196.out
       (first | subst eo25 | (injection eo25 with f1_ f2_ f3_; have f4_ := f1_.symm; have f5_ := f3_.symm; clear f1_ f2_ f3_; subst f4_; subst f5_))
       refine norm_ (a' := ?_) ?_ ?_
       rotate_left
       ·simp only [putAll, Act.put, List.setIfInBounds_toArray, List.set_cons_zero, List.set_cons_succ]
        rfl
       refine oA HT_.out 10 none 12 2047 (fun K hK => ?_)
       have hs26 := czA BK198.out 0 (.slice none 0 0)
       have hfs26 := blk_frozen BK198.out 0; have hns26_0 := NB184_198.out; have hns26_1 := NB185_198.out; have hns26_2 := NB192_198.out; have hms26_0 := NB198_184.out; have hms26_1 := NB198_185.out; have hms26_2 := NB198_192.out
       refine skip_ (w1 := ?_) (by rfl) rfl ?_ ?_
       rotate_left
       ·go_simp
        rfl
       refine hK.out _ _ ⟨((cell_far (p := ⟨gb198, _, none⟩) NB192_198.out _).trans (hHeld.1)), ((cell_far (p := ⟨gb198, _, none⟩) (by first | exact Nat.ne_of_lt (Nat.lt_of_lt_of_le (by have := World.block_lt_of_cell? _ _ hw193_0; first | rwa [add_block] at this | exact this) GW198.out) | (rw [add_block]; exact Nat.ne_of_lt (Nat.lt_of_lt_of_le (by have := World.block_lt_of_cell? _ _ hw193_0; first | rwa [add_block] at this | exact this) GW198.out)) | (show (Addr.add _ _).block ≠ _; rw [add_block]; exact Nat.ne_of_lt (Nat.lt_of_lt_of_le (by have := World.block_lt_of_cell? _ _ hw193_0; first | rwa [add_block] at this | exact this) GW198.out)) | (dsimp only; exact Nat.ne_of_lt (Nat.lt_of_lt_of_le (by have := World.block_lt_of_cell? _ _ hw193_0; first | rwa [add_block] at this | exact this) GW198.out))) _).trans (hHeld.2.1)), ((cell_far (p := ⟨gb198, _, none⟩) (by first | exact Nat.ne_of_lt (Nat.lt_of_lt_of_le (by have := World.block_lt_of_cell? _ _ hw193_1; first | rwa [add_block] at this | exact this) GW198.out) | (rw [add_block]; exact Nat.ne_of_lt (Nat.lt_of_lt_of_le (by have := World.block_lt_of_cell? _ _ hw193_1; first | rwa [add_block] at this | exact this) GW198.out)) | (show (Addr.add _ _).block ≠ _; rw [add_block]; exact Nat.ne_of_lt (Nat.lt_of_lt_of_le (by have := World.block_lt_of_cell? _ _ hw193_1; first | rwa [add_block] at this | exact this) GW198.out)) | (dsimp only; exact Nat.ne_of_lt (Nat.lt_of_lt_of_le (by have := World.block_lt_of_cell? _ _ hw193_1; first | rwa [add_block] at this | exact this) GW198.out))) _).trans (hHeld.2.2.1)), ((cell_far (p := ⟨gb198, _, none⟩) (by first | exact Nat.ne_of_lt (Nat.lt_of_lt_of_le (by have := World.block_lt_of_cell? _ _ hw193_2; first | rwa [add_block] at this | exact this) GW198.out) | (rw [add_block]; exact Nat.ne_of_lt (Nat.lt_of_lt_of_le (by have := World.block_lt_of_cell? _ _ hw193_2; first | rwa [add_block] at this | exact this) GW198.out)) | (show (Addr.add _ _).block ≠ _; rw [add_block]; exact Nat.ne_of_lt (Nat.lt_of_lt_of_le (by have := World.block_lt_of_cell? _ _ hw193_2; first | rwa [add_block] at this | exact this) GW198.out)) | (dsimp only; exact Nat.ne_of_lt (Nat.lt_of_lt_of_le (by have := World.block_lt_of_cell? _ _ hw193_2; first | rwa [add_block] at this | exact this) GW198.out))) _).trans (hHeld.2.2.2.1)), ((cell_far (p := ⟨gb198, _, none⟩) (by first | exact Nat.ne_of_lt (Nat.lt_of_lt_of_le (by have := World.block_lt_of_cell? _ _ hw193_3; first | rwa [add_block] at this | exact this) GW198.out) | (rw [add_block]; exact Nat.ne_of_lt (Nat.lt_of_lt_of_le (by have := World.block_lt_of_cell? _ _ hw193_3; first | rwa [add_block] at this | exact this) GW198.out)) | (show (Addr.add _ _).block ≠ _; rw [add_block]; exact Nat.ne_of_lt (Nat.lt_of_lt_of_le (by have := World.block_lt_of_cell? _ _ hw193_3; first | rwa [add_block] at this | exact this) GW198.out)) | (dsimp only; exact Nat.ne_of_lt (Nat.lt_of_lt_of_le (by have := World.block_lt_of_cell? _ _ hw193_3; first | rwa [add_block] at this | exact this) GW198.out))) _).trans (hHeld.2.2.2.2))⟩ (fun hHeld => ?_)
       clear hK K
       refine pA HT_.out 11 9 12 4095 ?_
       refine done_ (done_of HT_.out (by kernel_rfl)) ?_
       have hnb27 := NB198_184.out; have hnc27 := NB184_198.out; have hnb28 := NB198_185.out; have hnc28 := NB185_198.out; have hnb29 := NB198_192.out; have hnc29 := NB192_198.out
       have hcz30_0 := czA BK198.out 0 (.slice none 0 0)
       have hfz30_0 := blk_frozen BK198.out 0; have hnb31 := NB192_184.out; have hnc31 := NB184_192.out; have hnb32 := NB192_185.out; have hnc32 := NB185_192.out
       have hcz33_0 := czA BK192.out 0 (.slice Ao20 x193000_1.length co20)
       have hfz33_0 := blk_frozen BK192.out 0
       try go_wp2
       go_roundg k1
       case measure => have := HK1.out; omega
       case rel => exact ⟨(wrap64 (x7_1 + 1)), (t194), (.slice Ao25 t194.length co25), (by first | rfl | (simp; done) | (simp [*]; done)), H', ⟨by have := HK1.out; omega⟩, ⟨by (with_reducible repeat first | apply rA | apply rN | apply rD); exact Kd.R_mono (Kd.R_far (p := ⟨gb192, 0, none⟩) (Kd.R_far (p := ⟨gb198, 0, none⟩) (Kd.R_types (Kd.R_types HO196.out BK198.out (by decide)) BK192.out (by decide)) (fun _ hk => hk.1.2) (.slice Ao25 t194.length co25)) (fun _ hk => hk.2) (.slice Ao25 t194.length co25)) (fun _ hk => trivial)⟩, ⟨by refine nB ?_; refine blk_far ?_ NB184_192.out _; refine nB ?_; refine blk_far ?_ NB184_198.out _; exact nB BK184.out⟩, ⟨by refine nB ?_; refine blk_far ?_ NB185_192.out _; refine nB ?_; refine blk_far ?_ NB185_198.out _; exact nB BK185.out⟩, ⟨by refine nB ?_; refine blk_put (cs := #[.slice Ao20 x193000_1.length co20]) ?_ 0 _ rfl; refine nB ?_; refine blk_far ?_ NB192_198.out _; exact nB BK192.out⟩, ⟨uL HB⟩⟩
      ·replace c19 := Bool.eq_false_iff.mpr c19
       subst c19
       have H1 : (some (x193000_1, x7_1)) = some (r1, r2) := by rw [if_neg (show ¬ (false = true) by decide)] at H; exact H
       clear H; have H := H1; clear H1
       simp only [Option.some.injEq, Prod.mk.injEq] at H
       obtain ⟨rfl, rfl⟩ := H
       obtain ⟨Ao34, co34, eo34⟩ := Kd.R_slice HO_193000.out
       subst eo34
       try go_wp2
       replace HO_193000 := aM (Kd.R_drew HO_193000.out)
       replace BK184 := aM (blk_drew BK184.out)
       replace BK185 := aM (blk_drew BK185.out)
       replace BK192 := aM (blk_drew BK192.out)
       replace HB := aM (below_drew1 HB.out)
       have p193 : 0 ≤ (x7_1 : Int) := of_decide_eq_true (by first | (with_reducible assumption) | assumption)
       have q193 : x7_1 < (l1.length : Int) := of_decide_eq_true (by first | (with_reducible assumption) | assumption)
       obtain ⟨ad193, e193, hx193_0, hx193_1, hx193_2, hx193_3⟩ := at_T55 HR1.out x7_1 p193 q193
       have hw193_3 := hx193_3; have hw193_2 := hx193_2; have hw193_1 := hx193_1; have hw193_0 := hx193_0
       cases e193
       replace hx193_0 := hxB HB hx193_0; replace hx193_1 := hxB HB hx193_1; replace hx193_2 := hxB HB hx193_2; replace hx193_3 := hxB HB hx193_3; replace p193 := eq_true p193; replace q193 := eq_true q193
       refine start_ (n := 12) (S := fun w' => w'.cell? ⟨gb192, 0, none⟩ = some (.slice Ao34 x193000_1.length co34) ∧ w'.cell? (ad193.add ((x7_1).toNat * 4)) = some (.int .i64 ((rd_T55 l1 x7_1).f0)) ∧ w'.cell? ⟨(ad193.add ((x7_1).toNat * 4)).block, (ad193.add ((x7_1).toNat * 4)).off + 1, none⟩ = some (.string ((rd_T55 l1 x7_1).f1)) ∧ w'.cell? ⟨(ad193.add ((x7_1).toNat * 4)).block, (ad193.add ((x7_1).toNat * 4)).off + 2, none⟩ = some (.string ((rd_T55 l1 x7_1).f2)) ∧ w'.cell? ⟨(ad193.add ((x7_1).toNat * 4)).block, (ad193.add ((x7_1).toNat * 4)).off + 3, none⟩ = some (.string ((rd_T55 l1 x7_1).f3))) (ds := []) (bB 12 0) (by kernel_rfl) rfl rfl ⟨(blk_cell BK192.out 0).trans rfl, (hyB HB hw193_0), (hyB HB hw193_1), (hyB HB hw193_2), (hyB HB hw193_3)⟩ (fun hHeld => ?_); refine with_tabW spec_DoActs.tab5 spec_DoActs.bits5 (fun HT_ HW_ => ?_)
       generalize wr.drew = w35 at HO_193000 BK184 BK185 BK192 HB hx193_0 hx193_1 hx193_2 hx193_3 hHeld ⊢
       refine pA HT_.out 1 23 12 2 ?_; refine pA HT_.out 2 24 12 6 ?_; refine pA HT_.out 3 25 12 14 ?_; refine tA HT_.out HW_.out 0 22 12 15 hHeld ?_; refine tA HT_.out HW_.out 4 26 12 31 hHeld ?_
       refine join_ (σ := Value × Nat) 2 #[true, true, true, true, true, true, true, true, true, true, false, false] (fun s_ => [(27, .tuple #[.agg #[s_.1], .bool false]), (8, .pointer (some ⟨s_.2, 0, none⟩)), (21, .tuple #[.agg #[s_.1], .bool false]), (28, .agg #[s_.1]), (29, .bool false)]) (fun s_ w' => (w'.cell? ⟨gb192, 0, none⟩ = some (.slice Ao34 x193000_1.length co34) ∧ w'.cell? (ad193.add ((x7_1).toNat * 4)) = some (.int .i64 ((rd_T55 l1 x7_1).f0)) ∧ w'.cell? ⟨(ad193.add ((x7_1).toNat * 4)).block, (ad193.add ((x7_1).toNat * 4)).off + 1, none⟩ = some (.string ((rd_T55 l1 x7_1).f1)) ∧ w'.cell? ⟨(ad193.add ((x7_1).toNat * 4)).block, (ad193.add ((x7_1).toNat * 4)).off + 2, none⟩ = some (.string ((rd_T55 l1 x7_1).f2)) ∧ w'.cell? ⟨(ad193.add ((x7_1).toNat * 4)).block, (ad193.add ((x7_1).toNat * 4)).off + 3, none⟩ = some (.string ((rd_T55 l1 x7_1).f3))) ∧ (Kd.R k45 45 w' w.heap.size (fun k_ => some k_ ≠ (.slice Ao34 x193000_1.length co34 : Value).ownBlock) s_.1 t194) ∧ (Kd.R k45 45 w' w.heap.size (fun k_ => some k_ ≠ (s_.1 : Value).ownBlock) (.slice Ao34 x193000_1.length co34) x193000_1) ∧ (w'.heap[gb184]? = some (.cells #[.slice A0_0 l0_0.length c0_0] 30 (0, 0))) ∧ (w'.heap[gb185]? = some (.cells #[.slice none 0 0] 30 (0, 0))) ∧ (w'.heap[gb192]? = some (.cells #[.slice Ao34 x193000_1.length co34] 30 (0, 0))) ∧ (w'.heap[s_.2]? = some (.cells #[.slice none 0 0] 30 (0, 0))) ∧ (w.heap.size ≤ s_.2) ∧ (w.heap.size ≤ s_.2) ∧ (gb184 ≠ s_.2) ∧ (s_.2 ≠ gb184) ∧ (gb185 ≠ s_.2) ∧ (s_.2 ≠ gb185) ∧ (gb192 ≠ s_.2) ∧ (s_.2 ≠ gb192) ∧ (Below w.heap.size w w')) ?_ ?_
       rotate_left
       ·intro hCont
        refine two_ (i := 5) (j := 9) (Ni := some 27) (Nj := some 8) #[true, true, true, true, true, true, false, false, false, false, false, false] #[true, true, true, true, true, false, false, false, false, true, false, false] rfl rfl rfl rfl (two_of HT_.out (by kernel_rfl)) (by decide) (by decide) (fun K hK => ?_) (fun K hK => ?_)
        ·skip
         refine gX Try.func38 #[.agg #[.slice Ao34 x193000_1.length co34], .agg #[.int .i64 ((rd_T55 l1 x7_1).f0), .string ((rd_T55 l1 x7_1).f1), .string ((rd_T55 l1 x7_1).f2), .string ((rd_T55 l1 x7_1).f3)]] ?_
         with_reducible refine (spec_DoAct.calls k1 _ _ x193000_1 ((rd_T55 l1 x7_1).f0) ((rd_T55 l1 x7_1).f1) ((rd_T55 l1 x7_1).f2) ((rd_T55 l1 x7_1).f3) t194 false _ ?side1 ?side2 A18.out).mono ?_
         (case side1 => repeat (first | exact (Kd.R_reads' HO_193000.out).2.2 | (with_reducible refine cA ?_ _) | (with_reducible refine cN ?_ _) | (with_reducible refine cD ?_)))
         (case side2 => exact (Kd.R_reads' HO_193000.out).2.1)
         rintro e w36 ⟨v195, rfl, ho0, hb⟩
         refine ⟨_, rfl, ?_⟩
         have HO196 := aM (Kd.R_lower (Kd.R_new' ho0 (Kd.R_lt (uR HO_193000))) (below_size (uL HB)))
         replace HO_193000 := aM (Kd.R_elder' (uR HO_193000) (Kd.R_base ho0) hb)
         replace BK184 := blkB BK184 hb
         replace BK185 := blkB BK185 hb
         replace BK192 := blkB BK192 hb
         replace HB := aM (below_step (uL HB) hb)
         (try clear hb)
         (try clear hb2)
         (try clear hk)
         (try clear hi)
         (try clear ho0)
         refine hK.out _ _ ⟨(blk_cell BK192.out 0).trans rfl, (hyB HB hw193_0), (hyB HB hw193_1), (hyB HB hw193_2), (hyB HB hw193_3)⟩ (fun hHeld => ?_)
         clear hK K
         refine nX 27 ?_; refine pA HT_.out 6 21 12 127 ?_; refine pA HT_.out 7 28 12 255 ?_; refine pA HT_.out 8 29 12 511 ?_
         refine oA HT_.out 9 (some 8) 12 1023 (fun K hK => ?_)
         refine bxS 8 #[.slice none 0 0] 30 ?_
         intro gb198 hg w37 hbox hb
         have n0_ := aM (Kd.R_below (uR HO_193000) hb); have n1_ := aM (Kd.R_below (uR HO196) hb); have n2_ := blkB BK184 hb; have n3_ := blkB BK185 hb; have n4_ := blkB BK192 hb
         have n5_ := aM (below_step (uL HB) hb)
         have n6_ := aM (hbox)
         have n7_ := szG hg (uL HB); have n8_ := szG hg (uL HB); have n9_ := neL hg BK184; have n10_ := neG hg BK184; have n11_ := neL hg BK185; have n12_ := neG hg BK185; have n13_ := neL hg BK192; have n14_ := neG hg BK192; clear HO_193000 HO196 BK184 BK185 BK192 HB; have HO_193000 := n0_; have HO196 := n1_; have BK184 := n2_; have BK185 := n3_; have BK192 := n4_; have HB := n5_; have BK198 := n6_; have GW198 := n7_; have GE198 := n8_; have NB184_198 := n9_; have NB198_184 := n10_; have NB185_198 := n11_; have NB198_185 := n12_; have NB192_198 := n13_; have NB198_192 := n14_; clear n0_ n1_ n2_ n3_ n4_ n5_ n6_ n7_ n8_ n9_ n10_ n11_ n12_ n13_ n14_ hb hbox hg
         refine hK.out _ _ ⟨(blk_cell BK192.out 0).trans rfl, (hyB HB hw193_0), (hyB HB hw193_1), (hyB HB hw193_2), (hyB HB hw193_3)⟩ (fun hHeld => ?_)
         clear hK K
         refine nX 8 ?_
         exact norm_ (by simp only [putAll, Act.put, List.setIfInBounds_toArray, List.set_cons_zero, List.set_cons_succ]) (hCont (v195, gb198) _ ⟨hHeld, (by (with_reducible repeat first | apply rA | apply rN | apply rD); exact Kd.R_mono HO196.out (fun _ hk => hk.2)), (by (with_reducible repeat first | apply rA | apply rN | apply rD); exact Kd.R_mono HO_193000.out (fun _ hk => hk.2)), (uB BK184), (uB BK185), (uB BK192), (uB BK198), GW198.out, GE198.out, NB184_198.out, NB198_184.out, NB185_198.out, NB198_185.out, NB192_198.out, NB198_192.out, (uL HB)⟩)
        ·skip
         refine bxS 8 #[.slice none 0 0] 30 ?_
         intro gb198 hg w36 hbox hb
         have n0_ := aM (Kd.R_below (uR HO_193000) hb); have n1_ := blkB BK184 hb; have n2_ := blkB BK185 hb; have n3_ := blkB BK192 hb
         have n4_ := aM (below_step (uL HB) hb)
         have n5_ := aM (hbox)
         have n6_ := szG hg (uL HB); have n7_ := szG hg (uL HB); have n8_ := neL hg BK184; have n9_ := neG hg BK184; have n10_ := neL hg BK185; have n11_ := neG hg BK185; have n12_ := neL hg BK192; have n13_ := neG hg BK192; clear HO_193000 BK184 BK185 BK192 HB; have HO_193000 := n0_; have BK184 := n1_; have BK185 := n2_; have BK192 := n3_; have HB := n4_; have BK198 := n5_; have GW198 := n6_; have GE198 := n7_; have NB184_198 := n8_; have NB198_184 := n9_; have NB185_198 := n10_; have NB198_185 := n11_; have NB192_198 := n12_; have NB198_192 := n13_; clear n0_ n1_ n2_ n3_ n4_ n5_ n6_ n7_ n8_ n9_ n10_ n11_ n12_ n13_ hb hbox hg
         refine hK.out _ _ ⟨(blk_cell BK192.out 0).trans rfl, (hyB HB hw193_0), (hyB HB hw193_1), (hyB HB hw193_2), (hyB HB hw193_3)⟩ (fun hHeld => ?_)
         clear hK K
         refine nX 8 ?_
         refine oA HT_.out 5 (some 27) 12 575 (fun K hK => ?_)
         refine gX Try.func38 #[.agg #[.slice Ao34 x193000_1.length co34], .agg #[.int .i64 ((rd_T55 l1 x7_1).f0), .string ((rd_T55 l1 x7_1).f1), .string ((rd_T55 l1 x7_1).f2), .string ((rd_T55 l1 x7_1).f3)]] ?_
         with_reducible refine (spec_DoAct.calls k1 _ _ x193000_1 ((rd_T55 l1 x7_1).f0) ((rd_T55 l1 x7_1).f1) ((rd_T55 l1 x7_1).f2) ((rd_T55 l1 x7_1).f3) t194 false _ ?side1 ?side2 A18.out).mono ?_
         (case side1 => repeat (first | exact (Kd.R_reads' HO_193000.out).2.2 | (with_reducible refine cA ?_ _) | (with_reducible refine cN ?_ _) | (with_reducible refine cD ?_)))
         (case side2 => exact (Kd.R_reads' HO_193000.out).2.1)
         rintro e w37 ⟨v195, rfl, ho0, hb⟩
         refine ⟨_, rfl, ?_⟩
         have HO196 := aM (Kd.R_lower (Kd.R_new' ho0 (Kd.R_lt (uR HO_193000))) (below_size (uL HB)))
         replace HO_193000 := aM (Kd.R_elder' (uR HO_193000) (Kd.R_base ho0) hb)
         replace BK184 := blkB BK184 hb
         replace BK185 := blkB BK185 hb
         replace BK192 := blkB BK192 hb
         replace BK198 := blkB BK198 hb
         replace HB := aM (below_step (uL HB) hb)
         (try clear hb)
         (try clear hb2)
         (try clear hk)
         (try clear hi)
         (try clear ho0)
         refine hK.out _ _ ⟨(blk_cell BK192.out 0).trans rfl, (hyB HB hw193_0), (hyB HB hw193_1), (hyB HB hw193_2), (hyB HB hw193_3)⟩ (fun hHeld => ?_)
         clear hK K
         refine nX 27 ?_; refine pA HT_.out 6 21 12 639 ?_; refine pA HT_.out 7 28 12 767 ?_; refine pA HT_.out 8 29 12 1023 ?_
         exact norm_ (by simp only [putAll, Act.put, List.setIfInBounds_toArray, List.set_cons_zero, List.set_cons_succ]) (hCont (v195, gb198) _ ⟨hHeld, (by (with_reducible repeat first | apply rA | apply rN | apply rD); exact Kd.R_mono HO196.out (fun _ hk => hk.2)), (by (with_reducible repeat first | apply rA | apply rN | apply rD); exact Kd.R_mono HO_193000.out (fun _ hk => hk.2)), (uB BK184), (uB BK185), (uB BK192), (uB BK198), GW198.out, GE198.out, NB184_198.out, NB198_184.out, NB185_198.out, NB198_185.out, NB192_198.out, NB198_192.out, (uL HB)⟩)
       rintro ⟨v195, gb198⟩ w38 ⟨hS_, h0_, h1_, h2_, h3_, h4_, h5_, h6_, h7_, h8_, h9_, h10_, h11_, h12_, h13_, h14_⟩
       have n0_ : Aside0 (Kd.R k45 45 w38 w.heap.size (fun k_ => some k_ ≠ (.slice Ao34 x193000_1.length co34 : Value).ownBlock) v195 t194) := ⟨h0_⟩
       have n1_ : Aside0 (Kd.R k45 45 w38 w.heap.size (fun k_ => some k_ ≠ (v195 : Value).ownBlock) (.slice Ao34 x193000_1.length co34) x193000_1) := ⟨h1_⟩
       have n2_ : Aside0 (w38.heap[gb184]? = some (.cells #[.slice A0_0 l0_0.length c0_0] 30 (0, 0))) := ⟨h2_⟩
       have n3_ : Aside0 (w38.heap[gb185]? = some (.cells #[.slice none 0 0] 30 (0, 0))) := ⟨h3_⟩
       have n4_ : Aside0 (w38.heap[gb192]? = some (.cells #[.slice Ao34 x193000_1.length co34] 30 (0, 0))) := ⟨h4_⟩
       have n5_ : Aside0 (w38.heap[gb198]? = some (.cells #[.slice none 0 0] 30 (0, 0))) := ⟨h5_⟩
       have n6_ : Aside0 (w.heap.size ≤ gb198) := ⟨h6_⟩
       have n7_ : Aside0 (w.heap.size ≤ gb198) := ⟨h7_⟩
       have n8_ : Aside0 (gb184 ≠ gb198) := ⟨h8_⟩
       have n9_ : Aside0 (gb198 ≠ gb184) := ⟨h9_⟩
       have n10_ : Aside0 (gb185 ≠ gb198) := ⟨h10_⟩
       have n11_ : Aside0 (gb198 ≠ gb185) := ⟨h11_⟩
       have n12_ : Aside0 (gb192 ≠ gb198) := ⟨h12_⟩
       have n13_ : Aside0 (gb198 ≠ gb192) := ⟨h13_⟩
       have n14_ : Aside0 (Below w.heap.size w w38) := ⟨h14_⟩
       clear HO_193000 BK184 BK185 BK192 HB h0_ h1_ h2_ h3_ h4_ h5_ h6_ h7_ h8_ h9_ h10_ h11_ h12_ h13_ h14_; have HO196 := n0_; have HO_193000 := n1_; have BK184 := n2_; have BK185 := n3_; have BK192 := n4_; have BK198 := n5_; have GW198 := n6_; have GE198 := n7_; have NB184_198 := n8_; have NB198_184 := n9_; have NB185_198 := n10_; have NB198_185 := n11_; have NB192_198 := n12_; have NB198_192 := n13_; have HB := n14_; clear n0_ n1_ n2_ n3_ n4_ n5_ n6_ n7_ n8_ n9_ n10_ n11_ n12_ n13_ n14_
       have hHeld : w38.cell? ⟨gb192, 0, none⟩ = some (.slice Ao34 x193000_1.length co34) ∧ w38.cell? (ad193.add ((x7_1).toNat * 4)) = some (.int .i64 ((rd_T55 l1 x7_1).f0)) ∧ w38.cell? ⟨(ad193.add ((x7_1).toNat * 4)).block, (ad193.add ((x7_1).toNat * 4)).off + 1, none⟩ = some (.string ((rd_T55 l1 x7_1).f1)) ∧ w38.cell? ⟨(ad193.add ((x7_1).toNat * 4)).block, (ad193.add ((x7_1).toNat * 4)).off + 2, none⟩ = some (.string ((rd_T55 l1 x7_1).f2)) ∧ w38.cell? ⟨(ad193.add ((x7_1).toNat * 4)).block, (ad193.add ((x7_1).toNat * 4)).off + 3, none⟩ = some (.string ((rd_T55 l1 x7_1).f3)) := hS_
       obtain ⟨Ao39, co39, eo39⟩ := Kd.R_slice HO196.out
       (first | subst eo39 | (injection eo39 with f1_ f2_ f3_; have f4_ := f1_.symm; have f5_ := f3_.symm; clear f1_ f2_ f3_; subst f4_; subst f5_))
       refine norm_ (a' := ?_) ?_ ?_
       rotate_left
       ·simp only [putAll, Act.put, List.setIfInBounds_toArray, List.set_cons_zero, List.set_cons_succ]
        rfl
       refine oA HT_.out 10 none 12 2047 (fun K hK => ?_)
       have hs40 := czA BK198.out 0 (.slice none 0 0)
       have hfs40 := blk_frozen BK198.out 0; have hns40_0 := NB184_198.out; have hns40_1 := NB185_198.out; have hns40_2 := NB192_198.out; have hms40_0 := NB198_184.out; have hms40_1 := NB198_185.out; have hms40_2 := NB198_192.out
       refine skip_ (w1 := ?_) (by rfl) rfl ?_ ?_
       rotate_left
       ·go_simp
        rfl
       refine hK.out _ _ ⟨((cell_far (p := ⟨gb198, _, none⟩) NB192_198.out _).trans (hHeld.1)), ((cell_far (p := ⟨gb198, _, none⟩) (by first | exact Nat.ne_of_lt (Nat.lt_of_lt_of_le (by have := World.block_lt_of_cell? _ _ hw193_0; first | rwa [add_block] at this | exact this) GW198.out) | (rw [add_block]; exact Nat.ne_of_lt (Nat.lt_of_lt_of_le (by have := World.block_lt_of_cell? _ _ hw193_0; first | rwa [add_block] at this | exact this) GW198.out)) | (show (Addr.add _ _).block ≠ _; rw [add_block]; exact Nat.ne_of_lt (Nat.lt_of_lt_of_le (by have := World.block_lt_of_cell? _ _ hw193_0; first | rwa [add_block] at this | exact this) GW198.out)) | (dsimp only; exact Nat.ne_of_lt (Nat.lt_of_lt_of_le (by have := World.block_lt_of_cell? _ _ hw193_0; first | rwa [add_block] at this | exact this) GW198.out))) _).trans (hHeld.2.1)), ((cell_far (p := ⟨gb198, _, none⟩) (by first | exact Nat.ne_of_lt (Nat.lt_of_lt_of_le (by have := World.block_lt_of_cell? _ _ hw193_1; first | rwa [add_block] at this | exact this) GW198.out) | (rw [add_block]; exact Nat.ne_of_lt (Nat.lt_of_lt_of_le (by have := World.block_lt_of_cell? _ _ hw193_1; first | rwa [add_block] at this | exact this) GW198.out)) | (show (Addr.add _ _).block ≠ _; rw [add_block]; exact Nat.ne_of_lt (Nat.lt_of_lt_of_le (by have := World.block_lt_of_cell? _ _ hw193_1; first | rwa [add_block] at this | exact this) GW198.out)) | (dsimp only; exact Nat.ne_of_lt (Nat.lt_of_lt_of_le (by have := World.block_lt_of_cell? _ _ hw193_1; first | rwa [add_block] at this | exact this) GW198.out))) _).trans (hHeld.2.2.1)), ((cell_far (p := ⟨gb198, _, none⟩) (by first | exact Nat.ne_of_lt (Nat.lt_of_lt_of_le (by have := World.block_lt_of_cell? _ _ hw193_2; first | rwa [add_block] at this | exact this) GW198.out) | (rw [add_block]; exact Nat.ne_of_lt (Nat.lt_of_lt_of_le (by have := World.block_lt_of_cell? _ _ hw193_2; first | rwa [add_block] at this | exact this) GW198.out)) | (show (Addr.add _ _).block ≠ _; rw [add_block]; exact Nat.ne_of_lt (Nat.lt_of_lt_of_le (by have := World.block_lt_of_cell? _ _ hw193_2; first | rwa [add_block] at this | exact this) GW198.out)) | (dsimp only; exact Nat.ne_of_lt (Nat.lt_of_lt_of_le (by have := World.block_lt_of_cell? _ _ hw193_2; first | rwa [add_block] at this | exact this) GW198.out))) _).trans (hHeld.2.2.2.1)), ((cell_far (p := ⟨gb198, _, none⟩) (by first | exact Nat.ne_of_lt (Nat.lt_of_lt_of_le (by have := World.block_lt_of_cell? _ _ hw193_3; first | rwa [add_block] at this | exact this) GW198.out) | (rw [add_block]; exact Nat.ne_of_lt (Nat.lt_of_lt_of_le (by have := World.block_lt_of_cell? _ _ hw193_3; first | rwa [add_block] at this | exact this) GW198.out)) | (show (Addr.add _ _).block ≠ _; rw [add_block]; exact Nat.ne_of_lt (Nat.lt_of_lt_of_le (by have := World.block_lt_of_cell? _ _ hw193_3; first | rwa [add_block] at this | exact this) GW198.out)) | (dsimp only; exact Nat.ne_of_lt (Nat.lt_of_lt_of_le (by have := World.block_lt_of_cell? _ _ hw193_3; first | rwa [add_block] at this | exact this) GW198.out))) _).trans (hHeld.2.2.2.2))⟩ (fun hHeld => ?_)
       clear hK K
       refine pA HT_.out 11 9 12 4095 ?_
       refine done_ (done_of HT_.out (by kernel_rfl)) ?_
       have hnb41 := NB192_184.out; have hnc41 := NB184_192.out; have hnb42 := NB192_185.out; have hnc42 := NB185_192.out; have hnb43 := NB192_198.out; have hnc43 := NB198_192.out
       have hcz44_0 := czA BK192.out 0 (.slice Ao34 x193000_1.length co34)
       have hfz44_0 := blk_frozen BK192.out 0; have hnb45 := NB185_184.out; have hnc45 := NB184_185.out; have hnb46 := NB185_198.out; have hnc46 := NB198_185.out
       have hcz47_0 := czA BK185.out 0 (.slice none 0 0)
       have hfz47_0 := blk_frozen BK185.out 0
       try go_wp2
       refine bodyPost_ret (results_ct rfl _ _ gb185 30 #[.slice Ao34 x193000_1.length co34] (0, 0) _ rfl (by refine nB ?_; refine blk_put (cs := #[.slice none 0 0]) ?_ 0 _ rfl; refine nB ?_; refine blk_far ?_ NB185_198.out _; exact nB BK185.out) Try.underlying30 rfl (by kernel_rfl)) rfl ?_
       exact ⟨_, by first | rfl | (simp [errW_none, errW_some] <;> rfl) | (simp [*, errW_none, errW_some] <;> rfl), by (with_reducible repeat first | apply rA | apply rN | apply rD); exact Kd.R_mono (Kd.R_far (p := ⟨gb185, 0, none⟩) (Kd.R_far (p := ⟨gb198, 0, none⟩) (Kd.R_types (Kd.R_types HO_193000.out BK198.out (by decide)) BK185.out (by decide)) (fun _ hk => hk.1.2) (.slice Ao39 t194.length co39)) (fun _ hk => hk.2) (.slice Ao34 x193000_1.length co34)) (fun _ hk => trivial), uL HB⟩
     ·rw [if_neg c17] at H
      exact absurd H (by simp)
    ·rw [if_neg c16] at H
     have c16b0 : decide (x7_1 < (l1.length : Int)) = false := decide_eq_false c16
     clear c16
     simp only [Option.some.injEq, Prod.mk.injEq] at H
     obtain ⟨rfl, rfl⟩ := H
     have hnb48 := NB192_184.out; have hnc48 := NB184_192.out; have hnb49 := NB192_185.out; have hnc49 := NB185_192.out
     have hcz50_0 := czA BK192.out 0 (u193000)
     have hfz50_0 := blk_frozen BK192.out 0
     obtain ⟨Ao51, co51, eo51⟩ := Kd.R_slice HO_193000.out
     subst eo51
     have hnb52 := NB185_184.out; have hnc52 := NB184_185.out
     have hcz53_0 := czA BK185.out 0 (.slice none 0 0)
     have hfz53_0 := blk_frozen BK185.out 0
     go_wp2
     refine bodyPost_ret (results_ct rfl _ _ gb185 30 #[.slice Ao51 x193000_1.length co51] (0, 0) _ rfl (by refine nB ?_; refine blk_put (cs := #[.slice none 0 0]) ?_ 0 _ rfl; exact nB BK185.out) Try.underlying30 rfl (by kernel_rfl)) rfl ?_
     exact ⟨_, by first | rfl | (simp [errW_none, errW_some] <;> rfl) | (simp [*, errW_none, errW_some] <;> rfl), by (with_reducible repeat first | apply rA | apply rN | apply rD); exact Kd.R_mono (Kd.R_far (p := ⟨gb185, 0, none⟩) (Kd.R_types HO_193000.out BK185.out (by decide)) (fun _ hk => hk.2) (.slice Ao51 x193000_1.length co51)) (fun _ hk => trivial), uL HB⟩
 ·rw [if_neg c3] at H
  exact absurd H (by simp)

end Go.Proofs.Ytidfhfaekdahpaa.QFnActs
