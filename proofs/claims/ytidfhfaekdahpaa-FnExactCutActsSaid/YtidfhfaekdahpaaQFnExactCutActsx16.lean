-- Own work (wip/turnprint.py over the kit's print).
import Derived.Test.YtidfhfaekdahpaaQFnExactCutActsx0
import Derived.Test.YtidfhfaekdahpaaQFnExactCutActsx15
namespace Go.Proofs.Ytidfhfaekdahpaa.QFnExactCutActs
open Go.RowKit Go.Proofs.YtidfhfaekdahpaaW.PrintWords Go.Proofs.YtidfhfaekdahpaaW.PrintLast
set_option linter.unusedVariables false
set_option linter.unusedSimpArgs false

/-! ### spec_DoActs: function 42 -/
def spec_DoActs.l0 : Nat → List (S55) → Int → List (S45) → Option ((List (S45)) × Int)
 | 0, _, _, _ => none
 | k + 1, x1, x7, x288000 => if x7 < (x1.length : Int) then (if 0 ≤ x7 then ((spec_DoAct.f k x288000 ((rd_T55 x1 x7).f0) ((rd_T55 x1 x7).f1) ((rd_T55 x1 x7).f2) ((rd_T55 x1 x7).f3)).bind fun bt289 => (if bt289.2 = true then (spec_DoActs.l0 k x1 (wrap64 (x7 + 1)) bt289.1) else (some (x288000, x7)))) else (none)) else (some (x288000, (x1.length : Int)))
def spec_DoActs.f (k : Nat) (l0_0 : List (S45)) (l1 : List (S55)) : Option ((List (S45)) × Int) := (some (([] : List (S45)) : List (S45))).bind fun y281 => (if y281.length + l0_0.length < 3518437208883 then (spec_DoActs.l0 k l1 0 (y281 ++ l0_0)) else (none))
theorem spec_DoActs.mono_l : ∀ k, (∀ y0 y1 y2, LeO (spec_DoActs.l0 k y0 y1 y2) (spec_DoActs.l0 (k + 1) y0 y1 y2))
 | 0 => fun _ _ _ r h => by simp [spec_DoActs.l0] at h
 | k + 1 => by
  have ih0 := spec_DoActs.mono_l k
  ·intro y0 y1 y2
   unfold spec_DoActs.l0
   repeat' first
   | (with_reducible exact ih0 _ _ _)
   | (with_reducible exact spec_DoAct.mono _ _ _ _ _ _)
   | (with_reducible exact LeO.refl _)
   | (with_reducible exact LeO.none _)
   | (with_reducible refine LeO.ite ?_ ?_)
   | (with_reducible refine LeO.bind ?_ (fun _ => ?_))
   | exact ih0 _ _ _
   | exact spec_DoAct.mono _ _ _ _ _ _
   | exact LeO.none _
   | refine LeO.ite ?_ ?_
   | refine LeO.bind ?_ (fun _ => ?_)
theorem spec_DoActs.mono : ∀ a0 a1 k, LeO (spec_DoActs.f k a0 a1) (spec_DoActs.f (k + 1) a0 a1) := by
 intro a0 a1 k
 have ih0 := spec_DoActs.mono_l k
 unfold spec_DoActs.f
 repeat' first
  | (with_reducible exact ih0 _ _ _)
  | (with_reducible exact spec_DoAct.mono _ _ _ _ _ _)
  | (with_reducible exact LeO.refl _)
  | (with_reducible exact LeO.none _)
  | (with_reducible refine LeO.ite ?_ ?_)
  | (with_reducible refine LeO.bind ?_ (fun _ => ?_))
  | exact ih0 _ _ _
  | exact spec_DoAct.mono _ _ _ _ _ _
  | exact LeO.none _
  | refine LeO.ite ?_ ?_
  | refine LeO.bind ?_ (fun _ => ?_)
def spec_DoActs.T5 : Bool × List (List Nat × List Nat) := (true, [([], []), ([], []), ([], []), ([1, 2], [1, 2]), ([3], [3]), ([0, 4], [0, 4]), ([5], [5]), ([6], [6]), ([6], [6]), ([], []), ([9, 7, 5, 0, 1, 2, 3, 4, 5, 6, 7, 9], [7, 9]), ([8, 10, 0, 1, 2, 3, 4, 5, 6, 7, 8, 9, 10], [8])])
def spec_DoActs.B5 : List Nat := [0, 0, 0, 6, 14, 31, 63, 127, 127, 0, 767, 2047]
theorem spec_DoActs.tab5 : rtab .any (opsOf Try.f42 5) = spec_DoActs.T5 := by kernel_rfl
theorem spec_DoActs.bits5 : waitsOk spec_DoActs.T5.2 spec_DoActs.B5 = true := by kernel_rfl
set_option maxHeartbeats 8000000 in
set_option maxRecDepth 100000 in
theorem spec_DoActs.calls (k : Nat) (A0_0 : Option Addr) (c0_0 : Nat) (l0_0 : List (S45)) (A1 : Option Addr) (c1 : Nat) (l1 : List (S55)) (r1 : List (S45)) (r2 : Int) (w : World) (hr0_0 : Kd.C k45 w A0_0 l0_0.length l0_0) (hc0_0 : l0_0.length ≤ c0_0) (hr1 : Kd.C k55 w A1 l1.length l1) (hc1 : l1.length ≤ c1) (h : spec_DoActs.f k l0_0 l1 = some (r1, r2)) :
 Calls Try.prog 42 #[.agg #[.slice A0_0 l0_0.length c0_0], .slice A1 l1.length c1] w fun e w' => ∃ v0_ : Value, e = .returned (.tuple #[.agg #[v0_], .int .i64 r2]) ∧ Kd.R k45 45 w' w.heap.size (fun _ => True) v0_ r1 ∧ Below w.heap.size w w' := by
 have hu30 := Try.underlying30
 have hu55 := Try.underlying55
 have HR0_0 := aM hr0_0
 have HC0_0 := aM hc0_0
 clear hr0_0 hc0_0
 have HR1 := aM hr1
 have HC1 := aM hc1
 clear hr1 hc1
 have HB := aM (Below.refl w.heap.size w)
 have H : ((some (([] : List (S45)) : List (S45))).bind fun y281 => (if y281.length + l0_0.length < 3518437208883 then (spec_DoActs.l0 k l1 0 (y281 ++ l0_0)) else (none))) = some (r1, r2) := h
 clear h
 obtain ⟨y281, hy281⟩ : ∃ y_ : List (S45), y_ = (([] : List (S45))) := ⟨_, rfl⟩
 replace H : (if y281.length + l0_0.length < 3518437208883 then (spec_DoActs.l0 k l1 0 (y281 ++ l0_0)) else (none)) = some (r1, r2) := by first | (rw [hy281]; with_reducible exact H) | (have H2_ := (Option.bind_some _ _).symm.trans H; rw [hy281]; with_reducible exact H2_) | (have H2_ := (Option.bind_some _ _).symm.trans H; with_reducible exact H2_) | with_reducible exact H | (rw [hy281]; exact H) | exact H
 have Ny281 := aM hy281
 clear hy281
 by_cases c3 : y281.length + l0_0.length < 3518437208883
 ·rw [if_pos c3] at H
  have LMc3 := aM c3
  clear c3
  obtain ⟨y284, hy284⟩ : ∃ y_ : List (S45), y_ = (y281 ++ l0_0) := ⟨_, rfl⟩
  replace H : (spec_DoActs.l0 k l1 0 y284) = some (r1, r2) := by first | (rw [hy284]; with_reducible exact H) | (have H2_ := (Option.bind_some _ _).symm.trans H; rw [hy284]; with_reducible exact H2_) | (have H2_ := (Option.bind_some _ _).symm.trans H; with_reducible exact H2_) | with_reducible exact H | (rw [hy284]; exact H) | exact H
  have Ny284 := aM hy284
  clear hy284
  have H' := aM H
  clear H
  go_enter Try.func42, Try.ntmps42
  go_wp2_with (first | ((with_reducible refine gate_dst (N := 2) rfl ?_); refine bxE 2 #[.slice A0_0 l0_0.length c0_0] 30 ?_; intro gb279 hg w4 hbox hb; have BK279 := aM (hbox); have GW279 := szG hg (uL HB); have GE279 := szG hg (uL HB); replace HB := aM (below_step (uL HB) hb); clear hb hbox hg) | ((with_reducible refine gate_dst (N := 4) rfl ?_); refine bxE 4 #[.slice none 0 0] 30 ?_; intro gb280 hg w5 hbox hb; have BK280 := aM (hbox); have GW280 := szG hg (uL HB); have GE280 := szG hg (uL HB); have NB279_280 := neL hg BK279; have NB280_279 := neG hg BK279; replace BK279 := blkB BK279 hb; replace HB := aM (below_step (uL HB) hb); clear hb hbox hg) | ((with_reducible refine gate_dst (N := 10) rfl ?_); refine Kd.R_lit k45 _ 45 ?hg (N := 10) ?hd (xs := ([] : List (S45))) (inner := []) (ok := fun _ => True) (okp := fun _ => True) ?hr ?hp (fun _ hk => hk) trivial (Below.refl _ _) (Nat.le_refl _) (by simp) ?_; (case hd => rfl); (case hg => rfl); (case hr => first | (go_simp; done) | (go_simp; rfl)); (case hp => exact (Reps.none _ _)); intro v282 w6 ho7 hb hg_ hnew_; clear hg_ hnew_; (first | rw [← Ny281.out] at ho7 | (simp only [Int.reduceToNat] at ho7; rw [← Ny281.out] at ho7)); have HO283 := aM (Kd.R_lower ho7 (below_size (uL HB))); replace BK279 := blkB BK279 hb; replace BK280 := blkB BK280 hb; replace HB := aM (below_step (uL HB) hb); clear hb ho7; have hnb8 := NB279_280.out; have hnc8 := NB280_279.out; have hcz9_0 := czA BK279.out 0 (.slice A0_0 l0_0.length c0_0); have hfz9_0 := blk_frozen BK279.out 0) | ((with_reducible refine gate_builtin (b := .append) (xs := #[.tmp 10, .tmp 12]) rfl ?_); at_builtin; refine Kd.R_append_rows k45 (w0 := w) w.heap.size rfl (.tmp 10) (.tmp 12) 28 45 (.agg #[(.string ⟨#[]⟩), (.string ⟨#[]⟩), (.int .i64 0)]) 40 rfl Try.underlying28 info45 rfl (by decide) (by omega) v282 y281 l0_0 _ _ _ (fun _ => True) (fun _ => False) rfl rfl ?aO ?aR (fun _ _ h => h) (fun _ h => h.elim) ?aF ?aB ?aS ?aL ?_; (case aR => repeat (first | exact (Kd.C_below HR0_0.out HB.out) | (with_reducible refine cA ?_ _) | (with_reducible refine cN ?_ _) | (with_reducible refine cD ?_))); (case aB => exact (uL HB)); (case aF => exact (fun _ _ => trivial)); (case aO => exact (uR HO283)); (case aS => exact (below_size (uL HB))); (case aL => have := LMc3.out; omega); intro v285 w10 ho hb hg hat; rw [← Ny284.out] at ho; have HO286 := aM (ho); replace BK279 := aM (blk_grown (g := gb279) (o := .cells #[.slice A0_0 l0_0.length c0_0] 30 (0, 0)) (uB BK279) hg (Kd.R_ne HO283.out BK279.out (by decide))); replace BK280 := aM (blk_grown (g := gb280) (o := .cells #[.slice none 0 0] 30 (0, 0)) (uB BK280) hg (Kd.R_ne HO283.out BK280.out (by decide))); replace HB := aM (hb); clear HO283; clear ho hb hg hat; obtain ⟨Ao11, co11, eo11⟩ := Kd.R_slice HO286.out; subst eo11) | ((with_reducible refine gate_dst (N := 6) rfl ?_); refine bxE 6 #[.slice none 0 0] 30 ?_; intro gb287 hg w12 hbox hb; have BK287 := aM (hbox); have GW287 := szG hg (uL HB); have GE287 := szG hg (uL HB); have NB279_287 := neL hg BK279; have NB287_279 := neG hg BK279; have NB280_287 := neL hg BK280; have NB287_280 := neG hg BK280; replace HO286 := aM (Kd.R_below (uR HO286) hb); replace BK279 := blkB BK279 hb; replace BK280 := blkB BK280 hb; replace HB := aM (below_step (uL HB) hb); clear hb hbox hg; have hnb13 := NB287_279.out; have hnc13 := NB279_287.out; have hnb14 := NB287_280.out; have hnc14 := NB280_287.out; have hcz15_0 := czA BK287.out 0 (.slice none 0 0); have hfz15_0 := blk_frozen BK287.out 0))
  go_loopg [7] k (fun kq v7 w' => ∃ (x7_1 : Int) (x288000_1 : List (S45)) (u288000 : Value), v7 = .int .i64 x7_1 ∧ Aside0 (spec_DoActs.l0 kq l1 x7_1 x288000_1 = some (r1, r2)) ∧ Aside0 (kq ≤ k) ∧ Aside0 (Kd.R k45 45 w' w.heap.size (fun _ => True) u288000 x288000_1) ∧ Aside0 (w'.heap[gb279]? = some (.cells #[(.slice A0_0 l0_0.length c0_0)] 30 (0, 0))) ∧ Aside0 (w'.heap[gb280]? = some (.cells #[(.slice none 0 0)] 30 (0, 0))) ∧ Aside0 (w'.heap[gb287]? = some (.cells #[u288000] 30 (0, 0))) ∧ Aside0 (Below w.heap.size w w'))
  case atStart => exact ⟨(0), (y284), (.slice Ao11 y284.length co11), (by first | rfl | (simp; done) | (simp [*]; done)), H', ⟨Nat.le_refl _⟩, ⟨by (with_reducible repeat first | apply rA | apply rN | apply rD); exact Kd.R_mono (Kd.R_far (p := ⟨gb287, 0, none⟩) (Kd.R_types HO286.out BK287.out (by decide)) (fun _ hk => hk.2) (.slice Ao11 y284.length co11)) (fun _ hk => trivial)⟩, ⟨by refine nB ?_; refine blk_far ?_ NB279_287.out _; exact nB BK279.out⟩, ⟨by refine nB ?_; refine blk_far ?_ NB280_287.out _; exact nB BK280.out⟩, ⟨by refine nB ?_; refine blk_put (cs := #[.slice none 0 0]) ?_ 0 _ rfl; exact nB BK287.out⟩, ⟨uL HB⟩⟩
  case round =>
   clear H'
   try clear c1; try clear p2; try clear c3; try clear c4; try clear c8; try clear c13; try clear c14; try clear hcz15_0; try clear hcz9_0; try clear hfz15_0; try clear hfz9_0
   obtain ⟨x7_1, x288000_1, u288000, rfl, HA, HK1, HO_288000, BK279, BK280, BK287, HB⟩ := hrel
   cases gk with
   | zero => exact absurd HA.out (by simp [spec_DoActs.l0])
   | succ k1 =>
    have H := HA.out
    clear HA
    simp only [spec_DoActs.l0] at H
    by_cases c16 : x7_1 < (l1.length : Int)
    ·rw [if_pos c16] at H
     have c16b0 : decide (x7_1 < (l1.length : Int)) = true := decide_eq_true c16
     clear c16
     by_cases c17 : 0 ≤ x7_1
     ·rw [if_pos c17] at H
      have c17b0 : decide (0 ≤ x7_1) = true := decide_eq_true c17
      clear c17
      replace H := Option.bind_eq_some_iff.mp H
      obtain ⟨⟨t289, t292⟩, A180, H⟩ := H
      replace H : (if t292 = true then (spec_DoActs.l0 k1 l1 (wrap64 (x7_1 + 1)) t289) else (some (x288000_1, x7_1))) = some (r1, r2) := H
      have A18 := aM A180
      clear A180
      by_cases c19 : t292 = true
      ·subst c19
       have H1 : (spec_DoActs.l0 k1 l1 (wrap64 (x7_1 + 1)) t289) = some (r1, r2) := by rw [if_pos rfl] at H; exact H
       clear H; have H := H1; clear H1
       have H' := aM H
       clear H
       obtain ⟨Ao20, co20, eo20⟩ := Kd.R_slice HO_288000.out
       subst eo20
       try go_wp2
       replace HO_288000 := aM (Kd.R_drew HO_288000.out)
       replace BK279 := aM (blk_drew BK279.out)
       replace BK280 := aM (blk_drew BK280.out)
       replace BK287 := aM (blk_drew BK287.out)
       replace HB := aM (below_drew1 HB.out)
       have p288 : 0 ≤ (x7_1 : Int) := of_decide_eq_true (by first | (with_reducible assumption) | assumption)
       have q288 : x7_1 < (l1.length : Int) := of_decide_eq_true (by first | (with_reducible assumption) | assumption)
       obtain ⟨ad288, e288, hx288_0, hx288_1, hx288_2, hx288_3⟩ := at_T55 HR1.out x7_1 p288 q288
       have hw288_3 := hx288_3; have hw288_2 := hx288_2; have hw288_1 := hx288_1; have hw288_0 := hx288_0
       cases e288
       replace hx288_0 := hxB HB hx288_0; replace hx288_1 := hxB HB hx288_1; replace hx288_2 := hxB HB hx288_2; replace hx288_3 := hxB HB hx288_3; replace p288 := eq_true p288; replace q288 := eq_true q288
       refine start_ (n := 12) (S := fun w' => w'.cell? ⟨gb287, 0, none⟩ = some (.slice Ao20 x288000_1.length co20) ∧ w'.cell? (ad288.add ((x7_1).toNat * 4)) = some (.int .i64 ((rd_T55 l1 x7_1).f0)) ∧ w'.cell? ⟨(ad288.add ((x7_1).toNat * 4)).block, (ad288.add ((x7_1).toNat * 4)).off + 1, none⟩ = some (.string ((rd_T55 l1 x7_1).f1)) ∧ w'.cell? ⟨(ad288.add ((x7_1).toNat * 4)).block, (ad288.add ((x7_1).toNat * 4)).off + 2, none⟩ = some (.string ((rd_T55 l1 x7_1).f2)) ∧ w'.cell? ⟨(ad288.add ((x7_1).toNat * 4)).block, (ad288.add ((x7_1).toNat * 4)).off + 3, none⟩ = some (.string ((rd_T55 l1 x7_1).f3))) (ds := []) (bB 12 0) (by kernel_rfl) rfl rfl ⟨(blk_cell BK287.out 0).trans rfl, (hyB HB hw288_0), (hyB HB hw288_1), (hyB HB hw288_2), (hyB HB hw288_3)⟩ (fun hHeld => ?_); refine with_tabW spec_DoActs.tab5 spec_DoActs.bits5 (fun HT_ HW_ => ?_)
       generalize wr.drew = w21 at HO_288000 BK279 BK280 BK287 HB hx288_0 hx288_1 hx288_2 hx288_3 hHeld ⊢
       refine pA HT_.out 1 23 12 2 ?_; refine pA HT_.out 2 24 12 6 ?_; refine pA HT_.out 3 25 12 14 ?_; refine tA HT_.out HW_.out 0 22 12 15 hHeld ?_; refine tA HT_.out HW_.out 4 26 12 31 hHeld ?_
       refine join_ (σ := Value × Nat) 2 #[true, true, true, true, true, true, true, true, true, true, false, false] (fun s_ => [(27, .tuple #[.agg #[s_.1], .bool true]), (8, .pointer (some ⟨s_.2, 0, none⟩)), (21, .tuple #[.agg #[s_.1], .bool true]), (28, .agg #[s_.1]), (29, .bool true)]) (fun s_ w' => (w'.cell? ⟨gb287, 0, none⟩ = some (.slice Ao20 x288000_1.length co20) ∧ w'.cell? (ad288.add ((x7_1).toNat * 4)) = some (.int .i64 ((rd_T55 l1 x7_1).f0)) ∧ w'.cell? ⟨(ad288.add ((x7_1).toNat * 4)).block, (ad288.add ((x7_1).toNat * 4)).off + 1, none⟩ = some (.string ((rd_T55 l1 x7_1).f1)) ∧ w'.cell? ⟨(ad288.add ((x7_1).toNat * 4)).block, (ad288.add ((x7_1).toNat * 4)).off + 2, none⟩ = some (.string ((rd_T55 l1 x7_1).f2)) ∧ w'.cell? ⟨(ad288.add ((x7_1).toNat * 4)).block, (ad288.add ((x7_1).toNat * 4)).off + 3, none⟩ = some (.string ((rd_T55 l1 x7_1).f3))) ∧ (Kd.R k45 45 w' w.heap.size (fun k_ => some k_ ≠ (.slice Ao20 x288000_1.length co20 : Value).ownBlock) s_.1 t289) ∧ (Kd.R k45 45 w' w.heap.size (fun k_ => some k_ ≠ (s_.1 : Value).ownBlock) (.slice Ao20 x288000_1.length co20) x288000_1) ∧ (w'.heap[gb279]? = some (.cells #[.slice A0_0 l0_0.length c0_0] 30 (0, 0))) ∧ (w'.heap[gb280]? = some (.cells #[.slice none 0 0] 30 (0, 0))) ∧ (w'.heap[gb287]? = some (.cells #[.slice Ao20 x288000_1.length co20] 30 (0, 0))) ∧ (w'.heap[s_.2]? = some (.cells #[.slice none 0 0] 30 (0, 0))) ∧ (w.heap.size ≤ s_.2) ∧ (w.heap.size ≤ s_.2) ∧ (gb279 ≠ s_.2) ∧ (s_.2 ≠ gb279) ∧ (gb280 ≠ s_.2) ∧ (s_.2 ≠ gb280) ∧ (gb287 ≠ s_.2) ∧ (s_.2 ≠ gb287) ∧ (Below w.heap.size w w')) ?_ ?_
       rotate_left
       ·intro hCont
        refine two_ (i := 5) (j := 9) (Ni := some 27) (Nj := some 8) #[true, true, true, true, true, true, false, false, false, false, false, false] #[true, true, true, true, true, false, false, false, false, true, false, false] rfl rfl rfl rfl (two_of HT_.out (by kernel_rfl)) (by decide) (by decide) (fun K hK => ?_) (fun K hK => ?_)
        ·skip
         refine gX Try.func38 #[.agg #[.slice Ao20 x288000_1.length co20], .agg #[.int .i64 ((rd_T55 l1 x7_1).f0), .string ((rd_T55 l1 x7_1).f1), .string ((rd_T55 l1 x7_1).f2), .string ((rd_T55 l1 x7_1).f3)]] ?_
         with_reducible refine (spec_DoAct.calls k1 _ _ x288000_1 ((rd_T55 l1 x7_1).f0) ((rd_T55 l1 x7_1).f1) ((rd_T55 l1 x7_1).f2) ((rd_T55 l1 x7_1).f3) t289 true _ ?side1 ?side2 A18.out).mono ?_
         (case side1 => repeat (first | exact (Kd.R_reads' HO_288000.out).2.2 | (with_reducible refine cA ?_ _) | (with_reducible refine cN ?_ _) | (with_reducible refine cD ?_)))
         (case side2 => exact (Kd.R_reads' HO_288000.out).2.1)
         rintro e w22 ⟨v290, rfl, ho0, hb⟩
         refine ⟨_, rfl, ?_⟩
         have HO291 := aM (Kd.R_lower (Kd.R_new' ho0 (Kd.R_lt (uR HO_288000))) (below_size (uL HB)))
         replace HO_288000 := aM (Kd.R_elder' (uR HO_288000) (Kd.R_base ho0) hb)
         replace BK279 := blkB BK279 hb
         replace BK280 := blkB BK280 hb
         replace BK287 := blkB BK287 hb
         replace HB := aM (below_step (uL HB) hb)
         (try clear hb)
         (try clear hb2)
         (try clear hk)
         (try clear hi)
         (try clear ho0)
         refine hK.out _ _ ⟨(blk_cell BK287.out 0).trans rfl, (hyB HB hw288_0), (hyB HB hw288_1), (hyB HB hw288_2), (hyB HB hw288_3)⟩ (fun hHeld => ?_)
         clear hK K
         refine nX 27 ?_; refine pA HT_.out 6 21 12 127 ?_; refine pA HT_.out 7 28 12 255 ?_; refine pA HT_.out 8 29 12 511 ?_
         refine oA HT_.out 9 (some 8) 12 1023 (fun K hK => ?_)
         refine bxS 8 #[.slice none 0 0] 30 ?_
         intro gb293 hg w23 hbox hb
         have n0_ := aM (Kd.R_below (uR HO_288000) hb); have n1_ := aM (Kd.R_below (uR HO291) hb); have n2_ := blkB BK279 hb; have n3_ := blkB BK280 hb; have n4_ := blkB BK287 hb
         have n5_ := aM (below_step (uL HB) hb)
         have n6_ := aM (hbox)
         have n7_ := szG hg (uL HB); have n8_ := szG hg (uL HB); have n9_ := neL hg BK279; have n10_ := neG hg BK279; have n11_ := neL hg BK280; have n12_ := neG hg BK280; have n13_ := neL hg BK287; have n14_ := neG hg BK287; clear HO_288000 HO291 BK279 BK280 BK287 HB; have HO_288000 := n0_; have HO291 := n1_; have BK279 := n2_; have BK280 := n3_; have BK287 := n4_; have HB := n5_; have BK293 := n6_; have GW293 := n7_; have GE293 := n8_; have NB279_293 := n9_; have NB293_279 := n10_; have NB280_293 := n11_; have NB293_280 := n12_; have NB287_293 := n13_; have NB293_287 := n14_; clear n0_ n1_ n2_ n3_ n4_ n5_ n6_ n7_ n8_ n9_ n10_ n11_ n12_ n13_ n14_ hb hbox hg
         refine hK.out _ _ ⟨(blk_cell BK287.out 0).trans rfl, (hyB HB hw288_0), (hyB HB hw288_1), (hyB HB hw288_2), (hyB HB hw288_3)⟩ (fun hHeld => ?_)
         clear hK K
         refine nX 8 ?_
         exact norm_ (by simp only [putAll, Act.put, List.setIfInBounds_toArray, List.set_cons_zero, List.set_cons_succ]) (hCont (v290, gb293) _ ⟨hHeld, (by (with_reducible repeat first | apply rA | apply rN | apply rD); exact Kd.R_mono HO291.out (fun _ hk => hk.2)), (by (with_reducible repeat first | apply rA | apply rN | apply rD); exact Kd.R_mono HO_288000.out (fun _ hk => hk.2)), (uB BK279), (uB BK280), (uB BK287), (uB BK293), GW293.out, GE293.out, NB279_293.out, NB293_279.out, NB280_293.out, NB293_280.out, NB287_293.out, NB293_287.out, (uL HB)⟩)
        ·skip
         refine bxS 8 #[.slice none 0 0] 30 ?_
         intro gb293 hg w22 hbox hb
         have n0_ := aM (Kd.R_below (uR HO_288000) hb); have n1_ := blkB BK279 hb; have n2_ := blkB BK280 hb; have n3_ := blkB BK287 hb
         have n4_ := aM (below_step (uL HB) hb)
         have n5_ := aM (hbox)
         have n6_ := szG hg (uL HB); have n7_ := szG hg (uL HB); have n8_ := neL hg BK279; have n9_ := neG hg BK279; have n10_ := neL hg BK280; have n11_ := neG hg BK280; have n12_ := neL hg BK287; have n13_ := neG hg BK287; clear HO_288000 BK279 BK280 BK287 HB; have HO_288000 := n0_; have BK279 := n1_; have BK280 := n2_; have BK287 := n3_; have HB := n4_; have BK293 := n5_; have GW293 := n6_; have GE293 := n7_; have NB279_293 := n8_; have NB293_279 := n9_; have NB280_293 := n10_; have NB293_280 := n11_; have NB287_293 := n12_; have NB293_287 := n13_; clear n0_ n1_ n2_ n3_ n4_ n5_ n6_ n7_ n8_ n9_ n10_ n11_ n12_ n13_ hb hbox hg
         refine hK.out _ _ ⟨(blk_cell BK287.out 0).trans rfl, (hyB HB hw288_0), (hyB HB hw288_1), (hyB HB hw288_2), (hyB HB hw288_3)⟩ (fun hHeld => ?_)
         clear hK K
         refine nX 8 ?_
         refine oA HT_.out 5 (some 27) 12 575 (fun K hK => ?_)
         refine gX Try.func38 #[.agg #[.slice Ao20 x288000_1.length co20], .agg #[.int .i64 ((rd_T55 l1 x7_1).f0), .string ((rd_T55 l1 x7_1).f1), .string ((rd_T55 l1 x7_1).f2), .string ((rd_T55 l1 x7_1).f3)]] ?_
         with_reducible refine (spec_DoAct.calls k1 _ _ x288000_1 ((rd_T55 l1 x7_1).f0) ((rd_T55 l1 x7_1).f1) ((rd_T55 l1 x7_1).f2) ((rd_T55 l1 x7_1).f3) t289 true _ ?side1 ?side2 A18.out).mono ?_
         (case side1 => repeat (first | exact (Kd.R_reads' HO_288000.out).2.2 | (with_reducible refine cA ?_ _) | (with_reducible refine cN ?_ _) | (with_reducible refine cD ?_)))
         (case side2 => exact (Kd.R_reads' HO_288000.out).2.1)
         rintro e w23 ⟨v290, rfl, ho0, hb⟩
         refine ⟨_, rfl, ?_⟩
         have HO291 := aM (Kd.R_lower (Kd.R_new' ho0 (Kd.R_lt (uR HO_288000))) (below_size (uL HB)))
         replace HO_288000 := aM (Kd.R_elder' (uR HO_288000) (Kd.R_base ho0) hb)
         replace BK279 := blkB BK279 hb
         replace BK280 := blkB BK280 hb
         replace BK287 := blkB BK287 hb
         replace BK293 := blkB BK293 hb
         replace HB := aM (below_step (uL HB) hb)
         (try clear hb)
         (try clear hb2)
         (try clear hk)
         (try clear hi)
         (try clear ho0)
         refine hK.out _ _ ⟨(blk_cell BK287.out 0).trans rfl, (hyB HB hw288_0), (hyB HB hw288_1), (hyB HB hw288_2), (hyB HB hw288_3)⟩ (fun hHeld => ?_)
         clear hK K
         refine nX 27 ?_; refine pA HT_.out 6 21 12 639 ?_; refine pA HT_.out 7 28 12 767 ?_; refine pA HT_.out 8 29 12 1023 ?_
         exact norm_ (by simp only [putAll, Act.put, List.setIfInBounds_toArray, List.set_cons_zero, List.set_cons_succ]) (hCont (v290, gb293) _ ⟨hHeld, (by (with_reducible repeat first | apply rA | apply rN | apply rD); exact Kd.R_mono HO291.out (fun _ hk => hk.2)), (by (with_reducible repeat first | apply rA | apply rN | apply rD); exact Kd.R_mono HO_288000.out (fun _ hk => hk.2)), (uB BK279), (uB BK280), (uB BK287), (uB BK293), GW293.out, GE293.out, NB279_293.out, NB293_279.out, NB280_293.out, NB293_280.out, NB287_293.out, NB293_287.out, (uL HB)⟩)
       rintro ⟨v290, gb293⟩ w24 ⟨hS_, h0_, h1_, h2_, h3_, h4_, h5_, h6_, h7_, h8_, h9_, h10_, h11_, h12_, h13_, h14_⟩
       have n0_ : Aside0 (Kd.R k45 45 w24 w.heap.size (fun k_ => some k_ ≠ (.slice Ao20 x288000_1.length co20 : Value).ownBlock) v290 t289) := ⟨h0_⟩
       have n1_ : Aside0 (Kd.R k45 45 w24 w.heap.size (fun k_ => some k_ ≠ (v290 : Value).ownBlock) (.slice Ao20 x288000_1.length co20) x288000_1) := ⟨h1_⟩
       have n2_ : Aside0 (w24.heap[gb279]? = some (.cells #[.slice A0_0 l0_0.length c0_0] 30 (0, 0))) := ⟨h2_⟩
       have n3_ : Aside0 (w24.heap[gb280]? = some (.cells #[.slice none 0 0] 30 (0, 0))) := ⟨h3_⟩
       have n4_ : Aside0 (w24.heap[gb287]? = some (.cells #[.slice Ao20 x288000_1.length co20] 30 (0, 0))) := ⟨h4_⟩
       have n5_ : Aside0 (w24.heap[gb293]? = some (.cells #[.slice none 0 0] 30 (0, 0))) := ⟨h5_⟩
       have n6_ : Aside0 (w.heap.size ≤ gb293) := ⟨h6_⟩
       have n7_ : Aside0 (w.heap.size ≤ gb293) := ⟨h7_⟩
       have n8_ : Aside0 (gb279 ≠ gb293) := ⟨h8_⟩
       have n9_ : Aside0 (gb293 ≠ gb279) := ⟨h9_⟩
       have n10_ : Aside0 (gb280 ≠ gb293) := ⟨h10_⟩
       have n11_ : Aside0 (gb293 ≠ gb280) := ⟨h11_⟩
       have n12_ : Aside0 (gb287 ≠ gb293) := ⟨h12_⟩
       have n13_ : Aside0 (gb293 ≠ gb287) := ⟨h13_⟩
       have n14_ : Aside0 (Below w.heap.size w w24) := ⟨h14_⟩
       clear HO_288000 BK279 BK280 BK287 HB h0_ h1_ h2_ h3_ h4_ h5_ h6_ h7_ h8_ h9_ h10_ h11_ h12_ h13_ h14_; have HO291 := n0_; have HO_288000 := n1_; have BK279 := n2_; have BK280 := n3_; have BK287 := n4_; have BK293 := n5_; have GW293 := n6_; have GE293 := n7_; have NB279_293 := n8_; have NB293_279 := n9_; have NB280_293 := n10_; have NB293_280 := n11_; have NB287_293 := n12_; have NB293_287 := n13_; have HB := n14_; clear n0_ n1_ n2_ n3_ n4_ n5_ n6_ n7_ n8_ n9_ n10_ n11_ n12_ n13_ n14_
       have hHeld : w24.cell? ⟨gb287, 0, none⟩ = some (.slice Ao20 x288000_1.length co20) ∧ w24.cell? (ad288.add ((x7_1).toNat * 4)) = some (.int .i64 ((rd_T55 l1 x7_1).f0)) ∧ w24.cell? ⟨(ad288.add ((x7_1).toNat * 4)).block, (ad288.add ((x7_1).toNat * 4)).off + 1, none⟩ = some (.string ((rd_T55 l1 x7_1).f1)) ∧ w24.cell? ⟨(ad288.add ((x7_1).toNat * 4)).block, (ad288.add ((x7_1).toNat * 4)).off + 2, none⟩ = some (.string ((rd_T55 l1 x7_1).f2)) ∧ w24.cell? ⟨(ad288.add ((x7_1).toNat * 4)).block, (ad288.add ((x7_1).toNat * 4)).off + 3, none⟩ = some (.string ((rd_T55 l1 x7_1).f3)) := hS_
       obtain ⟨Ao25, co25, eo25⟩ := Kd.R_slice HO291.out
       (first | subst eo25 | (injection eo25 with f1_ f2_ f3_; have f4_ := f1_.symm; have f5_ := f3_.symm; clear f1_ f2_ f3_; subst f4_; subst f5_))
       refine norm_ (a' := ?_) ?_ ?_
       rotate_left
       ·simp only [putAll, Act.put, List.setIfInBounds_toArray, List.set_cons_zero, List.set_cons_succ]
        rfl
       refine oA HT_.out 10 none 12 2047 (fun K hK => ?_)
       have hs26 := czA BK293.out 0 (.slice none 0 0)
       have hfs26 := blk_frozen BK293.out 0; have hns26_0 := NB279_293.out; have hns26_1 := NB280_293.out; have hns26_2 := NB287_293.out; have hms26_0 := NB293_279.out; have hms26_1 := NB293_280.out; have hms26_2 := NB293_287.out
       refine skip_ (w1 := ?_) (by rfl) rfl ?_ ?_
       rotate_left
       ·go_simp
        rfl
       refine hK.out _ _ ⟨((cell_far (p := ⟨gb293, _, none⟩) NB287_293.out _).trans (hHeld.1)), ((cell_far (p := ⟨gb293, _, none⟩) (by first | exact Nat.ne_of_lt (Nat.lt_of_lt_of_le (by have := World.block_lt_of_cell? _ _ hw288_0; first | rwa [add_block] at this | exact this) GW293.out) | (rw [add_block]; exact Nat.ne_of_lt (Nat.lt_of_lt_of_le (by have := World.block_lt_of_cell? _ _ hw288_0; first | rwa [add_block] at this | exact this) GW293.out)) | (show (Addr.add _ _).block ≠ _; rw [add_block]; exact Nat.ne_of_lt (Nat.lt_of_lt_of_le (by have := World.block_lt_of_cell? _ _ hw288_0; first | rwa [add_block] at this | exact this) GW293.out)) | (dsimp only; exact Nat.ne_of_lt (Nat.lt_of_lt_of_le (by have := World.block_lt_of_cell? _ _ hw288_0; first | rwa [add_block] at this | exact this) GW293.out))) _).trans (hHeld.2.1)), ((cell_far (p := ⟨gb293, _, none⟩) (by first | exact Nat.ne_of_lt (Nat.lt_of_lt_of_le (by have := World.block_lt_of_cell? _ _ hw288_1; first | rwa [add_block] at this | exact this) GW293.out) | (rw [add_block]; exact Nat.ne_of_lt (Nat.lt_of_lt_of_le (by have := World.block_lt_of_cell? _ _ hw288_1; first | rwa [add_block] at this | exact this) GW293.out)) | (show (Addr.add _ _).block ≠ _; rw [add_block]; exact Nat.ne_of_lt (Nat.lt_of_lt_of_le (by have := World.block_lt_of_cell? _ _ hw288_1; first | rwa [add_block] at this | exact this) GW293.out)) | (dsimp only; exact Nat.ne_of_lt (Nat.lt_of_lt_of_le (by have := World.block_lt_of_cell? _ _ hw288_1; first | rwa [add_block] at this | exact this) GW293.out))) _).trans (hHeld.2.2.1)), ((cell_far (p := ⟨gb293, _, none⟩) (by first | exact Nat.ne_of_lt (Nat.lt_of_lt_of_le (by have := World.block_lt_of_cell? _ _ hw288_2; first | rwa [add_block] at this | exact this) GW293.out) | (rw [add_block]; exact Nat.ne_of_lt (Nat.lt_of_lt_of_le (by have := World.block_lt_of_cell? _ _ hw288_2; first | rwa [add_block] at this | exact this) GW293.out)) | (show (Addr.add _ _).block ≠ _; rw [add_block]; exact Nat.ne_of_lt (Nat.lt_of_lt_of_le (by have := World.block_lt_of_cell? _ _ hw288_2; first | rwa [add_block] at this | exact this) GW293.out)) | (dsimp only; exact Nat.ne_of_lt (Nat.lt_of_lt_of_le (by have := World.block_lt_of_cell? _ _ hw288_2; first | rwa [add_block] at this | exact this) GW293.out))) _).trans (hHeld.2.2.2.1)), ((cell_far (p := ⟨gb293, _, none⟩) (by first | exact Nat.ne_of_lt (Nat.lt_of_lt_of_le (by have := World.block_lt_of_cell? _ _ hw288_3; first | rwa [add_block] at this | exact this) GW293.out) | (rw [add_block]; exact Nat.ne_of_lt (Nat.lt_of_lt_of_le (by have := World.block_lt_of_cell? _ _ hw288_3; first | rwa [add_block] at this | exact this) GW293.out)) | (show (Addr.add _ _).block ≠ _; rw [add_block]; exact Nat.ne_of_lt (Nat.lt_of_lt_of_le (by have := World.block_lt_of_cell? _ _ hw288_3; first | rwa [add_block] at this | exact this) GW293.out)) | (dsimp only; exact Nat.ne_of_lt (Nat.lt_of_lt_of_le (by have := World.block_lt_of_cell? _ _ hw288_3; first | rwa [add_block] at this | exact this) GW293.out))) _).trans (hHeld.2.2.2.2))⟩ (fun hHeld => ?_)
       clear hK K
       refine pA HT_.out 11 9 12 4095 ?_
       refine done_ (done_of HT_.out (by kernel_rfl)) ?_
       have hnb27 := NB293_279.out; have hnc27 := NB279_293.out; have hnb28 := NB293_280.out; have hnc28 := NB280_293.out; have hnb29 := NB293_287.out; have hnc29 := NB287_293.out
       have hcz30_0 := czA BK293.out 0 (.slice none 0 0)
       have hfz30_0 := blk_frozen BK293.out 0; have hnb31 := NB287_279.out; have hnc31 := NB279_287.out; have hnb32 := NB287_280.out; have hnc32 := NB280_287.out
       have hcz33_0 := czA BK287.out 0 (.slice Ao20 x288000_1.length co20)
       have hfz33_0 := blk_frozen BK287.out 0
       try go_wp2
       go_roundg k1
       case measure => have := HK1.out; omega
       case rel => exact ⟨(wrap64 (x7_1 + 1)), (t289), (.slice Ao25 t289.length co25), (by first | rfl | (simp; done) | (simp [*]; done)), H', ⟨by have := HK1.out; omega⟩, ⟨by (with_reducible repeat first | apply rA | apply rN | apply rD); exact Kd.R_mono (Kd.R_far (p := ⟨gb287, 0, none⟩) (Kd.R_far (p := ⟨gb293, 0, none⟩) (Kd.R_types (Kd.R_types HO291.out BK293.out (by decide)) BK287.out (by decide)) (fun _ hk => hk.1.2) (.slice Ao25 t289.length co25)) (fun _ hk => hk.2) (.slice Ao25 t289.length co25)) (fun _ hk => trivial)⟩, ⟨by refine nB ?_; refine blk_far ?_ NB279_287.out _; refine nB ?_; refine blk_far ?_ NB279_293.out _; exact nB BK279.out⟩, ⟨by refine nB ?_; refine blk_far ?_ NB280_287.out _; refine nB ?_; refine blk_far ?_ NB280_293.out _; exact nB BK280.out⟩, ⟨by refine nB ?_; refine blk_put (cs := #[.slice Ao20 x288000_1.length co20]) ?_ 0 _ rfl; refine nB ?_; refine blk_far ?_ NB287_293.out _; exact nB BK287.out⟩, ⟨uL HB⟩⟩
      ·replace c19 := Bool.eq_false_iff.mpr c19
       subst c19
       have H1 : (some (x288000_1, x7_1)) = some (r1, r2) := by rw [if_neg (show ¬ (false = true) by decide)] at H; exact H
       clear H; have H := H1; clear H1
       simp only [Option.some.injEq, Prod.mk.injEq] at H
       obtain ⟨rfl, rfl⟩ := H
       obtain ⟨Ao34, co34, eo34⟩ := Kd.R_slice HO_288000.out
       subst eo34
       try go_wp2
       replace HO_288000 := aM (Kd.R_drew HO_288000.out)
       replace BK279 := aM (blk_drew BK279.out)
       replace BK280 := aM (blk_drew BK280.out)
       replace BK287 := aM (blk_drew BK287.out)
       replace HB := aM (below_drew1 HB.out)
       have p288 : 0 ≤ (x7_1 : Int) := of_decide_eq_true (by first | (with_reducible assumption) | assumption)
       have q288 : x7_1 < (l1.length : Int) := of_decide_eq_true (by first | (with_reducible assumption) | assumption)
       obtain ⟨ad288, e288, hx288_0, hx288_1, hx288_2, hx288_3⟩ := at_T55 HR1.out x7_1 p288 q288
       have hw288_3 := hx288_3; have hw288_2 := hx288_2; have hw288_1 := hx288_1; have hw288_0 := hx288_0
       cases e288
       replace hx288_0 := hxB HB hx288_0; replace hx288_1 := hxB HB hx288_1; replace hx288_2 := hxB HB hx288_2; replace hx288_3 := hxB HB hx288_3; replace p288 := eq_true p288; replace q288 := eq_true q288
       refine start_ (n := 12) (S := fun w' => w'.cell? ⟨gb287, 0, none⟩ = some (.slice Ao34 x288000_1.length co34) ∧ w'.cell? (ad288.add ((x7_1).toNat * 4)) = some (.int .i64 ((rd_T55 l1 x7_1).f0)) ∧ w'.cell? ⟨(ad288.add ((x7_1).toNat * 4)).block, (ad288.add ((x7_1).toNat * 4)).off + 1, none⟩ = some (.string ((rd_T55 l1 x7_1).f1)) ∧ w'.cell? ⟨(ad288.add ((x7_1).toNat * 4)).block, (ad288.add ((x7_1).toNat * 4)).off + 2, none⟩ = some (.string ((rd_T55 l1 x7_1).f2)) ∧ w'.cell? ⟨(ad288.add ((x7_1).toNat * 4)).block, (ad288.add ((x7_1).toNat * 4)).off + 3, none⟩ = some (.string ((rd_T55 l1 x7_1).f3))) (ds := []) (bB 12 0) (by kernel_rfl) rfl rfl ⟨(blk_cell BK287.out 0).trans rfl, (hyB HB hw288_0), (hyB HB hw288_1), (hyB HB hw288_2), (hyB HB hw288_3)⟩ (fun hHeld => ?_); refine with_tabW spec_DoActs.tab5 spec_DoActs.bits5 (fun HT_ HW_ => ?_)
       generalize wr.drew = w35 at HO_288000 BK279 BK280 BK287 HB hx288_0 hx288_1 hx288_2 hx288_3 hHeld ⊢
       refine pA HT_.out 1 23 12 2 ?_; refine pA HT_.out 2 24 12 6 ?_; refine pA HT_.out 3 25 12 14 ?_; refine tA HT_.out HW_.out 0 22 12 15 hHeld ?_; refine tA HT_.out HW_.out 4 26 12 31 hHeld ?_
       refine join_ (σ := Value × Nat) 2 #[true, true, true, true, true, true, true, true, true, true, false, false] (fun s_ => [(27, .tuple #[.agg #[s_.1], .bool false]), (8, .pointer (some ⟨s_.2, 0, none⟩)), (21, .tuple #[.agg #[s_.1], .bool false]), (28, .agg #[s_.1]), (29, .bool false)]) (fun s_ w' => (w'.cell? ⟨gb287, 0, none⟩ = some (.slice Ao34 x288000_1.length co34) ∧ w'.cell? (ad288.add ((x7_1).toNat * 4)) = some (.int .i64 ((rd_T55 l1 x7_1).f0)) ∧ w'.cell? ⟨(ad288.add ((x7_1).toNat * 4)).block, (ad288.add ((x7_1).toNat * 4)).off + 1, none⟩ = some (.string ((rd_T55 l1 x7_1).f1)) ∧ w'.cell? ⟨(ad288.add ((x7_1).toNat * 4)).block, (ad288.add ((x7_1).toNat * 4)).off + 2, none⟩ = some (.string ((rd_T55 l1 x7_1).f2)) ∧ w'.cell? ⟨(ad288.add ((x7_1).toNat * 4)).block, (ad288.add ((x7_1).toNat * 4)).off + 3, none⟩ = some (.string ((rd_T55 l1 x7_1).f3))) ∧ (Kd.R k45 45 w' w.heap.size (fun k_ => some k_ ≠ (.slice Ao34 x288000_1.length co34 : Value).ownBlock) s_.1 t289) ∧ (Kd.R k45 45 w' w.heap.size (fun k_ => some k_ ≠ (s_.1 : Value).ownBlock) (.slice Ao34 x288000_1.length co34) x288000_1) ∧ (w'.heap[gb279]? = some (.cells #[.slice A0_0 l0_0.length c0_0] 30 (0, 0))) ∧ (w'.heap[gb280]? = some (.cells #[.slice none 0 0] 30 (0, 0))) ∧ (w'.heap[gb287]? = some (.cells #[.slice Ao34 x288000_1.length co34] 30 (0, 0))) ∧ (w'.heap[s_.2]? = some (.cells #[.slice none 0 0] 30 (0, 0))) ∧ (w.heap.size ≤ s_.2) ∧ (w.heap.size ≤ s_.2) ∧ (gb279 ≠ s_.2) ∧ (s_.2 ≠ gb279) ∧ (gb280 ≠ s_.2) ∧ (s_.2 ≠ gb280) ∧ (gb287 ≠ s_.2) ∧ (s_.2 ≠ gb287) ∧ (Below w.heap.size w w')) ?_ ?_
       rotate_left
       ·intro hCont
        refine two_ (i := 5) (j := 9) (Ni := some 27) (Nj := some 8) #[true, true, true, true, true, true, false, false, false, false, false, false] #[true, true, true, true, true, false, false, false, false, true, false, false] rfl rfl rfl rfl (two_of HT_.out (by kernel_rfl)) (by decide) (by decide) (fun K hK => ?_) (fun K hK => ?_)
        ·skip
         refine gX Try.func38 #[.agg #[.slice Ao34 x288000_1.length co34], .agg #[.int .i64 ((rd_T55 l1 x7_1).f0), .string ((rd_T55 l1 x7_1).f1), .string ((rd_T55 l1 x7_1).f2), .string ((rd_T55 l1 x7_1).f3)]] ?_
         with_reducible refine (spec_DoAct.calls k1 _ _ x288000_1 ((rd_T55 l1 x7_1).f0) ((rd_T55 l1 x7_1).f1) ((rd_T55 l1 x7_1).f2) ((rd_T55 l1 x7_1).f3) t289 false _ ?side1 ?side2 A18.out).mono ?_
         (case side1 => repeat (first | exact (Kd.R_reads' HO_288000.out).2.2 | (with_reducible refine cA ?_ _) | (with_reducible refine cN ?_ _) | (with_reducible refine cD ?_)))
         (case side2 => exact (Kd.R_reads' HO_288000.out).2.1)
         rintro e w36 ⟨v290, rfl, ho0, hb⟩
         refine ⟨_, rfl, ?_⟩
         have HO291 := aM (Kd.R_lower (Kd.R_new' ho0 (Kd.R_lt (uR HO_288000))) (below_size (uL HB)))
         replace HO_288000 := aM (Kd.R_elder' (uR HO_288000) (Kd.R_base ho0) hb)
         replace BK279 := blkB BK279 hb
         replace BK280 := blkB BK280 hb
         replace BK287 := blkB BK287 hb
         replace HB := aM (below_step (uL HB) hb)
         (try clear hb)
         (try clear hb2)
         (try clear hk)
         (try clear hi)
         (try clear ho0)
         refine hK.out _ _ ⟨(blk_cell BK287.out 0).trans rfl, (hyB HB hw288_0), (hyB HB hw288_1), (hyB HB hw288_2), (hyB HB hw288_3)⟩ (fun hHeld => ?_)
         clear hK K
         refine nX 27 ?_; refine pA HT_.out 6 21 12 127 ?_; refine pA HT_.out 7 28 12 255 ?_; refine pA HT_.out 8 29 12 511 ?_
         refine oA HT_.out 9 (some 8) 12 1023 (fun K hK => ?_)
         refine bxS 8 #[.slice none 0 0] 30 ?_
         intro gb293 hg w37 hbox hb
         have n0_ := aM (Kd.R_below (uR HO_288000) hb); have n1_ := aM (Kd.R_below (uR HO291) hb); have n2_ := blkB BK279 hb; have n3_ := blkB BK280 hb; have n4_ := blkB BK287 hb
         have n5_ := aM (below_step (uL HB) hb)
         have n6_ := aM (hbox)
         have n7_ := szG hg (uL HB); have n8_ := szG hg (uL HB); have n9_ := neL hg BK279; have n10_ := neG hg BK279; have n11_ := neL hg BK280; have n12_ := neG hg BK280; have n13_ := neL hg BK287; have n14_ := neG hg BK287; clear HO_288000 HO291 BK279 BK280 BK287 HB; have HO_288000 := n0_; have HO291 := n1_; have BK279 := n2_; have BK280 := n3_; have BK287 := n4_; have HB := n5_; have BK293 := n6_; have GW293 := n7_; have GE293 := n8_; have NB279_293 := n9_; have NB293_279 := n10_; have NB280_293 := n11_; have NB293_280 := n12_; have NB287_293 := n13_; have NB293_287 := n14_; clear n0_ n1_ n2_ n3_ n4_ n5_ n6_ n7_ n8_ n9_ n10_ n11_ n12_ n13_ n14_ hb hbox hg
         refine hK.out _ _ ⟨(blk_cell BK287.out 0).trans rfl, (hyB HB hw288_0), (hyB HB hw288_1), (hyB HB hw288_2), (hyB HB hw288_3)⟩ (fun hHeld => ?_)
         clear hK K
         refine nX 8 ?_
         exact norm_ (by simp only [putAll, Act.put, List.setIfInBounds_toArray, List.set_cons_zero, List.set_cons_succ]) (hCont (v290, gb293) _ ⟨hHeld, (by (with_reducible repeat first | apply rA | apply rN | apply rD); exact Kd.R_mono HO291.out (fun _ hk => hk.2)), (by (with_reducible repeat first | apply rA | apply rN | apply rD); exact Kd.R_mono HO_288000.out (fun _ hk => hk.2)), (uB BK279), (uB BK280), (uB BK287), (uB BK293), GW293.out, GE293.out, NB279_293.out, NB293_279.out, NB280_293.out, NB293_280.out, NB287_293.out, NB293_287.out, (uL HB)⟩)
        ·skip
         refine bxS 8 #[.slice none 0 0] 30 ?_
         intro gb293 hg w36 hbox hb
         have n0_ := aM (Kd.R_below (uR HO_288000) hb); have n1_ := blkB BK279 hb; have n2_ := blkB BK280 hb; have n3_ := blkB BK287 hb
         have n4_ := aM (below_step (uL HB) hb)
         have n5_ := aM (hbox)
         have n6_ := szG hg (uL HB); have n7_ := szG hg (uL HB); have n8_ := neL hg BK279; have n9_ := neG hg BK279; have n10_ := neL hg BK280; have n11_ := neG hg BK280; have n12_ := neL hg BK287; have n13_ := neG hg BK287; clear HO_288000 BK279 BK280 BK287 HB; have HO_288000 := n0_; have BK279 := n1_; have BK280 := n2_; have BK287 := n3_; have HB := n4_; have BK293 := n5_; have GW293 := n6_; have GE293 := n7_; have NB279_293 := n8_; have NB293_279 := n9_; have NB280_293 := n10_; have NB293_280 := n11_; have NB287_293 := n12_; have NB293_287 := n13_; clear n0_ n1_ n2_ n3_ n4_ n5_ n6_ n7_ n8_ n9_ n10_ n11_ n12_ n13_ hb hbox hg
         refine hK.out _ _ ⟨(blk_cell BK287.out 0).trans rfl, (hyB HB hw288_0), (hyB HB hw288_1), (hyB HB hw288_2), (hyB HB hw288_3)⟩ (fun hHeld => ?_)
         clear hK K
         refine nX 8 ?_
         refine oA HT_.out 5 (some 27) 12 575 (fun K hK => ?_)
         refine gX Try.func38 #[.agg #[.slice Ao34 x288000_1.length co34], .agg #[.int .i64 ((rd_T55 l1 x7_1).f0), .string ((rd_T55 l1 x7_1).f1), .string ((rd_T55 l1 x7_1).f2), .string ((rd_T55 l1 x7_1).f3)]] ?_
         with_reducible refine (spec_DoAct.calls k1 _ _ x288000_1 ((rd_T55 l1 x7_1).f0) ((rd_T55 l1 x7_1).f1) ((rd_T55 l1 x7_1).f2) ((rd_T55 l1 x7_1).f3) t289 false _ ?side1 ?side2 A18.out).mono ?_
         (case side1 => repeat (first | exact (Kd.R_reads' HO_288000.out).2.2 | (with_reducible refine cA ?_ _) | (with_reducible refine cN ?_ _) | (with_reducible refine cD ?_)))
         (case side2 => exact (Kd.R_reads' HO_288000.out).2.1)
         rintro e w37 ⟨v290, rfl, ho0, hb⟩
         refine ⟨_, rfl, ?_⟩
         have HO291 := aM (Kd.R_lower (Kd.R_new' ho0 (Kd.R_lt (uR HO_288000))) (below_size (uL HB)))
         replace HO_288000 := aM (Kd.R_elder' (uR HO_288000) (Kd.R_base ho0) hb)
         replace BK279 := blkB BK279 hb
         replace BK280 := blkB BK280 hb
         replace BK287 := blkB BK287 hb
         replace BK293 := blkB BK293 hb
         replace HB := aM (below_step (uL HB) hb)
         (try clear hb)
         (try clear hb2)
         (try clear hk)
         (try clear hi)
         (try clear ho0)
         refine hK.out _ _ ⟨(blk_cell BK287.out 0).trans rfl, (hyB HB hw288_0), (hyB HB hw288_1), (hyB HB hw288_2), (hyB HB hw288_3)⟩ (fun hHeld => ?_)
         clear hK K
         refine nX 27 ?_; refine pA HT_.out 6 21 12 639 ?_; refine pA HT_.out 7 28 12 767 ?_; refine pA HT_.out 8 29 12 1023 ?_
         exact norm_ (by simp only [putAll, Act.put, List.setIfInBounds_toArray, List.set_cons_zero, List.set_cons_succ]) (hCont (v290, gb293) _ ⟨hHeld, (by (with_reducible repeat first | apply rA | apply rN | apply rD); exact Kd.R_mono HO291.out (fun _ hk => hk.2)), (by (with_reducible repeat first | apply rA | apply rN | apply rD); exact Kd.R_mono HO_288000.out (fun _ hk => hk.2)), (uB BK279), (uB BK280), (uB BK287), (uB BK293), GW293.out, GE293.out, NB279_293.out, NB293_279.out, NB280_293.out, NB293_280.out, NB287_293.out, NB293_287.out, (uL HB)⟩)
       rintro ⟨v290, gb293⟩ w38 ⟨hS_, h0_, h1_, h2_, h3_, h4_, h5_, h6_, h7_, h8_, h9_, h10_, h11_, h12_, h13_, h14_⟩
       have n0_ : Aside0 (Kd.R k45 45 w38 w.heap.size (fun k_ => some k_ ≠ (.slice Ao34 x288000_1.length co34 : Value).ownBlock) v290 t289) := ⟨h0_⟩
       have n1_ : Aside0 (Kd.R k45 45 w38 w.heap.size (fun k_ => some k_ ≠ (v290 : Value).ownBlock) (.slice Ao34 x288000_1.length co34) x288000_1) := ⟨h1_⟩
       have n2_ : Aside0 (w38.heap[gb279]? = some (.cells #[.slice A0_0 l0_0.length c0_0] 30 (0, 0))) := ⟨h2_⟩
       have n3_ : Aside0 (w38.heap[gb280]? = some (.cells #[.slice none 0 0] 30 (0, 0))) := ⟨h3_⟩
       have n4_ : Aside0 (w38.heap[gb287]? = some (.cells #[.slice Ao34 x288000_1.length co34] 30 (0, 0))) := ⟨h4_⟩
       have n5_ : Aside0 (w38.heap[gb293]? = some (.cells #[.slice none 0 0] 30 (0, 0))) := ⟨h5_⟩
       have n6_ : Aside0 (w.heap.size ≤ gb293) := ⟨h6_⟩
       have n7_ : Aside0 (w.heap.size ≤ gb293) := ⟨h7_⟩
       have n8_ : Aside0 (gb279 ≠ gb293) := ⟨h8_⟩
       have n9_ : Aside0 (gb293 ≠ gb279) := ⟨h9_⟩
       have n10_ : Aside0 (gb280 ≠ gb293) := ⟨h10_⟩
       have n11_ : Aside0 (gb293 ≠ gb280) := ⟨h11_⟩
       have n12_ : Aside0 (gb287 ≠ gb293) := ⟨h12_⟩
       have n13_ : Aside0 (gb293 ≠ gb287) := ⟨h13_⟩
       have n14_ : Aside0 (Below w.heap.size w w38) := ⟨h14_⟩
       clear HO_288000 BK279 BK280 BK287 HB h0_ h1_ h2_ h3_ h4_ h5_ h6_ h7_ h8_ h9_ h10_ h11_ h12_ h13_ h14_; have HO291 := n0_; have HO_288000 := n1_; have BK279 := n2_; have BK280 := n3_; have BK287 := n4_; have BK293 := n5_; have GW293 := n6_; have GE293 := n7_; have NB279_293 := n8_; have NB293_279 := n9_; have NB280_293 := n10_; have NB293_280 := n11_; have NB287_293 := n12_; have NB293_287 := n13_; have HB := n14_; clear n0_ n1_ n2_ n3_ n4_ n5_ n6_ n7_ n8_ n9_ n10_ n11_ n12_ n13_ n14_
       have hHeld : w38.cell? ⟨gb287, 0, none⟩ = some (.slice Ao34 x288000_1.length co34) ∧ w38.cell? (ad288.add ((x7_1).toNat * 4)) = some (.int .i64 ((rd_T55 l1 x7_1).f0)) ∧ w38.cell? ⟨(ad288.add ((x7_1).toNat * 4)).block, (ad288.add ((x7_1).toNat * 4)).off + 1, none⟩ = some (.string ((rd_T55 l1 x7_1).f1)) ∧ w38.cell? ⟨(ad288.add ((x7_1).toNat * 4)).block, (ad288.add ((x7_1).toNat * 4)).off + 2, none⟩ = some (.string ((rd_T55 l1 x7_1).f2)) ∧ w38.cell? ⟨(ad288.add ((x7_1).toNat * 4)).block, (ad288.add ((x7_1).toNat * 4)).off + 3, none⟩ = some (.string ((rd_T55 l1 x7_1).f3)) := hS_
       obtain ⟨Ao39, co39, eo39⟩ := Kd.R_slice HO291.out
       (first | subst eo39 | (injection eo39 with f1_ f2_ f3_; have f4_ := f1_.symm; have f5_ := f3_.symm; clear f1_ f2_ f3_; subst f4_; subst f5_))
       refine norm_ (a' := ?_) ?_ ?_
       rotate_left
       ·simp only [putAll, Act.put, List.setIfInBounds_toArray, List.set_cons_zero, List.set_cons_succ]
        rfl
       refine oA HT_.out 10 none 12 2047 (fun K hK => ?_)
       have hs40 := czA BK293.out 0 (.slice none 0 0)
       have hfs40 := blk_frozen BK293.out 0; have hns40_0 := NB279_293.out; have hns40_1 := NB280_293.out; have hns40_2 := NB287_293.out; have hms40_0 := NB293_279.out; have hms40_1 := NB293_280.out; have hms40_2 := NB293_287.out
       refine skip_ (w1 := ?_) (by rfl) rfl ?_ ?_
       rotate_left
       ·go_simp
        rfl
       refine hK.out _ _ ⟨((cell_far (p := ⟨gb293, _, none⟩) NB287_293.out _).trans (hHeld.1)), ((cell_far (p := ⟨gb293, _, none⟩) (by first | exact Nat.ne_of_lt (Nat.lt_of_lt_of_le (by have := World.block_lt_of_cell? _ _ hw288_0; first | rwa [add_block] at this | exact this) GW293.out) | (rw [add_block]; exact Nat.ne_of_lt (Nat.lt_of_lt_of_le (by have := World.block_lt_of_cell? _ _ hw288_0; first | rwa [add_block] at this | exact this) GW293.out)) | (show (Addr.add _ _).block ≠ _; rw [add_block]; exact Nat.ne_of_lt (Nat.lt_of_lt_of_le (by have := World.block_lt_of_cell? _ _ hw288_0; first | rwa [add_block] at this | exact this) GW293.out)) | (dsimp only; exact Nat.ne_of_lt (Nat.lt_of_lt_of_le (by have := World.block_lt_of_cell? _ _ hw288_0; first | rwa [add_block] at this | exact this) GW293.out))) _).trans (hHeld.2.1)), ((cell_far (p := ⟨gb293, _, none⟩) (by first | exact Nat.ne_of_lt (Nat.lt_of_lt_of_le (by have := World.block_lt_of_cell? _ _ hw288_1; first | rwa [add_block] at this | exact this) GW293.out) | (rw [add_block]; exact Nat.ne_of_lt (Nat.lt_of_lt_of_le (by have := World.block_lt_of_cell? _ _ hw288_1; first | rwa [add_block] at this | exact this) GW293.out)) | (show (Addr.add _ _).block ≠ _; rw [add_block]; exact Nat.ne_of_lt (Nat.lt_of_lt_of_le (by have := World.block_lt_of_cell? _ _ hw288_1; first | rwa [add_block] at this | exact this) GW293.out)) | (dsimp only; exact Nat.ne_of_lt (Nat.lt_of_lt_of_le (by have := World.block_lt_of_cell? _ _ hw288_1; first | rwa [add_block] at this | exact this) GW293.out))) _).trans (hHeld.2.2.1)), ((cell_far (p := ⟨gb293, _, none⟩) (by first | exact Nat.ne_of_lt (Nat.lt_of_lt_of_le (by have := World.block_lt_of_cell? _ _ hw288_2; first | rwa [add_block] at this | exact this) GW293.out) | (rw [add_block]; exact Nat.ne_of_lt (Nat.lt_of_lt_of_le (by have := World.block_lt_of_cell? _ _ hw288_2; first | rwa [add_block] at this | exact this) GW293.out)) | (show (Addr.add _ _).block ≠ _; rw [add_block]; exact Nat.ne_of_lt (Nat.lt_of_lt_of_le (by have := World.block_lt_of_cell? _ _ hw288_2; first | rwa [add_block] at this | exact this) GW293.out)) | (dsimp only; exact Nat.ne_of_lt (Nat.lt_of_lt_of_le (by have := World.block_lt_of_cell? _ _ hw288_2; first | rwa [add_block] at this | exact this) GW293.out))) _).trans (hHeld.2.2.2.1)), ((cell_far (p := ⟨gb293, _, none⟩) (by first | exact Nat.ne_of_lt (Nat.lt_of_lt_of_le (by have := World.block_lt_of_cell? _ _ hw288_3; first | rwa [add_block] at this | exact this) GW293.out) | (rw [add_block]; exact Nat.ne_of_lt (Nat.lt_of_lt_of_le (by have := World.block_lt_of_cell? _ _ hw288_3; first | rwa [add_block] at this | exact this) GW293.out)) | (show (Addr.add _ _).block ≠ _; rw [add_block]; exact Nat.ne_of_lt (Nat.lt_of_lt_of_le (by have := World.block_lt_of_cell? _ _ hw288_3; first | rwa [add_block] at this | exact this) GW293.out)) | (dsimp only; exact Nat.ne_of_lt (Nat.lt_of_lt_of_le (by have := World.block_lt_of_cell? _ _ hw288_3; first | rwa [add_block] at this | exact this) GW293.out))) _).trans (hHeld.2.2.2.2))⟩ (fun hHeld => ?_)
       clear hK K
       refine pA HT_.out 11 9 12 4095 ?_
       refine done_ (done_of HT_.out (by kernel_rfl)) ?_
       have hnb41 := NB287_279.out; have hnc41 := NB279_287.out; have hnb42 := NB287_280.out; have hnc42 := NB280_287.out; have hnb43 := NB287_293.out; have hnc43 := NB293_287.out
       have hcz44_0 := czA BK287.out 0 (.slice Ao34 x288000_1.length co34)
       have hfz44_0 := blk_frozen BK287.out 0; have hnb45 := NB280_279.out; have hnc45 := NB279_280.out; have hnb46 := NB280_293.out; have hnc46 := NB293_280.out
       have hcz47_0 := czA BK280.out 0 (.slice none 0 0)
       have hfz47_0 := blk_frozen BK280.out 0
       try go_wp2
       refine bodyPost_ret (results_ct rfl _ _ gb280 30 #[.slice Ao34 x288000_1.length co34] (0, 0) _ rfl (by refine nB ?_; refine blk_put (cs := #[.slice none 0 0]) ?_ 0 _ rfl; refine nB ?_; refine blk_far ?_ NB280_293.out _; exact nB BK280.out) Try.underlying30 rfl (by kernel_rfl)) rfl ?_
       exact ⟨_, by first | rfl | (simp [errW_none, errW_some] <;> rfl) | (simp [*, errW_none, errW_some] <;> rfl), by (with_reducible repeat first | apply rA | apply rN | apply rD); exact Kd.R_mono (Kd.R_far (p := ⟨gb280, 0, none⟩) (Kd.R_far (p := ⟨gb293, 0, none⟩) (Kd.R_types (Kd.R_types HO_288000.out BK293.out (by decide)) BK280.out (by decide)) (fun _ hk => hk.1.2) (.slice Ao39 t289.length co39)) (fun _ hk => hk.2) (.slice Ao34 x288000_1.length co34)) (fun _ hk => trivial), uL HB⟩
     ·rw [if_neg c17] at H
      exact absurd H (by simp)
    ·rw [if_neg c16] at H
     have c16b0 : decide (x7_1 < (l1.length : Int)) = false := decide_eq_false c16
     clear c16
     simp only [Option.some.injEq, Prod.mk.injEq] at H
     obtain ⟨rfl, rfl⟩ := H
     have hnb48 := NB287_279.out; have hnc48 := NB279_287.out; have hnb49 := NB287_280.out; have hnc49 := NB280_287.out
     have hcz50_0 := czA BK287.out 0 (u288000)
     have hfz50_0 := blk_frozen BK287.out 0
     obtain ⟨Ao51, co51, eo51⟩ := Kd.R_slice HO_288000.out
     subst eo51
     have hnb52 := NB280_279.out; have hnc52 := NB279_280.out
     have hcz53_0 := czA BK280.out 0 (.slice none 0 0)
     have hfz53_0 := blk_frozen BK280.out 0
     go_wp2
     refine bodyPost_ret (results_ct rfl _ _ gb280 30 #[.slice Ao51 x288000_1.length co51] (0, 0) _ rfl (by refine nB ?_; refine blk_put (cs := #[.slice none 0 0]) ?_ 0 _ rfl; exact nB BK280.out) Try.underlying30 rfl (by kernel_rfl)) rfl ?_
     exact ⟨_, by first | rfl | (simp [errW_none, errW_some] <;> rfl) | (simp [*, errW_none, errW_some] <;> rfl), by (with_reducible repeat first | apply rA | apply rN | apply rD); exact Kd.R_mono (Kd.R_far (p := ⟨gb280, 0, none⟩) (Kd.R_types HO_288000.out BK280.out (by decide)) (fun _ hk => hk.2) (.slice Ao51 x288000_1.length co51)) (fun _ hk => trivial), uL HB⟩
 ·rw [if_neg c3] at H
  exact absurd H (by simp)

end Go.Proofs.Ytidfhfaekdahpaa.QFnExactCutActs
