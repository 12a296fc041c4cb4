-- Own work (wip/turnprint.py over the kit's print).
import Derived.Test.YtidfhfaekdahpaaQFnActsx0
import Derived.Test.YtidfhfaekdahpaaQFnActsx6
import Derived.Test.YtidfhfaekdahpaaQFnActsx12
import Derived.Test.YtidfhfaekdahpaaQFnActsx18
namespace Go.Proofs.Ytidfhfaekdahpaa.QFnActs
open Go.RowKit Go.Proofs.YtidfhfaekdahpaaW.PrintWords Go.Proofs.YtidfhfaekdahpaaW.PrintLast Go.Proofs.YtidfhfaekdahpaaW.PrintMore
attribute [local go_sem] max2_int min2_int max_two min_two max_three min_three max_four min_four   -- for this text's walks alone
set_option linter.unusedVariables false
set_option linter.unusedSimpArgs false

/-! ### spec_CutActs: function 49 -/
def spec_CutActs.f (k : Nat) (l0_0 : List (S45)) (l1 : List (S55)) (a2 : Int) (l3 : List Int) : Option ((List (S45)) × Bool) := (spec_l01In.f a2 0 (l1.length : Int)).bind fun t448 => (if t448 = true then (if 0 ≤ a2 then (if a2 ≤ (l1.length : Int) then ((spec_DoActs.f k l0_0 (l1.take (a2 : Int).toNat)).bind fun bt453 => (if bt453.2 < a2 then (some (([] : List (S45)), false)) else ((spec_LoseDisk.f k bt453.1 l3).bind fun bt458 => (some (bt458.1, bt458.2))))) else (none)) else (none)) else (some (([] : List (S45)), false)))
theorem spec_CutActs.mono : ∀ a0 a1 a2 a3 k, LeO (spec_CutActs.f k a0 a1 a2 a3) (spec_CutActs.f (k + 1) a0 a1 a2 a3) := by
 intro a0 a1 a2 a3 k
 unfold spec_CutActs.f
 repeat' first
  | (with_reducible exact spec_DoActs.mono _ _ _)
  | (with_reducible exact spec_LoseDisk.mono _ _ _)
  | (with_reducible exact LeO.refl _)
  | (with_reducible exact LeO.none _)
  | (with_reducible refine LeO.ite ?_ ?_)
  | (with_reducible refine LeO.bind ?_ (fun _ => ?_))
  | exact spec_DoActs.mono _ _ _
  | exact spec_LoseDisk.mono _ _ _
  | exact LeO.none _
  | refine LeO.ite ?_ ?_
  | refine LeO.bind ?_ (fun _ => ?_)
def spec_CutActs.T3 : Bool × List (List Nat × List Nat) := (true, [([], []), ([], []), ([], []), ([1, 2], [1, 2]), ([0, 3], [0, 3]), ([4], [4]), ([5], [5]), ([5], [5]), ([], []), ([8, 6, 4, 0, 1, 2, 3, 4, 5, 6, 8], [6, 8]), ([7, 9, 0, 1, 2, 3, 4, 5, 6, 7, 8, 9], [7])])
def spec_CutActs.B3 : List Nat := [0, 0, 0, 6, 15, 31, 63, 63, 0, 383, 1023]
theorem spec_CutActs.tab3 : rtab .any (opsOf Try.f49 3) = spec_CutActs.T3 := by kernel_rfl
theorem spec_CutActs.bits3 : waitsOk spec_CutActs.T3.2 spec_CutActs.B3 = true := by kernel_rfl
set_option maxHeartbeats 8000000 in
set_option maxRecDepth 100000 in
theorem spec_CutActs.calls (k : Nat) (A0_0 : Option Addr) (c0_0 : Nat) (l0_0 : List (S45)) (A1 : Option Addr) (c1 : Nat) (l1 : List (S55)) (a2 : Int) (A3 : Option Addr) (c3 : Nat) (l3 : List Int) (r1 : List (S45)) (r2 : Bool) (w : World) (hr0_0 : Kd.C k45 w A0_0 l0_0.length l0_0) (hc0_0 : l0_0.length ≤ c0_0) (hr1 : Kd.C k55 w A1 l1.length l1) (hc1 : l1.length ≤ c1) (hr3 : Kd.C (Kd.int .i64) w A3 l3.length l3) (hc3 : l3.length ≤ c3) (h : spec_CutActs.f k l0_0 l1 a2 l3 = some (r1, r2)) :
 Calls Try.prog 49 #[.agg #[.slice A0_0 l0_0.length c0_0], .slice A1 l1.length c1, .int .i64 a2, .slice A3 l3.length c3] w fun e w' => ∃ v0_ : Value, e = .returned (.tuple #[.agg #[v0_], .bool r2]) ∧ Kd.R k45 45 w' w.heap.size (fun _ => True) v0_ r1 ∧ Below w.heap.size w w' := by
 have hu30 := Try.underlying30
 have HR0_0 := aM hr0_0
 have HC0_0 := aM hc0_0
 clear hr0_0 hc0_0
 have HR1 := aM hr1
 have HC1 := aM hc1
 clear hr1 hc1
 have HR3 := aM hr3
 have HC3 := aM hc3
 clear hr3 hc3
 have HB := aM (Below.refl w.heap.size w)
 have H : ((spec_l01In.f a2 0 (l1.length : Int)).bind fun t448 => (if t448 = true then (if 0 ≤ a2 then (if a2 ≤ (l1.length : Int) then ((spec_DoActs.f k l0_0 (l1.take (a2 : Int).toNat)).bind fun bt453 => (if bt453.2 < a2 then (some (([] : List (S45)), false)) else ((spec_LoseDisk.f k bt453.1 l3).bind fun bt458 => (some (bt458.1, bt458.2))))) else (none)) else (none)) else (some (([] : List (S45)), false)))) = some (r1, r2) := h
 clear h
 replace H := Option.bind_eq_some_iff.mp H
 obtain ⟨t448, A50, H⟩ := H
 try dsimp only at H
 have A5 := aM A50
 clear A50
 by_cases c6 : t448 = true
 ·subst c6
  rw [if_pos rfl] at H
  by_cases c7 : 0 ≤ a2
  ·rw [if_pos c7] at H
   have c7b0 := eq_true c7
   have c7b1 : decide (0 ≤ a2) = true := decide_eq_true c7
   clear c7
   by_cases c8 : a2 ≤ (l1.length : Int)
   ·rw [if_pos c8] at H
    have c8b0 := eq_true c8
    have c8b1 : decide (a2 ≤ (l1.length : Int)) = true := decide_eq_true c8
    clear c8
    obtain ⟨y449, hy449⟩ : ∃ y_ : List (S55), y_ = (l1.take (a2 : Int).toNat) := ⟨_, rfl⟩
    replace H : ((spec_DoActs.f k l0_0 y449).bind fun bt453 => (if bt453.2 < a2 then (some (([] : List (S45)), false)) else ((spec_LoseDisk.f k bt453.1 l3).bind fun bt458 => (some (bt458.1, bt458.2))))) = some (r1, r2) := by first | (rw [hy449]; with_reducible exact H) | (have H2_ := (Option.bind_some _ _).symm.trans H; rw [hy449]; with_reducible exact H2_) | (have H2_ := (Option.bind_some _ _).symm.trans H; with_reducible exact H2_) | with_reducible exact H | (rw [hy449]; exact H) | exact H
    have Ny449 := aM hy449
    clear hy449
    replace H := Option.bind_eq_some_iff.mp H
    obtain ⟨⟨t453, t456⟩, A90, H⟩ := H
    try dsimp only at H
    have A9 := aM A90
    clear A90
    by_cases c10 : t456 < a2
    ·rw [if_pos c10] at H
     have c10b0 : decide (t456 < a2) = true := decide_eq_true c10
     clear c10
     simp only [Option.some.injEq, Prod.mk.injEq] at H
     obtain ⟨rfl, rfl⟩ := H
     go_enter Try.func49, Try.ntmps49
     try go_wp2_with (first | ((with_reducible refine gate_dst (N := 4) rfl ?_); refine bxE 4 #[.slice A0_0 l0_0.length c0_0] 30 ?_; intro gb446 hg w11 hbox hb; have BK446 := aM (hbox); have GW446 := szG hg (uL HB); have GE446 := szG hg (uL HB); replace HB := aM (below_step (uL HB) hb); clear hb hbox hg) | ((with_reducible refine gate_dst (N := 8) rfl ?_); refine bxE 8 #[.slice none 0 0] 30 ?_; intro gb447 hg w12 hbox hb; have BK447 := aM (hbox); have GW447 := szG hg (uL HB); have GE447 := szG hg (uL HB); have NB446_447 := neL hg BK446; have NB447_446 := neG hg BK446; replace BK446 := blkB BK446 hb; replace HB := aM (below_step (uL HB) hb); clear hb hbox hg) | ((with_reducible refine gate_callee (f := 74) rfl ?_); refine gL (some 15) Try.func74 #[.int .i64 a2, .int .i64 0, .int .i64 (l1.length : Int)] ?_; (with_reducible refine (spec_l01In.calls a2 0 (l1.length : Int) true _ A5.out).mono ?_); rintro e w' ⟨rfl, ⟨nd, rfl⟩⟩; refine ⟨_, rfl, ?_⟩; (try (rw [drewN_self w12]; generalize hq_ : World.drewN w12 _ = w12; have n0_ : Aside0 (w12.heap[gb446]? = some (.cells #[.slice A0_0 l0_0.length c0_0] 30 (0, 0))) := ⟨by rw [← hq_]; exact (uB BK446)⟩; have n1_ : Aside0 (w12.heap[gb447]? = some (.cells #[.slice none 0 0] 30 (0, 0))) := ⟨by rw [← hq_]; exact (uB BK447)⟩; have n2_ : Aside0 (Below w.heap.size w w12) := ⟨by rw [← hq_]; exact (uL HB)⟩; clear BK446 BK447 HB hq_; have BK446 := n0_; have BK447 := n1_; have HB := n2_; clear n0_ n1_ n2_))))
     replace BK446 := aM (blk_drew BK446.out)
     replace BK447 := aM (blk_drew BK447.out)
     replace HB := aM (below_drew1 HB.out)
     have q14 : (a2 : Int) ≤ ((l1.length : Int) : Int) := of_decide_eq_true (by first | (with_reducible assumption) | assumption)
     obtain ⟨i014, hi014, _, hsz14, _⟩ := info_parts info55
     have hroom14 : l1.length ≤ c1 := HC1.out
     have hC14 : Kd.C k55 _ A1 l1.length l1 := HR1.out
     have hcut14 := cut_to (P := Try.prog) 62 55 .i64 Try.underlying62 hi014 A1 l1.length c1 a2 (of_decide_eq_true (by first | (with_reducible assumption) | assumption)) q14 hroom14
     have hr14 := Kd.C_take (m := (a2 : Int).toNat) hC14 (by omega)
     have hy14 : y449.length = (a2 : Int).toNat := (by rw [Ny449.out, List.length_take]; omega)
     rw [← Ny449.out] at hr14
     rw [← hy14] at hcut14
     have HR452 := aM hr14
     have HC452 := aM (show y449.length ≤ c1 from by omega)
     clear hr14 hC14 hroom14 hi014 hsz14
     have KY14 := aM hy14
     clear hy14
     replace q14 := eq_true q14
     refine start_ (n := 11) (S := fun w' => w'.cell? ⟨gb446, 0, none⟩ = some (.slice A0_0 l0_0.length c0_0)) (ds := []) (bB 11 0) (by kernel_rfl) rfl rfl ((blk_cell BK446.out 0).trans rfl) (fun hHeld => ?_); refine with_tabW spec_CutActs.tab3 spec_CutActs.bits3 (fun HT_ HW_ => ?_)
     generalize w12.drew = w13 at BK446 BK447 HB HR452 hHeld ⊢
     refine pA HT_.out 1 20 11 2 ?_; refine pA HT_.out 2 21 11 6 ?_; refine pA HT_.out 3 22 11 14 ?_; refine tA HT_.out HW_.out 0 19 11 15 hHeld ?_
     refine join_ (σ := Value × Nat) 2 #[true, true, true, true, true, true, true, true, true, false, false] (fun s_ => [(23, .tuple #[.agg #[s_.1], .int .i64 t456]), (10, .pointer (some ⟨s_.2, 0, none⟩)), (18, .tuple #[.agg #[s_.1], .int .i64 t456]), (24, .agg #[s_.1]), (25, .int .i64 t456)]) (fun s_ w' => (w'.cell? ⟨gb446, 0, none⟩ = some (.slice A0_0 l0_0.length c0_0)) ∧ (Kd.R k45 45 w' w.heap.size (fun _ => True) s_.1 t453) ∧ (w'.heap[gb446]? = some (.cells #[.slice A0_0 l0_0.length c0_0] 30 (0, 0))) ∧ (w'.heap[gb447]? = some (.cells #[.slice none 0 0] 30 (0, 0))) ∧ (w'.heap[s_.2]? = some (.cells #[.slice none 0 0] 30 (0, 0))) ∧ (w.heap.size ≤ s_.2) ∧ (w.heap.size ≤ s_.2) ∧ (gb446 ≠ s_.2) ∧ (s_.2 ≠ gb446) ∧ (gb447 ≠ s_.2) ∧ (s_.2 ≠ gb447) ∧ (Below w.heap.size w w')) ?_ ?_
     rotate_left
     ·intro hCont
      refine two_ (i := 4) (j := 8) (Ni := some 23) (Nj := some 10) #[true, true, true, true, true, false, false, false, false, false, false] #[true, true, true, true, false, false, false, false, true, false, false] rfl rfl rfl rfl (two_of HT_.out (by kernel_rfl)) (by decide) (by decide) (fun K hK => ?_) (fun K hK => ?_)
      ·skip
       refine gX Try.func42 #[.agg #[.slice A0_0 l0_0.length c0_0], .slice A1 y449.length c1] ?_
       with_reducible refine (spec_DoActs.calls k _ _ l0_0 _ _ y449 t453 t456 _ ?side1 ?side2 ?side3 ?side4 A9.out).mono ?_
       (case side1 => exact uC HR0_0 HB)
       (case side2 => exact HC0_0.out)
       (case side3 => exact uC HR452 HB)
       (case side4 => exact HC452.out)
       rintro e w15 ⟨v454, rfl, ho0, hb⟩
       refine ⟨_, rfl, ?_⟩
       have HO455 := aM (Kd.R_lower ho0 (below_size (uL HB)))
       replace BK446 := blkB BK446 hb
       replace BK447 := blkB BK447 hb
       replace HB := aM (below_step (uL HB) hb)
       (try clear hb)
       (try clear hb2)
       (try clear hk)
       (try clear hi)
       (try clear ho0)
       refine hK.out _ _ ((blk_cell BK446.out 0).trans rfl) (fun hHeld => ?_)
       clear hK K
       refine nX 23 ?_; refine pA HT_.out 5 18 11 63 ?_; refine pA HT_.out 6 24 11 127 ?_; refine pA HT_.out 7 25 11 255 ?_
       refine oA HT_.out 8 (some 10) 11 511 (fun K hK => ?_)
       refine bxS 10 #[.slice none 0 0] 30 ?_
       intro gb457 hg w16 hbox hb
       have n0_ := aM (Kd.R_below (uR HO455) hb); have n1_ := blkB BK446 hb; have n2_ := blkB BK447 hb
       have n3_ := aM (below_step (uL HB) hb)
       have n4_ := aM (hbox)
       have n5_ := szG hg (uL HB); have n6_ := szG hg (uL HB); have n7_ := neL hg BK446; have n8_ := neG hg BK446; have n9_ := neL hg BK447; have n10_ := neG hg BK447; clear HO455 BK446 BK447 HB; have HO455 := n0_; have BK446 := n1_; have BK447 := n2_; have HB := n3_; have BK457 := n4_; have GW457 := n5_; have GE457 := n6_; have NB446_457 := n7_; have NB457_446 := n8_; have NB447_457 := n9_; have NB457_447 := n10_; clear n0_ n1_ n2_ n3_ n4_ n5_ n6_ n7_ n8_ n9_ n10_ hb hbox hg
       refine hK.out _ _ ((blk_cell BK446.out 0).trans rfl) (fun hHeld => ?_)
       clear hK K
       refine nX 10 ?_
       exact norm_ (by simp only [putAll, Act.put, List.setIfInBounds_toArray, List.set_cons_zero, List.set_cons_succ]) (hCont (v454, gb457) _ ⟨hHeld, (uR HO455), (uB BK446), (uB BK447), (uB BK457), GW457.out, GE457.out, NB446_457.out, NB457_446.out, NB447_457.out, NB457_447.out, (uL HB)⟩)
      ·skip
       refine bxS 10 #[.slice none 0 0] 30 ?_
       intro gb457 hg w15 hbox hb
       have n0_ := blkB BK446 hb; have n1_ := blkB BK447 hb
       have n2_ := aM (below_step (uL HB) hb)
       have n3_ := aM (hbox)
       have n4_ := szG hg (uL HB); have n5_ := szG hg (uL HB); have n6_ := neL hg BK446; have n7_ := neG hg BK446; have n8_ := neL hg BK447; have n9_ := neG hg BK447; clear BK446 BK447 HB; have BK446 := n0_; have BK447 := n1_; have HB := n2_; have BK457 := n3_; have GW457 := n4_; have GE457 := n5_; have NB446_457 := n6_; have NB457_446 := n7_; have NB447_457 := n8_; have NB457_447 := n9_; clear n0_ n1_ n2_ n3_ n4_ n5_ n6_ n7_ n8_ n9_ hb hbox hg
       refine hK.out _ _ ((blk_cell BK446.out 0).trans rfl) (fun hHeld => ?_)
       clear hK K
       refine nX 10 ?_
       refine oA HT_.out 4 (some 23) 11 287 (fun K hK => ?_)
       refine gX Try.func42 #[.agg #[.slice A0_0 l0_0.length c0_0], .slice A1 y449.length c1] ?_
       with_reducible refine (spec_DoActs.calls k _ _ l0_0 _ _ y449 t453 t456 _ ?side1 ?side2 ?side3 ?side4 A9.out).mono ?_
       (case side1 => exact uC HR0_0 HB)
       (case side2 => exact HC0_0.out)
       (case side3 => exact uC HR452 HB)
       (case side4 => exact HC452.out)
       rintro e w16 ⟨v454, rfl, ho0, hb⟩
       refine ⟨_, rfl, ?_⟩
       have HO455 := aM (Kd.R_lower ho0 (below_size (uL HB)))
       replace BK446 := blkB BK446 hb
       replace BK447 := blkB BK447 hb
       replace BK457 := blkB BK457 hb
       replace HB := aM (below_step (uL HB) hb)
       (try clear hb)
       (try clear hb2)
       (try clear hk)
       (try clear hi)
       (try clear ho0)
       refine hK.out _ _ ((blk_cell BK446.out 0).trans rfl) (fun hHeld => ?_)
       clear hK K
       refine nX 23 ?_; refine pA HT_.out 5 18 11 319 ?_; refine pA HT_.out 6 24 11 383 ?_; refine pA HT_.out 7 25 11 511 ?_
       exact norm_ (by simp only [putAll, Act.put, List.setIfInBounds_toArray, List.set_cons_zero, List.set_cons_succ]) (hCont (v454, gb457) _ ⟨hHeld, (uR HO455), (uB BK446), (uB BK447), (uB BK457), GW457.out, GE457.out, NB446_457.out, NB457_446.out, NB447_457.out, NB457_447.out, (uL HB)⟩)
     rintro ⟨v454, gb457⟩ w17 ⟨hS_, h0_, h1_, h2_, h3_, h4_, h5_, h6_, h7_, h8_, h9_, h10_⟩
     have n0_ : Aside0 (Kd.R k45 45 w17 w.heap.size (fun _ => True) v454 t453) := ⟨h0_⟩
     have n1_ : Aside0 (w17.heap[gb446]? = some (.cells #[.slice A0_0 l0_0.length c0_0] 30 (0, 0))) := ⟨h1_⟩
     have n2_ : Aside0 (w17.heap[gb447]? = some (.cells #[.slice none 0 0] 30 (0, 0))) := ⟨h2_⟩
     have n3_ : Aside0 (w17.heap[gb457]? = some (.cells #[.slice none 0 0] 30 (0, 0))) := ⟨h3_⟩
     have n4_ : Aside0 (w.heap.size ≤ gb457) := ⟨h4_⟩
     have n5_ : Aside0 (w.heap.size ≤ gb457) := ⟨h5_⟩
     have n6_ : Aside0 (gb446 ≠ gb457) := ⟨h6_⟩
     have n7_ : Aside0 (gb457 ≠ gb446) := ⟨h7_⟩
     have n8_ : Aside0 (gb447 ≠ gb457) := ⟨h8_⟩
     have n9_ : Aside0 (gb457 ≠ gb447) := ⟨h9_⟩
     have n10_ : Aside0 (Below w.heap.size w w17) := ⟨h10_⟩
     clear BK446 BK447 HB h0_ h1_ h2_ h3_ h4_ h5_ h6_ h7_ h8_ h9_ h10_; have HO455 := n0_; have BK446 := n1_; have BK447 := n2_; have BK457 := n3_; have GW457 := n4_; have GE457 := n5_; have NB446_457 := n6_; have NB457_446 := n7_; have NB447_457 := n8_; have NB457_447 := n9_; have HB := n10_; clear n0_ n1_ n2_ n3_ n4_ n5_ n6_ n7_ n8_ n9_ n10_
     have hHeld : w17.cell? ⟨gb446, 0, none⟩ = some (.slice A0_0 l0_0.length c0_0) := hS_
     obtain ⟨Ao18, co18, eo18⟩ := Kd.R_slice HO455.out
     (first | subst eo18 | (injection eo18 with f1_ f2_ f3_; have f4_ := f1_.symm; have f5_ := f3_.symm; clear f1_ f2_ f3_; subst f4_; subst f5_))
     refine norm_ (a' := ?_) ?_ ?_
     rotate_left
     ·simp only [putAll, Act.put, List.setIfInBounds_toArray, List.set_cons_zero, List.set_cons_succ]
      rfl
     refine oA HT_.out 9 none 11 1023 (fun K hK => ?_)
     have hs19 := czA BK457.out 0 (.slice none 0 0)
     have hfs19 := blk_frozen BK457.out 0; have hns19_0 := NB446_457.out; have hns19_1 := NB447_457.out; have hms19_0 := NB457_446.out; have hms19_1 := NB457_447.out
     refine skip_ (w1 := ?_) (by rfl) rfl ?_ ?_
     rotate_left
     ·go_simp
      rfl
     refine hK.out _ _ (((cell_far (p := ⟨gb457, _, none⟩) NB446_457.out _).trans (hHeld))) (fun hHeld => ?_)
     clear hK K
     refine pA HT_.out 10 11 11 2047 ?_
     refine done_ (done_of HT_.out (by kernel_rfl)) ?_
     have hnb20 := NB447_446.out; have hnc20 := NB446_447.out; have hnb21 := NB447_457.out; have hnc21 := NB457_447.out
     have hcz22_0 := czA BK447.out 0 (.slice none 0 0)
     have hfz22_0 := blk_frozen BK447.out 0
     try go_wp2
     refine bodyPost_ret (results_ct rfl _ _ gb447 30 #[.slice none 0 0] (0, 0) _ rfl (by refine nB ?_; refine blk_put (cs := #[.slice none 0 0]) ?_ 0 _ rfl; refine nB ?_; refine blk_far ?_ NB447_457.out _; exact nB BK447.out) Try.underlying30 rfl (by kernel_rfl)) rfl ?_
     exact ⟨_, by first | rfl | (simp [errW_none, errW_some] <;> rfl) | (simp [*, errW_none, errW_some] <;> rfl), by first | exact Kd.R_nil _ _ _ _ _ | exact Kd.N_nil _ _ _ _ _ | exact Kd.V_nil _ _ _ _ _ | exact Kd.Q_nil _ _ _ _ _ | exact Kd.S_nil _ _ _ _ _, uL HB⟩
    ·rw [if_neg c10] at H
     have c10b0 : decide (t456 < a2) = false := decide_eq_false c10
     clear c10
     replace H := Option.bind_eq_some_iff.mp H
     obtain ⟨⟨t458, t461⟩, A230, H⟩ := H
     replace H : (some (t458, t461)) = some (r1, r2) := H
     have A23 := aM A230
     clear A230
     simp only [Option.some.injEq, Prod.mk.injEq] at H
     obtain ⟨rfl, rfl⟩ := H
     go_enter Try.func49, Try.ntmps49
     try go_wp2_with (first | ((with_reducible refine gate_dst (N := 4) rfl ?_); refine bxE 4 #[.slice A0_0 l0_0.length c0_0] 30 ?_; intro gb446 hg w24 hbox hb; have BK446 := aM (hbox); have GW446 := szG hg (uL HB); have GE446 := szG hg (uL HB); replace HB := aM (below_step (uL HB) hb); clear hb hbox hg) | ((with_reducible refine gate_dst (N := 8) rfl ?_); refine bxE 8 #[.slice none 0 0] 30 ?_; intro gb447 hg w25 hbox hb; have BK447 := aM (hbox); have GW447 := szG hg (uL HB); have GE447 := szG hg (uL HB); have NB446_447 := neL hg BK446; have NB447_446 := neG hg BK446; replace BK446 := blkB BK446 hb; replace HB := aM (below_step (uL HB) hb); clear hb hbox hg) | ((with_reducible refine gate_callee (f := 74) rfl ?_); refine gL (some 15) Try.func74 #[.int .i64 a2, .int .i64 0, .int .i64 (l1.length : Int)] ?_; (with_reducible refine (spec_l01In.calls a2 0 (l1.length : Int) true _ A5.out).mono ?_); rintro e w' ⟨rfl, ⟨nd, rfl⟩⟩; refine ⟨_, rfl, ?_⟩; (try (rw [drewN_self w25]; generalize hq_ : World.drewN w25 _ = w25; have n0_ : Aside0 (w25.heap[gb446]? = some (.cells #[.slice A0_0 l0_0.length c0_0] 30 (0, 0))) := ⟨by rw [← hq_]; exact (uB BK446)⟩; have n1_ : Aside0 (w25.heap[gb447]? = some (.cells #[.slice none 0 0] 30 (0, 0))) := ⟨by rw [← hq_]; exact (uB BK447)⟩; have n2_ : Aside0 (Below w.heap.size w w25) := ⟨by rw [← hq_]; exact (uL HB)⟩; clear BK446 BK447 HB hq_; have BK446 := n0_; have BK447 := n1_; have HB := n2_; clear n0_ n1_ n2_))))
     replace BK446 := aM (blk_drew BK446.out)
     replace BK447 := aM (blk_drew BK447.out)
     replace HB := aM (below_drew1 HB.out)
     have q27 : (a2 : Int) ≤ ((l1.length : Int) : Int) := of_decide_eq_true (by first | (with_reducible assumption) | assumption)
     obtain ⟨i027, hi027, _, hsz27, _⟩ := info_parts info55
     have hroom27 : l1.length ≤ c1 := HC1.out
     have hC27 : Kd.C k55 _ A1 l1.length l1 := HR1.out
     have hcut27 := cut_to (P := Try.prog) 62 55 .i64 Try.underlying62 hi027 A1 l1.length c1 a2 (of_decide_eq_true (by first | (with_reducible assumption) | assumption)) q27 hroom27
     have hr27 := Kd.C_take (m := (a2 : Int).toNat) hC27 (by omega)
     have hy27 : y449.length = (a2 : Int).toNat := (by rw [Ny449.out, List.length_take]; omega)
     rw [← Ny449.out] at hr27
     rw [← hy27] at hcut27
     have HR452 := aM hr27
     have HC452 := aM (show y449.length ≤ c1 from by omega)
     clear hr27 hC27 hroom27 hi027 hsz27
     have KY27 := aM hy27
     clear hy27
     replace q27 := eq_true q27
     refine start_ (n := 11) (S := fun w' => w'.cell? ⟨gb446, 0, none⟩ = some (.slice A0_0 l0_0.length c0_0)) (ds := []) (bB 11 0) (by kernel_rfl) rfl rfl ((blk_cell BK446.out 0).trans rfl) (fun hHeld => ?_); refine with_tabW spec_CutActs.tab3 spec_CutActs.bits3 (fun HT_ HW_ => ?_)
     generalize w25.drew = w26 at BK446 BK447 HB HR452 hHeld ⊢
     refine pA HT_.out 1 20 11 2 ?_; refine pA HT_.out 2 21 11 6 ?_; refine pA HT_.out 3 22 11 14 ?_; refine tA HT_.out HW_.out 0 19 11 15 hHeld ?_
     refine join_ (σ := Value × Nat) 2 #[true, true, true, true, true, true, true, true, true, false, false] (fun s_ => [(23, .tuple #[.agg #[s_.1], .int .i64 t456]), (10, .pointer (some ⟨s_.2, 0, none⟩)), (18, .tuple #[.agg #[s_.1], .int .i64 t456]), (24, .agg #[s_.1]), (25, .int .i64 t456)]) (fun s_ w' => (w'.cell? ⟨gb446, 0, none⟩ = some (.slice A0_0 l0_0.length c0_0)) ∧ (Kd.R k45 45 w' w.heap.size (fun _ => True) s_.1 t453) ∧ (w'.heap[gb446]? = some (.cells #[.slice A0_0 l0_0.length c0_0] 30 (0, 0))) ∧ (w'.heap[gb447]? = some (.cells #[.slice none 0 0] 30 (0, 0))) ∧ (w'.heap[s_.2]? = some (.cells #[.slice none 0 0] 30 (0, 0))) ∧ (w.heap.size ≤ s_.2) ∧ (w.heap.size ≤ s_.2) ∧ (gb446 ≠ s_.2) ∧ (s_.2 ≠ gb446) ∧ (gb447 ≠ s_.2) ∧ (s_.2 ≠ gb447) ∧ (Below w.heap.size w w')) ?_ ?_
     rotate_left
     ·intro hCont
      refine two_ (i := 4) (j := 8) (Ni := some 23) (Nj := some 10) #[true, true, true, true, true, false, false, false, false, false, false] #[true, true, true, true, false, false, false, false, true, false, false] rfl rfl rfl rfl (two_of HT_.out (by kernel_rfl)) (by decide) (by decide) (fun K hK => ?_) (fun K hK => ?_)
      ·skip
       refine gX Try.func42 #[.agg #[.slice A0_0 l0_0.length c0_0], .slice A1 y449.length c1] ?_
       with_reducible refine (spec_DoActs.calls k _ _ l0_0 _ _ y449 t453 t456 _ ?side1 ?side2 ?side3 ?side4 A9.out).mono ?_
       (case side1 => exact uC HR0_0 HB)
       (case side2 => exact HC0_0.out)
       (case side3 => exact uC HR452 HB)
       (case side4 => exact HC452.out)
       rintro e w28 ⟨v454, rfl, ho0, hb⟩
       refine ⟨_, rfl, ?_⟩
       have HO455 := aM (Kd.R_lower ho0 (below_size (uL HB)))
       replace BK446 := blkB BK446 hb
       replace BK447 := blkB BK447 hb
       replace HB := aM (below_step (uL HB) hb)
       (try clear hb)
       (try clear hb2)
       (try clear hk)
       (try clear hi)
       (try clear ho0)
       refine hK.out _ _ ((blk_cell BK446.out 0).trans rfl) (fun hHeld => ?_)
       clear hK K
       refine nX 23 ?_; refine pA HT_.out 5 18 11 63 ?_; refine pA HT_.out 6 24 11 127 ?_; refine pA HT_.out 7 25 11 255 ?_
       refine oA HT_.out 8 (some 10) 11 511 (fun K hK => ?_)
       refine bxS 10 #[.slice none 0 0] 30 ?_
       intro gb457 hg w29 hbox hb
       have n0_ := aM (Kd.R_below (uR HO455) hb); have n1_ := blkB BK446 hb; have n2_ := blkB BK447 hb
       have n3_ := aM (below_step (uL HB) hb)
       have n4_ := aM (hbox)
       have n5_ := szG hg (uL HB); have n6_ := szG hg (uL HB); have n7_ := neL hg BK446; have n8_ := neG hg BK446; have n9_ := neL hg BK447; have n10_ := neG hg BK447; clear HO455 BK446 BK447 HB; have HO455 := n0_; have BK446 := n1_; have BK447 := n2_; have HB := n3_; have BK457 := n4_; have GW457 := n5_; have GE457 := n6_; have NB446_457 := n7_; have NB457_446 := n8_; have NB447_457 := n9_; have NB457_447 := n10_; clear n0_ n1_ n2_ n3_ n4_ n5_ n6_ n7_ n8_ n9_ n10_ hb hbox hg
       refine hK.out _ _ ((blk_cell BK446.out 0).trans rfl) (fun hHeld => ?_)
       clear hK K
       refine nX 10 ?_
       exact norm_ (by simp only [putAll, Act.put, List.setIfInBounds_toArray, List.set_cons_zero, List.set_cons_succ]) (hCont (v454, gb457) _ ⟨hHeld, (uR HO455), (uB BK446), (uB BK447), (uB BK457), GW457.out, GE457.out, NB446_457.out, NB457_446.out, NB447_457.out, NB457_447.out, (uL HB)⟩)
      ·skip
       refine bxS 10 #[.slice none 0 0] 30 ?_
       intro gb457 hg w28 hbox hb
       have n0_ := blkB BK446 hb; have n1_ := blkB BK447 hb
       have n2_ := aM (below_step (uL HB) hb)
       have n3_ := aM (hbox)
       have n4_ := szG hg (uL HB); have n5_ := szG hg (uL HB); have n6_ := neL hg BK446; have n7_ := neG hg BK446; have n8_ := neL hg BK447; have n9_ := neG hg BK447; clear BK446 BK447 HB; have BK446 := n0_; have BK447 := n1_; have HB := n2_; have BK457 := n3_; have GW457 := n4_; have GE457 := n5_; have NB446_457 := n6_; have NB457_446 := n7_; have NB447_457 := n8_; have NB457_447 := n9_; clear n0_ n1_ n2_ n3_ n4_ n5_ n6_ n7_ n8_ n9_ hb hbox hg
       refine hK.out _ _ ((blk_cell BK446.out 0).trans rfl) (fun hHeld => ?_)
       clear hK K
       refine nX 10 ?_
       refine oA HT_.out 4 (some 23) 11 287 (fun K hK => ?_)
       refine gX Try.func42 #[.agg #[.slice A0_0 l0_0.length c0_0], .slice A1 y449.length c1] ?_
       with_reducible refine (spec_DoActs.calls k _ _ l0_0 _ _ y449 t453 t456 _ ?side1 ?side2 ?side3 ?side4 A9.out).mono ?_
       (case side1 => exact uC HR0_0 HB)
       (case side2 => exact HC0_0.out)
       (case side3 => exact uC HR452 HB)
       (case side4 => exact HC452.out)
       rintro e w29 ⟨v454, rfl, ho0, hb⟩
       refine ⟨_, rfl, ?_⟩
       have HO455 := aM (Kd.R_lower ho0 (below_size (uL HB)))
       replace BK446 := blkB BK446 hb
       replace BK447 := blkB BK447 hb
       replace BK457 := blkB BK457 hb
       replace HB := aM (below_step (uL HB) hb)
       (try clear hb)
       (try clear hb2)
       (try clear hk)
       (try clear hi)
       (try clear ho0)
       refine hK.out _ _ ((blk_cell BK446.out 0).trans rfl) (fun hHeld => ?_)
       clear hK K
       refine nX 23 ?_; refine pA HT_.out 5 18 11 319 ?_; refine pA HT_.out 6 24 11 383 ?_; refine pA HT_.out 7 25 11 511 ?_
       exact norm_ (by simp only [putAll, Act.put, List.setIfInBounds_toArray, List.set_cons_zero, List.set_cons_succ]) (hCont (v454, gb457) _ ⟨hHeld, (uR HO455), (uB BK446), (uB BK447), (uB BK457), GW457.out, GE457.out, NB446_457.out, NB457_446.out, NB447_457.out, NB457_447.out, (uL HB)⟩)
     rintro ⟨v454, gb457⟩ w30 ⟨hS_, h0_, h1_, h2_, h3_, h4_, h5_, h6_, h7_, h8_, h9_, h10_⟩
     have n0_ : Aside0 (Kd.R k45 45 w30 w.heap.size (fun _ => True) v454 t453) := ⟨h0_⟩
     have n1_ : Aside0 (w30.heap[gb446]? = some (.cells #[.slice A0_0 l0_0.length c0_0] 30 (0, 0))) := ⟨h1_⟩
     have n2_ : Aside0 (w30.heap[gb447]? = some (.cells #[.slice none 0 0] 30 (0, 0))) := ⟨h2_⟩
     have n3_ : Aside0 (w30.heap[gb457]? = some (.cells #[.slice none 0 0] 30 (0, 0))) := ⟨h3_⟩
     have n4_ : Aside0 (w.heap.size ≤ gb457) := ⟨h4_⟩
     have n5_ : Aside0 (w.heap.size ≤ gb457) := ⟨h5_⟩
     have n6_ : Aside0 (gb446 ≠ gb457) := ⟨h6_⟩
     have n7_ : Aside0 (gb457 ≠ gb446) := ⟨h7_⟩
     have n8_ : Aside0 (gb447 ≠ gb457) := ⟨h8_⟩
     have n9_ : Aside0 (gb457 ≠ gb447) := ⟨h9_⟩
     have n10_ : Aside0 (Below w.heap.size w w30) := ⟨h10_⟩
     clear BK446 BK447 HB h0_ h1_ h2_ h3_ h4_ h5_ h6_ h7_ h8_ h9_ h10_; have HO455 := n0_; have BK446 := n1_; have BK447 := n2_; have BK457 := n3_; have GW457 := n4_; have GE457 := n5_; have NB446_457 := n6_; have NB457_446 := n7_; have NB447_457 := n8_; have NB457_447 := n9_; have HB := n10_; clear n0_ n1_ n2_ n3_ n4_ n5_ n6_ n7_ n8_ n9_ n10_
     have hHeld : w30.cell? ⟨gb446, 0, none⟩ = some (.slice A0_0 l0_0.length c0_0) := hS_
     obtain ⟨Ao31, co31, eo31⟩ := Kd.R_slice HO455.out
     (first | subst eo31 | (injection eo31 with f1_ f2_ f3_; have f4_ := f1_.symm; have f5_ := f3_.symm; clear f1_ f2_ f3_; subst f4_; subst f5_))
     refine norm_ (a' := ?_) ?_ ?_
     rotate_left
     ·simp only [putAll, Act.put, List.setIfInBounds_toArray, List.set_cons_zero, List.set_cons_succ]
      rfl
     refine oA HT_.out 9 none 11 1023 (fun K hK => ?_)
     have hs32 := czA BK457.out 0 (.slice none 0 0)
     have hfs32 := blk_frozen BK457.out 0; have hns32_0 := NB446_457.out; have hns32_1 := NB447_457.out; have hms32_0 := NB457_446.out; have hms32_1 := NB457_447.out
     refine skip_ (w1 := ?_) (by rfl) rfl ?_ ?_
     rotate_left
     ·go_simp
      rfl
     refine hK.out _ _ (((cell_far (p := ⟨gb457, _, none⟩) NB446_457.out _).trans (hHeld))) (fun hHeld => ?_)
     clear hK K
     refine pA HT_.out 10 11 11 2047 ?_
     refine done_ (done_of HT_.out (by kernel_rfl)) ?_
     have hnb33 := NB457_446.out; have hnc33 := NB446_457.out; have hnb34 := NB457_447.out; have hnc34 := NB447_457.out
     have hcz35_0 := czA BK457.out 0 (.slice none 0 0)
     have hfz35_0 := blk_frozen BK457.out 0
     try go_wp2_with (first | ((with_reducible refine gate_callee (f := 31) rfl ?_); refine gL (some 32) Try.func31 #[.agg #[.slice Ao31 t453.length co31], .slice A3 l3.length c3] ?_; (with_reducible refine (spec_LoseDisk.calls k _ _ t453 _ _ l3 t458 t461 _ ?side1 ?side2 ?side3 ?side4 A23.out).mono ?_); (case side1 => refine (Kd.R_reads' (e := 45) (base := w.heap.size) (ok := fun k_ => True) (n := t453.length) (c := co31) ?_).2.2; exact (by (with_reducible repeat first | apply rA | apply rN | apply rD); exact (Kd.R_mono (Kd.R_far (p := ⟨gb457, 0, none⟩) (Kd.R_types HO455.out BK457.out (by decide)) (fun _ hk => hk.2) (.slice Ao31 t453.length co31)) (fun _ h_ => h_.1)))); (case side2 => exact (Kd.R_reads' HO455.out).2.1); (case side3 => exact Kd.C_below HR3.out (uL HB)); (case side4 => exact HC3.out); rintro e w36 ⟨v459, rfl, ho0, hb⟩; refine ⟨_, rfl, ?_⟩; have HO460 := aM (Kd.R_lower (Kd.R_new' ho0 (Kd.R_lt (by (with_reducible repeat first | apply rA | apply rN | apply rD); exact (Kd.R_mono (Kd.R_far (p := ⟨gb457, 0, none⟩) (Kd.R_types HO455.out BK457.out (by decide)) (fun _ hk => hk.2) (.slice Ao31 t453.length co31)) (fun _ h_ => h_.1))))) (below_size (uL HB))); replace HO455 := aM (Kd.R_elder' (by (with_reducible repeat first | apply rA | apply rN | apply rD); exact (Kd.R_mono (Kd.R_far (p := ⟨gb457, 0, none⟩) (Kd.R_types HO455.out BK457.out (by decide)) (fun _ hk => hk.2) (.slice Ao31 t453.length co31)) (fun _ h_ => h_.1))) (Kd.R_base ho0) hb); replace BK446 := blkB BK446 hb; replace BK447 := blkB BK447 hb; replace BK457 := aM (blk_below (g := gb457) (o := .cells #[.slice Ao31 t453.length co31] 30 (0, 0)) (by refine nB ?_; refine blk_put (cs := #[.slice none 0 0]) ?_ 0 _ rfl; exact nB BK457.out) hb); replace HB := aM (below_step (uL HB) hb); try clear hb ho0; obtain ⟨Ao37, co37, eo37⟩ := Kd.R_slice HO460.out; subst eo37; have hnb38 := NB447_446.out; have hnc38 := NB446_447.out; have hcz39_0 := czA BK447.out 0 (.slice none 0 0); have hfz39_0 := blk_frozen BK447.out 0))
     refine bodyPost_ret (results_ct rfl _ _ gb447 30 #[.slice Ao37 t458.length co37] (0, 0) _ rfl (by refine nB ?_; refine blk_put (cs := #[.slice none 0 0]) ?_ 0 _ rfl; exact nB BK447.out) Try.underlying30 rfl (by kernel_rfl)) rfl ?_
     exact ⟨_, by first | rfl | (simp [errW_none, errW_some] <;> rfl) | (simp [*, errW_none, errW_some] <;> rfl), by (with_reducible repeat first | apply rA | apply rN | apply rD); exact Kd.R_mono (Kd.R_far (p := ⟨gb447, 0, none⟩) (Kd.R_types HO460.out BK447.out (by decide)) (fun _ hk => hk.2) (.slice Ao37 t458.length co37)) (fun _ hk => trivial), uL HB⟩
   ·rw [if_neg c8] at H
    exact absurd H (by simp)
  ·rw [if_neg c7] at H
   exact absurd H (by simp)
 ·replace c6 := Bool.eq_false_iff.mpr c6
  subst c6
  have H1 : (some (([] : List (S45)), false)) = some (r1, r2) := by rw [if_neg (show ¬ (false = true) by decide)] at H; exact H
  clear H; have H := H1; clear H1
  simp only [Option.some.injEq, Prod.mk.injEq] at H
  obtain ⟨rfl, rfl⟩ := H
  go_enter Try.func49, Try.ntmps49
  go_wp2_with (first | ((with_reducible refine gate_dst (N := 4) rfl ?_); refine bxE 4 #[.slice A0_0 l0_0.length c0_0] 30 ?_; intro gb446 hg w40 hbox hb; have BK446 := aM (hbox); have GW446 := szG hg (uL HB); have GE446 := szG hg (uL HB); replace HB := aM (below_step (uL HB) hb); clear hb hbox hg) | ((with_reducible refine gate_dst (N := 8) rfl ?_); refine bxE 8 #[.slice none 0 0] 30 ?_; intro gb447 hg w41 hbox hb; have BK447 := aM (hbox); have GW447 := szG hg (uL HB); have GE447 := szG hg (uL HB); have NB446_447 := neL hg BK446; have NB447_446 := neG hg BK446; replace BK446 := blkB BK446 hb; replace HB := aM (below_step (uL HB) hb); clear hb hbox hg) | ((with_reducible refine gate_callee (f := 74) rfl ?_); refine gL (some 15) Try.func74 #[.int .i64 a2, .int .i64 0, .int .i64 (l1.length : Int)] ?_; (with_reducible refine (spec_l01In.calls a2 0 (l1.length : Int) false _ A5.out).mono ?_); rintro e w' ⟨rfl, ⟨nd, rfl⟩⟩; refine ⟨_, rfl, ?_⟩; (try (rw [drewN_self w41]; generalize hq_ : World.drewN w41 _ = w41; have n0_ : Aside0 (w41.heap[gb446]? = some (.cells #[.slice A0_0 l0_0.length c0_0] 30 (0, 0))) := ⟨by rw [← hq_]; exact (uB BK446)⟩; have n1_ : Aside0 (w41.heap[gb447]? = some (.cells #[.slice none 0 0] 30 (0, 0))) := ⟨by rw [← hq_]; exact (uB BK447)⟩; have n2_ : Aside0 (Below w.heap.size w w41) := ⟨by rw [← hq_]; exact (uL HB)⟩; clear BK446 BK447 HB hq_; have BK446 := n0_; have BK447 := n1_; have HB := n2_; clear n0_ n1_ n2_)); have hnb42 := NB447_446.out; have hnc42 := NB446_447.out; have hcz43_0 := czA BK447.out 0 (.slice none 0 0); have hfz43_0 := blk_frozen BK447.out 0))
  refine bodyPost_ret (results_ct rfl _ _ gb447 30 #[.slice none 0 0] (0, 0) _ rfl (by refine nB ?_; refine blk_put (cs := #[.slice none 0 0]) ?_ 0 _ rfl; exact nB BK447.out) Try.underlying30 rfl (by kernel_rfl)) rfl ?_
  exact ⟨_, by first | rfl | (simp [errW_none, errW_some] <;> rfl) | (simp [*, errW_none, errW_some] <;> rfl), by first | exact Kd.R_nil _ _ _ _ _ | exact Kd.N_nil _ _ _ _ _ | exact Kd.V_nil _ _ _ _ _ | exact Kd.Q_nil _ _ _ _ _ | exact Kd.S_nil _ _ _ _ _, uL HB⟩

end Go.Proofs.Ytidfhfaekdahpaa.QFnActs
