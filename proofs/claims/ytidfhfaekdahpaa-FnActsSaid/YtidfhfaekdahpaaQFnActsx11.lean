-- Own work (wip/turnprint.py over the kit's print).
import Derived.Test.YtidfhfaekdahpaaQFnActsx0
import Derived.Test.YtidfhfaekdahpaaQFnActsx6
import Derived.Test.YtidfhfaekdahpaaQFnActsx7
import Derived.Test.YtidfhfaekdahpaaQFnActsx8
import Derived.Test.YtidfhfaekdahpaaQFnActsx9
import Derived.Test.YtidfhfaekdahpaaQFnActsx10
namespace Go.Proofs.Ytidfhfaekdahpaa.QFnActs
open Go.RowKit Go.Proofs.YtidfhfaekdahpaaW.PrintWords Go.Proofs.YtidfhfaekdahpaaW.PrintLast Go.Proofs.YtidfhfaekdahpaaW.PrintMore
attribute [local go_sem] max2_int min2_int max_two min_two max_three min_three max_four min_four   -- for this text's walks alone
set_option linter.unusedVariables false
set_option linter.unusedSimpArgs false

/-! ### spec_DoAct: function 38 -/
mutual
def spec_DoAct.j0 : Nat → Bool → List (S45) → Int → ByteArray → ByteArray → ByteArray → Option ((List (S45)) × Bool)
 | 0, _, _, _, _, _, _ => none
 | k + 1, x37, x156000, x157000, x157001, x157002, x157003 => if x37 = true then (some (([] : List (S45)), false)) else ((spec_l03At.f k x156000 x157001).bind fun t160 => (if t160 ≥ 0 then (if 0 ≤ t160 then (if t160 < (x156000.length : Int) then (spec_DoAct.j1 k t160 x156000 x157000 x157001 x157002 x157003 ((rd_T45 x156000 t160).f0) ((rd_T45 x156000 t160).f1) ((rd_T45 x156000 t160).f2)) else (none)) else (none)) else (spec_DoAct.j1 k t160 x156000 x157000 x157001 x157002 x157003 x157001 (⟨#[]⟩ : ByteArray) 0)))
def spec_DoAct.j1 : Nat → Int → List (S45) → Int → ByteArray → ByteArray → ByteArray → ByteArray → ByteArray → Int → Option ((List (S45)) × Bool)
 | 0, _, _, _, _, _, _, _, _, _ => none
 | k + 1, x6, x156000, x157000, x157001, x157002, x157003, x162000, x162001, x162002 => if x157000 = 1 then (if x162001.size + x157002.size ≤ 9223372036854775807 then ((spec_l03Put.f k x156000 x162000 (x162001 ++ x157002) x162002).bind fun t164 => ((spec_DiskOk.f k t164).bind fun t167 => (if t167 = true then (some (t164, true)) else (some (([] : List (S45)), false))))) else (none)) else (if x6 < 0 then (some (([] : List (S45)), false)) else (if x157000 = 2 then ((spec_l03Put.f k x156000 x162000 x162001 (x162001.size : Int)).bind fun t168 => ((spec_DiskOk.f k t168).bind fun t171 => (if t171 = true then (some (t168, true)) else (some (([] : List (S45)), false))))) else (if x157000 = 3 then (if x162002 < (x162001.size : Int) then (spec_DoAct.j2 k true x156000 x157000 x157001 x157002 x157003 x162000 x162001 x162002) else (if x157003.toList = x157001.toList then (spec_DoAct.j2 k true x156000 x157000 x157001 x157002 x157003 x162000 x162001 x162002) else ((spec_l03Name.f x157003).bind fun t172 => (spec_DoAct.j2 k (!t172) x156000 x157000 x157001 x157002 x157003 x162000 x162001 x162002)))) else (if x157000 = 4 then ((spec_l03Without.f k x156000 x157001).bind fun t180 => ((spec_DiskOk.f k t180).bind fun t183 => (if t183 = true then (some (t180, true)) else (some (([] : List (S45)), false))))) else (some (([] : List (S45)), false))))))
def spec_DoAct.j2 : Nat → Bool → List (S45) → Int → ByteArray → ByteArray → ByteArray → ByteArray → ByteArray → Int → Option ((List (S45)) × Bool)
 | 0, _, _, _, _, _, _, _, _, _ => none
 | k + 1, x105, x156000, x157000, x157001, x157002, x157003, x162000, x162001, x162002 => if x105 = true then (some (([] : List (S45)), false)) else ((spec_l03Without.f k x156000 x157001).bind fun t173 => ((spec_l03Put.f k t173 x157003 x162001 x162002).bind fun t176 => ((spec_DiskOk.f k t176).bind fun t179 => (if t179 = true then (some (t176, true)) else (some (([] : List (S45)), false))))))
end
def spec_DoAct.f (k : Nat) (l0_0 : List (S45)) (a1_0 : Int) (a1_1 : ByteArray) (a1_2 : ByteArray) (a1_3 : ByteArray) : Option ((List (S45)) × Bool) := (spec_DiskOk.f k l0_0).bind fun t158 => (if t158 = true then ((spec_l03Name.f a1_1).bind fun t159 => (if t159 = true then (if a1_0 = 3 then (if a1_0 = 1 then (spec_DoAct.j0 k false l0_0 a1_0 a1_1 a1_2 a1_3) else (spec_DoAct.j0 k (a1_2.toList != ([] : List UInt8)) l0_0 a1_0 a1_1 a1_2 a1_3)) else (if a1_3.toList = ([] : List UInt8) then (if a1_0 = 1 then (spec_DoAct.j0 k false l0_0 a1_0 a1_1 a1_2 a1_3) else (spec_DoAct.j0 k (a1_2.toList != ([] : List UInt8)) l0_0 a1_0 a1_1 a1_2 a1_3)) else (spec_DoAct.j0 k true l0_0 a1_0 a1_1 a1_2 a1_3))) else (spec_DoAct.j0 k true l0_0 a1_0 a1_1 a1_2 a1_3))) else (spec_DoAct.j0 k true l0_0 a1_0 a1_1 a1_2 a1_3))
theorem spec_DoAct.mono_l : ∀ k, (∀ y0 y1 y2 y3 y4 y5, LeO (spec_DoAct.j0 k y0 y1 y2 y3 y4 y5) (spec_DoAct.j0 (k + 1) y0 y1 y2 y3 y4 y5)) ∧ (∀ y0 y1 y2 y3 y4 y5 y6 y7 y8, LeO (spec_DoAct.j1 k y0 y1 y2 y3 y4 y5 y6 y7 y8) (spec_DoAct.j1 (k + 1) y0 y1 y2 y3 y4 y5 y6 y7 y8)) ∧ (∀ y0 y1 y2 y3 y4 y5 y6 y7 y8, LeO (spec_DoAct.j2 k y0 y1 y2 y3 y4 y5 y6 y7 y8) (spec_DoAct.j2 (k + 1) y0 y1 y2 y3 y4 y5 y6 y7 y8))
 | 0 => ⟨fun _ _ _ _ _ _ r h => by simp [spec_DoAct.j0] at h, fun _ _ _ _ _ _ _ _ _ r h => by simp [spec_DoAct.j1] at h, fun _ _ _ _ _ _ _ _ _ r h => by simp [spec_DoAct.j2] at h⟩
 | k + 1 => by
  obtain ⟨ih0, ih1, ih2⟩ := spec_DoAct.mono_l k
  refine ⟨?_, ?_, ?_⟩
  ·intro y0 y1 y2 y3 y4 y5
   unfold spec_DoAct.j0
   repeat' first
   | (with_reducible exact ih0 _ _ _ _ _ _)
   | (with_reducible exact ih1 _ _ _ _ _ _ _ _ _)
   | (with_reducible exact ih2 _ _ _ _ _ _ _ _ _)
   | (with_reducible exact spec_DiskOk.mono _ _)
   | (with_reducible exact spec_l03At.mono _ _ _)
   | (with_reducible exact spec_l03Put.mono _ _ _ _ _)
   | (with_reducible exact spec_l03Without.mono _ _ _)
   | (with_reducible exact LeO.refl _)
   | (with_reducible exact LeO.none _)
   | (with_reducible refine LeO.ite ?_ ?_)
   | (with_reducible refine LeO.bind ?_ (fun _ => ?_))
   | exact ih0 _ _ _ _ _ _
   | exact ih1 _ _ _ _ _ _ _ _ _
   | exact ih2 _ _ _ _ _ _ _ _ _
   | exact spec_DiskOk.mono _ _
   | exact spec_l03At.mono _ _ _
   | exact spec_l03Put.mono _ _ _ _ _
   | exact spec_l03Without.mono _ _ _
   | exact LeO.none _
   | refine LeO.ite ?_ ?_
   | refine LeO.bind ?_ (fun _ => ?_)
  ·intro y0 y1 y2 y3 y4 y5 y6 y7 y8
   unfold spec_DoAct.j1
   repeat' first
   | (with_reducible exact ih0 _ _ _ _ _ _)
   | (with_reducible exact ih1 _ _ _ _ _ _ _ _ _)
   | (with_reducible exact ih2 _ _ _ _ _ _ _ _ _)
   | (with_reducible exact spec_DiskOk.mono _ _)
   | (with_reducible exact spec_l03At.mono _ _ _)
   | (with_reducible exact spec_l03Put.mono _ _ _ _ _)
   | (with_reducible exact spec_l03Without.mono _ _ _)
   | (with_reducible exact LeO.refl _)
   | (with_reducible exact LeO.none _)
   | (with_reducible refine LeO.ite ?_ ?_)
   | (with_reducible refine LeO.bind ?_ (fun _ => ?_))
   | exact ih0 _ _ _ _ _ _
   | exact ih1 _ _ _ _ _ _ _ _ _
   | exact ih2 _ _ _ _ _ _ _ _ _
   | exact spec_DiskOk.mono _ _
   | exact spec_l03At.mono _ _ _
   | exact spec_l03Put.mono _ _ _ _ _
   | exact spec_l03Without.mono _ _ _
   | exact LeO.none _
   | refine LeO.ite ?_ ?_
   | refine LeO.bind ?_ (fun _ => ?_)
  ·intro y0 y1 y2 y3 y4 y5 y6 y7 y8
   unfold spec_DoAct.j2
   repeat' first
   | (with_reducible exact ih0 _ _ _ _ _ _)
   | (with_reducible exact ih1 _ _ _ _ _ _ _ _ _)
   | (with_reducible exact ih2 _ _ _ _ _ _ _ _ _)
   | (with_reducible exact spec_DiskOk.mono _ _)
   | (with_reducible exact spec_l03At.mono _ _ _)
   | (with_reducible exact spec_l03Put.mono _ _ _ _ _)
   | (with_reducible exact spec_l03Without.mono _ _ _)
   | (with_reducible exact LeO.refl _)
   | (with_reducible exact LeO.none _)
   | (with_reducible refine LeO.ite ?_ ?_)
   | (with_reducible refine LeO.bind ?_ (fun _ => ?_))
   | exact ih0 _ _ _ _ _ _
   | exact ih1 _ _ _ _ _ _ _ _ _
   | exact ih2 _ _ _ _ _ _ _ _ _
   | exact spec_DiskOk.mono _ _
   | exact spec_l03At.mono _ _ _
   | exact spec_l03Put.mono _ _ _ _ _
   | exact spec_l03Without.mono _ _ _
   | exact LeO.none _
   | refine LeO.ite ?_ ?_
   | refine LeO.bind ?_ (fun _ => ?_)
theorem spec_DoAct.mono : ∀ a0 a1 a2 a3 a4 k, LeO (spec_DoAct.f k a0 a1 a2 a3 a4) (spec_DoAct.f (k + 1) a0 a1 a2 a3 a4) := by
 intro a0 a1 a2 a3 a4 k
 obtain ⟨ih0, ih1, ih2⟩ := spec_DoAct.mono_l k
 unfold spec_DoAct.f
 repeat' first
  | (with_reducible exact ih0 _ _ _ _ _ _)
  | (with_reducible exact ih1 _ _ _ _ _ _ _ _ _)
  | (with_reducible exact ih2 _ _ _ _ _ _ _ _ _)
  | (with_reducible exact spec_DiskOk.mono _ _)
  | (with_reducible exact spec_l03At.mono _ _ _)
  | (with_reducible exact spec_l03Put.mono _ _ _ _ _)
  | (with_reducible exact spec_l03Without.mono _ _ _)
  | (with_reducible exact LeO.refl _)
  | (with_reducible exact LeO.none _)
  | (with_reducible refine LeO.ite ?_ ?_)
  | (with_reducible refine LeO.bind ?_ (fun _ => ?_))
  | exact ih0 _ _ _ _ _ _
  | exact ih1 _ _ _ _ _ _ _ _ _
  | exact ih2 _ _ _ _ _ _ _ _ _
  | exact spec_DiskOk.mono _ _
  | exact spec_l03At.mono _ _ _
  | exact spec_l03Put.mono _ _ _ _ _
  | exact spec_l03Without.mono _ _ _
  | exact LeO.none _
  | refine LeO.ite ?_ ?_
  | refine LeO.bind ?_ (fun _ => ?_)
set_option maxHeartbeats 8000000 in
set_option maxRecDepth 100000 in
theorem spec_DoAct.calls (k : Nat) (A0_0 : Option Addr) (c0_0 : Nat) (l0_0 : List (S45)) (a1_0 : Int) (a1_1 : ByteArray) (a1_2 : ByteArray) (a1_3 : ByteArray) (r1 : List (S45)) (r2 : Bool) (w : World) (hr0_0 : Kd.C k45 w A0_0 l0_0.length l0_0) (hc0_0 : l0_0.length ≤ c0_0) (h : spec_DoAct.f k l0_0 a1_0 a1_1 a1_2 a1_3 = some (r1, r2)) :
 Calls Try.prog 38 #[.agg #[.slice A0_0 l0_0.length c0_0], .agg #[.int .i64 a1_0, .string a1_1, .string a1_2, .string a1_3]] w fun e w' => ∃ v0_ : Value, e = .returned (.tuple #[.agg #[v0_], .bool r2]) ∧ Kd.R k45 45 w' w.heap.size (fun _ => True) v0_ r1 ∧ Below w.heap.size w w' := by
 have hu30 := Try.underlying30
 have hu55 := Try.underlying55
 have hu45 := Try.underlying45
 have HR0_0 := aM hr0_0
 have HC0_0 := aM hc0_0
 clear hr0_0 hc0_0
 have HB := aM (Below.refl w.heap.size w)
 have H : ((spec_DiskOk.f k l0_0).bind fun t158 => (if t158 = true then ((spec_l03Name.f a1_1).bind fun t159 => (if t159 = true then (if a1_0 = 3 then (if a1_0 = 1 then (spec_DoAct.j0 k false l0_0 a1_0 a1_1 a1_2 a1_3) else (spec_DoAct.j0 k (a1_2.toList != ([] : List UInt8)) l0_0 a1_0 a1_1 a1_2 a1_3)) else (if a1_3.toList = ([] : List UInt8) then (if a1_0 = 1 then (spec_DoAct.j0 k false l0_0 a1_0 a1_1 a1_2 a1_3) else (spec_DoAct.j0 k (a1_2.toList != ([] : List UInt8)) l0_0 a1_0 a1_1 a1_2 a1_3)) else (spec_DoAct.j0 k true l0_0 a1_0 a1_1 a1_2 a1_3))) else (spec_DoAct.j0 k true l0_0 a1_0 a1_1 a1_2 a1_3))) else (spec_DoAct.j0 k true l0_0 a1_0 a1_1 a1_2 a1_3))) = some (r1, r2) := h
 clear h
 have HC3 := aM H
 clear H
 go_enter Try.func38, Try.ntmps38
 go_upto_region 1 with (first | ((with_reducible refine gate_dst (N := 2) rfl ?_); refine bxE 2 #[.slice A0_0 l0_0.length c0_0] 30 ?_; intro gb155 hg w4 hbox hb; have BK155 := aM (hbox); have GW155 := szG hg (uL HB); have GE155 := szG hg (uL HB); replace HB := aM (below_step (uL HB) hb); clear hb hbox hg) | ((with_reducible refine gate_dst (N := 3) rfl ?_); refine bxE 3 #[.int .i64 a1_0, .string a1_1, .string a1_2, .string a1_3] 55 ?_; intro gb156 hg w5 hbox hb; have BK156 := aM (hbox); have GW156 := szG hg (uL HB); have GE156 := szG hg (uL HB); have NB155_156 := neL hg BK155; have NB156_155 := neG hg BK155; replace BK155 := blkB BK155 hb; replace HB := aM (below_step (uL HB) hb); clear hb hbox hg) | ((with_reducible refine gate_dst (N := 4) rfl ?_); refine bxE 4 #[.slice none 0 0] 30 ?_; intro gb157 hg w6 hbox hb; have BK157 := aM (hbox); have GW157 := szG hg (uL HB); have GE157 := szG hg (uL HB); have NB155_157 := neL hg BK155; have NB157_155 := neG hg BK155; have NB156_157 := neL hg BK156; have NB157_156 := neG hg BK156; replace BK155 := blkB BK155 hb; replace BK156 := blkB BK156 hb; replace HB := aM (below_step (uL HB) hb); clear hb hbox hg))
 (try simp only [Act.put, List.setIfInBounds_toArray, List.set_cons_zero, List.set_cons_succ])
 go_cut [37] (fun v37 wc => ∃ (kq : Nat) (x37_2 : Bool), v37 = .bool x37_2 ∧ Aside0 (spec_DoAct.j0 kq x37_2 l0_0 a1_0 a1_1 a1_2 a1_3 = some (r1, r2)) ∧ Aside0 (kq ≤ k) ∧ Aside0 (wc.heap[gb155]? = some (.cells #[(.slice A0_0 l0_0.length c0_0)] 30 (0, 0))) ∧ Aside0 (wc.heap[gb156]? = some (.cells #[.int .i64 a1_0, .string a1_1, .string a1_2, .string a1_3] 55 (0, 0))) ∧ Aside0 (wc.heap[gb157]? = some (.cells #[(.slice none 0 0)] 30 (0, 0))) ∧ Aside0 (Below w.heap.size w wc))
 case first =>
  have H := HC3.out
  clear HC3
  replace H := Option.bind_eq_some_iff.mp H
  obtain ⟨t158, A70, H⟩ := H
  try dsimp only at H
  have A7 := aM A70
  clear A70
  refine Classical.byCases (p := t158 = true) (fun c8 => ?L1p) (fun c8 => ?L1n)
  case' L1p =>
   subst c8
   rw [if_pos rfl] at H
   replace H := Option.bind_eq_some_iff.mp H
   obtain ⟨t159, A90, H⟩ := H
   try dsimp only at H
   have A9 := aM A90
   clear A90
   refine Classical.byCases (p := t159 = true) (fun c10 => ?L2p) (fun c10 => ?L2n)
   case' L2p =>
    subst c10
    rw [if_pos rfl] at H
    refine Classical.byCases (p := a1_0 = 3) (fun c11 => ?L3p) (fun c11 => ?L3n)
    case' L3p =>
     rw [if_pos c11] at H
     have c11b0 : (a1_0 == 3) = true := beq_iff_eq.mpr c11
     have c11b1 : (a1_0 != 3) = false := bne_eq_false_iff_eq.mpr c11
     clear c11
     (first | rw [c11b0] | (simp only [i64_w, i32_w]; rw [c11b0]) | skip)
     refine Classical.byCases (p := a1_0 = 1) (fun c12 => ?L4p) (fun c12 => ?L4n)
     case' L4p =>
      rw [if_pos c12] at H
      have c12b0 : (a1_0 == 1) = true := beq_iff_eq.mpr c12
      have c12b1 : (a1_0 != 1) = false := bne_eq_false_iff_eq.mpr c12
      clear c12
      have H' := aM H
      clear H
      have hnb13 := NB155_156.out; have hnc13 := NB156_155.out; have hnb14 := NB155_157.out; have hnc14 := NB157_155.out
      have hcz15_0 := czA BK155.out 0 (.slice A0_0 l0_0.length c0_0)
      have hfz15_0 := blk_frozen BK155.out 0
     case' L4n =>
      rw [if_neg c12] at H
      have c12b0 : (a1_0 == 1) = false := beq_eq_false_iff_ne.mpr c12
      have c12b1 : (a1_0 != 1) = true := bne_iff_ne.mpr c12
      have H' := aM H
      clear H
      have hnb19 := NB155_156.out; have hnc19 := NB156_155.out; have hnb20 := NB155_157.out; have hnc20 := NB157_155.out
      have hcz21_0 := czA BK155.out 0 (.slice A0_0 l0_0.length c0_0)
      have hfz21_0 := blk_frozen BK155.out 0
    case' L3n =>
     rw [if_neg c11] at H
     have c11b0 : (a1_0 == 3) = false := beq_eq_false_iff_ne.mpr c11
     have c11b1 : (a1_0 != 3) = true := bne_iff_ne.mpr c11
     (first | rw [c11b0] | (simp only [i64_w, i32_w]; rw [c11b0]) | skip)
     refine Classical.byCases (p := a1_3.toList = ([] : List UInt8)) (fun c25 => ?L5p) (fun c25 => ?L5n)
     case' L5p =>
      rw [if_pos c25] at H
      have c25b0 : (a1_3.toList == ([] : List UInt8)) = true := beq_iff_eq.mpr c25
      have c25b1 : (a1_3.toList != ([] : List UInt8)) = false := bne_eq_false_iff_eq.mpr c25
      clear c25
      refine Classical.byCases (p := a1_0 = 1) (fun c26 => ?L6p) (fun c26 => ?L6n)
      case' L6p =>
       rw [if_pos c26] at H
       have c26b0 : (a1_0 == 1) = true := beq_iff_eq.mpr c26
       have c26b1 : (a1_0 != 1) = false := bne_eq_false_iff_eq.mpr c26
       clear c26
       have H' := aM H
       clear H
       have hnb27 := NB155_156.out; have hnc27 := NB156_155.out; have hnb28 := NB155_157.out; have hnc28 := NB157_155.out
       have hcz29_0 := czA BK155.out 0 (.slice A0_0 l0_0.length c0_0)
       have hfz29_0 := blk_frozen BK155.out 0
      case' L6n =>
       rw [if_neg c26] at H
       have c26b0 : (a1_0 == 1) = false := beq_eq_false_iff_ne.mpr c26
       have c26b1 : (a1_0 != 1) = true := bne_iff_ne.mpr c26
       have H' := aM H
       clear H
       have hnb33 := NB155_156.out; have hnc33 := NB156_155.out; have hnb34 := NB155_157.out; have hnc34 := NB157_155.out
       have hcz35_0 := czA BK155.out 0 (.slice A0_0 l0_0.length c0_0)
       have hfz35_0 := blk_frozen BK155.out 0
     case' L5n =>
      rw [if_neg c25] at H
      have c25b0 : (a1_3.toList == ([] : List UInt8)) = false := beq_eq_false_iff_ne.mpr c25
      have c25b1 : (a1_3.toList != ([] : List UInt8)) = true := bne_iff_ne.mpr c25
      have H' := aM H
      clear H
      have hnb39 := NB155_156.out; have hnc39 := NB156_155.out; have hnb40 := NB155_157.out; have hnc40 := NB157_155.out
      have hcz41_0 := czA BK155.out 0 (.slice A0_0 l0_0.length c0_0)
      have hfz41_0 := blk_frozen BK155.out 0
   case' L2n =>
    replace c10 := Bool.eq_false_iff.mpr c10
    subst c10
    have H1 : (spec_DoAct.j0 k true l0_0 a1_0 a1_1 a1_2 a1_3) = some (r1, r2) := by rw [if_neg (show ¬ (false = true) by decide)] at H; exact H
    clear H; have H := H1; clear H1
    have H' := aM H
    clear H
    have hnb45 := NB155_156.out; have hnc45 := NB156_155.out; have hnb46 := NB155_157.out; have hnc46 := NB157_155.out
    have hcz47_0 := czA BK155.out 0 (.slice A0_0 l0_0.length c0_0)
    have hfz47_0 := blk_frozen BK155.out 0
  case' L1n =>
   replace c8 := Bool.eq_false_iff.mpr c8
   subst c8
   have H1 : (spec_DoAct.j0 k true l0_0 a1_0 a1_1 a1_2 a1_3) = some (r1, r2) := by rw [if_neg (show ¬ (false = true) by decide)] at H; exact H
   clear H; have H := H1; clear H1
   have H' := aM H
   clear H
   have hnb51 := NB155_156.out; have hnc51 := NB156_155.out; have hnb52 := NB155_157.out; have hnc52 := NB157_155.out
   have hcz53_0 := czA BK155.out 0 (.slice A0_0 l0_0.length c0_0)
   have hfz53_0 := blk_frozen BK155.out 0
   go_wp2_with (first | ((with_reducible refine gate_callee (f := 20) rfl ?_); refine gL (some 10) Try.func20 #[.agg #[.slice A0_0 l0_0.length c0_0]] ?_; (with_reducible refine (spec_DiskOk.calls k _ _ l0_0 false _ ?side1 ?side2 A7.out).mono ?_); (case side1 => exact uC HR0_0 HB); (case side2 => exact HC0_0.out); rintro e w54 ⟨rfl, hb⟩; refine ⟨_, rfl, ?_⟩; replace BK155 := blkB BK155 hb; replace BK156 := blkB BK156 hb; replace BK157 := blkB BK157 hb; replace HB := aM (below_step (uL HB) hb); try clear hb))
   go_meet
   case rel => exact ⟨_, (true), (by first | rfl | (simp; done) | (simp [*]; done)), H', ⟨by first | omega | exact Nat.le_refl _⟩, ⟨by exact nB BK155.out⟩, ⟨by exact nB BK156.out⟩, ⟨by exact nB BK157.out⟩, ⟨uL HB⟩⟩
  case L4p | L6p | L5n | L2n =>
   go_wp2_with (first | ((with_reducible refine gate_callee (f := 20) rfl ?_); refine gL (some 10) Try.func20 #[.agg #[.slice A0_0 l0_0.length c0_0]] ?_; (with_reducible refine (spec_DiskOk.calls k _ _ l0_0 true _ ?side1 ?side2 A7.out).mono ?_); (case side1 => exact uC HR0_0 HB); (case side2 => exact HC0_0.out); rintro e w16 ⟨rfl, hb⟩; refine ⟨_, rfl, ?_⟩; replace BK155 := blkB BK155 hb; replace BK156 := blkB BK156 hb; replace BK157 := blkB BK157 hb; replace HB := aM (below_step (uL HB) hb); try clear hb; have hnb17 := NB156_157.out; have hnc17 := NB157_156.out; have hcz18_0 := czA BK156.out 0 (.int .i64 a1_0); have hcz18_1 := czA BK156.out 1 (.string a1_1); have hcz18_2 := czA BK156.out 2 (.string a1_2); have hcz18_3 := czA BK156.out 3 (.string a1_3); have hfz18_0 := blk_frozen BK156.out 0; have hfz18_1 := blk_frozen BK156.out 1; have hfz18_2 := blk_frozen BK156.out 2; have hfz18_3 := blk_frozen BK156.out 3) | (go_at_call 73; (with_reducible refine (spec_l03Name.calls a1_1 _ _ A9.out).mono ?_); rintro e w' ⟨rfl, ⟨nd, rfl⟩⟩))
   go_meet
   case rel => exact ⟨_, (_), (by first | rfl | (simp; done) | (simp [*]; done)), H', ⟨by first | omega | exact Nat.le_refl _⟩, ⟨by exact nB BK155.out⟩, ⟨by exact nB BK156.out⟩, ⟨by exact nB BK157.out⟩, ⟨uL HB⟩⟩
  case L4n | L6n =>
   go_wp2_with (first | ((with_reducible refine gate_callee (f := 20) rfl ?_); refine gL (some 10) Try.func20 #[.agg #[.slice A0_0 l0_0.length c0_0]] ?_; (with_reducible refine (spec_DiskOk.calls k _ _ l0_0 true _ ?side1 ?side2 A7.out).mono ?_); (case side1 => exact uC HR0_0 HB); (case side2 => exact HC0_0.out); rintro e w22 ⟨rfl, hb⟩; refine ⟨_, rfl, ?_⟩; replace BK155 := blkB BK155 hb; replace BK156 := blkB BK156 hb; replace BK157 := blkB BK157 hb; replace HB := aM (below_step (uL HB) hb); try clear hb; have hnb23 := NB156_157.out; have hnc23 := NB157_156.out; have hcz24_0 := czA BK156.out 0 (.int .i64 a1_0); have hcz24_1 := czA BK156.out 1 (.string a1_1); have hcz24_2 := czA BK156.out 2 (.string a1_2); have hcz24_3 := czA BK156.out 3 (.string a1_3); have hfz24_0 := blk_frozen BK156.out 0; have hfz24_1 := blk_frozen BK156.out 1; have hfz24_2 := blk_frozen BK156.out 2; have hfz24_3 := blk_frozen BK156.out 3) | (go_at_call 73; (with_reducible refine (spec_l03Name.calls a1_1 true _ A9.out).mono ?_); rintro e w' ⟨rfl, ⟨nd, rfl⟩⟩))
   go_meet
   case rel => exact ⟨_, ((a1_2.toList != ([] : List UInt8))), (by first | rfl | (simp; done) | (simp [*]; done) | (simp; exact emp_ne _)), H', ⟨by first | omega | exact Nat.le_refl _⟩, ⟨by exact nB BK155.out⟩, ⟨by exact nB BK156.out⟩, ⟨by exact nB BK157.out⟩, ⟨uL HB⟩⟩
 case rest =>
  clear HC3
  try clear c1; try clear c2; try clear p2; try clear c3; try clear c4; try clear c5; try clear c8; try clear c10; try clear c11; try clear c11b0; try clear c11b1; try clear c12; try clear c12b0; try clear c12b1; try clear c13; try clear c14; try clear c17; try clear c19; try clear c20; try clear c23; try clear c25; try clear c25b0; try clear c25b1; try clear c26; try clear c26b0; try clear c26b1; try clear c27; try clear c28; try clear c31; try clear c33; try clear c34; try clear c37; try clear c38; try clear c39; try clear c40; try clear c43; try clear c45; try clear c46; try clear c49; try clear c51; try clear c52; try clear hcz15_0; try clear hcz18_0; try clear hcz18_1; try clear hcz18_2; try clear hcz18_3; try clear hcz21_0; try clear hcz24_0; try clear hcz24_1; try clear hcz24_2; try clear hcz24_3; try clear hcz29_0; try clear hcz32_0; try clear hcz32_1; try clear hcz32_2; try clear hcz32_3; try clear hcz35_0; try clear hcz38_0; try clear hcz38_1; try clear hcz38_2; try clear hcz38_3; try clear hcz41_0; try clear hcz44_0; try clear hcz44_1; try clear hcz44_2; try clear hcz44_3; try clear hcz47_0; try clear hcz50_0; try clear hcz50_1; try clear hcz50_2; try clear hcz50_3; try clear hcz53_0; try clear hfz15_0; try clear hfz18_0; try clear hfz18_1; try clear hfz18_2; try clear hfz18_3; try clear hfz21_0; try clear hfz24_0; try clear hfz24_1; try clear hfz24_2; try clear hfz24_3; try clear hfz29_0; try clear hfz32_0; try clear hfz32_1; try clear hfz32_2; try clear hfz32_3; try clear hfz35_0; try clear hfz38_0; try clear hfz38_1; try clear hfz38_2; try clear hfz38_3; try clear hfz41_0; try clear hfz44_0; try clear hfz44_1; try clear hfz44_2; try clear hfz44_3; try clear hfz47_0; try clear hfz50_0; try clear hfz50_1; try clear hfz50_2; try clear hfz50_3; try clear hfz53_0
  obtain ⟨kq, x37_2, rfl, HA, HJ2, BK155, BK156, BK157, HB⟩ := hcut
  cases kq with
  | zero => exact absurd HA.out (by simp [spec_DoAct.j0])
  | succ kj2 =>
   have H := HA.out
   clear HA
   simp only [spec_DoAct.j0] at H
   by_cases c55 : x37_2 = true
   ·subst c55
    have H1 : (some (([] : List (S45)), false)) = some (r1, r2) := by rw [if_pos rfl] at H; exact H
    clear H; have H := H1; clear H1
    simp only [Option.some.injEq, Prod.mk.injEq] at H
    obtain ⟨rfl, rfl⟩ := H
    have hnb56 := NB157_155.out; have hnc56 := NB155_157.out; have hnb57 := NB157_156.out; have hnc57 := NB156_157.out
    have hcz58_0 := czA BK157.out 0 (.slice none 0 0)
    have hfz58_0 := blk_frozen BK157.out 0
    go_wp2
    refine bodyPost_ret (results_ct rfl _ _ gb157 30 #[.slice none 0 0] (0, 0) _ rfl (by refine nB ?_; refine blk_put (cs := #[.slice none 0 0]) ?_ 0 _ rfl; exact nB BK157.out) Try.underlying30 rfl (by kernel_rfl)) rfl ?_
    exact ⟨_, by first | rfl | (simp [errW_none, errW_some] <;> rfl) | (simp [*, errW_none, errW_some] <;> rfl), by first | exact Kd.R_nil _ _ _ _ _ | exact Kd.N_nil _ _ _ _ _ | exact Kd.V_nil _ _ _ _ _ | exact Kd.Q_nil _ _ _ _ _ | exact Kd.S_nil _ _ _ _ _, uL HB⟩
   ·replace c55 := Bool.eq_false_iff.mpr c55
    subst c55
    rw [if_neg (show ¬ (false = true) by decide)] at H
    replace H := Option.bind_eq_some_iff.mp H
    obtain ⟨t160, A590, H⟩ := H
    try dsimp only at H
    have A59 := aM A590
    clear A590
    have HC60 := aM H
    clear H
    have hnb61 := NB155_156.out; have hnc61 := NB156_155.out; have hnb62 := NB155_157.out; have hnc62 := NB157_155.out
    have hcz63_0 := czA BK155.out 0 (.slice A0_0 l0_0.length c0_0)
    have hfz63_0 := blk_frozen BK155.out 0; have hnb64 := NB156_157.out; have hnc64 := NB157_156.out
    have hcz65_0 := czA BK156.out 0 (.int .i64 a1_0)
    have hcz65_1 := czA BK156.out 1 (.string a1_1)
    have hcz65_2 := czA BK156.out 2 (.string a1_2)
    have hcz65_3 := czA BK156.out 3 (.string a1_3)
    have hfz65_0 := blk_frozen BK156.out 0; have hfz65_1 := blk_frozen BK156.out 1; have hfz65_2 := blk_frozen BK156.out 2; have hfz65_3 := blk_frozen BK156.out 3
    go_upto_if 47 with (first | ((with_reducible refine gate_callee (f := 70) rfl ?_); refine gL (some 42) Try.func70 #[.agg #[.slice A0_0 l0_0.length c0_0], .string a1_1] ?_; (with_reducible refine (spec_l03At.calls kj2 _ _ l0_0 a1_1 t160 _ ?side1 ?side2 A59.out).mono ?_); (case side1 => exact uC HR0_0 HB); (case side2 => exact HC0_0.out); rintro e w66 ⟨rfl, hb⟩; refine ⟨_, rfl, ?_⟩; replace BK155 := blkB BK155 hb; replace BK156 := blkB BK156 hb; replace BK157 := blkB BK157 hb; replace HB := aM (below_step (uL HB) hb); try clear hb; have hcz67_0 := czA BK156.out 0 (.int .i64 a1_0); have hcz67_1 := czA BK156.out 1 (.string a1_1); have hcz67_2 := czA BK156.out 2 (.string a1_2); have hcz67_3 := czA BK156.out 3 (.string a1_3); have hfz67_0 := blk_frozen BK156.out 0; have hfz67_1 := blk_frozen BK156.out 1; have hfz67_2 := blk_frozen BK156.out 2; have hfz67_3 := blk_frozen BK156.out 3) | ((with_reducible refine gate_dst (N := 7) rfl ?_); refine bxE 7 #[.string (⟨#[]⟩ : ByteArray), .string (⟨#[]⟩ : ByteArray), .int .i64 0] 45 ?_; intro gb161 hg w68 hbox hb; have BK161 := aM (hbox); have GW161 := szG hg (uL HB); have GE161 := szG hg (uL HB); have NB155_161 := neL hg BK155; have NB161_155 := neG hg BK155; have NB156_161 := neL hg BK156; have NB161_156 := neG hg BK156; have NB157_161 := neL hg BK157; have NB161_157 := neG hg BK157; replace BK155 := blkB BK155 hb; replace BK156 := blkB BK156 hb; replace BK157 := blkB BK157 hb; replace HB := aM (below_step (uL HB) hb); clear hb hbox hg; have hnb69 := NB161_155.out; have hnc69 := NB155_161.out; have hnb70 := NB161_156.out; have hnc70 := NB156_161.out; have hnb71 := NB161_157.out; have hnc71 := NB157_161.out; have hcz72_0 := czA BK161.out 0 (.string (⟨#[]⟩ : ByteArray)); have hcz72_1 := czA BK161.out 1 (.string (⟨#[]⟩ : ByteArray)); have hcz72_2 := czA BK161.out 2 (.int .i64 0); have hfz72_0 := blk_frozen BK161.out 0; have hfz72_1 := blk_frozen BK161.out 1; have hfz72_2 := blk_frozen BK161.out 2))
    (try simp only [Act.put, List.setIfInBounds_toArray, List.set_cons_zero, List.set_cons_succ])
    go_cut [] (fun wc => ∃ (kq : Nat) (x162000_59 : ByteArray) (x162001_59 : ByteArray) (x162002_59 : Int), Aside0 (spec_DoAct.j1 kq t160 l0_0 a1_0 a1_1 a1_2 a1_3 x162000_59 x162001_59 x162002_59 = some (r1, r2)) ∧ Aside0 (kq ≤ kj2) ∧ Aside0 (wc.heap[gb155]? = some (.cells #[(.slice A0_0 l0_0.length c0_0)] 30 (0, 0))) ∧ Aside0 (wc.heap[gb156]? = some (.cells #[.int .i64 a1_0, .string a1_1, .string a1_2, .string a1_3] 55 (0, 0))) ∧ Aside0 (wc.heap[gb157]? = some (.cells #[(.slice none 0 0)] 30 (0, 0))) ∧ Aside0 (wc.heap[gb161]? = some (.cells #[.string x162000_59, .string x162001_59, .int .i64 x162002_59] 45 (0, 0))) ∧ Aside0 (Below w.heap.size w wc))
    case first =>
     have H := HC60.out
     clear HC60
     by_cases c73 : t160 ≥ 0
     ·rw [if_pos c73] at H
      have c73b0 : decide (0 ≤ t160) = true := decide_eq_true c73
      clear c73
      (first | rw [c73b0] | (simp only [i64_w, i32_w]; rw [c73b0]) | skip)
      by_cases c74 : 0 ≤ t160
      ·rw [if_pos c74] at H
       have c74b0 : decide (0 ≤ t160) = true := decide_eq_true c74
       clear c74
       by_cases c75 : t160 < (l0_0.length : Int)
       ·rw [if_pos c75] at H
        have c75b0 : decide (t160 < (l0_0.length : Int)) = true := decide_eq_true c75
        clear c75
        have H' := aM H
        clear H
        have hnb76 := NB155_156.out; have hnc76 := NB156_155.out; have hnb77 := NB155_157.out; have hnc77 := NB157_155.out; have hnb78 := NB155_161.out; have hnc78 := NB161_155.out
        have hcz79_0 := czA BK155.out 0 (.slice A0_0 l0_0.length c0_0)
        have hfz79_0 := blk_frozen BK155.out 0
        have p162 : 0 ≤ (t160 : Int) := of_decide_eq_true (by first | (with_reducible assumption) | assumption)
        have q162 : t160 < (l0_0.length : Int) := of_decide_eq_true (by first | (with_reducible assumption) | assumption)
        obtain ⟨ad162, e162, hx162_0, hx162_1, hx162_2⟩ := at_T45 HR0_0.out t160 p162 q162
        cases e162
        have hn162_0 : ad162.block ≠ gb161 := Nat.ne_of_lt (Nat.lt_of_lt_of_le (by have := World.block_lt_of_cell? _ _ hx162_0; first | rwa [add_block] at this | exact this) GW161.out)
        have hn162_1 : ad162.block ≠ gb161 := Nat.ne_of_lt (Nat.lt_of_lt_of_le (by have := World.block_lt_of_cell? _ _ hx162_0; first | rwa [add_block] at this | exact this) GW161.out)
        have hn162_2 : ad162.block ≠ gb161 := Nat.ne_of_lt (Nat.lt_of_lt_of_le (by have := World.block_lt_of_cell? _ _ hx162_0; first | rwa [add_block] at this | exact this) GW161.out)
        replace hx162_0 := hxB HB hx162_0; replace hx162_1 := hxB HB hx162_1; replace hx162_2 := hxB HB hx162_2
        replace hx162_0 := (cell_far (p := ⟨gb161, 0, none⟩) (by first | (rw [add_block]; exact hn162_0) | (show (Addr.add _ _).block ≠ _; rw [add_block]; exact hn162_0) | exact hn162_0) (.string a1_1)).trans hx162_0
        replace hx162_1 := (cell_far (p := ⟨gb161, 0, none⟩) (by first | (rw [add_block]; exact hn162_0) | (show (Addr.add _ _).block ≠ _; rw [add_block]; exact hn162_0) | exact hn162_0) (.string a1_1)).trans hx162_1
        replace hx162_2 := (cell_far (p := ⟨gb161, 0, none⟩) (by first | (rw [add_block]; exact hn162_0) | (show (Addr.add _ _).block ≠ _; rw [add_block]; exact hn162_0) | exact hn162_0) (.string a1_1)).trans hx162_2
        replace hx162_0 := (cell_far (p := ⟨gb161, 1, none⟩) (by first | (rw [add_block]; exact hn162_1) | (show (Addr.add _ _).block ≠ _; rw [add_block]; exact hn162_1) | exact hn162_1) (.string (⟨#[]⟩ : ByteArray))).trans hx162_0
        replace hx162_1 := (cell_far (p := ⟨gb161, 1, none⟩) (by first | (rw [add_block]; exact hn162_1) | (show (Addr.add _ _).block ≠ _; rw [add_block]; exact hn162_1) | exact hn162_1) (.string (⟨#[]⟩ : ByteArray))).trans hx162_1
        replace hx162_2 := (cell_far (p := ⟨gb161, 1, none⟩) (by first | (rw [add_block]; exact hn162_1) | (show (Addr.add _ _).block ≠ _; rw [add_block]; exact hn162_1) | exact hn162_1) (.string (⟨#[]⟩ : ByteArray))).trans hx162_2
        replace hx162_0 := (cell_far (p := ⟨gb161, 2, none⟩) (by first | (rw [add_block]; exact hn162_2) | (show (Addr.add _ _).block ≠ _; rw [add_block]; exact hn162_2) | exact hn162_2) (.int .i64 0)).trans hx162_0
        replace hx162_1 := (cell_far (p := ⟨gb161, 2, none⟩) (by first | (rw [add_block]; exact hn162_2) | (show (Addr.add _ _).block ≠ _; rw [add_block]; exact hn162_2) | exact hn162_2) (.int .i64 0)).trans hx162_1
        replace hx162_2 := (cell_far (p := ⟨gb161, 2, none⟩) (by first | (rw [add_block]; exact hn162_2) | (show (Addr.add _ _).block ≠ _; rw [add_block]; exact hn162_2) | exact hn162_2) (.int .i64 0)).trans hx162_2
        clear hn162_0 hn162_1 hn162_2
        replace p162 := eq_true p162; replace q162 := eq_true q162; have hnb80 := NB161_156.out; have hnc80 := NB156_161.out; have hnb81 := NB161_157.out; have hnc81 := NB157_161.out
        have hcz82_0 := czA BK161.out 0 (.string (⟨#[]⟩ : ByteArray))
        have hcz82_1 := czA BK161.out 1 (.string (⟨#[]⟩ : ByteArray))
        have hcz82_2 := czA BK161.out 2 (.int .i64 0)
        have hfz82_0 := blk_frozen BK161.out 0; have hfz82_1 := blk_frozen BK161.out 1; have hfz82_2 := blk_frozen BK161.out 2
        go_wp2
        go_meet
        case rel => exact ⟨_, ((rd_T45 l0_0 t160).f0), ((rd_T45 l0_0 t160).f1), ((rd_T45 l0_0 t160).f2), H', ⟨by have := HJ2.out; first | omega | exact Nat.le_refl _⟩, ⟨by refine nB ?_; refine blk_far ?_ NB155_161.out _; refine nB ?_; refine blk_far ?_ NB155_161.out _; refine nB ?_; refine blk_far ?_ NB155_161.out _; refine nB ?_; refine blk_far ?_ NB155_161.out _; refine nB ?_; refine blk_far ?_ NB155_161.out _; refine nB ?_; refine blk_far ?_ NB155_161.out _; exact nB BK155.out⟩, ⟨by refine nB ?_; refine blk_far ?_ NB156_161.out _; refine nB ?_; refine blk_far ?_ NB156_161.out _; refine nB ?_; refine blk_far ?_ NB156_161.out _; refine nB ?_; refine blk_far ?_ NB156_161.out _; refine nB ?_; refine blk_far ?_ NB156_161.out _; refine nB ?_; refine blk_far ?_ NB156_161.out _; exact nB BK156.out⟩, ⟨by refine nB ?_; refine blk_far ?_ NB157_161.out _; refine nB ?_; refine blk_far ?_ NB157_161.out _; refine nB ?_; refine blk_far ?_ NB157_161.out _; refine nB ?_; refine blk_far ?_ NB157_161.out _; refine nB ?_; refine blk_far ?_ NB157_161.out _; refine nB ?_; refine blk_far ?_ NB157_161.out _; exact nB BK157.out⟩, ⟨by refine nB ?_; refine blk_put (cs := #[.string ((rd_T45 l0_0 t160).f0), .string ((rd_T45 l0_0 t160).f1), .int .i64 0]) ?_ 2 _ rfl; refine nB ?_; refine blk_put (cs := #[.string ((rd_T45 l0_0 t160).f0), .string (⟨#[]⟩ : ByteArray), .int .i64 0]) ?_ 1 _ rfl; refine nB ?_; refine blk_put (cs := #[.string a1_1, .string (⟨#[]⟩ : ByteArray), .int .i64 0]) ?_ 0 _ rfl; refine nB ?_; refine blk_put (cs := #[.string a1_1, .string (⟨#[]⟩ : ByteArray), .int .i64 0]) ?_ 2 _ rfl; refine nB ?_; refine blk_put (cs := #[.string a1_1, .string (⟨#[]⟩ : ByteArray), .int .i64 0]) ?_ 1 _ rfl; refine nB ?_; refine blk_put (cs := #[.string (⟨#[]⟩ : ByteArray), .string (⟨#[]⟩ : ByteArray), .int .i64 0]) ?_ 0 _ rfl; exact nB BK161.out⟩, ⟨uL HB⟩⟩
       ·rw [if_neg c75] at H
        exact absurd H (by simp)
      ·rw [if_neg c74] at H
       exact absurd H (by simp)
     ·rw [if_neg c73] at H
      have c73b0 : decide (0 ≤ t160) = false := decide_eq_false c73
      clear c73
      (first | rw [c73b0] | (simp only [i64_w, i32_w]; rw [c73b0]) | skip)
      have H' := aM H
      clear H
      go_wp2
      go_meet
      case rel => exact ⟨_, (a1_1), ((⟨#[]⟩ : ByteArray)), (0), H', ⟨by have := HJ2.out; first | omega | exact Nat.le_refl _⟩, ⟨by refine nB ?_; refine blk_far ?_ NB155_161.out _; refine nB ?_; refine blk_far ?_ NB155_161.out _; refine nB ?_; refine blk_far ?_ NB155_161.out _; exact nB BK155.out⟩, ⟨by refine nB ?_; refine blk_far ?_ NB156_161.out _; refine nB ?_; refine blk_far ?_ NB156_161.out _; refine nB ?_; refine blk_far ?_ NB156_161.out _; exact nB BK156.out⟩, ⟨by refine nB ?_; refine blk_far ?_ NB157_161.out _; refine nB ?_; refine blk_far ?_ NB157_161.out _; refine nB ?_; refine blk_far ?_ NB157_161.out _; exact nB BK157.out⟩, ⟨by refine nB ?_; refine blk_put (cs := #[.string a1_1, .string (⟨#[]⟩ : ByteArray), .int .i64 0]) ?_ 2 _ rfl; refine nB ?_; refine blk_put (cs := #[.string a1_1, .string (⟨#[]⟩ : ByteArray), .int .i64 0]) ?_ 1 _ rfl; refine nB ?_; refine blk_put (cs := #[.string (⟨#[]⟩ : ByteArray), .string (⟨#[]⟩ : ByteArray), .int .i64 0]) ?_ 0 _ rfl; exact nB BK161.out⟩, ⟨uL HB⟩⟩
    case rest =>
     clear HC60
     try clear c1; try clear p1; try clear q1; try clear hx1; try clear c2; try clear p2; try clear c3; try clear c4; try clear c5; try clear c6; try clear c7; try clear c8; try clear c10; try clear c11; try clear c11b0; try clear c11b1; try clear c12; try clear c12b0; try clear c12b1; try clear c13; try clear c14; try clear p16; try clear q16; try clear hx16; try clear c17; try clear c19; try clear c20; try clear c23; try clear c25; try clear c25b0; try clear c25b1; try clear c26; try clear c26b0; try clear c26b1; try clear c27; try clear c28; try clear c31; try clear c33; try clear c34; try clear c37; try clear c38; try clear c39; try clear c40; try clear c43; try clear c45; try clear c46; try clear c49; try clear c51; try clear c52; try clear c55; try clear c56; try clear c57; try clear c61; try clear c62; try clear c64; try clear c69; try clear c70; try clear c71; try clear c73; try clear c73b0; try clear c74; try clear c74b0; try clear c75; try clear c75b0; try clear c76; try clear c77; try clear c78; try clear c80; try clear c81; try clear hcz15_0; try clear hcz18_0; try clear hcz18_1; try clear hcz18_2; try clear hcz18_3; try clear hcz21_0; try clear hcz24_0; try clear hcz24_1; try clear hcz24_2; try clear hcz24_3; try clear hcz29_0; try clear hcz32_0; try clear hcz32_1; try clear hcz32_2; try clear hcz32_3; try clear hcz35_0; try clear hcz38_0; try clear hcz38_1; try clear hcz38_2; try clear hcz38_3; try clear hcz41_0; try clear hcz44_0; try clear hcz44_1; try clear hcz44_2; try clear hcz44_3; try clear hcz47_0; try clear hcz50_0; try clear hcz50_1; try clear hcz50_2; try clear hcz50_3; try clear hcz53_0; try clear hcz58_0; try clear hcz63_0; try clear hcz65_0; try clear hcz65_1; try clear hcz65_2; try clear hcz65_3; try clear hcz67_0; try clear hcz67_1; try clear hcz67_2; try clear hcz67_3; try clear hcz72_0; try clear hcz72_1; try clear hcz72_2; try clear hcz79_0; try clear hcz82_0; try clear hcz82_1; try clear hcz82_2; try clear hfz15_0; try clear hfz18_0; try clear hfz18_1; try clear hfz18_2; try clear hfz18_3; try clear hfz21_0; try clear hfz24_0; try clear hfz24_1; try clear hfz24_2; try clear hfz24_3; try clear hfz29_0; try clear hfz32_0; try clear hfz32_1; try clear hfz32_2; try clear hfz32_3; try clear hfz35_0; try clear hfz38_0; try clear hfz38_1; try clear hfz38_2; try clear hfz38_3; try clear hfz41_0; try clear hfz44_0; try clear hfz44_1; try clear hfz44_2; try clear hfz44_3; try clear hfz47_0; try clear hfz50_0; try clear hfz50_1; try clear hfz50_2; try clear hfz50_3; try clear hfz53_0; try clear hfz58_0; try clear hfz63_0; try clear hfz65_0; try clear hfz65_1; try clear hfz65_2; try clear hfz65_3; try clear hfz67_0; try clear hfz67_1; try clear hfz67_2; try clear hfz67_3; try clear hfz72_0; try clear hfz72_1; try clear hfz72_2; try clear hfz79_0; try clear hfz82_0; try clear hfz82_1; try clear hfz82_2; try clear hx162_0; try clear hx162_1; try clear hx162_2; try clear p162; try clear p2; try clear q162
     obtain ⟨kq, x162000_59, x162001_59, x162002_59, HA, HJ59, BK155, BK156, BK157, BK161, HB⟩ := hcut
     cases kq with
     | zero => exact absurd HA.out (by simp [spec_DoAct.j1])
     | succ kj59 =>
      have H := HA.out
      clear HA
      simp only [spec_DoAct.j1] at H
      refine Classical.byCases (p := a1_0 = 1) (fun c83 => ?L7p) (fun c83 => ?L7n)
      case' L7p =>
       rw [if_pos c83] at H
       have c83b0 : (a1_0 == 1) = true := beq_iff_eq.mpr c83
       have c83b1 : (a1_0 != 1) = false := bne_eq_false_iff_eq.mpr c83
       clear c83
       by_cases c84 : x162001_59.size + a1_2.size ≤ 9223372036854775807
       ·rw [if_pos c84] at H
        have c84b0 := eq_true c84
        have c84b1 : decide (x162001_59.size + a1_2.size ≤ 9223372036854775807) = true := decide_eq_true c84
        try have c84b2 : (9223372036854775807 < x162001_59.size + a1_2.size) = False := eq_false (Nat.not_lt.2 c84)
        replace H := Option.bind_eq_some_iff.mp H
        obtain ⟨t164, A850, H⟩ := H
        try dsimp only at H
        have A85 := aM A850
        clear A850
        replace H := Option.bind_eq_some_iff.mp H
        obtain ⟨t167, A860, H⟩ := H
        replace H : (if t167 = true then (some (t164, true)) else (some (([] : List (S45)), false))) = some (r1, r2) := H
        have A86 := aM A860
        clear A860
        by_cases c87 : t167 = true
        ·subst c87
         have H1 : (some (t164, true)) = some (r1, r2) := by rw [if_pos rfl] at H; exact H
         clear H; have H := H1; clear H1
         simp only [Option.some.injEq, Prod.mk.injEq] at H
         obtain ⟨rfl, rfl⟩ := H
         go_wp2_with (first | ((with_reducible refine gate_dst (N := 8) rfl ?_); refine bxE 8 #[.slice none 0 0] 30 ?_; intro gb163 hg w88 hbox hb; have BK163 := aM (hbox); have GW163 := szG hg (uL HB); have GE163 := szG hg (uL HB); have NB155_163 := neL hg BK155; have NB163_155 := neG hg BK155; have NB156_163 := neL hg BK156; have NB163_156 := neG hg BK156; have NB157_163 := neL hg BK157; have NB163_157 := neG hg BK157; have NB161_163 := neL hg BK161; have NB163_161 := neG hg BK161; replace BK155 := blkB BK155 hb; replace BK156 := blkB BK156 hb; replace BK157 := blkB BK157 hb; replace BK161 := blkB BK161 hb; replace HB := aM (below_step (uL HB) hb); clear hb hbox hg; have hnb89 := NB163_155.out; have hnc89 := NB155_163.out; have hnb90 := NB163_156.out; have hnc90 := NB156_163.out; have hnb91 := NB163_157.out; have hnc91 := NB157_163.out; have hnb92 := NB163_161.out; have hnc92 := NB161_163.out; have hcz93_0 := czA BK163.out 0 (.slice none 0 0); have hfz93_0 := blk_frozen BK163.out 0; have hnb94 := NB156_155.out; have hnc94 := NB155_156.out; have hnb95 := NB156_157.out; have hnc95 := NB157_156.out; have hnb96 := NB156_161.out; have hnc96 := NB161_156.out; have hcz97_0 := czA BK156.out 0 (.int .i64 a1_0); have hcz97_1 := czA BK156.out 1 (.string a1_1); have hcz97_2 := czA BK156.out 2 (.string a1_2); have hcz97_3 := czA BK156.out 3 (.string a1_3); have hfz97_0 := blk_frozen BK156.out 0; have hfz97_1 := blk_frozen BK156.out 1; have hfz97_2 := blk_frozen BK156.out 2; have hfz97_3 := blk_frozen BK156.out 3; have hnb98 := NB161_155.out; have hnc98 := NB155_161.out; have hnb99 := NB161_157.out; have hnc99 := NB157_161.out; have hcz100_0 := czA BK161.out 0 (.string x162000_59); have hcz100_1 := czA BK161.out 1 (.string x162001_59); have hcz100_2 := czA BK161.out 2 (.int .i64 x162002_59); have hfz100_0 := blk_frozen BK161.out 0; have hfz100_1 := blk_frozen BK161.out 1; have hfz100_2 := blk_frozen BK161.out 2; have hnb101 := NB155_157.out; have hnc101 := NB157_155.out; have hcz102_0 := czA BK155.out 0 (.slice A0_0 l0_0.length c0_0); have hfz102_0 := blk_frozen BK155.out 0) | ((with_reducible refine gate_callee (f := 79) rfl ?_); refine gL (some 67) Try.func79 #[.agg #[.slice A0_0 l0_0.length c0_0], .agg #[.string x162000_59, .string (x162001_59 ++ a1_2), .int .i64 x162002_59]] ?_; (with_reducible refine (spec_l03Put.calls kj59 _ _ l0_0 x162000_59 (x162001_59 ++ a1_2) x162002_59 t164 _ ?side1 ?side2 A85.out).mono ?_); (case side1 => exact Kd.C_below HR0_0.out (uL HB)); (case side2 => exact HC0_0.out); rintro e w103 ⟨v165, rfl, ho0, hb⟩; refine ⟨_, rfl, ?_⟩; have HO166 := aM (Kd.R_lower (Kd.R_newB ho0 (g := gb161) (o := .cells #[.string x162000_59, .string (x162001_59 ++ a1_2), .int .i64 x162002_59] 45 (0, 0)) (by refine nB ?_; refine blk_put (cs := #[.string x162000_59, .string x162001_59, .int .i64 x162002_59]) ?_ 1 _ rfl; refine nB ?_; refine blk_far ?_ NB161_163.out _; exact nB BK161.out)) (below_size (uL HB))); replace BK155 := blkB BK155 hb; replace BK156 := blkB BK156 hb; replace BK157 := blkB BK157 hb; replace BK161 := aM (blk_below (g := gb161) (o := .cells #[.string x162000_59, .string (x162001_59 ++ a1_2), .int .i64 x162002_59] 45 (0, 0)) (by refine nB ?_; refine blk_put (cs := #[.string x162000_59, .string x162001_59, .int .i64 x162002_59]) ?_ 1 _ rfl; refine nB ?_; refine blk_far ?_ NB161_163.out _; exact nB BK161.out) hb); replace BK163 := aM (blk_below (g := gb163) (o := .cells #[.slice none 0 0] 30 (0, 0)) (by refine nB ?_; refine blk_far ?_ NB163_161.out _; refine nB ?_; refine blk_put (cs := #[.slice none 0 0]) ?_ 0 _ rfl; exact nB BK163.out) hb); replace HB := aM (below_step (uL HB) hb); try clear hb ho0; obtain ⟨Ao104, co104, eo104⟩ := Kd.R_slice HO166.out; subst eo104; have hcz105_0 := czA BK163.out 0 (.slice none 0 0); have hfz105_0 := blk_frozen BK163.out 0) | ((with_reducible refine gate_callee (f := 20) rfl ?_); refine gL (some 125) Try.func20 #[.agg #[.slice Ao104 t164.length co104]] ?_; (with_reducible refine (spec_DiskOk.calls kj59 _ _ t164 true _ ?side1 ?side2 A86.out).mono ?_); (case side1 => refine (Kd.R_reads' (e := 45) (base := w.heap.size) (ok := fun k_ => (True ∧ k_ ≠ gb161)) (n := t164.length) (c := co104) ?_).2.2; exact (by (with_reducible repeat first | apply rA | apply rN | apply rD); exact (Kd.R_mono (Kd.R_far (p := ⟨gb163, 0, none⟩) (Kd.R_types HO166.out BK163.out (by decide)) (fun _ hk => hk.2) (.slice Ao104 t164.length co104)) (fun _ h_ => h_.1)))); (case side2 => exact (Kd.R_reads' HO166.out).2.1); rintro e w106 ⟨rfl, hb⟩; refine ⟨_, rfl, ?_⟩; replace HO166 := aM (Kd.R_below (by (with_reducible repeat first | apply rA | apply rN | apply rD); exact (Kd.R_mono (Kd.R_far (p := ⟨gb163, 0, none⟩) (Kd.R_types HO166.out BK163.out (by decide)) (fun _ hk => hk.2) (.slice Ao104 t164.length co104)) (fun _ h_ => h_.1))) hb); replace BK155 := blkB BK155 hb; replace BK156 := blkB BK156 hb; replace BK157 := blkB BK157 hb; replace BK161 := blkB BK161 hb; replace BK163 := aM (blk_below (g := gb163) (o := .cells #[.slice Ao104 t164.length co104] 30 (0, 0)) (by refine nB ?_; refine blk_put (cs := #[.slice none 0 0]) ?_ 0 _ rfl; exact nB BK163.out) hb); replace HB := aM (below_step (uL HB) hb); try clear hb; have hcz107_0 := czA BK163.out 0 (.slice Ao104 t164.length co104); have hfz107_0 := blk_frozen BK163.out 0; have hcz108_0 := czA BK157.out 0 (.slice none 0 0); have hfz108_0 := blk_frozen BK157.out 0))
         refine bodyPost_ret (results_ct rfl _ _ gb157 30 #[.slice Ao104 t164.length co104] (0, 0) _ rfl (by refine nB ?_; refine blk_put (cs := #[.slice none 0 0]) ?_ 0 _ rfl; exact nB BK157.out) Try.underlying30 rfl (by kernel_rfl)) rfl ?_
         exact ⟨_, by first | rfl | (simp [errW_none, errW_some] <;> rfl) | (simp [*, errW_none, errW_some] <;> rfl), by (with_reducible repeat first | apply rA | apply rN | apply rD); exact Kd.R_mono (Kd.R_far (p := ⟨gb157, 0, none⟩) (Kd.R_types HO166.out BK157.out (by decide)) (fun _ hk => hk.2) (.slice Ao104 t164.length co104)) (fun _ hk => trivial), uL HB⟩
        ·replace c87 := Bool.eq_false_iff.mpr c87
         subst c87
         have H1 : (some (([] : List (S45)), false)) = some (r1, r2) := by rw [if_neg (show ¬ (false = true) by decide)] at H; exact H
         clear H; have H := H1; clear H1
         simp only [Option.some.injEq, Prod.mk.injEq] at H
         obtain ⟨rfl, rfl⟩ := H
         go_wp2_with (first | ((with_reducible refine gate_dst (N := 8) rfl ?_); refine bxE 8 #[.slice none 0 0] 30 ?_; intro gb163 hg w109 hbox hb; have BK163 := aM (hbox); have GW163 := szG hg (uL HB); have GE163 := szG hg (uL HB); have NB155_163 := neL hg BK155; have NB163_155 := neG hg BK155; have NB156_163 := neL hg BK156; have NB163_156 := neG hg BK156; have NB157_163 := neL hg BK157; have NB163_157 := neG hg BK157; have NB161_163 := neL hg BK161; have NB163_161 := neG hg BK161; replace BK155 := blkB BK155 hb; replace BK156 := blkB BK156 hb; replace BK157 := blkB BK157 hb; replace BK161 := blkB BK161 hb; replace HB := aM (below_step (uL HB) hb); clear hb hbox hg; have hnb110 := NB163_155.out; have hnc110 := NB155_163.out; have hnb111 := NB163_156.out; have hnc111 := NB156_163.out; have hnb112 := NB163_157.out; have hnc112 := NB157_163.out; have hnb113 := NB163_161.out; have hnc113 := NB161_163.out; have hcz114_0 := czA BK163.out 0 (.slice none 0 0); have hfz114_0 := blk_frozen BK163.out 0; have hnb115 := NB156_155.out; have hnc115 := NB155_156.out; have hnb116 := NB156_157.out; have hnc116 := NB157_156.out; have hnb117 := NB156_161.out; have hnc117 := NB161_156.out; have hcz118_0 := czA BK156.out 0 (.int .i64 a1_0); have hcz118_1 := czA BK156.out 1 (.string a1_1); have hcz118_2 := czA BK156.out 2 (.string a1_2); have hcz118_3 := czA BK156.out 3 (.string a1_3); have hfz118_0 := blk_frozen BK156.out 0; have hfz118_1 := blk_frozen BK156.out 1; have hfz118_2 := blk_frozen BK156.out 2; have hfz118_3 := blk_frozen BK156.out 3; have hnb119 := NB161_155.out; have hnc119 := NB155_161.out; have hnb120 := NB161_157.out; have hnc120 := NB157_161.out; have hcz121_0 := czA BK161.out 0 (.string x162000_59); have hcz121_1 := czA BK161.out 1 (.string x162001_59); have hcz121_2 := czA BK161.out 2 (.int .i64 x162002_59); have hfz121_0 := blk_frozen BK161.out 0; have hfz121_1 := blk_frozen BK161.out 1; have hfz121_2 := blk_frozen BK161.out 2; have hnb122 := NB155_157.out; have hnc122 := NB157_155.out; have hcz123_0 := czA BK155.out 0 (.slice A0_0 l0_0.length c0_0); have hfz123_0 := blk_frozen BK155.out 0) | ((with_reducible refine gate_callee (f := 79) rfl ?_); refine gL (some 67) Try.func79 #[.agg #[.slice A0_0 l0_0.length c0_0], .agg #[.string x162000_59, .string (x162001_59 ++ a1_2), .int .i64 x162002_59]] ?_; (with_reducible refine (spec_l03Put.calls kj59 _ _ l0_0 x162000_59 (x162001_59 ++ a1_2) x162002_59 t164 _ ?side1 ?side2 A85.out).mono ?_); (case side1 => exact Kd.C_below HR0_0.out (uL HB)); (case side2 => exact HC0_0.out); rintro e w124 ⟨v165, rfl, ho0, hb⟩; refine ⟨_, rfl, ?_⟩; have HO166 := aM (Kd.R_lower (Kd.R_newB ho0 (g := gb161) (o := .cells #[.string x162000_59, .string (x162001_59 ++ a1_2), .int .i64 x162002_59] 45 (0, 0)) (by refine nB ?_; refine blk_put (cs := #[.string x162000_59, .string x162001_59, .int .i64 x162002_59]) ?_ 1 _ rfl; refine nB ?_; refine blk_far ?_ NB161_163.out _; exact nB BK161.out)) (below_size (uL HB))); replace BK155 := blkB BK155 hb; replace BK156 := blkB BK156 hb; replace BK157 := blkB BK157 hb; replace BK161 := aM (blk_below (g := gb161) (o := .cells #[.string x162000_59, .string (x162001_59 ++ a1_2), .int .i64 x162002_59] 45 (0, 0)) (by refine nB ?_; refine blk_put (cs := #[.string x162000_59, .string x162001_59, .int .i64 x162002_59]) ?_ 1 _ rfl; refine nB ?_; refine blk_far ?_ NB161_163.out _; exact nB BK161.out) hb); replace BK163 := aM (blk_below (g := gb163) (o := .cells #[.slice none 0 0] 30 (0, 0)) (by refine nB ?_; refine blk_far ?_ NB163_161.out _; refine nB ?_; refine blk_put (cs := #[.slice none 0 0]) ?_ 0 _ rfl; exact nB BK163.out) hb); replace HB := aM (below_step (uL HB) hb); try clear hb ho0; obtain ⟨Ao125, co125, eo125⟩ := Kd.R_slice HO166.out; subst eo125; have hcz126_0 := czA BK163.out 0 (.slice none 0 0); have hfz126_0 := blk_frozen BK163.out 0) | ((with_reducible refine gate_callee (f := 20) rfl ?_); refine gL (some 125) Try.func20 #[.agg #[.slice Ao125 t164.length co125]] ?_; (with_reducible refine (spec_DiskOk.calls kj59 _ _ t164 false _ ?side1 ?side2 A86.out).mono ?_); (case side1 => refine (Kd.R_reads' (e := 45) (base := w.heap.size) (ok := fun k_ => (True ∧ k_ ≠ gb161)) (n := t164.length) (c := co125) ?_).2.2; exact (by (with_reducible repeat first | apply rA | apply rN | apply rD); exact (Kd.R_mono (Kd.R_far (p := ⟨gb163, 0, none⟩) (Kd.R_types HO166.out BK163.out (by decide)) (fun _ hk => hk.2) (.slice Ao125 t164.length co125)) (fun _ h_ => h_.1)))); (case side2 => exact (Kd.R_reads' HO166.out).2.1); rintro e w127 ⟨rfl, hb⟩; refine ⟨_, rfl, ?_⟩; replace HO166 := aM (Kd.R_below (by (with_reducible repeat first | apply rA | apply rN | apply rD); exact (Kd.R_mono (Kd.R_far (p := ⟨gb163, 0, none⟩) (Kd.R_types HO166.out BK163.out (by decide)) (fun _ hk => hk.2) (.slice Ao125 t164.length co125)) (fun _ h_ => h_.1))) hb); replace BK155 := blkB BK155 hb; replace BK156 := blkB BK156 hb; replace BK157 := blkB BK157 hb; replace BK161 := blkB BK161 hb; replace BK163 := aM (blk_below (g := gb163) (o := .cells #[.slice Ao125 t164.length co125] 30 (0, 0)) (by refine nB ?_; refine blk_put (cs := #[.slice none 0 0]) ?_ 0 _ rfl; exact nB BK163.out) hb); replace HB := aM (below_step (uL HB) hb); try clear hb; have hcz128_0 := czA BK157.out 0 (.slice none 0 0); have hfz128_0 := blk_frozen BK157.out 0))
         refine bodyPost_ret (results_ct rfl _ _ gb157 30 #[.slice none 0 0] (0, 0) _ rfl (by refine nB ?_; refine blk_put (cs := #[.slice none 0 0]) ?_ 0 _ rfl; exact nB BK157.out) Try.underlying30 rfl (by kernel_rfl)) rfl ?_
         exact ⟨_, by first | rfl | (simp [errW_none, errW_some] <;> rfl) | (simp [*, errW_none, errW_some] <;> rfl), by first | exact Kd.R_nil _ _ _ _ _ | exact Kd.N_nil _ _ _ _ _ | exact Kd.V_nil _ _ _ _ _ | exact Kd.Q_nil _ _ _ _ _ | exact Kd.S_nil _ _ _ _ _, uL HB⟩
       ·rw [if_neg c84] at H
        exact absurd H (by simp)
      case' L7n =>
       rw [if_neg c83] at H
       have c83b0 : (a1_0 == 1) = false := beq_eq_false_iff_ne.mpr c83
       have c83b1 : (a1_0 != 1) = true := bne_iff_ne.mpr c83
       refine Classical.byCases (p := t160 < 0) (fun c129 => ?L8p) (fun c129 => ?L8n)
       case' L8p =>
        rw [if_pos c129] at H
        have c129b0 : decide (t160 < 0) = true := decide_eq_true c129
        clear c129
        simp only [Option.some.injEq, Prod.mk.injEq] at H
        obtain ⟨rfl, rfl⟩ := H
       case' L8n =>
        rw [if_neg c129] at H
        have c129b0 : decide (t160 < 0) = false := decide_eq_false c129
        clear c129
        refine Classical.byCases (p := a1_0 = 2) (fun c143 => ?L9p) (fun c143 => ?L9n)
        case' L9p =>
         rw [if_pos c143] at H
         have c143b0 : (a1_0 == 2) = true := beq_iff_eq.mpr c143
         have c143b1 : (a1_0 != 2) = false := bne_eq_false_iff_eq.mpr c143
         clear c143
         replace H := Option.bind_eq_some_iff.mp H
         obtain ⟨t168, A1440, H⟩ := H
         try dsimp only at H
         have A144 := aM A1440
         clear A1440
         replace H := Option.bind_eq_some_iff.mp H
         obtain ⟨t171, A1450, H⟩ := H
         replace H : (if t171 = true then (some (t168, true)) else (some (([] : List (S45)), false))) = some (r1, r2) := H
         have A145 := aM A1450
         clear A1450
         by_cases c146 : t171 = true
         ·subst c146
          have H1 : (some (t168, true)) = some (r1, r2) := by rw [if_pos rfl] at H; exact H
          clear H; have H := H1; clear H1
          simp only [Option.some.injEq, Prod.mk.injEq] at H
          obtain ⟨rfl, rfl⟩ := H
          go_wp2_with (first | ((with_reducible refine gate_dst (N := 8) rfl ?_); refine bxE 8 #[.slice none 0 0] 30 ?_; intro gb163 hg w147 hbox hb; have BK163 := aM (hbox); have GW163 := szG hg (uL HB); have GE163 := szG hg (uL HB); have NB155_163 := neL hg BK155; have NB163_155 := neG hg BK155; have NB156_163 := neL hg BK156; have NB163_156 := neG hg BK156; have NB157_163 := neL hg BK157; have NB163_157 := neG hg BK157; have NB161_163 := neL hg BK161; have NB163_161 := neG hg BK161; replace BK155 := blkB BK155 hb; replace BK156 := blkB BK156 hb; replace BK157 := blkB BK157 hb; replace BK161 := blkB BK161 hb; replace HB := aM (below_step (uL HB) hb); clear hb hbox hg; have hnb148 := NB163_155.out; have hnc148 := NB155_163.out; have hnb149 := NB163_156.out; have hnc149 := NB156_163.out; have hnb150 := NB163_157.out; have hnc150 := NB157_163.out; have hnb151 := NB163_161.out; have hnc151 := NB161_163.out; have hcz152_0 := czA BK163.out 0 (.slice none 0 0); have hfz152_0 := blk_frozen BK163.out 0; have hnb153 := NB156_155.out; have hnc153 := NB155_156.out; have hnb154 := NB156_157.out; have hnc154 := NB157_156.out; have hnb155 := NB156_161.out; have hnc155 := NB161_156.out; have hcz156_0 := czA BK156.out 0 (.int .i64 a1_0); have hcz156_1 := czA BK156.out 1 (.string a1_1); have hcz156_2 := czA BK156.out 2 (.string a1_2); have hcz156_3 := czA BK156.out 3 (.string a1_3); have hfz156_0 := blk_frozen BK156.out 0; have hfz156_1 := blk_frozen BK156.out 1; have hfz156_2 := blk_frozen BK156.out 2; have hfz156_3 := blk_frozen BK156.out 3; have hnb157 := NB161_155.out; have hnc157 := NB155_161.out; have hnb158 := NB161_157.out; have hnc158 := NB157_161.out; have hcz159_0 := czA BK161.out 0 (.string x162000_59); have hcz159_1 := czA BK161.out 1 (.string x162001_59); have hcz159_2 := czA BK161.out 2 (.int .i64 x162002_59); have hfz159_0 := blk_frozen BK161.out 0; have hfz159_1 := blk_frozen BK161.out 1; have hfz159_2 := blk_frozen BK161.out 2; have hnb160 := NB155_157.out; have hnc160 := NB157_155.out; have hcz161_0 := czA BK155.out 0 (.slice A0_0 l0_0.length c0_0); have hfz161_0 := blk_frozen BK155.out 0) | ((with_reducible refine gate_callee (f := 79) rfl ?_); refine gL (some 82) Try.func79 #[.agg #[.slice A0_0 l0_0.length c0_0], .agg #[.string x162000_59, .string x162001_59, .int .i64 (x162001_59.size : Int)]] ?_; (with_reducible refine (spec_l03Put.calls kj59 _ _ l0_0 x162000_59 x162001_59 (x162001_59.size : Int) t168 _ ?side1 ?side2 A144.out).mono ?_); (case side1 => exact Kd.C_below HR0_0.out (uL HB)); (case side2 => exact HC0_0.out); rintro e w162 ⟨v169, rfl, ho0, hb⟩; refine ⟨_, rfl, ?_⟩; have HO170 := aM (Kd.R_lower (Kd.R_newB ho0 (g := gb161) (o := .cells #[.string x162000_59, .string x162001_59, .int .i64 (x162001_59.size : Int)] 45 (0, 0)) (by refine nB ?_; refine blk_put (cs := #[.string x162000_59, .string x162001_59, .int .i64 x162002_59]) ?_ 2 _ rfl; refine nB ?_; refine blk_far ?_ NB161_163.out _; exact nB BK161.out)) (below_size (uL HB))); replace BK155 := blkB BK155 hb; replace BK156 := blkB BK156 hb; replace BK157 := blkB BK157 hb; replace BK161 := aM (blk_below (g := gb161) (o := .cells #[.string x162000_59, .string x162001_59, .int .i64 (x162001_59.size : Int)] 45 (0, 0)) (by refine nB ?_; refine blk_put (cs := #[.string x162000_59, .string x162001_59, .int .i64 x162002_59]) ?_ 2 _ rfl; refine nB ?_; refine blk_far ?_ NB161_163.out _; exact nB BK161.out) hb); replace BK163 := aM (blk_below (g := gb163) (o := .cells #[.slice none 0 0] 30 (0, 0)) (by refine nB ?_; refine blk_far ?_ NB163_161.out _; refine nB ?_; refine blk_put (cs := #[.slice none 0 0]) ?_ 0 _ rfl; exact nB BK163.out) hb); replace HB := aM (below_step (uL HB) hb); try clear hb ho0; obtain ⟨Ao163, co163, eo163⟩ := Kd.R_slice HO170.out; subst eo163; have hcz164_0 := czA BK163.out 0 (.slice none 0 0); have hfz164_0 := blk_frozen BK163.out 0) | ((with_reducible refine gate_callee (f := 20) rfl ?_); refine gL (some 125) Try.func20 #[.agg #[.slice Ao163 t168.length co163]] ?_; (with_reducible refine (spec_DiskOk.calls kj59 _ _ t168 true _ ?side1 ?side2 A145.out).mono ?_); (case side1 => refine (Kd.R_reads' (e := 45) (base := w.heap.size) (ok := fun k_ => (True ∧ k_ ≠ gb161)) (n := t168.length) (c := co163) ?_).2.2; exact (by (with_reducible repeat first | apply rA | apply rN | apply rD); exact (Kd.R_mono (Kd.R_far (p := ⟨gb163, 0, none⟩) (Kd.R_types HO170.out BK163.out (by decide)) (fun _ hk => hk.2) (.slice Ao163 t168.length co163)) (fun _ h_ => h_.1)))); (case side2 => exact (Kd.R_reads' HO170.out).2.1); rintro e w165 ⟨rfl, hb⟩; refine ⟨_, rfl, ?_⟩; replace HO170 := aM (Kd.R_below (by (with_reducible repeat first | apply rA | apply rN | apply rD); exact (Kd.R_mono (Kd.R_far (p := ⟨gb163, 0, none⟩) (Kd.R_types HO170.out BK163.out (by decide)) (fun _ hk => hk.2) (.slice Ao163 t168.length co163)) (fun _ h_ => h_.1))) hb); replace BK155 := blkB BK155 hb; replace BK156 := blkB BK156 hb; replace BK157 := blkB BK157 hb; replace BK161 := blkB BK161 hb; replace BK163 := aM (blk_below (g := gb163) (o := .cells #[.slice Ao163 t168.length co163] 30 (0, 0)) (by refine nB ?_; refine blk_put (cs := #[.slice none 0 0]) ?_ 0 _ rfl; exact nB BK163.out) hb); replace HB := aM (below_step (uL HB) hb); try clear hb; have hcz166_0 := czA BK163.out 0 (.slice Ao163 t168.length co163); have hfz166_0 := blk_frozen BK163.out 0; have hcz167_0 := czA BK157.out 0 (.slice none 0 0); have hfz167_0 := blk_frozen BK157.out 0))
          refine bodyPost_ret (results_ct rfl _ _ gb157 30 #[.slice Ao163 t168.length co163] (0, 0) _ rfl (by refine nB ?_; refine blk_put (cs := #[.slice none 0 0]) ?_ 0 _ rfl; exact nB BK157.out) Try.underlying30 rfl (by kernel_rfl)) rfl ?_
          exact ⟨_, by first | rfl | (simp [errW_none, errW_some] <;> rfl) | (simp [*, errW_none, errW_some] <;> rfl), by (with_reducible repeat first | apply rA | apply rN | apply rD); exact Kd.R_mono (Kd.R_far (p := ⟨gb157, 0, none⟩) (Kd.R_types HO170.out BK157.out (by decide)) (fun _ hk => hk.2) (.slice Ao163 t168.length co163)) (fun _ hk => trivial), uL HB⟩
         ·replace c146 := Bool.eq_false_iff.mpr c146
          subst c146
          have H1 : (some (([] : List (S45)), false)) = some (r1, r2) := by rw [if_neg (show ¬ (false = true) by decide)] at H; exact H
          clear H; have H := H1; clear H1
          simp only [Option.some.injEq, Prod.mk.injEq] at H
          obtain ⟨rfl, rfl⟩ := H
          go_wp2_with (first | ((with_reducible refine gate_dst (N := 8) rfl ?_); refine bxE 8 #[.slice none 0 0] 30 ?_; intro gb163 hg w168 hbox hb; have BK163 := aM (hbox); have GW163 := szG hg (uL HB); have GE163 := szG hg (uL HB); have NB155_163 := neL hg BK155; have NB163_155 := neG hg BK155; have NB156_163 := neL hg BK156; have NB163_156 := neG hg BK156; have NB157_163 := neL hg BK157; have NB163_157 := neG hg BK157; have NB161_163 := neL hg BK161; have NB163_161 := neG hg BK161; replace BK155 := blkB BK155 hb; replace BK156 := blkB BK156 hb; replace BK157 := blkB BK157 hb; replace BK161 := blkB BK161 hb; replace HB := aM (below_step (uL HB) hb); clear hb hbox hg; have hnb169 := NB163_155.out; have hnc169 := NB155_163.out; have hnb170 := NB163_156.out; have hnc170 := NB156_163.out; have hnb171 := NB163_157.out; have hnc171 := NB157_163.out; have hnb172 := NB163_161.out; have hnc172 := NB161_163.out; have hcz173_0 := czA BK163.out 0 (.slice none 0 0); have hfz173_0 := blk_frozen BK163.out 0; have hnb174 := NB156_155.out; have hnc174 := NB155_156.out; have hnb175 := NB156_157.out; have hnc175 := NB157_156.out; have hnb176 := NB156_161.out; have hnc176 := NB161_156.out; have hcz177_0 := czA BK156.out 0 (.int .i64 a1_0); have hcz177_1 := czA BK156.out 1 (.string a1_1); have hcz177_2 := czA BK156.out 2 (.string a1_2); have hcz177_3 := czA BK156.out 3 (.string a1_3); have hfz177_0 := blk_frozen BK156.out 0; have hfz177_1 := blk_frozen BK156.out 1; have hfz177_2 := blk_frozen BK156.out 2; have hfz177_3 := blk_frozen BK156.out 3; have hnb178 := NB161_155.out; have hnc178 := NB155_161.out; have hnb179 := NB161_157.out; have hnc179 := NB157_161.out; have hcz180_0 := czA BK161.out 0 (.string x162000_59); have hcz180_1 := czA BK161.out 1 (.string x162001_59); have hcz180_2 := czA BK161.out 2 (.int .i64 x162002_59); have hfz180_0 := blk_frozen BK161.out 0; have hfz180_1 := blk_frozen BK161.out 1; have hfz180_2 := blk_frozen BK161.out 2; have hnb181 := NB155_157.out; have hnc181 := NB157_155.out; have hcz182_0 := czA BK155.out 0 (.slice A0_0 l0_0.length c0_0); have hfz182_0 := blk_frozen BK155.out 0) | ((with_reducible refine gate_callee (f := 79) rfl ?_); refine gL (some 82) Try.func79 #[.agg #[.slice A0_0 l0_0.length c0_0], .agg #[.string x162000_59, .string x162001_59, .int .i64 (x162001_59.size : Int)]] ?_; (with_reducible refine (spec_l03Put.calls kj59 _ _ l0_0 x162000_59 x162001_59 (x162001_59.size : Int) t168 _ ?side1 ?side2 A144.out).mono ?_); (case side1 => exact Kd.C_below HR0_0.out (uL HB)); (case side2 => exact HC0_0.out); rintro e w183 ⟨v169, rfl, ho0, hb⟩; refine ⟨_, rfl, ?_⟩; have HO170 := aM (Kd.R_lower (Kd.R_newB ho0 (g := gb161) (o := .cells #[.string x162000_59, .string x162001_59, .int .i64 (x162001_59.size : Int)] 45 (0, 0)) (by refine nB ?_; refine blk_put (cs := #[.string x162000_59, .string x162001_59, .int .i64 x162002_59]) ?_ 2 _ rfl; refine nB ?_; refine blk_far ?_ NB161_163.out _; exact nB BK161.out)) (below_size (uL HB))); replace BK155 := blkB BK155 hb; replace BK156 := blkB BK156 hb; replace BK157 := blkB BK157 hb; replace BK161 := aM (blk_below (g := gb161) (o := .cells #[.string x162000_59, .string x162001_59, .int .i64 (x162001_59.size : Int)] 45 (0, 0)) (by refine nB ?_; refine blk_put (cs := #[.string x162000_59, .string x162001_59, .int .i64 x162002_59]) ?_ 2 _ rfl; refine nB ?_; refine blk_far ?_ NB161_163.out _; exact nB BK161.out) hb); replace BK163 := aM (blk_below (g := gb163) (o := .cells #[.slice none 0 0] 30 (0, 0)) (by refine nB ?_; refine blk_far ?_ NB163_161.out _; refine nB ?_; refine blk_put (cs := #[.slice none 0 0]) ?_ 0 _ rfl; exact nB BK163.out) hb); replace HB := aM (below_step (uL HB) hb); try clear hb ho0; obtain ⟨Ao184, co184, eo184⟩ := Kd.R_slice HO170.out; subst eo184; have hcz185_0 := czA BK163.out 0 (.slice none 0 0); have hfz185_0 := blk_frozen BK163.out 0) | ((with_reducible refine gate_callee (f := 20) rfl ?_); refine gL (some 125) Try.func20 #[.agg #[.slice Ao184 t168.length co184]] ?_; (with_reducible refine (spec_DiskOk.calls kj59 _ _ t168 false _ ?side1 ?side2 A145.out).mono ?_); (case side1 => refine (Kd.R_reads' (e := 45) (base := w.heap.size) (ok := fun k_ => (True ∧ k_ ≠ gb161)) (n := t168.length) (c := co184) ?_).2.2; exact (by (with_reducible repeat first | apply rA | apply rN | apply rD); exact (Kd.R_mono (Kd.R_far (p := ⟨gb163, 0, none⟩) (Kd.R_types HO170.out BK163.out (by decide)) (fun _ hk => hk.2) (.slice Ao184 t168.length co184)) (fun _ h_ => h_.1)))); (case side2 => exact (Kd.R_reads' HO170.out).2.1); rintro e w186 ⟨rfl, hb⟩; refine ⟨_, rfl, ?_⟩; replace HO170 := aM (Kd.R_below (by (with_reducible repeat first | apply rA | apply rN | apply rD); exact (Kd.R_mono (Kd.R_far (p := ⟨gb163, 0, none⟩) (Kd.R_types HO170.out BK163.out (by decide)) (fun _ hk => hk.2) (.slice Ao184 t168.length co184)) (fun _ h_ => h_.1))) hb); replace BK155 := blkB BK155 hb; replace BK156 := blkB BK156 hb; replace BK157 := blkB BK157 hb; replace BK161 := blkB BK161 hb; replace BK163 := aM (blk_below (g := gb163) (o := .cells #[.slice Ao184 t168.length co184] 30 (0, 0)) (by refine nB ?_; refine blk_put (cs := #[.slice none 0 0]) ?_ 0 _ rfl; exact nB BK163.out) hb); replace HB := aM (below_step (uL HB) hb); try clear hb; have hcz187_0 := czA BK157.out 0 (.slice none 0 0); have hfz187_0 := blk_frozen BK157.out 0))
          refine bodyPost_ret (results_ct rfl _ _ gb157 30 #[.slice none 0 0] (0, 0) _ rfl (by refine nB ?_; refine blk_put (cs := #[.slice none 0 0]) ?_ 0 _ rfl; exact nB BK157.out) Try.underlying30 rfl (by kernel_rfl)) rfl ?_
          exact ⟨_, by first | rfl | (simp [errW_none, errW_some] <;> rfl) | (simp [*, errW_none, errW_some] <;> rfl), by first | exact Kd.R_nil _ _ _ _ _ | exact Kd.N_nil _ _ _ _ _ | exact Kd.V_nil _ _ _ _ _ | exact Kd.Q_nil _ _ _ _ _ | exact Kd.S_nil _ _ _ _ _, uL HB⟩
        case' L9n =>
         rw [if_neg c143] at H
         have c143b0 : (a1_0 == 2) = false := beq_eq_false_iff_ne.mpr c143
         have c143b1 : (a1_0 != 2) = true := bne_iff_ne.mpr c143
         refine Classical.byCases (p := a1_0 = 3) (fun c188 => ?L10p) (fun c188 => ?L10n)
         case' L10p =>
          rw [if_pos c188] at H
          have c188b0 : (a1_0 == 3) = true := beq_iff_eq.mpr c188
          have c188b1 : (a1_0 != 3) = false := bne_eq_false_iff_eq.mpr c188
          clear c188
          have HC189 := aM H
          clear H
          go_upto_region 18 with (first | ((with_reducible refine gate_dst (N := 8) rfl ?_); refine bxE 8 #[.slice none 0 0] 30 ?_; intro gb163 hg w190 hbox hb; have BK163 := aM (hbox); have GW163 := szG hg (uL HB); have GE163 := szG hg (uL HB); have NB155_163 := neL hg BK155; have NB163_155 := neG hg BK155; have NB156_163 := neL hg BK156; have NB163_156 := neG hg BK156; have NB157_163 := neL hg BK157; have NB163_157 := neG hg BK157; have NB161_163 := neL hg BK161; have NB163_161 := neG hg BK161; replace BK155 := blkB BK155 hb; replace BK156 := blkB BK156 hb; replace BK157 := blkB BK157 hb; replace BK161 := blkB BK161 hb; replace HB := aM (below_step (uL HB) hb); clear hb hbox hg; have hnb191 := NB163_155.out; have hnc191 := NB155_163.out; have hnb192 := NB163_156.out; have hnc192 := NB156_163.out; have hnb193 := NB163_157.out; have hnc193 := NB157_163.out; have hnb194 := NB163_161.out; have hnc194 := NB161_163.out; have hcz195_0 := czA BK163.out 0 (.slice none 0 0); have hfz195_0 := blk_frozen BK163.out 0; have hnb196 := NB156_155.out; have hnc196 := NB155_156.out; have hnb197 := NB156_157.out; have hnc197 := NB157_156.out; have hnb198 := NB156_161.out; have hnc198 := NB161_156.out; have hcz199_0 := czA BK156.out 0 (.int .i64 a1_0); have hcz199_1 := czA BK156.out 1 (.string a1_1); have hcz199_2 := czA BK156.out 2 (.string a1_2); have hcz199_3 := czA BK156.out 3 (.string a1_3); have hfz199_0 := blk_frozen BK156.out 0; have hfz199_1 := blk_frozen BK156.out 1; have hfz199_2 := blk_frozen BK156.out 2; have hfz199_3 := blk_frozen BK156.out 3))
          (try simp only [Act.put, List.setIfInBounds_toArray, List.set_cons_zero, List.set_cons_succ])
          go_cut [105] (fun v105 wc => ∃ (kq : Nat) (x105_188 : Bool), v105 = .bool x105_188 ∧ Aside0 (spec_DoAct.j2 kq x105_188 l0_0 a1_0 a1_1 a1_2 a1_3 x162000_59 x162001_59 x162002_59 = some (r1, r2)) ∧ Aside0 (kq ≤ kj59) ∧ Aside0 (wc.heap[gb155]? = some (.cells #[(.slice A0_0 l0_0.length c0_0)] 30 (0, 0))) ∧ Aside0 (wc.heap[gb156]? = some (.cells #[.int .i64 a1_0, .string a1_1, .string a1_2, .string a1_3] 55 (0, 0))) ∧ Aside0 (wc.heap[gb157]? = some (.cells #[(.slice none 0 0)] 30 (0, 0))) ∧ Aside0 (wc.heap[gb161]? = some (.cells #[.string x162000_59, .string x162001_59, .int .i64 x162002_59] 45 (0, 0))) ∧ Aside0 (wc.heap[gb163]? = some (.cells #[(.slice none 0 0)] 30 (0, 0))) ∧ Aside0 (Below w.heap.size w wc))
          case first =>
           have H := HC189.out
           clear HC189
           by_cases c200 : x162002_59 < (x162001_59.size : Int)
           ·rw [if_pos c200] at H
            have c200b0 : decide (x162002_59 < (x162001_59.size : Int)) = true := decide_eq_true c200
            clear c200
            (first | rw [c200b0] | (simp only [i64_w, i32_w]; rw [c200b0]) | skip)
            have H' := aM H
            clear H
            have hnb201 := NB161_155.out; have hnc201 := NB155_161.out; have hnb202 := NB161_156.out; have hnc202 := NB156_161.out; have hnb203 := NB161_157.out; have hnc203 := NB157_161.out; have hnb204 := NB161_163.out; have hnc204 := NB163_161.out
            have hcz205_0 := czA BK161.out 0 (.string x162000_59)
            have hcz205_1 := czA BK161.out 1 (.string x162001_59)
            have hcz205_2 := czA BK161.out 2 (.int .i64 x162002_59)
            have hfz205_0 := blk_frozen BK161.out 0; have hfz205_1 := blk_frozen BK161.out 1; have hfz205_2 := blk_frozen BK161.out 2
            go_wp2
            go_meet
            case rel => exact ⟨_, (true), (by first | rfl | (simp; done) | (simp [*]; done)), H', ⟨by have := HJ2.out; have := HJ59.out; first | omega | exact Nat.le_refl _⟩, ⟨by refine nB ?_; refine blk_far ?_ NB155_163.out _; exact nB BK155.out⟩, ⟨by refine nB ?_; refine blk_far ?_ NB156_163.out _; exact nB BK156.out⟩, ⟨by refine nB ?_; refine blk_far ?_ NB157_163.out _; exact nB BK157.out⟩, ⟨by refine nB ?_; refine blk_far ?_ NB161_163.out _; exact nB BK161.out⟩, ⟨by refine nB ?_; refine blk_put (cs := #[.slice none 0 0]) ?_ 0 _ rfl; exact nB BK163.out⟩, ⟨uL HB⟩⟩
           ·rw [if_neg c200] at H
            have c200b0 : decide (x162002_59 < (x162001_59.size : Int)) = false := decide_eq_false c200
            clear c200
            (first | rw [c200b0] | (simp only [i64_w, i32_w]; rw [c200b0]) | skip)
            by_cases c206 : a1_3.toList = a1_1.toList
            ·rw [if_pos c206] at H
             have c206b0 : (a1_3.toList == a1_1.toList) = true := beq_iff_eq.mpr c206
             have c206b1 : (a1_3.toList != a1_1.toList) = false := bne_eq_false_iff_eq.mpr c206
             clear c206
             have H' := aM H
             clear H
             have hnb207 := NB161_155.out; have hnc207 := NB155_161.out; have hnb208 := NB161_156.out; have hnc208 := NB156_161.out; have hnb209 := NB161_157.out; have hnc209 := NB157_161.out; have hnb210 := NB161_163.out; have hnc210 := NB163_161.out
             have hcz211_0 := czA BK161.out 0 (.string x162000_59)
             have hcz211_1 := czA BK161.out 1 (.string x162001_59)
             have hcz211_2 := czA BK161.out 2 (.int .i64 x162002_59)
             have hfz211_0 := blk_frozen BK161.out 0; have hfz211_1 := blk_frozen BK161.out 1; have hfz211_2 := blk_frozen BK161.out 2; have hnb212 := NB156_155.out; have hnc212 := NB155_156.out; have hnb213 := NB156_157.out; have hnc213 := NB157_156.out; have hnb214 := NB156_163.out; have hnc214 := NB163_156.out
             have hcz215_0 := czA BK156.out 0 (.int .i64 a1_0)
             have hcz215_1 := czA BK156.out 1 (.string a1_1)
             have hcz215_2 := czA BK156.out 2 (.string a1_2)
             have hcz215_3 := czA BK156.out 3 (.string a1_3)
             have hfz215_0 := blk_frozen BK156.out 0; have hfz215_1 := blk_frozen BK156.out 1; have hfz215_2 := blk_frozen BK156.out 2; have hfz215_3 := blk_frozen BK156.out 3
             go_wp2
             go_meet
             case rel => exact ⟨_, (true), (by first | rfl | (simp; done) | (simp [*]; done)), H', ⟨by have := HJ2.out; have := HJ59.out; first | omega | exact Nat.le_refl _⟩, ⟨by refine nB ?_; refine blk_far ?_ NB155_163.out _; exact nB BK155.out⟩, ⟨by refine nB ?_; refine blk_far ?_ NB156_163.out _; exact nB BK156.out⟩, ⟨by refine nB ?_; refine blk_far ?_ NB157_163.out _; exact nB BK157.out⟩, ⟨by refine nB ?_; refine blk_far ?_ NB161_163.out _; exact nB BK161.out⟩, ⟨by refine nB ?_; refine blk_put (cs := #[.slice none 0 0]) ?_ 0 _ rfl; exact nB BK163.out⟩, ⟨uL HB⟩⟩
            ·rw [if_neg c206] at H
             have c206b0 : (a1_3.toList == a1_1.toList) = false := beq_eq_false_iff_ne.mpr c206
             have c206b1 : (a1_3.toList != a1_1.toList) = true := bne_iff_ne.mpr c206
             replace H := Option.bind_eq_some_iff.mp H
             obtain ⟨t172, A2160, H⟩ := H
             replace H : (spec_DoAct.j2 kj59 (!t172) l0_0 a1_0 a1_1 a1_2 a1_3 x162000_59 x162001_59 x162002_59) = some (r1, r2) := H
             have A216 := aM A2160
             clear A2160
             have H' := aM H
             clear H
             have hnb217 := NB161_155.out; have hnc217 := NB155_161.out; have hnb218 := NB161_156.out; have hnc218 := NB156_161.out; have hnb219 := NB161_157.out; have hnc219 := NB157_161.out; have hnb220 := NB161_163.out; have hnc220 := NB163_161.out
             have hcz221_0 := czA BK161.out 0 (.string x162000_59)
             have hcz221_1 := czA BK161.out 1 (.string x162001_59)
             have hcz221_2 := czA BK161.out 2 (.int .i64 x162002_59)
             have hfz221_0 := blk_frozen BK161.out 0; have hfz221_1 := blk_frozen BK161.out 1; have hfz221_2 := blk_frozen BK161.out 2; have hnb222 := NB156_155.out; have hnc222 := NB155_156.out; have hnb223 := NB156_157.out; have hnc223 := NB157_156.out; have hnb224 := NB156_163.out; have hnc224 := NB163_156.out
             have hcz225_0 := czA BK156.out 0 (.int .i64 a1_0)
             have hcz225_1 := czA BK156.out 1 (.string a1_1)
             have hcz225_2 := czA BK156.out 2 (.string a1_2)
             have hcz225_3 := czA BK156.out 3 (.string a1_3)
             have hfz225_0 := blk_frozen BK156.out 0; have hfz225_1 := blk_frozen BK156.out 1; have hfz225_2 := blk_frozen BK156.out 2; have hfz225_3 := blk_frozen BK156.out 3
             go_wp2_with (first | (go_at_call 73; (with_reducible refine (spec_l03Name.calls a1_3 t172 _ A216.out).mono ?_); rintro e w' ⟨rfl, ⟨nd, rfl⟩⟩))
             go_meet
             case rel => exact ⟨_, (!t172), (by first | rfl | (simp; done) | (simp [*]; done)), H', ⟨by have := HJ2.out; have := HJ59.out; first | omega | exact Nat.le_refl _⟩, ⟨by refine nB ?_; refine blk_far ?_ NB155_163.out _; exact nB BK155.out⟩, ⟨by refine nB ?_; refine blk_far ?_ NB156_163.out _; exact nB BK156.out⟩, ⟨by refine nB ?_; refine blk_far ?_ NB157_163.out _; exact nB BK157.out⟩, ⟨by refine nB ?_; refine blk_far ?_ NB161_163.out _; exact nB BK161.out⟩, ⟨by refine nB ?_; refine blk_put (cs := #[.slice none 0 0]) ?_ 0 _ rfl; exact nB BK163.out⟩, ⟨uL HB⟩⟩
          case rest =>
           clear HC189
           try clear c1; try clear p1; try clear q1; try clear hx1; try clear c2; try clear p2; try clear c3; try clear c4; try clear c5; try clear c6; try clear c7; try clear c8; try clear c9; try clear c10; try clear c11; try clear c11b0; try clear c11b1; try clear c12; try clear c12b0; try clear c12b1; try clear c13; try clear c14; try clear c15; try clear c16; try clear p16; try clear q16; try clear hx16; try clear c17; try clear c18; try clear c19; try clear c20; try clear c21; try clear c22; try clear c23; try clear c25; try clear c25b0; try clear c25b1; try clear c26; try clear c26b0; try clear c26b1; try clear c27; try clear c28; try clear c31; try clear c33; try clear c34; try clear c37; try clear c38; try clear c39; try clear c40; try clear c43; try clear c45; try clear c46; try clear c49; try clear c51; try clear c52; try clear c55; try clear c56; try clear c57; try clear c61; try clear c62; try clear c64; try clear c69; try clear c70; try clear c71; try clear c73; try clear c73b0; try clear c74; try clear c74b0; try clear c75; try clear c75b0; try clear c76; try clear c77; try clear c78; try clear c79; try clear c80; try clear c81; try clear c83; try clear c83b0; try clear c83b1; try clear c84; try clear c84b0; try clear c84b1; try clear c84b2; try clear c87; try clear c89; try clear c90; try clear c91; try clear c92; try clear c94; try clear c95; try clear c96; try clear c98; try clear c99; try clear c101; try clear c110; try clear c111; try clear c112; try clear c113; try clear c115; try clear c116; try clear c117; try clear c119; try clear c120; try clear c122; try clear c129; try clear c129b0; try clear c131; try clear c132; try clear c133; try clear c134; try clear c136; try clear c137; try clear c138; try clear c140; try clear c141; try clear c143; try clear c143b0; try clear c143b1; try clear c146; try clear c148; try clear c149; try clear c150; try clear c151; try clear c153; try clear c154; try clear c155; try clear c157; try clear c158; try clear c160; try clear p162; try clear q162; try clear hx162; try clear c169; try clear c170; try clear c171; try clear c172; try clear c174; try clear c175; try clear c176; try clear c178; try clear c179; try clear c181; try clear c188; try clear c188b0; try clear c188b1; try clear c191; try clear c192; try clear c193; try clear c194; try clear c196; try clear c197; try clear c198; try clear c200; try clear c200b0; try clear c201; try clear c202; try clear c203; try clear c204; try clear c206; try clear c206b0; try clear c206b1; try clear c207; try clear c208; try clear c209; try clear c210; try clear c212; try clear c213; try clear c214; try clear c217; try clear c218; try clear c219; try clear c220; try clear c222; try clear c223; try clear c224; try clear hcz100_0; try clear hcz100_1; try clear hcz100_2; try clear hcz102_0; try clear hcz105_0; try clear hcz107_0; try clear hcz108_0; try clear hcz114_0; try clear hcz118_0; try clear hcz118_1; try clear hcz118_2; try clear hcz118_3; try clear hcz121_0; try clear hcz121_1; try clear hcz121_2; try clear hcz123_0; try clear hcz126_0; try clear hcz128_0; try clear hcz135_0; try clear hcz139_0; try clear hcz139_1; try clear hcz139_2; try clear hcz139_3; try clear hcz142_0; try clear hcz152_0; try clear hcz156_0; try clear hcz156_1; try clear hcz156_2; try clear hcz156_3; try clear hcz159_0; try clear hcz159_1; try clear hcz159_2; try clear hcz15_0; try clear hcz161_0; try clear hcz164_0; try clear hcz166_0; try clear hcz167_0; try clear hcz173_0; try clear hcz177_0; try clear hcz177_1; try clear hcz177_2; try clear hcz177_3; try clear hcz180_0; try clear hcz180_1; try clear hcz180_2; try clear hcz182_0; try clear hcz185_0; try clear hcz187_0; try clear hcz18_0; try clear hcz18_1; try clear hcz18_2; try clear hcz18_3; try clear hcz195_0; try clear hcz199_0; try clear hcz199_1; try clear hcz199_2; try clear hcz199_3; try clear hcz205_0; try clear hcz205_1; try clear hcz205_2; try clear hcz211_0; try clear hcz211_1; try clear hcz211_2; try clear hcz215_0; try clear hcz215_1; try clear hcz215_2; try clear hcz215_3; try clear hcz21_0; try clear hcz221_0; try clear hcz221_1; try clear hcz221_2; try clear hcz225_0; try clear hcz225_1; try clear hcz225_2; try clear hcz225_3; try clear hcz24_0; try clear hcz24_1; try clear hcz24_2; try clear hcz24_3; try clear hcz29_0; try clear hcz32_0; try clear hcz32_1; try clear hcz32_2; try clear hcz32_3; try clear hcz35_0; try clear hcz38_0; try clear hcz38_1; try clear hcz38_2; try clear hcz38_3; try clear hcz41_0; try clear hcz44_0; try clear hcz44_1; try clear hcz44_2; try clear hcz44_3; try clear hcz47_0; try clear hcz50_0; try clear hcz50_1; try clear hcz50_2; try clear hcz50_3; try clear hcz53_0; try clear hcz58_0; try clear hcz63_0; try clear hcz65_0; try clear hcz65_1; try clear hcz65_2; try clear hcz65_3; try clear hcz67_0; try clear hcz67_1; try clear hcz67_2; try clear hcz67_3; try clear hcz72_0; try clear hcz72_1; try clear hcz72_2; try clear hcz79_0; try clear hcz82_0; try clear hcz82_1; try clear hcz82_2; try clear hcz93_0; try clear hcz97_0; try clear hcz97_1; try clear hcz97_2; try clear hcz97_3; try clear hfz100_0; try clear hfz100_1; try clear hfz100_2; try clear hfz102_0; try clear hfz105_0; try clear hfz107_0; try clear hfz108_0; try clear hfz114_0; try clear hfz118_0; try clear hfz118_1; try clear hfz118_2; try clear hfz118_3; try clear hfz121_0; try clear hfz121_1; try clear hfz121_2; try clear hfz123_0; try clear hfz126_0; try clear hfz128_0; try clear hfz135_0; try clear hfz139_0; try clear hfz139_1; try clear hfz139_2; try clear hfz139_3; try clear hfz142_0; try clear hfz152_0; try clear hfz156_0; try clear hfz156_1; try clear hfz156_2; try clear hfz156_3; try clear hfz159_0; try clear hfz159_1; try clear hfz159_2; try clear hfz15_0; try clear hfz161_0; try clear hfz164_0; try clear hfz166_0; try clear hfz167_0; try clear hfz173_0; try clear hfz177_0; try clear hfz177_1; try clear hfz177_2; try clear hfz177_3; try clear hfz180_0; try clear hfz180_1; try clear hfz180_2; try clear hfz182_0; try clear hfz185_0; try clear hfz187_0; try clear hfz18_0; try clear hfz18_1; try clear hfz18_2; try clear hfz18_3; try clear hfz195_0; try clear hfz199_0; try clear hfz199_1; try clear hfz199_2; try clear hfz199_3; try clear hfz205_0; try clear hfz205_1; try clear hfz205_2; try clear hfz211_0; try clear hfz211_1; try clear hfz211_2; try clear hfz215_0; try clear hfz215_1; try clear hfz215_2; try clear hfz215_3; try clear hfz21_0; try clear hfz221_0; try clear hfz221_1; try clear hfz221_2; try clear hfz225_0; try clear hfz225_1; try clear hfz225_2; try clear hfz225_3; try clear hfz24_0; try clear hfz24_1; try clear hfz24_2; try clear hfz24_3; try clear hfz29_0; try clear hfz32_0; try clear hfz32_1; try clear hfz32_2; try clear hfz32_3; try clear hfz35_0; try clear hfz38_0; try clear hfz38_1; try clear hfz38_2; try clear hfz38_3; try clear hfz41_0; try clear hfz44_0; try clear hfz44_1; try clear hfz44_2; try clear hfz44_3; try clear hfz47_0; try clear hfz50_0; try clear hfz50_1; try clear hfz50_2; try clear hfz50_3; try clear hfz53_0; try clear hfz58_0; try clear hfz63_0; try clear hfz65_0; try clear hfz65_1; try clear hfz65_2; try clear hfz65_3; try clear hfz67_0; try clear hfz67_1; try clear hfz67_2; try clear hfz67_3; try clear hfz72_0; try clear hfz72_1; try clear hfz72_2; try clear hfz79_0; try clear hfz82_0; try clear hfz82_1; try clear hfz82_2; try clear hfz93_0; try clear hfz97_0; try clear hfz97_1; try clear hfz97_2; try clear hfz97_3; try clear hx162_0; try clear hx162_1; try clear hx162_2; try clear p1; try clear p16; try clear p162; try clear p2; try clear q1; try clear q16; try clear q162
           obtain ⟨kq, x105_188, rfl, HA, HJ188, BK155, BK156, BK157, BK161, BK163, HB⟩ := hcut
           cases kq with
           | zero => exact absurd HA.out (by simp [spec_DoAct.j2])
           | succ kj188 =>
            have H := HA.out
            clear HA
            simp only [spec_DoAct.j2] at H
            by_cases c226 : x105_188 = true
            ·subst c226
             have H1 : (some (([] : List (S45)), false)) = some (r1, r2) := by rw [if_pos rfl] at H; exact H
             clear H; have H := H1; clear H1
             simp only [Option.some.injEq, Prod.mk.injEq] at H
             obtain ⟨rfl, rfl⟩ := H
             have hnb227 := NB157_155.out; have hnc227 := NB155_157.out; have hnb228 := NB157_156.out; have hnc228 := NB156_157.out; have hnb229 := NB157_161.out; have hnc229 := NB161_157.out; have hnb230 := NB157_163.out; have hnc230 := NB163_157.out
             have hcz231_0 := czA BK157.out 0 (.slice none 0 0)
             have hfz231_0 := blk_frozen BK157.out 0
             go_wp2
             refine bodyPost_ret (results_ct rfl _ _ gb157 30 #[.slice none 0 0] (0, 0) _ rfl (by refine nB ?_; refine blk_put (cs := #[.slice none 0 0]) ?_ 0 _ rfl; exact nB BK157.out) Try.underlying30 rfl (by kernel_rfl)) rfl ?_
             exact ⟨_, by first | rfl | (simp [errW_none, errW_some] <;> rfl) | (simp [*, errW_none, errW_some] <;> rfl), by first | exact Kd.R_nil _ _ _ _ _ | exact Kd.N_nil _ _ _ _ _ | exact Kd.V_nil _ _ _ _ _ | exact Kd.Q_nil _ _ _ _ _ | exact Kd.S_nil _ _ _ _ _, uL HB⟩
            ·replace c226 := Bool.eq_false_iff.mpr c226
             subst c226
             rw [if_neg (show ¬ (false = true) by decide)] at H
             replace H := Option.bind_eq_some_iff.mp H
             obtain ⟨t173, A2320, H⟩ := H
             try dsimp only at H
             have A232 := aM A2320
             clear A2320
             replace H := Option.bind_eq_some_iff.mp H
             obtain ⟨t176, A2330, H⟩ := H
             try dsimp only at H
             have A233 := aM A2330
             clear A2330
             replace H := Option.bind_eq_some_iff.mp H
             obtain ⟨t179, A2340, H⟩ := H
             replace H : (if t179 = true then (some (t176, true)) else (some (([] : List (S45)), false))) = some (r1, r2) := H
             have A234 := aM A2340
             clear A2340
             by_cases c235 : t179 = true
             ·subst c235
              have H1 : (some (t176, true)) = some (r1, r2) := by rw [if_pos rfl] at H; exact H
              clear H; have H := H1; clear H1
              simp only [Option.some.injEq, Prod.mk.injEq] at H
              obtain ⟨rfl, rfl⟩ := H
              have hnb236 := NB156_155.out; have hnc236 := NB155_156.out; have hnb237 := NB156_157.out; have hnc237 := NB157_156.out; have hnb238 := NB156_161.out; have hnc238 := NB161_156.out; have hnb239 := NB156_163.out; have hnc239 := NB163_156.out
              have hcz240_0 := czA BK156.out 0 (.int .i64 a1_0)
              have hcz240_1 := czA BK156.out 1 (.string a1_1)
              have hcz240_2 := czA BK156.out 2 (.string a1_2)
              have hcz240_3 := czA BK156.out 3 (.string a1_3)
              have hfz240_0 := blk_frozen BK156.out 0; have hfz240_1 := blk_frozen BK156.out 1; have hfz240_2 := blk_frozen BK156.out 2; have hfz240_3 := blk_frozen BK156.out 3; have hnb241 := NB161_155.out; have hnc241 := NB155_161.out; have hnb242 := NB161_157.out; have hnc242 := NB157_161.out; have hnb243 := NB161_163.out; have hnc243 := NB163_161.out
              have hcz244_0 := czA BK161.out 0 (.string x162000_59)
              have hcz244_1 := czA BK161.out 1 (.string x162001_59)
              have hcz244_2 := czA BK161.out 2 (.int .i64 x162002_59)
              have hfz244_0 := blk_frozen BK161.out 0; have hfz244_1 := blk_frozen BK161.out 1; have hfz244_2 := blk_frozen BK161.out 2
              try go_wp2
              have n0_ : Aside0 ((wc.setCell ⟨gb161, 0, none⟩ (.string a1_3)).heap[gb155]? = some (.cells #[.slice A0_0 l0_0.length c0_0] 30 (0, 0))) := ⟨by refine nB ?_; refine blk_far ?_ NB155_161.out _; exact nB BK155.out⟩
              have n1_ : Aside0 ((wc.setCell ⟨gb161, 0, none⟩ (.string a1_3)).heap[gb156]? = some (.cells #[.int .i64 a1_0, .string a1_1, .string a1_2, .string a1_3] 55 (0, 0))) := ⟨by refine nB ?_; refine blk_far ?_ NB156_161.out _; exact nB BK156.out⟩
              have n2_ : Aside0 ((wc.setCell ⟨gb161, 0, none⟩ (.string a1_3)).heap[gb157]? = some (.cells #[.slice none 0 0] 30 (0, 0))) := ⟨by refine nB ?_; refine blk_far ?_ NB157_161.out _; exact nB BK157.out⟩
              have n3_ : Aside0 ((wc.setCell ⟨gb161, 0, none⟩ (.string a1_3)).heap[gb161]? = some (.cells #[.string a1_3, .string x162001_59, .int .i64 x162002_59] 45 (0, 0))) := ⟨by refine nB ?_; refine blk_put (cs := #[.string x162000_59, .string x162001_59, .int .i64 x162002_59]) ?_ 0 _ rfl; exact nB BK161.out⟩
              have n4_ : Aside0 ((wc.setCell ⟨gb161, 0, none⟩ (.string a1_3)).heap[gb163]? = some (.cells #[.slice none 0 0] 30 (0, 0))) := ⟨by refine nB ?_; refine blk_far ?_ NB163_161.out _; exact nB BK163.out⟩
              have n5_ : Aside0 (Below w.heap.size w (wc.setCell ⟨gb161, 0, none⟩ (.string a1_3))) := ⟨uL HB⟩
              (try clear BK155)
              (try clear BK156)
              (try clear BK157)
              (try clear BK161)
              (try clear BK163)
              (try clear HB)
              generalize (wc.setCell ⟨gb161, 0, none⟩ (.string a1_3)) = w245 at n0_ n1_ n2_ n3_ n4_ n5_ ⊢
              have BK155 := n0_; have BK156 := n1_; have BK157 := n2_; have BK161 := n3_; have BK163 := n4_; have HB := n5_; clear n0_ n1_ n2_ n3_ n4_ n5_
              replace BK155 := aM (blk_drew BK155.out)
              replace BK156 := aM (blk_drew BK156.out)
              replace BK157 := aM (blk_drew BK157.out)
              replace BK161 := aM (blk_drew BK161.out)
              replace BK163 := aM (blk_drew BK163.out)
              replace HB := aM (below_drew1 HB.out)
              refine start_ (n := 7) (S := fun w' => w'.cell? ⟨gb155, 0, none⟩ = some (.slice A0_0 l0_0.length c0_0) ∧ w'.cell? ⟨gb156, 0, none⟩ = some (.int .i64 a1_0) ∧ w'.cell? ⟨gb156, 1, none⟩ = some (.string a1_1) ∧ w'.cell? ⟨gb156, 2, none⟩ = some (.string a1_2) ∧ w'.cell? ⟨gb156, 3, none⟩ = some (.string a1_3) ∧ w'.cell? ⟨gb161, 0, none⟩ = some (.string a1_3) ∧ w'.cell? ⟨gb161, 1, none⟩ = some (.string x162001_59) ∧ w'.cell? ⟨gb161, 2, none⟩ = some (.int .i64 x162002_59)) (ds := []) (bB 7 0) (by kernel_rfl) rfl rfl ⟨(blk_cell BK155.out 0).trans rfl, (blk_cell BK156.out 0).trans rfl, (blk_cell BK156.out 1).trans rfl, (blk_cell BK156.out 2).trans rfl, (blk_cell BK156.out 3).trans rfl, (blk_cell BK161.out 0).trans rfl, (blk_cell BK161.out 1).trans rfl, (blk_cell BK161.out 2).trans rfl⟩ (fun hHeld => ?_)
              generalize w245.drew = w246 at BK155 BK156 BK157 BK161 BK163 HB hHeld ⊢
              refine pX 1 111 (bB 7 2) (by kernel_rfl) ?_
              refine take_ (i := 0) (N := some 110) (v := ?_) (a' := ?_) (bB 7 3) rfl rfl (by kernel_rfl) (fun _ _ _ h => h) (Or.inl ⟨by rfl, ?_⟩) hHeld ?_ ?_
              rotate_left
              ·rintro w' ⟨s0, s1, s2, s3, s4, s5, s6, s7⟩
               go_simp
               with_reducible rfl
              rotate_left
              ·simp only [aP, aQ, sT, sZ, sU, i64_w, i32_w]
               rfl
              refine take_ (i := 2) (N := some 112) (v := ?_) (a' := ?_) (bB 7 7) rfl rfl (by kernel_rfl) (fun _ _ _ h => h) (Or.inl ⟨by rfl, ?_⟩) hHeld ?_ ?_
              rotate_left
              ·rintro w' ⟨s0, s1, s2, s3, s4, s5, s6, s7⟩
               go_simp
               with_reducible rfl
              rotate_left
              ·simp only [aP, aQ, sT, sZ, sU, i64_w, i32_w]
               rfl
              refine take_ (i := 4) (N := some 114) (v := ?_) (a' := ?_) (bB 7 23) rfl rfl (by kernel_rfl) (fun _ _ _ h => h) (Or.inl ⟨by rfl, ?_⟩) hHeld ?_ ?_
              rotate_left
              ·rintro w' ⟨s0, s1, s2, s3, s4, s5, s6, s7⟩
               go_simp
               with_reducible rfl
              rotate_left
              ·simp only [aP, aQ, sT, sZ, sU, i64_w, i32_w]
               rfl
              refine one_ (i := 3) (N := some 113) (bB 7 31) rfl rfl (by kernel_rfl) (by decide) (fun K hK => ?_)
              refine gX Try.func86 #[.agg #[.slice A0_0 l0_0.length c0_0], .string a1_1] ?_
              with_reducible refine (spec_l03Without.calls kj188 _ _ l0_0 a1_1 t173 _ ?side1 ?side2 A232.out).mono ?_
              (case side1 => exact uC HR0_0 HB)
              (case side2 => exact HC0_0.out)
              rintro e w247 ⟨v174, rfl, ho0, hb⟩
              refine ⟨_, rfl, ?_⟩
              have HO175 := aM (Kd.R_lower (Kd.R_newB ho0 (g := gb161) (o := .cells #[.string a1_3, .string x162001_59, .int .i64 x162002_59] 45 (0, 0)) (uB BK161)) (below_size (uL HB)))
              replace BK155 := blkB BK155 hb
              replace BK156 := blkB BK156 hb
              replace BK157 := blkB BK157 hb
              replace BK161 := blkB BK161 hb
              replace BK163 := blkB BK163 hb
              replace HB := aM (below_step (uL HB) hb)
              (try clear hb)
              (try clear hb2)
              (try clear hk)
              (try clear hi)
              (try clear ho0)
              obtain ⟨Ao248, co248, eo248⟩ := Kd.R_slice HO175.out
              (first | subst eo248 | (injection eo248 with f1_ f2_ f3_; have f4_ := f1_.symm; have f5_ := f3_.symm; clear f1_ f2_ f3_; subst f4_; subst f5_))
              refine hK.out _ _ ⟨(blk_cell BK155.out 0).trans rfl, (blk_cell BK156.out 0).trans rfl, (blk_cell BK156.out 1).trans rfl, (blk_cell BK156.out 2).trans rfl, (blk_cell BK156.out 3).trans rfl, (blk_cell BK161.out 0).trans rfl, (blk_cell BK161.out 1).trans rfl, (blk_cell BK161.out 2).trans rfl⟩ (fun hHeld => ?_)
              clear hK K
              refine nX 113 ?_
              refine one_ (i := 5) (N := some 115) (bB 7 63) rfl rfl (by kernel_rfl) (by decide) (fun K hK => ?_)
              refine gX Try.func79 #[.agg #[.slice Ao248 t173.length co248], .agg #[.string a1_3, .string x162001_59, .int .i64 x162002_59]] ?_
              with_reducible refine (spec_l03Put.calls kj188 _ _ t173 a1_3 x162001_59 x162002_59 t176 _ ?side1 ?side2 A233.out).mono ?_
              (case side1 => repeat (first | exact (Kd.R_reads' HO175.out).2.2 | (with_reducible refine cA ?_ _) | (with_reducible refine cN ?_ _) | (with_reducible refine cD ?_)))
              (case side2 => exact (Kd.R_reads' HO175.out).2.1)
              rintro e w249 ⟨v177, rfl, ho0, hb⟩
              refine ⟨_, rfl, ?_⟩
              have HO178 := aM (Kd.R_lower (Kd.R_newB (Kd.R_new' ho0 (Kd.R_lt (uR HO175))) (g := gb161) (o := .cells #[.string a1_3, .string x162001_59, .int .i64 x162002_59] 45 (0, 0)) (uB BK161)) (below_size (uL HB)))
              replace HO175 := aM (Kd.R_elder' (uR HO175) (Kd.R_base ho0) hb)
              replace BK155 := blkB BK155 hb
              replace BK156 := blkB BK156 hb
              replace BK157 := blkB BK157 hb
              replace BK161 := blkB BK161 hb
              replace BK163 := blkB BK163 hb
              replace HB := aM (below_step (uL HB) hb)
              (try clear hb)
              (try clear hb2)
              (try clear hk)
              (try clear hi)
              (try clear ho0)
              obtain ⟨Ao250, co250, eo250⟩ := Kd.R_slice HO178.out
              (first | subst eo250 | (injection eo250 with f1_ f2_ f3_; have f4_ := f1_.symm; have f5_ := f3_.symm; clear f1_ f2_ f3_; subst f4_; subst f5_))
              refine hK.out _ _ ⟨(blk_cell BK155.out 0).trans rfl, (blk_cell BK156.out 0).trans rfl, (blk_cell BK156.out 1).trans rfl, (blk_cell BK156.out 2).trans rfl, (blk_cell BK156.out 3).trans rfl, (blk_cell BK161.out 0).trans rfl, (blk_cell BK161.out 1).trans rfl, (blk_cell BK161.out 2).trans rfl⟩ (fun hHeld => ?_)
              clear hK K
              refine nX 115 ?_
              refine one_ (i := 6) (N := none) (bB 7 127) rfl rfl (by kernel_rfl) (by decide) (fun K hK => ?_)
              have hs251 := czA BK163.out 0 (.slice none 0 0)
              have hfs251 := blk_frozen BK163.out 0; have hns251_0 := NB155_163.out; have hns251_1 := NB156_163.out; have hns251_2 := NB157_163.out; have hns251_3 := NB161_163.out; have hms251_0 := NB163_155.out; have hms251_1 := NB163_156.out; have hms251_2 := NB163_157.out; have hms251_3 := NB163_161.out
              refine skip_ (w1 := ?_) (by rfl) rfl ?_ ?_
              rotate_left
              ·go_simp
               rfl
              refine hK.out _ _ ⟨((cell_far (p := ⟨gb163, _, none⟩) NB155_163.out _).trans (hHeld.1)), ((cell_far (p := ⟨gb163, _, none⟩) NB156_163.out _).trans (hHeld.2.1)), ((cell_far (p := ⟨gb163, _, none⟩) NB156_163.out _).trans (hHeld.2.2.1)), ((cell_far (p := ⟨gb163, _, none⟩) NB156_163.out _).trans (hHeld.2.2.2.1)), ((cell_far (p := ⟨gb163, _, none⟩) NB156_163.out _).trans (hHeld.2.2.2.2.1)), ((cell_far (p := ⟨gb163, _, none⟩) NB161_163.out _).trans (hHeld.2.2.2.2.2.1)), ((cell_far (p := ⟨gb163, _, none⟩) NB161_163.out _).trans (hHeld.2.2.2.2.2.2.1)), ((cell_far (p := ⟨gb163, _, none⟩) NB161_163.out _).trans (hHeld.2.2.2.2.2.2.2))⟩ (fun hHeld => ?_)
              clear hK K
              refine done_ (by kernel_rfl) ?_
              have hnb252 := NB163_155.out; have hnc252 := NB155_163.out; have hnb253 := NB163_157.out; have hnc253 := NB157_163.out
              have hcz254_0 := czA BK163.out 0 (.slice none 0 0)
              have hfz254_0 := blk_frozen BK163.out 0
              try go_wp2_with (first | ((with_reducible refine gate_callee (f := 20) rfl ?_); refine gL (some 125) Try.func20 #[.agg #[.slice Ao250 t176.length co250]] ?_; (with_reducible refine (spec_DiskOk.calls kj188 _ _ t176 true _ ?side1 ?side2 A234.out).mono ?_); (case side1 => refine (Kd.R_reads' (e := 45) (base := w.heap.size) (ok := fun k_ => ((True ∧ some k_ ≠ (.slice Ao248 t173.length co248 : Value).ownBlock) ∧ k_ ≠ gb161)) (n := t176.length) (c := co250) ?_).2.2; exact (by (with_reducible repeat first | apply rA | apply rN | apply rD); exact (Kd.R_mono (Kd.R_far (p := ⟨gb163, 0, none⟩) (Kd.R_types HO178.out BK163.out (by decide)) (fun _ hk => hk.2) (.slice Ao250 t176.length co250)) (fun _ h_ => h_.1)))); (case side2 => exact (Kd.R_reads' HO178.out).2.1); rintro e w255 ⟨rfl, hb⟩; refine ⟨_, rfl, ?_⟩; replace HO175 := aM (Kd.R_below (by (with_reducible repeat first | apply rA | apply rN | apply rD); exact (Kd.R_mono (Kd.R_far (p := ⟨gb163, 0, none⟩) (Kd.R_types HO175.out BK163.out (by decide)) (fun _ hk => hk.2) (.slice Ao250 t176.length co250)) (fun _ h_ => h_.1))) hb); replace HO178 := aM (Kd.R_below (by (with_reducible repeat first | apply rA | apply rN | apply rD); exact (Kd.R_mono (Kd.R_far (p := ⟨gb163, 0, none⟩) (Kd.R_types HO178.out BK163.out (by decide)) (fun _ hk => hk.2) (.slice Ao250 t176.length co250)) (fun _ h_ => h_.1))) hb); replace BK155 := blkB BK155 hb; replace BK156 := blkB BK156 hb; replace BK157 := blkB BK157 hb; replace BK161 := blkB BK161 hb; replace BK163 := aM (blk_below (g := gb163) (o := .cells #[.slice Ao250 t176.length co250] 30 (0, 0)) (by refine nB ?_; refine blk_put (cs := #[.slice none 0 0]) ?_ 0 _ rfl; exact nB BK163.out) hb); replace HB := aM (below_step (uL HB) hb); try clear hb; have hcz256_0 := czA BK163.out 0 (.slice Ao250 t176.length co250); have hfz256_0 := blk_frozen BK163.out 0; have hnb257 := NB157_155.out; have hnc257 := NB155_157.out; have hcz258_0 := czA BK157.out 0 (.slice none 0 0); have hfz258_0 := blk_frozen BK157.out 0))
              refine bodyPost_ret (results_ct rfl _ _ gb157 30 #[.slice Ao250 t176.length co250] (0, 0) _ rfl (by refine nB ?_; refine blk_put (cs := #[.slice none 0 0]) ?_ 0 _ rfl; exact nB BK157.out) Try.underlying30 rfl (by kernel_rfl)) rfl ?_
              exact ⟨_, by first | rfl | (simp [errW_none, errW_some] <;> rfl) | (simp [*, errW_none, errW_some] <;> rfl), by (with_reducible repeat first | apply rA | apply rN | apply rD); exact Kd.R_mono (Kd.R_far (p := ⟨gb157, 0, none⟩) (Kd.R_types HO178.out BK157.out (by decide)) (fun _ hk => hk.2) (.slice Ao250 t176.length co250)) (fun _ hk => trivial), uL HB⟩
             ·replace c235 := Bool.eq_false_iff.mpr c235
              subst c235
              have H1 : (some (([] : List (S45)), false)) = some (r1, r2) := by rw [if_neg (show ¬ (false = true) by decide)] at H; exact H
              clear H; have H := H1; clear H1
              simp only [Option.some.injEq, Prod.mk.injEq] at H
              obtain ⟨rfl, rfl⟩ := H
              have hnb259 := NB156_155.out; have hnc259 := NB155_156.out; have hnb260 := NB156_157.out; have hnc260 := NB157_156.out; have hnb261 := NB156_161.out; have hnc261 := NB161_156.out; have hnb262 := NB156_163.out; have hnc262 := NB163_156.out
              have hcz263_0 := czA BK156.out 0 (.int .i64 a1_0)
              have hcz263_1 := czA BK156.out 1 (.string a1_1)
              have hcz263_2 := czA BK156.out 2 (.string a1_2)
              have hcz263_3 := czA BK156.out 3 (.string a1_3)
              have hfz263_0 := blk_frozen BK156.out 0; have hfz263_1 := blk_frozen BK156.out 1; have hfz263_2 := blk_frozen BK156.out 2; have hfz263_3 := blk_frozen BK156.out 3; have hnb264 := NB161_155.out; have hnc264 := NB155_161.out; have hnb265 := NB161_157.out; have hnc265 := NB157_161.out; have hnb266 := NB161_163.out; have hnc266 := NB163_161.out
              have hcz267_0 := czA BK161.out 0 (.string x162000_59)
              have hcz267_1 := czA BK161.out 1 (.string x162001_59)
              have hcz267_2 := czA BK161.out 2 (.int .i64 x162002_59)
              have hfz267_0 := blk_frozen BK161.out 0; have hfz267_1 := blk_frozen BK161.out 1; have hfz267_2 := blk_frozen BK161.out 2
              try go_wp2
              have n0_ : Aside0 ((wc.setCell ⟨gb161, 0, none⟩ (.string a1_3)).heap[gb155]? = some (.cells #[.slice A0_0 l0_0.length c0_0] 30 (0, 0))) := ⟨by refine nB ?_; refine blk_far ?_ NB155_161.out _; exact nB BK155.out⟩
              have n1_ : Aside0 ((wc.setCell ⟨gb161, 0, none⟩ (.string a1_3)).heap[gb156]? = some (.cells #[.int .i64 a1_0, .string a1_1, .string a1_2, .string a1_3] 55 (0, 0))) := ⟨by refine nB ?_; refine blk_far ?_ NB156_161.out _; exact nB BK156.out⟩
              have n2_ : Aside0 ((wc.setCell ⟨gb161, 0, none⟩ (.string a1_3)).heap[gb157]? = some (.cells #[.slice none 0 0] 30 (0, 0))) := ⟨by refine nB ?_; refine blk_far ?_ NB157_161.out _; exact nB BK157.out⟩
              have n3_ : Aside0 ((wc.setCell ⟨gb161, 0, none⟩ (.string a1_3)).heap[gb161]? = some (.cells #[.string a1_3, .string x162001_59, .int .i64 x162002_59] 45 (0, 0))) := ⟨by refine nB ?_; refine blk_put (cs := #[.string x162000_59, .string x162001_59, .int .i64 x162002_59]) ?_ 0 _ rfl; exact nB BK161.out⟩
              have n4_ : Aside0 ((wc.setCell ⟨gb161, 0, none⟩ (.string a1_3)).heap[gb163]? = some (.cells #[.slice none 0 0] 30 (0, 0))) := ⟨by refine nB ?_; refine blk_far ?_ NB163_161.out _; exact nB BK163.out⟩
              have n5_ : Aside0 (Below w.heap.size w (wc.setCell ⟨gb161, 0, none⟩ (.string a1_3))) := ⟨uL HB⟩
              (try clear BK155)
              (try clear BK156)
              (try clear BK157)
              (try clear BK161)
              (try clear BK163)
              (try clear HB)
              generalize (wc.setCell ⟨gb161, 0, none⟩ (.string a1_3)) = w268 at n0_ n1_ n2_ n3_ n4_ n5_ ⊢
              have BK155 := n0_; have BK156 := n1_; have BK157 := n2_; have BK161 := n3_; have BK163 := n4_; have HB := n5_; clear n0_ n1_ n2_ n3_ n4_ n5_
              replace BK155 := aM (blk_drew BK155.out)
              replace BK156 := aM (blk_drew BK156.out)
              replace BK157 := aM (blk_drew BK157.out)
              replace BK161 := aM (blk_drew BK161.out)
              replace BK163 := aM (blk_drew BK163.out)
              replace HB := aM (below_drew1 HB.out)
              refine start_ (n := 7) (S := fun w' => w'.cell? ⟨gb155, 0, none⟩ = some (.slice A0_0 l0_0.length c0_0) ∧ w'.cell? ⟨gb156, 0, none⟩ = some (.int .i64 a1_0) ∧ w'.cell? ⟨gb156, 1, none⟩ = some (.string a1_1) ∧ w'.cell? ⟨gb156, 2, none⟩ = some (.string a1_2) ∧ w'.cell? ⟨gb156, 3, none⟩ = some (.string a1_3) ∧ w'.cell? ⟨gb161, 0, none⟩ = some (.string a1_3) ∧ w'.cell? ⟨gb161, 1, none⟩ = some (.string x162001_59) ∧ w'.cell? ⟨gb161, 2, none⟩ = some (.int .i64 x162002_59)) (ds := []) (bB 7 0) (by kernel_rfl) rfl rfl ⟨(blk_cell BK155.out 0).trans rfl, (blk_cell BK156.out 0).trans rfl, (blk_cell BK156.out 1).trans rfl, (blk_cell BK156.out 2).trans rfl, (blk_cell BK156.out 3).trans rfl, (blk_cell BK161.out 0).trans rfl, (blk_cell BK161.out 1).trans rfl, (blk_cell BK161.out 2).trans rfl⟩ (fun hHeld => ?_)
              generalize w268.drew = w269 at BK155 BK156 BK157 BK161 BK163 HB hHeld ⊢
              refine pX 1 111 (bB 7 2) (by kernel_rfl) ?_
              refine take_ (i := 0) (N := some 110) (v := ?_) (a' := ?_) (bB 7 3) rfl rfl (by kernel_rfl) (fun _ _ _ h => h) (Or.inl ⟨by rfl, ?_⟩) hHeld ?_ ?_
              rotate_left
              ·rintro w' ⟨s0, s1, s2, s3, s4, s5, s6, s7⟩
               go_simp
               with_reducible rfl
              rotate_left
              ·simp only [aP, aQ, sT, sZ, sU, i64_w, i32_w]
               rfl
              refine take_ (i := 2) (N := some 112) (v := ?_) (a' := ?_) (bB 7 7) rfl rfl (by kernel_rfl) (fun _ _ _ h => h) (Or.inl ⟨by rfl, ?_⟩) hHeld ?_ ?_
              rotate_left
              ·rintro w' ⟨s0, s1, s2, s3, s4, s5, s6, s7⟩
               go_simp
               with_reducible rfl
              rotate_left
              ·simp only [aP, aQ, sT, sZ, sU, i64_w, i32_w]
               rfl
              refine take_ (i := 4) (N := some 114) (v := ?_) (a' := ?_) (bB 7 23) rfl rfl (by kernel_rfl) (fun _ _ _ h => h) (Or.inl ⟨by rfl, ?_⟩) hHeld ?_ ?_
              rotate_left
              ·rintro w' ⟨s0, s1, s2, s3, s4, s5, s6, s7⟩
               go_simp
               with_reducible rfl
              rotate_left
              ·simp only [aP, aQ, sT, sZ, sU, i64_w, i32_w]
               rfl
              refine one_ (i := 3) (N := some 113) (bB 7 31) rfl rfl (by kernel_rfl) (by decide) (fun K hK => ?_)
              refine gX Try.func86 #[.agg #[.slice A0_0 l0_0.length c0_0], .string a1_1] ?_
              with_reducible refine (spec_l03Without.calls kj188 _ _ l0_0 a1_1 t173 _ ?side1 ?side2 A232.out).mono ?_
              (case side1 => exact uC HR0_0 HB)
              (case side2 => exact HC0_0.out)
              rintro e w270 ⟨v174, rfl, ho0, hb⟩
              refine ⟨_, rfl, ?_⟩
              have HO175 := aM (Kd.R_lower (Kd.R_newB ho0 (g := gb161) (o := .cells #[.string a1_3, .string x162001_59, .int .i64 x162002_59] 45 (0, 0)) (uB BK161)) (below_size (uL HB)))
              replace BK155 := blkB BK155 hb
              replace BK156 := blkB BK156 hb
              replace BK157 := blkB BK157 hb
              replace BK161 := blkB BK161 hb
              replace BK163 := blkB BK163 hb
              replace HB := aM (below_step (uL HB) hb)
              (try clear hb)
              (try clear hb2)
              (try clear hk)
              (try clear hi)
              (try clear ho0)
              obtain ⟨Ao271, co271, eo271⟩ := Kd.R_slice HO175.out
              (first | subst eo271 | (injection eo271 with f1_ f2_ f3_; have f4_ := f1_.symm; have f5_ := f3_.symm; clear f1_ f2_ f3_; subst f4_; subst f5_))
              refine hK.out _ _ ⟨(blk_cell BK155.out 0).trans rfl, (blk_cell BK156.out 0).trans rfl, (blk_cell BK156.out 1).trans rfl, (blk_cell BK156.out 2).trans rfl, (blk_cell BK156.out 3).trans rfl, (blk_cell BK161.out 0).trans rfl, (blk_cell BK161.out 1).trans rfl, (blk_cell BK161.out 2).trans rfl⟩ (fun hHeld => ?_)
              clear hK K
              refine nX 113 ?_
              refine one_ (i := 5) (N := some 115) (bB 7 63) rfl rfl (by kernel_rfl) (by decide) (fun K hK => ?_)
              refine gX Try.func79 #[.agg #[.slice Ao271 t173.length co271], .agg #[.string a1_3, .string x162001_59, .int .i64 x162002_59]] ?_
              with_reducible refine (spec_l03Put.calls kj188 _ _ t173 a1_3 x162001_59 x162002_59 t176 _ ?side1 ?side2 A233.out).mono ?_
              (case side1 => repeat (first | exact (Kd.R_reads' HO175.out).2.2 | (with_reducible refine cA ?_ _) | (with_reducible refine cN ?_ _) | (with_reducible refine cD ?_)))
              (case side2 => exact (Kd.R_reads' HO175.out).2.1)
              rintro e w272 ⟨v177, rfl, ho0, hb⟩
              refine ⟨_, rfl, ?_⟩
              have HO178 := aM (Kd.R_lower (Kd.R_newB (Kd.R_new' ho0 (Kd.R_lt (uR HO175))) (g := gb161) (o := .cells #[.string a1_3, .string x162001_59, .int .i64 x162002_59] 45 (0, 0)) (uB BK161)) (below_size (uL HB)))
              replace HO175 := aM (Kd.R_elder' (uR HO175) (Kd.R_base ho0) hb)
              replace BK155 := blkB BK155 hb
              replace BK156 := blkB BK156 hb
              replace BK157 := blkB BK157 hb
              replace BK161 := blkB BK161 hb
              replace BK163 := blkB BK163 hb
              replace HB := aM (below_step (uL HB) hb)
              (try clear hb)
              (try clear hb2)
              (try clear hk)
              (try clear hi)
              (try clear ho0)
              obtain ⟨Ao273, co273, eo273⟩ := Kd.R_slice HO178.out
              (first | subst eo273 | (injection eo273 with f1_ f2_ f3_; have f4_ := f1_.symm; have f5_ := f3_.symm; clear f1_ f2_ f3_; subst f4_; subst f5_))
              refine hK.out _ _ ⟨(blk_cell BK155.out 0).trans rfl, (blk_cell BK156.out 0).trans rfl, (blk_cell BK156.out 1).trans rfl, (blk_cell BK156.out 2).trans rfl, (blk_cell BK156.out 3).trans rfl, (blk_cell BK161.out 0).trans rfl, (blk_cell BK161.out 1).trans rfl, (blk_cell BK161.out 2).trans rfl⟩ (fun hHeld => ?_)
              clear hK K
              refine nX 115 ?_
              refine one_ (i := 6) (N := none) (bB 7 127) rfl rfl (by kernel_rfl) (by decide) (fun K hK => ?_)
              have hs274 := czA BK163.out 0 (.slice none 0 0)
              have hfs274 := blk_frozen BK163.out 0; have hns274_0 := NB155_163.out; have hns274_1 := NB156_163.out; have hns274_2 := NB157_163.out; have hns274_3 := NB161_163.out; have hms274_0 := NB163_155.out; have hms274_1 := NB163_156.out; have hms274_2 := NB163_157.out; have hms274_3 := NB163_161.out
              refine skip_ (w1 := ?_) (by rfl) rfl ?_ ?_
              rotate_left
              ·go_simp
               rfl
              refine hK.out _ _ ⟨((cell_far (p := ⟨gb163, _, none⟩) NB155_163.out _).trans (hHeld.1)), ((cell_far (p := ⟨gb163, _, none⟩) NB156_163.out _).trans (hHeld.2.1)), ((cell_far (p := ⟨gb163, _, none⟩) NB156_163.out _).trans (hHeld.2.2.1)), ((cell_far (p := ⟨gb163, _, none⟩) NB156_163.out _).trans (hHeld.2.2.2.1)), ((cell_far (p := ⟨gb163, _, none⟩) NB156_163.out _).trans (hHeld.2.2.2.2.1)), ((cell_far (p := ⟨gb163, _, none⟩) NB161_163.out _).trans (hHeld.2.2.2.2.2.1)), ((cell_far (p := ⟨gb163, _, none⟩) NB161_163.out _).trans (hHeld.2.2.2.2.2.2.1)), ((cell_far (p := ⟨gb163, _, none⟩) NB161_163.out _).trans (hHeld.2.2.2.2.2.2.2))⟩ (fun hHeld => ?_)
              clear hK K
              refine done_ (by kernel_rfl) ?_
              have hnb275 := NB163_155.out; have hnc275 := NB155_163.out; have hnb276 := NB163_157.out; have hnc276 := NB157_163.out
              have hcz277_0 := czA BK163.out 0 (.slice none 0 0)
              have hfz277_0 := blk_frozen BK163.out 0
              try go_wp2_with (first | ((with_reducible refine gate_callee (f := 20) rfl ?_); refine gL (some 125) Try.func20 #[.agg #[.slice Ao273 t176.length co273]] ?_; (with_reducible refine (spec_DiskOk.calls kj188 _ _ t176 false _ ?side1 ?side2 A234.out).mono ?_); (case side1 => refine (Kd.R_reads' (e := 45) (base := w.heap.size) (ok := fun k_ => ((True ∧ some k_ ≠ (.slice Ao271 t173.length co271 : Value).ownBlock) ∧ k_ ≠ gb161)) (n := t176.length) (c := co273) ?_).2.2; exact (by (with_reducible repeat first | apply rA | apply rN | apply rD); exact (Kd.R_mono (Kd.R_far (p := ⟨gb163, 0, none⟩) (Kd.R_types HO178.out BK163.out (by decide)) (fun _ hk => hk.2) (.slice Ao273 t176.length co273)) (fun _ h_ => h_.1)))); (case side2 => exact (Kd.R_reads' HO178.out).2.1); rintro e w278 ⟨rfl, hb⟩; refine ⟨_, rfl, ?_⟩; replace HO175 := aM (Kd.R_below (by (with_reducible repeat first | apply rA | apply rN | apply rD); exact (Kd.R_mono (Kd.R_far (p := ⟨gb163, 0, none⟩) (Kd.R_types HO175.out BK163.out (by decide)) (fun _ hk => hk.2) (.slice Ao273 t176.length co273)) (fun _ h_ => h_.1))) hb); replace HO178 := aM (Kd.R_below (by (with_reducible repeat first | apply rA | apply rN | apply rD); exact (Kd.R_mono (Kd.R_far (p := ⟨gb163, 0, none⟩) (Kd.R_types HO178.out BK163.out (by decide)) (fun _ hk => hk.2) (.slice Ao273 t176.length co273)) (fun _ h_ => h_.1))) hb); replace BK155 := blkB BK155 hb; replace BK156 := blkB BK156 hb; replace BK157 := blkB BK157 hb; replace BK161 := blkB BK161 hb; replace BK163 := aM (blk_below (g := gb163) (o := .cells #[.slice Ao273 t176.length co273] 30 (0, 0)) (by refine nB ?_; refine blk_put (cs := #[.slice none 0 0]) ?_ 0 _ rfl; exact nB BK163.out) hb); replace HB := aM (below_step (uL HB) hb); try clear hb; have hnb279 := NB157_155.out; have hnc279 := NB155_157.out; have hcz280_0 := czA BK157.out 0 (.slice none 0 0); have hfz280_0 := blk_frozen BK157.out 0))
              refine bodyPost_ret (results_ct rfl _ _ gb157 30 #[.slice none 0 0] (0, 0) _ rfl (by refine nB ?_; refine blk_put (cs := #[.slice none 0 0]) ?_ 0 _ rfl; exact nB BK157.out) Try.underlying30 rfl (by kernel_rfl)) rfl ?_
              exact ⟨_, by first | rfl | (simp [errW_none, errW_some] <;> rfl) | (simp [*, errW_none, errW_some] <;> rfl), by first | exact Kd.R_nil _ _ _ _ _ | exact Kd.N_nil _ _ _ _ _ | exact Kd.V_nil _ _ _ _ _ | exact Kd.Q_nil _ _ _ _ _ | exact Kd.S_nil _ _ _ _ _, uL HB⟩
         case' L10n =>
          rw [if_neg c188] at H
          have c188b0 : (a1_0 == 3) = false := beq_eq_false_iff_ne.mpr c188
          have c188b1 : (a1_0 != 3) = true := bne_iff_ne.mpr c188
          refine Classical.byCases (p := a1_0 = 4) (fun c281 => ?L11p) (fun c281 => ?L11n)
          case' L11p =>
           rw [if_pos c281] at H
           have c281b0 : (a1_0 == 4) = true := beq_iff_eq.mpr c281
           have c281b1 : (a1_0 != 4) = false := bne_eq_false_iff_eq.mpr c281
           clear c281
           replace H := Option.bind_eq_some_iff.mp H
           obtain ⟨t180, A2820, H⟩ := H
           try dsimp only at H
           have A282 := aM A2820
           clear A2820
           replace H := Option.bind_eq_some_iff.mp H
           obtain ⟨t183, A2830, H⟩ := H
           replace H : (if t183 = true then (some (t180, true)) else (some (([] : List (S45)), false))) = some (r1, r2) := H
           have A283 := aM A2830
           clear A2830
           by_cases c284 : t183 = true
           ·subst c284
            have H1 : (some (t180, true)) = some (r1, r2) := by rw [if_pos rfl] at H; exact H
            clear H; have H := H1; clear H1
            simp only [Option.some.injEq, Prod.mk.injEq] at H
            obtain ⟨rfl, rfl⟩ := H
            go_wp2_with (first | ((with_reducible refine gate_dst (N := 8) rfl ?_); refine bxE 8 #[.slice none 0 0] 30 ?_; intro gb163 hg w285 hbox hb; have BK163 := aM (hbox); have GW163 := szG hg (uL HB); have GE163 := szG hg (uL HB); have NB155_163 := neL hg BK155; have NB163_155 := neG hg BK155; have NB156_163 := neL hg BK156; have NB163_156 := neG hg BK156; have NB157_163 := neL hg BK157; have NB163_157 := neG hg BK157; have NB161_163 := neL hg BK161; have NB163_161 := neG hg BK161; replace BK155 := blkB BK155 hb; replace BK156 := blkB BK156 hb; replace BK157 := blkB BK157 hb; replace BK161 := blkB BK161 hb; replace HB := aM (below_step (uL HB) hb); clear hb hbox hg; have hnb286 := NB163_155.out; have hnc286 := NB155_163.out; have hnb287 := NB163_156.out; have hnc287 := NB156_163.out; have hnb288 := NB163_157.out; have hnc288 := NB157_163.out; have hnb289 := NB163_161.out; have hnc289 := NB161_163.out; have hcz290_0 := czA BK163.out 0 (.slice none 0 0); have hfz290_0 := blk_frozen BK163.out 0; have hnb291 := NB156_155.out; have hnc291 := NB155_156.out; have hnb292 := NB156_157.out; have hnc292 := NB157_156.out; have hnb293 := NB156_161.out; have hnc293 := NB161_156.out; have hcz294_0 := czA BK156.out 0 (.int .i64 a1_0); have hcz294_1 := czA BK156.out 1 (.string a1_1); have hcz294_2 := czA BK156.out 2 (.string a1_2); have hcz294_3 := czA BK156.out 3 (.string a1_3); have hfz294_0 := blk_frozen BK156.out 0; have hfz294_1 := blk_frozen BK156.out 1; have hfz294_2 := blk_frozen BK156.out 2; have hfz294_3 := blk_frozen BK156.out 3; have hnb295 := NB155_157.out; have hnc295 := NB157_155.out; have hnb296 := NB155_161.out; have hnc296 := NB161_155.out; have hcz297_0 := czA BK155.out 0 (.slice A0_0 l0_0.length c0_0); have hfz297_0 := blk_frozen BK155.out 0) | ((with_reducible refine gate_callee (f := 86) rfl ?_); refine gL (some 123) Try.func86 #[.agg #[.slice A0_0 l0_0.length c0_0], .string a1_1] ?_; (with_reducible refine (spec_l03Without.calls kj59 _ _ l0_0 a1_1 t180 _ ?side1 ?side2 A282.out).mono ?_); (case side1 => exact Kd.C_below HR0_0.out (uL HB)); (case side2 => exact HC0_0.out); rintro e w298 ⟨v181, rfl, ho0, hb⟩; refine ⟨_, rfl, ?_⟩; have HO182 := aM (Kd.R_lower (Kd.R_newB ho0 (g := gb161) (o := .cells #[.string x162000_59, .string x162001_59, .int .i64 x162002_59] 45 (0, 0)) (by refine nB ?_; refine blk_far ?_ NB161_163.out _; exact nB BK161.out)) (below_size (uL HB))); replace BK155 := blkB BK155 hb; replace BK156 := blkB BK156 hb; replace BK157 := blkB BK157 hb; replace BK161 := blkB BK161 hb; replace BK163 := aM (blk_below (g := gb163) (o := .cells #[.slice none 0 0] 30 (0, 0)) (by refine nB ?_; refine blk_put (cs := #[.slice none 0 0]) ?_ 0 _ rfl; exact nB BK163.out) hb); replace HB := aM (below_step (uL HB) hb); try clear hb ho0; obtain ⟨Ao299, co299, eo299⟩ := Kd.R_slice HO182.out; subst eo299; have hcz300_0 := czA BK163.out 0 (.slice none 0 0); have hfz300_0 := blk_frozen BK163.out 0) | ((with_reducible refine gate_callee (f := 20) rfl ?_); refine gL (some 125) Try.func20 #[.agg #[.slice Ao299 t180.length co299]] ?_; (with_reducible refine (spec_DiskOk.calls kj59 _ _ t180 true _ ?side1 ?side2 A283.out).mono ?_); (case side1 => refine (Kd.R_reads' (e := 45) (base := w.heap.size) (ok := fun k_ => (True ∧ k_ ≠ gb161)) (n := t180.length) (c := co299) ?_).2.2; exact (by (with_reducible repeat first | apply rA | apply rN | apply rD); exact (Kd.R_mono (Kd.R_far (p := ⟨gb163, 0, none⟩) (Kd.R_types HO182.out BK163.out (by decide)) (fun _ hk => hk.2) (.slice Ao299 t180.length co299)) (fun _ h_ => h_.1)))); (case side2 => exact (Kd.R_reads' HO182.out).2.1); rintro e w301 ⟨rfl, hb⟩; refine ⟨_, rfl, ?_⟩; replace HO182 := aM (Kd.R_below (by (with_reducible repeat first | apply rA | apply rN | apply rD); exact (Kd.R_mono (Kd.R_far (p := ⟨gb163, 0, none⟩) (Kd.R_types HO182.out BK163.out (by decide)) (fun _ hk => hk.2) (.slice Ao299 t180.length co299)) (fun _ h_ => h_.1))) hb); replace BK155 := blkB BK155 hb; replace BK156 := blkB BK156 hb; replace BK157 := blkB BK157 hb; replace BK161 := blkB BK161 hb; replace BK163 := aM (blk_below (g := gb163) (o := .cells #[.slice Ao299 t180.length co299] 30 (0, 0)) (by refine nB ?_; refine blk_put (cs := #[.slice none 0 0]) ?_ 0 _ rfl; exact nB BK163.out) hb); replace HB := aM (below_step (uL HB) hb); try clear hb; have hcz302_0 := czA BK163.out 0 (.slice Ao299 t180.length co299); have hfz302_0 := blk_frozen BK163.out 0; have hnb303 := NB157_161.out; have hnc303 := NB161_157.out; have hcz304_0 := czA BK157.out 0 (.slice none 0 0); have hfz304_0 := blk_frozen BK157.out 0))
            refine bodyPost_ret (results_ct rfl _ _ gb157 30 #[.slice Ao299 t180.length co299] (0, 0) _ rfl (by refine nB ?_; refine blk_put (cs := #[.slice none 0 0]) ?_ 0 _ rfl; exact nB BK157.out) Try.underlying30 rfl (by kernel_rfl)) rfl ?_
            exact ⟨_, by first | rfl | (simp [errW_none, errW_some] <;> rfl) | (simp [*, errW_none, errW_some] <;> rfl), by (with_reducible repeat first | apply rA | apply rN | apply rD); exact Kd.R_mono (Kd.R_far (p := ⟨gb157, 0, none⟩) (Kd.R_types HO182.out BK157.out (by decide)) (fun _ hk => hk.2) (.slice Ao299 t180.length co299)) (fun _ hk => trivial), uL HB⟩
           ·replace c284 := Bool.eq_false_iff.mpr c284
            subst c284
            have H1 : (some (([] : List (S45)), false)) = some (r1, r2) := by rw [if_neg (show ¬ (false = true) by decide)] at H; exact H
            clear H; have H := H1; clear H1
            simp only [Option.some.injEq, Prod.mk.injEq] at H
            obtain ⟨rfl, rfl⟩ := H
            go_wp2_with (first | ((with_reducible refine gate_dst (N := 8) rfl ?_); refine bxE 8 #[.slice none 0 0] 30 ?_; intro gb163 hg w305 hbox hb; have BK163 := aM (hbox); have GW163 := szG hg (uL HB); have GE163 := szG hg (uL HB); have NB155_163 := neL hg BK155; have NB163_155 := neG hg BK155; have NB156_163 := neL hg BK156; have NB163_156 := neG hg BK156; have NB157_163 := neL hg BK157; have NB163_157 := neG hg BK157; have NB161_163 := neL hg BK161; have NB163_161 := neG hg BK161; replace BK155 := blkB BK155 hb; replace BK156 := blkB BK156 hb; replace BK157 := blkB BK157 hb; replace BK161 := blkB BK161 hb; replace HB := aM (below_step (uL HB) hb); clear hb hbox hg; have hnb306 := NB163_155.out; have hnc306 := NB155_163.out; have hnb307 := NB163_156.out; have hnc307 := NB156_163.out; have hnb308 := NB163_157.out; have hnc308 := NB157_163.out; have hnb309 := NB163_161.out; have hnc309 := NB161_163.out; have hcz310_0 := czA BK163.out 0 (.slice none 0 0); have hfz310_0 := blk_frozen BK163.out 0; have hnb311 := NB156_155.out; have hnc311 := NB155_156.out; have hnb312 := NB156_157.out; have hnc312 := NB157_156.out; have hnb313 := NB156_161.out; have hnc313 := NB161_156.out; have hcz314_0 := czA BK156.out 0 (.int .i64 a1_0); have hcz314_1 := czA BK156.out 1 (.string a1_1); have hcz314_2 := czA BK156.out 2 (.string a1_2); have hcz314_3 := czA BK156.out 3 (.string a1_3); have hfz314_0 := blk_frozen BK156.out 0; have hfz314_1 := blk_frozen BK156.out 1; have hfz314_2 := blk_frozen BK156.out 2; have hfz314_3 := blk_frozen BK156.out 3; have hnb315 := NB155_157.out; have hnc315 := NB157_155.out; have hnb316 := NB155_161.out; have hnc316 := NB161_155.out; have hcz317_0 := czA BK155.out 0 (.slice A0_0 l0_0.length c0_0); have hfz317_0 := blk_frozen BK155.out 0) | ((with_reducible refine gate_callee (f := 86) rfl ?_); refine gL (some 123) Try.func86 #[.agg #[.slice A0_0 l0_0.length c0_0], .string a1_1] ?_; (with_reducible refine (spec_l03Without.calls kj59 _ _ l0_0 a1_1 t180 _ ?side1 ?side2 A282.out).mono ?_); (case side1 => exact Kd.C_below HR0_0.out (uL HB)); (case side2 => exact HC0_0.out); rintro e w318 ⟨v181, rfl, ho0, hb⟩; refine ⟨_, rfl, ?_⟩; have HO182 := aM (Kd.R_lower (Kd.R_newB ho0 (g := gb161) (o := .cells #[.string x162000_59, .string x162001_59, .int .i64 x162002_59] 45 (0, 0)) (by refine nB ?_; refine blk_far ?_ NB161_163.out _; exact nB BK161.out)) (below_size (uL HB))); replace BK155 := blkB BK155 hb; replace BK156 := blkB BK156 hb; replace BK157 := blkB BK157 hb; replace BK161 := blkB BK161 hb; replace BK163 := aM (blk_below (g := gb163) (o := .cells #[.slice none 0 0] 30 (0, 0)) (by refine nB ?_; refine blk_put (cs := #[.slice none 0 0]) ?_ 0 _ rfl; exact nB BK163.out) hb); replace HB := aM (below_step (uL HB) hb); try clear hb ho0; obtain ⟨Ao319, co319, eo319⟩ := Kd.R_slice HO182.out; subst eo319; have hcz320_0 := czA BK163.out 0 (.slice none 0 0); have hfz320_0 := blk_frozen BK163.out 0) | ((with_reducible refine gate_callee (f := 20) rfl ?_); refine gL (some 125) Try.func20 #[.agg #[.slice Ao319 t180.length co319]] ?_; (with_reducible refine (spec_DiskOk.calls kj59 _ _ t180 false _ ?side1 ?side2 A283.out).mono ?_); (case side1 => refine (Kd.R_reads' (e := 45) (base := w.heap.size) (ok := fun k_ => (True ∧ k_ ≠ gb161)) (n := t180.length) (c := co319) ?_).2.2; exact (by (with_reducible repeat first | apply rA | apply rN | apply rD); exact (Kd.R_mono (Kd.R_far (p := ⟨gb163, 0, none⟩) (Kd.R_types HO182.out BK163.out (by decide)) (fun _ hk => hk.2) (.slice Ao319 t180.length co319)) (fun _ h_ => h_.1)))); (case side2 => exact (Kd.R_reads' HO182.out).2.1); rintro e w321 ⟨rfl, hb⟩; refine ⟨_, rfl, ?_⟩; replace HO182 := aM (Kd.R_below (by (with_reducible repeat first | apply rA | apply rN | apply rD); exact (Kd.R_mono (Kd.R_far (p := ⟨gb163, 0, none⟩) (Kd.R_types HO182.out BK163.out (by decide)) (fun _ hk => hk.2) (.slice Ao319 t180.length co319)) (fun _ h_ => h_.1))) hb); replace BK155 := blkB BK155 hb; replace BK156 := blkB BK156 hb; replace BK157 := blkB BK157 hb; replace BK161 := blkB BK161 hb; replace BK163 := aM (blk_below (g := gb163) (o := .cells #[.slice Ao319 t180.length co319] 30 (0, 0)) (by refine nB ?_; refine blk_put (cs := #[.slice none 0 0]) ?_ 0 _ rfl; exact nB BK163.out) hb); replace HB := aM (below_step (uL HB) hb); try clear hb; have hnb322 := NB157_161.out; have hnc322 := NB161_157.out; have hcz323_0 := czA BK157.out 0 (.slice none 0 0); have hfz323_0 := blk_frozen BK157.out 0))
            refine bodyPost_ret (results_ct rfl _ _ gb157 30 #[.slice none 0 0] (0, 0) _ rfl (by refine nB ?_; refine blk_put (cs := #[.slice none 0 0]) ?_ 0 _ rfl; exact nB BK157.out) Try.underlying30 rfl (by kernel_rfl)) rfl ?_
            exact ⟨_, by first | rfl | (simp [errW_none, errW_some] <;> rfl) | (simp [*, errW_none, errW_some] <;> rfl), by first | exact Kd.R_nil _ _ _ _ _ | exact Kd.N_nil _ _ _ _ _ | exact Kd.V_nil _ _ _ _ _ | exact Kd.Q_nil _ _ _ _ _ | exact Kd.S_nil _ _ _ _ _, uL HB⟩
          case' L11n =>
           rw [if_neg c281] at H
           have c281b0 : (a1_0 == 4) = false := beq_eq_false_iff_ne.mpr c281
           have c281b1 : (a1_0 != 4) = true := bne_iff_ne.mpr c281
           simp only [Option.some.injEq, Prod.mk.injEq] at H
           obtain ⟨rfl, rfl⟩ := H
      case L8p | L8n =>
       go_wp2_with (first | ((with_reducible refine gate_dst (N := 8) rfl ?_); refine bxE 8 #[.slice none 0 0] 30 ?_; intro gb163 hg w130 hbox hb; have BK163 := aM (hbox); have GW163 := szG hg (uL HB); have GE163 := szG hg (uL HB); have NB155_163 := neL hg BK155; have NB163_155 := neG hg BK155; have NB156_163 := neL hg BK156; have NB163_156 := neG hg BK156; have NB157_163 := neL hg BK157; have NB163_157 := neG hg BK157; have NB161_163 := neL hg BK161; have NB163_161 := neG hg BK161; replace BK155 := blkB BK155 hb; replace BK156 := blkB BK156 hb; replace BK157 := blkB BK157 hb; replace BK161 := blkB BK161 hb; replace HB := aM (below_step (uL HB) hb); clear hb hbox hg; have hnb131 := NB163_155.out; have hnc131 := NB155_163.out; have hnb132 := NB163_156.out; have hnc132 := NB156_163.out; have hnb133 := NB163_157.out; have hnc133 := NB157_163.out; have hnb134 := NB163_161.out; have hnc134 := NB161_163.out; have hcz135_0 := czA BK163.out 0 (.slice none 0 0); have hfz135_0 := blk_frozen BK163.out 0; have hnb136 := NB156_155.out; have hnc136 := NB155_156.out; have hnb137 := NB156_157.out; have hnc137 := NB157_156.out; have hnb138 := NB156_161.out; have hnc138 := NB161_156.out; have hcz139_0 := czA BK156.out 0 (.int .i64 a1_0); have hcz139_1 := czA BK156.out 1 (.string a1_1); have hcz139_2 := czA BK156.out 2 (.string a1_2); have hcz139_3 := czA BK156.out 3 (.string a1_3); have hfz139_0 := blk_frozen BK156.out 0; have hfz139_1 := blk_frozen BK156.out 1; have hfz139_2 := blk_frozen BK156.out 2; have hfz139_3 := blk_frozen BK156.out 3; have hnb140 := NB157_155.out; have hnc140 := NB155_157.out; have hnb141 := NB157_161.out; have hnc141 := NB161_157.out; have hcz142_0 := czA BK157.out 0 (.slice none 0 0); have hfz142_0 := blk_frozen BK157.out 0))
       refine bodyPost_ret (results_ct rfl _ _ gb157 30 #[.slice none 0 0] (0, 0) _ rfl (by refine nB ?_; refine blk_put (cs := #[.slice none 0 0]) ?_ 0 _ rfl; refine nB ?_; refine blk_far ?_ NB157_163.out _; exact nB BK157.out) Try.underlying30 rfl (by kernel_rfl)) rfl ?_
       exact ⟨_, by first | rfl | (simp [errW_none, errW_some] <;> rfl) | (simp [*, errW_none, errW_some] <;> rfl), by first | exact Kd.R_nil _ _ _ _ _ | exact Kd.N_nil _ _ _ _ _ | exact Kd.V_nil _ _ _ _ _ | exact Kd.Q_nil _ _ _ _ _ | exact Kd.S_nil _ _ _ _ _, uL HB⟩

end Go.Proofs.Ytidfhfaekdahpaa.QFnActs
