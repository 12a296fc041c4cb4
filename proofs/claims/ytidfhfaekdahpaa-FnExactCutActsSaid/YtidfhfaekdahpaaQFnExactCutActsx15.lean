-- Own work (wip/turnprint.py over the kit's print).
import Derived.Test.YtidfhfaekdahpaaQFnExactCutActsx0
import Derived.Test.YtidfhfaekdahpaaQFnExactCutActsx9
import Derived.Test.YtidfhfaekdahpaaQFnExactCutActsx10
import Derived.Test.YtidfhfaekdahpaaQFnExactCutActsx12
import Derived.Test.YtidfhfaekdahpaaQFnExactCutActsx13
import Derived.Test.YtidfhfaekdahpaaQFnExactCutActsx14
namespace Go.Proofs.Ytidfhfaekdahpaa.QFnExactCutActs
open Go.RowKit Go.Proofs.YtidfhfaekdahpaaW.PrintWords Go.Proofs.YtidfhfaekdahpaaW.PrintLast
set_option linter.unusedVariables false
set_option linter.unusedSimpArgs false

/-! ### spec_DoAct: function 38 -/
mutual
def spec_DoAct.j0 : Nat → Bool → List (S45) → Int → ByteArray → ByteArray → ByteArray → Option ((List (S45)) × Bool)
 | 0, _, _, _, _, _, _ => none
 | k + 1, x37, x251000, x252000, x252001, x252002, x252003 => if x37 = true then (some (([] : List (S45)), false)) else ((spec_l03At.f k x251000 x252001).bind fun t255 => (if t255 ≥ 0 then (if 0 ≤ t255 then (if t255 < (x251000.length : Int) then (spec_DoAct.j1 k t255 x251000 x252000 x252001 x252002 x252003 ((rd_T45 x251000 t255).f0) ((rd_T45 x251000 t255).f1) ((rd_T45 x251000 t255).f2)) else (none)) else (none)) else (spec_DoAct.j1 k t255 x251000 x252000 x252001 x252002 x252003 x252001 (⟨#[]⟩ : ByteArray) 0)))
def spec_DoAct.j1 : Nat → Int → List (S45) → Int → ByteArray → ByteArray → ByteArray → ByteArray → ByteArray → Int → Option ((List (S45)) × Bool)
 | 0, _, _, _, _, _, _, _, _, _ => none
 | k + 1, x6, x251000, x252000, x252001, x252002, x252003, x257000, x257001, x257002 => if x252000 = 1 then (if x257001.size + x252002.size ≤ 9223372036854775807 then ((spec_l03Put.f k x251000 x257000 (x257001 ++ x252002) x257002).bind fun t259 => ((spec_DiskOk.f k t259).bind fun t262 => (if t262 = true then (some (t259, true)) else (some (([] : List (S45)), false))))) else (none)) else (if x6 < 0 then (some (([] : List (S45)), false)) else (if x252000 = 2 then ((spec_l03Put.f k x251000 x257000 x257001 (x257001.size : Int)).bind fun t263 => ((spec_DiskOk.f k t263).bind fun t266 => (if t266 = true then (some (t263, true)) else (some (([] : List (S45)), false))))) else (if x252000 = 3 then (if x257002 < (x257001.size : Int) then (spec_DoAct.j2 k true x251000 x252000 x252001 x252002 x252003 x257000 x257001 x257002) else (if x252003.toList = x252001.toList then (spec_DoAct.j2 k true x251000 x252000 x252001 x252002 x252003 x257000 x257001 x257002) else ((spec_l03Name.f x252003).bind fun t267 => (spec_DoAct.j2 k (!t267) x251000 x252000 x252001 x252002 x252003 x257000 x257001 x257002)))) else (if x252000 = 4 then ((spec_l03Without.f k x251000 x252001).bind fun t275 => ((spec_DiskOk.f k t275).bind fun t278 => (if t278 = true then (some (t275, true)) else (some (([] : List (S45)), false))))) else (some (([] : List (S45)), false))))))
def spec_DoAct.j2 : Nat → Bool → List (S45) → Int → ByteArray → ByteArray → ByteArray → ByteArray → ByteArray → Int → Option ((List (S45)) × Bool)
 | 0, _, _, _, _, _, _, _, _, _ => none
 | k + 1, x105, x251000, x252000, x252001, x252002, x252003, x257000, x257001, x257002 => if x105 = true then (some (([] : List (S45)), false)) else ((spec_l03Without.f k x251000 x252001).bind fun t268 => ((spec_l03Put.f k t268 x252003 x257001 x257002).bind fun t271 => ((spec_DiskOk.f k t271).bind fun t274 => (if t274 = true then (some (t271, true)) else (some (([] : List (S45)), false))))))
end
def spec_DoAct.f (k : Nat) (l0_0 : List (S45)) (a1_0 : Int) (a1_1 : ByteArray) (a1_2 : ByteArray) (a1_3 : ByteArray) : Option ((List (S45)) × Bool) := (spec_DiskOk.f k l0_0).bind fun t253 => (if t253 = true then ((spec_l03Name.f a1_1).bind fun t254 => (if t254 = true then (if a1_0 = 3 then (if a1_0 = 1 then (spec_DoAct.j0 k false l0_0 a1_0 a1_1 a1_2 a1_3) else (spec_DoAct.j0 k (a1_2.toList != ([] : List UInt8)) l0_0 a1_0 a1_1 a1_2 a1_3)) else (if a1_3.toList = ([] : List UInt8) then (if a1_0 = 1 then (spec_DoAct.j0 k false l0_0 a1_0 a1_1 a1_2 a1_3) else (spec_DoAct.j0 k (a1_2.toList != ([] : List UInt8)) l0_0 a1_0 a1_1 a1_2 a1_3)) else (spec_DoAct.j0 k true l0_0 a1_0 a1_1 a1_2 a1_3))) else (spec_DoAct.j0 k true l0_0 a1_0 a1_1 a1_2 a1_3))) else (spec_DoAct.j0 k true l0_0 a1_0 a1_1 a1_2 a1_3))
theorem spec_DoAct.mono_l : ∀ k, (∀ y0 y1 y2 y3 y4 y5, LeO (spec_DoAct.j0 k y0 y1 y2 y3 y4 y5) (spec_DoAct.j0 (k + 1) y0 y1 y2 y3 y4 y5)) ∧ (∀ y0 y1 y2 y3 y4 y5 y6 y7 y8, LeO (spec_DoAct.j1 k y0 y1 y2 y3 y4 y5 y6 y7 y8) (spec_DoAct.j1 (k + 1) y0 y1 y2 y3 y4 y5 y6 y7 y8)) ∧ (∀ y0 y1 y2 y3 y4 y5 y6 y7 y8, LeO (spec_DoAct.j2 k y0 y1 y2 y3 y4 y5 y6 y7 y8) (spec_DoAct.j2 (k + 1) y0 y1 y2 y3 y4 y5 y6 y7 y8))
 | 0 => ⟨fun _ _ _ _ _ _ r h => by simp [spec_DoAct.j0] at h, fun _ _ _ _ _ _ _ _ _ r h => by simp [spec_DoAct.j1] at h, fun _ _ _ _ _ _ _ _ _ r h => by simp [spec_DoAct.j2] at h⟩
 | k + 1 => by
  obtain ⟨ih0, ih1, ih2⟩ := spec_DoAct.mono_l k
  refine ⟨?_, ?_, ?_⟩
  ·intro y0 y1 y2 y3 y4 y5
   unfold spec_DoAct.j0
   repeat' first
   | (with_reducible exact ih0 _ _ _ _ _ _)
   | (with_reducible exact ih1 _ _ _ _ _ _ _ _ _)
   | (with_reducible exact ih2 _ _ _ _ _ _ _ _ _)
   | (with_reducible exact spec_DiskOk.mono _ _)
   | (with_reducible exact spec_l03At.mono _ _ _)
   | (with_reducible exact spec_l03Put.mono _ _ _ _ _)
   | (with_reducible exact spec_l03Without.mono _ _ _)
   | (with_reducible exact LeO.refl _)
   | (with_reducible exact LeO.none _)
   | (with_reducible refine LeO.ite ?_ ?_)
   | (with_reducible refine LeO.bind ?_ (fun _ => ?_))
   | exact ih0 _ _ _ _ _ _
   | exact ih1 _ _ _ _ _ _ _ _ _
   | exact ih2 _ _ _ _ _ _ _ _ _
   | exact spec_DiskOk.mono _ _
   | exact spec_l03At.mono _ _ _
   | exact spec_l03Put.mono _ _ _ _ _
   | exact spec_l03Without.mono _ _ _
   | exact LeO.none _
   | refine LeO.ite ?_ ?_
   | refine LeO.bind ?_ (fun _ => ?_)
  ·intro y0 y1 y2 y3 y4 y5 y6 y7 y8
   unfold spec_DoAct.j1
   repeat' first
   | (with_reducible exact ih0 _ _ _ _ _ _)
   | (with_reducible exact ih1 _ _ _ _ _ _ _ _ _)
   | (with_reducible exact ih2 _ _ _ _ _ _ _ _ _)
   | (with_reducible exact spec_DiskOk.mono _ _)
   | (with_reducible exact spec_l03At.mono _ _ _)
   | (with_reducible exact spec_l03Put.mono _ _ _ _ _)
   | (with_reducible exact spec_l03Without.mono _ _ _)
   | (with_reducible exact LeO.refl _)
   | (with_reducible exact LeO.none _)
   | (with_reducible refine LeO.ite ?_ ?_)
   | (with_reducible refine LeO.bind ?_ (fun _ => ?_))
   | exact ih0 _ _ _ _ _ _
   | exact ih1 _ _ _ _ _ _ _ _ _
   | exact ih2 _ _ _ _ _ _ _ _ _
   | exact spec_DiskOk.mono _ _
   | exact spec_l03At.mono _ _ _
   | exact spec_l03Put.mono _ _ _ _ _
   | exact spec_l03Without.mono _ _ _
   | exact LeO.none _
   | refine LeO.ite ?_ ?_
   | refine LeO.bind ?_ (fun _ => ?_)
  ·intro y0 y1 y2 y3 y4 y5 y6 y7 y8
   unfold spec_DoAct.j2
   repeat' first
   | (with_reducible exact ih0 _ _ _ _ _ _)
   | (with_reducible exact ih1 _ _ _ _ _ _ _ _ _)
   | (with_reducible exact ih2 _ _ _ _ _ _ _ _ _)
   | (with_reducible exact spec_DiskOk.mono _ _)
   | (with_reducible exact spec_l03At.mono _ _ _)
   | (with_reducible exact spec_l03Put.mono _ _ _ _ _)
   | (with_reducible exact spec_l03Without.mono _ _ _)
   | (with_reducible exact LeO.refl _)
   | (with_reducible exact LeO.none _)
   | (with_reducible refine LeO.ite ?_ ?_)
   | (with_reducible refine LeO.bind ?_ (fun _ => ?_))
   | exact ih0 _ _ _ _ _ _
   | exact ih1 _ _ _ _ _ _ _ _ _
   | exact ih2 _ _ _ _ _ _ _ _ _
   | exact spec_DiskOk.mono _ _
   | exact spec_l03At.mono _ _ _
   | exact spec_l03Put.mono _ _ _ _ _
   | exact spec_l03Without.mono _ _ _
   | exact LeO.none _
   | refine LeO.ite ?_ ?_
   | refine LeO.bind ?_ (fun _ => ?_)
theorem spec_DoAct.mono : ∀ a0 a1 a2 a3 a4 k, LeO (spec_DoAct.f k a0 a1 a2 a3 a4) (spec_DoAct.f (k + 1) a0 a1 a2 a3 a4) := by
 intro a0 a1 a2 a3 a4 k
 obtain ⟨ih0, ih1, ih2⟩ := spec_DoAct.mono_l k
 unfold spec_DoAct.f
 repeat' first
  | (with_reducible exact ih0 _ _ _ _ _ _)
  | (with_reducible exact ih1 _ _ _ _ _ _ _ _ _)
  | (with_reducible exact ih2 _ _ _ _ _ _ _ _ _)
  | (with_reducible exact spec_DiskOk.mono _ _)
  | (with_reducible exact spec_l03At.mono _ _ _)
  | (with_reducible exact spec_l03Put.mono _ _ _ _ _)
  | (with_reducible exact spec_l03Without.mono _ _ _)
  | (with_reducible exact LeO.refl _)
  | (with_reducible exact LeO.none _)
  | (with_reducible refine LeO.ite ?_ ?_)
  | (with_reducible refine LeO.bind ?_ (fun _ => ?_))
  | exact ih0 _ _ _ _ _ _
  | exact ih1 _ _ _ _ _ _ _ _ _
  | exact ih2 _ _ _ _ _ _ _ _ _
  | exact spec_DiskOk.mono _ _
  | exact spec_l03At.mono _ _ _
  | exact spec_l03Put.mono _ _ _ _ _
  | exact spec_l03Without.mono _ _ _
  | exact LeO.none _
  | refine LeO.ite ?_ ?_
  | refine LeO.bind ?_ (fun _ => ?_)
set_option maxHeartbeats 8000000 in
set_option maxRecDepth 100000 in
theorem spec_DoAct.calls (k : Nat) (A0_0 : Option Addr) (c0_0 : Nat) (l0_0 : List (S45)) (a1_0 : Int) (a1_1 : ByteArray) (a1_2 : ByteArray) (a1_3 : ByteArray) (r1 : List (S45)) (r2 : Bool) (w : World) (hr0_0 : Kd.C k45 w A0_0 l0_0.length l0_0) (hc0_0 : l0_0.length ≤ c0_0) (h : spec_DoAct.f k l0_0 a1_0 a1_1 a1_2 a1_3 = some (r1, r2)) :
 Calls Try.prog 38 #[.agg #[.slice A0_0 l0_0.length c0_0], .agg #[.int .i64 a1_0, .string a1_1, .string a1_2, .string a1_3]] w fun e w' => ∃ v0_ : Value, e = .returned (.tuple #[.agg #[v0_], .bool r2]) ∧ Kd.R k45 45 w' w.heap.size (fun _ => True) v0_ r1 ∧ Below w.heap.size w w' := by
 have hu30 := Try.underlying30
 have hu55 := Try.underlying55
 have hu45 := Try.underlying45
 have HR0_0 := aM hr0_0
 have HC0_0 := aM hc0_0
 clear hr0_0 hc0_0
 have HB := aM (Below.refl w.heap.size w)
 have H : ((spec_DiskOk.f k l0_0).bind fun t253 => (if t253 = true then ((spec_l03Name.f a1_1).bind fun t254 => (if t254 = true then (if a1_0 = 3 then (if a1_0 = 1 then (spec_DoAct.j0 k false l0_0 a1_0 a1_1 a1_2 a1_3) else (spec_DoAct.j0 k (a1_2.toList != ([] : List UInt8)) l0_0 a1_0 a1_1 a1_2 a1_3)) else (if a1_3.toList = ([] : List UInt8) then (if a1_0 = 1 then (spec_DoAct.j0 k false l0_0 a1_0 a1_1 a1_2 a1_3) else (spec_DoAct.j0 k (a1_2.toList != ([] : List UInt8)) l0_0 a1_0 a1_1 a1_2 a1_3)) else (spec_DoAct.j0 k true l0_0 a1_0 a1_1 a1_2 a1_3))) else (spec_DoAct.j0 k true l0_0 a1_0 a1_1 a1_2 a1_3))) else (spec_DoAct.j0 k true l0_0 a1_0 a1_1 a1_2 a1_3))) = some (r1, r2) := h
 clear h
 have HC3 := aM H
 clear H
 go_enter Try.func38, Try.ntmps38
 go_upto_region 1 with (first | ((with_reducible refine gate_dst (N := 2) rfl ?_); refine bxE 2 #[.slice A0_0 l0_0.length c0_0] 30 ?_; intro gb250 hg w4 hbox hb; have BK250 := aM (hbox); have GW250 := szG hg (uL HB); have GE250 := szG hg (uL HB); replace HB := aM (below_step (uL HB) hb); clear hb hbox hg) | ((with_reducible refine gate_dst (N := 3) rfl ?_); refine bxE 3 #[.int .i64 a1_0, .string a1_1, .string a1_2, .string a1_3] 55 ?_; intro gb251 hg w5 hbox hb; have BK251 := aM (hbox); have GW251 := szG hg (uL HB); have GE251 := szG hg (uL HB); have NB250_251 := neL hg BK250; have NB251_250 := neG hg BK250; replace BK250 := blkB BK250 hb; replace HB := aM (below_step (uL HB) hb); clear hb hbox hg) | ((with_reducible refine gate_dst (N := 4) rfl ?_); refine bxE 4 #[.slice none 0 0] 30 ?_; intro gb252 hg w6 hbox hb; have BK252 := aM (hbox); have GW252 := szG hg (uL HB); have GE252 := szG hg (uL HB); have NB250_252 := neL hg BK250; have NB252_250 := neG hg BK250; have NB251_252 := neL hg BK251; have NB252_251 := neG hg BK251; replace BK250 := blkB BK250 hb; replace BK251 := blkB BK251 hb; replace HB := aM (below_step (uL HB) hb); clear hb hbox hg))
 (try simp only [Act.put, List.setIfInBounds_toArray, List.set_cons_zero, List.set_cons_succ])
 go_cut [37] (fun v37 wc => ∃ (kq : Nat) (x37_2 : Bool), v37 = .bool x37_2 ∧ Aside0 (spec_DoAct.j0 kq x37_2 l0_0 a1_0 a1_1 a1_2 a1_3 = some (r1, r2)) ∧ Aside0 (kq ≤ k) ∧ Aside0 (wc.heap[gb250]? = some (.cells #[(.slice A0_0 l0_0.length c0_0)] 30 (0, 0))) ∧ Aside0 (wc.heap[gb251]? = some (.cells #[.int .i64 a1_0, .string a1_1, .string a1_2, .string a1_3] 55 (0, 0))) ∧ Aside0 (wc.heap[gb252]? = some (.cells #[(.slice none 0 0)] 30 (0, 0))) ∧ Aside0 (Below w.heap.size w wc))
 case first =>
  have H := HC3.out
  clear HC3
  replace H := Option.bind_eq_some_iff.mp H
  obtain ⟨t253, A70, H⟩ := H
  try dsimp only at H
  have A7 := aM A70
  clear A70
  refine Classical.byCases (p := t253 = true) (fun c8 => ?L1p) (fun c8 => ?L1n)
  case' L1p =>
   subst c8
   rw [if_pos rfl] at H
   replace H := Option.bind_eq_some_iff.mp H
   obtain ⟨t254, A90, H⟩ := H
   try dsimp only at H
   have A9 := aM A90
   clear A90
   refine Classical.byCases (p := t254 = true) (fun c10 => ?L2p) (fun c10 => ?L2n)
   case' L2p =>
    subst c10
    rw [if_pos rfl] at H
    refine Classical.byCases (p := a1_0 = 3) (fun c11 => ?L3p) (fun c11 => ?L3n)
    case' L3p =>
     rw [if_pos c11] at H
     have c11b0 : (a1_0 == 3) = true := beq_iff_eq.mpr c11
     have c11b1 : (a1_0 != 3) = false := bne_eq_false_iff_eq.mpr c11
     clear c11
     (first | rw [c11b0] | (simp only [i64_w, i32_w]; rw [c11b0]) | skip)
     refine Classical.byCases (p := a1_0 = 1) (fun c12 => ?L4p) (fun c12 => ?L4n)
     case' L4p =>
      rw [if_pos c12] at H
      have c12b0 : (a1_0 == 1) = true := beq_iff_eq.mpr c12
      have c12b1 : (a1_0 != 1) = false := bne_eq_false_iff_eq.mpr c12
      clear c12
      have H' := aM H
      clear H
      have hnb13 := NB250_251.out; have hnc13 := NB251_250.out; have hnb14 := NB250_252.out; have hnc14 := NB252_250.out
      have hcz15_0 := czA BK250.out 0 (.slice A0_0 l0_0.length c0_0)
      have hfz15_0 := blk_frozen BK250.out 0
     case' L4n =>
      rw [if_neg c12] at H
      have c12b0 : (a1_0 == 1) = false := beq_eq_false_iff_ne.mpr c12
      have c12b1 : (a1_0 != 1) = true := bne_iff_ne.mpr c12
      have H' := aM H
      clear H
      have hnb19 := NB250_251.out; have hnc19 := NB251_250.out; have hnb20 := NB250_252.out; have hnc20 := NB252_250.out
      have hcz21_0 := czA BK250.out 0 (.slice A0_0 l0_0.length c0_0)
      have hfz21_0 := blk_frozen BK250.out 0
    case' L3n =>
     rw [if_neg c11] at H
     have c11b0 : (a1_0 == 3) = false := beq_eq_false_iff_ne.mpr c11
     have c11b1 : (a1_0 != 3) = true := bne_iff_ne.mpr c11
     (first | rw [c11b0] | (simp only [i64_w, i32_w]; rw [c11b0]) | skip)
     refine Classical.byCases (p := a1_3.toList = ([] : List UInt8)) (fun c25 => ?L5p) (fun c25 => ?L5n)
     case' L5p =>
      rw [if_pos c25] at H
      have c25b0 : (a1_3.toList == ([] : List UInt8)) = true := beq_iff_eq.mpr c25
      have c25b1 : (a1_3.toList != ([] : List UInt8)) = false := bne_eq_false_iff_eq.mpr c25
      clear c25
      refine Classical.byCases (p := a1_0 = 1) (fun c26 => ?L6p) (fun c26 => ?L6n)
      case' L6p =>
       rw [if_pos c26] at H
       have c26b0 : (a1_0 == 1) = true := beq_iff_eq.mpr c26
       have c26b1 : (a1_0 != 1) = false := bne_eq_false_iff_eq.mpr c26
       clear c26
       have H' := aM H
       clear H
       have hnb27 := NB250_251.out; have hnc27 := NB251_250.out; have hnb28 := NB250_252.out; have hnc28 := NB252_250.out
       have hcz29_0 := czA BK250.out 0 (.slice A0_0 l0_0.length c0_0)
       have hfz29_0 := blk_frozen BK250.out 0
      case' L6n =>
       rw [if_neg c26] at H
       have c26b0 : (a1_0 == 1) = false := beq_eq_false_iff_ne.mpr c26
       have c26b1 : (a1_0 != 1) = true := bne_iff_ne.mpr c26
       have H' := aM H
       clear H
       have hnb33 := NB250_251.out; have hnc33 := NB251_250.out; have hnb34 := NB250_252.out; have hnc34 := NB252_250.out
       have hcz35_0 := czA BK250.out 0 (.slice A0_0 l0_0.length c0_0)
       have hfz35_0 := blk_frozen BK250.out 0
     case' L5n =>
      rw [if_neg c25] at H
      have c25b0 : (a1_3.toList == ([] : List UInt8)) = false := beq_eq_false_iff_ne.mpr c25
      have c25b1 : (a1_3.toList != ([] : List UInt8)) = true := bne_iff_ne.mpr c25
      have H' := aM H
      clear H
      have hnb39 := NB250_251.out; have hnc39 := NB251_250.out; have hnb40 := NB250_252.out; have hnc40 := NB252_250.out
      have hcz41_0 := czA BK250.out 0 (.slice A0_0 l0_0.length c0_0)
      have hfz41_0 := blk_frozen BK250.out 0
   case' L2n =>
    replace c10 := Bool.eq_false_iff.mpr c10
    subst c10
    have H1 : (spec_DoAct.j0 k true l0_0 a1_0 a1_1 a1_2 a1_3) = some (r1, r2) := by rw [if_neg (show ¬ (false = true) by decide)] at H; exact H
    clear H; have H := H1; clear H1
    have H' := aM H
    clear H
    have hnb45 := NB250_251.out; have hnc45 := NB251_250.out; have hnb46 := NB250_252.out; have hnc46 := NB252_250.out
    have hcz47_0 := czA BK250.out 0 (.slice A0_0 l0_0.length c0_0)
    have hfz47_0 := blk_frozen BK250.out 0
  case' L1n =>
   replace c8 := Bool.eq_false_iff.mpr c8
   subst c8
   have H1 : (spec_DoAct.j0 k true l0_0 a1_0 a1_1 a1_2 a1_3) = some (r1, r2) := by rw [if_neg (show ¬ (false = true) by decide)] at H; exact H
   clear H; have H := H1; clear H1
   have H' := aM H
   clear H
   have hnb51 := NB250_251.out; have hnc51 := NB251_250.out; have hnb52 := NB250_252.out; have hnc52 := NB252_250.out
   have hcz53_0 := czA BK250.out 0 (.slice A0_0 l0_0.length c0_0)
   have hfz53_0 := blk_frozen BK250.out 0
   go_wp2_with (first | ((with_reducible refine gate_callee (f := 20) rfl ?_); refine gL (some 10) Try.func20 #[.agg #[.slice A0_0 l0_0.length c0_0]] ?_; (with_reducible refine (spec_DiskOk.calls k _ _ l0_0 false _ ?side1 ?side2 A7.out).mono ?_); (case side1 => exact uC HR0_0 HB); (case side2 => exact HC0_0.out); rintro e w54 ⟨rfl, hb⟩; refine ⟨_, rfl, ?_⟩; replace BK250 := blkB BK250 hb; replace BK251 := blkB BK251 hb; replace BK252 := blkB BK252 hb; replace HB := aM (below_step (uL HB) hb); try clear hb))
   go_meet
   case rel => exact ⟨_, (true), (by first | rfl | (simp; done) | (simp [*]; done)), H', ⟨by first | omega | exact Nat.le_refl _⟩, ⟨by exact nB BK250.out⟩, ⟨by exact nB BK251.out⟩, ⟨by exact nB BK252.out⟩, ⟨uL HB⟩⟩
  case L4p | L6p | L5n | L2n =>
   go_wp2_with (first | ((with_reducible refine gate_callee (f := 20) rfl ?_); refine gL (some 10) Try.func20 #[.agg #[.slice A0_0 l0_0.length c0_0]] ?_; (with_reducible refine (spec_DiskOk.calls k _ _ l0_0 true _ ?side1 ?side2 A7.out).mono ?_); (case side1 => exact uC HR0_0 HB); (case side2 => exact HC0_0.out); rintro e w16 ⟨rfl, hb⟩; refine ⟨_, rfl, ?_⟩; replace BK250 := blkB BK250 hb; replace BK251 := blkB BK251 hb; replace BK252 := blkB BK252 hb; replace HB := aM (below_step (uL HB) hb); try clear hb; have hnb17 := NB251_252.out; have hnc17 := NB252_251.out; have hcz18_0 := czA BK251.out 0 (.int .i64 a1_0); have hcz18_1 := czA BK251.out 1 (.string a1_1); have hcz18_2 := czA BK251.out 2 (.string a1_2); have hcz18_3 := czA BK251.out 3 (.string a1_3); have hfz18_0 := blk_frozen BK251.out 0; have hfz18_1 := blk_frozen BK251.out 1; have hfz18_2 := blk_frozen BK251.out 2; have hfz18_3 := blk_frozen BK251.out 3) | (go_at_call 73; (with_reducible refine (spec_l03Name.calls a1_1 _ _ A9.out).mono ?_); rintro e w' ⟨rfl, ⟨nd, rfl⟩⟩))
   go_meet
   case rel => exact ⟨_, (_), (by first | rfl | (simp; done) | (simp [*]; done)), H', ⟨by first | omega | exact Nat.le_refl _⟩, ⟨by exact nB BK250.out⟩, ⟨by exact nB BK251.out⟩, ⟨by exact nB BK252.out⟩, ⟨uL HB⟩⟩
  case L4n | L6n =>
   go_wp2_with (first | ((with_reducible refine gate_callee (f := 20) rfl ?_); refine gL (some 10) Try.func20 #[.agg #[.slice A0_0 l0_0.length c0_0]] ?_; (with_reducible refine (spec_DiskOk.calls k _ _ l0_0 true _ ?side1 ?side2 A7.out).mono ?_); (case side1 => exact uC HR0_0 HB); (case side2 => exact HC0_0.out); rintro e w22 ⟨rfl, hb⟩; refine ⟨_, rfl, ?_⟩; replace BK250 := blkB BK250 hb; replace BK251 := blkB BK251 hb; replace BK252 := blkB BK252 hb; replace HB := aM (below_step (uL HB) hb); try clear hb; have hnb23 := NB251_252.out; have hnc23 := NB252_251.out; have hcz24_0 := czA BK251.out 0 (.int .i64 a1_0); have hcz24_1 := czA BK251.out 1 (.string a1_1); have hcz24_2 := czA BK251.out 2 (.string a1_2); have hcz24_3 := czA BK251.out 3 (.string a1_3); have hfz24_0 := blk_frozen BK251.out 0; have hfz24_1 := blk_frozen BK251.out 1; have hfz24_2 := blk_frozen BK251.out 2; have hfz24_3 := blk_frozen BK251.out 3) | (go_at_call 73; (with_reducible refine (spec_l03Name.calls a1_1 true _ A9.out).mono ?_); rintro e w' ⟨rfl, ⟨nd, rfl⟩⟩))
   go_meet
   case rel => exact ⟨_, ((a1_2.toList != ([] : List UInt8))), (by first | rfl | (simp; done) | (simp [*]; done) | (simp; exact emp_ne _)), H', ⟨by first | omega | exact Nat.le_refl _⟩, ⟨by exact nB BK250.out⟩, ⟨by exact nB BK251.out⟩, ⟨by exact nB BK252.out⟩, ⟨uL HB⟩⟩
 case rest =>
  clear HC3
  try clear c1; try clear c2; try clear p2; try clear c3; try clear c4; try clear c5; try clear c8; try clear c10; try clear c11; try clear c11b0; try clear c11b1; try clear c12; try clear c12b0; try clear c12b1; try clear c13; try clear c14; try clear c17; try clear c19; try clear c20; try clear c23; try clear c25; try clear c25b0; try clear c25b1; try clear c26; try clear c26b0; try clear c26b1; try clear c27; try clear c28; try clear c31; try clear c33; try clear c34; try clear c37; try clear c38; try clear c39; try clear c40; try clear c43; try clear c45; try clear c46; try clear c49; try clear c51; try clear c52; try clear hcz15_0; try clear hcz18_0; try clear hcz18_1; try clear hcz18_2; try clear hcz18_3; try clear hcz21_0; try clear hcz24_0; try clear hcz24_1; try clear hcz24_2; try clear hcz24_3; try clear hcz29_0; try clear hcz32_0; try clear hcz32_1; try clear hcz32_2; try clear hcz32_3; try clear hcz35_0; try clear hcz38_0; try clear hcz38_1; try clear hcz38_2; try clear hcz38_3; try clear hcz41_0; try clear hcz44_0; try clear hcz44_1; try clear hcz44_2; try clear hcz44_3; try clear hcz47_0; try clear hcz50_0; try clear hcz50_1; try clear hcz50_2; try clear hcz50_3; try clear hcz53_0; try clear hfz15_0; try clear hfz18_0; try clear hfz18_1; try clear hfz18_2; try clear hfz18_3; try clear hfz21_0; try clear hfz24_0; try clear hfz24_1; try clear hfz24_2; try clear hfz24_3; try clear hfz29_0; try clear hfz32_0; try clear hfz32_1; try clear hfz32_2; try clear hfz32_3; try clear hfz35_0; try clear hfz38_0; try clear hfz38_1; try clear hfz38_2; try clear hfz38_3; try clear hfz41_0; try clear hfz44_0; try clear hfz44_1; try clear hfz44_2; try clear hfz44_3; try clear hfz47_0; try clear hfz50_0; try clear hfz50_1; try clear hfz50_2; try clear hfz50_3; try clear hfz53_0
  obtain ⟨kq, x37_2, rfl, HA, HJ2, BK250, BK251, BK252, HB⟩ := hcut
  cases kq with
  | zero => exact absurd HA.out (by simp [spec_DoAct.j0])
  | succ kj2 =>
   have H := HA.out
   clear HA
   simp only [spec_DoAct.j0] at H
   by_cases c55 : x37_2 = true
   ·subst c55
    have H1 : (some (([] : List (S45)), false)) = some (r1, r2) := by rw [if_pos rfl] at H; exact H
    clear H; have H := H1; clear H1
    simp only [Option.some.injEq, Prod.mk.injEq] at H
    obtain ⟨rfl, rfl⟩ := H
    have hnb56 := NB252_250.out; have hnc56 := NB250_252.out; have hnb57 := NB252_251.out; have hnc57 := NB251_252.out
    have hcz58_0 := czA BK252.out 0 (.slice none 0 0)
    have hfz58_0 := blk_frozen BK252.out 0
    go_wp2
    refine bodyPost_ret (results_ct rfl _ _ gb252 30 #[.slice none 0 0] (0, 0) _ rfl (by refine nB ?_; refine blk_put (cs := #[.slice none 0 0]) ?_ 0 _ rfl; exact nB BK252.out) Try.underlying30 rfl (by kernel_rfl)) rfl ?_
    exact ⟨_, by first | rfl | (simp [errW_none, errW_some] <;> rfl) | (simp [*, errW_none, errW_some] <;> rfl), by first | exact Kd.R_nil _ _ _ _ _ | exact Kd.N_nil _ _ _ _ _ | exact Kd.V_nil _ _ _ _ _ | exact Kd.Q_nil _ _ _ _ _ | exact Kd.S_nil _ _ _ _ _, uL HB⟩
   ·replace c55 := Bool.eq_false_iff.mpr c55
    subst c55
    rw [if_neg (show ¬ (false = true) by decide)] at H
    replace H := Option.bind_eq_some_iff.mp H
    obtain ⟨t255, A590, H⟩ := H
    try dsimp only at H
    have A59 := aM A590
    clear A590
    have HC60 := aM H
    clear H
    have hnb61 := NB250_251.out; have hnc61 := NB251_250.out; have hnb62 := NB250_252.out; have hnc62 := NB252_250.out
    have hcz63_0 := czA BK250.out 0 (.slice A0_0 l0_0.length c0_0)
    have hfz63_0 := blk_frozen BK250.out 0; have hnb64 := NB251_252.out; have hnc64 := NB252_251.out
    have hcz65_0 := czA BK251.out 0 (.int .i64 a1_0)
    have hcz65_1 := czA BK251.out 1 (.string a1_1)
    have hcz65_2 := czA BK251.out 2 (.string a1_2)
    have hcz65_3 := czA BK251.out 3 (.string a1_3)
    have hfz65_0 := blk_frozen BK251.out 0; have hfz65_1 := blk_frozen BK251.out 1; have hfz65_2 := blk_frozen BK251.out 2; have hfz65_3 := blk_frozen BK251.out 3
    go_upto_if 47 with (first | ((with_reducible refine gate_callee (f := 70) rfl ?_); refine gL (some 42) Try.func70 #[.agg #[.slice A0_0 l0_0.length c0_0], .string a1_1] ?_; (with_reducible refine (spec_l03At.calls kj2 _ _ l0_0 a1_1 t255 _ ?side1 ?side2 A59.out).mono ?_); (case side1 => exact uC HR0_0 HB); (case side2 => exact HC0_0.out); rintro e w66 ⟨rfl, hb⟩; refine ⟨_, rfl, ?_⟩; replace BK250 := blkB BK250 hb; replace BK251 := blkB BK251 hb; replace BK252 := blkB BK252 hb; replace HB := aM (below_step (uL HB) hb); try clear hb; have hcz67_0 := czA BK251.out 0 (.int .i64 a1_0); have hcz67_1 := czA BK251.out 1 (.string a1_1); have hcz67_2 := czA BK251.out 2 (.string a1_2); have hcz67_3 := czA BK251.out 3 (.string a1_3); have hfz67_0 := blk_frozen BK251.out 0; have hfz67_1 := blk_frozen BK251.out 1; have hfz67_2 := blk_frozen BK251.out 2; have hfz67_3 := blk_frozen BK251.out 3) | ((with_reducible refine gate_dst (N := 7) rfl ?_); refine bxE 7 #[.string (⟨#[]⟩ : ByteArray), .string (⟨#[]⟩ : ByteArray), .int .i64 0] 45 ?_; intro gb256 hg w68 hbox hb; have BK256 := aM (hbox); have GW256 := szG hg (uL HB); have GE256 := szG hg (uL HB); have NB250_256 := neL hg BK250; have NB256_250 := neG hg BK250; have NB251_256 := neL hg BK251; have NB256_251 := neG hg BK251; have NB252_256 := neL hg BK252; have NB256_252 := neG hg BK252; replace BK250 := blkB BK250 hb; replace BK251 := blkB BK251 hb; replace BK252 := blkB BK252 hb; replace HB := aM (below_step (uL HB) hb); clear hb hbox hg; have hnb69 := NB256_250.out; have hnc69 := NB250_256.out; have hnb70 := NB256_251.out; have hnc70 := NB251_256.out; have hnb71 := NB256_252.out; have hnc71 := NB252_256.out; have hcz72_0 := czA BK256.out 0 (.string (⟨#[]⟩ : ByteArray)); have hcz72_1 := czA BK256.out 1 (.string (⟨#[]⟩ : ByteArray)); have hcz72_2 := czA BK256.out 2 (.int .i64 0); have hfz72_0 := blk_frozen BK256.out 0; have hfz72_1 := blk_frozen BK256.out 1; have hfz72_2 := blk_frozen BK256.out 2))
    (try simp only [Act.put, List.setIfInBounds_toArray, List.set_cons_zero, List.set_cons_succ])
    go_cut [] (fun wc => ∃ (kq : Nat) (x257000_59 : ByteArray) (x257001_59 : ByteArray) (x257002_59 : Int), Aside0 (spec_DoAct.j1 kq t255 l0_0 a1_0 a1_1 a1_2 a1_3 x257000_59 x257001_59 x257002_59 = some (r1, r2)) ∧ Aside0 (kq ≤ kj2) ∧ Aside0 (wc.heap[gb250]? = some (.cells #[(.slice A0_0 l0_0.length c0_0)] 30 (0, 0))) ∧ Aside0 (wc.heap[gb251]? = some (.cells #[.int .i64 a1_0, .string a1_1, .string a1_2, .string a1_3] 55 (0, 0))) ∧ Aside0 (wc.heap[gb252]? = some (.cells #[(.slice none 0 0)] 30 (0, 0))) ∧ Aside0 (wc.heap[gb256]? = some (.cells #[.string x257000_59, .string x257001_59, .int .i64 x257002_59] 45 (0, 0))) ∧ Aside0 (Below w.heap.size w wc))
    case first =>
     have H := HC60.out
     clear HC60
     by_cases c73 : t255 ≥ 0
     ·rw [if_pos c73] at H
      have c73b0 : decide (0 ≤ t255) = true := decide_eq_true c73
      clear c73
      (first | rw [c73b0] | (simp only [i64_w, i32_w]; rw [c73b0]) | skip)
      by_cases c74 : 0 ≤ t255
      ·rw [if_pos c74] at H
       have c74b0 : decide (0 ≤ t255) = true := decide_eq_true c74
       clear c74
       by_cases c75 : t255 < (l0_0.length : Int)
       ·rw [if_pos c75] at H
        have c75b0 : decide (t255 < (l0_0.length : Int)) = true := decide_eq_true c75
        clear c75
        have H' := aM H
        clear H
        have hnb76 := NB250_251.out; have hnc76 := NB251_250.out; have hnb77 := NB250_252.out; have hnc77 := NB252_250.out; have hnb78 := NB250_256.out; have hnc78 := NB256_250.out
        have hcz79_0 := czA BK250.out 0 (.slice A0_0 l0_0.length c0_0)
        have hfz79_0 := blk_frozen BK250.out 0
        have p257 : 0 ≤ (t255 : Int) := of_decide_eq_true (by first | (with_reducible assumption) | assumption)
        have q257 : t255 < (l0_0.length : Int) := of_decide_eq_true (by first | (with_reducible assumption) | assumption)
        obtain ⟨ad257, e257, hx257_0, hx257_1, hx257_2⟩ := at_T45 HR0_0.out t255 p257 q257
        cases e257
        have hn257_0 : ad257.block ≠ gb256 := Nat.ne_of_lt (Nat.lt_of_lt_of_le (by have := World.block_lt_of_cell? _ _ hx257_0; first | rwa [add_block] at this | exact this) GW256.out)
        have hn257_1 : ad257.block ≠ gb256 := Nat.ne_of_lt (Nat.lt_of_lt_of_le (by have := World.block_lt_of_cell? _ _ hx257_0; first | rwa [add_block] at this | exact this) GW256.out)
        have hn257_2 : ad257.block ≠ gb256 := Nat.ne_of_lt (Nat.lt_of_lt_of_le (by have := World.block_lt_of_cell? _ _ hx257_0; first | rwa [add_block] at this | exact this) GW256.out)
        replace hx257_0 := hxB HB hx257_0; replace hx257_1 := hxB HB hx257_1; replace hx257_2 := hxB HB hx257_2
        replace hx257_0 := (cell_far (p := ⟨gb256, 0, none⟩) (by first | (rw [add_block]; exact hn257_0) | (show (Addr.add _ _).block ≠ _; rw [add_block]; exact hn257_0) | exact hn257_0) (.string a1_1)).trans hx257_0
        replace hx257_1 := (cell_far (p := ⟨gb256, 0, none⟩) (by first | (rw [add_block]; exact hn257_0) | (show (Addr.add _ _).block ≠ _; rw [add_block]; exact hn257_0) | exact hn257_0) (.string a1_1)).trans hx257_1
        replace hx257_2 := (cell_far (p := ⟨gb256, 0, none⟩) (by first | (rw [add_block]; exact hn257_0) | (show (Addr.add _ _).block ≠ _; rw [add_block]; exact hn257_0) | exact hn257_0) (.string a1_1)).trans hx257_2
        replace hx257_0 := (cell_far (p := ⟨gb256, 1, none⟩) (by first | (rw [add_block]; exact hn257_1) | (show (Addr.add _ _).block ≠ _; rw [add_block]; exact hn257_1) | exact hn257_1) (.string (⟨#[]⟩ : ByteArray))).trans hx257_0
        replace hx257_1 := (cell_far (p := ⟨gb256, 1, none⟩) (by first | (rw [add_block]; exact hn257_1) | (show (Addr.add _ _).block ≠ _; rw [add_block]; exact hn257_1) | exact hn257_1) (.string (⟨#[]⟩ : ByteArray))).trans hx257_1
        replace hx257_2 := (cell_far (p := ⟨gb256, 1, none⟩) (by first | (rw [add_block]; exact hn257_1) | (show (Addr.add _ _).block ≠ _; rw [add_block]; exact hn257_1) | exact hn257_1) (.string (⟨#[]⟩ : ByteArray))).trans hx257_2
        replace hx257_0 := (cell_far (p := ⟨gb256, 2, none⟩) (by first | (rw [add_block]; exact hn257_2) | (show (Addr.add _ _).block ≠ _; rw [add_block]; exact hn257_2) | exact hn257_2) (.int .i64 0)).trans hx257_0
        replace hx257_1 := (cell_far (p := ⟨gb256, 2, none⟩) (by first | (rw [add_block]; exact hn257_2) | (show (Addr.add _ _).block ≠ _; rw [add_block]; exact hn257_2) | exact hn257_2) (.int .i64 0)).trans hx257_1
        replace hx257_2 := (cell_far (p := ⟨gb256, 2, none⟩) (by first | (rw [add_block]; exact hn257_2) | (show (Addr.add _ _).block ≠ _; rw [add_block]; exact hn257_2) | exact hn257_2) (.int .i64 0)).trans hx257_2
        clear hn257_0 hn257_1 hn257_2
        replace p257 := eq_true p257; replace q257 := eq_true q257; have hnb80 := NB256_251.out; have hnc80 := NB251_256.out; have hnb81 := NB256_252.out; have hnc81 := NB252_256.out
        have hcz82_0 := czA BK256.out 0 (.string (⟨#[]⟩ : ByteArray))
        have hcz82_1 := czA BK256.out 1 (.string (⟨#[]⟩ : ByteArray))
        have hcz82_2 := czA BK256.out 2 (.int .i64 0)
        have hfz82_0 := blk_frozen BK256.out 0; have hfz82_1 := blk_frozen BK256.out 1; have hfz82_2 := blk_frozen BK256.out 2
        go_wp2
        go_meet
        case rel => exact ⟨_, ((rd_T45 l0_0 t255).f0), ((rd_T45 l0_0 t255).f1), ((rd_T45 l0_0 t255).f2), H', ⟨by have := HJ2.out; first | omega | exact Nat.le_refl _⟩, ⟨by refine nB ?_; refine blk_far ?_ NB250_256.out _; refine nB ?_; refine blk_far ?_ NB250_256.out _; refine nB ?_; refine blk_far ?_ NB250_256.out _; refine nB ?_; refine blk_far ?_ NB250_256.out _; refine nB ?_; refine blk_far ?_ NB250_256.out _; refine nB ?_; refine blk_far ?_ NB250_256.out _; exact nB BK250.out⟩, ⟨by refine nB ?_; refine blk_far ?_ NB251_256.out _; refine nB ?_; refine blk_far ?_ NB251_256.out _; refine nB ?_; refine blk_far ?_ NB251_256.out _; refine nB ?_; refine blk_far ?_ NB251_256.out _; refine nB ?_; refine blk_far ?_ NB251_256.out _; refine nB ?_; refine blk_far ?_ NB251_256.out _; exact nB BK251.out⟩, ⟨by refine nB ?_; refine blk_far ?_ NB252_256.out _; refine nB ?_; refine blk_far ?_ NB252_256.out _; refine nB ?_; refine blk_far ?_ NB252_256.out _; refine nB ?_; refine blk_far ?_ NB252_256.out _; refine nB ?_; refine blk_far ?_ NB252_256.out _; refine nB ?_; refine blk_far ?_ NB252_256.out _; exact nB BK252.out⟩, ⟨by refine nB ?_; refine blk_put (cs := #[.string ((rd_T45 l0_0 t255).f0), .string ((rd_T45 l0_0 t255).f1), .int .i64 0]) ?_ 2 _ rfl; refine nB ?_; refine blk_put (cs := #[.string ((rd_T45 l0_0 t255).f0), .string (⟨#[]⟩ : ByteArray), .int .i64 0]) ?_ 1 _ rfl; refine nB ?_; refine blk_put (cs := #[.string a1_1, .string (⟨#[]⟩ : ByteArray), .int .i64 0]) ?_ 0 _ rfl; refine nB ?_; refine blk_put (cs := #[.string a1_1, .string (⟨#[]⟩ : ByteArray), .int .i64 0]) ?_ 2 _ rfl; refine nB ?_; refine blk_put (cs := #[.string a1_1, .string (⟨#[]⟩ : ByteArray), .int .i64 0]) ?_ 1 _ rfl; refine nB ?_; refine blk_put (cs := #[.string (⟨#[]⟩ : ByteArray), .string (⟨#[]⟩ : ByteArray), .int .i64 0]) ?_ 0 _ rfl; exact nB BK256.out⟩, ⟨uL HB⟩⟩
       ·rw [if_neg c75] at H
        exact absurd H (by simp)
      ·rw [if_neg c74] at H
       exact absurd H (by simp)
     ·rw [if_neg c73] at H
      have c73b0 : decide (0 ≤ t255) = false := decide_eq_false c73
      clear c73
      (first | rw [c73b0] | (simp only [i64_w, i32_w]; rw [c73b0]) | skip)
      have H' := aM H
      clear H
      go_wp2
      go_meet
      case rel => exact ⟨_, (a1_1), ((⟨#[]⟩ : ByteArray)), (0), H', ⟨by have := HJ2.out; first | omega | exact Nat.le_refl _⟩, ⟨by refine nB ?_; refine blk_far ?_ NB250_256.out _; refine nB ?_; refine blk_far ?_ NB250_256.out _; refine nB ?_; refine blk_far ?_ NB250_256.out _; exact nB BK250.out⟩, ⟨by refine nB ?_; refine blk_far ?_ NB251_256.out _; refine nB ?_; refine blk_far ?_ NB251_256.out _; refine nB ?_; refine blk_far ?_ NB251_256.out _; exact nB BK251.out⟩, ⟨by refine nB ?_; refine blk_far ?_ NB252_256.out _; refine nB ?_; refine blk_far ?_ NB252_256.out _; refine nB ?_; refine blk_far ?_ NB252_256.out _; exact nB BK252.out⟩, ⟨by refine nB ?_; refine blk_put (cs := #[.string a1_1, .string (⟨#[]⟩ : ByteArray), .int .i64 0]) ?_ 2 _ rfl; refine nB ?_; refine blk_put (cs := #[.string a1_1, .string (⟨#[]⟩ : ByteArray), .int .i64 0]) ?_ 1 _ rfl; refine nB ?_; refine blk_put (cs := #[.string (⟨#[]⟩ : ByteArray), .string (⟨#[]⟩ : ByteArray), .int .i64 0]) ?_ 0 _ rfl; exact nB BK256.out⟩, ⟨uL HB⟩⟩
    case rest =>
     clear HC60
     try clear c1; try clear c2; try clear p2; try clear q2; try clear hx2; try clear c3; try clear c4; try clear c5; try clear c6; try clear c7; try clear c8; try clear c10; try clear c11; try clear c11b0; try clear c11b1; try clear c12; try clear c12b0; try clear c12b1; try clear c13; try clear c14; try clear c17; try clear c19; try clear c20; try clear c23; try clear c25; try clear c25b0; try clear c25b1; try clear p25; try clear q25; try clear hx25; try clear c26; try clear c26b0; try clear c26b1; try clear c27; try clear c28; try clear c31; try clear c33; try clear c34; try clear c37; try clear c38; try clear c39; try clear c40; try clear c43; try clear c45; try clear c46; try clear c49; try clear c51; try clear c52; try clear c55; try clear c56; try clear c57; try clear c61; try clear c62; try clear c64; try clear c69; try clear c70; try clear c71; try clear c73; try clear c73b0; try clear c74; try clear c74b0; try clear c75; try clear c75b0; try clear c76; try clear c77; try clear c78; try clear c80; try clear c81; try clear hcz15_0; try clear hcz18_0; try clear hcz18_1; try clear hcz18_2; try clear hcz18_3; try clear hcz21_0; try clear hcz24_0; try clear hcz24_1; try clear hcz24_2; try clear hcz24_3; try clear hcz29_0; try clear hcz32_0; try clear hcz32_1; try clear hcz32_2; try clear hcz32_3; try clear hcz35_0; try clear hcz38_0; try clear hcz38_1; try clear hcz38_2; try clear hcz38_3; try clear hcz41_0; try clear hcz44_0; try clear hcz44_1; try clear hcz44_2; try clear hcz44_3; try clear hcz47_0; try clear hcz50_0; try clear hcz50_1; try clear hcz50_2; try clear hcz50_3; try clear hcz53_0; try clear hcz58_0; try clear hcz63_0; try clear hcz65_0; try clear hcz65_1; try clear hcz65_2; try clear hcz65_3; try clear hcz67_0; try clear hcz67_1; try clear hcz67_2; try clear hcz67_3; try clear hcz72_0; try clear hcz72_1; try clear hcz72_2; try clear hcz79_0; try clear hcz82_0; try clear hcz82_1; try clear hcz82_2; try clear hfz15_0; try clear hfz18_0; try clear hfz18_1; try clear hfz18_2; try clear hfz18_3; try clear hfz21_0; try clear hfz24_0; try clear hfz24_1; try clear hfz24_2; try clear hfz24_3; try clear hfz29_0; try clear hfz32_0; try clear hfz32_1; try clear hfz32_2; try clear hfz32_3; try clear hfz35_0; try clear hfz38_0; try clear hfz38_1; try clear hfz38_2; try clear hfz38_3; try clear hfz41_0; try clear hfz44_0; try clear hfz44_1; try clear hfz44_2; try clear hfz44_3; try clear hfz47_0; try clear hfz50_0; try clear hfz50_1; try clear hfz50_2; try clear hfz50_3; try clear hfz53_0; try clear hfz58_0; try clear hfz63_0; try clear hfz65_0; try clear hfz65_1; try clear hfz65_2; try clear hfz65_3; try clear hfz67_0; try clear hfz67_1; try clear hfz67_2; try clear hfz67_3; try clear hfz72_0; try clear hfz72_1; try clear hfz72_2; try clear hfz79_0; try clear hfz82_0; try clear hfz82_1; try clear hfz82_2; try clear hx257_0; try clear hx257_1; try clear hx257_2; try clear p2; try clear p257; try clear q257
     obtain ⟨kq, x257000_59, x257001_59, x257002_59, HA, HJ59, BK250, BK251, BK252, BK256, HB⟩ := hcut
     cases kq with
     | zero => exact absurd HA.out (by simp [spec_DoAct.j1])
     | succ kj59 =>
      have H := HA.out
      clear HA
      simp only [spec_DoAct.j1] at H
      refine Classical.byCases (p := a1_0 = 1) (fun c83 => ?L7p) (fun c83 => ?L7n)
      case' L7p =>
       rw [if_pos c83] at H
       have c83b0 : (a1_0 == 1) = true := beq_iff_eq.mpr c83
       have c83b1 : (a1_0 != 1) = false := bne_eq_false_iff_eq.mpr c83
       clear c83
       by_cases c84 : x257001_59.size + a1_2.size ≤ 9223372036854775807
       ·rw [if_pos c84] at H
        have c84b0 := eq_true c84
        have c84b1 : decide (x257001_59.size + a1_2.size ≤ 9223372036854775807) = true := decide_eq_true c84
        try have c84b2 : (9223372036854775807 < x257001_59.size + a1_2.size) = False := eq_false (Nat.not_lt.2 c84)
        replace H := Option.bind_eq_some_iff.mp H
        obtain ⟨t259, A850, H⟩ := H
        try dsimp only at H
        have A85 := aM A850
        clear A850
        replace H := Option.bind_eq_some_iff.mp H
        obtain ⟨t262, A860, H⟩ := H
        replace H : (if t262 = true then (some (t259, true)) else (some (([] : List (S45)), false))) = some (r1, r2) := H
        have A86 := aM A860
        clear A860
        by_cases c87 : t262 = true
        ·subst c87
         have H1 : (some (t259, true)) = some (r1, r2) := by rw [if_pos rfl] at H; exact H
         clear H; have H := H1; clear H1
         simp only [Option.some.injEq, Prod.mk.injEq] at H
         obtain ⟨rfl, rfl⟩ := H
         go_wp2_with (first | ((with_reducible refine gate_dst (N := 8) rfl ?_); refine bxE 8 #[.slice none 0 0] 30 ?_; intro gb258 hg w88 hbox hb; have BK258 := aM (hbox); have GW258 := szG hg (uL HB); have GE258 := szG hg (uL HB); have NB250_258 := neL hg BK250; have NB258_250 := neG hg BK250; have NB251_258 := neL hg BK251; have NB258_251 := neG hg BK251; have NB252_258 := neL hg BK252; have NB258_252 := neG hg BK252; have NB256_258 := neL hg BK256; have NB258_256 := neG hg BK256; replace BK250 := blkB BK250 hb; replace BK251 := blkB BK251 hb; replace BK252 := blkB BK252 hb; replace BK256 := blkB BK256 hb; replace HB := aM (below_step (uL HB) hb); clear hb hbox hg; have hnb89 := NB258_250.out; have hnc89 := NB250_258.out; have hnb90 := NB258_251.out; have hnc90 := NB251_258.out; have hnb91 := NB258_252.out; have hnc91 := NB252_258.out; have hnb92 := NB258_256.out; have hnc92 := NB256_258.out; have hcz93_0 := czA BK258.out 0 (.slice none 0 0); have hfz93_0 := blk_frozen BK258.out 0; have hnb94 := NB251_250.out; have hnc94 := NB250_251.out; have hnb95 := NB251_252.out; have hnc95 := NB252_251.out; have hnb96 := NB251_256.out; have hnc96 := NB256_251.out; have hcz97_0 := czA BK251.out 0 (.int .i64 a1_0); have hcz97_1 := czA BK251.out 1 (.string a1_1); have hcz97_2 := czA BK251.out 2 (.string a1_2); have hcz97_3 := czA BK251.out 3 (.string a1_3); have hfz97_0 := blk_frozen BK251.out 0; have hfz97_1 := blk_frozen BK251.out 1; have hfz97_2 := blk_frozen BK251.out 2; have hfz97_3 := blk_frozen BK251.out 3; have hnb98 := NB256_250.out; have hnc98 := NB250_256.out; have hnb99 := NB256_252.out; have hnc99 := NB252_256.out; have hcz100_0 := czA BK256.out 0 (.string x257000_59); have hcz100_1 := czA BK256.out 1 (.string x257001_59); have hcz100_2 := czA BK256.out 2 (.int .i64 x257002_59); have hfz100_0 := blk_frozen BK256.out 0; have hfz100_1 := blk_frozen BK256.out 1; have hfz100_2 := blk_frozen BK256.out 2; have hnb101 := NB250_252.out; have hnc101 := NB252_250.out; have hcz102_0 := czA BK250.out 0 (.slice A0_0 l0_0.length c0_0); have hfz102_0 := blk_frozen BK250.out 0) | ((with_reducible refine gate_callee (f := 79) rfl ?_); refine gL (some 67) Try.func79 #[.agg #[.slice A0_0 l0_0.length c0_0], .agg #[.string x257000_59, .string (x257001_59 ++ a1_2), .int .i64 x257002_59]] ?_; (with_reducible refine (spec_l03Put.calls kj59 _ _ l0_0 x257000_59 (x257001_59 ++ a1_2) x257002_59 t259 _ ?side1 ?side2 A85.out).mono ?_); (case side1 => exact Kd.C_below HR0_0.out (uL HB)); (case side2 => exact HC0_0.out); rintro e w103 ⟨v260, rfl, ho0, hb⟩; refine ⟨_, rfl, ?_⟩; have HO261 := aM (Kd.R_lower (Kd.R_newB ho0 (g := gb256) (o := .cells #[.string x257000_59, .string (x257001_59 ++ a1_2), .int .i64 x257002_59] 45 (0, 0)) (by refine nB ?_; refine blk_put (cs := #[.string x257000_59, .string x257001_59, .int .i64 x257002_59]) ?_ 1 _ rfl; refine nB ?_; refine blk_far ?_ NB256_258.out _; exact nB BK256.out)) (below_size (uL HB))); replace BK250 := blkB BK250 hb; replace BK251 := blkB BK251 hb; replace BK252 := blkB BK252 hb; replace BK256 := aM (blk_below (g := gb256) (o := .cells #[.string x257000_59, .string (x257001_59 ++ a1_2), .int .i64 x257002_59] 45 (0, 0)) (by refine nB ?_; refine blk_put (cs := #[.string x257000_59, .string x257001_59, .int .i64 x257002_59]) ?_ 1 _ rfl; refine nB ?_; refine blk_far ?_ NB256_258.out _; exact nB BK256.out) hb); replace BK258 := aM (blk_below (g := gb258) (o := .cells #[.slice none 0 0] 30 (0, 0)) (by refine nB ?_; refine blk_far ?_ NB258_256.out _; refine nB ?_; refine blk_put (cs := #[.slice none 0 0]) ?_ 0 _ rfl; exact nB BK258.out) hb); replace HB := aM (below_step (uL HB) hb); try clear hb ho0; obtain ⟨Ao104, co104, eo104⟩ := Kd.R_slice HO261.out; subst eo104; have hcz105_0 := czA BK258.out 0 (.slice none 0 0); have hfz105_0 := blk_frozen BK258.out 0) | ((with_reducible refine gate_callee (f := 20) rfl ?_); refine gL (some 125) Try.func20 #[.agg #[.slice Ao104 t259.length co104]] ?_; (with_reducible refine (spec_DiskOk.calls kj59 _ _ t259 true _ ?side1 ?side2 A86.out).mono ?_); (case side1 => refine (Kd.R_reads' (e := 45) (base := w.heap.size) (ok := fun k_ => (True ∧ k_ ≠ gb256)) (n := t259.length) (c := co104) ?_).2.2; exact (by (with_reducible repeat first | apply rA | apply rN | apply rD); exact (Kd.R_mono (Kd.R_far (p := ⟨gb258, 0, none⟩) (Kd.R_types HO261.out BK258.out (by decide)) (fun _ hk => hk.2) (.slice Ao104 t259.length co104)) (fun _ h_ => h_.1)))); (case side2 => exact (Kd.R_reads' HO261.out).2.1); rintro e w106 ⟨rfl, hb⟩; refine ⟨_, rfl, ?_⟩; replace HO261 := aM (Kd.R_below (by (with_reducible repeat first | apply rA | apply rN | apply rD); exact (Kd.R_mono (Kd.R_far (p := ⟨gb258, 0, none⟩) (Kd.R_types HO261.out BK258.out (by decide)) (fun _ hk => hk.2) (.slice Ao104 t259.length co104)) (fun _ h_ => h_.1))) hb); replace BK250 := blkB BK250 hb; replace BK251 := blkB BK251 hb; replace BK252 := blkB BK252 hb; replace BK256 := blkB BK256 hb; replace BK258 := aM (blk_below (g := gb258) (o := .cells #[.slice Ao104 t259.length co104] 30 (0, 0)) (by refine nB ?_; refine blk_put (cs := #[.slice none 0 0]) ?_ 0 _ rfl; exact nB BK258.out) hb); replace HB := aM (below_step (uL HB) hb); try clear hb; have hcz107_0 := czA BK258.out 0 (.slice Ao104 t259.length co104); have hfz107_0 := blk_frozen BK258.out 0; have hcz108_0 := czA BK252.out 0 (.slice none 0 0); have hfz108_0 := blk_frozen BK252.out 0))
         refine bodyPost_ret (results_ct rfl _ _ gb252 30 #[.slice Ao104 t259.length co104] (0, 0) _ rfl (by refine nB ?_; refine blk_put (cs := #[.slice none 0 0]) ?_ 0 _ rfl; exact nB BK252.out) Try.underlying30 rfl (by kernel_rfl)) rfl ?_
         exact ⟨_, by first | rfl | (simp [errW_none, errW_some] <;> rfl) | (simp [*, errW_none, errW_some] <;> rfl), by (with_reducible repeat first | apply rA | apply rN | apply rD); exact Kd.R_mono (Kd.R_far (p := ⟨gb252, 0, none⟩) (Kd.R_types HO261.out BK252.out (by decide)) (fun _ hk => hk.2) (.slice Ao104 t259.length co104)) (fun _ hk => trivial), uL HB⟩
        ·replace c87 := Bool.eq_false_iff.mpr c87
         subst c87
         have H1 : (some (([] : List (S45)), false)) = some (r1, r2) := by rw [if_neg (show ¬ (false = true) by decide)] at H; exact H
         clear H; have H := H1; clear H1
         simp only [Option.some.injEq, Prod.mk.injEq] at H
         obtain ⟨rfl, rfl⟩ := H
         go_wp2_with (first | ((with_reducible refine gate_dst (N := 8) rfl ?_); refine bxE 8 #[.slice none 0 0] 30 ?_; intro gb258 hg w109 hbox hb; have BK258 := aM (hbox); have GW258 := szG hg (uL HB); have GE258 := szG hg (uL HB); have NB250_258 := neL hg BK250; have NB258_250 := neG hg BK250; have NB251_258 := neL hg BK251; have NB258_251 := neG hg BK251; have NB252_258 := neL hg BK252; have NB258_252 := neG hg BK252; have NB256_258 := neL hg BK256; have NB258_256 := neG hg BK256; replace BK250 := blkB BK250 hb; replace BK251 := blkB BK251 hb; replace BK252 := blkB BK252 hb; replace BK256 := blkB BK256 hb; replace HB := aM (below_step (uL HB) hb); clear hb hbox hg; have hnb110 := NB258_250.out; have hnc110 := NB250_258.out; have hnb111 := NB258_251.out; have hnc111 := NB251_258.out; have hnb112 := NB258_252.out; have hnc112 := NB252_258.out; have hnb113 := NB258_256.out; have hnc113 := NB256_258.out; have hcz114_0 := czA BK258.out 0 (.slice none 0 0); have hfz114_0 := blk_frozen BK258.out 0; have hnb115 := NB251_250.out; have hnc115 := NB250_251.out; have hnb116 := NB251_252.out; have hnc116 := NB252_251.out; have hnb117 := NB251_256.out; have hnc117 := NB256_251.out; have hcz118_0 := czA BK251.out 0 (.int .i64 a1_0); have hcz118_1 := czA BK251.out 1 (.string a1_1); have hcz118_2 := czA BK251.out 2 (.string a1_2); have hcz118_3 := czA BK251.out 3 (.string a1_3); have hfz118_0 := blk_frozen BK251.out 0; have hfz118_1 := blk_frozen BK251.out 1; have hfz118_2 := blk_frozen BK251.out 2; have hfz118_3 := blk_frozen BK251.out 3; have hnb119 := NB256_250.out; have hnc119 := NB250_256.out; have hnb120 := NB256_252.out; have hnc120 := NB252_256.out; have hcz121_0 := czA BK256.out 0 (.string x257000_59); have hcz121_1 := czA BK256.out 1 (.string x257001_59); have hcz121_2 := czA BK256.out 2 (.int .i64 x257002_59); have hfz121_0 := blk_frozen BK256.out 0; have hfz121_1 := blk_frozen BK256.out 1; have hfz121_2 := blk_frozen BK256.out 2; have hnb122 := NB250_252.out; have hnc122 := NB252_250.out; have hcz123_0 := czA BK250.out 0 (.slice A0_0 l0_0.length c0_0); have hfz123_0 := blk_frozen BK250.out 0) | ((with_reducible refine gate_callee (f := 79) rfl ?_); refine gL (some 67) Try.func79 #[.agg #[.slice A0_0 l0_0.length c0_0], .agg #[.string x257000_59, .string (x257001_59 ++ a1_2), .int .i64 x257002_59]] ?_; (with_reducible refine (spec_l03Put.calls kj59 _ _ l0_0 x257000_59 (x257001_59 ++ a1_2) x257002_59 t259 _ ?side1 ?side2 A85.out).mono ?_); (case side1 => exact Kd.C_below HR0_0.out (uL HB)); (case side2 => exact HC0_0.out); rintro e w124 ⟨v260, rfl, ho0, hb⟩; refine ⟨_, rfl, ?_⟩; have HO261 := aM (Kd.R_lower (Kd.R_newB ho0 (g := gb256) (o := .cells #[.string x257000_59, .string (x257001_59 ++ a1_2), .int .i64 x257002_59] 45 (0, 0)) (by refine nB ?_; refine blk_put (cs := #[.string x257000_59, .string x257001_59, .int .i64 x257002_59]) ?_ 1 _ rfl; refine nB ?_; refine blk_far ?_ NB256_258.out _; exact nB BK256.out)) (below_size (uL HB))); replace BK250 := blkB BK250 hb; replace BK251 := blkB BK251 hb; replace BK252 := blkB BK252 hb; replace BK256 := aM (blk_below (g := gb256) (o := .cells #[.string x257000_59, .string (x257001_59 ++ a1_2), .int .i64 x257002_59] 45 (0, 0)) (by refine nB ?_; refine blk_put (cs := #[.string x257000_59, .string x257001_59, .int .i64 x257002_59]) ?_ 1 _ rfl; refine nB ?_; refine blk_far ?_ NB256_258.out _; exact nB BK256.out) hb); replace BK258 := aM (blk_below (g := gb258) (o := .cells #[.slice none 0 0] 30 (0, 0)) (by refine nB ?_; refine blk_far ?_ NB258_256.out _; refine nB ?_; refine blk_put (cs := #[.slice none 0 0]) ?_ 0 _ rfl; exact nB BK258.out) hb); replace HB := aM (below_step (uL HB) hb); try clear hb ho0; obtain ⟨Ao125, co125, eo125⟩ := Kd.R_slice HO261.out; subst eo125; have hcz126_0 := czA BK258.out 0 (.slice none 0 0); have hfz126_0 := blk_frozen BK258.out 0) | ((with_reducible refine gate_callee (f := 20) rfl ?_); refine gL (some 125) Try.func20 #[.agg #[.slice Ao125 t259.length co125]] ?_; (with_reducible refine (spec_DiskOk.calls kj59 _ _ t259 false _ ?side1 ?side2 A86.out).mono ?_); (case side1 => refine (Kd.R_reads' (e := 45) (base := w.heap.size) (ok := fun k_ => (True ∧ k_ ≠ gb256)) (n := t259.length) (c := co125) ?_).2.2; exact (by (with_reducible repeat first | apply rA | apply rN | apply rD); exact (Kd.R_mono (Kd.R_far (p := ⟨gb258, 0, none⟩) (Kd.R_types HO261.out BK258.out (by decide)) (fun _ hk => hk.2) (.slice Ao125 t259.length co125)) (fun _ h_ => h_.1)))); (case side2 => exact (Kd.R_reads' HO261.out).2.1); rintro e w127 ⟨rfl, hb⟩; refine ⟨_, rfl, ?_⟩; replace HO261 := aM (Kd.R_below (by (with_reducible repeat first | apply rA | apply rN | apply rD); exact (Kd.R_mono (Kd.R_far (p := ⟨gb258, 0, none⟩) (Kd.R_types HO261.out BK258.out (by decide)) (fun _ hk => hk.2) (.slice Ao125 t259.length co125)) (fun _ h_ => h_.1))) hb); replace BK250 := blkB BK250 hb; replace BK251 := blkB BK251 hb; replace BK252 := blkB BK252 hb; replace BK256 := blkB BK256 hb; replace BK258 := aM (blk_below (g := gb258) (o := .cells #[.slice Ao125 t259.length co125] 30 (0, 0)) (by refine nB ?_; refine blk_put (cs := #[.slice none 0 0]) ?_ 0 _ rfl; exact nB BK258.out) hb); replace HB := aM (below_step (uL HB) hb); try clear hb; have hcz128_0 := czA BK252.out 0 (.slice none 0 0); have hfz128_0 := blk_frozen BK252.out 0))
         refine bodyPost_ret (results_ct rfl _ _ gb252 30 #[.slice none 0 0] (0, 0) _ rfl (by refine nB ?_; refine blk_put (cs := #[.slice none 0 0]) ?_ 0 _ rfl; exact nB BK252.out) Try.underlying30 rfl (by kernel_rfl)) rfl ?_
         exact ⟨_, by first | rfl | (simp [errW_none, errW_some] <;> rfl) | (simp [*, errW_none, errW_some] <;> rfl), by first | exact Kd.R_nil _ _ _ _ _ | exact Kd.N_nil _ _ _ _ _ | exact Kd.V_nil _ _ _ _ _ | exact Kd.Q_nil _ _ _ _ _ | exact Kd.S_nil _ _ _ _ _, uL HB⟩
       ·rw [if_neg c84] at H
        exact absurd H (by simp)
      case' L7n =>
       rw [if_neg c83] at H
       have c83b0 : (a1_0 == 1) = false := beq_eq_false_iff_ne.mpr c83
       have c83b1 : (a1_0 != 1) = true := bne_iff_ne.mpr c83
       refine Classical.byCases (p := t255 < 0) (fun c129 => ?L8p) (fun c129 => ?L8n)
       case' L8p =>
        rw [if_pos c129] at H
        have c129b0 : decide (t255 < 0) = true := decide_eq_true c129
        clear c129
        simp only [Option.some.injEq, Prod.mk.injEq] at H
        obtain ⟨rfl, rfl⟩ := H
       case' L8n =>
        rw [if_neg c129] at H
        have c129b0 : decide (t255 < 0) = false := decide_eq_false c129
        clear c129
        refine Classical.byCases (p := a1_0 = 2) (fun c143 => ?L9p) (fun c143 => ?L9n)
        case' L9p =>
         rw [if_pos c143] at H
         have c143b0 : (a1_0 == 2) = true := beq_iff_eq.mpr c143
         have c143b1 : (a1_0 != 2) = false := bne_eq_false_iff_eq.mpr c143
         clear c143
         replace H := Option.bind_eq_some_iff.mp H
         obtain ⟨t263, A1440, H⟩ := H
         try dsimp only at H
         have A144 := aM A1440
         clear A1440
         replace H := Option.bind_eq_some_iff.mp H
         obtain ⟨t266, A1450, H⟩ := H
         replace H : (if t266 = true then (some (t263, true)) else (some (([] : List (S45)), false))) = some (r1, r2) := H
         have A145 := aM A1450
         clear A1450
         by_cases c146 : t266 = true
         ·subst c146
          have H1 : (some (t263, true)) = some (r1, r2) := by rw [if_pos rfl] at H; exact H
          clear H; have H := H1; clear H1
          simp only [Option.some.injEq, Prod.mk.injEq] at H
          obtain ⟨rfl, rfl⟩ := H
          go_wp2_with (first | ((with_reducible refine gate_dst (N := 8) rfl ?_); refine bxE 8 #[.slice none 0 0] 30 ?_; intro gb258 hg w147 hbox hb; have BK258 := aM (hbox); have GW258 := szG hg (uL HB); have GE258 := szG hg (uL HB); have NB250_258 := neL hg BK250; have NB258_250 := neG hg BK250; have NB251_258 := neL hg BK251; have NB258_251 := neG hg BK251; have NB252_258 := neL hg BK252; have NB258_252 := neG hg BK252; have NB256_258 := neL hg BK256; have NB258_256 := neG hg BK256; replace BK250 := blkB BK250 hb; replace BK251 := blkB BK251 hb; replace BK252 := blkB BK252 hb; replace BK256 := blkB BK256 hb; replace HB := aM (below_step (uL HB) hb); clear hb hbox hg; have hnb148 := NB258_250.out; have hnc148 := NB250_258.out; have hnb149 := NB258_251.out; have hnc149 := NB251_258.out; have hnb150 := NB258_252.out; have hnc150 := NB252_258.out; have hnb151 := NB258_256.out; have hnc151 := NB256_258.out; have hcz152_0 := czA BK258.out 0 (.slice none 0 0); have hfz152_0 := blk_frozen BK258.out 0; have hnb153 := NB251_250.out; have hnc153 := NB250_251.out; have hnb154 := NB251_252.out; have hnc154 := NB252_251.out; have hnb155 := NB251_256.out; have hnc155 := NB256_251.out; have hcz156_0 := czA BK251.out 0 (.int .i64 a1_0); have hcz156_1 := czA BK251.out 1 (.string a1_1); have hcz156_2 := czA BK251.out 2 (.string a1_2); have hcz156_3 := czA BK251.out 3 (.string a1_3); have hfz156_0 := blk_frozen BK251.out 0; have hfz156_1 := blk_frozen BK251.out 1; have hfz156_2 := blk_frozen BK251.out 2; have hfz156_3 := blk_frozen BK251.out 3; have hnb157 := NB256_250.out; have hnc157 := NB250_256.out; have hnb158 := NB256_252.out; have hnc158 := NB252_256.out; have hcz159_0 := czA BK256.out 0 (.string x257000_59); have hcz159_1 := czA BK256.out 1 (.string x257001_59); have hcz159_2 := czA BK256.out 2 (.int .i64 x257002_59); have hfz159_0 := blk_frozen BK256.out 0; have hfz159_1 := blk_frozen BK256.out 1; have hfz159_2 := blk_frozen BK256.out 2; have hnb160 := NB250_252.out; have hnc160 := NB252_250.out; have hcz161_0 := czA BK250.out 0 (.slice A0_0 l0_0.length c0_0); have hfz161_0 := blk_frozen BK250.out 0) | ((with_reducible refine gate_callee (f := 79) rfl ?_); refine gL (some 82) Try.func79 #[.agg #[.slice A0_0 l0_0.length c0_0], .agg #[.string x257000_59, .string x257001_59, .int .i64 (x257001_59.size : Int)]] ?_; (with_reducible refine (spec_l03Put.calls kj59 _ _ l0_0 x257000_59 x257001_59 (x257001_59.size : Int) t263 _ ?side1 ?side2 A144.out).mono ?_); (case side1 => exact Kd.C_below HR0_0.out (uL HB)); (case side2 => exact HC0_0.out); rintro e w162 ⟨v264, rfl, ho0, hb⟩; refine ⟨_, rfl, ?_⟩; have HO265 := aM (Kd.R_lower (Kd.R_newB ho0 (g := gb256) (o := .cells #[.string x257000_59, .string x257001_59, .int .i64 (x257001_59.size : Int)] 45 (0, 0)) (by refine nB ?_; refine blk_put (cs := #[.string x257000_59, .string x257001_59, .int .i64 x257002_59]) ?_ 2 _ rfl; refine nB ?_; refine blk_far ?_ NB256_258.out _; exact nB BK256.out)) (below_size (uL HB))); replace BK250 := blkB BK250 hb; replace BK251 := blkB BK251 hb; replace BK252 := blkB BK252 hb; replace BK256 := aM (blk_below (g := gb256) (o := .cells #[.string x257000_59, .string x257001_59, .int .i64 (x257001_59.size : Int)] 45 (0, 0)) (by refine nB ?_; refine blk_put (cs := #[.string x257000_59, .string x257001_59, .int .i64 x257002_59]) ?_ 2 _ rfl; refine nB ?_; refine blk_far ?_ NB256_258.out _; exact nB BK256.out) hb); replace BK258 := aM (blk_below (g := gb258) (o := .cells #[.slice none 0 0] 30 (0, 0)) (by refine nB ?_; refine blk_far ?_ NB258_256.out _; refine nB ?_; refine blk_put (cs := #[.slice none 0 0]) ?_ 0 _ rfl; exact nB BK258.out) hb); replace HB := aM (below_step (uL HB) hb); try clear hb ho0; obtain ⟨Ao163, co163, eo163⟩ := Kd.R_slice HO265.out; subst eo163; have hcz164_0 := czA BK258.out 0 (.slice none 0 0); have hfz164_0 := blk_frozen BK258.out 0) | ((with_reducible refine gate_callee (f := 20) rfl ?_); refine gL (some 125) Try.func20 #[.agg #[.slice Ao163 t263.length co163]] ?_; (with_reducible refine (spec_DiskOk.calls kj59 _ _ t263 true _ ?side1 ?side2 A145.out).mono ?_); (case side1 => refine (Kd.R_reads' (e := 45) (base := w.heap.size) (ok := fun k_ => (True ∧ k_ ≠ gb256)) (n := t263.length) (c := co163) ?_).2.2; exact (by (with_reducible repeat first | apply rA | apply rN | apply rD); exact (Kd.R_mono (Kd.R_far (p := ⟨gb258, 0, none⟩) (Kd.R_types HO265.out BK258.out (by decide)) (fun _ hk => hk.2) (.slice Ao163 t263.length co163)) (fun _ h_ => h_.1)))); (case side2 => exact (Kd.R_reads' HO265.out).2.1); rintro e w165 ⟨rfl, hb⟩; refine ⟨_, rfl, ?_⟩; replace HO265 := aM (Kd.R_below (by (with_reducible repeat first | apply rA | apply rN | apply rD); exact (Kd.R_mono (Kd.R_far (p := ⟨gb258, 0, none⟩) (Kd.R_types HO265.out BK258.out (by decide)) (fun _ hk => hk.2) (.slice Ao163 t263.length co163)) (fun _ h_ => h_.1))) hb); replace BK250 := blkB BK250 hb; replace BK251 := blkB BK251 hb; replace BK252 := blkB BK252 hb; replace BK256 := blkB BK256 hb; replace BK258 := aM (blk_below (g := gb258) (o := .cells #[.slice Ao163 t263.length co163] 30 (0, 0)) (by refine nB ?_; refine blk_put (cs := #[.slice none 0 0]) ?_ 0 _ rfl; exact nB BK258.out) hb); replace HB := aM (below_step (uL HB) hb); try clear hb; have hcz166_0 := czA BK258.out 0 (.slice Ao163 t263.length co163); have hfz166_0 := blk_frozen BK258.out 0; have hcz167_0 := czA BK252.out 0 (.slice none 0 0); have hfz167_0 := blk_frozen BK252.out 0))
          refine bodyPost_ret (results_ct rfl _ _ gb252 30 #[.slice Ao163 t263.length co163] (0, 0) _ rfl (by refine nB ?_; refine blk_put (cs := #[.slice none 0 0]) ?_ 0 _ rfl; exact nB BK252.out) Try.underlying30 rfl (by kernel_rfl)) rfl ?_
          exact ⟨_, by first | rfl | (simp [errW_none, errW_some] <;> rfl) | (simp [*, errW_none, errW_some] <;> rfl), by (with_reducible repeat first | apply rA | apply rN | apply rD); exact Kd.R_mono (Kd.R_far (p := ⟨gb252, 0, none⟩) (Kd.R_types HO265.out BK252.out (by decide)) (fun _ hk => hk.2) (.slice Ao163 t263.length co163)) (fun _ hk => trivial), uL HB⟩
         ·replace c146 := Bool.eq_false_iff.mpr c146
          subst c146
          have H1 : (some (([] : List (S45)), false)) = some (r1, r2) := by rw [if_neg (show ¬ (false = true) by decide)] at H; exact H
          clear H; have H := H1; clear H1
          simp only [Option.some.injEq, Prod.mk.injEq] at H
          obtain ⟨rfl, rfl⟩ := H
          go_wp2_with (first | ((with_reducible refine gate_dst (N := 8) rfl ?_); refine bxE 8 #[.slice none 0 0] 30 ?_; intro gb258 hg w168 hbox hb; have BK258 := aM (hbox); have GW258 := szG hg (uL HB); have GE258 := szG hg (uL HB); have NB250_258 := neL hg BK250; have NB258_250 := neG hg BK250; have NB251_258 := neL hg BK251; have NB258_251 := neG hg BK251; have NB252_258 := neL hg BK252; have NB258_252 := neG hg BK252; have NB256_258 := neL hg BK256; have NB258_256 := neG hg BK256; replace BK250 := blkB BK250 hb; replace BK251 := blkB BK251 hb; replace BK252 := blkB BK252 hb; replace BK256 := blkB BK256 hb; replace HB := aM (below_step (uL HB) hb); clear hb hbox hg; have hnb169 := NB258_250.out; have hnc169 := NB250_258.out; have hnb170 := NB258_251.out; have hnc170 := NB251_258.out; have hnb171 := NB258_252.out; have hnc171 := NB252_258.out; have hnb172 := NB258_256.out; have hnc172 := NB256_258.out; have hcz173_0 := czA BK258.out 0 (.slice none 0 0); have hfz173_0 := blk_frozen BK258.out 0; have hnb174 := NB251_250.out; have hnc174 := NB250_251.out; have hnb175 := NB251_252.out; have hnc175 := NB252_251.out; have hnb176 := NB251_256.out; have hnc176 := NB256_251.out; have hcz177_0 := czA BK251.out 0 (.int .i64 a1_0); have hcz177_1 := czA BK251.out 1 (.string a1_1); have hcz177_2 := czA BK251.out 2 (.string a1_2); have hcz177_3 := czA BK251.out 3 (.string a1_3); have hfz177_0 := blk_frozen BK251.out 0; have hfz177_1 := blk_frozen BK251.out 1; have hfz177_2 := blk_frozen BK251.out 2; have hfz177_3 := blk_frozen BK251.out 3; have hnb178 := NB256_250.out; have hnc178 := NB250_256.out; have hnb179 := NB256_252.out; have hnc179 := NB252_256.out; have hcz180_0 := czA BK256.out 0 (.string x257000_59); have hcz180_1 := czA BK256.out 1 (.string x257001_59); have hcz180_2 := czA BK256.out 2 (.int .i64 x257002_59); have hfz180_0 := blk_frozen BK256.out 0; have hfz180_1 := blk_frozen BK256.out 1; have hfz180_2 := blk_frozen BK256.out 2; have hnb181 := NB250_252.out; have hnc181 := NB252_250.out; have hcz182_0 := czA BK250.out 0 (.slice A0_0 l0_0.length c0_0); have hfz182_0 := blk_frozen BK250.out 0) | ((with_reducible refine gate_callee (f := 79) rfl ?_); refine gL (some 82) Try.func79 #[.agg #[.slice A0_0 l0_0.length c0_0], .agg #[.string x257000_59, .string x257001_59, .int .i64 (x257001_59.size : Int)]] ?_; (with_reducible refine (spec_l03Put.calls kj59 _ _ l0_0 x257000_59 x257001_59 (x257001_59.size : Int) t263 _ ?side1 ?side2 A144.out).mono ?_); (case side1 => exact Kd.C_below HR0_0.out (uL HB)); (case side2 => exact HC0_0.out); rintro e w183 ⟨v264, rfl, ho0, hb⟩; refine ⟨_, rfl, ?_⟩; have HO265 := aM (Kd.R_lower (Kd.R_newB ho0 (g := gb256) (o := .cells #[.string x257000_59, .string x257001_59, .int .i64 (x257001_59.size : Int)] 45 (0, 0)) (by refine nB ?_; refine blk_put (cs := #[.string x257000_59, .string x257001_59, .int .i64 x257002_59]) ?_ 2 _ rfl; refine nB ?_; refine blk_far ?_ NB256_258.out _; exact nB BK256.out)) (below_size (uL HB))); replace BK250 := blkB BK250 hb; replace BK251 := blkB BK251 hb; replace BK252 := blkB BK252 hb; replace BK256 := aM (blk_below (g := gb256) (o := .cells #[.string x257000_59, .string x257001_59, .int .i64 (x257001_59.size : Int)] 45 (0, 0)) (by refine nB ?_; refine blk_put (cs := #[.string x257000_59, .string x257001_59, .int .i64 x257002_59]) ?_ 2 _ rfl; refine nB ?_; refine blk_far ?_ NB256_258.out _; exact nB BK256.out) hb); replace BK258 := aM (blk_below (g := gb258) (o := .cells #[.slice none 0 0] 30 (0, 0)) (by refine nB ?_; refine blk_far ?_ NB258_256.out _; refine nB ?_; refine blk_put (cs := #[.slice none 0 0]) ?_ 0 _ rfl; exact nB BK258.out) hb); replace HB := aM (below_step (uL HB) hb); try clear hb ho0; obtain ⟨Ao184, co184, eo184⟩ := Kd.R_slice HO265.out; subst eo184; have hcz185_0 := czA BK258.out 0 (.slice none 0 0); have hfz185_0 := blk_frozen BK258.out 0) | ((with_reducible refine gate_callee (f := 20) rfl ?_); refine gL (some 125) Try.func20 #[.agg #[.slice Ao184 t263.length co184]] ?_; (with_reducible refine (spec_DiskOk.calls kj59 _ _ t263 false _ ?side1 ?side2 A145.out).mono ?_); (case side1 => refine (Kd.R_reads' (e := 45) (base := w.heap.size) (ok := fun k_ => (True ∧ k_ ≠ gb256)) (n := t263.length) (c := co184) ?_).2.2; exact (by (with_reducible repeat first | apply rA | apply rN | apply rD); exact (Kd.R_mono (Kd.R_far (p := ⟨gb258, 0, none⟩) (Kd.R_types HO265.out BK258.out (by decide)) (fun _ hk => hk.2) (.slice Ao184 t263.length co184)) (fun _ h_ => h_.1)))); (case side2 => exact (Kd.R_reads' HO265.out).2.1); rintro e w186 ⟨rfl, hb⟩; refine ⟨_, rfl, ?_⟩; replace HO265 := aM (Kd.R_below (by (with_reducible repeat first | apply rA | apply rN | apply rD); exact (Kd.R_mono (Kd.R_far (p := ⟨gb258, 0, none⟩) (Kd.R_types HO265.out BK258.out (by decide)) (fun _ hk => hk.2) (.slice Ao184 t263.length co184)) (fun _ h_ => h_.1))) hb); replace BK250 := blkB BK250 hb; replace BK251 := blkB BK251 hb; replace BK252 := blkB BK252 hb; replace BK256 := blkB BK256 hb; replace BK258 := aM (blk_below (g := gb258) (o := .cells #[.slice Ao184 t263.length co184] 30 (0, 0)) (by refine nB ?_; refine blk_put (cs := #[.slice none 0 0]) ?_ 0 _ rfl; exact nB BK258.out) hb); replace HB := aM (below_step (uL HB) hb); try clear hb; have hcz187_0 := czA BK252.out 0 (.slice none 0 0); have hfz187_0 := blk_frozen BK252.out 0))
          refine bodyPost_ret (results_ct rfl _ _ gb252 30 #[.slice none 0 0] (0, 0) _ rfl (by refine nB ?_; refine blk_put (cs := #[.slice none 0 0]) ?_ 0 _ rfl; exact nB BK252.out) Try.underlying30 rfl (by kernel_rfl)) rfl ?_
          exact ⟨_, by first | rfl | (simp [errW_none, errW_some] <;> rfl) | (simp [*, errW_none, errW_some] <;> rfl), by first | exact Kd.R_nil _ _ _ _ _ | exact Kd.N_nil _ _ _ _ _ | exact Kd.V_nil _ _ _ _ _ | exact Kd.Q_nil _ _ _ _ _ | exact Kd.S_nil _ _ _ _ _, uL HB⟩
        case' L9n =>
         rw [if_neg c143] at H
         have c143b0 : (a1_0 == 2) = false := beq_eq_false_iff_ne.mpr c143
         have c143b1 : (a1_0 != 2) = true := bne_iff_ne.mpr c143
         refine Classical.byCases (p := a1_0 = 3) (fun c188 => ?L10p) (fun c188 => ?L10n)
         case' L10p =>
          rw [if_pos c188] at H
          have c188b0 : (a1_0 == 3) = true := beq_iff_eq.mpr c188
          have c188b1 : (a1_0 != 3) = false := bne_eq_false_iff_eq.mpr c188
          clear c188
          have HC189 := aM H
          clear H
          go_upto_region 18 with (first | ((with_reducible refine gate_dst (N := 8) rfl ?_); refine bxE 8 #[.slice none 0 0] 30 ?_; intro gb258 hg w190 hbox hb; have BK258 := aM (hbox); have GW258 := szG hg (uL HB); have GE258 := szG hg (uL HB); have NB250_258 := neL hg BK250; have NB258_250 := neG hg BK250; have NB251_258 := neL hg BK251; have NB258_251 := neG hg BK251; have NB252_258 := neL hg BK252; have NB258_252 := neG hg BK252; have NB256_258 := neL hg BK256; have NB258_256 := neG hg BK256; replace BK250 := blkB BK250 hb; replace BK251 := blkB BK251 hb; replace BK252 := blkB BK252 hb; replace BK256 := blkB BK256 hb; replace HB := aM (below_step (uL HB) hb); clear hb hbox hg; have hnb191 := NB258_250.out; have hnc191 := NB250_258.out; have hnb192 := NB258_251.out; have hnc192 := NB251_258.out; have hnb193 := NB258_252.out; have hnc193 := NB252_258.out; have hnb194 := NB258_256.out; have hnc194 := NB256_258.out; have hcz195_0 := czA BK258.out 0 (.slice none 0 0); have hfz195_0 := blk_frozen BK258.out 0; have hnb196 := NB251_250.out; have hnc196 := NB250_251.out; have hnb197 := NB251_252.out; have hnc197 := NB252_251.out; have hnb198 := NB251_256.out; have hnc198 := NB256_251.out; have hcz199_0 := czA BK251.out 0 (.int .i64 a1_0); have hcz199_1 := czA BK251.out 1 (.string a1_1); have hcz199_2 := czA BK251.out 2 (.string a1_2); have hcz199_3 := czA BK251.out 3 (.string a1_3); have hfz199_0 := blk_frozen BK251.out 0; have hfz199_1 := blk_frozen BK251.out 1; have hfz199_2 := blk_frozen BK251.out 2; have hfz199_3 := blk_frozen BK251.out 3))
          (try simp only [Act.put, List.setIfInBounds_toArray, List.set_cons_zero, List.set_cons_succ])
          go_cut [105] (fun v105 wc => ∃ (kq : Nat) (x105_188 : Bool), v105 = .bool x105_188 ∧ Aside0 (spec_DoAct.j2 kq x105_188 l0_0 a1_0 a1_1 a1_2 a1_3 x257000_59 x257001_59 x257002_59 = some (r1, r2)) ∧ Aside0 (kq ≤ kj59) ∧ Aside0 (wc.heap[gb250]? = some (.cells #[(.slice A0_0 l0_0.length c0_0)] 30 (0, 0))) ∧ Aside0 (wc.heap[gb251]? = some (.cells #[.int .i64 a1_0, .string a1_1, .string a1_2, .string a1_3] 55 (0, 0))) ∧ Aside0 (wc.heap[gb252]? = some (.cells #[(.slice none 0 0)] 30 (0, 0))) ∧ Aside0 (wc.heap[gb256]? = some (.cells #[.string x257000_59, .string x257001_59, .int .i64 x257002_59] 45 (0, 0))) ∧ Aside0 (wc.heap[gb258]? = some (.cells #[(.slice none 0 0)] 30 (0, 0))) ∧ Aside0 (Below w.heap.size w wc))
          case first =>
           have H := HC189.out
           clear HC189
           by_cases c200 : x257002_59 < (x257001_59.size : Int)
           ·rw [if_pos c200] at H
            have c200b0 : decide (x257002_59 < (x257001_59.size : Int)) = true := decide_eq_true c200
            clear c200
            (first | rw [c200b0] | (simp only [i64_w, i32_w]; rw [c200b0]) | skip)
            have H' := aM H
            clear H
            have hnb201 := NB256_250.out; have hnc201 := NB250_256.out; have hnb202 := NB256_251.out; have hnc202 := NB251_256.out; have hnb203 := NB256_252.out; have hnc203 := NB252_256.out; have hnb204 := NB256_258.out; have hnc204 := NB258_256.out
            have hcz205_0 := czA BK256.out 0 (.string x257000_59)
            have hcz205_1 := czA BK256.out 1 (.string x257001_59)
            have hcz205_2 := czA BK256.out 2 (.int .i64 x257002_59)
            have hfz205_0 := blk_frozen BK256.out 0; have hfz205_1 := blk_frozen BK256.out 1; have hfz205_2 := blk_frozen BK256.out 2
            go_wp2
            go_meet
            case rel => exact ⟨_, (true), (by first | rfl | (simp; done) | (simp [*]; done)), H', ⟨by have := HJ2.out; have := HJ59.out; first | omega | exact Nat.le_refl _⟩, ⟨by refine nB ?_; refine blk_far ?_ NB250_258.out _; exact nB BK250.out⟩, ⟨by refine nB ?_; refine blk_far ?_ NB251_258.out _; exact nB BK251.out⟩, ⟨by refine nB ?_; refine blk_far ?_ NB252_258.out _; exact nB BK252.out⟩, ⟨by refine nB ?_; refine blk_far ?_ NB256_258.out _; exact nB BK256.out⟩, ⟨by refine nB ?_; refine blk_put (cs := #[.slice none 0 0]) ?_ 0 _ rfl; exact nB BK258.out⟩, ⟨uL HB⟩⟩
           ·rw [if_neg c200] at H
            have c200b0 : decide (x257002_59 < (x257001_59.size : Int)) = false := decide_eq_false c200
            clear c200
            (first | rw [c200b0] | (simp only [i64_w, i32_w]; rw [c200b0]) | skip)
            by_cases c206 : a1_3.toList = a1_1.toList
            ·rw [if_pos c206] at H
             have c206b0 : (a1_3.toList == a1_1.toList) = true := beq_iff_eq.mpr c206
             have c206b1 : (a1_3.toList != a1_1.toList) = false := bne_eq_false_iff_eq.mpr c206
             clear c206
             have H' := aM H
             clear H
             have hnb207 := NB256_250.out; have hnc207 := NB250_256.out; have hnb208 := NB256_251.out; have hnc208 := NB251_256.out; have hnb209 := NB256_252.out; have hnc209 := NB252_256.out; have hnb210 := NB256_258.out; have hnc210 := NB258_256.out
             have hcz211_0 := czA BK256.out 0 (.string x257000_59)
             have hcz211_1 := czA BK256.out 1 (.string x257001_59)
             have hcz211_2 := czA BK256.out 2 (.int .i64 x257002_59)
             have hfz211_0 := blk_frozen BK256.out 0; have hfz211_1 := blk_frozen BK256.out 1; have hfz211_2 := blk_frozen BK256.out 2; have hnb212 := NB251_250.out; have hnc212 := NB250_251.out; have hnb213 := NB251_252.out; have hnc213 := NB252_251.out; have hnb214 := NB251_258.out; have hnc214 := NB258_251.out
             have hcz215_0 := czA BK251.out 0 (.int .i64 a1_0)
             have hcz215_1 := czA BK251.out 1 (.string a1_1)
             have hcz215_2 := czA BK251.out 2 (.string a1_2)
             have hcz215_3 := czA BK251.out 3 (.string a1_3)
             have hfz215_0 := blk_frozen BK251.out 0; have hfz215_1 := blk_frozen BK251.out 1; have hfz215_2 := blk_frozen BK251.out 2; have hfz215_3 := blk_frozen BK251.out 3
             go_wp2
             go_meet
             case rel => exact ⟨_, (true), (by first | rfl | (simp; done) | (simp [*]; done)), H', ⟨by have := HJ2.out; have := HJ59.out; first | omega | exact Nat.le_refl _⟩, ⟨by refine nB ?_; refine blk_far ?_ NB250_258.out _; exact nB BK250.out⟩, ⟨by refine nB ?_; refine blk_far ?_ NB251_258.out _; exact nB BK251.out⟩, ⟨by refine nB ?_; refine blk_far ?_ NB252_258.out _; exact nB BK252.out⟩, ⟨by refine nB ?_; refine blk_far ?_ NB256_258.out _; exact nB BK256.out⟩, ⟨by refine nB ?_; refine blk_put (cs := #[.slice none 0 0]) ?_ 0 _ rfl; exact nB BK258.out⟩, ⟨uL HB⟩⟩
            ·rw [if_neg c206] at H
             have c206b0 : (a1_3.toList == a1_1.toList) = false := beq_eq_false_iff_ne.mpr c206
             have c206b1 : (a1_3.toList != a1_1.toList) = true := bne_iff_ne.mpr c206
             replace H := Option.bind_eq_some_iff.mp H
             obtain ⟨t267, A2160, H⟩ := H
             replace H : (spec_DoAct.j2 kj59 (!t267) l0_0 a1_0 a1_1 a1_2 a1_3 x257000_59 x257001_59 x257002_59) = some (r1, r2) := H
             have A216 := aM A2160
             clear A2160
             have H' := aM H
             clear H
             have hnb217 := NB256_250.out; have hnc217 := NB250_256.out; have hnb218 := NB256_251.out; have hnc218 := NB251_256.out; have hnb219 := NB256_252.out; have hnc219 := NB252_256.out; have hnb220 := NB256_258.out; have hnc220 := NB258_256.out
             have hcz221_0 := czA BK256.out 0 (.string x257000_59)
             have hcz221_1 := czA BK256.out 1 (.string x257001_59)
             have hcz221_2 := czA BK256.out 2 (.int .i64 x257002_59)
             have hfz221_0 := blk_frozen BK256.out 0; have hfz221_1 := blk_frozen BK256.out 1; have hfz221_2 := blk_frozen BK256.out 2; have hnb222 := NB251_250.out; have hnc222 := NB250_251.out; have hnb223 := NB251_252.out; have hnc223 := NB252_251.out; have hnb224 := NB251_258.out; have hnc224 := NB258_251.out
             have hcz225_0 := czA BK251.out 0 (.int .i64 a1_0)
             have hcz225_1 := czA BK251.out 1 (.string a1_1)
             have hcz225_2 := czA BK251.out 2 (.string a1_2)
             have hcz225_3 := czA BK251.out 3 (.string a1_3)
             have hfz225_0 := blk_frozen BK251.out 0; have hfz225_1 := blk_frozen BK251.out 1; have hfz225_2 := blk_frozen BK251.out 2; have hfz225_3 := blk_frozen BK251.out 3
             go_wp2_with (first | (go_at_call 73; (with_reducible refine (spec_l03Name.calls a1_3 t267 _ A216.out).mono ?_); rintro e w' ⟨rfl, ⟨nd, rfl⟩⟩))
             go_meet
             case rel => exact ⟨_, (!t267), (by first | rfl | (simp; done) | (simp [*]; done)), H', ⟨by have := HJ2.out; have := HJ59.out; first | omega | exact Nat.le_refl _⟩, ⟨by refine nB ?_; refine blk_far ?_ NB250_258.out _; exact nB BK250.out⟩, ⟨by refine nB ?_; refine blk_far ?_ NB251_258.out _; exact nB BK251.out⟩, ⟨by refine nB ?_; refine blk_far ?_ NB252_258.out _; exact nB BK252.out⟩, ⟨by refine nB ?_; refine blk_far ?_ NB256_258.out _; exact nB BK256.out⟩, ⟨by refine nB ?_; refine blk_put (cs := #[.slice none 0 0]) ?_ 0 _ rfl; exact nB BK258.out⟩, ⟨uL HB⟩⟩
          case rest =>
           clear HC189
           try clear c1; try clear c2; try clear p2; try clear q2; try clear hx2; try clear c3; try clear c4; try clear c5; try clear c6; try clear c7; try clear c8; try clear c9; try clear c10; try clear c11; try clear c11b0; try clear c11b1; try clear c12; try clear c12b0; try clear c12b1; try clear c13; try clear c14; try clear c15; try clear c16; try clear c17; try clear c18; try clear c19; try clear c20; try clear c21; try clear c22; try clear c23; try clear c25; try clear c25b0; try clear c25b1; try clear p25; try clear q25; try clear hx25; try clear c26; try clear c26b0; try clear c26b1; try clear c27; try clear c28; try clear c31; try clear c33; try clear c34; try clear c37; try clear c38; try clear c39; try clear c40; try clear c43; try clear c45; try clear c46; try clear c49; try clear c51; try clear c52; try clear c55; try clear c56; try clear c57; try clear c61; try clear c62; try clear c64; try clear c69; try clear c70; try clear c71; try clear c73; try clear c73b0; try clear c74; try clear c74b0; try clear c75; try clear c75b0; try clear c76; try clear c77; try clear c78; try clear c79; try clear c80; try clear c81; try clear c83; try clear c83b0; try clear c83b1; try clear c84; try clear c84b0; try clear c84b1; try clear c84b2; try clear c87; try clear c89; try clear c90; try clear c91; try clear c92; try clear c94; try clear c95; try clear c96; try clear c98; try clear c99; try clear c101; try clear c110; try clear c111; try clear c112; try clear c113; try clear c115; try clear c116; try clear c117; try clear c119; try clear c120; try clear c122; try clear c129; try clear c129b0; try clear c131; try clear c132; try clear c133; try clear c134; try clear c136; try clear c137; try clear c138; try clear c140; try clear c141; try clear c143; try clear c143b0; try clear c143b1; try clear c146; try clear c148; try clear c149; try clear c150; try clear c151; try clear c153; try clear c154; try clear c155; try clear c157; try clear c158; try clear c160; try clear c169; try clear c170; try clear c171; try clear c172; try clear c174; try clear c175; try clear c176; try clear c178; try clear c179; try clear c181; try clear c188; try clear c188b0; try clear c188b1; try clear c191; try clear c192; try clear c193; try clear c194; try clear c196; try clear c197; try clear c198; try clear c200; try clear c200b0; try clear c201; try clear c202; try clear c203; try clear c204; try clear c206; try clear c206b0; try clear c206b1; try clear c207; try clear c208; try clear c209; try clear c210; try clear c212; try clear c213; try clear c214; try clear c217; try clear c218; try clear c219; try clear c220; try clear c222; try clear c223; try clear c224; try clear hcz100_0; try clear hcz100_1; try clear hcz100_2; try clear hcz102_0; try clear hcz105_0; try clear hcz107_0; try clear hcz108_0; try clear hcz114_0; try clear hcz118_0; try clear hcz118_1; try clear hcz118_2; try clear hcz118_3; try clear hcz121_0; try clear hcz121_1; try clear hcz121_2; try clear hcz123_0; try clear hcz126_0; try clear hcz128_0; try clear hcz135_0; try clear hcz139_0; try clear hcz139_1; try clear hcz139_2; try clear hcz139_3; try clear hcz142_0; try clear hcz152_0; try clear hcz156_0; try clear hcz156_1; try clear hcz156_2; try clear hcz156_3; try clear hcz159_0; try clear hcz159_1; try clear hcz159_2; try clear hcz15_0; try clear hcz161_0; try clear hcz164_0; try clear hcz166_0; try clear hcz167_0; try clear hcz173_0; try clear hcz177_0; try clear hcz177_1; try clear hcz177_2; try clear hcz177_3; try clear hcz180_0; try clear hcz180_1; try clear hcz180_2; try clear hcz182_0; try clear hcz185_0; try clear hcz187_0; try clear hcz18_0; try clear hcz18_1; try clear hcz18_2; try clear hcz18_3; try clear hcz195_0; try clear hcz199_0; try clear hcz199_1; try clear hcz199_2; try clear hcz199_3; try clear hcz205_0; try clear hcz205_1; try clear hcz205_2; try clear hcz211_0; try clear hcz211_1; try clear hcz211_2; try clear hcz215_0; try clear hcz215_1; try clear hcz215_2; try clear hcz215_3; try clear hcz21_0; try clear hcz221_0; try clear hcz221_1; try clear hcz221_2; try clear hcz225_0; try clear hcz225_1; try clear hcz225_2; try clear hcz225_3; try clear hcz24_0; try clear hcz24_1; try clear hcz24_2; try clear hcz24_3; try clear hcz29_0; try clear hcz32_0; try clear hcz32_1; try clear hcz32_2; try clear hcz32_3; try clear hcz35_0; try clear hcz38_0; try clear hcz38_1; try clear hcz38_2; try clear hcz38_3; try clear hcz41_0; try clear hcz44_0; try clear hcz44_1; try clear hcz44_2; try clear hcz44_3; try clear hcz47_0; try clear hcz50_0; try clear hcz50_1; try clear hcz50_2; try clear hcz50_3; try clear hcz53_0; try clear hcz58_0; try clear hcz63_0; try clear hcz65_0; try clear hcz65_1; try clear hcz65_2; try clear hcz65_3; try clear hcz67_0; try clear hcz67_1; try clear hcz67_2; try clear hcz67_3; try clear hcz72_0; try clear hcz72_1; try clear hcz72_2; try clear hcz79_0; try clear hcz82_0; try clear hcz82_1; try clear hcz82_2; try clear hcz93_0; try clear hcz97_0; try clear hcz97_1; try clear hcz97_2; try clear hcz97_3; try clear hfz100_0; try clear hfz100_1; try clear hfz100_2; try clear hfz102_0; try clear hfz105_0; try clear hfz107_0; try clear hfz108_0; try clear hfz114_0; try clear hfz118_0; try clear hfz118_1; try clear hfz118_2; try clear hfz118_3; try clear hfz121_0; try clear hfz121_1; try clear hfz121_2; try clear hfz123_0; try clear hfz126_0; try clear hfz128_0; try clear hfz135_0; try clear hfz139_0; try clear hfz139_1; try clear hfz139_2; try clear hfz139_3; try clear hfz142_0; try clear hfz152_0; try clear hfz156_0; try clear hfz156_1; try clear hfz156_2; try clear hfz156_3; try clear hfz159_0; try clear hfz159_1; try clear hfz159_2; try clear hfz15_0; try clear hfz161_0; try clear hfz164_0; try clear hfz166_0; try clear hfz167_0; try clear hfz173_0; try clear hfz177_0; try clear hfz177_1; try clear hfz177_2; try clear hfz177_3; try clear hfz180_0; try clear hfz180_1; try clear hfz180_2; try clear hfz182_0; try clear hfz185_0; try clear hfz187_0; try clear hfz18_0; try clear hfz18_1; try clear hfz18_2; try clear hfz18_3; try clear hfz195_0; try clear hfz199_0; try clear hfz199_1; try clear hfz199_2; try clear hfz199_3; try clear hfz205_0; try clear hfz205_1; try clear hfz205_2; try clear hfz211_0; try clear hfz211_1; try clear hfz211_2; try clear hfz215_0; try clear hfz215_1; try clear hfz215_2; try clear hfz215_3; try clear hfz21_0; try clear hfz221_0; try clear hfz221_1; try clear hfz221_2; try clear hfz225_0; try clear hfz225_1; try clear hfz225_2; try clear hfz225_3; try clear hfz24_0; try clear hfz24_1; try clear hfz24_2; try clear hfz24_3; try clear hfz29_0; try clear hfz32_0; try clear hfz32_1; try clear hfz32_2; try clear hfz32_3; try clear hfz35_0; try clear hfz38_0; try clear hfz38_1; try clear hfz38_2; try clear hfz38_3; try clear hfz41_0; try clear hfz44_0; try clear hfz44_1; try clear hfz44_2; try clear hfz44_3; try clear hfz47_0; try clear hfz50_0; try clear hfz50_1; try clear hfz50_2; try clear hfz50_3; try clear hfz53_0; try clear hfz58_0; try clear hfz63_0; try clear hfz65_0; try clear hfz65_1; try clear hfz65_2; try clear hfz65_3; try clear hfz67_0; try clear hfz67_1; try clear hfz67_2; try clear hfz67_3; try clear hfz72_0; try clear hfz72_1; try clear hfz72_2; try clear hfz79_0; try clear hfz82_0; try clear hfz82_1; try clear hfz82_2; try clear hfz93_0; try clear hfz97_0; try clear hfz97_1; try clear hfz97_2; try clear hfz97_3; try clear hx257_0; try clear hx257_1; try clear hx257_2; try clear p2; try clear p25; try clear p257; try clear q2; try clear q25; try clear q257
           obtain ⟨kq, x105_188, rfl, HA, HJ188, BK250, BK251, BK252, BK256, BK258, HB⟩ := hcut
           cases kq with
           | zero => exact absurd HA.out (by simp [spec_DoAct.j2])
           | succ kj188 =>
            have H := HA.out
            clear HA
            simp only [spec_DoAct.j2] at H
            by_cases c226 : x105_188 = true
            ·subst c226
             have H1 : (some (([] : List (S45)), false)) = some (r1, r2) := by rw [if_pos rfl] at H; exact H
             clear H; have H := H1; clear H1
             simp only [Option.some.injEq, Prod.mk.injEq] at H
             obtain ⟨rfl, rfl⟩ := H
             have hnb227 := NB252_250.out; have hnc227 := NB250_252.out; have hnb228 := NB252_251.out; have hnc228 := NB251_252.out; have hnb229 := NB252_256.out; have hnc229 := NB256_252.out; have hnb230 := NB252_258.out; have hnc230 := NB258_252.out
             have hcz231_0 := czA BK252.out 0 (.slice none 0 0)
             have hfz231_0 := blk_frozen BK252.out 0
             go_wp2
             refine bodyPost_ret (results_ct rfl _ _ gb252 30 #[.slice none 0 0] (0, 0) _ rfl (by refine nB ?_; refine blk_put (cs := #[.slice none 0 0]) ?_ 0 _ rfl; exact nB BK252.out) Try.underlying30 rfl (by kernel_rfl)) rfl ?_
             exact ⟨_, by first | rfl | (simp [errW_none, errW_some] <;> rfl) | (simp [*, errW_none, errW_some] <;> rfl), by first | exact Kd.R_nil _ _ _ _ _ | exact Kd.N_nil _ _ _ _ _ | exact Kd.V_nil _ _ _ _ _ | exact Kd.Q_nil _ _ _ _ _ | exact Kd.S_nil _ _ _ _ _, uL HB⟩
            ·replace c226 := Bool.eq_false_iff.mpr c226
             subst c226
             rw [if_neg (show ¬ (false = true) by decide)] at H
             replace H := Option.bind_eq_some_iff.mp H
             obtain ⟨t268, A2320, H⟩ := H
             try dsimp only at H
             have A232 := aM A2320
             clear A2320
             replace H := Option.bind_eq_some_iff.mp H
             obtain ⟨t271, A2330, H⟩ := H
             try dsimp only at H
             have A233 := aM A2330
             clear A2330
             replace H := Option.bind_eq_some_iff.mp H
             obtain ⟨t274, A2340, H⟩ := H
             replace H : (if t274 = true then (some (t271, true)) else (some (([] : List (S45)), false))) = some (r1, r2) := H
             have A234 := aM A2340
             clear A2340
             by_cases c235 : t274 = true
             ·subst c235
              have H1 : (some (t271, true)) = some (r1, r2) := by rw [if_pos rfl] at H; exact H
              clear H; have H := H1; clear H1
              simp only [Option.some.injEq, Prod.mk.injEq] at H
              obtain ⟨rfl, rfl⟩ := H
              have hnb236 := NB251_250.out; have hnc236 := NB250_251.out; have hnb237 := NB251_252.out; have hnc237 := NB252_251.out; have hnb238 := NB251_256.out; have hnc238 := NB256_251.out; have hnb239 := NB251_258.out; have hnc239 := NB258_251.out
              have hcz240_0 := czA BK251.out 0 (.int .i64 a1_0)
              have hcz240_1 := czA BK251.out 1 (.string a1_1)
              have hcz240_2 := czA BK251.out 2 (.string a1_2)
              have hcz240_3 := czA BK251.out 3 (.string a1_3)
              have hfz240_0 := blk_frozen BK251.out 0; have hfz240_1 := blk_frozen BK251.out 1; have hfz240_2 := blk_frozen BK251.out 2; have hfz240_3 := blk_frozen BK251.out 3; have hnb241 := NB256_250.out; have hnc241 := NB250_256.out; have hnb242 := NB256_252.out; have hnc242 := NB252_256.out; have hnb243 := NB256_258.out; have hnc243 := NB258_256.out
              have hcz244_0 := czA BK256.out 0 (.string x257000_59)
              have hcz244_1 := czA BK256.out 1 (.string x257001_59)
              have hcz244_2 := czA BK256.out 2 (.int .i64 x257002_59)
              have hfz244_0 := blk_frozen BK256.out 0; have hfz244_1 := blk_frozen BK256.out 1; have hfz244_2 := blk_frozen BK256.out 2
              try go_wp2
              have n0_ : Aside0 ((wc.setCell ⟨gb256, 0, none⟩ (.string a1_3)).heap[gb250]? = some (.cells #[.slice A0_0 l0_0.length c0_0] 30 (0, 0))) := ⟨by refine nB ?_; refine blk_far ?_ NB250_256.out _; exact nB BK250.out⟩
              have n1_ : Aside0 ((wc.setCell ⟨gb256, 0, none⟩ (.string a1_3)).heap[gb251]? = some (.cells #[.int .i64 a1_0, .string a1_1, .string a1_2, .string a1_3] 55 (0, 0))) := ⟨by refine nB ?_; refine blk_far ?_ NB251_256.out _; exact nB BK251.out⟩
              have n2_ : Aside0 ((wc.setCell ⟨gb256, 0, none⟩ (.string a1_3)).heap[gb252]? = some (.cells #[.slice none 0 0] 30 (0, 0))) := ⟨by refine nB ?_; refine blk_far ?_ NB252_256.out _; exact nB BK252.out⟩
              have n3_ : Aside0 ((wc.setCell ⟨gb256, 0, none⟩ (.string a1_3)).heap[gb256]? = some (.cells #[.string a1_3, .string x257001_59, .int .i64 x257002_59] 45 (0, 0))) := ⟨by refine nB ?_; refine blk_put (cs := #[.string x257000_59, .string x257001_59, .int .i64 x257002_59]) ?_ 0 _ rfl; exact nB BK256.out⟩
              have n4_ : Aside0 ((wc.setCell ⟨gb256, 0, none⟩ (.string a1_3)).heap[gb258]? = some (.cells #[.slice none 0 0] 30 (0, 0))) := ⟨by refine nB ?_; refine blk_far ?_ NB258_256.out _; exact nB BK258.out⟩
              have n5_ : Aside0 (Below w.heap.size w (wc.setCell ⟨gb256, 0, none⟩ (.string a1_3))) := ⟨uL HB⟩
              (try clear BK250)
              (try clear BK251)
              (try clear BK252)
              (try clear BK256)
              (try clear BK258)
              (try clear HB)
              generalize (wc.setCell ⟨gb256, 0, none⟩ (.string a1_3)) = w245 at n0_ n1_ n2_ n3_ n4_ n5_ ⊢
              have BK250 := n0_; have BK251 := n1_; have BK252 := n2_; have BK256 := n3_; have BK258 := n4_; have HB := n5_; clear n0_ n1_ n2_ n3_ n4_ n5_
              replace BK250 := aM (blk_drew BK250.out)
              replace BK251 := aM (blk_drew BK251.out)
              replace BK252 := aM (blk_drew BK252.out)
              replace BK256 := aM (blk_drew BK256.out)
              replace BK258 := aM (blk_drew BK258.out)
              replace HB := aM (below_drew1 HB.out)
              refine start_ (n := 7) (S := fun w' => w'.cell? ⟨gb250, 0, none⟩ = some (.slice A0_0 l0_0.length c0_0) ∧ w'.cell? ⟨gb251, 0, none⟩ = some (.int .i64 a1_0) ∧ w'.cell? ⟨gb251, 1, none⟩ = some (.string a1_1) ∧ w'.cell? ⟨gb251, 2, none⟩ = some (.string a1_2) ∧ w'.cell? ⟨gb251, 3, none⟩ = some (.string a1_3) ∧ w'.cell? ⟨gb256, 0, none⟩ = some (.string a1_3) ∧ w'.cell? ⟨gb256, 1, none⟩ = some (.string x257001_59) ∧ w'.cell? ⟨gb256, 2, none⟩ = some (.int .i64 x257002_59)) (ds := []) (bB 7 0) (by kernel_rfl) rfl rfl ⟨(blk_cell BK250.out 0).trans rfl, (blk_cell BK251.out 0).trans rfl, (blk_cell BK251.out 1).trans rfl, (blk_cell BK251.out 2).trans rfl, (blk_cell BK251.out 3).trans rfl, (blk_cell BK256.out 0).trans rfl, (blk_cell BK256.out 1).trans rfl, (blk_cell BK256.out 2).trans rfl⟩ (fun hHeld => ?_)
              generalize w245.drew = w246 at BK250 BK251 BK252 BK256 BK258 HB hHeld ⊢
              refine pX 1 111 (bB 7 2) (by kernel_rfl) ?_
              refine take_ (i := 0) (N := some 110) (v := ?_) (a' := ?_) (bB 7 3) rfl rfl (by kernel_rfl) (fun _ _ _ h => h) (Or.inl ⟨by rfl, ?_⟩) hHeld ?_ ?_
              rotate_left
              ·rintro w' ⟨s0, s1, s2, s3, s4, s5, s6, s7⟩
               go_simp
               with_reducible rfl
              rotate_left
              ·simp only [aP, aQ, sT, sZ, sU, i64_w, i32_w]
               rfl
              refine take_ (i := 2) (N := some 112) (v := ?_) (a' := ?_) (bB 7 7) rfl rfl (by kernel_rfl) (fun _ _ _ h => h) (Or.inl ⟨by rfl, ?_⟩) hHeld ?_ ?_
              rotate_left
              ·rintro w' ⟨s0, s1, s2, s3, s4, s5, s6, s7⟩
               go_simp
               with_reducible rfl
              rotate_left
              ·simp only [aP, aQ, sT, sZ, sU, i64_w, i32_w]
               rfl
              refine take_ (i := 4) (N := some 114) (v := ?_) (a' := ?_) (bB 7 23) rfl rfl (by kernel_rfl) (fun _ _ _ h => h) (Or.inl ⟨by rfl, ?_⟩) hHeld ?_ ?_
              rotate_left
              ·rintro w' ⟨s0, s1, s2, s3, s4, s5, s6, s7⟩
               go_simp
               with_reducible rfl
              rotate_left
              ·simp only [aP, aQ, sT, sZ, sU, i64_w, i32_w]
               rfl
              refine one_ (i := 3) (N := some 113) (bB 7 31) rfl rfl (by kernel_rfl) (by decide) (fun K hK => ?_)
              refine gX Try.func86 #[.agg #[.slice A0_0 l0_0.length c0_0], .string a1_1] ?_
              with_reducible refine (spec_l03Without.calls kj188 _ _ l0_0 a1_1 t268 _ ?side1 ?side2 A232.out).mono ?_
              (case side1 => exact uC HR0_0 HB)
              (case side2 => exact HC0_0.out)
              rintro e w247 ⟨v269, rfl, ho0, hb⟩
              refine ⟨_, rfl, ?_⟩
              have HO270 := aM (Kd.R_lower (Kd.R_newB ho0 (g := gb256) (o := .cells #[.string a1_3, .string x257001_59, .int .i64 x257002_59] 45 (0, 0)) (uB BK256)) (below_size (uL HB)))
              replace BK250 := blkB BK250 hb
              replace BK251 := blkB BK251 hb
              replace BK252 := blkB BK252 hb
              replace BK256 := blkB BK256 hb
              replace BK258 := blkB BK258 hb
              replace HB := aM (below_step (uL HB) hb)
              (try clear hb)
              (try clear hb2)
              (try clear hk)
              (try clear hi)
              (try clear ho0)
              obtain ⟨Ao248, co248, eo248⟩ := Kd.R_slice HO270.out
              (first | subst eo248 | (injection eo248 with f1_ f2_ f3_; have f4_ := f1_.symm; have f5_ := f3_.symm; clear f1_ f2_ f3_; subst f4_; subst f5_))
              refine hK.out _ _ ⟨(blk_cell BK250.out 0).trans rfl, (blk_cell BK251.out 0).trans rfl, (blk_cell BK251.out 1).trans rfl, (blk_cell BK251.out 2).trans rfl, (blk_cell BK251.out 3).trans rfl, (blk_cell BK256.out 0).trans rfl, (blk_cell BK256.out 1).trans rfl, (blk_cell BK256.out 2).trans rfl⟩ (fun hHeld => ?_)
              clear hK K
              refine nX 113 ?_
              refine one_ (i := 5) (N := some 115) (bB 7 63) rfl rfl (by kernel_rfl) (by decide) (fun K hK => ?_)
              refine gX Try.func79 #[.agg #[.slice Ao248 t268.length co248], .agg #[.string a1_3, .string x257001_59, .int .i64 x257002_59]] ?_
              with_reducible refine (spec_l03Put.calls kj188 _ _ t268 a1_3 x257001_59 x257002_59 t271 _ ?side1 ?side2 A233.out).mono ?_
              (case side1 => repeat (first | exact (Kd.R_reads' HO270.out).2.2 | (with_reducible refine cA ?_ _) | (with_reducible refine cN ?_ _) | (with_reducible refine cD ?_)))
              (case side2 => exact (Kd.R_reads' HO270.out).2.1)
              rintro e w249 ⟨v272, rfl, ho0, hb⟩
              refine ⟨_, rfl, ?_⟩
              have HO273 := aM (Kd.R_lower (Kd.R_newB (Kd.R_new' ho0 (Kd.R_lt (uR HO270))) (g := gb256) (o := .cells #[.string a1_3, .string x257001_59, .int .i64 x257002_59] 45 (0, 0)) (uB BK256)) (below_size (uL HB)))
              replace HO270 := aM (Kd.R_elder' (uR HO270) (Kd.R_base ho0) hb)
              replace BK250 := blkB BK250 hb
              replace BK251 := blkB BK251 hb
              replace BK252 := blkB BK252 hb
              replace BK256 := blkB BK256 hb
              replace BK258 := blkB BK258 hb
              replace HB := aM (below_step (uL HB) hb)
              (try clear hb)
              (try clear hb2)
              (try clear hk)
              (try clear hi)
              (try clear ho0)
              obtain ⟨Ao250, co250, eo250⟩ := Kd.R_slice HO273.out
              (first | subst eo250 | (injection eo250 with f1_ f2_ f3_; have f4_ := f1_.symm; have f5_ := f3_.symm; clear f1_ f2_ f3_; subst f4_; subst f5_))
              refine hK.out _ _ ⟨(blk_cell BK250.out 0).trans rfl, (blk_cell BK251.out 0).trans rfl, (blk_cell BK251.out 1).trans rfl, (blk_cell BK251.out 2).trans rfl, (blk_cell BK251.out 3).trans rfl, (blk_cell BK256.out 0).trans rfl, (blk_cell BK256.out 1).trans rfl, (blk_cell BK256.out 2).trans rfl⟩ (fun hHeld => ?_)
              clear hK K
              refine nX 115 ?_
              refine one_ (i := 6) (N := none) (bB 7 127) rfl rfl (by kernel_rfl) (by decide) (fun K hK => ?_)
              have hs251 := czA BK258.out 0 (.slice none 0 0)
              have hfs251 := blk_frozen BK258.out 0; have hns251_0 := NB250_258.out; have hns251_1 := NB251_258.out; have hns251_2 := NB252_258.out; have hns251_3 := NB256_258.out; have hms251_0 := NB258_250.out; have hms251_1 := NB258_251.out; have hms251_2 := NB258_252.out; have hms251_3 := NB258_256.out
              refine skip_ (w1 := ?_) (by rfl) rfl ?_ ?_
              rotate_left
              ·go_simp
               rfl
              refine hK.out _ _ ⟨((cell_far (p := ⟨gb258, _, none⟩) NB250_258.out _).trans (hHeld.1)), ((cell_far (p := ⟨gb258, _, none⟩) NB251_258.out _).trans (hHeld.2.1)), ((cell_far (p := ⟨gb258, _, none⟩) NB251_258.out _).trans (hHeld.2.2.1)), ((cell_far (p := ⟨gb258, _, none⟩) NB251_258.out _).trans (hHeld.2.2.2.1)), ((cell_far (p := ⟨gb258, _, none⟩) NB251_258.out _).trans (hHeld.2.2.2.2.1)), ((cell_far (p := ⟨gb258, _, none⟩) NB256_258.out _).trans (hHeld.2.2.2.2.2.1)), ((cell_far (p := ⟨gb258, _, none⟩) NB256_258.out _).trans (hHeld.2.2.2.2.2.2.1)), ((cell_far (p := ⟨gb258, _, none⟩) NB256_258.out _).trans (hHeld.2.2.2.2.2.2.2))⟩ (fun hHeld => ?_)
              clear hK K
              refine done_ (by kernel_rfl) ?_
              have hnb252 := NB258_250.out; have hnc252 := NB250_258.out; have hnb253 := NB258_252.out; have hnc253 := NB252_258.out
              have hcz254_0 := czA BK258.out 0 (.slice none 0 0)
              have hfz254_0 := blk_frozen BK258.out 0
              try go_wp2_with (first | ((with_reducible refine gate_callee (f := 20) rfl ?_); refine gL (some 125) Try.func20 #[.agg #[.slice Ao250 t271.length co250]] ?_; (with_reducible refine (spec_DiskOk.calls kj188 _ _ t271 true _ ?side1 ?side2 A234.out).mono ?_); (case side1 => refine (Kd.R_reads' (e := 45) (base := w.heap.size) (ok := fun k_ => ((True ∧ some k_ ≠ (.slice Ao248 t268.length co248 : Value).ownBlock) ∧ k_ ≠ gb256)) (n := t271.length) (c := co250) ?_).2.2; exact (by (with_reducible repeat first | apply rA | apply rN | apply rD); exact (Kd.R_mono (Kd.R_far (p := ⟨gb258, 0, none⟩) (Kd.R_types HO273.out BK258.out (by decide)) (fun _ hk => hk.2) (.slice Ao250 t271.length co250)) (fun _ h_ => h_.1)))); (case side2 => exact (Kd.R_reads' HO273.out).2.1); rintro e w255 ⟨rfl, hb⟩; refine ⟨_, rfl, ?_⟩; replace HO270 := aM (Kd.R_below (by (with_reducible repeat first | apply rA | apply rN | apply rD); exact (Kd.R_mono (Kd.R_far (p := ⟨gb258, 0, none⟩) (Kd.R_types HO270.out BK258.out (by decide)) (fun _ hk => hk.2) (.slice Ao250 t271.length co250)) (fun _ h_ => h_.1))) hb); replace HO273 := aM (Kd.R_below (by (with_reducible repeat first | apply rA | apply rN | apply rD); exact (Kd.R_mono (Kd.R_far (p := ⟨gb258, 0, none⟩) (Kd.R_types HO273.out BK258.out (by decide)) (fun _ hk => hk.2) (.slice Ao250 t271.length co250)) (fun _ h_ => h_.1))) hb); replace BK250 := blkB BK250 hb; replace BK251 := blkB BK251 hb; replace BK252 := blkB BK252 hb; replace BK256 := blkB BK256 hb; replace BK258 := aM (blk_below (g := gb258) (o := .cells #[.slice Ao250 t271.length co250] 30 (0, 0)) (by refine nB ?_; refine blk_put (cs := #[.slice none 0 0]) ?_ 0 _ rfl; exact nB BK258.out) hb); replace HB := aM (below_step (uL HB) hb); try clear hb; have hcz256_0 := czA BK258.out 0 (.slice Ao250 t271.length co250); have hfz256_0 := blk_frozen BK258.out 0; have hnb257 := NB252_250.out; have hnc257 := NB250_252.out; have hcz258_0 := czA BK252.out 0 (.slice none 0 0); have hfz258_0 := blk_frozen BK252.out 0))
              refine bodyPost_ret (results_ct rfl _ _ gb252 30 #[.slice Ao250 t271.length co250] (0, 0) _ rfl (by refine nB ?_; refine blk_put (cs := #[.slice none 0 0]) ?_ 0 _ rfl; exact nB BK252.out) Try.underlying30 rfl (by kernel_rfl)) rfl ?_
              exact ⟨_, by first | rfl | (simp [errW_none, errW_some] <;> rfl) | (simp [*, errW_none, errW_some] <;> rfl), by (with_reducible repeat first | apply rA | apply rN | apply rD); exact Kd.R_mono (Kd.R_far (p := ⟨gb252, 0, none⟩) (Kd.R_types HO273.out BK252.out (by decide)) (fun _ hk => hk.2) (.slice Ao250 t271.length co250)) (fun _ hk => trivial), uL HB⟩
             ·replace c235 := Bool.eq_false_iff.mpr c235
              subst c235
              have H1 : (some (([] : List (S45)), false)) = some (r1, r2) := by rw [if_neg (show ¬ (false = true) by decide)] at H; exact H
              clear H; have H := H1; clear H1
              simp only [Option.some.injEq, Prod.mk.injEq] at H
              obtain ⟨rfl, rfl⟩ := H
              have hnb259 := NB251_250.out; have hnc259 := NB250_251.out; have hnb260 := NB251_252.out; have hnc260 := NB252_251.out; have hnb261 := NB251_256.out; have hnc261 := NB256_251.out; have hnb262 := NB251_258.out; have hnc262 := NB258_251.out
              have hcz263_0 := czA BK251.out 0 (.int .i64 a1_0)
              have hcz263_1 := czA BK251.out 1 (.string a1_1)
              have hcz263_2 := czA BK251.out 2 (.string a1_2)
              have hcz263_3 := czA BK251.out 3 (.string a1_3)
              have hfz263_0 := blk_frozen BK251.out 0; have hfz263_1 := blk_frozen BK251.out 1; have hfz263_2 := blk_frozen BK251.out 2; have hfz263_3 := blk_frozen BK251.out 3; have hnb264 := NB256_250.out; have hnc264 := NB250_256.out; have hnb265 := NB256_252.out; have hnc265 := NB252_256.out; have hnb266 := NB256_258.out; have hnc266 := NB258_256.out
              have hcz267_0 := czA BK256.out 0 (.string x257000_59)
              have hcz267_1 := czA BK256.out 1 (.string x257001_59)
              have hcz267_2 := czA BK256.out 2 (.int .i64 x257002_59)
              have hfz267_0 := blk_frozen BK256.out 0; have hfz267_1 := blk_frozen BK256.out 1; have hfz267_2 := blk_frozen BK256.out 2
              try go_wp2
              have n0_ : Aside0 ((wc.setCell ⟨gb256, 0, none⟩ (.string a1_3)).heap[gb250]? = some (.cells #[.slice A0_0 l0_0.length c0_0] 30 (0, 0))) := ⟨by refine nB ?_; refine blk_far ?_ NB250_256.out _; exact nB BK250.out⟩
              have n1_ : Aside0 ((wc.setCell ⟨gb256, 0, none⟩ (.string a1_3)).heap[gb251]? = some (.cells #[.int .i64 a1_0, .string a1_1, .string a1_2, .string a1_3] 55 (0, 0))) := ⟨by refine nB ?_; refine blk_far ?_ NB251_256.out _; exact nB BK251.out⟩
              have n2_ : Aside0 ((wc.setCell ⟨gb256, 0, none⟩ (.string a1_3)).heap[gb252]? = some (.cells #[.slice none 0 0] 30 (0, 0))) := ⟨by refine nB ?_; refine blk_far ?_ NB252_256.out _; exact nB BK252.out⟩
              have n3_ : Aside0 ((wc.setCell ⟨gb256, 0, none⟩ (.string a1_3)).heap[gb256]? = some (.cells #[.string a1_3, .string x257001_59, .int .i64 x257002_59] 45 (0, 0))) := ⟨by refine nB ?_; refine blk_put (cs := #[.string x257000_59, .string x257001_59, .int .i64 x257002_59]) ?_ 0 _ rfl; exact nB BK256.out⟩
              have n4_ : Aside0 ((wc.setCell ⟨gb256, 0, none⟩ (.string a1_3)).heap[gb258]? = some (.cells #[.slice none 0 0] 30 (0, 0))) := ⟨by refine nB ?_; refine blk_far ?_ NB258_256.out _; exact nB BK258.out⟩
              have n5_ : Aside0 (Below w.heap.size w (wc.setCell ⟨gb256, 0, none⟩ (.string a1_3))) := ⟨uL HB⟩
              (try clear BK250)
              (try clear BK251)
              (try clear BK252)
              (try clear BK256)
              (try clear BK258)
              (try clear HB)
              generalize (wc.setCell ⟨gb256, 0, none⟩ (.string a1_3)) = w268 at n0_ n1_ n2_ n3_ n4_ n5_ ⊢
              have BK250 := n0_; have BK251 := n1_; have BK252 := n2_; have BK256 := n3_; have BK258 := n4_; have HB := n5_; clear n0_ n1_ n2_ n3_ n4_ n5_
              replace BK250 := aM (blk_drew BK250.out)
              replace BK251 := aM (blk_drew BK251.out)
              replace BK252 := aM (blk_drew BK252.out)
              replace BK256 := aM (blk_drew BK256.out)
              replace BK258 := aM (blk_drew BK258.out)
              replace HB := aM (below_drew1 HB.out)
              refine start_ (n := 7) (S := fun w' => w'.cell? ⟨gb250, 0, none⟩ = some (.slice A0_0 l0_0.length c0_0) ∧ w'.cell? ⟨gb251, 0, none⟩ = some (.int .i64 a1_0) ∧ w'.cell? ⟨gb251, 1, none⟩ = some (.string a1_1) ∧ w'.cell? ⟨gb251, 2, none⟩ = some (.string a1_2) ∧ w'.cell? ⟨gb251, 3, none⟩ = some (.string a1_3) ∧ w'.cell? ⟨gb256, 0, none⟩ = some (.string a1_3) ∧ w'.cell? ⟨gb256, 1, none⟩ = some (.string x257001_59) ∧ w'.cell? ⟨gb256, 2, none⟩ = some (.int .i64 x257002_59)) (ds := []) (bB 7 0) (by kernel_rfl) rfl rfl ⟨(blk_cell BK250.out 0).trans rfl, (blk_cell BK251.out 0).trans rfl, (blk_cell BK251.out 1).trans rfl, (blk_cell BK251.out 2).trans rfl, (blk_cell BK251.out 3).trans rfl, (blk_cell BK256.out 0).trans rfl, (blk_cell BK256.out 1).trans rfl, (blk_cell BK256.out 2).trans rfl⟩ (fun hHeld => ?_)
              generalize w268.drew = w269 at BK250 BK251 BK252 BK256 BK258 HB hHeld ⊢
              refine pX 1 111 (bB 7 2) (by kernel_rfl) ?_
              refine take_ (i := 0) (N := some 110) (v := ?_) (a' := ?_) (bB 7 3) rfl rfl (by kernel_rfl) (fun _ _ _ h => h) (Or.inl ⟨by rfl, ?_⟩) hHeld ?_ ?_
              rotate_left
              ·rintro w' ⟨s0, s1, s2, s3, s4, s5, s6, s7⟩
               go_simp
               with_reducible rfl
              rotate_left
              ·simp only [aP, aQ, sT, sZ, sU, i64_w, i32_w]
               rfl
              refine take_ (i := 2) (N := some 112) (v := ?_) (a' := ?_) (bB 7 7) rfl rfl (by kernel_rfl) (fun _ _ _ h => h) (Or.inl ⟨by rfl, ?_⟩) hHeld ?_ ?_
              rotate_left
              ·rintro w' ⟨s0, s1, s2, s3, s4, s5, s6, s7⟩
               go_simp
               with_reducible rfl
              rotate_left
              ·simp only [aP, aQ, sT, sZ, sU, i64_w, i32_w]
               rfl
              refine take_ (i := 4) (N := some 114) (v := ?_) (a' := ?_) (bB 7 23) rfl rfl (by kernel_rfl) (fun _ _ _ h => h) (Or.inl ⟨by rfl, ?_⟩) hHeld ?_ ?_
              rotate_left
              ·rintro w' ⟨s0, s1, s2, s3, s4, s5, s6, s7⟩
               go_simp
               with_reducible rfl
              rotate_left
              ·simp only [aP, aQ, sT, sZ, sU, i64_w, i32_w]
               rfl
              refine one_ (i := 3) (N := some 113) (bB 7 31) rfl rfl (by kernel_rfl) (by decide) (fun K hK => ?_)
              refine gX Try.func86 #[.agg #[.slice A0_0 l0_0.length c0_0], .string a1_1] ?_
              with_reducible refine (spec_l03Without.calls kj188 _ _ l0_0 a1_1 t268 _ ?side1 ?side2 A232.out).mono ?_
              (case side1 => exact uC HR0_0 HB)
              (case side2 => exact HC0_0.out)
              rintro e w270 ⟨v269, rfl, ho0, hb⟩
              refine ⟨_, rfl, ?_⟩
              have HO270 := aM (Kd.R_lower (Kd.R_newB ho0 (g := gb256) (o := .cells #[.string a1_3, .string x257001_59, .int .i64 x257002_59] 45 (0, 0)) (uB BK256)) (below_size (uL HB)))
              replace BK250 := blkB BK250 hb
              replace BK251 := blkB BK251 hb
              replace BK252 := blkB BK252 hb
              replace BK256 := blkB BK256 hb
              replace BK258 := blkB BK258 hb
              replace HB := aM (below_step (uL HB) hb)
              (try clear hb)
              (try clear hb2)
              (try clear hk)
              (try clear hi)
              (try clear ho0)
              obtain ⟨Ao271, co271, eo271⟩ := Kd.R_slice HO270.out
              (first | subst eo271 | (injection eo271 with f1_ f2_ f3_; have f4_ := f1_.symm; have f5_ := f3_.symm; clear f1_ f2_ f3_; subst f4_; subst f5_))
              refine hK.out _ _ ⟨(blk_cell BK250.out 0).trans rfl, (blk_cell BK251.out 0).trans rfl, (blk_cell BK251.out 1).trans rfl, (blk_cell BK251.out 2).trans rfl, (blk_cell BK251.out 3).trans rfl, (blk_cell BK256.out 0).trans rfl, (blk_cell BK256.out 1).trans rfl, (blk_cell BK256.out 2).trans rfl⟩ (fun hHeld => ?_)
              clear hK K
              refine nX 113 ?_
              refine one_ (i := 5) (N := some 115) (bB 7 63) rfl rfl (by kernel_rfl) (by decide) (fun K hK => ?_)
              refine gX Try.func79 #[.agg #[.slice Ao271 t268.length co271], .agg #[.string a1_3, .string x257001_59, .int .i64 x257002_59]] ?_
              with_reducible refine (spec_l03Put.calls kj188 _ _ t268 a1_3 x257001_59 x257002_59 t271 _ ?side1 ?side2 A233.out).mono ?_
              (case side1 => repeat (first | exact (Kd.R_reads' HO270.out).2.2 | (with_reducible refine cA ?_ _) | (with_reducible refine cN ?_ _) | (with_reducible refine cD ?_)))
              (case side2 => exact (Kd.R_reads' HO270.out).2.1)
              rintro e w272 ⟨v272, rfl, ho0, hb⟩
              refine ⟨_, rfl, ?_⟩
              have HO273 := aM (Kd.R_lower (Kd.R_newB (Kd.R_new' ho0 (Kd.R_lt (uR HO270))) (g := gb256) (o := .cells #[.string a1_3, .string x257001_59, .int .i64 x257002_59] 45 (0, 0)) (uB BK256)) (below_size (uL HB)))
              replace HO270 := aM (Kd.R_elder' (uR HO270) (Kd.R_base ho0) hb)
              replace BK250 := blkB BK250 hb
              replace BK251 := blkB BK251 hb
              replace BK252 := blkB BK252 hb
              replace BK256 := blkB BK256 hb
              replace BK258 := blkB BK258 hb
              replace HB := aM (below_step (uL HB) hb)
              (try clear hb)
              (try clear hb2)
              (try clear hk)
              (try clear hi)
              (try clear ho0)
              obtain ⟨Ao273, co273, eo273⟩ := Kd.R_slice HO273.out
              (first | subst eo273 | (injection eo273 with f1_ f2_ f3_; have f4_ := f1_.symm; have f5_ := f3_.symm; clear f1_ f2_ f3_; subst f4_; subst f5_))
              refine hK.out _ _ ⟨(blk_cell BK250.out 0).trans rfl, (blk_cell BK251.out 0).trans rfl, (blk_cell BK251.out 1).trans rfl, (blk_cell BK251.out 2).trans rfl, (blk_cell BK251.out 3).trans rfl, (blk_cell BK256.out 0).trans rfl, (blk_cell BK256.out 1).trans rfl, (blk_cell BK256.out 2).trans rfl⟩ (fun hHeld => ?_)
              clear hK K
              refine nX 115 ?_
              refine one_ (i := 6) (N := none) (bB 7 127) rfl rfl (by kernel_rfl) (by decide) (fun K hK => ?_)
              have hs274 := czA BK258.out 0 (.slice none 0 0)
              have hfs274 := blk_frozen BK258.out 0; have hns274_0 := NB250_258.out; have hns274_1 := NB251_258.out; have hns274_2 := NB252_258.out; have hns274_3 := NB256_258.out; have hms274_0 := NB258_250.out; have hms274_1 := NB258_251.out; have hms274_2 := NB258_252.out; have hms274_3 := NB258_256.out
              refine skip_ (w1 := ?_) (by rfl) rfl ?_ ?_
              rotate_left
              ·go_simp
               rfl
              refine hK.out _ _ ⟨((cell_far (p := ⟨gb258, _, none⟩) NB250_258.out _).trans (hHeld.1)), ((cell_far (p := ⟨gb258, _, none⟩) NB251_258.out _).trans (hHeld.2.1)), ((cell_far (p := ⟨gb258, _, none⟩) NB251_258.out _).trans (hHeld.2.2.1)), ((cell_far (p := ⟨gb258, _, none⟩) NB251_258.out _).trans (hHeld.2.2.2.1)), ((cell_far (p := ⟨gb258, _, none⟩) NB251_258.out _).trans (hHeld.2.2.2.2.1)), ((cell_far (p := ⟨gb258, _, none⟩) NB256_258.out _).trans (hHeld.2.2.2.2.2.1)), ((cell_far (p := ⟨gb258, _, none⟩) NB256_258.out _).trans (hHeld.2.2.2.2.2.2.1)), ((cell_far (p := ⟨gb258, _, none⟩) NB256_258.out _).trans (hHeld.2.2.2.2.2.2.2))⟩ (fun hHeld => ?_)
              clear hK K
              refine done_ (by kernel_rfl) ?_
              have hnb275 := NB258_250.out; have hnc275 := NB250_258.out; have hnb276 := NB258_252.out; have hnc276 := NB252_258.out
              have hcz277_0 := czA BK258.out 0 (.slice none 0 0)
              have hfz277_0 := blk_frozen BK258.out 0
              try go_wp2_with (first | ((with_reducible refine gate_callee (f := 20) rfl ?_); refine gL (some 125) Try.func20 #[.agg #[.slice Ao273 t271.length co273]] ?_; (with_reducible refine (spec_DiskOk.calls kj188 _ _ t271 false _ ?side1 ?side2 A234.out).mono ?_); (case side1 => refine (Kd.R_reads' (e := 45) (base := w.heap.size) (ok := fun k_ => ((True ∧ some k_ ≠ (.slice Ao271 t268.length co271 : Value).ownBlock) ∧ k_ ≠ gb256)) (n := t271.length) (c := co273) ?_).2.2; exact (by (with_reducible repeat first | apply rA | apply rN | apply rD); exact (Kd.R_mono (Kd.R_far (p := ⟨gb258, 0, none⟩) (Kd.R_types HO273.out BK258.out (by decide)) (fun _ hk => hk.2) (.slice Ao273 t271.length co273)) (fun _ h_ => h_.1)))); (case side2 => exact (Kd.R_reads' HO273.out).2.1); rintro e w278 ⟨rfl, hb⟩; refine ⟨_, rfl, ?_⟩; replace HO270 := aM (Kd.R_below (by (with_reducible repeat first | apply rA | apply rN | apply rD); exact (Kd.R_mono (Kd.R_far (p := ⟨gb258, 0, none⟩) (Kd.R_types HO270.out BK258.out (by decide)) (fun _ hk => hk.2) (.slice Ao273 t271.length co273)) (fun _ h_ => h_.1))) hb); replace HO273 := aM (Kd.R_below (by (with_reducible repeat first | apply rA | apply rN | apply rD); exact (Kd.R_mono (Kd.R_far (p := ⟨gb258, 0, none⟩) (Kd.R_types HO273.out BK258.out (by decide)) (fun _ hk => hk.2) (.slice Ao273 t271.length co273)) (fun _ h_ => h_.1))) hb); replace BK250 := blkB BK250 hb; replace BK251 := blkB BK251 hb; replace BK252 := blkB BK252 hb; replace BK256 := blkB BK256 hb; replace BK258 := aM (blk_below (g := gb258) (o := .cells #[.slice Ao273 t271.length co273] 30 (0, 0)) (by refine nB ?_; refine blk_put (cs := #[.slice none 0 0]) ?_ 0 _ rfl; exact nB BK258.out) hb); replace HB := aM (below_step (uL HB) hb); try clear hb; have hnb279 := NB252_250.out; have hnc279 := NB250_252.out; have hcz280_0 := czA BK252.out 0 (.slice none 0 0); have hfz280_0 := blk_frozen BK252.out 0))
              refine bodyPost_ret (results_ct rfl _ _ gb252 30 #[.slice none 0 0] (0, 0) _ rfl (by refine nB ?_; refine blk_put (cs := #[.slice none 0 0]) ?_ 0 _ rfl; exact nB BK252.out) Try.underlying30 rfl (by kernel_rfl)) rfl ?_
              exact ⟨_, by first | rfl | (simp [errW_none, errW_some] <;> rfl) | (simp [*, errW_none, errW_some] <;> rfl), by first | exact Kd.R_nil _ _ _ _ _ | exact Kd.N_nil _ _ _ _ _ | exact Kd.V_nil _ _ _ _ _ | exact Kd.Q_nil _ _ _ _ _ | exact Kd.S_nil _ _ _ _ _, uL HB⟩
         case' L10n =>
          rw [if_neg c188] at H
          have c188b0 : (a1_0 == 3) = false := beq_eq_false_iff_ne.mpr c188
          have c188b1 : (a1_0 != 3) = true := bne_iff_ne.mpr c188
          refine Classical.byCases (p := a1_0 = 4) (fun c281 => ?L11p) (fun c281 => ?L11n)
          case' L11p =>
           rw [if_pos c281] at H
           have c281b0 : (a1_0 == 4) = true := beq_iff_eq.mpr c281
           have c281b1 : (a1_0 != 4) = false := bne_eq_false_iff_eq.mpr c281
           clear c281
           replace H := Option.bind_eq_some_iff.mp H
           obtain ⟨t275, A2820, H⟩ := H
           try dsimp only at H
           have A282 := aM A2820
           clear A2820
           replace H := Option.bind_eq_some_iff.mp H
           obtain ⟨t278, A2830, H⟩ := H
           replace H : (if t278 = true then (some (t275, true)) else (some (([] : List (S45)), false))) = some (r1, r2) := H
           have A283 := aM A2830
           clear A2830
           by_cases c284 : t278 = true
           ·subst c284
            have H1 : (some (t275, true)) = some (r1, r2) := by rw [if_pos rfl] at H; exact H
            clear H; have H := H1; clear H1
            simp only [Option.some.injEq, Prod.mk.injEq] at H
            obtain ⟨rfl, rfl⟩ := H
            go_wp2_with (first | ((with_reducible refine gate_dst (N := 8) rfl ?_); refine bxE 8 #[.slice none 0 0] 30 ?_; intro gb258 hg w285 hbox hb; have BK258 := aM (hbox); have GW258 := szG hg (uL HB); have GE258 := szG hg (uL HB); have NB250_258 := neL hg BK250; have NB258_250 := neG hg BK250; have NB251_258 := neL hg BK251; have NB258_251 := neG hg BK251; have NB252_258 := neL hg BK252; have NB258_252 := neG hg BK252; have NB256_258 := neL hg BK256; have NB258_256 := neG hg BK256; replace BK250 := blkB BK250 hb; replace BK251 := blkB BK251 hb; replace BK252 := blkB BK252 hb; replace BK256 := blkB BK256 hb; replace HB := aM (below_step (uL HB) hb); clear hb hbox hg; have hnb286 := NB258_250.out; have hnc286 := NB250_258.out; have hnb287 := NB258_251.out; have hnc287 := NB251_258.out; have hnb288 := NB258_252.out; have hnc288 := NB252_258.out; have hnb289 := NB258_256.out; have hnc289 := NB256_258.out; have hcz290_0 := czA BK258.out 0 (.slice none 0 0); have hfz290_0 := blk_frozen BK258.out 0; have hnb291 := NB251_250.out; have hnc291 := NB250_251.out; have hnb292 := NB251_252.out; have hnc292 := NB252_251.out; have hnb293 := NB251_256.out; have hnc293 := NB256_251.out; have hcz294_0 := czA BK251.out 0 (.int .i64 a1_0); have hcz294_1 := czA BK251.out 1 (.string a1_1); have hcz294_2 := czA BK251.out 2 (.string a1_2); have hcz294_3 := czA BK251.out 3 (.string a1_3); have hfz294_0 := blk_frozen BK251.out 0; have hfz294_1 := blk_frozen BK251.out 1; have hfz294_2 := blk_frozen BK251.out 2; have hfz294_3 := blk_frozen BK251.out 3; have hnb295 := NB250_252.out; have hnc295 := NB252_250.out; have hnb296 := NB250_256.out; have hnc296 := NB256_250.out; have hcz297_0 := czA BK250.out 0 (.slice A0_0 l0_0.length c0_0); have hfz297_0 := blk_frozen BK250.out 0) | ((with_reducible refine gate_callee (f := 86) rfl ?_); refine gL (some 123) Try.func86 #[.agg #[.slice A0_0 l0_0.length c0_0], .string a1_1] ?_; (with_reducible refine (spec_l03Without.calls kj59 _ _ l0_0 a1_1 t275 _ ?side1 ?side2 A282.out).mono ?_); (case side1 => exact Kd.C_below HR0_0.out (uL HB)); (case side2 => exact HC0_0.out); rintro e w298 ⟨v276, rfl, ho0, hb⟩; refine ⟨_, rfl, ?_⟩; have HO277 := aM (Kd.R_lower (Kd.R_newB ho0 (g := gb256) (o := .cells #[.string x257000_59, .string x257001_59, .int .i64 x257002_59] 45 (0, 0)) (by refine nB ?_; refine blk_far ?_ NB256_258.out _; exact nB BK256.out)) (below_size (uL HB))); replace BK250 := blkB BK250 hb; replace BK251 := blkB BK251 hb; replace BK252 := blkB BK252 hb; replace BK256 := blkB BK256 hb; replace BK258 := aM (blk_below (g := gb258) (o := .cells #[.slice none 0 0] 30 (0, 0)) (by refine nB ?_; refine blk_put (cs := #[.slice none 0 0]) ?_ 0 _ rfl; exact nB BK258.out) hb); replace HB := aM (below_step (uL HB) hb); try clear hb ho0; obtain ⟨Ao299, co299, eo299⟩ := Kd.R_slice HO277.out; subst eo299; have hcz300_0 := czA BK258.out 0 (.slice none 0 0); have hfz300_0 := blk_frozen BK258.out 0) | ((with_reducible refine gate_callee (f := 20) rfl ?_); refine gL (some 125) Try.func20 #[.agg #[.slice Ao299 t275.length co299]] ?_; (with_reducible refine (spec_DiskOk.calls kj59 _ _ t275 true _ ?side1 ?side2 A283.out).mono ?_); (case side1 => refine (Kd.R_reads' (e := 45) (base := w.heap.size) (ok := fun k_ => (True ∧ k_ ≠ gb256)) (n := t275.length) (c := co299) ?_).2.2; exact (by (with_reducible repeat first | apply rA | apply rN | apply rD); exact (Kd.R_mono (Kd.R_far (p := ⟨gb258, 0, none⟩) (Kd.R_types HO277.out BK258.out (by decide)) (fun _ hk => hk.2) (.slice Ao299 t275.length co299)) (fun _ h_ => h_.1)))); (case side2 => exact (Kd.R_reads' HO277.out).2.1); rintro e w301 ⟨rfl, hb⟩; refine ⟨_, rfl, ?_⟩; replace HO277 := aM (Kd.R_below (by (with_reducible repeat first | apply rA | apply rN | apply rD); exact (Kd.R_mono (Kd.R_far (p := ⟨gb258, 0, none⟩) (Kd.R_types HO277.out BK258.out (by decide)) (fun _ hk => hk.2) (.slice Ao299 t275.length co299)) (fun _ h_ => h_.1))) hb); replace BK250 := blkB BK250 hb; replace BK251 := blkB BK251 hb; replace BK252 := blkB BK252 hb; replace BK256 := blkB BK256 hb; replace BK258 := aM (blk_below (g := gb258) (o := .cells #[.slice Ao299 t275.length co299] 30 (0, 0)) (by refine nB ?_; refine blk_put (cs := #[.slice none 0 0]) ?_ 0 _ rfl; exact nB BK258.out) hb); replace HB := aM (below_step (uL HB) hb); try clear hb; have hcz302_0 := czA BK258.out 0 (.slice Ao299 t275.length co299); have hfz302_0 := blk_frozen BK258.out 0; have hnb303 := NB252_256.out; have hnc303 := NB256_252.out; have hcz304_0 := czA BK252.out 0 (.slice none 0 0); have hfz304_0 := blk_frozen BK252.out 0))
            refine bodyPost_ret (results_ct rfl _ _ gb252 30 #[.slice Ao299 t275.length co299] (0, 0) _ rfl (by refine nB ?_; refine blk_put (cs := #[.slice none 0 0]) ?_ 0 _ rfl; exact nB BK252.out) Try.underlying30 rfl (by kernel_rfl)) rfl ?_
            exact ⟨_, by first | rfl | (simp [errW_none, errW_some] <;> rfl) | (simp [*, errW_none, errW_some] <;> rfl), by (with_reducible repeat first | apply rA | apply rN | apply rD); exact Kd.R_mono (Kd.R_far (p := ⟨gb252, 0, none⟩) (Kd.R_types HO277.out BK252.out (by decide)) (fun _ hk => hk.2) (.slice Ao299 t275.length co299)) (fun _ hk => trivial), uL HB⟩
           ·replace c284 := Bool.eq_false_iff.mpr c284
            subst c284
            have H1 : (some (([] : List (S45)), false)) = some (r1, r2) := by rw [if_neg (show ¬ (false = true) by decide)] at H; exact H
            clear H; have H := H1; clear H1
            simp only [Option.some.injEq, Prod.mk.injEq] at H
            obtain ⟨rfl, rfl⟩ := H
            go_wp2_with (first | ((with_reducible refine gate_dst (N := 8) rfl ?_); refine bxE 8 #[.slice none 0 0] 30 ?_; intro gb258 hg w305 hbox hb; have BK258 := aM (hbox); have GW258 := szG hg (uL HB); have GE258 := szG hg (uL HB); have NB250_258 := neL hg BK250; have NB258_250 := neG hg BK250; have NB251_258 := neL hg BK251; have NB258_251 := neG hg BK251; have NB252_258 := neL hg BK252; have NB258_252 := neG hg BK252; have NB256_258 := neL hg BK256; have NB258_256 := neG hg BK256; replace BK250 := blkB BK250 hb; replace BK251 := blkB BK251 hb; replace BK252 := blkB BK252 hb; replace BK256 := blkB BK256 hb; replace HB := aM (below_step (uL HB) hb); clear hb hbox hg; have hnb306 := NB258_250.out; have hnc306 := NB250_258.out; have hnb307 := NB258_251.out; have hnc307 := NB251_258.out; have hnb308 := NB258_252.out; have hnc308 := NB252_258.out; have hnb309 := NB258_256.out; have hnc309 := NB256_258.out; have hcz310_0 := czA BK258.out 0 (.slice none 0 0); have hfz310_0 := blk_frozen BK258.out 0; have hnb311 := NB251_250.out; have hnc311 := NB250_251.out; have hnb312 := NB251_252.out; have hnc312 := NB252_251.out; have hnb313 := NB251_256.out; have hnc313 := NB256_251.out; have hcz314_0 := czA BK251.out 0 (.int .i64 a1_0); have hcz314_1 := czA BK251.out 1 (.string a1_1); have hcz314_2 := czA BK251.out 2 (.string a1_2); have hcz314_3 := czA BK251.out 3 (.string a1_3); have hfz314_0 := blk_frozen BK251.out 0; have hfz314_1 := blk_frozen BK251.out 1; have hfz314_2 := blk_frozen BK251.out 2; have hfz314_3 := blk_frozen BK251.out 3; have hnb315 := NB250_252.out; have hnc315 := NB252_250.out; have hnb316 := NB250_256.out; have hnc316 := NB256_250.out; have hcz317_0 := czA BK250.out 0 (.slice A0_0 l0_0.length c0_0); have hfz317_0 := blk_frozen BK250.out 0) | ((with_reducible refine gate_callee (f := 86) rfl ?_); refine gL (some 123) Try.func86 #[.agg #[.slice A0_0 l0_0.length c0_0], .string a1_1] ?_; (with_reducible refine (spec_l03Without.calls kj59 _ _ l0_0 a1_1 t275 _ ?side1 ?side2 A282.out).mono ?_); (case side1 => exact Kd.C_below HR0_0.out (uL HB)); (case side2 => exact HC0_0.out); rintro e w318 ⟨v276, rfl, ho0, hb⟩; refine ⟨_, rfl, ?_⟩; have HO277 := aM (Kd.R_lower (Kd.R_newB ho0 (g := gb256) (o := .cells #[.string x257000_59, .string x257001_59, .int .i64 x257002_59] 45 (0, 0)) (by refine nB ?_; refine blk_far ?_ NB256_258.out _; exact nB BK256.out)) (below_size (uL HB))); replace BK250 := blkB BK250 hb; replace BK251 := blkB BK251 hb; replace BK252 := blkB BK252 hb; replace BK256 := blkB BK256 hb; replace BK258 := aM (blk_below (g := gb258) (o := .cells #[.slice none 0 0] 30 (0, 0)) (by refine nB ?_; refine blk_put (cs := #[.slice none 0 0]) ?_ 0 _ rfl; exact nB BK258.out) hb); replace HB := aM (below_step (uL HB) hb); try clear hb ho0; obtain ⟨Ao319, co319, eo319⟩ := Kd.R_slice HO277.out; subst eo319; have hcz320_0 := czA BK258.out 0 (.slice none 0 0); have hfz320_0 := blk_frozen BK258.out 0) | ((with_reducible refine gate_callee (f := 20) rfl ?_); refine gL (some 125) Try.func20 #[.agg #[.slice Ao319 t275.length co319]] ?_; (with_reducible refine (spec_DiskOk.calls kj59 _ _ t275 false _ ?side1 ?side2 A283.out).mono ?_); (case side1 => refine (Kd.R_reads' (e := 45) (base := w.heap.size) (ok := fun k_ => (True ∧ k_ ≠ gb256)) (n := t275.length) (c := co319) ?_).2.2; exact (by (with_reducible repeat first | apply rA | apply rN | apply rD); exact (Kd.R_mono (Kd.R_far (p := ⟨gb258, 0, none⟩) (Kd.R_types HO277.out BK258.out (by decide)) (fun _ hk => hk.2) (.slice Ao319 t275.length co319)) (fun _ h_ => h_.1)))); (case side2 => exact (Kd.R_reads' HO277.out).2.1); rintro e w321 ⟨rfl, hb⟩; refine ⟨_, rfl, ?_⟩; replace HO277 := aM (Kd.R_below (by (with_reducible repeat first | apply rA | apply rN | apply rD); exact (Kd.R_mono (Kd.R_far (p := ⟨gb258, 0, none⟩) (Kd.R_types HO277.out BK258.out (by decide)) (fun _ hk => hk.2) (.slice Ao319 t275.length co319)) (fun _ h_ => h_.1))) hb); replace BK250 := blkB BK250 hb; replace BK251 := blkB BK251 hb; replace BK252 := blkB BK252 hb; replace BK256 := blkB BK256 hb; replace BK258 := aM (blk_below (g := gb258) (o := .cells #[.slice Ao319 t275.length co319] 30 (0, 0)) (by refine nB ?_; refine blk_put (cs := #[.slice none 0 0]) ?_ 0 _ rfl; exact nB BK258.out) hb); replace HB := aM (below_step (uL HB) hb); try clear hb; have hnb322 := NB252_256.out; have hnc322 := NB256_252.out; have hcz323_0 := czA BK252.out 0 (.slice none 0 0); have hfz323_0 := blk_frozen BK252.out 0))
            refine bodyPost_ret (results_ct rfl _ _ gb252 30 #[.slice none 0 0] (0, 0) _ rfl (by refine nB ?_; refine blk_put (cs := #[.slice none 0 0]) ?_ 0 _ rfl; exact nB BK252.out) Try.underlying30 rfl (by kernel_rfl)) rfl ?_
            exact ⟨_, by first | rfl | (simp [errW_none, errW_some] <;> rfl) | (simp [*, errW_none, errW_some] <;> rfl), by first | exact Kd.R_nil _ _ _ _ _ | exact Kd.N_nil _ _ _ _ _ | exact Kd.V_nil _ _ _ _ _ | exact Kd.Q_nil _ _ _ _ _ | exact Kd.S_nil _ _ _ _ _, uL HB⟩
          case' L11n =>
           rw [if_neg c281] at H
           have c281b0 : (a1_0 == 4) = false := beq_eq_false_iff_ne.mpr c281
           have c281b1 : (a1_0 != 4) = true := bne_iff_ne.mpr c281
           simp only [Option.some.injEq, Prod.mk.injEq] at H
           obtain ⟨rfl, rfl⟩ := H
      case L8p | L8n =>
       go_wp2_with (first | ((with_reducible refine gate_dst (N := 8) rfl ?_); refine bxE 8 #[.slice none 0 0] 30 ?_; intro gb258 hg w130 hbox hb; have BK258 := aM (hbox); have GW258 := szG hg (uL HB); have GE258 := szG hg (uL HB); have NB250_258 := neL hg BK250; have NB258_250 := neG hg BK250; have NB251_258 := neL hg BK251; have NB258_251 := neG hg BK251; have NB252_258 := neL hg BK252; have NB258_252 := neG hg BK252; have NB256_258 := neL hg BK256; have NB258_256 := neG hg BK256; replace BK250 := blkB BK250 hb; replace BK251 := blkB BK251 hb; replace BK252 := blkB BK252 hb; replace BK256 := blkB BK256 hb; replace HB := aM (below_step (uL HB) hb); clear hb hbox hg; have hnb131 := NB258_250.out; have hnc131 := NB250_258.out; have hnb132 := NB258_251.out; have hnc132 := NB251_258.out; have hnb133 := NB258_252.out; have hnc133 := NB252_258.out; have hnb134 := NB258_256.out; have hnc134 := NB256_258.out; have hcz135_0 := czA BK258.out 0 (.slice none 0 0); have hfz135_0 := blk_frozen BK258.out 0; have hnb136 := NB251_250.out; have hnc136 := NB250_251.out; have hnb137 := NB251_252.out; have hnc137 := NB252_251.out; have hnb138 := NB251_256.out; have hnc138 := NB256_251.out; have hcz139_0 := czA BK251.out 0 (.int .i64 a1_0); have hcz139_1 := czA BK251.out 1 (.string a1_1); have hcz139_2 := czA BK251.out 2 (.string a1_2); have hcz139_3 := czA BK251.out 3 (.string a1_3); have hfz139_0 := blk_frozen BK251.out 0; have hfz139_1 := blk_frozen BK251.out 1; have hfz139_2 := blk_frozen BK251.out 2; have hfz139_3 := blk_frozen BK251.out 3; have hnb140 := NB252_250.out; have hnc140 := NB250_252.out; have hnb141 := NB252_256.out; have hnc141 := NB256_252.out; have hcz142_0 := czA BK252.out 0 (.slice none 0 0); have hfz142_0 := blk_frozen BK252.out 0))
       refine bodyPost_ret (results_ct rfl _ _ gb252 30 #[.slice none 0 0] (0, 0) _ rfl (by refine nB ?_; refine blk_put (cs := #[.slice none 0 0]) ?_ 0 _ rfl; refine nB ?_; refine blk_far ?_ NB252_258.out _; exact nB BK252.out) Try.underlying30 rfl (by kernel_rfl)) rfl ?_
       exact ⟨_, by first | rfl | (simp [errW_none, errW_some] <;> rfl) | (simp [*, errW_none, errW_some] <;> rfl), by first | exact Kd.R_nil _ _ _ _ _ | exact Kd.N_nil _ _ _ _ _ | exact Kd.V_nil _ _ _ _ _ | exact Kd.Q_nil _ _ _ _ _ | exact Kd.S_nil _ _ _ _ _, uL HB⟩

end Go.Proofs.Ytidfhfaekdahpaa.QFnExactCutActs
