-- Own work (wip/turnprint.py over the kit's print).
import Derived.Test.YthomiofokkkhgaaQFnCountsx0
import Derived.Test.YthomiofokkkhgaaQFnCountsx1
import Derived.Test.YthomiofokkkhgaaQFnCountsx2
import Derived.Test.YthomiofokkkhgaaQFnCountsx4
namespace Go.Proofs.Ythomiofokkkhgaa.QFnCounts
open Go.RowKit Go.Proofs.YthomiofokkkhgaaW.PrintWords Go.Proofs.YthomiofokkkhgaaW.PrintLast Go.Proofs.YthomiofokkkhgaaW.PrintMore
attribute [local go_sem] max2_int min2_int max_two min_two max_three min_three max_four min_four   -- for this text's walks alone
set_option linter.unusedVariables false
set_option linter.unusedSimpArgs false

/-! ### spec_ParseCron: function 6 -/
mutual
def spec_ParseCron.j0 : Nat → List ByteArray → Bool → Option (List Int × List Int × List Int × List Int × List Int × Bool)
 | 0, _, _ => none
 | k + 1, x4, x20 => if x20 = true then (some (([] : List Int), ([] : List Int), ([] : List Int), ([] : List Int), ([] : List Int), false)) else (if 5 ≤ 281474976710656 then ((some (List.replicate 5 false : List Bool)).bind fun y267 => (if 0 < (x4.length : Int) then ((spec_l10Field.f k (rdOf ByteArray.empty x4 0) 0 59).bind fun bt271 => (if 0 < (y267.length : Int) then (if 1 < (x4.length : Int) then ((spec_l10Field.f k (rdOf ByteArray.empty x4 1) 0 23).bind fun bt277 => (if 1 < (y267.length : Int) then (if 2 < (x4.length : Int) then ((spec_l10Field.f k (rdOf ByteArray.empty x4 2) 1 31).bind fun bt283 => (if 2 < (y267.length : Int) then (if 3 < (x4.length : Int) then ((spec_l10Field.f k (rdOf ByteArray.empty x4 3) 1 12).bind fun bt289 => (if 3 < (y267.length : Int) then (if 4 < (x4.length : Int) then ((spec_l10Field.f k (rdOf ByteArray.empty x4 4) 0 6).bind fun bt295 => (if 4 < (y267.length : Int) then (spec_ParseCron.l0 k (((((y267.set (0 : Int).toNat bt271.2).set (1 : Int).toNat bt277.2).set (2 : Int).toNat bt283.2).set (3 : Int).toNat bt289.2).set (4 : Int).toNat bt295.2) 0 bt271.1 bt277.1 bt283.1 bt289.1 bt295.1) else (none))) else (none)) else (none))) else (none)) else (none))) else (none)) else (none))) else (none)) else (none))) else (none))) else (none))
def spec_ParseCron.l0 : Nat → List Bool → Int → List Int → List Int → List Int → List Int → List Int → Option (List Int × List Int × List Int × List Int × List Int × Bool)
 | 0, _, _, _, _, _, _, _ => none
 | k + 1, x7, x8, x267000, x267001, x267002, x267003, x267004 => if x8 < 5 then (if 0 ≤ x8 then (if x8 < (x7.length : Int) then (if rdOf false x7 x8 = true then (spec_ParseCron.l0 k x7 (wrap64 (x8 + 1)) x267000 x267001 x267002 x267003 x267004) else (some (([] : List Int), ([] : List Int), ([] : List Int), ([] : List Int), ([] : List Int), false))) else (none)) else (none)) else (some (x267000, x267001, x267002, x267003, x267004, true))
end
def spec_ParseCron.f (k : Nat) (a0 : ByteArray) : Option (List Int × List Int × List Int × List Int × List Int × Bool) := (spec_PartsOf.f k a0).bind fun bt262 => (if bt262.2 = true then (spec_ParseCron.j0 k bt262.1 ((bt262.1.length : Int) != 5)) else (spec_ParseCron.j0 k bt262.1 true))
theorem spec_ParseCron.mono_l : ∀ k, (∀ y0 y1, LeO (spec_ParseCron.j0 k y0 y1) (spec_ParseCron.j0 (k + 1) y0 y1)) ∧ (∀ y0 y1 y2 y3 y4 y5 y6, LeO (spec_ParseCron.l0 k y0 y1 y2 y3 y4 y5 y6) (spec_ParseCron.l0 (k + 1) y0 y1 y2 y3 y4 y5 y6))
 | 0 => ⟨fun _ _ r h => by simp [spec_ParseCron.j0] at h, fun _ _ _ _ _ _ _ r h => by simp [spec_ParseCron.l0] at h⟩
 | k + 1 => by
  obtain ⟨ih0, ih1⟩ := spec_ParseCron.mono_l k
  refine ⟨?_, ?_⟩
  ·intro y0 y1
   unfold spec_ParseCron.j0
   repeat' first
   | (with_reducible exact ih0 _ _)
   | (with_reducible exact ih1 _ _ _ _ _ _ _)
   | (with_reducible exact spec_PartsOf.mono _ _)
   | (with_reducible exact spec_l10Field.mono _ _ _ _)
   | (with_reducible exact LeO.refl _)
   | (with_reducible exact LeO.none _)
   | (with_reducible refine LeO.ite ?_ ?_)
   | (with_reducible refine LeO.bind ?_ (fun _ => ?_))
   | exact ih0 _ _
   | exact ih1 _ _ _ _ _ _ _
   | exact spec_PartsOf.mono _ _
   | exact spec_l10Field.mono _ _ _ _
   | exact LeO.none _
   | refine LeO.ite ?_ ?_
   | refine LeO.bind ?_ (fun _ => ?_)
  ·intro y0 y1 y2 y3 y4 y5 y6
   unfold spec_ParseCron.l0
   repeat' first
   | (with_reducible exact ih0 _ _)
   | (with_reducible exact ih1 _ _ _ _ _ _ _)
   | (with_reducible exact spec_PartsOf.mono _ _)
   | (with_reducible exact spec_l10Field.mono _ _ _ _)
   | (with_reducible exact LeO.refl _)
   | (with_reducible exact LeO.none _)
   | (with_reducible refine LeO.ite ?_ ?_)
   | (with_reducible refine LeO.bind ?_ (fun _ => ?_))
   | exact ih0 _ _
   | exact ih1 _ _ _ _ _ _ _
   | exact spec_PartsOf.mono _ _
   | exact spec_l10Field.mono _ _ _ _
   | exact LeO.none _
   | refine LeO.ite ?_ ?_
   | refine LeO.bind ?_ (fun _ => ?_)
theorem spec_ParseCron.mono : ∀ a0 k, LeO (spec_ParseCron.f k a0) (spec_ParseCron.f (k + 1) a0) := by
 intro a0 k
 obtain ⟨ih0, ih1⟩ := spec_ParseCron.mono_l k
 unfold spec_ParseCron.f
 repeat' first
  | (with_reducible exact ih0 _ _)
  | (with_reducible exact ih1 _ _ _ _ _ _ _)
  | (with_reducible exact spec_PartsOf.mono _ _)
  | (with_reducible exact spec_l10Field.mono _ _ _ _)
  | (with_reducible exact LeO.refl _)
  | (with_reducible exact LeO.none _)
  | (with_reducible refine LeO.ite ?_ ?_)
  | (with_reducible refine LeO.bind ?_ (fun _ => ?_))
  | exact ih0 _ _
  | exact ih1 _ _ _ _ _ _ _
  | exact spec_PartsOf.mono _ _
  | exact spec_l10Field.mono _ _ _ _
  | exact LeO.none _
  | refine LeO.ite ?_ ?_
  | refine LeO.bind ?_ (fun _ => ?_)
set_option maxHeartbeats 8000000 in
set_option maxRecDepth 100000 in
theorem spec_ParseCron.calls (k : Nat) (a0 : ByteArray) (r1 : List Int) (r2 : List Int) (r3 : List Int) (r4 : List Int) (r5 : List Int) (r6 : Bool) (w : World) (h : spec_ParseCron.f k a0 = some (r1, r2, r3, r4, r5, r6)) :
 Calls Try.prog 6 #[.string a0] w fun e w' => ∃ v0_ v1_ v2_ v3_ v4_ : Value, e = .returned (.tuple #[.agg #[v0_, v1_, v2_, v3_, v4_], .bool r6]) ∧ Kd.R (Kd.int .i64) 3 w' w.heap.size (fun k_ => some k_ ≠ (v1_ : Value).ownBlock ∧ some k_ ≠ (v2_ : Value).ownBlock ∧ some k_ ≠ (v3_ : Value).ownBlock ∧ some k_ ≠ (v4_ : Value).ownBlock) v0_ r1 ∧ Kd.R (Kd.int .i64) 3 w' w.heap.size (fun k_ => some k_ ≠ (v0_ : Value).ownBlock ∧ some k_ ≠ (v2_ : Value).ownBlock ∧ some k_ ≠ (v3_ : Value).ownBlock ∧ some k_ ≠ (v4_ : Value).ownBlock) v1_ r2 ∧ Kd.R (Kd.int .i64) 3 w' w.heap.size (fun k_ => some k_ ≠ (v0_ : Value).ownBlock ∧ some k_ ≠ (v1_ : Value).ownBlock ∧ some k_ ≠ (v3_ : Value).ownBlock ∧ some k_ ≠ (v4_ : Value).ownBlock) v2_ r3 ∧ Kd.R (Kd.int .i64) 3 w' w.heap.size (fun k_ => some k_ ≠ (v0_ : Value).ownBlock ∧ some k_ ≠ (v1_ : Value).ownBlock ∧ some k_ ≠ (v2_ : Value).ownBlock ∧ some k_ ≠ (v4_ : Value).ownBlock) v3_ r4 ∧ Kd.R (Kd.int .i64) 3 w' w.heap.size (fun k_ => some k_ ≠ (v0_ : Value).ownBlock ∧ some k_ ≠ (v1_ : Value).ownBlock ∧ some k_ ≠ (v2_ : Value).ownBlock ∧ some k_ ≠ (v3_ : Value).ownBlock) v4_ r5 ∧ Below w.heap.size w w' := by
 have hu26 := Try.underlying26
 have HB := aM (Below.refl w.heap.size w)
 have H : ((spec_PartsOf.f k a0).bind fun bt262 => (if bt262.2 = true then (spec_ParseCron.j0 k bt262.1 ((bt262.1.length : Int) != 5)) else (spec_ParseCron.j0 k bt262.1 true))) = some (r1, r2, r3, r4, r5, r6) := h
 clear h
 replace H := Option.bind_eq_some_iff.mp H
 obtain ⟨⟨t262, t263⟩, A20, H⟩ := H
 replace H : (if t263 = true then (spec_ParseCron.j0 k t262 ((t262.length : Int) != 5)) else (spec_ParseCron.j0 k t262 true)) = some (r1, r2, r3, r4, r5, r6) := H
 have A2 := aM A20
 clear A20
 have HC3 := aM H
 clear H
 go_enter Try.func6, Try.ntmps6
 go_upto_region 2 with (first | ((with_reducible refine gate_dst (N := 2) rfl ?_); (try (refine gate_guard (by rfl) ?_; dsimp only)); refine bxE 2 #[.slice none 0 0, .slice none 0 0, .slice none 0 0, .slice none 0 0, .slice none 0 0] 26 ?_; intro gb261 hg w4 hbox hb; have BK261 := aM (hbox); have GW261 := szG hg (uL HB); have GE261 := szG hg (uL HB); replace HB := aM (below_step (uL HB) hb); clear hb hbox hg) | ((with_reducible refine gate_callee (f := 14) rfl ?_); refine gL (some 11) Try.func14 #[.string a0] ?_; (with_reducible refine (spec_PartsOf.calls k a0 t262 t263 _ A2.out).mono ?_); rintro e w5 ⟨v264, rfl, ho0, hb⟩; refine ⟨_, rfl, ?_⟩; have HO265 := aM (Kd.R_lower ho0 (below_size (uL HB))); replace BK261 := blkB BK261 hb; replace HB := aM (below_step (uL HB) hb); try clear hb ho0))
 (try simp only [Act.put, List.setIfInBounds_toArray, List.set_cons_zero, List.set_cons_succ])
 go_cut [20] (fun v20 wc => ∃ (kq : Nat) (x20_2 : Bool), v20 = .bool x20_2 ∧ Aside0 (spec_ParseCron.j0 kq t262 x20_2 = some (r1, r2, r3, r4, r5, r6)) ∧ Aside0 (kq ≤ k) ∧ Aside0 (Kd.R Kd.string 9 wc w.heap.size (fun _ => True) v264 t262) ∧ Aside0 (wc.heap[gb261]? = some (.cells #[(.slice none 0 0), (.slice none 0 0), (.slice none 0 0), (.slice none 0 0), (.slice none 0 0)] 26 (0, 0))) ∧ Aside0 (Below w.heap.size w wc))
 case first =>
  have H := HC3.out
  clear HC3
  by_cases c6 : t263 = true
  ·subst c6
   have H1 : (spec_ParseCron.j0 k t262 ((t262.length : Int) != 5)) = some (r1, r2, r3, r4, r5, r6) := by rw [if_pos rfl] at H; exact H
   clear H; have H := H1; clear H1
   have H' := aM H
   clear H
   obtain ⟨Ao7, co7, eo7⟩ := Kd.R_slice HO265.out
   subst eo7
   go_wp2
   go_meet
   case rel => exact ⟨_, (((t262.length : Int) != 5)), (by first | rfl | (simp; done) | (simp [*]; done)), H', ⟨by first | omega | exact Nat.le_refl _⟩, ⟨by (with_reducible repeat first | apply rA | apply rN | apply rD); exact HO265.out⟩, ⟨by exact nB BK261.out⟩, ⟨uL HB⟩⟩
  ·replace c6 := Bool.eq_false_iff.mpr c6
   subst c6
   have H1 : (spec_ParseCron.j0 k t262 true) = some (r1, r2, r3, r4, r5, r6) := by rw [if_neg (show ¬ (false = true) by decide)] at H; exact H
   clear H; have H := H1; clear H1
   have H' := aM H
   clear H
   go_wp2
   go_meet
   case rel => exact ⟨_, (true), (by first | rfl | (simp; done) | (simp [*]; done)), H', ⟨by first | omega | exact Nat.le_refl _⟩, ⟨by (with_reducible repeat first | apply rA | apply rN | apply rD); exact HO265.out⟩, ⟨by exact nB BK261.out⟩, ⟨uL HB⟩⟩
 case rest =>
  clear HC3
  try clear c1; try clear p2; try clear c6
  obtain ⟨kq, x20_2, rfl, HA, HJ2, HO_4, BK261, HB⟩ := hcut
  cases kq with
  | zero => exact absurd HA.out (by simp [spec_ParseCron.j0])
  | succ kj2 =>
   have H := HA.out
   clear HA
   simp only [spec_ParseCron.j0] at H
   by_cases c8 : x20_2 = true
   ·subst c8
    have H1 : (some (([] : List Int), ([] : List Int), ([] : List Int), ([] : List Int), ([] : List Int), false)) = some (r1, r2, r3, r4, r5, r6) := by rw [if_pos rfl] at H; exact H
    clear H; have H := H1; clear H1
    simp only [Option.some.injEq, Prod.mk.injEq] at H
    obtain ⟨rfl, rfl, rfl, rfl, rfl, rfl⟩ := H
    have hcz9_0 := czA BK261.out 0 (.slice none 0 0)
    have hcz9_1 := czA BK261.out 1 (.slice none 0 0)
    have hcz9_2 := czA BK261.out 2 (.slice none 0 0)
    have hcz9_3 := czA BK261.out 3 (.slice none 0 0)
    have hcz9_4 := czA BK261.out 4 (.slice none 0 0)
    have hfz9_0 := blk_frozen BK261.out 0; have hfz9_1 := blk_frozen BK261.out 1; have hfz9_2 := blk_frozen BK261.out 2; have hfz9_3 := blk_frozen BK261.out 3; have hfz9_4 := blk_frozen BK261.out 4
    go_wp2
    refine bodyPost_ret (results_ct rfl _ _ gb261 26 #[.slice none 0 0, .slice none 0 0, .slice none 0 0, .slice none 0 0, .slice none 0 0] (0, 0) _ rfl (by refine nB ?_; refine blk_put (cs := #[.slice none 0 0, .slice none 0 0, .slice none 0 0, .slice none 0 0, .slice none 0 0]) ?_ 4 _ rfl; refine nB ?_; refine blk_put (cs := #[.slice none 0 0, .slice none 0 0, .slice none 0 0, .slice none 0 0, .slice none 0 0]) ?_ 3 _ rfl; refine nB ?_; refine blk_put (cs := #[.slice none 0 0, .slice none 0 0, .slice none 0 0, .slice none 0 0, .slice none 0 0]) ?_ 2 _ rfl; refine nB ?_; refine blk_put (cs := #[.slice none 0 0, .slice none 0 0, .slice none 0 0, .slice none 0 0, .slice none 0 0]) ?_ 1 _ rfl; refine nB ?_; refine blk_put (cs := #[.slice none 0 0, .slice none 0 0, .slice none 0 0, .slice none 0 0, .slice none 0 0]) ?_ 0 _ rfl; exact nB BK261.out) Try.underlying26 rfl (by kernel_rfl)) rfl ?_
    exact ⟨_, _, _, _, _, by first | rfl | (simp [errW_none, errW_some] <;> rfl) | (simp [*, errW_none, errW_some] <;> rfl), by first | exact Kd.R_nil _ _ _ _ _ | exact Kd.N_nil _ _ _ _ _ | exact Kd.V_nil _ _ _ _ _ | exact Kd.Q_nil _ _ _ _ _ | exact Kd.S_nil _ _ _ _ _, by first | exact Kd.R_nil _ _ _ _ _ | exact Kd.N_nil _ _ _ _ _ | exact Kd.V_nil _ _ _ _ _ | exact Kd.Q_nil _ _ _ _ _ | exact Kd.S_nil _ _ _ _ _, by first | exact Kd.R_nil _ _ _ _ _ | exact Kd.N_nil _ _ _ _ _ | exact Kd.V_nil _ _ _ _ _ | exact Kd.Q_nil _ _ _ _ _ | exact Kd.S_nil _ _ _ _ _, by first | exact Kd.R_nil _ _ _ _ _ | exact Kd.N_nil _ _ _ _ _ | exact Kd.V_nil _ _ _ _ _ | exact Kd.Q_nil _ _ _ _ _ | exact Kd.S_nil _ _ _ _ _, by first | exact Kd.R_nil _ _ _ _ _ | exact Kd.N_nil _ _ _ _ _ | exact Kd.V_nil _ _ _ _ _ | exact Kd.Q_nil _ _ _ _ _ | exact Kd.S_nil _ _ _ _ _, uL HB⟩
   ·replace c8 := Bool.eq_false_iff.mpr c8
    subst c8
    rw [if_neg (show ¬ (false = true) by decide)] at H
    by_cases c10 : 5 ≤ 281474976710656
    ·rw [if_pos c10] at H
     have c10b0 := eq_true c10
     have c10b1 : decide (5 ≤ 281474976710656) = true := decide_eq_true c10
     clear c10
     obtain ⟨y267, hy267⟩ : ∃ y_ : List Bool, y_ = (List.replicate 5 false) := ⟨_, rfl⟩
     replace H : (if 0 < (t262.length : Int) then ((spec_l10Field.f kj2 (rdOf ByteArray.empty t262 0) 0 59).bind fun bt271 => (if 0 < (y267.length : Int) then (if 1 < (t262.length : Int) then ((spec_l10Field.f kj2 (rdOf ByteArray.empty t262 1) 0 23).bind fun bt277 => (if 1 < (y267.length : Int) then (if 2 < (t262.length : Int) then ((spec_l10Field.f kj2 (rdOf ByteArray.empty t262 2) 1 31).bind fun bt283 => (if 2 < (y267.length : Int) then (if 3 < (t262.length : Int) then ((spec_l10Field.f kj2 (rdOf ByteArray.empty t262 3) 1 12).bind fun bt289 => (if 3 < (y267.length : Int) then (if 4 < (t262.length : Int) then ((spec_l10Field.f kj2 (rdOf ByteArray.empty t262 4) 0 6).bind fun bt295 => (if 4 < (y267.length : Int) then (spec_ParseCron.l0 kj2 (((((y267.set (0 : Int).toNat bt271.2).set (1 : Int).toNat bt277.2).set (2 : Int).toNat bt283.2).set (3 : Int).toNat bt289.2).set (4 : Int).toNat bt295.2) 0 bt271.1 bt277.1 bt283.1 bt289.1 bt295.1) else (none))) else (none)) else (none))) else (none)) else (none))) else (none)) else (none))) else (none)) else (none))) else (none)) = some (r1, r2, r3, r4, r5, r6) := by first | (rw [hy267]; with_reducible exact H) | (have H2_ := (Option.bind_some _ _).symm.trans H; rw [hy267]; with_reducible exact H2_) | (have H2_ := (Option.bind_some _ _).symm.trans H; with_reducible exact H2_) | with_reducible exact H | (rw [hy267]; exact H) | exact H
     have Ny267 := aM hy267
     clear hy267
     by_cases c11 : 0 < (t262.length : Int)
     ·rw [if_pos c11] at H
      have c11b0 : decide (0 < (t262.length : Int)) = true := decide_eq_true c11
      have c11b1 : decide (0 < t262.length) = true := decide_eq_true (by omega)
      clear c11
      replace H := Option.bind_eq_some_iff.mp H
      obtain ⟨⟨t271, t272⟩, A120, H⟩ := H
      try dsimp only at H
      have A12 := aM A120
      clear A120
      by_cases c13 : 0 < (y267.length : Int)
      ·rw [if_pos c13] at H
       have c13b0 : decide (0 < (y267.length : Int)) = true := decide_eq_true c13
       have c13b1 : decide (0 < y267.length) = true := decide_eq_true (by omega)
       clear c13
       obtain ⟨y275, hy275⟩ : ∃ y_ : List Bool, y_ = (y267.set (0 : Int).toNat t272) := ⟨_, rfl⟩
       replace H : (if 1 < (t262.length : Int) then ((spec_l10Field.f kj2 (rdOf ByteArray.empty t262 1) 0 23).bind fun bt277 => (if 1 < (y267.length : Int) then (if 2 < (t262.length : Int) then ((spec_l10Field.f kj2 (rdOf ByteArray.empty t262 2) 1 31).bind fun bt283 => (if 2 < (y267.length : Int) then (if 3 < (t262.length : Int) then ((spec_l10Field.f kj2 (rdOf ByteArray.empty t262 3) 1 12).bind fun bt289 => (if 3 < (y267.length : Int) then (if 4 < (t262.length : Int) then ((spec_l10Field.f kj2 (rdOf ByteArray.empty t262 4) 0 6).bind fun bt295 => (if 4 < (y267.length : Int) then (spec_ParseCron.l0 kj2 ((((y275.set (1 : Int).toNat bt277.2).set (2 : Int).toNat bt283.2).set (3 : Int).toNat bt289.2).set (4 : Int).toNat bt295.2) 0 t271 bt277.1 bt283.1 bt289.1 bt295.1) else (none))) else (none)) else (none))) else (none)) else (none))) else (none)) else (none))) else (none)) = some (r1, r2, r3, r4, r5, r6) := by first | (rw [hy275]; with_reducible exact H) | (have H2_ := (Option.bind_some _ _).symm.trans H; rw [hy275]; with_reducible exact H2_) | (have H2_ := (Option.bind_some _ _).symm.trans H; with_reducible exact H2_) | with_reducible exact H | (rw [hy275]; exact H) | exact H
       have Ny275 := aM hy275
       clear hy275
       by_cases c15 : 1 < (t262.length : Int)
       ·rw [if_pos c15] at H
        have c15b0 : decide (1 < (t262.length : Int)) = true := decide_eq_true c15
        have c15b1 : decide (1 < t262.length) = true := decide_eq_true (by omega)
        clear c15
        replace H := Option.bind_eq_some_iff.mp H
        obtain ⟨⟨t277, t278⟩, A160, H⟩ := H
        try dsimp only at H
        have A16 := aM A160
        clear A160
        by_cases c17 : 1 < (y267.length : Int)
        ·rw [if_pos c17] at H
         have c17b0 : decide (1 < (y267.length : Int)) = true := decide_eq_true c17
         have c17b1 : decide (1 < y267.length) = true := decide_eq_true (by omega)
         clear c17
         obtain ⟨y281, hy281⟩ : ∃ y_ : List Bool, y_ = (y275.set (1 : Int).toNat t278) := ⟨_, rfl⟩
         replace H : (if 2 < (t262.length : Int) then ((spec_l10Field.f kj2 (rdOf ByteArray.empty t262 2) 1 31).bind fun bt283 => (if 2 < (y267.length : Int) then (if 3 < (t262.length : Int) then ((spec_l10Field.f kj2 (rdOf ByteArray.empty t262 3) 1 12).bind fun bt289 => (if 3 < (y267.length : Int) then (if 4 < (t262.length : Int) then ((spec_l10Field.f kj2 (rdOf ByteArray.empty t262 4) 0 6).bind fun bt295 => (if 4 < (y267.length : Int) then (spec_ParseCron.l0 kj2 (((y281.set (2 : Int).toNat bt283.2).set (3 : Int).toNat bt289.2).set (4 : Int).toNat bt295.2) 0 t271 t277 bt283.1 bt289.1 bt295.1) else (none))) else (none)) else (none))) else (none)) else (none))) else (none)) = some (r1, r2, r3, r4, r5, r6) := by first | (rw [hy281]; with_reducible exact H) | (have H2_ := (Option.bind_some _ _).symm.trans H; rw [hy281]; with_reducible exact H2_) | (have H2_ := (Option.bind_some _ _).symm.trans H; with_reducible exact H2_) | with_reducible exact H | (rw [hy281]; exact H) | exact H
         have Ny281 := aM hy281
         clear hy281
         by_cases c19 : 2 < (t262.length : Int)
         ·rw [if_pos c19] at H
          have c19b0 : decide (2 < (t262.length : Int)) = true := decide_eq_true c19
          have c19b1 : decide (2 < t262.length) = true := decide_eq_true (by omega)
          clear c19
          replace H := Option.bind_eq_some_iff.mp H
          obtain ⟨⟨t283, t284⟩, A200, H⟩ := H
          try dsimp only at H
          have A20 := aM A200
          clear A200
          by_cases c21 : 2 < (y267.length : Int)
          ·rw [if_pos c21] at H
           have c21b0 : decide (2 < (y267.length : Int)) = true := decide_eq_true c21
           have c21b1 : decide (2 < y267.length) = true := decide_eq_true (by omega)
           clear c21
           obtain ⟨y287, hy287⟩ : ∃ y_ : List Bool, y_ = (y281.set (2 : Int).toNat t284) := ⟨_, rfl⟩
           replace H : (if 3 < (t262.length : Int) then ((spec_l10Field.f kj2 (rdOf ByteArray.empty t262 3) 1 12).bind fun bt289 => (if 3 < (y267.length : Int) then (if 4 < (t262.length : Int) then ((spec_l10Field.f kj2 (rdOf ByteArray.empty t262 4) 0 6).bind fun bt295 => (if 4 < (y267.length : Int) then (spec_ParseCron.l0 kj2 ((y287.set (3 : Int).toNat bt289.2).set (4 : Int).toNat bt295.2) 0 t271 t277 t283 bt289.1 bt295.1) else (none))) else (none)) else (none))) else (none)) = some (r1, r2, r3, r4, r5, r6) := by first | (rw [hy287]; with_reducible exact H) | (have H2_ := (Option.bind_some _ _).symm.trans H; rw [hy287]; with_reducible exact H2_) | (have H2_ := (Option.bind_some _ _).symm.trans H; with_reducible exact H2_) | with_reducible exact H | (rw [hy287]; exact H) | exact H
           have Ny287 := aM hy287
           clear hy287
           by_cases c23 : 3 < (t262.length : Int)
           ·rw [if_pos c23] at H
            have c23b0 : decide (3 < (t262.length : Int)) = true := decide_eq_true c23
            have c23b1 : decide (3 < t262.length) = true := decide_eq_true (by omega)
            clear c23
            replace H := Option.bind_eq_some_iff.mp H
            obtain ⟨⟨t289, t290⟩, A240, H⟩ := H
            try dsimp only at H
            have A24 := aM A240
            clear A240
            by_cases c25 : 3 < (y267.length : Int)
            ·rw [if_pos c25] at H
             have c25b0 : decide (3 < (y267.length : Int)) = true := decide_eq_true c25
             have c25b1 : decide (3 < y267.length) = true := decide_eq_true (by omega)
             clear c25
             obtain ⟨y293, hy293⟩ : ∃ y_ : List Bool, y_ = (y287.set (3 : Int).toNat t290) := ⟨_, rfl⟩
             replace H : (if 4 < (t262.length : Int) then ((spec_l10Field.f kj2 (rdOf ByteArray.empty t262 4) 0 6).bind fun bt295 => (if 4 < (y267.length : Int) then (spec_ParseCron.l0 kj2 (y293.set (4 : Int).toNat bt295.2) 0 t271 t277 t283 t289 bt295.1) else (none))) else (none)) = some (r1, r2, r3, r4, r5, r6) := by first | (rw [hy293]; with_reducible exact H) | (have H2_ := (Option.bind_some _ _).symm.trans H; rw [hy293]; with_reducible exact H2_) | (have H2_ := (Option.bind_some _ _).symm.trans H; with_reducible exact H2_) | with_reducible exact H | (rw [hy293]; exact H) | exact H
             have Ny293 := aM hy293
             clear hy293
             by_cases c27 : 4 < (t262.length : Int)
             ·rw [if_pos c27] at H
              have c27b0 : decide (4 < (t262.length : Int)) = true := decide_eq_true c27
              have c27b1 : decide (4 < t262.length) = true := decide_eq_true (by omega)
              clear c27
              replace H := Option.bind_eq_some_iff.mp H
              obtain ⟨⟨t295, t296⟩, A280, H⟩ := H
              try dsimp only at H
              have A28 := aM A280
              clear A280
              by_cases c29 : 4 < (y267.length : Int)
              ·rw [if_pos c29] at H
               have c29b0 : decide (4 < (y267.length : Int)) = true := decide_eq_true c29
               have c29b1 : decide (4 < y267.length) = true := decide_eq_true (by omega)
               clear c29
               obtain ⟨y299, hy299⟩ : ∃ y_ : List Bool, y_ = (y293.set (4 : Int).toNat t296) := ⟨_, rfl⟩
               replace H : (spec_ParseCron.l0 kj2 y299 0 t271 t277 t283 t289 t295) = some (r1, r2, r3, r4, r5, r6) := by first | (rw [hy299]; with_reducible exact H) | (have H2_ := (Option.bind_some _ _).symm.trans H; rw [hy299]; with_reducible exact H2_) | (have H2_ := (Option.bind_some _ _).symm.trans H; with_reducible exact H2_) | with_reducible exact H | (rw [hy299]; exact H) | exact H
               have Ny299 := aM hy299
               clear hy299
               have H' := aM H
               clear H
               go_wp2_with (first | ((with_reducible refine gate_dst (N := 6) rfl ?_); (try (refine gate_guard (by rfl) ?_; dsimp only)); refine bxE 6 #[.slice none 0 0, .slice none 0 0, .slice none 0 0, .slice none 0 0, .slice none 0 0] 26 ?_; intro gb266 hg w31 hbox hb; have BK266 := aM (hbox); have GW266 := szG hg (uL HB); have GE266 := szG hg (uL HB); have NB261_266 := neL hg BK261; have NB266_261 := neG hg BK261; replace HO_4 := aM (Kd.R_below (uR HO_4) hb); replace BK261 := blkB BK261 hb; replace HB := aM (below_step (uL HB) hb); clear hb hbox hg; have hnb32 := NB266_261.out; have hnc32 := NB261_266.out; have hcz33_0 := czA BK266.out 0 (.slice none 0 0); have hcz33_1 := czA BK266.out 1 (.slice none 0 0); have hcz33_2 := czA BK266.out 2 (.slice none 0 0); have hcz33_3 := czA BK266.out 3 (.slice none 0 0); have hcz33_4 := czA BK266.out 4 (.slice none 0 0); have hfz33_0 := blk_frozen BK266.out 0; have hfz33_1 := blk_frozen BK266.out 1; have hfz33_2 := blk_frozen BK266.out 2; have hfz33_3 := blk_frozen BK266.out 3; have hfz33_4 := blk_frozen BK266.out 4) | ((with_reducible refine gate_dst (N := 23) rfl ?_); (try (refine gate_guard (by rfl) ?_; dsimp only)); refine Kd.R_make Kd.bool _ 4 rfl (N := 23) rfl 41 _ _ rfl 5 rfl rfl Try.underlying41 (.bool false) 1 info4 rfl (by decide) (by omega) false (ok := fun _ => True) (okp := fun _ => True) rfl (fun _ hk => hk) trivial (by omega) (by omega) (Below.refl _ _) (Nat.le_refl _) ?_; intro v268 w34 ho35 hb hg_ hnew_; clear hg_ hnew_; (first | rw [← Ny267.out] at ho35 | (simp only [Int.reduceToNat] at ho35; rw [← Ny267.out] at ho35)); have HO269 := aM (Kd.R_lower ho35 (below_size (uL HB))); replace HO_4 := aM (Kd.R_below (by (with_reducible repeat first | apply rA | apply rN | apply rD); exact (Kd.R_mono (Kd.R_far (p := ⟨gb266, 4, none⟩) (Kd.R_far (p := ⟨gb266, 3, none⟩) (Kd.R_far (p := ⟨gb266, 2, none⟩) (Kd.R_far (p := ⟨gb266, 1, none⟩) (Kd.R_far (p := ⟨gb266, 0, none⟩) (Kd.R_types HO_4.out BK266.out (by decide)) (fun _ hk => hk.2) (.slice none 0 0)) (fun _ hk => hk.2) (.slice none 0 0)) (fun _ hk => hk.2) (.slice none 0 0)) (fun _ hk => hk.2) (.slice none 0 0)) (fun _ hk => hk.2) (.slice none 0 0)) (fun _ h_ => h_.1))) hb); replace BK261 := blkB BK261 hb; replace BK266 := aM (blk_below (g := gb266) (o := .cells #[.slice none 0 0, .slice none 0 0, .slice none 0 0, .slice none 0 0, .slice none 0 0] 26 (0, 0)) (by refine nB ?_; refine blk_put (cs := #[.slice none 0 0, .slice none 0 0, .slice none 0 0, .slice none 0 0, .slice none 0 0]) ?_ 4 _ rfl; refine nB ?_; refine blk_put (cs := #[.slice none 0 0, .slice none 0 0, .slice none 0 0, .slice none 0 0, .slice none 0 0]) ?_ 3 _ rfl; refine nB ?_; refine blk_put (cs := #[.slice none 0 0, .slice none 0 0, .slice none 0 0, .slice none 0 0, .slice none 0 0]) ?_ 2 _ rfl; refine nB ?_; refine blk_put (cs := #[.slice none 0 0, .slice none 0 0, .slice none 0 0, .slice none 0 0, .slice none 0 0]) ?_ 1 _ rfl; refine nB ?_; refine blk_put (cs := #[.slice none 0 0, .slice none 0 0, .slice none 0 0, .slice none 0 0, .slice none 0 0]) ?_ 0 _ rfl; exact nB BK266.out) hb); replace HB := aM (below_step (uL HB) hb); clear hb ho35; obtain ⟨Ao36, co36, eo36⟩ := Kd.R_slice HO_4.out; subst eo36; have p270 : 0 ≤ (0 : Int) := (by omega); have q270 : 0 < (t262.length : Int) := of_decide_eq_true (by first | (with_reducible assumption) | assumption); obtain ⟨ad270, e270, hx270_0⟩ := Kd.at_string (Kd.R_reads' HO_4.out).2.2 0 p270 q270; cases e270; have qi270 : (0 < t262.length) = True := eq_true (by omega); (try rw [show ((0 : Int)).toNat = 0 from rfl] at hx270_0); (try rw [Addr.add_zero'] at hx270_0); replace p270 := eq_true p270; replace q270 := eq_true q270) | ((with_reducible refine gate_callee (f := 15) rfl ?_); refine gL (some 29) Try.func15 #[.string (rdOf ByteArray.empty t262 0), .int .i64 0, .int .i64 59] ?_; (with_reducible refine (spec_l10Field.calls kj2 (rdOf ByteArray.empty t262 0) 0 59 t271 t272 _ A12.out).mono ?_); rintro e w37 ⟨v273, rfl, ho0, hb⟩; refine ⟨_, rfl, ?_⟩; have HO274 := aM (Kd.R_lower ho0 (below_size (uL HB))); replace HO_4 := aM (Kd.R_below (uR HO_4) hb); replace HO269 := aM (Kd.R_below (uR HO269) hb); replace BK261 := blkB BK261 hb; replace BK266 := blkB BK266 hb; replace HB := aM (below_step (uL HB) hb); try clear hb ho0; obtain ⟨Ao38, co38, eo38⟩ := Kd.R_slice HO274.out; subst eo38; have hcz39_0 := czA BK266.out 0 (.slice none 0 0); have hcz39_1 := czA BK266.out 1 (.slice none 0 0); have hcz39_2 := czA BK266.out 2 (.slice none 0 0); have hcz39_3 := czA BK266.out 3 (.slice none 0 0); have hcz39_4 := czA BK266.out 4 (.slice none 0 0); have hfz39_0 := blk_frozen BK266.out 0; have hfz39_1 := blk_frozen BK266.out 1; have hfz39_2 := blk_frozen BK266.out 2; have hfz39_3 := blk_frozen BK266.out 3; have hfz39_4 := blk_frozen BK266.out 4) | ((with_reducible refine gate_store (t := 24) (p := 32) rfl ?_); refine store_event (t := 24) (p := 32) (v := ?vo_w40) (w1 := (w37.setCell ⟨gb266, 0, none⟩ (.slice Ao38 t271.length co38))) ?hg ?ho ?hn ?hr ?_; (case ho => rfl); (case hg => rfl); (case hn => rfl); (case hr => first | (go_simp; done) | (go_simp; rfl)); intro w40 hw; have n0_ : Aside0 (Kd.R Kd.string 9 w40 w.heap.size (fun _ => True) (.slice (some ad270) t262.length co36) t262) := ⟨(by rw [hw]; exact (by (with_reducible repeat first | apply rA | apply rN | apply rD); exact Kd.R_mono (Kd.R_far (p := ⟨gb266, 0, none⟩) (Kd.R_types HO_4.out BK266.out (by decide)) (fun _ hk => hk.2) (.slice Ao38 t271.length co38)) (fun _ hk => trivial)))⟩; have n1_ : Aside0 (Kd.R Kd.bool 4 w40 w.heap.size (fun _ => True) v268 y267) := ⟨(by rw [hw]; exact (by (with_reducible repeat first | apply rA | apply rN | apply rD); exact Kd.R_mono (Kd.R_far (p := ⟨gb266, 0, none⟩) (Kd.R_types HO269.out BK266.out (by decide)) (fun _ hk => hk.2) (.slice Ao38 t271.length co38)) (fun _ hk => trivial)))⟩; have n2_ : Aside0 (Kd.R (Kd.int .i64) 3 w40 w.heap.size (fun _ => True) (.slice Ao38 t271.length co38) t271) := ⟨(by rw [hw]; exact (by (with_reducible repeat first | apply rA | apply rN | apply rD); exact Kd.R_mono (Kd.R_far (p := ⟨gb266, 0, none⟩) (Kd.R_types HO274.out BK266.out (by decide)) (fun _ hk => hk.2) (.slice Ao38 t271.length co38)) (fun _ hk => trivial)))⟩; have n3_ : Aside0 (w40.heap[gb261]? = some (.cells #[.slice none 0 0, .slice none 0 0, .slice none 0 0, .slice none 0 0, .slice none 0 0] 26 (0, 0))) := ⟨(by rw [hw]; exact (by refine nB ?_; refine blk_far ?_ NB261_266.out _; exact nB BK261.out))⟩; have n4_ : Aside0 (w40.heap[gb266]? = some (.cells #[.slice Ao38 t271.length co38, .slice none 0 0, .slice none 0 0, .slice none 0 0, .slice none 0 0] 26 (0, 0))) := ⟨(by rw [hw]; exact (by refine nB ?_; refine blk_put (cs := #[.slice none 0 0, .slice none 0 0, .slice none 0 0, .slice none 0 0, .slice none 0 0]) ?_ 0 _ rfl; exact nB BK266.out))⟩; have n5_ : Aside0 (Below w.heap.size w w40) := ⟨(by rw [hw]; exact (uL HB))⟩; clear hw; clear HO_4; clear HO269; clear HO274; clear BK261; clear BK266; clear HB; have HO_4 := n0_; have HO269 := n1_; have HO274 := n2_; have BK261 := n3_; have BK266 := n4_; have HB := n5_; clear n0_ n1_ n2_ n3_ n4_ n5_; have p14 : 0 ≤ (0 : Int) := (by omega); have q14 : (0 : Int) < ((y267.length : Int) : Int) := of_decide_eq_true (by first | (with_reducible assumption) | assumption); have qi14 : (0 < y267.length) = True := eq_true (by omega); obtain ⟨go14, co14, eo14, gb14, gl14, cl14, HG14⟩ := Kd.R_form HO269.out (by omega); (first | cases eo14 | (injection eo14 with ea_ en_ ec_; (first | subst ea_ | (injection ea_ with ea_; subst ea_)); subst ec_; clear en_)); have GB14 := aM gb14; have GG14 := aM HG14; clear gb14 gl14 HG14; obtain ⟨hx14_0, hf14_0⟩ := Kd.R_celln false HO269.out (0 : Int) p14 q14; (try rw [show ((0 : Int)).toNat = 0 from rfl] at hx14_0); (try simp only [Nat.reduceMul, Nat.zero_mul, Nat.zero_add, Nat.reduceAdd] at hx14_0); (try rw [show ((0 : Int)).toNat = 0 from rfl] at hf14_0); (try simp only [Nat.reduceMul, Nat.zero_mul, Nat.zero_add, Nat.reduceAdd] at hf14_0); replace p14 := eq_true p14; replace q14 := eq_true q14; obtain ⟨hy41_, hz41_⟩ := Kd.R_celln false HO269.out (0 : Int) (by omega) (of_decide_eq_true (by first | (with_reducible assumption) | assumption)); (try simp only [Int.reduceToNat, Int.toNat_zero, Int.toNat_ofNat, Nat.reduceMul, Nat.zero_mul, Nat.zero_add] at hy41_ hz41_); (try rw [show ((0 : Int)).toNat = 0 from rfl] at hy41_); (try rw [show ((0 : Int)).toNat = 0 from rfl] at hz41_); have HP41 := Kd.R_putg HO269.out (0 : Int) t272) | ((with_reducible refine gate_store (t := 4) (p := 33) rfl ?_); refine store_event (t := 4) (p := 33) (v := ?vo_w42) (w1 := (w40.setCell ⟨go14, (0 : Int).toNat, none⟩ (.bool t272))) ?hg ?ho ?hn ?hr ?_; (case ho => rfl); (case hg => rfl); (case hn => rfl); (case hr => first | (go_simp; done) | (go_simp; rfl)); intro w42 hw; have hg : w40.grownBy w42 (some go14) := (by rw [hw]; exact HP41.2); have hp_ : Kd.R Kd.bool 4 w42 w.heap.size (fun _ => True) (.slice (some ⟨go14, 0, none⟩) y267.length co14) y275 := (by rw [hw, Ny275.out]; exact HP41.1); clear HP41; replace HO_4 := aM (Kd.R_over' (v := (.slice (some ⟨go14, 0, none⟩) y267.length co14)) (uR HO_4) (Kd.R_typed HO269.out) (by decide) hg); replace BK261 := aM (blk_grown (g := gb261) (o := .cells #[.slice none 0 0, .slice none 0 0, .slice none 0 0, .slice none 0 0, .slice none 0 0] 26 (0, 0)) (uB BK261) hg (Kd.R_ne HO269.out BK261.out (by decide))); replace BK266 := aM (blk_grown (g := gb266) (o := .cells #[.slice Ao38 t271.length co38, .slice none 0 0, .slice none 0 0, .slice none 0 0, .slice none 0 0] 26 (0, 0)) (uB BK266) hg (Kd.R_ne HO269.out BK266.out (by decide))); replace HO274 := aM (Kd.R_over' (v := (.slice (some ⟨go14, 0, none⟩) y267.length co14)) (uR HO274) (Kd.R_typed HO269.out) (by decide) hg); replace HO269 := aM (hp_); replace HB := aM ((by rw [hw]; exact below_set (HB.out) GB14.out : Below w.heap.size w w42)); clear hg hw hp_; have p276 : 0 ≤ (1 : Int) := (by omega); have q276 : 1 < (t262.length : Int) := of_decide_eq_true (by first | (with_reducible assumption) | assumption); obtain ⟨ad276, e276, hx276_0⟩ := Kd.at_string (Kd.R_reads' HO_4.out).2.2 1 p276 q276; obtain rfl : ad270 = ad276 := (by injection e276); (try simp only [show (1 : Int).toNat = 1 from rfl, Nat.reduceMul, Nat.reduceEqDiff, Go.Addr.add, ↓reduceIte] at hx276_0); have qi276 : (1 < t262.length) = True := eq_true (by omega); (try rw [show ((1 : Int)).toNat = 1 from rfl] at hx276_0); replace p276 := eq_true p276; replace q276 := eq_true q276) | ((with_reducible refine gate_callee (f := 15) rfl ?_); refine gL (some 39) Try.func15 #[.string (rdOf ByteArray.empty t262 1), .int .i64 0, .int .i64 23] ?_; (with_reducible refine (spec_l10Field.calls kj2 (rdOf ByteArray.empty t262 1) 0 23 t277 t278 _ A16.out).mono ?_); rintro e w43 ⟨v279, rfl, ho0, hb⟩; refine ⟨_, rfl, ?_⟩; have HO280 := aM (Kd.R_lower (Kd.R_new' ho0 (Kd.R_lt (uR HO274))) (below_size (uL HB))); replace HO_4 := aM (Kd.R_below (uR HO_4) hb); replace HO269 := aM (Kd.R_below (uR HO269) hb); replace HO274 := aM (Kd.R_elder' (uR HO274) (Kd.R_base ho0) hb); replace BK261 := blkB BK261 hb; replace BK266 := blkB BK266 hb; replace HB := aM (below_step (uL HB) hb); try clear hb ho0; obtain ⟨Ao44, co44, eo44⟩ := Kd.R_slice HO280.out; subst eo44; have hcz45_0 := czA BK266.out 0 (.slice Ao38 t271.length co38); have hcz45_1 := czA BK266.out 1 (.slice none 0 0); have hcz45_2 := czA BK266.out 2 (.slice none 0 0); have hcz45_3 := czA BK266.out 3 (.slice none 0 0); have hcz45_4 := czA BK266.out 4 (.slice none 0 0); have hfz45_0 := blk_frozen BK266.out 0; have hfz45_1 := blk_frozen BK266.out 1; have hfz45_2 := blk_frozen BK266.out 2; have hfz45_3 := blk_frozen BK266.out 3; have hfz45_4 := blk_frozen BK266.out 4) | ((with_reducible refine gate_store (t := 24) (p := 42) rfl ?_); refine store_event (t := 24) (p := 42) (v := ?vo_w46) (w1 := (w43.setCell ⟨gb266, 1, none⟩ (.slice Ao44 t277.length co44))) ?hg ?ho ?hn ?hr ?_; (case ho => rfl); (case hg => rfl); (case hn => rfl); (case hr => first | (go_simp; done) | (go_simp; rfl)); intro w46 hw; have n0_ : Aside0 (Kd.R Kd.string 9 w46 w.heap.size (fun _ => True) (.slice (some ad270) t262.length co36) t262) := ⟨(by rw [hw]; exact (by (with_reducible repeat first | apply rA | apply rN | apply rD); exact Kd.R_mono (Kd.R_far (p := ⟨gb266, 1, none⟩) (Kd.R_types HO_4.out BK266.out (by decide)) (fun _ hk => hk.2) (.slice Ao44 t277.length co44)) (fun _ hk => trivial)))⟩; have n1_ : Aside0 (Kd.R Kd.bool 4 w46 w.heap.size (fun _ => True) (.slice (some ⟨go14, 0, none⟩) y267.length co14) y275) := ⟨(by rw [hw]; exact (by (with_reducible repeat first | apply rA | apply rN | apply rD); exact Kd.R_mono (Kd.R_far (p := ⟨gb266, 1, none⟩) (Kd.R_types HO269.out BK266.out (by decide)) (fun _ hk => hk.2) (.slice Ao44 t277.length co44)) (fun _ hk => trivial)))⟩; have n2_ : Aside0 (Kd.R (Kd.int .i64) 3 w46 w.heap.size (fun k_ => some k_ ≠ (.slice Ao44 t277.length co44 : Value).ownBlock) (.slice Ao38 t271.length co38) t271) := ⟨(by rw [hw]; exact (by (with_reducible repeat first | apply rA | apply rN | apply rD); exact Kd.R_mono (Kd.R_far (p := ⟨gb266, 1, none⟩) (Kd.R_types HO274.out BK266.out (by decide)) (fun _ hk => hk.2) (.slice Ao44 t277.length co44)) (fun _ hk => hk.1.2)))⟩; have n3_ : Aside0 (Kd.R (Kd.int .i64) 3 w46 w.heap.size (fun k_ => some k_ ≠ (.slice Ao38 t271.length co38 : Value).ownBlock) (.slice Ao44 t277.length co44) t277) := ⟨(by rw [hw]; exact (by (with_reducible repeat first | apply rA | apply rN | apply rD); exact Kd.R_mono (Kd.R_far (p := ⟨gb266, 1, none⟩) (Kd.R_types HO280.out BK266.out (by decide)) (fun _ hk => hk.2) (.slice Ao44 t277.length co44)) (fun _ hk => hk.1.2)))⟩; have n4_ : Aside0 (w46.heap[gb261]? = some (.cells #[.slice none 0 0, .slice none 0 0, .slice none 0 0, .slice none 0 0, .slice none 0 0] 26 (0, 0))) := ⟨(by rw [hw]; exact (by refine nB ?_; refine blk_far ?_ NB261_266.out _; exact nB BK261.out))⟩; have n5_ : Aside0 (w46.heap[gb266]? = some (.cells #[.slice Ao38 t271.length co38, .slice Ao44 t277.length co44, .slice none 0 0, .slice none 0 0, .slice none 0 0] 26 (0, 0))) := ⟨(by rw [hw]; exact (by refine nB ?_; refine blk_put (cs := #[.slice Ao38 t271.length co38, .slice none 0 0, .slice none 0 0, .slice none 0 0, .slice none 0 0]) ?_ 1 _ rfl; exact nB BK266.out))⟩; have n6_ : Aside0 (Below w.heap.size w w46) := ⟨(by rw [hw]; exact (uL HB))⟩; clear hw; clear HO_4; clear HO269; clear HO274; clear HO280; clear BK261; clear BK266; clear HB; have HO_4 := n0_; have HO269 := n1_; have HO274 := n2_; have HO280 := n3_; have BK261 := n4_; have BK266 := n5_; have HB := n6_; clear n0_ n1_ n2_ n3_ n4_ n5_ n6_; have p18 : 0 ≤ (1 : Int) := (by omega); have q18 : (1 : Int) < ((y267.length : Int) : Int) := of_decide_eq_true (by first | (with_reducible assumption) | assumption); have qi18 : (1 < y267.length) = True := eq_true (by omega); obtain ⟨hx18_0, hf18_0⟩ := Kd.R_celln false HO269.out (1 : Int) p18 q18; (try rw [show ((1 : Int)).toNat = 1 from rfl] at hx18_0); (try simp only [Nat.reduceMul, Nat.zero_mul, Nat.zero_add, Nat.reduceAdd] at hx18_0); (try rw [show ((1 : Int)).toNat = 1 from rfl] at hf18_0); (try simp only [Nat.reduceMul, Nat.zero_mul, Nat.zero_add, Nat.reduceAdd] at hf18_0); replace p18 := eq_true p18; replace q18 := eq_true q18; obtain ⟨hy47_, hz47_⟩ := Kd.R_celln false HO269.out (1 : Int) (by omega) (of_decide_eq_true (by first | (with_reducible assumption) | assumption)); (try simp only [Int.reduceToNat, Int.toNat_zero, Int.toNat_ofNat, Nat.reduceMul, Nat.zero_mul, Nat.zero_add] at hy47_ hz47_); (try rw [show ((1 : Int)).toNat = 1 from rfl] at hy47_); (try rw [show ((1 : Int)).toNat = 1 from rfl] at hz47_); have HP47 := Kd.R_putg HO269.out (1 : Int) t278) | ((with_reducible refine gate_store (t := 4) (p := 43) rfl ?_); refine store_event (t := 4) (p := 43) (v := ?vo_w48) (w1 := (w46.setCell ⟨go14, (1 : Int).toNat, none⟩ (.bool t278))) ?hg ?ho ?hn ?hr ?_; (case ho => rfl); (case hg => rfl); (case hn => rfl); (case hr => first | (go_simp; done) | (go_simp; rfl)); intro w48 hw; have hg : w46.grownBy w48 (some go14) := (by rw [hw]; exact HP47.2); have hp_ : Kd.R Kd.bool 4 w48 w.heap.size (fun _ => True) (.slice (some ⟨go14, 0, none⟩) y267.length co14) y281 := (by rw [hw, Ny281.out]; exact HP47.1); clear HP47; replace HO_4 := aM (Kd.R_over' (v := (.slice (some ⟨go14, 0, none⟩) y267.length co14)) (uR HO_4) (Kd.R_typed HO269.out) (by decide) hg); replace BK261 := aM (blk_grown (g := gb261) (o := .cells #[.slice none 0 0, .slice none 0 0, .slice none 0 0, .slice none 0 0, .slice none 0 0] 26 (0, 0)) (uB BK261) hg (Kd.R_ne HO269.out BK261.out (by decide))); replace BK266 := aM (blk_grown (g := gb266) (o := .cells #[.slice Ao38 t271.length co38, .slice Ao44 t277.length co44, .slice none 0 0, .slice none 0 0, .slice none 0 0] 26 (0, 0)) (uB BK266) hg (Kd.R_ne HO269.out BK266.out (by decide))); replace HO274 := aM (Kd.R_over' (v := (.slice (some ⟨go14, 0, none⟩) y267.length co14)) (uR HO274) (Kd.R_typed HO269.out) (by decide) hg); replace HO280 := aM (Kd.R_over' (v := (.slice (some ⟨go14, 0, none⟩) y267.length co14)) (uR HO280) (Kd.R_typed HO269.out) (by decide) hg); replace HO269 := aM (hp_); replace HB := aM ((by rw [hw]; exact below_set (HB.out) GB14.out : Below w.heap.size w w48)); clear hg hw hp_; have p282 : 0 ≤ (2 : Int) := (by omega); have q282 : 2 < (t262.length : Int) := of_decide_eq_true (by first | (with_reducible assumption) | assumption); obtain ⟨ad282, e282, hx282_0⟩ := Kd.at_string (Kd.R_reads' HO_4.out).2.2 2 p282 q282; obtain rfl : ad270 = ad282 := (by injection e282); (try simp only [show (2 : Int).toNat = 2 from rfl, Nat.reduceMul, Nat.reduceEqDiff, Go.Addr.add, ↓reduceIte] at hx282_0); have qi282 : (2 < t262.length) = True := eq_true (by omega); (try rw [show ((2 : Int)).toNat = 2 from rfl] at hx282_0); replace p282 := eq_true p282; replace q282 := eq_true q282) | ((with_reducible refine gate_callee (f := 15) rfl ?_); refine gL (some 49) Try.func15 #[.string (rdOf ByteArray.empty t262 2), .int .i64 1, .int .i64 31] ?_; (with_reducible refine (spec_l10Field.calls kj2 (rdOf ByteArray.empty t262 2) 1 31 t283 t284 _ A20.out).mono ?_); rintro e w49 ⟨v285, rfl, ho0, hb⟩; refine ⟨_, rfl, ?_⟩; have HO286 := aM (Kd.R_lower (Kd.R_new' (Kd.R_new' ho0 (Kd.R_lt (uR HO274))) (Kd.R_lt (uR HO280))) (below_size (uL HB))); replace HO_4 := aM (Kd.R_below (uR HO_4) hb); replace HO269 := aM (Kd.R_below (uR HO269) hb); replace HO274 := aM (Kd.R_elder' (uR HO274) (Kd.R_base ho0) hb); replace HO280 := aM (Kd.R_elder' (uR HO280) (Kd.R_base ho0) hb); replace BK261 := blkB BK261 hb; replace BK266 := blkB BK266 hb; replace HB := aM (below_step (uL HB) hb); try clear hb ho0; obtain ⟨Ao50, co50, eo50⟩ := Kd.R_slice HO286.out; subst eo50; have hcz51_0 := czA BK266.out 0 (.slice Ao38 t271.length co38); have hcz51_1 := czA BK266.out 1 (.slice Ao44 t277.length co44); have hcz51_2 := czA BK266.out 2 (.slice none 0 0); have hcz51_3 := czA BK266.out 3 (.slice none 0 0); have hcz51_4 := czA BK266.out 4 (.slice none 0 0); have hfz51_0 := blk_frozen BK266.out 0; have hfz51_1 := blk_frozen BK266.out 1; have hfz51_2 := blk_frozen BK266.out 2; have hfz51_3 := blk_frozen BK266.out 3; have hfz51_4 := blk_frozen BK266.out 4) | ((with_reducible refine gate_store (t := 24) (p := 52) rfl ?_); refine store_event (t := 24) (p := 52) (v := ?vo_w52) (w1 := (w49.setCell ⟨gb266, 2, none⟩ (.slice Ao50 t283.length co50))) ?hg ?ho ?hn ?hr ?_; (case ho => rfl); (case hg => rfl); (case hn => rfl); (case hr => first | (go_simp; done) | (go_simp; rfl)); intro w52 hw; have n0_ : Aside0 (Kd.R Kd.string 9 w52 w.heap.size (fun _ => True) (.slice (some ad270) t262.length co36) t262) := ⟨(by rw [hw]; exact (by (with_reducible repeat first | apply rA | apply rN | apply rD); exact Kd.R_mono (Kd.R_far (p := ⟨gb266, 2, none⟩) (Kd.R_types HO_4.out BK266.out (by decide)) (fun _ hk => hk.2) (.slice Ao50 t283.length co50)) (fun _ hk => trivial)))⟩; have n1_ : Aside0 (Kd.R Kd.bool 4 w52 w.heap.size (fun _ => True) (.slice (some ⟨go14, 0, none⟩) y267.length co14) y281) := ⟨(by rw [hw]; exact (by (with_reducible repeat first | apply rA | apply rN | apply rD); exact Kd.R_mono (Kd.R_far (p := ⟨gb266, 2, none⟩) (Kd.R_types HO269.out BK266.out (by decide)) (fun _ hk => hk.2) (.slice Ao50 t283.length co50)) (fun _ hk => trivial)))⟩; have n2_ : Aside0 (Kd.R (Kd.int .i64) 3 w52 w.heap.size (fun k_ => some k_ ≠ (.slice Ao44 t277.length co44 : Value).ownBlock ∧ some k_ ≠ (.slice Ao50 t283.length co50 : Value).ownBlock) (.slice Ao38 t271.length co38) t271) := ⟨(by rw [hw]; exact (by (with_reducible repeat first | apply rA | apply rN | apply rD); exact Kd.R_mono (Kd.R_far (p := ⟨gb266, 2, none⟩) (Kd.R_types HO274.out BK266.out (by decide)) (fun _ hk => hk.2) (.slice Ao50 t283.length co50)) (fun _ hk => ⟨hk.1.1, hk.1.2⟩)))⟩; have n3_ : Aside0 (Kd.R (Kd.int .i64) 3 w52 w.heap.size (fun k_ => some k_ ≠ (.slice Ao38 t271.length co38 : Value).ownBlock ∧ some k_ ≠ (.slice Ao50 t283.length co50 : Value).ownBlock) (.slice Ao44 t277.length co44) t277) := ⟨(by rw [hw]; exact (by (with_reducible repeat first | apply rA | apply rN | apply rD); exact Kd.R_mono (Kd.R_far (p := ⟨gb266, 2, none⟩) (Kd.R_types HO280.out BK266.out (by decide)) (fun _ hk => hk.2) (.slice Ao50 t283.length co50)) (fun _ hk => ⟨hk.1.1, hk.1.2⟩)))⟩; have n4_ : Aside0 (Kd.R (Kd.int .i64) 3 w52 w.heap.size (fun k_ => some k_ ≠ (.slice Ao38 t271.length co38 : Value).ownBlock ∧ some k_ ≠ (.slice Ao44 t277.length co44 : Value).ownBlock) (.slice Ao50 t283.length co50) t283) := ⟨(by rw [hw]; exact (by (with_reducible repeat first | apply rA | apply rN | apply rD); exact Kd.R_mono (Kd.R_far (p := ⟨gb266, 2, none⟩) (Kd.R_types HO286.out BK266.out (by decide)) (fun _ hk => hk.2) (.slice Ao50 t283.length co50)) (fun _ hk => ⟨hk.1.1.2, hk.1.2⟩)))⟩; have n5_ : Aside0 (w52.heap[gb261]? = some (.cells #[.slice none 0 0, .slice none 0 0, .slice none 0 0, .slice none 0 0, .slice none 0 0] 26 (0, 0))) := ⟨(by rw [hw]; exact (by refine nB ?_; refine blk_far ?_ NB261_266.out _; exact nB BK261.out))⟩; have n6_ : Aside0 (w52.heap[gb266]? = some (.cells #[.slice Ao38 t271.length co38, .slice Ao44 t277.length co44, .slice Ao50 t283.length co50, .slice none 0 0, .slice none 0 0] 26 (0, 0))) := ⟨(by rw [hw]; exact (by refine nB ?_; refine blk_put (cs := #[.slice Ao38 t271.length co38, .slice Ao44 t277.length co44, .slice none 0 0, .slice none 0 0, .slice none 0 0]) ?_ 2 _ rfl; exact nB BK266.out))⟩; have n7_ : Aside0 (Below w.heap.size w w52) := ⟨(by rw [hw]; exact (uL HB))⟩; clear hw; clear HO_4; clear HO269; clear HO274; clear HO280; clear HO286; clear BK261; clear BK266; clear HB; have HO_4 := n0_; have HO269 := n1_; have HO274 := n2_; have HO280 := n3_; have HO286 := n4_; have BK261 := n5_; have BK266 := n6_; have HB := n7_; clear n0_ n1_ n2_ n3_ n4_ n5_ n6_ n7_; have p22 : 0 ≤ (2 : Int) := (by omega); have q22 : (2 : Int) < ((y267.length : Int) : Int) := of_decide_eq_true (by first | (with_reducible assumption) | assumption); have qi22 : (2 < y267.length) = True := eq_true (by omega); obtain ⟨hx22_0, hf22_0⟩ := Kd.R_celln false HO269.out (2 : Int) p22 q22; (try rw [show ((2 : Int)).toNat = 2 from rfl] at hx22_0); (try simp only [Nat.reduceMul, Nat.zero_mul, Nat.zero_add, Nat.reduceAdd] at hx22_0); (try rw [show ((2 : Int)).toNat = 2 from rfl] at hf22_0); (try simp only [Nat.reduceMul, Nat.zero_mul, Nat.zero_add, Nat.reduceAdd] at hf22_0); replace p22 := eq_true p22; replace q22 := eq_true q22; obtain ⟨hy53_, hz53_⟩ := Kd.R_celln false HO269.out (2 : Int) (by omega) (of_decide_eq_true (by first | (with_reducible assumption) | assumption)); (try simp only [Int.reduceToNat, Int.toNat_zero, Int.toNat_ofNat, Nat.reduceMul, Nat.zero_mul, Nat.zero_add] at hy53_ hz53_); (try rw [show ((2 : Int)).toNat = 2 from rfl] at hy53_); (try rw [show ((2 : Int)).toNat = 2 from rfl] at hz53_); have HP53 := Kd.R_putg HO269.out (2 : Int) t284) | ((with_reducible refine gate_store (t := 4) (p := 53) rfl ?_); refine store_event (t := 4) (p := 53) (v := ?vo_w54) (w1 := (w52.setCell ⟨go14, (2 : Int).toNat, none⟩ (.bool t284))) ?hg ?ho ?hn ?hr ?_; (case ho => rfl); (case hg => rfl); (case hn => rfl); (case hr => first | (go_simp; done) | (go_simp; rfl)); intro w54 hw; have hg : w52.grownBy w54 (some go14) := (by rw [hw]; exact HP53.2); have hp_ : Kd.R Kd.bool 4 w54 w.heap.size (fun _ => True) (.slice (some ⟨go14, 0, none⟩) y267.length co14) y287 := (by rw [hw, Ny287.out]; exact HP53.1); clear HP53; replace HO_4 := aM (Kd.R_over' (v := (.slice (some ⟨go14, 0, none⟩) y267.length co14)) (uR HO_4) (Kd.R_typed HO269.out) (by decide) hg); replace BK261 := aM (blk_grown (g := gb261) (o := .cells #[.slice none 0 0, .slice none 0 0, .slice none 0 0, .slice none 0 0, .slice none 0 0] 26 (0, 0)) (uB BK261) hg (Kd.R_ne HO269.out BK261.out (by decide))); replace BK266 := aM (blk_grown (g := gb266) (o := .cells #[.slice Ao38 t271.length co38, .slice Ao44 t277.length co44, .slice Ao50 t283.length co50, .slice none 0 0, .slice none 0 0] 26 (0, 0)) (uB BK266) hg (Kd.R_ne HO269.out BK266.out (by decide))); replace HO274 := aM (Kd.R_over' (v := (.slice (some ⟨go14, 0, none⟩) y267.length co14)) (uR HO274) (Kd.R_typed HO269.out) (by decide) hg); replace HO280 := aM (Kd.R_over' (v := (.slice (some ⟨go14, 0, none⟩) y267.length co14)) (uR HO280) (Kd.R_typed HO269.out) (by decide) hg); replace HO286 := aM (Kd.R_over' (v := (.slice (some ⟨go14, 0, none⟩) y267.length co14)) (uR HO286) (Kd.R_typed HO269.out) (by decide) hg); replace HO269 := aM (hp_); replace HB := aM ((by rw [hw]; exact below_set (HB.out) GB14.out : Below w.heap.size w w54)); clear hg hw hp_; have p288 : 0 ≤ (3 : Int) := (by omega); have q288 : 3 < (t262.length : Int) := of_decide_eq_true (by first | (with_reducible assumption) | assumption); obtain ⟨ad288, e288, hx288_0⟩ := Kd.at_string (Kd.R_reads' HO_4.out).2.2 3 p288 q288; obtain rfl : ad270 = ad288 := (by injection e288); (try simp only [show (3 : Int).toNat = 3 from rfl, Nat.reduceMul, Nat.reduceEqDiff, Go.Addr.add, ↓reduceIte] at hx288_0); have qi288 : (3 < t262.length) = True := eq_true (by omega); (try rw [show ((3 : Int)).toNat = 3 from rfl] at hx288_0); replace p288 := eq_true p288; replace q288 := eq_true q288) | ((with_reducible refine gate_callee (f := 15) rfl ?_); refine gL (some 59) Try.func15 #[.string (rdOf ByteArray.empty t262 3), .int .i64 1, .int .i64 12] ?_; (with_reducible refine (spec_l10Field.calls kj2 (rdOf ByteArray.empty t262 3) 1 12 t289 t290 _ A24.out).mono ?_); rintro e w55 ⟨v291, rfl, ho0, hb⟩; refine ⟨_, rfl, ?_⟩; have HO292 := aM (Kd.R_lower (Kd.R_new' (Kd.R_new' (Kd.R_new' ho0 (Kd.R_lt (uR HO274))) (Kd.R_lt (uR HO280))) (Kd.R_lt (uR HO286))) (below_size (uL HB))); replace HO_4 := aM (Kd.R_below (uR HO_4) hb); replace HO269 := aM (Kd.R_below (uR HO269) hb); replace HO274 := aM (Kd.R_elder' (uR HO274) (Kd.R_base ho0) hb); replace HO280 := aM (Kd.R_elder' (uR HO280) (Kd.R_base ho0) hb); replace HO286 := aM (Kd.R_elder' (uR HO286) (Kd.R_base ho0) hb); replace BK261 := blkB BK261 hb; replace BK266 := blkB BK266 hb; replace HB := aM (below_step (uL HB) hb); try clear hb ho0; obtain ⟨Ao56, co56, eo56⟩ := Kd.R_slice HO292.out; subst eo56; have hcz57_0 := czA BK266.out 0 (.slice Ao38 t271.length co38); have hcz57_1 := czA BK266.out 1 (.slice Ao44 t277.length co44); have hcz57_2 := czA BK266.out 2 (.slice Ao50 t283.length co50); have hcz57_3 := czA BK266.out 3 (.slice none 0 0); have hcz57_4 := czA BK266.out 4 (.slice none 0 0); have hfz57_0 := blk_frozen BK266.out 0; have hfz57_1 := blk_frozen BK266.out 1; have hfz57_2 := blk_frozen BK266.out 2; have hfz57_3 := blk_frozen BK266.out 3; have hfz57_4 := blk_frozen BK266.out 4) | ((with_reducible refine gate_store (t := 24) (p := 62) rfl ?_); refine store_event (t := 24) (p := 62) (v := ?vo_w58) (w1 := (w55.setCell ⟨gb266, 3, none⟩ (.slice Ao56 t289.length co56))) ?hg ?ho ?hn ?hr ?_; (case ho => rfl); (case hg => rfl); (case hn => rfl); (case hr => first | (go_simp; done) | (go_simp; rfl)); intro w58 hw; have n0_ : Aside0 (Kd.R Kd.string 9 w58 w.heap.size (fun _ => True) (.slice (some ad270) t262.length co36) t262) := ⟨(by rw [hw]; exact (by (with_reducible repeat first | apply rA | apply rN | apply rD); exact Kd.R_mono (Kd.R_far (p := ⟨gb266, 3, none⟩) (Kd.R_types HO_4.out BK266.out (by decide)) (fun _ hk => hk.2) (.slice Ao56 t289.length co56)) (fun _ hk => trivial)))⟩; have n1_ : Aside0 (Kd.R Kd.bool 4 w58 w.heap.size (fun _ => True) (.slice (some ⟨go14, 0, none⟩) y267.length co14) y287) := ⟨(by rw [hw]; exact (by (with_reducible repeat first | apply rA | apply rN | apply rD); exact Kd.R_mono (Kd.R_far (p := ⟨gb266, 3, none⟩) (Kd.R_types HO269.out BK266.out (by decide)) (fun _ hk => hk.2) (.slice Ao56 t289.length co56)) (fun _ hk => trivial)))⟩; have n2_ : Aside0 (Kd.R (Kd.int .i64) 3 w58 w.heap.size (fun k_ => some k_ ≠ (.slice Ao44 t277.length co44 : Value).ownBlock ∧ some k_ ≠ (.slice Ao50 t283.length co50 : Value).ownBlock ∧ some k_ ≠ (.slice Ao56 t289.length co56 : Value).ownBlock) (.slice Ao38 t271.length co38) t271) := ⟨(by rw [hw]; exact (by (with_reducible repeat first | apply rA | apply rN | apply rD); exact Kd.R_mono (Kd.R_far (p := ⟨gb266, 3, none⟩) (Kd.R_types HO274.out BK266.out (by decide)) (fun _ hk => hk.2) (.slice Ao56 t289.length co56)) (fun _ hk => ⟨hk.1.1.1, ⟨hk.1.1.2, hk.1.2⟩⟩)))⟩; have n3_ : Aside0 (Kd.R (Kd.int .i64) 3 w58 w.heap.size (fun k_ => some k_ ≠ (.slice Ao38 t271.length co38 : Value).ownBlock ∧ some k_ ≠ (.slice Ao50 t283.length co50 : Value).ownBlock ∧ some k_ ≠ (.slice Ao56 t289.length co56 : Value).ownBlock) (.slice Ao44 t277.length co44) t277) := ⟨(by rw [hw]; exact (by (with_reducible repeat first | apply rA | apply rN | apply rD); exact Kd.R_mono (Kd.R_far (p := ⟨gb266, 3, none⟩) (Kd.R_types HO280.out BK266.out (by decide)) (fun _ hk => hk.2) (.slice Ao56 t289.length co56)) (fun _ hk => ⟨hk.1.1.1, ⟨hk.1.1.2, hk.1.2⟩⟩)))⟩; have n4_ : Aside0 (Kd.R (Kd.int .i64) 3 w58 w.heap.size (fun k_ => some k_ ≠ (.slice Ao38 t271.length co38 : Value).ownBlock ∧ some k_ ≠ (.slice Ao44 t277.length co44 : Value).ownBlock ∧ some k_ ≠ (.slice Ao56 t289.length co56 : Value).ownBlock) (.slice Ao50 t283.length co50) t283) := ⟨(by rw [hw]; exact (by (with_reducible repeat first | apply rA | apply rN | apply rD); exact Kd.R_mono (Kd.R_far (p := ⟨gb266, 3, none⟩) (Kd.R_types HO286.out BK266.out (by decide)) (fun _ hk => hk.2) (.slice Ao56 t289.length co56)) (fun _ hk => ⟨hk.1.1.1, ⟨hk.1.1.2, hk.1.2⟩⟩)))⟩; have n5_ : Aside0 (Kd.R (Kd.int .i64) 3 w58 w.heap.size (fun k_ => some k_ ≠ (.slice Ao38 t271.length co38 : Value).ownBlock ∧ some k_ ≠ (.slice Ao44 t277.length co44 : Value).ownBlock ∧ some k_ ≠ (.slice Ao50 t283.length co50 : Value).ownBlock) (.slice Ao56 t289.length co56) t289) := ⟨(by rw [hw]; exact (by (with_reducible repeat first | apply rA | apply rN | apply rD); exact Kd.R_mono (Kd.R_far (p := ⟨gb266, 3, none⟩) (Kd.R_types HO292.out BK266.out (by decide)) (fun _ hk => hk.2) (.slice Ao56 t289.length co56)) (fun _ hk => ⟨hk.1.1.1.2, ⟨hk.1.1.2, hk.1.2⟩⟩)))⟩; have n6_ : Aside0 (w58.heap[gb261]? = some (.cells #[.slice none 0 0, .slice none 0 0, .slice none 0 0, .slice none 0 0, .slice none 0 0] 26 (0, 0))) := ⟨(by rw [hw]; exact (by refine nB ?_; refine blk_far ?_ NB261_266.out _; exact nB BK261.out))⟩; have n7_ : Aside0 (w58.heap[gb266]? = some (.cells #[.slice Ao38 t271.length co38, .slice Ao44 t277.length co44, .slice Ao50 t283.length co50, .slice Ao56 t289.length co56, .slice none 0 0] 26 (0, 0))) := ⟨(by rw [hw]; exact (by refine nB ?_; refine blk_put (cs := #[.slice Ao38 t271.length co38, .slice Ao44 t277.length co44, .slice Ao50 t283.length co50, .slice none 0 0, .slice none 0 0]) ?_ 3 _ rfl; exact nB BK266.out))⟩; have n8_ : Aside0 (Below w.heap.size w w58) := ⟨(by rw [hw]; exact (uL HB))⟩; clear hw; clear HO_4; clear HO269; clear HO274; clear HO280; clear HO286; clear HO292; clear BK261; clear BK266; clear HB; have HO_4 := n0_; have HO269 := n1_; have HO274 := n2_; have HO280 := n3_; have HO286 := n4_; have HO292 := n5_; have BK261 := n6_; have BK266 := n7_; have HB := n8_; clear n0_ n1_ n2_ n3_ n4_ n5_ n6_ n7_ n8_; have p26 : 0 ≤ (3 : Int) := (by omega); have q26 : (3 : Int) < ((y267.length : Int) : Int) := of_decide_eq_true (by first | (with_reducible assumption) | assumption); have qi26 : (3 < y267.length) = True := eq_true (by omega); obtain ⟨hx26_0, hf26_0⟩ := Kd.R_celln false HO269.out (3 : Int) p26 q26; (try rw [show ((3 : Int)).toNat = 3 from rfl] at hx26_0); (try simp only [Nat.reduceMul, Nat.zero_mul, Nat.zero_add, Nat.reduceAdd] at hx26_0); (try rw [show ((3 : Int)).toNat = 3 from rfl] at hf26_0); (try simp only [Nat.reduceMul, Nat.zero_mul, Nat.zero_add, Nat.reduceAdd] at hf26_0); replace p26 := eq_true p26; replace q26 := eq_true q26; obtain ⟨hy59_, hz59_⟩ := Kd.R_celln false HO269.out (3 : Int) (by omega) (of_decide_eq_true (by first | (with_reducible assumption) | assumption)); (try simp only [Int.reduceToNat, Int.toNat_zero, Int.toNat_ofNat, Nat.reduceMul, Nat.zero_mul, Nat.zero_add] at hy59_ hz59_); (try rw [show ((3 : Int)).toNat = 3 from rfl] at hy59_); (try rw [show ((3 : Int)).toNat = 3 from rfl] at hz59_); have HP59 := Kd.R_putg HO269.out (3 : Int) t290) | ((with_reducible refine gate_store (t := 4) (p := 63) rfl ?_); refine store_event (t := 4) (p := 63) (v := ?vo_w60) (w1 := (w58.setCell ⟨go14, (3 : Int).toNat, none⟩ (.bool t290))) ?hg ?ho ?hn ?hr ?_; (case ho => rfl); (case hg => rfl); (case hn => rfl); (case hr => first | (go_simp; done) | (go_simp; rfl)); intro w60 hw; have hg : w58.grownBy w60 (some go14) := (by rw [hw]; exact HP59.2); have hp_ : Kd.R Kd.bool 4 w60 w.heap.size (fun _ => True) (.slice (some ⟨go14, 0, none⟩) y267.length co14) y293 := (by rw [hw, Ny293.out]; exact HP59.1); clear HP59; replace HO_4 := aM (Kd.R_over' (v := (.slice (some ⟨go14, 0, none⟩) y267.length co14)) (uR HO_4) (Kd.R_typed HO269.out) (by decide) hg); replace BK261 := aM (blk_grown (g := gb261) (o := .cells #[.slice none 0 0, .slice none 0 0, .slice none 0 0, .slice none 0 0, .slice none 0 0] 26 (0, 0)) (uB BK261) hg (Kd.R_ne HO269.out BK261.out (by decide))); replace BK266 := aM (blk_grown (g := gb266) (o := .cells #[.slice Ao38 t271.length co38, .slice Ao44 t277.length co44, .slice Ao50 t283.length co50, .slice Ao56 t289.length co56, .slice none 0 0] 26 (0, 0)) (uB BK266) hg (Kd.R_ne HO269.out BK266.out (by decide))); replace HO274 := aM (Kd.R_over' (v := (.slice (some ⟨go14, 0, none⟩) y267.length co14)) (uR HO274) (Kd.R_typed HO269.out) (by decide) hg); replace HO280 := aM (Kd.R_over' (v := (.slice (some ⟨go14, 0, none⟩) y267.length co14)) (uR HO280) (Kd.R_typed HO269.out) (by decide) hg); replace HO286 := aM (Kd.R_over' (v := (.slice (some ⟨go14, 0, none⟩) y267.length co14)) (uR HO286) (Kd.R_typed HO269.out) (by decide) hg); replace HO292 := aM (Kd.R_over' (v := (.slice (some ⟨go14, 0, none⟩) y267.length co14)) (uR HO292) (Kd.R_typed HO269.out) (by decide) hg); replace HO269 := aM (hp_); replace HB := aM ((by rw [hw]; exact below_set (HB.out) GB14.out : Below w.heap.size w w60)); clear hg hw hp_; have p294 : 0 ≤ (4 : Int) := (by omega); have q294 : 4 < (t262.length : Int) := of_decide_eq_true (by first | (with_reducible assumption) | assumption); obtain ⟨ad294, e294, hx294_0⟩ := Kd.at_string (Kd.R_reads' HO_4.out).2.2 4 p294 q294; obtain rfl : ad270 = ad294 := (by injection e294); (try simp only [show (4 : Int).toNat = 4 from rfl, Nat.reduceMul, Nat.reduceEqDiff, Go.Addr.add, ↓reduceIte] at hx294_0); have qi294 : (4 < t262.length) = True := eq_true (by omega); (try rw [show ((4 : Int)).toNat = 4 from rfl] at hx294_0); replace p294 := eq_true p294; replace q294 := eq_true q294) | ((with_reducible refine gate_callee (f := 15) rfl ?_); refine gL (some 69) Try.func15 #[.string (rdOf ByteArray.empty t262 4), .int .i64 0, .int .i64 6] ?_; (with_reducible refine (spec_l10Field.calls kj2 (rdOf ByteArray.empty t262 4) 0 6 t295 t296 _ A28.out).mono ?_); rintro e w61 ⟨v297, rfl, ho0, hb⟩; refine ⟨_, rfl, ?_⟩; have HO298 := aM (Kd.R_lower (Kd.R_new' (Kd.R_new' (Kd.R_new' (Kd.R_new' ho0 (Kd.R_lt (uR HO274))) (Kd.R_lt (uR HO280))) (Kd.R_lt (uR HO286))) (Kd.R_lt (uR HO292))) (below_size (uL HB))); replace HO_4 := aM (Kd.R_below (uR HO_4) hb); replace HO269 := aM (Kd.R_below (uR HO269) hb); replace HO274 := aM (Kd.R_elder' (uR HO274) (Kd.R_base ho0) hb); replace HO280 := aM (Kd.R_elder' (uR HO280) (Kd.R_base ho0) hb); replace HO286 := aM (Kd.R_elder' (uR HO286) (Kd.R_base ho0) hb); replace HO292 := aM (Kd.R_elder' (uR HO292) (Kd.R_base ho0) hb); replace BK261 := blkB BK261 hb; replace BK266 := blkB BK266 hb; replace HB := aM (below_step (uL HB) hb); try clear hb ho0; obtain ⟨Ao62, co62, eo62⟩ := Kd.R_slice HO298.out; subst eo62; have hcz63_0 := czA BK266.out 0 (.slice Ao38 t271.length co38); have hcz63_1 := czA BK266.out 1 (.slice Ao44 t277.length co44); have hcz63_2 := czA BK266.out 2 (.slice Ao50 t283.length co50); have hcz63_3 := czA BK266.out 3 (.slice Ao56 t289.length co56); have hcz63_4 := czA BK266.out 4 (.slice none 0 0); have hfz63_0 := blk_frozen BK266.out 0; have hfz63_1 := blk_frozen BK266.out 1; have hfz63_2 := blk_frozen BK266.out 2; have hfz63_3 := blk_frozen BK266.out 3; have hfz63_4 := blk_frozen BK266.out 4) | ((with_reducible refine gate_store (t := 24) (p := 72) rfl ?_); refine store_event (t := 24) (p := 72) (v := ?vo_w64) (w1 := (w61.setCell ⟨gb266, 4, none⟩ (.slice Ao62 t295.length co62))) ?hg ?ho ?hn ?hr ?_; (case ho => rfl); (case hg => rfl); (case hn => rfl); (case hr => first | (go_simp; done) | (go_simp; rfl)); intro w64 hw; have n0_ : Aside0 (Kd.R Kd.string 9 w64 w.heap.size (fun _ => True) (.slice (some ad270) t262.length co36) t262) := ⟨(by rw [hw]; exact (by (with_reducible repeat first | apply rA | apply rN | apply rD); exact Kd.R_mono (Kd.R_far (p := ⟨gb266, 4, none⟩) (Kd.R_types HO_4.out BK266.out (by decide)) (fun _ hk => hk.2) (.slice Ao62 t295.length co62)) (fun _ hk => trivial)))⟩; have n1_ : Aside0 (Kd.R Kd.bool 4 w64 w.heap.size (fun _ => True) (.slice (some ⟨go14, 0, none⟩) y267.length co14) y293) := ⟨(by rw [hw]; exact (by (with_reducible repeat first | apply rA | apply rN | apply rD); exact Kd.R_mono (Kd.R_far (p := ⟨gb266, 4, none⟩) (Kd.R_types HO269.out BK266.out (by decide)) (fun _ hk => hk.2) (.slice Ao62 t295.length co62)) (fun _ hk => trivial)))⟩; have n2_ : Aside0 (Kd.R (Kd.int .i64) 3 w64 w.heap.size (fun k_ => some k_ ≠ (.slice Ao44 t277.length co44 : Value).ownBlock ∧ some k_ ≠ (.slice Ao50 t283.length co50 : Value).ownBlock ∧ some k_ ≠ (.slice Ao56 t289.length co56 : Value).ownBlock ∧ some k_ ≠ (.slice Ao62 t295.length co62 : Value).ownBlock) (.slice Ao38 t271.length co38) t271) := ⟨(by rw [hw]; exact (by (with_reducible repeat first | apply rA | apply rN | apply rD); exact Kd.R_mono (Kd.R_far (p := ⟨gb266, 4, none⟩) (Kd.R_types HO274.out BK266.out (by decide)) (fun _ hk => hk.2) (.slice Ao62 t295.length co62)) (fun _ hk => ⟨hk.1.1.1, ⟨hk.1.1.2.1, ⟨hk.1.1.2.2, hk.1.2⟩⟩⟩)))⟩; have n3_ : Aside0 (Kd.R (Kd.int .i64) 3 w64 w.heap.size (fun k_ => some k_ ≠ (.slice Ao38 t271.length co38 : Value).ownBlock ∧ some k_ ≠ (.slice Ao50 t283.length co50 : Value).ownBlock ∧ some k_ ≠ (.slice Ao56 t289.length co56 : Value).ownBlock ∧ some k_ ≠ (.slice Ao62 t295.length co62 : Value).ownBlock) (.slice Ao44 t277.length co44) t277) := ⟨(by rw [hw]; exact (by (with_reducible repeat first | apply rA | apply rN | apply rD); exact Kd.R_mono (Kd.R_far (p := ⟨gb266, 4, none⟩) (Kd.R_types HO280.out BK266.out (by decide)) (fun _ hk => hk.2) (.slice Ao62 t295.length co62)) (fun _ hk => ⟨hk.1.1.1, ⟨hk.1.1.2.1, ⟨hk.1.1.2.2, hk.1.2⟩⟩⟩)))⟩; have n4_ : Aside0 (Kd.R (Kd.int .i64) 3 w64 w.heap.size (fun k_ => some k_ ≠ (.slice Ao38 t271.length co38 : Value).ownBlock ∧ some k_ ≠ (.slice Ao44 t277.length co44 : Value).ownBlock ∧ some k_ ≠ (.slice Ao56 t289.length co56 : Value).ownBlock ∧ some k_ ≠ (.slice Ao62 t295.length co62 : Value).ownBlock) (.slice Ao50 t283.length co50) t283) := ⟨(by rw [hw]; exact (by (with_reducible repeat first | apply rA | apply rN | apply rD); exact Kd.R_mono (Kd.R_far (p := ⟨gb266, 4, none⟩) (Kd.R_types HO286.out BK266.out (by decide)) (fun _ hk => hk.2) (.slice Ao62 t295.length co62)) (fun _ hk => ⟨hk.1.1.1, ⟨hk.1.1.2.1, ⟨hk.1.1.2.2, hk.1.2⟩⟩⟩)))⟩; have n5_ : Aside0 (Kd.R (Kd.int .i64) 3 w64 w.heap.size (fun k_ => some k_ ≠ (.slice Ao38 t271.length co38 : Value).ownBlock ∧ some k_ ≠ (.slice Ao44 t277.length co44 : Value).ownBlock ∧ some k_ ≠ (.slice Ao50 t283.length co50 : Value).ownBlock ∧ some k_ ≠ (.slice Ao62 t295.length co62 : Value).ownBlock) (.slice Ao56 t289.length co56) t289) := ⟨(by rw [hw]; exact (by (with_reducible repeat first | apply rA | apply rN | apply rD); exact Kd.R_mono (Kd.R_far (p := ⟨gb266, 4, none⟩) (Kd.R_types HO292.out BK266.out (by decide)) (fun _ hk => hk.2) (.slice Ao62 t295.length co62)) (fun _ hk => ⟨hk.1.1.1, ⟨hk.1.1.2.1, ⟨hk.1.1.2.2, hk.1.2⟩⟩⟩)))⟩; have n6_ : Aside0 (Kd.R (Kd.int .i64) 3 w64 w.heap.size (fun k_ => some k_ ≠ (.slice Ao38 t271.length co38 : Value).ownBlock ∧ some k_ ≠ (.slice Ao44 t277.length co44 : Value).ownBlock ∧ some k_ ≠ (.slice Ao50 t283.length co50 : Value).ownBlock ∧ some k_ ≠ (.slice Ao56 t289.length co56 : Value).ownBlock) (.slice Ao62 t295.length co62) t295) := ⟨(by rw [hw]; exact (by (with_reducible repeat first | apply rA | apply rN | apply rD); exact Kd.R_mono (Kd.R_far (p := ⟨gb266, 4, none⟩) (Kd.R_types HO298.out BK266.out (by decide)) (fun _ hk => hk.2) (.slice Ao62 t295.length co62)) (fun _ hk => ⟨hk.1.1.1.1.2, ⟨hk.1.1.1.2, ⟨hk.1.1.2, hk.1.2⟩⟩⟩)))⟩; have n7_ : Aside0 (w64.heap[gb261]? = some (.cells #[.slice none 0 0, .slice none 0 0, .slice none 0 0, .slice none 0 0, .slice none 0 0] 26 (0, 0))) := ⟨(by rw [hw]; exact (by refine nB ?_; refine blk_far ?_ NB261_266.out _; exact nB BK261.out))⟩; have n8_ : Aside0 (w64.heap[gb266]? = some (.cells #[.slice Ao38 t271.length co38, .slice Ao44 t277.length co44, .slice Ao50 t283.length co50, .slice Ao56 t289.length co56, .slice Ao62 t295.length co62] 26 (0, 0))) := ⟨(by rw [hw]; exact (by refine nB ?_; refine blk_put (cs := #[.slice Ao38 t271.length co38, .slice Ao44 t277.length co44, .slice Ao50 t283.length co50, .slice Ao56 t289.length co56, .slice none 0 0]) ?_ 4 _ rfl; exact nB BK266.out))⟩; have n9_ : Aside0 (Below w.heap.size w w64) := ⟨(by rw [hw]; exact (uL HB))⟩; clear hw; clear HO_4; clear HO269; clear HO274; clear HO280; clear HO286; clear HO292; clear HO298; clear BK261; clear BK266; clear HB; have HO_4 := n0_; have HO269 := n1_; have HO274 := n2_; have HO280 := n3_; have HO286 := n4_; have HO292 := n5_; have HO298 := n6_; have BK261 := n7_; have BK266 := n8_; have HB := n9_; clear n0_ n1_ n2_ n3_ n4_ n5_ n6_ n7_ n8_ n9_; have p30 : 0 ≤ (4 : Int) := (by omega); have q30 : (4 : Int) < ((y267.length : Int) : Int) := of_decide_eq_true (by first | (with_reducible assumption) | assumption); have qi30 : (4 < y267.length) = True := eq_true (by omega); obtain ⟨hx30_0, hf30_0⟩ := Kd.R_celln false HO269.out (4 : Int) p30 q30; (try rw [show ((4 : Int)).toNat = 4 from rfl] at hx30_0); (try simp only [Nat.reduceMul, Nat.zero_mul, Nat.zero_add, Nat.reduceAdd] at hx30_0); (try rw [show ((4 : Int)).toNat = 4 from rfl] at hf30_0); (try simp only [Nat.reduceMul, Nat.zero_mul, Nat.zero_add, Nat.reduceAdd] at hf30_0); replace p30 := eq_true p30; replace q30 := eq_true q30; obtain ⟨hy65_, hz65_⟩ := Kd.R_celln false HO269.out (4 : Int) (by omega) (of_decide_eq_true (by first | (with_reducible assumption) | assumption)); (try simp only [Int.reduceToNat, Int.toNat_zero, Int.toNat_ofNat, Nat.reduceMul, Nat.zero_mul, Nat.zero_add] at hy65_ hz65_); (try rw [show ((4 : Int)).toNat = 4 from rfl] at hy65_); (try rw [show ((4 : Int)).toNat = 4 from rfl] at hz65_); have HP65 := Kd.R_putg HO269.out (4 : Int) t296) | ((with_reducible refine gate_store (t := 4) (p := 73) rfl ?_); refine store_event (t := 4) (p := 73) (v := ?vo_w66) (w1 := (w64.setCell ⟨go14, (4 : Int).toNat, none⟩ (.bool t296))) ?hg ?ho ?hn ?hr ?_; (case ho => rfl); (case hg => rfl); (case hn => rfl); (case hr => first | (go_simp; done) | (go_simp; rfl)); intro w66 hw; have hg : w64.grownBy w66 (some go14) := (by rw [hw]; exact HP65.2); have hp_ : Kd.R Kd.bool 4 w66 w.heap.size (fun _ => True) (.slice (some ⟨go14, 0, none⟩) y267.length co14) y299 := (by rw [hw, Ny299.out]; exact HP65.1); clear HP65; replace HO_4 := aM (Kd.R_over' (v := (.slice (some ⟨go14, 0, none⟩) y267.length co14)) (uR HO_4) (Kd.R_typed HO269.out) (by decide) hg); replace BK261 := aM (blk_grown (g := gb261) (o := .cells #[.slice none 0 0, .slice none 0 0, .slice none 0 0, .slice none 0 0, .slice none 0 0] 26 (0, 0)) (uB BK261) hg (Kd.R_ne HO269.out BK261.out (by decide))); replace BK266 := aM (blk_grown (g := gb266) (o := .cells #[.slice Ao38 t271.length co38, .slice Ao44 t277.length co44, .slice Ao50 t283.length co50, .slice Ao56 t289.length co56, .slice Ao62 t295.length co62] 26 (0, 0)) (uB BK266) hg (Kd.R_ne HO269.out BK266.out (by decide))); replace HO274 := aM (Kd.R_over' (v := (.slice (some ⟨go14, 0, none⟩) y267.length co14)) (uR HO274) (Kd.R_typed HO269.out) (by decide) hg); replace HO280 := aM (Kd.R_over' (v := (.slice (some ⟨go14, 0, none⟩) y267.length co14)) (uR HO280) (Kd.R_typed HO269.out) (by decide) hg); replace HO286 := aM (Kd.R_over' (v := (.slice (some ⟨go14, 0, none⟩) y267.length co14)) (uR HO286) (Kd.R_typed HO269.out) (by decide) hg); replace HO292 := aM (Kd.R_over' (v := (.slice (some ⟨go14, 0, none⟩) y267.length co14)) (uR HO292) (Kd.R_typed HO269.out) (by decide) hg); replace HO298 := aM (Kd.R_over' (v := (.slice (some ⟨go14, 0, none⟩) y267.length co14)) (uR HO298) (Kd.R_typed HO269.out) (by decide) hg); replace HO269 := aM (hp_); replace HB := aM ((by rw [hw]; exact below_set (HB.out) GB14.out : Below w.heap.size w w66)); clear hg hw hp_))
               go_loopg [8] kj2 (fun kq v8 w' => ∃ (x8_2 : Int), v8 = .int .i64 x8_2 ∧ Aside0 (spec_ParseCron.l0 kq y299 x8_2 t271 t277 t283 t289 t295 = some (r1, r2, r3, r4, r5, r6)) ∧ Aside0 (kq ≤ kj2) ∧ Aside0 (Kd.R Kd.bool 4 w' w.heap.size (fun _ => True) (.slice (some ⟨go14, 0, none⟩) y267.length co14) y299) ∧ Aside0 (Kd.R (Kd.int .i64) 3 w' w.heap.size (fun k_ => some k_ ≠ ((.slice Ao44 t277.length co44) : Value).ownBlock ∧ some k_ ≠ ((.slice Ao50 t283.length co50) : Value).ownBlock ∧ some k_ ≠ ((.slice Ao56 t289.length co56) : Value).ownBlock ∧ some k_ ≠ ((.slice Ao62 t295.length co62) : Value).ownBlock) (.slice Ao38 t271.length co38) t271) ∧ Aside0 (Kd.R (Kd.int .i64) 3 w' w.heap.size (fun k_ => some k_ ≠ ((.slice Ao38 t271.length co38) : Value).ownBlock ∧ some k_ ≠ ((.slice Ao50 t283.length co50) : Value).ownBlock ∧ some k_ ≠ ((.slice Ao56 t289.length co56) : Value).ownBlock ∧ some k_ ≠ ((.slice Ao62 t295.length co62) : Value).ownBlock) (.slice Ao44 t277.length co44) t277) ∧ Aside0 (Kd.R (Kd.int .i64) 3 w' w.heap.size (fun k_ => some k_ ≠ ((.slice Ao38 t271.length co38) : Value).ownBlock ∧ some k_ ≠ ((.slice Ao44 t277.length co44) : Value).ownBlock ∧ some k_ ≠ ((.slice Ao56 t289.length co56) : Value).ownBlock ∧ some k_ ≠ ((.slice Ao62 t295.length co62) : Value).ownBlock) (.slice Ao50 t283.length co50) t283) ∧ Aside0 (Kd.R (Kd.int .i64) 3 w' w.heap.size (fun k_ => some k_ ≠ ((.slice Ao38 t271.length co38) : Value).ownBlock ∧ some k_ ≠ ((.slice Ao44 t277.length co44) : Value).ownBlock ∧ some k_ ≠ ((.slice Ao50 t283.length co50) : Value).ownBlock ∧ some k_ ≠ ((.slice Ao62 t295.length co62) : Value).ownBlock) (.slice Ao56 t289.length co56) t289) ∧ Aside0 (Kd.R (Kd.int .i64) 3 w' w.heap.size (fun k_ => some k_ ≠ ((.slice Ao38 t271.length co38) : Value).ownBlock ∧ some k_ ≠ ((.slice Ao44 t277.length co44) : Value).ownBlock ∧ some k_ ≠ ((.slice Ao50 t283.length co50) : Value).ownBlock ∧ some k_ ≠ ((.slice Ao56 t289.length co56) : Value).ownBlock) (.slice Ao62 t295.length co62) t295) ∧ Aside0 (w'.heap[gb261]? = some (.cells #[(.slice none 0 0), (.slice none 0 0), (.slice none 0 0), (.slice none 0 0), (.slice none 0 0)] 26 (0, 0))) ∧ Aside0 (w'.heap[gb266]? = some (.cells #[(.slice Ao38 t271.length co38), (.slice Ao44 t277.length co44), (.slice Ao50 t283.length co50), (.slice Ao56 t289.length co56), (.slice Ao62 t295.length co62)] 26 (0, 0))) ∧ Aside0 (Below w.heap.size w w'))
               case atStart => exact ⟨(0), (by first | rfl | (simp; done) | (simp [*]; done)), H', ⟨Nat.le_refl _⟩, ⟨by (with_reducible repeat first | apply rA | apply rN | apply rD); exact HO269.out⟩, ⟨by (with_reducible repeat first | apply rA | apply rN | apply rD); exact HO274.out⟩, ⟨by (with_reducible repeat first | apply rA | apply rN | apply rD); exact HO280.out⟩, ⟨by (with_reducible repeat first | apply rA | apply rN | apply rD); exact HO286.out⟩, ⟨by (with_reducible repeat first | apply rA | apply rN | apply rD); exact HO292.out⟩, ⟨by (with_reducible repeat first | apply rA | apply rN | apply rD); exact HO298.out⟩, ⟨by exact nB BK261.out⟩, ⟨by exact nB BK266.out⟩, ⟨uL HB⟩⟩
               case round =>
                clear H'
                try clear c1; try clear p1; try clear q1; try clear hx1; try clear qi1; try clear hf1; try clear c2; try clear p2; try clear q2; try clear hx2; try clear qi2; try clear hf2; try clear c3; try clear p3; try clear q3; try clear hx3; try clear qi3; try clear hf3; try clear c6; try clear c8; try clear c10; try clear c10b0; try clear c10b1; try clear c11; try clear c11b0; try clear c11b1; try clear c13; try clear c13b0; try clear c13b1; try clear c14; try clear p14; try clear q14; try clear hx14; try clear qi14; try clear hf14; try clear c15; try clear c15b0; try clear c15b1; try clear c17; try clear c17b0; try clear c17b1; try clear p18; try clear q18; try clear hx18; try clear qi18; try clear hf18; try clear c19; try clear c19b0; try clear c19b1; try clear c21; try clear c21b0; try clear c21b1; try clear p22; try clear q22; try clear hx22; try clear qi22; try clear hf22; try clear c23; try clear c23b0; try clear c23b1; try clear c25; try clear c25b0; try clear c25b1; try clear p26; try clear q26; try clear hx26; try clear qi26; try clear hf26; try clear c27; try clear c27b0; try clear c27b1; try clear p27; try clear q27; try clear hx27; try clear qi27; try clear p28; try clear q28; try clear hx28; try clear qi28; try clear c29; try clear c29b0; try clear c29b1; try clear p29; try clear q29; try clear hx29; try clear qi29; try clear p30; try clear q30; try clear hx30; try clear qi30; try clear hf30; try clear c32; try clear hcz33_0; try clear hcz33_1; try clear hcz33_2; try clear hcz33_3; try clear hcz33_4; try clear hcz39_0; try clear hcz39_1; try clear hcz39_2; try clear hcz39_3; try clear hcz39_4; try clear hcz45_0; try clear hcz45_1; try clear hcz45_2; try clear hcz45_3; try clear hcz45_4; try clear hcz51_0; try clear hcz51_1; try clear hcz51_2; try clear hcz51_3; try clear hcz51_4; try clear hcz57_0; try clear hcz57_1; try clear hcz57_2; try clear hcz57_3; try clear hcz57_4; try clear hcz63_0; try clear hcz63_1; try clear hcz63_2; try clear hcz63_3; try clear hcz63_4; try clear hcz9_0; try clear hcz9_1; try clear hcz9_2; try clear hcz9_3; try clear hcz9_4; try clear hfz33_0; try clear hfz33_1; try clear hfz33_2; try clear hfz33_3; try clear hfz33_4; try clear hfz39_0; try clear hfz39_1; try clear hfz39_2; try clear hfz39_3; try clear hfz39_4; try clear hfz45_0; try clear hfz45_1; try clear hfz45_2; try clear hfz45_3; try clear hfz45_4; try clear hfz51_0; try clear hfz51_1; try clear hfz51_2; try clear hfz51_3; try clear hfz51_4; try clear hfz57_0; try clear hfz57_1; try clear hfz57_2; try clear hfz57_3; try clear hfz57_4; try clear hfz63_0; try clear hfz63_1; try clear hfz63_2; try clear hfz63_3; try clear hfz63_4; try clear hfz9_0; try clear hfz9_1; try clear hfz9_2; try clear hfz9_3; try clear hfz9_4; try clear hx14_0; try clear hx18_0; try clear hx22_0; try clear hx26_0; try clear hx270_0; try clear hx276_0; try clear hx282_0; try clear hx288_0; try clear hx294_0; try clear hx30_0; try clear p14; try clear p18; try clear p2; try clear p22; try clear p26; try clear p270; try clear p276; try clear p282; try clear p288; try clear p294; try clear p30; try clear q14; try clear q18; try clear q22; try clear q26; try clear q270; try clear q276; try clear q282; try clear q288; try clear q294; try clear q30
                obtain ⟨x8_2, rfl, HA, HK2, HO_7, HO_267000, HO_267001, HO_267002, HO_267003, HO_267004, BK261, BK266, HB⟩ := hrel
                have hl7_2 := (Kd.R_reads' HO_7.out).1
                rw [hl7_2] at HO_7
                (try simp only [hl7_2])
                (try simp only [hl7_2] at BK261)
                (try simp only [hl7_2] at BK266)
                (try simp only [hl7_2] at HO_267000)
                (try simp only [hl7_2] at HO_267001)
                (try simp only [hl7_2] at HO_267002)
                (try simp only [hl7_2] at HO_267003)
                (try simp only [hl7_2] at HO_267004)
                cases gk with
                | zero => exact absurd HA.out (by simp [spec_ParseCron.l0])
                | succ k2 =>
                 have H := HA.out
                 clear HA
                 simp only [spec_ParseCron.l0] at H
                 by_cases c67 : x8_2 < 5
                 ·rw [if_pos c67] at H
                  have c67b0 : decide (x8_2 < 5) = true := decide_eq_true c67
                  clear c67
                  by_cases c68 : 0 ≤ x8_2
                  ·rw [if_pos c68] at H
                   have c68b0 : decide (0 ≤ x8_2) = true := decide_eq_true c68
                   clear c68
                   by_cases c69 : x8_2 < (y299.length : Int)
                   ·rw [if_pos c69] at H
                    have c69b0 : decide (x8_2 < (y299.length : Int)) = true := decide_eq_true c69
                    clear c69
                    obtain ⟨bq70, hbq70⟩ : ∃ b_ : Bool, b_ = (rdOf false y299 x8_2) := ⟨_, rfl⟩
                    replace H : (if bq70 = true then (spec_ParseCron.l0 k2 y299 (wrap64 (x8_2 + 1)) t271 t277 t283 t289 t295) else (some (([] : List Int), ([] : List Int), ([] : List Int), ([] : List Int), ([] : List Int), false))) = some (r1, r2, r3, r4, r5, r6) := by rw [← hbq70] at H; exact H
                    have Nbq70 := aM hbq70
                    clear hbq70
                    by_cases c71 : bq70 = true
                    ·subst c71
                     have H1 : (spec_ParseCron.l0 k2 y299 (wrap64 (x8_2 + 1)) t271 t277 t283 t289 t295) = some (r1, r2, r3, r4, r5, r6) := by rw [if_pos rfl] at H; exact H
                     clear H; have H := H1; clear H1
                     have H' := aM H
                     clear H
                     have p300 : 0 ≤ (x8_2 : Int) := of_decide_eq_true (by first | (with_reducible assumption) | assumption)
                     have q300 : x8_2 < (y299.length : Int) := of_decide_eq_true (by first | (with_reducible assumption) | assumption)
                     obtain ⟨ad300, e300, hx300_0⟩ := Kd.at_bool (Kd.R_reads' HO_7.out).2.2 x8_2 p300 q300
                     (try rw [← Nbq70.out] at hx300_0)
                     obtain rfl : (⟨go14, 0, none⟩ : Addr) = ad300 := (by injection e300)
                     (first | simp only [add_plain] at hx300_0 | simp only [add_at] at hx300_0 | simp only [Addr.add, Nat.zero_add] at hx300_0 | skip)
                     replace p300 := eq_true p300; replace q300 := eq_true q300
                     go_wp2
                     (try simp only [← hl7_2])
                     go_roundg k2
                     case measure => have := HJ2.out; have := HK2.out; omega
                     case rel => exact ⟨(wrap64 (x8_2 + 1)), (by first | rfl | (simp; done) | (simp [*]; done)), H', ⟨by have := HJ2.out; have := HK2.out; omega⟩, ⟨by (try simp only [hl7_2]); (with_reducible repeat first | apply rA | apply rN | apply rD); exact HO_7.out⟩, ⟨by (try simp only [hl7_2]); (with_reducible repeat first | apply rA | apply rN | apply rD); exact HO_267000.out⟩, ⟨by (try simp only [hl7_2]); (with_reducible repeat first | apply rA | apply rN | apply rD); exact HO_267001.out⟩, ⟨by (try simp only [hl7_2]); (with_reducible repeat first | apply rA | apply rN | apply rD); exact HO_267002.out⟩, ⟨by (try simp only [hl7_2]); (with_reducible repeat first | apply rA | apply rN | apply rD); exact HO_267003.out⟩, ⟨by (try simp only [hl7_2]); (with_reducible repeat first | apply rA | apply rN | apply rD); exact HO_267004.out⟩, ⟨by (try simp only [hl7_2]); exact nB BK261.out⟩, ⟨by (try simp only [hl7_2]); exact nB BK266.out⟩, ⟨uL HB⟩⟩
                    ·replace c71 := Bool.eq_false_iff.mpr c71
                     subst c71
                     have H1 : (some (([] : List Int), ([] : List Int), ([] : List Int), ([] : List Int), ([] : List Int), false)) = some (r1, r2, r3, r4, r5, r6) := by rw [if_neg (show ¬ (false = true) by decide)] at H; exact H
                     clear H; have H := H1; clear H1
                     simp only [Option.some.injEq, Prod.mk.injEq] at H
                     obtain ⟨rfl, rfl, rfl, rfl, rfl, rfl⟩ := H
                     have p300 : 0 ≤ (x8_2 : Int) := of_decide_eq_true (by first | (with_reducible assumption) | assumption)
                     have q300 : x8_2 < (y299.length : Int) := of_decide_eq_true (by first | (with_reducible assumption) | assumption)
                     obtain ⟨ad300, e300, hx300_0⟩ := Kd.at_bool (Kd.R_reads' HO_7.out).2.2 x8_2 p300 q300
                     (try rw [← Nbq70.out] at hx300_0)
                     obtain rfl : (⟨go14, 0, none⟩ : Addr) = ad300 := (by injection e300)
                     (first | simp only [add_plain] at hx300_0 | simp only [add_at] at hx300_0 | simp only [Addr.add, Nat.zero_add] at hx300_0 | skip)
                     replace p300 := eq_true p300; replace q300 := eq_true q300; have hnb72 := NB261_266.out; have hnc72 := NB266_261.out
                     have hcz73_0 := czA BK261.out 0 (.slice none 0 0)
                     have hcz73_1 := czA BK261.out 1 (.slice none 0 0)
                     have hcz73_2 := czA BK261.out 2 (.slice none 0 0)
                     have hcz73_3 := czA BK261.out 3 (.slice none 0 0)
                     have hcz73_4 := czA BK261.out 4 (.slice none 0 0)
                     have hfz73_0 := blk_frozen BK261.out 0; have hfz73_1 := blk_frozen BK261.out 1; have hfz73_2 := blk_frozen BK261.out 2; have hfz73_3 := blk_frozen BK261.out 3; have hfz73_4 := blk_frozen BK261.out 4
                     go_wp2
                     refine bodyPost_ret (results_ct rfl _ _ gb261 26 #[.slice none 0 0, .slice none 0 0, .slice none 0 0, .slice none 0 0, .slice none 0 0] (0, 0) _ rfl (by refine nB ?_; refine blk_put (cs := #[.slice none 0 0, .slice none 0 0, .slice none 0 0, .slice none 0 0, .slice none 0 0]) ?_ 4 _ rfl; refine nB ?_; refine blk_put (cs := #[.slice none 0 0, .slice none 0 0, .slice none 0 0, .slice none 0 0, .slice none 0 0]) ?_ 3 _ rfl; refine nB ?_; refine blk_put (cs := #[.slice none 0 0, .slice none 0 0, .slice none 0 0, .slice none 0 0, .slice none 0 0]) ?_ 2 _ rfl; refine nB ?_; refine blk_put (cs := #[.slice none 0 0, .slice none 0 0, .slice none 0 0, .slice none 0 0, .slice none 0 0]) ?_ 1 _ rfl; refine nB ?_; refine blk_put (cs := #[.slice none 0 0, .slice none 0 0, .slice none 0 0, .slice none 0 0, .slice none 0 0]) ?_ 0 _ rfl; exact nB BK261.out) Try.underlying26 rfl (by kernel_rfl)) rfl ?_
                     exact ⟨_, _, _, _, _, by first | rfl | (simp [errW_none, errW_some] <;> rfl) | (simp [*, errW_none, errW_some] <;> rfl), by first | exact Kd.R_nil _ _ _ _ _ | exact Kd.N_nil _ _ _ _ _ | exact Kd.V_nil _ _ _ _ _ | exact Kd.Q_nil _ _ _ _ _ | exact Kd.S_nil _ _ _ _ _, by first | exact Kd.R_nil _ _ _ _ _ | exact Kd.N_nil _ _ _ _ _ | exact Kd.V_nil _ _ _ _ _ | exact Kd.Q_nil _ _ _ _ _ | exact Kd.S_nil _ _ _ _ _, by first | exact Kd.R_nil _ _ _ _ _ | exact Kd.N_nil _ _ _ _ _ | exact Kd.V_nil _ _ _ _ _ | exact Kd.Q_nil _ _ _ _ _ | exact Kd.S_nil _ _ _ _ _, by first | exact Kd.R_nil _ _ _ _ _ | exact Kd.N_nil _ _ _ _ _ | exact Kd.V_nil _ _ _ _ _ | exact Kd.Q_nil _ _ _ _ _ | exact Kd.S_nil _ _ _ _ _, by first | exact Kd.R_nil _ _ _ _ _ | exact Kd.N_nil _ _ _ _ _ | exact Kd.V_nil _ _ _ _ _ | exact Kd.Q_nil _ _ _ _ _ | exact Kd.S_nil _ _ _ _ _, uL HB⟩
                   ·rw [if_neg c69] at H
                    exact absurd H (by simp)
                  ·rw [if_neg c68] at H
                   exact absurd H (by simp)
                 ·rw [if_neg c67] at H
                  have c67b0 : decide (x8_2 < 5) = false := decide_eq_false c67
                  clear c67
                  simp only [Option.some.injEq, Prod.mk.injEq] at H
                  obtain ⟨rfl, rfl, rfl, rfl, rfl, rfl⟩ := H
                  have hnb74 := NB266_261.out; have hnc74 := NB261_266.out
                  have hcz75_0 := czA BK266.out 0 (.slice Ao38 t271.length co38)
                  have hcz75_1 := czA BK266.out 1 (.slice Ao44 t277.length co44)
                  have hcz75_2 := czA BK266.out 2 (.slice Ao50 t283.length co50)
                  have hcz75_3 := czA BK266.out 3 (.slice Ao56 t289.length co56)
                  have hcz75_4 := czA BK266.out 4 (.slice Ao62 t295.length co62)
                  have hfz75_0 := blk_frozen BK266.out 0; have hfz75_1 := blk_frozen BK266.out 1; have hfz75_2 := blk_frozen BK266.out 2; have hfz75_3 := blk_frozen BK266.out 3; have hfz75_4 := blk_frozen BK266.out 4
                  have hcz76_0 := czA BK261.out 0 (.slice none 0 0)
                  have hcz76_1 := czA BK261.out 1 (.slice none 0 0)
                  have hcz76_2 := czA BK261.out 2 (.slice none 0 0)
                  have hcz76_3 := czA BK261.out 3 (.slice none 0 0)
                  have hcz76_4 := czA BK261.out 4 (.slice none 0 0)
                  have hfz76_0 := blk_frozen BK261.out 0; have hfz76_1 := blk_frozen BK261.out 1; have hfz76_2 := blk_frozen BK261.out 2; have hfz76_3 := blk_frozen BK261.out 3; have hfz76_4 := blk_frozen BK261.out 4
                  go_wp2
                  refine bodyPost_ret (results_ct rfl _ _ gb261 26 #[.slice Ao38 t271.length co38, .slice Ao44 t277.length co44, .slice Ao50 t283.length co50, .slice Ao56 t289.length co56, .slice Ao62 t295.length co62] (0, 0) _ rfl (by refine nB ?_; refine blk_put (cs := #[.slice Ao38 t271.length co38, .slice Ao44 t277.length co44, .slice Ao50 t283.length co50, .slice Ao56 t289.length co56, .slice none 0 0]) ?_ 4 _ rfl; refine nB ?_; refine blk_put (cs := #[.slice Ao38 t271.length co38, .slice Ao44 t277.length co44, .slice Ao50 t283.length co50, .slice none 0 0, .slice none 0 0]) ?_ 3 _ rfl; refine nB ?_; refine blk_put (cs := #[.slice Ao38 t271.length co38, .slice Ao44 t277.length co44, .slice none 0 0, .slice none 0 0, .slice none 0 0]) ?_ 2 _ rfl; refine nB ?_; refine blk_put (cs := #[.slice Ao38 t271.length co38, .slice none 0 0, .slice none 0 0, .slice none 0 0, .slice none 0 0]) ?_ 1 _ rfl; refine nB ?_; refine blk_put (cs := #[.slice none 0 0, .slice none 0 0, .slice none 0 0, .slice none 0 0, .slice none 0 0]) ?_ 0 _ rfl; exact nB BK261.out) Try.underlying26 rfl (by kernel_rfl)) rfl ?_
                  exact ⟨_, _, _, _, _, by first | rfl | (simp [errW_none, errW_some] <;> rfl) | (simp [*, errW_none, errW_some] <;> rfl), by (with_reducible repeat first | apply rA | apply rN | apply rD); exact Kd.R_mono (Kd.R_far (p := ⟨gb261, 4, none⟩) (Kd.R_far (p := ⟨gb261, 3, none⟩) (Kd.R_far (p := ⟨gb261, 2, none⟩) (Kd.R_far (p := ⟨gb261, 1, none⟩) (Kd.R_far (p := ⟨gb261, 0, none⟩) (Kd.R_types HO_267000.out BK261.out (by decide)) (fun _ hk => hk.2) (.slice Ao38 t271.length co38)) (fun _ hk => hk.2) (.slice Ao44 t277.length co44)) (fun _ hk => hk.2) (.slice Ao50 t283.length co50)) (fun _ hk => hk.2) (.slice Ao56 t289.length co56)) (fun _ hk => hk.2) (.slice Ao62 t295.length co62)) (fun _ hk => ⟨hk.1.1, ⟨hk.1.2.1, ⟨hk.1.2.2.1, hk.1.2.2.2⟩⟩⟩), by (with_reducible repeat first | apply rA | apply rN | apply rD); exact Kd.R_mono (Kd.R_far (p := ⟨gb261, 4, none⟩) (Kd.R_far (p := ⟨gb261, 3, none⟩) (Kd.R_far (p := ⟨gb261, 2, none⟩) (Kd.R_far (p := ⟨gb261, 1, none⟩) (Kd.R_far (p := ⟨gb261, 0, none⟩) (Kd.R_types HO_267001.out BK261.out (by decide)) (fun _ hk => hk.2) (.slice Ao38 t271.length co38)) (fun _ hk => hk.2) (.slice Ao44 t277.length co44)) (fun _ hk => hk.2) (.slice Ao50 t283.length co50)) (fun _ hk => hk.2) (.slice Ao56 t289.length co56)) (fun _ hk => hk.2) (.slice Ao62 t295.length co62)) (fun _ hk => ⟨hk.1.1, ⟨hk.1.2.1, ⟨hk.1.2.2.1, hk.1.2.2.2⟩⟩⟩), by (with_reducible repeat first | apply rA | apply rN | apply rD); exact Kd.R_mono (Kd.R_far (p := ⟨gb261, 4, none⟩) (Kd.R_far (p := ⟨gb261, 3, none⟩) (Kd.R_far (p := ⟨gb261, 2, none⟩) (Kd.R_far (p := ⟨gb261, 1, none⟩) (Kd.R_far (p := ⟨gb261, 0, none⟩) (Kd.R_types HO_267002.out BK261.out (by decide)) (fun _ hk => hk.2) (.slice Ao38 t271.length co38)) (fun _ hk => hk.2) (.slice Ao44 t277.length co44)) (fun _ hk => hk.2) (.slice Ao50 t283.length co50)) (fun _ hk => hk.2) (.slice Ao56 t289.length co56)) (fun _ hk => hk.2) (.slice Ao62 t295.length co62)) (fun _ hk => ⟨hk.1.1, ⟨hk.1.2.1, ⟨hk.1.2.2.1, hk.1.2.2.2⟩⟩⟩), by (with_reducible repeat first | apply rA | apply rN | apply rD); exact Kd.R_mono (Kd.R_far (p := ⟨gb261, 4, none⟩) (Kd.R_far (p := ⟨gb261, 3, none⟩) (Kd.R_far (p := ⟨gb261, 2, none⟩) (Kd.R_far (p := ⟨gb261, 1, none⟩) (Kd.R_far (p := ⟨gb261, 0, none⟩) (Kd.R_types HO_267003.out BK261.out (by decide)) (fun _ hk => hk.2) (.slice Ao38 t271.length co38)) (fun _ hk => hk.2) (.slice Ao44 t277.length co44)) (fun _ hk => hk.2) (.slice Ao50 t283.length co50)) (fun _ hk => hk.2) (.slice Ao56 t289.length co56)) (fun _ hk => hk.2) (.slice Ao62 t295.length co62)) (fun _ hk => ⟨hk.1.1, ⟨hk.1.2.1, ⟨hk.1.2.2.1, hk.1.2.2.2⟩⟩⟩), by (with_reducible repeat first | apply rA | apply rN | apply rD); exact Kd.R_mono (Kd.R_far (p := ⟨gb261, 4, none⟩) (Kd.R_far (p := ⟨gb261, 3, none⟩) (Kd.R_far (p := ⟨gb261, 2, none⟩) (Kd.R_far (p := ⟨gb261, 1, none⟩) (Kd.R_far (p := ⟨gb261, 0, none⟩) (Kd.R_types HO_267004.out BK261.out (by decide)) (fun _ hk => hk.2) (.slice Ao38 t271.length co38)) (fun _ hk => hk.2) (.slice Ao44 t277.length co44)) (fun _ hk => hk.2) (.slice Ao50 t283.length co50)) (fun _ hk => hk.2) (.slice Ao56 t289.length co56)) (fun _ hk => hk.2) (.slice Ao62 t295.length co62)) (fun _ hk => ⟨hk.1.1, ⟨hk.1.2.1, ⟨hk.1.2.2.1, hk.1.2.2.2⟩⟩⟩), uL HB⟩
              ·rw [if_neg c29] at H
               exact absurd H (by simp)
             ·rw [if_neg c27] at H
              exact absurd H (by simp)
            ·rw [if_neg c25] at H
             exact absurd H (by simp)
           ·rw [if_neg c23] at H
            exact absurd H (by simp)
          ·rw [if_neg c21] at H
           exact absurd H (by simp)
         ·rw [if_neg c19] at H
          exact absurd H (by simp)
        ·rw [if_neg c17] at H
         exact absurd H (by simp)
       ·rw [if_neg c15] at H
        exact absurd H (by simp)
      ·rw [if_neg c13] at H
       exact absurd H (by simp)
     ·rw [if_neg c11] at H
      exact absurd H (by simp)
    ·rw [if_neg c10] at H
     exact absurd H (by simp)

/-! ### spec_DrawPlaces: function 7 -/
def spec_DrawPlaces.l0 : Nat → List Int → Int → List Int → Int → Int → Option (List Int)
 | 0, _, _, _, _, _ => none
 | k + 1, x4, x5, x305000, x305001, x305002 => if x5 < 12 then ((spec_l01Below.f x305000 x305001 x305002 10000).bind fun bt311 => (if x4.length < 17592186044416 then (spec_DrawPlaces.l0 k (x4 ++ [bt311.1]) (wrap64 (x5 + 1)) x305000 bt311.2.1 bt311.2.2) else (none))) else (some x4)
def spec_DrawPlaces.f (k : Nat) (l0 : List Int) : Option (List Int) := (spec_l01New.f k l0).bind fun bt301 => ((spec_l01Byte.f bt301.1 bt301.2.1 bt301.2.2).bind fun bt305 => (spec_DrawPlaces.l0 k (([] : List Int)) 0 bt301.1 bt305.2.1 bt305.2.2))
theorem spec_DrawPlaces.mono_l : ∀ k, (∀ y0 y1 y2 y3 y4, LeO (spec_DrawPlaces.l0 k y0 y1 y2 y3 y4) (spec_DrawPlaces.l0 (k + 1) y0 y1 y2 y3 y4))
 | 0 => fun _ _ _ _ _ r h => by simp [spec_DrawPlaces.l0] at h
 | k + 1 => by
  have ih0 := spec_DrawPlaces.mono_l k
  ·intro y0 y1 y2 y3 y4
   unfold spec_DrawPlaces.l0
   repeat' first
   | (with_reducible exact ih0 _ _ _ _ _)
   | (with_reducible exact spec_l01New.mono _ _)
   | (with_reducible exact LeO.refl _)
   | (with_reducible exact LeO.none _)
   | (with_reducible refine LeO.ite ?_ ?_)
   | (with_reducible refine LeO.bind ?_ (fun _ => ?_))
   | exact ih0 _ _ _ _ _
   | exact spec_l01New.mono _ _
   | exact LeO.none _
   | refine LeO.ite ?_ ?_
   | refine LeO.bind ?_ (fun _ => ?_)
theorem spec_DrawPlaces.mono : ∀ a0 k, LeO (spec_DrawPlaces.f k a0) (spec_DrawPlaces.f (k + 1) a0) := by
 intro a0 k
 have ih0 := spec_DrawPlaces.mono_l k
 unfold spec_DrawPlaces.f
 repeat' first
  | (with_reducible exact ih0 _ _ _ _ _)
  | (with_reducible exact spec_l01New.mono _ _)
  | (with_reducible exact LeO.refl _)
  | (with_reducible exact LeO.none _)
  | (with_reducible refine LeO.ite ?_ ?_)
  | (with_reducible refine LeO.bind ?_ (fun _ => ?_))
  | exact ih0 _ _ _ _ _
  | exact spec_l01New.mono _ _
  | exact LeO.none _
  | refine LeO.ite ?_ ?_
  | refine LeO.bind ?_ (fun _ => ?_)
set_option maxHeartbeats 8000000 in
set_option maxRecDepth 100000 in
theorem spec_DrawPlaces.calls (k : Nat) (A0 : Option Addr) (c0 : Nat) (l0 : List Int) (r : List Int) (w : World) (hr0 : Kd.C (Kd.int .u8) w A0 l0.length l0) (hc0 : l0.length ≤ c0) (h : spec_DrawPlaces.f k l0 = some r) :
 Calls Try.prog 7 #[.slice A0 l0.length c0] w fun e w' => ∃ v0_ : Value, e = .returned (v0_) ∧ Kd.R (Kd.int .i64) 3 w' w.heap.size (fun _ => True) v0_ r ∧ Below w.heap.size w w' := by
 have HR0 := aM hr0
 have HC0 := aM hc0
 clear hr0 hc0
 have HB := aM (Below.refl w.heap.size w)
 have H : ((spec_l01New.f k l0).bind fun bt301 => ((spec_l01Byte.f bt301.1 bt301.2.1 bt301.2.2).bind fun bt305 => (spec_DrawPlaces.l0 k (([] : List Int)) 0 bt301.1 bt305.2.1 bt305.2.2))) = some r := h
 clear h
 replace H := Option.bind_eq_some_iff.mp H
 obtain ⟨⟨t301, t302, t303⟩, A20, H⟩ := H
 replace H : ((spec_l01Byte.f t301 t302 t303).bind fun bt305 => (spec_DrawPlaces.l0 k (([] : List Int)) 0 t301 bt305.2.1 bt305.2.2)) = some r := H
 have A2 := aM A20
 clear A20
 replace H := Option.bind_eq_some_iff.mp H
 obtain ⟨⟨t305, t306, t307⟩, A30, H⟩ := H
 replace H : (spec_DrawPlaces.l0 k (([] : List Int)) 0 t301 t306 t307) = some r := H
 have A3 := aM A30
 clear A30
 obtain ⟨y308, hy308⟩ : ∃ y_ : List Int, y_ = (([] : List Int)) := ⟨_, rfl⟩
 replace H : (spec_DrawPlaces.l0 k y308 0 t301 t306 t307) = some r := by first | (rw [hy308]; with_reducible exact H) | (have H2_ := (Option.bind_some _ _).symm.trans H; rw [hy308]; with_reducible exact H2_) | (have H2_ := (Option.bind_some _ _).symm.trans H; with_reducible exact H2_) | with_reducible exact H | (rw [hy308]; exact H) | exact H
 have Ny308 := aM hy308
 clear hy308
 have H' := aM H
 clear H
 go_enter Try.func7, Try.ntmps7
 go_wp2_with (first | ((with_reducible refine gate_callee (f := 11) rfl ?_); refine gL (some 7) Try.func11 #[.slice A0 l0.length c0] ?_; (with_reducible refine (spec_l01New.calls k _ _ l0 t301 t302 t303 w _ ?side1 ?side2 ?side3 A2.out).mono ?_); (case side1 => repeat (first | (with_reducible first | exact HB.out | apply lA | apply lN | apply lD) | exact HB.out)); (case side2 => exact HR0.out); (case side3 => exact HC0.out); rintro e w4 ⟨g304, rfl, hi, hb, hb2⟩; refine ⟨_, rfl, ?_⟩; have HI304 := aM (hi); replace HB := aM (hb); try clear hb hb2 hi) | ((with_reducible refine gate_callee (f := 16) rfl ?_); refine gL (some 9) Try.func16 #[.pointer (some ⟨g304, 0, none⟩)] ?_; (with_reducible refine (spec_l01Byte.calls g304 t301 t302 t303 t305 t306 t307 w _ ?side1 ?side2 A3.out).mono ?_); (case side1 => repeat (first | (with_reducible first | exact HI304.out | apply IsS57.alloc | apply IsS57.drewN | apply IsS57.drew | apply IsS57.set_1 | apply IsS57.set_2) | exact HI304.out)); (case side2 => repeat (first | (with_reducible first | exact HB.out | apply lA | apply lN | apply lD | refine lS ?_ (IsS57.ge HI304.out)) | exact HB.out)); rintro e w5 ⟨rfl, hi, hb, hk⟩; refine ⟨_, rfl, ?_⟩; replace HB := aM (hb); replace HI304 := aM (hi); try clear hb hk hi) | ((with_reducible refine gate_dst (N := 10) rfl ?_); refine Kd.R_lit (Kd.int .i64) _ 3 ?hg (N := 10) ?hd (xs := ([] : List Int)) (inner := []) (ok := fun _ => True) (okp := fun _ => True) ?hr ?hp (fun _ hk => hk) trivial (Below.refl _ _) (Nat.le_refl _) (by simp) ?_; (case hd => rfl); (case hg => rfl); (case hr => first | (go_simp; done) | (go_simp; rfl)); (case hp => exact (Reps.none _ _)); intro v309 w6 ho7 hb hg_ hnew_; clear hg_ hnew_; (first | rw [← Ny308.out] at ho7 | (simp only [Int.reduceToNat] at ho7; rw [← Ny308.out] at ho7)); have HO310 := aM (Kd.R_lower ho7 (below_size (by repeat (first | (with_reducible first | exact HB.out | apply lA | apply lN | apply lD | refine lS ?_ (IsS57.ge HI304.out)) | exact HB.out)))); replace HB := aM (below_step (by repeat (first | (with_reducible first | exact HB.out | apply lA | apply lN | apply lD | refine lS ?_ (IsS57.ge HI304.out)) | exact HB.out)) hb); replace HI304 := aM (IsS57.below (by repeat (first | (with_reducible first | exact HI304.out | apply IsS57.alloc | apply IsS57.drewN | apply IsS57.drew | apply IsS57.set_1 | apply IsS57.set_2) | exact HI304.out)) hb); clear hb ho7))
 go_loopg [4, 5] k (fun kq v4 v5 w' => ∃ (x4_1 : List Int) (x5_1 : Int) (x305001_1 : Int) (x305002_1 : Int), v5 = .int .i64 x5_1 ∧ Aside0 (spec_DrawPlaces.l0 kq x4_1 x5_1 t301 x305001_1 x305002_1 = some r) ∧ Aside0 (kq ≤ k) ∧ Aside0 (Kd.R (Kd.int .i64) 3 w' w.heap.size (fun _ => True) v4 x4_1) ∧ Aside0 (IsS57 w w' g304 t301 x305001_1 x305002_1) ∧ Aside0 (Below w.heap.size w w'))
 case atStart => exact ⟨(y308), (0), (t306), (t307), (by first | rfl | (simp; done) | (simp [*]; done)), H', ⟨Nat.le_refl _⟩, ⟨by (with_reducible repeat first | apply rA | apply rN | apply rD); exact HO310.out⟩, ⟨by repeat (first | (with_reducible first | exact HI304.out | apply IsS57.alloc | apply IsS57.drewN | apply IsS57.drew | apply IsS57.set_1 | apply IsS57.set_2) | exact HI304.out)⟩, ⟨by repeat (first | (with_reducible first | exact HB.out | apply lA | apply lN | apply lD | refine lS ?_ (IsS57.ge HI304.out)) | exact HB.out)⟩⟩
 case round =>
  clear H'
  try clear c1; try clear p2; try clear c7
  obtain ⟨x4_1, x5_1, x305001_1, x305002_1, rfl, HA, HK1, HO_4, HI304, HB⟩ := hrel
  cases gk with
  | zero => exact absurd HA.out (by simp [spec_DrawPlaces.l0])
  | succ k1 =>
   have H := HA.out
   clear HA
   simp only [spec_DrawPlaces.l0] at H
   by_cases c8 : x5_1 < 12
   ·rw [if_pos c8] at H
    have c8b0 : decide (x5_1 < 12) = true := decide_eq_true c8
    clear c8
    replace H := Option.bind_eq_some_iff.mp H
    obtain ⟨⟨t311, t312, t313⟩, A90, H⟩ := H
    try dsimp only at H
    have A9 := aM A90
    clear A90
    by_cases c10 : x4_1.length < 17592186044416
    ·rw [if_pos c10] at H
     have LMc10 := aM c10
     clear c10
     obtain ⟨y314, hy314⟩ : ∃ y_ : List Int, y_ = (x4_1 ++ [t311]) := ⟨_, rfl⟩
     replace H : (spec_DrawPlaces.l0 k1 y314 (wrap64 (x5_1 + 1)) t301 t312 t313) = some r := by first | (rw [hy314]; with_reducible exact H) | (have H2_ := (Option.bind_some _ _).symm.trans H; rw [hy314]; with_reducible exact H2_) | (have H2_ := (Option.bind_some _ _).symm.trans H; with_reducible exact H2_) | with_reducible exact H | (rw [hy314]; exact H) | exact H
     have Ny314 := aM hy314
     clear hy314
     have H' := aM H
     clear H
     go_wp2_with (first | ((with_reducible refine gate_callee (f := 13) rfl ?_); refine gL (some 17) Try.func13 #[.pointer (some ⟨g304, 0, none⟩), .int .i64 10000] ?_; (with_reducible refine (spec_l01Below.calls g304 t301 x305001_1 x305002_1 10000 t311 t312 t313 w _ ?side1 ?side2 A9.out).mono ?_); (case side1 => repeat (first | (with_reducible first | exact HI304.out | apply IsS57.alloc | apply IsS57.drewN | apply IsS57.drew | apply IsS57.set_1 | apply IsS57.set_2) | exact HI304.out)); (case side2 => repeat (first | (with_reducible first | exact HB.out | apply lA | apply lN | apply lD | refine lS ?_ (IsS57.ge HI304.out)) | exact HB.out)); rintro e w11 ⟨rfl, hi, hb, hk⟩; refine ⟨_, rfl, ?_⟩; replace HO_4 := aM (Kd.R_mono (Kd.R_keep (IsS57.apart (show IsS57 w _ g304 t301 x305001_1 x305002_1 from by repeat (first | (with_reducible first | exact HI304.out | apply IsS57.alloc | apply IsS57.drewN | apply IsS57.drew | apply IsS57.set_1 | apply IsS57.set_2) | exact HI304.out)) (uR HO_4) (by decide)) hk (fun _ h => h.2)) (fun _ h => h.1)); replace HB := aM (hb); replace HI304 := aM (hi); try clear hb hk hi) | ((with_reducible refine gate_builtin (b := .append) (xs := #[.tmp 15, .tmp 18]) rfl ?_); at_builtin; refine Kd.R_append (Kd.int .i64) (w0 := w) w.heap.size rfl (.tmp 15) (.tmp 18) 24 3 (.int .i64 0) 8 rfl Try.underlying24 info3 rfl (by decide) (by omega) u4 x4_1 t311 [.int .i64 t311] (fun _ => True) (fun _ => False) rfl rfl ?aP (fun _ hk => hk.elim) ?aF ?aO ?aB ?aS ?aL ?_; (case aP => exact rfl); (case aB => exact (by repeat (first | (with_reducible first | exact HB.out | apply lA | apply lN | apply lD | refine lS ?_ (IsS57.ge HI304.out)) | exact HB.out))); (case aF => exact (fun _ _ => trivial)); (case aO => exact (uR HO_4)); (case aS => exact (below_size (by repeat (first | (with_reducible first | exact HB.out | apply lA | apply lN | apply lD | refine lS ?_ (IsS57.ge HI304.out)) | exact HB.out)))); (case aL => have := LMc10.out; omega); intro v315 w12 ho hb hg hat; rw [← Ny314.out] at ho; have HO316 := aM (ho); replace HI304 := aM (IsS57.grown (by repeat (first | (with_reducible first | exact HI304.out | apply IsS57.alloc | apply IsS57.drewN | apply IsS57.drew | apply IsS57.set_1 | apply IsS57.set_2) | exact HI304.out)) hg (IsS57.own_ne HI304.out HO_4.out (by decide))); replace HB := aM (hb); clear HO_4; clear ho hb hg hat))
     go_roundg k1
     case measure => have := HK1.out; omega
     case rel => exact ⟨(y314), (wrap64 (x5_1 + 1)), (t312), (t313), (by first | rfl | (simp; done) | (simp [*]; done)), H', ⟨by have := HK1.out; omega⟩, ⟨by (with_reducible repeat first | apply rA | apply rN | apply rD); exact HO316.out⟩, ⟨by repeat (first | (with_reducible first | exact HI304.out | apply IsS57.alloc | apply IsS57.drewN | apply IsS57.drew | apply IsS57.set_1 | apply IsS57.set_2) | exact HI304.out)⟩, ⟨by repeat (first | (with_reducible first | exact HB.out | apply lA | apply lN | apply lD | refine lS ?_ (IsS57.ge HI304.out)) | exact HB.out)⟩⟩
    ·rw [if_neg c10] at H
     exact absurd H (by simp)
   ·rw [if_neg c8] at H
    have c8b0 : decide (x5_1 < 12) = false := decide_eq_false c8
    clear c8
    obtain rfl := Option.some.inj H
    go_wp2
    go_ret
    exact ⟨_, by first | rfl | (simp [errW_none, errW_some] <;> rfl) | (simp [*, errW_none, errW_some] <;> rfl), by (with_reducible repeat first | apply rA | apply rN | apply rD); exact HO_4.out, by repeat (first | (with_reducible first | exact HB.out | apply lA | apply lN | apply lD | refine lS ?_ (IsS57.ge HI304.out)) | exact HB.out)⟩

/-! ### impl_inRange: function 29 -/
def impl_inRange.f (a0 : Int) (a1 : Int) (a2 : Int) : Option (Bool) := if a0 ≥ a1 then (some (decide (a0 ≤ a2))) else (some false)
set_option maxHeartbeats 8000000 in
set_option maxRecDepth 100000 in
theorem impl_inRange.calls (a0 : Int) (a1 : Int) (a2 : Int) (r : Bool) (w : World) (h : impl_inRange.f a0 a1 a2 = some r) :
 Calls Try.prog 29 #[.int .i64 a0, .int .i64 a1, .int .i64 a2] w fun e w' => e = .returned (.bool r) ∧ Drawn0 w w' := by
 have H : (if a0 ≥ a1 then (some (decide (a0 ≤ a2))) else (some false)) = some r := h
 clear h
 by_cases c4 : a0 ≥ a1
 ·rw [if_pos c4] at H
  have c4b0 : decide (a1 ≤ a0) = true := decide_eq_true c4
  clear c4
  obtain rfl := Option.some.inj H
  go_enter Try.func29, Try.ntmps29
  go_wp2
  go_ret
  exact ⟨by first | rfl | (simp; done) | (simp [*]; done), by repeat (first | exact Drawn0.refl _ | apply Drawn0.step)⟩
 ·rw [if_neg c4] at H
  have c4b0 : decide (a1 ≤ a0) = false := decide_eq_false c4
  clear c4
  obtain rfl := Option.some.inj H
  go_enter Try.func29, Try.ntmps29
  go_wp2
  go_ret
  exact ⟨by first | rfl | (simp; done) | (simp [*]; done), by repeat (first | exact Drawn0.refl _ | apply Drawn0.step)⟩

/-! ### impl_isMinute: function 17 -/
def impl_isMinute.f (a0 : Int) : Option (Bool) := (impl_inRange.f a0 0 68374079).bind fun t317 => (some t317)
set_option maxHeartbeats 8000000 in
set_option maxRecDepth 100000 in
theorem impl_isMinute.calls (a0 : Int) (r : Bool) (w : World) (h : impl_isMinute.f a0 = some r) :
 Calls Try.prog 17 #[.int .i64 a0] w fun e w' => e = .returned (.bool r) ∧ Drawn0 w w' := by
 have H : ((impl_inRange.f a0 0 68374079).bind fun t317 => (some t317)) = some r := h
 clear h
 replace H := Option.bind_eq_some_iff.mp H
 obtain ⟨t317, A20, H⟩ := H
 replace H : (some t317) = some r := H
 have A2 := aM A20
 clear A20
 obtain rfl := Option.some.inj H
 go_enter Try.func17, Try.ntmps17
 go_wp2_with (first | ((with_reducible refine gate_callee (f := 29) rfl ?_); refine gL (some 4) Try.func29 #[.int .i64 a0, .int .i64 0, .int .i64 68374079] ?_; (with_reducible refine (impl_inRange.calls a0 0 68374079 t317 _ A2.out).mono ?_); rintro e w' ⟨rfl, ⟨nd, rfl⟩⟩; refine ⟨_, rfl, ?_⟩))
 go_ret
 exact ⟨by first | rfl | (simp; done) | (simp [*]; done), by repeat (first | exact Drawn0.refl _ | apply Drawn0.step)⟩

end Go.Proofs.Ythomiofokkkhgaa.QFnCounts
