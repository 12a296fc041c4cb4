-- Written by a program of this session's own (wip/turnprint.py over the kit's print); Lean checks it.
import Derived.Test.YtidfhfaekdahpaaQFnExactDoActx0
import Derived.Test.YtidfhfaekdahpaaQFnExactDoActx1
import Derived.Test.YtidfhfaekdahpaaQFnExactDoActx2
import Derived.Test.YtidfhfaekdahpaaQFnExactDoActx3
import Derived.Test.YtidfhfaekdahpaaQFnExactDoActx4
import Derived.Test.YtidfhfaekdahpaaQFnExactDoActx9
import Derived.Test.YtidfhfaekdahpaaQFnExactDoActx10
import Derived.Test.YtidfhfaekdahpaaQFnExactDoActx14
namespace Go.Proofs.Ytidfhfaekdahpaa.QFnExactDoAct
open Go.RowKit Go.Proofs.YtidfhfaekdahpaaW.PrintWords Go.Proofs.YtidfhfaekdahpaaW.PrintLast
attribute [local go_sem] Go.Proofs.YtidfhfaekdahpaaQWords.run_lss_str
attribute [local go_sem] Go.Proofs.YtidfhfaekdahpaaQWords.run_geq_str
attribute [local go_sem] Go.Proofs.YtidfhfaekdahpaaQWords.run_leq_str
attribute [local go_sem] Go.Proofs.YtidfhfaekdahpaaQWords.run_gtr_str
set_option linter.unusedVariables false
set_option linter.unusedSimpArgs false

/-! ### laws_FnExactDoAct: function 8 -/
def laws_FnExactDoAct.f (k : Nat) (l0_0 : List (S135)) (a1_0 : Int) (a1_1 : ByteArray) (a1_2 : ByteArray) (a1_3 : ByteArray) : Option (Bool) := (laws_szDisk.f k l0_0 1048576).bind fun t231 => (if t231 < 0 then (some true) else ((laws_szAct.f a1_0 a1_1 a1_2 a1_3 t231).bind fun t232 => (if t232 < 0 then (some true) else ((laws_toDisk.f k l0_0).bind fun t233 => ((laws_toAct.f a1_0 a1_1 a1_2 a1_3).bind fun bt236 => ((spec_DoAct.f k t233 bt236.1 bt236.2.1 bt236.2.2.1 bt236.2.2.2).bind fun bt240 => ((laws_toDisk.f k l0_0).bind fun t245 => ((laws_toAct.f a1_0 a1_1 a1_2 a1_3).bind fun bt249 => ((impl_DoAct.f k t245 bt249.1 bt249.2.1 bt249.2.2.1 bt249.2.2.2).bind fun bt253 => ((laws_eqDisk.f k bt253.1 bt240.1).bind fun t258 => (if t258 = true then (if (bt253.2 != bt240.2) = true then (none) else ((laws_toDisk.f k l0_0).bind fun t259 => ((laws_eqDisk.f k t245 t259).bind fun t262 => (if t262 = true then ((laws_markDisk.f k t245 1).bind fun bt263 => (if bt263.1 < 0 then (none) else ((laws_eqDisk.f k bt253.1 bt240.1).bind fun t265 => (if t265 = true then ((laws_markDisk.f k bt253.1 1).bind fun bt266 => ((laws_heldDisk.f k bt266.2 1).bind fun t268 => (if t268 < 0 then (none) else (if t268 = bt266.1 then ((laws_toDisk.f k l0_0).bind fun t269 => ((laws_toAct.f a1_0 a1_1 a1_2 a1_3).bind fun bt272 => ((impl_DoAct.f k t269 bt272.1 bt272.2.1 bt272.2.2.1 bt272.2.2.2).bind fun bt276 => ((laws_eqDisk.f k bt276.1 bt240.1).bind fun t281 => (if t281 = true then (if (bt276.2 != bt240.2) = true then (none) else ((laws_heldDisk.f k bt266.2 1).bind fun t282 => (if t282 < 0 then (none) else (if t282 = bt266.1 then (some true) else (none))))) else (none)))))) else (none))))) else (none))))) else (none))))) else (none))))))))))))
theorem laws_FnExactDoAct.mono : ∀ a0 a1 a2 a3 a4 k, LeO (laws_FnExactDoAct.f k a0 a1 a2 a3 a4) (laws_FnExactDoAct.f (k + 1) a0 a1 a2 a3 a4) := by
 intro a0 a1 a2 a3 a4 k
 unfold laws_FnExactDoAct.f
 repeat' first
   | (with_reducible exact impl_DoAct.mono _ _ _ _ _ _)
   | (with_reducible exact laws_eqDisk.mono _ _ _)
   | (with_reducible exact laws_heldDisk.mono _ _ _)
   | (with_reducible exact laws_markDisk.mono _ _ _)
   | (with_reducible exact laws_szDisk.mono _ _ _)
   | (with_reducible exact laws_toDisk.mono _ _)
   | (with_reducible exact spec_DoAct.mono _ _ _ _ _ _)
   | (with_reducible exact LeO.refl _)
   | (with_reducible exact LeO.none _)
   | (with_reducible refine LeO.ite ?_ ?_)
   | (with_reducible refine LeO.bind ?_ (fun _ => ?_))
   | exact impl_DoAct.mono _ _ _ _ _ _
   | exact laws_eqDisk.mono _ _ _
   | exact laws_heldDisk.mono _ _ _
   | exact laws_markDisk.mono _ _ _
   | exact laws_szDisk.mono _ _ _
   | exact laws_toDisk.mono _ _
   | exact spec_DoAct.mono _ _ _ _ _ _
   | exact LeO.none _
   | refine LeO.ite ?_ ?_
   | refine LeO.bind ?_ (fun _ => ?_)
def laws_FnExactDoAct.T8 : Bool × List (List Nat × List Nat) := (true, [([], []), ([0], [0]), ([], []), ([2, 1], [2]), ([1, 3, 3], [1, 3]), ([4], [4]), ([5], [5]), ([5], [5]), ([], []), ([8, 6, 4, 0, 1, 2, 3, 4, 5, 6, 8], [6, 8]), ([7, 9, 0, 1, 2, 3, 4, 5, 6, 7, 8, 9], [7])])
def laws_FnExactDoAct.B8 : List Nat := [0, 1, 0, 7, 15, 31, 63, 63, 0, 383, 1023]
theorem laws_FnExactDoAct.tab8 : rtab .any (opsOf Try.f8 8) = laws_FnExactDoAct.T8 := by kernel_rfl
theorem laws_FnExactDoAct.bits8 : waitsOk laws_FnExactDoAct.T8.2 laws_FnExactDoAct.B8 = true := by kernel_rfl
def laws_FnExactDoAct.T10 : Bool × List (List Nat × List Nat) := (true, [([], []), ([], []), ([1], [1]), ([0, 2, 2], [0, 2]), ([3], [3]), ([4], [4]), ([4], [4]), ([], []), ([7, 5, 3, 0, 1, 2, 3, 4, 5, 7], [5, 7]), ([6, 8, 0, 1, 2, 3, 4, 5, 6, 7, 8], [6])])
def laws_FnExactDoAct.B10 : List Nat := [0, 0, 2, 7, 15, 31, 31, 0, 191, 511]
theorem laws_FnExactDoAct.tab10 : rtab .any (opsOf Try.f8 10) = laws_FnExactDoAct.T10 := by kernel_rfl
theorem laws_FnExactDoAct.bits10 : waitsOk laws_FnExactDoAct.T10.2 laws_FnExactDoAct.B10 = true := by kernel_rfl
def laws_FnExactDoAct.T27 : Bool × List (List Nat × List Nat) := (true, [([], []), ([0], [0]), ([], []), ([2, 1], [2]), ([1, 3, 3], [1, 3]), ([4], [4]), ([5], [5]), ([5], [5]), ([], []), ([8, 6, 4, 0, 1, 2, 3, 4, 5, 6, 8], [6, 8]), ([7, 9, 0, 1, 2, 3, 4, 5, 6, 7, 8, 9], [7])])
def laws_FnExactDoAct.B27 : List Nat := [0, 1, 0, 7, 15, 31, 63, 63, 0, 383, 1023]
theorem laws_FnExactDoAct.tab27 : rtab .any (opsOf Try.f8 27) = laws_FnExactDoAct.T27 := by kernel_rfl
theorem laws_FnExactDoAct.bits27 : waitsOk laws_FnExactDoAct.T27.2 laws_FnExactDoAct.B27 = true := by kernel_rfl
set_option maxHeartbeats 8000000 in
set_option maxRecDepth 100000 in
theorem laws_FnExactDoAct.calls (k : Nat) (A0_0 : Option Addr) (c0_0 : Nat) (l0_0 : List (S135)) (a1_0 : Int) (a1_1 : ByteArray) (a1_2 : ByteArray) (a1_3 : ByteArray) (r : Bool) (w : World) (hr0_0 : Kd.C k135 w A0_0 l0_0.length l0_0) (hc0_0 : l0_0.length ≤ c0_0) (h : laws_FnExactDoAct.f k l0_0 a1_0 a1_1 a1_2 a1_3 = some r) :
  Calls Try.prog 8 #[.agg #[.slice A0_0 l0_0.length c0_0], .agg #[.int .i64 a1_0, .string a1_1, .string a1_2, .string a1_3]] w fun e w' => e = .returned (.bool r) ∧ Below w.heap.size w w' := by
 have hu24 := Try.underlying24
 have hu52 := Try.underlying52
 have hu30 := Try.underlying30
 have HR0_0 := aM hr0_0
 have HC0_0 := aM hc0_0
 clear hr0_0 hc0_0
 have HB := aM (Below.refl w.heap.size w)
 have H : ((laws_szDisk.f k l0_0 1048576).bind fun t231 => (if t231 < 0 then (some true) else ((laws_szAct.f a1_0 a1_1 a1_2 a1_3 t231).bind fun t232 => (if t232 < 0 then (some true) else ((laws_toDisk.f k l0_0).bind fun t233 => ((laws_toAct.f a1_0 a1_1 a1_2 a1_3).bind fun bt236 => ((spec_DoAct.f k t233 bt236.1 bt236.2.1 bt236.2.2.1 bt236.2.2.2).bind fun bt240 => ((laws_toDisk.f k l0_0).bind fun t245 => ((laws_toAct.f a1_0 a1_1 a1_2 a1_3).bind fun bt249 => ((impl_DoAct.f k t245 bt249.1 bt249.2.1 bt249.2.2.1 bt249.2.2.2).bind fun bt253 => ((laws_eqDisk.f k bt253.1 bt240.1).bind fun t258 => (if t258 = true then (if (bt253.2 != bt240.2) = true then (none) else ((laws_toDisk.f k l0_0).bind fun t259 => ((laws_eqDisk.f k t245 t259).bind fun t262 => (if t262 = true then ((laws_markDisk.f k t245 1).bind fun bt263 => (if bt263.1 < 0 then (none) else ((laws_eqDisk.f k bt253.1 bt240.1).bind fun t265 => (if t265 = true then ((laws_markDisk.f k bt253.1 1).bind fun bt266 => ((laws_heldDisk.f k bt266.2 1).bind fun t268 => (if t268 < 0 then (none) else (if t268 = bt266.1 then ((laws_toDisk.f k l0_0).bind fun t269 => ((laws_toAct.f a1_0 a1_1 a1_2 a1_3).bind fun bt272 => ((impl_DoAct.f k t269 bt272.1 bt272.2.1 bt272.2.2.1 bt272.2.2.2).bind fun bt276 => ((laws_eqDisk.f k bt276.1 bt240.1).bind fun t281 => (if t281 = true then (if (bt276.2 != bt240.2) = true then (none) else ((laws_heldDisk.f k bt266.2 1).bind fun t282 => (if t282 < 0 then (none) else (if t282 = bt266.1 then (some true) else (none))))) else (none)))))) else (none))))) else (none))))) else (none))))) else (none))))))))))))) = some r := h
 clear h
 replace H := Option.bind_eq_some_iff.mp H
 obtain ⟨t231, A30, H⟩ := H
 replace H : (if t231 < 0 then (some true) else ((laws_szAct.f a1_0 a1_1 a1_2 a1_3 t231).bind fun t232 => (if t232 < 0 then (some true) else ((laws_toDisk.f k l0_0).bind fun t233 => ((laws_toAct.f a1_0 a1_1 a1_2 a1_3).bind fun bt236 => ((spec_DoAct.f k t233 bt236.1 bt236.2.1 bt236.2.2.1 bt236.2.2.2).bind fun bt240 => ((laws_toDisk.f k l0_0).bind fun t245 => ((laws_toAct.f a1_0 a1_1 a1_2 a1_3).bind fun bt249 => ((impl_DoAct.f k t245 bt249.1 bt249.2.1 bt249.2.2.1 bt249.2.2.2).bind fun bt253 => ((laws_eqDisk.f k bt253.1 bt240.1).bind fun t258 => (if t258 = true then (if (bt253.2 != bt240.2) = true then (none) else ((laws_toDisk.f k l0_0).bind fun t259 => ((laws_eqDisk.f k t245 t259).bind fun t262 => (if t262 = true then ((laws_markDisk.f k t245 1).bind fun bt263 => (if bt263.1 < 0 then (none) else ((laws_eqDisk.f k bt253.1 bt240.1).bind fun t265 => (if t265 = true then ((laws_markDisk.f k bt253.1 1).bind fun bt266 => ((laws_heldDisk.f k bt266.2 1).bind fun t268 => (if t268 < 0 then (none) else (if t268 = bt266.1 then ((laws_toDisk.f k l0_0).bind fun t269 => ((laws_toAct.f a1_0 a1_1 a1_2 a1_3).bind fun bt272 => ((impl_DoAct.f k t269 bt272.1 bt272.2.1 bt272.2.2.1 bt272.2.2.2).bind fun bt276 => ((laws_eqDisk.f k bt276.1 bt240.1).bind fun t281 => (if t281 = true then (if (bt276.2 != bt240.2) = true then (none) else ((laws_heldDisk.f k bt266.2 1).bind fun t282 => (if t282 < 0 then (none) else (if t282 = bt266.1 then (some true) else (none))))) else (none)))))) else (none))))) else (none))))) else (none))))) else (none)))))))))))) = some r := H
 have A3 := aM A30
 clear A30
 by_cases c4 : t231 < 0
 ·rw [if_pos c4] at H
  have c4b0 : decide (t231 < 0) = true := decide_eq_true c4
  clear c4
  obtain rfl := Option.some.inj H
  go_enter Try.func8, Try.ntmps8
  go_wp2_with (first | ((with_reducible refine gate_dst (N := 2) rfl ?_); refine bxE 2 #[.slice A0_0 l0_0.length c0_0] 24 ?_; intro gb229 hg w5 hbox hb; have n0_ := aM (below_step (uL HB) hb); have n1_ := aM (hbox); have n2_ := szG hg (uL HB); have n3_ := szG hg (uL HB); clear HB; have HB := n0_; have BK229 := n1_; have GW229 := n2_; have GE229 := n3_; clear n0_ n1_ n2_ n3_; clear hb hbox hg) | ((with_reducible refine gate_dst (N := 3) rfl ?_); refine bxE 3 #[.int .i64 a1_0, .string a1_1, .string a1_2, .string a1_3] 52 ?_; intro gb230 hg w6 hbox hb; have n0_ := blkB BK229 hb; have n1_ := aM (below_step (uL HB) hb); have n2_ := aM (hbox); have n3_ := szG hg (uL HB); have n4_ := szG hg (uL HB); have n5_ := neL hg BK229; have n6_ := neG hg BK229; clear BK229; clear HB; have BK229 := n0_; have HB := n1_; have BK230 := n2_; have GW230 := n3_; have GE230 := n4_; have NB229_230 := n5_; have NB230_229 := n6_; clear n0_ n1_ n2_ n3_ n4_ n5_ n6_; clear hb hbox hg; have hnb7 := NB229_230.out; have hnc7 := NB230_229.out; have hcz8_0 : w6.cell? ⟨gb229, 0, none⟩ = some (.slice A0_0 l0_0.length c0_0) := (blk_cell BK229.out 0).trans rfl; have hfz8_0 := blk_frozen BK229.out 0) | ((with_reducible refine gate_callee (f := 15) rfl ?_); refine gL (some 18) Try.func15 #[.agg #[.slice A0_0 l0_0.length c0_0], .int .i64 1048576] ?_; (with_reducible refine (laws_szDisk.calls k _ _ l0_0 1048576 t231 _ ?side1 ?side2 A3.out).mono ?_); (case side1 => repeat (first | exact (Kd.C_below HR0_0.out HB.out) | (with_reducible refine cA ?_ _) | (with_reducible refine cN ?_ _) | (with_reducible refine cD ?_))); (case side2 => exact HC0_0.out); rintro e w9 ⟨rfl, hb⟩; refine ⟨_, rfl, ?_⟩; have n0_ := blkB BK229 hb; have n1_ := blkB BK230 hb; have n2_ := aM (below_step (uL HB) hb); clear BK229; clear BK230; clear HB; have BK229 := n0_; have BK230 := n1_; have HB := n2_; clear n0_ n1_ n2_; (try clear hb); (try clear hb2); (try clear hk); (try clear hi)))
  go_ret
  exact ⟨by first | rfl | (simp [errW_none, errW_some] <;> rfl) | (simp [*, errW_none, errW_some] <;> rfl), uL HB⟩
 ·rw [if_neg c4] at H
  have c4b0 : decide (t231 < 0) = false := decide_eq_false c4
  clear c4
  replace H := Option.bind_eq_some_iff.mp H
  obtain ⟨t232, A100, H⟩ := H
  replace H : (if t232 < 0 then (some true) else ((laws_toDisk.f k l0_0).bind fun t233 => ((laws_toAct.f a1_0 a1_1 a1_2 a1_3).bind fun bt236 => ((spec_DoAct.f k t233 bt236.1 bt236.2.1 bt236.2.2.1 bt236.2.2.2).bind fun bt240 => ((laws_toDisk.f k l0_0).bind fun t245 => ((laws_toAct.f a1_0 a1_1 a1_2 a1_3).bind fun bt249 => ((impl_DoAct.f k t245 bt249.1 bt249.2.1 bt249.2.2.1 bt249.2.2.2).bind fun bt253 => ((laws_eqDisk.f k bt253.1 bt240.1).bind fun t258 => (if t258 = true then (if (bt253.2 != bt240.2) = true then (none) else ((laws_toDisk.f k l0_0).bind fun t259 => ((laws_eqDisk.f k t245 t259).bind fun t262 => (if t262 = true then ((laws_markDisk.f k t245 1).bind fun bt263 => (if bt263.1 < 0 then (none) else ((laws_eqDisk.f k bt253.1 bt240.1).bind fun t265 => (if t265 = true then ((laws_markDisk.f k bt253.1 1).bind fun bt266 => ((laws_heldDisk.f k bt266.2 1).bind fun t268 => (if t268 < 0 then (none) else (if t268 = bt266.1 then ((laws_toDisk.f k l0_0).bind fun t269 => ((laws_toAct.f a1_0 a1_1 a1_2 a1_3).bind fun bt272 => ((impl_DoAct.f k t269 bt272.1 bt272.2.1 bt272.2.2.1 bt272.2.2.2).bind fun bt276 => ((laws_eqDisk.f k bt276.1 bt240.1).bind fun t281 => (if t281 = true then (if (bt276.2 != bt240.2) = true then (none) else ((laws_heldDisk.f k bt266.2 1).bind fun t282 => (if t282 < 0 then (none) else (if t282 = bt266.1 then (some true) else (none))))) else (none)))))) else (none))))) else (none))))) else (none))))) else (none)))))))))) = some r := H
  have A10 := aM A100
  clear A100
  by_cases c11 : t232 < 0
  ·rw [if_pos c11] at H
   have c11b0 : decide (t232 < 0) = true := decide_eq_true c11
   clear c11
   obtain rfl := Option.some.inj H
   go_enter Try.func8, Try.ntmps8
   go_wp2_with (first | ((with_reducible refine gate_dst (N := 2) rfl ?_); refine bxE 2 #[.slice A0_0 l0_0.length c0_0] 24 ?_; intro gb229 hg w12 hbox hb; have n0_ := aM (below_step (uL HB) hb); have n1_ := aM (hbox); have n2_ := szG hg (uL HB); have n3_ := szG hg (uL HB); clear HB; have HB := n0_; have BK229 := n1_; have GW229 := n2_; have GE229 := n3_; clear n0_ n1_ n2_ n3_; clear hb hbox hg) | ((with_reducible refine gate_dst (N := 3) rfl ?_); refine bxE 3 #[.int .i64 a1_0, .string a1_1, .string a1_2, .string a1_3] 52 ?_; intro gb230 hg w13 hbox hb; have n0_ := blkB BK229 hb; have n1_ := aM (below_step (uL HB) hb); have n2_ := aM (hbox); have n3_ := szG hg (uL HB); have n4_ := szG hg (uL HB); have n5_ := neL hg BK229; have n6_ := neG hg BK229; clear BK229; clear HB; have BK229 := n0_; have HB := n1_; have BK230 := n2_; have GW230 := n3_; have GE230 := n4_; have NB229_230 := n5_; have NB230_229 := n6_; clear n0_ n1_ n2_ n3_ n4_ n5_ n6_; clear hb hbox hg; have hnb14 := NB229_230.out; have hnc14 := NB230_229.out; have hcz15_0 : w13.cell? ⟨gb229, 0, none⟩ = some (.slice A0_0 l0_0.length c0_0) := (blk_cell BK229.out 0).trans rfl; have hfz15_0 := blk_frozen BK229.out 0) | ((with_reducible refine gate_callee (f := 15) rfl ?_); refine gL (some 18) Try.func15 #[.agg #[.slice A0_0 l0_0.length c0_0], .int .i64 1048576] ?_; (with_reducible refine (laws_szDisk.calls k _ _ l0_0 1048576 t231 _ ?side1 ?side2 A3.out).mono ?_); (case side1 => repeat (first | exact (Kd.C_below HR0_0.out HB.out) | (with_reducible refine cA ?_ _) | (with_reducible refine cN ?_ _) | (with_reducible refine cD ?_))); (case side2 => exact HC0_0.out); rintro e w16 ⟨rfl, hb⟩; refine ⟨_, rfl, ?_⟩; have n0_ := blkB BK229 hb; have n1_ := blkB BK230 hb; have n2_ := aM (below_step (uL HB) hb); clear BK229; clear BK230; clear HB; have BK229 := n0_; have BK230 := n1_; have HB := n2_; clear n0_ n1_ n2_; (try clear hb); (try clear hb2); (try clear hk); (try clear hi); have hcz17_0 : w16.cell? ⟨gb230, 0, none⟩ = some (.int .i64 a1_0) := (blk_cell BK230.out 0).trans rfl; have hcz17_1 : w16.cell? ⟨gb230, 1, none⟩ = some (.string a1_1) := (blk_cell BK230.out 1).trans rfl; have hcz17_2 : w16.cell? ⟨gb230, 2, none⟩ = some (.string a1_2) := (blk_cell BK230.out 2).trans rfl; have hcz17_3 : w16.cell? ⟨gb230, 3, none⟩ = some (.string a1_3) := (blk_cell BK230.out 3).trans rfl; have hfz17_0 := blk_frozen BK230.out 0; have hfz17_1 := blk_frozen BK230.out 1; have hfz17_2 := blk_frozen BK230.out 2; have hfz17_3 := blk_frozen BK230.out 3) | ((with_reducible refine gate_callee (f := 37) rfl ?_); refine gL (some 23) Try.func37 #[.agg #[.int .i64 a1_0, .string a1_1, .string a1_2, .string a1_3], .int .i64 t231] ?_; (with_reducible refine (laws_szAct.calls a1_0 a1_1 a1_2 a1_3 t231 t232 _ A10.out).mono ?_); rintro e w18 ⟨rfl, hb⟩; refine ⟨_, rfl, ?_⟩; have n0_ := blkB BK229 hb; have n1_ := blkB BK230 hb; have n2_ := aM (below_step (uL HB) hb); clear BK229; clear BK230; clear HB; have BK229 := n0_; have BK230 := n1_; have HB := n2_; clear n0_ n1_ n2_; (try clear hb); (try clear hb2); (try clear hk); (try clear hi)))
   go_ret
   exact ⟨by first | rfl | (simp [errW_none, errW_some] <;> rfl) | (simp [*, errW_none, errW_some] <;> rfl), uL HB⟩
  ·rw [if_neg c11] at H
   have c11b0 : decide (t232 < 0) = false := decide_eq_false c11
   clear c11
   replace H := Option.bind_eq_some_iff.mp H
   obtain ⟨t233, A190, H⟩ := H
   replace H : ((laws_toAct.f a1_0 a1_1 a1_2 a1_3).bind fun bt236 => ((spec_DoAct.f k t233 bt236.1 bt236.2.1 bt236.2.2.1 bt236.2.2.2).bind fun bt240 => ((laws_toDisk.f k l0_0).bind fun t245 => ((laws_toAct.f a1_0 a1_1 a1_2 a1_3).bind fun bt249 => ((impl_DoAct.f k t245 bt249.1 bt249.2.1 bt249.2.2.1 bt249.2.2.2).bind fun bt253 => ((laws_eqDisk.f k bt253.1 bt240.1).bind fun t258 => (if t258 = true then (if (bt253.2 != bt240.2) = true then (none) else ((laws_toDisk.f k l0_0).bind fun t259 => ((laws_eqDisk.f k t245 t259).bind fun t262 => (if t262 = true then ((laws_markDisk.f k t245 1).bind fun bt263 => (if bt263.1 < 0 then (none) else ((laws_eqDisk.f k bt253.1 bt240.1).bind fun t265 => (if t265 = true then ((laws_markDisk.f k bt253.1 1).bind fun bt266 => ((laws_heldDisk.f k bt266.2 1).bind fun t268 => (if t268 < 0 then (none) else (if t268 = bt266.1 then ((laws_toDisk.f k l0_0).bind fun t269 => ((laws_toAct.f a1_0 a1_1 a1_2 a1_3).bind fun bt272 => ((impl_DoAct.f k t269 bt272.1 bt272.2.1 bt272.2.2.1 bt272.2.2.2).bind fun bt276 => ((laws_eqDisk.f k bt276.1 bt240.1).bind fun t281 => (if t281 = true then (if (bt276.2 != bt240.2) = true then (none) else ((laws_heldDisk.f k bt266.2 1).bind fun t282 => (if t282 < 0 then (none) else (if t282 = bt266.1 then (some true) else (none))))) else (none)))))) else (none))))) else (none))))) else (none))))) else (none)))))))) = some r := H
   have A19 := aM A190
   clear A190
   replace H := Option.bind_eq_some_iff.mp H
   obtain ⟨⟨t236, t237, t238, t239⟩, A200, H⟩ := H
   replace H : ((spec_DoAct.f k t233 t236 t237 t238 t239).bind fun bt240 => ((laws_toDisk.f k l0_0).bind fun t245 => ((laws_toAct.f a1_0 a1_1 a1_2 a1_3).bind fun bt249 => ((impl_DoAct.f k t245 bt249.1 bt249.2.1 bt249.2.2.1 bt249.2.2.2).bind fun bt253 => ((laws_eqDisk.f k bt253.1 bt240.1).bind fun t258 => (if t258 = true then (if (bt253.2 != bt240.2) = true then (none) else ((laws_toDisk.f k l0_0).bind fun t259 => ((laws_eqDisk.f k t245 t259).bind fun t262 => (if t262 = true then ((laws_markDisk.f k t245 1).bind fun bt263 => (if bt263.1 < 0 then (none) else ((laws_eqDisk.f k bt253.1 bt240.1).bind fun t265 => (if t265 = true then ((laws_markDisk.f k bt253.1 1).bind fun bt266 => ((laws_heldDisk.f k bt266.2 1).bind fun t268 => (if t268 < 0 then (none) else (if t268 = bt266.1 then ((laws_toDisk.f k l0_0).bind fun t269 => ((laws_toAct.f a1_0 a1_1 a1_2 a1_3).bind fun bt272 => ((impl_DoAct.f k t269 bt272.1 bt272.2.1 bt272.2.2.1 bt272.2.2.2).bind fun bt276 => ((laws_eqDisk.f k bt276.1 bt240.1).bind fun t281 => (if t281 = true then (if (bt276.2 != bt240.2) = true then (none) else ((laws_heldDisk.f k bt266.2 1).bind fun t282 => (if t282 < 0 then (none) else (if t282 = bt266.1 then (some true) else (none))))) else (none)))))) else (none))))) else (none))))) else (none))))) else (none))))))) = some r := H
   have A20 := aM A200
   clear A200
   replace H := Option.bind_eq_some_iff.mp H
   obtain ⟨⟨t240, t243⟩, A210, H⟩ := H
   replace H : ((laws_toDisk.f k l0_0).bind fun t245 => ((laws_toAct.f a1_0 a1_1 a1_2 a1_3).bind fun bt249 => ((impl_DoAct.f k t245 bt249.1 bt249.2.1 bt249.2.2.1 bt249.2.2.2).bind fun bt253 => ((laws_eqDisk.f k bt253.1 t240).bind fun t258 => (if t258 = true then (if (bt253.2 != t243) = true then (none) else ((laws_toDisk.f k l0_0).bind fun t259 => ((laws_eqDisk.f k t245 t259).bind fun t262 => (if t262 = true then ((laws_markDisk.f k t245 1).bind fun bt263 => (if bt263.1 < 0 then (none) else ((laws_eqDisk.f k bt253.1 t240).bind fun t265 => (if t265 = true then ((laws_markDisk.f k bt253.1 1).bind fun bt266 => ((laws_heldDisk.f k bt266.2 1).bind fun t268 => (if t268 < 0 then (none) else (if t268 = bt266.1 then ((laws_toDisk.f k l0_0).bind fun t269 => ((laws_toAct.f a1_0 a1_1 a1_2 a1_3).bind fun bt272 => ((impl_DoAct.f k t269 bt272.1 bt272.2.1 bt272.2.2.1 bt272.2.2.2).bind fun bt276 => ((laws_eqDisk.f k bt276.1 t240).bind fun t281 => (if t281 = true then (if (bt276.2 != t243) = true then (none) else ((laws_heldDisk.f k bt266.2 1).bind fun t282 => (if t282 < 0 then (none) else (if t282 = bt266.1 then (some true) else (none))))) else (none)))))) else (none))))) else (none))))) else (none))))) else (none)))))) = some r := H
   have A21 := aM A210
   clear A210
   replace H := Option.bind_eq_some_iff.mp H
   obtain ⟨t245, A220, H⟩ := H
   replace H : ((laws_toAct.f a1_0 a1_1 a1_2 a1_3).bind fun bt249 => ((impl_DoAct.f k t245 bt249.1 bt249.2.1 bt249.2.2.1 bt249.2.2.2).bind fun bt253 => ((laws_eqDisk.f k bt253.1 t240).bind fun t258 => (if t258 = true then (if (bt253.2 != t243) = true then (none) else ((laws_toDisk.f k l0_0).bind fun t259 => ((laws_eqDisk.f k t245 t259).bind fun t262 => (if t262 = true then ((laws_markDisk.f k t245 1).bind fun bt263 => (if bt263.1 < 0 then (none) else ((laws_eqDisk.f k bt253.1 t240).bind fun t265 => (if t265 = true then ((laws_markDisk.f k bt253.1 1).bind fun bt266 => ((laws_heldDisk.f k bt266.2 1).bind fun t268 => (if t268 < 0 then (none) else (if t268 = bt266.1 then ((laws_toDisk.f k l0_0).bind fun t269 => ((laws_toAct.f a1_0 a1_1 a1_2 a1_3).bind fun bt272 => ((impl_DoAct.f k t269 bt272.1 bt272.2.1 bt272.2.2.1 bt272.2.2.2).bind fun bt276 => ((laws_eqDisk.f k bt276.1 t240).bind fun t281 => (if t281 = true then (if (bt276.2 != t243) = true then (none) else ((laws_heldDisk.f k bt266.2 1).bind fun t282 => (if t282 < 0 then (none) else (if t282 = bt266.1 then (some true) else (none))))) else (none)))))) else (none))))) else (none))))) else (none))))) else (none))))) = some r := H
   have A22 := aM A220
   clear A220
   replace H := Option.bind_eq_some_iff.mp H
   obtain ⟨⟨t249, t250, t251, t252⟩, A230, H⟩ := H
   replace H : ((impl_DoAct.f k t245 t249 t250 t251 t252).bind fun bt253 => ((laws_eqDisk.f k bt253.1 t240).bind fun t258 => (if t258 = true then (if (bt253.2 != t243) = true then (none) else ((laws_toDisk.f k l0_0).bind fun t259 => ((laws_eqDisk.f k t245 t259).bind fun t262 => (if t262 = true then ((laws_markDisk.f k t245 1).bind fun bt263 => (if bt263.1 < 0 then (none) else ((laws_eqDisk.f k bt253.1 t240).bind fun t265 => (if t265 = true then ((laws_markDisk.f k bt253.1 1).bind fun bt266 => ((laws_heldDisk.f k bt266.2 1).bind fun t268 => (if t268 < 0 then (none) else (if t268 = bt266.1 then ((laws_toDisk.f k l0_0).bind fun t269 => ((laws_toAct.f a1_0 a1_1 a1_2 a1_3).bind fun bt272 => ((impl_DoAct.f k t269 bt272.1 bt272.2.1 bt272.2.2.1 bt272.2.2.2).bind fun bt276 => ((laws_eqDisk.f k bt276.1 t240).bind fun t281 => (if t281 = true then (if (bt276.2 != t243) = true then (none) else ((laws_heldDisk.f k bt266.2 1).bind fun t282 => (if t282 < 0 then (none) else (if t282 = bt266.1 then (some true) else (none))))) else (none)))))) else (none))))) else (none))))) else (none))))) else (none)))) = some r := H
   have A23 := aM A230
   clear A230
   replace H := Option.bind_eq_some_iff.mp H
   obtain ⟨⟨t253, t256⟩, A240, H⟩ := H
   replace H : ((laws_eqDisk.f k t253 t240).bind fun t258 => (if t258 = true then (if (t256 != t243) = true then (none) else ((laws_toDisk.f k l0_0).bind fun t259 => ((laws_eqDisk.f k t245 t259).bind fun t262 => (if t262 = true then ((laws_markDisk.f k t245 1).bind fun bt263 => (if bt263.1 < 0 then (none) else ((laws_eqDisk.f k t253 t240).bind fun t265 => (if t265 = true then ((laws_markDisk.f k t253 1).bind fun bt266 => ((laws_heldDisk.f k bt266.2 1).bind fun t268 => (if t268 < 0 then (none) else (if t268 = bt266.1 then ((laws_toDisk.f k l0_0).bind fun t269 => ((laws_toAct.f a1_0 a1_1 a1_2 a1_3).bind fun bt272 => ((impl_DoAct.f k t269 bt272.1 bt272.2.1 bt272.2.2.1 bt272.2.2.2).bind fun bt276 => ((laws_eqDisk.f k bt276.1 t240).bind fun t281 => (if t281 = true then (if (bt276.2 != t243) = true then (none) else ((laws_heldDisk.f k bt266.2 1).bind fun t282 => (if t282 < 0 then (none) else (if t282 = bt266.1 then (some true) else (none))))) else (none)))))) else (none))))) else (none))))) else (none))))) else (none))) = some r := H
   have A24 := aM A240
   clear A240
   replace H := Option.bind_eq_some_iff.mp H
   obtain ⟨t258, A250, H⟩ := H
   replace H : (if t258 = true then (if (t256 != t243) = true then (none) else ((laws_toDisk.f k l0_0).bind fun t259 => ((laws_eqDisk.f k t245 t259).bind fun t262 => (if t262 = true then ((laws_markDisk.f k t245 1).bind fun bt263 => (if bt263.1 < 0 then (none) else ((laws_eqDisk.f k t253 t240).bind fun t265 => (if t265 = true then ((laws_markDisk.f k t253 1).bind fun bt266 => ((laws_heldDisk.f k bt266.2 1).bind fun t268 => (if t268 < 0 then (none) else (if t268 = bt266.1 then ((laws_toDisk.f k l0_0).bind fun t269 => ((laws_toAct.f a1_0 a1_1 a1_2 a1_3).bind fun bt272 => ((impl_DoAct.f k t269 bt272.1 bt272.2.1 bt272.2.2.1 bt272.2.2.2).bind fun bt276 => ((laws_eqDisk.f k bt276.1 t240).bind fun t281 => (if t281 = true then (if (bt276.2 != t243) = true then (none) else ((laws_heldDisk.f k bt266.2 1).bind fun t282 => (if t282 < 0 then (none) else (if t282 = bt266.1 then (some true) else (none))))) else (none)))))) else (none))))) else (none))))) else (none))))) else (none)) = some r := H
   have A25 := aM A250
   clear A250
   by_cases c26 : t258 = true
   ·subst c26
    have H1 : (if (t256 != t243) = true then (none) else ((laws_toDisk.f k l0_0).bind fun t259 => ((laws_eqDisk.f k t245 t259).bind fun t262 => (if t262 = true then ((laws_markDisk.f k t245 1).bind fun bt263 => (if bt263.1 < 0 then (none) else ((laws_eqDisk.f k t253 t240).bind fun t265 => (if t265 = true then ((laws_markDisk.f k t253 1).bind fun bt266 => ((laws_heldDisk.f k bt266.2 1).bind fun t268 => (if t268 < 0 then (none) else (if t268 = bt266.1 then ((laws_toDisk.f k l0_0).bind fun t269 => ((laws_toAct.f a1_0 a1_1 a1_2 a1_3).bind fun bt272 => ((impl_DoAct.f k t269 bt272.1 bt272.2.1 bt272.2.2.1 bt272.2.2.2).bind fun bt276 => ((laws_eqDisk.f k bt276.1 t240).bind fun t281 => (if t281 = true then (if (bt276.2 != t243) = true then (none) else ((laws_heldDisk.f k bt266.2 1).bind fun t282 => (if t282 < 0 then (none) else (if t282 = bt266.1 then (some true) else (none))))) else (none)))))) else (none))))) else (none))))) else (none))))) = some r := by rw [if_pos rfl] at H; exact H
    clear H; have H := H1; clear H1
    by_cases c27 : (t256 != t243) = true
    ·rw [if_pos c27] at H
     exact absurd H (by simp)
    ·rw [if_neg c27] at H
     have c27b0 : (t256 != t243) = false := by simpa using c27
     (try (have c27b1 : decide (t256 = t243) = true := by simpa using c27))
     (try (have c27b2 : (t256 == t243) = true := by simpa using c27))
     clear c27
     replace H := Option.bind_eq_some_iff.mp H
     obtain ⟨t259, A280, H⟩ := H
     replace H : ((laws_eqDisk.f k t245 t259).bind fun t262 => (if t262 = true then ((laws_markDisk.f k t245 1).bind fun bt263 => (if bt263.1 < 0 then (none) else ((laws_eqDisk.f k t253 t240).bind fun t265 => (if t265 = true then ((laws_markDisk.f k t253 1).bind fun bt266 => ((laws_heldDisk.f k bt266.2 1).bind fun t268 => (if t268 < 0 then (none) else (if t268 = bt266.1 then ((laws_toDisk.f k l0_0).bind fun t269 => ((laws_toAct.f a1_0 a1_1 a1_2 a1_3).bind fun bt272 => ((impl_DoAct.f k t269 bt272.1 bt272.2.1 bt272.2.2.1 bt272.2.2.2).bind fun bt276 => ((laws_eqDisk.f k bt276.1 t240).bind fun t281 => (if t281 = true then (if (bt276.2 != t243) = true then (none) else ((laws_heldDisk.f k bt266.2 1).bind fun t282 => (if t282 < 0 then (none) else (if t282 = bt266.1 then (some true) else (none))))) else (none)))))) else (none))))) else (none))))) else (none))) = some r := H
     have A28 := aM A280
     clear A280
     replace H := Option.bind_eq_some_iff.mp H
     obtain ⟨t262, A290, H⟩ := H
     replace H : (if t262 = true then ((laws_markDisk.f k t245 1).bind fun bt263 => (if bt263.1 < 0 then (none) else ((laws_eqDisk.f k t253 t240).bind fun t265 => (if t265 = true then ((laws_markDisk.f k t253 1).bind fun bt266 => ((laws_heldDisk.f k bt266.2 1).bind fun t268 => (if t268 < 0 then (none) else (if t268 = bt266.1 then ((laws_toDisk.f k l0_0).bind fun t269 => ((laws_toAct.f a1_0 a1_1 a1_2 a1_3).bind fun bt272 => ((impl_DoAct.f k t269 bt272.1 bt272.2.1 bt272.2.2.1 bt272.2.2.2).bind fun bt276 => ((laws_eqDisk.f k bt276.1 t240).bind fun t281 => (if t281 = true then (if (bt276.2 != t243) = true then (none) else ((laws_heldDisk.f k bt266.2 1).bind fun t282 => (if t282 < 0 then (none) else (if t282 = bt266.1 then (some true) else (none))))) else (none)))))) else (none))))) else (none))))) else (none)) = some r := H
     have A29 := aM A290
     clear A290
     by_cases c30 : t262 = true
     ·subst c30
      have H1 : ((laws_markDisk.f k t245 1).bind fun bt263 => (if bt263.1 < 0 then (none) else ((laws_eqDisk.f k t253 t240).bind fun t265 => (if t265 = true then ((laws_markDisk.f k t253 1).bind fun bt266 => ((laws_heldDisk.f k bt266.2 1).bind fun t268 => (if t268 < 0 then (none) else (if t268 = bt266.1 then ((laws_toDisk.f k l0_0).bind fun t269 => ((laws_toAct.f a1_0 a1_1 a1_2 a1_3).bind fun bt272 => ((impl_DoAct.f k t269 bt272.1 bt272.2.1 bt272.2.2.1 bt272.2.2.2).bind fun bt276 => ((laws_eqDisk.f k bt276.1 t240).bind fun t281 => (if t281 = true then (if (bt276.2 != t243) = true then (none) else ((laws_heldDisk.f k bt266.2 1).bind fun t282 => (if t282 < 0 then (none) else (if t282 = bt266.1 then (some true) else (none))))) else (none)))))) else (none))))) else (none))))) = some r := by rw [if_pos rfl] at H; exact H
      clear H; have H := H1; clear H1
      replace H := Option.bind_eq_some_iff.mp H
      obtain ⟨⟨t263, t264⟩, A310, H⟩ := H
      replace H : (if t263 < 0 then (none) else ((laws_eqDisk.f k t253 t240).bind fun t265 => (if t265 = true then ((laws_markDisk.f k t253 1).bind fun bt266 => ((laws_heldDisk.f k bt266.2 1).bind fun t268 => (if t268 < 0 then (none) else (if t268 = bt266.1 then ((laws_toDisk.f k l0_0).bind fun t269 => ((laws_toAct.f a1_0 a1_1 a1_2 a1_3).bind fun bt272 => ((impl_DoAct.f k t269 bt272.1 bt272.2.1 bt272.2.2.1 bt272.2.2.2).bind fun bt276 => ((laws_eqDisk.f k bt276.1 t240).bind fun t281 => (if t281 = true then (if (bt276.2 != t243) = true then (none) else ((laws_heldDisk.f k bt266.2 1).bind fun t282 => (if t282 < 0 then (none) else (if t282 = bt266.1 then (some true) else (none))))) else (none)))))) else (none))))) else (none)))) = some r := H
      have A31 := aM A310
      clear A310
      by_cases c32 : t263 < 0
      ·rw [if_pos c32] at H
       exact absurd H (by simp)
      ·rw [if_neg c32] at H
       have c32b0 : decide (t263 < 0) = false := decide_eq_false c32
       clear c32
       replace H := Option.bind_eq_some_iff.mp H
       obtain ⟨t265, A330, H⟩ := H
       replace H : (if t265 = true then ((laws_markDisk.f k t253 1).bind fun bt266 => ((laws_heldDisk.f k bt266.2 1).bind fun t268 => (if t268 < 0 then (none) else (if t268 = bt266.1 then ((laws_toDisk.f k l0_0).bind fun t269 => ((laws_toAct.f a1_0 a1_1 a1_2 a1_3).bind fun bt272 => ((impl_DoAct.f k t269 bt272.1 bt272.2.1 bt272.2.2.1 bt272.2.2.2).bind fun bt276 => ((laws_eqDisk.f k bt276.1 t240).bind fun t281 => (if t281 = true then (if (bt276.2 != t243) = true then (none) else ((laws_heldDisk.f k bt266.2 1).bind fun t282 => (if t282 < 0 then (none) else (if t282 = bt266.1 then (some true) else (none))))) else (none)))))) else (none))))) else (none)) = some r := H
       have A33 := aM A330
       clear A330
       by_cases c34 : t265 = true
       ·subst c34
        have H1 : ((laws_markDisk.f k t253 1).bind fun bt266 => ((laws_heldDisk.f k bt266.2 1).bind fun t268 => (if t268 < 0 then (none) else (if t268 = bt266.1 then ((laws_toDisk.f k l0_0).bind fun t269 => ((laws_toAct.f a1_0 a1_1 a1_2 a1_3).bind fun bt272 => ((impl_DoAct.f k t269 bt272.1 bt272.2.1 bt272.2.2.1 bt272.2.2.2).bind fun bt276 => ((laws_eqDisk.f k bt276.1 t240).bind fun t281 => (if t281 = true then (if (bt276.2 != t243) = true then (none) else ((laws_heldDisk.f k bt266.2 1).bind fun t282 => (if t282 < 0 then (none) else (if t282 = bt266.1 then (some true) else (none))))) else (none)))))) else (none))))) = some r := by rw [if_pos rfl] at H; exact H
        clear H; have H := H1; clear H1
        replace H := Option.bind_eq_some_iff.mp H
        obtain ⟨⟨t266, t267⟩, A350, H⟩ := H
        replace H : ((laws_heldDisk.f k t267 1).bind fun t268 => (if t268 < 0 then (none) else (if t268 = t266 then ((laws_toDisk.f k l0_0).bind fun t269 => ((laws_toAct.f a1_0 a1_1 a1_2 a1_3).bind fun bt272 => ((impl_DoAct.f k t269 bt272.1 bt272.2.1 bt272.2.2.1 bt272.2.2.2).bind fun bt276 => ((laws_eqDisk.f k bt276.1 t240).bind fun t281 => (if t281 = true then (if (bt276.2 != t243) = true then (none) else ((laws_heldDisk.f k t267 1).bind fun t282 => (if t282 < 0 then (none) else (if t282 = t266 then (some true) else (none))))) else (none)))))) else (none)))) = some r := H
        have A35 := aM A350
        clear A350
        replace H := Option.bind_eq_some_iff.mp H
        obtain ⟨t268, A360, H⟩ := H
        replace H : (if t268 < 0 then (none) else (if t268 = t266 then ((laws_toDisk.f k l0_0).bind fun t269 => ((laws_toAct.f a1_0 a1_1 a1_2 a1_3).bind fun bt272 => ((impl_DoAct.f k t269 bt272.1 bt272.2.1 bt272.2.2.1 bt272.2.2.2).bind fun bt276 => ((laws_eqDisk.f k bt276.1 t240).bind fun t281 => (if t281 = true then (if (bt276.2 != t243) = true then (none) else ((laws_heldDisk.f k t267 1).bind fun t282 => (if t282 < 0 then (none) else (if t282 = t266 then (some true) else (none))))) else (none)))))) else (none))) = some r := H
        have A36 := aM A360
        clear A360
        by_cases c37 : t268 < 0
        ·rw [if_pos c37] at H
         exact absurd H (by simp)
        ·rw [if_neg c37] at H
         have c37b0 : decide (t268 < 0) = false := decide_eq_false c37
         clear c37
         by_cases c38 : t268 = t266
         ·rw [if_pos c38] at H
          have c38b0 : (t268 == t266) = true := beq_iff_eq.mpr c38
          have c38b1 : (t268 != t266) = false := bne_eq_false_iff_eq.mpr c38
          clear c38
          replace H := Option.bind_eq_some_iff.mp H
          obtain ⟨t269, A390, H⟩ := H
          replace H : ((laws_toAct.f a1_0 a1_1 a1_2 a1_3).bind fun bt272 => ((impl_DoAct.f k t269 bt272.1 bt272.2.1 bt272.2.2.1 bt272.2.2.2).bind fun bt276 => ((laws_eqDisk.f k bt276.1 t240).bind fun t281 => (if t281 = true then (if (bt276.2 != t243) = true then (none) else ((laws_heldDisk.f k t267 1).bind fun t282 => (if t282 < 0 then (none) else (if t282 = t266 then (some true) else (none))))) else (none))))) = some r := H
          have A39 := aM A390
          clear A390
          replace H := Option.bind_eq_some_iff.mp H
          obtain ⟨⟨t272, t273, t274, t275⟩, A400, H⟩ := H
          replace H : ((impl_DoAct.f k t269 t272 t273 t274 t275).bind fun bt276 => ((laws_eqDisk.f k bt276.1 t240).bind fun t281 => (if t281 = true then (if (bt276.2 != t243) = true then (none) else ((laws_heldDisk.f k t267 1).bind fun t282 => (if t282 < 0 then (none) else (if t282 = t266 then (some true) else (none))))) else (none)))) = some r := H
          have A40 := aM A400
          clear A400
          replace H := Option.bind_eq_some_iff.mp H
          obtain ⟨⟨t276, t279⟩, A410, H⟩ := H
          replace H : ((laws_eqDisk.f k t276 t240).bind fun t281 => (if t281 = true then (if (t279 != t243) = true then (none) else ((laws_heldDisk.f k t267 1).bind fun t282 => (if t282 < 0 then (none) else (if t282 = t266 then (some true) else (none))))) else (none))) = some r := H
          have A41 := aM A410
          clear A410
          replace H := Option.bind_eq_some_iff.mp H
          obtain ⟨t281, A420, H⟩ := H
          replace H : (if t281 = true then (if (t279 != t243) = true then (none) else ((laws_heldDisk.f k t267 1).bind fun t282 => (if t282 < 0 then (none) else (if t282 = t266 then (some true) else (none))))) else (none)) = some r := H
          have A42 := aM A420
          clear A420
          by_cases c43 : t281 = true
          ·subst c43
           have H1 : (if (t279 != t243) = true then (none) else ((laws_heldDisk.f k t267 1).bind fun t282 => (if t282 < 0 then (none) else (if t282 = t266 then (some true) else (none))))) = some r := by rw [if_pos rfl] at H; exact H
           clear H; have H := H1; clear H1
           by_cases c44 : (t279 != t243) = true
           ·rw [if_pos c44] at H
            exact absurd H (by simp)
           ·rw [if_neg c44] at H
            have c44b0 : (t279 != t243) = false := by simpa using c44
            (try (have c44b1 : decide (t279 = t243) = true := by simpa using c44))
            (try (have c44b2 : (t279 == t243) = true := by simpa using c44))
            clear c44
            replace H := Option.bind_eq_some_iff.mp H
            obtain ⟨t282, A450, H⟩ := H
            replace H : (if t282 < 0 then (none) else (if t282 = t266 then (some true) else (none))) = some r := H
            have A45 := aM A450
            clear A450
            by_cases c46 : t282 < 0
            ·rw [if_pos c46] at H
             exact absurd H (by simp)
            ·rw [if_neg c46] at H
             have c46b0 : decide (t282 < 0) = false := decide_eq_false c46
             clear c46
             by_cases c47 : t282 = t266
             ·rw [if_pos c47] at H
              have c47b0 : (t282 == t266) = true := beq_iff_eq.mpr c47
              have c47b1 : (t282 != t266) = false := bne_eq_false_iff_eq.mpr c47
              clear c47
              obtain rfl := Option.some.inj H
              go_enter Try.func8, Try.ntmps8
              try go_wp2_with (first | ((with_reducible refine gate_dst (N := 2) rfl ?_); refine bxE 2 #[.slice A0_0 l0_0.length c0_0] 24 ?_; intro gb229 hg w48 hbox hb; have n0_ := aM (below_step (uL HB) hb); have n1_ := aM (hbox); have n2_ := szG hg (uL HB); have n3_ := szG hg (uL HB); clear HB; have HB := n0_; have BK229 := n1_; have GW229 := n2_; have GE229 := n3_; clear n0_ n1_ n2_ n3_; clear hb hbox hg) | ((with_reducible refine gate_dst (N := 3) rfl ?_); refine bxE 3 #[.int .i64 a1_0, .string a1_1, .string a1_2, .string a1_3] 52 ?_; intro gb230 hg w49 hbox hb; have n0_ := blkB BK229 hb; have n1_ := aM (below_step (uL HB) hb); have n2_ := aM (hbox); have n3_ := szG hg (uL HB); have n4_ := szG hg (uL HB); have n5_ := neL hg BK229; have n6_ := neG hg BK229; clear BK229; clear HB; have BK229 := n0_; have HB := n1_; have BK230 := n2_; have GW230 := n3_; have GE230 := n4_; have NB229_230 := n5_; have NB230_229 := n6_; clear n0_ n1_ n2_ n3_ n4_ n5_ n6_; clear hb hbox hg; have hnb50 := NB229_230.out; have hnc50 := NB230_229.out; have hcz51_0 : w49.cell? ⟨gb229, 0, none⟩ = some (.slice A0_0 l0_0.length c0_0) := (blk_cell BK229.out 0).trans rfl; have hfz51_0 := blk_frozen BK229.out 0) | ((with_reducible refine gate_callee (f := 15) rfl ?_); refine gL (some 18) Try.func15 #[.agg #[.slice A0_0 l0_0.length c0_0], .int .i64 1048576] ?_; (with_reducible refine (laws_szDisk.calls k _ _ l0_0 1048576 t231 _ ?side1 ?side2 A3.out).mono ?_); (case side1 => repeat (first | exact (Kd.C_below HR0_0.out HB.out) | (with_reducible refine cA ?_ _) | (with_reducible refine cN ?_ _) | (with_reducible refine cD ?_))); (case side2 => exact HC0_0.out); rintro e w52 ⟨rfl, hb⟩; refine ⟨_, rfl, ?_⟩; have n0_ := blkB BK229 hb; have n1_ := blkB BK230 hb; have n2_ := aM (below_step (uL HB) hb); clear BK229; clear BK230; clear HB; have BK229 := n0_; have BK230 := n1_; have HB := n2_; clear n0_ n1_ n2_; (try clear hb); (try clear hb2); (try clear hk); (try clear hi); have hcz53_0 : w52.cell? ⟨gb230, 0, none⟩ = some (.int .i64 a1_0) := (blk_cell BK230.out 0).trans rfl; have hcz53_1 : w52.cell? ⟨gb230, 1, none⟩ = some (.string a1_1) := (blk_cell BK230.out 1).trans rfl; have hcz53_2 : w52.cell? ⟨gb230, 2, none⟩ = some (.string a1_2) := (blk_cell BK230.out 2).trans rfl; have hcz53_3 : w52.cell? ⟨gb230, 3, none⟩ = some (.string a1_3) := (blk_cell BK230.out 3).trans rfl; have hfz53_0 := blk_frozen BK230.out 0; have hfz53_1 := blk_frozen BK230.out 1; have hfz53_2 := blk_frozen BK230.out 2; have hfz53_3 := blk_frozen BK230.out 3) | ((with_reducible refine gate_callee (f := 37) rfl ?_); refine gL (some 23) Try.func37 #[.agg #[.int .i64 a1_0, .string a1_1, .string a1_2, .string a1_3], .int .i64 t231] ?_; (with_reducible refine (laws_szAct.calls a1_0 a1_1 a1_2 a1_3 t231 t232 _ A10.out).mono ?_); rintro e w54 ⟨rfl, hb⟩; refine ⟨_, rfl, ?_⟩; have n0_ := blkB BK229 hb; have n1_ := blkB BK230 hb; have n2_ := aM (below_step (uL HB) hb); clear BK229; clear BK230; clear HB; have BK229 := n0_; have BK230 := n1_; have HB := n2_; clear n0_ n1_ n2_; (try clear hb); (try clear hb2); (try clear hk); (try clear hi)))
              have n0_ := aM (blk_drew BK229.out)
              have n1_ := aM (blk_drew BK230.out)
              have n2_ := aM (below_drew1 HB.out)
              clear BK229 BK230 HB; have BK229 := n0_; have BK230 := n1_; have HB := n2_; clear n0_ n1_ n2_
              refine start_ (n := 11) (S := fun w' => w'.cell? ⟨gb229, 0, none⟩ = some (.slice A0_0 l0_0.length c0_0) ∧ w'.cell? ⟨gb230, 0, none⟩ = some (.int .i64 a1_0) ∧ w'.cell? ⟨gb230, 1, none⟩ = some (.string a1_1) ∧ w'.cell? ⟨gb230, 2, none⟩ = some (.string a1_2) ∧ w'.cell? ⟨gb230, 3, none⟩ = some (.string a1_3)) (ds := []) #[false, false, false, false, false, false, false, false, false, false, false] (by kernel_rfl) rfl rfl ⟨(blk_cell BK229.out 0).trans rfl, (blk_cell BK230.out 0).trans rfl, (blk_cell BK230.out 1).trans rfl, (blk_cell BK230.out 2).trans rfl, (blk_cell BK230.out 3).trans rfl⟩ (fun hHeld => ?_); refine with_tabW laws_FnExactDoAct.tab8 laws_FnExactDoAct.bits8 (fun HT_ HW_ => ?_)
              generalize w54.drew = w55 at BK229 BK230 HB hHeld ⊢
              refine take_ (i := 0) (N := some 27) (v := ?_) (a' := ?_) (bB 11 1) rfl rfl (take_ofW HT_.out HW_.out (by kernel_rfl)) (fun _ _ _ h => h) (Or.inl ⟨by rfl, ?_⟩) hHeld ?_ ?_
              rotate_left
              ·rintro w' ⟨s0, s1, s2, s3, s4⟩
               go_simp
               with_reducible rfl
              rotate_left
              ·simp only [aP, aQ, sT, sZ, sU, i64_w, i32_w]
               rfl
              refine take_ (i := 2) (N := some 29) (v := ?_) (a' := ?_) (bB 11 5) rfl rfl (take_ofW HT_.out HW_.out (by kernel_rfl)) (fun _ _ _ h => h) (Or.inl ⟨by rfl, ?_⟩) hHeld ?_ ?_
              rotate_left
              ·rintro w' ⟨s0, s1, s2, s3, s4⟩
               go_simp
               with_reducible rfl
              rotate_left
              ·simp only [aP, aQ, sT, sZ, sU, i64_w, i32_w]
               rfl
              refine join_ (σ := Value × Value × Nat) 2 #[true, true, true, true, true, true, true, true, true, false, false] (fun s_ => [(28, .agg #[s_.1]), (30, .agg #[.int .i64 t236, .string t237, .string t238, .string t239]), (31, .tuple #[.agg #[s_.2.1], .bool t243]), (6, .pointer (some ⟨s_.2.2, 0, none⟩)), (26, .tuple #[.agg #[s_.2.1], .bool t243]), (32, .agg #[s_.2.1]), (33, .bool t243)]) (fun s_ w' => (w'.cell? ⟨gb229, 0, none⟩ = some (.slice A0_0 l0_0.length c0_0) ∧ w'.cell? ⟨gb230, 0, none⟩ = some (.int .i64 a1_0) ∧ w'.cell? ⟨gb230, 1, none⟩ = some (.string a1_1) ∧ w'.cell? ⟨gb230, 2, none⟩ = some (.string a1_2) ∧ w'.cell? ⟨gb230, 3, none⟩ = some (.string a1_3)) ∧ (Kd.R k45 45 w' w.heap.size (fun k_ => some k_ ≠ (s_.2.1 : Value).ownBlock) s_.1 t233) ∧ (Kd.R k45 45 w' w.heap.size (fun k_ => some k_ ≠ (s_.1 : Value).ownBlock) s_.2.1 t240) ∧ (w'.heap[gb229]? = some (.cells #[.slice A0_0 l0_0.length c0_0] 24 (0, 0))) ∧ (w'.heap[gb230]? = some (.cells #[.int .i64 a1_0, .string a1_1, .string a1_2, .string a1_3] 52 (0, 0))) ∧ (w'.heap[s_.2.2]? = some (.cells #[.slice none 0 0] 30 (0, 0))) ∧ (w.heap.size ≤ s_.2.2) ∧ (w.heap.size ≤ s_.2.2) ∧ (gb229 ≠ s_.2.2) ∧ (s_.2.2 ≠ gb229) ∧ (gb230 ≠ s_.2.2) ∧ (s_.2.2 ≠ gb230) ∧ (Below w.heap.size w w')) ?_ ?_
              rotate_left
              ·intro hCont
               refine two_ (i := 1) (j := 8) (Ni := some 28) (Nj := some 6) #[true, true, true, false, false, false, false, false, false, false, false] #[true, false, true, false, false, false, false, false, true, false, false] rfl rfl rfl rfl (two_of HT_.out (by kernel_rfl)) (by decide) (by decide) (fun K hK => ?_) (fun K hK => ?_)
               ·skip
                refine gX Try.func17 #[.agg #[.slice A0_0 l0_0.length c0_0]] ?_
                with_reducible refine (laws_toDisk.calls k _ _ l0_0 t233 _ ?side1 ?side2 A19.out).mono ?_
                (case side1 => repeat (first | exact (Kd.C_below HR0_0.out HB.out) | (with_reducible refine cA ?_ _) | (with_reducible refine cN ?_ _) | (with_reducible refine cD ?_)))
                (case side2 => exact HC0_0.out)
                rintro e w56 ⟨v234, rfl, ho0, hb⟩
                refine ⟨_, rfl, ?_⟩
                have n0_ := aM (Kd.R_lower ho0 (below_size (uL HB)))
                have n1_ := blkB BK229 hb; have n2_ := blkB BK230 hb
                have n3_ := aM (below_step (uL HB) hb)
                clear BK229 BK230 HB; have HO235 := n0_; have BK229 := n1_; have BK230 := n2_; have HB := n3_; clear n0_ n1_ n2_ n3_
                (try clear hb)
                (try clear hb2)
                (try clear hk)
                (try clear hi)
                (try clear ho0)
                refine hK.out _ _ ⟨(blk_cell BK229.out 0).trans rfl, (blk_cell BK230.out 0).trans rfl, (blk_cell BK230.out 1).trans rfl, (blk_cell BK230.out 2).trans rfl, (blk_cell BK230.out 3).trans rfl⟩ (fun hHeld => ?_)
                clear hK K
                refine norm_ (a' := ?_) ?_ ?_
                rotate_left
                ·show Act.put _ (some 28) _ = _
                 simp only [aP, aQ, sT, sZ, sU, i64_w, i32_w]
                 rfl
                refine two_ (i := 3) (j := 8) (Ni := some 30) (Nj := some 6) #[true, true, true, true, false, false, false, false, false, false, false] #[true, true, true, false, false, false, false, false, true, false, false] rfl rfl rfl rfl (two_of HT_.out (by kernel_rfl)) (by decide) (by decide) (fun K hK => ?_) (fun K hK => ?_)
                ·skip
                 refine gX Try.func39 #[.agg #[.int .i64 a1_0, .string a1_1, .string a1_2, .string a1_3]] ?_
                 with_reducible refine (laws_toAct.calls a1_0 a1_1 a1_2 a1_3 t236 t237 t238 t239 _ A20.out).mono ?_
                 rintro e w57 ⟨rfl, hb⟩
                 refine ⟨_, rfl, ?_⟩
                 have n0_ := aM (Kd.R_below (uR HO235) hb); have n1_ := blkB BK229 hb; have n2_ := blkB BK230 hb
                 have n3_ := aM (below_step (uL HB) hb)
                 clear HO235 BK229 BK230 HB; have HO235 := n0_; have BK229 := n1_; have BK230 := n2_; have HB := n3_; clear n0_ n1_ n2_ n3_
                 (try clear hb)
                 (try clear hb2)
                 (try clear hk)
                 (try clear hi)
                 obtain ⟨Ao58, co58, eo58⟩ := Kd.R_slice HO235.out
                 (first | subst eo58 | (injection eo58 with f1_ f2_ f3_; have f4_ := f1_.symm; have f5_ := f3_.symm; clear f1_ f2_ f3_; subst f4_; subst f5_))
                 refine hK.out _ _ ⟨(blk_cell BK229.out 0).trans rfl, (blk_cell BK230.out 0).trans rfl, (blk_cell BK230.out 1).trans rfl, (blk_cell BK230.out 2).trans rfl, (blk_cell BK230.out 3).trans rfl⟩ (fun hHeld => ?_)
                 clear hK K
                 refine norm_ (a' := ?_) ?_ ?_
                 rotate_left
                 ·show Act.put _ (some 30) _ = _
                  simp only [aP, aQ, sT, sZ, sU, i64_w, i32_w]
                  rfl
                 refine two_ (i := 4) (j := 8) (Ni := some 31) (Nj := some 6) #[true, true, true, true, true, false, false, false, false, false, false] #[true, true, true, true, false, false, false, false, true, false, false] rfl rfl rfl rfl (two_of HT_.out (by kernel_rfl)) (by decide) (by decide) (fun K hK => ?_) (fun K hK => ?_)
                 ·skip
                  refine gX Try.func38 #[.agg #[.slice Ao58 t233.length co58], .agg #[.int .i64 t236, .string t237, .string t238, .string t239]] ?_
                  with_reducible refine (spec_DoAct.calls k _ _ t233 t236 t237 t238 t239 t240 t243 _ ?side1 ?side2 A21.out).mono ?_
                  (case side1 => repeat (first | exact (Kd.R_reads' HO235.out).2.2 | (with_reducible refine cA ?_ _) | (with_reducible refine cN ?_ _) | (with_reducible refine cD ?_)))
                  (case side2 => exact (Kd.R_reads' HO235.out).2.1)
                  rintro e w59 ⟨v241, rfl, ho0, hb⟩
                  refine ⟨_, rfl, ?_⟩
                  have n0_ := aM (Kd.R_elder' (uR HO235) (Kd.R_base ho0) hb)
                  have n1_ := aM (Kd.R_lower (Kd.R_new' ho0 (Kd.R_lt (uR HO235))) (below_size (uL HB)))
                  have n2_ := blkB BK229 hb; have n3_ := blkB BK230 hb
                  have n4_ := aM (below_step (uL HB) hb)
                  clear HO235 BK229 BK230 HB; have HO235 := n0_; have HO242 := n1_; have BK229 := n2_; have BK230 := n3_; have HB := n4_; clear n0_ n1_ n2_ n3_ n4_
                  (try clear hb)
                  (try clear hb2)
                  (try clear hk)
                  (try clear hi)
                  (try clear ho0)
                  refine hK.out _ _ ⟨(blk_cell BK229.out 0).trans rfl, (blk_cell BK230.out 0).trans rfl, (blk_cell BK230.out 1).trans rfl, (blk_cell BK230.out 2).trans rfl, (blk_cell BK230.out 3).trans rfl⟩ (fun hHeld => ?_)
                  clear hK K
                  refine norm_ (a' := ?_) ?_ ?_
                  rotate_left
                  ·show Act.put _ (some 31) _ = _
                   simp only [aP, aQ, sT, sZ, sU, i64_w, i32_w]
                   rfl
                  refine pX 5 26 (bB 11 63) (any_of HT_.out (by kernel_rfl)) ?_
                  refine pX 6 32 (bB 11 127) (any_of HT_.out (by kernel_rfl)) ?_
                  refine pX 7 33 (bB 11 255) (any_of HT_.out (by kernel_rfl)) ?_
                  refine one_ (i := 8) (N := some 6) (bB 11 511) rfl rfl (one_of HT_.out (by kernel_rfl)) (by decide) (fun K hK => ?_)
                  refine bxS 6 #[.slice none 0 0] 30 ?_
                  intro gb244 hg w60 hbox hb
                  have n0_ := aM (Kd.R_below (uR HO235) hb); have n1_ := aM (Kd.R_below (uR HO242) hb); have n2_ := blkB BK229 hb; have n3_ := blkB BK230 hb
                  have n4_ := aM (below_step (uL HB) hb)
                  have n5_ := aM (hbox)
                  have n6_ := szG hg (uL HB); have n7_ := szG hg (uL HB); have n8_ := neL hg BK229; have n9_ := neG hg BK229; have n10_ := neL hg BK230; have n11_ := neG hg BK230; clear HO235 HO242 BK229 BK230 HB; have HO235 := n0_; have HO242 := n1_; have BK229 := n2_; have BK230 := n3_; have HB := n4_; have BK244 := n5_; have GW244 := n6_; have GE244 := n7_; have NB229_244 := n8_; have NB244_229 := n9_; have NB230_244 := n10_; have NB244_230 := n11_; clear n0_ n1_ n2_ n3_ n4_ n5_ n6_ n7_ n8_ n9_ n10_ n11_ hb hbox hg
                  refine hK.out _ _ ⟨(blk_cell BK229.out 0).trans rfl, (blk_cell BK230.out 0).trans rfl, (blk_cell BK230.out 1).trans rfl, (blk_cell BK230.out 2).trans rfl, (blk_cell BK230.out 3).trans rfl⟩ (fun hHeld => ?_)
                  clear hK K
                  refine norm_ (a' := ?_) ?_ ?_
                  rotate_left
                  ·show Act.put _ (some 6) _ = _
                   simp only [aP, aQ, sT, sZ, sU, i64_w, i32_w]
                   rfl
                  exact norm_ (by simp only [putAll, Act.put, List.setIfInBounds_toArray, List.set_cons_zero, List.set_cons_succ]) (hCont (.slice Ao58 t233.length co58, v241, gb244) _ ⟨hHeld, (by (with_reducible repeat first | apply rA | apply rN | apply rD); exact Kd.R_mono HO235.out (fun _ hk => hk.2)), (by (with_reducible repeat first | apply rA | apply rN | apply rD); exact Kd.R_mono HO242.out (fun _ hk => hk.2)), (uB BK229), (uB BK230), (uB BK244), GW244.out, GE244.out, NB229_244.out, NB244_229.out, NB230_244.out, NB244_230.out, (uL HB)⟩)
                 ·skip
                  refine bxS 6 #[.slice none 0 0] 30 ?_
                  intro gb244 hg w58 hbox hb
                  have n0_ := aM (Kd.R_below (uR HO235) hb); have n1_ := blkB BK229 hb; have n2_ := blkB BK230 hb
                  have n3_ := aM (below_step (uL HB) hb)
                  have n4_ := aM (hbox)
                  have n5_ := szG hg (uL HB); have n6_ := szG hg (uL HB); have n7_ := neL hg BK229; have n8_ := neG hg BK229; have n9_ := neL hg BK230; have n10_ := neG hg BK230; clear HO235 BK229 BK230 HB; have HO235 := n0_; have BK229 := n1_; have BK230 := n2_; have HB := n3_; have BK244 := n4_; have GW244 := n5_; have GE244 := n6_; have NB229_244 := n7_; have NB244_229 := n8_; have NB230_244 := n9_; have NB244_230 := n10_; clear n0_ n1_ n2_ n3_ n4_ n5_ n6_ n7_ n8_ n9_ n10_ hb hbox hg
                  obtain ⟨Ao59, co59, eo59⟩ := Kd.R_slice HO235.out
                  (first | subst eo59 | (injection eo59 with f1_ f2_ f3_; have f4_ := f1_.symm; have f5_ := f3_.symm; clear f1_ f2_ f3_; subst f4_; subst f5_))
                  refine hK.out _ _ ⟨(blk_cell BK229.out 0).trans rfl, (blk_cell BK230.out 0).trans rfl, (blk_cell BK230.out 1).trans rfl, (blk_cell BK230.out 2).trans rfl, (blk_cell BK230.out 3).trans rfl⟩ (fun hHeld => ?_)
                  clear hK K
                  refine norm_ (a' := ?_) ?_ ?_
                  rotate_left
                  ·show Act.put _ (some 6) _ = _
                   simp only [aP, aQ, sT, sZ, sU, i64_w, i32_w]
                   rfl
                  refine one_ (i := 4) (N := some 31) (bB 11 287) rfl rfl (one_of HT_.out (by kernel_rfl)) (by decide) (fun K hK => ?_)
                  refine gX Try.func38 #[.agg #[.slice Ao59 t233.length co59], .agg #[.int .i64 t236, .string t237, .string t238, .string t239]] ?_
                  with_reducible refine (spec_DoAct.calls k _ _ t233 t236 t237 t238 t239 t240 t243 _ ?side1 ?side2 A21.out).mono ?_
                  (case side1 => repeat (first | exact (Kd.R_reads' HO235.out).2.2 | (with_reducible refine cA ?_ _) | (with_reducible refine cN ?_ _) | (with_reducible refine cD ?_)))
                  (case side2 => exact (Kd.R_reads' HO235.out).2.1)
                  rintro e w60 ⟨v241, rfl, ho0, hb⟩
                  refine ⟨_, rfl, ?_⟩
                  have n0_ := aM (Kd.R_elder' (uR HO235) (Kd.R_base ho0) hb)
                  have n1_ := aM (Kd.R_lower (Kd.R_new' ho0 (Kd.R_lt (uR HO235))) (below_size (uL HB)))
                  have n2_ := blkB BK229 hb; have n3_ := blkB BK230 hb; have n4_ := blkB BK244 hb
                  have n5_ := aM (below_step (uL HB) hb)
                  clear HO235 BK229 BK230 BK244 HB; have HO235 := n0_; have HO242 := n1_; have BK229 := n2_; have BK230 := n3_; have BK244 := n4_; have HB := n5_; clear n0_ n1_ n2_ n3_ n4_ n5_
                  (try clear hb)
                  (try clear hb2)
                  (try clear hk)
                  (try clear hi)
                  (try clear ho0)
                  refine hK.out _ _ ⟨(blk_cell BK229.out 0).trans rfl, (blk_cell BK230.out 0).trans rfl, (blk_cell BK230.out 1).trans rfl, (blk_cell BK230.out 2).trans rfl, (blk_cell BK230.out 3).trans rfl⟩ (fun hHeld => ?_)
                  clear hK K
                  refine norm_ (a' := ?_) ?_ ?_
                  rotate_left
                  ·show Act.put _ (some 31) _ = _
                   simp only [aP, aQ, sT, sZ, sU, i64_w, i32_w]
                   rfl
                  refine pX 5 26 (bB 11 319) (any_of HT_.out (by kernel_rfl)) ?_
                  refine pX 6 32 (bB 11 383) (any_of HT_.out (by kernel_rfl)) ?_
                  refine pX 7 33 (bB 11 511) (any_of HT_.out (by kernel_rfl)) ?_
                  exact norm_ (by simp only [putAll, Act.put, List.setIfInBounds_toArray, List.set_cons_zero, List.set_cons_succ]) (hCont (.slice Ao59 t233.length co59, v241, gb244) _ ⟨hHeld, (by (with_reducible repeat first | apply rA | apply rN | apply rD); exact Kd.R_mono HO235.out (fun _ hk => hk.2)), (by (with_reducible repeat first | apply rA | apply rN | apply rD); exact Kd.R_mono HO242.out (fun _ hk => hk.2)), (uB BK229), (uB BK230), (uB BK244), GW244.out, GE244.out, NB229_244.out, NB244_229.out, NB230_244.out, NB244_230.out, (uL HB)⟩)
                ·skip
                 refine bxS 6 #[.slice none 0 0] 30 ?_
                 intro gb244 hg w57 hbox hb
                 have n0_ := aM (Kd.R_below (uR HO235) hb); have n1_ := blkB BK229 hb; have n2_ := blkB BK230 hb
                 have n3_ := aM (below_step (uL HB) hb)
                 have n4_ := aM (hbox)
                 have n5_ := szG hg (uL HB); have n6_ := szG hg (uL HB); have n7_ := neL hg BK229; have n8_ := neG hg BK229; have n9_ := neL hg BK230; have n10_ := neG hg BK230; clear HO235 BK229 BK230 HB; have HO235 := n0_; have BK229 := n1_; have BK230 := n2_; have HB := n3_; have BK244 := n4_; have GW244 := n5_; have GE244 := n6_; have NB229_244 := n7_; have NB244_229 := n8_; have NB230_244 := n9_; have NB244_230 := n10_; clear n0_ n1_ n2_ n3_ n4_ n5_ n6_ n7_ n8_ n9_ n10_ hb hbox hg
                 refine hK.out _ _ ⟨(blk_cell BK229.out 0).trans rfl, (blk_cell BK230.out 0).trans rfl, (blk_cell BK230.out 1).trans rfl, (blk_cell BK230.out 2).trans rfl, (blk_cell BK230.out 3).trans rfl⟩ (fun hHeld => ?_)
                 clear hK K
                 refine norm_ (a' := ?_) ?_ ?_
                 rotate_left
                 ·show Act.put _ (some 6) _ = _
                  simp only [aP, aQ, sT, sZ, sU, i64_w, i32_w]
                  rfl
                 refine one_ (i := 3) (N := some 30) (bB 11 271) rfl rfl (one_of HT_.out (by kernel_rfl)) (by decide) (fun K hK => ?_)
                 refine gX Try.func39 #[.agg #[.int .i64 a1_0, .string a1_1, .string a1_2, .string a1_3]] ?_
                 with_reducible refine (laws_toAct.calls a1_0 a1_1 a1_2 a1_3 t236 t237 t238 t239 _ A20.out).mono ?_
                 rintro e w58 ⟨rfl, hb⟩
                 refine ⟨_, rfl, ?_⟩
                 have n0_ := aM (Kd.R_below (uR HO235) hb); have n1_ := blkB BK229 hb; have n2_ := blkB BK230 hb; have n3_ := blkB BK244 hb
                 have n4_ := aM (below_step (uL HB) hb)
                 clear HO235 BK229 BK230 BK244 HB; have HO235 := n0_; have BK229 := n1_; have BK230 := n2_; have BK244 := n3_; have HB := n4_; clear n0_ n1_ n2_ n3_ n4_
                 (try clear hb)
                 (try clear hb2)
                 (try clear hk)
                 (try clear hi)
                 obtain ⟨Ao59, co59, eo59⟩ := Kd.R_slice HO235.out
                 (first | subst eo59 | (injection eo59 with f1_ f2_ f3_; have f4_ := f1_.symm; have f5_ := f3_.symm; clear f1_ f2_ f3_; subst f4_; subst f5_))
                 refine hK.out _ _ ⟨(blk_cell BK229.out 0).trans rfl, (blk_cell BK230.out 0).trans rfl, (blk_cell BK230.out 1).trans rfl, (blk_cell BK230.out 2).trans rfl, (blk_cell BK230.out 3).trans rfl⟩ (fun hHeld => ?_)
                 clear hK K
                 refine norm_ (a' := ?_) ?_ ?_
                 rotate_left
                 ·show Act.put _ (some 30) _ = _
                  simp only [aP, aQ, sT, sZ, sU, i64_w, i32_w]
                  rfl
                 refine one_ (i := 4) (N := some 31) (bB 11 287) rfl rfl (one_of HT_.out (by kernel_rfl)) (by decide) (fun K hK => ?_)
                 refine gX Try.func38 #[.agg #[.slice Ao59 t233.length co59], .agg #[.int .i64 t236, .string t237, .string t238, .string t239]] ?_
                 with_reducible refine (spec_DoAct.calls k _ _ t233 t236 t237 t238 t239 t240 t243 _ ?side1 ?side2 A21.out).mono ?_
                 (case side1 => repeat (first | exact (Kd.R_reads' HO235.out).2.2 | (with_reducible refine cA ?_ _) | (with_reducible refine cN ?_ _) | (with_reducible refine cD ?_)))
                 (case side2 => exact (Kd.R_reads' HO235.out).2.1)
                 rintro e w60 ⟨v241, rfl, ho0, hb⟩
                 refine ⟨_, rfl, ?_⟩
                 have n0_ := aM (Kd.R_elder' (uR HO235) (Kd.R_base ho0) hb)
                 have n1_ := aM (Kd.R_lower (Kd.R_new' ho0 (Kd.R_lt (uR HO235))) (below_size (uL HB)))
                 have n2_ := blkB BK229 hb; have n3_ := blkB BK230 hb; have n4_ := blkB BK244 hb
                 have n5_ := aM (below_step (uL HB) hb)
                 clear HO235 BK229 BK230 BK244 HB; have HO235 := n0_; have HO242 := n1_; have BK229 := n2_; have BK230 := n3_; have BK244 := n4_; have HB := n5_; clear n0_ n1_ n2_ n3_ n4_ n5_
                 (try clear hb)
                 (try clear hb2)
                 (try clear hk)
                 (try clear hi)
                 (try clear ho0)
                 refine hK.out _ _ ⟨(blk_cell BK229.out 0).trans rfl, (blk_cell BK230.out 0).trans rfl, (blk_cell BK230.out 1).trans rfl, (blk_cell BK230.out 2).trans rfl, (blk_cell BK230.out 3).trans rfl⟩ (fun hHeld => ?_)
                 clear hK K
                 refine norm_ (a' := ?_) ?_ ?_
                 rotate_left
                 ·show Act.put _ (some 31) _ = _
                  simp only [aP, aQ, sT, sZ, sU, i64_w, i32_w]
                  rfl
                 refine pX 5 26 (bB 11 319) (any_of HT_.out (by kernel_rfl)) ?_
                 refine pX 6 32 (bB 11 383) (any_of HT_.out (by kernel_rfl)) ?_
                 refine pX 7 33 (bB 11 511) (any_of HT_.out (by kernel_rfl)) ?_
                 exact norm_ (by simp only [putAll, Act.put, List.setIfInBounds_toArray, List.set_cons_zero, List.set_cons_succ]) (hCont (.slice Ao59 t233.length co59, v241, gb244) _ ⟨hHeld, (by (with_reducible repeat first | apply rA | apply rN | apply rD); exact Kd.R_mono HO235.out (fun _ hk => hk.2)), (by (with_reducible repeat first | apply rA | apply rN | apply rD); exact Kd.R_mono HO242.out (fun _ hk => hk.2)), (uB BK229), (uB BK230), (uB BK244), GW244.out, GE244.out, NB229_244.out, NB244_229.out, NB230_244.out, NB244_230.out, (uL HB)⟩)
               ·skip
                refine bxS 6 #[.slice none 0 0] 30 ?_
                intro gb244 hg w56 hbox hb
                have n0_ := blkB BK229 hb; have n1_ := blkB BK230 hb
                have n2_ := aM (below_step (uL HB) hb)
                have n3_ := aM (hbox)
                have n4_ := szG hg (uL HB); have n5_ := szG hg (uL HB); have n6_ := neL hg BK229; have n7_ := neG hg BK229; have n8_ := neL hg BK230; have n9_ := neG hg BK230; clear BK229 BK230 HB; have BK229 := n0_; have BK230 := n1_; have HB := n2_; have BK244 := n3_; have GW244 := n4_; have GE244 := n5_; have NB229_244 := n6_; have NB244_229 := n7_; have NB230_244 := n8_; have NB244_230 := n9_; clear n0_ n1_ n2_ n3_ n4_ n5_ n6_ n7_ n8_ n9_ hb hbox hg
                refine hK.out _ _ ⟨(blk_cell BK229.out 0).trans rfl, (blk_cell BK230.out 0).trans rfl, (blk_cell BK230.out 1).trans rfl, (blk_cell BK230.out 2).trans rfl, (blk_cell BK230.out 3).trans rfl⟩ (fun hHeld => ?_)
                clear hK K
                refine norm_ (a' := ?_) ?_ ?_
                rotate_left
                ·show Act.put _ (some 6) _ = _
                 simp only [aP, aQ, sT, sZ, sU, i64_w, i32_w]
                 rfl
                refine one_ (i := 1) (N := some 28) (bB 11 263) rfl rfl (one_of HT_.out (by kernel_rfl)) (by decide) (fun K hK => ?_)
                refine gX Try.func17 #[.agg #[.slice A0_0 l0_0.length c0_0]] ?_
                with_reducible refine (laws_toDisk.calls k _ _ l0_0 t233 _ ?side1 ?side2 A19.out).mono ?_
                (case side1 => repeat (first | exact (Kd.C_below HR0_0.out HB.out) | (with_reducible refine cA ?_ _) | (with_reducible refine cN ?_ _) | (with_reducible refine cD ?_)))
                (case side2 => exact HC0_0.out)
                rintro e w57 ⟨v234, rfl, ho0, hb⟩
                refine ⟨_, rfl, ?_⟩
                have n0_ := aM (Kd.R_lower ho0 (below_size (uL HB)))
                have n1_ := blkB BK229 hb; have n2_ := blkB BK230 hb; have n3_ := blkB BK244 hb
                have n4_ := aM (below_step (uL HB) hb)
                clear BK229 BK230 BK244 HB; have HO235 := n0_; have BK229 := n1_; have BK230 := n2_; have BK244 := n3_; have HB := n4_; clear n0_ n1_ n2_ n3_ n4_
                (try clear hb)
                (try clear hb2)
                (try clear hk)
                (try clear hi)
                (try clear ho0)
                refine hK.out _ _ ⟨(blk_cell BK229.out 0).trans rfl, (blk_cell BK230.out 0).trans rfl, (blk_cell BK230.out 1).trans rfl, (blk_cell BK230.out 2).trans rfl, (blk_cell BK230.out 3).trans rfl⟩ (fun hHeld => ?_)
                clear hK K
                refine norm_ (a' := ?_) ?_ ?_
                rotate_left
                ·show Act.put _ (some 28) _ = _
                 simp only [aP, aQ, sT, sZ, sU, i64_w, i32_w]
                 rfl
                refine one_ (i := 3) (N := some 30) (bB 11 271) rfl rfl (one_of HT_.out (by kernel_rfl)) (by decide) (fun K hK => ?_)
                refine gX Try.func39 #[.agg #[.int .i64 a1_0, .string a1_1, .string a1_2, .string a1_3]] ?_
                with_reducible refine (laws_toAct.calls a1_0 a1_1 a1_2 a1_3 t236 t237 t238 t239 _ A20.out).mono ?_
                rintro e w58 ⟨rfl, hb⟩
                refine ⟨_, rfl, ?_⟩
                have n0_ := aM (Kd.R_below (uR HO235) hb); have n1_ := blkB BK229 hb; have n2_ := blkB BK230 hb; have n3_ := blkB BK244 hb
                have n4_ := aM (below_step (uL HB) hb)
                clear HO235 BK229 BK230 BK244 HB; have HO235 := n0_; have BK229 := n1_; have BK230 := n2_; have BK244 := n3_; have HB := n4_; clear n0_ n1_ n2_ n3_ n4_
                (try clear hb)
                (try clear hb2)
                (try clear hk)
                (try clear hi)
                obtain ⟨Ao59, co59, eo59⟩ := Kd.R_slice HO235.out
                (first | subst eo59 | (injection eo59 with f1_ f2_ f3_; have f4_ := f1_.symm; have f5_ := f3_.symm; clear f1_ f2_ f3_; subst f4_; subst f5_))
                refine hK.out _ _ ⟨(blk_cell BK229.out 0).trans rfl, (blk_cell BK230.out 0).trans rfl, (blk_cell BK230.out 1).trans rfl, (blk_cell BK230.out 2).trans rfl, (blk_cell BK230.out 3).trans rfl⟩ (fun hHeld => ?_)
                clear hK K
                refine norm_ (a' := ?_) ?_ ?_
                rotate_left
                ·show Act.put _ (some 30) _ = _
                 simp only [aP, aQ, sT, sZ, sU, i64_w, i32_w]
                 rfl
                refine one_ (i := 4) (N := some 31) (bB 11 287) rfl rfl (one_of HT_.out (by kernel_rfl)) (by decide) (fun K hK => ?_)
                refine gX Try.func38 #[.agg #[.slice Ao59 t233.length co59], .agg #[.int .i64 t236, .string t237, .string t238, .string t239]] ?_
                with_reducible refine (spec_DoAct.calls k _ _ t233 t236 t237 t238 t239 t240 t243 _ ?side1 ?side2 A21.out).mono ?_
                (case side1 => repeat (first | exact (Kd.R_reads' HO235.out).2.2 | (with_reducible refine cA ?_ _) | (with_reducible refine cN ?_ _) | (with_reducible refine cD ?_)))
                (case side2 => exact (Kd.R_reads' HO235.out).2.1)
                rintro e w60 ⟨v241, rfl, ho0, hb⟩
                refine ⟨_, rfl, ?_⟩
                have n0_ := aM (Kd.R_elder' (uR HO235) (Kd.R_base ho0) hb)
                have n1_ := aM (Kd.R_lower (Kd.R_new' ho0 (Kd.R_lt (uR HO235))) (below_size (uL HB)))
                have n2_ := blkB BK229 hb; have n3_ := blkB BK230 hb; have n4_ := blkB BK244 hb
                have n5_ := aM (below_step (uL HB) hb)
                clear HO235 BK229 BK230 BK244 HB; have HO235 := n0_; have HO242 := n1_; have BK229 := n2_; have BK230 := n3_; have BK244 := n4_; have HB := n5_; clear n0_ n1_ n2_ n3_ n4_ n5_
                (try clear hb)
                (try clear hb2)
                (try clear hk)
                (try clear hi)
                (try clear ho0)
                refine hK.out _ _ ⟨(blk_cell BK229.out 0).trans rfl, (blk_cell BK230.out 0).trans rfl, (blk_cell BK230.out 1).trans rfl, (blk_cell BK230.out 2).trans rfl, (blk_cell BK230.out 3).trans rfl⟩ (fun hHeld => ?_)
                clear hK K
                refine norm_ (a' := ?_) ?_ ?_
                rotate_left
                ·show Act.put _ (some 31) _ = _
                 simp only [aP, aQ, sT, sZ, sU, i64_w, i32_w]
                 rfl
                refine pX 5 26 (bB 11 319) (any_of HT_.out (by kernel_rfl)) ?_
                refine pX 6 32 (bB 11 383) (any_of HT_.out (by kernel_rfl)) ?_
                refine pX 7 33 (bB 11 511) (any_of HT_.out (by kernel_rfl)) ?_
                exact norm_ (by simp only [putAll, Act.put, List.setIfInBounds_toArray, List.set_cons_zero, List.set_cons_succ]) (hCont (.slice Ao59 t233.length co59, v241, gb244) _ ⟨hHeld, (by (with_reducible repeat first | apply rA | apply rN | apply rD); exact Kd.R_mono HO235.out (fun _ hk => hk.2)), (by (with_reducible repeat first | apply rA | apply rN | apply rD); exact Kd.R_mono HO242.out (fun _ hk => hk.2)), (uB BK229), (uB BK230), (uB BK244), GW244.out, GE244.out, NB229_244.out, NB244_229.out, NB230_244.out, NB244_230.out, (uL HB)⟩)
              rintro ⟨v234, v241, gb244⟩ w61 ⟨hS_, h0_, h1_, h2_, h3_, h4_, h5_, h6_, h7_, h8_, h9_, h10_, h11_⟩
              have n0_ : Aside0 (Kd.R k45 45 w61 w.heap.size (fun k_ => some k_ ≠ (v241 : Value).ownBlock) v234 t233) := ⟨h0_⟩
              have n1_ : Aside0 (Kd.R k45 45 w61 w.heap.size (fun k_ => some k_ ≠ (v234 : Value).ownBlock) v241 t240) := ⟨h1_⟩
              have n2_ : Aside0 (w61.heap[gb229]? = some (.cells #[.slice A0_0 l0_0.length c0_0] 24 (0, 0))) := ⟨h2_⟩
              have n3_ : Aside0 (w61.heap[gb230]? = some (.cells #[.int .i64 a1_0, .string a1_1, .string a1_2, .string a1_3] 52 (0, 0))) := ⟨h3_⟩
              have n4_ : Aside0 (w61.heap[gb244]? = some (.cells #[.slice none 0 0] 30 (0, 0))) := ⟨h4_⟩
              have n5_ : Aside0 (w.heap.size ≤ gb244) := ⟨h5_⟩
              have n6_ : Aside0 (w.heap.size ≤ gb244) := ⟨h6_⟩
              have n7_ : Aside0 (gb229 ≠ gb244) := ⟨h7_⟩
              have n8_ : Aside0 (gb244 ≠ gb229) := ⟨h8_⟩
              have n9_ : Aside0 (gb230 ≠ gb244) := ⟨h9_⟩
              have n10_ : Aside0 (gb244 ≠ gb230) := ⟨h10_⟩
              have n11_ : Aside0 (Below w.heap.size w w61) := ⟨h11_⟩
              clear BK229 BK230 HB h0_ h1_ h2_ h3_ h4_ h5_ h6_ h7_ h8_ h9_ h10_ h11_; have HO235 := n0_; have HO242 := n1_; have BK229 := n2_; have BK230 := n3_; have BK244 := n4_; have GW244 := n5_; have GE244 := n6_; have NB229_244 := n7_; have NB244_229 := n8_; have NB230_244 := n9_; have NB244_230 := n10_; have HB := n11_; clear n0_ n1_ n2_ n3_ n4_ n5_ n6_ n7_ n8_ n9_ n10_ n11_
              have hHeld : w61.cell? ⟨gb229, 0, none⟩ = some (.slice A0_0 l0_0.length c0_0) ∧ w61.cell? ⟨gb230, 0, none⟩ = some (.int .i64 a1_0) ∧ w61.cell? ⟨gb230, 1, none⟩ = some (.string a1_1) ∧ w61.cell? ⟨gb230, 2, none⟩ = some (.string a1_2) ∧ w61.cell? ⟨gb230, 3, none⟩ = some (.string a1_3) := hS_
              obtain ⟨Ao62, co62, eo62⟩ := Kd.R_slice HO242.out
              (first | subst eo62 | (injection eo62 with f1_ f2_ f3_; have f4_ := f1_.symm; have f5_ := f3_.symm; clear f1_ f2_ f3_; subst f4_; subst f5_))
              refine norm_ (a' := ?_) ?_ ?_
              rotate_left
              ·simp only [putAll, Act.put, List.setIfInBounds_toArray, List.set_cons_zero, List.set_cons_succ]
               rfl
              refine one_ (i := 9) (N := none) (bB 11 1023) rfl rfl (one_of HT_.out (by kernel_rfl)) (by decide) (fun K hK => ?_)
              have hs63 : w61.cell? ⟨gb244, 0, none⟩ = some (.slice none 0 0) := (blk_cell BK244.out 0).trans rfl
              have hfs63 := blk_frozen BK244.out 0
              have hns63_0 := NB229_244.out
              have hns63_1 := NB230_244.out
              have hms63_0 := NB244_229.out
              have hms63_1 := NB244_230.out
              refine skip_ (w1 := ?_) (by rfl) rfl ?_ ?_
              rotate_left
              ·go_simp
               rfl
              refine hK.out _ _ ⟨((cell_far (p := ⟨gb244, _, none⟩) NB229_244.out _).trans (hHeld.1)), ((cell_far (p := ⟨gb244, _, none⟩) NB230_244.out _).trans (hHeld.2.1)), ((cell_far (p := ⟨gb244, _, none⟩) NB230_244.out _).trans (hHeld.2.2.1)), ((cell_far (p := ⟨gb244, _, none⟩) NB230_244.out _).trans (hHeld.2.2.2.1)), ((cell_far (p := ⟨gb244, _, none⟩) NB230_244.out _).trans (hHeld.2.2.2.2))⟩ (fun hHeld => ?_)
              clear hK K
              refine pX 10 7 (bB 11 2047) (any_of HT_.out (by kernel_rfl)) ?_
              refine done_ (done_of HT_.out (by kernel_rfl)) ?_
              have hnb64 := NB229_244.out
              have hnc64 := NB244_229.out
              have hcz65_0 : w61.cell? ⟨gb229, 0, none⟩ = some (.slice A0_0 l0_0.length c0_0) := (blk_cell BK229.out 0).trans rfl
              have hfz65_0 := blk_frozen BK229.out 0
              try go_wp2_with (first | ((with_reducible refine gate_callee (f := 17) rfl ?_); refine gL (some 35) Try.func17 #[.agg #[.slice A0_0 l0_0.length c0_0]] ?_; (with_reducible refine (laws_toDisk.calls k _ _ l0_0 t245 _ ?side1 ?side2 A22.out).mono ?_); (case side1 => exact Kd.C_below HR0_0.out (uL HB)); (case side2 => exact HC0_0.out); rintro e w66 ⟨v246, rfl, ho0, hb⟩; refine ⟨_, rfl, ?_⟩; have n0_ := aM (Kd.R_elder' (by (with_reducible repeat first | apply rA | apply rN | apply rD); exact (Kd.R_mono (Kd.R_far (p := ⟨gb244, 0, none⟩) (Kd.R_types HO235.out BK244.out (by decide)) (fun _ hk => hk.2) (.slice Ao62 t240.length co62)) (fun _ h_ => h_.1))) (Kd.R_base ho0) hb); have n1_ := aM (Kd.R_elder' (by (with_reducible repeat first | apply rA | apply rN | apply rD); exact (Kd.R_mono (Kd.R_far (p := ⟨gb244, 0, none⟩) (Kd.R_types HO242.out BK244.out (by decide)) (fun _ hk => hk.2) (.slice Ao62 t240.length co62)) (fun _ h_ => h_.1))) (Kd.R_base ho0) hb); have n2_ := aM (Kd.R_lower (Kd.R_new' (Kd.R_new' ho0 (Kd.R_lt (by (with_reducible repeat first | apply rA | apply rN | apply rD); exact (Kd.R_mono (Kd.R_far (p := ⟨gb244, 0, none⟩) (Kd.R_types HO235.out BK244.out (by decide)) (fun _ hk => hk.2) (.slice Ao62 t240.length co62)) (fun _ h_ => h_.1))))) (Kd.R_lt (by (with_reducible repeat first | apply rA | apply rN | apply rD); exact (Kd.R_mono (Kd.R_far (p := ⟨gb244, 0, none⟩) (Kd.R_types HO242.out BK244.out (by decide)) (fun _ hk => hk.2) (.slice Ao62 t240.length co62)) (fun _ h_ => h_.1))))) (below_size (uL HB))); have n3_ := aM (blk_below (g := gb229) (o := .cells #[.slice A0_0 l0_0.length c0_0] 24 (0, 0)) (by (with_reducible repeat first | apply bN | apply bD | apply bA); refine blk_far ?_ NB229_244.out _; (with_reducible repeat first | apply bN | apply bD | apply bA); exact BK229.out) hb); have n4_ := aM (blk_below (g := gb230) (o := .cells #[.int .i64 a1_0, .string a1_1, .string a1_2, .string a1_3] 52 (0, 0)) (by (with_reducible repeat first | apply bN | apply bD | apply bA); refine blk_far ?_ NB230_244.out _; (with_reducible repeat first | apply bN | apply bD | apply bA); exact BK230.out) hb); have n5_ := aM (blk_below (g := gb244) (o := .cells #[.slice Ao62 t240.length co62] 30 (0, 0)) (by (with_reducible repeat first | apply bN | apply bD | apply bA); refine blk_put (cs := #[.slice none 0 0]) ?_ 0 _ rfl; (with_reducible repeat first | apply bN | apply bD | apply bA); exact BK244.out) hb); have n6_ := aM (below_step (uL HB) hb); clear HO235; clear HO242; clear BK229; clear BK230; clear BK244; clear HB; have HO235 := n0_; have HO242 := n1_; have HO247 := n2_; have BK229 := n3_; have BK230 := n4_; have BK244 := n5_; have HB := n6_; clear n0_ n1_ n2_ n3_ n4_ n5_ n6_; (try clear hb); (try clear hb2); (try clear hk); (try clear hi); (try clear ho0)) | ((with_reducible refine gate_dst (N := 8) rfl ?_); refine bxE 8 #[.slice none 0 0] 30 ?_; intro gb248 hg w67 hbox hb; have n0_ := aM (Kd.R_below (uR HO235) hb); have n1_ := aM (Kd.R_below (uR HO242) hb); have n2_ := aM (Kd.R_below (uR HO247) hb); have n3_ := blkB BK229 hb; have n4_ := blkB BK230 hb; have n5_ := blkB BK244 hb; have n6_ := aM (below_step (uL HB) hb); have n7_ := aM (hbox); have n8_ := szG hg (uL HB); have n9_ := szG hg (uL HB); have n10_ := neL hg BK229; have n11_ := neG hg BK229; have n12_ := neL hg BK230; have n13_ := neG hg BK230; have n14_ := neL hg BK244; have n15_ := neG hg BK244; clear HO235; clear HO242; clear HO247; clear BK229; clear BK230; clear BK244; clear HB; have HO235 := n0_; have HO242 := n1_; have HO247 := n2_; have BK229 := n3_; have BK230 := n4_; have BK244 := n5_; have HB := n6_; have BK248 := n7_; have GW248 := n8_; have GE248 := n9_; have NB229_248 := n10_; have NB248_229 := n11_; have NB230_248 := n12_; have NB248_230 := n13_; have NB244_248 := n14_; have NB248_244 := n15_; clear n0_ n1_ n2_ n3_ n4_ n5_ n6_ n7_ n8_ n9_ n10_ n11_ n12_ n13_ n14_ n15_; clear hb hbox hg; obtain ⟨Ao68, co68, eo68⟩ := Kd.R_slice HO247.out; subst eo68; have hnb69 := NB248_229.out; have hnc69 := NB229_248.out; have hnb70 := NB248_230.out; have hnc70 := NB230_248.out; have hnb71 := NB248_244.out; have hnc71 := NB244_248.out; have hcz72_0 : w67.cell? ⟨gb248, 0, none⟩ = some (.slice none 0 0) := (blk_cell BK248.out 0).trans rfl; have hfz72_0 := blk_frozen BK248.out 0))
              have n0_ : Aside0 (Kd.R k45 45 (w67.setCell ⟨gb248, 0, none⟩ (.slice Ao68 t245.length co68)) w.heap.size (fun k_ => some k_ ≠ (.slice Ao62 t240.length co62 : Value).ownBlock ∧ some k_ ≠ (.slice Ao68 t245.length co68 : Value).ownBlock) v234 t233) := ⟨by (with_reducible repeat first | apply rA | apply rN | apply rD); exact Kd.R_mono (Kd.R_far (p := ⟨gb248, 0, none⟩) (Kd.R_types HO235.out BK248.out (by decide)) (fun _ hk => hk.2) (.slice Ao68 t245.length co68)) (fun _ hk => ⟨hk.1.1, hk.1.2⟩)⟩
              have n1_ : Aside0 (Kd.R k45 45 (w67.setCell ⟨gb248, 0, none⟩ (.slice Ao68 t245.length co68)) w.heap.size (fun k_ => some k_ ≠ (v234 : Value).ownBlock ∧ some k_ ≠ (.slice Ao68 t245.length co68 : Value).ownBlock) (.slice Ao62 t240.length co62) t240) := ⟨by (with_reducible repeat first | apply rA | apply rN | apply rD); exact Kd.R_mono (Kd.R_far (p := ⟨gb248, 0, none⟩) (Kd.R_types HO242.out BK248.out (by decide)) (fun _ hk => hk.2) (.slice Ao68 t245.length co68)) (fun _ hk => ⟨hk.1.1, hk.1.2⟩)⟩
              have n2_ : Aside0 (Kd.R k45 45 (w67.setCell ⟨gb248, 0, none⟩ (.slice Ao68 t245.length co68)) w.heap.size (fun k_ => some k_ ≠ (v234 : Value).ownBlock ∧ some k_ ≠ (.slice Ao62 t240.length co62 : Value).ownBlock) (.slice Ao68 t245.length co68) t245) := ⟨by (with_reducible repeat first | apply rA | apply rN | apply rD); exact Kd.R_mono (Kd.R_far (p := ⟨gb248, 0, none⟩) (Kd.R_types HO247.out BK248.out (by decide)) (fun _ hk => hk.2) (.slice Ao68 t245.length co68)) (fun _ hk => ⟨hk.1.1.2, hk.1.2⟩)⟩
              have n3_ : Aside0 ((w67.setCell ⟨gb248, 0, none⟩ (.slice Ao68 t245.length co68)).heap[gb229]? = some (.cells #[.slice A0_0 l0_0.length c0_0] 24 (0, 0))) := ⟨by (with_reducible repeat first | apply bN | apply bD | apply bA); refine blk_far ?_ NB229_248.out _; (with_reducible repeat first | apply bN | apply bD | apply bA); exact BK229.out⟩
              have n4_ : Aside0 ((w67.setCell ⟨gb248, 0, none⟩ (.slice Ao68 t245.length co68)).heap[gb230]? = some (.cells #[.int .i64 a1_0, .string a1_1, .string a1_2, .string a1_3] 52 (0, 0))) := ⟨by (with_reducible repeat first | apply bN | apply bD | apply bA); refine blk_far ?_ NB230_248.out _; (with_reducible repeat first | apply bN | apply bD | apply bA); exact BK230.out⟩
              have n5_ : Aside0 ((w67.setCell ⟨gb248, 0, none⟩ (.slice Ao68 t245.length co68)).heap[gb244]? = some (.cells #[.slice Ao62 t240.length co62] 30 (0, 0))) := ⟨by (with_reducible repeat first | apply bN | apply bD | apply bA); refine blk_far ?_ NB244_248.out _; (with_reducible repeat first | apply bN | apply bD | apply bA); exact BK244.out⟩
              have n6_ : Aside0 ((w67.setCell ⟨gb248, 0, none⟩ (.slice Ao68 t245.length co68)).heap[gb248]? = some (.cells #[.slice Ao68 t245.length co68] 30 (0, 0))) := ⟨by (with_reducible repeat first | apply bN | apply bD | apply bA); refine blk_put (cs := #[.slice none 0 0]) ?_ 0 _ rfl; (with_reducible repeat first | apply bN | apply bD | apply bA); exact BK248.out⟩
              have n7_ : Aside0 (Below w.heap.size w (w67.setCell ⟨gb248, 0, none⟩ (.slice Ao68 t245.length co68))) := ⟨uL HB⟩
              (try clear HO235)
              (try clear HO242)
              (try clear HO247)
              (try clear BK229)
              (try clear BK230)
              (try clear BK244)
              (try clear BK248)
              (try clear HB)
              generalize (w67.setCell ⟨gb248, 0, none⟩ (.slice Ao68 t245.length co68)) = w73 at n0_ n1_ n2_ n3_ n4_ n5_ n6_ n7_ ⊢
              have HO235 := n0_; have HO242 := n1_; have HO247 := n2_; have BK229 := n3_; have BK230 := n4_; have BK244 := n5_; have BK248 := n6_; have HB := n7_; clear n0_ n1_ n2_ n3_ n4_ n5_ n6_ n7_
              have n0_ := aM (Kd.R_drew HO235.out)
              have n1_ := aM (Kd.R_drew HO242.out)
              have n2_ := aM (Kd.R_drew HO247.out)
              have n3_ := aM (blk_drew BK229.out)
              have n4_ := aM (blk_drew BK230.out)
              have n5_ := aM (blk_drew BK244.out)
              have n6_ := aM (blk_drew BK248.out)
              have n7_ := aM (below_drew1 HB.out)
              clear HO235 HO242 HO247 BK229 BK230 BK244 BK248 HB; have HO235 := n0_; have HO242 := n1_; have HO247 := n2_; have BK229 := n3_; have BK230 := n4_; have BK244 := n5_; have BK248 := n6_; have HB := n7_; clear n0_ n1_ n2_ n3_ n4_ n5_ n6_ n7_
              refine start_ (n := 10) (S := fun w' => w'.cell? ⟨gb248, 0, none⟩ = some (.slice Ao68 t245.length co68) ∧ w'.cell? ⟨gb230, 0, none⟩ = some (.int .i64 a1_0) ∧ w'.cell? ⟨gb230, 1, none⟩ = some (.string a1_1) ∧ w'.cell? ⟨gb230, 2, none⟩ = some (.string a1_2) ∧ w'.cell? ⟨gb230, 3, none⟩ = some (.string a1_3)) (ds := []) #[false, false, false, false, false, false, false, false, false, false] (by kernel_rfl) rfl rfl ⟨(blk_cell BK248.out 0).trans rfl, (blk_cell BK230.out 0).trans rfl, (blk_cell BK230.out 1).trans rfl, (blk_cell BK230.out 2).trans rfl, (blk_cell BK230.out 3).trans rfl⟩ (fun hHeld => ?_); refine with_tabW laws_FnExactDoAct.tab10 laws_FnExactDoAct.bits10 (fun HT_ HW_ => ?_)
              generalize w73.drew = w74 at HO235 HO242 HO247 BK229 BK230 BK244 BK248 HB hHeld ⊢
              refine take_ (i := 0) (N := some 37) (v := ?_) (a' := ?_) (bB 10 1) rfl rfl (take_ofW HT_.out HW_.out (by kernel_rfl)) (fun _ _ _ h => h) (Or.inl ⟨by rfl, ?_⟩) hHeld ?_ ?_
              rotate_left
              ·rintro w' ⟨s0, s1, s2, s3, s4⟩
               go_simp
               with_reducible rfl
              rotate_left
              ·simp only [aP, aQ, sT, sZ, sU, i64_w, i32_w]
               rfl
              refine take_ (i := 1) (N := some 38) (v := ?_) (a' := ?_) (bB 10 3) rfl rfl (take_ofW HT_.out HW_.out (by kernel_rfl)) (fun _ _ _ h => h) (Or.inl ⟨by rfl, ?_⟩) hHeld ?_ ?_
              rotate_left
              ·rintro w' ⟨s0, s1, s2, s3, s4⟩
               go_simp
               with_reducible rfl
              rotate_left
              ·simp only [aP, aQ, sT, sZ, sU, i64_w, i32_w]
               rfl
              refine join_ (σ := Value × Nat) 2 #[true, true, true, true, true, true, true, true, false, false] (fun s_ => [(39, .agg #[.int .i64 t249, .string t250, .string t251, .string t252]), (40, .tuple #[.agg #[s_.1], .bool t256]), (9, .pointer (some ⟨s_.2, 0, none⟩)), (36, .tuple #[.agg #[s_.1], .bool t256]), (41, .agg #[s_.1]), (42, .bool t256)]) (fun s_ w' => (w'.cell? ⟨gb248, 0, none⟩ = some (.slice Ao68 t245.length co68) ∧ w'.cell? ⟨gb230, 0, none⟩ = some (.int .i64 a1_0) ∧ w'.cell? ⟨gb230, 1, none⟩ = some (.string a1_1) ∧ w'.cell? ⟨gb230, 2, none⟩ = some (.string a1_2) ∧ w'.cell? ⟨gb230, 3, none⟩ = some (.string a1_3)) ∧ (Kd.R k45 45 w' w.heap.size (fun k_ => some k_ ≠ (.slice Ao62 t240.length co62 : Value).ownBlock ∧ some k_ ≠ (.slice Ao68 t245.length co68 : Value).ownBlock ∧ some k_ ≠ (s_.1 : Value).ownBlock) v234 t233) ∧ (Kd.R k45 45 w' w.heap.size (fun k_ => some k_ ≠ (v234 : Value).ownBlock ∧ some k_ ≠ (.slice Ao68 t245.length co68 : Value).ownBlock ∧ some k_ ≠ (s_.1 : Value).ownBlock) (.slice Ao62 t240.length co62) t240) ∧ (Kd.R k45 45 w' w.heap.size (fun k_ => some k_ ≠ (v234 : Value).ownBlock ∧ some k_ ≠ (.slice Ao62 t240.length co62 : Value).ownBlock ∧ some k_ ≠ (s_.1 : Value).ownBlock) (.slice Ao68 t245.length co68) t245) ∧ (Kd.R k45 45 w' w.heap.size (fun k_ => some k_ ≠ (v234 : Value).ownBlock ∧ some k_ ≠ (.slice Ao62 t240.length co62 : Value).ownBlock ∧ some k_ ≠ (.slice Ao68 t245.length co68 : Value).ownBlock) s_.1 t253) ∧ (w'.heap[gb229]? = some (.cells #[.slice A0_0 l0_0.length c0_0] 24 (0, 0))) ∧ (w'.heap[gb230]? = some (.cells #[.int .i64 a1_0, .string a1_1, .string a1_2, .string a1_3] 52 (0, 0))) ∧ (w'.heap[gb244]? = some (.cells #[.slice Ao62 t240.length co62] 30 (0, 0))) ∧ (w'.heap[gb248]? = some (.cells #[.slice Ao68 t245.length co68] 30 (0, 0))) ∧ (w'.heap[s_.2]? = some (.cells #[.slice none 0 0] 30 (0, 0))) ∧ (w.heap.size ≤ s_.2) ∧ (w.heap.size ≤ s_.2) ∧ (gb229 ≠ s_.2) ∧ (s_.2 ≠ gb229) ∧ (gb230 ≠ s_.2) ∧ (s_.2 ≠ gb230) ∧ (gb244 ≠ s_.2) ∧ (s_.2 ≠ gb244) ∧ (gb248 ≠ s_.2) ∧ (s_.2 ≠ gb248) ∧ (Below w.heap.size w w')) ?_ ?_
              rotate_left
              ·intro hCont
               refine two_ (i := 2) (j := 7) (Ni := some 39) (Nj := some 9) #[true, true, true, false, false, false, false, false, false, false] #[true, true, false, false, false, false, false, true, false, false] rfl rfl rfl rfl (two_of HT_.out (by kernel_rfl)) (by decide) (by decide) (fun K hK => ?_) (fun K hK => ?_)
               ·skip
                refine gX Try.func39 #[.agg #[.int .i64 a1_0, .string a1_1, .string a1_2, .string a1_3]] ?_
                with_reducible refine (laws_toAct.calls a1_0 a1_1 a1_2 a1_3 t249 t250 t251 t252 _ A23.out).mono ?_
                rintro e w75 ⟨rfl, hb⟩
                refine ⟨_, rfl, ?_⟩
                have n0_ := aM (Kd.R_below (uR HO235) hb); have n1_ := aM (Kd.R_below (uR HO242) hb); have n2_ := aM (Kd.R_below (uR HO247) hb); have n3_ := blkB BK229 hb; have n4_ := blkB BK230 hb; have n5_ := blkB BK244 hb; have n6_ := blkB BK248 hb
                have n7_ := aM (below_step (uL HB) hb)
                clear HO235 HO242 HO247 BK229 BK230 BK244 BK248 HB; have HO235 := n0_; have HO242 := n1_; have HO247 := n2_; have BK229 := n3_; have BK230 := n4_; have BK244 := n5_; have BK248 := n6_; have HB := n7_; clear n0_ n1_ n2_ n3_ n4_ n5_ n6_ n7_
                (try clear hb)
                (try clear hb2)
                (try clear hk)
                (try clear hi)
                refine hK.out _ _ ⟨(blk_cell BK248.out 0).trans rfl, (blk_cell BK230.out 0).trans rfl, (blk_cell BK230.out 1).trans rfl, (blk_cell BK230.out 2).trans rfl, (blk_cell BK230.out 3).trans rfl⟩ (fun hHeld => ?_)
                clear hK K
                refine norm_ (a' := ?_) ?_ ?_
                rotate_left
                ·show Act.put _ (some 39) _ = _
                 simp only [aP, aQ, sT, sZ, sU, i64_w, i32_w]
                 rfl
                refine two_ (i := 3) (j := 7) (Ni := some 40) (Nj := some 9) #[true, true, true, true, false, false, false, false, false, false] #[true, true, true, false, false, false, false, true, false, false] rfl rfl rfl rfl (two_of HT_.out (by kernel_rfl)) (by decide) (by decide) (fun K hK => ?_) (fun K hK => ?_)
                ·skip
                 refine gX Try.func40 #[.agg #[.slice Ao68 t245.length co68], .agg #[.int .i64 t249, .string t250, .string t251, .string t252]] ?_
                 with_reducible refine (impl_DoAct.calls k _ _ t245 t249 t250 t251 t252 t253 t256 _ ?side1 ?side2 A24.out).mono ?_
                 (case side1 => repeat (first | exact (Kd.R_reads' HO247.out).2.2 | (with_reducible refine cA ?_ _) | (with_reducible refine cN ?_ _) | (with_reducible refine cD ?_)))
                 (case side2 => exact (Kd.R_reads' HO247.out).2.1)
                 rintro e w76 ⟨v254, rfl, ho0, hb⟩
                 refine ⟨_, rfl, ?_⟩
                 have n0_ := aM (Kd.R_elder' (uR HO235) (Kd.R_base ho0) hb)
                 have n1_ := aM (Kd.R_elder' (uR HO242) (Kd.R_base ho0) hb)
                 have n2_ := aM (Kd.R_elder' (uR HO247) (Kd.R_base ho0) hb)
                 have n3_ := aM (Kd.R_lower (Kd.R_new' (Kd.R_new' (Kd.R_new' ho0 (Kd.R_lt (uR HO235))) (Kd.R_lt (uR HO242))) (Kd.R_lt (uR HO247))) (below_size (uL HB)))
                 have n4_ := blkB BK229 hb; have n5_ := blkB BK230 hb; have n6_ := blkB BK244 hb; have n7_ := blkB BK248 hb
                 have n8_ := aM (below_step (uL HB) hb)
                 clear HO235 HO242 HO247 BK229 BK230 BK244 BK248 HB; have HO235 := n0_; have HO242 := n1_; have HO247 := n2_; have HO255 := n3_; have BK229 := n4_; have BK230 := n5_; have BK244 := n6_; have BK248 := n7_; have HB := n8_; clear n0_ n1_ n2_ n3_ n4_ n5_ n6_ n7_ n8_
                 (try clear hb)
                 (try clear hb2)
                 (try clear hk)
                 (try clear hi)
                 (try clear ho0)
                 refine hK.out _ _ ⟨(blk_cell BK248.out 0).trans rfl, (blk_cell BK230.out 0).trans rfl, (blk_cell BK230.out 1).trans rfl, (blk_cell BK230.out 2).trans rfl, (blk_cell BK230.out 3).trans rfl⟩ (fun hHeld => ?_)
                 clear hK K
                 refine norm_ (a' := ?_) ?_ ?_
                 rotate_left
                 ·show Act.put _ (some 40) _ = _
                  simp only [aP, aQ, sT, sZ, sU, i64_w, i32_w]
                  rfl
                 refine pX 4 36 (bB 10 31) (any_of HT_.out (by kernel_rfl)) ?_
                 refine pX 5 41 (bB 10 63) (any_of HT_.out (by kernel_rfl)) ?_
                 refine pX 6 42 (bB 10 127) (any_of HT_.out (by kernel_rfl)) ?_
                 refine one_ (i := 7) (N := some 9) (bB 10 255) rfl rfl (one_of HT_.out (by kernel_rfl)) (by decide) (fun K hK => ?_)
                 refine bxS 9 #[.slice none 0 0] 30 ?_
                 intro gb257 hg w77 hbox hb
                 have n0_ := aM (Kd.R_below (uR HO235) hb); have n1_ := aM (Kd.R_below (uR HO242) hb); have n2_ := aM (Kd.R_below (uR HO247) hb); have n3_ := aM (Kd.R_below (uR HO255) hb); have n4_ := blkB BK229 hb; have n5_ := blkB BK230 hb; have n6_ := blkB BK244 hb; have n7_ := blkB BK248 hb
                 have n8_ := aM (below_step (uL HB) hb)
                 have n9_ := aM (hbox)
                 have n10_ := szG hg (uL HB); have n11_ := szG hg (uL HB); have n12_ := neL hg BK229; have n13_ := neG hg BK229; have n14_ := neL hg BK230; have n15_ := neG hg BK230; have n16_ := neL hg BK244; have n17_ := neG hg BK244; have n18_ := neL hg BK248; have n19_ := neG hg BK248; clear HO235 HO242 HO247 HO255 BK229 BK230 BK244 BK248 HB; have HO235 := n0_; have HO242 := n1_; have HO247 := n2_; have HO255 := n3_; have BK229 := n4_; have BK230 := n5_; have BK244 := n6_; have BK248 := n7_; have HB := n8_; have BK257 := n9_; have GW257 := n10_; have GE257 := n11_; have NB229_257 := n12_; have NB257_229 := n13_; have NB230_257 := n14_; have NB257_230 := n15_; have NB244_257 := n16_; have NB257_244 := n17_; have NB248_257 := n18_; have NB257_248 := n19_; clear n0_ n1_ n2_ n3_ n4_ n5_ n6_ n7_ n8_ n9_ n10_ n11_ n12_ n13_ n14_ n15_ n16_ n17_ n18_ n19_ hb hbox hg
                 refine hK.out _ _ ⟨(blk_cell BK248.out 0).trans rfl, (blk_cell BK230.out 0).trans rfl, (blk_cell BK230.out 1).trans rfl, (blk_cell BK230.out 2).trans rfl, (blk_cell BK230.out 3).trans rfl⟩ (fun hHeld => ?_)
                 clear hK K
                 refine norm_ (a' := ?_) ?_ ?_
                 rotate_left
                 ·show Act.put _ (some 9) _ = _
                  simp only [aP, aQ, sT, sZ, sU, i64_w, i32_w]
                  rfl
                 exact norm_ (by simp only [putAll, Act.put, List.setIfInBounds_toArray, List.set_cons_zero, List.set_cons_succ]) (hCont (v254, gb257) _ ⟨hHeld, (by (with_reducible repeat first | apply rA | apply rN | apply rD); exact Kd.R_mono HO235.out (fun _ hk => ⟨hk.1.1, ⟨hk.1.2, hk.2⟩⟩)), (by (with_reducible repeat first | apply rA | apply rN | apply rD); exact Kd.R_mono HO242.out (fun _ hk => ⟨hk.1.1, ⟨hk.1.2, hk.2⟩⟩)), (by (with_reducible repeat first | apply rA | apply rN | apply rD); exact Kd.R_mono HO247.out (fun _ hk => ⟨hk.1.1, ⟨hk.1.2, hk.2⟩⟩)), (by (with_reducible repeat first | apply rA | apply rN | apply rD); exact Kd.R_mono HO255.out (fun _ hk => ⟨hk.1.1.2, ⟨hk.1.2, hk.2⟩⟩)), (uB BK229), (uB BK230), (uB BK244), (uB BK248), (uB BK257), GW257.out, GE257.out, NB229_257.out, NB257_229.out, NB230_257.out, NB257_230.out, NB244_257.out, NB257_244.out, NB248_257.out, NB257_248.out, (uL HB)⟩)
                ·skip
                 refine bxS 9 #[.slice none 0 0] 30 ?_
                 intro gb257 hg w76 hbox hb
                 have n0_ := aM (Kd.R_below (uR HO235) hb); have n1_ := aM (Kd.R_below (uR HO242) hb); have n2_ := aM (Kd.R_below (uR HO247) hb); have n3_ := blkB BK229 hb; have n4_ := blkB BK230 hb; have n5_ := blkB BK244 hb; have n6_ := blkB BK248 hb
                 have n7_ := aM (below_step (uL HB) hb)
                 have n8_ := aM (hbox)
                 have n9_ := szG hg (uL HB); have n10_ := szG hg (uL HB); have n11_ := neL hg BK229; have n12_ := neG hg BK229; have n13_ := neL hg BK230; have n14_ := neG hg BK230; have n15_ := neL hg BK244; have n16_ := neG hg BK244; have n17_ := neL hg BK248; have n18_ := neG hg BK248; clear HO235 HO242 HO247 BK229 BK230 BK244 BK248 HB; have HO235 := n0_; have HO242 := n1_; have HO247 := n2_; have BK229 := n3_; have BK230 := n4_; have BK244 := n5_; have BK248 := n6_; have HB := n7_; have BK257 := n8_; have GW257 := n9_; have GE257 := n10_; have NB229_257 := n11_; have NB257_229 := n12_; have NB230_257 := n13_; have NB257_230 := n14_; have NB244_257 := n15_; have NB257_244 := n16_; have NB248_257 := n17_; have NB257_248 := n18_; clear n0_ n1_ n2_ n3_ n4_ n5_ n6_ n7_ n8_ n9_ n10_ n11_ n12_ n13_ n14_ n15_ n16_ n17_ n18_ hb hbox hg
                 refine hK.out _ _ ⟨(blk_cell BK248.out 0).trans rfl, (blk_cell BK230.out 0).trans rfl, (blk_cell BK230.out 1).trans rfl, (blk_cell BK230.out 2).trans rfl, (blk_cell BK230.out 3).trans rfl⟩ (fun hHeld => ?_)
                 clear hK K
                 refine norm_ (a' := ?_) ?_ ?_
                 rotate_left
                 ·show Act.put _ (some 9) _ = _
                  simp only [aP, aQ, sT, sZ, sU, i64_w, i32_w]
                  rfl
                 refine one_ (i := 3) (N := some 40) (bB 10 143) rfl rfl (one_of HT_.out (by kernel_rfl)) (by decide) (fun K hK => ?_)
                 refine gX Try.func40 #[.agg #[.slice Ao68 t245.length co68], .agg #[.int .i64 t249, .string t250, .string t251, .string t252]] ?_
                 with_reducible refine (impl_DoAct.calls k _ _ t245 t249 t250 t251 t252 t253 t256 _ ?side1 ?side2 A24.out).mono ?_
                 (case side1 => repeat (first | exact (Kd.R_reads' HO247.out).2.2 | (with_reducible refine cA ?_ _) | (with_reducible refine cN ?_ _) | (with_reducible refine cD ?_)))
                 (case side2 => exact (Kd.R_reads' HO247.out).2.1)
                 rintro e w77 ⟨v254, rfl, ho0, hb⟩
                 refine ⟨_, rfl, ?_⟩
                 have n0_ := aM (Kd.R_elder' (uR HO235) (Kd.R_base ho0) hb)
                 have n1_ := aM (Kd.R_elder' (uR HO242) (Kd.R_base ho0) hb)
                 have n2_ := aM (Kd.R_elder' (uR HO247) (Kd.R_base ho0) hb)
                 have n3_ := aM (Kd.R_lower (Kd.R_new' (Kd.R_new' (Kd.R_new' ho0 (Kd.R_lt (uR HO235))) (Kd.R_lt (uR HO242))) (Kd.R_lt (uR HO247))) (below_size (uL HB)))
                 have n4_ := blkB BK229 hb; have n5_ := blkB BK230 hb; have n6_ := blkB BK244 hb; have n7_ := blkB BK248 hb; have n8_ := blkB BK257 hb
                 have n9_ := aM (below_step (uL HB) hb)
                 clear HO235 HO242 HO247 BK229 BK230 BK244 BK248 BK257 HB; have HO235 := n0_; have HO242 := n1_; have HO247 := n2_; have HO255 := n3_; have BK229 := n4_; have BK230 := n5_; have BK244 := n6_; have BK248 := n7_; have BK257 := n8_; have HB := n9_; clear n0_ n1_ n2_ n3_ n4_ n5_ n6_ n7_ n8_ n9_
                 (try clear hb)
                 (try clear hb2)
                 (try clear hk)
                 (try clear hi)
                 (try clear ho0)
                 refine hK.out _ _ ⟨(blk_cell BK248.out 0).trans rfl, (blk_cell BK230.out 0).trans rfl, (blk_cell BK230.out 1).trans rfl, (blk_cell BK230.out 2).trans rfl, (blk_cell BK230.out 3).trans rfl⟩ (fun hHeld => ?_)
                 clear hK K
                 refine norm_ (a' := ?_) ?_ ?_
                 rotate_left
                 ·show Act.put _ (some 40) _ = _
                  simp only [aP, aQ, sT, sZ, sU, i64_w, i32_w]
                  rfl
                 refine pX 4 36 (bB 10 159) (any_of HT_.out (by kernel_rfl)) ?_
                 refine pX 5 41 (bB 10 191) (any_of HT_.out (by kernel_rfl)) ?_
                 refine pX 6 42 (bB 10 255) (any_of HT_.out (by kernel_rfl)) ?_
                 exact norm_ (by simp only [putAll, Act.put, List.setIfInBounds_toArray, List.set_cons_zero, List.set_cons_succ]) (hCont (v254, gb257) _ ⟨hHeld, (by (with_reducible repeat first | apply rA | apply rN | apply rD); exact Kd.R_mono HO235.out (fun _ hk => ⟨hk.1.1, ⟨hk.1.2, hk.2⟩⟩)), (by (with_reducible repeat first | apply rA | apply rN | apply rD); exact Kd.R_mono HO242.out (fun _ hk => ⟨hk.1.1, ⟨hk.1.2, hk.2⟩⟩)), (by (with_reducible repeat first | apply rA | apply rN | apply rD); exact Kd.R_mono HO247.out (fun _ hk => ⟨hk.1.1, ⟨hk.1.2, hk.2⟩⟩)), (by (with_reducible repeat first | apply rA | apply rN | apply rD); exact Kd.R_mono HO255.out (fun _ hk => ⟨hk.1.1.2, ⟨hk.1.2, hk.2⟩⟩)), (uB BK229), (uB BK230), (uB BK244), (uB BK248), (uB BK257), GW257.out, GE257.out, NB229_257.out, NB257_229.out, NB230_257.out, NB257_230.out, NB244_257.out, NB257_244.out, NB248_257.out, NB257_248.out, (uL HB)⟩)
               ·skip
                refine bxS 9 #[.slice none 0 0] 30 ?_
                intro gb257 hg w75 hbox hb
                have n0_ := aM (Kd.R_below (uR HO235) hb); have n1_ := aM (Kd.R_below (uR HO242) hb); have n2_ := aM (Kd.R_below (uR HO247) hb); have n3_ := blkB BK229 hb; have n4_ := blkB BK230 hb; have n5_ := blkB BK244 hb; have n6_ := blkB BK248 hb
                have n7_ := aM (below_step (uL HB) hb)
                have n8_ := aM (hbox)
                have n9_ := szG hg (uL HB); have n10_ := szG hg (uL HB); have n11_ := neL hg BK229; have n12_ := neG hg BK229; have n13_ := neL hg BK230; have n14_ := neG hg BK230; have n15_ := neL hg BK244; have n16_ := neG hg BK244; have n17_ := neL hg BK248; have n18_ := neG hg BK248; clear HO235 HO242 HO247 BK229 BK230 BK244 BK248 HB; have HO235 := n0_; have HO242 := n1_; have HO247 := n2_; have BK229 := n3_; have BK230 := n4_; have BK244 := n5_; have BK248 := n6_; have HB := n7_; have BK257 := n8_; have GW257 := n9_; have GE257 := n10_; have NB229_257 := n11_; have NB257_229 := n12_; have NB230_257 := n13_; have NB257_230 := n14_; have NB244_257 := n15_; have NB257_244 := n16_; have NB248_257 := n17_; have NB257_248 := n18_; clear n0_ n1_ n2_ n3_ n4_ n5_ n6_ n7_ n8_ n9_ n10_ n11_ n12_ n13_ n14_ n15_ n16_ n17_ n18_ hb hbox hg
                refine hK.out _ _ ⟨(blk_cell BK248.out 0).trans rfl, (blk_cell BK230.out 0).trans rfl, (blk_cell BK230.out 1).trans rfl, (blk_cell BK230.out 2).trans rfl, (blk_cell BK230.out 3).trans rfl⟩ (fun hHeld => ?_)
                clear hK K
                refine norm_ (a' := ?_) ?_ ?_
                rotate_left
                ·show Act.put _ (some 9) _ = _
                 simp only [aP, aQ, sT, sZ, sU, i64_w, i32_w]
                 rfl
                refine one_ (i := 2) (N := some 39) (bB 10 135) rfl rfl (one_of HT_.out (by kernel_rfl)) (by decide) (fun K hK => ?_)
                refine gX Try.func39 #[.agg #[.int .i64 a1_0, .string a1_1, .string a1_2, .string a1_3]] ?_
                with_reducible refine (laws_toAct.calls a1_0 a1_1 a1_2 a1_3 t249 t250 t251 t252 _ A23.out).mono ?_
                rintro e w76 ⟨rfl, hb⟩
                refine ⟨_, rfl, ?_⟩
                have n0_ := aM (Kd.R_below (uR HO235) hb); have n1_ := aM (Kd.R_below (uR HO242) hb); have n2_ := aM (Kd.R_below (uR HO247) hb); have n3_ := blkB BK229 hb; have n4_ := blkB BK230 hb; have n5_ := blkB BK244 hb; have n6_ := blkB BK248 hb; have n7_ := blkB BK257 hb
                have n8_ := aM (below_step (uL HB) hb)
                clear HO235 HO242 HO247 BK229 BK230 BK244 BK248 BK257 HB; have HO235 := n0_; have HO242 := n1_; have HO247 := n2_; have BK229 := n3_; have BK230 := n4_; have BK244 := n5_; have BK248 := n6_; have BK257 := n7_; have HB := n8_; clear n0_ n1_ n2_ n3_ n4_ n5_ n6_ n7_ n8_
                (try clear hb)
                (try clear hb2)
                (try clear hk)
                (try clear hi)
                refine hK.out _ _ ⟨(blk_cell BK248.out 0).trans rfl, (blk_cell BK230.out 0).trans rfl, (blk_cell BK230.out 1).trans rfl, (blk_cell BK230.out 2).trans rfl, (blk_cell BK230.out 3).trans rfl⟩ (fun hHeld => ?_)
                clear hK K
                refine norm_ (a' := ?_) ?_ ?_
                rotate_left
                ·show Act.put _ (some 39) _ = _
                 simp only [aP, aQ, sT, sZ, sU, i64_w, i32_w]
                 rfl
                refine one_ (i := 3) (N := some 40) (bB 10 143) rfl rfl (one_of HT_.out (by kernel_rfl)) (by decide) (fun K hK => ?_)
                refine gX Try.func40 #[.agg #[.slice Ao68 t245.length co68], .agg #[.int .i64 t249, .string t250, .string t251, .string t252]] ?_
                with_reducible refine (impl_DoAct.calls k _ _ t245 t249 t250 t251 t252 t253 t256 _ ?side1 ?side2 A24.out).mono ?_
                (case side1 => repeat (first | exact (Kd.R_reads' HO247.out).2.2 | (with_reducible refine cA ?_ _) | (with_reducible refine cN ?_ _) | (with_reducible refine cD ?_)))
                (case side2 => exact (Kd.R_reads' HO247.out).2.1)
                rintro e w77 ⟨v254, rfl, ho0, hb⟩
                refine ⟨_, rfl, ?_⟩
                have n0_ := aM (Kd.R_elder' (uR HO235) (Kd.R_base ho0) hb)
                have n1_ := aM (Kd.R_elder' (uR HO242) (Kd.R_base ho0) hb)
                have n2_ := aM (Kd.R_elder' (uR HO247) (Kd.R_base ho0) hb)
                have n3_ := aM (Kd.R_lower (Kd.R_new' (Kd.R_new' (Kd.R_new' ho0 (Kd.R_lt (uR HO235))) (Kd.R_lt (uR HO242))) (Kd.R_lt (uR HO247))) (below_size (uL HB)))
                have n4_ := blkB BK229 hb; have n5_ := blkB BK230 hb; have n6_ := blkB BK244 hb; have n7_ := blkB BK248 hb; have n8_ := blkB BK257 hb
                have n9_ := aM (below_step (uL HB) hb)
                clear HO235 HO242 HO247 BK229 BK230 BK244 BK248 BK257 HB; have HO235 := n0_; have HO242 := n1_; have HO247 := n2_; have HO255 := n3_; have BK229 := n4_; have BK230 := n5_; have BK244 := n6_; have BK248 := n7_; have BK257 := n8_; have HB := n9_; clear n0_ n1_ n2_ n3_ n4_ n5_ n6_ n7_ n8_ n9_
                (try clear hb)
                (try clear hb2)
                (try clear hk)
                (try clear hi)
                (try clear ho0)
                refine hK.out _ _ ⟨(blk_cell BK248.out 0).trans rfl, (blk_cell BK230.out 0).trans rfl, (blk_cell BK230.out 1).trans rfl, (blk_cell BK230.out 2).trans rfl, (blk_cell BK230.out 3).trans rfl⟩ (fun hHeld => ?_)
                clear hK K
                refine norm_ (a' := ?_) ?_ ?_
                rotate_left
                ·show Act.put _ (some 40) _ = _
                 simp only [aP, aQ, sT, sZ, sU, i64_w, i32_w]
                 rfl
                refine pX 4 36 (bB 10 159) (any_of HT_.out (by kernel_rfl)) ?_
                refine pX 5 41 (bB 10 191) (any_of HT_.out (by kernel_rfl)) ?_
                refine pX 6 42 (bB 10 255) (any_of HT_.out (by kernel_rfl)) ?_
                exact norm_ (by simp only [putAll, Act.put, List.setIfInBounds_toArray, List.set_cons_zero, List.set_cons_succ]) (hCont (v254, gb257) _ ⟨hHeld, (by (with_reducible repeat first | apply rA | apply rN | apply rD); exact Kd.R_mono HO235.out (fun _ hk => ⟨hk.1.1, ⟨hk.1.2, hk.2⟩⟩)), (by (with_reducible repeat first | apply rA | apply rN | apply rD); exact Kd.R_mono HO242.out (fun _ hk => ⟨hk.1.1, ⟨hk.1.2, hk.2⟩⟩)), (by (with_reducible repeat first | apply rA | apply rN | apply rD); exact Kd.R_mono HO247.out (fun _ hk => ⟨hk.1.1, ⟨hk.1.2, hk.2⟩⟩)), (by (with_reducible repeat first | apply rA | apply rN | apply rD); exact Kd.R_mono HO255.out (fun _ hk => ⟨hk.1.1.2, ⟨hk.1.2, hk.2⟩⟩)), (uB BK229), (uB BK230), (uB BK244), (uB BK248), (uB BK257), GW257.out, GE257.out, NB229_257.out, NB257_229.out, NB230_257.out, NB257_230.out, NB244_257.out, NB257_244.out, NB248_257.out, NB257_248.out, (uL HB)⟩)
              rintro ⟨v254, gb257⟩ w78 ⟨hS_, h0_, h1_, h2_, h3_, h4_, h5_, h6_, h7_, h8_, h9_, h10_, h11_, h12_, h13_, h14_, h15_, h16_, h17_, h18_, h19_⟩
              have n0_ : Aside0 (Kd.R k45 45 w78 w.heap.size (fun k_ => some k_ ≠ (.slice Ao62 t240.length co62 : Value).ownBlock ∧ some k_ ≠ (.slice Ao68 t245.length co68 : Value).ownBlock ∧ some k_ ≠ (v254 : Value).ownBlock) v234 t233) := ⟨h0_⟩
              have n1_ : Aside0 (Kd.R k45 45 w78 w.heap.size (fun k_ => some k_ ≠ (v234 : Value).ownBlock ∧ some k_ ≠ (.slice Ao68 t245.length co68 : Value).ownBlock ∧ some k_ ≠ (v254 : Value).ownBlock) (.slice Ao62 t240.length co62) t240) := ⟨h1_⟩
              have n2_ : Aside0 (Kd.R k45 45 w78 w.heap.size (fun k_ => some k_ ≠ (v234 : Value).ownBlock ∧ some k_ ≠ (.slice Ao62 t240.length co62 : Value).ownBlock ∧ some k_ ≠ (v254 : Value).ownBlock) (.slice Ao68 t245.length co68) t245) := ⟨h2_⟩
              have n3_ : Aside0 (Kd.R k45 45 w78 w.heap.size (fun k_ => some k_ ≠ (v234 : Value).ownBlock ∧ some k_ ≠ (.slice Ao62 t240.length co62 : Value).ownBlock ∧ some k_ ≠ (.slice Ao68 t245.length co68 : Value).ownBlock) v254 t253) := ⟨h3_⟩
              have n4_ : Aside0 (w78.heap[gb229]? = some (.cells #[.slice A0_0 l0_0.length c0_0] 24 (0, 0))) := ⟨h4_⟩
              have n5_ : Aside0 (w78.heap[gb230]? = some (.cells #[.int .i64 a1_0, .string a1_1, .string a1_2, .string a1_3] 52 (0, 0))) := ⟨h5_⟩
              have n6_ : Aside0 (w78.heap[gb244]? = some (.cells #[.slice Ao62 t240.length co62] 30 (0, 0))) := ⟨h6_⟩
              have n7_ : Aside0 (w78.heap[gb248]? = some (.cells #[.slice Ao68 t245.length co68] 30 (0, 0))) := ⟨h7_⟩
              have n8_ : Aside0 (w78.heap[gb257]? = some (.cells #[.slice none 0 0] 30 (0, 0))) := ⟨h8_⟩
              have n9_ : Aside0 (w.heap.size ≤ gb257) := ⟨h9_⟩
              have n10_ : Aside0 (w.heap.size ≤ gb257) := ⟨h10_⟩
              have n11_ : Aside0 (gb229 ≠ gb257) := ⟨h11_⟩
              have n12_ : Aside0 (gb257 ≠ gb229) := ⟨h12_⟩
              have n13_ : Aside0 (gb230 ≠ gb257) := ⟨h13_⟩
              have n14_ : Aside0 (gb257 ≠ gb230) := ⟨h14_⟩
              have n15_ : Aside0 (gb244 ≠ gb257) := ⟨h15_⟩
              have n16_ : Aside0 (gb257 ≠ gb244) := ⟨h16_⟩
              have n17_ : Aside0 (gb248 ≠ gb257) := ⟨h17_⟩
              have n18_ : Aside0 (gb257 ≠ gb248) := ⟨h18_⟩
              have n19_ : Aside0 (Below w.heap.size w w78) := ⟨h19_⟩
              clear HO235 HO242 HO247 BK229 BK230 BK244 BK248 HB h0_ h1_ h2_ h3_ h4_ h5_ h6_ h7_ h8_ h9_ h10_ h11_ h12_ h13_ h14_ h15_ h16_ h17_ h18_ h19_; have HO235 := n0_; have HO242 := n1_; have HO247 := n2_; have HO255 := n3_; have BK229 := n4_; have BK230 := n5_; have BK244 := n6_; have BK248 := n7_; have BK257 := n8_; have GW257 := n9_; have GE257 := n10_; have NB229_257 := n11_; have NB257_229 := n12_; have NB230_257 := n13_; have NB257_230 := n14_; have NB244_257 := n15_; have NB257_244 := n16_; have NB248_257 := n17_; have NB257_248 := n18_; have HB := n19_; clear n0_ n1_ n2_ n3_ n4_ n5_ n6_ n7_ n8_ n9_ n10_ n11_ n12_ n13_ n14_ n15_ n16_ n17_ n18_ n19_
              have hHeld : w78.cell? ⟨gb248, 0, none⟩ = some (.slice Ao68 t245.length co68) ∧ w78.cell? ⟨gb230, 0, none⟩ = some (.int .i64 a1_0) ∧ w78.cell? ⟨gb230, 1, none⟩ = some (.string a1_1) ∧ w78.cell? ⟨gb230, 2, none⟩ = some (.string a1_2) ∧ w78.cell? ⟨gb230, 3, none⟩ = some (.string a1_3) := hS_
              obtain ⟨Ao79, co79, eo79⟩ := Kd.R_slice HO255.out
              (first | subst eo79 | (injection eo79 with f1_ f2_ f3_; have f4_ := f1_.symm; have f5_ := f3_.symm; clear f1_ f2_ f3_; subst f4_; subst f5_))
              refine norm_ (a' := ?_) ?_ ?_
              rotate_left
              ·simp only [putAll, Act.put, List.setIfInBounds_toArray, List.set_cons_zero, List.set_cons_succ]
               rfl
              refine one_ (i := 8) (N := none) (bB 10 511) rfl rfl (one_of HT_.out (by kernel_rfl)) (by decide) (fun K hK => ?_)
              have hs80 : w78.cell? ⟨gb257, 0, none⟩ = some (.slice none 0 0) := (blk_cell BK257.out 0).trans rfl
              have hfs80 := blk_frozen BK257.out 0
              have hns80_0 := NB229_257.out
              have hns80_1 := NB230_257.out
              have hns80_2 := NB244_257.out
              have hns80_3 := NB248_257.out
              have hms80_0 := NB257_229.out
              have hms80_1 := NB257_230.out
              have hms80_2 := NB257_244.out
              have hms80_3 := NB257_248.out
              refine skip_ (w1 := ?_) (by rfl) rfl ?_ ?_
              rotate_left
              ·go_simp
               rfl
              refine hK.out _ _ ⟨((cell_far (p := ⟨gb257, _, none⟩) NB248_257.out _).trans (hHeld.1)), ((cell_far (p := ⟨gb257, _, none⟩) NB230_257.out _).trans (hHeld.2.1)), ((cell_far (p := ⟨gb257, _, none⟩) NB230_257.out _).trans (hHeld.2.2.1)), ((cell_far (p := ⟨gb257, _, none⟩) NB230_257.out _).trans (hHeld.2.2.2.1)), ((cell_far (p := ⟨gb257, _, none⟩) NB230_257.out _).trans (hHeld.2.2.2.2))⟩ (fun hHeld => ?_)
              clear hK K
              refine pX 9 10 (bB 10 1023) (any_of HT_.out (by kernel_rfl)) ?_
              refine done_ (done_of HT_.out (by kernel_rfl)) ?_
              have hnb81 := NB257_229.out
              have hnc81 := NB229_257.out
              have hnb82 := NB257_230.out
              have hnc82 := NB230_257.out
              have hnb83 := NB257_244.out
              have hnc83 := NB244_257.out
              have hnb84 := NB257_248.out
              have hnc84 := NB248_257.out
              have hcz85_0 : w78.cell? ⟨gb257, 0, none⟩ = some (.slice none 0 0) := (blk_cell BK257.out 0).trans rfl
              have hfz85_0 := blk_frozen BK257.out 0
              have hnb86 := NB244_230.out
              have hnc86 := NB230_244.out
              have hcz87_0 : w78.cell? ⟨gb244, 0, none⟩ = some (.slice Ao62 t240.length co62) := (blk_cell BK244.out 0).trans rfl
              have hfz87_0 := blk_frozen BK244.out 0
              try go_wp2_with (first | ((with_reducible refine gate_callee (f := 19) rfl ?_); refine gL (some 45) Try.func19 #[.agg #[.slice Ao79 t253.length co79], .agg #[.slice Ao62 t240.length co62]] ?_; (with_reducible refine (laws_eqDisk.calls k _ _ t253 _ _ t240 true _ ?side1 ?side2 ?side3 ?side4 A25.out).mono ?_); (case side1 => refine (Kd.R_reads' (e := 45) (base := w.heap.size) (ok := fun k_ => (some k_ ≠ (v234 : Value).ownBlock ∧ (some k_ ≠ (.slice Ao62 t240.length co62 : Value).ownBlock ∧ some k_ ≠ (.slice Ao68 t245.length co68 : Value).ownBlock))) (n := t253.length) (c := co79) ?_).2.2; exact (by (with_reducible repeat first | apply rA | apply rN | apply rD); exact (Kd.R_mono (Kd.R_far (p := ⟨gb257, 0, none⟩) (Kd.R_types HO255.out BK257.out (by decide)) (fun _ hk => hk.2) (.slice Ao79 t253.length co79)) (fun _ h_ => h_.1)))); (case side2 => exact (Kd.R_reads' HO255.out).2.1); (case side3 => refine (Kd.R_reads' (e := 45) (base := w.heap.size) (ok := fun k_ => (some k_ ≠ (v234 : Value).ownBlock ∧ (some k_ ≠ (.slice Ao68 t245.length co68 : Value).ownBlock ∧ some k_ ≠ (.slice Ao79 t253.length co79 : Value).ownBlock))) (n := t240.length) (c := co62) ?_).2.2; exact (by (with_reducible repeat first | apply rA | apply rN | apply rD); exact (Kd.R_mono (Kd.R_far (p := ⟨gb257, 0, none⟩) (Kd.R_types HO242.out BK257.out (by decide)) (fun _ hk => hk.2) (.slice Ao79 t253.length co79)) (fun _ h_ => h_.1)))); (case side4 => exact (Kd.R_reads' HO242.out).2.1); rintro e w88 ⟨rfl, hb⟩; refine ⟨_, rfl, ?_⟩; have n0_ := aM (Kd.R_below (by (with_reducible repeat first | apply rA | apply rN | apply rD); exact (Kd.R_mono (Kd.R_far (p := ⟨gb257, 0, none⟩) (Kd.R_types HO235.out BK257.out (by decide)) (fun _ hk => hk.2) (.slice Ao79 t253.length co79)) (fun _ h_ => h_.1))) hb); have n1_ := aM (Kd.R_below (by (with_reducible repeat first | apply rA | apply rN | apply rD); exact (Kd.R_mono (Kd.R_far (p := ⟨gb257, 0, none⟩) (Kd.R_types HO242.out BK257.out (by decide)) (fun _ hk => hk.2) (.slice Ao79 t253.length co79)) (fun _ h_ => h_.1))) hb); have n2_ := aM (Kd.R_below (by (with_reducible repeat first | apply rA | apply rN | apply rD); exact (Kd.R_mono (Kd.R_far (p := ⟨gb257, 0, none⟩) (Kd.R_types HO247.out BK257.out (by decide)) (fun _ hk => hk.2) (.slice Ao79 t253.length co79)) (fun _ h_ => h_.1))) hb); have n3_ := aM (Kd.R_below (by (with_reducible repeat first | apply rA | apply rN | apply rD); exact (Kd.R_mono (Kd.R_far (p := ⟨gb257, 0, none⟩) (Kd.R_types HO255.out BK257.out (by decide)) (fun _ hk => hk.2) (.slice Ao79 t253.length co79)) (fun _ h_ => h_.1))) hb); have n4_ := aM (blk_below (g := gb229) (o := .cells #[.slice A0_0 l0_0.length c0_0] 24 (0, 0)) (by (with_reducible repeat first | apply bN | apply bD | apply bA); refine blk_far ?_ NB229_257.out _; (with_reducible repeat first | apply bN | apply bD | apply bA); exact BK229.out) hb); have n5_ := aM (blk_below (g := gb230) (o := .cells #[.int .i64 a1_0, .string a1_1, .string a1_2, .string a1_3] 52 (0, 0)) (by (with_reducible repeat first | apply bN | apply bD | apply bA); refine blk_far ?_ NB230_257.out _; (with_reducible repeat first | apply bN | apply bD | apply bA); exact BK230.out) hb); have n6_ := aM (blk_below (g := gb244) (o := .cells #[.slice Ao62 t240.length co62] 30 (0, 0)) (by (with_reducible repeat first | apply bN | apply bD | apply bA); refine blk_far ?_ NB244_257.out _; (with_reducible repeat first | apply bN | apply bD | apply bA); exact BK244.out) hb); have n7_ := aM (blk_below (g := gb248) (o := .cells #[.slice Ao68 t245.length co68] 30 (0, 0)) (by (with_reducible repeat first | apply bN | apply bD | apply bA); refine blk_far ?_ NB248_257.out _; (with_reducible repeat first | apply bN | apply bD | apply bA); exact BK248.out) hb); have n8_ := aM (blk_below (g := gb257) (o := .cells #[.slice Ao79 t253.length co79] 30 (0, 0)) (by (with_reducible repeat first | apply bN | apply bD | apply bA); refine blk_put (cs := #[.slice none 0 0]) ?_ 0 _ rfl; (with_reducible repeat first | apply bN | apply bD | apply bA); exact BK257.out) hb); have n9_ := aM (below_step (uL HB) hb); clear HO235; clear HO242; clear HO247; clear HO255; clear BK229; clear BK230; clear BK244; clear BK248; clear BK257; clear HB; have HO235 := n0_; have HO242 := n1_; have HO247 := n2_; have HO255 := n3_; have BK229 := n4_; have BK230 := n5_; have BK244 := n6_; have BK248 := n7_; have BK257 := n8_; have HB := n9_; clear n0_ n1_ n2_ n3_ n4_ n5_ n6_ n7_ n8_ n9_; (try clear hb); (try clear hb2); (try clear hk); (try clear hi)))
              have n0_ := aM (Kd.R_drew HO235.out)
              have n1_ := aM (Kd.R_drew HO242.out)
              have n2_ := aM (Kd.R_drew HO247.out)
              have n3_ := aM (Kd.R_drew HO255.out)
              have n4_ := aM (blk_drew BK229.out)
              have n5_ := aM (blk_drew BK230.out)
              have n6_ := aM (blk_drew BK244.out)
              have n7_ := aM (blk_drew BK248.out)
              have n8_ := aM (blk_drew BK257.out)
              have n9_ := aM (below_drew1 HB.out)
              clear HO235 HO242 HO247 HO255 BK229 BK230 BK244 BK248 BK257 HB; have HO235 := n0_; have HO242 := n1_; have HO247 := n2_; have HO255 := n3_; have BK229 := n4_; have BK230 := n5_; have BK244 := n6_; have BK248 := n7_; have BK257 := n8_; have HB := n9_; clear n0_ n1_ n2_ n3_ n4_ n5_ n6_ n7_ n8_ n9_
              refine start_ (n := 5) (S := fun w' => w'.cell? ⟨gb248, 0, none⟩ = some (.slice Ao68 t245.length co68) ∧ w'.cell? ⟨gb229, 0, none⟩ = some (.slice A0_0 l0_0.length c0_0)) (ds := []) #[false, false, false, false, false] (by kernel_rfl) rfl rfl ⟨(blk_cell BK248.out 0).trans rfl, (blk_cell BK229.out 0).trans rfl⟩ (fun hHeld => ?_)
              generalize w88.drew = w89 at HO235 HO242 HO247 HO255 BK229 BK230 BK244 BK248 BK257 HB hHeld ⊢
              refine take_ (i := 0) (N := some 52) (v := ?_) (a' := ?_) (bB 5 1) rfl rfl (by kernel_rfl) (fun _ _ _ h => h) (Or.inl ⟨by rfl, ?_⟩) hHeld ?_ ?_
              rotate_left
              ·rintro w' ⟨s0, s1⟩
               go_simp
               with_reducible rfl
              rotate_left
              ·simp only [aP, aQ, sT, sZ, sU, i64_w, i32_w]
               rfl
              refine take_ (i := 1) (N := some 53) (v := ?_) (a' := ?_) (bB 5 3) rfl rfl (by kernel_rfl) (fun _ _ _ h => h) (Or.inl ⟨by rfl, ?_⟩) hHeld ?_ ?_
              rotate_left
              ·rintro w' ⟨s0, s1⟩
               go_simp
               with_reducible rfl
              rotate_left
              ·simp only [aP, aQ, sT, sZ, sU, i64_w, i32_w]
               rfl
              refine one_ (i := 2) (N := some 54) (bB 5 7) rfl rfl (by kernel_rfl) (by decide) (fun K hK => ?_)
              refine gX Try.func17 #[.agg #[.slice A0_0 l0_0.length c0_0]] ?_
              with_reducible refine (laws_toDisk.calls k _ _ l0_0 t259 _ ?side1 ?side2 A28.out).mono ?_
              (case side1 => repeat (first | exact (Kd.C_below HR0_0.out HB.out) | (with_reducible refine cA ?_ _) | (with_reducible refine cN ?_ _) | (with_reducible refine cD ?_)))
              (case side2 => exact HC0_0.out)
              rintro e w90 ⟨v260, rfl, ho0, hb⟩
              refine ⟨_, rfl, ?_⟩
              have n0_ := aM (Kd.R_elder' (uR HO235) (Kd.R_base ho0) hb)
              have n1_ := aM (Kd.R_elder' (uR HO242) (Kd.R_base ho0) hb)
              have n2_ := aM (Kd.R_elder' (uR HO247) (Kd.R_base ho0) hb)
              have n3_ := aM (Kd.R_elder' (uR HO255) (Kd.R_base ho0) hb)
              have n4_ := aM (Kd.R_lower (Kd.R_new' (Kd.R_new' (Kd.R_new' (Kd.R_new' ho0 (Kd.R_lt (uR HO235))) (Kd.R_lt (uR HO242))) (Kd.R_lt (uR HO247))) (Kd.R_lt (uR HO255))) (below_size (uL HB)))
              have n5_ := blkB BK229 hb; have n6_ := blkB BK230 hb; have n7_ := blkB BK244 hb; have n8_ := blkB BK248 hb; have n9_ := blkB BK257 hb
              have n10_ := aM (below_step (uL HB) hb)
              clear HO235 HO242 HO247 HO255 BK229 BK230 BK244 BK248 BK257 HB; have HO235 := n0_; have HO242 := n1_; have HO247 := n2_; have HO255 := n3_; have HO261 := n4_; have BK229 := n5_; have BK230 := n6_; have BK244 := n7_; have BK248 := n8_; have BK257 := n9_; have HB := n10_; clear n0_ n1_ n2_ n3_ n4_ n5_ n6_ n7_ n8_ n9_ n10_
              (try clear hb)
              (try clear hb2)
              (try clear hk)
              (try clear hi)
              (try clear ho0)
              obtain ⟨Ao91, co91, eo91⟩ := Kd.R_slice HO261.out
              (first | subst eo91 | (injection eo91 with f1_ f2_ f3_; have f4_ := f1_.symm; have f5_ := f3_.symm; clear f1_ f2_ f3_; subst f4_; subst f5_))
              refine hK.out _ _ ⟨(blk_cell BK248.out 0).trans rfl, (blk_cell BK229.out 0).trans rfl⟩ (fun hHeld => ?_)
              clear hK K
              refine norm_ (a' := ?_) ?_ ?_
              rotate_left
              ·show Act.put _ (some 54) _ = _
               simp only [aP, aQ, sT, sZ, sU, i64_w, i32_w]
               rfl
              refine one_ (i := 3) (N := some 55) (bB 5 15) rfl rfl (by kernel_rfl) (by decide) (fun K hK => ?_)
              refine gX Try.func19 #[.agg #[.slice Ao68 t245.length co68], .agg #[.slice Ao91 t259.length co91]] ?_
              with_reducible refine (laws_eqDisk.calls k _ _ t245 _ _ t259 true _ ?side1 ?side2 ?side3 ?side4 A29.out).mono ?_
              (case side1 => repeat (first | exact (Kd.R_reads' HO247.out).2.2 | (with_reducible refine cA ?_ _) | (with_reducible refine cN ?_ _) | (with_reducible refine cD ?_)))
              (case side2 => exact (Kd.R_reads' HO247.out).2.1)
              (case side3 => repeat (first | exact (Kd.R_reads' HO261.out).2.2 | (with_reducible refine cA ?_ _) | (with_reducible refine cN ?_ _) | (with_reducible refine cD ?_)))
              (case side4 => exact (Kd.R_reads' HO261.out).2.1)
              rintro e w92 ⟨rfl, hb⟩
              refine ⟨_, rfl, ?_⟩
              have n0_ := aM (Kd.R_below (uR HO235) hb); have n1_ := aM (Kd.R_below (uR HO242) hb); have n2_ := aM (Kd.R_below (uR HO247) hb); have n3_ := aM (Kd.R_below (uR HO255) hb); have n4_ := aM (Kd.R_below (uR HO261) hb); have n5_ := blkB BK229 hb; have n6_ := blkB BK230 hb; have n7_ := blkB BK244 hb; have n8_ := blkB BK248 hb; have n9_ := blkB BK257 hb
              have n10_ := aM (below_step (uL HB) hb)
              clear HO235 HO242 HO247 HO255 HO261 BK229 BK230 BK244 BK248 BK257 HB; have HO235 := n0_; have HO242 := n1_; have HO247 := n2_; have HO255 := n3_; have HO261 := n4_; have BK229 := n5_; have BK230 := n6_; have BK244 := n7_; have BK248 := n8_; have BK257 := n9_; have HB := n10_; clear n0_ n1_ n2_ n3_ n4_ n5_ n6_ n7_ n8_ n9_ n10_
              (try clear hb)
              (try clear hb2)
              (try clear hk)
              (try clear hi)
              refine hK.out _ _ ⟨(blk_cell BK248.out 0).trans rfl, (blk_cell BK229.out 0).trans rfl⟩ (fun hHeld => ?_)
              clear hK K
              refine norm_ (a' := ?_) ?_ ?_
              rotate_left
              ·show Act.put _ (some 55) _ = _
               simp only [aP, aQ, sT, sZ, sU, i64_w, i32_w]
               rfl
              refine pX 4 56 (bB 5 31) (by kernel_rfl) ?_
              refine done_ (by kernel_rfl) ?_
              have hcz93_0 : w92.cell? ⟨gb248, 0, none⟩ = some (.slice Ao68 t245.length co68) := (blk_cell BK248.out 0).trans rfl
              have hfz93_0 := blk_frozen BK248.out 0
              try go_wp2_with (first | ((with_reducible refine gate_callee (f := 34) rfl ?_); refine gL (some 59) Try.func34 #[.agg #[.slice Ao68 t245.length co68], .int .i64 1] ?_; (with_reducible refine (laws_markDisk.calls k (fun k_ => some k_ = (.slice Ao68 t245.length co68 : Value).ownBlock) (.slice Ao68 t245.length co68) t245 1 t263 t264 w _ ?side1 ?side2 A31.out).mono ?_); (case side1 => repeat (first | (with_reducible first | exact HB.out | apply lA | apply lN | apply lD | refine lS ?_ GE229.out | refine lS ?_ GE230.out | refine lS ?_ GE244.out | refine lS ?_ GE248.out | refine lS ?_ GE257.out) | exact HB.out)); (case side2 => exact Kd.R_tight rfl HO247.out); rintro e w94 ⟨rfl, hy0, hb, hkp⟩; refine ⟨_, rfl, ?_⟩; have n0_ := aM (blk_kept (uB BK229) hkp (fun hs_ => (fun e_ => (Kd.R_ne HO247.out BK229.out (by decide)) e_) hs_)); have n1_ := aM (blk_kept (uB BK230) hkp (fun hs_ => (fun e_ => (Kd.R_ne HO247.out BK230.out (by decide)) e_) hs_)); have n2_ := aM (Kd.R_mono (ok' := fun k_ => some k_ ≠ (.slice Ao62 t240.length co62 : Value).ownBlock ∧ some k_ ≠ (.slice Ao68 t245.length co68 : Value).ownBlock ∧ some k_ ≠ (.slice Ao79 t253.length co79 : Value).ownBlock ∧ some k_ ≠ (.slice Ao91 t259.length co91 : Value).ownBlock) (Kd.R_keptB (HO235.out) hkp (fun k_ hk_ hs_ => (hk_.1.2.1) hs_)) (fun k_ hk_ => ⟨hk_.1.1.1, hk_.1.1.2.1, hk_.1.1.2.2, hk_.1.2⟩)); have n3_ := aM (Kd.R_mono (ok' := fun k_ => some k_ ≠ (v234 : Value).ownBlock ∧ some k_ ≠ (.slice Ao68 t245.length co68 : Value).ownBlock ∧ some k_ ≠ (.slice Ao79 t253.length co79 : Value).ownBlock ∧ some k_ ≠ (.slice Ao91 t259.length co91 : Value).ownBlock) (Kd.R_keptB (HO242.out) hkp (fun k_ hk_ hs_ => (hk_.1.2.1) hs_)) (fun k_ hk_ => ⟨hk_.1.1.1, hk_.1.1.2.1, hk_.1.1.2.2, hk_.1.2⟩)); have n4_ := aM (blk_kept (uB BK244) hkp (fun hs_ => (fun e_ => (Kd.R_ne HO247.out BK244.out (by decide)) e_) hs_)); have n5_ := aM (Kd.R_reok rfl hy0 (fun k_ e_ => HO247.out.1 k_ e_)); have n6_ := aM (blk_kept (uB BK248) hkp (fun hs_ => (fun e_ => (Kd.R_ne HO247.out BK248.out (by decide)) e_) hs_)); have n7_ := aM (Kd.R_mono (ok' := fun k_ => some k_ ≠ (v234 : Value).ownBlock ∧ some k_ ≠ (.slice Ao62 t240.length co62 : Value).ownBlock ∧ some k_ ≠ (.slice Ao68 t245.length co68 : Value).ownBlock ∧ some k_ ≠ (.slice Ao91 t259.length co91 : Value).ownBlock) (Kd.R_keptB (HO255.out) hkp (fun k_ hk_ hs_ => (hk_.1.2.2) hs_)) (fun k_ hk_ => ⟨hk_.1.1.1, hk_.1.1.2.1, hk_.1.1.2.2, hk_.1.2⟩)); have n8_ := aM (blk_kept (uB BK257) hkp (fun hs_ => (fun e_ => (Kd.R_ne HO247.out BK257.out (by decide)) e_) hs_)); have n9_ := aM (Kd.R_mono (ok' := fun k_ => some k_ ≠ (v234 : Value).ownBlock ∧ some k_ ≠ (.slice Ao62 t240.length co62 : Value).ownBlock ∧ some k_ ≠ (.slice Ao68 t245.length co68 : Value).ownBlock ∧ some k_ ≠ (.slice Ao79 t253.length co79 : Value).ownBlock) (Kd.R_keptB (HO261.out) hkp (fun k_ hk_ hs_ => (hk_.1.2) hs_)) (fun k_ hk_ => ⟨hk_.1.1.1.1.2, hk_.1.1.1.2, hk_.1.1.2, hk_.1.2⟩)); have n10_ := aM (hb); clear BK229; clear BK230; clear HO235; clear HO242; clear BK244; clear HO247; clear BK248; clear HO255; clear BK257; clear HO261; clear HB; have BK229 := n0_; have BK230 := n1_; have HO235 := n2_; have HO242 := n3_; have BK244 := n4_; have HO247 := n5_; have BK248 := n6_; have HO255 := n7_; have BK257 := n8_; have HO261 := n9_; have HB := n10_; clear n0_ n1_ n2_ n3_ n4_ n5_ n6_ n7_ n8_ n9_ n10_; (try clear hb); (try clear hkp); (try clear hy0); have hcz95_0 : w94.cell? ⟨gb257, 0, none⟩ = some (.slice Ao79 t253.length co79) := (blk_cell BK257.out 0).trans rfl; have hfz95_0 := blk_frozen BK257.out 0; have hcz96_0 : w94.cell? ⟨gb244, 0, none⟩ = some (.slice Ao62 t240.length co62) := (blk_cell BK244.out 0).trans rfl; have hfz96_0 := blk_frozen BK244.out 0) | (go_at_call 19; (with_reducible refine (laws_eqDisk.calls k _ _ t253 _ _ t240 true _ ?side1 ?side2 ?side3 ?side4 A33.out).mono ?_); (case side1 => repeat (first | exact (Kd.R_reads' HO255.out).2.2 | (with_reducible refine cA ?_ _) | (with_reducible refine cN ?_ _) | (with_reducible refine cD ?_))); (case side2 => exact (Kd.R_reads' HO255.out).2.1); (case side3 => repeat (first | exact (Kd.R_reads' HO242.out).2.2 | (with_reducible refine cA ?_ _) | (with_reducible refine cN ?_ _) | (with_reducible refine cD ?_))); (case side4 => exact (Kd.R_reads' HO242.out).2.1); rintro e w97 ⟨rfl, hb⟩; have n0_ := aM (Kd.R_below (uR HO235) hb); have n1_ := aM (Kd.R_below (uR HO242) hb); have n2_ := aM (Kd.R_below (uR HO247) hb); have n3_ := aM (Kd.R_below (uR HO255) hb); have n4_ := aM (Kd.R_below (uR HO261) hb); have n5_ := blkB BK229 hb; have n6_ := blkB BK230 hb; have n7_ := blkB BK244 hb; have n8_ := blkB BK248 hb; have n9_ := blkB BK257 hb; have n10_ := aM (below_step (uL HB) hb); clear HO235; clear HO242; clear HO247; clear HO255; clear HO261; clear BK229; clear BK230; clear BK244; clear BK248; clear BK257; clear HB; have HO235 := n0_; have HO242 := n1_; have HO247 := n2_; have HO255 := n3_; have HO261 := n4_; have BK229 := n5_; have BK230 := n6_; have BK244 := n7_; have BK248 := n8_; have BK257 := n9_; have HB := n10_; clear n0_ n1_ n2_ n3_ n4_ n5_ n6_ n7_ n8_ n9_ n10_; (try clear hb); (try clear hb2); (try clear hk); (try clear hi); have hcz98_0 : w97.cell? ⟨gb257, 0, none⟩ = some (.slice Ao79 t253.length co79) := (blk_cell BK257.out 0).trans rfl; have hfz98_0 := blk_frozen BK257.out 0) | ((with_reducible refine gate_callee (f := 34) rfl ?_); refine gL (some 75) Try.func34 #[.agg #[.slice Ao79 t253.length co79], .int .i64 1] ?_; (with_reducible refine (laws_markDisk.calls k (fun k_ => some k_ = (.slice Ao79 t253.length co79 : Value).ownBlock) (.slice Ao79 t253.length co79) t253 1 t266 t267 w _ ?side1 ?side2 A35.out).mono ?_); (case side1 => repeat (first | (with_reducible first | exact HB.out | apply lA | apply lN | apply lD | refine lS ?_ GE229.out | refine lS ?_ GE230.out | refine lS ?_ GE244.out | refine lS ?_ GE248.out | refine lS ?_ GE257.out) | exact HB.out)); (case side2 => exact Kd.R_tight rfl HO255.out); rintro e w99 ⟨rfl, hy0, hb, hkp⟩; refine ⟨_, rfl, ?_⟩; have n0_ := aM (blk_kept (uB BK229) hkp (fun hs_ => (fun e_ => (Kd.R_ne HO255.out BK229.out (by decide)) e_) hs_)); have n1_ := aM (blk_kept (uB BK230) hkp (fun hs_ => (fun e_ => (Kd.R_ne HO255.out BK230.out (by decide)) e_) hs_)); have n2_ := aM (Kd.R_mono (ok' := fun k_ => some k_ ≠ (.slice Ao62 t240.length co62 : Value).ownBlock ∧ some k_ ≠ (.slice Ao68 t245.length co68 : Value).ownBlock ∧ some k_ ≠ (.slice Ao79 t253.length co79 : Value).ownBlock ∧ some k_ ≠ (.slice Ao91 t259.length co91 : Value).ownBlock) (Kd.R_keptB (HO235.out) hkp (fun k_ hk_ hs_ => (hk_.2.2.1) hs_)) (fun k_ hk_ => ⟨hk_.1.1, hk_.1.2.1, hk_.1.2.2.1, hk_.1.2.2.2⟩)); have n3_ := aM (Kd.R_mono (ok' := fun k_ => some k_ ≠ (v234 : Value).ownBlock ∧ some k_ ≠ (.slice Ao68 t245.length co68 : Value).ownBlock ∧ some k_ ≠ (.slice Ao79 t253.length co79 : Value).ownBlock ∧ some k_ ≠ (.slice Ao91 t259.length co91 : Value).ownBlock) (Kd.R_keptB (HO242.out) hkp (fun k_ hk_ hs_ => (hk_.2.2.1) hs_)) (fun k_ hk_ => ⟨hk_.1.1, hk_.1.2.1, hk_.1.2.2.1, hk_.1.2.2.2⟩)); have n4_ := aM (blk_kept (uB BK244) hkp (fun hs_ => (fun e_ => (Kd.R_ne HO255.out BK244.out (by decide)) e_) hs_)); have n5_ := aM (Kd.R_mono (ok' := fun k_ => some k_ ≠ (v234 : Value).ownBlock ∧ some k_ ≠ (.slice Ao62 t240.length co62 : Value).ownBlock ∧ some k_ ≠ (.slice Ao79 t253.length co79 : Value).ownBlock ∧ some k_ ≠ (.slice Ao91 t259.length co91 : Value).ownBlock) (Kd.R_keptB (HO247.out) hkp (fun k_ hk_ hs_ => (hk_.1.2.2) hs_)) (fun k_ hk_ => ⟨hk_.1.1.1, hk_.1.1.2.1, hk_.1.1.2.2, hk_.1.2⟩)); have n6_ := aM (blk_kept (uB BK248) hkp (fun hs_ => (fun e_ => (Kd.R_ne HO255.out BK248.out (by decide)) e_) hs_)); have n7_ := aM (Kd.R_reok rfl hy0 (fun k_ e_ => HO255.out.1 k_ e_)); have n8_ := aM (blk_kept (uB BK257) hkp (fun hs_ => (fun e_ => (Kd.R_ne HO255.out BK257.out (by decide)) e_) hs_)); have n9_ := aM (Kd.R_mono (ok' := fun k_ => some k_ ≠ (v234 : Value).ownBlock ∧ some k_ ≠ (.slice Ao62 t240.length co62 : Value).ownBlock ∧ some k_ ≠ (.slice Ao68 t245.length co68 : Value).ownBlock ∧ some k_ ≠ (.slice Ao79 t253.length co79 : Value).ownBlock) (Kd.R_keptB (HO261.out) hkp (fun k_ hk_ hs_ => (hk_.2.2.2) hs_)) (fun k_ hk_ => ⟨hk_.1.1, hk_.1.2.1, hk_.1.2.2.1, hk_.1.2.2.2⟩)); have n10_ := aM (hb); clear BK229; clear BK230; clear HO235; clear HO242; clear BK244; clear HO247; clear BK248; clear HO255; clear BK257; clear HO261; clear HB; have BK229 := n0_; have BK230 := n1_; have HO235 := n2_; have HO242 := n3_; have BK244 := n4_; have HO247 := n5_; have BK248 := n6_; have HO255 := n7_; have BK257 := n8_; have HO261 := n9_; have HB := n10_; clear n0_ n1_ n2_ n3_ n4_ n5_ n6_ n7_ n8_ n9_ n10_; (try clear hb); (try clear hkp); (try clear hy0); have hcz100_0 : w99.cell? ⟨gb257, 0, none⟩ = some (.slice Ao79 t253.length co79) := (blk_cell BK257.out 0).trans rfl; have hfz100_0 := blk_frozen BK257.out 0) | ((with_reducible refine gate_callee (f := 36) rfl ?_); refine goesL_ (some 78) rfl rfl Try.func36 (by kernel_rfl) rfl #[.agg #[.slice Ao79 t267.length co79], .int .i64 1] rfl (by (try simp only [List.map_toArray, List.map_cons, List.map_nil]); first | done | (rw [show t267.length = t253.length from (Kd.R_reads' HO255.out).1.symm] <;> rfl) | rfl | (simp only [List.length_drop, List.length_take]; rfl)) ?_; (with_reducible refine (laws_heldDisk.calls k _ _ t267 1 t268 _ ?side1 ?side2 A36.out).mono ?_); (case side1 => repeat (first | exact (Kd.R_reads' HO255.out).2.2 | (with_reducible refine cA ?_ _) | (with_reducible refine cN ?_ _) | (with_reducible refine cD ?_))); (case side2 => rw [show t267.length = t253.length from (Kd.R_reads' HO255.out).1.symm]; exact (Kd.R_reads' HO255.out).2.1); rintro e w101 ⟨rfl, hb⟩; refine ⟨_, rfl, ?_⟩; have n0_ := aM (Kd.R_below (uR HO235) hb); have n1_ := aM (Kd.R_below (uR HO242) hb); have n2_ := aM (Kd.R_below (uR HO247) hb); have n3_ := aM (Kd.R_below (uR HO255) hb); have n4_ := aM (Kd.R_below (uR HO261) hb); have n5_ := blkB BK229 hb; have n6_ := blkB BK230 hb; have n7_ := blkB BK244 hb; have n8_ := blkB BK248 hb; have n9_ := blkB BK257 hb; have n10_ := aM (below_step (uL HB) hb); clear HO235; clear HO242; clear HO247; clear HO255; clear HO261; clear BK229; clear BK230; clear BK244; clear BK248; clear BK257; clear HB; have HO235 := n0_; have HO242 := n1_; have HO247 := n2_; have HO255 := n3_; have HO261 := n4_; have BK229 := n5_; have BK230 := n6_; have BK244 := n7_; have BK248 := n8_; have BK257 := n9_; have HB := n10_; clear n0_ n1_ n2_ n3_ n4_ n5_ n6_ n7_ n8_ n9_ n10_; (try clear hb); (try clear hb2); (try clear hk); (try clear hi)))
              have n0_ := aM (Kd.R_drew HO235.out)
              have n1_ := aM (Kd.R_drew HO242.out)
              have n2_ := aM (Kd.R_drew HO247.out)
              have n3_ := aM (Kd.R_drew HO255.out)
              have n4_ := aM (Kd.R_drew HO261.out)
              have n5_ := aM (blk_drew BK229.out)
              have n6_ := aM (blk_drew BK230.out)
              have n7_ := aM (blk_drew BK244.out)
              have n8_ := aM (blk_drew BK248.out)
              have n9_ := aM (blk_drew BK257.out)
              have n10_ := aM (below_drew1 HB.out)
              clear HO235 HO242 HO247 HO255 HO261 BK229 BK230 BK244 BK248 BK257 HB; have HO235 := n0_; have HO242 := n1_; have HO247 := n2_; have HO255 := n3_; have HO261 := n4_; have BK229 := n5_; have BK230 := n6_; have BK244 := n7_; have BK248 := n8_; have BK257 := n9_; have HB := n10_; clear n0_ n1_ n2_ n3_ n4_ n5_ n6_ n7_ n8_ n9_ n10_
              refine start_ (n := 11) (S := fun w' => w'.cell? ⟨gb229, 0, none⟩ = some (.slice A0_0 l0_0.length c0_0) ∧ w'.cell? ⟨gb230, 0, none⟩ = some (.int .i64 a1_0) ∧ w'.cell? ⟨gb230, 1, none⟩ = some (.string a1_1) ∧ w'.cell? ⟨gb230, 2, none⟩ = some (.string a1_2) ∧ w'.cell? ⟨gb230, 3, none⟩ = some (.string a1_3)) (ds := []) #[false, false, false, false, false, false, false, false, false, false, false] (by kernel_rfl) rfl rfl ⟨(blk_cell BK229.out 0).trans rfl, (blk_cell BK230.out 0).trans rfl, (blk_cell BK230.out 1).trans rfl, (blk_cell BK230.out 2).trans rfl, (blk_cell BK230.out 3).trans rfl⟩ (fun hHeld => ?_); refine with_tabW laws_FnExactDoAct.tab27 laws_FnExactDoAct.bits27 (fun HT_ HW_ => ?_)
              generalize w101.drew = w102 at HO235 HO242 HO247 HO255 HO261 BK229 BK230 BK244 BK248 BK257 HB hHeld ⊢
              refine take_ (i := 0) (N := some 85) (v := ?_) (a' := ?_) (bB 11 1) rfl rfl (take_ofW HT_.out HW_.out (by kernel_rfl)) (fun _ _ _ h => h) (Or.inl ⟨by rfl, ?_⟩) hHeld ?_ ?_
              rotate_left
              ·rintro w' ⟨s0, s1, s2, s3, s4⟩
               go_simp
               with_reducible rfl
              rotate_left
              ·simp only [aP, aQ, sT, sZ, sU, i64_w, i32_w]
               rfl
              refine take_ (i := 2) (N := some 87) (v := ?_) (a' := ?_) (bB 11 5) rfl rfl (take_ofW HT_.out HW_.out (by kernel_rfl)) (fun _ _ _ h => h) (Or.inl ⟨by rfl, ?_⟩) hHeld ?_ ?_
              rotate_left
              ·rintro w' ⟨s0, s1, s2, s3, s4⟩
               go_simp
               with_reducible rfl
              rotate_left
              ·simp only [aP, aQ, sT, sZ, sU, i64_w, i32_w]
               rfl
              refine join_ (σ := Value × Value × Nat) 2 #[true, true, true, true, true, true, true, true, true, false, false] (fun s_ => [(86, .agg #[s_.1]), (88, .agg #[.int .i64 t272, .string t273, .string t274, .string t275]), (89, .tuple #[.agg #[s_.2.1], .bool t279]), (14, .pointer (some ⟨s_.2.2, 0, none⟩)), (84, .tuple #[.agg #[s_.2.1], .bool t279]), (90, .agg #[s_.2.1]), (91, .bool t279)]) (fun s_ w' => (w'.cell? ⟨gb229, 0, none⟩ = some (.slice A0_0 l0_0.length c0_0) ∧ w'.cell? ⟨gb230, 0, none⟩ = some (.int .i64 a1_0) ∧ w'.cell? ⟨gb230, 1, none⟩ = some (.string a1_1) ∧ w'.cell? ⟨gb230, 2, none⟩ = some (.string a1_2) ∧ w'.cell? ⟨gb230, 3, none⟩ = some (.string a1_3)) ∧ (Kd.R k45 45 w' w.heap.size (fun k_ => some k_ ≠ (.slice Ao62 t240.length co62 : Value).ownBlock ∧ some k_ ≠ (.slice Ao68 t245.length co68 : Value).ownBlock ∧ some k_ ≠ (.slice Ao79 t253.length co79 : Value).ownBlock ∧ some k_ ≠ (.slice Ao91 t259.length co91 : Value).ownBlock ∧ some k_ ≠ (s_.1 : Value).ownBlock ∧ some k_ ≠ (s_.2.1 : Value).ownBlock) v234 t233) ∧ (Kd.R k45 45 w' w.heap.size (fun k_ => some k_ ≠ (v234 : Value).ownBlock ∧ some k_ ≠ (.slice Ao68 t245.length co68 : Value).ownBlock ∧ some k_ ≠ (.slice Ao79 t253.length co79 : Value).ownBlock ∧ some k_ ≠ (.slice Ao91 t259.length co91 : Value).ownBlock ∧ some k_ ≠ (s_.1 : Value).ownBlock ∧ some k_ ≠ (s_.2.1 : Value).ownBlock) (.slice Ao62 t240.length co62) t240) ∧ (Kd.R k45 45 w' w.heap.size (fun k_ => some k_ ≠ (v234 : Value).ownBlock ∧ some k_ ≠ (.slice Ao62 t240.length co62 : Value).ownBlock ∧ some k_ ≠ (.slice Ao79 t253.length co79 : Value).ownBlock ∧ some k_ ≠ (.slice Ao91 t259.length co91 : Value).ownBlock ∧ some k_ ≠ (s_.1 : Value).ownBlock ∧ some k_ ≠ (s_.2.1 : Value).ownBlock) (.slice Ao68 t245.length co68) t264) ∧ (Kd.R k45 45 w' w.heap.size (fun k_ => some k_ ≠ (v234 : Value).ownBlock ∧ some k_ ≠ (.slice Ao62 t240.length co62 : Value).ownBlock ∧ some k_ ≠ (.slice Ao68 t245.length co68 : Value).ownBlock ∧ some k_ ≠ (.slice Ao91 t259.length co91 : Value).ownBlock ∧ some k_ ≠ (s_.1 : Value).ownBlock ∧ some k_ ≠ (s_.2.1 : Value).ownBlock) (.slice Ao79 t253.length co79) t267) ∧ (Kd.R k45 45 w' w.heap.size (fun k_ => some k_ ≠ (v234 : Value).ownBlock ∧ some k_ ≠ (.slice Ao62 t240.length co62 : Value).ownBlock ∧ some k_ ≠ (.slice Ao68 t245.length co68 : Value).ownBlock ∧ some k_ ≠ (.slice Ao79 t253.length co79 : Value).ownBlock ∧ some k_ ≠ (s_.1 : Value).ownBlock ∧ some k_ ≠ (s_.2.1 : Value).ownBlock) (.slice Ao91 t259.length co91) t259) ∧ (Kd.R k45 45 w' w.heap.size (fun k_ => some k_ ≠ (v234 : Value).ownBlock ∧ some k_ ≠ (.slice Ao62 t240.length co62 : Value).ownBlock ∧ some k_ ≠ (.slice Ao68 t245.length co68 : Value).ownBlock ∧ some k_ ≠ (.slice Ao79 t253.length co79 : Value).ownBlock ∧ some k_ ≠ (.slice Ao91 t259.length co91 : Value).ownBlock ∧ some k_ ≠ (s_.2.1 : Value).ownBlock) s_.1 t269) ∧ (Kd.R k45 45 w' w.heap.size (fun k_ => some k_ ≠ (v234 : Value).ownBlock ∧ some k_ ≠ (.slice Ao62 t240.length co62 : Value).ownBlock ∧ some k_ ≠ (.slice Ao68 t245.length co68 : Value).ownBlock ∧ some k_ ≠ (.slice Ao79 t253.length co79 : Value).ownBlock ∧ some k_ ≠ (.slice Ao91 t259.length co91 : Value).ownBlock ∧ some k_ ≠ (s_.1 : Value).ownBlock) s_.2.1 t276) ∧ (w'.heap[gb229]? = some (.cells #[.slice A0_0 l0_0.length c0_0] 24 (0, 0))) ∧ (w'.heap[gb230]? = some (.cells #[.int .i64 a1_0, .string a1_1, .string a1_2, .string a1_3] 52 (0, 0))) ∧ (w'.heap[gb244]? = some (.cells #[.slice Ao62 t240.length co62] 30 (0, 0))) ∧ (w'.heap[gb248]? = some (.cells #[.slice Ao68 t245.length co68] 30 (0, 0))) ∧ (w'.heap[gb257]? = some (.cells #[.slice Ao79 t253.length co79] 30 (0, 0))) ∧ (w'.heap[s_.2.2]? = some (.cells #[.slice none 0 0] 30 (0, 0))) ∧ (w.heap.size ≤ s_.2.2) ∧ (w.heap.size ≤ s_.2.2) ∧ (gb229 ≠ s_.2.2) ∧ (s_.2.2 ≠ gb229) ∧ (gb230 ≠ s_.2.2) ∧ (s_.2.2 ≠ gb230) ∧ (gb244 ≠ s_.2.2) ∧ (s_.2.2 ≠ gb244) ∧ (gb248 ≠ s_.2.2) ∧ (s_.2.2 ≠ gb248) ∧ (gb257 ≠ s_.2.2) ∧ (s_.2.2 ≠ gb257) ∧ (Below w.heap.size w w')) ?_ ?_
              rotate_left
              ·intro hCont
               refine two_ (i := 1) (j := 8) (Ni := some 86) (Nj := some 14) #[true, true, true, false, false, false, false, false, false, false, false] #[true, false, true, false, false, false, false, false, true, false, false] rfl rfl rfl rfl (two_of HT_.out (by kernel_rfl)) (by decide) (by decide) (fun K hK => ?_) (fun K hK => ?_)
               ·skip
                refine gX Try.func17 #[.agg #[.slice A0_0 l0_0.length c0_0]] ?_
                with_reducible refine (laws_toDisk.calls k _ _ l0_0 t269 _ ?side1 ?side2 A39.out).mono ?_
                (case side1 => repeat (first | exact (Kd.C_below HR0_0.out HB.out) | (with_reducible refine cA ?_ _) | (with_reducible refine cN ?_ _) | (with_reducible refine cD ?_)))
                (case side2 => exact HC0_0.out)
                rintro e w103 ⟨v270, rfl, ho0, hb⟩
                refine ⟨_, rfl, ?_⟩
                have n0_ := aM (Kd.R_elder' (uR HO235) (Kd.R_base ho0) hb)
                have n1_ := aM (Kd.R_elder' (uR HO242) (Kd.R_base ho0) hb)
                have n2_ := aM (Kd.R_elder' (uR HO247) (Kd.R_base ho0) hb)
                have n3_ := aM (Kd.R_elder' (uR HO255) (Kd.R_base ho0) hb)
                have n4_ := aM (Kd.R_elder' (uR HO261) (Kd.R_base ho0) hb)
                have n5_ := aM (Kd.R_lower (Kd.R_new' (Kd.R_new' (Kd.R_new' (Kd.R_new' (Kd.R_new' ho0 (Kd.R_lt (uR HO235))) (Kd.R_lt (uR HO242))) (Kd.R_lt (uR HO247))) (Kd.R_lt (uR HO255))) (Kd.R_lt (uR HO261))) (below_size (uL HB)))
                have n6_ := blkB BK229 hb; have n7_ := blkB BK230 hb; have n8_ := blkB BK244 hb; have n9_ := blkB BK248 hb; have n10_ := blkB BK257 hb
                have n11_ := aM (below_step (uL HB) hb)
                clear HO235 HO242 HO247 HO255 HO261 BK229 BK230 BK244 BK248 BK257 HB; have HO235 := n0_; have HO242 := n1_; have HO247 := n2_; have HO255 := n3_; have HO261 := n4_; have HO271 := n5_; have BK229 := n6_; have BK230 := n7_; have BK244 := n8_; have BK248 := n9_; have BK257 := n10_; have HB := n11_; clear n0_ n1_ n2_ n3_ n4_ n5_ n6_ n7_ n8_ n9_ n10_ n11_
                (try clear hb)
                (try clear hb2)
                (try clear hk)
                (try clear hi)
                (try clear ho0)
                refine hK.out _ _ ⟨(blk_cell BK229.out 0).trans rfl, (blk_cell BK230.out 0).trans rfl, (blk_cell BK230.out 1).trans rfl, (blk_cell BK230.out 2).trans rfl, (blk_cell BK230.out 3).trans rfl⟩ (fun hHeld => ?_)
                clear hK K
                refine norm_ (a' := ?_) ?_ ?_
                rotate_left
                ·show Act.put _ (some 86) _ = _
                 simp only [aP, aQ, sT, sZ, sU, i64_w, i32_w]
                 rfl
                refine two_ (i := 3) (j := 8) (Ni := some 88) (Nj := some 14) #[true, true, true, true, false, false, false, false, false, false, false] #[true, true, true, false, false, false, false, false, true, false, false] rfl rfl rfl rfl (two_of HT_.out (by kernel_rfl)) (by decide) (by decide) (fun K hK => ?_) (fun K hK => ?_)
                ·skip
                 refine gX Try.func39 #[.agg #[.int .i64 a1_0, .string a1_1, .string a1_2, .string a1_3]] ?_
                 with_reducible refine (laws_toAct.calls a1_0 a1_1 a1_2 a1_3 t272 t273 t274 t275 _ A40.out).mono ?_
                 rintro e w104 ⟨rfl, hb⟩
                 refine ⟨_, rfl, ?_⟩
                 have n0_ := aM (Kd.R_below (uR HO235) hb); have n1_ := aM (Kd.R_below (uR HO242) hb); have n2_ := aM (Kd.R_below (uR HO247) hb); have n3_ := aM (Kd.R_below (uR HO255) hb); have n4_ := aM (Kd.R_below (uR HO261) hb); have n5_ := aM (Kd.R_below (uR HO271) hb); have n6_ := blkB BK229 hb; have n7_ := blkB BK230 hb; have n8_ := blkB BK244 hb; have n9_ := blkB BK248 hb; have n10_ := blkB BK257 hb
                 have n11_ := aM (below_step (uL HB) hb)
                 clear HO235 HO242 HO247 HO255 HO261 HO271 BK229 BK230 BK244 BK248 BK257 HB; have HO235 := n0_; have HO242 := n1_; have HO247 := n2_; have HO255 := n3_; have HO261 := n4_; have HO271 := n5_; have BK229 := n6_; have BK230 := n7_; have BK244 := n8_; have BK248 := n9_; have BK257 := n10_; have HB := n11_; clear n0_ n1_ n2_ n3_ n4_ n5_ n6_ n7_ n8_ n9_ n10_ n11_
                 (try clear hb)
                 (try clear hb2)
                 (try clear hk)
                 (try clear hi)
                 obtain ⟨Ao105, co105, eo105⟩ := Kd.R_slice HO271.out
                 (first | subst eo105 | (injection eo105 with f1_ f2_ f3_; have f4_ := f1_.symm; have f5_ := f3_.symm; clear f1_ f2_ f3_; subst f4_; subst f5_))
                 refine hK.out _ _ ⟨(blk_cell BK229.out 0).trans rfl, (blk_cell BK230.out 0).trans rfl, (blk_cell BK230.out 1).trans rfl, (blk_cell BK230.out 2).trans rfl, (blk_cell BK230.out 3).trans rfl⟩ (fun hHeld => ?_)
                 clear hK K
                 refine norm_ (a' := ?_) ?_ ?_
                 rotate_left
                 ·show Act.put _ (some 88) _ = _
                  simp only [aP, aQ, sT, sZ, sU, i64_w, i32_w]
                  rfl
                 refine two_ (i := 4) (j := 8) (Ni := some 89) (Nj := some 14) #[true, true, true, true, true, false, false, false, false, false, false] #[true, true, true, true, false, false, false, false, true, false, false] rfl rfl rfl rfl (two_of HT_.out (by kernel_rfl)) (by decide) (by decide) (fun K hK => ?_) (fun K hK => ?_)
                 ·skip
                  refine gX Try.func40 #[.agg #[.slice Ao105 t269.length co105], .agg #[.int .i64 t272, .string t273, .string t274, .string t275]] ?_
                  with_reducible refine (impl_DoAct.calls k _ _ t269 t272 t273 t274 t275 t276 t279 _ ?side1 ?side2 A41.out).mono ?_
                  (case side1 => repeat (first | exact (Kd.R_reads' HO271.out).2.2 | (with_reducible refine cA ?_ _) | (with_reducible refine cN ?_ _) | (with_reducible refine cD ?_)))
                  (case side2 => exact (Kd.R_reads' HO271.out).2.1)
                  rintro e w106 ⟨v277, rfl, ho0, hb⟩
                  refine ⟨_, rfl, ?_⟩
                  have n0_ := aM (Kd.R_elder' (uR HO235) (Kd.R_base ho0) hb)
                  have n1_ := aM (Kd.R_elder' (uR HO242) (Kd.R_base ho0) hb)
                  have n2_ := aM (Kd.R_elder' (uR HO247) (Kd.R_base ho0) hb)
                  have n3_ := aM (Kd.R_elder' (uR HO255) (Kd.R_base ho0) hb)
                  have n4_ := aM (Kd.R_elder' (uR HO261) (Kd.R_base ho0) hb)
                  have n5_ := aM (Kd.R_elder' (uR HO271) (Kd.R_base ho0) hb)
                  have n6_ := aM (Kd.R_lower (Kd.R_new' (Kd.R_new' (Kd.R_new' (Kd.R_new' (Kd.R_new' (Kd.R_new' ho0 (Kd.R_lt (uR HO235))) (Kd.R_lt (uR HO242))) (Kd.R_lt (uR HO247))) (Kd.R_lt (uR HO255))) (Kd.R_lt (uR HO261))) (Kd.R_lt (uR HO271))) (below_size (uL HB)))
                  have n7_ := blkB BK229 hb; have n8_ := blkB BK230 hb; have n9_ := blkB BK244 hb; have n10_ := blkB BK248 hb; have n11_ := blkB BK257 hb
                  have n12_ := aM (below_step (uL HB) hb)
                  clear HO235 HO242 HO247 HO255 HO261 HO271 BK229 BK230 BK244 BK248 BK257 HB; have HO235 := n0_; have HO242 := n1_; have HO247 := n2_; have HO255 := n3_; have HO261 := n4_; have HO271 := n5_; have HO278 := n6_; have BK229 := n7_; have BK230 := n8_; have BK244 := n9_; have BK248 := n10_; have BK257 := n11_; have HB := n12_; clear n0_ n1_ n2_ n3_ n4_ n5_ n6_ n7_ n8_ n9_ n10_ n11_ n12_
                  (try clear hb)
                  (try clear hb2)
                  (try clear hk)
                  (try clear hi)
                  (try clear ho0)
                  refine hK.out _ _ ⟨(blk_cell BK229.out 0).trans rfl, (blk_cell BK230.out 0).trans rfl, (blk_cell BK230.out 1).trans rfl, (blk_cell BK230.out 2).trans rfl, (blk_cell BK230.out 3).trans rfl⟩ (fun hHeld => ?_)
                  clear hK K
                  refine norm_ (a' := ?_) ?_ ?_
                  rotate_left
                  ·show Act.put _ (some 89) _ = _
                   simp only [aP, aQ, sT, sZ, sU, i64_w, i32_w]
                   rfl
                  refine pX 5 84 (bB 11 63) (any_of HT_.out (by kernel_rfl)) ?_
                  refine pX 6 90 (bB 11 127) (any_of HT_.out (by kernel_rfl)) ?_
                  refine pX 7 91 (bB 11 255) (any_of HT_.out (by kernel_rfl)) ?_
                  refine one_ (i := 8) (N := some 14) (bB 11 511) rfl rfl (one_of HT_.out (by kernel_rfl)) (by decide) (fun K hK => ?_)
                  refine bxS 14 #[.slice none 0 0] 30 ?_
                  intro gb280 hg w107 hbox hb
                  have n0_ := aM (Kd.R_below (uR HO235) hb); have n1_ := aM (Kd.R_below (uR HO242) hb); have n2_ := aM (Kd.R_below (uR HO247) hb); have n3_ := aM (Kd.R_below (uR HO255) hb); have n4_ := aM (Kd.R_below (uR HO261) hb); have n5_ := aM (Kd.R_below (uR HO271) hb); have n6_ := aM (Kd.R_below (uR HO278) hb); have n7_ := blkB BK229 hb; have n8_ := blkB BK230 hb; have n9_ := blkB BK244 hb; have n10_ := blkB BK248 hb; have n11_ := blkB BK257 hb
                  have n12_ := aM (below_step (uL HB) hb)
                  have n13_ := aM (hbox)
                  have n14_ := szG hg (uL HB); have n15_ := szG hg (uL HB); have n16_ := neL hg BK229; have n17_ := neG hg BK229; have n18_ := neL hg BK230; have n19_ := neG hg BK230; have n20_ := neL hg BK244; have n21_ := neG hg BK244; have n22_ := neL hg BK248; have n23_ := neG hg BK248; have n24_ := neL hg BK257; have n25_ := neG hg BK257; clear HO235 HO242 HO247 HO255 HO261 HO271 HO278 BK229 BK230 BK244 BK248 BK257 HB; have HO235 := n0_; have HO242 := n1_; have HO247 := n2_; have HO255 := n3_; have HO261 := n4_; have HO271 := n5_; have HO278 := n6_; have BK229 := n7_; have BK230 := n8_; have BK244 := n9_; have BK248 := n10_; have BK257 := n11_; have HB := n12_; have BK280 := n13_; have GW280 := n14_; have GE280 := n15_; have NB229_280 := n16_; have NB280_229 := n17_; have NB230_280 := n18_; have NB280_230 := n19_; have NB244_280 := n20_; have NB280_244 := n21_; have NB248_280 := n22_; have NB280_248 := n23_; have NB257_280 := n24_; have NB280_257 := n25_; clear n0_ n1_ n2_ n3_ n4_ n5_ n6_ n7_ n8_ n9_ n10_ n11_ n12_ n13_ n14_ n15_ n16_ n17_ n18_ n19_ n20_ n21_ n22_ n23_ n24_ n25_ hb hbox hg
                  refine hK.out _ _ ⟨(blk_cell BK229.out 0).trans rfl, (blk_cell BK230.out 0).trans rfl, (blk_cell BK230.out 1).trans rfl, (blk_cell BK230.out 2).trans rfl, (blk_cell BK230.out 3).trans rfl⟩ (fun hHeld => ?_)
                  clear hK K
                  refine norm_ (a' := ?_) ?_ ?_
                  rotate_left
                  ·show Act.put _ (some 14) _ = _
                   simp only [aP, aQ, sT, sZ, sU, i64_w, i32_w]
                   rfl
                  exact norm_ (by simp only [putAll, Act.put, List.setIfInBounds_toArray, List.set_cons_zero, List.set_cons_succ]) (hCont (.slice Ao105 t269.length co105, v277, gb280) _ ⟨hHeld, (by (with_reducible repeat first | apply rA | apply rN | apply rD); exact Kd.R_mono HO235.out (fun _ hk => ⟨hk.1.1.1, ⟨hk.1.1.2.1, ⟨hk.1.1.2.2.1, ⟨hk.1.1.2.2.2, ⟨hk.1.2, hk.2⟩⟩⟩⟩⟩)), (by (with_reducible repeat first | apply rA | apply rN | apply rD); exact Kd.R_mono HO242.out (fun _ hk => ⟨hk.1.1.1, ⟨hk.1.1.2.1, ⟨hk.1.1.2.2.1, ⟨hk.1.1.2.2.2, ⟨hk.1.2, hk.2⟩⟩⟩⟩⟩)), (by (with_reducible repeat first | apply rA | apply rN | apply rD); exact Kd.R_mono HO247.out (fun _ hk => ⟨hk.1.1.1, ⟨hk.1.1.2.1, ⟨hk.1.1.2.2.1, ⟨hk.1.1.2.2.2, ⟨hk.1.2, hk.2⟩⟩⟩⟩⟩)), (by (with_reducible repeat first | apply rA | apply rN | apply rD); exact Kd.R_mono HO255.out (fun _ hk => ⟨hk.1.1.1, ⟨hk.1.1.2.1, ⟨hk.1.1.2.2.1, ⟨hk.1.1.2.2.2, ⟨hk.1.2, hk.2⟩⟩⟩⟩⟩)), (by (with_reducible repeat first | apply rA | apply rN | apply rD); exact Kd.R_mono HO261.out (fun _ hk => ⟨hk.1.1.1, ⟨hk.1.1.2.1, ⟨hk.1.1.2.2.1, ⟨hk.1.1.2.2.2, ⟨hk.1.2, hk.2⟩⟩⟩⟩⟩)), (by (with_reducible repeat first | apply rA | apply rN | apply rD); exact Kd.R_mono HO271.out (fun _ hk => ⟨hk.1.1.1.1.1.2, ⟨hk.1.1.1.1.2, ⟨hk.1.1.1.2, ⟨hk.1.1.2, ⟨hk.1.2, hk.2⟩⟩⟩⟩⟩)), (by (with_reducible repeat first | apply rA | apply rN | apply rD); exact Kd.R_mono HO278.out (fun _ hk => ⟨hk.1.1.1.1.1.2, ⟨hk.1.1.1.1.2, ⟨hk.1.1.1.2, ⟨hk.1.1.2, ⟨hk.1.2, hk.2⟩⟩⟩⟩⟩)), (uB BK229), (uB BK230), (uB BK244), (uB BK248), (uB BK257), (uB BK280), GW280.out, GE280.out, NB229_280.out, NB280_229.out, NB230_280.out, NB280_230.out, NB244_280.out, NB280_244.out, NB248_280.out, NB280_248.out, NB257_280.out, NB280_257.out, (uL HB)⟩)
                 ·skip
                  refine bxS 14 #[.slice none 0 0] 30 ?_
                  intro gb280 hg w105 hbox hb
                  have n0_ := aM (Kd.R_below (uR HO235) hb); have n1_ := aM (Kd.R_below (uR HO242) hb); have n2_ := aM (Kd.R_below (uR HO247) hb); have n3_ := aM (Kd.R_below (uR HO255) hb); have n4_ := aM (Kd.R_below (uR HO261) hb); have n5_ := aM (Kd.R_below (uR HO271) hb); have n6_ := blkB BK229 hb; have n7_ := blkB BK230 hb; have n8_ := blkB BK244 hb; have n9_ := blkB BK248 hb; have n10_ := blkB BK257 hb
                  have n11_ := aM (below_step (uL HB) hb)
                  have n12_ := aM (hbox)
                  have n13_ := szG hg (uL HB); have n14_ := szG hg (uL HB); have n15_ := neL hg BK229; have n16_ := neG hg BK229; have n17_ := neL hg BK230; have n18_ := neG hg BK230; have n19_ := neL hg BK244; have n20_ := neG hg BK244; have n21_ := neL hg BK248; have n22_ := neG hg BK248; have n23_ := neL hg BK257; have n24_ := neG hg BK257; clear HO235 HO242 HO247 HO255 HO261 HO271 BK229 BK230 BK244 BK248 BK257 HB; have HO235 := n0_; have HO242 := n1_; have HO247 := n2_; have HO255 := n3_; have HO261 := n4_; have HO271 := n5_; have BK229 := n6_; have BK230 := n7_; have BK244 := n8_; have BK248 := n9_; have BK257 := n10_; have HB := n11_; have BK280 := n12_; have GW280 := n13_; have GE280 := n14_; have NB229_280 := n15_; have NB280_229 := n16_; have NB230_280 := n17_; have NB280_230 := n18_; have NB244_280 := n19_; have NB280_244 := n20_; have NB248_280 := n21_; have NB280_248 := n22_; have NB257_280 := n23_; have NB280_257 := n24_; clear n0_ n1_ n2_ n3_ n4_ n5_ n6_ n7_ n8_ n9_ n10_ n11_ n12_ n13_ n14_ n15_ n16_ n17_ n18_ n19_ n20_ n21_ n22_ n23_ n24_ hb hbox hg
                  obtain ⟨Ao106, co106, eo106⟩ := Kd.R_slice HO271.out
                  (first | subst eo106 | (injection eo106 with f1_ f2_ f3_; have f4_ := f1_.symm; have f5_ := f3_.symm; clear f1_ f2_ f3_; subst f4_; subst f5_))
                  refine hK.out _ _ ⟨(blk_cell BK229.out 0).trans rfl, (blk_cell BK230.out 0).trans rfl, (blk_cell BK230.out 1).trans rfl, (blk_cell BK230.out 2).trans rfl, (blk_cell BK230.out 3).trans rfl⟩ (fun hHeld => ?_)
                  clear hK K
                  refine norm_ (a' := ?_) ?_ ?_
                  rotate_left
                  ·show Act.put _ (some 14) _ = _
                   simp only [aP, aQ, sT, sZ, sU, i64_w, i32_w]
                   rfl
                  refine one_ (i := 4) (N := some 89) (bB 11 287) rfl rfl (one_of HT_.out (by kernel_rfl)) (by decide) (fun K hK => ?_)
                  refine gX Try.func40 #[.agg #[.slice Ao106 t269.length co106], .agg #[.int .i64 t272, .string t273, .string t274, .string t275]] ?_
                  with_reducible refine (impl_DoAct.calls k _ _ t269 t272 t273 t274 t275 t276 t279 _ ?side1 ?side2 A41.out).mono ?_
                  (case side1 => repeat (first | exact (Kd.R_reads' HO271.out).2.2 | (with_reducible refine cA ?_ _) | (with_reducible refine cN ?_ _) | (with_reducible refine cD ?_)))
                  (case side2 => exact (Kd.R_reads' HO271.out).2.1)
                  rintro e w107 ⟨v277, rfl, ho0, hb⟩
                  refine ⟨_, rfl, ?_⟩
                  have n0_ := aM (Kd.R_elder' (uR HO235) (Kd.R_base ho0) hb)
                  have n1_ := aM (Kd.R_elder' (uR HO242) (Kd.R_base ho0) hb)
                  have n2_ := aM (Kd.R_elder' (uR HO247) (Kd.R_base ho0) hb)
                  have n3_ := aM (Kd.R_elder' (uR HO255) (Kd.R_base ho0) hb)
                  have n4_ := aM (Kd.R_elder' (uR HO261) (Kd.R_base ho0) hb)
                  have n5_ := aM (Kd.R_elder' (uR HO271) (Kd.R_base ho0) hb)
                  have n6_ := aM (Kd.R_lower (Kd.R_new' (Kd.R_new' (Kd.R_new' (Kd.R_new' (Kd.R_new' (Kd.R_new' ho0 (Kd.R_lt (uR HO235))) (Kd.R_lt (uR HO242))) (Kd.R_lt (uR HO247))) (Kd.R_lt (uR HO255))) (Kd.R_lt (uR HO261))) (Kd.R_lt (uR HO271))) (below_size (uL HB)))
                  have n7_ := blkB BK229 hb; have n8_ := blkB BK230 hb; have n9_ := blkB BK244 hb; have n10_ := blkB BK248 hb; have n11_ := blkB BK257 hb; have n12_ := blkB BK280 hb
                  have n13_ := aM (below_step (uL HB) hb)
                  clear HO235 HO242 HO247 HO255 HO261 HO271 BK229 BK230 BK244 BK248 BK257 BK280 HB; have HO235 := n0_; have HO242 := n1_; have HO247 := n2_; have HO255 := n3_; have HO261 := n4_; have HO271 := n5_; have HO278 := n6_; have BK229 := n7_; have BK230 := n8_; have BK244 := n9_; have BK248 := n10_; have BK257 := n11_; have BK280 := n12_; have HB := n13_; clear n0_ n1_ n2_ n3_ n4_ n5_ n6_ n7_ n8_ n9_ n10_ n11_ n12_ n13_
                  (try clear hb)
                  (try clear hb2)
                  (try clear hk)
                  (try clear hi)
                  (try clear ho0)
                  refine hK.out _ _ ⟨(blk_cell BK229.out 0).trans rfl, (blk_cell BK230.out 0).trans rfl, (blk_cell BK230.out 1).trans rfl, (blk_cell BK230.out 2).trans rfl, (blk_cell BK230.out 3).trans rfl⟩ (fun hHeld => ?_)
                  clear hK K
                  refine norm_ (a' := ?_) ?_ ?_
                  rotate_left
                  ·show Act.put _ (some 89) _ = _
                   simp only [aP, aQ, sT, sZ, sU, i64_w, i32_w]
                   rfl
                  refine pX 5 84 (bB 11 319) (any_of HT_.out (by kernel_rfl)) ?_
                  refine pX 6 90 (bB 11 383) (any_of HT_.out (by kernel_rfl)) ?_
                  refine pX 7 91 (bB 11 511) (any_of HT_.out (by kernel_rfl)) ?_
                  exact norm_ (by simp only [putAll, Act.put, List.setIfInBounds_toArray, List.set_cons_zero, List.set_cons_succ]) (hCont (.slice Ao106 t269.length co106, v277, gb280) _ ⟨hHeld, (by (with_reducible repeat first | apply rA | apply rN | apply rD); exact Kd.R_mono HO235.out (fun _ hk => ⟨hk.1.1.1, ⟨hk.1.1.2.1, ⟨hk.1.1.2.2.1, ⟨hk.1.1.2.2.2, ⟨hk.1.2, hk.2⟩⟩⟩⟩⟩)), (by (with_reducible repeat first | apply rA | apply rN | apply rD); exact Kd.R_mono HO242.out (fun _ hk => ⟨hk.1.1.1, ⟨hk.1.1.2.1, ⟨hk.1.1.2.2.1, ⟨hk.1.1.2.2.2, ⟨hk.1.2, hk.2⟩⟩⟩⟩⟩)), (by (with_reducible repeat first | apply rA | apply rN | apply rD); exact Kd.R_mono HO247.out (fun _ hk => ⟨hk.1.1.1, ⟨hk.1.1.2.1, ⟨hk.1.1.2.2.1, ⟨hk.1.1.2.2.2, ⟨hk.1.2, hk.2⟩⟩⟩⟩⟩)), (by (with_reducible repeat first | apply rA | apply rN | apply rD); exact Kd.R_mono HO255.out (fun _ hk => ⟨hk.1.1.1, ⟨hk.1.1.2.1, ⟨hk.1.1.2.2.1, ⟨hk.1.1.2.2.2, ⟨hk.1.2, hk.2⟩⟩⟩⟩⟩)), (by (with_reducible repeat first | apply rA | apply rN | apply rD); exact Kd.R_mono HO261.out (fun _ hk => ⟨hk.1.1.1, ⟨hk.1.1.2.1, ⟨hk.1.1.2.2.1, ⟨hk.1.1.2.2.2, ⟨hk.1.2, hk.2⟩⟩⟩⟩⟩)), (by (with_reducible repeat first | apply rA | apply rN | apply rD); exact Kd.R_mono HO271.out (fun _ hk => ⟨hk.1.1.1.1.1.2, ⟨hk.1.1.1.1.2, ⟨hk.1.1.1.2, ⟨hk.1.1.2, ⟨hk.1.2, hk.2⟩⟩⟩⟩⟩)), (by (with_reducible repeat first | apply rA | apply rN | apply rD); exact Kd.R_mono HO278.out (fun _ hk => ⟨hk.1.1.1.1.1.2, ⟨hk.1.1.1.1.2, ⟨hk.1.1.1.2, ⟨hk.1.1.2, ⟨hk.1.2, hk.2⟩⟩⟩⟩⟩)), (uB BK229), (uB BK230), (uB BK244), (uB BK248), (uB BK257), (uB BK280), GW280.out, GE280.out, NB229_280.out, NB280_229.out, NB230_280.out, NB280_230.out, NB244_280.out, NB280_244.out, NB248_280.out, NB280_248.out, NB257_280.out, NB280_257.out, (uL HB)⟩)
                ·skip
                 refine bxS 14 #[.slice none 0 0] 30 ?_
                 intro gb280 hg w104 hbox hb
                 have n0_ := aM (Kd.R_below (uR HO235) hb); have n1_ := aM (Kd.R_below (uR HO242) hb); have n2_ := aM (Kd.R_below (uR HO247) hb); have n3_ := aM (Kd.R_below (uR HO255) hb); have n4_ := aM (Kd.R_below (uR HO261) hb); have n5_ := aM (Kd.R_below (uR HO271) hb); have n6_ := blkB BK229 hb; have n7_ := blkB BK230 hb; have n8_ := blkB BK244 hb; have n9_ := blkB BK248 hb; have n10_ := blkB BK257 hb
                 have n11_ := aM (below_step (uL HB) hb)
                 have n12_ := aM (hbox)
                 have n13_ := szG hg (uL HB); have n14_ := szG hg (uL HB); have n15_ := neL hg BK229; have n16_ := neG hg BK229; have n17_ := neL hg BK230; have n18_ := neG hg BK230; have n19_ := neL hg BK244; have n20_ := neG hg BK244; have n21_ := neL hg BK248; have n22_ := neG hg BK248; have n23_ := neL hg BK257; have n24_ := neG hg BK257; clear HO235 HO242 HO247 HO255 HO261 HO271 BK229 BK230 BK244 BK248 BK257 HB; have HO235 := n0_; have HO242 := n1_; have HO247 := n2_; have HO255 := n3_; have HO261 := n4_; have HO271 := n5_; have BK229 := n6_; have BK230 := n7_; have BK244 := n8_; have BK248 := n9_; have BK257 := n10_; have HB := n11_; have BK280 := n12_; have GW280 := n13_; have GE280 := n14_; have NB229_280 := n15_; have NB280_229 := n16_; have NB230_280 := n17_; have NB280_230 := n18_; have NB244_280 := n19_; have NB280_244 := n20_; have NB248_280 := n21_; have NB280_248 := n22_; have NB257_280 := n23_; have NB280_257 := n24_; clear n0_ n1_ n2_ n3_ n4_ n5_ n6_ n7_ n8_ n9_ n10_ n11_ n12_ n13_ n14_ n15_ n16_ n17_ n18_ n19_ n20_ n21_ n22_ n23_ n24_ hb hbox hg
                 refine hK.out _ _ ⟨(blk_cell BK229.out 0).trans rfl, (blk_cell BK230.out 0).trans rfl, (blk_cell BK230.out 1).trans rfl, (blk_cell BK230.out 2).trans rfl, (blk_cell BK230.out 3).trans rfl⟩ (fun hHeld => ?_)
                 clear hK K
                 refine norm_ (a' := ?_) ?_ ?_
                 rotate_left
                 ·show Act.put _ (some 14) _ = _
                  simp only [aP, aQ, sT, sZ, sU, i64_w, i32_w]
                  rfl
                 refine one_ (i := 3) (N := some 88) (bB 11 271) rfl rfl (one_of HT_.out (by kernel_rfl)) (by decide) (fun K hK => ?_)
                 refine gX Try.func39 #[.agg #[.int .i64 a1_0, .string a1_1, .string a1_2, .string a1_3]] ?_
                 with_reducible refine (laws_toAct.calls a1_0 a1_1 a1_2 a1_3 t272 t273 t274 t275 _ A40.out).mono ?_
                 rintro e w105 ⟨rfl, hb⟩
                 refine ⟨_, rfl, ?_⟩
                 have n0_ := aM (Kd.R_below (uR HO235) hb); have n1_ := aM (Kd.R_below (uR HO242) hb); have n2_ := aM (Kd.R_below (uR HO247) hb); have n3_ := aM (Kd.R_below (uR HO255) hb); have n4_ := aM (Kd.R_below (uR HO261) hb); have n5_ := aM (Kd.R_below (uR HO271) hb); have n6_ := blkB BK229 hb; have n7_ := blkB BK230 hb; have n8_ := blkB BK244 hb; have n9_ := blkB BK248 hb; have n10_ := blkB BK257 hb; have n11_ := blkB BK280 hb
                 have n12_ := aM (below_step (uL HB) hb)
                 clear HO235 HO242 HO247 HO255 HO261 HO271 BK229 BK230 BK244 BK248 BK257 BK280 HB; have HO235 := n0_; have HO242 := n1_; have HO247 := n2_; have HO255 := n3_; have HO261 := n4_; have HO271 := n5_; have BK229 := n6_; have BK230 := n7_; have BK244 := n8_; have BK248 := n9_; have BK257 := n10_; have BK280 := n11_; have HB := n12_; clear n0_ n1_ n2_ n3_ n4_ n5_ n6_ n7_ n8_ n9_ n10_ n11_ n12_
                 (try clear hb)
                 (try clear hb2)
                 (try clear hk)
                 (try clear hi)
                 obtain ⟨Ao106, co106, eo106⟩ := Kd.R_slice HO271.out
                 (first | subst eo106 | (injection eo106 with f1_ f2_ f3_; have f4_ := f1_.symm; have f5_ := f3_.symm; clear f1_ f2_ f3_; subst f4_; subst f5_))
                 refine hK.out _ _ ⟨(blk_cell BK229.out 0).trans rfl, (blk_cell BK230.out 0).trans rfl, (blk_cell BK230.out 1).trans rfl, (blk_cell BK230.out 2).trans rfl, (blk_cell BK230.out 3).trans rfl⟩ (fun hHeld => ?_)
                 clear hK K
                 refine norm_ (a' := ?_) ?_ ?_
                 rotate_left
                 ·show Act.put _ (some 88) _ = _
                  simp only [aP, aQ, sT, sZ, sU, i64_w, i32_w]
                  rfl
                 refine one_ (i := 4) (N := some 89) (bB 11 287) rfl rfl (one_of HT_.out (by kernel_rfl)) (by decide) (fun K hK => ?_)
                 refine gX Try.func40 #[.agg #[.slice Ao106 t269.length co106], .agg #[.int .i64 t272, .string t273, .string t274, .string t275]] ?_
                 with_reducible refine (impl_DoAct.calls k _ _ t269 t272 t273 t274 t275 t276 t279 _ ?side1 ?side2 A41.out).mono ?_
                 (case side1 => repeat (first | exact (Kd.R_reads' HO271.out).2.2 | (with_reducible refine cA ?_ _) | (with_reducible refine cN ?_ _) | (with_reducible refine cD ?_)))
                 (case side2 => exact (Kd.R_reads' HO271.out).2.1)
                 rintro e w107 ⟨v277, rfl, ho0, hb⟩
                 refine ⟨_, rfl, ?_⟩
                 have n0_ := aM (Kd.R_elder' (uR HO235) (Kd.R_base ho0) hb)
                 have n1_ := aM (Kd.R_elder' (uR HO242) (Kd.R_base ho0) hb)
                 have n2_ := aM (Kd.R_elder' (uR HO247) (Kd.R_base ho0) hb)
                 have n3_ := aM (Kd.R_elder' (uR HO255) (Kd.R_base ho0) hb)
                 have n4_ := aM (Kd.R_elder' (uR HO261) (Kd.R_base ho0) hb)
                 have n5_ := aM (Kd.R_elder' (uR HO271) (Kd.R_base ho0) hb)
                 have n6_ := aM (Kd.R_lower (Kd.R_new' (Kd.R_new' (Kd.R_new' (Kd.R_new' (Kd.R_new' (Kd.R_new' ho0 (Kd.R_lt (uR HO235))) (Kd.R_lt (uR HO242))) (Kd.R_lt (uR HO247))) (Kd.R_lt (uR HO255))) (Kd.R_lt (uR HO261))) (Kd.R_lt (uR HO271))) (below_size (uL HB)))
                 have n7_ := blkB BK229 hb; have n8_ := blkB BK230 hb; have n9_ := blkB BK244 hb; have n10_ := blkB BK248 hb; have n11_ := blkB BK257 hb; have n12_ := blkB BK280 hb
                 have n13_ := aM (below_step (uL HB) hb)
                 clear HO235 HO242 HO247 HO255 HO261 HO271 BK229 BK230 BK244 BK248 BK257 BK280 HB; have HO235 := n0_; have HO242 := n1_; have HO247 := n2_; have HO255 := n3_; have HO261 := n4_; have HO271 := n5_; have HO278 := n6_; have BK229 := n7_; have BK230 := n8_; have BK244 := n9_; have BK248 := n10_; have BK257 := n11_; have BK280 := n12_; have HB := n13_; clear n0_ n1_ n2_ n3_ n4_ n5_ n6_ n7_ n8_ n9_ n10_ n11_ n12_ n13_
                 (try clear hb)
                 (try clear hb2)
                 (try clear hk)
                 (try clear hi)
                 (try clear ho0)
                 refine hK.out _ _ ⟨(blk_cell BK229.out 0).trans rfl, (blk_cell BK230.out 0).trans rfl, (blk_cell BK230.out 1).trans rfl, (blk_cell BK230.out 2).trans rfl, (blk_cell BK230.out 3).trans rfl⟩ (fun hHeld => ?_)
                 clear hK K
                 refine norm_ (a' := ?_) ?_ ?_
                 rotate_left
                 ·show Act.put _ (some 89) _ = _
                  simp only [aP, aQ, sT, sZ, sU, i64_w, i32_w]
                  rfl
                 refine pX 5 84 (bB 11 319) (any_of HT_.out (by kernel_rfl)) ?_
                 refine pX 6 90 (bB 11 383) (any_of HT_.out (by kernel_rfl)) ?_
                 refine pX 7 91 (bB 11 511) (any_of HT_.out (by kernel_rfl)) ?_
                 exact norm_ (by simp only [putAll, Act.put, List.setIfInBounds_toArray, List.set_cons_zero, List.set_cons_succ]) (hCont (.slice Ao106 t269.length co106, v277, gb280) _ ⟨hHeld, (by (with_reducible repeat first | apply rA | apply rN | apply rD); exact Kd.R_mono HO235.out (fun _ hk => ⟨hk.1.1.1, ⟨hk.1.1.2.1, ⟨hk.1.1.2.2.1, ⟨hk.1.1.2.2.2, ⟨hk.1.2, hk.2⟩⟩⟩⟩⟩)), (by (with_reducible repeat first | apply rA | apply rN | apply rD); exact Kd.R_mono HO242.out (fun _ hk => ⟨hk.1.1.1, ⟨hk.1.1.2.1, ⟨hk.1.1.2.2.1, ⟨hk.1.1.2.2.2, ⟨hk.1.2, hk.2⟩⟩⟩⟩⟩)), (by (with_reducible repeat first | apply rA | apply rN | apply rD); exact Kd.R_mono HO247.out (fun _ hk => ⟨hk.1.1.1, ⟨hk.1.1.2.1, ⟨hk.1.1.2.2.1, ⟨hk.1.1.2.2.2, ⟨hk.1.2, hk.2⟩⟩⟩⟩⟩)), (by (with_reducible repeat first | apply rA | apply rN | apply rD); exact Kd.R_mono HO255.out (fun _ hk => ⟨hk.1.1.1, ⟨hk.1.1.2.1, ⟨hk.1.1.2.2.1, ⟨hk.1.1.2.2.2, ⟨hk.1.2, hk.2⟩⟩⟩⟩⟩)), (by (with_reducible repeat first | apply rA | apply rN | apply rD); exact Kd.R_mono HO261.out (fun _ hk => ⟨hk.1.1.1, ⟨hk.1.1.2.1, ⟨hk.1.1.2.2.1, ⟨hk.1.1.2.2.2, ⟨hk.1.2, hk.2⟩⟩⟩⟩⟩)), (by (with_reducible repeat first | apply rA | apply rN | apply rD); exact Kd.R_mono HO271.out (fun _ hk => ⟨hk.1.1.1.1.1.2, ⟨hk.1.1.1.1.2, ⟨hk.1.1.1.2, ⟨hk.1.1.2, ⟨hk.1.2, hk.2⟩⟩⟩⟩⟩)), (by (with_reducible repeat first | apply rA | apply rN | apply rD); exact Kd.R_mono HO278.out (fun _ hk => ⟨hk.1.1.1.1.1.2, ⟨hk.1.1.1.1.2, ⟨hk.1.1.1.2, ⟨hk.1.1.2, ⟨hk.1.2, hk.2⟩⟩⟩⟩⟩)), (uB BK229), (uB BK230), (uB BK244), (uB BK248), (uB BK257), (uB BK280), GW280.out, GE280.out, NB229_280.out, NB280_229.out, NB230_280.out, NB280_230.out, NB244_280.out, NB280_244.out, NB248_280.out, NB280_248.out, NB257_280.out, NB280_257.out, (uL HB)⟩)
               ·skip
                refine bxS 14 #[.slice none 0 0] 30 ?_
                intro gb280 hg w103 hbox hb
                have n0_ := aM (Kd.R_below (uR HO235) hb); have n1_ := aM (Kd.R_below (uR HO242) hb); have n2_ := aM (Kd.R_below (uR HO247) hb); have n3_ := aM (Kd.R_below (uR HO255) hb); have n4_ := aM (Kd.R_below (uR HO261) hb); have n5_ := blkB BK229 hb; have n6_ := blkB BK230 hb; have n7_ := blkB BK244 hb; have n8_ := blkB BK248 hb; have n9_ := blkB BK257 hb
                have n10_ := aM (below_step (uL HB) hb)
                have n11_ := aM (hbox)
                have n12_ := szG hg (uL HB); have n13_ := szG hg (uL HB); have n14_ := neL hg BK229; have n15_ := neG hg BK229; have n16_ := neL hg BK230; have n17_ := neG hg BK230; have n18_ := neL hg BK244; have n19_ := neG hg BK244; have n20_ := neL hg BK248; have n21_ := neG hg BK248; have n22_ := neL hg BK257; have n23_ := neG hg BK257; clear HO235 HO242 HO247 HO255 HO261 BK229 BK230 BK244 BK248 BK257 HB; have HO235 := n0_; have HO242 := n1_; have HO247 := n2_; have HO255 := n3_; have HO261 := n4_; have BK229 := n5_; have BK230 := n6_; have BK244 := n7_; have BK248 := n8_; have BK257 := n9_; have HB := n10_; have BK280 := n11_; have GW280 := n12_; have GE280 := n13_; have NB229_280 := n14_; have NB280_229 := n15_; have NB230_280 := n16_; have NB280_230 := n17_; have NB244_280 := n18_; have NB280_244 := n19_; have NB248_280 := n20_; have NB280_248 := n21_; have NB257_280 := n22_; have NB280_257 := n23_; clear n0_ n1_ n2_ n3_ n4_ n5_ n6_ n7_ n8_ n9_ n10_ n11_ n12_ n13_ n14_ n15_ n16_ n17_ n18_ n19_ n20_ n21_ n22_ n23_ hb hbox hg
                refine hK.out _ _ ⟨(blk_cell BK229.out 0).trans rfl, (blk_cell BK230.out 0).trans rfl, (blk_cell BK230.out 1).trans rfl, (blk_cell BK230.out 2).trans rfl, (blk_cell BK230.out 3).trans rfl⟩ (fun hHeld => ?_)
                clear hK K
                refine norm_ (a' := ?_) ?_ ?_
                rotate_left
                ·show Act.put _ (some 14) _ = _
                 simp only [aP, aQ, sT, sZ, sU, i64_w, i32_w]
                 rfl
                refine one_ (i := 1) (N := some 86) (bB 11 263) rfl rfl (one_of HT_.out (by kernel_rfl)) (by decide) (fun K hK => ?_)
                refine gX Try.func17 #[.agg #[.slice A0_0 l0_0.length c0_0]] ?_
                with_reducible refine (laws_toDisk.calls k _ _ l0_0 t269 _ ?side1 ?side2 A39.out).mono ?_
                (case side1 => repeat (first | exact (Kd.C_below HR0_0.out HB.out) | (with_reducible refine cA ?_ _) | (with_reducible refine cN ?_ _) | (with_reducible refine cD ?_)))
                (case side2 => exact HC0_0.out)
                rintro e w104 ⟨v270, rfl, ho0, hb⟩
                refine ⟨_, rfl, ?_⟩
                have n0_ := aM (Kd.R_elder' (uR HO235) (Kd.R_base ho0) hb)
                have n1_ := aM (Kd.R_elder' (uR HO242) (Kd.R_base ho0) hb)
                have n2_ := aM (Kd.R_elder' (uR HO247) (Kd.R_base ho0) hb)
                have n3_ := aM (Kd.R_elder' (uR HO255) (Kd.R_base ho0) hb)
                have n4_ := aM (Kd.R_elder' (uR HO261) (Kd.R_base ho0) hb)
                have n5_ := aM (Kd.R_lower (Kd.R_new' (Kd.R_new' (Kd.R_new' (Kd.R_new' (Kd.R_new' ho0 (Kd.R_lt (uR HO235))) (Kd.R_lt (uR HO242))) (Kd.R_lt (uR HO247))) (Kd.R_lt (uR HO255))) (Kd.R_lt (uR HO261))) (below_size (uL HB)))
                have n6_ := blkB BK229 hb; have n7_ := blkB BK230 hb; have n8_ := blkB BK244 hb; have n9_ := blkB BK248 hb; have n10_ := blkB BK257 hb; have n11_ := blkB BK280 hb
                have n12_ := aM (below_step (uL HB) hb)
                clear HO235 HO242 HO247 HO255 HO261 BK229 BK230 BK244 BK248 BK257 BK280 HB; have HO235 := n0_; have HO242 := n1_; have HO247 := n2_; have HO255 := n3_; have HO261 := n4_; have HO271 := n5_; have BK229 := n6_; have BK230 := n7_; have BK244 := n8_; have BK248 := n9_; have BK257 := n10_; have BK280 := n11_; have HB := n12_; clear n0_ n1_ n2_ n3_ n4_ n5_ n6_ n7_ n8_ n9_ n10_ n11_ n12_
                (try clear hb)
                (try clear hb2)
                (try clear hk)
                (try clear hi)
                (try clear ho0)
                refine hK.out _ _ ⟨(blk_cell BK229.out 0).trans rfl, (blk_cell BK230.out 0).trans rfl, (blk_cell BK230.out 1).trans rfl, (blk_cell BK230.out 2).trans rfl, (blk_cell BK230.out 3).trans rfl⟩ (fun hHeld => ?_)
                clear hK K
                refine norm_ (a' := ?_) ?_ ?_
                rotate_left
                ·show Act.put _ (some 86) _ = _
                 simp only [aP, aQ, sT, sZ, sU, i64_w, i32_w]
                 rfl
                refine one_ (i := 3) (N := some 88) (bB 11 271) rfl rfl (one_of HT_.out (by kernel_rfl)) (by decide) (fun K hK => ?_)
                refine gX Try.func39 #[.agg #[.int .i64 a1_0, .string a1_1, .string a1_2, .string a1_3]] ?_
                with_reducible refine (laws_toAct.calls a1_0 a1_1 a1_2 a1_3 t272 t273 t274 t275 _ A40.out).mono ?_
                rintro e w105 ⟨rfl, hb⟩
                refine ⟨_, rfl, ?_⟩
                have n0_ := aM (Kd.R_below (uR HO235) hb); have n1_ := aM (Kd.R_below (uR HO242) hb); have n2_ := aM (Kd.R_below (uR HO247) hb); have n3_ := aM (Kd.R_below (uR HO255) hb); have n4_ := aM (Kd.R_below (uR HO261) hb); have n5_ := aM (Kd.R_below (uR HO271) hb); have n6_ := blkB BK229 hb; have n7_ := blkB BK230 hb; have n8_ := blkB BK244 hb; have n9_ := blkB BK248 hb; have n10_ := blkB BK257 hb; have n11_ := blkB BK280 hb
                have n12_ := aM (below_step (uL HB) hb)
                clear HO235 HO242 HO247 HO255 HO261 HO271 BK229 BK230 BK244 BK248 BK257 BK280 HB; have HO235 := n0_; have HO242 := n1_; have HO247 := n2_; have HO255 := n3_; have HO261 := n4_; have HO271 := n5_; have BK229 := n6_; have BK230 := n7_; have BK244 := n8_; have BK248 := n9_; have BK257 := n10_; have BK280 := n11_; have HB := n12_; clear n0_ n1_ n2_ n3_ n4_ n5_ n6_ n7_ n8_ n9_ n10_ n11_ n12_
                (try clear hb)
                (try clear hb2)
                (try clear hk)
                (try clear hi)
                obtain ⟨Ao106, co106, eo106⟩ := Kd.R_slice HO271.out
                (first | subst eo106 | (injection eo106 with f1_ f2_ f3_; have f4_ := f1_.symm; have f5_ := f3_.symm; clear f1_ f2_ f3_; subst f4_; subst f5_))
                refine hK.out _ _ ⟨(blk_cell BK229.out 0).trans rfl, (blk_cell BK230.out 0).trans rfl, (blk_cell BK230.out 1).trans rfl, (blk_cell BK230.out 2).trans rfl, (blk_cell BK230.out 3).trans rfl⟩ (fun hHeld => ?_)
                clear hK K
                refine norm_ (a' := ?_) ?_ ?_
                rotate_left
                ·show Act.put _ (some 88) _ = _
                 simp only [aP, aQ, sT, sZ, sU, i64_w, i32_w]
                 rfl
                refine one_ (i := 4) (N := some 89) (bB 11 287) rfl rfl (one_of HT_.out (by kernel_rfl)) (by decide) (fun K hK => ?_)
                refine gX Try.func40 #[.agg #[.slice Ao106 t269.length co106], .agg #[.int .i64 t272, .string t273, .string t274, .string t275]] ?_
                with_reducible refine (impl_DoAct.calls k _ _ t269 t272 t273 t274 t275 t276 t279 _ ?side1 ?side2 A41.out).mono ?_
                (case side1 => repeat (first | exact (Kd.R_reads' HO271.out).2.2 | (with_reducible refine cA ?_ _) | (with_reducible refine cN ?_ _) | (with_reducible refine cD ?_)))
                (case side2 => exact (Kd.R_reads' HO271.out).2.1)
                rintro e w107 ⟨v277, rfl, ho0, hb⟩
                refine ⟨_, rfl, ?_⟩
                have n0_ := aM (Kd.R_elder' (uR HO235) (Kd.R_base ho0) hb)
                have n1_ := aM (Kd.R_elder' (uR HO242) (Kd.R_base ho0) hb)
                have n2_ := aM (Kd.R_elder' (uR HO247) (Kd.R_base ho0) hb)
                have n3_ := aM (Kd.R_elder' (uR HO255) (Kd.R_base ho0) hb)
                have n4_ := aM (Kd.R_elder' (uR HO261) (Kd.R_base ho0) hb)
                have n5_ := aM (Kd.R_elder' (uR HO271) (Kd.R_base ho0) hb)
                have n6_ := aM (Kd.R_lower (Kd.R_new' (Kd.R_new' (Kd.R_new' (Kd.R_new' (Kd.R_new' (Kd.R_new' ho0 (Kd.R_lt (uR HO235))) (Kd.R_lt (uR HO242))) (Kd.R_lt (uR HO247))) (Kd.R_lt (uR HO255))) (Kd.R_lt (uR HO261))) (Kd.R_lt (uR HO271))) (below_size (uL HB)))
                have n7_ := blkB BK229 hb; have n8_ := blkB BK230 hb; have n9_ := blkB BK244 hb; have n10_ := blkB BK248 hb; have n11_ := blkB BK257 hb; have n12_ := blkB BK280 hb
                have n13_ := aM (below_step (uL HB) hb)
                clear HO235 HO242 HO247 HO255 HO261 HO271 BK229 BK230 BK244 BK248 BK257 BK280 HB; have HO235 := n0_; have HO242 := n1_; have HO247 := n2_; have HO255 := n3_; have HO261 := n4_; have HO271 := n5_; have HO278 := n6_; have BK229 := n7_; have BK230 := n8_; have BK244 := n9_; have BK248 := n10_; have BK257 := n11_; have BK280 := n12_; have HB := n13_; clear n0_ n1_ n2_ n3_ n4_ n5_ n6_ n7_ n8_ n9_ n10_ n11_ n12_ n13_
                (try clear hb)
                (try clear hb2)
                (try clear hk)
                (try clear hi)
                (try clear ho0)
                refine hK.out _ _ ⟨(blk_cell BK229.out 0).trans rfl, (blk_cell BK230.out 0).trans rfl, (blk_cell BK230.out 1).trans rfl, (blk_cell BK230.out 2).trans rfl, (blk_cell BK230.out 3).trans rfl⟩ (fun hHeld => ?_)
                clear hK K
                refine norm_ (a' := ?_) ?_ ?_
                rotate_left
                ·show Act.put _ (some 89) _ = _
                 simp only [aP, aQ, sT, sZ, sU, i64_w, i32_w]
                 rfl
                refine pX 5 84 (bB 11 319) (any_of HT_.out (by kernel_rfl)) ?_
                refine pX 6 90 (bB 11 383) (any_of HT_.out (by kernel_rfl)) ?_
                refine pX 7 91 (bB 11 511) (any_of HT_.out (by kernel_rfl)) ?_
                exact norm_ (by simp only [putAll, Act.put, List.setIfInBounds_toArray, List.set_cons_zero, List.set_cons_succ]) (hCont (.slice Ao106 t269.length co106, v277, gb280) _ ⟨hHeld, (by (with_reducible repeat first | apply rA | apply rN | apply rD); exact Kd.R_mono HO235.out (fun _ hk => ⟨hk.1.1.1, ⟨hk.1.1.2.1, ⟨hk.1.1.2.2.1, ⟨hk.1.1.2.2.2, ⟨hk.1.2, hk.2⟩⟩⟩⟩⟩)), (by (with_reducible repeat first | apply rA | apply rN | apply rD); exact Kd.R_mono HO242.out (fun _ hk => ⟨hk.1.1.1, ⟨hk.1.1.2.1, ⟨hk.1.1.2.2.1, ⟨hk.1.1.2.2.2, ⟨hk.1.2, hk.2⟩⟩⟩⟩⟩)), (by (with_reducible repeat first | apply rA | apply rN | apply rD); exact Kd.R_mono HO247.out (fun _ hk => ⟨hk.1.1.1, ⟨hk.1.1.2.1, ⟨hk.1.1.2.2.1, ⟨hk.1.1.2.2.2, ⟨hk.1.2, hk.2⟩⟩⟩⟩⟩)), (by (with_reducible repeat first | apply rA | apply rN | apply rD); exact Kd.R_mono HO255.out (fun _ hk => ⟨hk.1.1.1, ⟨hk.1.1.2.1, ⟨hk.1.1.2.2.1, ⟨hk.1.1.2.2.2, ⟨hk.1.2, hk.2⟩⟩⟩⟩⟩)), (by (with_reducible repeat first | apply rA | apply rN | apply rD); exact Kd.R_mono HO261.out (fun _ hk => ⟨hk.1.1.1, ⟨hk.1.1.2.1, ⟨hk.1.1.2.2.1, ⟨hk.1.1.2.2.2, ⟨hk.1.2, hk.2⟩⟩⟩⟩⟩)), (by (with_reducible repeat first | apply rA | apply rN | apply rD); exact Kd.R_mono HO271.out (fun _ hk => ⟨hk.1.1.1.1.1.2, ⟨hk.1.1.1.1.2, ⟨hk.1.1.1.2, ⟨hk.1.1.2, ⟨hk.1.2, hk.2⟩⟩⟩⟩⟩)), (by (with_reducible repeat first | apply rA | apply rN | apply rD); exact Kd.R_mono HO278.out (fun _ hk => ⟨hk.1.1.1.1.1.2, ⟨hk.1.1.1.1.2, ⟨hk.1.1.1.2, ⟨hk.1.1.2, ⟨hk.1.2, hk.2⟩⟩⟩⟩⟩)), (uB BK229), (uB BK230), (uB BK244), (uB BK248), (uB BK257), (uB BK280), GW280.out, GE280.out, NB229_280.out, NB280_229.out, NB230_280.out, NB280_230.out, NB244_280.out, NB280_244.out, NB248_280.out, NB280_248.out, NB257_280.out, NB280_257.out, (uL HB)⟩)
              rintro ⟨v270, v277, gb280⟩ w108 ⟨hS_, h0_, h1_, h2_, h3_, h4_, h5_, h6_, h7_, h8_, h9_, h10_, h11_, h12_, h13_, h14_, h15_, h16_, h17_, h18_, h19_, h20_, h21_, h22_, h23_, h24_, h25_⟩
              have n0_ : Aside0 (Kd.R k45 45 w108 w.heap.size (fun k_ => some k_ ≠ (.slice Ao62 t240.length co62 : Value).ownBlock ∧ some k_ ≠ (.slice Ao68 t245.length co68 : Value).ownBlock ∧ some k_ ≠ (.slice Ao79 t253.length co79 : Value).ownBlock ∧ some k_ ≠ (.slice Ao91 t259.length co91 : Value).ownBlock ∧ some k_ ≠ (v270 : Value).ownBlock ∧ some k_ ≠ (v277 : Value).ownBlock) v234 t233) := ⟨h0_⟩
              have n1_ : Aside0 (Kd.R k45 45 w108 w.heap.size (fun k_ => some k_ ≠ (v234 : Value).ownBlock ∧ some k_ ≠ (.slice Ao68 t245.length co68 : Value).ownBlock ∧ some k_ ≠ (.slice Ao79 t253.length co79 : Value).ownBlock ∧ some k_ ≠ (.slice Ao91 t259.length co91 : Value).ownBlock ∧ some k_ ≠ (v270 : Value).ownBlock ∧ some k_ ≠ (v277 : Value).ownBlock) (.slice Ao62 t240.length co62) t240) := ⟨h1_⟩
              have n2_ : Aside0 (Kd.R k45 45 w108 w.heap.size (fun k_ => some k_ ≠ (v234 : Value).ownBlock ∧ some k_ ≠ (.slice Ao62 t240.length co62 : Value).ownBlock ∧ some k_ ≠ (.slice Ao79 t253.length co79 : Value).ownBlock ∧ some k_ ≠ (.slice Ao91 t259.length co91 : Value).ownBlock ∧ some k_ ≠ (v270 : Value).ownBlock ∧ some k_ ≠ (v277 : Value).ownBlock) (.slice Ao68 t245.length co68) t264) := ⟨h2_⟩
              have n3_ : Aside0 (Kd.R k45 45 w108 w.heap.size (fun k_ => some k_ ≠ (v234 : Value).ownBlock ∧ some k_ ≠ (.slice Ao62 t240.length co62 : Value).ownBlock ∧ some k_ ≠ (.slice Ao68 t245.length co68 : Value).ownBlock ∧ some k_ ≠ (.slice Ao91 t259.length co91 : Value).ownBlock ∧ some k_ ≠ (v270 : Value).ownBlock ∧ some k_ ≠ (v277 : Value).ownBlock) (.slice Ao79 t253.length co79) t267) := ⟨h3_⟩
              have n4_ : Aside0 (Kd.R k45 45 w108 w.heap.size (fun k_ => some k_ ≠ (v234 : Value).ownBlock ∧ some k_ ≠ (.slice Ao62 t240.length co62 : Value).ownBlock ∧ some k_ ≠ (.slice Ao68 t245.length co68 : Value).ownBlock ∧ some k_ ≠ (.slice Ao79 t253.length co79 : Value).ownBlock ∧ some k_ ≠ (v270 : Value).ownBlock ∧ some k_ ≠ (v277 : Value).ownBlock) (.slice Ao91 t259.length co91) t259) := ⟨h4_⟩
              have n5_ : Aside0 (Kd.R k45 45 w108 w.heap.size (fun k_ => some k_ ≠ (v234 : Value).ownBlock ∧ some k_ ≠ (.slice Ao62 t240.length co62 : Value).ownBlock ∧ some k_ ≠ (.slice Ao68 t245.length co68 : Value).ownBlock ∧ some k_ ≠ (.slice Ao79 t253.length co79 : Value).ownBlock ∧ some k_ ≠ (.slice Ao91 t259.length co91 : Value).ownBlock ∧ some k_ ≠ (v277 : Value).ownBlock) v270 t269) := ⟨h5_⟩
              have n6_ : Aside0 (Kd.R k45 45 w108 w.heap.size (fun k_ => some k_ ≠ (v234 : Value).ownBlock ∧ some k_ ≠ (.slice Ao62 t240.length co62 : Value).ownBlock ∧ some k_ ≠ (.slice Ao68 t245.length co68 : Value).ownBlock ∧ some k_ ≠ (.slice Ao79 t253.length co79 : Value).ownBlock ∧ some k_ ≠ (.slice Ao91 t259.length co91 : Value).ownBlock ∧ some k_ ≠ (v270 : Value).ownBlock) v277 t276) := ⟨h6_⟩
              have n7_ : Aside0 (w108.heap[gb229]? = some (.cells #[.slice A0_0 l0_0.length c0_0] 24 (0, 0))) := ⟨h7_⟩
              have n8_ : Aside0 (w108.heap[gb230]? = some (.cells #[.int .i64 a1_0, .string a1_1, .string a1_2, .string a1_3] 52 (0, 0))) := ⟨h8_⟩
              have n9_ : Aside0 (w108.heap[gb244]? = some (.cells #[.slice Ao62 t240.length co62] 30 (0, 0))) := ⟨h9_⟩
              have n10_ : Aside0 (w108.heap[gb248]? = some (.cells #[.slice Ao68 t245.length co68] 30 (0, 0))) := ⟨h10_⟩
              have n11_ : Aside0 (w108.heap[gb257]? = some (.cells #[.slice Ao79 t253.length co79] 30 (0, 0))) := ⟨h11_⟩
              have n12_ : Aside0 (w108.heap[gb280]? = some (.cells #[.slice none 0 0] 30 (0, 0))) := ⟨h12_⟩
              have n13_ : Aside0 (w.heap.size ≤ gb280) := ⟨h13_⟩
              have n14_ : Aside0 (w.heap.size ≤ gb280) := ⟨h14_⟩
              have n15_ : Aside0 (gb229 ≠ gb280) := ⟨h15_⟩
              have n16_ : Aside0 (gb280 ≠ gb229) := ⟨h16_⟩
              have n17_ : Aside0 (gb230 ≠ gb280) := ⟨h17_⟩
              have n18_ : Aside0 (gb280 ≠ gb230) := ⟨h18_⟩
              have n19_ : Aside0 (gb244 ≠ gb280) := ⟨h19_⟩
              have n20_ : Aside0 (gb280 ≠ gb244) := ⟨h20_⟩
              have n21_ : Aside0 (gb248 ≠ gb280) := ⟨h21_⟩
              have n22_ : Aside0 (gb280 ≠ gb248) := ⟨h22_⟩
              have n23_ : Aside0 (gb257 ≠ gb280) := ⟨h23_⟩
              have n24_ : Aside0 (gb280 ≠ gb257) := ⟨h24_⟩
              have n25_ : Aside0 (Below w.heap.size w w108) := ⟨h25_⟩
              clear HO235 HO242 HO247 HO255 HO261 BK229 BK230 BK244 BK248 BK257 HB h0_ h1_ h2_ h3_ h4_ h5_ h6_ h7_ h8_ h9_ h10_ h11_ h12_ h13_ h14_ h15_ h16_ h17_ h18_ h19_ h20_ h21_ h22_ h23_ h24_ h25_; have HO235 := n0_; have HO242 := n1_; have HO247 := n2_; have HO255 := n3_; have HO261 := n4_; have HO271 := n5_; have HO278 := n6_; have BK229 := n7_; have BK230 := n8_; have BK244 := n9_; have BK248 := n10_; have BK257 := n11_; have BK280 := n12_; have GW280 := n13_; have GE280 := n14_; have NB229_280 := n15_; have NB280_229 := n16_; have NB230_280 := n17_; have NB280_230 := n18_; have NB244_280 := n19_; have NB280_244 := n20_; have NB248_280 := n21_; have NB280_248 := n22_; have NB257_280 := n23_; have NB280_257 := n24_; have HB := n25_; clear n0_ n1_ n2_ n3_ n4_ n5_ n6_ n7_ n8_ n9_ n10_ n11_ n12_ n13_ n14_ n15_ n16_ n17_ n18_ n19_ n20_ n21_ n22_ n23_ n24_ n25_
              have hHeld : w108.cell? ⟨gb229, 0, none⟩ = some (.slice A0_0 l0_0.length c0_0) ∧ w108.cell? ⟨gb230, 0, none⟩ = some (.int .i64 a1_0) ∧ w108.cell? ⟨gb230, 1, none⟩ = some (.string a1_1) ∧ w108.cell? ⟨gb230, 2, none⟩ = some (.string a1_2) ∧ w108.cell? ⟨gb230, 3, none⟩ = some (.string a1_3) := hS_
              obtain ⟨Ao109, co109, eo109⟩ := Kd.R_slice HO278.out
              (first | subst eo109 | (injection eo109 with f1_ f2_ f3_; have f4_ := f1_.symm; have f5_ := f3_.symm; clear f1_ f2_ f3_; subst f4_; subst f5_))
              refine norm_ (a' := ?_) ?_ ?_
              rotate_left
              ·simp only [putAll, Act.put, List.setIfInBounds_toArray, List.set_cons_zero, List.set_cons_succ]
               rfl
              refine one_ (i := 9) (N := none) (bB 11 1023) rfl rfl (one_of HT_.out (by kernel_rfl)) (by decide) (fun K hK => ?_)
              have hs110 : w108.cell? ⟨gb280, 0, none⟩ = some (.slice none 0 0) := (blk_cell BK280.out 0).trans rfl
              have hfs110 := blk_frozen BK280.out 0
              have hns110_0 := NB229_280.out
              have hns110_1 := NB230_280.out
              have hns110_2 := NB244_280.out
              have hns110_3 := NB248_280.out
              have hns110_4 := NB257_280.out
              have hms110_0 := NB280_229.out
              have hms110_1 := NB280_230.out
              have hms110_2 := NB280_244.out
              have hms110_3 := NB280_248.out
              have hms110_4 := NB280_257.out
              refine skip_ (w1 := ?_) (by rfl) rfl ?_ ?_
              rotate_left
              ·go_simp
               rfl
              refine hK.out _ _ ⟨((cell_far (p := ⟨gb280, _, none⟩) NB229_280.out _).trans (hHeld.1)), ((cell_far (p := ⟨gb280, _, none⟩) NB230_280.out _).trans (hHeld.2.1)), ((cell_far (p := ⟨gb280, _, none⟩) NB230_280.out _).trans (hHeld.2.2.1)), ((cell_far (p := ⟨gb280, _, none⟩) NB230_280.out _).trans (hHeld.2.2.2.1)), ((cell_far (p := ⟨gb280, _, none⟩) NB230_280.out _).trans (hHeld.2.2.2.2))⟩ (fun hHeld => ?_)
              clear hK K
              refine pX 10 15 (bB 11 2047) (any_of HT_.out (by kernel_rfl)) ?_
              refine done_ (done_of HT_.out (by kernel_rfl)) ?_
              have hnb111 := NB280_229.out
              have hnc111 := NB229_280.out
              have hnb112 := NB280_230.out
              have hnc112 := NB230_280.out
              have hnb113 := NB280_244.out
              have hnc113 := NB244_280.out
              have hnb114 := NB280_248.out
              have hnc114 := NB248_280.out
              have hnb115 := NB280_257.out
              have hnc115 := NB257_280.out
              have hcz116_0 : w108.cell? ⟨gb280, 0, none⟩ = some (.slice none 0 0) := (blk_cell BK280.out 0).trans rfl
              have hfz116_0 := blk_frozen BK280.out 0
              have hcz117_0 : w108.cell? ⟨gb244, 0, none⟩ = some (.slice Ao62 t240.length co62) := (blk_cell BK244.out 0).trans rfl
              have hfz117_0 := blk_frozen BK244.out 0
              try go_wp2_with (first | ((with_reducible refine gate_callee (f := 19) rfl ?_); refine gL (some 94) Try.func19 #[.agg #[.slice Ao109 t276.length co109], .agg #[.slice Ao62 t240.length co62]] ?_; (with_reducible refine (laws_eqDisk.calls k _ _ t276 _ _ t240 true _ ?side1 ?side2 ?side3 ?side4 A42.out).mono ?_); (case side1 => refine (Kd.R_reads' (e := 45) (base := w.heap.size) (ok := fun k_ => (some k_ ≠ (v234 : Value).ownBlock ∧ (some k_ ≠ (.slice Ao62 t240.length co62 : Value).ownBlock ∧ (some k_ ≠ (.slice Ao68 t245.length co68 : Value).ownBlock ∧ (some k_ ≠ (.slice Ao79 t253.length co79 : Value).ownBlock ∧ (some k_ ≠ (.slice Ao91 t259.length co91 : Value).ownBlock ∧ some k_ ≠ (v270 : Value).ownBlock)))))) (n := t276.length) (c := co109) ?_).2.2; exact (by (with_reducible repeat first | apply rA | apply rN | apply rD); exact (Kd.R_mono (Kd.R_far (p := ⟨gb280, 0, none⟩) (Kd.R_types HO278.out BK280.out (by decide)) (fun _ hk => hk.2) (.slice Ao109 t276.length co109)) (fun _ h_ => h_.1)))); (case side2 => exact (Kd.R_reads' HO278.out).2.1); (case side3 => refine (Kd.R_reads' (e := 45) (base := w.heap.size) (ok := fun k_ => (some k_ ≠ (v234 : Value).ownBlock ∧ (some k_ ≠ (.slice Ao68 t245.length co68 : Value).ownBlock ∧ (some k_ ≠ (.slice Ao79 t253.length co79 : Value).ownBlock ∧ (some k_ ≠ (.slice Ao91 t259.length co91 : Value).ownBlock ∧ (some k_ ≠ (v270 : Value).ownBlock ∧ some k_ ≠ (.slice Ao109 t276.length co109 : Value).ownBlock)))))) (n := t240.length) (c := co62) ?_).2.2; exact (by (with_reducible repeat first | apply rA | apply rN | apply rD); exact (Kd.R_mono (Kd.R_far (p := ⟨gb280, 0, none⟩) (Kd.R_types HO242.out BK280.out (by decide)) (fun _ hk => hk.2) (.slice Ao109 t276.length co109)) (fun _ h_ => h_.1)))); (case side4 => exact (Kd.R_reads' HO242.out).2.1); rintro e w118 ⟨rfl, hb⟩; refine ⟨_, rfl, ?_⟩; have n0_ := aM (Kd.R_below (by (with_reducible repeat first | apply rA | apply rN | apply rD); exact (Kd.R_mono (Kd.R_far (p := ⟨gb280, 0, none⟩) (Kd.R_types HO235.out BK280.out (by decide)) (fun _ hk => hk.2) (.slice Ao109 t276.length co109)) (fun _ h_ => h_.1))) hb); have n1_ := aM (Kd.R_below (by (with_reducible repeat first | apply rA | apply rN | apply rD); exact (Kd.R_mono (Kd.R_far (p := ⟨gb280, 0, none⟩) (Kd.R_types HO242.out BK280.out (by decide)) (fun _ hk => hk.2) (.slice Ao109 t276.length co109)) (fun _ h_ => h_.1))) hb); have n2_ := aM (Kd.R_below (by (with_reducible repeat first | apply rA | apply rN | apply rD); exact (Kd.R_mono (Kd.R_far (p := ⟨gb280, 0, none⟩) (Kd.R_types HO247.out BK280.out (by decide)) (fun _ hk => hk.2) (.slice Ao109 t276.length co109)) (fun _ h_ => h_.1))) hb); have n3_ := aM (Kd.R_below (by (with_reducible repeat first | apply rA | apply rN | apply rD); exact (Kd.R_mono (Kd.R_far (p := ⟨gb280, 0, none⟩) (Kd.R_types HO255.out BK280.out (by decide)) (fun _ hk => hk.2) (.slice Ao109 t276.length co109)) (fun _ h_ => h_.1))) hb); have n4_ := aM (Kd.R_below (by (with_reducible repeat first | apply rA | apply rN | apply rD); exact (Kd.R_mono (Kd.R_far (p := ⟨gb280, 0, none⟩) (Kd.R_types HO261.out BK280.out (by decide)) (fun _ hk => hk.2) (.slice Ao109 t276.length co109)) (fun _ h_ => h_.1))) hb); have n5_ := aM (Kd.R_below (by (with_reducible repeat first | apply rA | apply rN | apply rD); exact (Kd.R_mono (Kd.R_far (p := ⟨gb280, 0, none⟩) (Kd.R_types HO271.out BK280.out (by decide)) (fun _ hk => hk.2) (.slice Ao109 t276.length co109)) (fun _ h_ => h_.1))) hb); have n6_ := aM (Kd.R_below (by (with_reducible repeat first | apply rA | apply rN | apply rD); exact (Kd.R_mono (Kd.R_far (p := ⟨gb280, 0, none⟩) (Kd.R_types HO278.out BK280.out (by decide)) (fun _ hk => hk.2) (.slice Ao109 t276.length co109)) (fun _ h_ => h_.1))) hb); have n7_ := aM (blk_below (g := gb229) (o := .cells #[.slice A0_0 l0_0.length c0_0] 24 (0, 0)) (by (with_reducible repeat first | apply bN | apply bD | apply bA); refine blk_far ?_ NB229_280.out _; (with_reducible repeat first | apply bN | apply bD | apply bA); exact BK229.out) hb); have n8_ := aM (blk_below (g := gb230) (o := .cells #[.int .i64 a1_0, .string a1_1, .string a1_2, .string a1_3] 52 (0, 0)) (by (with_reducible repeat first | apply bN | apply bD | apply bA); refine blk_far ?_ NB230_280.out _; (with_reducible repeat first | apply bN | apply bD | apply bA); exact BK230.out) hb); have n9_ := aM (blk_below (g := gb244) (o := .cells #[.slice Ao62 t240.length co62] 30 (0, 0)) (by (with_reducible repeat first | apply bN | apply bD | apply bA); refine blk_far ?_ NB244_280.out _; (with_reducible repeat first | apply bN | apply bD | apply bA); exact BK244.out) hb); have n10_ := aM (blk_below (g := gb248) (o := .cells #[.slice Ao68 t245.length co68] 30 (0, 0)) (by (with_reducible repeat first | apply bN | apply bD | apply bA); refine blk_far ?_ NB248_280.out _; (with_reducible repeat first | apply bN | apply bD | apply bA); exact BK248.out) hb); have n11_ := aM (blk_below (g := gb257) (o := .cells #[.slice Ao79 t253.length co79] 30 (0, 0)) (by (with_reducible repeat first | apply bN | apply bD | apply bA); refine blk_far ?_ NB257_280.out _; (with_reducible repeat first | apply bN | apply bD | apply bA); exact BK257.out) hb); have n12_ := aM (blk_below (g := gb280) (o := .cells #[.slice Ao109 t276.length co109] 30 (0, 0)) (by (with_reducible repeat first | apply bN | apply bD | apply bA); refine blk_put (cs := #[.slice none 0 0]) ?_ 0 _ rfl; (with_reducible repeat first | apply bN | apply bD | apply bA); exact BK280.out) hb); have n13_ := aM (below_step (uL HB) hb); clear HO235; clear HO242; clear HO247; clear HO255; clear HO261; clear HO271; clear HO278; clear BK229; clear BK230; clear BK244; clear BK248; clear BK257; clear BK280; clear HB; have HO235 := n0_; have HO242 := n1_; have HO247 := n2_; have HO255 := n3_; have HO261 := n4_; have HO271 := n5_; have HO278 := n6_; have BK229 := n7_; have BK230 := n8_; have BK244 := n9_; have BK248 := n10_; have BK257 := n11_; have BK280 := n12_; have HB := n13_; clear n0_ n1_ n2_ n3_ n4_ n5_ n6_ n7_ n8_ n9_ n10_ n11_ n12_ n13_; (try clear hb); (try clear hb2); (try clear hk); (try clear hi); have hcz119_0 : w118.cell? ⟨gb257, 0, none⟩ = some (.slice Ao79 t253.length co79) := (blk_cell BK257.out 0).trans rfl; have hfz119_0 := blk_frozen BK257.out 0) | ((with_reducible refine gate_callee (f := 36) rfl ?_); refine goesL_ (some 103) rfl rfl Try.func36 (by kernel_rfl) rfl #[.agg #[.slice Ao79 t267.length co79], .int .i64 1] rfl (by (try simp only [List.map_toArray, List.map_cons, List.map_nil]); first | done | (rw [show t267.length = t253.length from (Kd.R_reads' HO255.out).1.symm] <;> rfl) | rfl | (simp only [List.length_drop, List.length_take]; rfl)) ?_; (with_reducible refine (laws_heldDisk.calls k _ _ t267 1 t282 _ ?side1 ?side2 A45.out).mono ?_); (case side1 => repeat (first | exact (Kd.R_reads' HO255.out).2.2 | (with_reducible refine cA ?_ _) | (with_reducible refine cN ?_ _) | (with_reducible refine cD ?_))); (case side2 => rw [show t267.length = t253.length from (Kd.R_reads' HO255.out).1.symm]; exact (Kd.R_reads' HO255.out).2.1); rintro e w120 ⟨rfl, hb⟩; refine ⟨_, rfl, ?_⟩; have n0_ := aM (Kd.R_below (uR HO235) hb); have n1_ := aM (Kd.R_below (uR HO242) hb); have n2_ := aM (Kd.R_below (uR HO247) hb); have n3_ := aM (Kd.R_below (uR HO255) hb); have n4_ := aM (Kd.R_below (uR HO261) hb); have n5_ := aM (Kd.R_below (uR HO271) hb); have n6_ := aM (Kd.R_below (uR HO278) hb); have n7_ := blkB BK229 hb; have n8_ := blkB BK230 hb; have n9_ := blkB BK244 hb; have n10_ := blkB BK248 hb; have n11_ := blkB BK257 hb; have n12_ := blkB BK280 hb; have n13_ := aM (below_step (uL HB) hb); clear HO235; clear HO242; clear HO247; clear HO255; clear HO261; clear HO271; clear HO278; clear BK229; clear BK230; clear BK244; clear BK248; clear BK257; clear BK280; clear HB; have HO235 := n0_; have HO242 := n1_; have HO247 := n2_; have HO255 := n3_; have HO261 := n4_; have HO271 := n5_; have HO278 := n6_; have BK229 := n7_; have BK230 := n8_; have BK244 := n9_; have BK248 := n10_; have BK257 := n11_; have BK280 := n12_; have HB := n13_; clear n0_ n1_ n2_ n3_ n4_ n5_ n6_ n7_ n8_ n9_ n10_ n11_ n12_ n13_; (try clear hb); (try clear hb2); (try clear hk); (try clear hi)))
              go_ret
              exact ⟨by first | rfl | (simp [errW_none, errW_some] <;> rfl) | (simp [*, errW_none, errW_some] <;> rfl), uL HB⟩
             ·rw [if_neg c47] at H
              exact absurd H (by simp)
          ·replace c43 := Bool.eq_false_iff.mpr c43
           subst c43
           have H1 : (none) = some r := by rw [if_neg (show ¬ (false = true) by decide)] at H; exact H
           clear H; have H := H1; clear H1
           exact absurd H (by simp)
         ·rw [if_neg c38] at H
          exact absurd H (by simp)
       ·replace c34 := Bool.eq_false_iff.mpr c34
        subst c34
        have H1 : (none) = some r := by rw [if_neg (show ¬ (false = true) by decide)] at H; exact H
        clear H; have H := H1; clear H1
        exact absurd H (by simp)
     ·replace c30 := Bool.eq_false_iff.mpr c30
      subst c30
      have H1 : (none) = some r := by rw [if_neg (show ¬ (false = true) by decide)] at H; exact H
      clear H; have H := H1; clear H1
      exact absurd H (by simp)
   ·replace c26 := Bool.eq_false_iff.mpr c26
    subst c26
    have H1 : (none) = some r := by rw [if_neg (show ¬ (false = true) by decide)] at H; exact H
    clear H; have H := H1; clear H1
    exact absurd H (by simp)

end Go.Proofs.Ytidfhfaekdahpaa.QFnExactDoAct
