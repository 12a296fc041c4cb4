-- Own work (wip/turnprint.py over the kit's print).
import Derived.Test.YtidfhfaekdahpaaQFnActsx0
import Derived.Test.YtidfhfaekdahpaaQFnActsx9
import Derived.Test.YtidfhfaekdahpaaQFnActsx13
import Derived.Test.YtidfhfaekdahpaaQFnActsx14
namespace Go.Proofs.Ytidfhfaekdahpaa.QFnActs
open Go.RowKit Go.Proofs.YtidfhfaekdahpaaW.PrintWords Go.Proofs.YtidfhfaekdahpaaW.PrintLast Go.Proofs.YtidfhfaekdahpaaW.PrintMore
attribute [local go_sem] max2_int min2_int max_two min_two max_three min_three max_four min_four   -- for this text's walks alone
set_option linter.unusedVariables false
set_option linter.unusedSimpArgs false

/-! ### spec_l03Disk: function 90 -/
mutual
def spec_l03Disk.l0 : Nat → Int → List Int → Int → Int → List (S45) → Option ((List (S45)) × Int × Int)
 | 0, _, _, _, _, _ => none
 | k + 1, x4, x1000, x1001, x1002, x255000 => (spec_l01Below.f x1000 x1001 x1002 6).bind fun bt255 => (if x4 < bt255.1 then ((spec_l01Below.f x1000 bt255.2.1 bt255.2.2 9).bind fun bt258 => ((spec_l01Text.f k x1000 bt258.2.1 bt258.2.2 bt258.1).bind fun bt261 => ((spec_l03Named.f x1000 bt261.2.1 bt261.2.2).bind fun bt264 => ((spec_l01Below.f x1000 bt264.2.1 bt264.2.2 (wrap64 ((bt261.1.size : Int) + 1))).bind fun bt267 => ((spec_l03Put.f k x255000 bt264.1 bt261.1 bt267.1).bind fun t270 => (spec_l03Disk.l0 k (wrap64 (x4 + 1)) x1000 bt267.2.1 bt267.2.2 t270)))))) else (if (x255000.length : Int) = 0 then (some (x255000, bt255.2.1, bt255.2.2)) else ((spec_l01Below.f x1000 bt255.2.1 bt255.2.2 (x255000.length : Int)).bind fun bt273 => ((spec_l01Below.f x1000 bt273.2.1 bt273.2.2 40).bind fun bt276 => (if bt276.1 = 0 then (if 0 ≤ bt273.1 then (if bt273.1 < (x255000.length : Int) then ((spec_l01PickInt.f x1000 bt276.2.1 bt276.2.2 (([(-1), wrap64 ((((rd_T45 x255000 bt273.1).f1).size : Int) + 1)] : List Int))).bind fun bt283 => (some ((x255000.set (bt273.1 : Int).toNat (⟨(rd_T45 x255000 bt273.1).f0, (rd_T45 x255000 bt273.1).f1, bt283.1⟩ : S45)), bt283.2.1, bt283.2.2))) else (none)) else (none)) else (if bt276.1 = 1 then (if 0 ≤ bt273.1 then (if bt273.1 < (x255000.length : Int) then (if x255000.length < 3518437208883 then (some ((x255000 ++ [(⟨(rd_T45 x255000 bt273.1).f0, (rd_T45 x255000 bt273.1).f1, (rd_T45 x255000 bt273.1).f2⟩ : S45)]), bt276.2.1, bt276.2.2)) else (none)) else (none)) else (none)) else (if bt276.1 = 2 then ((spec_l01Pick.f x1000 bt276.2.1 bt276.2.2 (([(⟨#[]⟩ : ByteArray), (⟨#[49, 50, 51, 52, 53, 54, 55, 56]⟩ : ByteArray), (⟨#[49, 50, 51, 52, 53, 54, 55, 56, 57]⟩ : ByteArray)] : List ByteArray))).bind fun bt294 => (if 0 ≤ bt273.1 then (if bt273.1 < (x255000.length : Int) then (some ((x255000.set (bt273.1 : Int).toNat (⟨bt294.1, (rd_T45 x255000 bt273.1).f1, (rd_T45 x255000 bt273.1).f2⟩ : S45)), bt294.2.1, bt294.2.2)) else (none)) else (none))) else (if bt276.1 = 3 then (spec_l03Disk.l1 k 0 x1000 bt276.2.1 bt276.2.2 (([] : List (S45)))) else (if bt276.1 = 4 then ((spec_l01Below.f x1000 bt276.2.1 bt276.2.2 3).bind fun bt308 => ((spec_l01Long.f k (wrap64 (19999 + bt308.1)) 65).bind fun t311 => (if 0 ≤ bt273.1 then (if bt273.1 < (x255000.length : Int) then (some ((x255000.set (bt273.1 : Int).toNat (⟨(rd_T45 x255000 bt273.1).f0, t311, (rd_T45 x255000 bt273.1).f2⟩ : S45)), bt308.2.1, bt308.2.2)) else (none)) else (none)))) else (some (x255000, bt276.2.1, bt276.2.2)))))))))))
def spec_l03Disk.l1 : Nat → Int → List Int → Int → Int → List (S45) → Option ((List (S45)) × Int × Int)
 | 0, _, _, _, _, _ => none
 | k + 1, x7, x1000, x1001, x1002, x255000 => (spec_l01Below.f x1000 x1001 x1002 2).bind fun bt301 => (if x7 < (wrap64 (30 + bt301.1)) then ((spec_Decimal.f k (wrap64 (100 + x7))).bind fun t304 => (if 1 + t304.size ≤ 9223372036854775807 then (if x255000.length < 3518437208883 then (spec_l03Disk.l1 k (wrap64 (x7 + 1)) x1000 bt301.2.1 bt301.2.2 (x255000 ++ [(⟨(⟨#[102]⟩ : ByteArray) ++ t304, (⟨#[]⟩ : ByteArray), 0⟩ : S45)])) else (none)) else (none))) else (some (x255000, bt301.2.1, bt301.2.2)))
end
def spec_l03Disk.f (k : Nat) (s0_0 : List Int) (s0_1 : Int) (s0_2 : Int) : Option ((List (S45)) × Int × Int) := spec_l03Disk.l0 k 0 s0_0 s0_1 s0_2 ([] : List (S45))
theorem spec_l03Disk.mono_l : ∀ k, (∀ y0 y1 y2 y3 y4, LeO (spec_l03Disk.l0 k y0 y1 y2 y3 y4) (spec_l03Disk.l0 (k + 1) y0 y1 y2 y3 y4)) ∧ (∀ y0 y1 y2 y3 y4, LeO (spec_l03Disk.l1 k y0 y1 y2 y3 y4) (spec_l03Disk.l1 (k + 1) y0 y1 y2 y3 y4))
 | 0 => ⟨fun _ _ _ _ _ r h => by simp [spec_l03Disk.l0] at h, fun _ _ _ _ _ r h => by simp [spec_l03Disk.l1] at h⟩
 | k + 1 => by
  obtain ⟨ih0, ih1⟩ := spec_l03Disk.mono_l k
  refine ⟨?_, ?_⟩
  ·intro y0 y1 y2 y3 y4
   unfold spec_l03Disk.l0
   repeat' first
   | (with_reducible exact ih0 _ _ _ _ _)
   | (with_reducible exact ih1 _ _ _ _ _)
   | (with_reducible exact spec_Decimal.mono _ _)
   | (with_reducible exact spec_l01Long.mono _ _ _)
   | (with_reducible exact spec_l01Text.mono _ _ _ _ _)
   | (with_reducible exact spec_l03Put.mono _ _ _ _ _)
   | (with_reducible exact LeO.refl _)
   | (with_reducible exact LeO.none _)
   | (with_reducible refine LeO.ite ?_ ?_)
   | (with_reducible refine LeO.bind ?_ (fun _ => ?_))
   | exact ih0 _ _ _ _ _
   | exact ih1 _ _ _ _ _
   | exact spec_Decimal.mono _ _
   | exact spec_l01Long.mono _ _ _
   | exact spec_l01Text.mono _ _ _ _ _
   | exact spec_l03Put.mono _ _ _ _ _
   | exact LeO.none _
   | refine LeO.ite ?_ ?_
   | refine LeO.bind ?_ (fun _ => ?_)
  ·intro y0 y1 y2 y3 y4
   unfold spec_l03Disk.l1
   repeat' first
   | (with_reducible exact ih0 _ _ _ _ _)
   | (with_reducible exact ih1 _ _ _ _ _)
   | (with_reducible exact spec_Decimal.mono _ _)
   | (with_reducible exact spec_l01Long.mono _ _ _)
   | (with_reducible exact spec_l01Text.mono _ _ _ _ _)
   | (with_reducible exact spec_l03Put.mono _ _ _ _ _)
   | (with_reducible exact LeO.refl _)
   | (with_reducible exact LeO.none _)
   | (with_reducible refine LeO.ite ?_ ?_)
   | (with_reducible refine LeO.bind ?_ (fun _ => ?_))
   | exact ih0 _ _ _ _ _
   | exact ih1 _ _ _ _ _
   | exact spec_Decimal.mono _ _
   | exact spec_l01Long.mono _ _ _
   | exact spec_l01Text.mono _ _ _ _ _
   | exact spec_l03Put.mono _ _ _ _ _
   | exact LeO.none _
   | refine LeO.ite ?_ ?_
   | refine LeO.bind ?_ (fun _ => ?_)
theorem spec_l03Disk.mono : ∀ a0 a1 a2 k, LeO (spec_l03Disk.f k a0 a1 a2) (spec_l03Disk.f (k + 1) a0 a1 a2) := by
 intro a0 a1 a2 k
 obtain ⟨ih0, ih1⟩ := spec_l03Disk.mono_l k
 unfold spec_l03Disk.f
 repeat' first
  | (with_reducible exact ih0 _ _ _ _ _)
  | (with_reducible exact ih1 _ _ _ _ _)
  | (with_reducible exact spec_Decimal.mono _ _)
  | (with_reducible exact spec_l01Long.mono _ _ _)
  | (with_reducible exact spec_l01Text.mono _ _ _ _ _)
  | (with_reducible exact spec_l03Put.mono _ _ _ _ _)
  | (with_reducible exact LeO.refl _)
  | (with_reducible exact LeO.none _)
  | (with_reducible refine LeO.ite ?_ ?_)
  | (with_reducible refine LeO.bind ?_ (fun _ => ?_))
  | exact ih0 _ _ _ _ _
  | exact ih1 _ _ _ _ _
  | exact spec_Decimal.mono _ _
  | exact spec_l01Long.mono _ _ _
  | exact spec_l01Text.mono _ _ _ _ _
  | exact spec_l03Put.mono _ _ _ _ _
  | exact LeO.none _
  | refine LeO.ite ?_ ?_
  | refine LeO.bind ?_ (fun _ => ?_)
def spec_l03Disk.T6 : Bool × List (List Nat × List Nat) := (true, [([], []), ([], []), ([1], [1]), ([], []), ([], []), ([], []), ([5], [5]), ([6], [6]), ([4, 7, 2], [4, 7]), ([2, 3, 8], [2, 3, 8]), ([0, 9, 8], [0, 9]), ([10, 10, 0, 1, 2, 3, 4, 5, 6, 7, 8, 9, 10], [10])])
def spec_l03Disk.B6 : List Nat := [0, 0, 2, 0, 0, 0, 32, 96, 246, 510, 1023, 2047]
theorem spec_l03Disk.tab6 : rtab .any (opsOf Try.f90 6) = spec_l03Disk.T6 := by kernel_rfl
theorem spec_l03Disk.bits6 : waitsOk spec_l03Disk.T6.2 spec_l03Disk.B6 = true := by kernel_rfl
def spec_l03Disk.T12 : Bool × List (List Nat × List Nat) := (true, [([], []), ([0], [0]), ([], []), ([], []), ([], []), ([4], [4]), ([], []), ([5, 6], [5, 6]), ([7], [7]), ([8], [8]), ([9], [9]), ([10], [10]), ([11], [11]), ([3, 12], [3, 12]), ([1, 2, 0, 1, 2, 3, 4, 5, 6, 7, 8, 9, 10, 11, 12, 13], [1, 2]), ([14, 0, 1, 2, 3, 4, 5, 6, 7, 8, 9, 10, 11, 12, 13], [14]), ([15, 13, 13, 0, 1, 2, 3, 4, 5, 6, 7, 8, 9, 10, 11, 12, 13], [13, 15])])
def spec_l03Disk.B12 : List Nat := [0, 1, 0, 0, 0, 16, 0, 112, 240, 496, 1008, 2032, 4080, 8184, 16383, 32767, 65535]
theorem spec_l03Disk.tab12 : rtab .any (opsOf Try.f90 12) = spec_l03Disk.T12 := by kernel_rfl
theorem spec_l03Disk.bits12 : waitsOk spec_l03Disk.T12.2 spec_l03Disk.B12 = true := by kernel_rfl
def spec_l03Disk.T14 : Bool × List (List Nat × List Nat) := (true, [([], []), ([0], [0]), ([], []), ([2], [2]), ([], []), ([3, 4], [3, 4]), ([5], [5]), ([6], [6]), ([1, 7], [1, 7]), ([0, 1, 2, 3, 4, 5, 6, 7, 8], []), ([9, 8, 8, 0, 1, 2, 3, 4, 5, 6, 7, 8], [8, 9])])
def spec_l03Disk.B14 : List Nat := [0, 1, 0, 4, 0, 28, 60, 124, 255, 511, 1023]
theorem spec_l03Disk.tab14 : rtab .any (opsOf Try.f90 14) = spec_l03Disk.T14 := by kernel_rfl
theorem spec_l03Disk.bits14 : waitsOk spec_l03Disk.T14.2 spec_l03Disk.B14 = true := by kernel_rfl
def spec_l03Disk.T16 : Bool × List (List Nat × List Nat) := (true, [([], []), ([0], [0]), ([], []), ([], []), ([], []), ([3, 4], [3, 4]), ([1, 2, 0, 1, 2, 3, 4, 5], [1, 2]), ([6, 0, 1, 2, 3, 4, 5], [6]), ([7, 5, 5, 0, 1, 2, 3, 4, 5], [5, 7])])
def spec_l03Disk.B16 : List Nat := [0, 1, 0, 0, 0, 24, 63, 127, 255]
theorem spec_l03Disk.tab16 : rtab .any (opsOf Try.f90 16) = spec_l03Disk.T16 := by kernel_rfl
theorem spec_l03Disk.bits16 : waitsOk spec_l03Disk.T16.2 spec_l03Disk.B16 = true := by kernel_rfl
def spec_l03Disk.T22 : Bool × List (List Nat × List Nat) := (true, [([], []), ([0], [0]), ([], []), ([2], [2]), ([3], [3]), ([4], [4]), ([5], [5]), ([6], [6]), ([1, 7, 4], [1, 7]), ([0, 1, 2, 3, 4, 5, 6, 7, 8], []), ([9, 8, 8, 0, 1, 2, 3, 4, 5, 6, 7, 8], [8, 9])])
def spec_l03Disk.B22 : List Nat := [0, 1, 0, 4, 12, 28, 60, 124, 255, 511, 1023]
theorem spec_l03Disk.tab22 : rtab .any (opsOf Try.f90 22) = spec_l03Disk.T22 := by kernel_rfl
theorem spec_l03Disk.bits22 : waitsOk spec_l03Disk.T22.2 spec_l03Disk.B22 = true := by kernel_rfl
def spec_l03Disk.T24 : Bool × List (List Nat × List Nat) := (true, [([], []), ([0], [0]), ([], []), ([], []), ([3], [3]), ([4], [4]), ([5, 4], [5]), ([1, 2, 0, 1, 2, 3, 4, 5, 6], [1, 2]), ([7, 0, 1, 2, 3, 4, 5, 6], [7]), ([8, 6, 6, 0, 1, 2, 3, 4, 5, 6], [6, 8])])
def spec_l03Disk.B24 : List Nat := [0, 1, 0, 0, 8, 24, 56, 127, 255, 511]
theorem spec_l03Disk.tab24 : rtab .any (opsOf Try.f90 24) = spec_l03Disk.T24 := by kernel_rfl
theorem spec_l03Disk.bits24 : waitsOk spec_l03Disk.T24.2 spec_l03Disk.B24 = true := by kernel_rfl
set_option maxHeartbeats 8000000 in
set_option maxRecDepth 100000 in
theorem spec_l03Disk.calls (k : Nat) (g : Nat) (s0_0 : List Int) (s0_1 : Int) (s0_2 : Int) (r1 : List (S45)) (r2 : Int) (r3 : Int) (w0 w : World) (hI : IsS139 w0 w g s0_0 s0_1 s0_2) (hB : Below w0.heap.size w0 w) (h : spec_l03Disk.f k s0_0 s0_1 s0_2 = some (r1, r2, r3)) :
 Calls Try.prog 90 #[.pointer (some ⟨g, 0, none⟩)] w fun e w' => ∃ v0_ : Value, e = .returned (.agg #[v0_]) ∧ Kd.R k45 45 w' w.heap.size (fun _ => True) v0_ r1 ∧ IsS139 w0 w' g s0_0 r2 r3 ∧ Below w0.heap.size w0 w' ∧ KeepBut w w' g none := by
 have hu30 := Try.underlying30
 have hu45 := Try.underlying45
 have HI0 := aM hI
 have HK := aM (KeepBut.refl w g none)
 have HL := aM hB.size
 clear hI
 have HW0 := aM hB.size
 have HB := aM hB
 clear hB
 have H : (spec_l03Disk.l0 k 0 s0_0 s0_1 s0_2 ([] : List (S45))) = some (r1, r2, r3) := h
 clear h
 have H' := aM H
 clear H
 go_enter Try.func90, Try.ntmps90
 go_wp2_with (first | ((with_reducible refine gate_dst (N := 2) rfl ?_); refine bxE 2 #[.slice none 0 0] 30 ?_; intro gb253 hg w2 hbox hb; have BK253 := aM (hbox); have GW253 := aM ((by rw [hg]; exact (keep_size (w := w) (g := g) (row := none) (q1_ HK)) : w.heap.size ≤ gb253)); have GE253 := aM ((Nat.le_trans HW0.out (by rw [hg]; exact (keep_size (w := w) (g := g) (row := none) (q1_ HK)) : w.heap.size ≤ gb253) : w0.heap.size ≤ gb253)); have NB0_253 := aM ((by rw [hg]; exact Nat.ne_of_lt (IsS139.lt (show IsS139 w0 _ g s0_0 s0_1 s0_2 from (q2_ HI0))) : g ≠ gb253)); have NB253_0 := aM ((by rw [hg]; exact Nat.ne_of_gt (IsS139.lt (show IsS139 w0 _ g s0_0 s0_1 s0_2 from (q2_ HI0))) : gb253 ≠ g)); replace HK := aM (KeepBut.trans (q1_ HK) (KeepBut.of_below hb g none) (.inl rfl)); replace HB := aM (below_step (q3_ HB HI0) hb); replace HI0 := aM (IsS139.below (q2_ HI0) hb); clear hb hbox hg) | ((with_reducible refine gate_dst (N := 3) rfl ?_); refine bxE 3 #[.slice none 0 0] 30 ?_; intro gb254 hg w3 hbox hb; have BK254 := aM (hbox); have GW254 := aM ((by rw [hg]; exact (keep_size (w := w) (g := g) (row := none) (q4_ HK GW253)) : w.heap.size ≤ gb254)); have GE254 := aM ((Nat.le_trans HW0.out (by rw [hg]; exact (keep_size (w := w) (g := g) (row := none) (q4_ HK GW253)) : w.heap.size ≤ gb254) : w0.heap.size ≤ gb254)); have NB253_254 := neL hg BK253; have NB254_253 := neG hg BK253; have NB0_254 := aM ((by rw [hg]; exact Nat.ne_of_lt (IsS139.lt (show IsS139 w0 _ g s0_0 s0_1 s0_2 from (q5_ HI0 NB0_253))) : g ≠ gb254)); have NB254_0 := aM ((by rw [hg]; exact Nat.ne_of_gt (IsS139.lt (show IsS139 w0 _ g s0_0 s0_1 s0_2 from (q5_ HI0 NB0_253))) : gb254 ≠ g)); replace BK253 := blkB BK253 hb; replace HK := aM (KeepBut.trans (q4_ HK GW253) (KeepBut.of_below hb g none) (.inl rfl)); replace HB := aM (below_step (q6_ HB HI0 GE253) hb); replace HI0 := aM (IsS139.below (q5_ HI0 NB0_253) hb); clear hb hbox hg; have hnb4 := NB254_253.out; have hnc4 := NB253_254.out; have hnb5 := NB254_0.out; have hnc5 := NB0_254.out; have hcz6_0 := czA BK254.out 0 (.slice none 0 0); have hfz6_0 := blk_frozen BK254.out 0))
 go_loopg [4] k (fun kq v4 w' => ∃ (x4_1 : Int) (x1001_1 : Int) (x1002_1 : Int) (x255000_1 : List (S45)) (u255000 : Value), v4 = .int .i64 x4_1 ∧ Aside0 (spec_l03Disk.l0 kq x4_1 s0_0 x1001_1 x1002_1 x255000_1 = some (r1, r2, r3)) ∧ Aside0 (kq ≤ k) ∧ Aside0 (Kd.R k45 45 w' w.heap.size (fun _ => True) u255000 x255000_1) ∧ Aside0 (w'.heap[gb253]? = some (.cells #[(.slice none 0 0)] 30 (0, 0))) ∧ Aside0 (w'.heap[gb254]? = some (.cells #[u255000] 30 (0, 0))) ∧ Aside0 (IsS139 w0 w' g s0_0 x1001_1 x1002_1) ∧ Aside0 (KeepBut w w' g none) ∧ Aside0 (Below w0.heap.size w0 w'))
 case atStart => exact ⟨(0), (s0_1), (s0_2), (([] : List (S45))), (.slice none 0 0), (by first | rfl | (simp; done) | (simp [*]; done)), H', ⟨Nat.le_refl _⟩, ⟨by first | exact Kd.R_nil _ _ _ _ _ | exact Kd.N_nil _ _ _ _ _ | exact Kd.V_nil _ _ _ _ _ | exact Kd.Q_nil _ _ _ _ _ | exact Kd.S_nil _ _ _ _ _⟩, ⟨by refine nB ?_; refine blk_far ?_ NB253_254.out _; exact nB BK253.out⟩, ⟨by refine nB ?_; refine blk_put (cs := #[.slice none 0 0]) ?_ 0 _ rfl; exact nB BK254.out⟩, ⟨q7_ HI0 NB0_253 NB0_254⟩, ⟨q8_ HK GW253 GW254⟩, ⟨q9_ HB HI0 GE253 GE254⟩⟩
 case round =>
  clear H'
  try clear p2; try clear c4; try clear c5; try clear hcz6_0; try clear hfz6_0
  obtain ⟨x4_1, x1001_1, x1002_1, x255000_1, u255000, rfl, HA, HK1, HO_255000, BK253, BK254, HI0, HK, HB⟩ := hrel
  cases gk with
  | zero => exact absurd HA.out (by simp [spec_l03Disk.l0])
  | succ k1 =>
   have H := HA.out
   clear HA
   simp only [spec_l03Disk.l0] at H
   replace H := Option.bind_eq_some_iff.mp H
   obtain ⟨⟨t255, t256, t257⟩, A70, H⟩ := H
   try dsimp only at H
   have A7 := aM A70
   clear A70
   by_cases c8 : x4_1 < t255
   ·rw [if_pos c8] at H
    have c8b0 : decide (x4_1 < t255) = true := decide_eq_true c8
    clear c8
    replace H := Option.bind_eq_some_iff.mp H
    obtain ⟨⟨t258, t259, t260⟩, A90, H⟩ := H
    try dsimp only at H
    have A9 := aM A90
    clear A90
    replace H := Option.bind_eq_some_iff.mp H
    obtain ⟨⟨t261, t262, t263⟩, A100, H⟩ := H
    try dsimp only at H
    have A10 := aM A100
    clear A100
    replace H := Option.bind_eq_some_iff.mp H
    obtain ⟨⟨t264, t265, t266⟩, A110, H⟩ := H
    try dsimp only at H
    have A11 := aM A110
    clear A110
    replace H := Option.bind_eq_some_iff.mp H
    obtain ⟨⟨t267, t268, t269⟩, A120, H⟩ := H
    try dsimp only at H
    have A12 := aM A120
    clear A120
    replace H := Option.bind_eq_some_iff.mp H
    obtain ⟨t270, A130, H⟩ := H
    replace H : (spec_l03Disk.l0 k1 (wrap64 (x4_1 + 1)) s0_0 t268 t269 t270) = some (r1, r2, r3) := H
    have A13 := aM A130
    clear A130
    have H' := aM H
    clear H
    try go_wp2_with (first | ((with_reducible refine gate_callee (f := 77) rfl ?_); refine gL (some 11) Try.func77 #[.pointer (some ⟨g, 0, none⟩), .int .i64 6] ?_; (with_reducible refine (spec_l01Below.calls g s0_0 x1001_1 x1002_1 6 t255 t256 t257 w0 _ ?side1 ?side2 A7.out).mono ?_); (case side1 => exact q7_ HI0 NB0_253 NB0_254); (case side2 => exact q9_ HB HI0 GE253 GE254); rintro e w14 ⟨rfl, hi, hb, hk⟩; refine ⟨_, rfl, ?_⟩; replace HO_255000 := aM (Kd.R_mono (Kd.R_keep (IsS139.apart (show IsS139 w0 _ g s0_0 x1001_1 x1002_1 from (q7_ HI0 NB0_253 NB0_254)) (uR HO_255000) (by decide)) hk (fun _ h => h.2)) (fun _ h => h.1)); replace BK253 := aM (KeepBut.blk hk (g' := gb253) (o := .cells #[.slice none 0 0] 30 (0, 0)) (uB BK253) NB253_0.out (by simp)); replace BK254 := aM (KeepBut.blk hk (g' := gb254) (o := .cells #[u255000] 30 (0, 0)) (uB BK254) NB254_0.out (by simp)); replace HK := aM (KeepBut.trans (q8_ HK GW253 GW254) hk (.inl rfl)); replace HB := aM (hb); replace HI0 := aM (hi); try clear hb hk hi) | ((with_reducible refine gate_callee (f := 77) rfl ?_); refine gL (some 17) Try.func77 #[.pointer (some ⟨g, 0, none⟩), .int .i64 9] ?_; (with_reducible refine (spec_l01Below.calls g s0_0 t256 t257 9 t258 t259 t260 w0 _ ?side1 ?side2 A9.out).mono ?_); (case side1 => exact q7_ HI0 NB0_253 NB0_254); (case side2 => exact q9_ HB HI0 GE253 GE254); rintro e w15 ⟨rfl, hi, hb, hk⟩; refine ⟨_, rfl, ?_⟩; replace HO_255000 := aM (Kd.R_mono (Kd.R_keep (IsS139.apart (show IsS139 w0 _ g s0_0 t256 t257 from (q7_ HI0 NB0_253 NB0_254)) (uR HO_255000) (by decide)) hk (fun _ h => h.2)) (fun _ h => h.1)); replace BK253 := aM (KeepBut.blk hk (g' := gb253) (o := .cells #[.slice none 0 0] 30 (0, 0)) (uB BK253) NB253_0.out (by simp)); replace BK254 := aM (KeepBut.blk hk (g' := gb254) (o := .cells #[u255000] 30 (0, 0)) (uB BK254) NB254_0.out (by simp)); replace HK := aM (KeepBut.trans (q8_ HK GW253 GW254) hk (.inl rfl)); replace HB := aM (hb); replace HI0 := aM (hi); try clear hb hk hi) | ((with_reducible refine gate_callee (f := 78) rfl ?_); refine gL (some 18) Try.func78 #[.pointer (some ⟨g, 0, none⟩), .int .i64 t258] ?_; (with_reducible refine (spec_l01Text.calls k1 g s0_0 t259 t260 t258 t261 t262 t263 w0 _ ?side1 ?side2 A10.out).mono ?_); (case side1 => exact q7_ HI0 NB0_253 NB0_254); (case side2 => exact q9_ HB HI0 GE253 GE254); rintro e w16 ⟨rfl, hi, hb, hk⟩; refine ⟨_, rfl, ?_⟩; replace HO_255000 := aM (Kd.R_mono (Kd.R_keep (IsS139.apart (show IsS139 w0 _ g s0_0 t259 t260 from (q7_ HI0 NB0_253 NB0_254)) (uR HO_255000) (by decide)) hk (fun _ h => h.2)) (fun _ h => h.1)); replace BK253 := aM (KeepBut.blk hk (g' := gb253) (o := .cells #[.slice none 0 0] 30 (0, 0)) (uB BK253) NB253_0.out (by simp)); replace BK254 := aM (KeepBut.blk hk (g' := gb254) (o := .cells #[u255000] 30 (0, 0)) (uB BK254) NB254_0.out (by simp)); replace HK := aM (KeepBut.trans (q8_ HK GW253 GW254) hk (.inl rfl)); replace HB := aM (hb); replace HI0 := aM (hi); try clear hb hk hi))
    replace HO_255000 := aM (Kd.R_drew HO_255000.out)
    replace BK253 := aM (blk_drew BK253.out)
    replace BK254 := aM (blk_drew BK254.out)
    replace HI0 := aM (IsS139.drew HI0.out)
    replace HK := aM (keep_drew HK.out)
    replace HB := aM (below_drew1 HB.out)
    refine start_ (n := 12) (S := fun w' => w'.cell? ⟨gb254, 0, none⟩ = some (u255000)) (ds := [11]) (bB 12 0) (by kernel_rfl) rfl rfl ((blk_cell BK254.out 0).trans rfl) (fun hHeld => ?_); refine with_tabW spec_l03Disk.tab6 spec_l03Disk.bits6 (fun HT_ HW_ => ?_)
    generalize w16.drew = w17 at HO_255000 BK253 BK254 HI0 HK HB hHeld ⊢
    refine pA HT_.out 1 20 12 2 ?_; refine pA HT_.out 3 22 12 10 ?_; refine pA HT_.out 4 23 12 26 ?_; refine pA HT_.out 5 24 12 58 ?_; refine pA HT_.out 6 25 12 122 ?_; refine pA HT_.out 7 26 12 250 ?_; refine tA HT_.out HW_.out 0 19 12 251 hHeld ?_
    refine oA HT_.out 2 (some 21) 12 255 (fun K hK => ?_)
    refine gX Try.func80 #[.pointer (some ⟨g, 0, none⟩)] ?_
    with_reducible refine (spec_l03Named.calls g s0_0 t262 t263 t264 t265 t266 w0 _ ?side1 ?side2 A11.out).mono ?_
    (case side1 => exact q7_ HI0 NB0_253 NB0_254)
    (case side2 => exact q9_ HB HI0 GE253 GE254)
    rintro e w18 ⟨rfl, hi, hb, hk⟩
    refine ⟨_, rfl, ?_⟩
    replace HO_255000 := aM (Kd.R_mono (Kd.R_keep (IsS139.apart (show IsS139 w0 _ g s0_0 t262 t263 from (q7_ HI0 NB0_253 NB0_254)) (uR HO_255000) (by decide)) hk (fun _ h => h.2)) (fun _ h => h.1))
    replace BK253 := aM (KeepBut.blk hk (g' := gb253) (o := .cells #[.slice none 0 0] 30 (0, 0)) (uB BK253) NB253_0.out (by simp))
    replace BK254 := aM (KeepBut.blk hk (g' := gb254) (o := .cells #[u255000] 30 (0, 0)) (uB BK254) NB254_0.out (by simp))
    replace HK := aM (KeepBut.trans (q8_ HK GW253 GW254) hk (.inl rfl))
    replace HB := aM (hb)
    replace HI0 := aM (hi)
    (try clear hb)
    (try clear hb2)
    (try clear hk)
    (try clear hi)
    refine hK.out _ _ ((blk_cell BK254.out 0).trans rfl) (fun hHeld => ?_)
    clear hK K
    refine nX 21 ?_
    refine oA HT_.out 8 (some 27) 12 511 (fun K hK => ?_)
    refine gX Try.func77 #[.pointer (some ⟨g, 0, none⟩), .int .i64 (wrap64 ((t261.size : Int) + 1))] ?_
    with_reducible refine (spec_l01Below.calls g s0_0 t265 t266 (wrap64 ((t261.size : Int) + 1)) t267 t268 t269 w0 _ ?side1 ?side2 A12.out).mono ?_
    (case side1 => exact q7_ HI0 NB0_253 NB0_254)
    (case side2 => exact q9_ HB HI0 GE253 GE254)
    rintro e w19 ⟨rfl, hi, hb, hk⟩
    refine ⟨_, rfl, ?_⟩
    replace HO_255000 := aM (Kd.R_mono (Kd.R_keep (IsS139.apart (show IsS139 w0 _ g s0_0 t265 t266 from (q7_ HI0 NB0_253 NB0_254)) (uR HO_255000) (by decide)) hk (fun _ h => h.2)) (fun _ h => h.1))
    replace BK253 := aM (KeepBut.blk hk (g' := gb253) (o := .cells #[.slice none 0 0] 30 (0, 0)) (uB BK253) NB253_0.out (by simp))
    replace BK254 := aM (KeepBut.blk hk (g' := gb254) (o := .cells #[u255000] 30 (0, 0)) (uB BK254) NB254_0.out (by simp))
    replace HK := aM (KeepBut.trans (q8_ HK GW253 GW254) hk (.inl rfl))
    replace HB := aM (hb)
    replace HI0 := aM (hi)
    (try clear hb)
    (try clear hb2)
    (try clear hk)
    (try clear hi)
    obtain ⟨Ao20, co20, eo20⟩ := Kd.R_slice HO_255000.out
    (first | subst eo20 | (injection eo20 with f1_ f2_ f3_; have f4_ := f1_.symm; have f5_ := f3_.symm; clear f1_ f2_ f3_; subst f4_; subst f5_))
    refine hK.out _ _ ((blk_cell BK254.out 0).trans rfl) (fun hHeld => ?_)
    clear hK K
    refine nX 27 ?_; refine pA HT_.out 9 28 12 1023 ?_
    refine oA HT_.out 10 (some 29) 12 2047 (fun K hK => ?_)
    refine gX Try.func79 #[.agg #[.slice Ao20 x255000_1.length co20], .agg #[.string t264, .string t261, .int .i64 t267]] ?_
    with_reducible refine (spec_l03Put.calls k1 _ _ x255000_1 t264 t261 t267 t270 _ ?side1 ?side2 A13.out).mono ?_
    (case side1 => repeat (first | exact (Kd.R_reads' HO_255000.out).2.2 | (with_reducible refine cA ?_ _) | (with_reducible refine cN ?_ _) | (with_reducible refine cD ?_)))
    (case side2 => exact (Kd.R_reads' HO_255000.out).2.1)
    rintro e w21 ⟨v271, rfl, ho0, hb⟩
    refine ⟨_, rfl, ?_⟩
    have HO272 := aM (Kd.R_lower (Kd.R_new' ho0 (Kd.R_lt (uR HO_255000))) (keep_size (w := w) (g := g) (row := none) (q8_ HK GW253 GW254)))
    replace HO_255000 := aM (Kd.R_elder' (uR HO_255000) (Kd.R_base ho0) hb)
    replace BK253 := blkB BK253 hb
    replace BK254 := blkB BK254 hb
    replace HK := aM (KeepBut.trans (q8_ HK GW253 GW254) (KeepBut.of_below hb g none) (.inl rfl))
    replace HB := aM (below_step (q9_ HB HI0 GE253 GE254) hb)
    replace HI0 := aM (IsS139.below (q7_ HI0 NB0_253 NB0_254) hb)
    (try clear hb)
    (try clear hb2)
    (try clear hk)
    (try clear hi)
    (try clear ho0)
    obtain ⟨Ao22, co22, eo22⟩ := Kd.R_slice HO272.out
    (first | subst eo22 | (injection eo22 with f1_ f2_ f3_; have f4_ := f1_.symm; have f5_ := f3_.symm; clear f1_ f2_ f3_; subst f4_; subst f5_))
    refine hK.out _ _ ((blk_cell BK254.out 0).trans rfl) (fun hHeld => ?_)
    clear hK K
    refine nX 29 ?_
    refine last_ (i := 11) (N := none) (bB 12 4095) rfl rfl (one_of HT_.out (by kernel_rfl)) (by decide) (fun K hK => ?_)
    have hs23 := czA BK254.out 0 (.slice Ao20 x255000_1.length co20)
    have hfs23 := blk_frozen BK254.out 0; have hns23_0 := NB253_254.out; have hms23_0 := NB254_253.out
    refine skip_ (w1 := ?_) (by rfl) rfl ?_ ?_
    rotate_left
    ·go_simp
     rfl
    refine hK.out _ _ ?_
    clear hK K
    refine done_ (done_of HT_.out (by kernel_rfl)) ?_
    try go_wp2
    go_roundg k1
    case measure => have := HK1.out; omega
    case rel => exact ⟨(wrap64 (x4_1 + 1)), (t268), (t269), (t270), (.slice Ao22 t270.length co22), (by first | rfl | (simp; done) | (simp [*]; done)), H', ⟨by have := HK1.out; omega⟩, ⟨by (with_reducible repeat first | apply rA | apply rN | apply rD); exact Kd.R_mono (Kd.R_far (p := ⟨gb254, 0, none⟩) (Kd.R_types HO272.out BK254.out (by decide)) (fun _ hk => hk.2) (.slice Ao22 t270.length co22)) (fun _ hk => trivial)⟩, ⟨by refine nB ?_; refine blk_far ?_ NB253_254.out _; exact nB BK253.out⟩, ⟨by refine nB ?_; refine blk_put (cs := #[.slice Ao20 x255000_1.length co20]) ?_ 0 _ rfl; exact nB BK254.out⟩, ⟨q7_ HI0 NB0_253 NB0_254⟩, ⟨q8_ HK GW253 GW254⟩, ⟨q9_ HB HI0 GE253 GE254⟩⟩
   ·rw [if_neg c8] at H
    have c8b0 : decide (x4_1 < t255) = false := decide_eq_false c8
    clear c8
    by_cases c24 : (x255000_1.length : Int) = 0
    ·rw [if_pos c24] at H
     have c24b0 : ((x255000_1.length : Int) == 0) = true := beq_iff_eq.mpr c24
     have c24b1 : ((x255000_1.length : Int) != 0) = false := bne_eq_false_iff_eq.mpr c24
     clear c24
     simp only [Option.some.injEq, Prod.mk.injEq] at H
     obtain ⟨rfl, rfl, rfl⟩ := H
     go_wp2_with (first | ((with_reducible refine gate_callee (f := 77) rfl ?_); refine gL (some 11) Try.func77 #[.pointer (some ⟨g, 0, none⟩), .int .i64 6] ?_; (with_reducible refine (spec_l01Below.calls g s0_0 x1001_1 x1002_1 6 t255 t256 t257 w0 _ ?side1 ?side2 A7.out).mono ?_); (case side1 => exact q7_ HI0 NB0_253 NB0_254); (case side2 => exact q9_ HB HI0 GE253 GE254); rintro e w25 ⟨rfl, hi, hb, hk⟩; refine ⟨_, rfl, ?_⟩; replace HO_255000 := aM (Kd.R_mono (Kd.R_keep (IsS139.apart (show IsS139 w0 _ g s0_0 x1001_1 x1002_1 from (q7_ HI0 NB0_253 NB0_254)) (uR HO_255000) (by decide)) hk (fun _ h => h.2)) (fun _ h => h.1)); replace BK253 := aM (KeepBut.blk hk (g' := gb253) (o := .cells #[.slice none 0 0] 30 (0, 0)) (uB BK253) NB253_0.out (by simp)); replace BK254 := aM (KeepBut.blk hk (g' := gb254) (o := .cells #[u255000] 30 (0, 0)) (uB BK254) NB254_0.out (by simp)); replace HK := aM (KeepBut.trans (q8_ HK GW253 GW254) hk (.inl rfl)); replace HB := aM (hb); replace HI0 := aM (hi); try clear hb hk hi; have hnb26 := NB254_253.out; have hnc26 := NB253_254.out; have hnb27 := NB254_0.out; have hnc27 := NB0_254.out; have hcz28_0 := czA BK254.out 0 (u255000); have hfz28_0 := blk_frozen BK254.out 0; obtain ⟨Ao29, co29, eo29⟩ := Kd.R_slice HO_255000.out; subst eo29; have hnb30 := NB253_0.out; have hnc30 := NB0_253.out; have hcz31_0 := czA BK253.out 0 (.slice none 0 0); have hfz31_0 := blk_frozen BK253.out 0))
     refine bodyPost_ret (results_cell_row rfl _ _ gb253 30 #[.slice Ao29 x255000_1.length co29] (0, 0) _ rfl (by refine nB ?_; refine blk_put (cs := #[.slice none 0 0]) ?_ 0 _ rfl; exact nB BK253.out) Try.underlying30 rfl (by kernel_rfl)) rfl ?_
     exact ⟨_, by first | rfl | (simp [errW_none, errW_some] <;> rfl) | (simp [*, errW_none, errW_some] <;> rfl), by (with_reducible repeat first | apply rA | apply rN | apply rD); exact Kd.R_mono (Kd.R_far (p := ⟨gb253, 0, none⟩) (Kd.R_types HO_255000.out BK253.out (by decide)) (fun _ hk => hk.2) (.slice Ao29 x255000_1.length co29)) (fun _ hk => trivial), q7_ HI0 NB0_253 NB0_254, q9_ HB HI0 GE253 GE254, q8_ HK GW253 GW254⟩
    ·rw [if_neg c24] at H
     have c24b0 : ((x255000_1.length : Int) == 0) = false := beq_eq_false_iff_ne.mpr c24
     have c24b1 : ((x255000_1.length : Int) != 0) = true := bne_iff_ne.mpr c24
     have c24b2 : ¬ (x255000_1 = []) := fun h_ => c24 (by rw [h_]; rfl)
     replace H := Option.bind_eq_some_iff.mp H
     obtain ⟨⟨t273, t274, t275⟩, A320, H⟩ := H
     try dsimp only at H
     have A32 := aM A320
     clear A320
     replace H := Option.bind_eq_some_iff.mp H
     obtain ⟨⟨t276, t277, t278⟩, A330, H⟩ := H
     try dsimp only at H
     have A33 := aM A330
     clear A330
     by_cases c34 : t276 = 0
     ·rw [if_pos c34] at H
      have c34b0 : (t276 == 0) = true := beq_iff_eq.mpr c34
      have c34b1 : (t276 != 0) = false := bne_eq_false_iff_eq.mpr c34
      clear c34
      by_cases c35 : 0 ≤ t273
      ·rw [if_pos c35] at H
       have c35b0 : decide (0 ≤ t273) = true := decide_eq_true c35
       clear c35
       by_cases c36 : t273 < (x255000_1.length : Int)
       ·rw [if_pos c36] at H
        have c36b0 : decide (t273 < (x255000_1.length : Int)) = true := decide_eq_true c36
        clear c36
        obtain ⟨y280, hy280⟩ : ∃ y_ : List Int, y_ = (([(-1), wrap64 ((((rd_T45 x255000_1 t273).f1).size : Int) + 1)] : List Int)) := ⟨_, rfl⟩
        replace H : ((spec_l01PickInt.f s0_0 t277 t278 y280).bind fun bt283 => (some ((x255000_1.set (t273 : Int).toNat (⟨(rd_T45 x255000_1 t273).f0, (rd_T45 x255000_1 t273).f1, bt283.1⟩ : S45)), bt283.2.1, bt283.2.2))) = some (r1, r2, r3) := by first | (rw [hy280]; with_reducible exact H) | (have H2_ := (Option.bind_some _ _).symm.trans H; rw [hy280]; with_reducible exact H2_) | (have H2_ := (Option.bind_some _ _).symm.trans H; with_reducible exact H2_) | with_reducible exact H | (rw [hy280]; exact H) | exact H
        have Ny280 := aM hy280
        clear hy280
        replace H := Option.bind_eq_some_iff.mp H
        obtain ⟨⟨t283, t284, t285⟩, A370, H⟩ := H
        try dsimp only at H
        have A37 := aM A370
        clear A370
        obtain ⟨y286, hy286⟩ : ∃ y_ : List (S45), y_ = (x255000_1.set (t273 : Int).toNat (⟨(rd_T45 x255000_1 t273).f0, (rd_T45 x255000_1 t273).f1, t283⟩ : S45)) := ⟨_, rfl⟩
        replace H : (some (y286, t284, t285)) = some (r1, r2, r3) := by first | (rw [hy286]; with_reducible exact H) | (have H2_ := (Option.bind_some _ _).symm.trans H; rw [hy286]; with_reducible exact H2_) | (have H2_ := (Option.bind_some _ _).symm.trans H; with_reducible exact H2_) | with_reducible exact H | (rw [hy286]; exact H) | exact H
        have Ny286 := aM hy286
        clear hy286
        simp only [Option.some.injEq, Prod.mk.injEq] at H
        obtain ⟨rfl, rfl, rfl⟩ := H
        try go_wp2_with (first | ((with_reducible refine gate_callee (f := 77) rfl ?_); refine gL (some 11) Try.func77 #[.pointer (some ⟨g, 0, none⟩), .int .i64 6] ?_; (with_reducible refine (spec_l01Below.calls g s0_0 x1001_1 x1002_1 6 t255 t256 t257 w0 _ ?side1 ?side2 A7.out).mono ?_); (case side1 => exact q7_ HI0 NB0_253 NB0_254); (case side2 => exact q9_ HB HI0 GE253 GE254); rintro e w39 ⟨rfl, hi, hb, hk⟩; refine ⟨_, rfl, ?_⟩; replace HO_255000 := aM (Kd.R_mono (Kd.R_keep (IsS139.apart (show IsS139 w0 _ g s0_0 x1001_1 x1002_1 from (q7_ HI0 NB0_253 NB0_254)) (uR HO_255000) (by decide)) hk (fun _ h => h.2)) (fun _ h => h.1)); replace BK253 := aM (KeepBut.blk hk (g' := gb253) (o := .cells #[.slice none 0 0] 30 (0, 0)) (uB BK253) NB253_0.out (by simp)); replace BK254 := aM (KeepBut.blk hk (g' := gb254) (o := .cells #[u255000] 30 (0, 0)) (uB BK254) NB254_0.out (by simp)); replace HK := aM (KeepBut.trans (q8_ HK GW253 GW254) hk (.inl rfl)); replace HB := aM (hb); replace HI0 := aM (hi); try clear hb hk hi; have hnb40 := NB254_253.out; have hnc40 := NB253_254.out; have hnb41 := NB254_0.out; have hnc41 := NB0_254.out; have hcz42_0 := czA BK254.out 0 (u255000); have hfz42_0 := blk_frozen BK254.out 0; obtain ⟨Ao43, co43, eo43⟩ := Kd.R_slice HO_255000.out; subst eo43) | ((with_reducible refine gate_callee (f := 77) rfl ?_); refine gL (some 39) Try.func77 #[.pointer (some ⟨g, 0, none⟩), .int .i64 (x255000_1.length : Int)] ?_; (with_reducible refine (spec_l01Below.calls g s0_0 t256 t257 (x255000_1.length : Int) t273 t274 t275 w0 _ ?side1 ?side2 A32.out).mono ?_); (case side1 => exact q7_ HI0 NB0_253 NB0_254); (case side2 => exact q9_ HB HI0 GE253 GE254); rintro e w44 ⟨rfl, hi, hb, hk⟩; refine ⟨_, rfl, ?_⟩; replace HO_255000 := aM (Kd.R_mono (Kd.R_keep (IsS139.apart (show IsS139 w0 _ g s0_0 t256 t257 from (q7_ HI0 NB0_253 NB0_254)) (uR HO_255000) (by decide)) hk (fun _ h => h.2)) (fun _ h => h.1)); replace BK253 := aM (KeepBut.blk hk (g' := gb253) (o := .cells #[.slice none 0 0] 30 (0, 0)) (uB BK253) NB253_0.out (by simp)); replace BK254 := aM (KeepBut.blk hk (g' := gb254) (o := .cells #[.slice Ao43 x255000_1.length co43] 30 (0, 0)) (uB BK254) NB254_0.out (by simp)); replace HK := aM (KeepBut.trans (q8_ HK GW253 GW254) hk (.inl rfl)); replace HB := aM (hb); replace HI0 := aM (hi); try clear hb hk hi) | ((with_reducible refine gate_callee (f := 77) rfl ?_); refine gL (some 41) Try.func77 #[.pointer (some ⟨g, 0, none⟩), .int .i64 40] ?_; (with_reducible refine (spec_l01Below.calls g s0_0 t274 t275 40 t276 t277 t278 w0 _ ?side1 ?side2 A33.out).mono ?_); (case side1 => exact q7_ HI0 NB0_253 NB0_254); (case side2 => exact q9_ HB HI0 GE253 GE254); rintro e w45 ⟨rfl, hi, hb, hk⟩; refine ⟨_, rfl, ?_⟩; replace HO_255000 := aM (Kd.R_mono (Kd.R_keep (IsS139.apart (show IsS139 w0 _ g s0_0 t274 t275 from (q7_ HI0 NB0_253 NB0_254)) (uR HO_255000) (by decide)) hk (fun _ h => h.2)) (fun _ h => h.1)); replace BK253 := aM (KeepBut.blk hk (g' := gb253) (o := .cells #[.slice none 0 0] 30 (0, 0)) (uB BK253) NB253_0.out (by simp)); replace BK254 := aM (KeepBut.blk hk (g' := gb254) (o := .cells #[.slice Ao43 x255000_1.length co43] 30 (0, 0)) (uB BK254) NB254_0.out (by simp)); replace HK := aM (KeepBut.trans (q8_ HK GW253 GW254) hk (.inl rfl)); replace HB := aM (hb); replace HI0 := aM (hi); try clear hb hk hi))
        replace HO_255000 := aM (Kd.R_drew HO_255000.out)
        replace BK253 := aM (blk_drew BK253.out)
        replace BK254 := aM (blk_drew BK254.out)
        replace HI0 := aM (IsS139.drew HI0.out)
        replace HK := aM (keep_drew HK.out)
        replace HB := aM (below_drew1 HB.out)
        have p279 : 0 ≤ (t273 : Int) := of_decide_eq_true (by first | (with_reducible assumption) | assumption)
        have q279 : t273 < (x255000_1.length : Int) := of_decide_eq_true (by first | (with_reducible assumption) | assumption)
        obtain ⟨ad279, e279, hx279_0, hx279_1, hx279_2⟩ := at_T45 (Kd.R_reads' HO_255000.out).2.2 t273 p279 q279
        cases e279
        replace p279 := eq_true p279; replace q279 := eq_true q279
        refine start_ (n := 17) (S := fun w' => w'.cell? ⟨gb254, 0, none⟩ = some (.slice (some ad279) x255000_1.length co43) ∧ w'.cell? (ad279.add ((t273).toNat * 3)) = some (.string ((rd_T45 x255000_1 t273).f0)) ∧ w'.cell? ⟨(ad279.add ((t273).toNat * 3)).block, (ad279.add ((t273).toNat * 3)).off + 1, none⟩ = some (.string ((rd_T45 x255000_1 t273).f1)) ∧ w'.cell? ⟨(ad279.add ((t273).toNat * 3)).block, (ad279.add ((t273).toNat * 3)).off + 2, none⟩ = some (.int .i64 ((rd_T45 x255000_1 t273).f2))) (ds := [16]) (bB 17 0) (by kernel_rfl) rfl rfl ⟨(blk_cell BK254.out 0).trans rfl, hx279_0, hx279_1, hx279_2⟩ (fun hHeld => ?_); refine with_tabW spec_l03Disk.tab12 spec_l03Disk.bits12 (fun HT_ HW_ => ?_)
        generalize w45.drew = w46 at HO_255000 BK253 BK254 HI0 HK HB hx279_0 hx279_1 hx279_2 hHeld ⊢
        refine pA HT_.out 0 44 17 1 ?_; refine pA HT_.out 2 46 17 5 ?_; refine pA HT_.out 3 47 17 13 ?_; refine pA HT_.out 4 48 17 29 ?_; refine pA HT_.out 6 50 17 93 ?_; refine tA HT_.out HW_.out 1 45 17 95 hHeld ?_; refine tA HT_.out HW_.out 5 49 17 127 hHeld ?_; refine pA HT_.out 7 51 17 255 ?_; refine pA HT_.out 8 52 17 511 ?_; refine tA HT_.out HW_.out 9 53 17 1023 hHeld ?_; refine pA HT_.out 10 54 17 2047 ?_; refine pA HT_.out 11 55 17 4095 ?_
        refine oA HT_.out 12 (some 56) 17 8191 (fun K hK => ?_)
        refine Kd.R_lit_step (Kd.int .i64) _ 3 ?hg (N := 56) ?hd (xs := ([(-1), wrap64 ((((rd_T45 x255000_1 t273).f1).size : Int) + 1)] : List Int)) (inner := [.int .i64 (-1), .int .i64 (wrap64 ((((rd_T45 x255000_1 t273).f1).size : Int) + 1))]) (ok := fun _ => True) (okp := fun _ => True) ?hr ?hp (fun _ hk => hk) trivial (Below.refl _ _) (Nat.le_refl _) (by simp) ?_; (case hd => rfl); (case hg => rfl); (case hr => first | (go_simp; done) | (go_simp; rfl)); (case hp => exact (Reps.one (show Kd.M (Kd.int .i64) _ _ _ (-1) [.int .i64 (-1)] from rfl) (Reps.one (show Kd.M (Kd.int .i64) _ _ _ (wrap64 ((((rd_T45 x255000_1 t273).f1).size : Int) + 1)) [.int .i64 (wrap64 ((((rd_T45 x255000_1 t273).f1).size : Int) + 1))] from rfl) (Reps.none _ _))))
        intro v281 w47 ho48 hb hg_ hnew_
        have HS1_ := (hb.cell (World.block_lt_of_cell? _ _ (hHeld.2.1))).trans (hHeld.2.1)
        have HS2_ := (hb.cell (World.block_lt_of_cell? _ _ (hHeld.2.2.1))).trans (hHeld.2.2.1)
        have HS3_ := (hb.cell (World.block_lt_of_cell? _ _ (hHeld.2.2.2))).trans (hHeld.2.2.2)
        clear hg_ hnew_
        (first | rw [← Ny280.out] at ho48 | (simp only [Int.reduceToNat] at ho48; rw [← Ny280.out] at ho48))
        have n0_ := aM (Kd.R_below (uR HO_255000) hb)
        have n1_ := aM (Kd.R_lower ho48 (keep_size (w := w) (g := g) (row := none) (q8_ HK GW253 GW254)))
        have n2_ := blkB BK253 hb; have n3_ := blkB BK254 hb
        have n4_ := aM (IsS139.below (q7_ HI0 NB0_253 NB0_254) hb)
        have n5_ := aM (KeepBut.trans (q8_ HK GW253 GW254) (KeepBut.of_below hb g none) (.inl rfl))
        have n6_ := aM (below_step (q9_ HB HI0 GE253 GE254) hb)
        clear HO_255000 BK253 BK254 HI0 HK HB; have HO_255000 := n0_; have HO282 := n1_; have BK253 := n2_; have BK254 := n3_; have HI0 := n4_; have HK := n5_; have HB := n6_; clear n0_ n1_ n2_ n3_ n4_ n5_ n6_ hb ho48
        obtain ⟨Ao49, co49, eo49⟩ := Kd.R_slice HO282.out
        (first | subst eo49 | (injection eo49 with f1_ f2_ f3_; have f4_ := f1_.symm; have f5_ := f3_.symm; clear f1_ f2_ f3_; subst f4_; subst f5_))
        refine hK.out _ _ ⟨(blk_cell BK254.out 0).trans rfl, HS1_, HS2_, HS3_⟩ (fun hHeld => ?_)
        clear hK K
        refine nX 56 ?_
        refine oA HT_.out 13 (some 57) 17 16383 (fun K hK => ?_)
        refine gX Try.func123 #[.pointer (some ⟨g, 0, none⟩), .slice Ao49 y280.length co49] ?_
        with_reducible refine (spec_l01PickInt.calls g s0_0 t277 t278 _ _ y280 t283 t284 t285 w0 _ ?side1 ?side2 ?side3 ?side4 ?side5 A37.out).mono ?_
        (case side1 => exact q7_ HI0 NB0_253 NB0_254)
        (case side2 => exact q9_ HB HI0 GE253 GE254)
        (case side3 => repeat (first | exact (Kd.R_reads' HO282.out).2.2 | (with_reducible refine cA ?_ _) | (with_reducible refine cN ?_ _) | (with_reducible refine cD ?_)))
        (case side4 => exact (Kd.R_reads' HO282.out).2.1)
        (case side5 => exact far_slice (IsS139.own_ne HI0.out HO282.out (by decide)))
        rintro e w50 ⟨rfl, hi, hb, hk⟩
        have HS1_ := keep_cell hk (hHeld.2.1) (by first | (rw [add_block]; exact Kd.own_blk (IsS139.own_ne HI0.out HO_255000.out (by decide))) | (show (Addr.add _ _).block ≠ _; rw [add_block]; exact Kd.own_blk (IsS139.own_ne HI0.out HO_255000.out (by decide))) | exact Kd.own_blk (IsS139.own_ne HI0.out HO_255000.out (by decide)))
        have HS2_ := keep_cell hk (hHeld.2.2.1) (by first | (rw [add_block]; exact Kd.own_blk (IsS139.own_ne HI0.out HO_255000.out (by decide))) | (show (Addr.add _ _).block ≠ _; rw [add_block]; exact Kd.own_blk (IsS139.own_ne HI0.out HO_255000.out (by decide))) | exact Kd.own_blk (IsS139.own_ne HI0.out HO_255000.out (by decide)))
        have HS3_ := keep_cell hk (hHeld.2.2.2) (by first | (rw [add_block]; exact Kd.own_blk (IsS139.own_ne HI0.out HO_255000.out (by decide))) | (show (Addr.add _ _).block ≠ _; rw [add_block]; exact Kd.own_blk (IsS139.own_ne HI0.out HO_255000.out (by decide))) | exact Kd.own_blk (IsS139.own_ne HI0.out HO_255000.out (by decide)))
        refine ⟨_, rfl, ?_⟩
        replace HO_255000 := aM (Kd.R_mono (Kd.R_keep (IsS139.apart (show IsS139 w0 _ g s0_0 t277 t278 from (q7_ HI0 NB0_253 NB0_254)) (uR HO_255000) (by decide)) hk (fun _ h => h.2)) (fun _ h => h.1))
        replace BK253 := aM (KeepBut.blk hk (g' := gb253) (o := .cells #[.slice none 0 0] 30 (0, 0)) (uB BK253) NB253_0.out (by simp))
        replace BK254 := aM (KeepBut.blk hk (g' := gb254) (o := .cells #[.slice (some ad279) x255000_1.length co43] 30 (0, 0)) (uB BK254) NB254_0.out (by simp))
        replace HO282 := aM (Kd.R_mono (Kd.R_keep (IsS139.apart (show IsS139 w0 _ g s0_0 t277 t278 from (q7_ HI0 NB0_253 NB0_254)) (uR HO282) (by decide)) hk (fun _ h => h.2)) (fun _ h => h.1))
        replace HK := aM (KeepBut.trans (q8_ HK GW253 GW254) hk (.inl rfl))
        replace HB := aM (hb)
        replace HI0 := aM (hi)
        (try clear hb)
        (try clear hb2)
        (try clear hk)
        (try clear hi)
        have p38 : 0 ≤ (t273 : Int) := of_decide_eq_true (by first | (with_reducible assumption) | assumption)
        have q38 : (t273 : Int) < ((x255000_1.length : Int) : Int) := of_decide_eq_true (by first | (with_reducible assumption) | assumption)
        obtain ⟨go38, co38, eo38, gb38, gl38, cl38, HG38⟩ := Kd.R_form HO_255000.out (by omega)
        (first | cases eo38 | (injection eo38 with ea_ en_ ec_; (first | subst ea_ | (injection ea_ with ea_; subst ea_)); subst ec_; clear en_))
        have GB38 := aM gb38
        have GG38 := aM HG38
        clear gb38 gl38 HG38
        (first | simp only [add_plain] at hx279_0 | skip)
        (first | simp only [add_plain] at hx279_1 | skip)
        (first | simp only [add_plain] at hx279_2 | skip)
        obtain ⟨ce38, hcl38, hM38, hcc38, hfr38⟩ := Kd.R_elem HO_255000.out z45 (t273 : Int) p38 q38
        obtain rfl := k45_openM hM38
        have hx38_0 : World.cell? _ ⟨go38, (t273 : Int).toNat * 3, none⟩ = some (.string ((rd_T45 x255000_1 t273).f0)) := hcc38 0 _ rfl
        have hx38_1 : World.cell? _ ⟨go38, (t273 : Int).toNat * 3 + 1, none⟩ = some (.string ((rd_T45 x255000_1 t273).f1)) := hcc38 1 _ rfl
        have hx38_2 : World.cell? _ ⟨go38, (t273 : Int).toNat * 3 + 2, none⟩ = some (.int .i64 ((rd_T45 x255000_1 t273).f2)) := hcc38 2 _ rfl
        have hf38_0 : World.frozen? _ ⟨go38, (t273 : Int).toNat * 3, none⟩ = false := hfr38 0
        have hf38_1 : World.frozen? _ ⟨go38, (t273 : Int).toNat * 3 + 1, none⟩ = false := hfr38 1
        have hf38_2 : World.frozen? _ ⟨go38, (t273 : Int).toNat * 3 + 2, none⟩ = false := hfr38 2
        clear hcl38 hcc38 hfr38 hM38
        replace p38 := eq_true p38; replace q38 := eq_true q38
        have HN0_go38 := aM (show g ≠ go38 from by have h_ := IsS139.own_ne HI0.out HO_255000.out (by decide); intro e_; exact h_ (by rw [e_]; rfl))
        obtain ⟨ce51, hcl51, hM51, hcc51, hfr51⟩ := Kd.R_elem HO_255000.out z45 (t273 : Int) (of_decide_eq_true (by first | (with_reducible assumption) | assumption)) (by have h_ : (t273 : Int) < ((x255000_1.length : Int) : Int) := of_decide_eq_true (by first | (with_reducible assumption) | assumption); first | exact h_ | (have e_ := (Kd.R_reads' HO_255000.out).1; omega) | simpa using h_)
        obtain rfl := k45_openM hM51
        have HP51 := (Kd.R_seg HO_255000.out (t273 : Int) (of_decide_eq_true (by first | (with_reducible assumption) | assumption)) (by have h_ : (t273 : Int) < ((x255000_1.length : Int) : Int) := of_decide_eq_true (by first | (with_reducible assumption) | assumption); first | exact h_ | (have e_ := (Kd.R_reads' HO_255000.out).1; omega) | simpa using h_) (seg := [.int .i64 t283]) (j := 2) hcl51 hcc51 (show 3 ≤ 3 from by decide) (x' := (⟨(rd_T45 x255000_1 t273).f0, (rd_T45 x255000_1 t273).f1, t283⟩ : S45)) (k45_mkM _ _ _ (⟨(rd_T45 x255000_1 t273).f0, (rd_T45 x255000_1 t273).f1, t283⟩ : S45) ) (fun _ hk => hk)).1
        rw [← Ny286.out] at HP51
        have HQ51 := aM HP51
        clear hcl51 hcc51 hfr51 hM51 HP51
        refine hK.out _ _ ⟨(blk_cell BK254.out 0).trans rfl, HS1_, HS2_, HS3_⟩ (fun hHeld => ?_)
        clear hK K
        refine nX 57 ?_; refine pA HT_.out 14 58 17 32767 ?_; refine pA HT_.out 15 59 17 65535 ?_
        refine last_ (i := 16) (N := none) (bB 17 131071) rfl rfl (one_of HT_.out (by kernel_rfl)) (by decide) (fun K hK => ?_)
        refine skip_ (w1 := ?_) (by rfl) rfl ?_ ?_
        rotate_left
        ·go_simp
         rfl
        refine hK.out _ _ ?_
        clear hK K
        refine done_ (done_of HT_.out (by kernel_rfl)) ?_
        have n0_ : Aside0 (Kd.R k45 45 (w50.setCell ⟨go38, (t273 : Int).toNat * 3 + 2, none⟩ (.int .i64 t283)) w.heap.size (fun _ => True) (.slice (some ⟨go38, 0, none⟩) x255000_1.length co43) y286) := ⟨by (with_reducible repeat first | apply rA | apply rN | apply rD); exact HQ51.out⟩
        have n1_ : Aside0 (Kd.R (Kd.int .i64) 3 (w50.setCell ⟨go38, (t273 : Int).toNat * 3 + 2, none⟩ (.int .i64 t283)) w.heap.size (fun _ => True) (.slice Ao49 y280.length co49) y280) := ⟨by (with_reducible repeat first | apply rA | apply rN | apply rD); exact Kd.R_mono (Kd.R_far (p := ⟨go38, (t273 : Int).toNat * 3 + 2, none⟩) (Kd.R_types HO282.out GG38.out (by decide)) (fun _ hk => hk.2) (.int .i64 t283)) (fun _ hk => trivial)⟩
        have n2_ : Aside0 ((w50.setCell ⟨go38, (t273 : Int).toNat * 3 + 2, none⟩ (.int .i64 t283)).heap[gb253]? = some (.cells #[.slice none 0 0] 30 (0, 0))) := ⟨by refine nB ?_; refine blk_far ?_ (by have h_ := Kd.R_ne HO_255000.out BK253.out (by decide); intro e_; exact h_ (by rw [e_]; rfl)) _; exact nB BK253.out⟩
        have n3_ : Aside0 ((w50.setCell ⟨go38, (t273 : Int).toNat * 3 + 2, none⟩ (.int .i64 t283)).heap[gb254]? = some (.cells #[.slice (some ⟨go38, 0, none⟩) x255000_1.length co43] 30 (0, 0))) := ⟨by refine nB ?_; refine blk_far ?_ (by have h_ := Kd.R_ne HO_255000.out BK254.out (by decide); intro e_; exact h_ (by rw [e_]; rfl)) _; exact nB BK254.out⟩
        have n4_ : Aside0 (IsS139 w0 (w50.setCell ⟨go38, (t273 : Int).toNat * 3 + 2, none⟩ (.int .i64 t283)) g s0_0 t284 t285) := ⟨q10_ HI0 HN0_go38 NB0_253 NB0_254⟩
        have n5_ : Aside0 (KeepBut w (w50.setCell ⟨go38, (t273 : Int).toNat * 3 + 2, none⟩ (.int .i64 t283)) g none) := ⟨q11_ HK GB38 GW253 GW254⟩
        have n6_ : Aside0 (Below w0.heap.size w0 (w50.setCell ⟨go38, (t273 : Int).toNat * 3 + 2, none⟩ (.int .i64 t283))) := ⟨q12_ HB HL GB38 HI0 GE253 GE254⟩
        (try clear HO_255000)
        (try clear HO282)
        (try clear BK253)
        (try clear BK254)
        (try clear HI0)
        (try clear HK)
        (try clear HB)
        generalize (w50.setCell ⟨go38, (t273 : Int).toNat * 3 + 2, none⟩ (.int .i64 t283)) = w52 at n0_ n1_ n2_ n3_ n4_ n5_ n6_ ⊢
        have HO_255000 := n0_; have HO282 := n1_; have BK253 := n2_; have BK254 := n3_; have HI0 := n4_; have HK := n5_; have HB := n6_; clear n0_ n1_ n2_ n3_ n4_ n5_ n6_
        have hcz53_0 := czA BK254.out 0 (.slice (some ⟨go38, 0, none⟩) x255000_1.length co43)
        have hfz53_0 := blk_frozen BK254.out 0; have hnb54 := NB253_0.out; have hnc54 := NB0_253.out
        have hcz55_0 := czA BK253.out 0 (.slice none 0 0)
        have hfz55_0 := blk_frozen BK253.out 0
        try go_wp2
        refine bodyPost_ret (results_cell_row rfl _ _ gb253 30 #[.slice (some ⟨go38, 0, none⟩) x255000_1.length co43] (0, 0) _ rfl (by refine nB ?_; refine blk_put (cs := #[.slice none 0 0]) ?_ 0 _ rfl; exact nB BK253.out) Try.underlying30 rfl (by kernel_rfl)) rfl ?_
        exact ⟨_, by first | rfl | (simp [errW_none, errW_some] <;> rfl) | (simp [*, errW_none, errW_some] <;> rfl), by (with_reducible repeat first | apply rA | apply rN | apply rD); exact Kd.R_mono (Kd.R_far (p := ⟨gb253, 0, none⟩) (Kd.R_types HO_255000.out BK253.out (by decide)) (fun _ hk => hk.2) (.slice (some ⟨go38, 0, none⟩) x255000_1.length co43)) (fun _ hk => trivial), q7_ HI0 NB0_253 NB0_254, q9_ HB HI0 GE253 GE254, q8_ HK GW253 GW254⟩
       ·rw [if_neg c36] at H
        exact absurd H (by simp)
      ·rw [if_neg c35] at H
       exact absurd H (by simp)
     ·rw [if_neg c34] at H
      have c34b0 : (t276 == 0) = false := beq_eq_false_iff_ne.mpr c34
      have c34b1 : (t276 != 0) = true := bne_iff_ne.mpr c34
      by_cases c56 : t276 = 1
      ·rw [if_pos c56] at H
       have c56b0 : (t276 == 1) = true := beq_iff_eq.mpr c56
       have c56b1 : (t276 != 1) = false := bne_eq_false_iff_eq.mpr c56
       clear c56
       by_cases c57 : 0 ≤ t273
       ·rw [if_pos c57] at H
        have c57b0 : decide (0 ≤ t273) = true := decide_eq_true c57
        clear c57
        by_cases c58 : t273 < (x255000_1.length : Int)
        ·rw [if_pos c58] at H
         have c58b0 : decide (t273 < (x255000_1.length : Int)) = true := decide_eq_true c58
         clear c58
         by_cases c59 : x255000_1.length < 3518437208883
         ·rw [if_pos c59] at H
          have LMc59 := aM c59
          clear c59
          obtain ⟨y288, hy288⟩ : ∃ y_ : List (S45), y_ = (x255000_1 ++ [(⟨(rd_T45 x255000_1 t273).f0, (rd_T45 x255000_1 t273).f1, (rd_T45 x255000_1 t273).f2⟩ : S45)]) := ⟨_, rfl⟩
          replace H : (some (y288, t277, t278)) = some (r1, r2, r3) := by first | (rw [hy288]; with_reducible exact H) | (have H2_ := (Option.bind_some _ _).symm.trans H; rw [hy288]; with_reducible exact H2_) | (have H2_ := (Option.bind_some _ _).symm.trans H; with_reducible exact H2_) | with_reducible exact H | (rw [hy288]; exact H) | exact H
          have Ny288 := aM hy288
          clear hy288
          simp only [Option.some.injEq, Prod.mk.injEq] at H
          obtain ⟨rfl, rfl, rfl⟩ := H
          try go_wp2_with (first | ((with_reducible refine gate_callee (f := 77) rfl ?_); refine gL (some 11) Try.func77 #[.pointer (some ⟨g, 0, none⟩), .int .i64 6] ?_; (with_reducible refine (spec_l01Below.calls g s0_0 x1001_1 x1002_1 6 t255 t256 t257 w0 _ ?side1 ?side2 A7.out).mono ?_); (case side1 => exact q7_ HI0 NB0_253 NB0_254); (case side2 => exact q9_ HB HI0 GE253 GE254); rintro e w60 ⟨rfl, hi, hb, hk⟩; refine ⟨_, rfl, ?_⟩; replace HO_255000 := aM (Kd.R_mono (Kd.R_keep (IsS139.apart (show IsS139 w0 _ g s0_0 x1001_1 x1002_1 from (q7_ HI0 NB0_253 NB0_254)) (uR HO_255000) (by decide)) hk (fun _ h => h.2)) (fun _ h => h.1)); replace BK253 := aM (KeepBut.blk hk (g' := gb253) (o := .cells #[.slice none 0 0] 30 (0, 0)) (uB BK253) NB253_0.out (by simp)); replace BK254 := aM (KeepBut.blk hk (g' := gb254) (o := .cells #[u255000] 30 (0, 0)) (uB BK254) NB254_0.out (by simp)); replace HK := aM (KeepBut.trans (q8_ HK GW253 GW254) hk (.inl rfl)); replace HB := aM (hb); replace HI0 := aM (hi); try clear hb hk hi; have hnb61 := NB254_253.out; have hnc61 := NB253_254.out; have hnb62 := NB254_0.out; have hnc62 := NB0_254.out; have hcz63_0 := czA BK254.out 0 (u255000); have hfz63_0 := blk_frozen BK254.out 0; obtain ⟨Ao64, co64, eo64⟩ := Kd.R_slice HO_255000.out; subst eo64) | ((with_reducible refine gate_callee (f := 77) rfl ?_); refine gL (some 39) Try.func77 #[.pointer (some ⟨g, 0, none⟩), .int .i64 (x255000_1.length : Int)] ?_; (with_reducible refine (spec_l01Below.calls g s0_0 t256 t257 (x255000_1.length : Int) t273 t274 t275 w0 _ ?side1 ?side2 A32.out).mono ?_); (case side1 => exact q7_ HI0 NB0_253 NB0_254); (case side2 => exact q9_ HB HI0 GE253 GE254); rintro e w65 ⟨rfl, hi, hb, hk⟩; refine ⟨_, rfl, ?_⟩; replace HO_255000 := aM (Kd.R_mono (Kd.R_keep (IsS139.apart (show IsS139 w0 _ g s0_0 t256 t257 from (q7_ HI0 NB0_253 NB0_254)) (uR HO_255000) (by decide)) hk (fun _ h => h.2)) (fun _ h => h.1)); replace BK253 := aM (KeepBut.blk hk (g' := gb253) (o := .cells #[.slice none 0 0] 30 (0, 0)) (uB BK253) NB253_0.out (by simp)); replace BK254 := aM (KeepBut.blk hk (g' := gb254) (o := .cells #[.slice Ao64 x255000_1.length co64] 30 (0, 0)) (uB BK254) NB254_0.out (by simp)); replace HK := aM (KeepBut.trans (q8_ HK GW253 GW254) hk (.inl rfl)); replace HB := aM (hb); replace HI0 := aM (hi); try clear hb hk hi) | ((with_reducible refine gate_callee (f := 77) rfl ?_); refine gL (some 41) Try.func77 #[.pointer (some ⟨g, 0, none⟩), .int .i64 40] ?_; (with_reducible refine (spec_l01Below.calls g s0_0 t274 t275 40 t276 t277 t278 w0 _ ?side1 ?side2 A33.out).mono ?_); (case side1 => exact q7_ HI0 NB0_253 NB0_254); (case side2 => exact q9_ HB HI0 GE253 GE254); rintro e w66 ⟨rfl, hi, hb, hk⟩; refine ⟨_, rfl, ?_⟩; replace HO_255000 := aM (Kd.R_mono (Kd.R_keep (IsS139.apart (show IsS139 w0 _ g s0_0 t274 t275 from (q7_ HI0 NB0_253 NB0_254)) (uR HO_255000) (by decide)) hk (fun _ h => h.2)) (fun _ h => h.1)); replace BK253 := aM (KeepBut.blk hk (g' := gb253) (o := .cells #[.slice none 0 0] 30 (0, 0)) (uB BK253) NB253_0.out (by simp)); replace BK254 := aM (KeepBut.blk hk (g' := gb254) (o := .cells #[.slice Ao64 x255000_1.length co64] 30 (0, 0)) (uB BK254) NB254_0.out (by simp)); replace HK := aM (KeepBut.trans (q8_ HK GW253 GW254) hk (.inl rfl)); replace HB := aM (hb); replace HI0 := aM (hi); try clear hb hk hi))
          replace HO_255000 := aM (Kd.R_drew HO_255000.out)
          replace BK253 := aM (blk_drew BK253.out)
          replace BK254 := aM (blk_drew BK254.out)
          replace HI0 := aM (IsS139.drew HI0.out)
          replace HK := aM (keep_drew HK.out)
          replace HB := aM (below_drew1 HB.out)
          have p287 : 0 ≤ (t273 : Int) := of_decide_eq_true (by first | (with_reducible assumption) | assumption)
          have q287 : t273 < (x255000_1.length : Int) := of_decide_eq_true (by first | (with_reducible assumption) | assumption)
          obtain ⟨ad287, e287, hx287_0, hx287_1, hx287_2⟩ := at_T45 (Kd.R_reads' HO_255000.out).2.2 t273 p287 q287
          cases e287
          replace p287 := eq_true p287; replace q287 := eq_true q287
          refine start_ (n := 11) (S := fun w' => w'.cell? ⟨gb254, 0, none⟩ = some (.slice (some ad287) x255000_1.length co64) ∧ w'.cell? (ad287.add ((t273).toNat * 3)) = some (.string ((rd_T45 x255000_1 t273).f0)) ∧ w'.cell? ⟨(ad287.add ((t273).toNat * 3)).block, (ad287.add ((t273).toNat * 3)).off + 1, none⟩ = some (.string ((rd_T45 x255000_1 t273).f1)) ∧ w'.cell? ⟨(ad287.add ((t273).toNat * 3)).block, (ad287.add ((t273).toNat * 3)).off + 2, none⟩ = some (.int .i64 ((rd_T45 x255000_1 t273).f2))) (ds := [8, 10]) (bB 11 0) (by kernel_rfl) rfl rfl ⟨(blk_cell BK254.out 0).trans rfl, hx287_0, hx287_1, hx287_2⟩ (fun hHeld => ?_); refine with_tabW spec_l03Disk.tab14 spec_l03Disk.bits14 (fun HT_ HW_ => ?_)
          generalize w66.drew = w67 at HO_255000 BK253 BK254 HI0 HK HB hx287_0 hx287_1 hx287_2 hHeld ⊢
          refine pA HT_.out 0 62 11 1 ?_; refine pA HT_.out 2 64 11 5 ?_; refine pA HT_.out 4 66 11 21 ?_; refine tA HT_.out HW_.out 1 63 11 23 hHeld ?_; refine tA HT_.out HW_.out 3 65 11 31 hHeld ?_; refine pA HT_.out 5 67 11 63 ?_; refine tA HT_.out HW_.out 6 68 11 127 hHeld ?_
          refine oA HT_.out 7 (some 69) 11 255 (fun K hK => ?_)
          refine value_ (w1 := ?_) (v := ?_) (by rfl) rfl ?_ ?_
          rotate_left 2
          ·go_simp
           constructor
           ·rfl
           ·rfl
          refine hK.out _ _ ⟨(blk_cell (blk_alloc BK254.out _) 0).trans rfl, (World.cell?_alloc_lt _ _ _ (World.block_lt_of_cell? _ _ (hHeld.2.1))).trans (hHeld.2.1), (World.cell?_alloc_lt _ _ _ (World.block_lt_of_cell? _ _ (hHeld.2.2.1))).trans (hHeld.2.2.1), (World.cell?_alloc_lt _ _ _ (World.block_lt_of_cell? _ _ (hHeld.2.2.2))).trans (hHeld.2.2.2)⟩ (fun hHeld => ?_)
          clear hK K
          refine nX 69 ?_
          refine last_ (i := 8) (N := some 70) (bB 11 511) rfl rfl (one_of HT_.out (by kernel_rfl)) (by decide) (fun K hK => ?_)
          refine Kd.R_append_step k45 w.heap.size (by rfl) (.tmp 63) (.tmp 69) 28 45 (.agg #[(.string ⟨#[]⟩), (.string ⟨#[]⟩), (.int .i64 0)]) 40 rfl Try.underlying28 info45 rfl (by decide) (by omega) (.slice (some ad287) x255000_1.length co64) x255000_1 (⟨(rd_T45 x255000_1 t273).f0, (rd_T45 x255000_1 t273).f1, (rd_T45 x255000_1 t273).f2⟩ : S45) [.string ((rd_T45 x255000_1 t273).f0), .string ((rd_T45 x255000_1 t273).f1), .int .i64 ((rd_T45 x255000_1 t273).f2)] (fun _ => True) (fun _ => False) rfl rfl ?aP (fun _ hk => hk.elim) ?aF ?aO (Below.refl _ _) ?aS ?aL ?_
          (case aP => exact k45_mkM _ _ _ (⟨(rd_T45 x255000_1 t273).f0, (rd_T45 x255000_1 t273).f1, (rd_T45 x255000_1 t273).f2⟩ : S45))
          (case aF => exact (fun _ _ => trivial))
          (case aO => exact (uR HO_255000))
          (case aS => exact (keep_size (w := w) (g := g) (row := none) (q8_ HK GW253 GW254)))
          (case aL => have := LMc59.out; omega)
          intro v289 w68 ho hb hg hat
          rw [← Ny288.out] at ho
          have n0_ := aM (blk_grown (g := gb253) (o := .cells #[.slice none 0 0] 30 (0, 0)) (uB BK253) hg (Kd.R_ne HO_255000.out BK253.out (by decide)))
          have n1_ := aM (blk_grown (g := gb254) (o := .cells #[.slice (some ad287) x255000_1.length co64] 30 (0, 0)) (uB BK254) hg (Kd.R_ne HO_255000.out BK254.out (by decide)))
          have n2_ := aM (IsS139.grown (q7_ HI0 NB0_253 NB0_254) hg (IsS139.own_ne HI0.out HO_255000.out (by decide)))
          have n3_ := aM (below_weaken (q9_ HB HI0 GE253 GE254) HL.out hb)
          have n4_ := aM (KeepBut.trans (q8_ HK GW253 GW254) (KeepBut.of_grown hg g) (Kd.R_base2 HO_255000.out))
          have n5_ := aM (ho)
          clear BK253 BK254 HI0 HB HK HO_255000; have BK253 := n0_; have BK254 := n1_; have HI0 := n2_; have HB := n3_; have HK := n4_; have HO290 := n5_; clear n0_ n1_ n2_ n3_ n4_ n5_ ho hb hg hat
          obtain ⟨Ao69, co69, eo69⟩ := Kd.R_slice HO290.out
          (first | subst eo69 | (injection eo69 with f1_ f2_ f3_; have f4_ := f1_.symm; have f5_ := f3_.symm; clear f1_ f2_ f3_; subst f4_; subst f5_))
          refine hK.out _ _ ?_
          clear hK K
          refine nX 70 ?_; refine pA HT_.out 9 71 11 1023 ?_
          refine last_ (i := 10) (N := none) (bB 11 2047) rfl rfl (one_of HT_.out (by kernel_rfl)) (by decide) (fun K hK => ?_)
          have hs70 := czA BK254.out 0 (.slice (some ad287) x255000_1.length co64)
          have hfs70 := blk_frozen BK254.out 0; have hns70_0 := NB253_254.out; have hms70_0 := NB254_253.out
          refine skip_ (w1 := ?_) (by rfl) rfl ?_ ?_
          rotate_left
          ·go_simp
           rfl
          refine hK.out _ _ ?_
          clear hK K
          refine done_ (done_of HT_.out (by kernel_rfl)) ?_
          have hcz71_0 := czA BK254.out 0 (.slice (some ad287) x255000_1.length co64)
          have hfz71_0 := blk_frozen BK254.out 0; have hnb72 := NB253_0.out; have hnc72 := NB0_253.out
          have hcz73_0 := czA BK253.out 0 (.slice none 0 0)
          have hfz73_0 := blk_frozen BK253.out 0
          try go_wp2
          refine bodyPost_ret (results_cell_row rfl _ _ gb253 30 #[.slice Ao69 y288.length co69] (0, 0) _ rfl (by refine nB ?_; refine blk_put (cs := #[.slice none 0 0]) ?_ 0 _ rfl; refine nB ?_; refine blk_far ?_ NB253_254.out _; exact nB BK253.out) Try.underlying30 rfl (by kernel_rfl)) rfl ?_
          exact ⟨_, by first | rfl | (simp [errW_none, errW_some] <;> rfl) | (simp [*, errW_none, errW_some] <;> rfl), by (with_reducible repeat first | apply rA | apply rN | apply rD); exact Kd.R_mono (Kd.R_far (p := ⟨gb253, 0, none⟩) (Kd.R_far (p := ⟨gb254, 0, none⟩) (Kd.R_types (Kd.R_types HO290.out BK254.out (by decide)) BK253.out (by decide)) (fun _ hk => hk.1.2) (.slice Ao69 y288.length co69)) (fun _ hk => hk.2) (.slice Ao69 y288.length co69)) (fun _ hk => trivial), q7_ HI0 NB0_253 NB0_254, q9_ HB HI0 GE253 GE254, q8_ HK GW253 GW254⟩
         ·rw [if_neg c59] at H
          exact absurd H (by simp)
        ·rw [if_neg c58] at H
         exact absurd H (by simp)
       ·rw [if_neg c57] at H
        exact absurd H (by simp)
      ·rw [if_neg c56] at H
       have c56b0 : (t276 == 1) = false := beq_eq_false_iff_ne.mpr c56
       have c56b1 : (t276 != 1) = true := bne_iff_ne.mpr c56
       by_cases c74 : t276 = 2
       ·rw [if_pos c74] at H
        have c74b0 : (t276 == 2) = true := beq_iff_eq.mpr c74
        have c74b1 : (t276 != 2) = false := bne_eq_false_iff_eq.mpr c74
        clear c74
        obtain ⟨y291, hy291⟩ : ∃ y_ : List ByteArray, y_ = (([(⟨#[]⟩ : ByteArray), (⟨#[49, 50, 51, 52, 53, 54, 55, 56]⟩ : ByteArray), (⟨#[49, 50, 51, 52, 53, 54, 55, 56, 57]⟩ : ByteArray)] : List ByteArray)) := ⟨_, rfl⟩
        replace H : ((spec_l01Pick.f s0_0 t277 t278 y291).bind fun bt294 => (if 0 ≤ t273 then (if t273 < (x255000_1.length : Int) then (some ((x255000_1.set (t273 : Int).toNat (⟨bt294.1, (rd_T45 x255000_1 t273).f1, (rd_T45 x255000_1 t273).f2⟩ : S45)), bt294.2.1, bt294.2.2)) else (none)) else (none))) = some (r1, r2, r3) := by first | (rw [hy291]; with_reducible exact H) | (have H2_ := (Option.bind_some _ _).symm.trans H; rw [hy291]; with_reducible exact H2_) | (have H2_ := (Option.bind_some _ _).symm.trans H; with_reducible exact H2_) | with_reducible exact H | (rw [hy291]; exact H) | exact H
        have Ny291 := aM hy291
        clear hy291
        replace H := Option.bind_eq_some_iff.mp H
        obtain ⟨⟨t294, t295, t296⟩, A750, H⟩ := H
        try dsimp only at H
        have A75 := aM A750
        clear A750
        by_cases c76 : 0 ≤ t273
        ·rw [if_pos c76] at H
         have c76b0 : decide (0 ≤ t273) = true := decide_eq_true c76
         clear c76
         by_cases c77 : t273 < (x255000_1.length : Int)
         ·rw [if_pos c77] at H
          have c77b0 : decide (t273 < (x255000_1.length : Int)) = true := decide_eq_true c77
          clear c77
          obtain ⟨y297, hy297⟩ : ∃ y_ : List (S45), y_ = (x255000_1.set (t273 : Int).toNat (⟨t294, (rd_T45 x255000_1 t273).f1, (rd_T45 x255000_1 t273).f2⟩ : S45)) := ⟨_, rfl⟩
          replace H : (some (y297, t295, t296)) = some (r1, r2, r3) := by first | (rw [hy297]; with_reducible exact H) | (have H2_ := (Option.bind_some _ _).symm.trans H; rw [hy297]; with_reducible exact H2_) | (have H2_ := (Option.bind_some _ _).symm.trans H; with_reducible exact H2_) | with_reducible exact H | (rw [hy297]; exact H) | exact H
          have Ny297 := aM hy297
          clear hy297
          simp only [Option.some.injEq, Prod.mk.injEq] at H
          obtain ⟨rfl, rfl, rfl⟩ := H
          try go_wp2_with (first | ((with_reducible refine gate_callee (f := 77) rfl ?_); refine gL (some 11) Try.func77 #[.pointer (some ⟨g, 0, none⟩), .int .i64 6] ?_; (with_reducible refine (spec_l01Below.calls g s0_0 x1001_1 x1002_1 6 t255 t256 t257 w0 _ ?side1 ?side2 A7.out).mono ?_); (case side1 => exact q7_ HI0 NB0_253 NB0_254); (case side2 => exact q9_ HB HI0 GE253 GE254); rintro e w79 ⟨rfl, hi, hb, hk⟩; refine ⟨_, rfl, ?_⟩; replace HO_255000 := aM (Kd.R_mono (Kd.R_keep (IsS139.apart (show IsS139 w0 _ g s0_0 x1001_1 x1002_1 from (q7_ HI0 NB0_253 NB0_254)) (uR HO_255000) (by decide)) hk (fun _ h => h.2)) (fun _ h => h.1)); replace BK253 := aM (KeepBut.blk hk (g' := gb253) (o := .cells #[.slice none 0 0] 30 (0, 0)) (uB BK253) NB253_0.out (by simp)); replace BK254 := aM (KeepBut.blk hk (g' := gb254) (o := .cells #[u255000] 30 (0, 0)) (uB BK254) NB254_0.out (by simp)); replace HK := aM (KeepBut.trans (q8_ HK GW253 GW254) hk (.inl rfl)); replace HB := aM (hb); replace HI0 := aM (hi); try clear hb hk hi; have hnb80 := NB254_253.out; have hnc80 := NB253_254.out; have hnb81 := NB254_0.out; have hnc81 := NB0_254.out; have hcz82_0 := czA BK254.out 0 (u255000); have hfz82_0 := blk_frozen BK254.out 0; obtain ⟨Ao83, co83, eo83⟩ := Kd.R_slice HO_255000.out; subst eo83) | ((with_reducible refine gate_callee (f := 77) rfl ?_); refine gL (some 39) Try.func77 #[.pointer (some ⟨g, 0, none⟩), .int .i64 (x255000_1.length : Int)] ?_; (with_reducible refine (spec_l01Below.calls g s0_0 t256 t257 (x255000_1.length : Int) t273 t274 t275 w0 _ ?side1 ?side2 A32.out).mono ?_); (case side1 => exact q7_ HI0 NB0_253 NB0_254); (case side2 => exact q9_ HB HI0 GE253 GE254); rintro e w84 ⟨rfl, hi, hb, hk⟩; refine ⟨_, rfl, ?_⟩; replace HO_255000 := aM (Kd.R_mono (Kd.R_keep (IsS139.apart (show IsS139 w0 _ g s0_0 t256 t257 from (q7_ HI0 NB0_253 NB0_254)) (uR HO_255000) (by decide)) hk (fun _ h => h.2)) (fun _ h => h.1)); replace BK253 := aM (KeepBut.blk hk (g' := gb253) (o := .cells #[.slice none 0 0] 30 (0, 0)) (uB BK253) NB253_0.out (by simp)); replace BK254 := aM (KeepBut.blk hk (g' := gb254) (o := .cells #[.slice Ao83 x255000_1.length co83] 30 (0, 0)) (uB BK254) NB254_0.out (by simp)); replace HK := aM (KeepBut.trans (q8_ HK GW253 GW254) hk (.inl rfl)); replace HB := aM (hb); replace HI0 := aM (hi); try clear hb hk hi) | ((with_reducible refine gate_callee (f := 77) rfl ?_); refine gL (some 41) Try.func77 #[.pointer (some ⟨g, 0, none⟩), .int .i64 40] ?_; (with_reducible refine (spec_l01Below.calls g s0_0 t274 t275 40 t276 t277 t278 w0 _ ?side1 ?side2 A33.out).mono ?_); (case side1 => exact q7_ HI0 NB0_253 NB0_254); (case side2 => exact q9_ HB HI0 GE253 GE254); rintro e w85 ⟨rfl, hi, hb, hk⟩; refine ⟨_, rfl, ?_⟩; replace HO_255000 := aM (Kd.R_mono (Kd.R_keep (IsS139.apart (show IsS139 w0 _ g s0_0 t274 t275 from (q7_ HI0 NB0_253 NB0_254)) (uR HO_255000) (by decide)) hk (fun _ h => h.2)) (fun _ h => h.1)); replace BK253 := aM (KeepBut.blk hk (g' := gb253) (o := .cells #[.slice none 0 0] 30 (0, 0)) (uB BK253) NB253_0.out (by simp)); replace BK254 := aM (KeepBut.blk hk (g' := gb254) (o := .cells #[.slice Ao83 x255000_1.length co83] 30 (0, 0)) (uB BK254) NB254_0.out (by simp)); replace HK := aM (KeepBut.trans (q8_ HK GW253 GW254) hk (.inl rfl)); replace HB := aM (hb); replace HI0 := aM (hi); try clear hb hk hi))
          replace HO_255000 := aM (Kd.R_drew HO_255000.out)
          replace BK253 := aM (blk_drew BK253.out)
          replace BK254 := aM (blk_drew BK254.out)
          replace HI0 := aM (IsS139.drew HI0.out)
          replace HK := aM (keep_drew HK.out)
          replace HB := aM (below_drew1 HB.out)
          refine start_ (n := 9) (S := fun w' => w'.cell? ⟨gb254, 0, none⟩ = some (.slice Ao83 x255000_1.length co83)) (ds := [8]) (bB 9 0) (by kernel_rfl) rfl rfl ((blk_cell BK254.out 0).trans rfl) (fun hHeld => ?_); refine with_tabW spec_l03Disk.tab16 spec_l03Disk.bits16 (fun HT_ HW_ => ?_)
          generalize w85.drew = w86 at HO_255000 BK253 BK254 HI0 HK HB hHeld ⊢
          refine pA HT_.out 0 74 9 1 ?_; refine pA HT_.out 2 76 9 5 ?_; refine pA HT_.out 3 77 9 13 ?_; refine tA HT_.out HW_.out 1 75 9 15 hHeld ?_
          refine oA HT_.out 4 (some 78) 9 31 (fun K hK => ?_)
          refine Kd.R_lit_step Kd.string _ 9 ?hg (N := 78) ?hd (xs := ([(⟨#[]⟩ : ByteArray), (⟨#[49, 50, 51, 52, 53, 54, 55, 56]⟩ : ByteArray), (⟨#[49, 50, 51, 52, 53, 54, 55, 56, 57]⟩ : ByteArray)] : List ByteArray)) (inner := [.string (⟨#[]⟩ : ByteArray), .string (⟨#[49, 50, 51, 52, 53, 54, 55, 56]⟩ : ByteArray), .string (⟨#[49, 50, 51, 52, 53, 54, 55, 56, 57]⟩ : ByteArray)]) (ok := fun _ => True) (okp := fun _ => True) ?hr ?hp (fun _ hk => hk) trivial (Below.refl _ _) (Nat.le_refl _) (by simp) ?_; (case hd => rfl); (case hg => rfl); (case hr => first | (go_simp; done) | (go_simp; rfl)); (case hp => exact (Reps.one (show Kd.M Kd.string _ _ _ (⟨#[]⟩ : ByteArray) [.string (⟨#[]⟩ : ByteArray)] from rfl) (Reps.one (show Kd.M Kd.string _ _ _ (⟨#[49, 50, 51, 52, 53, 54, 55, 56]⟩ : ByteArray) [.string (⟨#[49, 50, 51, 52, 53, 54, 55, 56]⟩ : ByteArray)] from rfl) (Reps.one (show Kd.M Kd.string _ _ _ (⟨#[49, 50, 51, 52, 53, 54, 55, 56, 57]⟩ : ByteArray) [.string (⟨#[49, 50, 51, 52, 53, 54, 55, 56, 57]⟩ : ByteArray)] from rfl) (Reps.none _ _)))))
          intro v292 w87 ho88 hb hg_ hnew_
          clear hg_ hnew_
          (first | rw [← Ny291.out] at ho88 | (simp only [Int.reduceToNat] at ho88; rw [← Ny291.out] at ho88))
          have n0_ := aM (Kd.R_below (uR HO_255000) hb)
          have n1_ := aM (Kd.R_lower ho88 (keep_size (w := w) (g := g) (row := none) (q8_ HK GW253 GW254)))
          have n2_ := blkB BK253 hb; have n3_ := blkB BK254 hb
          have n4_ := aM (IsS139.below (q7_ HI0 NB0_253 NB0_254) hb)
          have n5_ := aM (KeepBut.trans (q8_ HK GW253 GW254) (KeepBut.of_below hb g none) (.inl rfl))
          have n6_ := aM (below_step (q9_ HB HI0 GE253 GE254) hb)
          clear HO_255000 BK253 BK254 HI0 HK HB; have HO_255000 := n0_; have HO293 := n1_; have BK253 := n2_; have BK254 := n3_; have HI0 := n4_; have HK := n5_; have HB := n6_; clear n0_ n1_ n2_ n3_ n4_ n5_ n6_ hb ho88
          obtain ⟨Ao89, co89, eo89⟩ := Kd.R_slice HO293.out
          (first | subst eo89 | (injection eo89 with f1_ f2_ f3_; have f4_ := f1_.symm; have f5_ := f3_.symm; clear f1_ f2_ f3_; subst f4_; subst f5_))
          refine hK.out _ _ ((blk_cell BK254.out 0).trans rfl) (fun hHeld => ?_)
          clear hK K
          refine nX 78 ?_
          refine oA HT_.out 5 (some 79) 9 63 (fun K hK => ?_)
          refine gX Try.func118 #[.pointer (some ⟨g, 0, none⟩), .slice Ao89 y291.length co89] ?_
          with_reducible refine (spec_l01Pick.calls g s0_0 t277 t278 _ _ y291 t294 t295 t296 w0 _ ?side1 ?side2 ?side3 ?side4 ?side5 A75.out).mono ?_
          (case side1 => exact q7_ HI0 NB0_253 NB0_254)
          (case side2 => exact q9_ HB HI0 GE253 GE254)
          (case side3 => repeat (first | exact (Kd.R_reads' HO293.out).2.2 | (with_reducible refine cA ?_ _) | (with_reducible refine cN ?_ _) | (with_reducible refine cD ?_)))
          (case side4 => exact (Kd.R_reads' HO293.out).2.1)
          (case side5 => exact far_slice (IsS139.own_ne HI0.out HO293.out (by decide)))
          rintro e w90 ⟨rfl, hi, hb, hk⟩
          refine ⟨_, rfl, ?_⟩
          replace HO_255000 := aM (Kd.R_mono (Kd.R_keep (IsS139.apart (show IsS139 w0 _ g s0_0 t277 t278 from (q7_ HI0 NB0_253 NB0_254)) (uR HO_255000) (by decide)) hk (fun _ h => h.2)) (fun _ h => h.1))
          replace BK253 := aM (KeepBut.blk hk (g' := gb253) (o := .cells #[.slice none 0 0] 30 (0, 0)) (uB BK253) NB253_0.out (by simp))
          replace BK254 := aM (KeepBut.blk hk (g' := gb254) (o := .cells #[.slice Ao83 x255000_1.length co83] 30 (0, 0)) (uB BK254) NB254_0.out (by simp))
          replace HO293 := aM (Kd.R_mono (Kd.R_keep (IsS139.apart (show IsS139 w0 _ g s0_0 t277 t278 from (q7_ HI0 NB0_253 NB0_254)) (uR HO293) (by decide)) hk (fun _ h => h.2)) (fun _ h => h.1))
          replace HK := aM (KeepBut.trans (q8_ HK GW253 GW254) hk (.inl rfl))
          replace HB := aM (hb)
          replace HI0 := aM (hi)
          (try clear hb)
          (try clear hb2)
          (try clear hk)
          (try clear hi)
          have p78 : 0 ≤ (t273 : Int) := of_decide_eq_true (by first | (with_reducible assumption) | assumption)
          have q78 : (t273 : Int) < ((x255000_1.length : Int) : Int) := of_decide_eq_true (by first | (with_reducible assumption) | assumption)
          obtain ⟨go78, co78, eo78, gb78, gl78, cl78, HG78⟩ := Kd.R_form HO_255000.out (by omega)
          (first | cases eo78 | (injection eo78 with ea_ en_ ec_; (first | subst ea_ | (injection ea_ with ea_; subst ea_)); subst ec_; clear en_))
          have GB78 := aM gb78
          have GG78 := aM HG78
          clear gb78 gl78 HG78
          obtain ⟨ce78, hcl78, hM78, hcc78, hfr78⟩ := Kd.R_elem HO_255000.out z45 (t273 : Int) p78 q78
          obtain rfl := k45_openM hM78
          have hx78_0 : World.cell? _ ⟨go78, (t273 : Int).toNat * 3, none⟩ = some (.string ((rd_T45 x255000_1 t273).f0)) := hcc78 0 _ rfl
          have hx78_1 : World.cell? _ ⟨go78, (t273 : Int).toNat * 3 + 1, none⟩ = some (.string ((rd_T45 x255000_1 t273).f1)) := hcc78 1 _ rfl
          have hx78_2 : World.cell? _ ⟨go78, (t273 : Int).toNat * 3 + 2, none⟩ = some (.int .i64 ((rd_T45 x255000_1 t273).f2)) := hcc78 2 _ rfl
          have hf78_0 : World.frozen? _ ⟨go78, (t273 : Int).toNat * 3, none⟩ = false := hfr78 0
          have hf78_1 : World.frozen? _ ⟨go78, (t273 : Int).toNat * 3 + 1, none⟩ = false := hfr78 1
          have hf78_2 : World.frozen? _ ⟨go78, (t273 : Int).toNat * 3 + 2, none⟩ = false := hfr78 2
          clear hcl78 hcc78 hfr78 hM78
          replace p78 := eq_true p78; replace q78 := eq_true q78
          have HN0_go78 := aM (show g ≠ go78 from by have h_ := IsS139.own_ne HI0.out HO_255000.out (by decide); intro e_; exact h_ (by rw [e_]; rfl))
          obtain ⟨ce91, hcl91, hM91, hcc91, hfr91⟩ := Kd.R_elem HO_255000.out z45 (t273 : Int) (of_decide_eq_true (by first | (with_reducible assumption) | assumption)) (by have h_ : (t273 : Int) < ((x255000_1.length : Int) : Int) := of_decide_eq_true (by first | (with_reducible assumption) | assumption); first | exact h_ | (have e_ := (Kd.R_reads' HO_255000.out).1; omega) | simpa using h_)
          obtain rfl := k45_openM hM91
          have HP91 := (Kd.R_seg HO_255000.out (t273 : Int) (of_decide_eq_true (by first | (with_reducible assumption) | assumption)) (by have h_ : (t273 : Int) < ((x255000_1.length : Int) : Int) := of_decide_eq_true (by first | (with_reducible assumption) | assumption); first | exact h_ | (have e_ := (Kd.R_reads' HO_255000.out).1; omega) | simpa using h_) (seg := [.string t294]) (j := 0) hcl91 hcc91 (show 1 ≤ 3 from by decide) (x' := (⟨t294, (rd_T45 x255000_1 t273).f1, (rd_T45 x255000_1 t273).f2⟩ : S45)) (k45_mkM _ _ _ (⟨t294, (rd_T45 x255000_1 t273).f1, (rd_T45 x255000_1 t273).f2⟩ : S45) ) (fun _ hk => hk)).1
          rw [← Ny297.out] at HP91
          have HQ91 := aM HP91
          clear hcl91 hcc91 hfr91 hM91 HP91
          refine hK.out _ _ ((blk_cell BK254.out 0).trans rfl) (fun hHeld => ?_)
          clear hK K
          refine nX 79 ?_; refine pA HT_.out 6 80 9 127 ?_; refine pA HT_.out 7 81 9 255 ?_
          refine last_ (i := 8) (N := none) (bB 9 511) rfl rfl (one_of HT_.out (by kernel_rfl)) (by decide) (fun K hK => ?_)
          refine skip_ (w1 := ?_) (by rfl) rfl ?_ ?_
          rotate_left
          ·go_simp
           rfl
          refine hK.out _ _ ?_
          clear hK K
          refine done_ (done_of HT_.out (by kernel_rfl)) ?_
          have n0_ : Aside0 (Kd.R k45 45 (w90.setCell ⟨go78, (t273 : Int).toNat * 3, none⟩ (.string t294)) w.heap.size (fun _ => True) (.slice (some ⟨go78, 0, none⟩) x255000_1.length co83) y297) := ⟨by (with_reducible repeat first | apply rA | apply rN | apply rD); exact HQ91.out⟩
          have n1_ : Aside0 (Kd.R Kd.string 9 (w90.setCell ⟨go78, (t273 : Int).toNat * 3, none⟩ (.string t294)) w.heap.size (fun _ => True) (.slice Ao89 y291.length co89) y291) := ⟨by (with_reducible repeat first | apply rA | apply rN | apply rD); exact Kd.R_mono (Kd.R_far (p := ⟨go78, (t273 : Int).toNat * 3, none⟩) (Kd.R_types HO293.out GG78.out (by decide)) (fun _ hk => hk.2) (.string t294)) (fun _ hk => trivial)⟩
          have n2_ : Aside0 ((w90.setCell ⟨go78, (t273 : Int).toNat * 3, none⟩ (.string t294)).heap[gb253]? = some (.cells #[.slice none 0 0] 30 (0, 0))) := ⟨by refine nB ?_; refine blk_far ?_ (by have h_ := Kd.R_ne HO_255000.out BK253.out (by decide); intro e_; exact h_ (by rw [e_]; rfl)) _; exact nB BK253.out⟩
          have n3_ : Aside0 ((w90.setCell ⟨go78, (t273 : Int).toNat * 3, none⟩ (.string t294)).heap[gb254]? = some (.cells #[.slice (some ⟨go78, 0, none⟩) x255000_1.length co83] 30 (0, 0))) := ⟨by refine nB ?_; refine blk_far ?_ (by have h_ := Kd.R_ne HO_255000.out BK254.out (by decide); intro e_; exact h_ (by rw [e_]; rfl)) _; exact nB BK254.out⟩
          have n4_ : Aside0 (IsS139 w0 (w90.setCell ⟨go78, (t273 : Int).toNat * 3, none⟩ (.string t294)) g s0_0 t295 t296) := ⟨q10_ HI0 HN0_go78 NB0_253 NB0_254⟩
          have n5_ : Aside0 (KeepBut w (w90.setCell ⟨go78, (t273 : Int).toNat * 3, none⟩ (.string t294)) g none) := ⟨q11_ HK GB78 GW253 GW254⟩
          have n6_ : Aside0 (Below w0.heap.size w0 (w90.setCell ⟨go78, (t273 : Int).toNat * 3, none⟩ (.string t294))) := ⟨q12_ HB HL GB78 HI0 GE253 GE254⟩
          (try clear HO_255000)
          (try clear HO293)
          (try clear BK253)
          (try clear BK254)
          (try clear HI0)
          (try clear HK)
          (try clear HB)
          generalize (w90.setCell ⟨go78, (t273 : Int).toNat * 3, none⟩ (.string t294)) = w92 at n0_ n1_ n2_ n3_ n4_ n5_ n6_ ⊢
          have HO_255000 := n0_; have HO293 := n1_; have BK253 := n2_; have BK254 := n3_; have HI0 := n4_; have HK := n5_; have HB := n6_; clear n0_ n1_ n2_ n3_ n4_ n5_ n6_
          have hcz93_0 := czA BK254.out 0 (.slice (some ⟨go78, 0, none⟩) x255000_1.length co83)
          have hfz93_0 := blk_frozen BK254.out 0; have hnb94 := NB253_0.out; have hnc94 := NB0_253.out
          have hcz95_0 := czA BK253.out 0 (.slice none 0 0)
          have hfz95_0 := blk_frozen BK253.out 0
          try go_wp2
          refine bodyPost_ret (results_cell_row rfl _ _ gb253 30 #[.slice (some ⟨go78, 0, none⟩) x255000_1.length co83] (0, 0) _ rfl (by refine nB ?_; refine blk_put (cs := #[.slice none 0 0]) ?_ 0 _ rfl; exact nB BK253.out) Try.underlying30 rfl (by kernel_rfl)) rfl ?_
          exact ⟨_, by first | rfl | (simp [errW_none, errW_some] <;> rfl) | (simp [*, errW_none, errW_some] <;> rfl), by (with_reducible repeat first | apply rA | apply rN | apply rD); exact Kd.R_mono (Kd.R_far (p := ⟨gb253, 0, none⟩) (Kd.R_types HO_255000.out BK253.out (by decide)) (fun _ hk => hk.2) (.slice (some ⟨go78, 0, none⟩) x255000_1.length co83)) (fun _ hk => trivial), q7_ HI0 NB0_253 NB0_254, q9_ HB HI0 GE253 GE254, q8_ HK GW253 GW254⟩
         ·rw [if_neg c77] at H
          exact absurd H (by simp)
        ·rw [if_neg c76] at H
         exact absurd H (by simp)
       ·rw [if_neg c74] at H
        have c74b0 : (t276 == 2) = false := beq_eq_false_iff_ne.mpr c74
        have c74b1 : (t276 != 2) = true := bne_iff_ne.mpr c74
        by_cases c96 : t276 = 3
        ·rw [if_pos c96] at H
         have c96b0 : (t276 == 3) = true := beq_iff_eq.mpr c96
         have c96b1 : (t276 != 3) = false := bne_eq_false_iff_eq.mpr c96
         clear c96
         obtain ⟨y298, hy298⟩ : ∃ y_ : List (S45), y_ = (([] : List (S45))) := ⟨_, rfl⟩
         replace H : (spec_l03Disk.l1 k1 0 s0_0 t277 t278 y298) = some (r1, r2, r3) := by first | (rw [hy298]; with_reducible exact H) | (have H2_ := (Option.bind_some _ _).symm.trans H; rw [hy298]; with_reducible exact H2_) | (have H2_ := (Option.bind_some _ _).symm.trans H; with_reducible exact H2_) | with_reducible exact H | (rw [hy298]; exact H) | exact H
         have Ny298 := aM hy298
         clear hy298
         have H' := aM H
         clear H
         go_wp2_with (first | ((with_reducible refine gate_callee (f := 77) rfl ?_); refine gL (some 11) Try.func77 #[.pointer (some ⟨g, 0, none⟩), .int .i64 6] ?_; (with_reducible refine (spec_l01Below.calls g s0_0 x1001_1 x1002_1 6 t255 t256 t257 w0 _ ?side1 ?side2 A7.out).mono ?_); (case side1 => exact q7_ HI0 NB0_253 NB0_254); (case side2 => exact q9_ HB HI0 GE253 GE254); rintro e w97 ⟨rfl, hi, hb, hk⟩; refine ⟨_, rfl, ?_⟩; replace HO_255000 := aM (Kd.R_mono (Kd.R_keep (IsS139.apart (show IsS139 w0 _ g s0_0 x1001_1 x1002_1 from (q7_ HI0 NB0_253 NB0_254)) (uR HO_255000) (by decide)) hk (fun _ h => h.2)) (fun _ h => h.1)); replace BK253 := aM (KeepBut.blk hk (g' := gb253) (o := .cells #[.slice none 0 0] 30 (0, 0)) (uB BK253) NB253_0.out (by simp)); replace BK254 := aM (KeepBut.blk hk (g' := gb254) (o := .cells #[u255000] 30 (0, 0)) (uB BK254) NB254_0.out (by simp)); replace HK := aM (KeepBut.trans (q8_ HK GW253 GW254) hk (.inl rfl)); replace HB := aM (hb); replace HI0 := aM (hi); try clear hb hk hi; have hnb98 := NB254_253.out; have hnc98 := NB253_254.out; have hnb99 := NB254_0.out; have hnc99 := NB0_254.out; have hcz100_0 := czA BK254.out 0 (u255000); have hfz100_0 := blk_frozen BK254.out 0; obtain ⟨Ao101, co101, eo101⟩ := Kd.R_slice HO_255000.out; subst eo101) | ((with_reducible refine gate_callee (f := 77) rfl ?_); refine gL (some 39) Try.func77 #[.pointer (some ⟨g, 0, none⟩), .int .i64 (x255000_1.length : Int)] ?_; (with_reducible refine (spec_l01Below.calls g s0_0 t256 t257 (x255000_1.length : Int) t273 t274 t275 w0 _ ?side1 ?side2 A32.out).mono ?_); (case side1 => exact q7_ HI0 NB0_253 NB0_254); (case side2 => exact q9_ HB HI0 GE253 GE254); rintro e w102 ⟨rfl, hi, hb, hk⟩; refine ⟨_, rfl, ?_⟩; replace HO_255000 := aM (Kd.R_mono (Kd.R_keep (IsS139.apart (show IsS139 w0 _ g s0_0 t256 t257 from (q7_ HI0 NB0_253 NB0_254)) (uR HO_255000) (by decide)) hk (fun _ h => h.2)) (fun _ h => h.1)); replace BK253 := aM (KeepBut.blk hk (g' := gb253) (o := .cells #[.slice none 0 0] 30 (0, 0)) (uB BK253) NB253_0.out (by simp)); replace BK254 := aM (KeepBut.blk hk (g' := gb254) (o := .cells #[.slice Ao101 x255000_1.length co101] 30 (0, 0)) (uB BK254) NB254_0.out (by simp)); replace HK := aM (KeepBut.trans (q8_ HK GW253 GW254) hk (.inl rfl)); replace HB := aM (hb); replace HI0 := aM (hi); try clear hb hk hi) | ((with_reducible refine gate_callee (f := 77) rfl ?_); refine gL (some 41) Try.func77 #[.pointer (some ⟨g, 0, none⟩), .int .i64 40] ?_; (with_reducible refine (spec_l01Below.calls g s0_0 t274 t275 40 t276 t277 t278 w0 _ ?side1 ?side2 A33.out).mono ?_); (case side1 => exact q7_ HI0 NB0_253 NB0_254); (case side2 => exact q9_ HB HI0 GE253 GE254); rintro e w103 ⟨rfl, hi, hb, hk⟩; refine ⟨_, rfl, ?_⟩; replace HO_255000 := aM (Kd.R_mono (Kd.R_keep (IsS139.apart (show IsS139 w0 _ g s0_0 t274 t275 from (q7_ HI0 NB0_253 NB0_254)) (uR HO_255000) (by decide)) hk (fun _ h => h.2)) (fun _ h => h.1)); replace BK253 := aM (KeepBut.blk hk (g' := gb253) (o := .cells #[.slice none 0 0] 30 (0, 0)) (uB BK253) NB253_0.out (by simp)); replace BK254 := aM (KeepBut.blk hk (g' := gb254) (o := .cells #[.slice Ao101 x255000_1.length co101] 30 (0, 0)) (uB BK254) NB254_0.out (by simp)); replace HK := aM (KeepBut.trans (q8_ HK GW253 GW254) hk (.inl rfl)); replace HB := aM (hb); replace HI0 := aM (hi); try clear hb hk hi) | ((with_reducible refine gate_dst (N := 84) rfl ?_); refine Kd.R_lit k45 _ 45 ?hg (N := 84) ?hd (xs := ([] : List (S45))) (inner := []) (ok := fun _ => True) (okp := fun _ => True) ?hr ?hp (fun _ hk => hk) trivial (Below.refl _ _) (Nat.le_refl _) (by simp) ?_; (case hd => rfl); (case hg => rfl); (case hr => first | (go_simp; done) | (go_simp; rfl)); (case hp => exact (Reps.none _ _)); intro v299 w104 ho105 hb hg_ hnew_; clear hg_ hnew_; (first | rw [← Ny298.out] at ho105 | (simp only [Int.reduceToNat] at ho105; rw [← Ny298.out] at ho105)); have HO300 := aM (Kd.R_lower (Kd.R_new' ho105 (Kd.R_lt (uR HO_255000))) (keep_size (w := w) (g := g) (row := none) (q8_ HK GW253 GW254))); replace HO_255000 := aM (Kd.R_elder' (uR HO_255000) (Kd.R_base ho105) hb); replace BK253 := blkB BK253 hb; replace BK254 := blkB BK254 hb; replace HK := aM (KeepBut.trans (q8_ HK GW253 GW254) (KeepBut.of_below hb g none) (.inl rfl)); replace HB := aM (below_step (q9_ HB HI0 GE253 GE254) hb); replace HI0 := aM (IsS139.below (q7_ HI0 NB0_253 NB0_254) hb); clear hb ho105; obtain ⟨Ao106, co106, eo106⟩ := Kd.R_slice HO300.out; subst eo106; have hcz107_0 := czA BK254.out 0 (.slice Ao101 x255000_1.length co101); have hfz107_0 := blk_frozen BK254.out 0))
         go_loopg [7] k1 (fun kq v7 w' => ∃ (x7_2 : Int) (x1001_2 : Int) (x1002_2 : Int) (x255000_2 : List (S45)) (u255000 : Value), v7 = .int .i64 x7_2 ∧ Aside0 (spec_l03Disk.l1 kq x7_2 s0_0 x1001_2 x1002_2 x255000_2 = some (r1, r2, r3)) ∧ Aside0 (kq ≤ k1) ∧ Aside0 (Kd.R k45 45 w' w.heap.size (fun _ => True) u255000 x255000_2) ∧ Aside0 (w'.heap[gb253]? = some (.cells #[(.slice none 0 0)] 30 (0, 0))) ∧ Aside0 (w'.heap[gb254]? = some (.cells #[u255000] 30 (0, 0))) ∧ Aside0 (IsS139 w0 w' g s0_0 x1001_2 x1002_2) ∧ Aside0 (KeepBut w w' g none) ∧ Aside0 (Below w0.heap.size w0 w'))
         case atStart => exact ⟨(0), (t277), (t278), (y298), (.slice Ao106 y298.length co106), (by first | rfl | (simp; done) | (simp [*]; done)), H', ⟨Nat.le_refl _⟩, ⟨by (with_reducible repeat first | apply rA | apply rN | apply rD); exact Kd.R_mono (Kd.R_far (p := ⟨gb254, 0, none⟩) (Kd.R_types HO300.out BK254.out (by decide)) (fun _ hk => hk.2) (.slice Ao106 y298.length co106)) (fun _ hk => trivial)⟩, ⟨by refine nB ?_; refine blk_far ?_ NB253_254.out _; exact nB BK253.out⟩, ⟨by refine nB ?_; refine blk_put (cs := #[.slice Ao101 x255000_1.length co101]) ?_ 0 _ rfl; exact nB BK254.out⟩, ⟨q7_ HI0 NB0_253 NB0_254⟩, ⟨q8_ HK GW253 GW254⟩, ⟨q9_ HB HI0 GE253 GE254⟩⟩
         case round =>
          clear H'
          try clear c1; try clear p2; try clear q2; try clear hx2; try clear c3; try clear p3; try clear q3; try clear hx3; try clear hf3; try clear c5; try clear c6; try clear c7; try clear p7; try clear q7; try clear hx7; try clear hf7; try clear c8; try clear c9; try clear c11; try clear c12; try clear hx27; try clear p28; try clear q28; try clear hx28; try clear c34; try clear c34b0; try clear c34b1; try clear c35; try clear c36; try clear c38; try clear p38; try clear q38; try clear hx38; try clear hf38; try clear c51; try clear c54; try clear c56; try clear c56b0; try clear c56b1; try clear c57; try clear c57b0; try clear c58; try clear c58b0; try clear c59; try clear c61; try clear c62; try clear c72; try clear c74; try clear c74b0; try clear c74b1; try clear c76; try clear c76b0; try clear c77; try clear c77b0; try clear c78; try clear p78; try clear q78; try clear hx78; try clear hf78; try clear c80; try clear c81; try clear c91; try clear c94; try clear c96; try clear c96b0; try clear c96b1; try clear c98; try clear c99; try clear hcz100_0; try clear hcz107_0; try clear hcz53_0; try clear hcz55_0; try clear hcz63_0; try clear hcz71_0; try clear hcz73_0; try clear hcz82_0; try clear hcz93_0; try clear hcz95_0; try clear hfz100_0; try clear hfz107_0; try clear hfz53_0; try clear hfz55_0; try clear hfz63_0; try clear hfz71_0; try clear hfz73_0; try clear hfz82_0; try clear hfz93_0; try clear hfz95_0; try clear hx279_0; try clear hx279_1; try clear hx279_2; try clear hx287_0; try clear hx287_1; try clear hx287_2; try clear hx38_0; try clear hx38_1; try clear hx38_2; try clear hx78_0; try clear hx78_1; try clear hx78_2; try clear p287; try clear p38; try clear p78; try clear q287; try clear q38; try clear q78
          obtain ⟨x7_2, x1001_2, x1002_2, x255000_2, u255000, rfl, HA, HK2, HO_255000, BK253, BK254, HI0, HK, HB⟩ := hrel
          cases gk with
          | zero => exact absurd HA.out (by simp [spec_l03Disk.l1])
          | succ k2 =>
           have H := HA.out
           clear HA
           simp only [spec_l03Disk.l1] at H
           replace H := Option.bind_eq_some_iff.mp H
           obtain ⟨⟨t301, t302, t303⟩, A1080, H⟩ := H
           try dsimp only at H
           have A108 := aM A1080
           clear A1080
           by_cases c109 : x7_2 < (wrap64 (30 + t301))
           ·rw [if_pos c109] at H
            have c109b0 : decide (x7_2 < (wrap64 (30 + t301))) = true := decide_eq_true c109
            clear c109
            replace H := Option.bind_eq_some_iff.mp H
            obtain ⟨t304, A1100, H⟩ := H
            try dsimp only at H
            have A110 := aM A1100
            clear A1100
            by_cases c111 : 1 + t304.size ≤ 9223372036854775807
            ·rw [if_pos c111] at H
             have c111b0 := eq_true c111
             have c111b1 : decide (1 + t304.size ≤ 9223372036854775807) = true := decide_eq_true c111
             try have c111b2 : (9223372036854775807 < 1 + t304.size) = False := eq_false (Nat.not_lt.2 c111)
             by_cases c112 : x255000_2.length < 3518437208883
             ·rw [if_pos c112] at H
              have LMc112 := aM c112
              clear c112
              obtain ⟨y305, hy305⟩ : ∃ y_ : List (S45), y_ = (x255000_2 ++ [(⟨(⟨#[102]⟩ : ByteArray) ++ t304, (⟨#[]⟩ : ByteArray), 0⟩ : S45)]) := ⟨_, rfl⟩
              replace H : (spec_l03Disk.l1 k2 (wrap64 (x7_2 + 1)) s0_0 t302 t303 y305) = some (r1, r2, r3) := by first | (rw [hy305]; with_reducible exact H) | (have H2_ := (Option.bind_some _ _).symm.trans H; rw [hy305]; with_reducible exact H2_) | (have H2_ := (Option.bind_some _ _).symm.trans H; with_reducible exact H2_) | with_reducible exact H | (rw [hy305]; exact H) | exact H
              have Ny305 := aM hy305
              clear hy305
              have H' := aM H
              clear H
              try go_wp2_with (first | ((with_reducible refine gate_callee (f := 77) rfl ?_); refine gL (some 88) Try.func77 #[.pointer (some ⟨g, 0, none⟩), .int .i64 2] ?_; (with_reducible refine (spec_l01Below.calls g s0_0 x1001_2 x1002_2 2 t301 t302 t303 w0 _ ?side1 ?side2 A108.out).mono ?_); (case side1 => exact q7_ HI0 NB0_253 NB0_254); (case side2 => exact q9_ HB HI0 GE253 GE254); rintro e w113 ⟨rfl, hi, hb, hk⟩; refine ⟨_, rfl, ?_⟩; replace HO_255000 := aM (Kd.R_mono (Kd.R_keep (IsS139.apart (show IsS139 w0 _ g s0_0 x1001_2 x1002_2 from (q7_ HI0 NB0_253 NB0_254)) (uR HO_255000) (by decide)) hk (fun _ h => h.2)) (fun _ h => h.1)); replace BK253 := aM (KeepBut.blk hk (g' := gb253) (o := .cells #[.slice none 0 0] 30 (0, 0)) (uB BK253) NB253_0.out (by simp)); replace BK254 := aM (KeepBut.blk hk (g' := gb254) (o := .cells #[u255000] 30 (0, 0)) (uB BK254) NB254_0.out (by simp)); replace HK := aM (KeepBut.trans (q8_ HK GW253 GW254) hk (.inl rfl)); replace HB := aM (hb); replace HI0 := aM (hi); try clear hb hk hi))
              replace HO_255000 := aM (Kd.R_drew HO_255000.out)
              replace BK253 := aM (blk_drew BK253.out)
              replace BK254 := aM (blk_drew BK254.out)
              replace HI0 := aM (IsS139.drew HI0.out)
              replace HK := aM (keep_drew HK.out)
              replace HB := aM (below_drew1 HB.out)
              refine start_ (n := 11) (S := fun w' => w'.cell? ⟨gb254, 0, none⟩ = some (u255000)) (ds := [10]) (bB 11 0) (by kernel_rfl) rfl rfl ((blk_cell BK254.out 0).trans rfl) (fun hHeld => ?_); refine with_tabW spec_l03Disk.tab22 spec_l03Disk.bits22 (fun HT_ HW_ => ?_)
              generalize w113.drew = w114 at HO_255000 BK253 BK254 HI0 HK HB hHeld ⊢
              refine pA HT_.out 0 93 11 1 ?_; refine pA HT_.out 2 95 11 5 ?_; refine pA HT_.out 3 96 11 13 ?_; refine tA HT_.out HW_.out 1 94 11 15 hHeld ?_
              refine oA HT_.out 4 (some 97) 11 31 (fun K hK => ?_)
              refine gX Try.func124 #[.int .i64 (wrap64 (100 + x7_2))] ?_
              with_reducible refine (spec_Decimal.calls k2 (wrap64 (100 + x7_2)) t304 _ A110.out).mono ?_
              rintro e w115 ⟨rfl, hb⟩
              refine ⟨_, rfl, ?_⟩
              replace HO_255000 := aM (Kd.R_below (uR HO_255000) hb)
              replace BK253 := blkB BK253 hb
              replace BK254 := blkB BK254 hb
              replace HK := aM (KeepBut.trans (q8_ HK GW253 GW254) (KeepBut.of_below hb g none) (.inl rfl))
              replace HB := aM (below_step (q9_ HB HI0 GE253 GE254) hb)
              replace HI0 := aM (IsS139.below (q7_ HI0 NB0_253 NB0_254) hb)
              (try clear hb)
              (try clear hb2)
              (try clear hk)
              (try clear hi)
              refine hK.out _ _ ((blk_cell BK254.out 0).trans rfl) (fun hHeld => ?_)
              clear hK K
              refine nX 97 ?_; refine pA HT_.out 5 98 11 63 ?_; refine pA HT_.out 6 99 11 127 ?_
              refine oA HT_.out 7 (some 100) 11 255 (fun K hK => ?_)
              refine value_ (w1 := ?_) (v := ?_) (by rfl) rfl ?_ ?_
              rotate_left 2
              ·go_simp
               constructor
               ·rfl
               ·rfl
              refine hK.out _ _ ((blk_cell (blk_alloc BK254.out _) 0).trans rfl) (fun hHeld => ?_)
              clear hK K
              refine nX 100 ?_
              refine oA HT_.out 8 (some 101) 11 511 (fun K hK => ?_)
              refine Kd.R_append_step k45 w.heap.size (by rfl) (.tmp 94) (.tmp 100) 28 45 (.agg #[(.string ⟨#[]⟩), (.string ⟨#[]⟩), (.int .i64 0)]) 40 rfl Try.underlying28 info45 rfl (by decide) (by omega) u255000 x255000_2 (⟨(⟨#[102]⟩ : ByteArray) ++ t304, (⟨#[]⟩ : ByteArray), 0⟩ : S45) [.string ((⟨#[102]⟩ : ByteArray) ++ t304), .string (⟨#[]⟩ : ByteArray), .int .i64 0] (fun _ => True) (fun _ => False) rfl rfl ?aP (fun _ hk => hk.elim) ?aF ?aO (Below.refl _ _) ?aS ?aL ?_
              (case aP => exact k45_mkM _ _ _ (⟨(⟨#[102]⟩ : ByteArray) ++ t304, (⟨#[]⟩ : ByteArray), 0⟩ : S45))
              (case aF => exact (fun _ _ => trivial))
              (case aO => exact (uR HO_255000))
              (case aS => exact (keep_size (w := w) (g := g) (row := none) (q8_ HK GW253 GW254)))
              (case aL => have := LMc112.out; omega)
              intro v306 w116 ho hb hg hat
              rw [← Ny305.out] at ho
              have n0_ := aM (blk_grown (g := gb253) (o := .cells #[.slice none 0 0] 30 (0, 0)) (uB BK253) hg (Kd.R_ne HO_255000.out BK253.out (by decide)))
              have n1_ := aM (blk_grown (g := gb254) (o := .cells #[u255000] 30 (0, 0)) (uB BK254) hg (Kd.R_ne HO_255000.out BK254.out (by decide)))
              have n2_ := aM (IsS139.grown (q7_ HI0 NB0_253 NB0_254) hg (IsS139.own_ne HI0.out HO_255000.out (by decide)))
              have n3_ := aM (below_weaken (q9_ HB HI0 GE253 GE254) HL.out hb)
              have n4_ := aM (KeepBut.trans (q8_ HK GW253 GW254) (KeepBut.of_grown hg g) (Kd.R_base2 HO_255000.out))
              have n5_ := aM (ho)
              clear BK253 BK254 HI0 HB HK HO_255000; have BK253 := n0_; have BK254 := n1_; have HI0 := n2_; have HB := n3_; have HK := n4_; have HO307 := n5_; clear n0_ n1_ n2_ n3_ n4_ n5_ ho hb hg hat
              obtain ⟨Ao117, co117, eo117⟩ := Kd.R_slice HO307.out
              (first | subst eo117 | (injection eo117 with f1_ f2_ f3_; have f4_ := f1_.symm; have f5_ := f3_.symm; clear f1_ f2_ f3_; subst f4_; subst f5_))
              refine hK.out _ _ ((blk_cell BK254.out 0).trans rfl) (fun hHeld => ?_)
              clear hK K
              refine nX 101 ?_; refine pA HT_.out 9 102 11 1023 ?_
              refine last_ (i := 10) (N := none) (bB 11 2047) rfl rfl (one_of HT_.out (by kernel_rfl)) (by decide) (fun K hK => ?_)
              have hs118 := czA BK254.out 0 (u255000)
              have hfs118 := blk_frozen BK254.out 0; have hns118_0 := NB253_254.out; have hms118_0 := NB254_253.out
              refine skip_ (w1 := ?_) (by rfl) rfl ?_ ?_
              rotate_left
              ·go_simp
               rfl
              refine hK.out _ _ ?_
              clear hK K
              refine done_ (done_of HT_.out (by kernel_rfl)) ?_
              try go_wp2
              go_roundg k2
              case measure => have := HK1.out; have := HK2.out; omega
              case rel => exact ⟨(wrap64 (x7_2 + 1)), (t302), (t303), (y305), (.slice Ao117 y305.length co117), (by first | rfl | (simp; done) | (simp [*]; done)), H', ⟨by have := HK1.out; have := HK2.out; omega⟩, ⟨by (with_reducible repeat first | apply rA | apply rN | apply rD); exact Kd.R_mono (Kd.R_far (p := ⟨gb254, 0, none⟩) (Kd.R_types HO307.out BK254.out (by decide)) (fun _ hk => hk.2) (.slice Ao117 y305.length co117)) (fun _ hk => trivial)⟩, ⟨by refine nB ?_; refine blk_far ?_ NB253_254.out _; exact nB BK253.out⟩, ⟨by refine nB ?_; refine blk_put (cs := #[u255000]) ?_ 0 _ rfl; exact nB BK254.out⟩, ⟨q7_ HI0 NB0_253 NB0_254⟩, ⟨q8_ HK GW253 GW254⟩, ⟨q9_ HB HI0 GE253 GE254⟩⟩
             ·rw [if_neg c112] at H
              exact absurd H (by simp)
            ·rw [if_neg c111] at H
             exact absurd H (by simp)
           ·rw [if_neg c109] at H
            have c109b0 : decide (x7_2 < (wrap64 (30 + t301))) = false := decide_eq_false c109
            clear c109
            simp only [Option.some.injEq, Prod.mk.injEq] at H
            obtain ⟨rfl, rfl, rfl⟩ := H
            go_wp2_with (first | ((with_reducible refine gate_callee (f := 77) rfl ?_); refine gL (some 88) Try.func77 #[.pointer (some ⟨g, 0, none⟩), .int .i64 2] ?_; (with_reducible refine (spec_l01Below.calls g s0_0 x1001_2 x1002_2 2 t301 t302 t303 w0 _ ?side1 ?side2 A108.out).mono ?_); (case side1 => exact q7_ HI0 NB0_253 NB0_254); (case side2 => exact q9_ HB HI0 GE253 GE254); rintro e w119 ⟨rfl, hi, hb, hk⟩; refine ⟨_, rfl, ?_⟩; replace HO_255000 := aM (Kd.R_mono (Kd.R_keep (IsS139.apart (show IsS139 w0 _ g s0_0 x1001_2 x1002_2 from (q7_ HI0 NB0_253 NB0_254)) (uR HO_255000) (by decide)) hk (fun _ h => h.2)) (fun _ h => h.1)); replace BK253 := aM (KeepBut.blk hk (g' := gb253) (o := .cells #[.slice none 0 0] 30 (0, 0)) (uB BK253) NB253_0.out (by simp)); replace BK254 := aM (KeepBut.blk hk (g' := gb254) (o := .cells #[u255000] 30 (0, 0)) (uB BK254) NB254_0.out (by simp)); replace HK := aM (KeepBut.trans (q8_ HK GW253 GW254) hk (.inl rfl)); replace HB := aM (hb); replace HI0 := aM (hi); try clear hb hk hi; have hnb120 := NB254_253.out; have hnc120 := NB253_254.out; have hnb121 := NB254_0.out; have hnc121 := NB0_254.out; have hcz122_0 := czA BK254.out 0 (u255000); have hfz122_0 := blk_frozen BK254.out 0; obtain ⟨Ao123, co123, eo123⟩ := Kd.R_slice HO_255000.out; subst eo123; have hnb124 := NB253_0.out; have hnc124 := NB0_253.out; have hcz125_0 := czA BK253.out 0 (.slice none 0 0); have hfz125_0 := blk_frozen BK253.out 0))
            refine bodyPost_ret (results_cell_row rfl _ _ gb253 30 #[.slice Ao123 x255000_2.length co123] (0, 0) _ rfl (by refine nB ?_; refine blk_put (cs := #[.slice none 0 0]) ?_ 0 _ rfl; exact nB BK253.out) Try.underlying30 rfl (by kernel_rfl)) rfl ?_
            exact ⟨_, by first | rfl | (simp [errW_none, errW_some] <;> rfl) | (simp [*, errW_none, errW_some] <;> rfl), by (with_reducible repeat first | apply rA | apply rN | apply rD); exact Kd.R_mono (Kd.R_far (p := ⟨gb253, 0, none⟩) (Kd.R_types HO_255000.out BK253.out (by decide)) (fun _ hk => hk.2) (.slice Ao123 x255000_2.length co123)) (fun _ hk => trivial), q7_ HI0 NB0_253 NB0_254, q9_ HB HI0 GE253 GE254, q8_ HK GW253 GW254⟩
        ·rw [if_neg c96] at H
         have c96b0 : (t276 == 3) = false := beq_eq_false_iff_ne.mpr c96
         have c96b1 : (t276 != 3) = true := bne_iff_ne.mpr c96
         by_cases c126 : t276 = 4
         ·rw [if_pos c126] at H
          have c126b0 : (t276 == 4) = true := beq_iff_eq.mpr c126
          have c126b1 : (t276 != 4) = false := bne_eq_false_iff_eq.mpr c126
          clear c126
          replace H := Option.bind_eq_some_iff.mp H
          obtain ⟨⟨t308, t309, t310⟩, A1270, H⟩ := H
          try dsimp only at H
          have A127 := aM A1270
          clear A1270
          replace H := Option.bind_eq_some_iff.mp H
          obtain ⟨t311, A1280, H⟩ := H
          try dsimp only at H
          have A128 := aM A1280
          clear A1280
          by_cases c129 : 0 ≤ t273
          ·rw [if_pos c129] at H
           have c129b0 : decide (0 ≤ t273) = true := decide_eq_true c129
           clear c129
           by_cases c130 : t273 < (x255000_1.length : Int)
           ·rw [if_pos c130] at H
            have c130b0 : decide (t273 < (x255000_1.length : Int)) = true := decide_eq_true c130
            clear c130
            obtain ⟨y312, hy312⟩ : ∃ y_ : List (S45), y_ = (x255000_1.set (t273 : Int).toNat (⟨(rd_T45 x255000_1 t273).f0, t311, (rd_T45 x255000_1 t273).f2⟩ : S45)) := ⟨_, rfl⟩
            replace H : (some (y312, t309, t310)) = some (r1, r2, r3) := by first | (rw [hy312]; with_reducible exact H) | (have H2_ := (Option.bind_some _ _).symm.trans H; rw [hy312]; with_reducible exact H2_) | (have H2_ := (Option.bind_some _ _).symm.trans H; with_reducible exact H2_) | with_reducible exact H | (rw [hy312]; exact H) | exact H
            have Ny312 := aM hy312
            clear hy312
            simp only [Option.some.injEq, Prod.mk.injEq] at H
            obtain ⟨rfl, rfl, rfl⟩ := H
            try go_wp2_with (first | ((with_reducible refine gate_callee (f := 77) rfl ?_); refine gL (some 11) Try.func77 #[.pointer (some ⟨g, 0, none⟩), .int .i64 6] ?_; (with_reducible refine (spec_l01Below.calls g s0_0 x1001_1 x1002_1 6 t255 t256 t257 w0 _ ?side1 ?side2 A7.out).mono ?_); (case side1 => exact q7_ HI0 NB0_253 NB0_254); (case side2 => exact q9_ HB HI0 GE253 GE254); rintro e w132 ⟨rfl, hi, hb, hk⟩; refine ⟨_, rfl, ?_⟩; replace HO_255000 := aM (Kd.R_mono (Kd.R_keep (IsS139.apart (show IsS139 w0 _ g s0_0 x1001_1 x1002_1 from (q7_ HI0 NB0_253 NB0_254)) (uR HO_255000) (by decide)) hk (fun _ h => h.2)) (fun _ h => h.1)); replace BK253 := aM (KeepBut.blk hk (g' := gb253) (o := .cells #[.slice none 0 0] 30 (0, 0)) (uB BK253) NB253_0.out (by simp)); replace BK254 := aM (KeepBut.blk hk (g' := gb254) (o := .cells #[u255000] 30 (0, 0)) (uB BK254) NB254_0.out (by simp)); replace HK := aM (KeepBut.trans (q8_ HK GW253 GW254) hk (.inl rfl)); replace HB := aM (hb); replace HI0 := aM (hi); try clear hb hk hi; have hnb133 := NB254_253.out; have hnc133 := NB253_254.out; have hnb134 := NB254_0.out; have hnc134 := NB0_254.out; have hcz135_0 := czA BK254.out 0 (u255000); have hfz135_0 := blk_frozen BK254.out 0; obtain ⟨Ao136, co136, eo136⟩ := Kd.R_slice HO_255000.out; subst eo136) | ((with_reducible refine gate_callee (f := 77) rfl ?_); refine gL (some 39) Try.func77 #[.pointer (some ⟨g, 0, none⟩), .int .i64 (x255000_1.length : Int)] ?_; (with_reducible refine (spec_l01Below.calls g s0_0 t256 t257 (x255000_1.length : Int) t273 t274 t275 w0 _ ?side1 ?side2 A32.out).mono ?_); (case side1 => exact q7_ HI0 NB0_253 NB0_254); (case side2 => exact q9_ HB HI0 GE253 GE254); rintro e w137 ⟨rfl, hi, hb, hk⟩; refine ⟨_, rfl, ?_⟩; replace HO_255000 := aM (Kd.R_mono (Kd.R_keep (IsS139.apart (show IsS139 w0 _ g s0_0 t256 t257 from (q7_ HI0 NB0_253 NB0_254)) (uR HO_255000) (by decide)) hk (fun _ h => h.2)) (fun _ h => h.1)); replace BK253 := aM (KeepBut.blk hk (g' := gb253) (o := .cells #[.slice none 0 0] 30 (0, 0)) (uB BK253) NB253_0.out (by simp)); replace BK254 := aM (KeepBut.blk hk (g' := gb254) (o := .cells #[.slice Ao136 x255000_1.length co136] 30 (0, 0)) (uB BK254) NB254_0.out (by simp)); replace HK := aM (KeepBut.trans (q8_ HK GW253 GW254) hk (.inl rfl)); replace HB := aM (hb); replace HI0 := aM (hi); try clear hb hk hi) | ((with_reducible refine gate_callee (f := 77) rfl ?_); refine gL (some 41) Try.func77 #[.pointer (some ⟨g, 0, none⟩), .int .i64 40] ?_; (with_reducible refine (spec_l01Below.calls g s0_0 t274 t275 40 t276 t277 t278 w0 _ ?side1 ?side2 A33.out).mono ?_); (case side1 => exact q7_ HI0 NB0_253 NB0_254); (case side2 => exact q9_ HB HI0 GE253 GE254); rintro e w138 ⟨rfl, hi, hb, hk⟩; refine ⟨_, rfl, ?_⟩; replace HO_255000 := aM (Kd.R_mono (Kd.R_keep (IsS139.apart (show IsS139 w0 _ g s0_0 t274 t275 from (q7_ HI0 NB0_253 NB0_254)) (uR HO_255000) (by decide)) hk (fun _ h => h.2)) (fun _ h => h.1)); replace BK253 := aM (KeepBut.blk hk (g' := gb253) (o := .cells #[.slice none 0 0] 30 (0, 0)) (uB BK253) NB253_0.out (by simp)); replace BK254 := aM (KeepBut.blk hk (g' := gb254) (o := .cells #[.slice Ao136 x255000_1.length co136] 30 (0, 0)) (uB BK254) NB254_0.out (by simp)); replace HK := aM (KeepBut.trans (q8_ HK GW253 GW254) hk (.inl rfl)); replace HB := aM (hb); replace HI0 := aM (hi); try clear hb hk hi))
            replace HO_255000 := aM (Kd.R_drew HO_255000.out)
            replace BK253 := aM (blk_drew BK253.out)
            replace BK254 := aM (blk_drew BK254.out)
            replace HI0 := aM (IsS139.drew HI0.out)
            replace HK := aM (keep_drew HK.out)
            replace HB := aM (below_drew1 HB.out)
            refine start_ (n := 10) (S := fun w' => w'.cell? ⟨gb254, 0, none⟩ = some (.slice Ao136 x255000_1.length co136)) (ds := [9]) (bB 10 0) (by kernel_rfl) rfl rfl ((blk_cell BK254.out 0).trans rfl) (fun hHeld => ?_); refine with_tabW spec_l03Disk.tab24 spec_l03Disk.bits24 (fun HT_ HW_ => ?_)
            generalize w138.drew = w139 at HO_255000 BK253 BK254 HI0 HK HB hHeld ⊢
            refine pA HT_.out 0 105 10 1 ?_; refine pA HT_.out 2 107 10 5 ?_; refine pA HT_.out 3 108 10 13 ?_; refine tA HT_.out HW_.out 1 106 10 15 hHeld ?_
            refine oA HT_.out 4 (some 109) 10 31 (fun K hK => ?_)
            refine gX Try.func77 #[.pointer (some ⟨g, 0, none⟩), .int .i64 3] ?_
            with_reducible refine (spec_l01Below.calls g s0_0 t277 t278 3 t308 t309 t310 w0 _ ?side1 ?side2 A127.out).mono ?_
            (case side1 => exact q7_ HI0 NB0_253 NB0_254)
            (case side2 => exact q9_ HB HI0 GE253 GE254)
            rintro e w140 ⟨rfl, hi, hb, hk⟩
            refine ⟨_, rfl, ?_⟩
            replace HO_255000 := aM (Kd.R_mono (Kd.R_keep (IsS139.apart (show IsS139 w0 _ g s0_0 t277 t278 from (q7_ HI0 NB0_253 NB0_254)) (uR HO_255000) (by decide)) hk (fun _ h => h.2)) (fun _ h => h.1))
            replace BK253 := aM (KeepBut.blk hk (g' := gb253) (o := .cells #[.slice none 0 0] 30 (0, 0)) (uB BK253) NB253_0.out (by simp))
            replace BK254 := aM (KeepBut.blk hk (g' := gb254) (o := .cells #[.slice Ao136 x255000_1.length co136] 30 (0, 0)) (uB BK254) NB254_0.out (by simp))
            replace HK := aM (KeepBut.trans (q8_ HK GW253 GW254) hk (.inl rfl))
            replace HB := aM (hb)
            replace HI0 := aM (hi)
            (try clear hb)
            (try clear hb2)
            (try clear hk)
            (try clear hi)
            refine hK.out _ _ ((blk_cell BK254.out 0).trans rfl) (fun hHeld => ?_)
            clear hK K
            refine nX 109 ?_; refine pA HT_.out 5 110 10 63 ?_
            refine oA HT_.out 6 (some 111) 10 127 (fun K hK => ?_)
            refine gX Try.func125 #[.int .i64 (wrap64 (19999 + t308)), .int .u8 65] ?_
            with_reducible refine (spec_l01Long.calls k1 (wrap64 (19999 + t308)) 65 t311 _ A128.out).mono ?_
            rintro e w141 ⟨rfl, hb⟩
            refine ⟨_, rfl, ?_⟩
            replace HO_255000 := aM (Kd.R_below (uR HO_255000) hb)
            replace BK253 := blkB BK253 hb
            replace BK254 := blkB BK254 hb
            replace HK := aM (KeepBut.trans (q8_ HK GW253 GW254) (KeepBut.of_below hb g none) (.inl rfl))
            replace HB := aM (below_step (q9_ HB HI0 GE253 GE254) hb)
            replace HI0 := aM (IsS139.below (q7_ HI0 NB0_253 NB0_254) hb)
            (try clear hb)
            (try clear hb2)
            (try clear hk)
            (try clear hi)
            have p131 : 0 ≤ (t273 : Int) := of_decide_eq_true (by first | (with_reducible assumption) | assumption)
            have q131 : (t273 : Int) < ((x255000_1.length : Int) : Int) := of_decide_eq_true (by first | (with_reducible assumption) | assumption)
            obtain ⟨go131, co131, eo131, gb131, gl131, cl131, HG131⟩ := Kd.R_form HO_255000.out (by omega)
            (first | cases eo131 | (injection eo131 with ea_ en_ ec_; (first | subst ea_ | (injection ea_ with ea_; subst ea_)); subst ec_; clear en_))
            have GB131 := aM gb131
            have GG131 := aM HG131
            clear gb131 gl131 HG131
            obtain ⟨ce131, hcl131, hM131, hcc131, hfr131⟩ := Kd.R_elem HO_255000.out z45 (t273 : Int) p131 q131
            obtain rfl := k45_openM hM131
            have hx131_0 : World.cell? _ ⟨go131, (t273 : Int).toNat * 3, none⟩ = some (.string ((rd_T45 x255000_1 t273).f0)) := hcc131 0 _ rfl
            have hx131_1 : World.cell? _ ⟨go131, (t273 : Int).toNat * 3 + 1, none⟩ = some (.string ((rd_T45 x255000_1 t273).f1)) := hcc131 1 _ rfl
            have hx131_2 : World.cell? _ ⟨go131, (t273 : Int).toNat * 3 + 2, none⟩ = some (.int .i64 ((rd_T45 x255000_1 t273).f2)) := hcc131 2 _ rfl
            have hf131_0 : World.frozen? _ ⟨go131, (t273 : Int).toNat * 3, none⟩ = false := hfr131 0
            have hf131_1 : World.frozen? _ ⟨go131, (t273 : Int).toNat * 3 + 1, none⟩ = false := hfr131 1
            have hf131_2 : World.frozen? _ ⟨go131, (t273 : Int).toNat * 3 + 2, none⟩ = false := hfr131 2
            clear hcl131 hcc131 hfr131 hM131
            replace p131 := eq_true p131; replace q131 := eq_true q131
            have HN0_go131 := aM (show g ≠ go131 from by have h_ := IsS139.own_ne HI0.out HO_255000.out (by decide); intro e_; exact h_ (by rw [e_]; rfl))
            obtain ⟨ce142, hcl142, hM142, hcc142, hfr142⟩ := Kd.R_elem HO_255000.out z45 (t273 : Int) (of_decide_eq_true (by first | (with_reducible assumption) | assumption)) (by have h_ : (t273 : Int) < ((x255000_1.length : Int) : Int) := of_decide_eq_true (by first | (with_reducible assumption) | assumption); first | exact h_ | (have e_ := (Kd.R_reads' HO_255000.out).1; omega) | simpa using h_)
            obtain rfl := k45_openM hM142
            have HP142 := (Kd.R_seg HO_255000.out (t273 : Int) (of_decide_eq_true (by first | (with_reducible assumption) | assumption)) (by have h_ : (t273 : Int) < ((x255000_1.length : Int) : Int) := of_decide_eq_true (by first | (with_reducible assumption) | assumption); first | exact h_ | (have e_ := (Kd.R_reads' HO_255000.out).1; omega) | simpa using h_) (seg := [.string t311]) (j := 1) hcl142 hcc142 (show 2 ≤ 3 from by decide) (x' := (⟨(rd_T45 x255000_1 t273).f0, t311, (rd_T45 x255000_1 t273).f2⟩ : S45)) (k45_mkM _ _ _ (⟨(rd_T45 x255000_1 t273).f0, t311, (rd_T45 x255000_1 t273).f2⟩ : S45) ) (fun _ hk => hk)).1
            rw [← Ny312.out] at HP142
            have HQ142 := aM HP142
            clear hcl142 hcc142 hfr142 hM142 HP142
            refine hK.out _ _ ((blk_cell BK254.out 0).trans rfl) (fun hHeld => ?_)
            clear hK K
            refine nX 111 ?_; refine pA HT_.out 7 112 10 255 ?_; refine pA HT_.out 8 113 10 511 ?_
            refine last_ (i := 9) (N := none) (bB 10 1023) rfl rfl (one_of HT_.out (by kernel_rfl)) (by decide) (fun K hK => ?_)
            refine skip_ (w1 := ?_) (by rfl) rfl ?_ ?_
            rotate_left
            ·go_simp
             rfl
            refine hK.out _ _ ?_
            clear hK K
            refine done_ (done_of HT_.out (by kernel_rfl)) ?_
            have n0_ : Aside0 (Kd.R k45 45 (w141.setCell ⟨go131, (t273 : Int).toNat * 3 + 1, none⟩ (.string t311)) w.heap.size (fun _ => True) (.slice (some ⟨go131, 0, none⟩) x255000_1.length co136) y312) := ⟨by (with_reducible repeat first | apply rA | apply rN | apply rD); exact HQ142.out⟩
            have n1_ : Aside0 ((w141.setCell ⟨go131, (t273 : Int).toNat * 3 + 1, none⟩ (.string t311)).heap[gb253]? = some (.cells #[.slice none 0 0] 30 (0, 0))) := ⟨by refine nB ?_; refine blk_far ?_ (by have h_ := Kd.R_ne HO_255000.out BK253.out (by decide); intro e_; exact h_ (by rw [e_]; rfl)) _; exact nB BK253.out⟩
            have n2_ : Aside0 ((w141.setCell ⟨go131, (t273 : Int).toNat * 3 + 1, none⟩ (.string t311)).heap[gb254]? = some (.cells #[.slice (some ⟨go131, 0, none⟩) x255000_1.length co136] 30 (0, 0))) := ⟨by refine nB ?_; refine blk_far ?_ (by have h_ := Kd.R_ne HO_255000.out BK254.out (by decide); intro e_; exact h_ (by rw [e_]; rfl)) _; exact nB BK254.out⟩
            have n3_ : Aside0 (IsS139 w0 (w141.setCell ⟨go131, (t273 : Int).toNat * 3 + 1, none⟩ (.string t311)) g s0_0 t309 t310) := ⟨q10_ HI0 HN0_go131 NB0_253 NB0_254⟩
            have n4_ : Aside0 (KeepBut w (w141.setCell ⟨go131, (t273 : Int).toNat * 3 + 1, none⟩ (.string t311)) g none) := ⟨q11_ HK GB131 GW253 GW254⟩
            have n5_ : Aside0 (Below w0.heap.size w0 (w141.setCell ⟨go131, (t273 : Int).toNat * 3 + 1, none⟩ (.string t311))) := ⟨q12_ HB HL GB131 HI0 GE253 GE254⟩
            (try clear HO_255000)
            (try clear BK253)
            (try clear BK254)
            (try clear HI0)
            (try clear HK)
            (try clear HB)
            generalize (w141.setCell ⟨go131, (t273 : Int).toNat * 3 + 1, none⟩ (.string t311)) = w143 at n0_ n1_ n2_ n3_ n4_ n5_ ⊢
            have HO_255000 := n0_; have BK253 := n1_; have BK254 := n2_; have HI0 := n3_; have HK := n4_; have HB := n5_; clear n0_ n1_ n2_ n3_ n4_ n5_
            have hcz144_0 := czA BK254.out 0 (.slice (some ⟨go131, 0, none⟩) x255000_1.length co136)
            have hfz144_0 := blk_frozen BK254.out 0; have hnb145 := NB253_0.out; have hnc145 := NB0_253.out
            have hcz146_0 := czA BK253.out 0 (.slice none 0 0)
            have hfz146_0 := blk_frozen BK253.out 0
            try go_wp2
            refine bodyPost_ret (results_cell_row rfl _ _ gb253 30 #[.slice (some ⟨go131, 0, none⟩) x255000_1.length co136] (0, 0) _ rfl (by refine nB ?_; refine blk_put (cs := #[.slice none 0 0]) ?_ 0 _ rfl; exact nB BK253.out) Try.underlying30 rfl (by kernel_rfl)) rfl ?_
            exact ⟨_, by first | rfl | (simp [errW_none, errW_some] <;> rfl) | (simp [*, errW_none, errW_some] <;> rfl), by (with_reducible repeat first | apply rA | apply rN | apply rD); exact Kd.R_mono (Kd.R_far (p := ⟨gb253, 0, none⟩) (Kd.R_types HO_255000.out BK253.out (by decide)) (fun _ hk => hk.2) (.slice (some ⟨go131, 0, none⟩) x255000_1.length co136)) (fun _ hk => trivial), q7_ HI0 NB0_253 NB0_254, q9_ HB HI0 GE253 GE254, q8_ HK GW253 GW254⟩
           ·rw [if_neg c130] at H
            exact absurd H (by simp)
          ·rw [if_neg c129] at H
           exact absurd H (by simp)
         ·rw [if_neg c126] at H
          have c126b0 : (t276 == 4) = false := beq_eq_false_iff_ne.mpr c126
          have c126b1 : (t276 != 4) = true := bne_iff_ne.mpr c126
          simp only [Option.some.injEq, Prod.mk.injEq] at H
          obtain ⟨rfl, rfl, rfl⟩ := H
          go_wp2_with (first | ((with_reducible refine gate_callee (f := 77) rfl ?_); refine gL (some 11) Try.func77 #[.pointer (some ⟨g, 0, none⟩), .int .i64 6] ?_; (with_reducible refine (spec_l01Below.calls g s0_0 x1001_1 x1002_1 6 t255 t256 t257 w0 _ ?side1 ?side2 A7.out).mono ?_); (case side1 => exact q7_ HI0 NB0_253 NB0_254); (case side2 => exact q9_ HB HI0 GE253 GE254); rintro e w147 ⟨rfl, hi, hb, hk⟩; refine ⟨_, rfl, ?_⟩; replace HO_255000 := aM (Kd.R_mono (Kd.R_keep (IsS139.apart (show IsS139 w0 _ g s0_0 x1001_1 x1002_1 from (q7_ HI0 NB0_253 NB0_254)) (uR HO_255000) (by decide)) hk (fun _ h => h.2)) (fun _ h => h.1)); replace BK253 := aM (KeepBut.blk hk (g' := gb253) (o := .cells #[.slice none 0 0] 30 (0, 0)) (uB BK253) NB253_0.out (by simp)); replace BK254 := aM (KeepBut.blk hk (g' := gb254) (o := .cells #[u255000] 30 (0, 0)) (uB BK254) NB254_0.out (by simp)); replace HK := aM (KeepBut.trans (q8_ HK GW253 GW254) hk (.inl rfl)); replace HB := aM (hb); replace HI0 := aM (hi); try clear hb hk hi; have hnb148 := NB254_253.out; have hnc148 := NB253_254.out; have hnb149 := NB254_0.out; have hnc149 := NB0_254.out; have hcz150_0 := czA BK254.out 0 (u255000); have hfz150_0 := blk_frozen BK254.out 0; obtain ⟨Ao151, co151, eo151⟩ := Kd.R_slice HO_255000.out; subst eo151) | ((with_reducible refine gate_callee (f := 77) rfl ?_); refine gL (some 39) Try.func77 #[.pointer (some ⟨g, 0, none⟩), .int .i64 (x255000_1.length : Int)] ?_; (with_reducible refine (spec_l01Below.calls g s0_0 t256 t257 (x255000_1.length : Int) t273 t274 t275 w0 _ ?side1 ?side2 A32.out).mono ?_); (case side1 => exact q7_ HI0 NB0_253 NB0_254); (case side2 => exact q9_ HB HI0 GE253 GE254); rintro e w152 ⟨rfl, hi, hb, hk⟩; refine ⟨_, rfl, ?_⟩; replace HO_255000 := aM (Kd.R_mono (Kd.R_keep (IsS139.apart (show IsS139 w0 _ g s0_0 t256 t257 from (q7_ HI0 NB0_253 NB0_254)) (uR HO_255000) (by decide)) hk (fun _ h => h.2)) (fun _ h => h.1)); replace BK253 := aM (KeepBut.blk hk (g' := gb253) (o := .cells #[.slice none 0 0] 30 (0, 0)) (uB BK253) NB253_0.out (by simp)); replace BK254 := aM (KeepBut.blk hk (g' := gb254) (o := .cells #[.slice Ao151 x255000_1.length co151] 30 (0, 0)) (uB BK254) NB254_0.out (by simp)); replace HK := aM (KeepBut.trans (q8_ HK GW253 GW254) hk (.inl rfl)); replace HB := aM (hb); replace HI0 := aM (hi); try clear hb hk hi) | ((with_reducible refine gate_callee (f := 77) rfl ?_); refine gL (some 41) Try.func77 #[.pointer (some ⟨g, 0, none⟩), .int .i64 40] ?_; (with_reducible refine (spec_l01Below.calls g s0_0 t274 t275 40 t276 t277 t278 w0 _ ?side1 ?side2 A33.out).mono ?_); (case side1 => exact q7_ HI0 NB0_253 NB0_254); (case side2 => exact q9_ HB HI0 GE253 GE254); rintro e w153 ⟨rfl, hi, hb, hk⟩; refine ⟨_, rfl, ?_⟩; replace HO_255000 := aM (Kd.R_mono (Kd.R_keep (IsS139.apart (show IsS139 w0 _ g s0_0 t274 t275 from (q7_ HI0 NB0_253 NB0_254)) (uR HO_255000) (by decide)) hk (fun _ h => h.2)) (fun _ h => h.1)); replace BK253 := aM (KeepBut.blk hk (g' := gb253) (o := .cells #[.slice none 0 0] 30 (0, 0)) (uB BK253) NB253_0.out (by simp)); replace BK254 := aM (KeepBut.blk hk (g' := gb254) (o := .cells #[.slice Ao151 x255000_1.length co151] 30 (0, 0)) (uB BK254) NB254_0.out (by simp)); replace HK := aM (KeepBut.trans (q8_ HK GW253 GW254) hk (.inl rfl)); replace HB := aM (hb); replace HI0 := aM (hi); try clear hb hk hi; have hcz154_0 := czA BK254.out 0 (.slice Ao151 x255000_1.length co151); have hfz154_0 := blk_frozen BK254.out 0; have hnb155 := NB253_0.out; have hnc155 := NB0_253.out; have hcz156_0 := czA BK253.out 0 (.slice none 0 0); have hfz156_0 := blk_frozen BK253.out 0))
          refine bodyPost_ret (results_cell_row rfl _ _ gb253 30 #[.slice Ao151 x255000_1.length co151] (0, 0) _ rfl (by refine nB ?_; refine blk_put (cs := #[.slice none 0 0]) ?_ 0 _ rfl; exact nB BK253.out) Try.underlying30 rfl (by kernel_rfl)) rfl ?_
          exact ⟨_, by first | rfl | (simp [errW_none, errW_some] <;> rfl) | (simp [*, errW_none, errW_some] <;> rfl), by (with_reducible repeat first | apply rA | apply rN | apply rD); exact Kd.R_mono (Kd.R_far (p := ⟨gb253, 0, none⟩) (Kd.R_types HO_255000.out BK253.out (by decide)) (fun _ hk => hk.2) (.slice Ao151 x255000_1.length co151)) (fun _ hk => trivial), q7_ HI0 NB0_253 NB0_254, q9_ HB HI0 GE253 GE254, q8_ HK GW253 GW254⟩

end Go.Proofs.Ytidfhfaekdahpaa.QFnActs
