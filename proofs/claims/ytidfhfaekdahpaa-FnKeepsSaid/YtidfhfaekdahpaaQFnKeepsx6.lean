-- Written by a program of this session's own (wip/turnprint.py over the kit's print); Lean checks it.
import Derived.Test.YtidfhfaekdahpaaQFnKeepsx0
import Derived.Test.YtidfhfaekdahpaaQFnKeepsx3
import Derived.Test.YtidfhfaekdahpaaQFnKeepsx4
import Derived.Test.YtidfhfaekdahpaaQFnKeepsx5
namespace Go.Proofs.Ytidfhfaekdahpaa.QFnKeeps
open Go.RowKit Go.Proofs.YtidfhfaekdahpaaW.PrintWords Go.Proofs.YtidfhfaekdahpaaW.PrintLast Go.Proofs.YtidfhfaekdahpaaW.PrintMore
attribute [local go_sem] max2_int min2_int max_two min_two max_three min_three max_four min_four   -- for this text's walks alone
attribute [local go_sem] Go.Proofs.YtidfhfaekdahpaaQWords.run_lss_str
attribute [local go_sem] Go.Proofs.YtidfhfaekdahpaaQWords.run_geq_str
attribute [local go_sem] Go.Proofs.YtidfhfaekdahpaaQWords.run_leq_str
attribute [local go_sem] Go.Proofs.YtidfhfaekdahpaaQWords.run_gtr_str
set_option linter.unusedVariables false
set_option linter.unusedSimpArgs false

/-! ### spec_l01Pick: function 118 -/
def spec_l01Pick.f (s0_0 : List Int) (s0_1 : Int) (s0_2 : Int) (l1 : List ByteArray) : Option (ByteArray × Int × Int) := (spec_l01Below.f s0_0 s0_1 s0_2 (l1.length : Int)).bind fun bt158 => (if 0 ≤ bt158.1 then (if bt158.1 < (l1.length : Int) then (some (rdOf ByteArray.empty l1 bt158.1, bt158.2.1, bt158.2.2)) else (none)) else (none))
set_option maxHeartbeats 8000000 in
set_option maxRecDepth 100000 in
theorem spec_l01Pick.calls (g : Nat) (s0_0 : List Int) (s0_1 : Int) (s0_2 : Int) (A1 : Option Addr) (c1 : Nat) (l1 : List ByteArray) (r1 : ByteArray) (r2 : Int) (r3 : Int) (w0 w : World) (hI : IsS139 w0 w g s0_0 s0_1 s0_2) (hB : Below w0.heap.size w0 w) (hr1 : Kd.C Kd.string w A1 l1.length l1) (hc1 : l1.length ≤ c1) (hf1 : ∀ ad, A1 = some ad → 0 < l1.length → ad.block ≠ g) (h : spec_l01Pick.f s0_0 s0_1 s0_2 l1 = some (r1, r2, r3)) :
    Calls Try.prog 118 #[.pointer (some ⟨g, 0, none⟩), .slice A1 l1.length c1] w fun e w' => e = .returned (.string r1) ∧ IsS139 w0 w' g s0_0 r2 r3 ∧ Below w0.heap.size w0 w' ∧ KeepBut w w' g none := by
  have HR1 := aM hr1
  have HC1 := aM hc1
  clear hr1 hc1
  have HI0 := aM hI
  have HK := aM (KeepBut.refl w g none)
  have HL := aM hB.size
  clear hI
  have HW0 := aM hB.size
  have HB := aM hB
  clear hB
  have H : ((spec_l01Below.f s0_0 s0_1 s0_2 (l1.length : Int)).bind fun bt158 => (if 0 ≤ bt158.1 then (if bt158.1 < (l1.length : Int) then (some (rdOf ByteArray.empty l1 bt158.1, bt158.2.1, bt158.2.2)) else (none)) else (none))) = some (r1, r2, r3) := h
  clear h
  replace H := Option.bind_eq_some_iff.mp H
  obtain ⟨⟨t158, t159, t160⟩, A30, H⟩ := H
  replace H : (if 0 ≤ t158 then (if t158 < (l1.length : Int) then (some (rdOf ByteArray.empty l1 t158, t159, t160)) else (none)) else (none)) = some (r1, r2, r3) := H
  have A3 := aM A30
  clear A30
  by_cases c4 : 0 ≤ t158
  · rw [if_pos c4] at H
    have c4b0 : decide (0 ≤ t158) = true := decide_eq_true c4
    clear c4
    by_cases c5 : t158 < (l1.length : Int)
    · rw [if_pos c5] at H
      have c5b0 : decide (t158 < (l1.length : Int)) = true := decide_eq_true c5
      clear c5
      simp only [Option.some.injEq, Prod.mk.injEq] at H
      obtain ⟨rfl, rfl, rfl⟩ := H
      go_enter Try.func118, Try.ntmps118
      go_wp2_with (first | ((with_reducible refine gate_callee (f := 77) rfl ?_); refine goesL_ (some 9) rfl rfl Try.func77 (by kernel_rfl) rfl #[.pointer (some ⟨g, 0, none⟩), .int .i64 (l1.length : Int)] rfl (by (try simp only [mT, mC, mN]); first | done | rfl | (simp only [lDr, lTk]; rfl)) ?_; (with_reducible refine (spec_l01Below.calls g s0_0 s0_1 s0_2 (l1.length : Int) t158 t159 t160 w0 _ ?side1 ?side2 A3.out).mono ?_); (case side1 => repeat (first | (with_reducible first | exact HI0.out | apply IsS139.alloc | apply IsS139.drewN | apply IsS139.drew | apply IsS139.set_1 | apply IsS139.set_2) | exact HI0.out)); (case side2 => repeat (first | (with_reducible first | exact HB.out | apply lA | apply lN | apply lD | refine lS ?_ (IsS139.ge HI0.out)) | exact HB.out)); rintro e w6 ⟨rfl, hi, hb, hk⟩; refine ⟨_, rfl, ?_⟩; have n0_ := aM (KeepBut.trans (by repeat (first | (with_reducible first | exact HK.out | apply KeepBut.set_ | apply keep_drewN | apply keep_drew | apply keep_alloc) | exact HK.out)) hk (.inl rfl)); have n1_ := aM (hb); have n2_ := aM (hi); clear HK; clear HB; clear HI0; have HK := n0_; have HB := n1_; have HI0 := n2_; clear n0_ n1_ n2_; (try clear hb); (try clear hb2); (try clear hk); (try clear hi); have p161 : 0 ≤ (t158 : Int) := of_decide_eq_true (by first | (with_reducible assumption) | assumption); have q161 : t158 < (l1.length : Int) := of_decide_eq_true (by first | (with_reducible assumption) | assumption); obtain ⟨ad161, e161, hx161_0⟩ := Kd.at_string HR1.out t158 p161 q161; cases e161; replace hx161_0 := keep_cell HK.out hx161_0 (by first | (rw [add_block]; exact hf1 _ rfl (by omega)) | exact hf1 _ rfl (by omega) | exact hf1 ad161 rfl (by omega)); replace p161 := eq_true p161; replace q161 := eq_true q161))
      go_ret
      exact ⟨by first | rfl | (simp [errW_none, errW_some] <;> rfl) | (simp [*, errW_none, errW_some] <;> rfl), by repeat (first | (with_reducible first | exact HI0.out | apply IsS139.alloc | apply IsS139.drewN | apply IsS139.drew | apply IsS139.set_1 | apply IsS139.set_2) | exact HI0.out), by repeat (first | (with_reducible first | exact HB.out | apply lA | apply lN | apply lD | refine lS ?_ (IsS139.ge HI0.out)) | exact HB.out), by repeat (first | (with_reducible first | exact HK.out | apply KeepBut.set_ | apply keep_drewN | apply keep_drew | apply keep_alloc) | exact HK.out)⟩
    · rw [if_neg c5] at H
      exact absurd H (by simp)
  · rw [if_neg c4] at H
    exact absurd H (by simp)

/-! ### spec_l03Named: function 80 -/
def spec_l03Named.f (s0_0 : List Int) (s0_1 : Int) (s0_2 : Int) : Option (ByteArray × Int × Int) := (spec_l01Pick.f s0_0 s0_1 s0_2 (([(⟨#[97]⟩ : ByteArray), (⟨#[98]⟩ : ByteArray), (⟨#[99]⟩ : ByteArray), (⟨#[106, 48]⟩ : ByteArray), (⟨#[106, 49]⟩ : ByteArray), (⟨#[106, 43]⟩ : ByteArray), (⟨#[115, 48]⟩ : ByteArray), (⟨#[115, 43]⟩ : ByteArray)] : List ByteArray))).bind fun bt165 => (some (bt165.1, bt165.2.1, bt165.2.2))
set_option maxHeartbeats 8000000 in
set_option maxRecDepth 100000 in
theorem spec_l03Named.calls (g : Nat) (s0_0 : List Int) (s0_1 : Int) (s0_2 : Int) (r1 : ByteArray) (r2 : Int) (r3 : Int) (w0 w : World) (hI : IsS139 w0 w g s0_0 s0_1 s0_2) (hB : Below w0.heap.size w0 w) (h : spec_l03Named.f s0_0 s0_1 s0_2 = some (r1, r2, r3)) :
    Calls Try.prog 80 #[.pointer (some ⟨g, 0, none⟩)] w fun e w' => e = .returned (.string r1) ∧ IsS139 w0 w' g s0_0 r2 r3 ∧ Below w0.heap.size w0 w' ∧ KeepBut w w' g none := by
  have HI0 := aM hI
  have HK := aM (KeepBut.refl w g none)
  have HL := aM hB.size
  clear hI
  have HW0 := aM hB.size
  have HB := aM hB
  clear hB
  have H : ((spec_l01Pick.f s0_0 s0_1 s0_2 (([(⟨#[97]⟩ : ByteArray), (⟨#[98]⟩ : ByteArray), (⟨#[99]⟩ : ByteArray), (⟨#[106, 48]⟩ : ByteArray), (⟨#[106, 49]⟩ : ByteArray), (⟨#[106, 43]⟩ : ByteArray), (⟨#[115, 48]⟩ : ByteArray), (⟨#[115, 43]⟩ : ByteArray)] : List ByteArray))).bind fun bt165 => (some (bt165.1, bt165.2.1, bt165.2.2))) = some (r1, r2, r3) := h
  clear h
  obtain ⟨y162, hy162⟩ : ∃ y_ : List ByteArray, y_ = (([(⟨#[97]⟩ : ByteArray), (⟨#[98]⟩ : ByteArray), (⟨#[99]⟩ : ByteArray), (⟨#[106, 48]⟩ : ByteArray), (⟨#[106, 49]⟩ : ByteArray), (⟨#[106, 43]⟩ : ByteArray), (⟨#[115, 48]⟩ : ByteArray), (⟨#[115, 43]⟩ : ByteArray)] : List ByteArray)) := ⟨_, rfl⟩
  replace H : ((spec_l01Pick.f s0_0 s0_1 s0_2 y162).bind fun bt165 => (some (bt165.1, bt165.2.1, bt165.2.2))) = some (r1, r2, r3) := by first | (rw [hy162]; with_reducible exact H) | (have H2_ := (Option.bind_some _ _).symm.trans H; rw [hy162]; with_reducible exact H2_) | (have H2_ := (Option.bind_some _ _).symm.trans H; with_reducible exact H2_) | with_reducible exact H | (rw [hy162]; exact H) | exact H
  have Ny162 := aM hy162
  clear hy162
  replace H := Option.bind_eq_some_iff.mp H
  obtain ⟨⟨t165, t166, t167⟩, A20, H⟩ := H
  replace H : (some (t165, t166, t167)) = some (r1, r2, r3) := H
  have A2 := aM A20
  clear A20
  simp only [Option.some.injEq, Prod.mk.injEq] at H
  obtain ⟨rfl, rfl, rfl⟩ := H
  go_enter Try.func80, Try.ntmps80
  go_wp2_with (first | ((with_reducible refine gate_dst (N := 4) rfl ?_); refine Kd.R_lit Kd.string _ 9 ?hg (N := 4) ?hd (xs := ([(⟨#[97]⟩ : ByteArray), (⟨#[98]⟩ : ByteArray), (⟨#[99]⟩ : ByteArray), (⟨#[106, 48]⟩ : ByteArray), (⟨#[106, 49]⟩ : ByteArray), (⟨#[106, 43]⟩ : ByteArray), (⟨#[115, 48]⟩ : ByteArray), (⟨#[115, 43]⟩ : ByteArray)] : List ByteArray)) (inner := [.string (⟨#[97]⟩ : ByteArray), .string (⟨#[98]⟩ : ByteArray), .string (⟨#[99]⟩ : ByteArray), .string (⟨#[106, 48]⟩ : ByteArray), .string (⟨#[106, 49]⟩ : ByteArray), .string (⟨#[106, 43]⟩ : ByteArray), .string (⟨#[115, 48]⟩ : ByteArray), .string (⟨#[115, 43]⟩ : ByteArray)]) (ok := fun _ => True) (okp := fun _ => True) ?hr ?hp (fun _ hk => hk) trivial (Below.refl _ _) (Nat.le_refl _) (by simp) ?_; (case hd => rfl); (case hg => rfl); (case hr => first | (go_simp; done) | (go_simp; rfl)); (case hp => exact (Reps.one (show Kd.M Kd.string _ _ _ (⟨#[97]⟩ : ByteArray) [.string (⟨#[97]⟩ : ByteArray)] from rfl) (Reps.one (show Kd.M Kd.string _ _ _ (⟨#[98]⟩ : ByteArray) [.string (⟨#[98]⟩ : ByteArray)] from rfl) (Reps.one (show Kd.M Kd.string _ _ _ (⟨#[99]⟩ : ByteArray) [.string (⟨#[99]⟩ : ByteArray)] from rfl) (Reps.one (show Kd.M Kd.string _ _ _ (⟨#[106, 48]⟩ : ByteArray) [.string (⟨#[106, 48]⟩ : ByteArray)] from rfl) (Reps.one (show Kd.M Kd.string _ _ _ (⟨#[106, 49]⟩ : ByteArray) [.string (⟨#[106, 49]⟩ : ByteArray)] from rfl) (Reps.one (show Kd.M Kd.string _ _ _ (⟨#[106, 43]⟩ : ByteArray) [.string (⟨#[106, 43]⟩ : ByteArray)] from rfl) (Reps.one (show Kd.M Kd.string _ _ _ (⟨#[115, 48]⟩ : ByteArray) [.string (⟨#[115, 48]⟩ : ByteArray)] from rfl) (Reps.one (show Kd.M Kd.string _ _ _ (⟨#[115, 43]⟩ : ByteArray) [.string (⟨#[115, 43]⟩ : ByteArray)] from rfl) (Reps.none _ _)))))))))); intro v163 w3 ho4 hb hg_ hnew_; clear hg_ hnew_; (first | rw [← Ny162.out] at ho4 | (simp only [Int.reduceToNat] at ho4; rw [← Ny162.out] at ho4)); have n0_ := aM (Kd.R_lower ho4 (keep_size (w := w) (g := g) (row := none) (by repeat (first | (with_reducible first | exact HK.out | apply KeepBut.set_ | apply keep_drewN | apply keep_drew | apply keep_alloc) | exact HK.out)))); have n1_ := aM (IsS139.below (by repeat (first | (with_reducible first | exact HI0.out | apply IsS139.alloc | apply IsS139.drewN | apply IsS139.drew | apply IsS139.set_1 | apply IsS139.set_2) | exact HI0.out)) hb); have n2_ := aM (KeepBut.trans (by repeat (first | (with_reducible first | exact HK.out | apply KeepBut.set_ | apply keep_drewN | apply keep_drew | apply keep_alloc) | exact HK.out)) (KeepBut.of_below hb g none) (.inl rfl)); have n3_ := aM (below_step (by repeat (first | (with_reducible first | exact HB.out | apply lA | apply lN | apply lD | refine lS ?_ (IsS139.ge HI0.out)) | exact HB.out)) hb); clear HI0; clear HK; clear HB; have HO164 := n0_; have HI0 := n1_; have HK := n2_; have HB := n3_; clear n0_ n1_ n2_ n3_; clear hb ho4; obtain ⟨Ao5, co5, eo5⟩ := Kd.R_slice HO164.out; subst eo5) | ((with_reducible refine gate_callee (f := 118) rfl ?_); refine goesL_ (some 5) rfl rfl Try.func118 (by kernel_rfl) rfl #[.pointer (some ⟨g, 0, none⟩), .slice Ao5 y162.length co5] rfl (by (try simp only [mT, mC, mN]); first | done | rfl | (simp only [lDr, lTk]; rfl)) ?_; (with_reducible refine (spec_l01Pick.calls g s0_0 s0_1 s0_2 _ _ y162 t165 t166 t167 w0 _ ?side1 ?side2 ?side3 ?side4 ?side5 A2.out).mono ?_); (case side1 => repeat (first | (with_reducible first | exact HI0.out | apply IsS139.alloc | apply IsS139.drewN | apply IsS139.drew | apply IsS139.set_1 | apply IsS139.set_2) | exact HI0.out)); (case side2 => repeat (first | (with_reducible first | exact HB.out | apply lA | apply lN | apply lD | refine lS ?_ (IsS139.ge HI0.out)) | exact HB.out)); (case side3 => repeat (first | exact (Kd.R_reads' HO164.out).2.2 | (with_reducible refine cA ?_ _) | (with_reducible refine cN ?_ _) | (with_reducible refine cD ?_))); (case side4 => exact (Kd.R_reads' HO164.out).2.1); (case side5 => exact far_slice (IsS139.own_ne HI0.out HO164.out (by decide))); rintro e w6 ⟨rfl, hi, hb, hk⟩; refine ⟨_, rfl, ?_⟩; have n0_ := aM (Kd.R_mono (Kd.R_keep (IsS139.apart (show IsS139 w0 _ g s0_0 s0_1 s0_2 from by repeat (first | (with_reducible first | exact HI0.out | apply IsS139.alloc | apply IsS139.drewN | apply IsS139.drew | apply IsS139.set_1 | apply IsS139.set_2) | exact HI0.out)) (by (with_reducible repeat first | apply rA | apply rN | apply rD); exact HO164.out) (by decide)) hk (fun _ h => h.2)) (fun _ h => h.1)); have n1_ := aM (KeepBut.trans (by repeat (first | (with_reducible first | exact HK.out | apply KeepBut.set_ | apply keep_drewN | apply keep_drew | apply keep_alloc) | exact HK.out)) hk (.inl rfl)); have n2_ := aM (hb); have n3_ := aM (hi); clear HO164; clear HK; clear HB; clear HI0; have HO164 := n0_; have HK := n1_; have HB := n2_; have HI0 := n3_; clear n0_ n1_ n2_ n3_; (try clear hb); (try clear hb2); (try clear hk); (try clear hi)))
  go_ret
  exact ⟨by first | rfl | (simp [errW_none, errW_some] <;> rfl) | (simp [*, errW_none, errW_some] <;> rfl), by repeat (first | (with_reducible first | exact HI0.out | apply IsS139.alloc | apply IsS139.drewN | apply IsS139.drew | apply IsS139.set_1 | apply IsS139.set_2) | exact HI0.out), by repeat (first | (with_reducible first | exact HB.out | apply lA | apply lN | apply lD | refine lS ?_ (IsS139.ge HI0.out)) | exact HB.out), by repeat (first | (with_reducible first | exact HK.out | apply KeepBut.set_ | apply keep_drewN | apply keep_drew | apply keep_alloc) | exact HK.out)⟩

/-! ### spec_DrawRightDisk: function 25 -/
def spec_DrawRightDisk.l0 : Nat → Int → List Int → Int → Int → List (S45) → Option ((List (S45)))
  | 0, _, _, _, _, _ => none
  | k + 1, x5, x173000, x173001, x173002, x174000 => (spec_l01Below.f x173000 x173001 x173002 6).bind fun bt174 => (if x5 < bt174.1 then ((spec_l01Below.f x173000 bt174.2.1 bt174.2.2 30).bind fun bt177 => ((spec_l01Text.f k x173000 bt177.2.1 bt177.2.2 bt177.1).bind fun bt180 => ((spec_l03Named.f x173000 bt180.2.1 bt180.2.2).bind fun bt183 => ((spec_l01Below.f x173000 bt183.2.1 bt183.2.2 (wrap64 ((bt180.1.size : Int) + 1))).bind fun bt186 => ((spec_l03Put.f k x174000 bt183.1 bt180.1 bt186.1).bind fun t189 => (spec_DrawRightDisk.l0 k (wrap64 (x5 + 1)) x173000 bt186.2.1 bt186.2.2 t189)))))) else (some x174000))
def spec_DrawRightDisk.f (k : Nat) (l0 : List Int) : Option ((List (S45))) := (spec_l01New.f k l0).bind fun bt169 => (spec_DrawRightDisk.l0 k 0 bt169.1 bt169.2.1 bt169.2.2 ([] : List (S45)))
theorem spec_DrawRightDisk.mono_l : ∀ k, (∀ y0 y1 y2 y3 y4, LeO (spec_DrawRightDisk.l0 k y0 y1 y2 y3 y4) (spec_DrawRightDisk.l0 (k + 1) y0 y1 y2 y3 y4))
  | 0 => fun _ _ _ _ _ r h => by simp [spec_DrawRightDisk.l0] at h
  | k + 1 => by
    have ih0 := spec_DrawRightDisk.mono_l k
    · intro y0 y1 y2 y3 y4
      unfold spec_DrawRightDisk.l0
      repeat' first
      | (with_reducible exact ih0 _ _ _ _ _)
      | (with_reducible exact spec_l01New.mono _ _)
      | (with_reducible exact spec_l01Text.mono _ _ _ _ _)
      | (with_reducible exact spec_l03Put.mono _ _ _ _ _)
      | (with_reducible exact LeO.refl _)
      | (with_reducible exact LeO.none _)
      | (with_reducible refine LeO.ite ?_ ?_)
      | (with_reducible refine LeO.bind ?_ (fun _ => ?_))
      | exact ih0 _ _ _ _ _
      | exact spec_l01New.mono _ _
      | exact spec_l01Text.mono _ _ _ _ _
      | exact spec_l03Put.mono _ _ _ _ _
      | exact LeO.none _
      | refine LeO.ite ?_ ?_
      | refine LeO.bind ?_ (fun _ => ?_)
theorem spec_DrawRightDisk.mono : ∀ a0 k, LeO (spec_DrawRightDisk.f k a0) (spec_DrawRightDisk.f (k + 1) a0) := by
  intro a0 k
  have ih0 := spec_DrawRightDisk.mono_l k
  unfold spec_DrawRightDisk.f
  repeat' first
      | (with_reducible exact ih0 _ _ _ _ _)
      | (with_reducible exact spec_l01New.mono _ _)
      | (with_reducible exact spec_l01Text.mono _ _ _ _ _)
      | (with_reducible exact spec_l03Put.mono _ _ _ _ _)
      | (with_reducible exact LeO.refl _)
      | (with_reducible exact LeO.none _)
      | (with_reducible refine LeO.ite ?_ ?_)
      | (with_reducible refine LeO.bind ?_ (fun _ => ?_))
      | exact ih0 _ _ _ _ _
      | exact spec_l01New.mono _ _
      | exact spec_l01Text.mono _ _ _ _ _
      | exact spec_l03Put.mono _ _ _ _ _
      | exact LeO.none _
      | refine LeO.ite ?_ ?_
      | refine LeO.bind ?_ (fun _ => ?_)
def spec_DrawRightDisk.T7 : Bool × List (List Nat × List Nat) := (true, [([], []), ([], []), ([1], [1]), ([], []), ([], []), ([], []), ([5], [5]), ([6], [6]), ([4, 7, 2], [4, 7]), ([2, 3, 8], [2, 3, 8]), ([0, 9, 8], [0, 9]), ([10, 10, 0, 1, 2, 3, 4, 5, 6, 7, 8, 9, 10], [10])])
def spec_DrawRightDisk.B7 : List Nat := [0, 0, 2, 0, 0, 0, 32, 96, 246, 510, 1023, 2047]
theorem spec_DrawRightDisk.tab7 : rtab .any (opsOf Try.f25 7) = spec_DrawRightDisk.T7 := by kernel_rfl
theorem spec_DrawRightDisk.bits7 : waitsOk spec_DrawRightDisk.T7.2 spec_DrawRightDisk.B7 = true := by kernel_rfl
set_option maxHeartbeats 8000000 in
set_option maxRecDepth 100000 in
theorem spec_DrawRightDisk.calls (k : Nat) (A0 : Option Addr) (c0 : Nat) (l0 : List Int) (r : List (S45)) (w : World) (hr0 : Kd.C (Kd.int .u8) w A0 l0.length l0) (hc0 : l0.length ≤ c0) (h : spec_DrawRightDisk.f k l0 = some r) :
    Calls Try.prog 25 #[.slice A0 l0.length c0] w fun e w' => ∃ v0_ : Value, e = .returned (.agg #[v0_]) ∧ Kd.R k45 45 w' w.heap.size (fun _ => True) v0_ r ∧ Below w.heap.size w w' := by
  have hu30 := Try.underlying30
  have hu45 := Try.underlying45
  have HR0 := aM hr0
  have HC0 := aM hc0
  clear hr0 hc0
  have HB := aM (Below.refl w.heap.size w)
  have H : ((spec_l01New.f k l0).bind fun bt169 => (spec_DrawRightDisk.l0 k 0 bt169.1 bt169.2.1 bt169.2.2 ([] : List (S45)))) = some r := h
  clear h
  replace H := Option.bind_eq_some_iff.mp H
  obtain ⟨⟨t169, t170, t171⟩, A20, H⟩ := H
  replace H : (spec_DrawRightDisk.l0 k 0 t169 t170 t171 ([] : List (S45))) = some r := H
  have A2 := aM A20
  clear A20
  have H' := aM H
  clear H
  go_enter Try.func25, Try.ntmps25
  go_wp2_with (first | ((with_reducible refine gate_dst (N := 2) rfl ?_); refine box_event ?hg (N := 2) ?hd (cs := #[.slice none 0 0]) (t := 30) ?hr ?_; (case hd => rfl); (case hg => rfl); (case hr => first | (go_simp; done) | (go_simp; rfl)); intro gb168 hg w3 hbox hb; have n0_ := aM (below_step (by repeat (first | (with_reducible first | exact HB.out | apply lA | apply lN | apply lD) | exact HB.out)) hb); have n1_ := aM (hbox); have n2_ := aM ((by rw [hg]; exact (below_size (by repeat (first | (with_reducible first | exact HB.out | apply lA | apply lN | apply lD) | exact HB.out))) : w.heap.size ≤ gb168)); have n3_ := aM ((by rw [hg]; exact (below_size (by repeat (first | (with_reducible first | exact HB.out | apply lA | apply lN | apply lD) | exact HB.out))) : w.heap.size ≤ gb168)); clear HB; have HB := n0_; have BK168 := n1_; have GW168 := n2_; have GE168 := n3_; clear n0_ n1_ n2_ n3_; clear hb hbox hg) | ((with_reducible refine gate_callee (f := 76) rfl ?_); refine goesL_ (some 8) rfl rfl Try.func76 (by kernel_rfl) rfl #[.slice A0 l0.length c0] rfl (by (try simp only [mT, mC, mN]); first | done | rfl | (simp only [lDr, lTk]; rfl)) ?_; (with_reducible refine (spec_l01New.calls k _ _ l0 t169 t170 t171 w _ ?side1 ?side2 ?side3 A2.out).mono ?_); (case side1 => repeat (first | (with_reducible first | exact HB.out | apply lA | apply lN | apply lD | refine lS ?_ GE168.out) | exact HB.out)); (case side2 => exact HR0.out); (case side3 => exact HC0.out); rintro e w4 ⟨g172, rfl, hi, hb, hb2⟩; refine ⟨_, rfl, ?_⟩; have n0_ := aM (blk_below (g := gb168) (o := .cells #[.slice none 0 0] 30 (0, 0)) (by (with_reducible repeat first | apply bN | apply bD | apply bA); exact BK168.out) hb2); have n1_ := aM (hb); have n2_ := aM (hi); have n3_ := aM (IsS139.ne_blk hi (blk_below (g := gb168) (o := .cells #[.slice none 0 0] 30 (0, 0)) (by (with_reducible repeat first | apply bN | apply bD | apply bA); exact BK168.out) hb2) (by decide)); have n4_ := aM (Ne.symm (IsS139.ne_blk hi (blk_below (g := gb168) (o := .cells #[.slice none 0 0] 30 (0, 0)) (by (with_reducible repeat first | apply bN | apply bD | apply bA); exact BK168.out) hb2) (by decide))); clear BK168; clear HB; have BK168 := n0_; have HB := n1_; have HI172 := n2_; have NB172_168 := n3_; have NB168_172 := n4_; clear n0_ n1_ n2_ n3_ n4_; (try clear hb); (try clear hb2); (try clear hk); (try clear hi)) | ((with_reducible refine gate_dst (N := 4) rfl ?_); refine box_event ?hg (N := 4) ?hd (cs := #[.slice none 0 0]) (t := 30) ?hr ?_; (case hd => rfl); (case hg => rfl); (case hr => first | (go_simp; done) | (go_simp; rfl)); intro gb173 hg w5 hbox hb; have n0_ := aM (blk_below (g := gb168) (o := .cells #[.slice none 0 0] 30 (0, 0)) (by (with_reducible repeat first | apply bN | apply bD | apply bA); exact BK168.out) hb); have n1_ := aM (IsS139.below (by repeat (first | (with_reducible first | exact HI172.out | apply IsS139.alloc | apply IsS139.drewN | apply IsS139.drew | apply IsS139.set_1 | apply IsS139.set_2 | refine IsS139.far ?_ NB172_168.out _) | exact HI172.out)) hb); have n2_ := aM (below_step (by repeat (first | (with_reducible first | exact HB.out | apply lA | apply lN | apply lD | refine lS ?_ (IsS139.ge HI172.out) | refine lS ?_ GE168.out) | exact HB.out)) hb); have n3_ := aM (hbox); have n4_ := aM ((by rw [hg]; exact (below_size (by repeat (first | (with_reducible first | exact HB.out | apply lA | apply lN | apply lD | refine lS ?_ (IsS139.ge HI172.out) | refine lS ?_ GE168.out) | exact HB.out))) : w.heap.size ≤ gb173)); have n5_ := aM ((by rw [hg]; exact (below_size (by repeat (first | (with_reducible first | exact HB.out | apply lA | apply lN | apply lD | refine lS ?_ (IsS139.ge HI172.out) | refine lS ?_ GE168.out) | exact HB.out))) : w.heap.size ≤ gb173)); have n6_ := aM ((by rw [hg]; exact Nat.ne_of_lt (blk_lt (g := gb168) (o := .cells #[.slice none 0 0] 30 (0, 0)) (by (with_reducible repeat first | apply bN | apply bD | apply bA); exact BK168.out)) : gb168 ≠ gb173)); have n7_ := aM ((by rw [hg]; exact Nat.ne_of_gt (blk_lt (g := gb168) (o := .cells #[.slice none 0 0] 30 (0, 0)) (by (with_reducible repeat first | apply bN | apply bD | apply bA); exact BK168.out)) : gb173 ≠ gb168)); have n8_ := aM ((by rw [hg]; exact Nat.ne_of_lt (IsS139.lt (show IsS139 w _ g172 t169 t170 t171 from by repeat (first | (with_reducible first | exact HI172.out | apply IsS139.alloc | apply IsS139.drewN | apply IsS139.drew | apply IsS139.set_1 | apply IsS139.set_2 | refine IsS139.far ?_ NB172_168.out _) | exact HI172.out))) : g172 ≠ gb173)); have n9_ := aM ((by rw [hg]; exact Nat.ne_of_gt (IsS139.lt (show IsS139 w _ g172 t169 t170 t171 from by repeat (first | (with_reducible first | exact HI172.out | apply IsS139.alloc | apply IsS139.drewN | apply IsS139.drew | apply IsS139.set_1 | apply IsS139.set_2 | refine IsS139.far ?_ NB172_168.out _) | exact HI172.out))) : gb173 ≠ g172)); clear BK168; clear HI172; clear HB; have BK168 := n0_; have HI172 := n1_; have HB := n2_; have BK173 := n3_; have GW173 := n4_; have GE173 := n5_; have NB168_173 := n6_; have NB173_168 := n7_; have NB172_173 := n8_; have NB173_172 := n9_; clear n0_ n1_ n2_ n3_ n4_ n5_ n6_ n7_ n8_ n9_; clear hb hbox hg; have hnb6 := NB173_168.out; have hnc6 := NB168_173.out; have hnb7 := NB173_172.out; have hnc7 := NB172_173.out; have hcz8_0 : w5.cell? ⟨gb173, 0, none⟩ = some (.slice none 0 0) := (blk_cell BK173.out 0).trans rfl; have hfz8_0 := blk_frozen BK173.out 0))
  go_loopg [5] k (fun kq v5 w' => ∃ (x5_1 : Int) (x173001_1 : Int) (x173002_1 : Int) (x174000_1 : List (S45)) (u174000 : Value), v5 = .int .i64 x5_1 ∧ Aside0 (spec_DrawRightDisk.l0 kq x5_1 t169 x173001_1 x173002_1 x174000_1 = some r) ∧ Aside0 (kq ≤ k) ∧ Aside0 (Kd.R k45 45 w' w.heap.size (fun _ => True) u174000 x174000_1) ∧ Aside0 (w'.heap[gb168]? = some (.cells #[(.slice none 0 0)] 30 (0, 0))) ∧ Aside0 (w'.heap[gb173]? = some (.cells #[u174000] 30 (0, 0))) ∧ Aside0 (IsS139 w w' g172 t169 x173001_1 x173002_1) ∧ Aside0 (Below w.heap.size w w'))
  case atStart => exact ⟨(0), (t170), (t171), (([] : List (S45))), (.slice none 0 0), (by first | rfl | (simp; done) | (simp [*]; done)), H', ⟨Nat.le_refl _⟩, ⟨by first | exact Kd.R_nil _ _ _ _ _ | exact Kd.N_nil _ _ _ _ _ | exact Kd.V_nil _ _ _ _ _ | exact Kd.Q_nil _ _ _ _ _ | exact Kd.S_nil _ _ _ _ _⟩, ⟨by (with_reducible repeat first | apply bN | apply bD | apply bA); refine blk_far ?_ NB168_173.out _; (with_reducible repeat first | apply bN | apply bD | apply bA); exact BK168.out⟩, ⟨by (with_reducible repeat first | apply bN | apply bD | apply bA); refine blk_put (cs := #[.slice none 0 0]) ?_ 0 _ rfl; (with_reducible repeat first | apply bN | apply bD | apply bA); exact BK173.out⟩, ⟨by repeat (first | (with_reducible first | exact HI172.out | apply IsS139.alloc | apply IsS139.drewN | apply IsS139.drew | apply IsS139.set_1 | apply IsS139.set_2 | refine IsS139.far ?_ NB172_168.out _ | refine IsS139.far ?_ NB172_173.out _) | exact HI172.out)⟩, ⟨by repeat (first | (with_reducible first | exact HB.out | apply lA | apply lN | apply lD | refine lS ?_ (IsS139.ge HI172.out) | refine lS ?_ GE168.out | refine lS ?_ GE173.out) | exact HB.out)⟩⟩
  case round =>
    clear H'
    try clear c2
    try clear p2
    try clear c6
    try clear c7
    try clear hcz8_0
    try clear hfz8_0
    obtain ⟨x5_1, x173001_1, x173002_1, x174000_1, u174000, rfl, HA, HK1, HO_174000, BK168, BK173, HI172, HB⟩ := hrel
    cases gk with
    | zero => exact absurd HA.out (by simp [spec_DrawRightDisk.l0])
    | succ k1 =>
      have H := HA.out
      clear HA
      simp only [spec_DrawRightDisk.l0] at H
      replace H := Option.bind_eq_some_iff.mp H
      obtain ⟨⟨t174, t175, t176⟩, A90, H⟩ := H
      replace H : (if x5_1 < t174 then ((spec_l01Below.f t169 t175 t176 30).bind fun bt177 => ((spec_l01Text.f k1 t169 bt177.2.1 bt177.2.2 bt177.1).bind fun bt180 => ((spec_l03Named.f t169 bt180.2.1 bt180.2.2).bind fun bt183 => ((spec_l01Below.f t169 bt183.2.1 bt183.2.2 (wrap64 ((bt180.1.size : Int) + 1))).bind fun bt186 => ((spec_l03Put.f k1 x174000_1 bt183.1 bt180.1 bt186.1).bind fun t189 => (spec_DrawRightDisk.l0 k1 (wrap64 (x5_1 + 1)) t169 bt186.2.1 bt186.2.2 t189)))))) else (some x174000_1)) = some r := H
      have A9 := aM A90
      clear A90
      by_cases c10 : x5_1 < t174
      · rw [if_pos c10] at H
        have c10b0 : decide (x5_1 < t174) = true := decide_eq_true c10
        clear c10
        replace H := Option.bind_eq_some_iff.mp H
        obtain ⟨⟨t177, t178, t179⟩, A110, H⟩ := H
        replace H : ((spec_l01Text.f k1 t169 t178 t179 t177).bind fun bt180 => ((spec_l03Named.f t169 bt180.2.1 bt180.2.2).bind fun bt183 => ((spec_l01Below.f t169 bt183.2.1 bt183.2.2 (wrap64 ((bt180.1.size : Int) + 1))).bind fun bt186 => ((spec_l03Put.f k1 x174000_1 bt183.1 bt180.1 bt186.1).bind fun t189 => (spec_DrawRightDisk.l0 k1 (wrap64 (x5_1 + 1)) t169 bt186.2.1 bt186.2.2 t189))))) = some r := H
        have A11 := aM A110
        clear A110
        replace H := Option.bind_eq_some_iff.mp H
        obtain ⟨⟨t180, t181, t182⟩, A120, H⟩ := H
        replace H : ((spec_l03Named.f t169 t181 t182).bind fun bt183 => ((spec_l01Below.f t169 bt183.2.1 bt183.2.2 (wrap64 ((t180.size : Int) + 1))).bind fun bt186 => ((spec_l03Put.f k1 x174000_1 bt183.1 t180 bt186.1).bind fun t189 => (spec_DrawRightDisk.l0 k1 (wrap64 (x5_1 + 1)) t169 bt186.2.1 bt186.2.2 t189)))) = some r := H
        have A12 := aM A120
        clear A120
        replace H := Option.bind_eq_some_iff.mp H
        obtain ⟨⟨t183, t184, t185⟩, A130, H⟩ := H
        replace H : ((spec_l01Below.f t169 t184 t185 (wrap64 ((t180.size : Int) + 1))).bind fun bt186 => ((spec_l03Put.f k1 x174000_1 t183 t180 bt186.1).bind fun t189 => (spec_DrawRightDisk.l0 k1 (wrap64 (x5_1 + 1)) t169 bt186.2.1 bt186.2.2 t189))) = some r := H
        have A13 := aM A130
        clear A130
        replace H := Option.bind_eq_some_iff.mp H
        obtain ⟨⟨t186, t187, t188⟩, A140, H⟩ := H
        replace H : ((spec_l03Put.f k1 x174000_1 t183 t180 t186).bind fun t189 => (spec_DrawRightDisk.l0 k1 (wrap64 (x5_1 + 1)) t169 t187 t188 t189)) = some r := H
        have A14 := aM A140
        clear A140
        replace H := Option.bind_eq_some_iff.mp H
        obtain ⟨t189, A150, H⟩ := H
        replace H : (spec_DrawRightDisk.l0 k1 (wrap64 (x5_1 + 1)) t169 t187 t188 t189) = some r := H
        have A15 := aM A150
        clear A150
        have H' := aM H
        clear H
        try go_wp2_with (first | ((with_reducible refine gate_callee (f := 77) rfl ?_); refine goesL_ (some 12) rfl rfl Try.func77 (by kernel_rfl) rfl #[.pointer (some ⟨g172, 0, none⟩), .int .i64 6] rfl (by (try simp only [mT, mC, mN]); first | done | rfl | (simp only [lDr, lTk]; rfl)) ?_; (with_reducible refine (spec_l01Below.calls g172 t169 x173001_1 x173002_1 6 t174 t175 t176 w _ ?side1 ?side2 A9.out).mono ?_); (case side1 => repeat (first | (with_reducible first | exact HI172.out | apply IsS139.alloc | apply IsS139.drewN | apply IsS139.drew | apply IsS139.set_1 | apply IsS139.set_2 | refine IsS139.far ?_ NB172_168.out _ | refine IsS139.far ?_ NB172_173.out _) | exact HI172.out)); (case side2 => repeat (first | (with_reducible first | exact HB.out | apply lA | apply lN | apply lD | refine lS ?_ (IsS139.ge HI172.out) | refine lS ?_ GE168.out | refine lS ?_ GE173.out) | exact HB.out)); rintro e w16 ⟨rfl, hi, hb, hk⟩; refine ⟨_, rfl, ?_⟩; have n0_ := aM (Kd.R_mono (Kd.R_keep (IsS139.apart (show IsS139 w _ g172 t169 x173001_1 x173002_1 from by repeat (first | (with_reducible first | exact HI172.out | apply IsS139.alloc | apply IsS139.drewN | apply IsS139.drew | apply IsS139.set_1 | apply IsS139.set_2 | refine IsS139.far ?_ NB172_168.out _ | refine IsS139.far ?_ NB172_173.out _) | exact HI172.out)) (by (with_reducible repeat first | apply rA | apply rN | apply rD); exact HO_174000.out) (by decide)) hk (fun _ h => h.2)) (fun _ h => h.1)); have n1_ := aM (KeepBut.blk hk (g' := gb168) (o := .cells #[.slice none 0 0] 30 (0, 0)) (by (with_reducible repeat first | apply bN | apply bD | apply bA); exact BK168.out) NB168_172.out (by simp)); have n2_ := aM (KeepBut.blk hk (g' := gb173) (o := .cells #[u174000] 30 (0, 0)) (by (with_reducible repeat first | apply bN | apply bD | apply bA); exact BK173.out) NB173_172.out (by simp)); have n3_ := aM (hb); have n4_ := aM (hi); clear HO_174000; clear BK168; clear BK173; clear HB; clear HI172; have HO_174000 := n0_; have BK168 := n1_; have BK173 := n2_; have HB := n3_; have HI172 := n4_; clear n0_ n1_ n2_ n3_ n4_; (try clear hb); (try clear hb2); (try clear hk); (try clear hi)) | ((with_reducible refine gate_callee (f := 77) rfl ?_); refine goesL_ (some 18) rfl rfl Try.func77 (by kernel_rfl) rfl #[.pointer (some ⟨g172, 0, none⟩), .int .i64 30] rfl (by (try simp only [mT, mC, mN]); first | done | rfl | (simp only [lDr, lTk]; rfl)) ?_; (with_reducible refine (spec_l01Below.calls g172 t169 t175 t176 30 t177 t178 t179 w _ ?side1 ?side2 A11.out).mono ?_); (case side1 => repeat (first | (with_reducible first | exact HI172.out | apply IsS139.alloc | apply IsS139.drewN | apply IsS139.drew | apply IsS139.set_1 | apply IsS139.set_2 | refine IsS139.far ?_ NB172_168.out _ | refine IsS139.far ?_ NB172_173.out _) | exact HI172.out)); (case side2 => repeat (first | (with_reducible first | exact HB.out | apply lA | apply lN | apply lD | refine lS ?_ (IsS139.ge HI172.out) | refine lS ?_ GE168.out | refine lS ?_ GE173.out) | exact HB.out)); rintro e w17 ⟨rfl, hi, hb, hk⟩; refine ⟨_, rfl, ?_⟩; have n0_ := aM (Kd.R_mono (Kd.R_keep (IsS139.apart (show IsS139 w _ g172 t169 t175 t176 from by repeat (first | (with_reducible first | exact HI172.out | apply IsS139.alloc | apply IsS139.drewN | apply IsS139.drew | apply IsS139.set_1 | apply IsS139.set_2 | refine IsS139.far ?_ NB172_168.out _ | refine IsS139.far ?_ NB172_173.out _) | exact HI172.out)) (by (with_reducible repeat first | apply rA | apply rN | apply rD); exact HO_174000.out) (by decide)) hk (fun _ h => h.2)) (fun _ h => h.1)); have n1_ := aM (KeepBut.blk hk (g' := gb168) (o := .cells #[.slice none 0 0] 30 (0, 0)) (by (with_reducible repeat first | apply bN | apply bD | apply bA); exact BK168.out) NB168_172.out (by simp)); have n2_ := aM (KeepBut.blk hk (g' := gb173) (o := .cells #[u174000] 30 (0, 0)) (by (with_reducible repeat first | apply bN | apply bD | apply bA); exact BK173.out) NB173_172.out (by simp)); have n3_ := aM (hb); have n4_ := aM (hi); clear HO_174000; clear BK168; clear BK173; clear HB; clear HI172; have HO_174000 := n0_; have BK168 := n1_; have BK173 := n2_; have HB := n3_; have HI172 := n4_; clear n0_ n1_ n2_ n3_ n4_; (try clear hb); (try clear hb2); (try clear hk); (try clear hi)) | ((with_reducible refine gate_callee (f := 78) rfl ?_); refine goesL_ (some 19) rfl rfl Try.func78 (by kernel_rfl) rfl #[.pointer (some ⟨g172, 0, none⟩), .int .i64 t177] rfl (by (try simp only [mT, mC, mN]); first | done | rfl | (simp only [lDr, lTk]; rfl)) ?_; (with_reducible refine (spec_l01Text.calls k1 g172 t169 t178 t179 t177 t180 t181 t182 w _ ?side1 ?side2 A12.out).mono ?_); (case side1 => repeat (first | (with_reducible first | exact HI172.out | apply IsS139.alloc | apply IsS139.drewN | apply IsS139.drew | apply IsS139.set_1 | apply IsS139.set_2 | refine IsS139.far ?_ NB172_168.out _ | refine IsS139.far ?_ NB172_173.out _) | exact HI172.out)); (case side2 => repeat (first | (with_reducible first | exact HB.out | apply lA | apply lN | apply lD | refine lS ?_ (IsS139.ge HI172.out) | refine lS ?_ GE168.out | refine lS ?_ GE173.out) | exact HB.out)); rintro e w18 ⟨rfl, hi, hb, hk⟩; refine ⟨_, rfl, ?_⟩; have n0_ := aM (Kd.R_mono (Kd.R_keep (IsS139.apart (show IsS139 w _ g172 t169 t178 t179 from by repeat (first | (with_reducible first | exact HI172.out | apply IsS139.alloc | apply IsS139.drewN | apply IsS139.drew | apply IsS139.set_1 | apply IsS139.set_2 | refine IsS139.far ?_ NB172_168.out _ | refine IsS139.far ?_ NB172_173.out _) | exact HI172.out)) (by (with_reducible repeat first | apply rA | apply rN | apply rD); exact HO_174000.out) (by decide)) hk (fun _ h => h.2)) (fun _ h => h.1)); have n1_ := aM (KeepBut.blk hk (g' := gb168) (o := .cells #[.slice none 0 0] 30 (0, 0)) (by (with_reducible repeat first | apply bN | apply bD | apply bA); exact BK168.out) NB168_172.out (by simp)); have n2_ := aM (KeepBut.blk hk (g' := gb173) (o := .cells #[u174000] 30 (0, 0)) (by (with_reducible repeat first | apply bN | apply bD | apply bA); exact BK173.out) NB173_172.out (by simp)); have n3_ := aM (hb); have n4_ := aM (hi); clear HO_174000; clear BK168; clear BK173; clear HB; clear HI172; have HO_174000 := n0_; have BK168 := n1_; have BK173 := n2_; have HB := n3_; have HI172 := n4_; clear n0_ n1_ n2_ n3_ n4_; (try clear hb); (try clear hb2); (try clear hk); (try clear hi)))
        have n0_ := aM (Kd.R_drew HO_174000.out)
        have n1_ := aM (blk_drew BK168.out)
        have n2_ := aM (blk_drew BK173.out)
        have n3_ := aM (IsS139.drew HI172.out)
        have n4_ := aM (below_drew1 HB.out)
        clear HO_174000
        clear BK168
        clear BK173
        clear HI172
        clear HB
        have HO_174000 := n0_
        have BK168 := n1_
        have BK173 := n2_
        have HI172 := n3_
        have HB := n4_
        clear n0_ n1_ n2_ n3_ n4_
        refine start_ (n := 12) (S := fun w' => w'.cell? ⟨gb173, 0, none⟩ = some (u174000)) (ds := [11]) #[false, false, false, false, false, false, false, false, false, false, false, false] (by kernel_rfl) rfl rfl ((blk_cell BK173.out 0).trans rfl) (fun hHeld => ?_); refine with_tabW spec_DrawRightDisk.tab7 spec_DrawRightDisk.bits7 (fun HT_ HW_ => ?_)
        generalize w18.drew = w19 at HO_174000 BK168 BK173 HI172 HB hHeld ⊢
        refine pure_ (i := 1) (N := some 21) (v := ?_) (a' := ?_) #[false, true, false, false, false, false, false, false, false, false, false, false] rfl rfl (any_of HT_.out (by kernel_rfl)) (fun _ _ _ h => h) (Or.inl ⟨by rfl, ?_⟩) ?_ ?_
        rotate_left
        · intro w'
          go_simp
          with_reducible rfl
        rotate_left
        · simp only [aP, aQ, sT, sZ, sU, i64_w, i32_w]
          rfl
        refine pure_ (i := 3) (N := some 23) (v := ?_) (a' := ?_) #[false, true, false, true, false, false, false, false, false, false, false, false] rfl rfl (any_of HT_.out (by kernel_rfl)) (fun _ _ _ h => h) (Or.inl ⟨by rfl, ?_⟩) ?_ ?_
        rotate_left
        · intro w'
          go_simp
          with_reducible rfl
        rotate_left
        · simp only [aP, aQ, sT, sZ, sU, i64_w, i32_w]
          rfl
        refine pure_ (i := 4) (N := some 24) (v := ?_) (a' := ?_) #[false, true, false, true, true, false, false, false, false, false, false, false] rfl rfl (any_of HT_.out (by kernel_rfl)) (fun _ _ _ h => h) (Or.inl ⟨by rfl, ?_⟩) ?_ ?_
        rotate_left
        · intro w'
          go_simp
          with_reducible rfl
        rotate_left
        · simp only [aP, aQ, sT, sZ, sU, i64_w, i32_w]
          rfl
        refine pure_ (i := 5) (N := some 25) (v := ?_) (a' := ?_) #[false, true, false, true, true, true, false, false, false, false, false, false] rfl rfl (any_of HT_.out (by kernel_rfl)) (fun _ _ _ h => h) (Or.inl ⟨by rfl, ?_⟩) ?_ ?_
        rotate_left
        · intro w'
          go_simp
          with_reducible rfl
        rotate_left
        · simp only [aP, aQ, sT, sZ, sU, i64_w, i32_w]
          rfl
        refine pure_ (i := 6) (N := some 26) (v := ?_) (a' := ?_) #[false, true, false, true, true, true, true, false, false, false, false, false] rfl rfl (any_of HT_.out (by kernel_rfl)) (fun _ _ _ h => h) (Or.inl ⟨by rfl, ?_⟩) ?_ ?_
        rotate_left
        · intro w'
          go_simp
          with_reducible rfl
        rotate_left
        · simp only [aP, aQ, sT, sZ, sU, i64_w, i32_w]
          rfl
        refine pure_ (i := 7) (N := some 27) (v := ?_) (a' := ?_) #[false, true, false, true, true, true, true, true, false, false, false, false] rfl rfl (any_of HT_.out (by kernel_rfl)) (fun _ _ _ h => h) (Or.inl ⟨by rfl, ?_⟩) ?_ ?_
        rotate_left
        · intro w'
          go_simp
          with_reducible rfl
        rotate_left
        · simp only [aP, aQ, sT, sZ, sU, i64_w, i32_w]
          rfl
        refine take_ (i := 0) (N := some 20) (v := ?_) (a' := ?_) #[true, true, false, true, true, true, true, true, false, false, false, false] rfl rfl (take_ofW HT_.out HW_.out (by kernel_rfl)) (fun _ _ _ h => h) (Or.inl ⟨by rfl, ?_⟩) hHeld ?_ ?_
        rotate_left
        · intro w' s0
          go_simp
          with_reducible rfl
        rotate_left
        · simp only [aP, aQ, sT, sZ, sU, i64_w, i32_w]
          rfl
        refine one_ (i := 2) (N := some 22) #[true, true, true, true, true, true, true, true, false, false, false, false] rfl rfl (one_of HT_.out (by kernel_rfl)) (by decide) (fun K hK => ?_)
        refine goes_ Try.func80 (by kernel_rfl) rfl #[.pointer (some ⟨g172, 0, none⟩)] (by rfl) rfl rfl (by (try simp only [mT, mC, mN]); first | done | rfl | (simp only [lDr, lTk]; rfl)) ?_
        with_reducible refine (spec_l03Named.calls g172 t169 t181 t182 t183 t184 t185 w _ ?side1 ?side2 A13.out).mono ?_
        (case side1 => repeat (first | (with_reducible first | exact HI172.out | apply IsS139.alloc | apply IsS139.drewN | apply IsS139.drew | apply IsS139.set_1 | apply IsS139.set_2 | refine IsS139.far ?_ NB172_168.out _ | refine IsS139.far ?_ NB172_173.out _) | exact HI172.out))
        (case side2 => repeat (first | (with_reducible first | exact HB.out | apply lA | apply lN | apply lD | refine lS ?_ (IsS139.ge HI172.out) | refine lS ?_ GE168.out | refine lS ?_ GE173.out) | exact HB.out))
        rintro e w20 ⟨rfl, hi, hb, hk⟩
        refine ⟨_, rfl, ?_⟩
        have n0_ := aM (Kd.R_mono (Kd.R_keep (IsS139.apart (show IsS139 w _ g172 t169 t181 t182 from by repeat (first | (with_reducible first | exact HI172.out | apply IsS139.alloc | apply IsS139.drewN | apply IsS139.drew | apply IsS139.set_1 | apply IsS139.set_2 | refine IsS139.far ?_ NB172_168.out _ | refine IsS139.far ?_ NB172_173.out _) | exact HI172.out)) (by (with_reducible repeat first | apply rA | apply rN | apply rD); exact HO_174000.out) (by decide)) hk (fun _ h => h.2)) (fun _ h => h.1))
        have n1_ := aM (KeepBut.blk hk (g' := gb168) (o := .cells #[.slice none 0 0] 30 (0, 0)) (by (with_reducible repeat first | apply bN | apply bD | apply bA); exact BK168.out) NB168_172.out (by simp))
        have n2_ := aM (KeepBut.blk hk (g' := gb173) (o := .cells #[u174000] 30 (0, 0)) (by (with_reducible repeat first | apply bN | apply bD | apply bA); exact BK173.out) NB173_172.out (by simp))
        have n3_ := aM (hb)
        have n4_ := aM (hi)
        clear HO_174000
        clear BK168
        clear BK173
        clear HB
        clear HI172
        have HO_174000 := n0_
        have BK168 := n1_
        have BK173 := n2_
        have HB := n3_
        have HI172 := n4_
        clear n0_ n1_ n2_ n3_ n4_
        (try clear hb)
        (try clear hb2)
        (try clear hk)
        (try clear hi)
        refine hK.out _ _ ((blk_cell BK173.out 0).trans rfl) (fun hHeld => ?_)
        clear hK K
        refine norm_ (a' := ?_) ?_ ?_
        rotate_left
        · show Act.put _ (some 22) _ = _
          simp only [aP, aQ, sT, sZ, sU, i64_w, i32_w]
          rfl
        refine one_ (i := 8) (N := some 28) #[true, true, true, true, true, true, true, true, true, false, false, false] rfl rfl (one_of HT_.out (by kernel_rfl)) (by decide) (fun K hK => ?_)
        refine goes_ Try.func77 (by kernel_rfl) rfl #[.pointer (some ⟨g172, 0, none⟩), .int .i64 (wrap64 ((t180.size : Int) + 1))] (by rfl) rfl rfl (by (try simp only [mT, mC, mN]); first | done | rfl | (simp only [lDr, lTk]; rfl)) ?_
        with_reducible refine (spec_l01Below.calls g172 t169 t184 t185 (wrap64 ((t180.size : Int) + 1)) t186 t187 t188 w _ ?side1 ?side2 A14.out).mono ?_
        (case side1 => repeat (first | (with_reducible first | exact HI172.out | apply IsS139.alloc | apply IsS139.drewN | apply IsS139.drew | apply IsS139.set_1 | apply IsS139.set_2 | refine IsS139.far ?_ NB172_168.out _ | refine IsS139.far ?_ NB172_173.out _) | exact HI172.out))
        (case side2 => repeat (first | (with_reducible first | exact HB.out | apply lA | apply lN | apply lD | refine lS ?_ (IsS139.ge HI172.out) | refine lS ?_ GE168.out | refine lS ?_ GE173.out) | exact HB.out))
        rintro e w21 ⟨rfl, hi, hb, hk⟩
        refine ⟨_, rfl, ?_⟩
        have n0_ := aM (Kd.R_mono (Kd.R_keep (IsS139.apart (show IsS139 w _ g172 t169 t184 t185 from by repeat (first | (with_reducible first | exact HI172.out | apply IsS139.alloc | apply IsS139.drewN | apply IsS139.drew | apply IsS139.set_1 | apply IsS139.set_2 | refine IsS139.far ?_ NB172_168.out _ | refine IsS139.far ?_ NB172_173.out _) | exact HI172.out)) (by (with_reducible repeat first | apply rA | apply rN | apply rD); exact HO_174000.out) (by decide)) hk (fun _ h => h.2)) (fun _ h => h.1))
        have n1_ := aM (KeepBut.blk hk (g' := gb168) (o := .cells #[.slice none 0 0] 30 (0, 0)) (by (with_reducible repeat first | apply bN | apply bD | apply bA); exact BK168.out) NB168_172.out (by simp))
        have n2_ := aM (KeepBut.blk hk (g' := gb173) (o := .cells #[u174000] 30 (0, 0)) (by (with_reducible repeat first | apply bN | apply bD | apply bA); exact BK173.out) NB173_172.out (by simp))
        have n3_ := aM (hb)
        have n4_ := aM (hi)
        clear HO_174000
        clear BK168
        clear BK173
        clear HB
        clear HI172
        have HO_174000 := n0_
        have BK168 := n1_
        have BK173 := n2_
        have HB := n3_
        have HI172 := n4_
        clear n0_ n1_ n2_ n3_ n4_
        (try clear hb)
        (try clear hb2)
        (try clear hk)
        (try clear hi)
        obtain ⟨Ao22, co22, eo22⟩ := Kd.R_slice HO_174000.out
        (first | subst eo22 | (injection eo22 with f1_ f2_ f3_; have f4_ := f1_.symm; have f5_ := f3_.symm; clear f1_ f2_ f3_; subst f4_; subst f5_))
        refine hK.out _ _ ((blk_cell BK173.out 0).trans rfl) (fun hHeld => ?_)
        clear hK K
        refine norm_ (a' := ?_) ?_ ?_
        rotate_left
        · show Act.put _ (some 28) _ = _
          simp only [aP, aQ, sT, sZ, sU, i64_w, i32_w]
          rfl
        refine pure_ (i := 9) (N := some 29) (v := ?_) (a' := ?_) #[true, true, true, true, true, true, true, true, true, true, false, false] rfl rfl (any_of HT_.out (by kernel_rfl)) (fun _ _ _ h => h) (Or.inl ⟨by rfl, ?_⟩) ?_ ?_
        rotate_left
        · intro w'
          go_simp
          with_reducible rfl
        rotate_left
        · simp only [aP, aQ, sT, sZ, sU, i64_w, i32_w]
          rfl
        refine one_ (i := 10) (N := some 30) #[true, true, true, true, true, true, true, true, true, true, true, false] rfl rfl (one_of HT_.out (by kernel_rfl)) (by decide) (fun K hK => ?_)
        refine goes_ Try.func79 (by kernel_rfl) rfl #[.agg #[.slice Ao22 x174000_1.length co22], .agg #[.string t183, .string t180, .int .i64 t186]] (by rfl) rfl rfl (by (try simp only [mT, mC, mN]); first | done | rfl | (simp only [lDr, lTk]; rfl)) ?_
        with_reducible refine (spec_l03Put.calls k1 _ _ x174000_1 t183 t180 t186 t189 _ ?side1 ?side2 A15.out).mono ?_
        (case side1 => repeat (first | exact (Kd.R_reads' HO_174000.out).2.2 | (with_reducible refine cA ?_ _) | (with_reducible refine cN ?_ _) | (with_reducible refine cD ?_)))
        (case side2 => exact (Kd.R_reads' HO_174000.out).2.1)
        rintro e w23 ⟨v190, rfl, ho0, hb⟩
        refine ⟨_, rfl, ?_⟩
        have n0_ := aM (Kd.R_elder' (by (with_reducible repeat first | apply rA | apply rN | apply rD); exact HO_174000.out) (Kd.R_base ho0) hb)
        have n1_ := aM (Kd.R_lower (Kd.R_new' ho0 (Kd.R_lt (by (with_reducible repeat first | apply rA | apply rN | apply rD); exact HO_174000.out))) (below_size (by repeat (first | (with_reducible first | exact HB.out | apply lA | apply lN | apply lD | refine lS ?_ (IsS139.ge HI172.out) | refine lS ?_ GE168.out | refine lS ?_ GE173.out) | exact HB.out))))
        have n2_ := aM (blk_below (g := gb168) (o := .cells #[.slice none 0 0] 30 (0, 0)) (by (with_reducible repeat first | apply bN | apply bD | apply bA); exact BK168.out) hb)
        have n3_ := aM (blk_below (g := gb173) (o := .cells #[.slice Ao22 x174000_1.length co22] 30 (0, 0)) (by (with_reducible repeat first | apply bN | apply bD | apply bA); exact BK173.out) hb)
        have n4_ := aM (IsS139.below (by repeat (first | (with_reducible first | exact HI172.out | apply IsS139.alloc | apply IsS139.drewN | apply IsS139.drew | apply IsS139.set_1 | apply IsS139.set_2 | refine IsS139.far ?_ NB172_168.out _ | refine IsS139.far ?_ NB172_173.out _) | exact HI172.out)) hb)
        have n5_ := aM (below_step (by repeat (first | (with_reducible first | exact HB.out | apply lA | apply lN | apply lD | refine lS ?_ (IsS139.ge HI172.out) | refine lS ?_ GE168.out | refine lS ?_ GE173.out) | exact HB.out)) hb)
        clear HO_174000
        clear BK168
        clear BK173
        clear HI172
        clear HB
        have HO_174000 := n0_
        have HO191 := n1_
        have BK168 := n2_
        have BK173 := n3_
        have HI172 := n4_
        have HB := n5_
        clear n0_ n1_ n2_ n3_ n4_ n5_
        (try clear hb)
        (try clear hb2)
        (try clear hk)
        (try clear hi)
        (try clear ho0)
        obtain ⟨Ao24, co24, eo24⟩ := Kd.R_slice HO191.out
        (first | subst eo24 | (injection eo24 with f1_ f2_ f3_; have f4_ := f1_.symm; have f5_ := f3_.symm; clear f1_ f2_ f3_; subst f4_; subst f5_))
        refine hK.out _ _ ((blk_cell BK173.out 0).trans rfl) (fun hHeld => ?_)
        clear hK K
        refine norm_ (a' := ?_) ?_ ?_
        rotate_left
        · show Act.put _ (some 30) _ = _
          simp only [aP, aQ, sT, sZ, sU, i64_w, i32_w]
          rfl
        refine last_ (i := 11) (N := none) #[true, true, true, true, true, true, true, true, true, true, true, true] rfl rfl (one_of HT_.out (by kernel_rfl)) (by decide) (fun K hK => ?_)
        have hs25 : w23.cell? ⟨gb173, 0, none⟩ = some (.slice Ao22 x174000_1.length co22) := (blk_cell BK173.out 0).trans rfl
        have hfs25 := blk_frozen BK173.out 0
        have hns25_0 := NB168_173.out
        have hms25_0 := NB173_168.out
        refine skip_ (w1 := ?_) (by rfl) rfl ?_ ?_
        rotate_left
        · go_simp
          rfl
        refine hK.out _ _ ?_
        clear hK K
        refine done_ (done_of HT_.out (by kernel_rfl)) ?_
        try go_wp2
        go_roundg k1
        case measure => have := HK1.out; omega
        case rel => exact ⟨(wrap64 (x5_1 + 1)), (t187), (t188), (t189), (.slice Ao24 t189.length co24), (by first | rfl | (simp; done) | (simp [*]; done)), H', ⟨by have := HK1.out; omega⟩, ⟨by (with_reducible repeat first | apply rA | apply rN | apply rD); exact Kd.R_mono (Kd.R_far (p := ⟨gb173, 0, none⟩) (Kd.R_types HO191.out BK173.out (by decide)) (fun _ hk => hk.2) (.slice Ao24 t189.length co24)) (fun _ hk => trivial)⟩, ⟨by (with_reducible repeat first | apply bN | apply bD | apply bA); refine blk_far ?_ NB168_173.out _; (with_reducible repeat first | apply bN | apply bD | apply bA); exact BK168.out⟩, ⟨by (with_reducible repeat first | apply bN | apply bD | apply bA); refine blk_put (cs := #[.slice Ao22 x174000_1.length co22]) ?_ 0 _ rfl; (with_reducible repeat first | apply bN | apply bD | apply bA); exact BK173.out⟩, ⟨by repeat (first | (with_reducible first | exact HI172.out | apply IsS139.alloc | apply IsS139.drewN | apply IsS139.drew | apply IsS139.set_1 | apply IsS139.set_2 | refine IsS139.far ?_ NB172_168.out _ | refine IsS139.far ?_ NB172_173.out _) | exact HI172.out)⟩, ⟨by repeat (first | (with_reducible first | exact HB.out | apply lA | apply lN | apply lD | refine lS ?_ (IsS139.ge HI172.out) | refine lS ?_ GE168.out | refine lS ?_ GE173.out) | exact HB.out)⟩⟩
      · rw [if_neg c10] at H
        have c10b0 : decide (x5_1 < t174) = false := decide_eq_false c10
        clear c10
        obtain rfl := Option.some.inj H
        go_wp2_with (first | ((with_reducible refine gate_callee (f := 77) rfl ?_); refine goesL_ (some 12) rfl rfl Try.func77 (by kernel_rfl) rfl #[.pointer (some ⟨g172, 0, none⟩), .int .i64 6] rfl (by (try simp only [mT, mC, mN]); first | done | rfl | (simp only [lDr, lTk]; rfl)) ?_; (with_reducible refine (spec_l01Below.calls g172 t169 x173001_1 x173002_1 6 t174 t175 t176 w _ ?side1 ?side2 A9.out).mono ?_); (case side1 => repeat (first | (with_reducible first | exact HI172.out | apply IsS139.alloc | apply IsS139.drewN | apply IsS139.drew | apply IsS139.set_1 | apply IsS139.set_2 | refine IsS139.far ?_ NB172_168.out _ | refine IsS139.far ?_ NB172_173.out _) | exact HI172.out)); (case side2 => repeat (first | (with_reducible first | exact HB.out | apply lA | apply lN | apply lD | refine lS ?_ (IsS139.ge HI172.out) | refine lS ?_ GE168.out | refine lS ?_ GE173.out) | exact HB.out)); rintro e w26 ⟨rfl, hi, hb, hk⟩; refine ⟨_, rfl, ?_⟩; have n0_ := aM (Kd.R_mono (Kd.R_keep (IsS139.apart (show IsS139 w _ g172 t169 x173001_1 x173002_1 from by repeat (first | (with_reducible first | exact HI172.out | apply IsS139.alloc | apply IsS139.drewN | apply IsS139.drew | apply IsS139.set_1 | apply IsS139.set_2 | refine IsS139.far ?_ NB172_168.out _ | refine IsS139.far ?_ NB172_173.out _) | exact HI172.out)) (by (with_reducible repeat first | apply rA | apply rN | apply rD); exact HO_174000.out) (by decide)) hk (fun _ h => h.2)) (fun _ h => h.1)); have n1_ := aM (KeepBut.blk hk (g' := gb168) (o := .cells #[.slice none 0 0] 30 (0, 0)) (by (with_reducible repeat first | apply bN | apply bD | apply bA); exact BK168.out) NB168_172.out (by simp)); have n2_ := aM (KeepBut.blk hk (g' := gb173) (o := .cells #[u174000] 30 (0, 0)) (by (with_reducible repeat first | apply bN | apply bD | apply bA); exact BK173.out) NB173_172.out (by simp)); have n3_ := aM (hb); have n4_ := aM (hi); clear HO_174000; clear BK168; clear BK173; clear HB; clear HI172; have HO_174000 := n0_; have BK168 := n1_; have BK173 := n2_; have HB := n3_; have HI172 := n4_; clear n0_ n1_ n2_ n3_ n4_; (try clear hb); (try clear hb2); (try clear hk); (try clear hi); have hnb27 := NB173_168.out; have hnc27 := NB168_173.out; have hnb28 := NB173_172.out; have hnc28 := NB172_173.out; have hcz29_0 : w26.cell? ⟨gb173, 0, none⟩ = some (u174000) := (blk_cell BK173.out 0).trans rfl; have hfz29_0 := blk_frozen BK173.out 0; obtain ⟨Ao30, co30, eo30⟩ := Kd.R_slice HO_174000.out; subst eo30; have hnb31 := NB168_172.out; have hnc31 := NB172_168.out; have hcz32_0 : w26.cell? ⟨gb168, 0, none⟩ = some (.slice none 0 0) := (blk_cell BK168.out 0).trans rfl; have hfz32_0 := blk_frozen BK168.out 0))
        refine bodyPost_ret (results_cell_row rfl _ _ gb168 30 #[.slice Ao30 x174000_1.length co30] (0, 0) _ rfl (by (with_reducible repeat first | apply bN | apply bD | apply bA); refine blk_put (cs := #[.slice none 0 0]) ?_ 0 _ rfl; (with_reducible repeat first | apply bN | apply bD | apply bA); exact BK168.out) Try.underlying30 rfl (by kernel_rfl)) rfl ?_
        exact ⟨_, by first | rfl | (simp [errW_none, errW_some] <;> rfl) | (simp [*, errW_none, errW_some] <;> rfl), by (with_reducible repeat first | apply rA | apply rN | apply rD); exact Kd.R_mono (Kd.R_far (p := ⟨gb168, 0, none⟩) (Kd.R_types HO_174000.out BK168.out (by decide)) (fun _ hk => hk.2) (.slice Ao30 x174000_1.length co30)) (fun _ hk => trivial), by repeat (first | (with_reducible first | exact HB.out | apply lA | apply lN | apply lD | refine lS ?_ (IsS139.ge HI172.out) | refine lS ?_ GE168.out | refine lS ?_ GE173.out) | exact HB.out)⟩

/-! ### laws_lefts: function 26 -/
def laws_lefts.l0 : Nat → List Int → List Int → Int → Option (List Int)
  | 0, _, _, _ => none
  | k + 1, x0, x3, x4 => if x4 < 6 then (if 0 ≤ x4 then (if x4 < (x0.length : Int) then (if x3.length < 17592186044416 then (laws_lefts.l0 k x0 (x3 ++ [Int.tmod (rd x0 x4) 300]) (wrap64 (x4 + 1))) else (none)) else (none)) else (none)) else (some x3)
def laws_lefts.f (k : Nat) (l0 : List Int) : Option (List Int) := laws_lefts.l0 k l0 (([] : List Int)) 0
theorem laws_lefts.mono_l : ∀ k, (∀ y0 y1 y2, LeO (laws_lefts.l0 k y0 y1 y2) (laws_lefts.l0 (k + 1) y0 y1 y2))
  | 0 => fun _ _ _ r h => by simp [laws_lefts.l0] at h
  | k + 1 => by
    have ih0 := laws_lefts.mono_l k
    · intro y0 y1 y2
      unfold laws_lefts.l0
      repeat' first
      | (with_reducible exact ih0 _ _ _)
      | (with_reducible exact LeO.refl _)
      | (with_reducible exact LeO.none _)
      | (with_reducible refine LeO.ite ?_ ?_)
      | (with_reducible refine LeO.bind ?_ (fun _ => ?_))
      | exact ih0 _ _ _
      | exact LeO.none _
      | refine LeO.ite ?_ ?_
      | refine LeO.bind ?_ (fun _ => ?_)
theorem laws_lefts.mono : ∀ a0 k, LeO (laws_lefts.f k a0) (laws_lefts.f (k + 1) a0) := by
  intro a0 k
  have ih0 := laws_lefts.mono_l k
  unfold laws_lefts.f
  repeat' first
      | (with_reducible exact ih0 _ _ _)
      | (with_reducible exact LeO.refl _)
      | (with_reducible exact LeO.none _)
      | (with_reducible refine LeO.ite ?_ ?_)
      | (with_reducible refine LeO.bind ?_ (fun _ => ?_))
      | exact ih0 _ _ _
      | exact LeO.none _
      | refine LeO.ite ?_ ?_
      | refine LeO.bind ?_ (fun _ => ?_)
set_option maxHeartbeats 8000000 in
set_option maxRecDepth 100000 in
theorem laws_lefts.calls (k : Nat) (A0 : Option Addr) (c0 : Nat) (l0 : List Int) (r : List Int) (w : World) (hr0 : Kd.C (Kd.int .i64) w A0 l0.length l0) (hc0 : l0.length ≤ c0) (h : laws_lefts.f k l0 = some r) :
    Calls Try.prog 26 #[.slice A0 l0.length c0] w fun e w' => ∃ v0_ : Value, e = .returned (v0_) ∧ Kd.R (Kd.int .i64) 3 w' w.heap.size (fun _ => True) v0_ r ∧ Below w.heap.size w w' := by
  have HR0 := aM hr0
  have HC0 := aM hc0
  clear hr0 hc0
  have HB := aM (Below.refl w.heap.size w)
  have H : (laws_lefts.l0 k l0 (([] : List Int)) 0) = some r := h
  clear h
  obtain ⟨y192, hy192⟩ : ∃ y_ : List Int, y_ = (([] : List Int)) := ⟨_, rfl⟩
  replace H : (laws_lefts.l0 k l0 y192 0) = some r := by first | (rw [hy192]; with_reducible exact H) | (have H2_ := (Option.bind_some _ _).symm.trans H; rw [hy192]; with_reducible exact H2_) | (have H2_ := (Option.bind_some _ _).symm.trans H; with_reducible exact H2_) | with_reducible exact H | (rw [hy192]; exact H) | exact H
  have Ny192 := aM hy192
  clear hy192
  have H' := aM H
  clear H
  go_enter Try.func26, Try.ntmps26
  go_wp2_with (first | ((with_reducible refine gate_dst (N := 5) rfl ?_); refine Kd.R_lit (Kd.int .i64) _ 3 ?hg (N := 5) ?hd (xs := ([] : List Int)) (inner := []) (ok := fun _ => True) (okp := fun _ => True) ?hr ?hp (fun _ hk => hk) trivial (Below.refl _ _) (Nat.le_refl _) (by simp) ?_; (case hd => rfl); (case hg => rfl); (case hr => first | (go_simp; done) | (go_simp; rfl)); (case hp => exact (Reps.none _ _)); intro v193 w2 ho3 hb hg_ hnew_; clear hg_ hnew_; (first | rw [← Ny192.out] at ho3 | (simp only [Int.reduceToNat] at ho3; rw [← Ny192.out] at ho3)); have n0_ := aM (Kd.R_lower ho3 (below_size (by repeat (first | (with_reducible first | exact HB.out | apply lA | apply lN | apply lD) | exact HB.out)))); have n1_ := aM (below_step (by repeat (first | (with_reducible first | exact HB.out | apply lA | apply lN | apply lD) | exact HB.out)) hb); clear HB; have HO194 := n0_; have HB := n1_; clear n0_ n1_; clear hb ho3))
  go_loopg [3, 4] k (fun kq v3 v4 w' => ∃ (x3_1 : List Int) (x4_1 : Int), v4 = .int .i64 x4_1 ∧ Aside0 (laws_lefts.l0 kq l0 x3_1 x4_1 = some r) ∧ Aside0 (kq ≤ k) ∧ Aside0 (Kd.R (Kd.int .i64) 3 w' w.heap.size (fun _ => True) v3 x3_1) ∧ Aside0 (Below w.heap.size w w'))
  case atStart => exact ⟨(y192), (0), (by first | rfl | (simp; done) | (simp [*]; done)), H', ⟨Nat.le_refl _⟩, ⟨by (with_reducible repeat first | apply rA | apply rN | apply rD); exact HO194.out⟩, ⟨by repeat (first | (with_reducible first | exact HB.out | apply lA | apply lN | apply lD) | exact HB.out)⟩⟩
  case round =>
    clear H'
    try clear c2
    try clear p2
    obtain ⟨x3_1, x4_1, rfl, HA, HK1, HO_3, HB⟩ := hrel
    cases gk with
    | zero => exact absurd HA.out (by simp [laws_lefts.l0])
    | succ k1 =>
      have H := HA.out
      clear HA
      simp only [laws_lefts.l0] at H
      by_cases c4 : x4_1 < 6
      · rw [if_pos c4] at H
        have c4b0 : decide (x4_1 < 6) = true := decide_eq_true c4
        clear c4
        by_cases c5 : 0 ≤ x4_1
        · rw [if_pos c5] at H
          have c5b0 : decide (0 ≤ x4_1) = true := decide_eq_true c5
          clear c5
          by_cases c6 : x4_1 < (l0.length : Int)
          · rw [if_pos c6] at H
            have c6b0 : decide (x4_1 < (l0.length : Int)) = true := decide_eq_true c6
            clear c6
            by_cases c7 : x3_1.length < 17592186044416
            · rw [if_pos c7] at H
              have LMc7 := aM c7
              clear c7
              obtain ⟨y196, hy196⟩ : ∃ y_ : List Int, y_ = (x3_1 ++ [Int.tmod (rd l0 x4_1) 300]) := ⟨_, rfl⟩
              replace H : (laws_lefts.l0 k1 l0 y196 (wrap64 (x4_1 + 1))) = some r := by first | (rw [hy196]; with_reducible exact H) | (have H2_ := (Option.bind_some _ _).symm.trans H; rw [hy196]; with_reducible exact H2_) | (have H2_ := (Option.bind_some _ _).symm.trans H; with_reducible exact H2_) | with_reducible exact H | (rw [hy196]; exact H) | exact H
              have Ny196 := aM hy196
              clear hy196
              have H' := aM H
              clear H
              have p195 : 0 ≤ (x4_1 : Int) := of_decide_eq_true (by first | (with_reducible assumption) | assumption)
              have q195 : x4_1 < (l0.length : Int) := of_decide_eq_true (by first | (with_reducible assumption) | assumption)
              obtain ⟨ad195, e195, hx195_0⟩ := Kd.at_int HR0.out x4_1 p195 q195
              cases e195
              replace hx195_0 := (HB.out.cell (World.block_lt_of_cell? w _ hx195_0)).trans hx195_0
              replace p195 := eq_true p195
              replace q195 := eq_true q195
              go_wp2_with (first | ((with_reducible refine gate_builtin (b := .append) (xs := #[.tmp 10, .tmp 16]) rfl ?_); at_builtin; refine Kd.R_append (Kd.int .i64) (w0 := w) w.heap.size rfl (.tmp 10) (.tmp 16) 39 3 (.int .i64 0) 8 rfl Try.underlying39 info3 rfl (by decide) (by omega) u3 x3_1 (Int.tmod (rd l0 x4_1) 300) [.int .i64 (Int.tmod (rd l0 x4_1) 300)] (fun _ => True) (fun _ => False) rfl rfl ?aP (fun _ hk => hk.elim) ?aF ?aO ?aB ?aS ?aL ?_; (case aP => exact rfl); (case aB => exact (by repeat (first | (with_reducible first | exact HB.out | apply lA | apply lN | apply lD) | exact HB.out))); (case aF => exact (fun _ _ => trivial)); (case aO => exact (by (with_reducible repeat first | apply rA | apply rN | apply rD); exact HO_3.out)); (case aS => exact (below_size (by repeat (first | (with_reducible first | exact HB.out | apply lA | apply lN | apply lD) | exact HB.out)))); (case aL => have := LMc7.out; omega); intro v197 w8 ho hb hg hat; rw [← Ny196.out] at ho; have n0_ := aM (hb); have n1_ := aM (ho); clear HB; clear HO_3; have HB := n0_; have HO198 := n1_; clear n0_ n1_; clear ho hb hg hat))
              go_roundg k1
              case measure => have := HK1.out; omega
              case rel => exact ⟨(y196), (wrap64 (x4_1 + 1)), (by first | rfl | (simp; done) | (simp [*]; done)), H', ⟨by have := HK1.out; omega⟩, ⟨by (with_reducible repeat first | apply rA | apply rN | apply rD); exact HO198.out⟩, ⟨by repeat (first | (with_reducible first | exact HB.out | apply lA | apply lN | apply lD) | exact HB.out)⟩⟩
            · rw [if_neg c7] at H
              exact absurd H (by simp)
          · rw [if_neg c6] at H
            exact absurd H (by simp)
        · rw [if_neg c5] at H
          exact absurd H (by simp)
      · rw [if_neg c4] at H
        have c4b0 : decide (x4_1 < 6) = false := decide_eq_false c4
        clear c4
        obtain rfl := Option.some.inj H
        go_wp2
        go_ret
        exact ⟨_, by first | rfl | (simp [errW_none, errW_some] <;> rfl) | (simp [*, errW_none, errW_some] <;> rfl), by (with_reducible repeat first | apply rA | apply rN | apply rD); exact HO_3.out, by repeat (first | (with_reducible first | exact HB.out | apply lA | apply lN | apply lD) | exact HB.out)⟩

/-! ### spec_DrawPlaces: function 27 -/
def spec_DrawPlaces.l0 : Nat → List Int → Int → List Int → Int → Int → Option (List Int)
  | 0, _, _, _, _, _ => none
  | k + 1, x4, x5, x203000, x203001, x203002 => if x5 < 12 then ((spec_l01Below.f x203000 x203001 x203002 10000).bind fun bt209 => (if x4.length < 17592186044416 then (spec_DrawPlaces.l0 k (x4 ++ [bt209.1]) (wrap64 (x5 + 1)) x203000 bt209.2.1 bt209.2.2) else (none))) else (some x4)
def spec_DrawPlaces.f (k : Nat) (l0 : List Int) : Option (List Int) := (spec_l01New.f k l0).bind fun bt199 => ((spec_l01Byte.f bt199.1 bt199.2.1 bt199.2.2).bind fun bt203 => (spec_DrawPlaces.l0 k (([] : List Int)) 0 bt199.1 bt203.2.1 bt203.2.2))
theorem spec_DrawPlaces.mono_l : ∀ k, (∀ y0 y1 y2 y3 y4, LeO (spec_DrawPlaces.l0 k y0 y1 y2 y3 y4) (spec_DrawPlaces.l0 (k + 1) y0 y1 y2 y3 y4))
  | 0 => fun _ _ _ _ _ r h => by simp [spec_DrawPlaces.l0] at h
  | k + 1 => by
    have ih0 := spec_DrawPlaces.mono_l k
    · intro y0 y1 y2 y3 y4
      unfold spec_DrawPlaces.l0
      repeat' first
      | (with_reducible exact ih0 _ _ _ _ _)
      | (with_reducible exact spec_l01New.mono _ _)
      | (with_reducible exact LeO.refl _)
      | (with_reducible exact LeO.none _)
      | (with_reducible refine LeO.ite ?_ ?_)
      | (with_reducible refine LeO.bind ?_ (fun _ => ?_))
      | exact ih0 _ _ _ _ _
      | exact spec_l01New.mono _ _
      | exact LeO.none _
      | refine LeO.ite ?_ ?_
      | refine LeO.bind ?_ (fun _ => ?_)
theorem spec_DrawPlaces.mono : ∀ a0 k, LeO (spec_DrawPlaces.f k a0) (spec_DrawPlaces.f (k + 1) a0) := by
  intro a0 k
  have ih0 := spec_DrawPlaces.mono_l k
  unfold spec_DrawPlaces.f
  repeat' first
      | (with_reducible exact ih0 _ _ _ _ _)
      | (with_reducible exact spec_l01New.mono _ _)
      | (with_reducible exact LeO.refl _)
      | (with_reducible exact LeO.none _)
      | (with_reducible refine LeO.ite ?_ ?_)
      | (with_reducible refine LeO.bind ?_ (fun _ => ?_))
      | exact ih0 _ _ _ _ _
      | exact spec_l01New.mono _ _
      | exact LeO.none _
      | refine LeO.ite ?_ ?_
      | refine LeO.bind ?_ (fun _ => ?_)
set_option maxHeartbeats 8000000 in
set_option maxRecDepth 100000 in
theorem spec_DrawPlaces.calls (k : Nat) (A0 : Option Addr) (c0 : Nat) (l0 : List Int) (r : List Int) (w : World) (hr0 : Kd.C (Kd.int .u8) w A0 l0.length l0) (hc0 : l0.length ≤ c0) (h : spec_DrawPlaces.f k l0 = some r) :
    Calls Try.prog 27 #[.slice A0 l0.length c0] w fun e w' => ∃ v0_ : Value, e = .returned (v0_) ∧ Kd.R (Kd.int .i64) 3 w' w.heap.size (fun _ => True) v0_ r ∧ Below w.heap.size w w' := by
  have HR0 := aM hr0
  have HC0 := aM hc0
  clear hr0 hc0
  have HB := aM (Below.refl w.heap.size w)
  have H : ((spec_l01New.f k l0).bind fun bt199 => ((spec_l01Byte.f bt199.1 bt199.2.1 bt199.2.2).bind fun bt203 => (spec_DrawPlaces.l0 k (([] : List Int)) 0 bt199.1 bt203.2.1 bt203.2.2))) = some r := h
  clear h
  replace H := Option.bind_eq_some_iff.mp H
  obtain ⟨⟨t199, t200, t201⟩, A20, H⟩ := H
  replace H : ((spec_l01Byte.f t199 t200 t201).bind fun bt203 => (spec_DrawPlaces.l0 k (([] : List Int)) 0 t199 bt203.2.1 bt203.2.2)) = some r := H
  have A2 := aM A20
  clear A20
  replace H := Option.bind_eq_some_iff.mp H
  obtain ⟨⟨t203, t204, t205⟩, A30, H⟩ := H
  replace H : (spec_DrawPlaces.l0 k (([] : List Int)) 0 t199 t204 t205) = some r := H
  have A3 := aM A30
  clear A30
  obtain ⟨y206, hy206⟩ : ∃ y_ : List Int, y_ = (([] : List Int)) := ⟨_, rfl⟩
  replace H : (spec_DrawPlaces.l0 k y206 0 t199 t204 t205) = some r := by first | (rw [hy206]; with_reducible exact H) | (have H2_ := (Option.bind_some _ _).symm.trans H; rw [hy206]; with_reducible exact H2_) | (have H2_ := (Option.bind_some _ _).symm.trans H; with_reducible exact H2_) | with_reducible exact H | (rw [hy206]; exact H) | exact H
  have Ny206 := aM hy206
  clear hy206
  have H' := aM H
  clear H
  go_enter Try.func27, Try.ntmps27
  go_wp2_with (first | ((with_reducible refine gate_callee (f := 76) rfl ?_); refine goesL_ (some 7) rfl rfl Try.func76 (by kernel_rfl) rfl #[.slice A0 l0.length c0] rfl (by (try simp only [mT, mC, mN]); first | done | rfl | (simp only [lDr, lTk]; rfl)) ?_; (with_reducible refine (spec_l01New.calls k _ _ l0 t199 t200 t201 w _ ?side1 ?side2 ?side3 A2.out).mono ?_); (case side1 => repeat (first | (with_reducible first | exact HB.out | apply lA | apply lN | apply lD) | exact HB.out)); (case side2 => exact HR0.out); (case side3 => exact HC0.out); rintro e w4 ⟨g202, rfl, hi, hb, hb2⟩; refine ⟨_, rfl, ?_⟩; have n0_ := aM (hb); have n1_ := aM (hi); clear HB; have HB := n0_; have HI202 := n1_; clear n0_ n1_; (try clear hb); (try clear hb2); (try clear hk); (try clear hi)) | ((with_reducible refine gate_callee (f := 81) rfl ?_); refine goesL_ (some 9) rfl rfl Try.func81 (by kernel_rfl) rfl #[.pointer (some ⟨g202, 0, none⟩)] rfl (by (try simp only [mT, mC, mN]); first | done | rfl | (simp only [lDr, lTk]; rfl)) ?_; (with_reducible refine (spec_l01Byte.calls g202 t199 t200 t201 t203 t204 t205 w _ ?side1 ?side2 A3.out).mono ?_); (case side1 => repeat (first | (with_reducible first | exact HI202.out | apply IsS139.alloc | apply IsS139.drewN | apply IsS139.drew | apply IsS139.set_1 | apply IsS139.set_2) | exact HI202.out)); (case side2 => repeat (first | (with_reducible first | exact HB.out | apply lA | apply lN | apply lD | refine lS ?_ (IsS139.ge HI202.out)) | exact HB.out)); rintro e w5 ⟨rfl, hi, hb, hk⟩; refine ⟨_, rfl, ?_⟩; have n0_ := aM (hb); have n1_ := aM (hi); clear HB; clear HI202; have HB := n0_; have HI202 := n1_; clear n0_ n1_; (try clear hb); (try clear hb2); (try clear hk); (try clear hi)) | ((with_reducible refine gate_dst (N := 10) rfl ?_); refine Kd.R_lit (Kd.int .i64) _ 3 ?hg (N := 10) ?hd (xs := ([] : List Int)) (inner := []) (ok := fun _ => True) (okp := fun _ => True) ?hr ?hp (fun _ hk => hk) trivial (Below.refl _ _) (Nat.le_refl _) (by simp) ?_; (case hd => rfl); (case hg => rfl); (case hr => first | (go_simp; done) | (go_simp; rfl)); (case hp => exact (Reps.none _ _)); intro v207 w6 ho7 hb hg_ hnew_; clear hg_ hnew_; (first | rw [← Ny206.out] at ho7 | (simp only [Int.reduceToNat] at ho7; rw [← Ny206.out] at ho7)); have n0_ := aM (Kd.R_lower ho7 (below_size (by repeat (first | (with_reducible first | exact HB.out | apply lA | apply lN | apply lD | refine lS ?_ (IsS139.ge HI202.out)) | exact HB.out)))); have n1_ := aM (IsS139.below (by repeat (first | (with_reducible first | exact HI202.out | apply IsS139.alloc | apply IsS139.drewN | apply IsS139.drew | apply IsS139.set_1 | apply IsS139.set_2) | exact HI202.out)) hb); have n2_ := aM (below_step (by repeat (first | (with_reducible first | exact HB.out | apply lA | apply lN | apply lD | refine lS ?_ (IsS139.ge HI202.out)) | exact HB.out)) hb); clear HI202; clear HB; have HO208 := n0_; have HI202 := n1_; have HB := n2_; clear n0_ n1_ n2_; clear hb ho7))
  go_loopg [4, 5] k (fun kq v4 v5 w' => ∃ (x4_1 : List Int) (x5_1 : Int) (x203001_1 : Int) (x203002_1 : Int), v5 = .int .i64 x5_1 ∧ Aside0 (spec_DrawPlaces.l0 kq x4_1 x5_1 t199 x203001_1 x203002_1 = some r) ∧ Aside0 (kq ≤ k) ∧ Aside0 (Kd.R (Kd.int .i64) 3 w' w.heap.size (fun _ => True) v4 x4_1) ∧ Aside0 (IsS139 w w' g202 t199 x203001_1 x203002_1) ∧ Aside0 (Below w.heap.size w w'))
  case atStart => exact ⟨(y206), (0), (t204), (t205), (by first | rfl | (simp; done) | (simp [*]; done)), H', ⟨Nat.le_refl _⟩, ⟨by (with_reducible repeat first | apply rA | apply rN | apply rD); exact HO208.out⟩, ⟨by repeat (first | (with_reducible first | exact HI202.out | apply IsS139.alloc | apply IsS139.drewN | apply IsS139.drew | apply IsS139.set_1 | apply IsS139.set_2) | exact HI202.out)⟩, ⟨by repeat (first | (with_reducible first | exact HB.out | apply lA | apply lN | apply lD | refine lS ?_ (IsS139.ge HI202.out)) | exact HB.out)⟩⟩
  case round =>
    clear H'
    try clear c2
    try clear p2
    try clear c7
    obtain ⟨x4_1, x5_1, x203001_1, x203002_1, rfl, HA, HK1, HO_4, HI202, HB⟩ := hrel
    cases gk with
    | zero => exact absurd HA.out (by simp [spec_DrawPlaces.l0])
    | succ k1 =>
      have H := HA.out
      clear HA
      simp only [spec_DrawPlaces.l0] at H
      by_cases c8 : x5_1 < 12
      · rw [if_pos c8] at H
        have c8b0 : decide (x5_1 < 12) = true := decide_eq_true c8
        clear c8
        replace H := Option.bind_eq_some_iff.mp H
        obtain ⟨⟨t209, t210, t211⟩, A90, H⟩ := H
        replace H : (if x4_1.length < 17592186044416 then (spec_DrawPlaces.l0 k1 (x4_1 ++ [t209]) (wrap64 (x5_1 + 1)) t199 t210 t211) else (none)) = some r := H
        have A9 := aM A90
        clear A90
        by_cases c10 : x4_1.length < 17592186044416
        · rw [if_pos c10] at H
          have LMc10 := aM c10
          clear c10
          obtain ⟨y212, hy212⟩ : ∃ y_ : List Int, y_ = (x4_1 ++ [t209]) := ⟨_, rfl⟩
          replace H : (spec_DrawPlaces.l0 k1 y212 (wrap64 (x5_1 + 1)) t199 t210 t211) = some r := by first | (rw [hy212]; with_reducible exact H) | (have H2_ := (Option.bind_some _ _).symm.trans H; rw [hy212]; with_reducible exact H2_) | (have H2_ := (Option.bind_some _ _).symm.trans H; with_reducible exact H2_) | with_reducible exact H | (rw [hy212]; exact H) | exact H
          have Ny212 := aM hy212
          clear hy212
          have H' := aM H
          clear H
          go_wp2_with (first | ((with_reducible refine gate_callee (f := 77) rfl ?_); refine goesL_ (some 17) rfl rfl Try.func77 (by kernel_rfl) rfl #[.pointer (some ⟨g202, 0, none⟩), .int .i64 10000] rfl (by (try simp only [mT, mC, mN]); first | done | rfl | (simp only [lDr, lTk]; rfl)) ?_; (with_reducible refine (spec_l01Below.calls g202 t199 x203001_1 x203002_1 10000 t209 t210 t211 w _ ?side1 ?side2 A9.out).mono ?_); (case side1 => repeat (first | (with_reducible first | exact HI202.out | apply IsS139.alloc | apply IsS139.drewN | apply IsS139.drew | apply IsS139.set_1 | apply IsS139.set_2) | exact HI202.out)); (case side2 => repeat (first | (with_reducible first | exact HB.out | apply lA | apply lN | apply lD | refine lS ?_ (IsS139.ge HI202.out)) | exact HB.out)); rintro e w11 ⟨rfl, hi, hb, hk⟩; refine ⟨_, rfl, ?_⟩; have n0_ := aM (Kd.R_mono (Kd.R_keep (IsS139.apart (show IsS139 w _ g202 t199 x203001_1 x203002_1 from by repeat (first | (with_reducible first | exact HI202.out | apply IsS139.alloc | apply IsS139.drewN | apply IsS139.drew | apply IsS139.set_1 | apply IsS139.set_2) | exact HI202.out)) (by (with_reducible repeat first | apply rA | apply rN | apply rD); exact HO_4.out) (by decide)) hk (fun _ h => h.2)) (fun _ h => h.1)); have n1_ := aM (hb); have n2_ := aM (hi); clear HO_4; clear HB; clear HI202; have HO_4 := n0_; have HB := n1_; have HI202 := n2_; clear n0_ n1_ n2_; (try clear hb); (try clear hb2); (try clear hk); (try clear hi)) | ((with_reducible refine gate_builtin (b := .append) (xs := #[.tmp 15, .tmp 18]) rfl ?_); at_builtin; refine Kd.R_append (Kd.int .i64) (w0 := w) w.heap.size rfl (.tmp 15) (.tmp 18) 39 3 (.int .i64 0) 8 rfl Try.underlying39 info3 rfl (by decide) (by omega) u4 x4_1 t209 [.int .i64 t209] (fun _ => True) (fun _ => False) rfl rfl ?aP (fun _ hk => hk.elim) ?aF ?aO ?aB ?aS ?aL ?_; (case aP => exact rfl); (case aB => exact (by repeat (first | (with_reducible first | exact HB.out | apply lA | apply lN | apply lD | refine lS ?_ (IsS139.ge HI202.out)) | exact HB.out))); (case aF => exact (fun _ _ => trivial)); (case aO => exact (by (with_reducible repeat first | apply rA | apply rN | apply rD); exact HO_4.out)); (case aS => exact (below_size (by repeat (first | (with_reducible first | exact HB.out | apply lA | apply lN | apply lD | refine lS ?_ (IsS139.ge HI202.out)) | exact HB.out)))); (case aL => have := LMc10.out; omega); intro v213 w12 ho hb hg hat; rw [← Ny212.out] at ho; have n0_ := aM (IsS139.grown (by repeat (first | (with_reducible first | exact HI202.out | apply IsS139.alloc | apply IsS139.drewN | apply IsS139.drew | apply IsS139.set_1 | apply IsS139.set_2) | exact HI202.out)) hg (IsS139.own_ne HI202.out HO_4.out (by decide))); have n1_ := aM (hb); have n2_ := aM (ho); clear HI202; clear HB; clear HO_4; have HI202 := n0_; have HB := n1_; have HO214 := n2_; clear n0_ n1_ n2_; clear ho hb hg hat))
          go_roundg k1
          case measure => have := HK1.out; omega
          case rel => exact ⟨(y212), (wrap64 (x5_1 + 1)), (t210), (t211), (by first | rfl | (simp; done) | (simp [*]; done)), H', ⟨by have := HK1.out; omega⟩, ⟨by (with_reducible repeat first | apply rA | apply rN | apply rD); exact HO214.out⟩, ⟨by repeat (first | (with_reducible first | exact HI202.out | apply IsS139.alloc | apply IsS139.drewN | apply IsS139.drew | apply IsS139.set_1 | apply IsS139.set_2) | exact HI202.out)⟩, ⟨by repeat (first | (with_reducible first | exact HB.out | apply lA | apply lN | apply lD | refine lS ?_ (IsS139.ge HI202.out)) | exact HB.out)⟩⟩
        · rw [if_neg c10] at H
          exact absurd H (by simp)
      · rw [if_neg c8] at H
        have c8b0 : decide (x5_1 < 12) = false := decide_eq_false c8
        clear c8
        obtain rfl := Option.some.inj H
        go_wp2
        go_ret
        exact ⟨_, by first | rfl | (simp [errW_none, errW_some] <;> rfl) | (simp [*, errW_none, errW_some] <;> rfl), by (with_reducible repeat first | apply rA | apply rN | apply rD); exact HO_4.out, by repeat (first | (with_reducible first | exact HB.out | apply lA | apply lN | apply lD | refine lS ?_ (IsS139.ge HI202.out)) | exact HB.out)⟩

/-! ### impl_File: function 119 (given by the session) -/
def impl_File.f (l0 : List S45) : Option (List S45) := if l0.length ≤ 1099511627776 then some l0 else none
set_option maxHeartbeats 2000000 in
set_option maxRecDepth 100000 in
theorem impl_File.calls (A0 : Option Addr) (c0 : Nat) (l0 : List S45) (r : List S45) (w : World) (hr0 : Kd.C k45 w A0 l0.length l0) (hc0 : l0.length ≤ c0) (h : impl_File.f l0 = some r) :
    Calls Try.prog 119 #[.slice A0 l0.length c0] w fun e w' => ∃ v0_ : Value, e = .returned (v0_) ∧ Kd.R k45 45 w' w.heap.size (fun _ => True) v0_ r ∧ Below w.heap.size w w' := by
  unfold impl_File.f at h
  by_cases hs : l0.length ≤ 1099511627776
  case neg => rw [if_neg hs] at h; cases h
  rw [if_pos hs] at h
  obtain rfl := Option.some.inj h
  clear h
  have HR0 := Aside0.mk hr0
  clear hr0
  have HB := Aside0.mk (Below.refl w.heap.size w)
  cases A0 with
  | none =>
    have h0 : l0 = [] := by
      rcases Nat.eq_zero_or_pos l0.length with h0 | h0
      · exact List.eq_nil_of_length_eq_zero h0
      · obtain ⟨ad, h1, _⟩ := HR0.out.2.2 h0
        cases h1
    subst h0
    have hq := fun W => Lib.run_eql_slice_nil (P := Try.prog) W 28 45 none 0 c0 0 0 Try.underlying28
    go_enter Try.func119, Try.ntmps119
    go_wp2
    go_ret
    exact ⟨_, rfl, Kd.R_nil _ _ _ _ _, HB.out⟩
  | some ad =>
    have hq := fun W => Lib.run_eql_slice_nil (P := Try.prog) W 28 45 (some ad) l0.length c0 0 0 Try.underlying28
    go_enter Try.func119, Try.ntmps119
    go_wp2_with (first | ((with_reducible refine gate_dst (N := 5) rfl ?_); refine Kd.R_lit k45 _ 45 ?hg (N := 5) ?hd (xs := ([] : List S45)) (inner := []) (ok := fun _ => True) (okp := fun _ => True) ?hr ?hp (fun _ hk => hk) trivial (Below.refl _ _) (Nat.le_refl _) (by simp) ?_; (case hd => rfl); (case hg => rfl); (case hr => first | (go_simp; done) | (go_simp; rfl)); (case hp => exact (Reps.none _ _)); intro v5 w2 ho3 hb hg_ hnew_; clear hg_ hnew_; have n1_ := Aside0.mk (below_step (by repeat (first | (with_reducible first | exact HB.out | apply below_alloc | apply pw_below_drewN | apply below_drew1) | exact HB.out)) hb); clear HB; have HO := Aside0.mk ho3; have HB := n1_; clear n1_; clear hb ho3) | ((with_reducible refine gate_builtin (b := .append) (xs := #[.tmp 5, .tmp 6]) rfl ?_); at_builtin; refine Kd.R_append_rows k45 (w0 := w) w.heap.size rfl (.tmp 5) (.tmp 6) 28 45 _ _ rfl Try.underlying28 info45 rfl (by decide) (by omega) v5 [] l0 _ _ _ (fun _ => True) (fun _ => False) rfl rfl ?aO ?aR (fun _ _ h => h) (fun _ h => h.elim) (fun _ _ => trivial) HB.out (below_size HB.out) (by simp only [List.length_nil]; omega) ?_; (case aO => exact HO.out); (case aR => exact Kd.C_below HR0.out HB.out); intro v7 w6 ho hb hg hat; simp only [List.nil_append] at ho; have HO2 := Aside0.mk ho; have HB2 := Aside0.mk hb; clear ho hat hb hg))
    go_ret
    exact ⟨_, rfl, HO2.out, HB2.out⟩

/-! ### impl_copyDisk: function 82 -/
def impl_copyDisk.f (l0_0 : List (S45)) : Option ((List (S45))) := (impl_File.f l0_0).bind fun t217 => (some t217)
set_option maxHeartbeats 8000000 in
set_option maxRecDepth 100000 in
theorem impl_copyDisk.calls (A0_0 : Option Addr) (c0_0 : Nat) (l0_0 : List (S45)) (r : List (S45)) (w : World) (hr0_0 : Kd.C k45 w A0_0 l0_0.length l0_0) (hc0_0 : l0_0.length ≤ c0_0) (h : impl_copyDisk.f l0_0 = some r) :
    Calls Try.prog 82 #[.agg #[.slice A0_0 l0_0.length c0_0]] w fun e w' => ∃ v0_ : Value, e = .returned (.agg #[v0_]) ∧ Kd.R k45 45 w' w.heap.size (fun _ => True) v0_ r ∧ Below w.heap.size w w' := by
  have hu30 := Try.underlying30
  have HR0_0 := aM hr0_0
  have HC0_0 := aM hc0_0
  clear hr0_0 hc0_0
  have HB := aM (Below.refl w.heap.size w)
  have H : ((impl_File.f l0_0).bind fun t217 => (some t217)) = some r := h
  clear h
  replace H := Option.bind_eq_some_iff.mp H
  obtain ⟨t217, A20, H⟩ := H
  replace H : (some t217) = some r := H
  have A2 := aM A20
  clear A20
  obtain rfl := Option.some.inj H
  go_enter Try.func82, Try.ntmps82
  go_wp2_with (first | ((with_reducible refine gate_dst (N := 1) rfl ?_); refine box_event ?hg (N := 1) ?hd (cs := #[.slice A0_0 l0_0.length c0_0]) (t := 30) ?hr ?_; (case hd => rfl); (case hg => rfl); (case hr => first | (go_simp; done) | (go_simp; rfl)); intro gb215 hg w3 hbox hb; have n0_ := aM (below_step (by repeat (first | (with_reducible first | exact HB.out | apply lA | apply lN | apply lD) | exact HB.out)) hb); have n1_ := aM (hbox); have n2_ := aM ((by rw [hg]; exact (below_size (by repeat (first | (with_reducible first | exact HB.out | apply lA | apply lN | apply lD) | exact HB.out))) : w.heap.size ≤ gb215)); have n3_ := aM ((by rw [hg]; exact (below_size (by repeat (first | (with_reducible first | exact HB.out | apply lA | apply lN | apply lD) | exact HB.out))) : w.heap.size ≤ gb215)); clear HB; have HB := n0_; have BK215 := n1_; have GW215 := n2_; have GE215 := n3_; clear n0_ n1_ n2_ n3_; clear hb hbox hg) | ((with_reducible refine gate_dst (N := 2) rfl ?_); refine box_event ?hg (N := 2) ?hd (cs := #[.slice none 0 0]) (t := 30) ?hr ?_; (case hd => rfl); (case hg => rfl); (case hr => first | (go_simp; done) | (go_simp; rfl)); intro gb216 hg w4 hbox hb; have n0_ := aM (blk_below (g := gb215) (o := .cells #[.slice A0_0 l0_0.length c0_0] 30 (0, 0)) (by (with_reducible repeat first | apply bN | apply bD | apply bA); exact BK215.out) hb); have n1_ := aM (below_step (by repeat (first | (with_reducible first | exact HB.out | apply lA | apply lN | apply lD | refine lS ?_ GE215.out) | exact HB.out)) hb); have n2_ := aM (hbox); have n3_ := aM ((by rw [hg]; exact (below_size (by repeat (first | (with_reducible first | exact HB.out | apply lA | apply lN | apply lD | refine lS ?_ GE215.out) | exact HB.out))) : w.heap.size ≤ gb216)); have n4_ := aM ((by rw [hg]; exact (below_size (by repeat (first | (with_reducible first | exact HB.out | apply lA | apply lN | apply lD | refine lS ?_ GE215.out) | exact HB.out))) : w.heap.size ≤ gb216)); have n5_ := aM ((by rw [hg]; exact Nat.ne_of_lt (blk_lt (g := gb215) (o := .cells #[.slice A0_0 l0_0.length c0_0] 30 (0, 0)) (by (with_reducible repeat first | apply bN | apply bD | apply bA); exact BK215.out)) : gb215 ≠ gb216)); have n6_ := aM ((by rw [hg]; exact Nat.ne_of_gt (blk_lt (g := gb215) (o := .cells #[.slice A0_0 l0_0.length c0_0] 30 (0, 0)) (by (with_reducible repeat first | apply bN | apply bD | apply bA); exact BK215.out)) : gb216 ≠ gb215)); clear BK215; clear HB; have BK215 := n0_; have HB := n1_; have BK216 := n2_; have GW216 := n3_; have GE216 := n4_; have NB215_216 := n5_; have NB216_215 := n6_; clear n0_ n1_ n2_ n3_ n4_ n5_ n6_; clear hb hbox hg; have hnb5 := NB215_216.out; have hnc5 := NB216_215.out; have hcz6_0 : w4.cell? ⟨gb215, 0, none⟩ = some (.slice A0_0 l0_0.length c0_0) := (blk_cell BK215.out 0).trans rfl; have hfz6_0 := blk_frozen BK215.out 0) | ((with_reducible refine gate_callee (f := 119) rfl ?_); refine goesL_ (some 5) rfl rfl Try.func119 (by kernel_rfl) rfl #[.slice A0_0 l0_0.length c0_0] rfl (by (try simp only [mT, mC, mN]); first | done | rfl | (simp only [lDr, lTk]; rfl)) ?_; (with_reducible refine (impl_File.calls _ _ l0_0 t217 _ ?side1 ?side2 A2.out).mono ?_); (case side1 => repeat (first | exact (Kd.C_below HR0_0.out HB.out) | (with_reducible refine cA ?_ _) | (with_reducible refine cN ?_ _) | (with_reducible refine cD ?_))); (case side2 => exact HC0_0.out); rintro e w7 ⟨v218, rfl, ho0, hb⟩; refine ⟨_, rfl, ?_⟩; have n0_ := aM (Kd.R_lower ho0 (below_size (by repeat (first | (with_reducible first | exact HB.out | apply lA | apply lN | apply lD | refine lS ?_ GE215.out | refine lS ?_ GE216.out) | exact HB.out)))); have n1_ := aM (blk_below (g := gb215) (o := .cells #[.slice A0_0 l0_0.length c0_0] 30 (0, 0)) (by (with_reducible repeat first | apply bN | apply bD | apply bA); exact BK215.out) hb); have n2_ := aM (blk_below (g := gb216) (o := .cells #[.slice none 0 0] 30 (0, 0)) (by (with_reducible repeat first | apply bN | apply bD | apply bA); exact BK216.out) hb); have n3_ := aM (below_step (by repeat (first | (with_reducible first | exact HB.out | apply lA | apply lN | apply lD | refine lS ?_ GE215.out | refine lS ?_ GE216.out) | exact HB.out)) hb); clear BK215; clear BK216; clear HB; have HO219 := n0_; have BK215 := n1_; have BK216 := n2_; have HB := n3_; clear n0_ n1_ n2_ n3_; (try clear hb); (try clear hb2); (try clear hk); (try clear hi); (try clear ho0); obtain ⟨Ao8, co8, eo8⟩ := Kd.R_slice HO219.out; subst eo8; have hcz9_0 : w7.cell? ⟨gb216, 0, none⟩ = some (.slice none 0 0) := (blk_cell BK216.out 0).trans rfl; have hfz9_0 := blk_frozen BK216.out 0))
  refine bodyPost_ret (results_cell_row rfl _ _ gb216 30 #[.slice Ao8 t217.length co8] (0, 0) _ rfl (by (with_reducible repeat first | apply bN | apply bD | apply bA); refine blk_put (cs := #[.slice none 0 0]) ?_ 0 _ rfl; (with_reducible repeat first | apply bN | apply bD | apply bA); exact BK216.out) Try.underlying30 rfl (by kernel_rfl)) rfl ?_
  exact ⟨_, by first | rfl | (simp [errW_none, errW_some] <;> rfl) | (simp [*, errW_none, errW_some] <;> rfl), by (with_reducible repeat first | apply rA | apply rN | apply rD); exact Kd.R_mono (Kd.R_far (p := ⟨gb216, 0, none⟩) (Kd.R_types HO219.out BK216.out (by decide)) (fun _ hk => hk.2) (.slice Ao8 t217.length co8)) (fun _ hk => trivial), by repeat (first | (with_reducible first | exact HB.out | apply lA | apply lN | apply lD | refine lS ?_ GE215.out | refine lS ?_ GE216.out) | exact HB.out)⟩

/-! ### impl_Disk_lose: function 83 (given by the session) -/
/-- what is left of a text -/
def impl_Disk_lose.lz (l1 : List Int) (i : Nat) (x : S45) : Int :=
  if (if i < l1.length then (if (0 : Int) < (if (x.f1.size : Int) < l1.getD i 0 then (x.f1.size : Int) else l1.getD i 0) then (if (x.f1.size : Int) < l1.getD i 0 then (x.f1.size : Int) else l1.getD i 0) else 0) else 0) < x.f2 then x.f2 else (if i < l1.length then (if (0 : Int) < (if (x.f1.size : Int) < l1.getD i 0 then (x.f1.size : Int) else l1.getD i 0) then (if (x.f1.size : Int) < l1.getD i 0 then (x.f1.size : Int) else l1.getD i 0) else 0) else 0)
def impl_Disk_lose.lx (l1 : List Int) (i : Nat) (x : S45) : S45 := ⟨x.f0, x.f1.extract 0 (impl_Disk_lose.lz l1 i x).toNat, impl_Disk_lose.lz l1 i x⟩
def impl_Disk_lose.lostTo (l1 : List Int) (l : List S45) : Nat → List S45
  | 0 => l
  | n + 1 => (impl_Disk_lose.lostTo l1 l n).set n (impl_Disk_lose.lx l1 n (l.getD n z45))
theorem impl_Disk_lose.lostTo_length (l1 : List Int) (l : List S45) (n : Nat) : (impl_Disk_lose.lostTo l1 l n).length = l.length := by
  induction n with
  | zero => rfl
  | succ n ih => rw [impl_Disk_lose.lostTo, List.length_set, ih]
theorem impl_Disk_lose.lostTo_ge (l1 : List Int) (l : List S45) (n j : Nat) (h : n ≤ j) : (impl_Disk_lose.lostTo l1 l n).getD j z45 = l.getD j z45 := by
  induction n with
  | zero => rfl
  | succ n ih =>
    rw [impl_Disk_lose.lostTo, List.getD_eq_getElem?_getD, List.getElem?_set_ne (by omega), ← List.getD_eq_getElem?_getD, ih (by omega)]
theorem impl_Disk_lose.lz_range (l1 : List Int) (i : Nat) (x : S45) (h0 : 0 ≤ x.f2) (h1 : x.f2 ≤ x.f1.size) : 0 ≤ impl_Disk_lose.lz l1 i x ∧ impl_Disk_lose.lz l1 i x ≤ x.f1.size := by
  unfold impl_Disk_lose.lz
  repeat' split
  all_goals omega
theorem impl_Disk_lose.gtrans {a b c : World} {row : Option Nat} (h1 : a.grownBy b row) (h2 : b.grownBy c row) : a.grownBy c row := ⟨h2.os.trans h1.os, h2.tape.trans h1.tape, h2.output.trans h1.output, Nat.le_trans h1.size h2.size, fun k hk hr => (h2.block k (by have := h1.size; omega) hr).trans (h1.block k hk hr)⟩
theorem impl_Disk_lose.lose_step (l1 : List Int) (l : List S45) (i g c gb base : Nat) (w wr : World) (hi : i < l.length) (n0 t : ByteArray) (kk : Int) (hx : (⟨n0, t, kk⟩ : S45) = l.getD i z45) (HR : Kd.R k45 45 wr base (fun _ => True) (.slice (some ⟨g, 0, none⟩) l.length c) (impl_Disk_lose.lostTo l1 l i))
    (BK : wr.heap[gb]? = some (.cells #[.slice (some ⟨g, 0, none⟩) l.length c] 30 (0, 0))) (HB : Below base w wr) (n : Int) (hn : n = impl_Disk_lose.lz l1 i ⟨n0, t, kk⟩) (t' : ByteArray) (ht : t' = t.extract 0 n.toNat) :
    Kd.R k45 45 ((wr.setCell ⟨g, i * 3 + 1, none⟩ (.string t')).setCell ⟨g, i * 3 + 2, none⟩ (.int .i64 n)) base (fun _ => True) (.slice (some ⟨g, 0, none⟩) l.length c) (impl_Disk_lose.lostTo l1 l (i + 1)) ∧
    ((wr.setCell ⟨g, i * 3 + 1, none⟩ (.string t')).setCell ⟨g, i * 3 + 2, none⟩ (.int .i64 n)).heap[gb]? = some (.cells #[.slice (some ⟨g, 0, none⟩) l.length c] 30 (0, 0)) ∧ wr.grownBy ((wr.setCell ⟨g, i * 3 + 1, none⟩ (.string t')).setCell ⟨g, i * 3 + 2, none⟩ (.int .i64 n)) (some g) ∧
    Below base w ((wr.setCell ⟨g, i * 3 + 1, none⟩ (.string t')).setCell ⟨g, i * 3 + 2, none⟩ (.int .i64 n)) := by
  have hlen := impl_Disk_lose.lostTo_length l1 l i
  obtain ⟨cs, hcl, hM, hcc, hfr⟩ := Kd.R_elem HR z45 (i : Int) (by omega) (by omega)
  rw [Int.toNat_natCast, impl_Disk_lose.lostTo_ge _ _ _ _ (Nat.le_refl _), ← hx] at hM
  obtain rfl := k45_openM hM
  have hs := Kd.R_seg HR (i : Int) (by omega) (by omega) (c := [.string n0, .string t, .int .i64 kk]) (seg := [.string t', .int .i64 n]) (j := 1) hcl hcc (Nat.le_refl 3) (x' := impl_Disk_lose.lx l1 i ⟨n0, t, kk⟩) (okp := fun _ => False)
    (by
      have h1 := k45_mkM wr base (fun _ => False) (impl_Disk_lose.lx l1 i ⟨n0, t, kk⟩)
      have e : (⟨n0, t', n⟩ : S45) = impl_Disk_lose.lx l1 i ⟨n0, t, kk⟩ := by rw [impl_Disk_lose.lx, ← hn, ht]
      rw [← e] at h1 ⊢
      exact h1) (fun _ h => h.elim)
  have hbase : base ≤ g := Kd.R_base HR g (by simp [Value.ownBlock])
  have hne : some gb ≠ (Value.slice (some ⟨g, 0, none⟩) l.length c).ownBlock := Kd.R_ne HR BK (by decide)
  obtain ⟨h1, h2⟩ := hs
  rw [Int.toNat_natCast] at h1 h2
  refine ⟨?_, ?_, h2, ?_⟩
  · have e : impl_Disk_lose.lostTo l1 l (i + 1) = (impl_Disk_lose.lostTo l1 l i).set i (impl_Disk_lose.lx l1 i ⟨n0, t, kk⟩) := by rw [impl_Disk_lose.lostTo, hx]
    rw [e]
    exact h1
  · refine Eq.trans ?_ BK
    have hgb : gb ≠ g := fun he => hne (by rw [he]; simp [Value.ownBlock])
    exact (Below.heap_setCell _ _ _ _ hgb).trans (Below.heap_setCell _ _ _ _ hgb)
  · exact (HB.setCell hbase _).setCell hbase _
set_option maxHeartbeats 4000000 in
set_option maxRecDepth 100000 in
theorem impl_Disk_lose.calls (gb : Nat) (v : Value) (l : List S45) (A1 : Option Addr) (c1 : Nat) (l1 : List Int) (base : Nat) (w : World) (hR : Kd.R k45 45 w base (fun _ => True) v l) (hb : w.heap[gb]? = some (.cells #[v] 30 (0, 0))) (hr1 : ∀ w', Below base w w' → Kd.C (Kd.int .i64) w' A1 l1.length l1) (hc1 : l1.length ≤ c1) (hk : ∀ x ∈ l, 0 ≤ x.f2 ∧ x.f2 ≤ (x.f1.size : Int)) (hl : l.length ≤ 1099511627776) :
    Calls Try.prog 83 #[.pointer (some ⟨gb, 0, none⟩), .slice A1 l1.length c1] w fun e w' => e = .returned (.tuple #[]) ∧ w'.heap[gb]? = some (.cells #[v] 30 (0, 0)) ∧ Kd.R k45 45 w' base (fun _ => True) v (impl_Disk_lose.lostTo l1 l l.length) ∧ w.grownBy w' v.ownBlock ∧ Below base w w' := by
  have HB := Aside0.mk (Below.refl base w)
  obtain ⟨A, c, rfl⟩ := Kd.R_slice hR
  have HR := Aside0.mk hR
  have HR1 := Aside0.mk hr1
  have HC1 := Aside0.mk hc1
  have HK := Aside0.mk hk
  clear hR hr1 hc1 hk
  have BK := Aside0.mk hb
  have hcz0 : w.cell? ⟨gb, 0, none⟩ = some (.slice A l.length c) := (blk_cell hb 0).trans rfl
  clear hb
  go_enter Try.func83, Try.ntmps83
  go_wp2
  go_loopw [12] (fun v12 wr => ∃ i : Nat, i ≤ l.length ∧ v12 = .int .i64 (i : Int) ∧ Aside0 (Kd.R k45 45 wr base (fun _ => True) (.slice A l.length c) (impl_Disk_lose.lostTo l1 l i)) ∧ Aside0 (wr.heap[gb]? = some (.cells #[.slice A l.length c] 30 (0, 0))) ∧ Aside0 (w.grownBy wr (Value.slice A l.length c).ownBlock) ∧ Aside0 (Below base w wr)) (fun v12 _ => l.length - (intOf v12).toNat)
  case atStart => exact ⟨0, Nat.zero_le _, rfl, HR, BK, ⟨World.grownBy.refl _ _⟩, HB⟩
  case round =>
    clear HR BK HB hcz0
    obtain ⟨i, hi, rfl, HR, BK, HG, HB⟩ := hrel
    by_cases hlt : i < l.length
    · have hcz0 : wr.cell? ⟨gb, 0, none⟩ = some (.slice A l.length c) := (blk_cell BK.out 0).trans rfl
      obtain ⟨g, rfl⟩ : ∃ g, A = some ⟨g, 0, none⟩ := by
        obtain ⟨n', _, hC⟩ := Kd.R_reads' HR.out
        obtain ⟨ad, h1, _⟩ := hC.2.2 (by omega)
        subst h1
        obtain ⟨g, rfl⟩ := Kd.R_head HR.out
        exact ⟨g, rfl⟩
      obtain ⟨cs, hcl, hM, hcc, hfr⟩ := Kd.R_elem HR.out z45 (i : Int) (by omega) (by omega)
      rw [Int.toNat_natCast, impl_Disk_lose.lostTo_ge _ _ _ _ (Nat.le_refl _)] at hM
      obtain rfl := k45_openM hM
      obtain ⟨⟨n0, t, kk⟩, hx⟩ : ∃ x, x = l.getD i z45 := ⟨_, rfl⟩
      have hkx := HK.out ⟨n0, t, kk⟩ (by rw [hx, List.getD_eq_getElem?_getD, List.getElem?_eq_getElem hlt]; exact List.getElem_mem _)
      rw [← hx] at hM hcc hcl
      simp only [Int.toNat_natCast] at hcc hfr
      have hc0 : wr.cell? ⟨g, i * 3, none⟩ = _ := hcc 0 _ rfl
      have hc1 : wr.cell? ⟨g, i * 3 + 1, none⟩ = _ := hcc 1 _ rfl
      have hc2 : wr.cell? ⟨g, i * 3 + 2, none⟩ = _ := hcc 2 _ rfl
      have hf1 : wr.frozen? ⟨g, i * 3 + 1, none⟩ = false := hfr 1
      have hf2 : wr.frozen? ⟨g, i * 3 + 2, none⟩ = false := hfr 2
      clear hcc hfr
      have HX := Aside0.mk hx
      clear hx hM hcl
      obtain ⟨hk0, hk1⟩ := hkx
      dsimp only at hk0 hk1 hc0 hc1 hc2
      have hts : (0 : Int) ≤ (t.size : Int) := by omega
      by_cases hin : i < l1.length
      · have HZ : Aside0 (impl_Disk_lose.lz l1 i ⟨n0, t, kk⟩ = if (if 0 < (if (t.size : Int) < rd l1 (i : Int) then (t.size : Int) else rd l1 (i : Int)) then (if (t.size : Int) < rd l1 (i : Int) then (t.size : Int) else rd l1 (i : Int)) else 0) < kk then kk else (if 0 < (if (t.size : Int) < rd l1 (i : Int) then (t.size : Int) else rd l1 (i : Int)) then (if (t.size : Int) < rd l1 (i : Int) then (t.size : Int) else rd l1 (i : Int)) else 0)) := ⟨by simp [impl_Disk_lose.lz, hin, rd]⟩
        obtain ⟨ad, rfl, hq⟩ := Kd.at_int (HR1.out wr HB.out) (i : Int) (by omega) (by omega)
        have hl1 : (l1.length : Int) ≤ 9223372036854775807 := by have := (HR1.out wr HB.out).2.1; omega
        simp only [Int.toNat_natCast] at hq
        generalize rd l1 (i : Int) = q at hq HZ
        go_wp2
        go_quiet (fail)
        have hm : 0 ≤ (if 0 < (if (t.size : Int) < q then (t.size : Int) else q) then (if (t.size : Int) < q then (t.size : Int) else q) else 0) ∧ (if 0 < (if (t.size : Int) < q then (t.size : Int) else q) then (if (t.size : Int) < q then (t.size : Int) else q) else 0) ≤ (t.size : Int) := by
          repeat' split
          all_goals omega
        generalize (if 0 < (if (t.size : Int) < q then (t.size : Int) else q) then (if (t.size : Int) < q then (t.size : Int) else q) else 0) = m at hm HZ ⊢
        obtain ⟨hm0, hm1⟩ := hm
        have BK2 : (wr.drewN nq).heap[gb]? = some (.cells #[.slice (some ⟨g, 0, none⟩) l.length c] 30 (0, 0)) := blk_drewN BK.out nq
        have HR2 := Kd.R_drewN HR.out nq
        have HB2 : Below base w (wr.drewN nq) := pw_below_drewN HB.out nq
        go_wp2
        obtain ⟨h1, h2, hg, h3⟩ := impl_Disk_lose.lose_step l1 l i g c gb base w (wr.drewN nq) hlt n0 t kk HX.out HR2 BK2 HB2 _ HZ.out.symm _ rfl
        exact ⟨⟨i + 1, by omega, rfl, ⟨h1⟩, ⟨h2⟩, ⟨impl_Disk_lose.gtrans HG.out ⟨hg.os, hg.tape, hg.output, hg.size, fun k hk hr => hg.block k hk (by simpa [Value.ownBlock] using hr)⟩⟩, ⟨h3⟩⟩, by simp [intOf]; omega⟩
      · have HZ : Aside0 (impl_Disk_lose.lz l1 i ⟨n0, t, kk⟩ = if 0 < kk then kk else 0) := ⟨by simp [impl_Disk_lose.lz, hin]⟩
        go_wp2
        obtain ⟨h1, h2, hg, h3⟩ := impl_Disk_lose.lose_step l1 l i g c gb base w wr hlt n0 t kk HX.out HR.out BK.out HB.out _ HZ.out.symm _ rfl
        exact ⟨⟨i + 1, by omega, rfl, ⟨h1⟩, ⟨h2⟩, ⟨impl_Disk_lose.gtrans HG.out ⟨hg.os, hg.tape, hg.output, hg.size, fun k hk hr => hg.block k hk (by simpa [Value.ownBlock] using hr)⟩⟩, ⟨h3⟩⟩, by simp [intOf]; omega⟩
    · obtain rfl : i = l.length := by omega
      go_wp2
      go_end0
      exact ⟨rfl, BK.out, HR.out, HG.out, HB.out⟩

/-! ### impl_LoseDisk: function 28 (given by the session) -/
def impl_LoseDisk.f (k : Nat) (l0_0 : List S45) (l1 : List Int) : Option (List S45 × Bool) :=
  (impl_DiskOk.f k l0_0).bind fun t => if t = true then (if l0_0.length ≤ 1099511627776 ∧ ∀ x ∈ l0_0, 0 ≤ x.f2 ∧ x.f2 ≤ (x.f1.size : Int) then some (impl_Disk_lose.lostTo l1 l0_0 l0_0.length, true) else none) else some ([], false)
theorem impl_LoseDisk.mono : ∀ a0 a1 k, LeO (impl_LoseDisk.f k a0 a1) (impl_LoseDisk.f (k + 1) a0 a1) := by
  intro a0 a1 k
  unfold impl_LoseDisk.f
  exact LeO.bind (impl_DiskOk.mono _ _) (fun _ => LeO.refl _)
set_option maxHeartbeats 4000000 in
set_option maxRecDepth 100000 in
theorem impl_LoseDisk.calls (k : Nat) (A0_0 : Option Addr) (c0_0 : Nat) (l0_0 : List S45) (A1 : Option Addr) (c1 : Nat) (l1 : List Int) (r1 : List S45) (r2 : Bool) (w : World) (hr0_0 : Kd.C k45 w A0_0 l0_0.length l0_0) (hc0_0 : l0_0.length ≤ c0_0) (hr1 : Kd.C (Kd.int .i64) w A1 l1.length l1) (hc1 : l1.length ≤ c1) (h : impl_LoseDisk.f k l0_0 l1 = some (r1, r2)) :
    Calls Try.prog 28 #[.agg #[.slice A0_0 l0_0.length c0_0], .slice A1 l1.length c1] w fun e w' => ∃ v0_ : Value, e = .returned (.tuple #[.agg #[v0_], .bool r2]) ∧ Kd.R k45 45 w' w.heap.size (fun _ => True) v0_ r1 ∧ Below w.heap.size w w' := by
  have HR0 := Aside0.mk hr0_0
  have HC0 := Aside0.mk hc0_0
  have HR1 := Aside0.mk hr1
  have HC1 := Aside0.mk hc1
  clear hr0_0 hc0_0 hr1 hc1
  obtain ⟨t, A, H⟩ := Option.bind_eq_some_iff.mp h
  clear h
  have HA := Aside0.mk A
  clear A
  cases t with
  | false =>
    obtain ⟨rfl, rfl⟩ : [] = r1 ∧ false = r2 := by simpa using H
    go_enter Try.func28, Try.ntmps28
    go_wp2_with (first | ((with_reducible refine gate_dst (N := 2) rfl ?_); refine box_event ?hg (N := 2) ?hd (cs := #[.slice A0_0 l0_0.length c0_0]) (t := 30) ?hr ?_; (case hd => rfl); (case hg => rfl); (case hr => first | (go_simp; done) | (go_simp; rfl)); intro gb hg_ w_gb hbox_ hb_; have H1 := Aside0.mk hb_; have B1 := Aside0.mk hbox_; have GB1 := Aside0.mk hg_; clear hb_ hbox_ hg_) | ((with_reducible refine gate_dst (N := 4) rfl ?_); refine box_event ?hg (N := 4) ?hd (cs := #[.slice none 0 0]) (t := 30) ?hr ?_; (case hd => rfl); (case hg => rfl); (case hr => first | (go_simp; done) | (go_simp; rfl)); intro gr hg_ w_gr hbox_ hb_; have H2 := Aside0.mk hb_; have B2 := Aside0.mk hbox_; have GB2 := Aside0.mk hg_; clear hb_ hbox_ hg_; have B1' := Aside0.mk (blk_below B1.out H2.out); have hcz1 : w_gr.cell? ⟨gb, 0, none⟩ = some (.slice A0_0 l0_0.length c0_0) := (blk_cell B1'.out 0).trans rfl; have HB2 := Aside0.mk (below_step H1.out H2.out); have hczr : w_gr.cell? ⟨gr, 0, none⟩ = some (.slice none 0 0) := (blk_cell B2.out 0).trans rfl; have hfzr := blk_frozen B2.out 0) | (go_at_call 21; refine (impl_DiskOk.calls k _ _ l0_0 _ _ (Kd.C_below HR0.out HB2.out) HC0.out HA.out).mono ?_; rintro e w5 ⟨rfl, hb_⟩; have H3 := Aside0.mk hb_; have HB3 := Aside0.mk (below_step HB2.out hb_); have B1'' := Aside0.mk (blk_below B1'.out hb_); have B2' := Aside0.mk (blk_below B2.out hb_); have hcz2 : w5.cell? ⟨gb, 0, none⟩ = some (.slice A0_0 l0_0.length c0_0) := (blk_cell B1''.out 0).trans rfl; have hczs : w5.cell? ⟨gr, 0, none⟩ = some (.slice none 0 0) := (blk_cell B2'.out 0).trans rfl; have hfzs := blk_frozen B2'.out 0; clear hb_))
    refine bodyPost_ret (results_ct rfl _ _ gr 30 #[.slice none 0 0] (0, 0) _ rfl (blk_put (cs := #[.slice none 0 0]) B2'.out 0 _ rfl) Try.underlying30 rfl (by kernel_rfl)) rfl ?_
    exact ⟨_, rfl, Kd.R_nil _ _ _ _ _, HB3.out.setCell (by have h2 := GB2.out; have h1 := H1.out.size; show w.heap.size ≤ gr; omega) _⟩
  | true =>
    rw [if_pos rfl] at H
    by_cases hc : l0_0.length ≤ 1099511627776 ∧ ∀ x ∈ l0_0, 0 ≤ x.f2 ∧ x.f2 ≤ (x.f1.size : Int)
    case neg => rw [if_neg hc] at H; cases H
    rw [if_pos hc] at H
    obtain ⟨rfl, rfl⟩ : impl_Disk_lose.lostTo l1 l0_0 l0_0.length = r1 ∧ true = r2 := by simpa using H
    clear H
    have HC := Aside0.mk hc
    clear hc
    have HF : Aside0 (impl_copyDisk.f l0_0 = some l0_0) := ⟨by simp [impl_copyDisk.f, impl_File.f, HC.out.1]⟩
    go_enter Try.func28, Try.ntmps28
    go_wp2_with (first | ((with_reducible refine gate_dst (N := 2) rfl ?_); refine box_event ?hg (N := 2) ?hd (cs := #[.slice A0_0 l0_0.length c0_0]) (t := 30) ?hr ?_; (case hd => rfl); (case hg => rfl); (case hr => first | (go_simp; done) | (go_simp; rfl)); intro gb hg_ w_gb hbox_ hb_; have H1 := Aside0.mk hb_; have B1 := Aside0.mk hbox_; have GB1 := Aside0.mk hg_; clear hb_ hbox_ hg_) | ((with_reducible refine gate_dst (N := 4) rfl ?_); refine box_event ?hg (N := 4) ?hd (cs := #[.slice none 0 0]) (t := 30) ?hr ?_; (case hd => rfl); (case hg => rfl); (case hr => first | (go_simp; done) | (go_simp; rfl)); intro gr hg_ w_gr hbox_ hb_; have H2 := Aside0.mk hb_; have B2 := Aside0.mk hbox_; have GB2 := Aside0.mk hg_; clear hb_ hbox_ hg_; have B1' := Aside0.mk (blk_below B1.out H2.out); have hcz1 : w_gr.cell? ⟨gb, 0, none⟩ = some (.slice A0_0 l0_0.length c0_0) := (blk_cell B1'.out 0).trans rfl; have HB2 := Aside0.mk (below_step H1.out H2.out); have hczr : w_gr.cell? ⟨gr, 0, none⟩ = some (.slice none 0 0) := (blk_cell B2.out 0).trans rfl; have hfzr := blk_frozen B2.out 0) | (go_at_call 21; refine (impl_DiskOk.calls k _ _ l0_0 _ _ (Kd.C_below HR0.out HB2.out) HC0.out HA.out).mono ?_; rintro e w5 ⟨rfl, hb_⟩; have H3 := Aside0.mk hb_; have HB3 := Aside0.mk (below_step HB2.out hb_); have B1'' := Aside0.mk (blk_below B1'.out hb_); have B2' := Aside0.mk (blk_below B2.out hb_); have hcz2 : w5.cell? ⟨gb, 0, none⟩ = some (.slice A0_0 l0_0.length c0_0) := (blk_cell B1''.out 0).trans rfl; have hczs : w5.cell? ⟨gr, 0, none⟩ = some (.slice none 0 0) := (blk_cell B2'.out 0).trans rfl; have hfzs := blk_frozen B2'.out 0; clear hb_) | (go_at_call 82; refine (impl_copyDisk.calls _ _ l0_0 l0_0 _ (Kd.C_below HR0.out HB3.out) HC0.out HF.out).mono ?_; rintro e w6 ⟨v1, rfl, ho_, hb_⟩; have HO := Aside0.mk (Kd.R_lower ho_ (below_size HB3.out)); have H4 := Aside0.mk hb_; have HB4 := Aside0.mk (below_step HB3.out hb_); have B2'' := Aside0.mk (blk_below B2'.out hb_); clear ho_ hb_; obtain ⟨Ao, co, eo⟩ := Kd.R_slice HO.out; subst eo) | ((with_reducible refine gate_dst (N := 6) rfl ?_); refine box_event ?hg (N := 6) ?hd (cs := #[.slice none 0 0]) (t := 30) ?hr ?_; (case hd => rfl); (case hg => rfl); (case hr => first | (go_simp; done) | (go_simp; rfl)); intro go hg_ w_go hbox_ hb_; have H5 := Aside0.mk hb_; have B3 := Aside0.mk hbox_; have GB3 := Aside0.mk hg_; clear hb_ hbox_ hg_; have B2t := Aside0.mk (blk_below B2''.out H5.out); have HB5 := Aside0.mk (below_step HB4.out H5.out); have hczo : w_go.cell? ⟨go, 0, none⟩ = some (.slice none 0 0) := (blk_cell B3.out 0).trans rfl; have hfzo := blk_frozen B3.out 0))
    have hgo : w.heap.size ≤ go := by have h1 := GB3.out; have h2 := below_size HB4.out; omega
    have hgr : w.heap.size ≤ gr := by have h2 := GB2.out; have h1 := H1.out.size; omega
    have HBW := Aside0.mk (HB5.out.setCell (p := ⟨go, 0, none⟩) hgo (.slice Ao l0_0.length co))
    have HO5 := Aside0.mk (Kd.R_below HO.out H5.out)
    have HOW := Aside0.mk (Kd.R_mono (Kd.R_far (p := ⟨go, 0, none⟩) (Kd.R_types HO5.out B3.out (by decide)) (fun _ hk => hk.2) (.slice Ao l0_0.length co)) (fun _ hk => trivial) : Kd.R k45 45 _ w.heap.size (fun _ => True) (.slice Ao l0_0.length co) l0_0)
    have HNr := Aside0.mk (Kd.R_ne HO5.out B2t.out (by decide))
    have hne : gr ≠ go := by have h1 := GB3.out; have h2 := blk_lt B2''.out; omega
    have BrW := Aside0.mk ((Below.heap_setCell w_go ⟨go, 0, none⟩ (.slice Ao l0_0.length co) gr hne).trans B2t.out)
    go_at_call 83
    refine (impl_Disk_lose.calls go (.slice Ao l0_0.length co) l0_0 A1 c1 l1 w.heap.size _ HOW.out (blk_put (cs := #[.slice none 0 0]) B3.out 0 _ rfl) (fun w' hb => Kd.C_below HR1.out (HBW.out.trans hb)) HC1.out HC.out.2 HC.out.1).mono ?_
    rintro e w8 ⟨rfl, hbx, hR8, hG8, hB8⟩
    have HB8 := Aside0.mk (HBW.out.trans hB8)
    have HR8 := Aside0.mk hR8
    have Br8 := Aside0.mk ((hG8.block gr (blk_lt BrW.out) HNr.out).trans BrW.out)
    have hczv : w8.cell? ⟨go, 0, none⟩ = some (.slice Ao l0_0.length co) := (blk_cell hbx 0).trans rfl
    have hczw : w8.cell? ⟨gr, 0, none⟩ = some (.slice none 0 0) := (blk_cell Br8.out 0).trans rfl
    have hfzw := blk_frozen Br8.out 0
    clear hbx hR8 hG8 hB8
    go_wp2
    refine bodyPost_ret (results_ct rfl _ _ gr 30 #[.slice Ao l0_0.length co] (0, 0) _ rfl (blk_put (cs := #[.slice none 0 0]) Br8.out 0 _ rfl) Try.underlying30 rfl (by kernel_rfl)) rfl ?_
    exact ⟨_, rfl, Kd.R_mono (Kd.R_far (p := ⟨gr, 0, none⟩) (Kd.R_types HR8.out Br8.out (by decide)) (fun _ hk => hk.2) (.slice Ao l0_0.length co)) (fun _ hk => trivial), HB8.out.setCell hgr _⟩

end Go.Proofs.Ytidfhfaekdahpaa.QFnKeeps
