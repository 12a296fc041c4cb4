-- Own work (wip/turnprint.py over the kit's print).
import Derived.Test.YthomiofokkkhgaaDoorQFnExactParseCronx0
import Derived.Test.YthomiofokkkhgaaDoorQFnExactParseCronx1
import Derived.Test.YthomiofokkkhgaaDoorQFnExactParseCronx2
namespace Go.Proofs.YthomiofokkkhgaaDoor.QFnExactParseCron
open Go.RowKit Go.Proofs.YthomiofokkkhgaaDoorW.PrintWords Go.Proofs.YthomiofokkkhgaaDoorW.PrintLast Go.Proofs.YthomiofokkkhgaaDoorW.PrintMore
attribute [local go_sem] max2_int min2_int max_two min_two max_three min_three max_four min_four   -- for this text's walks alone
set_option linter.unusedVariables false
set_option linter.unusedSimpArgs false

/-! ### spec_l10Field: function 45 -/
mutual
def spec_l10Field.l0 : Nat → Int → Int → List Bool → List ByteArray → Int → Option (List Int × Bool)
 | 0, _, _, _, _, _ => none
 | k + 1, x1, x2, x8, x9, x10 => if x10 < (x9.length : Int) then (if 0 ≤ x10 then ((spec_l10Piece.f k (rdOf ByteArray.empty x9 x10) x1 x2).bind fun bt149 => (if bt149.2.2.2 = true then (spec_l10Field.l1 k x1 x2 x8 x9 x10 bt149.2.1 bt149.2.2.1 bt149.1) else (some ((([] : List Int)), false)))) else (none)) else (spec_l10Field.l2 k x2 x8 (([] : List Int)) x1)
def spec_l10Field.l1 : Nat → Int → Int → List Bool → List ByteArray → Int → Int → Int → Int → Option (List Int × Bool)
 | 0, _, _, _, _, _, _, _, _ => none
 | k + 1, x1, x2, x8, x9, x10, x12, x13, x15 => if x15 ≤ x12 then (if 0 ≤ x15 then (if x15 < (x8.length : Int) then (spec_l10Field.l1 k x1 x2 (x8.set (x15 : Int).toNat true) x9 x10 x12 x13 (wrap64 (x15 + x13))) else (none)) else (none)) else (spec_l10Field.l0 k x1 x2 x8 x9 (wrap64 (x10 + 1)))
def spec_l10Field.l2 : Nat → Int → List Bool → List Int → Int → Option (List Int × Bool)
 | 0, _, _, _, _ => none
 | k + 1, x2, x8, x16, x17 => if x17 ≤ x2 then (if 0 ≤ x17 then (if x17 < (x8.length : Int) then (if rdOf false x8 x17 = true then (if x16.length < 17592186044416 then (spec_l10Field.l2 k x2 x8 (x16 ++ [x17]) (wrap64 (x17 + 1))) else (none)) else (spec_l10Field.l2 k x2 x8 x16 (wrap64 (x17 + 1)))) else (none)) else (none)) else (some (x16, true))
end
def spec_l10Field.f (k : Nat) (a0 : ByteArray) (a1 : Int) (a2 : Int) : Option (List Int × Bool) := if 0 ≤ (wrap64 (a2 + 1)) then (if (wrap64 (a2 + 1) : Int).toNat ≤ 281474976710656 then ((spec_l10Split.f k a0 44).bind fun t145 => (spec_l10Field.l0 k a1 a2 (List.replicate (wrap64 (a2 + 1) : Int).toNat false) t145 0)) else (none)) else (none)
theorem spec_l10Field.mono_l : ∀ k, (∀ y0 y1 y2 y3 y4, LeO (spec_l10Field.l0 k y0 y1 y2 y3 y4) (spec_l10Field.l0 (k + 1) y0 y1 y2 y3 y4)) ∧ (∀ y0 y1 y2 y3 y4 y5 y6 y7, LeO (spec_l10Field.l1 k y0 y1 y2 y3 y4 y5 y6 y7) (spec_l10Field.l1 (k + 1) y0 y1 y2 y3 y4 y5 y6 y7)) ∧ (∀ y0 y1 y2 y3, LeO (spec_l10Field.l2 k y0 y1 y2 y3) (spec_l10Field.l2 (k + 1) y0 y1 y2 y3))
 | 0 => ⟨fun _ _ _ _ _ r h => by simp [spec_l10Field.l0] at h, fun _ _ _ _ _ _ _ _ r h => by simp [spec_l10Field.l1] at h, fun _ _ _ _ r h => by simp [spec_l10Field.l2] at h⟩
 | k + 1 => by
  obtain ⟨ih0, ih1, ih2⟩ := spec_l10Field.mono_l k
  refine ⟨?_, ?_, ?_⟩
  ·intro y0 y1 y2 y3 y4
   unfold spec_l10Field.l0
   repeat' first
   | (with_reducible exact ih0 _ _ _ _ _)
   | (with_reducible exact ih1 _ _ _ _ _ _ _ _)
   | (with_reducible exact ih2 _ _ _ _)
   | (with_reducible exact spec_l10Piece.mono _ _ _ _)
   | (with_reducible exact spec_l10Split.mono _ _ _)
   | (with_reducible exact LeO.refl _)
   | (with_reducible exact LeO.none _)
   | (with_reducible refine LeO.ite ?_ ?_)
   | (with_reducible refine LeO.bind ?_ (fun _ => ?_))
   | exact ih0 _ _ _ _ _
   | exact ih1 _ _ _ _ _ _ _ _
   | exact ih2 _ _ _ _
   | exact spec_l10Piece.mono _ _ _ _
   | exact spec_l10Split.mono _ _ _
   | exact LeO.none _
   | refine LeO.ite ?_ ?_
   | refine LeO.bind ?_ (fun _ => ?_)
  ·intro y0 y1 y2 y3 y4 y5 y6 y7
   unfold spec_l10Field.l1
   repeat' first
   | (with_reducible exact ih0 _ _ _ _ _)
   | (with_reducible exact ih1 _ _ _ _ _ _ _ _)
   | (with_reducible exact ih2 _ _ _ _)
   | (with_reducible exact spec_l10Piece.mono _ _ _ _)
   | (with_reducible exact spec_l10Split.mono _ _ _)
   | (with_reducible exact LeO.refl _)
   | (with_reducible exact LeO.none _)
   | (with_reducible refine LeO.ite ?_ ?_)
   | (with_reducible refine LeO.bind ?_ (fun _ => ?_))
   | exact ih0 _ _ _ _ _
   | exact ih1 _ _ _ _ _ _ _ _
   | exact ih2 _ _ _ _
   | exact spec_l10Piece.mono _ _ _ _
   | exact spec_l10Split.mono _ _ _
   | exact LeO.none _
   | refine LeO.ite ?_ ?_
   | refine LeO.bind ?_ (fun _ => ?_)
  ·intro y0 y1 y2 y3
   unfold spec_l10Field.l2
   repeat' first
   | (with_reducible exact ih0 _ _ _ _ _)
   | (with_reducible exact ih1 _ _ _ _ _ _ _ _)
   | (with_reducible exact ih2 _ _ _ _)
   | (with_reducible exact spec_l10Piece.mono _ _ _ _)
   | (with_reducible exact spec_l10Split.mono _ _ _)
   | (with_reducible exact LeO.refl _)
   | (with_reducible exact LeO.none _)
   | (with_reducible refine LeO.ite ?_ ?_)
   | (with_reducible refine LeO.bind ?_ (fun _ => ?_))
   | exact ih0 _ _ _ _ _
   | exact ih1 _ _ _ _ _ _ _ _
   | exact ih2 _ _ _ _
   | exact spec_l10Piece.mono _ _ _ _
   | exact spec_l10Split.mono _ _ _
   | exact LeO.none _
   | refine LeO.ite ?_ ?_
   | refine LeO.bind ?_ (fun _ => ?_)
theorem spec_l10Field.mono : ∀ a0 a1 a2 k, LeO (spec_l10Field.f k a0 a1 a2) (spec_l10Field.f (k + 1) a0 a1 a2) := by
 intro a0 a1 a2 k
 obtain ⟨ih0, ih1, ih2⟩ := spec_l10Field.mono_l k
 unfold spec_l10Field.f
 repeat' first
  | (with_reducible exact ih0 _ _ _ _ _)
  | (with_reducible exact ih1 _ _ _ _ _ _ _ _)
  | (with_reducible exact ih2 _ _ _ _)
  | (with_reducible exact spec_l10Piece.mono _ _ _ _)
  | (with_reducible exact spec_l10Split.mono _ _ _)
  | (with_reducible exact LeO.refl _)
  | (with_reducible exact LeO.none _)
  | (with_reducible refine LeO.ite ?_ ?_)
  | (with_reducible refine LeO.bind ?_ (fun _ => ?_))
  | exact ih0 _ _ _ _ _
  | exact ih1 _ _ _ _ _ _ _ _
  | exact ih2 _ _ _ _
  | exact spec_l10Piece.mono _ _ _ _
  | exact spec_l10Split.mono _ _ _
  | exact LeO.none _
  | refine LeO.ite ?_ ?_
  | refine LeO.bind ?_ (fun _ => ?_)
set_option maxHeartbeats 8000000 in
set_option maxRecDepth 100000 in
theorem spec_l10Field.calls (k : Nat) (a0 : ByteArray) (a1 : Int) (a2 : Int) (r1 : List Int) (r2 : Bool) (w : World) (h : spec_l10Field.f k a0 a1 a2 = some (r1, r2)) :
 Calls Tryd.prog 45 #[.string a0, .int .i64 a1, .int .i64 a2] w fun e w' => ∃ v0_ : Value, e = .returned (.tuple #[v0_, .bool r2]) ∧ Kd.R (Kd.int .i64) 3 w' w.heap.size (fun _ => True) v0_ r1 ∧ Below w.heap.size w w' := by
 have HB := aM (Below.refl w.heap.size w)
 have H : (if 0 ≤ (wrap64 (a2 + 1)) then (if (wrap64 (a2 + 1) : Int).toNat ≤ 281474976710656 then ((spec_l10Split.f k a0 44).bind fun t145 => (spec_l10Field.l0 k a1 a2 (List.replicate (wrap64 (a2 + 1) : Int).toNat false) t145 0)) else (none)) else (none)) = some (r1, r2) := h
 clear h
 obtain ⟨ji4, hji4⟩ : ∃ j_ : Int, (wrap64 (a2 + 1)) = j_ := ⟨_, rfl⟩
 replace H : (if 0 ≤ (ji4) then (if (ji4 : Int).toNat ≤ 281474976710656 then ((spec_l10Split.f k a0 44).bind fun t145 => (spec_l10Field.l0 k a1 a2 (List.replicate (ji4 : Int).toNat false) t145 0)) else (none)) else (none)) = some (r1, r2) := by first | (rw [hji4] at H; exact H) | (simp only [hji4] at H ⊢; exact H)
 have hji4w : (IntKind.i64.wrap (a2 + 1)) = ji4 := (i64_w _).trans hji4
 by_cases c5 : 0 ≤ (ji4)
 ·rw [if_pos c5] at H
  have c5b0 := eq_true c5
  have c5b1 : decide (0 ≤ (ji4)) = true := decide_eq_true c5
  clear c5
  by_cases c6 : (ji4 : Int).toNat ≤ 281474976710656
  ·rw [if_pos c6] at H
   have c6b0 := eq_true c6
   have c6b1 : decide ((ji4 : Int).toNat ≤ 281474976710656) = true := decide_eq_true c6
   clear c6
   obtain ⟨y142, hy142⟩ : ∃ y_ : List Bool, y_ = (List.replicate (ji4 : Int).toNat false) := ⟨_, rfl⟩
   replace H : ((spec_l10Split.f k a0 44).bind fun t145 => (spec_l10Field.l0 k a1 a2 y142 t145 0)) = some (r1, r2) := by first | (rw [hy142]; with_reducible exact H) | (have H2_ := (Option.bind_some _ _).symm.trans H; rw [hy142]; with_reducible exact H2_) | (have H2_ := (Option.bind_some _ _).symm.trans H; with_reducible exact H2_) | with_reducible exact H | (rw [hy142]; exact H) | exact H
   have Ny142 := aM hy142
   clear hy142
   replace H := Option.bind_eq_some_iff.mp H
   obtain ⟨t145, A70, H⟩ := H
   replace H : (spec_l10Field.l0 k a1 a2 y142 t145 0) = some (r1, r2) := H
   have A7 := aM A70
   clear A70
   have H' := aM H
   clear H
   go_enter Tryd.func45, Tryd.ntmps45
   go_wp2_with (first | ((with_reducible refine gate_dst (N := 20) rfl ?_); refine Kd.R_make Kd.bool _ 4 rfl (N := 20) rfl 81 _ _ rfl ji4 rfl rfl Tryd.underlying81 (.bool false) 1 info4 rfl (by decide) (by omega) false (ok := fun _ => True) (okp := fun _ => True) rfl (fun _ hk => hk) trivial (of_decide_eq_true (by first | (with_reducible assumption) | assumption)) (Nat.le_trans (Nat.mul_le_mul_right _ (of_decide_eq_true (by first | (with_reducible assumption) | assumption) : ji4.toNat ≤ 281474976710656)) (by omega)) (Below.refl _ _) (Nat.le_refl _) ?_; intro v143 w8 ho9 hb hg_ hnew_; clear hg_ hnew_; (first | rw [← Ny142.out] at ho9 | (simp only [Int.reduceToNat] at ho9; rw [← Ny142.out] at ho9)); have HO144 := aM (Kd.R_lower ho9 (below_size (uL HB))); replace HB := aM (below_step (uL HB) hb); clear hb ho9) | ((with_reducible refine gate_callee (f := 74) rfl ?_); refine gL (some 22) Tryd.func74 #[.string a0, .int .u8 44] ?_; (with_reducible refine (spec_l10Split.calls k a0 44 t145 _ A7.out).mono ?_); rintro e w10 ⟨v146, rfl, ho0, hb⟩; refine ⟨_, rfl, ?_⟩; have HO147 := aM (Kd.R_lower ho0 (below_size (uL HB))); replace HO144 := aM (Kd.R_below (uR HO144) hb); replace HB := aM (below_step (uL HB) hb); try clear hb ho0))
   go_loopg [10] k (fun kq v10 w' => ∃ (x8_1 : List Bool) (x10_1 : Int), v10 = .int .i64 x10_1 ∧ Aside0 (spec_l10Field.l0 kq a1 a2 x8_1 t145 x10_1 = some (r1, r2)) ∧ Aside0 (kq ≤ k) ∧ Aside0 (Kd.R Kd.bool 4 w' w.heap.size (fun _ => True) v143 x8_1) ∧ Aside0 (Kd.R Kd.string 9 w' w.heap.size (fun _ => True) v146 t145) ∧ Aside0 (Below w.heap.size w w'))
   case atStart => exact ⟨(y142), (0), (by first | rfl | (simp; done) | (simp [*]; done)), H', ⟨Nat.le_refl _⟩, ⟨by (with_reducible repeat first | apply rA | apply rN | apply rD); exact HO144.out⟩, ⟨by (with_reducible repeat first | apply rA | apply rN | apply rD); exact HO147.out⟩, ⟨uL HB⟩⟩
   case round =>
    clear H'
    try clear p2; try clear c4; try clear c5; try clear c5b0; try clear c5b1; try clear c6; try clear c6b0; try clear c6b1; try clear p6; try clear c7
    obtain ⟨x8_1, x10_1, rfl, HA, HK1, HO_8, HO_9, HB⟩ := hrel
    cases gk with
    | zero => exact absurd HA.out (by simp [spec_l10Field.l0])
    | succ k1 =>
     have H := HA.out
     clear HA
     simp only [spec_l10Field.l0] at H
     by_cases c11 : x10_1 < (t145.length : Int)
     ·rw [if_pos c11] at H
      have c11b0 : decide (x10_1 < (t145.length : Int)) = true := decide_eq_true c11
      clear c11
      by_cases c12 : 0 ≤ x10_1
      ·rw [if_pos c12] at H
       have c12b0 : decide (0 ≤ x10_1) = true := decide_eq_true c12
       clear c12
       replace H := Option.bind_eq_some_iff.mp H
       obtain ⟨⟨t149, t150, t151, t152⟩, A130, H⟩ := H
       replace H : (if t152 = true then (spec_l10Field.l1 k1 a1 a2 x8_1 t145 x10_1 t150 t151 t149) else (some ((([] : List Int)), false))) = some (r1, r2) := H
       have A13 := aM A130
       clear A130
       by_cases c14 : t152 = true
       ·subst c14
        have H1 : (spec_l10Field.l1 k1 a1 a2 x8_1 t145 x10_1 t150 t151 t149) = some (r1, r2) := by rw [if_pos rfl] at H; exact H
        clear H; have H := H1; clear H1
        have H' := aM H
        clear H
        obtain ⟨Ao15, co15, eo15⟩ := Kd.R_slice HO_9.out
        subst eo15
        have p148 : 0 ≤ (x10_1 : Int) := of_decide_eq_true (by first | (with_reducible assumption) | assumption)
        have q148 : x10_1 < (t145.length : Int) := of_decide_eq_true (by first | (with_reducible assumption) | assumption)
        obtain ⟨ad148, e148, hx148_0⟩ := Kd.at_string (Kd.R_reads' HO_9.out).2.2 x10_1 p148 q148
        cases e148
        replace p148 := eq_true p148; replace q148 := eq_true q148
        go_wp2_with (first | ((with_reducible refine gate_callee (f := 75) rfl ?_); refine gL (some 36) Tryd.func75 #[.string (rdOf ByteArray.empty t145 x10_1), .int .i64 a1, .int .i64 a2] ?_; (with_reducible refine (spec_l10Piece.calls k1 (rdOf ByteArray.empty t145 x10_1) a1 a2 t149 t150 t151 true _ A13.out).mono ?_); rintro e w16 ⟨rfl, hb⟩; refine ⟨_, rfl, ?_⟩; replace HO_8 := aM (Kd.R_below (uR HO_8) hb); replace HO_9 := aM (Kd.R_below (uR HO_9) hb); replace HB := aM (below_step (uL HB) hb); try clear hb))
        go_loopg [15] k1 (fun kq v15 w' => ∃ (x8_2 : List Bool) (x15_2 : Int), v15 = .int .i64 x15_2 ∧ Aside0 (spec_l10Field.l1 kq a1 a2 x8_2 t145 x10_1 t150 t151 x15_2 = some (r1, r2)) ∧ Aside0 (kq ≤ k1) ∧ Aside0 (Kd.R Kd.bool 4 w' w.heap.size (fun _ => True) v143 x8_2) ∧ Aside0 (Kd.R Kd.string 9 w' w.heap.size (fun _ => True) (.slice (some ad148) t145.length co15) t145) ∧ Aside0 (Below w.heap.size w w'))
        case atStart => exact ⟨(x8_1), (t149), (by first | rfl | (simp; done) | (simp [*]; done)), H', ⟨Nat.le_refl _⟩, ⟨by (with_reducible repeat first | apply rA | apply rN | apply rD); exact HO_8.out⟩, ⟨by (with_reducible repeat first | apply rA | apply rN | apply rD); exact HO_9.out⟩, ⟨uL HB⟩⟩
        case round =>
         clear H'
         try clear c1; try clear p1; try clear q1; try clear hx1; try clear p2; try clear c4; try clear c5; try clear c5b0; try clear c5b1; try clear c6; try clear c6b0; try clear c6b1; try clear p6; try clear c7; try clear c11; try clear c11b0; try clear c12; try clear c12b0; try clear c14; try clear p14; try clear q14; try clear hx14; try clear hx148_0; try clear p148; try clear p2; try clear p6; try clear q148
         obtain ⟨x8_2, x15_2, rfl, HA, HK2, HO_8, HO_9, HB⟩ := hrel
         cases gk with
         | zero => exact absurd HA.out (by simp [spec_l10Field.l1])
         | succ k2 =>
          have H := HA.out
          clear HA
          simp only [spec_l10Field.l1] at H
          by_cases c17 : x15_2 ≤ t150
          ·rw [if_pos c17] at H
           have c17b0 : decide (x15_2 ≤ t150) = true := decide_eq_true c17
           clear c17
           by_cases c18 : 0 ≤ x15_2
           ·rw [if_pos c18] at H
            have c18b0 : decide (0 ≤ x15_2) = true := decide_eq_true c18
            clear c18
            by_cases c19 : x15_2 < (x8_2.length : Int)
            ·rw [if_pos c19] at H
             have c19b0 : decide (x15_2 < (x8_2.length : Int)) = true := decide_eq_true c19
             clear c19
             obtain ⟨y156, hy156⟩ : ∃ y_ : List Bool, y_ = (x8_2.set (x15_2 : Int).toNat true) := ⟨_, rfl⟩
             replace H : (spec_l10Field.l1 k2 a1 a2 y156 t145 x10_1 t150 t151 (wrap64 (x15_2 + t151))) = some (r1, r2) := by first | (rw [hy156]; with_reducible exact H) | (have H2_ := (Option.bind_some _ _).symm.trans H; rw [hy156]; with_reducible exact H2_) | (have H2_ := (Option.bind_some _ _).symm.trans H; with_reducible exact H2_) | with_reducible exact H | (rw [hy156]; exact H) | exact H
             have Ny156 := aM hy156
             clear hy156
             have H' := aM H
             clear H
             have p20 : 0 ≤ (x15_2 : Int) := of_decide_eq_true (by first | (with_reducible assumption) | assumption)
             have q20 : (x15_2 : Int) < ((x8_2.length : Int) : Int) := of_decide_eq_true (by first | (with_reducible assumption) | assumption)
             obtain ⟨go20, co20, eo20, gb20, gl20, cl20, HG20⟩ := Kd.R_form HO_8.out (by omega)
             (first | cases eo20 | (injection eo20 with ea_ en_ ec_; (first | subst ea_ | (injection ea_ with ea_; subst ea_)); subst ec_; clear en_))
             have GB20 := aM gb20
             have GG20 := aM HG20
             clear gb20 gl20 HG20
             obtain ⟨hx20_0, hf20_0⟩ := Kd.R_celln false HO_8.out (x15_2 : Int) p20 q20
             replace p20 := eq_true p20; replace q20 := eq_true q20
             have HP21 := Kd.R_putg HO_8.out (x15_2 : Int) true
             go_wp2_with (first | ((with_reducible refine gate_store (t := 4) (p := 53) rfl ?_); refine store_event (t := 4) (p := 53) (v := ?vo_w22) (w1 := (wr.setCell ⟨go20, (x15_2 : Int).toNat, none⟩ (.bool true))) ?hg ?ho ?hn ?hr ?_; (case ho => rfl); (case hg => rfl); (case hn => rfl); (case hr => first | (go_simp; done) | (go_simp; rfl)); intro w22 hw; have hg : wr.grownBy w22 (some go20) := (by rw [hw]; exact HP21.2); have hp_ : Kd.R Kd.bool 4 w22 w.heap.size (fun _ => True) (.slice (some ⟨go20, 0, none⟩) x8_2.length co20) y156 := (by rw [hw, Ny156.out]; exact HP21.1); clear HP21; replace HO_9 := aM (Kd.R_over' (v := (.slice (some ⟨go20, 0, none⟩) x8_2.length co20)) (uR HO_9) (Kd.R_typed HO_8.out) (by decide) hg); replace HO_8 := aM (hp_); replace HB := aM ((by rw [hw]; exact below_set (HB.out) GB20.out : Below w.heap.size w w22)); clear hg hw hp_))
             go_roundg k2
             case measure => have := HK1.out; have := HK2.out; omega
             case rel => exact ⟨(y156), (wrap64 (x15_2 + t151)), (by first | rfl | (simp; done) | (simp [*]; done)), H', ⟨by have := HK1.out; have := HK2.out; omega⟩, ⟨by (with_reducible repeat first | apply rA | apply rN | apply rD); exact HO_8.out⟩, ⟨by (with_reducible repeat first | apply rA | apply rN | apply rD); exact HO_9.out⟩, ⟨uL HB⟩⟩
            ·rw [if_neg c19] at H
             exact absurd H (by simp)
           ·rw [if_neg c18] at H
            exact absurd H (by simp)
          ·rw [if_neg c17] at H
           have c17b0 : decide (x15_2 ≤ t150) = false := decide_eq_false c17
           clear c17
           have H' := aM H
           clear H
           go_wp2
           go_roundg k2
           case measure => have := HK1.out; have := HK2.out; omega
           case rel => exact ⟨(x8_2), (wrap64 (x10_1 + 1)), (by first | rfl | (simp; done) | (simp [*]; done)), H', ⟨by have := HK1.out; have := HK2.out; omega⟩, ⟨by (with_reducible repeat first | apply rA | apply rN | apply rD); exact HO_8.out⟩, ⟨by (with_reducible repeat first | apply rA | apply rN | apply rD); exact HO_9.out⟩, ⟨uL HB⟩⟩
       ·replace c14 := Bool.eq_false_iff.mpr c14
        subst c14
        have H1 : (some ((([] : List Int)), false)) = some (r1, r2) := by rw [if_neg (show ¬ (false = true) by decide)] at H; exact H
        clear H; have H := H1; clear H1
        obtain ⟨y153, hy153⟩ : ∃ y_ : List Int, y_ = (([] : List Int)) := ⟨_, rfl⟩
        replace H : (some (y153, false)) = some (r1, r2) := by first | (rw [hy153]; with_reducible exact H) | (have H2_ := (Option.bind_some _ _).symm.trans H; rw [hy153]; with_reducible exact H2_) | (have H2_ := (Option.bind_some _ _).symm.trans H; with_reducible exact H2_) | with_reducible exact H | (rw [hy153]; exact H) | exact H
        have Ny153 := aM hy153
        clear hy153
        simp only [Option.some.injEq, Prod.mk.injEq] at H
        obtain ⟨rfl, rfl⟩ := H
        obtain ⟨Ao23, co23, eo23⟩ := Kd.R_slice HO_9.out
        subst eo23
        have p148 : 0 ≤ (x10_1 : Int) := of_decide_eq_true (by first | (with_reducible assumption) | assumption)
        have q148 : x10_1 < (t145.length : Int) := of_decide_eq_true (by first | (with_reducible assumption) | assumption)
        obtain ⟨ad148, e148, hx148_0⟩ := Kd.at_string (Kd.R_reads' HO_9.out).2.2 x10_1 p148 q148
        cases e148
        replace p148 := eq_true p148; replace q148 := eq_true q148
        go_wp2_with (first | ((with_reducible refine gate_callee (f := 75) rfl ?_); refine gL (some 36) Tryd.func75 #[.string (rdOf ByteArray.empty t145 x10_1), .int .i64 a1, .int .i64 a2] ?_; (with_reducible refine (spec_l10Piece.calls k1 (rdOf ByteArray.empty t145 x10_1) a1 a2 t149 t150 t151 false _ A13.out).mono ?_); rintro e w24 ⟨rfl, hb⟩; refine ⟨_, rfl, ?_⟩; replace HO_8 := aM (Kd.R_below (uR HO_8) hb); replace HO_9 := aM (Kd.R_below (uR HO_9) hb); replace HB := aM (below_step (uL HB) hb); try clear hb) | ((with_reducible refine gate_dst (N := 43) rfl ?_); refine Kd.R_lit (Kd.int .i64) _ 3 ?hg (N := 43) ?hd (xs := ([] : List Int)) (inner := []) (ok := fun _ => True) (okp := fun _ => True) ?hr ?hp (fun _ hk => hk) trivial (Below.refl _ _) (Nat.le_refl _) (by simp) ?_; (case hd => rfl); (case hg => rfl); (case hr => first | (go_simp; done) | (go_simp; rfl)); (case hp => exact (Reps.none _ _)); intro v154 w25 ho26 hb hg_ hnew_; clear hg_ hnew_; (first | rw [← Ny153.out] at ho26 | (simp only [Int.reduceToNat] at ho26; rw [← Ny153.out] at ho26)); have HO155 := aM (Kd.R_lower ho26 (below_size (uL HB))); replace HO_8 := aM (Kd.R_below (uR HO_8) hb); replace HO_9 := aM (Kd.R_below (uR HO_9) hb); replace HB := aM (below_step (uL HB) hb); clear hb ho26))
        go_ret2
        exact ⟨_, by first | rfl | (simp [errW_none, errW_some] <;> rfl) | (simp only [← hji4]; first | rfl | (simp [errW_none, errW_some] <;> rfl)) | (simp [*, errW_none, errW_some] <;> rfl), by (with_reducible repeat first | apply rA | apply rN | apply rD); exact HO155.out, uL HB⟩
      ·rw [if_neg c12] at H
       exact absurd H (by simp)
     ·rw [if_neg c11] at H
      have c11b0 : decide (x10_1 < (t145.length : Int)) = false := decide_eq_false c11
      clear c11
      obtain ⟨y157, hy157⟩ : ∃ y_ : List Int, y_ = (([] : List Int)) := ⟨_, rfl⟩
      replace H : (spec_l10Field.l2 k1 a2 x8_1 y157 a1) = some (r1, r2) := by first | (rw [hy157]; with_reducible exact H) | (have H2_ := (Option.bind_some _ _).symm.trans H; rw [hy157]; with_reducible exact H2_) | (have H2_ := (Option.bind_some _ _).symm.trans H; with_reducible exact H2_) | with_reducible exact H | (rw [hy157]; exact H) | exact H
      have Ny157 := aM hy157
      clear hy157
      have H' := aM H
      clear H
      obtain ⟨Ao27, co27, eo27⟩ := Kd.R_slice HO_9.out
      subst eo27
      go_wp2_with (first | ((with_reducible refine gate_dst (N := 54) rfl ?_); refine Kd.R_lit (Kd.int .i64) _ 3 ?hg (N := 54) ?hd (xs := ([] : List Int)) (inner := []) (ok := fun _ => True) (okp := fun _ => True) ?hr ?hp (fun _ hk => hk) trivial (Below.refl _ _) (Nat.le_refl _) (by simp) ?_; (case hd => rfl); (case hg => rfl); (case hr => first | (go_simp; done) | (go_simp; rfl)); (case hp => exact (Reps.none _ _)); intro v158 w28 ho29 hb hg_ hnew_; clear hg_ hnew_; (first | rw [← Ny157.out] at ho29 | (simp only [Int.reduceToNat] at ho29; rw [← Ny157.out] at ho29)); have HO159 := aM (Kd.R_lower ho29 (below_size (uL HB))); replace HO_8 := aM (Kd.R_below (uR HO_8) hb); replace HO_9 := aM (Kd.R_below (uR HO_9) hb); replace HB := aM (below_step (uL HB) hb); clear hb ho29))
      go_loopg [16, 17] k1 (fun kq v16 v17 w' => ∃ (x16_2 : List Int) (x17_2 : Int), v17 = .int .i64 x17_2 ∧ Aside0 (spec_l10Field.l2 kq a2 x8_1 x16_2 x17_2 = some (r1, r2)) ∧ Aside0 (kq ≤ k1) ∧ Aside0 (Kd.R Kd.bool 4 w' w.heap.size (fun _ => True) v143 x8_1) ∧ Aside0 (Kd.R (Kd.int .i64) 3 w' w.heap.size (fun _ => True) v16 x16_2) ∧ Aside0 (Below w.heap.size w w'))
      case atStart => exact ⟨(y157), (a1), (by first | rfl | (simp; done) | (simp [*]; done)), H', ⟨Nat.le_refl _⟩, ⟨by (with_reducible repeat first | apply rA | apply rN | apply rD); exact HO_8.out⟩, ⟨by (with_reducible repeat first | apply rA | apply rN | apply rD); exact HO159.out⟩, ⟨uL HB⟩⟩
      case round =>
       clear H'
       try clear c1; try clear p1; try clear q1; try clear hx1; try clear p2; try clear q2; try clear hx2; try clear c4; try clear c5; try clear c5b0; try clear c5b1; try clear c6; try clear c6b0; try clear c6b1; try clear p6; try clear c7; try clear c11; try clear c11b0; try clear c12; try clear c12b0; try clear c14; try clear p14; try clear q14; try clear hx14; try clear c17; try clear c17b0; try clear c18; try clear c18b0; try clear c19; try clear c19b0; try clear p20; try clear q20; try clear hx20; try clear hf20; try clear hx148_0; try clear hx20_0; try clear p1; try clear p14; try clear p148; try clear p2; try clear p20; try clear p6; try clear q1; try clear q14; try clear q148; try clear q20
       obtain ⟨x16_2, x17_2, rfl, HA, HK2, HO_8, HO_16, HB⟩ := hrel
       cases gk with
       | zero => exact absurd HA.out (by simp [spec_l10Field.l2])
       | succ k2 =>
        have H := HA.out
        clear HA
        simp only [spec_l10Field.l2] at H
        by_cases c30 : x17_2 ≤ a2
        ·rw [if_pos c30] at H
         have c30b0 : decide (x17_2 ≤ a2) = true := decide_eq_true c30
         clear c30
         by_cases c31 : 0 ≤ x17_2
         ·rw [if_pos c31] at H
          have c31b0 : decide (0 ≤ x17_2) = true := decide_eq_true c31
          clear c31
          by_cases c32 : x17_2 < (x8_1.length : Int)
          ·rw [if_pos c32] at H
           have c32b0 : decide (x17_2 < (x8_1.length : Int)) = true := decide_eq_true c32
           clear c32
           obtain ⟨bq33, hbq33⟩ : ∃ b_ : Bool, b_ = (rdOf false x8_1 x17_2) := ⟨_, rfl⟩
           replace H : (if bq33 = true then (if x16_2.length < 17592186044416 then (spec_l10Field.l2 k2 a2 x8_1 (x16_2 ++ [x17_2]) (wrap64 (x17_2 + 1))) else (none)) else (spec_l10Field.l2 k2 a2 x8_1 x16_2 (wrap64 (x17_2 + 1)))) = some (r1, r2) := by rw [← hbq33] at H; exact H
           have Nbq33 := aM hbq33
           clear hbq33
           by_cases c34 : bq33 = true
           ·subst c34
            have H1 : (if x16_2.length < 17592186044416 then (spec_l10Field.l2 k2 a2 x8_1 (x16_2 ++ [x17_2]) (wrap64 (x17_2 + 1))) else (none)) = some (r1, r2) := by rw [if_pos rfl] at H; exact H
            clear H; have H := H1; clear H1
            by_cases c35 : x16_2.length < 17592186044416
            ·rw [if_pos c35] at H
             have LMc35 := aM c35
             clear c35
             obtain ⟨y161, hy161⟩ : ∃ y_ : List Int, y_ = (x16_2 ++ [x17_2]) := ⟨_, rfl⟩
             replace H : (spec_l10Field.l2 k2 a2 x8_1 y161 (wrap64 (x17_2 + 1))) = some (r1, r2) := by first | (rw [hy161]; with_reducible exact H) | (have H2_ := (Option.bind_some _ _).symm.trans H; rw [hy161]; with_reducible exact H2_) | (have H2_ := (Option.bind_some _ _).symm.trans H; with_reducible exact H2_) | with_reducible exact H | (rw [hy161]; exact H) | exact H
             have Ny161 := aM hy161
             clear hy161
             have H' := aM H
             clear H
             obtain ⟨Ao36, co36, eo36⟩ := Kd.R_slice HO_8.out
             subst eo36
             have p160 : 0 ≤ (x17_2 : Int) := of_decide_eq_true (by first | (with_reducible assumption) | assumption)
             have q160 : x17_2 < (x8_1.length : Int) := of_decide_eq_true (by first | (with_reducible assumption) | assumption)
             obtain ⟨ad160, e160, hx160_0⟩ := Kd.at_bool (Kd.R_reads' HO_8.out).2.2 x17_2 p160 q160
             (try rw [← Nbq33.out] at hx160_0)
             cases e160
             replace p160 := eq_true p160; replace q160 := eq_true q160
             go_wp2_with (first | ((with_reducible refine gate_builtin (b := .append) (xs := #[.tmp 65, .tmp 67]) rfl ?_); at_builtin; refine Kd.R_append (Kd.int .i64) (w0 := w) w.heap.size rfl (.tmp 65) (.tmp 67) 25 3 (.int .i64 0) 8 rfl Tryd.underlying25 info3 rfl (by decide) (by omega) u16 x16_2 x17_2 [.int .i64 x17_2] (fun _ => True) (fun _ => False) rfl rfl ?aP (fun _ hk => hk.elim) ?aF ?aO ?aB ?aS ?aL ?_; (case aP => exact rfl); (case aB => exact (uL HB)); (case aF => exact (fun _ _ => trivial)); (case aO => exact (uR HO_16)); (case aS => exact (below_size (uL HB))); (case aL => have := LMc35.out; omega); intro v162 w37 ho hb hg hat; rw [← Ny161.out] at ho; have HO163 := aM (ho); replace HO_8 := aM (Kd.R_over' (uR HO_8) (Kd.R_typed (uR HO_16)) (by decide) hg); replace HB := aM (hb); clear HO_16; clear ho hb hg hat))
             go_roundg k2
             case measure => have := HK1.out; have := HK2.out; omega
             case rel => exact ⟨(y161), (wrap64 (x17_2 + 1)), (by first | rfl | (simp; done) | (simp [*]; done)), H', ⟨by have := HK1.out; have := HK2.out; omega⟩, ⟨by (with_reducible repeat first | apply rA | apply rN | apply rD); exact HO_8.out⟩, ⟨by (with_reducible repeat first | apply rA | apply rN | apply rD); exact HO163.out⟩, ⟨uL HB⟩⟩
            ·rw [if_neg c35] at H
             exact absurd H (by simp)
           ·replace c34 := Bool.eq_false_iff.mpr c34
            subst c34
            have H1 : (spec_l10Field.l2 k2 a2 x8_1 x16_2 (wrap64 (x17_2 + 1))) = some (r1, r2) := by rw [if_neg (show ¬ (false = true) by decide)] at H; exact H
            clear H; have H := H1; clear H1
            have H' := aM H
            clear H
            obtain ⟨Ao38, co38, eo38⟩ := Kd.R_slice HO_8.out
            subst eo38
            have p160 : 0 ≤ (x17_2 : Int) := of_decide_eq_true (by first | (with_reducible assumption) | assumption)
            have q160 : x17_2 < (x8_1.length : Int) := of_decide_eq_true (by first | (with_reducible assumption) | assumption)
            obtain ⟨ad160, e160, hx160_0⟩ := Kd.at_bool (Kd.R_reads' HO_8.out).2.2 x17_2 p160 q160
            (try rw [← Nbq33.out] at hx160_0)
            cases e160
            replace p160 := eq_true p160; replace q160 := eq_true q160
            go_wp2
            go_roundg k2
            case measure => have := HK1.out; have := HK2.out; omega
            case rel => exact ⟨(x16_2), (wrap64 (x17_2 + 1)), (by first | rfl | (simp; done) | (simp [*]; done)), H', ⟨by have := HK1.out; have := HK2.out; omega⟩, ⟨by (with_reducible repeat first | apply rA | apply rN | apply rD); exact HO_8.out⟩, ⟨by (with_reducible repeat first | apply rA | apply rN | apply rD); exact HO_16.out⟩, ⟨uL HB⟩⟩
          ·rw [if_neg c32] at H
           exact absurd H (by simp)
         ·rw [if_neg c31] at H
          exact absurd H (by simp)
        ·rw [if_neg c30] at H
         have c30b0 : decide (x17_2 ≤ a2) = false := decide_eq_false c30
         clear c30
         simp only [Option.some.injEq, Prod.mk.injEq] at H
         obtain ⟨rfl, rfl⟩ := H
         go_wp2
         go_ret2
         exact ⟨_, by first | rfl | (simp [errW_none, errW_some] <;> rfl) | (simp only [← hji4]; first | rfl | (simp [errW_none, errW_some] <;> rfl)) | (simp [*, errW_none, errW_some] <;> rfl), by (with_reducible repeat first | apply rA | apply rN | apply rD); exact HO_16.out, uL HB⟩
  ·rw [if_neg c6] at H
   exact absurd H (by simp)
 ·rw [if_neg c5] at H
  exact absurd H (by simp)

end Go.Proofs.YthomiofokkkhgaaDoor.QFnExactParseCron
