-- Own work (wip/turnprint.py over the kit's print).
import Derived.Test.YthomiofokkkhgaaDoorQFnExactParseCronx0
import Derived.Test.YthomiofokkkhgaaDoorQFnExactParseCronx4
import Derived.Test.YthomiofokkkhgaaDoorQFnExactParseCronx5
namespace Go.Proofs.YthomiofokkkhgaaDoor.QFnExactParseCron
open Go.RowKit Go.Proofs.YthomiofokkkhgaaDoorW.PrintWords Go.Proofs.YthomiofokkkhgaaDoorW.PrintLast Go.Proofs.YthomiofokkkhgaaDoorW.PrintMore
attribute [local go_sem] max2_int min2_int max_two min_two max_three min_three max_four min_four   -- for this text's walks alone
set_option linter.unusedVariables false
set_option linter.unusedSimpArgs false

/-! ### impl_pieceOf: function 78 -/
def impl_pieceOf.f (k : Nat) (a0 : ByteArray) (a1 : Int) (a2 : Int) : Option (Int × Int × Int × Bool) := if a0.toList = ([42] : List UInt8) then (some (a1, a2, 1, true)) else ((strings_CutPrefix.f a0 (⟨#[42, 47]⟩ : ByteArray)).bind fun bt215 => (if bt215.2 = true then ((impl_ReadDecimal.f k bt215.1).bind fun bt217 => (if bt217.2 = true then (some (a1, a2, bt217.1, decide (bt217.1 ≥ 1))) else (some (a1, a2, bt217.1, false)))) else ((strings_Cut.f a0 (⟨#[45]⟩ : ByteArray)).bind fun bt219 => ((impl_ReadDecimal.f k bt219.1).bind fun bt222 => (if bt219.2.2 = true then ((impl_ReadDecimal.f k bt219.2.1).bind fun bt224 => (if bt222.2 = true then (if bt224.2 = true then (if bt222.1 ≥ a1 then (if bt222.1 ≤ bt224.1 then (some (bt222.1, bt224.1, 1, decide (bt224.1 ≤ a2))) else (some (bt222.1, bt224.1, 1, false))) else (some (bt222.1, bt224.1, 1, false))) else (some (bt222.1, bt224.1, 1, false))) else (some (bt222.1, bt224.1, 1, false)))) else (if bt222.2 = true then (if bt222.1 ≥ a1 then (if bt222.1 ≤ bt222.1 then (some (bt222.1, bt222.1, 1, decide (bt222.1 ≤ a2))) else (some (bt222.1, bt222.1, 1, false))) else (some (bt222.1, bt222.1, 1, false))) else (some (bt222.1, bt222.1, 1, false))))))))
theorem impl_pieceOf.mono : ∀ a0 a1 a2 k, LeO (impl_pieceOf.f k a0 a1 a2) (impl_pieceOf.f (k + 1) a0 a1 a2) := by
 intro a0 a1 a2 k
 unfold impl_pieceOf.f
 repeat' first
  | (with_reducible exact impl_ReadDecimal.mono _ _)
  | (with_reducible exact LeO.refl _)
  | (with_reducible exact LeO.none _)
  | (with_reducible refine LeO.ite ?_ ?_)
  | (with_reducible refine LeO.bind ?_ (fun _ => ?_))
  | exact impl_ReadDecimal.mono _ _
  | exact LeO.none _
  | refine LeO.ite ?_ ?_
  | refine LeO.bind ?_ (fun _ => ?_)
set_option maxHeartbeats 8000000 in
set_option maxRecDepth 100000 in
theorem impl_pieceOf.calls (k : Nat) (a0 : ByteArray) (a1 : Int) (a2 : Int) (r1 : Int) (r2 : Int) (r3 : Int) (r4 : Bool) (w : World) (h : impl_pieceOf.f k a0 a1 a2 = some (r1, r2, r3, r4)) (htab : Cx.Ok w) :
 Calls Tryd.prog 78 #[.string a0, .int .i64 a1, .int .i64 a2] w fun e w' => e = .returned (.tuple #[.int .i64 r1, .int .i64 r2, .int .i64 r3, .bool r4]) ∧ Below w.heap.size w w' := by
 have HTAB := aM htab
 clear htab
 have HB := aM (Below.refl w.heap.size w)
 have H : (if a0.toList = ([42] : List UInt8) then (some (a1, a2, 1, true)) else ((strings_CutPrefix.f a0 (⟨#[42, 47]⟩ : ByteArray)).bind fun bt215 => (if bt215.2 = true then ((impl_ReadDecimal.f k bt215.1).bind fun bt217 => (if bt217.2 = true then (some (a1, a2, bt217.1, decide (bt217.1 ≥ 1))) else (some (a1, a2, bt217.1, false)))) else ((strings_Cut.f a0 (⟨#[45]⟩ : ByteArray)).bind fun bt219 => ((impl_ReadDecimal.f k bt219.1).bind fun bt222 => (if bt219.2.2 = true then ((impl_ReadDecimal.f k bt219.2.1).bind fun bt224 => (if bt222.2 = true then (if bt224.2 = true then (if bt222.1 ≥ a1 then (if bt222.1 ≤ bt224.1 then (some (bt222.1, bt224.1, 1, decide (bt224.1 ≤ a2))) else (some (bt222.1, bt224.1, 1, false))) else (some (bt222.1, bt224.1, 1, false))) else (some (bt222.1, bt224.1, 1, false))) else (some (bt222.1, bt224.1, 1, false)))) else (if bt222.2 = true then (if bt222.1 ≥ a1 then (if bt222.1 ≤ bt222.1 then (some (bt222.1, bt222.1, 1, decide (bt222.1 ≤ a2))) else (some (bt222.1, bt222.1, 1, false))) else (some (bt222.1, bt222.1, 1, false))) else (some (bt222.1, bt222.1, 1, false))))))))) = some (r1, r2, r3, r4) := h
 clear h
 refine Classical.byCases (p := a0.toList = ([42] : List UInt8)) (fun c4 => ?L1p) (fun c4 => ?L1n)
 case' L1p =>
  rw [if_pos c4] at H
  have c4b0 : (a0.toList == ([42] : List UInt8)) = true := beq_iff_eq.mpr c4
  have c4b1 : (a0.toList != ([42] : List UInt8)) = false := bne_eq_false_iff_eq.mpr c4
  clear c4
  simp only [Option.some.injEq, Prod.mk.injEq] at H
  obtain ⟨rfl, rfl, rfl, rfl⟩ := H
  go_enter Tryd.func78, Tryd.ntmps78
  go_wp2
  refine bodyPost_ret (results_list (rs := [.tmp 6, .tmp 7, .tmp 8, .tmp 9]) rfl (by simp) (.tmp (.tmp (.tmp (.tmp .nil))))) rfl ?_
  exact rX HB
 case' L1n =>
  rw [if_neg c4] at H
  have c4b0 : (a0.toList == ([42] : List UInt8)) = false := beq_eq_false_iff_ne.mpr c4
  have c4b1 : (a0.toList != ([42] : List UInt8)) = true := bne_iff_ne.mpr c4
  replace H := Option.bind_eq_some_iff.mp H
  obtain ⟨⟨t215, t216⟩, A50, H⟩ := H
  try dsimp only at H
  have A5 := aM A50
  clear A50
  refine Classical.byCases (p := t216 = true) (fun c6 => ?L2p) (fun c6 => ?L2n)
  case' L2p =>
   subst c6
   rw [if_pos rfl] at H
   replace H := Option.bind_eq_some_iff.mp H
   obtain ⟨⟨t217, t218⟩, A70, H⟩ := H
   replace H : (if t218 = true then (some (a1, a2, t217, decide (t217 ≥ 1))) else (some (a1, a2, t217, false))) = some (r1, r2, r3, r4) := H
   have A7 := aM A70
   clear A70
   refine Classical.byCases (p := t218 = true) (fun c8 => ?L3p) (fun c8 => ?L3n)
   case' L3p =>
    subst c8
    have H1 : (some (a1, a2, t217, decide (t217 ≥ 1))) = some (r1, r2, r3, r4) := by rw [if_pos rfl] at H; exact H
    clear H; have H := H1; clear H1
    simp only [Option.some.injEq, Prod.mk.injEq] at H
    obtain ⟨rfl, rfl, rfl, rfl⟩ := H
   case' L3n =>
    replace c8 := Bool.eq_false_iff.mpr c8
    subst c8
    have H1 : (some (a1, a2, t217, false)) = some (r1, r2, r3, r4) := by rw [if_neg (show ¬ (false = true) by decide)] at H; exact H
    clear H; have H := H1; clear H1
    simp only [Option.some.injEq, Prod.mk.injEq] at H
    obtain ⟨rfl, rfl, rfl, rfl⟩ := H
  case' L2n =>
   replace c6 := Bool.eq_false_iff.mpr c6
   subst c6
   rw [if_neg (show ¬ (false = true) by decide)] at H
   replace H := Option.bind_eq_some_iff.mp H
   obtain ⟨⟨t219, t220, t221⟩, A110, H⟩ := H
   try dsimp only at H
   have A11 := aM A110
   clear A110
   replace H := Option.bind_eq_some_iff.mp H
   obtain ⟨⟨t222, t223⟩, A120, H⟩ := H
   try dsimp only at H
   have A12 := aM A120
   clear A120
   refine Classical.byCases (p := t221 = true) (fun c13 => ?L4p) (fun c13 => ?L4n)
   case' L4p =>
    subst c13
    rw [if_pos rfl] at H
    replace H := Option.bind_eq_some_iff.mp H
    obtain ⟨⟨t224, t225⟩, A140, H⟩ := H
    try dsimp only at H
    have A14 := aM A140
    clear A140
    refine Classical.byCases (p := t223 = true) (fun c15 => ?L5p) (fun c15 => ?L5n)
    case' L5p =>
     subst c15
     rw [if_pos rfl] at H
     refine Classical.byCases (p := t225 = true) (fun c16 => ?L6p) (fun c16 => ?L6n)
     case' L6p =>
      subst c16
      rw [if_pos rfl] at H
      refine Classical.byCases (p := t222 ≥ a1) (fun c17 => ?L7p) (fun c17 => ?L7n)
      case' L7p =>
       rw [if_pos c17] at H
       have c17b0 : decide (a1 ≤ t222) = true := decide_eq_true c17
       clear c17
       refine Classical.byCases (p := t222 ≤ t224) (fun c18 => ?L8p) (fun c18 => ?L8n)
       case' L8p =>
        rw [if_pos c18] at H
        have c18b0 : decide (t222 ≤ t224) = true := decide_eq_true c18
        clear c18
        simp only [Option.some.injEq, Prod.mk.injEq] at H
        obtain ⟨rfl, rfl, rfl, rfl⟩ := H
       case' L8n =>
        rw [if_neg c18] at H
        have c18b0 : decide (t222 ≤ t224) = false := decide_eq_false c18
        clear c18
        simp only [Option.some.injEq, Prod.mk.injEq] at H
        obtain ⟨rfl, rfl, rfl, rfl⟩ := H
      case' L7n =>
       rw [if_neg c17] at H
       have c17b0 : decide (a1 ≤ t222) = false := decide_eq_false c17
       clear c17
       simp only [Option.some.injEq, Prod.mk.injEq] at H
       obtain ⟨rfl, rfl, rfl, rfl⟩ := H
     case' L6n =>
      replace c16 := Bool.eq_false_iff.mpr c16
      subst c16
      have H1 : (some (t222, t224, 1, false)) = some (r1, r2, r3, r4) := by rw [if_neg (show ¬ (false = true) by decide)] at H; exact H
      clear H; have H := H1; clear H1
      simp only [Option.some.injEq, Prod.mk.injEq] at H
      obtain ⟨rfl, rfl, rfl, rfl⟩ := H
    case' L5n =>
     replace c15 := Bool.eq_false_iff.mpr c15
     subst c15
     have H1 : (some (t222, t224, 1, false)) = some (r1, r2, r3, r4) := by rw [if_neg (show ¬ (false = true) by decide)] at H; exact H
     clear H; have H := H1; clear H1
     simp only [Option.some.injEq, Prod.mk.injEq] at H
     obtain ⟨rfl, rfl, rfl, rfl⟩ := H
     go_enter Tryd.func78, Tryd.ntmps78
     go_wp2_with (first | ((with_reducible refine gate_callee (f := 71) rfl ?_); refine gL (some 27) Tryd.func71 #[.string a0, .string (⟨#[42, 47]⟩ : ByteArray)] ?_; (with_reducible refine (strings_CutPrefix.calls a0 (⟨#[42, 47]⟩ : ByteArray) t215 false _ A5.out).mono ?_); rintro e w' ⟨rfl, ⟨nd, rfl⟩⟩; refine ⟨_, rfl, ?_⟩) | ((with_reducible refine gate_callee (f := 93) rfl ?_); refine gL (some 46) Tryd.func93 #[.string a0, .string (⟨#[45]⟩ : ByteArray)] ?_; (with_reducible refine (strings_Cut.calls a0 (⟨#[45]⟩ : ByteArray) t219 t220 true _ A11.out (Cx.on HTAB.out (uL HB))).mono ?_); rintro e w31 ⟨rfl, hb⟩; refine ⟨_, rfl, ?_⟩; replace HB := aM (below_step (uL HB) hb); try clear hb) | ((with_reducible refine gate_callee (f := 72) rfl ?_); refine gL (some 52) Tryd.func72 #[.string t219] ?_; (with_reducible refine (impl_ReadDecimal.calls k t219 t222 false _ A12.out (Cx.on HTAB.out (uL HB))).mono ?_); rintro e w32 ⟨rfl, hb⟩; refine ⟨_, rfl, ?_⟩; replace HB := aM (below_step (uL HB) hb); try clear hb) | ((with_reducible refine gate_callee (f := 72) rfl ?_); refine gL (some 59) Tryd.func72 #[.string t220] ?_; (with_reducible refine (impl_ReadDecimal.calls k t220 t224 t225 _ A14.out (Cx.on HTAB.out (uL HB))).mono ?_); rintro e w33 ⟨rfl, hb⟩; refine ⟨_, rfl, ?_⟩; replace HB := aM (below_step (uL HB) hb); try clear hb))
     refine bodyPost_ret (results_list (rs := [.tmp 6, .tmp 7, .tmp 8, .tmp 9]) rfl (by simp) (.tmp (.tmp (.tmp (.tmp .nil))))) rfl ?_
     exact rX HB
   case' L4n =>
    replace c13 := Bool.eq_false_iff.mpr c13
    subst c13
    rw [if_neg (show ¬ (false = true) by decide)] at H
    refine Classical.byCases (p := t223 = true) (fun c34 => ?L9p) (fun c34 => ?L9n)
    case' L9p =>
     subst c34
     rw [if_pos rfl] at H
     refine Classical.byCases (p := t222 ≥ a1) (fun c35 => ?L10p) (fun c35 => ?L10n)
     case' L10p =>
      rw [if_pos c35] at H
      have c35b0 : decide (a1 ≤ t222) = true := decide_eq_true c35
      clear c35
      refine Classical.byCases (p := t222 ≤ t222) (fun c36 => ?L11p) (fun c36 => absurd (Int.le_refl _) c36)
      case' L11p =>
       rw [if_pos c36] at H
       have c36b0 : decide (t222 ≤ t222) = true := decide_eq_true c36
       clear c36
       simp only [Option.some.injEq, Prod.mk.injEq] at H
       obtain ⟨rfl, rfl, rfl, rfl⟩ := H
     case' L10n =>
      rw [if_neg c35] at H
      have c35b0 : decide (a1 ≤ t222) = false := decide_eq_false c35
      clear c35
      simp only [Option.some.injEq, Prod.mk.injEq] at H
      obtain ⟨rfl, rfl, rfl, rfl⟩ := H
    case' L9n =>
     replace c34 := Bool.eq_false_iff.mpr c34
     subst c34
     have H1 : (some (t222, t222, 1, false)) = some (r1, r2, r3, r4) := by rw [if_neg (show ¬ (false = true) by decide)] at H; exact H
     clear H; have H := H1; clear H1
     simp only [Option.some.injEq, Prod.mk.injEq] at H
     obtain ⟨rfl, rfl, rfl, rfl⟩ := H
 case L3p | L3n =>
  go_enter Tryd.func78, Tryd.ntmps78
  go_wp2_with (first | ((with_reducible refine gate_callee (f := 71) rfl ?_); refine gL (some 27) Tryd.func71 #[.string a0, .string (⟨#[42, 47]⟩ : ByteArray)] ?_; (with_reducible refine (strings_CutPrefix.calls a0 (⟨#[42, 47]⟩ : ByteArray) t215 true _ A5.out).mono ?_); rintro e w' ⟨rfl, ⟨nd, rfl⟩⟩; refine ⟨_, rfl, ?_⟩) | ((with_reducible refine gate_callee (f := 72) rfl ?_); refine gL (some 33) Tryd.func72 #[.string t215] ?_; (with_reducible refine (impl_ReadDecimal.calls k t215 t217 _ _ A7.out (Cx.on HTAB.out (uL HB))).mono ?_); rintro e w9 ⟨rfl, hb⟩; refine ⟨_, rfl, ?_⟩; replace HB := aM (below_step (uL HB) hb); try clear hb))
  refine bodyPost_ret (results_list (rs := [.tmp 6, .tmp 7, .tmp 8, .tmp 9]) rfl (by simp) (.tmp (.tmp (.tmp (.tmp .nil))))) rfl ?_
  exact rX HB
 case L8p | L8n | L7n | L6n =>
  go_enter Tryd.func78, Tryd.ntmps78
  go_wp2_with (first | ((with_reducible refine gate_callee (f := 71) rfl ?_); refine gL (some 27) Tryd.func71 #[.string a0, .string (⟨#[42, 47]⟩ : ByteArray)] ?_; (with_reducible refine (strings_CutPrefix.calls a0 (⟨#[42, 47]⟩ : ByteArray) t215 false _ A5.out).mono ?_); rintro e w' ⟨rfl, ⟨nd, rfl⟩⟩; refine ⟨_, rfl, ?_⟩) | ((with_reducible refine gate_callee (f := 93) rfl ?_); refine gL (some 46) Tryd.func93 #[.string a0, .string (⟨#[45]⟩ : ByteArray)] ?_; (with_reducible refine (strings_Cut.calls a0 (⟨#[45]⟩ : ByteArray) t219 t220 true _ A11.out (Cx.on HTAB.out (uL HB))).mono ?_); rintro e w19 ⟨rfl, hb⟩; refine ⟨_, rfl, ?_⟩; replace HB := aM (below_step (uL HB) hb); try clear hb) | ((with_reducible refine gate_callee (f := 72) rfl ?_); refine gL (some 52) Tryd.func72 #[.string t219] ?_; (with_reducible refine (impl_ReadDecimal.calls k t219 t222 true _ A12.out (Cx.on HTAB.out (uL HB))).mono ?_); rintro e w20 ⟨rfl, hb⟩; refine ⟨_, rfl, ?_⟩; replace HB := aM (below_step (uL HB) hb); try clear hb) | ((with_reducible refine gate_callee (f := 72) rfl ?_); refine gL (some 59) Tryd.func72 #[.string t220] ?_; (with_reducible refine (impl_ReadDecimal.calls k t220 t224 _ _ A14.out (Cx.on HTAB.out (uL HB))).mono ?_); rintro e w21 ⟨rfl, hb⟩; refine ⟨_, rfl, ?_⟩; replace HB := aM (below_step (uL HB) hb); try clear hb))
  refine bodyPost_ret (results_list (rs := [.tmp 6, .tmp 7, .tmp 8, .tmp 9]) rfl (by simp) (.tmp (.tmp (.tmp (.tmp .nil))))) rfl ?_
  exact rX HB
 case L10p | L10n | L9n =>
  go_enter Tryd.func78, Tryd.ntmps78
  go_wp2_with (first | ((with_reducible refine gate_callee (f := 71) rfl ?_); refine gL (some 27) Tryd.func71 #[.string a0, .string (⟨#[42, 47]⟩ : ByteArray)] ?_; (with_reducible refine (strings_CutPrefix.calls a0 (⟨#[42, 47]⟩ : ByteArray) t215 false _ A5.out).mono ?_); rintro e w' ⟨rfl, ⟨nd, rfl⟩⟩; refine ⟨_, rfl, ?_⟩) | ((with_reducible refine gate_callee (f := 93) rfl ?_); refine gL (some 46) Tryd.func93 #[.string a0, .string (⟨#[45]⟩ : ByteArray)] ?_; (with_reducible refine (strings_Cut.calls a0 (⟨#[45]⟩ : ByteArray) t219 t220 false _ A11.out (Cx.on HTAB.out (uL HB))).mono ?_); rintro e w37 ⟨rfl, hb⟩; refine ⟨_, rfl, ?_⟩; replace HB := aM (below_step (uL HB) hb); try clear hb) | ((with_reducible refine gate_callee (f := 72) rfl ?_); refine gL (some 52) Tryd.func72 #[.string t219] ?_; (with_reducible refine (impl_ReadDecimal.calls k t219 t222 _ _ A12.out (Cx.on HTAB.out (uL HB))).mono ?_); rintro e w38 ⟨rfl, hb⟩; refine ⟨_, rfl, ?_⟩; replace HB := aM (below_step (uL HB) hb); try clear hb))
  refine bodyPost_ret (results_list (rs := [.tmp 6, .tmp 7, .tmp 8, .tmp 9]) rfl (by simp) (.tmp (.tmp (.tmp (.tmp .nil))))) rfl ?_
  exact rX HB

/-! ### impl_parseField: function 48 (given by the session) -/
def impl_parseField.steps : Nat → Int → Int → Int → List Int
 | 0, _, _, _ => []
 | m + 1, n, b, s => if n ≤ b then n :: impl_parseField.steps m (n + s) b s else []
/-- a, a + s and so on, up to b -/
def impl_parseField.nums (a b s : Int) : List Int := impl_parseField.steps (b - a + 1).toNat a b s
def impl_parseField.fine (t : Int × Int × Int × Bool) (acc : List Int) : Bool := decide (0 ≤ t.1) && decide (t.1 ≤ 1000) && decide (t.2.1 < 100) && decide (1 ≤ t.2.2.1) && decide (t.2.2.1 ≤ 1099511627776) && decide (acc.length ≤ 1000000000000)
def impl_parseField.go (k : Nat) (lo hi : Int) : List ByteArray → List Int → Option (Option (List Int))
 | [], acc => some (some acc)
 | p :: ps, acc => (impl_pieceOf.f k p lo hi).bind fun t => if t.2.2.2 = true then (if impl_parseField.fine t acc = true then impl_parseField.go k lo hi ps (acc ++ impl_parseField.nums t.1 t.2.1 t.2.2.1) else none) else some none
def impl_parseField.fin : Option (List Int) → Option (List Int × Bool)
 | none => some ([], false)
 | some l => if l.length = 0 then none else some (Lib.compact (l.mergeSort fun x y => decide (x ≤ y)), true)
def impl_parseField.f (k : Nat) (a0 : ByteArray) (a1 : Int) : Option (List Int × Bool) :=
 (impl_bounds.f a1).bind fun b => (strings_Split.f a0 ⟨#[44]⟩).bind fun ps => (impl_parseField.go k b.1 b.2 ps []).bind impl_parseField.fin
theorem impl_parseField.steps_le (b s : Int) (h1 : 1 ≤ s) : ∀ (m : Nat) (n : Int), (impl_parseField.steps m n b s).length ≤ (b - n + 1).toNat
 | 0, n => by simp [impl_parseField.steps]
 | m + 1, n => by
  unfold impl_parseField.steps
  by_cases h : n ≤ b
  ·rw [if_pos h, List.length_cons]
   have := impl_parseField.steps_le b s h1 m (n + s)
   omega
  ·rw [if_neg h]
   simp
theorem impl_parseField.nums_at (a b s : Int) (h1 : 1 ≤ s) (h : a ≤ b) : impl_parseField.nums a b s = a :: impl_parseField.nums (a + s) b s := by
 have key : ∀ (m m' : Nat) (n : Int), (b - n + 1).toNat ≤ m → (b - n + 1).toNat ≤ m' → impl_parseField.steps m n b s = impl_parseField.steps m' n b s := by
  intro m
  induction m with
  | zero =>
   intro m' n h0 h0'
   cases m' with
   | zero => rfl
   | succ m' => simp only [impl_parseField.steps]; rw [if_neg (by omega)]
  | succ m ih =>
   intro m' n h0 h0'
   cases m' with
   | zero => simp only [impl_parseField.steps]; rw [if_neg (by omega)]
   | succ m' =>
    simp only [impl_parseField.steps]
    by_cases hn : n ≤ b
    ·rw [if_pos hn, if_pos hn, ih m' (n + s) (by omega) (by omega)]
    ·rw [if_neg hn, if_neg hn]
 unfold impl_parseField.nums
 obtain ⟨m, hm⟩ : ∃ m, (b - a + 1).toNat = m + 1 := ⟨(b - a).toNat, by omega⟩
 rw [hm]
 show (if a ≤ b then a :: impl_parseField.steps m (a + s) b s else []) = _
 rw [if_pos h, key m _ (a + s) (by omega) (Nat.le_refl _)]
theorem impl_parseField.nums_end (a b s : Int) (h : ¬ a ≤ b) : impl_parseField.nums a b s = [] := by
 unfold impl_parseField.nums
 rw [show (b - a + 1).toNat = 0 by omega]
 rfl
theorem impl_parseField.info3 : (Tryd.prog.info? 3).map (fun i => (i.zero, i.size, i.bytes)) = some (some (.int .i64 0), 1, 8) := by kernel_rfl
/-- a row of numbers of the call's own whose capacity may be told less than its memory -/
def Kq.R (w : World) (base : Nat) (ok : Nat → Prop) (v : Value) (xs : List Int) : Prop :=
 (v = .slice none 0 0 ∧ xs = []) ∨ ∃ g cap c, v = .slice (some ⟨g, 0, none⟩) xs.length c ∧ xs.length ≤ c ∧ c ≤ cap ∧ Kd.R (Kd.int .i64) 3 w base ok (.slice (some ⟨g, 0, none⟩) xs.length cap) xs
theorem impl_parseField.clip (g n cap : Nat) (h : n ≤ cap) (hm : cap ≤ 9223372036854775807) (w : World) : Calls Tryd.prog 80 #[.slice (some ⟨g, 0, none⟩) n cap] w fun e w' => e = .returned (.slice (some ⟨g, 0, none⟩) n n) ∧ Below w.heap.size w w' := by
 go_enter Tryd.func80, Tryd.ntmps80
 go_wp2
 go_ret
 exact ⟨rfl, Below.refl _ _⟩
def impl_parseField.srt (zs : List Int) : List Int := zs.mergeSort fun x y => decide (x ≤ y)
theorem impl_parseField.below_grow (w0 w : World) (h : Below w0.heap.size w0 w) (os : Array Obj) : Below w0.heap.size w0 (Sort.grow w os) :=
 ⟨h.os, h.tape, h.output, Nat.le_trans h.size (by simp [Sort.grow]), fun k hk => by
  rw [← h.block k hk]
  show (w.heap ++ os)[k]? = _
  rw [Array.getElem?_append_left (Nat.lt_of_lt_of_le hk h.size)]⟩
theorem impl_parseField.row_form (w : World) (base : Nat) (v : Value) (zs : List Int) (h : Kd.R (Kd.int .i64) 3 w base (fun _ => True) v zs) (hz : zs.length ≠ 0) :
 ∃ g cap, v = .slice (some ⟨g, 0, none⟩) zs.length cap ∧ base ≤ g ∧ g < w.heap.size ∧ zs.length ≤ cap ∧ cap ≤ maxLen ∧ Sort.Holds (Value.int .i64) w g 0 zs.toArray ∧ w.ownsRow base 3 1 (.slice (some ⟨g, 0, none⟩) zs.length cap) zs.length (zs.map (Value.int .i64)) := by
 have ho : w.ownsRow base 3 1 v zs.length (zs.map (Value.int .i64)) := Kd.own_of_R h
 obtain ⟨g, cap, rfl, hg, hlt, hn, hm, _, hH⟩ := Lib.holds_of_ownsRow (enc := Value.int .i64) ho (fun hv => by
  rcases ho.2 with ⟨_, h0⟩ | ⟨g, cap, cur, hv2, _⟩
  ·exact hz h0
  ·rw [hv] at hv2
   cases hv2)
 exact ⟨g, cap, rfl, hg, hlt, hn, hm, hH, ho⟩
theorem impl_parseField.sort (w0 w : World) (hb : Below w0.heap.size w0 w) (v : Value) (zs : List Int) (h : Kd.R (Kd.int .i64) 3 w w0.heap.size (fun _ => True) v zs) (hz : zs.length ≠ 0) (hs : zs.length ≤ 2000000000000) :
 Calls Tryd.prog 79 #[v] w fun e w' => e = .returned (.tuple #[]) ∧ Kd.R (Kd.int .i64) 3 w' w0.heap.size (fun _ => True) v (impl_parseField.srt zs) ∧ Below w0.heap.size w0 w' := by
 obtain ⟨g, cap, rfl, hg, hlt, hn, hm, hH, ho⟩ := impl_parseField.row_form w _ v zs h hz
 refine (Tryd.slices_Sort_int g 0 cap zs w hH hlt (by omega)).mono ?_
 rintro e w' ⟨rfl, n, os, rfl⟩
 have hl : (impl_parseField.srt zs).length = zs.length := List.length_mergeSort _
 have h1 := Lib.ownsRow_putRow (q := n) (k := zs.length) (ys := impl_parseField.srt zs) ho hl (Nat.le_refl _)
 rw [← hl, List.take_length, hl] at h1
 refine ⟨rfl, Kd.R_of_own ?_ (fun _ _ => trivial), impl_parseField.below_grow _ _ (Lib.below_putRow hb hg) os⟩
 rw [hl]
 refine own_move h1 (fun k hk => ?_)
 obtain rfl : g = k := by simpa [Value.ownBlock] using hk
 show (_ ++ os)[g]? = _
 exact Array.getElem?_append_left (by simpa [Sort.putRow, Sort.mapBlock, Sort.ahead] using hlt)
theorem impl_parseField.compact_le (zs : List Int) : (Lib.compact zs).length ≤ zs.length := by
 unfold Lib.compact Lib.compactUpTo
 rw [List.length_map]
 exact Nat.le_trans (List.length_filter_le _ _) (by simp)
theorem impl_parseField.compact (w0 w : World) (hb : Below w0.heap.size w0 w) (v : Value) (zs : List Int) (h : Kd.R (Kd.int .i64) 3 w w0.heap.size (fun _ => True) v zs) (hz : zs.length ≠ 0) (hs : zs.length ≤ 2000000000000) :
 Calls Tryd.prog 81 #[v] w fun e w' => ∃ g cap, e = .returned (.slice (some ⟨g, 0, none⟩) (Lib.compact zs).length cap) ∧ (Lib.compact zs).length ≤ cap ∧ cap ≤ maxLen ∧ Kd.R (Kd.int .i64) 3 w' w0.heap.size (fun _ => True) (.slice (some ⟨g, 0, none⟩) (Lib.compact zs).length cap) (Lib.compact zs) ∧ Below w0.heap.size w0 w' := by
 obtain ⟨g, cap, rfl, hg, hlt, hn, hm, hH, ho⟩ := impl_parseField.row_form w _ v zs h hz
 refine (Tryd.slices_Compact_int g 0 cap zs w hH (by omega) hn).mono ?_
 rintro e w' ⟨rfl, n, rfl⟩
 have hle := impl_parseField.compact_le zs
 have h1 := Lib.ownsRow_putRow (q := n) (k := (Lib.compact zs).length) (ys := Lib.compact zs ++ List.replicate (zs.length - (Lib.compact zs).length) 0) ho (by rw [List.length_append, List.length_replicate]; omega) hle
 rw [List.take_left] at h1
 exact ⟨g, cap, rfl, by omega, hm, Kd.R_of_own h1 (fun _ _ => trivial), Lib.below_putRow hb hg⟩
theorem impl_parseField.go_at (k : Nat) (lo hi : Int) (ps : List ByteArray) (i : Nat) (hi2 : i < ps.length) (acc : List Int) (o : Option (List Int)) (h : impl_parseField.go k lo hi (ps.drop i) acc = some o) :
 ∃ t, impl_pieceOf.f k (rdOf ByteArray.empty ps (i : Int)) lo hi = some t ∧ ((t.2.2.2 = false ∧ o = none) ∨ (t.2.2.2 = true ∧ impl_parseField.fine t acc = true ∧ impl_parseField.go k lo hi (ps.drop (i + 1)) (acc ++ impl_parseField.nums t.1 t.2.1 t.2.2.1) = some o)) := by
 rw [List.drop_eq_getElem_cons hi2] at h
 unfold impl_parseField.go at h
 obtain ⟨t, ht, h⟩ := Option.bind_eq_some_iff.mp h
 have e : rdOf ByteArray.empty ps (i : Int) = ps[i] := by
  show ps.getD i ByteArray.empty = _
  rw [List.getD_eq_getElem?_getD, List.getElem?_eq_getElem hi2]
  rfl
 refine ⟨t, by rw [e]; exact ht, ?_⟩
 by_cases ho : t.2.2.2 = true
 ·rw [if_pos ho] at h
  by_cases hf : impl_parseField.fine t acc = true
  ·rw [if_pos hf] at h
   exact .inr ⟨ho, hf, h⟩
  ·rw [if_neg hf] at h
   cases h
 ·rw [if_neg ho] at h
  exact .inl ⟨by simpa using ho, (Option.some.inj h).symm⟩
theorem impl_parseField.fine_at {a b s : Int} {ok : Bool} {acc : List Int} (h : impl_parseField.fine (a, b, s, ok) acc = true) : 0 ≤ a ∧ a ≤ 1000 ∧ b < 100 ∧ 1 ≤ s ∧ s ≤ 1099511627776 ∧ acc.length ≤ 1000000000000 := by
 unfold impl_parseField.fine at h
 simp only [Bool.and_eq_true, decide_eq_true_eq] at h
 omega
set_option maxHeartbeats 8000000 in
set_option maxRecDepth 100000 in
theorem impl_parseField.calls (k : Nat) (a0 : ByteArray) (a1 : Int) (r1 : List Int) (r2 : Bool) (w : World) (h : impl_parseField.f k a0 a1 = some (r1, r2)) (htab : Cx.Ok w) :
 Calls Tryd.prog 48 #[.string a0, .int .i64 a1] w fun e w' => ∃ v0_ : Value, e = .returned (.tuple #[v0_, .bool r2]) ∧ Kq.R w' w.heap.size (fun _ => True) v0_ r1 ∧ Below w.heap.size w w' := by
 have HT := aM htab
 obtain ⟨⟨lo, hi⟩, hb, H⟩ := Option.bind_eq_some_iff.mp h
 obtain ⟨ps, hps, H⟩ := Option.bind_eq_some_iff.mp H
 obtain ⟨o, hgo, H⟩ := Option.bind_eq_some_iff.mp H
 have HBD := aM hb
 have HPS := aM hps
 have HGO := aM hgo
 have HF := aM H
 clear h htab hb hps hgo H
 go_enter Tryd.func48, Tryd.ntmps48
 go_wp2_with (first | (go_at_call 77; refine (impl_bounds.calls a1 lo hi _ HBD.out).mono ?_; rintro e w1 ⟨rfl, hd1⟩; have HB1 := aM (show Below w.heap.size w w1 by obtain ⟨n, rfl⟩ := hd1; exact ⟨rfl, rfl, rfl, Nat.le_refl _, fun _ _ => rfl⟩); clear hd1) | (go_at_call 76; refine (strings_Split.calls a0 (⟨#[44]⟩ : ByteArray) ps _ HPS.out (Cx.on HT.out HB1.out)).mono ?_; rintro e w2 ⟨vS, rfl, hR2, hb2⟩; have HB2 := aM (below_step HB1.out hb2); have HR2 := aM hR2; clear hb2 hR2; obtain ⟨A, c, eA⟩ := Kd.R_slice HR2.out; subst eA))
 have HS := aM (Kd.R_reads' HR2.out).2.2
 have HTB := aM (Cx.on HT.out HB2.out)
 have HL := aM (Kd.R_reads' HR2.out).2.1
 clear HR2 HB1 HT HBD HPS
 go_loopw [8, 24] (fun v8 v24 wr => ∃ (i : Nat) (acc : List Int), i ≤ ps.length ∧ v24 = .int .i64 (i : Int) ∧ Aside0 (Kd.R (Kd.int .i64) 3 wr w2.heap.size (fun _ => True) v8 acc) ∧ Aside0 (Below w2.heap.size w2 wr) ∧ Aside0 (impl_parseField.go k lo hi (ps.drop i) acc = some o) ∧ Aside0 (acc.length ≤ 1000000000200)) (fun v8 v24 wr => ps.length - (intOf v24).toNat)
 case atStart => exact ⟨0, [], Nat.zero_le _, rfl, ⟨Kd.R_nil _ _ _ _ _⟩, ⟨Below.refl _ _⟩, ⟨HGO.out⟩, ⟨by simp⟩⟩
 case round =>
  clear HGO
  obtain ⟨i, acc, hi2, rfl, HA, HW, HG, HN⟩ := hrel
  obtain ⟨wo, rfl⟩ : ∃ z, z = wr := ⟨_, rfl⟩
  have hlen : (ps.length : Int) ≤ 9223372036854775807 := by have := HS.out.2.1; omega
  by_cases hlt : i < ps.length
  ·obtain ⟨ad, eA, hxx⟩ := Kd.at_string (Kd.C_below HS.out HW.out) (i : Int) (by omega) (by omega)
   subst eA
   obtain ⟨⟨a, b, s, ok⟩, hp, hcase⟩ := impl_parseField.go_at k lo hi ps i hlt acc o HG.out
   obtain ⟨x, hxv⟩ : ∃ x, x = rdOf ByteArray.empty ps (i : Int) := ⟨_, rfl⟩
   have hx : wo.cell? (ad.add i) = some (.string x) := by rw [hxv]; exact hxx
   rw [← hxv] at hp
   have HP := aM hp
   clear hxx hxv hp
   have c1 : decide ((i : Int) < (ps.length : Int)) = true := decide_eq_true (by omega)
   have p1 : (0 ≤ (i : Int)) = True := eq_true (by omega)
   have q1 : ((i : Int) < (ps.length : Int)) = True := eq_true (by omega)
   rcases hcase with ⟨ho, hno⟩ | ⟨ho, hf, hg⟩
   ·obtain rfl : ok = false := ho
    have HF2 := aM (show ([] : List Int) = r1 ∧ false = r2 by have := HF.out; rw [hno] at this; simpa [impl_parseField.fin] using this)
    clear hno HG HF HN
    go_wp2_with (first | (go_at_call 78; refine (impl_pieceOf.calls k x lo hi a b s false _ HP.out (Cx.on HTB.out HW.out)).mono ?_; rintro e w5 ⟨rfl, hb5⟩; have HW5 := aM (below_step HW.out hb5); clear hb5))
    go_ret2
    obtain ⟨rfl, rfl⟩ := HF2.out
    exact ⟨_, rfl, .inl ⟨rfl, rfl⟩, below_step HB2.out HW5.out⟩
   ·obtain rfl : ok = true := ho
    obtain ⟨f1, f1b, f2, f3, f4, f5⟩ := impl_parseField.fine_at hf
    have HG2 := aM hg
    have HNA := aM f5
    clear hg hf HG HN f5
    go_wp2_with (first | (go_at_call 78; refine (impl_pieceOf.calls k x lo hi a b s true _ HP.out (Cx.on HTB.out HW.out)).mono ?_; rintro e w5 ⟨rfl, hb5⟩; have HW5 := aM (below_step HW.out hb5); have HA5 := aM (Kd.R_below HA.out hb5); clear hb5))
    clear HA HW HP hx
    go_loopw [8, 15] (fun v8 v15 wr => ∃ (n : Int) (acc2 : List Int), 0 ≤ n ∧ n ≤ 1099511627976 ∧ v15 = .int .i64 n ∧ Aside0 (Kd.R (Kd.int .i64) 3 wr w2.heap.size (fun _ => True) v8 acc2) ∧ Aside0 (Below w2.heap.size w2 wr) ∧ Aside0 (acc2 ++ impl_parseField.nums n b s = acc ++ impl_parseField.nums a b s)) (fun v8 v15 wr => (b + 1 - intOf v15).toNat)
    case atStart => exact ⟨a, acc, f1, by omega, rfl, HA5, HW5, ⟨rfl⟩⟩
    case round =>
     obtain ⟨n, acc2, hn0, hn1, rfl, HL2, HW2, HE⟩ := hrel
     by_cases hnb : n ≤ b
     ·have HE2 := aM (show (acc2 ++ [n]) ++ impl_parseField.nums (n + s) b s = acc ++ impl_parseField.nums a b s by
       rw [← HE.out, impl_parseField.nums_at n b s f3 hnb, List.append_assoc]
       rfl)
      have HNN := aM (show (acc2.length + 1) * 8 ≤ 140737488355328 by
       have h1 := congrArg List.length HE.out
       rw [List.length_append, List.length_append] at h1
       have h2 := impl_parseField.steps_le b s f3 (b - a + 1).toNat a
       have h3 := HNA.out
       have h4 : (impl_parseField.nums a b s).length ≤ (b - a + 1).toNat := h2
       omega)
      have c2 : decide (n ≤ b) = true := decide_eq_true hnb
      have hn2 : n < 100 := by omega
      have ns : n + s ≤ 9223372036854775807 := by omega
      go_wp2_with (first | ((with_reducible refine gate_builtin (b := .append) (xs := #[.tmp 46, .tmp 48]) rfl ?_); at_builtin; refine Kd.R_append (Kd.int .i64) (w0 := w2) w2.heap.size rfl (.tmp 46) (.tmp 48) 25 3 (.int .i64 0) 8 rfl Tryd.underlying25 impl_parseField.info3 rfl (by decide) (by omega) _ acc2 n [.int .i64 n] (fun _ => True) (fun _ => False) rfl rfl ?aP (fun _ hk => hk.elim) ?aF ?aO ?aB ?aS HNN.out ?_; (case aP => exact rfl); (case aB => exact (uL HW2)); (case aF => exact fun _ _ => trivial); (case aO => exact (uR HL2)); (case aS => exact (show w2.heap.size ≤ _ from HW2.out.size)); intro v6 w6 ho hb hg hat; have HL6 := aM ho; have HW6 := aM hb; clear ho hb hg hat))
      refine ⟨⟨n + s, acc2 ++ [n], by omega, by omega, rfl, HL6, HW6, HE2⟩, ?_⟩
      simp only [intOf]
      omega
     ·have HE2 := aM (show acc2 = acc ++ impl_parseField.nums a b s by rw [← HE.out, impl_parseField.nums_end n b s hnb, List.append_nil])
      have HN3 := aM (show acc2.length ≤ 1000000000200 by
       have h1 := congrArg List.length HE2.out
       rw [List.length_append] at h1
       have h2 : (impl_parseField.nums a b s).length ≤ (b - a + 1).toNat := impl_parseField.steps_le b s f3 (b - a + 1).toNat a
       have h3 := HNA.out
       omega)
      have HG3 := aM (show impl_parseField.go k lo hi (ps.drop (i + 1)) acc2 = some o by rw [HE2.out]; exact HG2.out)
      have c2 : decide (n ≤ b) = false := decide_eq_false hnb
      go_wp2
      refine ⟨⟨i + 1, acc2, by omega, by rw [show (i : Int) + 1 = ((i + 1 : Nat) : Int) by omega], HL2, HW2, HG3, HN3⟩, ?_⟩
      simp only [intOf]
      omega
  ·obtain rfl : i = ps.length := by omega
   have hno : some (some acc) = some o := by have := HG.out; rwa [List.drop_length] at this
   obtain rfl : some acc = o := Option.some.inj hno
   clear hno
   have hfin := HF.out
   unfold impl_parseField.fin at hfin
   by_cases hz : acc.length = 0
   case pos => rw [show (match some acc with | none => some ([], false) | some l => if l.length = 0 then none else some (Lib.compact (l.mergeSort fun x y => decide (x ≤ y)), true)) = (none : Option (List Int × Bool)) from if_pos hz] at hfin; cases hfin
   have HF2 := aM (show Lib.compact (impl_parseField.srt acc) = r1 ∧ true = r2 by
    have := (show some (Lib.compact (impl_parseField.srt acc), true) = some (r1, r2) from (if_neg hz).symm.trans hfin)
    simpa using this)
   have hz2 := aM hz
   have HL3 := aM (show (impl_parseField.srt acc).length = acc.length from List.length_mergeSort _)
   clear hfin hz HF HG
   have c1 : decide ((ps.length : Int) < (ps.length : Int)) = false := decide_eq_false (by omega)
   go_wp2_with (first | (go_at_call 79; refine (impl_parseField.sort w2 _ HW.out _ acc HA.out hz2.out (by have := HN.out; omega)).mono ?_; rintro e w6 ⟨rfl, hR6, hb6⟩; have HR6 := aM hR6; have HW6 := aM hb6; clear hR6 hb6) | (go_at_call 81; refine (impl_parseField.compact w2 _ HW6.out _ (impl_parseField.srt acc) HR6.out (by rw [HL3.out]; exact hz2.out) (by have := HL3.out; have := HN.out; omega)).mono ?_; rintro e w7 ⟨g, cap, rfl, hc7, hm7, hR7, hb7⟩; have HC7 := aM hc7; have HM7 := aM hm7; have HR7 := aM hR7; have HW7 := aM hb7; clear hc7 hm7 hR7 hb7) | (go_at_call 80; refine (impl_parseField.clip _ _ _ HC7.out HM7.out _).mono ?_; rintro e w8 ⟨rfl, hb8⟩; have HR8 := aM (Kd.R_below HR7.out hb8); have HW8 := aM (below_step HW7.out hb8); clear hb8))
   go_ret2
   obtain ⟨rfl, rfl⟩ := HF2.out
   exact ⟨_, rfl, .inr ⟨_, _, _, rfl, Nat.le_refl _, HC7.out, Kd.R_lower HR8.out HB2.out.size⟩, below_step HB2.out HW8.out⟩
theorem impl_parseField.go_mono (k : Nat) (lo hi : Int) : ∀ (ps : List ByteArray) (acc : List Int), LeO (impl_parseField.go k lo hi ps acc) (impl_parseField.go (k + 1) lo hi ps acc)
 | [], _ => LeO.refl _
 | p :: ps, acc => by
  unfold impl_parseField.go
  refine LeO.bind (impl_pieceOf.mono _ _ _ _) (fun t => LeO.ite (LeO.ite (impl_parseField.go_mono k lo hi ps _) (LeO.refl _)) (LeO.refl _))
theorem impl_parseField.mono : ∀ a0 a1 k, LeO (impl_parseField.f k a0 a1) (impl_parseField.f (k + 1) a0 a1) := by
 intro a0 a1 k
 unfold impl_parseField.f
 exact LeO.bind (LeO.refl _) (fun b => LeO.bind (LeO.refl _) (fun ps => LeO.bind (impl_parseField.go_mono k _ _ ps []) (fun _ => LeO.refl _)))

/-! ### impl_ParseCron: function 19 (given by the session) -/
theorem Kq.form {w : World} {base : Nat} {ok : Nat → Prop} {v : Value} {xs : List Int} (h : Kq.R w base ok v xs) : ∃ A c, v = .slice A xs.length c := by
 rcases h with ⟨rfl, rfl⟩ | ⟨g, cap, c, rfl, _⟩
 ·exact ⟨none, 0, rfl⟩
 ·exact ⟨_, _, rfl⟩
theorem Kq.below {w w1 : World} {base : Nat} {ok : Nat → Prop} {v : Value} {xs : List Int} (h : Kq.R w base ok v xs) (hb : Below w.heap.size w w1) : Kq.R w1 base ok v xs := by
 rcases h with h | ⟨g, cap, c, e, h1, h2, h3⟩
 ·exact .inl h
 ·exact .inr ⟨g, cap, c, e, h1, h2, Kd.R_below h3 hb⟩
theorem Kq.lower {w : World} {base base' : Nat} {ok : Nat → Prop} {v : Value} {xs : List Int} (h : Kq.R w base ok v xs) (hb : base' ≤ base) : Kq.R w base' ok v xs := by
 rcases h with h | ⟨g, cap, c, e, h1, h2, h3⟩
 ·exact .inl h
 ·exact .inr ⟨g, cap, c, e, h1, h2, Kd.R_lower h3 hb⟩
theorem Kq.far {w : World} {base : Nat} {ok : Nat → Prop} {v : Value} {xs : List Int} (h : Kq.R w base ok v xs) {g : Nat} {cs : Array Value} (hbk : w.heap[g]? = some (.cells cs 47 (0, 0))) (j : Nat) (u : Value) : Kq.R (w.setCell ⟨g, j, none⟩ u) base ok v xs := by
 rcases h with h | ⟨g', cap, c, e, h1, h2, h3⟩
 ·exact .inl h
 ·exact .inr ⟨g', cap, c, e, h1, h2, Kd.R_mono (Kd.R_far (p := ⟨g, j, none⟩) (Kd.R_types h3 hbk (by decide)) (fun _ hk => hk.2) u) (fun _ hk => hk.1)⟩
theorem Kq.tell {w : World} {base : Nat} {ok ok' : Nat → Prop} {v : Value} {xs : List Int} (h : Kq.R w base ok v xs) (hok : ∀ k, v.ownBlock = some k → ok' k) : Kq.R w base ok' v xs := by
 rcases h with h | ⟨g', cap, c, rfl, h1, h2, h3⟩
 ·exact .inl h
 ·exact .inr ⟨g', cap, c, rfl, h1, h2, Kd.R_of_own (Kd.own_of_R h3) (fun k hk => hok k (by simpa [Value.ownBlock] using hk))⟩
theorem Kq.bound {w : World} {base : Nat} {ok : Nat → Prop} {v : Value} {xs : List Int} (h : Kq.R w base ok v xs) (k : Nat) (hk : v.ownBlock = some k) : base ≤ k ∧ k < w.heap.size := by
 rcases h with ⟨rfl, rfl⟩ | ⟨g', cap, c, rfl, h1, h2, h3⟩
 ·simp [Value.ownBlock] at hk
 ·have ho := Kd.own_of_R h3
  have hk2 : (Value.slice (some ⟨g', 0, none⟩) xs.length cap).ownBlock = some k := by simpa [Value.ownBlock] using hk
  exact ⟨own_base ho k hk2, own_lt ho k hk2⟩
theorem Kq.reads {w : World} {base : Nat} {ok : Nat → Prop} {A : Option Addr} {n c : Nat} {xs : List Int} (h : Kq.R w base ok (.slice A n c) xs) : n = xs.length ∧ n ≤ c ∧ Kd.C (Kd.int .i64) w A xs.length xs := by
 rcases h with ⟨e, rfl⟩ | ⟨g', cap, c', e, h1, h2, h3⟩
 ·cases e
  exact ⟨rfl, Nat.le_refl _, (Kd.R_reads' (Kd.R_nil (Kd.int .i64) 3 w base ok)).2.2⟩
 ·cases e
  exact ⟨rfl, h1, (Kd.R_reads' h3).2.2⟩
set_option maxRecDepth 100000 in
set_option maxHeartbeats 8000000 in
theorem impl_ParseCron.fields (g : Nat) (w : World) :
 Calls Tryd.prog 47 #[.pointer (some ⟨g, 0, none⟩)] w fun e w' => e = .returned (.agg #[.pointer (some ⟨g, 0, none⟩), .pointer (some ⟨g, 1, none⟩), .pointer (some ⟨g, 2, none⟩), .pointer (some ⟨g, 3, none⟩), .pointer (some ⟨g, 4, none⟩)]) ∧ Below w.heap.size w w' := by
 have HB := Aside0.mk (Below.refl w.heap.size w)
 go_enter Tryd.func47, Tryd.ntmps47
 go_wp2_with ((with_reducible refine gate_dst (N := 2) rfl ?_); refine bxE 2 #[.pointer none, .pointer none, .pointer none, .pointer none, .pointer none] 85 ?_; intro gb hg w2 hbox hb; have HB2 := Aside0.mk hb; have BK := Aside0.mk hbox; have GE := Aside0.mk (show w.heap.size ≤ gb by rw [hg]; exact Nat.le_refl _); clear hb hbox hg)
 go_still_tail 16, (by kernel_rfl)
 have HB3 := Aside0.mk (below_drew1 HB2.out)
 have BK3 := Aside0.mk (blk_drew BK.out)
 clear HB2 BK
 refine store_blk rfl rfl 85 (.tmp 2) (.tmp 18) rfl (.agg #[.pointer (some ⟨g, 0, none⟩), .pointer (some ⟨g, 1, none⟩), .pointer (some ⟨g, 2, none⟩), .pointer (some ⟨g, 3, none⟩), .pointer (some ⟨g, 4, none⟩)]) [.pointer (some ⟨g, 0, none⟩), .pointer (some ⟨g, 1, none⟩), .pointer (some ⟨g, 2, none⟩), .pointer (some ⟨g, 3, none⟩), .pointer (some ⟨g, 4, none⟩)] rfl rfl rfl (by kernel_rfl) BK3.out (by simp) (by intro q hq; simp at hq; rcases hq with rfl | rfl | rfl | rfl | rfl <;> rfl) ?_
 intro w4 cur hc hcl hg
 have HG := Aside0.mk hg
 obtain rfl : cur = #[.pointer (some ⟨g, 0, none⟩), .pointer (some ⟨g, 1, none⟩), .pointer (some ⟨g, 2, none⟩), .pointer (some ⟨g, 3, none⟩), .pointer (some ⟨g, 4, none⟩)] := Array.toList_inj.mp (hcl.trans rfl)
 have BK4 := Aside0.mk hc
 clear hcl hc hg BK3
 go_wp2
 refine bodyPost_ret (results_cell_row rfl _ _ gb 85 _ (0, 0) _ rfl BK4.out Tryd.underlying85 rfl (by kernel_rfl)) rfl ⟨rfl, ?_⟩
 exact (HB3.out).grown HG.out (below_size HB3.out) (fun k hk => by injection hk with hk; subst hk; exact GE.out)
theorem impl_ParseCron.index5 (g i : Nat) (h : i < 5) (W : World) : (Instr.index 85 (.agg #[.pointer (some ⟨g, 0, none⟩), .pointer (some ⟨g, 1, none⟩), .pointer (some ⟨g, 2, none⟩), .pointer (some ⟨g, 3, none⟩), .pointer (some ⟨g, 4, none⟩)]) (.int .i64 (i : Int))).run Tryd.prog W = .ok (.pointer (some ⟨g, i, none⟩)) W := by
 obtain rfl | rfl | rfl | rfl | rfl : i = 0 ∨ i = 1 ∨ i = 2 ∨ i = 3 ∨ i = 4 := by omega
 all_goals kernel_rfl
def impl_ParseCron.go (k : Nat) : Nat → List ByteArray → List (List Int) → Option (Option (List (List Int)))
 | _, [], acc => some (some acc)
 | i, p :: ps, acc => (impl_parseField.f k p (i : Int)).bind fun t => if t.2 = true then impl_ParseCron.go k (i + 1) ps (acc ++ [t.1]) else some none
def impl_ParseCron.fin : Option (List (List Int)) → Option (List Int × List Int × List Int × List Int × List Int × Bool)
 | none => some ([], [], [], [], [], false)
 | some l => some (l.getD 0 [], l.getD 1 [], l.getD 2 [], l.getD 3 [], l.getD 4 [], true)
def impl_ParseCron.f (k : Nat) (a0 : ByteArray) : Option (List Int × List Int × List Int × List Int × List Int × Bool) :=
 (impl_PartsOf.f k a0).bind fun t => if t.2 = true ∧ t.1.length = 5 then (impl_ParseCron.go k 0 t.1 []).bind impl_ParseCron.fin else some ([], [], [], [], [], false)
theorem impl_ParseCron.go_at (k : Nat) (ps : List ByteArray) (i : Nat) (hi2 : i < ps.length) (acc : List (List Int)) (o : Option (List (List Int))) (h : impl_ParseCron.go k i (ps.drop i) acc = some o) :
 ∃ t, impl_parseField.f k (rdOf ByteArray.empty ps (i : Int)) (i : Int) = some t ∧ ((t.2 = false ∧ o = none) ∨ (t.2 = true ∧ impl_ParseCron.go k (i + 1) (ps.drop (i + 1)) (acc ++ [t.1]) = some o)) := by
 rw [List.drop_eq_getElem_cons hi2] at h
 unfold impl_ParseCron.go at h
 obtain ⟨t, ht, h⟩ := Option.bind_eq_some_iff.mp h
 have e : rdOf ByteArray.empty ps (i : Int) = ps[i] := by
  show ps.getD i ByteArray.empty = _
  rw [List.getD_eq_getElem?_getD, List.getElem?_eq_getElem hi2]
  rfl
 refine ⟨t, by rw [e]; exact ht, ?_⟩
 by_cases ho : t.2 = true
 ·rw [if_pos ho] at h
  exact .inr ⟨ho, h⟩
 ·rw [if_neg ho] at h
  exact .inl ⟨by simpa using ho, (Option.some.inj h).symm⟩
theorem impl_ParseCron.puts (w : World) (gr : Nat) (h0 : w.heap[gr]? = some (.cells #[.slice none 0 0, .slice none 0 0, .slice none 0 0, .slice none 0 0, .slice none 0 0] 47 (0, 0))) (u0 u1 u2 u3 u4 : Value) :
 (∀ {base : Nat} {ok : Nat → Prop} {v : Value} {xs : List Int}, Kq.R w base ok v xs → Kq.R (((((w.setCell ⟨gr, 0, none⟩ u0).setCell ⟨gr, 1, none⟩ u1).setCell ⟨gr, 2, none⟩ u2).setCell ⟨gr, 3, none⟩ u3).setCell ⟨gr, 4, none⟩ u4) base ok v xs) ∧
 (∀ {w0 : World}, Below w0.heap.size w0 w → w0.heap.size ≤ gr → Below w0.heap.size w0 (((((w.setCell ⟨gr, 0, none⟩ u0).setCell ⟨gr, 1, none⟩ u1).setCell ⟨gr, 2, none⟩ u2).setCell ⟨gr, 3, none⟩ u3).setCell ⟨gr, 4, none⟩ u4)) := by
 have h1 := blk_set h0 0 u0
 have h2 := blk_set h1 1 u1
 have h3 := blk_set h2 2 u2
 have h4 := blk_set h3 3 u3
 exact ⟨fun h => Kq.far (Kq.far (Kq.far (Kq.far (Kq.far h h0 0 u0) h1 1 u1) h2 2 u2) h3 3 u3) h4 4 u4, fun h hg => below_set (below_set (below_set (below_set (below_set h hg) hg) hg) hg) hg⟩
set_option maxHeartbeats 16000000 in
set_option maxRecDepth 100000 in
theorem impl_ParseCron.calls (k : Nat) (a0 : ByteArray) (r1 r2 r3 r4 r5 : List Int) (r6 : Bool) (w : World) (h : impl_ParseCron.f k a0 = some (r1, r2, r3, r4, r5, r6)) (htab : Cx.Ok w) :
 Calls Tryd.prog 19 #[.string a0] w fun e w' => ∃ v0_ v1_ v2_ v3_ v4_ : Value, e = .returned (.tuple #[.agg #[v0_, v1_, v2_, v3_, v4_], .bool r6]) ∧ Kq.R w' w.heap.size (fun k_ => some k_ ≠ (v1_ : Value).ownBlock ∧ some k_ ≠ (v2_ : Value).ownBlock ∧ some k_ ≠ (v3_ : Value).ownBlock ∧ some k_ ≠ (v4_ : Value).ownBlock) v0_ r1 ∧ Kq.R w' w.heap.size (fun k_ => some k_ ≠ (v0_ : Value).ownBlock ∧ some k_ ≠ (v2_ : Value).ownBlock ∧ some k_ ≠ (v3_ : Value).ownBlock ∧ some k_ ≠ (v4_ : Value).ownBlock) v1_ r2 ∧ Kq.R w' w.heap.size (fun k_ => some k_ ≠ (v0_ : Value).ownBlock ∧ some k_ ≠ (v1_ : Value).ownBlock ∧ some k_ ≠ (v3_ : Value).ownBlock ∧ some k_ ≠ (v4_ : Value).ownBlock) v2_ r3 ∧ Kq.R w' w.heap.size (fun k_ => some k_ ≠ (v0_ : Value).ownBlock ∧ some k_ ≠ (v1_ : Value).ownBlock ∧ some k_ ≠ (v2_ : Value).ownBlock ∧ some k_ ≠ (v4_ : Value).ownBlock) v3_ r4 ∧ Kq.R w' w.heap.size (fun k_ => some k_ ≠ (v0_ : Value).ownBlock ∧ some k_ ≠ (v1_ : Value).ownBlock ∧ some k_ ≠ (v2_ : Value).ownBlock ∧ some k_ ≠ (v3_ : Value).ownBlock) v4_ r5 ∧ Below w.heap.size w w' := by
 have hu47 := Tryd.underlying47
 have HT := aM htab
 obtain ⟨⟨ps, ok⟩, hp, H⟩ := Option.bind_eq_some_iff.mp h
 have HP := aM hp
 have HH := aM H
 clear h htab hp H
 cases ok with
 | false =>
  have HF := aM (show ([] : List Int) = r1 ∧ ([] : List Int) = r2 ∧ ([] : List Int) = r3 ∧ ([] : List Int) = r4 ∧ ([] : List Int) = r5 ∧ false = r6 by have := HH.out; rw [if_neg (by simp)] at this; simpa using this)
  go_enter Tryd.func19, Tryd.ntmps19
  go_upto_region 2 with (first | ((with_reducible refine gate_dst (N := 2) rfl ?_); (try (refine gate_guard (by rfl) ?_; dsimp only)); refine bxE 2 #[.slice none 0 0, .slice none 0 0, .slice none 0 0, .slice none 0 0, .slice none 0 0] 47 ?_; intro gr hg w2 hbox hb; have BK := aM hbox; have GR := aM (show w.heap.size ≤ gr by rw [hg]; exact Nat.le_refl _); have HB2 := aM hb; clear hb hbox hg) | ((with_reducible refine gate_callee (f := 46) rfl ?_); refine gL (some 13) Tryd.func46 #[.string a0] ?_; (with_reducible refine (impl_PartsOf.calls k a0 ps false _ HP.out (Cx.on HT.out HB2.out)).mono ?_); rintro e w5 ⟨vP, rfl, hR, hb⟩; refine ⟨_, rfl, ?_⟩; have HPS := aM (Kd.R_lower hR HB2.out.size); have BKr := aM (blk_below BK.out hb); have HB5 := aM (below_step HB2.out hb); clear hb hR BK; obtain ⟨A, c, eA⟩ := Kd.R_slice HPS.out; subst eA))
  (try simp only [Act.put, List.setIfInBounds_toArray, List.set_cons_zero, List.set_cons_succ])
  have hczr_0 := czA BKr.out 0 (.slice none 0 0); have hczr_1 := czA BKr.out 1 (.slice none 0 0); have hczr_2 := czA BKr.out 2 (.slice none 0 0); have hczr_3 := czA BKr.out 3 (.slice none 0 0); have hczr_4 := czA BKr.out 4 (.slice none 0 0); have hfzr_0 := blk_frozen BKr.out 0; have hfzr_1 := blk_frozen BKr.out 1; have hfzr_2 := blk_frozen BKr.out 2; have hfzr_3 := blk_frozen BKr.out 3; have hfzr_4 := blk_frozen BKr.out 4
  go_wp2
  refine bodyPost_ret (results_ct rfl _ _ gr 47 #[.slice none 0 0, .slice none 0 0, .slice none 0 0, .slice none 0 0, .slice none 0 0] (0, 0) _ rfl (by refine nB ?_; refine blk_put (cs := #[.slice none 0 0, .slice none 0 0, .slice none 0 0, .slice none 0 0, .slice none 0 0]) ?_ 4 _ rfl; refine nB ?_; refine blk_put (cs := #[.slice none 0 0, .slice none 0 0, .slice none 0 0, .slice none 0 0, .slice none 0 0]) ?_ 3 _ rfl; refine nB ?_; refine blk_put (cs := #[.slice none 0 0, .slice none 0 0, .slice none 0 0, .slice none 0 0, .slice none 0 0]) ?_ 2 _ rfl; refine nB ?_; refine blk_put (cs := #[.slice none 0 0, .slice none 0 0, .slice none 0 0, .slice none 0 0, .slice none 0 0]) ?_ 1 _ rfl; refine nB ?_; refine blk_put (cs := #[.slice none 0 0, .slice none 0 0, .slice none 0 0, .slice none 0 0, .slice none 0 0]) ?_ 0 _ rfl; refine nB ?_; exact nB BKr.out) Tryd.underlying47 rfl (by kernel_rfl)) rfl ?_
  obtain ⟨rfl, rfl, rfl, rfl, rfl, rfl⟩ := HF.out
  exact ⟨_, _, _, _, _, rfl, .inl ⟨rfl, rfl⟩, .inl ⟨rfl, rfl⟩, .inl ⟨rfl, rfl⟩, .inl ⟨rfl, rfl⟩, .inl ⟨rfl, rfl⟩, by (with_reducible repeat first | apply lA | apply lN | apply lD | (refine below_set ?_ GR.out)); exact HB5.out⟩
 | true =>
  by_cases h5 : ps.length = 5
  case neg =>
   have HF := aM (show ([] : List Int) = r1 ∧ ([] : List Int) = r2 ∧ ([] : List Int) = r3 ∧ ([] : List Int) = r4 ∧ ([] : List Int) = r5 ∧ false = r6 by have := HH.out; rw [if_neg (fun hc => h5 hc.2)] at this; simpa using this)
   have hn5 : ((ps.length : Int) != 5) = true := bne_iff_ne.2 (by omega)
   go_enter Tryd.func19, Tryd.ntmps19
   go_upto_region 2 with (first | ((with_reducible refine gate_dst (N := 2) rfl ?_); (try (refine gate_guard (by rfl) ?_; dsimp only)); refine bxE 2 #[.slice none 0 0, .slice none 0 0, .slice none 0 0, .slice none 0 0, .slice none 0 0] 47 ?_; intro gr hg w2 hbox hb; have BK := aM hbox; have GR := aM (show w.heap.size ≤ gr by rw [hg]; exact Nat.le_refl _); have HB2 := aM hb; clear hb hbox hg) | ((with_reducible refine gate_callee (f := 46) rfl ?_); refine gL (some 13) Tryd.func46 #[.string a0] ?_; (with_reducible refine (impl_PartsOf.calls k a0 ps true _ HP.out (Cx.on HT.out HB2.out)).mono ?_); rintro e w5 ⟨vP, rfl, hR, hb⟩; refine ⟨_, rfl, ?_⟩; have HPS := aM (Kd.R_lower hR HB2.out.size); have BKr := aM (blk_below BK.out hb); have HB5 := aM (below_step HB2.out hb); clear hb hR BK; obtain ⟨A, c, eA⟩ := Kd.R_slice HPS.out; subst eA))
   (try simp only [Act.put, List.setIfInBounds_toArray, List.set_cons_zero, List.set_cons_succ])
   have hczr_0 := czA BKr.out 0 (.slice none 0 0); have hczr_1 := czA BKr.out 1 (.slice none 0 0); have hczr_2 := czA BKr.out 2 (.slice none 0 0); have hczr_3 := czA BKr.out 3 (.slice none 0 0); have hczr_4 := czA BKr.out 4 (.slice none 0 0); have hfzr_0 := blk_frozen BKr.out 0; have hfzr_1 := blk_frozen BKr.out 1; have hfzr_2 := blk_frozen BKr.out 2; have hfzr_3 := blk_frozen BKr.out 3; have hfzr_4 := blk_frozen BKr.out 4
   go_wp2
   refine bodyPost_ret (results_ct rfl _ _ gr 47 #[.slice none 0 0, .slice none 0 0, .slice none 0 0, .slice none 0 0, .slice none 0 0] (0, 0) _ rfl (by refine nB ?_; refine blk_put (cs := #[.slice none 0 0, .slice none 0 0, .slice none 0 0, .slice none 0 0, .slice none 0 0]) ?_ 4 _ rfl; refine nB ?_; refine blk_put (cs := #[.slice none 0 0, .slice none 0 0, .slice none 0 0, .slice none 0 0, .slice none 0 0]) ?_ 3 _ rfl; refine nB ?_; refine blk_put (cs := #[.slice none 0 0, .slice none 0 0, .slice none 0 0, .slice none 0 0, .slice none 0 0]) ?_ 2 _ rfl; refine nB ?_; refine blk_put (cs := #[.slice none 0 0, .slice none 0 0, .slice none 0 0, .slice none 0 0, .slice none 0 0]) ?_ 1 _ rfl; refine nB ?_; refine blk_put (cs := #[.slice none 0 0, .slice none 0 0, .slice none 0 0, .slice none 0 0, .slice none 0 0]) ?_ 0 _ rfl; refine nB ?_; exact nB BKr.out) Tryd.underlying47 rfl (by kernel_rfl)) rfl ?_
   obtain ⟨rfl, rfl, rfl, rfl, rfl, rfl⟩ := HF.out
   exact ⟨_, _, _, _, _, rfl, .inl ⟨rfl, rfl⟩, .inl ⟨rfl, rfl⟩, .inl ⟨rfl, rfl⟩, .inl ⟨rfl, rfl⟩, .inl ⟨rfl, rfl⟩, by (with_reducible repeat first | apply lA | apply lN | apply lD | (refine below_set ?_ GR.out)); exact HB5.out⟩
  obtain ⟨o, hgo, hfin⟩ := Option.bind_eq_some_iff.mp (show (impl_ParseCron.go k 0 ps []).bind impl_ParseCron.fin = some (r1, r2, r3, r4, r5, r6) by have := HH.out; rwa [if_pos ⟨rfl, h5⟩] at this)
  have HGO := aM hgo
  have HF := aM hfin
  clear hgo hfin HH
  have H5 := aM h5
  have hn5 : ((ps.length : Int) != 5) = false := by rw [h5]; rfl
  clear h5
  go_enter Tryd.func19, Tryd.ntmps19
  go_upto_region 2 with (first | ((with_reducible refine gate_dst (N := 2) rfl ?_); (try (refine gate_guard (by rfl) ?_; dsimp only)); refine bxE 2 #[.slice none 0 0, .slice none 0 0, .slice none 0 0, .slice none 0 0, .slice none 0 0] 47 ?_; intro gr hg w2 hbox hb; have BK := aM hbox; have GR := aM (show w.heap.size ≤ gr by rw [hg]; exact Nat.le_refl _); have HB2 := aM hb; clear hb hbox hg) | ((with_reducible refine gate_callee (f := 46) rfl ?_); refine gL (some 13) Tryd.func46 #[.string a0] ?_; (with_reducible refine (impl_PartsOf.calls k a0 ps true _ HP.out (Cx.on HT.out HB2.out)).mono ?_); rintro e w5 ⟨vP, rfl, hR, hb⟩; refine ⟨_, rfl, ?_⟩; have HPS := aM (Kd.R_lower hR HB2.out.size); have BKr := aM (blk_below BK.out hb); have HB5 := aM (below_step HB2.out hb); clear hb hR BK; obtain ⟨A, c, eA⟩ := Kd.R_slice HPS.out; subst eA))
  (try simp only [Act.put, List.setIfInBounds_toArray, List.set_cons_zero, List.set_cons_succ])
  go_wp2_with (first | ((with_reducible refine gate_dst (N := 6) rfl ?_); (try (refine gate_guard (by rfl) ?_; dsimp only)); refine bxE 6 #[.slice none 0 0, .slice none 0 0, .slice none 0 0, .slice none 0 0, .slice none 0 0] 47 ?_; intro gc hg w6 hbox hb; have BKc := aM hbox; have GC := aM (show w.heap.size ≤ gc by rw [hg]; exact HB5.out.size); have NE := aM (show gc ≠ gr by rw [hg]; exact Nat.ne_of_gt (blk_lt BKr.out)); have BKr6 := aM (blk_below BKr.out hb); have HPS6 := aM (Kd.R_below HPS.out hb); have HB6 := aM (below_step HB5.out hb); clear hb hbox hg BKr HPS HB5) | (go_at_call 47; refine (impl_ParseCron.fields _ _).mono ?_; rintro e w7 ⟨rfl, hb⟩; have BKc7 := aM (blk_below BKc.out hb); have BKr7 := aM (blk_below BKr6.out hb); have HPS7 := aM (Kd.R_below HPS6.out hb); have HB7 := aM (below_step HB6.out hb); clear hb BKc BKr6 HPS6 HB6))
  go_loopw [25] (fun v25 wr => ∃ (i : Nat) (U : Nat → Value) (acc : List (List Int)), i ≤ 5 ∧ v25 = .int .i64 (i : Int) ∧ Aside0 (wr.heap[gc]? = some (.cells #[U 0, U 1, U 2, U 3, U 4] 47 (0, 0))) ∧ Aside0 (wr.heap[gr]? = some (.cells #[.slice none 0 0, .slice none 0 0, .slice none 0 0, .slice none 0 0, .slice none 0 0] 47 (0, 0))) ∧ Aside0 (Kd.R Kd.string 9 wr w.heap.size (fun _ => True) (.slice A ps.length c) ps) ∧ Aside0 (Below w.heap.size w wr) ∧ Aside0 (acc.length = i) ∧ Aside0 (impl_ParseCron.go k i (ps.drop i) acc = some o) ∧ Aside0 (∀ j, j < i → Kq.R wr w.heap.size (fun _ => True) (U j) (acc.getD j [])) ∧ Aside0 (∀ j, i ≤ j → U j = .slice none 0 0) ∧ Aside0 (∀ j j', j < j' → j' < i → ∀ b, (U j).ownBlock = some b → (U j').ownBlock ≠ some b)) (fun v25 wr => 5 - (intOf v25).toNat)
  case atStart => exact ⟨0, fun _ => .slice none 0 0, [], by omega, rfl, BKc7, BKr7, HPS7, HB7, ⟨rfl⟩, HGO, ⟨fun j hj => absurd hj (by omega)⟩, ⟨fun _ _ => rfl⟩, ⟨fun j j' _ hj => absurd hj (by omega)⟩⟩
  case round =>
   clear HGO BKc7 BKr7 HPS7 HB7
   obtain ⟨i, U, acc, hi5, rfl, BKc, BKr, HPS, HB, HAL, HG, HU, HN, HD⟩ := hrel
   obtain ⟨wo, rfl⟩ : ∃ z, z = wr := ⟨_, rfl⟩
   by_cases hlt : i < 5
   ·have hix := impl_ParseCron.index5 gc i hlt
    obtain ⟨ad, eA, hxx⟩ := Kd.at_string (Kd.R_reads' HPS.out).2.2 (i : Int) (by omega) (by rw [H5.out]; omega)
    subst eA
    obtain ⟨⟨r, b⟩, hp, hcase⟩ := impl_ParseCron.go_at k ps i (by rw [H5.out]; exact hlt) acc o HG.out
    obtain ⟨x, hxv⟩ : ∃ x, x = rdOf ByteArray.empty ps (i : Int) := ⟨_, rfl⟩
    have hx : wo.cell? (ad.add i) = some (.string x) := by rw [hxv]; exact hxx
    rw [← hxv] at hp
    have HPF := aM hp
    clear hxx hxv hp
    have c1 : decide ((i : Int) < 5) = true := decide_eq_true (by omega)
    have p1 : (0 ≤ (i : Int)) = True := eq_true (by omega)
    have q1 : ((i : Int) < (ps.length : Int)) = True := eq_true (by rw [H5.out]; omega)
    rcases hcase with ⟨ho, hno⟩ | ⟨ho, hg⟩
    ·obtain rfl : b = false := ho
     have HF2 := aM (show ([] : List Int) = r1 ∧ ([] : List Int) = r2 ∧ ([] : List Int) = r3 ∧ ([] : List Int) = r4 ∧ ([] : List Int) = r5 ∧ false = r6 by have := HF.out; rw [hno] at this; simpa [impl_ParseCron.fin] using this)
     clear hno HG HF HU HN HD HAL
     go_wp2_with (first | (go_at_call 48; refine (impl_parseField.calls k x (i : Int) r false _ HPF.out (Cx.on HT.out HB.out)).mono ?_; rintro e w8 ⟨v8, rfl, hq8, hb⟩; have BKr8 := aM (blk_below BKr.out hb); have HB8 := aM (below_step HB.out hb); clear hb; obtain ⟨A8, c8, e8⟩ := Kq.form hq8; subst e8; clear hq8; have hczr8_0 := czA BKr8.out 0 (.slice none 0 0); have hczr8_1 := czA BKr8.out 1 (.slice none 0 0); have hczr8_2 := czA BKr8.out 2 (.slice none 0 0); have hczr8_3 := czA BKr8.out 3 (.slice none 0 0); have hczr8_4 := czA BKr8.out 4 (.slice none 0 0); have hfzr8_0 := blk_frozen BKr8.out 0; have hfzr8_1 := blk_frozen BKr8.out 1; have hfzr8_2 := blk_frozen BKr8.out 2; have hfzr8_3 := blk_frozen BKr8.out 3; have hfzr8_4 := blk_frozen BKr8.out 4))
     refine bodyPost_ret (results_ct rfl _ _ gr 47 #[.slice none 0 0, .slice none 0 0, .slice none 0 0, .slice none 0 0, .slice none 0 0] (0, 0) _ rfl (by refine nB ?_; refine blk_put (cs := #[.slice none 0 0, .slice none 0 0, .slice none 0 0, .slice none 0 0, .slice none 0 0]) ?_ 4 _ rfl; refine nB ?_; refine blk_put (cs := #[.slice none 0 0, .slice none 0 0, .slice none 0 0, .slice none 0 0, .slice none 0 0]) ?_ 3 _ rfl; refine nB ?_; refine blk_put (cs := #[.slice none 0 0, .slice none 0 0, .slice none 0 0, .slice none 0 0, .slice none 0 0]) ?_ 2 _ rfl; refine nB ?_; refine blk_put (cs := #[.slice none 0 0, .slice none 0 0, .slice none 0 0, .slice none 0 0, .slice none 0 0]) ?_ 1 _ rfl; refine nB ?_; refine blk_put (cs := #[.slice none 0 0, .slice none 0 0, .slice none 0 0, .slice none 0 0, .slice none 0 0]) ?_ 0 _ rfl; refine nB ?_; exact nB BKr8.out) Tryd.underlying47 rfl (by kernel_rfl)) rfl ?_
     obtain ⟨rfl, rfl, rfl, rfl, rfl, rfl⟩ := HF2.out
     exact ⟨_, _, _, _, _, rfl, .inl ⟨rfl, rfl⟩, .inl ⟨rfl, rfl⟩, .inl ⟨rfl, rfl⟩, .inl ⟨rfl, rfl⟩, .inl ⟨rfl, rfl⟩, by (with_reducible repeat first | apply lA | apply lN | apply lD | (refine below_set ?_ GR.out)); exact HB8.out⟩
    ·obtain rfl : b = true := ho
     have HG2 := aM hg
     have hcell := (blk_cell BKc.out i).trans (show (#[U 0, U 1, U 2, U 3, U 4] : Array Value)[i]? = some (.slice none 0 0) by
      have hn := HN.out
      obtain rfl | rfl | rfl | rfl | rfl : i = 0 ∨ i = 1 ∨ i = 2 ∨ i = 3 ∨ i = 4 := by omega
      ·exact congrArg some (hn 0 (by omega))
      ·exact congrArg some (hn 1 (by omega))
      ·exact congrArg some (hn 2 (by omega))
      ·exact congrArg some (hn 3 (by omega))
      ·exact congrArg some (hn 4 (by omega)))
     have HCE := aM hcell
     clear hg hcell
     go_wp2_with (first | (go_at_call 48; refine (impl_parseField.calls k x (i : Int) r true _ HPF.out (Cx.on HT.out HB.out)).mono ?_; rintro e w8 ⟨v8, rfl, hq8, hb⟩; have HQ8 := aM hq8; have BKc8 := aM (blk_below BKc.out hb); have BKr8 := aM (blk_below BKr.out hb); have HPS8 := aM (Kd.R_below HPS.out hb); have HB8 := aM (below_step HB.out hb); have HU8 := aM (fun j hj => Kq.below (HU.out j hj) hb); have hcell8 := (hb.cell (World.block_lt_of_cell? _ _ HCE.out)).trans HCE.out; have hfr8 := blk_frozen BKc8.out i; clear hb hq8; obtain ⟨A8, c8, e8⟩ := Kq.form HQ8.out; subst e8))
     have hset : (#[U 0, U 1, U 2, U 3, U 4] : Array Value).setIfInBounds i (.slice A8 r.length c8) = #[(fun j => if j = i then .slice A8 r.length c8 else U j) 0, (fun j => if j = i then .slice A8 r.length c8 else U j) 1, (fun j => if j = i then .slice A8 r.length c8 else U j) 2, (fun j => if j = i then .slice A8 r.length c8 else U j) 3, (fun j => if j = i then .slice A8 r.length c8 else U j) 4] := by
      obtain rfl | rfl | rfl | rfl | rfl : i = 0 ∨ i = 1 ∨ i = 2 ∨ i = 3 ∨ i = 4 := by omega
      all_goals rfl
     refine ⟨⟨i + 1, fun j => if j = i then .slice A8 r.length c8 else U j, acc ++ [r], by omega, by rw [show (i : Int) + 1 = ((i + 1 : Nat) : Int) by omega], ⟨nB (blk_put BKc8.out i _ hset)⟩, ⟨nB (blk_far BKr8.out (fun e => NE.out e.symm) _)⟩, ⟨?ps⟩, ⟨nB (below_set HB8.out GC.out)⟩, ⟨by rw [List.length_append, HAL.out]; rfl⟩, HG2, ⟨?rows⟩, ⟨?nils⟩, ⟨?diff⟩⟩, ?_⟩
     case ps => exact nB (Kd.R_mono (Kd.R_far (p := ⟨gc, i, none⟩) (Kd.R_types HPS8.out BKc8.out (by decide)) (fun _ hk => hk.2) _) (fun _ _ => trivial))
     case rows =>
      intro j hj
      dsimp only
      by_cases hji : j = i
      ·subst hji
       rw [if_pos rfl]
       have e : (acc ++ [r]).getD j [] = r := by rw [List.getD_eq_getElem?_getD, ← HAL.out, List.getElem?_append_right (Nat.le_refl _), Nat.sub_self]; rfl
       rw [e]
       exact nB (Kq.far (Kq.lower HQ8.out HB.out.size) BKc8.out j _)
      ·rw [if_neg hji]
       have e : (acc ++ [r]).getD j [] = acc.getD j [] := by rw [List.getD_eq_getElem?_getD, List.getD_eq_getElem?_getD, List.getElem?_append_left (by rw [HAL.out]; omega)]
       rw [e]
       exact nB (Kq.far (HU8.out j (by omega)) BKc8.out i _)
     case nils =>
      intro j hj
      dsimp only
      rw [if_neg (by omega)]
      exact HN.out j (by omega)
     case diff =>
      intro j j' hjj hj' b hb
      dsimp only at hb ⊢
      rw [if_neg (show j ≠ i by omega)] at hb
      by_cases hji : j' = i
      ·subst hji
       rw [if_pos rfl]
       intro hb'
       have h1 := (Kq.bound (HU.out j hjj) b hb).2
       have h2 := (Kq.bound HQ8.out b hb').1
       omega
      ·rw [if_neg hji]
       exact HD.out j j' hjj (by omega) b hb
     simp only [intOf]
     omega
   ·obtain rfl : i = 5 := by omega
    have hno : some acc = o := Option.some.inj (by have := HG.out; rwa [List.drop_eq_nil_of_le (by rw [H5.out]; exact Nat.le_refl _)] at this)
    subst hno
    obtain ⟨q0, q1, q2, q3, q4, rfl⟩ : acc.getD 0 [] = r1 ∧ acc.getD 1 [] = r2 ∧ acc.getD 2 [] = r3 ∧ acc.getD 3 [] = r4 ∧ acc.getD 4 [] = r5 ∧ true = r6 := by have := HF.out; simpa [impl_ParseCron.fin] using this
    obtain ⟨A0, c0, e0⟩ := Kq.form (HU.out 0 (by omega))
    obtain ⟨A1, c1, e1⟩ := Kq.form (HU.out 1 (by omega))
    obtain ⟨A2, c2, e2⟩ := Kq.form (HU.out 2 (by omega))
    obtain ⟨A3, c3, e3⟩ := Kq.form (HU.out 3 (by omega))
    obtain ⟨A4, c4, e4⟩ := Kq.form (HU.out 4 (by omega))
    have K0 := HU.out 0 (by omega)
    have K1 := HU.out 1 (by omega)
    have K2 := HU.out 2 (by omega)
    have K3 := HU.out 3 (by omega)
    have K4 := HU.out 4 (by omega)
    have D := fun j j' h h' b hb => HD.out j j' h h' b hb
    rw [q0] at e0 K0
    rw [q1] at e1 K1
    rw [q2] at e2 K2
    rw [q3] at e3 K3
    rw [q4] at e4 K4
    have hs01 := D 0 1 (by omega) (by omega)
    have hs02 := D 0 2 (by omega) (by omega)
    have hs03 := D 0 3 (by omega) (by omega)
    have hs04 := D 0 4 (by omega) (by omega)
    have hs12 := D 1 2 (by omega) (by omega)
    have hs13 := D 1 3 (by omega) (by omega)
    have hs14 := D 1 4 (by omega) (by omega)
    have hs23 := D 2 3 (by omega) (by omega)
    have hs24 := D 2 4 (by omega) (by omega)
    have hs34 := D 3 4 (by omega) (by omega)
    have hbc := BKc.out
    rw [e0, e1, e2, e3, e4] at hbc
    rw [e0] at K0 hs01 hs02 hs03 hs04
    rw [e1] at K1 hs01 hs12 hs13 hs14
    rw [e2] at K2 hs02 hs12 hs23 hs24
    rw [e3] at K3 hs03 hs13 hs23 hs34
    rw [e4] at K4 hs04 hs14 hs24 hs34
    have BC := aM hbc
    have KK := aM (And.intro K0 (And.intro K1 (And.intro K2 (And.intro K3 K4))))
    have DD := aM (And.intro hs01 (And.intro hs02 (And.intro hs03 (And.intro hs04 (And.intro hs12 (And.intro hs13 (And.intro hs14 (And.intro hs23 (And.intro hs24 hs34)))))))))
    clear hbc K0 K1 K2 K3 K4 hs01 hs02 hs03 hs04 hs12 hs13 hs14 hs23 hs24 hs34 e0 e1 e2 e3 e4 q0 q1 q2 q3 q4 D HU HN HD BKc HAL HG HF
    have hc0 := czA BC.out 0 (.slice A0 r1.length c0)
    have hc1 := czA BC.out 1 (.slice A1 r2.length c1)
    have hc2 := czA BC.out 2 (.slice A2 r3.length c2)
    have hc3 := czA BC.out 3 (.slice A3 r4.length c3)
    have hc4 := czA BC.out 4 (.slice A4 r5.length c4)
    have hr0 := czA BKr.out 0 (.slice none 0 0)
    have hr1 := czA BKr.out 1 (.slice none 0 0)
    have hr2 := czA BKr.out 2 (.slice none 0 0)
    have hr3 := czA BKr.out 3 (.slice none 0 0)
    have hr4 := czA BKr.out 4 (.slice none 0 0)
    have hf0 := blk_frozen BKr.out 0; have hf1 := blk_frozen BKr.out 1; have hf2 := blk_frozen BKr.out 2; have hf3 := blk_frozen BKr.out 3; have hf4 := blk_frozen BKr.out 4
    go_wp2
    refine bodyPost_ret (results_ct rfl _ _ gr 47 #[.slice A0 r1.length c0, .slice A1 r2.length c1, .slice A2 r3.length c2, .slice A3 r4.length c3, .slice A4 r5.length c4] (0, 0) _ rfl (by refine nB ?_; refine blk_put (cs := #[.slice A0 r1.length c0, .slice A1 r2.length c1, .slice A2 r3.length c2, .slice A3 r4.length c3, .slice none 0 0]) ?_ 4 _ rfl; refine nB ?_; refine blk_put (cs := #[.slice A0 r1.length c0, .slice A1 r2.length c1, .slice A2 r3.length c2, .slice none 0 0, .slice none 0 0]) ?_ 3 _ rfl; refine nB ?_; refine blk_put (cs := #[.slice A0 r1.length c0, .slice A1 r2.length c1, .slice none 0 0, .slice none 0 0, .slice none 0 0]) ?_ 2 _ rfl; refine nB ?_; refine blk_put (cs := #[.slice A0 r1.length c0, .slice none 0 0, .slice none 0 0, .slice none 0 0, .slice none 0 0]) ?_ 1 _ rfl; refine nB ?_; refine blk_put (cs := #[.slice none 0 0, .slice none 0 0, .slice none 0 0, .slice none 0 0, .slice none 0 0]) ?_ 0 _ rfl; refine nB ?_; exact nB BKr.out) Tryd.underlying47 rfl (by kernel_rfl)) rfl ?_
    have PW := impl_ParseCron.puts wo gr BKr.out (.slice A0 r1.length c0) (.slice A1 r2.length c1) (.slice A2 r3.length c2) (.slice A3 r4.length c3) (.slice A4 r5.length c4)
    refine ⟨_, _, _, _, _, rfl, Kq.tell (nB (PW.1 KK.out.1)) ?_, Kq.tell (nB (PW.1 KK.out.2.1)) ?_, Kq.tell (nB (PW.1 KK.out.2.2.1)) ?_, Kq.tell (nB (PW.1 KK.out.2.2.2.1)) ?_, Kq.tell (nB (PW.1 KK.out.2.2.2.2)) ?_, nB (PW.2 HB.out GR.out)⟩
    ·exact fun k hk => ⟨fun e => DD.out.1 k hk e.symm, fun e => DD.out.2.1 k hk e.symm, fun e => DD.out.2.2.1 k hk e.symm, fun e => DD.out.2.2.2.1 k hk e.symm⟩
    ·exact fun k hk => ⟨fun e => DD.out.1 k e.symm hk, fun e => DD.out.2.2.2.2.1 k hk e.symm, fun e => DD.out.2.2.2.2.2.1 k hk e.symm, fun e => DD.out.2.2.2.2.2.2.1 k hk e.symm⟩
    ·exact fun k hk => ⟨fun e => DD.out.2.1 k e.symm hk, fun e => DD.out.2.2.2.2.1 k e.symm hk, fun e => DD.out.2.2.2.2.2.2.2.1 k hk e.symm, fun e => DD.out.2.2.2.2.2.2.2.2.1 k hk e.symm⟩
    ·exact fun k hk => ⟨fun e => DD.out.2.2.1 k e.symm hk, fun e => DD.out.2.2.2.2.2.1 k e.symm hk, fun e => DD.out.2.2.2.2.2.2.2.1 k e.symm hk, fun e => DD.out.2.2.2.2.2.2.2.2.2 k hk e.symm⟩
    ·exact fun k hk => ⟨fun e => DD.out.2.2.2.1 k e.symm hk, fun e => DD.out.2.2.2.2.2.2.1 k e.symm hk, fun e => DD.out.2.2.2.2.2.2.2.2.1 k e.symm hk, fun e => DD.out.2.2.2.2.2.2.2.2.2 k e.symm hk⟩
theorem impl_ParseCron.go_mono (k : Nat) : ∀ (ps : List ByteArray) (i : Nat) (acc : List (List Int)), LeO (impl_ParseCron.go k i ps acc) (impl_ParseCron.go (k + 1) i ps acc)
 | [], _, _ => LeO.refl _
 | p :: ps, i, acc => by
  unfold impl_ParseCron.go
  exact LeO.bind (impl_parseField.mono _ _ _) (fun t => LeO.ite (impl_ParseCron.go_mono k ps (i + 1) _) (LeO.refl _))
theorem impl_ParseCron.mono : ∀ a0 k, LeO (impl_ParseCron.f k a0) (impl_ParseCron.f (k + 1) a0) := by
 intro a0 k
 unfold impl_ParseCron.f
 exact LeO.bind (impl_PartsOf.mono _ _) (fun t => LeO.ite (LeO.bind (impl_ParseCron.go_mono k _ 0 []) (fun _ => LeO.refl _)) (LeO.refl _))

end Go.Proofs.YthomiofokkkhgaaDoor.QFnExactParseCron
