import Derived.Test.YtidfhfaekdahpaaProg
import Derived.Test.YtidfhfaekdahpaaWWords
/-! Words that the turned print's walks lean on. -/
namespace Go.Proofs.YtidfhfaekdahpaaQWords
open Go Go.RowKit
theorem bl_conv : ∀ (x y : List UInt8), (Op.bytesLess x y || x == y) = !Op.bytesLess y x
  | [], [] => by simp [Op.bytesLess]
  | _ :: _, [] => by simp [Op.bytesLess]
  | [], _ :: _ => by simp [Op.bytesLess]
  | a :: x, b :: y => by
    have ih := bl_conv x y
    simp only [Op.bytesLess, List.cons_beq_cons]
    by_cases h : a = b
    · subst h; simpa using ih
    · rcases Nat.lt_or_gt_of_ne (fun h' => h (UInt8.toNat_inj.mp h')) with g | g
      · have h1 : decide (a < b) = true := by simp only [decide_eq_true_eq, UInt8.lt_iff_toNat_lt]; exact g
        have h2 : decide (b < a) = false := by simp only [decide_eq_false_iff_not, UInt8.lt_iff_toNat_lt]; omega
        have h3 : (b == a) = false := by simpa using fun e => h e.symm
        simp [h1, h2, h3]
      · have h1 : decide (b < a) = true := by simp only [decide_eq_true_eq, UInt8.lt_iff_toNat_lt]; exact g
        have h2 : decide (a < b) = false := by simp only [decide_eq_false_iff_not, UInt8.lt_iff_toNat_lt]; omega
        have h3 : (a == b) = false := by simpa using h
        simp [h1, h2, h3]
theorem run_lss_str {P : Program} (w : World) (t : TypeId) (a b : ByteArray) : (binOp .lss t (.string a) (.string b)).run P w = .ok (.bool (Op.bytesLess a.toList b.toList)) w := by
  simp only [binOp, Op.stringOp]; rfl
theorem run_geq_str {P : Program} (w : World) (t : TypeId) (a b : ByteArray) : (binOp .geq t (.string a) (.string b)).run P w = .ok (.bool (!Op.bytesLess a.toList b.toList)) w := by
  simp only [binOp, Op.stringOp]; rfl
theorem run_leq_str {P : Program} (w : World) (t : TypeId) (a b : ByteArray) : (binOp .leq t (.string a) (.string b)).run P w = .ok (.bool (!Op.bytesLess b.toList a.toList)) w := by
  rw [← bl_conv]; simp only [binOp, Op.stringOp]; rfl
theorem run_gtr_str {P : Program} (w : World) (t : TypeId) (a b : ByteArray) : (binOp .gtr t (.string a) (.string b)).run P w = .ok (.bool (Op.bytesLess b.toList a.toList)) w := by
  rw [← Bool.not_not (Op.bytesLess b.toList a.toList), ← bl_conv]; simp only [binOp, Op.stringOp]; rfl
end Go.Proofs.YtidfhfaekdahpaaQWords
