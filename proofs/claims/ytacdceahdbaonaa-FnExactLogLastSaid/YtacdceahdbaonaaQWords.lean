import Derived.Test.YtacdceahdbaonaaProg
import Derived.Test.YtacdceahdbaonaaWMore
/-! Words that the turned print's walks lean on. -/
namespace Go.Proofs.YtacdceahdbaonaaQWords
open Go Go.RowKit
theorem bl_conv : ∀ (x y : List UInt8), (Op.bytesLess x y || x == y) = !Op.bytesLess y x
  | [], [] => by simp [Op.bytesLess]
  | _ :: _, [] => by simp [Op.bytesLess]
  | [], _ :: _ => by simp [Op.bytesLess]
  | a :: x, b :: y => by
    have ih := bl_conv x y
    simp only [Op.bytesLess, List.cons_beq_cons]
    by_cases h : a = b
    · subst h; simpa using ih
    · rcases Nat.lt_or_gt_of_ne (fun h' => h (UInt8.toNat_inj.mp h')) with g | g
      · have h1 : decide (a < b) = true := by simp only [decide_eq_true_eq, UInt8.lt_iff_toNat_lt]; exact g
        have h2 : decide (b < a) = false := by simp only [decide_eq_false_iff_not, UInt8.lt_iff_toNat_lt]; omega
        have h3 : (b == a) = false := by simpa using fun e => h e.symm
        simp [h1, h2, h3]
      · have h1 : decide (b < a) = true := by simp only [decide_eq_true_eq, UInt8.lt_iff_toNat_lt]; exact g
        have h2 : decide (a < b) = false := by simp only [decide_eq_false_iff_not, UInt8.lt_iff_toNat_lt]; omega
        have h3 : (a == b) = false := by simpa using h
        simp [h1, h2, h3]
theorem run_lss_str {P : Program} (w : World) (t : TypeId) (a b : ByteArray) : (binOp .lss t (.string a) (.string b)).run P w = .ok (.bool (Op.bytesLess a.toList b.toList)) w := by
  simp only [binOp, Op.stringOp]; rfl
theorem run_geq_str {P : Program} (w : World) (t : TypeId) (a b : ByteArray) : (binOp .geq t (.string a) (.string b)).run P w = .ok (.bool (!Op.bytesLess a.toList b.toList)) w := by
  simp only [binOp, Op.stringOp]; rfl
theorem run_leq_str {P : Program} (w : World) (t : TypeId) (a b : ByteArray) : (binOp .leq t (.string a) (.string b)).run P w = .ok (.bool (!Op.bytesLess b.toList a.toList)) w := by
  rw [← bl_conv]; simp only [binOp, Op.stringOp]; rfl
theorem run_gtr_str {P : Program} (w : World) (t : TypeId) (a b : ByteArray) : (binOp .gtr t (.string a) (.string b)).run P w = .ok (.bool (Op.bytesLess b.toList a.toList)) w := by
  rw [← Bool.not_not (Op.bytesLess b.toList a.toList), ← bl_conv]; simp only [binOp, Op.stringOp]; rfl
end Go.Proofs.YtacdceahdbaonaaQWords
namespace Go.Proofs.Ytacdceahdbaonaa
open Go.RowKit Go.Proofs.YtacdceahdbaonaaW.PrintWords
/-! short names for words of the kit that stand in a long walk hundreds of times -/
theorem bn_ {w : World} {g : Nat} {o : Obj} (h : w.heap[g]? = some o) (n : Nat) : (w.drewN n).heap[g]? = some o := blk_drewN h n
theorem bd_ {w : World} {g : Nat} {o : Obj} (h : w.heap[g]? = some o) : w.drew.heap[g]? = some o := blk_drew h
theorem ba_ {w : World} {g : Nat} {o : Obj} (h : w.heap[g]? = some o) (o' : Obj) : (w.alloc o').heap[g]? = some o := blk_alloc h o'
theorem la_ {w W : World} (h : Below w.heap.size w W) (o : Obj) : Below w.heap.size w (W.alloc o) := below_alloc h o
theorem ln_ {B : Nat} {w W : World} (h : Below B w W) (n : Nat) : Below B w (W.drewN n) := pw_below_drewN h n
theorem ld_ {base : Nat} {w W : World} (h : Below base w W) : Below base w W.drew := below_drew1 h
theorem ls_ {w W : World} {g j : Nat} {v : Value} (h : Below w.heap.size w W) (hg : w.heap.size ≤ g) : Below w.heap.size w (W.setCell ⟨g, j, none⟩ v) := below_set h hg
theorem am_ {p : Prop} (h : p) : Aside0 p := ⟨h⟩
theorem mt_ {α β : Type} {f : α → β} {l : List α} : l.toArray.map f = (l.map f).toArray := List.map_toArray
theorem mc_ {α β : Type} {f : α → β} {a : α} {l : List α} : List.map f (a :: l) = f a :: List.map f l := List.map_cons
theorem mn_ {α β : Type} {f : α → β} : List.map f [] = [] := List.map_nil
theorem ldr_ {α : Type} {i : Nat} {l : List α} : (l.drop i).length = l.length - i := List.length_drop
theorem ltk_ {α : Type} {i : Nat} {l : List α} : (l.take i).length = min i l.length := List.length_take
section
variable {α : Type} {d : Kd α} {e : Nat} {w : World} {base : Nat} {ok : Nat → Prop} {v : Value} {xs : List α}
theorem ra_ (h : d.R e w base ok v xs) (o : Obj) : d.R e (w.alloc o) base ok v xs := Kd.R_alloc h o
theorem rd_ (h : d.R e w base ok v xs) : d.R e w.drew base ok v xs := Kd.R_drew h
theorem rn_ (h : d.R e w base ok v xs) (m : Nat) : d.R e (w.drewN m) base ok v xs := Kd.R_drewN h m
end
end Go.Proofs.Ytacdceahdbaonaa
