/- For every text the program's Hex returns what the reference's returns, without a condition of its own. -/
import Derived.Test.YtjfhaaoklmimeaaQFnExactHexx1
namespace Go.Proofs.Ytjfhaaoklmimeaa.Pure
open Go.RowKit Go.Proofs.Ytjfhaaoklmimeaa.QFnExactHex Go.Proofs.YtjfhaaoklmimeaaW.PrintWords Go.Proofs.YtjfhaaoklmimeaaW.PrintLast

set_option linter.unusedVariables false
set_option linter.unusedSimpArgs false
/-! small words on rounds -/
theorem wid {x : Int} (h0 : -9223372036854775808 ≤ x) (h1 : x ≤ 9223372036854775807) : wrap64 x = x := by
  unfold wrap64; omega
theorem wrap_to {x y : Int} (h : x = y) (h0 : -9223372036854775808 ≤ y) (h1 : y ≤ 9223372036854775807) : wrap64 x = y := by
  rw [h]; exact wid h0 h1
theorem ev_some {α : Type} {o : Option α} {r : α} (h : o = some r) : Ev (fun _ => o) r := ⟨0, fun _ _ => h⟩
theorem ev_succ {α : Type} {g : Nat → Option α} {r : α} (h : Ev (fun k => g (k + 1)) r) : Ev g r := Ev.step (fun _ => rfl) h
theorem ev_if {α : Type} {c : Prop} [Decidable c] {f g : Nat → Option α} {r : α} (h : c) (k : Ev f r) : Ev (fun n => if c then f n else g n) r := by
  simp only [if_pos h]; exact k
theorem ev_else {α : Type} {c : Prop} [Decidable c] {f g : Nat → Option α} {r : α} (h : ¬ c) (k : Ev g r) : Ev (fun n => if c then f n else g n) r := by
  simp only [if_neg h]; exact k
theorem ev_bind0 {α β : Type} {o : Option α} {f : Nat → α → Option β} {a : α} {r : β} (h : o = some a) (k : Ev (fun n => f n a) r) : Ev (fun n => o.bind (f n)) r := by
  subst h; exact k
theorem ev_bind {α β : Type} {g : Nat → Option α} {f : Nat → α → Option β} {a : α} {r : β} (h : Ev g a) (k : Ev (fun n => f n a) r) : Ev (fun n => (g n).bind (f n)) r := Ev.bind h k
theorem ev_eq {α : Type} {g : Nat → Option α} {a b : α} (h : Ev g a) (e : a = b) : Ev g b := e ▸ h
theorem tdivp {a b : Int} (h : 0 ≤ a) : Int.tdiv a b = a / b := Int.tdiv_eq_ediv_of_nonneg h
theorem tmodp {a b : Int} (h : 0 ≤ a) : Int.tmod a b = a % b := Int.tmod_eq_emod_of_nonneg h
theorem toList_iff (a b : ByteArray) : a.toList = b.toList ↔ a = b := by
  rw [ByteArray.toList_eq, ByteArray.toList_eq]
  exact ⟨fun h => ByteArray.ext (Array.toList_inj.mp h), fun h => by rw [h]⟩
theorem drop_getD {α : Type} (l : List α) (d : α) (i : Nat) (h : i < l.length) : l.drop i = l.getD i d :: l.drop (i + 1) := by
  rw [List.drop_eq_getElem_cons h, List.getD_eq_getElem?_getD, List.getElem?_eq_getElem h]
  rfl
theorem drop_end {α : Type} (l : List α) (i : Nat) (h : l.length ≤ i) : l.drop i = [] := List.drop_eq_nil_of_le h
theorem rd_nat (l : List Int) (i : Nat) : rd l (i : Int) = l.getD i 0 := rfl
theorem copy_step {α : Type} (l : List α) (d z : α) (i : Nat) (h : i < l.length) :
    (l.take i ++ List.replicate (l.length - i) z).set i (l.getD i d) = l.take (i + 1) ++ List.replicate (l.length - (i + 1)) z := by
  have h1 : (l.take i).length = i := by rw [List.length_take]; omega
  rw [List.set_append_right _ _ (by omega), h1, Nat.sub_self]
  have h2 : l.length - i = (l.length - (i + 1)) + 1 := by omega
  rw [h2, List.replicate_succ, List.set_cons_zero, List.take_succ_eq_append_getElem h, List.append_assoc]
  congr 1
  rw [List.getD_eq_getElem?_getD, List.getElem?_eq_getElem h]
  rfl
theorem copy_len {α : Type} (l : List α) (z : α) (i : Nat) (h : i ≤ l.length) : (l.take i ++ List.replicate (l.length - i) z).length = l.length := by
  rw [List.length_append, List.length_take, List.length_replicate]; omega
theorem toNat_nat (i : Nat) : ((i : Int)).toNat = i := rfl
theorem succ_i (i : Nat) (h : i ≤ 9223372036854775806) : wrap64 ((i : Int) + 1) = ((i + 1 : Nat) : Int) := wrap_to (by omega) (by omega) (by omega)
theorem pred_i (i : Nat) (h : 0 < i) (h' : i ≤ 9223372036854775806) : wrap64 ((i : Int) - 1) = ((i - 1 : Nat) : Int) := wrap_to (by omega) (by omega) (by omega)
def hexD : ByteArray := ⟨#[48, 49, 50, 51, 52, 53, 54, 55, 56, 57, 97, 98, 99, 100, 101, 102]⟩
set_option maxRecDepth 100000 in
theorem hex_fig : ∀ n : Fin 256, spec_l01Figure.f (wrap64 (Int.tdiv (wrap64 ((n.val : Nat) : Int)) 16)) = some (bt hexD (((n.val : Nat) : Int) / 16)) ∧ spec_l01Figure.f (Int.tmod (wrap64 ((n.val : Nat) : Int)) 16) = some (bt hexD (Go.bits .and .u8 ((n.val : Nat) : Int) 15)) ∧ 0 ≤ Go.bits .and .u8 ((n.val : Nat) : Int) 15 ∧ Go.bits .and .u8 ((n.val : Nat) : Int) 15 < 16 := by decide +kernel
theorem hex_at (x : Int) (h0 : 0 ≤ x) (h1 : x ≤ 255) : spec_l01Figure.f (wrap64 (Int.tdiv (wrap64 x) 16)) = some (bt hexD (x / 16)) ∧ spec_l01Figure.f (Int.tmod (wrap64 x) 16) = some (bt hexD (Go.bits .and .u8 x 15)) ∧ 0 ≤ Go.bits .and .u8 x 15 ∧ Go.bits .and .u8 x 15 < 16 := by
  obtain ⟨n, rfl⟩ := Int.eq_ofNat_of_zero_le h0
  exact hex_fig ⟨n, by omega⟩
theorem hex_both (s : ByteArray) (hs : s.size ≤ 20000) : ∀ (d i : Nat) (acc : List Int), i + d = s.size → acc.length = 2 * i →
    ∃ r : ByteArray × Bool, Ev (fun k => spec_Hex.l0 k s acc (i : Int)) r ∧ Ev (fun k => impl_Hex.l0 k s hexD acc (i : Int)) r := by
  intro d
  induction d with
  | zero =>
    intro i acc hi ha
    refine ⟨(strOfNums acc, true), ev_succ ?_, ev_succ ?_⟩
    · simp only [spec_Hex.l0]
      exact ev_else (by omega) (ev_some rfl)
    · simp only [impl_Hex.l0]
      exact ev_else (by omega) (ev_some rfl)
  | succ d ih =>
    intro i acc hi ha
    have hb := bt_range s (i : Int)
    obtain ⟨f1, f2, f3, f4⟩ := hex_at (bt s (i : Int)) hb.1 hb.2
    obtain ⟨r, e1, e2⟩ := ih (i + 1) (acc ++ [bt hexD (bt s (i : Int) / 16), bt hexD (Go.bits .and .u8 (bt s (i : Int)) 15)]) (by omega) (by simp [ha]; omega)
    have hD : (hexD.size : Int) = 16 := rfl
    refine ⟨r, ev_succ ?_, ev_succ ?_⟩
    · simp only [spec_Hex.l0]
      refine ev_if (by omega) (ev_if (by omega) (ev_bind0 f1 (ev_bind0 f2 (ev_bind0 rfl (ev_if (by simp [ha]; omega) ?_)))))
      rw [succ_i i (by omega)]
      exact e1
    · simp only [impl_Hex.l0]
      refine ev_if (by omega) (ev_if (by omega) (ev_if (by omega) (ev_if (by rw [hD]; omega) (ev_if f3 (ev_if (by rw [hD]; exact f4) (ev_bind0 rfl (ev_if (by simp [ha]; omega) ?_)))))))
      rw [succ_i i (by omega)]
      exact e2
theorem hex_f (s : ByteArray) (hs : s.size ≤ 9223372036854775807) : ∃ r : ByteArray × Bool, Ev (fun k => spec_Hex.f k s) r ∧ Ev (fun k => impl_Hex.f k s) r := by
  unfold spec_Hex.f impl_Hex.f
  by_cases h : (s.size : Int) > 20000
  · exact ⟨_, ev_if h (ev_some rfl), ev_if h (ev_some rfl)⟩
  · obtain ⟨r, e1, e2⟩ := hex_both s (by omega) s.size 0 [] (by omega) rfl
    refine ⟨r, ev_else h e1, ev_else h ?_⟩
    rw [wid (x := 2 * (s.size : Int)) (by omega) (by omega)]
    exact ev_if (by omega) (ev_if (by omega) e2)
theorem FnExactHex (s : ByteArray) (hs : s.size ≤ maxLen) : ∃ k, laws_FnExactHex.f k s = some true := by
  refine Ev.rounds ?_
  unfold laws_FnExactHex.f
  by_cases hbig : (s.size : Int) > 1048576
  · exact ev_if hbig (ev_some rfl)
  refine ev_else hbig ?_
  obtain ⟨r, e1, e2⟩ := hex_f s (by omega)
  exact ev_bind e1 (ev_bind e2 (ev_if rfl (ev_else (by simp) (ev_some rfl))))

end Go.Proofs.Ytjfhaaoklmimeaa.Pure
