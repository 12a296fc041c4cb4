/- For every text the program's Unhex returns what the reference's returns, without a condition of its own. -/
import Derived.Test.YtjfhaaoklmimeaaQFnExactUnhexx1
namespace Go.Proofs.Ytjfhaaoklmimeaa.Pure
open Go.RowKit Go.Proofs.Ytjfhaaoklmimeaa.QFnExactUnhex Go.Proofs.YtjfhaaoklmimeaaW.PrintWords Go.Proofs.YtjfhaaoklmimeaaW.PrintLast

set_option linter.unusedVariables false
set_option linter.unusedSimpArgs false
/-! small words on rounds -/
theorem wid {x : Int} (h0 : -9223372036854775808 ≤ x) (h1 : x ≤ 9223372036854775807) : wrap64 x = x := by
  unfold wrap64; omega
theorem wrap_to {x y : Int} (h : x = y) (h0 : -9223372036854775808 ≤ y) (h1 : y ≤ 9223372036854775807) : wrap64 x = y := by
  rw [h]; exact wid h0 h1
theorem ev_some {α : Type} {o : Option α} {r : α} (h : o = some r) : Ev (fun _ => o) r := ⟨0, fun _ _ => h⟩
theorem ev_succ {α : Type} {g : Nat → Option α} {r : α} (h : Ev (fun k => g (k + 1)) r) : Ev g r := Ev.step (fun _ => rfl) h
theorem ev_if {α : Type} {c : Prop} [Decidable c] {f g : Nat → Option α} {r : α} (h : c) (k : Ev f r) : Ev (fun n => if c then f n else g n) r := by
  simp only [if_pos h]; exact k
theorem ev_else {α : Type} {c : Prop} [Decidable c] {f g : Nat → Option α} {r : α} (h : ¬ c) (k : Ev g r) : Ev (fun n => if c then f n else g n) r := by
  simp only [if_neg h]; exact k
theorem ev_bind0 {α β : Type} {o : Option α} {f : Nat → α → Option β} {a : α} {r : β} (h : o = some a) (k : Ev (fun n => f n a) r) : Ev (fun n => o.bind (f n)) r := by
  subst h; exact k
theorem ev_bind {α β : Type} {g : Nat → Option α} {f : Nat → α → Option β} {a : α} {r : β} (h : Ev g a) (k : Ev (fun n => f n a) r) : Ev (fun n => (g n).bind (f n)) r := Ev.bind h k
theorem ev_eq {α : Type} {g : Nat → Option α} {a b : α} (h : Ev g a) (e : a = b) : Ev g b := e ▸ h
theorem tdivp {a b : Int} (h : 0 ≤ a) : Int.tdiv a b = a / b := Int.tdiv_eq_ediv_of_nonneg h
theorem tmodp {a b : Int} (h : 0 ≤ a) : Int.tmod a b = a % b := Int.tmod_eq_emod_of_nonneg h
theorem toList_iff (a b : ByteArray) : a.toList = b.toList ↔ a = b := by
  rw [ByteArray.toList_eq, ByteArray.toList_eq]
  exact ⟨fun h => ByteArray.ext (Array.toList_inj.mp h), fun h => by rw [h]⟩
theorem drop_getD {α : Type} (l : List α) (d : α) (i : Nat) (h : i < l.length) : l.drop i = l.getD i d :: l.drop (i + 1) := by
  rw [List.drop_eq_getElem_cons h, List.getD_eq_getElem?_getD, List.getElem?_eq_getElem h]
  rfl
theorem drop_end {α : Type} (l : List α) (i : Nat) (h : l.length ≤ i) : l.drop i = [] := List.drop_eq_nil_of_le h
theorem rd_nat (l : List Int) (i : Nat) : rd l (i : Int) = l.getD i 0 := rfl
theorem copy_step {α : Type} (l : List α) (d z : α) (i : Nat) (h : i < l.length) :
    (l.take i ++ List.replicate (l.length - i) z).set i (l.getD i d) = l.take (i + 1) ++ List.replicate (l.length - (i + 1)) z := by
  have h1 : (l.take i).length = i := by rw [List.length_take]; omega
  rw [List.set_append_right _ _ (by omega), h1, Nat.sub_self]
  have h2 : l.length - i = (l.length - (i + 1)) + 1 := by omega
  rw [h2, List.replicate_succ, List.set_cons_zero, List.take_succ_eq_append_getElem h, List.append_assoc]
  congr 1
  rw [List.getD_eq_getElem?_getD, List.getElem?_eq_getElem h]
  rfl
theorem copy_len {α : Type} (l : List α) (z : α) (i : Nat) (h : i ≤ l.length) : (l.take i ++ List.replicate (l.length - i) z).length = l.length := by
  rw [List.length_append, List.length_take, List.length_replicate]; omega
theorem toNat_nat (i : Nat) : ((i : Int)).toNat = i := rfl
theorem succ_i (i : Nat) (h : i ≤ 9223372036854775806) : wrap64 ((i : Int) + 1) = ((i + 1 : Nat) : Int) := wrap_to (by omega) (by omega) (by omega)
theorem pred_i (i : Nat) (h : 0 < i) (h' : i ≤ 9223372036854775806) : wrap64 ((i : Int) - 1) = ((i - 1 : Nat) : Int) := wrap_to (by omega) (by omega) (by omega)
def hexD : ByteArray := ⟨#[48, 49, 50, 51, 52, 53, 54, 55, 56, 57, 97, 98, 99, 100, 101, 102]⟩
set_option maxRecDepth 100000 in
theorem hexv_all : ∀ n : Fin 256, strings_IndexByte.f hexD ((n.val : Nat) : Int) = spec_l01Value.f 1 ((n.val : Nat) : Int) ∧ ((spec_l01Value.f 1 ((n.val : Nat) : Int)).any fun v => decide (v = -1) || decide (0 ≤ v ∧ v ≤ 15)) = true := by decide +kernel
set_option maxRecDepth 100000 in
theorem hex_join : ∀ h l : Fin 16, (Go.bits .or .i64 (wrap64 (((h.val : Nat) : Int) * 16)) ((l.val : Nat) : Int)) % 256 = (wrap64 ((wrap64 (16 * ((h.val : Nat) : Int))) + ((l.val : Nat) : Int))) % 256 := by decide +kernel
theorem hexv_at (x : Int) (h0 : 0 ≤ x) (h1 : x ≤ 255) : ∃ v, strings_IndexByte.f hexD x = some v ∧ Ev (fun k => spec_l01Value.f k x) v ∧ (v < 0 ∨ 0 ≤ v ∧ v ≤ 15) := by
  obtain ⟨n, rfl⟩ := Int.eq_ofNat_of_zero_le h0
  obtain ⟨e1, e2⟩ := hexv_all ⟨n, by omega⟩
  simp only at e1 e2
  cases hs : spec_l01Value.f 1 (n : Int) with
  | none => rw [hs] at e2; simp at e2
  | some v =>
    rw [hs] at e1 e2
    refine ⟨v, e1, ev_succ ?_, ?_⟩
    · refine ⟨0, fun k _ => ?_⟩
      have : spec_l01Value.f (k + 1) (n : Int) = spec_l01Value.f 1 (n : Int) := by
        unfold spec_l01Value.f
        simp only [spec_l01Value.j0]
      show spec_l01Value.f (k + 1) (n : Int) = some v
      rw [this, hs]
    · simp at e2
      omega
theorem hex_join_at (h l : Int) (h0 : 0 ≤ h) (h1 : h ≤ 15) (l0 : 0 ≤ l) (l1 : l ≤ 15) : (Go.bits .or .i64 (wrap64 (h * 16)) l) % 256 = (wrap64 ((wrap64 (16 * h)) + l)) % 256 := by
  obtain ⟨n, rfl⟩ := Int.eq_ofNat_of_zero_le h0
  obtain ⟨m, rfl⟩ := Int.eq_ofNat_of_zero_le l0
  exact hex_join ⟨n, by omega⟩ ⟨m, by omega⟩
theorem unhex_both (s : ByteArray) (hs : s.size ≤ 40000) : ∀ (d i : Nat) (acc : List Int), i + 2 * d = s.size → acc.length ≤ i →
    ∃ r : ByteArray × Bool, Ev (fun k => spec_Unhex.l0 k s acc (i : Int)) r ∧ Ev (fun k => impl_Unhex.l0 k s acc (i : Int)) r := by
  intro d
  induction d with
  | zero =>
    intro i acc hi ha
    refine ⟨(strOfNums acc, true), ev_succ ?_, ev_succ ?_⟩
    · simp only [spec_Unhex.l0]
      exact ev_else (by omega) (ev_some rfl)
    · simp only [impl_Unhex.l0]
      exact ev_else (by omega) (ev_some rfl)
  | succ d ih =>
    intro i acc hi ha
    have e2' : wrap64 ((i : Int) + 2) = ((i + 2 : Nat) : Int) := wrap_to (by omega) (by omega) (by omega)
    have b1 := bt_range s (i : Int)
    have b2 := bt_range s ((i + 1 : Nat) : Int)
    obtain ⟨h, a1, a2, a3⟩ := hexv_at (bt s (i : Int)) b1.1 b1.2
    obtain ⟨l, c1, c2, c3⟩ := hexv_at (bt s ((i + 1 : Nat) : Int)) b2.1 b2.2
    have key : ∃ r : ByteArray × Bool, Ev (fun k => if h < 0 then some ((⟨#[]⟩ : ByteArray), false) else if l < 0 then some ((⟨#[]⟩ : ByteArray), false) else if acc.length < 140737488355328 then spec_Unhex.l0 k s (acc ++ [(wrap64 ((wrap64 (16 * h)) + l)) % 256]) ((i + 2 : Nat) : Int) else none) r ∧
        Ev (fun k => if h < 0 then some ((⟨#[]⟩ : ByteArray), false) else if l < 0 then some ((⟨#[]⟩ : ByteArray), false) else if acc.length < 140737488355328 then impl_Unhex.l0 k s (acc ++ [(Go.bits .or .i64 (wrap64 (h * 16)) l) % 256]) ((i + 2 : Nat) : Int) else none) r := by
      clear e2'
      by_cases hh : h < 0
      · exact ⟨_, ev_if hh (ev_some rfl), ev_if hh (ev_some rfl)⟩
      · by_cases hl : l < 0
        · exact ⟨_, ev_else hh (ev_if hl (ev_some rfl)), ev_else hh (ev_if hl (ev_some rfl))⟩
        · rw [hex_join_at h l (by omega) (by omega) (by omega) (by omega)]
          obtain ⟨r, e1, e2⟩ := ih (i + 2) (acc ++ [(wrap64 ((wrap64 (16 * h)) + l)) % 256]) (by omega) (by rw [List.length_append, List.length_singleton]; omega)
          exact ⟨r, ev_else hh (ev_else hl (ev_if (by omega) e1)), ev_else hh (ev_else hl (ev_if (by omega) e2))⟩
    obtain ⟨r, k1, k2⟩ := key
    have o1 : (i : Int) < (s.size : Int) := by clear e2' k1 k2; omega
    have o2 : (0 : Int) ≤ (i : Int) := by clear e2' k1 k2; omega
    have o3 : (0 : Int) ≤ ((i + 1 : Nat) : Int) := by clear e2' k1 k2; omega
    have o4 : ((i + 1 : Nat) : Int) < (s.size : Int) := by clear e2' k1 k2; omega
    have e1' := succ_i i (by clear e2' k1 k2; omega)
    refine ⟨r, ev_succ ?_, ev_succ ?_⟩
    · simp only [spec_Unhex.l0, e1', e2']
      exact ev_if o1 (ev_if o2 (ev_bind a2 (ev_if o3 (ev_if o4 (ev_bind c2 k1)))))
    · simp only [impl_Unhex.l0, e1', e2']
      exact ev_if o1 (ev_if o2 (ev_bind0 a1 (ev_if o3 (ev_if o4 (ev_bind0 c1 k2)))))
theorem unhex_f (s : ByteArray) (hs : s.size ≤ 1048576) : ∃ r : ByteArray × Bool, Ev (fun k => spec_Unhex.f k s) r ∧ Ev (fun k => impl_Unhex.f k s) r := by
  unfold spec_Unhex.f impl_Unhex.f
  by_cases h : (s.size : Int) > 40000
  · refine ⟨((⟨#[]⟩ : ByteArray), false), ev_if h (ev_succ ?_), ?_⟩
    · simp only [spec_Unhex.j0]
      exact ev_if (by trivial) (ev_some rfl)
    · by_cases h2 : ((s.size : Int) % 2) = 0
      · refine ev_if h2 (ev_succ ?_)
        simp only [impl_Unhex.j0]
        exact ev_if (decide_eq_true h) (ev_some rfl)
      · refine ev_else h2 (ev_succ ?_)
        simp only [impl_Unhex.j0]
        exact ev_if (by trivial) (ev_some rfl)
  · by_cases h2 : ((s.size : Int) % 2) = 0
    · obtain ⟨r, e1, e2⟩ := unhex_both s (by omega) (s.size / 2) 0 [] (by omega) (Nat.le_refl _)
      refine ⟨r, ev_else h (ev_succ ?_), ev_if h2 (ev_succ ?_)⟩
      · simp only [spec_Unhex.j0]
        exact ev_else (by simp [h2]) e1
      · simp only [impl_Unhex.j0]
        rw [wid (x := (s.size : Int) / 2) (by omega) (by omega)]
        exact ev_else (by simpa using h) (ev_if (by omega) (ev_if (by omega) e2))
    · refine ⟨((⟨#[]⟩ : ByteArray), false), ev_else h (ev_succ ?_), ev_else h2 (ev_succ ?_)⟩
      · simp only [spec_Unhex.j0]
        exact ev_if (by simp [h2]) (ev_some rfl)
      · simp only [impl_Unhex.j0]
        exact ev_if (by trivial) (ev_some rfl)
theorem FnExactUnhex (s : ByteArray) (hs : s.size ≤ maxLen) : ∃ k, laws_FnExactUnhex.f k s = some true := by
  refine Ev.rounds ?_
  unfold laws_FnExactUnhex.f
  by_cases hbig : (s.size : Int) > 1048576
  · exact ev_if hbig (ev_some rfl)
  refine ev_else hbig ?_
  obtain ⟨r, e1, e2⟩ := unhex_f s (by omega)
  exact ev_bind e1 (ev_bind e2 (ev_if rfl (ev_else (by simp) (ev_some rfl))))

end Go.Proofs.Ytjfhaaoklmimeaa.Pure
