/- For every two lists the program's Most returns what the reference's returns and leaves its arguments as they were, without a condition of its own. -/
import Derived.Test.YtgdcfkhpeakbfaaPFnExactMostx2
import Derived.Test.YtgdcfkhpeakbfaaWSized
namespace Go.Proofs.Ytgdcfkhpeakbfaa.Pure
open Go.RowKit Go.Proofs.Ytgdcfkhpeakbfaa.PFnExactMost Go.Proofs.YtgdcfkhpeakbfaaW.PrintWords Go.Proofs.YtgdcfkhpeakbfaaW.PrintLast

set_option linter.unusedVariables false
set_option linter.unusedSimpArgs false
/-! small words on rounds -/
theorem wid {x : Int} (h0 : -9223372036854775808 ≤ x) (h1 : x ≤ 9223372036854775807) : wrap64 x = x := by
  unfold wrap64; omega
theorem wrap_to {x y : Int} (h : x = y) (h0 : -9223372036854775808 ≤ y) (h1 : y ≤ 9223372036854775807) : wrap64 x = y := by
  rw [h]; exact wid h0 h1
theorem ev_some {α : Type} {o : Option α} {r : α} (h : o = some r) : Ev (fun _ => o) r := ⟨0, fun _ _ => h⟩
theorem ev_succ {α : Type} {g : Nat → Option α} {r : α} (h : Ev (fun k => g (k + 1)) r) : Ev g r := Ev.step (fun _ => rfl) h
theorem ev_if {α : Type} {c : Prop} [Decidable c] {f g : Nat → Option α} {r : α} (h : c) (k : Ev f r) : Ev (fun n => if c then f n else g n) r := by
  simp only [if_pos h]; exact k
theorem ev_else {α : Type} {c : Prop} [Decidable c] {f g : Nat → Option α} {r : α} (h : ¬ c) (k : Ev g r) : Ev (fun n => if c then f n else g n) r := by
  simp only [if_neg h]; exact k
theorem ev_bind0 {α β : Type} {o : Option α} {f : Nat → α → Option β} {a : α} {r : β} (h : o = some a) (k : Ev (fun n => f n a) r) : Ev (fun n => o.bind (f n)) r := by
  subst h; exact k
theorem ev_bind {α β : Type} {g : Nat → Option α} {f : Nat → α → Option β} {a : α} {r : β} (h : Ev g a) (k : Ev (fun n => f n a) r) : Ev (fun n => (g n).bind (f n)) r := Ev.bind h k
theorem ev_eq {α : Type} {g : Nat → Option α} {a b : α} (h : Ev g a) (e : a = b) : Ev g b := e ▸ h
theorem tdivp {a b : Int} (h : 0 ≤ a) : Int.tdiv a b = a / b := Int.tdiv_eq_ediv_of_nonneg h
theorem tmodp {a b : Int} (h : 0 ≤ a) : Int.tmod a b = a % b := Int.tmod_eq_emod_of_nonneg h
theorem toList_iff (a b : ByteArray) : a.toList = b.toList ↔ a = b := by
  rw [ByteArray.toList_eq, ByteArray.toList_eq]
  exact ⟨fun h => ByteArray.ext (Array.toList_inj.mp h), fun h => by rw [h]⟩
theorem drop_getD {α : Type} (l : List α) (d : α) (i : Nat) (h : i < l.length) : l.drop i = l.getD i d :: l.drop (i + 1) := by
  rw [List.drop_eq_getElem_cons h, List.getD_eq_getElem?_getD, List.getElem?_eq_getElem h]
  rfl
theorem drop_end {α : Type} (l : List α) (i : Nat) (h : l.length ≤ i) : l.drop i = [] := List.drop_eq_nil_of_le h
theorem rd_nat (l : List Int) (i : Nat) : rd l (i : Int) = l.getD i 0 := rfl
theorem copy_step {α : Type} (l : List α) (d z : α) (i : Nat) (h : i < l.length) :
    (l.take i ++ List.replicate (l.length - i) z).set i (l.getD i d) = l.take (i + 1) ++ List.replicate (l.length - (i + 1)) z := by
  have h1 : (l.take i).length = i := by rw [List.length_take]; omega
  rw [List.set_append_right _ _ (by omega), h1, Nat.sub_self]
  have h2 : l.length - i = (l.length - (i + 1)) + 1 := by omega
  rw [h2, List.replicate_succ, List.set_cons_zero, List.take_succ_eq_append_getElem h, List.append_assoc]
  congr 1
  rw [List.getD_eq_getElem?_getD, List.getElem?_eq_getElem h]
  rfl
theorem copy_len {α : Type} (l : List α) (z : α) (i : Nat) (h : i ≤ l.length) : (l.take i ++ List.replicate (l.length - i) z).length = l.length := by
  rw [List.length_append, List.length_take, List.length_replicate]; omega
theorem toNat_nat (i : Nat) : ((i : Int)).toNat = i := rfl
theorem succ_i (i : Nat) (h : i ≤ 9223372036854775806) : wrap64 ((i : Int) + 1) = ((i + 1 : Nat) : Int) := wrap_to (by omega) (by omega) (by omega)
theorem pred_i (i : Nat) (h : 0 < i) (h' : i ≤ 9223372036854775806) : wrap64 ((i : Int) - 1) = ((i - 1 : Nat) : Int) := wrap_to (by omega) (by omega) (by omega)
def riseL (a b : Int) : Option Int → List Int → Bool
  | _, [] => true
  | p, x :: xs => decide (a ≤ x ∧ x ≤ b) && ((match p with | none => true | some y => decide (y < x)) && riseL a b (some x) xs)
def prevAt (l : List Int) (i : Nat) : Option Int := if i = 0 then none else some (l.getD (i - 1) 0)
theorem riseL_at (a b : Int) (l : List Int) (i : Nat) (h : i < l.length) :
    riseL a b (prevAt l i) (l.drop i) = (decide (a ≤ l.getD i 0 ∧ l.getD i 0 ≤ b) && (if i = 0 then true else decide (l.getD (i - 1) 0 < l.getD i 0)) && riseL a b (prevAt l (i + 1)) (l.drop (i + 1))) := by
  rw [drop_getD l 0 i h]
  have e : prevAt l (i + 1) = some (l.getD i 0) := by simp [prevAt]
  rw [e]
  simp only [riseL, prevAt]
  by_cases h0 : i = 0
  · simp [h0]
  · simp [h0, Bool.and_assoc]
theorem spec_l01In_f (x a b : Int) : spec_l01In.f x a b = some (decide (a ≤ x ∧ x ≤ b)) := by
  unfold spec_l01In.f
  by_cases h1 : a ≤ x <;> by_cases h2 : x ≤ b <;> simp [h1, h2]
theorem spec_l05Rise_l0 (l : List Int) (a b : Int) (hl : l.length ≤ 35184372088832) : ∀ (d i : Nat), i + d = l.length →
    Ev (fun k => spec_l05Rise.l0 k l a b (i : Int)) (riseL a b (prevAt l i) (l.drop i)) := by
  intro d
  induction d with
  | zero =>
    intro i hi
    refine ev_succ ?_
    simp only [spec_l05Rise.l0]
    refine ev_else (by omega) (ev_some ?_)
    rw [drop_end l i (by omega)]
    cases prevAt l i <;> rfl
  | succ d ih =>
    intro i hi
    refine ev_succ ?_
    simp only [spec_l05Rise.l0]
    refine ev_if (by omega) (ev_if (by omega) (ev_bind0 (spec_l01In_f _ _ _) ?_))
    rw [riseL_at a b l i (by omega), rd_nat, succ_i i (by omega)]
    by_cases hr : a ≤ l.getD i 0 ∧ l.getD i 0 ≤ b
    · refine ev_if (by simp only [hr, and_self, decide_true]) ?_
      by_cases h0 : i = 0
      · refine ev_else (by omega) (ev_eq (ih (i + 1) (by omega)) ?_)
        subst h0
        simp only [hr, and_self, decide_true, if_true, Bool.true_and]
      · refine ev_if (by omega) ?_
        rw [pred_i i (by omega) (by omega), rd_nat]
        refine ev_if (by omega) (ev_if (by omega) ?_)
        by_cases hlt : l.getD (i - 1) 0 < l.getD i 0
        · refine ev_else (by omega) (ev_eq (ih (i + 1) (by omega)) ?_)
          simp only [hr, h0, hlt, and_self, decide_true, if_false, Bool.true_and]
        · refine ev_if (by omega) (ev_some ?_)
          simp only [hr, h0, hlt, and_self, decide_true, decide_false, if_false, Bool.and_false, Bool.false_and]
    · refine ev_else (by simp only [hr, decide_false]; simp) (ev_some ?_)
      simp only [hr, decide_false, Bool.false_and]
theorem spec_l05Rise_f (l : List Int) (a b : Int) (hl : l.length ≤ 35184372088832) : Ev (fun k => spec_l05Rise.f k l a b) (riseL a b none l) := by
  have := spec_l05Rise_l0 l a b hl l.length 0 (by omega)
  simpa [spec_l05Rise.f, prevAt] using this
def confOkB (l : List Int) : Bool := decide (1 ≤ l.length) && riseL 1 4 none l
theorem riseL_short : ∀ (l : List Int) (p : Option Int) (a b : Int), riseL a b p l = true → (∀ y, p = some y → a ≤ y) → (l.length : Int) ≤ (match p with | none => b - a + 1 | some y => b - y) ∨ l = [] := by
  intro l
  induction l with
  | nil => intro _ _ _ _ _; exact .inr rfl
  | cons x l ih =>
    intro p a b h hp
    left
    simp only [riseL, Bool.and_eq_true, decide_eq_true_eq] at h
    obtain ⟨hr, hq, ht⟩ := h
    have := ih (some x) a b ht (fun y hy => by cases hy; exact hr.1)
    have hx : (l.length : Int) ≤ b - x := by
      rcases this with h | h
      · exact h
      · subst h; simp; omega
    rw [List.length_cons]
    cases p with
    | none => simp only; omega
    | some y => have hy : y < x := by simpa using hq
                simp only; omega
theorem spec_ConfOk_f (l : List Int) (hl : l.length ≤ 35184372088832) : Ev (fun k => spec_ConfOk.f k l) (confOkB l) := by
  unfold spec_ConfOk.f confOkB
  refine ev_bind0 (spec_l01In_f _ _ _) ?_
  by_cases h1 : 1 ≤ l.length
  · by_cases h4 : l.length ≤ 4
    · refine ev_if (by simp; omega) ?_
      refine ev_bind (spec_l05Rise_f l 1 4 hl) (ev_some ?_)
      simp [h1]
    · refine ev_else (by simp; omega) (ev_some ?_)
      by_cases h : riseL 1 4 none l = true
      · rcases riseL_short l none 1 4 h (by simp) with h' | h'
        · simp only at h'; omega
        · subst h'; simp at h1
      · simp [h]
  · refine ev_else (by simp; omega) (ev_some ?_)
    simp [h1]
theorem impl_inRange_f (x a b : Int) : impl_inRange.f x a b = some (decide (a ≤ x ∧ x ≤ b)) := by
  unfold impl_inRange.f
  by_cases h1 : a ≤ x <;> by_cases h2 : x ≤ b <;> simp [h1, h2]
theorem impl_areNodes_l0 (l : List Int) (hl : l.length ≤ 35184372088832) : ∀ (d i : Nat), i + d = l.length →
    Ev (fun k => impl_areNodes.l0 k l l (l.length : Int) (i : Int)) (riseL 1 4 (prevAt l i) (l.drop i)) := by
  intro d
  induction d with
  | zero =>
    intro i hi
    refine ev_succ ?_
    simp only [impl_areNodes.l0]
    refine ev_else (by omega) (ev_some ?_)
    rw [drop_end l i (by omega)]
    cases prevAt l i <;> rfl
  | succ d ih =>
    intro i hi
    refine ev_succ ?_
    simp only [impl_areNodes.l0, impl_isNode.f]
    refine ev_if (by omega) (ev_if (by omega) (ev_if (by omega) ?_))
    rw [impl_inRange_f]
    simp only [Option.bind_some]
    rw [riseL_at 1 4 l i (by omega), rd_nat, succ_i i (by omega)]
    by_cases hr : 1 ≤ l.getD i 0 ∧ l.getD i 0 ≤ 4
    · refine ev_if (by simp only [hr, and_self, decide_true]) ?_
      by_cases h0 : i = 0
      · refine ev_else (by omega) (ev_eq (ih (i + 1) (by omega)) ?_)
        subst h0
        simp only [hr, and_self, decide_true, if_true, Bool.true_and]
      · refine ev_if (by omega) ?_
        rw [pred_i i (by omega) (by omega), rd_nat]
        refine ev_if (by omega) (ev_if (by omega) ?_)
        by_cases hlt : l.getD (i - 1) 0 < l.getD i 0
        · refine ev_else (by omega) (ev_eq (ih (i + 1) (by omega)) ?_)
          simp only [hr, h0, hlt, and_self, decide_true, if_false, Bool.true_and]
        · refine ev_if (by omega) (ev_some ?_)
          simp only [hr, h0, hlt, and_self, decide_true, decide_false, if_false, Bool.and_false, Bool.false_and]
    · refine ev_else (by simp only [hr, decide_false]; simp) (ev_some ?_)
      simp only [hr, decide_false, Bool.false_and]
theorem impl_areNodes_f (l : List Int) (hl : l.length ≤ 35184372088832) : Ev (fun k => impl_areNodes.f k l) (riseL 1 4 none l) := by
  have := impl_areNodes_l0 l hl l.length 0 (by omega)
  simpa [impl_areNodes.f, prevAt] using this
theorem impl_ConfOk_f (l : List Int) (hl : l.length ≤ 35184372088832) : Ev (fun k => impl_ConfOk.f k l) (confOkB l) := by
  unfold impl_ConfOk.f confOkB
  by_cases h1 : 1 ≤ l.length
  · refine ev_if (by omega) ?_
    refine ev_bind (impl_areNodes_f l hl) (ev_some ?_)
    simp [h1]
  · refine ev_else (by omega) (ev_some ?_)
    simp [h1]
def cntIn (list : List Int) (l : List Int) : Nat := (l.filter fun x => list.contains x).length
theorem cntIn_le (list l : List Int) : cntIn list l ≤ l.length := List.length_filter_le _ _
theorem cntIn_cons (list : List Int) (x : Int) (l : List Int) : cntIn list (x :: l) = (if list.contains x = true then 1 else 0) + cntIn list l := by
  unfold cntIn
  by_cases h : list.contains x = true
  · rw [if_pos h, List.filter_cons, if_pos h, List.length_cons, Nat.add_comm]
  · rw [if_neg h, List.filter_cons, if_neg h, Nat.zero_add]
theorem contains_drop (l : List Int) (x : Int) (i : Nat) (h : i < l.length) : (l.drop i).contains x = (decide (l.getD i 0 = x) || (l.drop (i + 1)).contains x) := by
  rw [drop_getD l 0 i h, List.contains_cons]
  by_cases e : l.getD i 0 = x
  · have : (x == l.getD i 0) = true := by simpa using e.symm
    rw [this]; simp only [e, decide_true]
  · have : (x == l.getD i 0) = false := by simpa using fun h => e h.symm
    rw [this]; simp only [e, decide_false]
theorem spec_l05In_l0 (l : List Int) (x : Int) (hl : l.length ≤ 35184372088832) : ∀ (d i : Nat), i + d = l.length →
    Ev (fun k => spec_l05In.l0 k l x (i : Int)) ((l.drop i).contains x) := by
  intro d
  induction d with
  | zero =>
    intro i hi
    refine ev_succ ?_
    simp only [spec_l05In.l0]
    refine ev_else (by omega) (ev_some ?_)
    rw [drop_end l i (by omega)]; rfl
  | succ d ih =>
    intro i hi
    refine ev_succ ?_
    simp only [spec_l05In.l0]
    refine ev_if (by omega) (ev_if (by omega) ?_)
    rw [rd_nat, succ_i i (by omega), contains_drop l x i (by omega)]
    by_cases h : l.getD i 0 = x
    · exact ev_if h (ev_some (by simp only [h, decide_true, Bool.true_or]))
    · exact ev_else h (ev_eq (ih (i + 1) (by omega)) (by simp only [h, decide_false, Bool.false_or]))
theorem spec_l05In_f (l : List Int) (x : Int) (hl : l.length ≤ 35184372088832) : Ev (fun k => spec_l05In.f k l x) (l.contains x) := by
  have := spec_l05In_l0 l x hl l.length 0 (by omega)
  simpa [spec_l05In.f] using this
theorem slices_Index_l0 (l : List Int) (x : Int) (hl : l.length ≤ 35184372088832) : ∀ (d i : Nat), i + d = l.length →
    ∃ r : Int, Ev (fun k => slices_Index_int_int.l0 k l x (l.length : Int) (i : Int)) r ∧ decide (r ≥ 0) = (l.drop i).contains x := by
  intro d
  induction d with
  | zero =>
    intro i hi
    refine ⟨-1, ev_succ ?_, ?_⟩
    · simp only [slices_Index_int_int.l0]
      exact ev_else (by omega) (ev_some rfl)
    · rw [drop_end l i (by omega)]; rfl
  | succ d ih =>
    intro i hi
    rw [contains_drop l x i (by omega)]
    by_cases h : l.getD i 0 = x
    · refine ⟨(i : Int), ev_succ ?_, ?_⟩
      · simp only [slices_Index_int_int.l0]
        refine ev_if (by omega) (ev_if (by omega) (ev_if (by omega) ?_))
        rw [rd_nat]
        exact ev_if h.symm (ev_some rfl)
      · simp only [h, decide_true, Bool.true_or]; simp
    · obtain ⟨r, hr, hd⟩ := ih (i + 1) (by omega)
      refine ⟨r, ev_succ ?_, ?_⟩
      · simp only [slices_Index_int_int.l0]
        refine ev_if (by omega) (ev_if (by omega) (ev_if (by omega) ?_))
        rw [rd_nat, succ_i i (by omega)]
        exact ev_else (fun e => h e.symm) hr
      · rw [hd]; simp only [h, decide_false, Bool.false_or]
theorem slices_Contains_f (l : List Int) (x : Int) (hl : l.length ≤ 35184372088832) : Ev (fun k => slices_Contains_int_int.f k l x) (l.contains x) := by
  obtain ⟨r, hr, hd⟩ := slices_Index_l0 l x hl l.length 0 (by omega)
  unfold slices_Contains_int_int.f slices_Index_int_int.f
  exact ev_bind hr (ev_some (by rw [hd]; rfl))
def mostB (conf list : List Int) : Bool := confOkB conf && decide (2 * cntIn list conf > conf.length)
theorem spec_Most_l0 (l m : List Int) (hl : l.length ≤ 35184372088832) (hm : m.length ≤ 35184372088832) : ∀ (d i n : Nat), i + d = l.length → n ≤ i → n + cntIn m (l.drop i) = cntIn m l →
    Ev (fun k => spec_Most.l0 k l m (n : Int) (i : Int)) (mostB l m) := by
  intro d
  induction d with
  | zero =>
    intro i n hi hn hc
    refine ev_succ ?_
    simp only [spec_Most.l0]
    refine ev_else (by omega) (ev_bind (spec_ConfOk_f l hl) ?_)
    rw [drop_end l i (by omega)] at hc
    have e0 : cntIn m [] = 0 := rfl
    unfold mostB
    by_cases h : confOkB l = true
    · refine ev_if h (ev_some ?_)
      rw [h, wid (x := 2 * (n : Int)) (by omega) (by omega), Bool.true_and]
      congr 1
      apply decide_eq_decide.2
      omega
    · refine ev_else h (ev_some ?_)
      simp [h]
  | succ d ih =>
    intro i n hi hn hc
    refine ev_succ ?_
    simp only [spec_Most.l0]
    refine ev_if (by omega) (ev_if (by omega) ?_)
    rw [rd_nat, succ_i i (by omega), succ_i n (by omega)]
    refine ev_bind (spec_l05In_f m _ hm) ?_
    rw [drop_getD l 0 i (by omega), cntIn_cons] at hc
    by_cases h : m.contains (l.getD i 0) = true
    · rw [if_pos h] at hc
      exact ev_if h (ih (i + 1) (n + 1) (by omega) (by omega) (by omega))
    · rw [if_neg h] at hc
      exact ev_else h (ih (i + 1) n (by omega) (by omega) (by omega))
theorem impl_Most_l0 (l m : List Int) (hl : l.length ≤ 35184372088832) (hm : m.length ≤ 35184372088832) : ∀ (d i n : Nat), i + d = l.length → n ≤ i → n + cntIn m (l.drop i) = cntIn m l →
    Ev (fun k => impl_Most.l0 k l m (n : Int) l (l.length : Int) (i : Int)) (mostB l m) := by
  intro d
  induction d with
  | zero =>
    intro i n hi hn hc
    refine ev_succ ?_
    simp only [impl_Most.l0]
    refine ev_else (by omega) (ev_bind (impl_ConfOk_f l hl) ?_)
    rw [drop_end l i (by omega)] at hc
    have e0 : cntIn m [] = 0 := rfl
    unfold mostB
    by_cases h : confOkB l = true
    · refine ev_if h (ev_some ?_)
      rw [h, wid (x := 2 * (n : Int)) (by omega) (by omega), Bool.true_and]
      congr 1
      apply decide_eq_decide.2
      omega
    · refine ev_else h (ev_some ?_)
      simp [h]
  | succ d ih =>
    intro i n hi hn hc
    refine ev_succ ?_
    simp only [impl_Most.l0]
    refine ev_if (by omega) (ev_if (by omega) (ev_if (by omega) ?_))
    rw [rd_nat, succ_i i (by omega), succ_i n (by omega)]
    refine ev_bind (slices_Contains_f m _ hm) ?_
    rw [drop_getD l 0 i (by omega), cntIn_cons] at hc
    by_cases h : m.contains (l.getD i 0) = true
    · rw [if_pos h] at hc
      exact ev_if h (ih (i + 1) (n + 1) (by omega) (by omega) (by omega))
    · rw [if_neg h] at hc
      exact ev_else h (ih (i + 1) n (by omega) (by omega) (by omega))
theorem laws_toIntS_l0 (l : List Int) (hl : l.length ≤ 35184372088832) : ∀ (d i : Nat), i + d = l.length →
    Ev (fun k => laws_toIntS.l0 k l (l.take i ++ List.replicate (l.length - i) 0) (i : Int)) l := by
  intro d
  induction d with
  | zero =>
    intro i hi
    refine ev_succ ?_
    simp only [laws_toIntS.l0]
    refine ev_else (by omega) (ev_some ?_)
    have e : i = l.length := by omega
    subst e
    simp
  | succ d ih =>
    intro i hi
    refine ev_succ ?_
    simp only [laws_toIntS.l0]
    refine ev_if (by omega) (ev_if (by omega) (ev_if (by rw [copy_len _ _ _ (by omega)]; omega) ?_))
    rw [rd_nat, toNat_nat, copy_step l 0 0 i (by omega), succ_i i (by omega)]
    exact ih (i + 1) (by omega)
theorem laws_toIntS_f (l : List Int) (hl : l.length ≤ 35184372088832) : Ev (fun k => laws_toIntS.f k l) l := by
  unfold laws_toIntS.f
  refine ev_if (by omega) (ev_if (by rw [toNat_nat]; exact hl) ?_)
  have := laws_toIntS_l0 l hl l.length 0 (by omega)
  simpa using this
theorem laws_eqIntS_l0 (a b : List Int) (hl : a.length ≤ 35184372088832) (hab : a.length = b.length) : ∀ (d i : Nat), i + d = a.length →
    Ev (fun k => laws_eqIntS.l0 k a b (i : Int)) (decide (a.drop i = b.drop i)) := by
  intro d
  induction d with
  | zero =>
    intro i hi
    refine ev_succ ?_
    simp only [laws_eqIntS.l0]
    refine ev_else (by omega) (ev_some ?_)
    rw [drop_end a i (by omega), drop_end b i (by omega)]
    simp
  | succ d ih =>
    intro i hi
    refine ev_succ ?_
    simp only [laws_eqIntS.l0]
    refine ev_if (by omega) (ev_if (by omega) (ev_if (by omega) ?_))
    rw [rd_nat, rd_nat, drop_getD a 0 i (by omega), drop_getD b 0 i (by omega), succ_i i (by omega)]
    by_cases h : a.getD i 0 = b.getD i 0
    · refine ev_if h (ev_eq (ih (i + 1) (by omega)) ?_)
      rw [h]; simp
    · refine ev_else h (ev_some ?_)
      have : ¬ (a.getD i 0 :: a.drop (i + 1) = b.getD i 0 :: b.drop (i + 1)) := fun e => h (List.cons.inj e).1
      simp only [decide_eq_false this]
theorem laws_eqIntS_f (a b : List Int) (hl : a.length ≤ 35184372088832) : Ev (fun k => laws_eqIntS.f k a b) (decide (a = b)) := by
  unfold laws_eqIntS.f
  by_cases h : a.length = b.length
  · refine ev_if (by omega) ?_
    have := laws_eqIntS_l0 a b hl h a.length 0 (by omega)
    simpa using this
  · refine ev_else (by omega) (ev_some ?_)
    have : ¬ a = b := fun e => h (by rw [e])
    simp [this]
theorem FnExactMost : laws_FnExactMost.Pure := by
  intro l m h0 h1 _ h3 h4 _
  refine Ev.rounds ?_
  unfold laws_FnExactMost.f
  by_cases hbig : (l.length : Int) > 1048576
  · exact ev_if hbig (ev_some rfl)
  refine ev_else hbig ?_
  by_cases hbig2 : (m.length : Int) > 1048576
  · exact ev_if hbig2 (ev_some rfl)
  refine ev_else hbig2 ?_
  have hl : l.length ≤ 35184372088832 := by omega
  have hm : m.length ≤ 35184372088832 := by omega
  have e1 : Ev (fun k => spec_Most.f k l m) (mostB l m) := spec_Most_l0 l m hl hm l.length 0 0 (by omega) (by omega) (by simp)
  have e2 : Ev (fun k => impl_Most.f k l m) (mostB l m) := impl_Most_l0 l m hl hm l.length 0 0 (by omega) (by omega) (by simp)
  refine ev_bind (laws_toIntS_f l hl) (ev_bind (laws_toIntS_f m hm) (ev_bind e1 ?_))
  refine ev_bind (laws_toIntS_f l hl) (ev_bind (laws_toIntS_f m hm) (ev_bind e2 ?_))
  refine ev_else (by simp) ?_
  refine ev_bind (laws_toIntS_f l hl) (ev_bind (laws_eqIntS_f l l hl) (ev_if (by simp) ?_))
  refine ev_bind (laws_toIntS_f m hm) (ev_bind (laws_eqIntS_f m m hm) (ev_if (by simp) (ev_some rfl)))

end Go.Proofs.Ytgdcfkhpeakbfaa.Pure

namespace Go.Proofs.Ytgdcfkhpeakbfaa.PrintWords
open Go.ChangeShapes Go.WideShapes
/-- the word of this name, by the path that the row takes -/
theorem sized_ints {H : Type} {enc : TypeId × Value → H} {P : Program} {W : World} {base : Nat} {spare : Nat → Bool} {held : Bool} {t e : TypeId} {k : IntKind} {a : Option Addr} {len cap : Nat} {d : DataW H} {ps : List MemPlace} {ts : List TypeId} {ds : List (DataW H)} {j : Nat}
    (hsz : (DataW.weightsEach P ts ds).all (· ≤ reachBytes) = true) (ht : ts[j]? = some t) (hd : ds[j]? = some d) (hu : P.underlying t = some (.slice e)) (he : P.underlying e = some (.int k)) (hc : P.cellsOf e = 1) {B : Nat} (hB : P.bytesOf e = B)
    (h : DataW.Trod enc P W base spare held t (.slice a len cap) d ps) : len * B ≤ 140737488351232 :=
  Go.Proofs.YtgdcfkhpeakbfaaW.PrintWords.sized_ints hsz ht hd hu he hc hB h
end Go.Proofs.Ytgdcfkhpeakbfaa.PrintWords
