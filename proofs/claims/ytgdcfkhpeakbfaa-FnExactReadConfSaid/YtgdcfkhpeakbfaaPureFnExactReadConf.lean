/- For every text the program's ReadConf returns what the reference's returns, and the list it returns is the caller's own: written to, it holds what was written, and a second call answers the same. -/
import Derived.Test.YtgdcfkhpeakbfaaQFnExactReadConfx2
namespace Go.Proofs.Ytgdcfkhpeakbfaa.Pure
open Go.RowKit Go.Proofs.Ytgdcfkhpeakbfaa.QFnExactReadConf Go.Proofs.YtgdcfkhpeakbfaaW.PrintWords Go.Proofs.YtgdcfkhpeakbfaaW.PrintLast

set_option linter.unusedVariables false
set_option linter.unusedSimpArgs false
/-! small words on rounds -/
theorem wid {x : Int} (h0 : -9223372036854775808 ≤ x) (h1 : x ≤ 9223372036854775807) : wrap64 x = x := by
  unfold wrap64; omega
theorem wrap_to {x y : Int} (h : x = y) (h0 : -9223372036854775808 ≤ y) (h1 : y ≤ 9223372036854775807) : wrap64 x = y := by
  rw [h]; exact wid h0 h1
theorem ev_some {α : Type} {o : Option α} {r : α} (h : o = some r) : Ev (fun _ => o) r := ⟨0, fun _ _ => h⟩
theorem ev_succ {α : Type} {g : Nat → Option α} {r : α} (h : Ev (fun k => g (k + 1)) r) : Ev g r := Ev.step (fun _ => rfl) h
theorem ev_if {α : Type} {c : Prop} [Decidable c] {f g : Nat → Option α} {r : α} (h : c) (k : Ev f r) : Ev (fun n => if c then f n else g n) r := by
  simp only [if_pos h]; exact k
theorem ev_else {α : Type} {c : Prop} [Decidable c] {f g : Nat → Option α} {r : α} (h : ¬ c) (k : Ev g r) : Ev (fun n => if c then f n else g n) r := by
  simp only [if_neg h]; exact k
theorem ev_bind0 {α β : Type} {o : Option α} {f : Nat → α → Option β} {a : α} {r : β} (h : o = some a) (k : Ev (fun n => f n a) r) : Ev (fun n => o.bind (f n)) r := by
  subst h; exact k
theorem ev_bind {α β : Type} {g : Nat → Option α} {f : Nat → α → Option β} {a : α} {r : β} (h : Ev g a) (k : Ev (fun n => f n a) r) : Ev (fun n => (g n).bind (f n)) r := Ev.bind h k
theorem ev_eq {α : Type} {g : Nat → Option α} {a b : α} (h : Ev g a) (e : a = b) : Ev g b := e ▸ h
theorem tdivp {a b : Int} (h : 0 ≤ a) : Int.tdiv a b = a / b := Int.tdiv_eq_ediv_of_nonneg h
theorem tmodp {a b : Int} (h : 0 ≤ a) : Int.tmod a b = a % b := Int.tmod_eq_emod_of_nonneg h
theorem toList_iff (a b : ByteArray) : a.toList = b.toList ↔ a = b := by
  rw [ByteArray.toList_eq, ByteArray.toList_eq]
  exact ⟨fun h => ByteArray.ext (Array.toList_inj.mp h), fun h => by rw [h]⟩
theorem drop_getD {α : Type} (l : List α) (d : α) (i : Nat) (h : i < l.length) : l.drop i = l.getD i d :: l.drop (i + 1) := by
  rw [List.drop_eq_getElem_cons h, List.getD_eq_getElem?_getD, List.getElem?_eq_getElem h]
  rfl
theorem drop_end {α : Type} (l : List α) (i : Nat) (h : l.length ≤ i) : l.drop i = [] := List.drop_eq_nil_of_le h
theorem rd_nat (l : List Int) (i : Nat) : rd l (i : Int) = l.getD i 0 := rfl
theorem copy_step {α : Type} (l : List α) (d z : α) (i : Nat) (h : i < l.length) :
    (l.take i ++ List.replicate (l.length - i) z).set i (l.getD i d) = l.take (i + 1) ++ List.replicate (l.length - (i + 1)) z := by
  have h1 : (l.take i).length = i := by rw [List.length_take]; omega
  rw [List.set_append_right _ _ (by omega), h1, Nat.sub_self]
  have h2 : l.length - i = (l.length - (i + 1)) + 1 := by omega
  rw [h2, List.replicate_succ, List.set_cons_zero, List.take_succ_eq_append_getElem h, List.append_assoc]
  congr 1
  rw [List.getD_eq_getElem?_getD, List.getElem?_eq_getElem h]
  rfl
theorem copy_len {α : Type} (l : List α) (z : α) (i : Nat) (h : i ≤ l.length) : (l.take i ++ List.replicate (l.length - i) z).length = l.length := by
  rw [List.length_append, List.length_take, List.length_replicate]; omega
theorem toNat_nat (i : Nat) : ((i : Int)).toNat = i := rfl
theorem succ_i (i : Nat) (h : i ≤ 9223372036854775806) : wrap64 ((i : Int) + 1) = ((i + 1 : Nat) : Int) := wrap_to (by omega) (by omega) (by omega)
theorem pred_i (i : Nat) (h : 0 < i) (h' : i ≤ 9223372036854775806) : wrap64 ((i : Int) - 1) = ((i - 1 : Nat) : Int) := wrap_to (by omega) (by omega) (by omega)
def riseL (a b : Int) : Option Int → List Int → Bool
  | _, [] => true
  | p, x :: xs => decide (a ≤ x ∧ x ≤ b) && ((match p with | none => true | some y => decide (y < x)) && riseL a b (some x) xs)
def prevAt (l : List Int) (i : Nat) : Option Int := if i = 0 then none else some (l.getD (i - 1) 0)
theorem riseL_at (a b : Int) (l : List Int) (i : Nat) (h : i < l.length) :
    riseL a b (prevAt l i) (l.drop i) = (decide (a ≤ l.getD i 0 ∧ l.getD i 0 ≤ b) && (if i = 0 then true else decide (l.getD (i - 1) 0 < l.getD i 0)) && riseL a b (prevAt l (i + 1)) (l.drop (i + 1))) := by
  rw [drop_getD l 0 i h]
  have e : prevAt l (i + 1) = some (l.getD i 0) := by simp [prevAt]
  rw [e]
  simp only [riseL, prevAt]
  by_cases h0 : i = 0
  · simp [h0]
  · simp [h0, Bool.and_assoc]
def confOkB (l : List Int) : Bool := decide (1 ≤ l.length) && riseL 1 4 none l
theorem spec_l01In_f (x a b : Int) : spec_l01In.f x a b = some (decide (a ≤ x ∧ x ≤ b)) := by
  unfold spec_l01In.f
  by_cases h1 : a ≤ x <;> by_cases h2 : x ≤ b <;> simp [h1, h2]
theorem spec_l05Rise_l0 (l : List Int) (a b : Int) (hl : l.length ≤ 35184372088832) : ∀ (d i : Nat), i + d = l.length →
    Ev (fun k => spec_l05Rise.l0 k l a b (i : Int)) (riseL a b (prevAt l i) (l.drop i)) := by
  intro d
  induction d with
  | zero =>
    intro i hi
    refine ev_succ ?_
    simp only [spec_l05Rise.l0]
    refine ev_else (by omega) (ev_some ?_)
    rw [drop_end l i (by omega)]
    cases prevAt l i <;> rfl
  | succ d ih =>
    intro i hi
    refine ev_succ ?_
    simp only [spec_l05Rise.l0]
    refine ev_if (by omega) (ev_if (by omega) (ev_bind0 (spec_l01In_f _ _ _) ?_))
    rw [riseL_at a b l i (by omega), rd_nat, succ_i i (by omega)]
    by_cases hr : a ≤ l.getD i 0 ∧ l.getD i 0 ≤ b
    · refine ev_if (by simp only [hr, and_self, decide_true]) ?_
      by_cases h0 : i = 0
      · refine ev_else (by omega) (ev_eq (ih (i + 1) (by omega)) ?_)
        subst h0
        simp only [hr, and_self, decide_true, if_true, Bool.true_and]
      · refine ev_if (by omega) ?_
        rw [pred_i i (by omega) (by omega), rd_nat]
        refine ev_if (by omega) (ev_if (by omega) ?_)
        by_cases hlt : l.getD (i - 1) 0 < l.getD i 0
        · refine ev_else (by omega) (ev_eq (ih (i + 1) (by omega)) ?_)
          simp only [hr, h0, hlt, and_self, decide_true, if_false, Bool.true_and]
        · refine ev_if (by omega) (ev_some ?_)
          simp only [hr, h0, hlt, and_self, decide_true, decide_false, if_false, Bool.and_false, Bool.false_and]
    · refine ev_else (by simp only [hr, decide_false]; simp) (ev_some ?_)
      simp only [hr, decide_false, Bool.false_and]
theorem spec_l05Rise_f (l : List Int) (a b : Int) (hl : l.length ≤ 35184372088832) : Ev (fun k => spec_l05Rise.f k l a b) (riseL a b none l) := by
  have := spec_l05Rise_l0 l a b hl l.length 0 (by omega)
  simpa [spec_l05Rise.f, prevAt] using this
theorem riseL_short : ∀ (l : List Int) (p : Option Int) (a b : Int), riseL a b p l = true → (∀ y, p = some y → a ≤ y) → (l.length : Int) ≤ (match p with | none => b - a + 1 | some y => b - y) ∨ l = [] := by
  intro l
  induction l with
  | nil => intro _ _ _ _ _; exact .inr rfl
  | cons x l ih =>
    intro p a b h hp
    left
    simp only [riseL, Bool.and_eq_true, decide_eq_true_eq] at h
    obtain ⟨hr, hq, ht⟩ := h
    have := ih (some x) a b ht (fun y hy => by cases hy; exact hr.1)
    have hx : (l.length : Int) ≤ b - x := by
      rcases this with h | h
      · exact h
      · subst h; simp; omega
    rw [List.length_cons]
    cases p with
    | none => simp only; omega
    | some y => have hy : y < x := by simpa using hq
                simp only; omega
theorem spec_ConfOk_f (l : List Int) (hl : l.length ≤ 35184372088832) : Ev (fun k => spec_ConfOk.f k l) (confOkB l) := by
  unfold spec_ConfOk.f confOkB
  refine ev_bind0 (spec_l01In_f _ _ _) ?_
  by_cases h1 : 1 ≤ l.length
  · by_cases h4 : l.length ≤ 4
    · refine ev_if (by simp; omega) ?_
      refine ev_bind (spec_l05Rise_f l 1 4 hl) (ev_some ?_)
      simp [h1]
    · refine ev_else (by simp; omega) (ev_some ?_)
      by_cases h : riseL 1 4 none l = true
      · rcases riseL_short l none 1 4 h (by simp) with h' | h'
        · simp only at h'; omega
        · subst h'; simp at h1
      · simp [h]
  · refine ev_else (by simp; omega) (ev_some ?_)
    simp [h1]
def readConfV (s : ByteArray) : List Int × Bool := if confOkB (bytesOf s) = true then (bytesOf s, true) else ([], false)
theorem confOkB_le (l : List Int) (h : confOkB l = true) : l.length ≤ 4 := by
  unfold confOkB at h
  simp only [Bool.and_eq_true, decide_eq_true_eq] at h
  rcases riseL_short l none 1 4 h.2 (by simp) with g | g
  · simp at g; omega
  · rw [g]; simp
theorem impl_numbers_f (s : ByteArray) (h : s.size < 17592186044416) : impl_numbers.f s = some (bytesOf s) := by
  unfold impl_numbers.f
  exact if_pos h
theorem impl_inRange_f (x a b : Int) : impl_inRange.f x a b = some (decide (a ≤ x ∧ x ≤ b)) := by
  unfold impl_inRange.f
  by_cases h1 : a ≤ x <;> by_cases h2 : x ≤ b <;> simp [h1, h2]
theorem impl_areNodes_l0 (l : List Int) (hl : l.length ≤ 35184372088832) : ∀ (d i : Nat), i + d = l.length →
    Ev (fun k => impl_areNodes.l0 k l l (l.length : Int) (i : Int)) (riseL 1 4 (prevAt l i) (l.drop i)) := by
  intro d
  induction d with
  | zero =>
    intro i hi
    refine ev_succ ?_
    simp only [impl_areNodes.l0]
    refine ev_else (by omega) (ev_some ?_)
    rw [drop_end l i (by omega)]
    cases prevAt l i <;> rfl
  | succ d ih =>
    intro i hi
    refine ev_succ ?_
    simp only [impl_areNodes.l0, impl_isNode.f]
    refine ev_if (by omega) (ev_if (by omega) (ev_if (by omega) ?_))
    rw [impl_inRange_f]
    simp only [Option.bind_some]
    rw [riseL_at 1 4 l i (by omega), rd_nat, succ_i i (by omega)]
    by_cases hr : 1 ≤ l.getD i 0 ∧ l.getD i 0 ≤ 4
    · refine ev_if (by simp only [hr, and_self, decide_true]) ?_
      by_cases h0 : i = 0
      · refine ev_else (by omega) (ev_eq (ih (i + 1) (by omega)) ?_)
        subst h0
        simp only [hr, and_self, decide_true, if_true, Bool.true_and]
      · refine ev_if (by omega) ?_
        rw [pred_i i (by omega) (by omega), rd_nat]
        refine ev_if (by omega) (ev_if (by omega) ?_)
        by_cases hlt : l.getD (i - 1) 0 < l.getD i 0
        · refine ev_else (by omega) (ev_eq (ih (i + 1) (by omega)) ?_)
          simp only [hr, h0, hlt, and_self, decide_true, if_false, Bool.true_and]
        · refine ev_if (by omega) (ev_some ?_)
          simp only [hr, h0, hlt, and_self, decide_true, decide_false, if_false, Bool.and_false, Bool.false_and]
    · refine ev_else (by simp only [hr, decide_false]; simp) (ev_some ?_)
      simp only [hr, decide_false, Bool.false_and]
theorem impl_areNodes_f (l : List Int) (hl : l.length ≤ 35184372088832) : Ev (fun k => impl_areNodes.f k l) (riseL 1 4 none l) := by
  have := impl_areNodes_l0 l hl l.length 0 (by omega)
  simpa [impl_areNodes.f, prevAt] using this
theorem impl_ConfOk_f (l : List Int) (hl : l.length ≤ 35184372088832) : Ev (fun k => impl_ConfOk.f k l) (confOkB l) := by
  unfold impl_ConfOk.f confOkB
  by_cases h1 : 1 ≤ l.length
  · refine ev_if (by omega) ?_
    refine ev_bind (impl_areNodes_f l hl) (ev_some ?_)
    simp [h1]
  · refine ev_else (by omega) (ev_some ?_)
    simp [h1]
theorem impl_ReadConf_f (s : ByteArray) : Ev (fun k => impl_ReadConf.f k s) (readConfV s) := by
  unfold impl_ReadConf.f readConfV
  by_cases h : s.size ≤ 4
  · refine ev_else (by omega) (ev_bind0 (impl_numbers_f s (by omega)) (ev_bind (impl_ConfOk_f (bytesOf s) (by rw [bytesOf_length]; omega)) ?_))
    by_cases hc : confOkB (bytesOf s) = true
    · exact ev_if hc (ev_some (congrArg some (if_pos hc).symm))
    · exact ev_else hc (ev_some (congrArg some (if_neg hc).symm))
  · refine ev_if (by omega) (ev_some (congrArg some (if_neg fun hc => ?_).symm))
    have := confOkB_le _ hc
    rw [bytesOf_length] at this
    omega
theorem bytesOf_take (s : ByteArray) (i : Nat) (h : i < s.size) : (bytesOf s).take (i + 1) = (bytesOf s).take i ++ [wrap64 (bt s (i : Int))] := by
  have hl : i < (bytesOf s).length := by rw [bytesOf_length]; exact h
  obtain ⟨z0, z1⟩ := bt_range s (i : Int)
  rw [List.take_succ_eq_append_getElem hl, wid (by omega) (by omega), ← rd_bytesOf, rd_nat, List.getD_eq_getElem?_getD, List.getElem?_eq_getElem hl]
  rfl
theorem spec_ReadConf_end (s : ByteArray) (i : Nat) (hi : i ≤ s.size) (h5 : i ≤ 5) (h : i = 5 ∨ i = s.size) :
    Ev (fun k => if (((bytesOf s).take i).length : Int) = (s.size : Int) then ((spec_ConfOk.f k ((bytesOf s).take i)).bind fun t115 => (if t115 = true then (some ((bytesOf s).take i, true)) else (some ((([] : List Int)), false)))) else (some ((([] : List Int)), false))) (readConfV s) := by
  have hb := bytesOf_length s
  have hl : ((bytesOf s).take i).length = i := by rw [List.length_take]; omega
  unfold readConfV
  by_cases he : i = s.size
  · have e : (bytesOf s).take i = bytesOf s := List.take_of_length_le (by omega)
    rw [e]
    refine ev_if (by omega) (ev_bind (spec_ConfOk_f (bytesOf s) (by omega)) ?_)
    by_cases hc : confOkB (bytesOf s) = true
    · exact ev_if hc (ev_some (congrArg some (if_pos hc).symm))
    · exact ev_else hc (ev_some (congrArg some (if_neg hc).symm))
  · refine ev_else (by omega) (ev_some (congrArg some (if_neg fun hc => ?_).symm))
    have := confOkB_le _ hc
    omega
theorem spec_ReadConf_l0 (s : ByteArray) : ∀ (d i : Nat), i + d = min s.size 5 →
    Ev (fun k => spec_ReadConf.l0 k s ((bytesOf s).take i) (i : Int)) (readConfV s) := by
  intro d
  have hb := bytesOf_length s
  induction d with
  | zero =>
    intro i hi
    refine ev_succ ?_
    simp only [spec_ReadConf.l0]
    by_cases h : i < s.size
    · exact ev_if (by omega) (ev_else (by omega) (spec_ReadConf_end s i (by omega) (by omega) (by omega)))
    · exact ev_else (by omega) (spec_ReadConf_end s i (by omega) (by omega) (by omega))
  | succ d ih =>
    intro i hi
    refine ev_succ ?_
    simp only [spec_ReadConf.l0]
    refine ev_if (by omega) (ev_if (by omega) (ev_if (by omega) (ev_if (by rw [List.length_take]; omega) ?_)))
    rw [← bytesOf_take s i (by omega), succ_i i (by omega)]
    exact ih (i + 1) (by omega)
theorem spec_ReadConf_f (s : ByteArray) : Ev (fun k => spec_ReadConf.f k s) (readConfV s) := by
  have := spec_ReadConf_l0 s (min s.size 5) 0 (by omega)
  simpa [spec_ReadConf.f] using this
def markI (m : Int) (n : Nat) : List Int := (List.range n).map fun i : Nat => m + (i : Int)
theorem markI_length (m : Int) (n : Nat) : (markI m n).length = n := by simp [markI]
theorem markI_getD (m : Int) (n i : Nat) (h : i < n) : (markI m n).getD i 0 = m + (i : Int) := by
  have h' : i < (markI m n).length := by rw [markI_length]; exact h
  rw [List.getD_eq_getElem?_getD, List.getElem?_eq_getElem h']
  simp [markI]
theorem markI_set (m : Int) (l : List Int) (i : Nat) (h : i < l.length) : (markI m i ++ l.drop i).set i (m + (i : Int)) = markI m (i + 1) ++ l.drop (i + 1) := by
  rw [List.set_append_right _ _ (by rw [markI_length]; omega), markI_length, Nat.sub_self, drop_getD l 0 i h, List.set_cons_zero]
  simp [markI, List.range_succ]
theorem laws_markIntS_l0' (l : List Int) (m : Int) (hl : l.length ≤ 1099511627776) (h0 : 0 ≤ m) (h1 : m ≤ 1099511627776) : ∀ (d i : Nat), i + d = l.length →
    Ev (fun k => laws_markIntS.l0 k (markI m i ++ l.drop i) (m + (i : Int)) (i : Int)) (m + (l.length : Int), markI m l.length) := by
  intro d
  induction d with
  | zero =>
    intro i hi
    have e : i = l.length := by omega
    refine ev_succ ?_
    simp only [laws_markIntS.l0]
    refine ev_else (by rw [List.length_append, markI_length, List.length_drop]; omega) (ev_some ?_)
    rw [drop_end l i (by omega), e]
    simp
  | succ d ih =>
    intro i hi
    refine ev_succ ?_
    simp only [laws_markIntS.l0]
    refine ev_if (by rw [List.length_append, markI_length, List.length_drop]; omega) (ev_if (by omega) ?_)
    rw [succ_i i (by omega), wrap_to (x := m + (i : Int) + 1) (y := m + ((i + 1 : Nat) : Int)) (by omega) (by omega) (by omega), toNat_nat, markI_set m l i (by omega)]
    exact ih (i + 1) (by omega)
theorem laws_markIntS_f' (l : List Int) (m : Int) (hl : l.length ≤ 1099511627776) (h0 : 0 ≤ m) (h1 : m ≤ 1099511627776) : Ev (fun k => laws_markIntS.f k l m) (m + (l.length : Int), markI m l.length) := by
  have := laws_markIntS_l0' l m hl h0 h1 l.length 0 (by omega)
  simpa [laws_markIntS.f, markI] using this
theorem laws_heldIntS_l0 (m : Int) (n : Nat) (hl : n ≤ 1099511627776) (h0 : 0 ≤ m) (h1 : m ≤ 1099511627776) : ∀ (d i : Nat), i + d = n →
    Ev (fun k => laws_heldIntS.l0 k (markI m n) (m + (i : Int)) (i : Int)) (m + (n : Int)) := by
  intro d
  induction d with
  | zero =>
    intro i hi
    refine ev_succ ?_
    simp only [laws_heldIntS.l0]
    refine ev_else (by rw [markI_length]; omega) (ev_some ?_)
    rw [show i = n by omega]
  | succ d ih =>
    intro i hi
    refine ev_succ ?_
    simp only [laws_heldIntS.l0]
    refine ev_if (by rw [markI_length]; omega) (ev_if (by omega) (ev_if ?_ ?_))
    · rw [rd_nat, markI_getD m n i (by omega)]
    rw [succ_i i (by omega), wrap_to (x := m + (i : Int) + 1) (y := m + ((i + 1 : Nat) : Int)) (by omega) (by omega) (by omega)]
    exact ih (i + 1) (by omega)
theorem laws_heldIntS_f (m : Int) (n : Nat) (hl : n ≤ 1099511627776) (h0 : 0 ≤ m) (h1 : m ≤ 1099511627776) : Ev (fun k => laws_heldIntS.f k (markI m n) m) (m + (n : Int)) := by
  have := laws_heldIntS_l0 m n hl h0 h1 n 0 (by omega)
  simpa [laws_heldIntS.f] using this
theorem laws_eqIntS_l0 (a b : List Int) (hl : a.length ≤ 35184372088832) (hab : a.length = b.length) : ∀ (d i : Nat), i + d = a.length →
    Ev (fun k => laws_eqIntS.l0 k a b (i : Int)) (decide (a.drop i = b.drop i)) := by
  intro d
  induction d with
  | zero =>
    intro i hi
    refine ev_succ ?_
    simp only [laws_eqIntS.l0]
    refine ev_else (by omega) (ev_some ?_)
    rw [drop_end a i (by omega), drop_end b i (by omega)]
    simp
  | succ d ih =>
    intro i hi
    refine ev_succ ?_
    simp only [laws_eqIntS.l0]
    refine ev_if (by omega) (ev_if (by omega) (ev_if (by omega) ?_))
    rw [rd_nat, rd_nat, drop_getD a 0 i (by omega), drop_getD b 0 i (by omega), succ_i i (by omega)]
    by_cases h : a.getD i 0 = b.getD i 0
    · refine ev_if h (ev_eq (ih (i + 1) (by omega)) ?_)
      rw [h]; simp
    · refine ev_else h (ev_some ?_)
      have : ¬ (a.getD i 0 :: a.drop (i + 1) = b.getD i 0 :: b.drop (i + 1)) := fun e => h (List.cons.inj e).1
      simp only [decide_eq_false this]
theorem laws_eqIntS_f (a b : List Int) (hl : a.length ≤ 35184372088832) : Ev (fun k => laws_eqIntS.f k a b) (decide (a = b)) := by
  unfold laws_eqIntS.f
  by_cases h : a.length = b.length
  · refine ev_if (by omega) ?_
    have := laws_eqIntS_l0 a b hl h a.length 0 (by omega)
    simpa using this
  · refine ev_else (by omega) (ev_some ?_)
    have : ¬ a = b := fun e => h (by rw [e])
    simp [this]
theorem readConfV_len (s : ByteArray) : (readConfV s).1.length ≤ 4 := by
  unfold readConfV
  by_cases hc : confOkB (bytesOf s) = true
  · rw [if_pos hc]; exact confOkB_le _ hc
  · rw [if_neg hc]; simp
theorem FnExactReadConf (a0 : ByteArray) (h0 : a0.size ≤ maxLen) : ∃ k, laws_FnExactReadConf.f k a0 = some true := by
  refine Ev.rounds ?_
  unfold laws_FnExactReadConf.f
  have hv := readConfV_len a0
  by_cases hbig : (a0.size : Int) > 1048576
  · exact ev_if hbig (ev_some rfl)
  refine ev_else hbig ?_
  refine ev_bind (spec_ReadConf_f a0) (ev_bind (impl_ReadConf_f a0) (ev_bind (laws_eqIntS_f _ _ (by omega)) ?_))
  refine ev_if (by simp) (ev_succ ?_)
  simp only [laws_FnExactReadConf.j0]
  refine ev_else (by simp) (ev_bind (laws_markIntS_f' _ 1 (by omega) (by omega) (by omega)) (ev_bind (laws_heldIntS_f 1 (readConfV a0).1.length (by omega) (by omega) (by omega)) ?_))
  refine ev_else (by omega) (ev_if rfl (ev_bind (impl_ReadConf_f a0) (ev_bind (laws_eqIntS_f _ _ (by omega)) ?_)))
  refine ev_if (by simp) (ev_succ ?_)
  simp only [laws_FnExactReadConf.j1]
  refine ev_else (by simp) (ev_bind (laws_heldIntS_f 1 (readConfV a0).1.length (by omega) (by omega) (by omega)) ?_)
  exact ev_else (by omega) (ev_if rfl (ev_some rfl))

end Go.Proofs.Ytgdcfkhpeakbfaa.Pure
