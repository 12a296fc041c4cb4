/- For every journal the program's JournalText returns what the reference's returns and leaves the journal as it was, without a condition of its own. -/
import Derived.Test.YtacdceahdbaonaaQFnExactJournalTextx10
namespace Go.Proofs.Ytacdceahdbaonaa.Pure
open Go.RowKit Go.Proofs.Ytacdceahdbaonaa.QFnExactJournalText Go.Proofs.YtacdceahdbaonaaW.PrintWords Go.Proofs.YtacdceahdbaonaaW.PrintLast

set_option linter.unusedVariables false
set_option linter.unusedSimpArgs false
/-! small words on rounds -/
theorem wid {x : Int} (h0 : -9223372036854775808 ≤ x) (h1 : x ≤ 9223372036854775807) : wrap64 x = x := by
  unfold wrap64; omega
theorem wrap_to {x y : Int} (h : x = y) (h0 : -9223372036854775808 ≤ y) (h1 : y ≤ 9223372036854775807) : wrap64 x = y := by
  rw [h]; exact wid h0 h1
theorem ev_some {α : Type} {o : Option α} {r : α} (h : o = some r) : Ev (fun _ => o) r := ⟨0, fun _ _ => h⟩
theorem ev_succ {α : Type} {g : Nat → Option α} {r : α} (h : Ev (fun k => g (k + 1)) r) : Ev g r := Ev.step (fun _ => rfl) h
theorem ev_if {α : Type} {c : Prop} [Decidable c] {f g : Nat → Option α} {r : α} (h : c) (k : Ev f r) : Ev (fun n => if c then f n else g n) r := by
  simp only [if_pos h]; exact k
theorem ev_else {α : Type} {c : Prop} [Decidable c] {f g : Nat → Option α} {r : α} (h : ¬ c) (k : Ev g r) : Ev (fun n => if c then f n else g n) r := by
  simp only [if_neg h]; exact k
theorem ev_bind0 {α β : Type} {o : Option α} {f : Nat → α → Option β} {a : α} {r : β} (h : o = some a) (k : Ev (fun n => f n a) r) : Ev (fun n => o.bind (f n)) r := by
  subst h; exact k
theorem ev_bind {α β : Type} {g : Nat → Option α} {f : Nat → α → Option β} {a : α} {r : β} (h : Ev g a) (k : Ev (fun n => f n a) r) : Ev (fun n => (g n).bind (f n)) r := Ev.bind h k
theorem ev_eq {α : Type} {g : Nat → Option α} {a b : α} (h : Ev g a) (e : a = b) : Ev g b := e ▸ h
theorem tdivp {a b : Int} (h : 0 ≤ a) : Int.tdiv a b = a / b := Int.tdiv_eq_ediv_of_nonneg h
theorem tmodp {a b : Int} (h : 0 ≤ a) : Int.tmod a b = a % b := Int.tmod_eq_emod_of_nonneg h
theorem toList_iff (a b : ByteArray) : a.toList = b.toList ↔ a = b := by
  rw [ByteArray.toList_eq, ByteArray.toList_eq]
  exact ⟨fun h => ByteArray.ext (Array.toList_inj.mp h), fun h => by rw [h]⟩
theorem drop_getD {α : Type} (l : List α) (d : α) (i : Nat) (h : i < l.length) : l.drop i = l.getD i d :: l.drop (i + 1) := by
  rw [List.drop_eq_getElem_cons h, List.getD_eq_getElem?_getD, List.getElem?_eq_getElem h]
  rfl
theorem drop_end {α : Type} (l : List α) (i : Nat) (h : l.length ≤ i) : l.drop i = [] := List.drop_eq_nil_of_le h
theorem rd_nat (l : List Int) (i : Nat) : rd l (i : Int) = l.getD i 0 := rfl
theorem copy_step {α : Type} (l : List α) (d z : α) (i : Nat) (h : i < l.length) :
    (l.take i ++ List.replicate (l.length - i) z).set i (l.getD i d) = l.take (i + 1) ++ List.replicate (l.length - (i + 1)) z := by
  have h1 : (l.take i).length = i := by rw [List.length_take]; omega
  rw [List.set_append_right _ _ (by omega), h1, Nat.sub_self]
  have h2 : l.length - i = (l.length - (i + 1)) + 1 := by omega
  rw [h2, List.replicate_succ, List.set_cons_zero, List.take_succ_eq_append_getElem h, List.append_assoc]
  congr 1
  rw [List.getD_eq_getElem?_getD, List.getElem?_eq_getElem h]
  rfl
theorem copy_len {α : Type} (l : List α) (z : α) (i : Nat) (h : i ≤ l.length) : (l.take i ++ List.replicate (l.length - i) z).length = l.length := by
  rw [List.length_append, List.length_take, List.length_replicate]; omega
theorem toNat_nat (i : Nat) : ((i : Int)).toNat = i := rfl
theorem succ_i (i : Nat) (h : i ≤ 9223372036854775806) : wrap64 ((i : Int) + 1) = ((i + 1 : Nat) : Int) := wrap_to (by omega) (by omega) (by omega)
theorem pred_i (i : Nat) (h : 0 < i) (h' : i ≤ 9223372036854775806) : wrap64 ((i : Int) - 1) = ((i - 1 : Nat) : Int) := wrap_to (by omega) (by omega) (by omega)
def riseL (a b : Int) : Option Int → List Int → Bool
  | _, [] => true
  | p, x :: xs => decide (a ≤ x ∧ x ≤ b) && ((match p with | none => true | some y => decide (y < x)) && riseL a b (some x) xs)
def prevAt (l : List Int) (i : Nat) : Option Int := if i = 0 then none else some (l.getD (i - 1) 0)
theorem riseL_at (a b : Int) (l : List Int) (i : Nat) (h : i < l.length) :
    riseL a b (prevAt l i) (l.drop i) = (decide (a ≤ l.getD i 0 ∧ l.getD i 0 ≤ b) && (if i = 0 then true else decide (l.getD (i - 1) 0 < l.getD i 0)) && riseL a b (prevAt l (i + 1)) (l.drop (i + 1))) := by
  rw [drop_getD l 0 i h]
  have e : prevAt l (i + 1) = some (l.getD i 0) := by simp [prevAt]
  rw [e]
  simp only [riseL, prevAt]
  by_cases h0 : i = 0
  · simp [h0]
  · simp [h0, Bool.and_assoc]
def confOkB (l : List Int) : Bool := decide (1 ≤ l.length) && riseL 1 4 none l
theorem spec_l01In_f (x a b : Int) : spec_l01In.f x a b = some (decide (a ≤ x ∧ x ≤ b)) := by
  unfold spec_l01In.f
  by_cases h1 : a ≤ x <;> by_cases h2 : x ≤ b <;> simp [h1, h2]
theorem spec_l05Rise_l0 (l : List Int) (a b : Int) (hl : l.length ≤ 35184372088832) : ∀ (d i : Nat), i + d = l.length →
    Ev (fun k => spec_l05Rise.l0 k l a b (i : Int)) (riseL a b (prevAt l i) (l.drop i)) := by
  intro d
  induction d with
  | zero =>
    intro i hi
    refine ev_succ ?_
    simp only [spec_l05Rise.l0]
    refine ev_else (by omega) (ev_some ?_)
    rw [drop_end l i (by omega)]
    cases prevAt l i <;> rfl
  | succ d ih =>
    intro i hi
    refine ev_succ ?_
    simp only [spec_l05Rise.l0]
    refine ev_if (by omega) (ev_if (by omega) (ev_bind0 (spec_l01In_f _ _ _) ?_))
    rw [riseL_at a b l i (by omega), rd_nat, succ_i i (by omega)]
    by_cases hr : a ≤ l.getD i 0 ∧ l.getD i 0 ≤ b
    · refine ev_if (by simp only [hr, and_self, decide_true]) ?_
      by_cases h0 : i = 0
      · refine ev_else (by omega) (ev_eq (ih (i + 1) (by omega)) ?_)
        subst h0
        simp only [hr, and_self, decide_true, if_true, Bool.true_and]
      · refine ev_if (by omega) ?_
        rw [pred_i i (by omega) (by omega), rd_nat]
        refine ev_if (by omega) (ev_if (by omega) ?_)
        by_cases hlt : l.getD (i - 1) 0 < l.getD i 0
        · refine ev_else (by omega) (ev_eq (ih (i + 1) (by omega)) ?_)
          simp only [hr, h0, hlt, and_self, decide_true, if_false, Bool.true_and]
        · refine ev_if (by omega) (ev_some ?_)
          simp only [hr, h0, hlt, and_self, decide_true, decide_false, if_false, Bool.and_false, Bool.false_and]
    · refine ev_else (by simp only [hr, decide_false]; simp) (ev_some ?_)
      simp only [hr, decide_false, Bool.false_and]
theorem spec_l05Rise_f (l : List Int) (a b : Int) (hl : l.length ≤ 35184372088832) : Ev (fun k => spec_l05Rise.f k l a b) (riseL a b none l) := by
  have := spec_l05Rise_l0 l a b hl l.length 0 (by omega)
  simpa [spec_l05Rise.f, prevAt] using this
theorem riseL_short : ∀ (l : List Int) (p : Option Int) (a b : Int), riseL a b p l = true → (∀ y, p = some y → a ≤ y) → (l.length : Int) ≤ (match p with | none => b - a + 1 | some y => b - y) ∨ l = [] := by
  intro l
  induction l with
  | nil => intro _ _ _ _ _; exact .inr rfl
  | cons x l ih =>
    intro p a b h hp
    left
    simp only [riseL, Bool.and_eq_true, decide_eq_true_eq] at h
    obtain ⟨hr, hq, ht⟩ := h
    have := ih (some x) a b ht (fun y hy => by cases hy; exact hr.1)
    have hx : (l.length : Int) ≤ b - x := by
      rcases this with h | h
      · exact h
      · subst h; simp; omega
    rw [List.length_cons]
    cases p with
    | none => simp only; omega
    | some y => have hy : y < x := by simpa using hq
                simp only; omega
theorem spec_ConfOk_f (l : List Int) (hl : l.length ≤ 35184372088832) : Ev (fun k => spec_ConfOk.f k l) (confOkB l) := by
  unfold spec_ConfOk.f confOkB
  refine ev_bind0 (spec_l01In_f _ _ _) ?_
  by_cases h1 : 1 ≤ l.length
  · by_cases h4 : l.length ≤ 4
    · refine ev_if (by simp; omega) ?_
      refine ev_bind (spec_l05Rise_f l 1 4 hl) (ev_some ?_)
      simp [h1]
    · refine ev_else (by simp; omega) (ev_some ?_)
      by_cases h : riseL 1 4 none l = true
      · rcases riseL_short l none 1 4 h (by simp) with h' | h'
        · simp only at h'; omega
        · subst h'; simp at h1
      · simp [h]
  · refine ev_else (by simp; omega) (ev_some ?_)
    simp [h1]
def readConfV (s : ByteArray) : List Int × Bool := if confOkB (bytesOf s) = true then (bytesOf s, true) else ([], false)
theorem confOkB_le (l : List Int) (h : confOkB l = true) : l.length ≤ 4 := by
  unfold confOkB at h
  simp only [Bool.and_eq_true, decide_eq_true_eq] at h
  rcases riseL_short l none 1 4 h.2 (by simp) with g | g
  · simp at g; omega
  · rw [g]; simp
def entryOkB (t k : Int) (d : ByteArray) : Bool :=
  decide (0 ≤ t ∧ t ≤ 100000) && (if k = 1 then (d.toList == ([] : List UInt8)) else if k = 2 then (readConfV d).2 else if k = 3 then decide ((d.size : Int) ≤ 640) else false)
theorem readConfV_size (d : ByteArray) (h : (readConfV d).2 = true) : d.size ≤ 4 := by
  unfold readConfV at h
  by_cases hc : confOkB (bytesOf d) = true
  · have := confOkB_le _ hc
    rwa [bytesOf_length] at this
  · rw [if_neg hc] at h; cases h
theorem entryOkB_size (t k : Int) (d : ByteArray) (h : entryOkB t k d = true) : d.size ≤ 640 := by
  unfold entryOkB at h
  rw [Bool.and_eq_true] at h
  obtain ⟨_, h⟩ := h
  by_cases h1 : k = 1
  · rw [if_pos h1] at h
    have e : d.toList = [] := by simpa using h
    rw [ByteArray.toList_eq] at e
    have := data_length d
    rw [e] at this
    simp at this
    omega
  rw [if_neg h1] at h
  by_cases h2 : k = 2
  · rw [if_pos h2] at h
    have := readConfV_size d h
    omega
  rw [if_neg h2] at h
  by_cases h3 : k = 3
  · rw [if_pos h3] at h
    have : (d.size : Int) ≤ 640 := by simpa using h
    omega
  · rw [if_neg h3] at h; cases h
theorem entryOkB_term (t k : Int) (d : ByteArray) (h : entryOkB t k d = true) : 0 ≤ t ∧ t ≤ 100000 := by
  unfold entryOkB at h
  rw [Bool.and_eq_true] at h
  exact of_decide_eq_true h.1
theorem entryOkB_kind (t k : Int) (d : ByteArray) (h : entryOkB t k d = true) : 1 ≤ k ∧ k ≤ 3 := by
  unfold entryOkB at h
  rw [Bool.and_eq_true] at h
  obtain ⟨_, h⟩ := h
  by_cases h1 : k = 1
  · omega
  by_cases h2 : k = 2
  · omega
  by_cases h3 : k = 3
  · omega
  rw [if_neg h1, if_neg h2, if_neg h3] at h
  cases h
def logEsB : Int → List S40 → Bool
  | _, [] => true
  | t, e :: es => entryOkB e.f0 e.f1 e.f2 && (decide (t ≤ e.f0) && logEsB e.f0 es)
def logOkB (s t : Int) (es : List S40) : Bool :=
  decide (0 ≤ s ∧ s ≤ 1000000) && (decide (0 ≤ t ∧ t ≤ 100000) && (decide (es.length ≤ 60 ∧ s + (es.length : Int) ≤ 1000000) && logEsB t es))
def journalOkB (n t v s st : Int) (es : List S40) : Bool := decide (0 ≤ n ∧ n ≤ 999) && (decide (0 ≤ t ∧ t ≤ 100000) && (decide (0 ≤ v ∧ v ≤ 4) && logOkB s st es))
theorem impl_numbers_f (s : ByteArray) (h : s.size < 17592186044416) : impl_numbers.f s = some (bytesOf s) := by
  unfold impl_numbers.f
  exact if_pos h
theorem impl_inRange_f (x a b : Int) : impl_inRange.f x a b = some (decide (a ≤ x ∧ x ≤ b)) := by
  unfold impl_inRange.f
  by_cases h1 : a ≤ x <;> by_cases h2 : x ≤ b <;> simp [h1, h2]
theorem impl_areNodes_l0 (l : List Int) (hl : l.length ≤ 35184372088832) : ∀ (d i : Nat), i + d = l.length →
    Ev (fun k => impl_areNodes.l0 k l l (l.length : Int) (i : Int)) (riseL 1 4 (prevAt l i) (l.drop i)) := by
  intro d
  induction d with
  | zero =>
    intro i hi
    refine ev_succ ?_
    simp only [impl_areNodes.l0]
    refine ev_else (by omega) (ev_some ?_)
    rw [drop_end l i (by omega)]
    cases prevAt l i <;> rfl
  | succ d ih =>
    intro i hi
    refine ev_succ ?_
    simp only [impl_areNodes.l0, impl_isNode.f]
    refine ev_if (by omega) (ev_if (by omega) (ev_if (by omega) ?_))
    rw [impl_inRange_f]
    simp only [Option.bind_some]
    rw [riseL_at 1 4 l i (by omega), rd_nat, succ_i i (by omega)]
    by_cases hr : 1 ≤ l.getD i 0 ∧ l.getD i 0 ≤ 4
    · refine ev_if (by simp only [hr, and_self, decide_true]) ?_
      by_cases h0 : i = 0
      · refine ev_else (by omega) (ev_eq (ih (i + 1) (by omega)) ?_)
        subst h0
        simp only [hr, and_self, decide_true, if_true, Bool.true_and]
      · refine ev_if (by omega) ?_
        rw [pred_i i (by omega) (by omega), rd_nat]
        refine ev_if (by omega) (ev_if (by omega) ?_)
        by_cases hlt : l.getD (i - 1) 0 < l.getD i 0
        · refine ev_else (by omega) (ev_eq (ih (i + 1) (by omega)) ?_)
          simp only [hr, h0, hlt, and_self, decide_true, if_false, Bool.true_and]
        · refine ev_if (by omega) (ev_some ?_)
          simp only [hr, h0, hlt, and_self, decide_true, decide_false, if_false, Bool.and_false, Bool.false_and]
    · refine ev_else (by simp only [hr, decide_false]; simp) (ev_some ?_)
      simp only [hr, decide_false, Bool.false_and]
theorem impl_areNodes_f (l : List Int) (hl : l.length ≤ 35184372088832) : Ev (fun k => impl_areNodes.f k l) (riseL 1 4 none l) := by
  have := impl_areNodes_l0 l hl l.length 0 (by omega)
  simpa [impl_areNodes.f, prevAt] using this
theorem impl_ConfOk_f (l : List Int) (hl : l.length ≤ 35184372088832) : Ev (fun k => impl_ConfOk.f k l) (confOkB l) := by
  unfold impl_ConfOk.f confOkB
  by_cases h1 : 1 ≤ l.length
  · refine ev_if (by omega) ?_
    refine ev_bind (impl_areNodes_f l hl) (ev_some ?_)
    simp [h1]
  · refine ev_else (by omega) (ev_some ?_)
    simp [h1]
theorem impl_ReadConf_f (s : ByteArray) : Ev (fun k => impl_ReadConf.f k s) (readConfV s) := by
  unfold impl_ReadConf.f readConfV
  by_cases h : s.size ≤ 4
  · refine ev_else (by omega) (ev_bind0 (impl_numbers_f s (by omega)) (ev_bind (impl_ConfOk_f (bytesOf s) (by rw [bytesOf_length]; omega)) ?_))
    by_cases hc : confOkB (bytesOf s) = true
    · exact ev_if hc (ev_some (congrArg some (if_pos hc).symm))
    · exact ev_else hc (ev_some (congrArg some (if_neg hc).symm))
  · refine ev_if (by omega) (ev_some (congrArg some (if_neg fun hc => ?_).symm))
    have := confOkB_le _ hc
    rw [bytesOf_length] at this
    omega
theorem impl_EntryOk_f (t k : Int) (d : ByteArray) : Ev (fun n => impl_EntryOk.f n t k d) (entryOkB t k d) := by
  unfold impl_EntryOk.f impl_isTerm.f
  rw [impl_inRange_f]
  simp only [Option.bind_some]
  unfold entryOkB
  by_cases ht : 0 ≤ t ∧ t ≤ 100000
  · rw [decide_eq_true ht, Bool.true_and]
    refine ev_if rfl ?_
    by_cases h1 : k = 1
    · rw [if_pos h1]; exact ev_if h1 (ev_some rfl)
    rw [if_neg h1]
    refine ev_else h1 ?_
    by_cases h2 : k = 2
    · rw [if_pos h2]
      exact ev_if h2 (ev_bind (impl_ReadConf_f d) (ev_some rfl))
    rw [if_neg h2]
    refine ev_else h2 ?_
    by_cases h3 : k = 3
    · exact ev_if h3 (ev_some (congrArg some (if_pos h3).symm))
    · exact ev_else h3 (ev_some (congrArg some (if_neg h3).symm))
  · rw [decide_eq_false ht, Bool.false_and]
    exact ev_else (by simp) (ev_some rfl)
theorem impl_LogOk_l0 (es : List S40) (hl : es.length ≤ 4611686018427387904) : ∀ (d i : Nat) (t : Int), i + d = es.length →
    Ev (fun k => impl_LogOk.l0 k t es (es.length : Int) (i : Int)) (logEsB t (es.drop i)) := by
  intro d
  induction d with
  | zero =>
    intro i t hi
    refine ev_succ ?_
    simp only [impl_LogOk.l0]
    rw [drop_end es i (by omega)]
    exact ev_else (by omega) (ev_some rfl)
  | succ d ih =>
    intro i t hi
    refine ev_succ ?_
    simp only [impl_LogOk.l0]
    rw [drop_getD es z40 i (by omega)]
    have er : rd_T40 es (i : Int) = es.getD i z40 := rfl
    rw [er]
    generalize es.getD i z40 = e
    unfold logEsB
    refine ev_if (by omega) (ev_if (by omega) (ev_if (by omega) (ev_bind (impl_EntryOk_f e.f0 e.f1 e.f2) ?_)))
    by_cases hok : entryOkB e.f0 e.f1 e.f2 = true
    · rw [hok, Bool.true_and]
      refine ev_if rfl ?_
      by_cases ht : e.f0 < t
      · exact ev_if ht (ev_some (by rw [decide_eq_false (by omega)]; rfl))
      · refine ev_else ht ?_
        rw [decide_eq_true (by omega), Bool.true_and, succ_i i (by omega)]
        exact ih (i + 1) e.f0 (by omega)
    · rw [Bool.eq_false_iff.2 hok, Bool.false_and]
      exact ev_else (by simp) (ev_some rfl)
theorem impl_LogOk_f (s t : Int) (es : List S40) (hl : es.length ≤ 4611686018427387904) : Ev (fun k => impl_LogOk.f k s t es) (logOkB s t es) := by
  have no : logOkB s t es = false → Ev (fun k => impl_LogOk.j0 k true s t es) (logOkB s t es) := by
    intro hn
    rw [hn]
    refine ev_succ ?_
    simp only [impl_LogOk.j0]
    exact ev_if (by simp) (ev_some rfl)
  unfold impl_LogOk.f impl_isIndex.f impl_isTerm.f
  rw [impl_inRange_f, impl_inRange_f]
  simp only [Option.bind_some]
  by_cases hs : 0 ≤ s ∧ s ≤ 1000000
  · refine ev_if (decide_eq_true hs) ?_
    by_cases ht : 0 ≤ t ∧ t ≤ 100000
    · refine ev_if (decide_eq_true ht) ?_
      by_cases h1 : es.length ≤ 60
      · refine ev_else (by omega) ?_
        rw [wid (x := s + (es.length : Int)) (by omega) (by omega)]
        by_cases h2 : s + (es.length : Int) ≤ 1000000
        · rw [decide_eq_false (by omega)]
          refine ev_succ ?_
          simp only [impl_LogOk.j0]
          have := impl_LogOk_l0 es hl es.length 0 t (by omega)
          refine ev_else (by simp) (ev_eq this ?_)
          unfold logOkB
          rw [decide_eq_true hs, decide_eq_true ht, decide_eq_true (And.intro h1 h2)]
          rfl
        · rw [decide_eq_true (by omega)]
          exact no (by unfold logOkB; rw [decide_eq_false fun (h : es.length ≤ 60 ∧ s + (es.length : Int) ≤ 1000000) => h2 h.2]; simp)
      · exact ev_if (by omega) (no (by unfold logOkB; rw [decide_eq_false fun (h : es.length ≤ 60 ∧ s + (es.length : Int) ≤ 1000000) => h1 h.1]; simp))
    · exact ev_else (by rw [decide_eq_false ht]; simp) (no (by unfold logOkB; rw [decide_eq_false ht]; simp))
  · exact ev_else (by rw [decide_eq_false hs]; simp) (no (by unfold logOkB; rw [decide_eq_false hs]; simp))
theorem impl_JournalOk_f (n t v s st : Int) (es : List S40) (hl : es.length ≤ 4611686018427387904) : Ev (fun k => impl_JournalOk.f k n t v s st es) (journalOkB n t v s st es) := by
  unfold impl_JournalOk.f impl_isTerm.f
  rw [impl_inRange_f, impl_inRange_f, impl_inRange_f]
  simp only [Option.bind_some]
  unfold journalOkB
  by_cases h1 : 0 ≤ n ∧ n ≤ 999
  · rw [decide_eq_true h1, Bool.true_and]
    refine ev_if rfl ?_
    by_cases h2 : 0 ≤ t ∧ t ≤ 100000
    · rw [decide_eq_true h2, Bool.true_and]
      refine ev_if rfl ?_
      by_cases h3 : 0 ≤ v ∧ v ≤ 4
      · rw [decide_eq_true h3, Bool.true_and]
        exact ev_if rfl (ev_bind (impl_LogOk_f s st es hl) (ev_some rfl))
      · rw [decide_eq_false h3, Bool.false_and]
        exact ev_else (by simp) (ev_some rfl)
    · rw [decide_eq_false h2, Bool.false_and]
      exact ev_else (by simp) (ev_some rfl)
  · rw [decide_eq_false h1, Bool.false_and]
    exact ev_else (by simp) (ev_some rfl)
theorem bytesOf_take (s : ByteArray) (i : Nat) (h : i < s.size) : (bytesOf s).take (i + 1) = (bytesOf s).take i ++ [wrap64 (bt s (i : Int))] := by
  have hl : i < (bytesOf s).length := by rw [bytesOf_length]; exact h
  obtain ⟨z0, z1⟩ := bt_range s (i : Int)
  rw [List.take_succ_eq_append_getElem hl, wid (by omega) (by omega), ← rd_bytesOf, rd_nat, List.getD_eq_getElem?_getD, List.getElem?_eq_getElem hl]
  rfl
theorem spec_ReadConf_end (s : ByteArray) (i : Nat) (hi : i ≤ s.size) (h5 : i ≤ 5) (h : i = 5 ∨ i = s.size) :
    Ev (fun k => if (((bytesOf s).take i).length : Int) = (s.size : Int) then ((spec_ConfOk.f k ((bytesOf s).take i)).bind fun t115 => (if t115 = true then (some ((bytesOf s).take i, true)) else (some ((([] : List Int)), false)))) else (some ((([] : List Int)), false))) (readConfV s) := by
  have hb := bytesOf_length s
  have hl : ((bytesOf s).take i).length = i := by rw [List.length_take]; omega
  unfold readConfV
  by_cases he : i = s.size
  · have e : (bytesOf s).take i = bytesOf s := List.take_of_length_le (by omega)
    rw [e]
    refine ev_if (by omega) (ev_bind (spec_ConfOk_f (bytesOf s) (by omega)) ?_)
    by_cases hc : confOkB (bytesOf s) = true
    · exact ev_if hc (ev_some (congrArg some (if_pos hc).symm))
    · exact ev_else hc (ev_some (congrArg some (if_neg hc).symm))
  · refine ev_else (by omega) (ev_some (congrArg some (if_neg fun hc => ?_).symm))
    have := confOkB_le _ hc
    omega
theorem spec_ReadConf_l0 (s : ByteArray) : ∀ (d i : Nat), i + d = min s.size 5 →
    Ev (fun k => spec_ReadConf.l0 k s ((bytesOf s).take i) (i : Int)) (readConfV s) := by
  intro d
  have hb := bytesOf_length s
  induction d with
  | zero =>
    intro i hi
    refine ev_succ ?_
    simp only [spec_ReadConf.l0]
    by_cases h : i < s.size
    · exact ev_if (by omega) (ev_else (by omega) (spec_ReadConf_end s i (by omega) (by omega) (by omega)))
    · exact ev_else (by omega) (spec_ReadConf_end s i (by omega) (by omega) (by omega))
  | succ d ih =>
    intro i hi
    refine ev_succ ?_
    simp only [spec_ReadConf.l0]
    refine ev_if (by omega) (ev_if (by omega) (ev_if (by omega) (ev_if (by rw [List.length_take]; omega) ?_)))
    rw [← bytesOf_take s i (by omega), succ_i i (by omega)]
    exact ih (i + 1) (by omega)
theorem spec_ReadConf_f (s : ByteArray) : Ev (fun k => spec_ReadConf.f k s) (readConfV s) := by
  have := spec_ReadConf_l0 s (min s.size 5) 0 (by omega)
  simpa [spec_ReadConf.f] using this
theorem spec_EntryOk_f (t k : Int) (d : ByteArray) : Ev (fun n => spec_EntryOk.f n t k d) (entryOkB t k d) := by
  unfold spec_EntryOk.f 
  rw [spec_l01In_f]
  simp only [Option.bind_some]
  unfold entryOkB
  by_cases ht : 0 ≤ t ∧ t ≤ 100000
  · rw [decide_eq_true ht, Bool.true_and]
    refine ev_if rfl ?_
    by_cases h1 : k = 1
    · rw [if_pos h1]; exact ev_if h1 (ev_some rfl)
    rw [if_neg h1]
    refine ev_else h1 ?_
    by_cases h2 : k = 2
    · rw [if_pos h2]
      exact ev_if h2 (ev_bind (spec_ReadConf_f d) (ev_some rfl))
    rw [if_neg h2]
    refine ev_else h2 ?_
    by_cases h3 : k = 3
    · exact ev_if h3 (ev_some (congrArg some (if_pos h3).symm))
    · exact ev_else h3 (ev_some (congrArg some (if_neg h3).symm))
  · rw [decide_eq_false ht, Bool.false_and]
    exact ev_else (by simp) (ev_some rfl)
theorem spec_LogOk_l0 (s t0 : Int) (es : List S40) (hl : es.length ≤ 4611686018427387904) : ∀ (d i : Nat) (t : Int), i + d = es.length →
    Ev (fun k => spec_LogOk.l0 k t (i : Int) s t0 es) (logEsB t (es.drop i)) := by
  intro d
  induction d with
  | zero =>
    intro i t hi
    refine ev_succ ?_
    simp only [spec_LogOk.l0]
    rw [drop_end es i (by omega)]
    exact ev_else (by omega) (ev_some rfl)
  | succ d ih =>
    intro i t hi
    refine ev_succ ?_
    simp only [spec_LogOk.l0]
    rw [drop_getD es z40 i (by omega)]
    have er : rd_T40 es (i : Int) = es.getD i z40 := rfl
    rw [er]
    generalize es.getD i z40 = e
    unfold logEsB
    refine ev_if (by omega) (ev_if (by omega) (ev_bind (spec_EntryOk_f e.f0 e.f1 e.f2) ?_))
    by_cases hok : entryOkB e.f0 e.f1 e.f2 = true
    · rw [hok, Bool.true_and]
      refine ev_if rfl ?_
      by_cases ht : e.f0 < t
      · exact ev_if ht (ev_some (by rw [decide_eq_false (by omega)]; rfl))
      · refine ev_else ht ?_
        rw [decide_eq_true (by omega), Bool.true_and, succ_i i (by omega)]
        exact ih (i + 1) e.f0 (by omega)
    · rw [Bool.eq_false_iff.2 hok, Bool.false_and]
      exact ev_else (by simp) (ev_some rfl)
theorem spec_LogOk_f (s t : Int) (es : List S40) (hl : es.length ≤ 4611686018427387904) : Ev (fun k => spec_LogOk.f k s t es) (logOkB s t es) := by
  have no : logOkB s t es = false → Ev (fun k => spec_LogOk.j0 k true s t es) (logOkB s t es) := by
    intro hn
    rw [hn]
    refine ev_succ ?_
    simp only [spec_LogOk.j0]
    exact ev_if (by simp) (ev_some rfl)
  unfold spec_LogOk.f
  rw [spec_l01In_f, spec_l01In_f]
  simp only [Option.bind_some]
  by_cases hs : 0 ≤ s ∧ s ≤ 1000000
  · refine ev_if (decide_eq_true hs) ?_
    by_cases ht : 0 ≤ t ∧ t ≤ 100000
    · refine ev_if (decide_eq_true ht) ?_
      by_cases h1 : es.length ≤ 60
      · refine ev_else (by omega) ?_
        rw [wid (x := s + (es.length : Int)) (by omega) (by omega)]
        by_cases h2 : s + (es.length : Int) ≤ 1000000
        · rw [decide_eq_false (by omega)]
          refine ev_succ ?_
          simp only [spec_LogOk.j0]
          have := spec_LogOk_l0 s t es hl es.length 0 t (by omega)
          refine ev_else (by simp) (ev_eq this ?_)
          unfold logOkB
          rw [decide_eq_true hs, decide_eq_true ht, decide_eq_true (And.intro h1 h2)]
          rfl
        · rw [decide_eq_true (by omega)]
          exact no (by unfold logOkB; rw [decide_eq_false fun (h : es.length ≤ 60 ∧ s + (es.length : Int) ≤ 1000000) => h2 h.2]; simp)
      · exact ev_if (by omega) (no (by unfold logOkB; rw [decide_eq_false fun (h : es.length ≤ 60 ∧ s + (es.length : Int) ≤ 1000000) => h1 h.1]; simp))
    · exact ev_else (by rw [decide_eq_false ht]; simp) (no (by unfold logOkB; rw [decide_eq_false ht]; simp))
  · exact ev_else (by rw [decide_eq_false hs]; simp) (no (by unfold logOkB; rw [decide_eq_false hs]; simp))
theorem spec_JournalOk_f (n t v s st : Int) (es : List S40) (hl : es.length ≤ 4611686018427387904) : Ev (fun k => spec_JournalOk.f k n t v s st es) (journalOkB n t v s st es) := by
  unfold spec_JournalOk.f
  rw [spec_l01In_f, spec_l01In_f, spec_l01In_f]
  simp only [Option.bind_some]
  unfold journalOkB
  by_cases h1 : 0 ≤ n ∧ n ≤ 999
  · rw [decide_eq_true h1, Bool.true_and]
    refine ev_if rfl ?_
    by_cases h2 : 0 ≤ t ∧ t ≤ 100000
    · rw [decide_eq_true h2, Bool.true_and]
      refine ev_if rfl ?_
      by_cases h3 : 0 ≤ v ∧ v ≤ 4
      · rw [decide_eq_true h3, Bool.true_and]
        exact ev_if rfl (ev_bind (spec_LogOk_f s st es hl) (ev_some rfl))
      · rw [decide_eq_false h3, Bool.false_and]
        exact ev_else (by simp) (ev_some rfl)
    · rw [decide_eq_false h2, Bool.false_and]
      exact ev_else (by simp) (ev_some rfl)
  · rw [decide_eq_false h1, Bool.false_and]
    exact ev_else (by simp) (ev_some rfl)
/-! the sum, over numbers -/
def crcBit (x : Nat) : Nat := if x % 2 = 1 then (x / 2) ^^^ 3558460437 else x / 2
def crcBits : Nat → Nat → Nat
  | 0, x => x
  | n + 1, x => crcBits n (crcBit x)
def crcL : List Nat → Nat → Nat
  | [], x => x
  | b :: bs, x => crcL bs (crcBits 8 (x ^^^ b))
theorem xor_u32 (a b : Nat) (ha : a < 4294967296) (hb : b < 4294967296) : Go.bits .xor .u32 (a : Int) (b : Int) = ((a ^^^ b : Nat) : Int) := by
  have h : a ^^^ b < 2 ^ 32 := Nat.xor_lt_two_pow ha hb
  have e1 : a % 2 ^ 32 = a := Nat.mod_eq_of_lt ha
  have e2 : b % 2 ^ 32 = b := Nat.mod_eq_of_lt hb
  have e3 : IntKind.u32.bits = 32 := rfl
  simp only [Go.bits, e3, BitVec.ofInt_natCast, BitVec.toNat_xor, BitVec.toNat_ofNat, e1, e2, IntKind.wrap_u32]
  omega
theorem and_one_u32 (a : Nat) (ha : a < 4294967296) : Go.bits .and .u32 (a : Int) 1 = ((a % 2 : Nat) : Int) := by
  have e1 : a % 2 ^ 32 = a := Nat.mod_eq_of_lt ha
  have e3 : IntKind.u32.bits = 32 := rfl
  have e4 : (1 : Int) = ((1 : Nat) : Int) := rfl
  rw [e4]
  simp only [Go.bits, e3, BitVec.ofInt_natCast, BitVec.toNat_and, BitVec.toNat_ofNat, e1, IntKind.wrap_u32]
  have : a &&& (1 % 2 ^ 32) = a % 2 := Nat.and_one_is_mod a
  rw [this]
  omega
theorem crcBit_lt {x : Nat} (h : x < 4294967296) : crcBit x < 4294967296 := by
  unfold crcBit
  split
  · exact Nat.xor_lt_two_pow (n := 32) (by omega) (by omega)
  · omega
theorem crcBits_lt {x : Nat} (h : x < 4294967296) : ∀ n, crcBits n x < 4294967296
  | 0 => h
  | n + 1 => by
    unfold crcBits
    exact crcBits_lt (crcBit_lt h) n
def natsOf (s : ByteArray) : List Nat := s.data.toList.map UInt8.toNat
theorem natsOf_length (s : ByteArray) : (natsOf s).length = s.size := by simp [natsOf]
theorem bt_nat (s : ByteArray) (i : Nat) (h : i < s.size) : bt s (i : Int) = ((s[i]'h).toNat : Int) := by
  unfold bt; simp [h]
theorem natsOf_drop (s : ByteArray) (i : Nat) (h : i < s.size) : (natsOf s).drop i = (s[i]'h).toNat :: (natsOf s).drop (i + 1) := by
  have hl : i < (natsOf s).length := by rw [natsOf_length]; exact h
  rw [List.drop_eq_getElem_cons hl]
  congr 1
  simp [natsOf]
  rfl
theorem natsOf_lt (s : ByteArray) : ∀ x ∈ natsOf s, x < 256 := by
  intro x hx
  simp only [natsOf, List.mem_map] at hx
  obtain ⟨b, _, rfl⟩ := hx
  exact b.toNat_lt
theorem crcL_lt : ∀ (l : List Nat) (x : Nat), (∀ b ∈ l, b < 256) → x < 4294967296 → crcL l x < 4294967296
  | [], _, _, h => h
  | b :: bs, x, hb, h => by
    unfold crcL
    have h1 := hb b (List.mem_cons_self ..)
    exact crcL_lt bs _ (fun c hc => hb c (List.mem_cons_of_mem _ hc)) (crcBits_lt (Nat.xor_lt_two_pow (n := 32) h (by omega)) 8)
/-! a number in bytes -/
def vtl (n : Nat) : List Nat := if h : 127 < n then (n % 128 + 128) :: vtl (n / 128) else [n]
termination_by n
decreasing_by omega
theorem vtl_big {n : Nat} (h : 127 < n) : vtl n = (n % 128 + 128) :: vtl (n / 128) := by rw [vtl, dif_pos h]
theorem vtl_small {n : Nat} (h : n ≤ 127) : vtl n = [n] := by rw [vtl, dif_neg (by omega)]
def intsOf (l : List Nat) : List Int := l.map fun (n : Nat) => (n : Int)
theorem vtl_lt : ∀ (n : Nat), ∀ b ∈ vtl n, b < 256 := by
  intro n
  induction n using Nat.strongRecOn with
  | ind n ih =>
    intro b hb
    by_cases h : 127 < n
    · rw [vtl_big h] at hb
      rcases List.mem_cons.1 hb with rfl | hb
      · omega
      · exact ih _ (by omega) b hb
    · rw [vtl_small (by omega)] at hb
      have : b = n := by simpa using hb
      omega
def strN (l : List Nat) : ByteArray := strOfNums (intsOf l)
theorem natsOf_strN (l : List Nat) (h : ∀ b ∈ l, b < 256) : natsOf (strN l) = l := by
  unfold natsOf strN strOfNums intsOf
  simp only [List.map_map]
  conv => rhs; rw [← List.map_id l]
  apply List.map_congr_left
  intro b hb
  have := h b hb
  simp [UInt8.toNat_ofNat, Nat.mod_eq_of_lt this]
theorem strN_natsOf (s : ByteArray) : strN (natsOf s) = s := by
  unfold natsOf strN strOfNums intsOf
  apply ByteArray.ext
  apply Array.toList_inj.1
  simp [List.map_map, Function.comp_def]
theorem strN_inj {a b : List Nat} (ha : ∀ x ∈ a, x < 256) (hb : ∀ x ∈ b, x < 256) (h : strN a = strN b) : a = b := by
  rw [← natsOf_strN a ha, h, natsOf_strN b hb]
theorem natsOf_inj {a b : ByteArray} (h : natsOf a = natsOf b) : a = b := by
  rw [← strN_natsOf a, h, strN_natsOf]
theorem natsOf_append (a b : ByteArray) : natsOf (a ++ b) = natsOf a ++ natsOf b := by
  simp [natsOf]
theorem strN_append (a b : List Nat) : strN (a ++ b) = strN a ++ strN b := by
  unfold strN strOfNums intsOf
  apply ByteArray.ext
  apply Array.toList_inj.1
  simp
theorem strN_size (l : List Nat) : (strN l).size = l.length := by
  rw [← data_length]
  simp [strN, strOfNums, intsOf]
theorem natsOf_extract (s : ByteArray) (i j : Nat) : natsOf (s.extract i j) = ((natsOf s).take j).drop i := by
  unfold natsOf
  rw [ByteArray.data_extract, Array.toList_extract, List.extract_eq_take_drop, List.map_take, List.map_drop, List.drop_take]
theorem vtl_len (n : Nat) : (vtl n).length ≤ n + 1 := by
  induction n using Nat.strongRecOn with
  | ind n ih =>
    by_cases h : 127 < n
    · rw [vtl_big h, List.length_cons]
      have := ih (n / 128) (by omega)
      omega
    · rw [vtl_small (by omega)]; simp
def octS (l : List Int) : ByteArray := strOfNums (l.map fun x => x % 256)
def confTextV (l : List Int) : ByteArray × Bool := if confOkB l = true then (octS l, true) else (⟨#[]⟩, false)
def entryS (i t k : Int) (d : ByteArray) : ByteArray := ((((⟨#[69]⟩ : ByteArray) ++ strN (vtl i.toNat)) ++ strN (vtl t.toNat)) ++ octS [k]) ++ d
def entryTextV (i t k : Int) (d : ByteArray) : ByteArray × Bool :=
  if (1 ≤ i ∧ i ≤ 1000000) ∧ entryOkB t k d = true then (entryS i t k d, true) else (⟨#[]⟩, false)
theorem octS_len (l : List Int) : (octS l).size = l.length := by
  rw [← data_length]
  simp [octS, strOfNums]
theorem entry_parts (i t k : Int) (hi : 1 ≤ i ∧ i ≤ 1000000) (ht : 0 ≤ t ∧ t ≤ 100000) :
    (strN (vtl i.toNat)).size ≤ 1000001 ∧ (strN (vtl t.toNat)).size ≤ 100001 ∧ (octS [k]).size = 1 ∧ (⟨#[69]⟩ : ByteArray).size = 1 := by
  refine ⟨?_, ?_, octS_len [k], rfl⟩
  · rw [strN_size]; have := vtl_len i.toNat; omega
  · rw [strN_size]; have := vtl_len t.toNat; omega
theorem impl_varText_l0 : ∀ (n : Nat) (xs : List Nat), xs.length + n < 140737488355328 → Ev (fun k => impl_varText.l0 k (n : Int) (intsOf xs)) (strN (xs ++ vtl n)) := by
  intro n
  induction n using Nat.strongRecOn with
  | ind n ih =>
    intro xs hl
    refine ev_succ ?_
    simp only [impl_varText.l0]
    have hlen : (intsOf xs).length = xs.length := by simp [intsOf]
    by_cases h : 127 < n
    · refine ev_if (by omega) ?_
      refine ev_if (by rw [hlen]; omega) ?_
      have e1 : wrap64 (Int.tdiv (n : Int) 128) = ((n / 128 : Nat) : Int) := by rw [tdivp (Int.natCast_nonneg _)]; exact wrap_to (by omega) (by omega) (by omega)
      have e2 : wrap64 (128 + (Int.tmod (n : Int) 128)) % 256 = ((n % 128 + 128 : Nat) : Int) := by rw [tmodp (Int.natCast_nonneg _), wrap_to (y := ((n % 128 + 128 : Nat) : Int)) (by omega) (by omega) (by omega)]; omega
      have e3 : intsOf xs ++ [((n % 128 + 128 : Nat) : Int)] = intsOf (xs ++ [n % 128 + 128]) := by simp [intsOf]
      rw [e1, e2, e3, vtl_big h]
      have e4 : xs ++ (n % 128 + 128) :: vtl (n / 128) = (xs ++ [n % 128 + 128]) ++ vtl (n / 128) := by simp
      rw [e4]
      exact ih (n / 128) (by omega) _ (by rw [List.length_append, List.length_singleton]; omega)
    · refine ev_else (by omega) ?_
      refine ev_if (by rw [hlen]; omega) ?_
      have e2 : (n : Int) % 256 = (n : Int) := by omega
      have e3 : intsOf xs ++ [(n : Int)] = intsOf (xs ++ [n]) := by simp [intsOf]
      rw [e2, e3, vtl_small (by omega)]
      exact ev_some rfl
theorem impl_varText_f (n : Nat) (h : n < 140737488355328) : Ev (fun k => impl_varText.f k (n : Int)) (strN (vtl n)) := by
  have := impl_varText_l0 n [] (by simpa using h)
  simpa [impl_varText.f, intsOf] using this
theorem impl_octets_l0 (l : List Int) (hl : l.length ≤ 35184372088832) : ∀ (d i : Nat), i + d = l.length →
    Ev (fun k => impl_octets.l0 k ((l.take i).map fun x => x % 256) l (l.length : Int) (i : Int)) (octS l) := by
  intro d
  induction d with
  | zero =>
    intro i hi
    refine ev_succ ?_
    simp only [impl_octets.l0]
    refine ev_else (by omega) (ev_some ?_)
    rw [List.take_of_length_le (by omega)]
    rfl
  | succ d ih =>
    intro i hi
    refine ev_succ ?_
    simp only [impl_octets.l0]
    have hlen : ((l.take i).map fun x => x % 256).length = i := by rw [List.length_map, List.length_take]; omega
    refine ev_if (by omega) (ev_if (by omega) (ev_if (by omega) (ev_if (by rw [hlen]; omega) ?_)))
    rw [rd_nat, succ_i i (by omega)]
    have e : (l.take i).map (fun x => x % 256) ++ [l.getD i 0 % 256] = (l.take (i + 1)).map fun x => x % 256 := by
      have hlt : i < l.length := by omega
      rw [List.take_succ_eq_append_getElem hlt, List.map_append, List.getD_eq_getElem?_getD, List.getElem?_eq_getElem hlt]
      rfl
    rw [e]
    exact ih (i + 1) (by omega)
theorem impl_octets_f (l : List Int) (hl : l.length ≤ 35184372088832) : Ev (fun k => impl_octets.f k l) (octS l) := by
  have := impl_octets_l0 l hl l.length 0 (by omega)
  simpa [impl_octets.f] using this
theorem impl_entryText_f (i t k : Int) (d : ByteArray) (hi : 1 ≤ i ∧ i ≤ 1000000) (ht : 0 ≤ t ∧ t ≤ 100000) (hd : d.size ≤ 140737488351232) : Ev (fun n => impl_entryText.f n i t k d) (entryS i t k d) := by
  obtain ⟨s1, s2, s3, s4⟩ := entry_parts i t k hi ht
  have e1 := impl_varText_f i.toNat (by omega)
  have e2 := impl_varText_f t.toNat (by omega)
  rw [Int.toNat_of_nonneg (by omega)] at e1
  rw [Int.toNat_of_nonneg ht.1] at e2
  unfold impl_entryText.f
  refine ev_bind e1 (ev_if (by omega) (ev_bind e2 (ev_if (by rw [ByteArray.size_append]; omega) (ev_bind (impl_octets_f [k] (by simp)) (ev_if (by rw [ByteArray.size_append, ByteArray.size_append]; omega) (ev_if (by rw [ByteArray.size_append, ByteArray.size_append, ByteArray.size_append]; omega) (ev_some rfl)))))))
theorem spec_l01Var_l0 : ∀ (n : Nat) (xs : List Nat), xs.length + n < 140737488355328 → Ev (fun k => spec_l01Var.l0 k (n : Int) (intsOf xs)) (strN (xs ++ vtl n)) := by
  intro n
  induction n using Nat.strongRecOn with
  | ind n ih =>
    intro xs hl
    refine ev_succ ?_
    simp only [spec_l01Var.l0]
    have hlen : (intsOf xs).length = xs.length := by simp [intsOf]
    by_cases h : 127 < n
    · refine ev_if (by omega) ?_
      refine ev_if (by rw [hlen]; omega) ?_
      have e1 : wrap64 (Int.tdiv (n : Int) 128) = ((n / 128 : Nat) : Int) := by rw [tdivp (Int.natCast_nonneg _)]; exact wrap_to (by omega) (by omega) (by omega)
      have e2 : wrap64 ((Int.tmod (n : Int) 128) + 128) % 256 = ((n % 128 + 128 : Nat) : Int) := by rw [tmodp (Int.natCast_nonneg _), wrap_to (y := ((n % 128 + 128 : Nat) : Int)) (by omega) (by omega) (by omega)]; omega
      have e3 : intsOf xs ++ [((n % 128 + 128 : Nat) : Int)] = intsOf (xs ++ [n % 128 + 128]) := by simp [intsOf]
      rw [e1, e2, e3, vtl_big h]
      have e4 : xs ++ (n % 128 + 128) :: vtl (n / 128) = (xs ++ [n % 128 + 128]) ++ vtl (n / 128) := by simp
      rw [e4]
      exact ih (n / 128) (by omega) _ (by rw [List.length_append, List.length_singleton]; omega)
    · refine ev_else (by omega) ?_
      refine ev_if (by rw [hlen]; omega) ?_
      have e2 : (n : Int) % 256 = (n : Int) := by omega
      have e3 : intsOf xs ++ [(n : Int)] = intsOf (xs ++ [n]) := by simp [intsOf]
      rw [e2, e3, vtl_small (by omega)]
      exact ev_some rfl
theorem spec_l01Var_f (n : Nat) (h : n < 140737488355328) : Ev (fun k => spec_l01Var.f k (n : Int)) (strN (vtl n)) := by
  have := spec_l01Var_l0 n [] (by simpa using h)
  simpa [spec_l01Var.f, intsOf] using this
theorem spec_EntryText_f (i t k : Int) (d : ByteArray) (hd : d.size ≤ 140737488351232) : Ev (fun n => spec_EntryText.f n i t k d) (entryTextV i t k d) := by
  have no : ¬ ((1 ≤ i ∧ i ≤ 1000000) ∧ entryOkB t k d = true) → Ev (fun n => spec_EntryText.j0 n i true t k d) (entryTextV i t k d) := by
    intro hn
    refine ev_succ ?_
    simp only [spec_EntryText.j0]
    exact ev_if (by simp) (ev_some (congrArg some (if_neg hn).symm))
  unfold spec_EntryText.f
  rw [spec_l01In_f]
  simp only [Option.bind_some]
  refine ev_bind (spec_EntryOk_f t k d) ?_
  by_cases hok : entryOkB t k d = true
  · refine ev_if hok ?_
    by_cases hi : 1 ≤ i ∧ i ≤ 1000000
    · have ht := entryOkB_term t k d hok
      obtain ⟨s1, s2, s3, s4⟩ := entry_parts i t k hi ht
      have e1 := spec_l01Var_f i.toNat (by omega)
      have e2 := spec_l01Var_f t.toNat (by omega)
      rw [Int.toNat_of_nonneg (by omega)] at e1
      rw [Int.toNat_of_nonneg ht.1] at e2
      have eo : strOfNums [k % 256] = octS [k] := rfl
      refine ev_succ ?_
      simp only [spec_EntryText.j0, Option.bind_some]
      rw [eo]
      refine ev_else (by simp [hi]) (ev_bind e1 (ev_if (by omega) (ev_bind e2 (ev_if (by rw [ByteArray.size_append]; omega) (ev_if (by rw [ByteArray.size_append, ByteArray.size_append]; omega) (ev_if (by rw [ByteArray.size_append, ByteArray.size_append, ByteArray.size_append]; omega) (ev_some (congrArg some (if_pos ⟨hi, hok⟩).symm))))))))
    · rw [decide_eq_false hi]
      exact no fun h => hi h.1
  · exact ev_else hok (no fun h => hok h.2)
def fourN (x : Nat) : List Nat := [x / 16777216 % 256, x / 65536 % 256, x / 256 % 256, x % 256]
def sumS (s : ByteArray) : ByteArray := strN (fourN (crcL (natsOf s) 4294967295))
theorem sumS_size (s : ByteArray) : (sumS s).size = 4 := by unfold sumS; rw [strN_size]; rfl
theorem four_eq (x : Nat) : strOfNums (([((x : Int) / 16777216) % 256, ((x : Int) / 65536) % 256, ((x : Int) / 256) % 256, ((x : Int)) % 256] : List Int)) = strN (fourN x) := by
  unfold strN fourN intsOf
  simp
def frameS (s : ByteArray) : ByteArray := (strN (vtl s.size) ++ sumS s) ++ s
def frameV (s : ByteArray) : ByteArray × Bool := if 1 ≤ s.size ∧ s.size ≤ 9000 then (frameS s, true) else (⟨#[]⟩, false)
theorem frame_head_size (s : ByteArray) : (strN (vtl s.size)).size ≤ s.size + 1 := by rw [strN_size]; exact vtl_len _
theorem impl_SumMore_l1 (s : ByteArray) (i : Nat) (hi : i < s.size) (hs : s.size ≤ 140737488355328) (r : Int) : ∀ (d x : Nat), d ≤ 8 → x < 4294967296 →
    Ev (fun k => impl_SumMore.l0 k ((crcBits d x : Nat) : Int) s ((i + 1 : Nat) : Int)) r → Ev (fun k => impl_SumMore.l1 k (x : Int) s (i : Int) ((8 - d : Nat) : Int)) r := by
  intro d
  induction d with
  | zero =>
    intro x _ hx h
    refine ev_succ ?_
    simp only [impl_SumMore.l1]
    refine ev_else (by omega) ?_
    rw [wrap_to (y := ((i + 1 : Nat) : Int)) (by omega) (by omega) (by omega)]
    exact h
  | succ d ih =>
    intro x hd hx h
    have hb := and_one_u32 x hx
    refine ev_succ ?_
    simp only [impl_SumMore.l1]
    refine ev_if (by omega) ?_
    have e8 : wrap64 (((8 - (d + 1) : Nat) : Int) + 1) = ((8 - d : Nat) : Int) := wrap_to (by omega) (by omega) (by omega)
    rw [hb, e8]
    have e2 : (x : Int) / 2 = ((x / 2 : Nat) : Int) := by omega
    rw [e2]
    unfold crcBits at h
    have hlt := crcBit_lt hx
    by_cases hodd : x % 2 = 1
    · refine ev_if (by omega) ?_
      have e3 := xor_u32 (x / 2) 3558460437 (by omega) (by omega)
      have e4 : crcBit x = (x / 2) ^^^ 3558460437 := if_pos hodd
      rw [e4] at h hlt
      rw [show (3558460437 : Int) = ((3558460437 : Nat) : Int) from rfl, e3]
      exact ih _ (by omega) hlt h
    · refine ev_else (by omega) ?_
      have e4 : crcBit x = x / 2 := if_neg hodd
      rw [e4] at h hlt
      exact ih _ (by omega) hlt h
theorem impl_SumMore_l0 (s : ByteArray) (hs : s.size ≤ 140737488355328) : ∀ (d i x : Nat), i + d = s.size → x < 4294967296 →
    Ev (fun k => impl_SumMore.l0 k (x : Int) s (i : Int)) ((crcL ((natsOf s).drop i) x : Nat) : Int) := by
  intro d
  induction d with
  | zero =>
    intro i x hi hx
    refine ev_succ ?_
    simp only [impl_SumMore.l0]
    refine ev_else (by omega) ?_
    have : (natsOf s).drop i = [] := List.drop_eq_nil_of_le (by rw [natsOf_length]; omega)
    rw [this]
    exact ev_some rfl
  | succ d ih =>
    intro i x hi hx
    have hlt : i < s.size := by omega
    refine ev_succ ?_
    simp only [impl_SumMore.l0]
    refine ev_if (by omega) ?_
    refine ev_if (by omega) ?_
    have hbb : (s[i]'hlt).toNat < 256 := UInt8.toNat_lt _
    rw [bt_nat s i hlt, natsOf_drop s i hlt]
    have e1 : (((s[i]'hlt).toNat : Int)) % 4294967296 = (((s[i]'hlt).toNat : Nat) : Int) := by omega
    rw [e1, xor_u32 _ _ hx (by omega)]
    have hx' : x ^^^ (s[i]'hlt).toNat < 4294967296 := Nat.xor_lt_two_pow (n := 32) hx (by omega)
    unfold crcL
    exact impl_SumMore_l1 s i hlt hs _ 8 _ (by omega) hx' (ih (i + 1) _ (by omega) (crcBits_lt hx' 8))
theorem impl_SumMore_f (s : ByteArray) (hs : s.size ≤ 140737488355328) (x : Nat) (hx : x < 4294967296) :
    Ev (fun k => impl_SumMore.f k (x : Int) s) ((crcL (natsOf s) x : Nat) : Int) := by
  have := impl_SumMore_l0 s hs s.size 0 x (by omega) hx
  simpa [impl_SumMore.f] using this
theorem impl_SumOf_f (s : ByteArray) (hs : s.size ≤ 140737488355328) :
    Ev (fun k => impl_SumOf.f k s) ((crcL (natsOf s) 4294967295 : Nat) : Int) := by
  unfold impl_SumOf.f
  exact ev_bind (impl_SumMore_f s hs 4294967295 (by omega)) (ev_some rfl)
theorem impl_sumText_f (s : ByteArray) (hs : s.size ≤ 140737488355328) : Ev (fun k => impl_sumText.f k s) (sumS s) := by
  unfold impl_sumText.f
  exact ev_bind (impl_SumOf_f s hs) (ev_some (by rw [four_eq]; rfl))
theorem impl_frame_f (s : ByteArray) (hs : s.size ≤ 1000000000) : Ev (fun k => impl_frame.f k s) (frameS s) := by
  unfold impl_frame.f frameS
  have h1 := frame_head_size s
  have h2 := sumS_size s
  refine ev_bind (impl_varText_f s.size (by omega)) (ev_bind (impl_sumText_f s (by omega)) ?_)
  exact ev_if (by omega) (ev_if (by rw [ByteArray.size_append]; omega) (ev_some rfl))
theorem spec_SumMore_l1 (s : ByteArray) (i : Nat) (hi : i < s.size) (hs : s.size ≤ 140737488355328) (r : Int) : ∀ (d x : Nat), d ≤ 8 → x < 4294967296 →
    Ev (fun k => spec_SumMore.l0 k ((crcBits d x : Nat) : Int) s ((i + 1 : Nat) : Int)) r → Ev (fun k => spec_SumMore.l1 k (x : Int) s (i : Int) ((8 - d : Nat) : Int)) r := by
  intro d
  induction d with
  | zero =>
    intro x _ hx h
    refine ev_succ ?_
    simp only [spec_SumMore.l1]
    refine ev_else (by omega) ?_
    rw [wrap_to (y := ((i + 1 : Nat) : Int)) (by omega) (by omega) (by omega)]
    exact h
  | succ d ih =>
    intro x hd hx h
    have hb : Int.tmod (x : Int) 2 = ((x % 2 : Nat) : Int) := by rw [tmodp (Int.natCast_nonneg _)]; omega
    refine ev_succ ?_
    simp only [spec_SumMore.l1]
    refine ev_if (by omega) ?_
    have e8 : wrap64 (((8 - (d + 1) : Nat) : Int) + 1) = ((8 - d : Nat) : Int) := wrap_to (by omega) (by omega) (by omega)
    rw [hb, e8]
    have e2 : Int.tdiv (x : Int) 2 % 4294967296 = ((x / 2 : Nat) : Int) := by rw [tdivp (Int.natCast_nonneg _)]; omega
    rw [e2]
    unfold crcBits at h
    have hlt := crcBit_lt hx
    by_cases hodd : x % 2 = 1
    · refine ev_if (by omega) ?_
      have e3 := xor_u32 (x / 2) 3558460437 (by omega) (by omega)
      have e4 : crcBit x = (x / 2) ^^^ 3558460437 := if_pos hodd
      rw [e4] at h hlt
      rw [show (3558460437 : Int) = ((3558460437 : Nat) : Int) from rfl, e3]
      exact ih _ (by omega) hlt h
    · refine ev_else (by omega) ?_
      have e4 : crcBit x = x / 2 := if_neg hodd
      rw [e4] at h hlt
      exact ih _ (by omega) hlt h
theorem spec_SumMore_l0 (s : ByteArray) (hs : s.size ≤ 140737488355328) : ∀ (d i x : Nat), i + d = s.size → x < 4294967296 →
    Ev (fun k => spec_SumMore.l0 k (x : Int) s (i : Int)) ((crcL ((natsOf s).drop i) x : Nat) : Int) := by
  intro d
  induction d with
  | zero =>
    intro i x hi hx
    refine ev_succ ?_
    simp only [spec_SumMore.l0]
    refine ev_else (by omega) ?_
    have : (natsOf s).drop i = [] := List.drop_eq_nil_of_le (by rw [natsOf_length]; omega)
    rw [this]
    exact ev_some rfl
  | succ d ih =>
    intro i x hi hx
    have hlt : i < s.size := by omega
    refine ev_succ ?_
    simp only [spec_SumMore.l0]
    refine ev_if (by omega) ?_
    refine ev_if (by omega) ?_
    have hbb : (s[i]'hlt).toNat < 256 := UInt8.toNat_lt _
    rw [bt_nat s i hlt, natsOf_drop s i hlt]
    have e1 : (((s[i]'hlt).toNat : Int)) % 4294967296 = (((s[i]'hlt).toNat : Nat) : Int) := by omega
    rw [e1, xor_u32 _ _ hx (by omega)]
    have hx' : x ^^^ (s[i]'hlt).toNat < 4294967296 := Nat.xor_lt_two_pow (n := 32) hx (by omega)
    unfold crcL
    exact spec_SumMore_l1 s i hlt hs _ 8 _ (by omega) hx' (ih (i + 1) _ (by omega) (crcBits_lt hx' 8))
theorem spec_SumMore_f (s : ByteArray) (hs : s.size ≤ 140737488355328) (x : Nat) (hx : x < 4294967296) :
    Ev (fun k => spec_SumMore.f k (x : Int) s) ((crcL (natsOf s) x : Nat) : Int) := by
  have := spec_SumMore_l0 s hs s.size 0 x (by omega) hx
  simpa [spec_SumMore.f] using this
theorem spec_SumOf_f (s : ByteArray) (hs : s.size ≤ 140737488355328) :
    Ev (fun k => spec_SumOf.f k s) ((crcL (natsOf s) 4294967295 : Nat) : Int) := by
  unfold spec_SumOf.f
  exact ev_bind (spec_SumMore_f s hs 4294967295 (by omega)) (ev_some rfl)
theorem spec_l02Four_f (x : Nat) : spec_l02Four.f (x : Int) = some (strN (fourN x)) := by
  unfold spec_l02Four.f
  rw [four_eq]
theorem spec_Frame_f (s : ByteArray) (_hs : s.size ≤ 140737488351232) : Ev (fun k => spec_Frame.f k s) (frameV s) := by
  unfold spec_Frame.f frameV
  refine ev_bind0 (spec_l01In_f _ _ _) ?_
  by_cases h : 1 ≤ s.size ∧ s.size ≤ 9000
  · rw [if_pos h]
    refine ev_if (by simp; omega) ?_
    have h1 := frame_head_size s
    have h2 := sumS_size s
    unfold frameS
    refine ev_bind (spec_l01Var_f s.size (by omega)) (ev_bind (spec_SumOf_f s (by omega)) (ev_bind0 (spec_l02Four_f _) ?_))
    exact ev_if (by unfold sumS at h2; omega) (ev_if (by rw [ByteArray.size_append]; unfold sumS at h2; omega) (ev_some rfl))
  · rw [if_neg h]
    exact ev_else (by simp; omega) (ev_some rfl)
theorem vtl_len3 (n : Nat) (h : n < 2097152) : (vtl n).length ≤ 3 := by
  by_cases h1 : 127 < n
  · rw [vtl_big h1, List.length_cons]
    by_cases h2 : 127 < n / 128
    · rw [vtl_big h2, List.length_cons, vtl_small (show n / 128 / 128 ≤ 127 by omega)]
      simp
    · rw [vtl_small (show n / 128 ≤ 127 by omega)]
      simp
  · rw [vtl_small (by omega)]; simp
theorem logEsB_ok : ∀ (es : List S40) (t : Int), logEsB t es = true → ∀ e ∈ es, entryOkB e.f0 e.f1 e.f2 = true
  | [], _, _, e, he => by cases he
  | x :: xs, t, h, e, he => by
    unfold logEsB at h
    rw [Bool.and_eq_true, Bool.and_eq_true] at h
    rcases List.mem_cons.1 he with rfl | he
    · exact h.1
    · exact logEsB_ok xs x.f0 h.2.2 e he
theorem entryS_size (i t k : Int) (d : ByteArray) (hi : 1 ≤ i ∧ i ≤ 1000000) (ht : 0 ≤ t ∧ t ≤ 100000) (hd : d.size ≤ 640) : 1 ≤ (entryS i t k d).size ∧ (entryS i t k d).size ≤ 648 := by
  unfold entryS
  have h1 := vtl_len3 i.toNat (by omega)
  have h2 := vtl_len3 t.toNat (by omega)
  have h3 : (⟨#[69]⟩ : ByteArray).size = 1 := rfl
  rw [ByteArray.size_append, ByteArray.size_append, ByteArray.size_append, ByteArray.size_append, strN_size, strN_size, octS_len, h3]
  have h4 : [k].length = 1 := rfl
  omega
theorem frameS_size (s : ByteArray) (h : s.size ≤ 9000) : (frameS s).size ≤ s.size + 7 := by
  unfold frameS
  have h1 := vtl_len3 s.size (by omega)
  rw [ByteArray.size_append, ByteArray.size_append, strN_size, sumS_size]
  omega
def framesV (s : Int) : List S40 → Nat → ByteArray → ByteArray
  | [], _, acc => acc
  | e :: q, i, acc => framesV s q (i + 1) (acc ++ frameS (entryS (s + 1 + (i : Int)) e.f0 e.f1 e.f2))
theorem framesV_size (s : Int) (h0 : 0 ≤ s) : ∀ (q : List S40) (i : Nat) (acc : ByteArray), (∀ e ∈ q, entryOkB e.f0 e.f1 e.f2 = true) → s + (i : Int) + (q.length : Int) ≤ 1000000 → (framesV s q i acc).size ≤ acc.size + 700 * q.length
  | [], _, acc, _, _ => by show acc.size ≤ acc.size + 700 * 0; omega
  | e :: q, i, acc, hok, hs => by
    have he := hok e (List.mem_cons_self ..)
    rw [List.length_cons] at hs ⊢
    have h1 := entryS_size (s + 1 + (i : Int)) e.f0 e.f1 e.f2 (by omega) (entryOkB_term _ _ _ he) (entryOkB_size _ _ _ he)
    have h2 := frameS_size (entryS (s + 1 + (i : Int)) e.f0 e.f1 e.f2) (by omega)
    have := framesV_size s h0 q (i + 1) (acc ++ frameS (entryS (s + 1 + (i : Int)) e.f0 e.f1 e.f2)) (fun x hx => hok x (List.mem_cons_of_mem _ hx)) (by omega)
    rw [ByteArray.size_append] at this
    show (framesV s q (i + 1) _).size ≤ _
    omega
theorem spec_go (s : Int) (h0 : 0 ≤ s) : ∀ (q : List S40) (i : Nat) (acc : ByteArray), (∀ e ∈ q, entryOkB e.f0 e.f1 e.f2 = true) → s + (i : Int) + (q.length : Int) ≤ 1000000 → acc.size + 700 * q.length ≤ 1000000000 → Ev (fun k => spec_l07Frames.go k s q i acc) (framesV s q i acc)
  | [], _, acc, _, _, _ => ev_some rfl
  | e :: q, i, acc, hok, hs, ha => by
    have he := hok e (List.mem_cons_self ..)
    rw [List.length_cons] at hs ha
    have h1 := entryS_size (s + 1 + (i : Int)) e.f0 e.f1 e.f2 (by omega) (entryOkB_term _ _ _ he) (entryOkB_size _ _ _ he)
    have h2 := frameS_size (entryS (s + 1 + (i : Int)) e.f0 e.f1 e.f2) (by omega)
    have hd := entryOkB_size _ _ _ he
    simp only [spec_l07Frames.go]
    rw [wid (x := s + 1) (by omega) (by omega), wid (x := s + 1 + (i : Int)) (by omega) (by omega)]
    have e1 := spec_EntryText_f (s + 1 + (i : Int)) e.f0 e.f1 e.f2 (by omega)
    rw [show entryTextV (s + 1 + (i : Int)) e.f0 e.f1 e.f2 = (entryS (s + 1 + (i : Int)) e.f0 e.f1 e.f2, true) from if_pos ⟨⟨by omega, by omega⟩, he⟩] at e1
    have e2 := spec_Frame_f (entryS (s + 1 + (i : Int)) e.f0 e.f1 e.f2) (by omega)
    rw [show frameV (entryS (s + 1 + (i : Int)) e.f0 e.f1 e.f2) = (frameS (entryS (s + 1 + (i : Int)) e.f0 e.f1 e.f2), true) from if_pos ⟨by omega, by omega⟩] at e2
    refine ev_bind e1 (ev_bind e2 (ev_if (by dsimp only; omega) ?_))
    exact spec_go s h0 q (i + 1) _ (fun x hx => hok x (List.mem_cons_of_mem _ hx)) (by omega) (by rw [ByteArray.size_append]; dsimp only; omega)
theorem impl_go (s : Int) (h0 : 0 ≤ s) : ∀ (q : List S40) (i : Nat) (acc : ByteArray), (∀ e ∈ q, entryOkB e.f0 e.f1 e.f2 = true) → s + (i : Int) + (q.length : Int) ≤ 1000000 → acc.size + 700 * q.length ≤ 1000000000 → Ev (fun k => impl_entryFrames.go k s q i acc) (framesV s q i acc)
  | [], _, acc, _, _, _ => ev_some rfl
  | e :: q, i, acc, hok, hs, ha => by
    have he := hok e (List.mem_cons_self ..)
    rw [List.length_cons] at hs ha
    have h1 := entryS_size (s + 1 + (i : Int)) e.f0 e.f1 e.f2 (by omega) (entryOkB_term _ _ _ he) (entryOkB_size _ _ _ he)
    have h2 := frameS_size (entryS (s + 1 + (i : Int)) e.f0 e.f1 e.f2) (by omega)
    have hd := entryOkB_size _ _ _ he
    simp only [impl_entryFrames.go]
    rw [wid (x := s + 1) (by omega) (by omega), wid (x := s + 1) (by omega) (by omega), wid (x := s + 1 + (i : Int)) (by omega) (by omega)]
    have e1 := impl_entryText_f (s + 1 + (i : Int)) e.f0 e.f1 e.f2 ⟨by omega, by omega⟩ (entryOkB_term _ _ _ he) (by omega)
    have e2 := impl_frame_f (entryS (s + 1 + (i : Int)) e.f0 e.f1 e.f2) (by omega)
    refine ev_bind e1 (ev_bind e2 (ev_if (by omega) ?_))
    exact impl_go s h0 q (i + 1) _ (fun x hx => hok x (List.mem_cons_of_mem _ hx)) (by omega) (by rw [ByteArray.size_append]; omega)
def headS (c : ByteArray) (a b : Int) : ByteArray := frameS ((c ++ strN (vtl a.toNat)) ++ strN (vtl b.toNat))
theorem head_parts (c : ByteArray) (hc : c.size = 1) (a b : Int) (ha : 0 ≤ a ∧ a ≤ 1000000) (hb : 0 ≤ b ∧ b ≤ 1000000) : (strN (vtl a.toNat)).size ≤ 3 ∧ (strN (vtl b.toNat)).size ≤ 3 ∧ 1 ≤ ((c ++ strN (vtl a.toNat)) ++ strN (vtl b.toNat)).size ∧ ((c ++ strN (vtl a.toNat)) ++ strN (vtl b.toNat)).size ≤ 7 ∧ (headS c a b).size ≤ 14 := by
  have h1 := vtl_len3 a.toNat (by omega)
  have h2 := vtl_len3 b.toNat (by omega)
  have h3 : ((c ++ strN (vtl a.toNat)) ++ strN (vtl b.toNat)).size ≤ 7 ∧ 1 ≤ ((c ++ strN (vtl a.toNat)) ++ strN (vtl b.toNat)).size := by
    rw [ByteArray.size_append, ByteArray.size_append, strN_size, strN_size, hc]
    omega
  have h4 := frameS_size ((c ++ strN (vtl a.toNat)) ++ strN (vtl b.toNat)) (by omega)
  refine ⟨by rw [strN_size]; exact h1, by rw [strN_size]; exact h2, h3.2, h3.1, ?_⟩
  unfold headS
  omega
def jtextS (t v s st : Int) (es : List S40) : ByteArray := (headS ⟨#[66]⟩ s st ++ headS ⟨#[72]⟩ t v) ++ framesV s es 0 ⟨#[]⟩
def jtextV (n t v s st : Int) (es : List S40) : ByteArray × Bool := if journalOkB n t v s st es = true then (if ((jtextS t v s st es).size : Int) > 20000 then (⟨#[]⟩, false) else (jtextS t v s st es, true)) else (⟨#[]⟩, false)
structure JRight (t v s st : Int) (es : List S40) : Prop where
  t0 : 0 ≤ t ∧ t ≤ 100000
  v0 : 0 ≤ v ∧ v ≤ 4
  s0 : 0 ≤ s ∧ s ≤ 1000000
  st0 : 0 ≤ st ∧ st ≤ 100000
  n1 : es.length ≤ 60
  top : s + (es.length : Int) ≤ 1000000
  all : ∀ e ∈ es, entryOkB e.f0 e.f1 e.f2 = true
theorem journal_right (n t v s st : Int) (es : List S40) (h : journalOkB n t v s st es = true) : JRight t v s st es := by
  unfold journalOkB logOkB at h
  simp only [Bool.and_eq_true, decide_eq_true_eq] at h
  obtain ⟨_, h2, h3, h4, h5, h6, h7⟩ := h
  exact ⟨h2, h3, h4, h5, h6.1, h6.2, logEsB_ok es st h7⟩
theorem vt_spec (a : Int) (ha : 0 ≤ a ∧ a ≤ 1000000) : Ev (fun k => spec_l01Var.f k a) (strN (vtl a.toNat)) := by
  have h := spec_l01Var_f a.toNat (by omega)
  rwa [Int.toNat_of_nonneg ha.1] at h
theorem vt_impl (a : Int) (ha : 0 ≤ a ∧ a ≤ 1000000) : Ev (fun k => impl_varText.f k a) (strN (vtl a.toNat)) := by
  have h := impl_varText_f a.toNat (by omega)
  rwa [Int.toNat_of_nonneg ha.1] at h
theorem spec_JournalText_f (n t v s st : Int) (es : List S40) (hl : es.length ≤ 1048576) : Ev (fun k => spec_JournalText.f k n t v s st es) (jtextV n t v s st es) := by
  unfold spec_JournalText.f
  refine ev_bind (spec_JournalOk_f n t v s st es (by omega)) ?_
  by_cases h : journalOkB n t v s st es = true
  case neg => exact ev_eq (ev_else h (ev_some rfl)) (if_neg h).symm
  obtain ⟨t0, v0, s0, st0, n1, top, all⟩ := journal_right n t v s st es h
  have key : jtextV n t v s st es = if ((jtextS t v s st es).size : Int) > 20000 then (⟨#[]⟩, false) else (jtextS t v s st es, true) := if_pos h
  have c1 : (⟨#[66]⟩ : ByteArray).size = 1 := rfl
  have c2 : (⟨#[72]⟩ : ByteArray).size = 1 := rfl
  obtain ⟨a1, a2, a3, a4, a5⟩ := head_parts ⟨#[66]⟩ c1 s st s0 ⟨st0.1, by omega⟩
  obtain ⟨b1, b2, b3, b4, b5⟩ := head_parts ⟨#[72]⟩ c2 t v ⟨t0.1, by omega⟩ ⟨v0.1, by omega⟩
  have f1 := spec_Frame_f (((⟨#[66]⟩ : ByteArray) ++ strN (vtl s.toNat)) ++ strN (vtl st.toNat)) (by omega)
  rw [show frameV (((⟨#[66]⟩ : ByteArray) ++ strN (vtl s.toNat)) ++ strN (vtl st.toNat)) = (headS ⟨#[66]⟩ s st, true) from if_pos ⟨a3, by omega⟩] at f1
  have f2 := spec_Frame_f (((⟨#[72]⟩ : ByteArray) ++ strN (vtl t.toNat)) ++ strN (vtl v.toNat)) (by omega)
  rw [show frameV (((⟨#[72]⟩ : ByteArray) ++ strN (vtl t.toNat)) ++ strN (vtl v.toNat)) = (headS ⟨#[72]⟩ t v, true) from if_pos ⟨b3, by omega⟩] at f2
  have hard : Ev (fun k => spec_l07Hard.f k t v) (headS ⟨#[72]⟩ t v) := by
    unfold spec_l07Hard.f
    exact ev_bind (vt_spec t ⟨t0.1, by omega⟩) (ev_if (by omega) (ev_bind (vt_spec v ⟨v0.1, by omega⟩) (ev_if (by rw [ByteArray.size_append]; omega) (ev_bind f2 (ev_some rfl)))))
  have z0 : (⟨#[]⟩ : ByteArray).size = 0 := rfl
  have fz := framesV_size s s0.1 es 0 ⟨#[]⟩ all (by omega)
  have fr : Ev (fun k => spec_l07Frames.f k s st es 0) (framesV s es 0 ⟨#[]⟩) := by
    unfold spec_l07Frames.f
    exact ev_if ⟨rfl, by omega⟩ (spec_go s s0.1 es 0 ⟨#[]⟩ all (by omega) (by omega))
  refine ev_if h (ev_bind (vt_spec s s0) (ev_if (by omega) (ev_bind (vt_spec st ⟨st0.1, by omega⟩) (ev_if (by rw [ByteArray.size_append]; omega) (ev_bind f1 (ev_bind hard (ev_if (by dsimp only; omega) (ev_bind fr (ev_if (by dsimp only; rw [ByteArray.size_append]; omega) ?_)))))))))
  by_cases hb : ((jtextS t v s st es).size : Int) > 20000
  · exact ev_eq (ev_if hb (ev_some rfl)) (key.trans (if_pos hb)).symm
  · exact ev_eq (ev_else hb (ev_some rfl)) (key.trans (if_neg hb)).symm
theorem impl_JournalText_f (n t v s st : Int) (es : List S40) (hl : es.length ≤ 1048576) : Ev (fun k => impl_JournalText.f k n t v s st es) (jtextV n t v s st es) := by
  unfold impl_JournalText.f
  refine ev_bind (impl_JournalOk_f n t v s st es (by omega)) ?_
  by_cases h : journalOkB n t v s st es = true
  case neg => exact ev_eq (ev_else h (ev_some rfl)) (if_neg h).symm
  obtain ⟨t0, v0, s0, st0, n1, top, all⟩ := journal_right n t v s st es h
  have key : jtextV n t v s st es = if ((jtextS t v s st es).size : Int) > 20000 then (⟨#[]⟩, false) else (jtextS t v s st es, true) := if_pos h
  have c1 : (⟨#[66]⟩ : ByteArray).size = 1 := rfl
  have c2 : (⟨#[72]⟩ : ByteArray).size = 1 := rfl
  obtain ⟨a1, a2, a3, a4, a5⟩ := head_parts ⟨#[66]⟩ c1 s st s0 ⟨st0.1, by omega⟩
  obtain ⟨b1, b2, b3, b4, b5⟩ := head_parts ⟨#[72]⟩ c2 t v ⟨t0.1, by omega⟩ ⟨v0.1, by omega⟩
  have f1 : Ev (fun k => impl_frame.f k (((⟨#[66]⟩ : ByteArray) ++ strN (vtl s.toNat)) ++ strN (vtl st.toNat))) (headS ⟨#[66]⟩ s st) := impl_frame_f _ (by omega)
  have f2 : Ev (fun k => impl_frame.f k (((⟨#[72]⟩ : ByteArray) ++ strN (vtl t.toNat)) ++ strN (vtl v.toNat))) (headS ⟨#[72]⟩ t v) := impl_frame_f _ (by omega)
  have hard : Ev (fun k => impl_headFrame.f k t v) (headS ⟨#[72]⟩ t v) := by
    unfold impl_headFrame.f
    exact ev_bind (vt_impl t ⟨t0.1, by omega⟩) (ev_if (by omega) (ev_bind (vt_impl v ⟨v0.1, by omega⟩) (ev_if (by rw [ByteArray.size_append]; omega) (ev_bind f2 (ev_some rfl)))))
  have z0 : (⟨#[]⟩ : ByteArray).size = 0 := rfl
  have fz := framesV_size s s0.1 es 0 ⟨#[]⟩ all (by omega)
  have fr : Ev (fun k => impl_entryFrames.f k s st es 0) (framesV s es 0 ⟨#[]⟩) := by
    unfold impl_entryFrames.f
    exact ev_if ⟨rfl, by omega⟩ (impl_go s s0.1 es 0 ⟨#[]⟩ all (by omega) (by omega))
  refine ev_if h (ev_bind (vt_impl s s0) (ev_if (by omega) (ev_bind (vt_impl st ⟨st0.1, by omega⟩) (ev_if (by rw [ByteArray.size_append]; omega) (ev_bind f1 (ev_bind hard (ev_if (by omega) (ev_bind fr (ev_if (by rw [ByteArray.size_append]; omega) ?_)))))))))
  by_cases hb : ((jtextS t v s st es).size : Int) > 20000
  · exact ev_eq (ev_if hb (ev_some rfl)) (key.trans (if_pos hb)).symm
  · exact ev_eq (ev_else hb (ev_some rfl)) (key.trans (if_neg hb)).symm
theorem copy_map {α β : Type} (g : α → β) (l : List α) (d : α) (z : β) (i : Nat) (h : i < l.length) :
    ((l.take i).map g ++ List.replicate (l.length - i) z).set i (g (l.getD i d)) = (l.take (i + 1)).map g ++ List.replicate (l.length - (i + 1)) z := by
  have h1 : ((l.take i).map g).length = i := by rw [List.length_map, List.length_take]; omega
  rw [List.set_append_right _ _ (by omega), h1, Nat.sub_self]
  have h2 : l.length - i = (l.length - (i + 1)) + 1 := by omega
  rw [h2, List.replicate_succ, List.set_cons_zero, List.take_succ_eq_append_getElem h, List.map_append, List.append_assoc]
  congr 1
  rw [List.getD_eq_getElem?_getD, List.getElem?_eq_getElem h]
  rfl
theorem copy_map_len {α β : Type} (g : α → β) (l : List α) (z : β) (i : Nat) (h : i ≤ l.length) : ((l.take i).map g ++ List.replicate (l.length - i) z).length = l.length := by
  rw [List.length_append, List.length_map, List.length_take, List.length_replicate]; omega
def convEntry (x : S37) : S40 := ⟨x.f0, x.f1, x.f2⟩
theorem laws_toEntryS_l0 (l : List S37) (hl : l.length ≤ 1048576) : ∀ (d i : Nat), i + d = l.length →
    Ev (fun k => laws_toEntryS.l0 k l ((l.take i).map convEntry ++ List.replicate (l.length - i) z40) (i : Int)) (l.map convEntry) := by
  intro d
  induction d with
  | zero =>
    intro i hi
    refine ev_succ ?_
    simp only [laws_toEntryS.l0]
    refine ev_else (by omega) (ev_some ?_)
    have e : i = l.length := by omega
    subst e
    simp
  | succ d ih =>
    intro i hi
    refine ev_succ ?_
    simp only [laws_toEntryS.l0, laws_toEntry.f, Option.bind_some]
    refine ev_if (by omega) (ev_if (by omega) (ev_if (by rw [copy_map_len _ _ _ _ (by omega)]; omega) ?_))
    have hs : ((l.take i).map convEntry ++ List.replicate (l.length - i) z40).set ((i : Int)).toNat (⟨(rd_T37 l (i : Int)).f0, (rd_T37 l (i : Int)).f1, (rd_T37 l (i : Int)).f2⟩ : S40) = (l.take (i + 1)).map convEntry ++ List.replicate (l.length - (i + 1)) z40 := copy_map convEntry l z37 z40 i (by omega)
    rw [hs, succ_i i (by omega)]
    exact ih (i + 1) (by omega)
theorem laws_toEntryS_f (l : List S37) (hl : l.length ≤ 1048576) : Ev (fun k => laws_toEntryS.f k l) (l.map convEntry) := by
  unfold laws_toEntryS.f
  refine ev_if (by omega) (ev_if (by rw [toNat_nat]; omega) ?_)
  have := laws_toEntryS_l0 l hl l.length 0 (by omega)
  simpa using this
theorem laws_eqEntry_refl (a0 : Int) (a1 : Int) (a2 : ByteArray) : laws_eqEntry.f a0 a1 a2 a0 a1 a2 = some true := by
  unfold laws_eqEntry.f
  simp
theorem laws_eqEntryS_l0 (l : List S40) (hl : l.length ≤ 4611686018427387904) : ∀ (d i : Nat), i + d = l.length →
    Ev (fun k => laws_eqEntryS.l0 k l l (i : Int)) true := by
  intro d
  induction d with
  | zero =>
    intro i hi
    refine ev_succ ?_
    simp only [laws_eqEntryS.l0]
    exact ev_else (by omega) (ev_some rfl)
  | succ d ih =>
    intro i hi
    refine ev_succ ?_
    simp only [laws_eqEntryS.l0]
    refine ev_if (by omega) (ev_if (by omega) (ev_if (by omega) (ev_bind0 (laws_eqEntry_refl _ _ _) (ev_if rfl ?_))))
    rw [succ_i i (by omega)]
    exact ih (i + 1) (by omega)
theorem laws_eqEntryS_f (l : List S40) (hl : l.length ≤ 4611686018427387904) : Ev (fun k => laws_eqEntryS.f k l l) true := by
  unfold laws_eqEntryS.f
  exact ev_if rfl (laws_eqEntryS_l0 l hl l.length 0 (by omega))
theorem le_sum_mem : ∀ (l : List Nat) (x : Nat), x ∈ l → x ≤ l.sum
  | [], _, h => by cases h
  | y :: l, x, h => by
    rw [List.sum_cons]
    rcases List.mem_cons.1 h with rfl | h
    · omega
    · have := le_sum_mem l x h
      omega
theorem laws_szEntry_f (a0 : Int) (a1 : Int) (a2 : ByteArray) (left : Int) (e2 : a2.size ≤ maxLen) (h0 : 0 ≤ left) (h1 : left ≤ 1048576) :
    ∃ r, laws_szEntry.f a0 a1 a2 left = some r ∧ (r < 0 ∨ 0 ≤ r ∧ r + ((a2.size : Int)) = left) := by
  unfold maxLen at e2
  unfold laws_szEntry.f
  rw [wid (x := left - (a2.size : Int)) (by omega) (by omega)]
  by_cases c0 : left - (a2.size : Int) < 0
  · exact ⟨-1, by rw [if_pos c0], .inl (by omega)⟩
  rw [if_neg c0]
  exact ⟨_, rfl, .inr ⟨by omega, by omega⟩⟩
def wtEntry (l : List S37) : Nat := (l.map fun x => x.f2.size).sum
theorem wtEntry_mem (l : List S37) : ∀ x ∈ l, x.f2.size ≤ wtEntry l := by
  intro x hx
  unfold wtEntry
  exact le_sum_mem _ _ (List.mem_map.2 ⟨x, hx, rfl⟩)
theorem wtEntry_drop (l : List S37) (i : Nat) (h : i < l.length) : wtEntry (l.drop i) = ((rd_T37 l (i : Int)).f2.size) + wtEntry (l.drop (i + 1)) := by
  rw [drop_getD l z37 i h]
  unfold wtEntry
  rw [List.map_cons, List.sum_cons]
  rfl
theorem laws_szEntryS_l0 (l : List S37) (hq : ∀ x ∈ l, ((Lit.int .i64 x.f0).wf = true) ∧ ((Lit.int .i64 x.f1).wf = true) ∧ x.f2.size ≤ maxLen) : ∀ (d i : Nat) (left : Int), i + d = l.length → l.length ≤ 1048576 → 0 ≤ left → left ≤ 1048576 →
    ∃ r, Ev (fun k => laws_szEntryS.l0 k l left (i : Int)) r ∧ (r < 0 ∨ 0 ≤ r ∧ r + (wtEntry (l.drop i) : Int) = left) := by
  intro d
  induction d with
  | zero =>
    intro i left hi hl h0 h1
    refine ⟨left, ev_succ ?_, .inr ⟨h0, ?_⟩⟩
    · simp only [laws_szEntryS.l0]
      exact ev_else (by omega) (ev_some rfl)
    · rw [drop_end l i (by omega)]
      show left + ((0 : Nat) : Int) = left
      omega
  | succ d ih =>
    intro i left hi hl h0 h1
    have hx := hq (rd_T37 l (i : Int)) (by
      show l.getD i z37 ∈ l
      rw [List.getD_eq_getElem?_getD, List.getElem?_eq_getElem (by omega)]
      exact List.getElem_mem _)
    obtain ⟨r, hr, hc⟩ := laws_szEntry_f (rd_T37 l (i : Int)).f0 (rd_T37 l (i : Int)).f1 (rd_T37 l (i : Int)).f2 left (hx.2.2) h0 h1
    rw [wtEntry_drop l i (by omega)]
    rcases hc with hn | ⟨hp, hs⟩
    · refine ⟨-1, ev_succ ?_, .inl (by omega)⟩
      simp only [laws_szEntryS.l0]
      exact ev_if (by omega) (ev_if (by omega) (ev_bind0 hr (ev_if hn (ev_some rfl))))
    · obtain ⟨r', hr', hc'⟩ := ih (i + 1) r (by omega) hl hp (by omega)
      refine ⟨r', ev_succ ?_, ?_⟩
      · simp only [laws_szEntryS.l0]
        rw [succ_i i (by omega)]
        exact ev_if (by omega) (ev_if (by omega) (ev_bind0 hr (ev_else (by omega) hr')))
      · rcases hc' with h | ⟨h, h'⟩
        · exact .inl h
        · exact .inr ⟨h, by omega⟩
theorem laws_szEntryS_f (l : List S37) (hl : l.length ≤ maxLen ∧ ∀ x ∈ l, ((Lit.int .i64 x.f0).wf = true) ∧ ((Lit.int .i64 x.f1).wf = true) ∧ x.f2.size ≤ maxLen) (left : Int) (h0 : 0 ≤ left) (h1 : left ≤ 1048576) :
    ∃ r, Ev (fun k => laws_szEntryS.f k l left) r ∧ (r < 0 ∨ 0 ≤ r ∧ r + (l.length : Int) + (wtEntry l : Int) = left) := by
  obtain ⟨hl, hq⟩ := hl
  unfold maxLen at hl
  unfold laws_szEntryS.f
  rw [wid (x := left - (l.length : Int)) (by omega) (by omega)]
  by_cases h : left - (l.length : Int) < 0
  · exact ⟨-1, ev_if h (ev_some rfl), .inl (by omega)⟩
  · obtain ⟨r, hr, hc⟩ := laws_szEntryS_l0 l hq l.length 0 (left - (l.length : Int)) (by omega) (by omega) (by omega) (by omega)
    refine ⟨r, ev_else h hr, ?_⟩
    rcases hc with h' | ⟨h', h''⟩
    · exact .inl h'
    · refine .inr ⟨h', ?_⟩
      rw [List.drop_zero] at h''
      omega
theorem laws_szLog_f (s t : Int) (l : List S37) (hl : l.length ≤ maxLen ∧ ∀ x ∈ l, ((Lit.int .i64 x.f0).wf = true) ∧ ((Lit.int .i64 x.f1).wf = true) ∧ x.f2.size ≤ maxLen) (left : Int) (h0 : 0 ≤ left) (h1 : left ≤ 1048576) :
    ∃ r, Ev (fun k => laws_szLog.f k s t l left) r ∧ (r < 0 ∨ 0 ≤ r ∧ r + (l.length : Int) + (wtEntry l : Int) = left) := by
  obtain ⟨r, hr, hc⟩ := laws_szEntryS_f l hl left h0 h1
  unfold laws_szLog.f
  by_cases h : r < 0
  · exact ⟨-1, ev_bind hr (ev_if h (ev_some rfl)), .inl (by omega)⟩
  · exact ⟨r, ev_bind hr (ev_else h (ev_some rfl)), hc⟩
theorem laws_toLog_f (s t : Int) (l : List S37) (hl : l.length ≤ 1048576) : Ev (fun k => laws_toLog.f k s t l) (s, t, l.map convEntry) := by
  unfold laws_toLog.f
  exact ev_bind (laws_toEntryS_f l hl) (ev_some rfl)
theorem laws_eqLog_f (s t : Int) (l : List S40) (hl : l.length ≤ 4611686018427387904) : Ev (fun k => laws_eqLog.f k s t l s t l) true := by
  unfold laws_eqLog.f
  exact ev_if rfl (ev_if rfl (ev_bind (laws_eqEntryS_f l hl) (ev_if rfl (ev_some rfl))))
theorem laws_szJournal_f (n t v s st : Int) (l : List S37) (hl : l.length ≤ maxLen ∧ ∀ x ∈ l, ((Lit.int .i64 x.f0).wf = true) ∧ ((Lit.int .i64 x.f1).wf = true) ∧ x.f2.size ≤ maxLen) (left : Int) (h0 : 0 ≤ left) (h1 : left ≤ 1048576) :
    ∃ r, Ev (fun k => laws_szJournal.f k n t v s st l left) r ∧ (r < 0 ∨ 0 ≤ r ∧ r + (l.length : Int) + (wtEntry l : Int) = left) := by
  obtain ⟨r, hr, hc⟩ := laws_szLog_f s st l hl left h0 h1
  unfold laws_szJournal.f
  by_cases h : r < 0
  · exact ⟨-1, ev_bind hr (ev_if h (ev_some rfl)), .inl (by omega)⟩
  · exact ⟨r, ev_bind hr (ev_else h (ev_some rfl)), hc⟩
theorem laws_toJournal_f (n t v s st : Int) (l : List S37) (hl : l.length ≤ 1048576) : Ev (fun k => laws_toJournal.f k n t v s st l) (n, t, v, s, st, l.map convEntry) := by
  unfold laws_toJournal.f
  exact ev_bind (laws_toLog_f s st l hl) (ev_some rfl)
theorem laws_eqJournal_f (n t v s st : Int) (l : List S40) (hl : l.length ≤ 4611686018427387904) : Ev (fun k => laws_eqJournal.f k n t v s st l n t v s st l) true := by
  unfold laws_eqJournal.f
  exact ev_if rfl (ev_if rfl (ev_if rfl (ev_bind (laws_eqLog_f s st l hl) (ev_if rfl (ev_some rfl)))))
theorem FnExactJournalText (n t v s st : Int) (l : List S37) (_ : (Lit.int .i64 n).wf = true) (_ : (Lit.int .i64 t).wf = true) (_ : (Lit.int .i64 v).wf = true) (_ : (Lit.int .i64 s).wf = true) (_ : (Lit.int .i64 st).wf = true) (hl : l.length ≤ maxLen ∧ ∀ x ∈ l, ((Lit.int .i64 x.f0).wf = true) ∧ ((Lit.int .i64 x.f1).wf = true) ∧ x.f2.size ≤ maxLen) : ∃ k, laws_FnExactJournalText.f k n t v s st l = some true := by
  refine Ev.rounds ?_
  unfold laws_FnExactJournalText.f
  obtain ⟨r, hr, hc⟩ := laws_szJournal_f n t v s st l hl 1048576 (by omega) (by omega)
  refine ev_bind hr ?_
  by_cases hneg : r < 0
  · exact ev_if hneg (ev_some rfl)
  refine ev_else hneg ?_
  have hlen : l.length ≤ 1048576 := by omega
  have hlen2 : (l.map convEntry).length ≤ 1048576 := by rw [List.length_map]; omega
  refine ev_bind (laws_toJournal_f n t v s st l hlen) (ev_bind (spec_JournalText_f n t v s st _ hlen2) (ev_bind (laws_toJournal_f n t v s st l hlen) (ev_bind (impl_JournalText_f n t v s st _ hlen2) (ev_if rfl (ev_else (by simp) ?_)))))
  exact ev_bind (laws_toJournal_f n t v s st l hlen) (ev_bind (laws_eqJournal_f n t v s st (l.map convEntry) (by omega)) (ev_if rfl (ev_some rfl)))

end Go.Proofs.Ytacdceahdbaonaa.Pure
