/- For every disk and list of numbers the program's LoseDisk returns what the reference's returns, leaves both as they were and shares no memory with them, without a condition of its own. -/
import Derived.Test.YtidfhfaekdahpaaQFnExactLoseDiskx9
namespace Go.Proofs.Ytidfhfaekdahpaa.Pure
open Go.RowKit Go.Proofs.Ytidfhfaekdahpaa.QFnExactLoseDisk Go.Proofs.YtidfhfaekdahpaaW.PrintWords Go.Proofs.YtidfhfaekdahpaaW.PrintLast

set_option linter.unusedVariables false
set_option linter.unusedSimpArgs false
/-! small words on rounds -/
theorem wid {x : Int} (h0 : -9223372036854775808 ≤ x) (h1 : x ≤ 9223372036854775807) : wrap64 x = x := by
  unfold wrap64; omega
theorem wrap_to {x y : Int} (h : x = y) (h0 : -9223372036854775808 ≤ y) (h1 : y ≤ 9223372036854775807) : wrap64 x = y := by
  rw [h]; exact wid h0 h1
theorem ev_some {α : Type} {o : Option α} {r : α} (h : o = some r) : Ev (fun _ => o) r := ⟨0, fun _ _ => h⟩
theorem ev_succ {α : Type} {g : Nat → Option α} {r : α} (h : Ev (fun k => g (k + 1)) r) : Ev g r := Ev.step (fun _ => rfl) h
theorem ev_if {α : Type} {c : Prop} [Decidable c] {f g : Nat → Option α} {r : α} (h : c) (k : Ev f r) : Ev (fun n => if c then f n else g n) r := by
  simp only [if_pos h]; exact k
theorem ev_else {α : Type} {c : Prop} [Decidable c] {f g : Nat → Option α} {r : α} (h : ¬ c) (k : Ev g r) : Ev (fun n => if c then f n else g n) r := by
  simp only [if_neg h]; exact k
theorem ev_bind0 {α β : Type} {o : Option α} {f : Nat → α → Option β} {a : α} {r : β} (h : o = some a) (k : Ev (fun n => f n a) r) : Ev (fun n => o.bind (f n)) r := by
  subst h; exact k
theorem ev_bind {α β : Type} {g : Nat → Option α} {f : Nat → α → Option β} {a : α} {r : β} (h : Ev g a) (k : Ev (fun n => f n a) r) : Ev (fun n => (g n).bind (f n)) r := Ev.bind h k
theorem ev_eq {α : Type} {g : Nat → Option α} {a b : α} (h : Ev g a) (e : a = b) : Ev g b := e ▸ h
theorem tdivp {a b : Int} (h : 0 ≤ a) : Int.tdiv a b = a / b := Int.tdiv_eq_ediv_of_nonneg h
theorem tmodp {a b : Int} (h : 0 ≤ a) : Int.tmod a b = a % b := Int.tmod_eq_emod_of_nonneg h
theorem toList_iff (a b : ByteArray) : a.toList = b.toList ↔ a = b := by
  rw [ByteArray.toList_eq, ByteArray.toList_eq]
  exact ⟨fun h => ByteArray.ext (Array.toList_inj.mp h), fun h => by rw [h]⟩
theorem drop_getD {α : Type} (l : List α) (d : α) (i : Nat) (h : i < l.length) : l.drop i = l.getD i d :: l.drop (i + 1) := by
  rw [List.drop_eq_getElem_cons h, List.getD_eq_getElem?_getD, List.getElem?_eq_getElem h]
  rfl
theorem drop_end {α : Type} (l : List α) (i : Nat) (h : l.length ≤ i) : l.drop i = [] := List.drop_eq_nil_of_le h
theorem rd_nat (l : List Int) (i : Nat) : rd l (i : Int) = l.getD i 0 := rfl
theorem copy_step {α : Type} (l : List α) (d z : α) (i : Nat) (h : i < l.length) :
    (l.take i ++ List.replicate (l.length - i) z).set i (l.getD i d) = l.take (i + 1) ++ List.replicate (l.length - (i + 1)) z := by
  have h1 : (l.take i).length = i := by rw [List.length_take]; omega
  rw [List.set_append_right _ _ (by omega), h1, Nat.sub_self]
  have h2 : l.length - i = (l.length - (i + 1)) + 1 := by omega
  rw [h2, List.replicate_succ, List.set_cons_zero, List.take_succ_eq_append_getElem h, List.append_assoc]
  congr 1
  rw [List.getD_eq_getElem?_getD, List.getElem?_eq_getElem h]
  rfl
theorem copy_len {α : Type} (l : List α) (z : α) (i : Nat) (h : i ≤ l.length) : (l.take i ++ List.replicate (l.length - i) z).length = l.length := by
  rw [List.length_append, List.length_take, List.length_replicate]; omega
theorem toNat_nat (i : Nat) : ((i : Int)).toNat = i := rfl
theorem succ_i (i : Nat) (h : i ≤ 9223372036854775806) : wrap64 ((i : Int) + 1) = ((i + 1 : Nat) : Int) := wrap_to (by omega) (by omega) (by omega)
theorem pred_i (i : Nat) (h : 0 < i) (h' : i ≤ 9223372036854775806) : wrap64 ((i : Int) - 1) = ((i - 1 : Nat) : Int) := wrap_to (by omega) (by omega) (by omega)
def fileOkB (f : S45) : Bool := decide (1 ≤ f.f0.size ∧ f.f0.size ≤ 8) && (decide (f.f1.size ≤ 20000) && decide (0 ≤ f.f2 ∧ f.f2 ≤ (f.f1.size : Int)))
def lessB (a b : ByteArray) : Bool := Op.bytesLess a.toList b.toList
def diskL : Option ByteArray → List S45 → Bool
  | _, [] => true
  | p, x :: xs => fileOkB x && ((match p with | none => true | some y => lessB y x.f0) && diskL (some x.f0) xs)
def prevF (l : List S45) (i : Nat) : Option ByteArray := if i = 0 then none else some (rd_T45 l ((i - 1 : Nat) : Int)).f0
def diskOkB (l : List S45) : Bool := decide (l.length ≤ 30) && diskL none l
theorem diskL_at (l : List S45) (i : Nat) (h : i < l.length) :
    diskL (prevF l i) (l.drop i) = (fileOkB (rd_T45 l (i : Int)) && ((if i = 0 then true else lessB (rd_T45 l ((i - 1 : Nat) : Int)).f0 (rd_T45 l (i : Int)).f0) && diskL (prevF l (i + 1)) (l.drop (i + 1)))) := by
  rw [drop_getD l z45 i h]
  have e : prevF l (i + 1) = some (l.getD i z45).f0 := by simp [prevF]; rfl
  rw [e]
  show diskL (prevF l i) (l.getD i z45 :: l.drop (i + 1)) = (fileOkB (l.getD i z45) && _)
  simp only [diskL, prevF]
  by_cases h0 : i = 0
  · subst h0; rfl
  · simp only [h0, if_false]; rfl
theorem diskL_all : ∀ (l : List S45) (p : Option ByteArray), diskL p l = true → ∀ x ∈ l, fileOkB x = true := by
  intro l
  induction l with
  | nil => intro p _ x hx; cases hx
  | cons y ys ih =>
    intro p h x hx
    simp only [diskL, Bool.and_eq_true] at h
    rcases List.mem_cons.1 hx with rfl | hx
    · exact h.1
    · exact ih _ h.2.2 x hx
theorem diskOk_all (l : List S45) (h : diskOkB l = true) : l.length ≤ 30 ∧ ∀ x ∈ l, (1 ≤ x.f0.size ∧ x.f0.size ≤ 8) ∧ x.f1.size ≤ 20000 ∧ 0 ≤ x.f2 ∧ x.f2 ≤ (x.f1.size : Int) := by
  simp only [diskOkB, Bool.and_eq_true, decide_eq_true_eq] at h
  refine ⟨h.1, fun x hx => ?_⟩
  have := diskL_all l none h.2 x hx
  simp only [fileOkB, Bool.and_eq_true, decide_eq_true_eq] at this
  exact this
def lostV (q : List Int) (l : List S45) : List S45 × Bool := if diskOkB l = true then (impl_Disk_lose.lostTo q l l.length, true) else ([], false)
theorem lostTo_take (q : List Int) (l : List S45) (i : Nat) (h : i < l.length) : (impl_Disk_lose.lostTo q l (i + 1)).take (i + 1) = (impl_Disk_lose.lostTo q l i).take i ++ [impl_Disk_lose.lx q i (rd_T45 l (i : Int))] := by
  have hl := impl_Disk_lose.lostTo_length q l i
  rw [impl_Disk_lose.lostTo, List.take_succ_eq_append_getElem (by rw [List.length_set]; omega), List.getElem_set_self, List.take_set_of_le (Nat.le_refl _)]
  rfl
theorem extract_all (t : ByteArray) (n : Int) (h : n.toNat = t.size) : t.extract 0 n.toNat = t := by
  rw [h]
  exact ByteArray.extract_zero_size
theorem impl_inRange_f (x a b : Int) : impl_inRange.f x a b = some (decide (a ≤ x ∧ x ≤ b)) := by
  unfold impl_inRange.f
  by_cases h1 : a ≤ x <;> by_cases h2 : x ≤ b <;> simp [h1, h2]
theorem impl_fileOk_f (f : S45) : impl_fileOk.f f.f0 f.f1 f.f2 = some (fileOkB f) := by
  unfold impl_fileOk.f fileOkB
  simp only [impl_inRange_f, Option.bind_some]
  by_cases h1 : 1 ≤ f.f0.size ∧ f.f0.size ≤ 8
  · have h1' : 1 ≤ (f.f0.size : Int) ∧ (f.f0.size : Int) ≤ 8 := by omega
    by_cases h2 : f.f1.size ≤ 20000
    · have h2' : (f.f1.size : Int) ≤ 20000 := by omega
      simp only [h1, h1', h2, h2', and_self, decide_true, if_true, Bool.true_and]
    · have h2' : ¬ (f.f1.size : Int) ≤ 20000 := by omega
      simp only [h1, h1', h2, h2', and_self, decide_true, decide_false, if_true, if_false, Bool.true_and, Bool.false_and]
  · have h1' : ¬ (1 ≤ (f.f0.size : Int) ∧ (f.f0.size : Int) ≤ 8) := by omega
    simp only [h1, h1', decide_false, Bool.false_and]
    rfl
theorem impl_DiskOk_l0 (l : List S45) (hl : l.length ≤ 4611686018427387904) : ∀ (d i : Nat), i + d = l.length →
    Ev (fun k => impl_DiskOk.l0 k l (l.length : Int) (i : Int) l) (decide (l.length ≤ 30) && diskL (prevF l i) (l.drop i)) := by
  intro d
  induction d with
  | zero =>
    intro i hi
    refine ev_succ ?_
    simp only [impl_DiskOk.l0]
    refine ev_else (by omega) (ev_some ?_)
    rw [drop_end l i (by omega)]
    have e : diskL (prevF l i) [] = true := by cases prevF l i <;> rfl
    rw [e, Bool.and_true]
    congr 1
    apply decide_eq_decide.2
    omega
  | succ d ih =>
    intro i hi
    refine ev_succ ?_
    simp only [impl_DiskOk.l0]
    refine ev_if (by omega) (ev_if (by omega) (ev_if (by omega) (ev_bind0 (impl_fileOk_f _) ?_)))
    rw [diskL_at l i (by omega), succ_i i (by omega)]
    by_cases hf : fileOkB (rd_T45 l (i : Int)) = true
    · refine ev_if hf ?_
      rw [hf, Bool.true_and]
      by_cases h0 : i = 0
      · refine ev_else (by omega) (ev_eq (ih (i + 1) (by omega)) ?_)
        rw [if_pos h0, Bool.true_and]
      · rw [pred_i i (by omega) (by omega), if_neg h0]
        refine ev_if (by omega) (ev_if (by omega) (ev_if (by omega) ?_))
        by_cases hb : lessB (rd_T45 l ((i - 1 : Nat) : Int)).f0 (rd_T45 l (i : Int)).f0 = true
        · refine ev_if hb (ev_eq (ih (i + 1) (by omega)) ?_)
          rw [hb, Bool.true_and]
        · refine ev_else hb (ev_some ?_)
          rw [Bool.eq_false_iff.2 hb, Bool.false_and, Bool.and_false]
    · refine ev_else hf (ev_some ?_)
      rw [Bool.eq_false_iff.2 hf, Bool.false_and, Bool.and_false]
theorem impl_DiskOk_f (l : List S45) (hl : l.length ≤ 4611686018427387904) : Ev (fun k => impl_DiskOk.f k l) (diskOkB l) := by
  have := impl_DiskOk_l0 l hl l.length 0 (by omega)
  unfold impl_DiskOk.f diskOkB
  rw [List.drop_zero] at this
  exact this
theorem impl_LoseDisk_f (l : List S45) (q : List Int) (hl : l.length ≤ 4611686018427387904) : Ev (fun k => impl_LoseDisk.f k l q) (lostV q l) := by
  unfold impl_LoseDisk.f lostV
  refine ev_bind (impl_DiskOk_f l hl) ?_
  by_cases h : diskOkB l = true
  · obtain ⟨h1, h2⟩ := diskOk_all l h
    exact ev_eq (ev_if h (ev_if ⟨by omega, fun x hx => (h2 x hx).2.2⟩ (ev_some rfl))) (if_pos h).symm
  · exact ev_eq (ev_else h (ev_some rfl)) (if_neg h).symm
theorem spec_l01In_f (x a b : Int) : spec_l01In.f x a b = some (decide (a ≤ x ∧ x ≤ b)) := by
  unfold spec_l01In.f
  by_cases h1 : a ≤ x <;> by_cases h2 : x ≤ b <;> simp [h1, h2]
theorem spec_l03Name_f (s : ByteArray) : spec_l03Name.f s = some (decide (1 ≤ s.size ∧ s.size ≤ 8)) := by
  unfold spec_l03Name.f
  simp only [spec_l01In_f, Option.bind_some]
  congr 1
  apply decide_eq_decide.2
  omega
theorem spec_DiskOk_l0 (l : List S45) (hl : l.length ≤ 4611686018427387904) : ∀ (d i : Nat), i + d = l.length →
    Ev (fun k => spec_DiskOk.l0 k (i : Int) l) (diskL (prevF l i) (l.drop i)) := by
  intro d
  induction d with
  | zero =>
    intro i hi
    refine ev_succ ?_
    simp only [spec_DiskOk.l0]
    refine ev_else (by omega) (ev_some ?_)
    rw [drop_end l i (by omega)]
    cases prevF l i <;> rfl
  | succ d ih =>
    intro i hi
    refine ev_succ ?_
    simp only [spec_DiskOk.l0]
    refine ev_if (by omega) (ev_if (by omega) (ev_bind0 (spec_l03Name_f _) ?_))
    rw [diskL_at l i (by omega), succ_i i (by omega)]
    unfold fileOkB
    by_cases h1 : 1 ≤ (rd_T45 l (i : Int)).f0.size ∧ (rd_T45 l (i : Int)).f0.size ≤ 8
    · refine ev_if (decide_eq_true h1) ?_
      rw [decide_eq_true h1, Bool.true_and]
      by_cases h2 : (rd_T45 l (i : Int)).f1.size ≤ 20000
      · refine ev_else (by omega) (ev_bind0 (spec_l01In_f _ _ _) ?_)
        rw [decide_eq_true h2, Bool.true_and]
        by_cases h3 : 0 ≤ (rd_T45 l (i : Int)).f2 ∧ (rd_T45 l (i : Int)).f2 ≤ ((rd_T45 l (i : Int)).f1.size : Int)
        · refine ev_if (decide_eq_true h3) ?_
          rw [decide_eq_true h3, Bool.true_and]
          by_cases h0 : i = 0
          · refine ev_else (by omega) (ev_eq (ih (i + 1) (by omega)) ?_)
            rw [if_pos h0, Bool.true_and]
          · rw [pred_i i (by omega) (by omega), if_neg h0]
            refine ev_if (by omega) (ev_if (by omega) (ev_if (by omega) ?_))
            by_cases hb : lessB (rd_T45 l ((i - 1 : Nat) : Int)).f0 (rd_T45 l (i : Int)).f0 = true
            · refine ev_if hb (ev_eq (ih (i + 1) (by omega)) ?_)
              rw [hb, Bool.true_and]
            · refine ev_else hb (ev_some ?_)
              rw [Bool.eq_false_iff.2 hb, Bool.false_and]
        · refine ev_else (by rw [decide_eq_false h3]; simp) (ev_some ?_)
          rw [decide_eq_false h3, Bool.false_and]
      · refine ev_if (by omega) (ev_some ?_)
        rw [decide_eq_false h2, Bool.false_and, Bool.false_and]
    · refine ev_else (by rw [decide_eq_false h1]; simp) (ev_some ?_)
      rw [decide_eq_false h1, Bool.false_and, Bool.false_and]
theorem spec_DiskOk_f (l : List S45) (hl : l.length ≤ 4611686018427387904) : Ev (fun k => spec_DiskOk.f k l) (diskOkB l) := by
  unfold spec_DiskOk.f diskOkB
  by_cases h : (l.length : Int) > 30
  · refine ev_if h (ev_some ?_)
    rw [decide_eq_false (by omega), Bool.false_and]
  · refine ev_else h (ev_eq ?_ (by rw [decide_eq_true (show l.length ≤ 30 by omega), Bool.true_and]))
    have := spec_DiskOk_l0 l hl l.length 0 (by omega)
    rw [List.drop_zero] at this
    exact this
theorem spec_LoseDisk_l0 (l : List S45) (q : List Int) (hl : l.length ≤ 1048576) (hk : ∀ x ∈ l, 0 ≤ x.f2 ∧ x.f2 ≤ (x.f1.size : Int)) : ∀ (d i : Nat), i + d = l.length →
    Ev (fun k => spec_LoseDisk.l0 k q (i : Int) l ((impl_Disk_lose.lostTo q l i).take i)) (impl_Disk_lose.lostTo q l l.length, true) := by
  intro d
  induction d with
  | zero =>
    intro i hi
    refine ev_succ ?_
    simp only [spec_LoseDisk.l0]
    refine ev_else (by omega) (ev_some ?_)
    obtain rfl : i = l.length := by omega
    rw [List.take_of_length_le (by rw [impl_Disk_lose.lostTo_length]; exact Nat.le_refl _)]
  | succ d ih =>
    intro i hi
    have hx := hk (rd_T45 l (i : Int)) (by
      have : i < l.length := by omega
      show l.getD i z45 ∈ l
      rw [List.getD_eq_getElem?_getD, List.getElem?_eq_getElem this]
      exact List.getElem_mem _)
    have hlen : ((impl_Disk_lose.lostTo q l i).take i).length < 3518437208883 := by rw [List.length_take, impl_Disk_lose.lostTo_length]; omega
    have step := ih (i + 1) (by omega)
    rw [lostTo_take q l i (by omega)] at step
    rw [← succ_i i (by omega)] at step
    have go : ∀ n0 : Int, n0 = (if i < q.length then q.getD i 0 else 0) → Ev (fun k => spec_LoseDisk.j1 k q (i : Int) n0 l ((impl_Disk_lose.lostTo q l i).take i) (rd_T45 l (i : Int)).f0 (rd_T45 l (i : Int)).f1 (rd_T45 l (i : Int)).f2) (impl_Disk_lose.lostTo q l l.length, true) := by
      intro n0 hn0
      generalize rd_T45 l (i : Int) = x at hx step ⊢
      obtain ⟨hx0, hx1⟩ := hx
      have hz : impl_Disk_lose.lz q i x = (if (if n0 > (x.f1.size : Int) then (x.f1.size : Int) else n0) < x.f2 then x.f2 else (if n0 > (x.f1.size : Int) then (x.f1.size : Int) else n0)) := by
        unfold impl_Disk_lose.lz
        subst hn0
        by_cases hq : i < q.length
        · simp only [if_pos hq]
          generalize q.getD i 0 = y
          repeat' split
          all_goals omega
        · simp only [if_neg hq]
          repeat' split
          all_goals omega
      simp only [impl_Disk_lose.lx] at step
      refine ev_succ ?_
      simp only [spec_LoseDisk.j1]
      by_cases h1 : n0 > (x.f1.size : Int)
      · simp only [if_pos h1] at hz
        refine ev_if h1 ?_
        by_cases h2 : (x.f1.size : Int) < x.f2
        · omega
        · rw [if_neg h2] at hz
          rw [hz, extract_all _ _ (by omega)] at step
          exact ev_else h2 (ev_if (by omega) (ev_if (by omega) (ev_if hlen step)))
      · simp only [if_neg h1] at hz
        refine ev_else h1 ?_
        by_cases h2 : n0 < x.f2
        · rw [if_pos h2] at hz
          rw [hz] at step
          exact ev_if h2 (ev_if (by omega) (ev_if (by omega) (ev_if hlen step)))
        · rw [if_neg h2] at hz
          rw [hz] at step
          exact ev_else h2 (ev_if (by omega) (ev_if (by omega) (ev_if hlen step)))
    refine ev_succ ?_
    simp only [spec_LoseDisk.l0]
    refine ev_if (by omega) (ev_if (by omega) ?_)
    by_cases hq : i < q.length
    · exact ev_if (by omega) (go _ (by rw [if_pos hq]; rfl))
    · exact ev_else (by omega) (go _ (by rw [if_neg hq]))
theorem spec_LoseDisk_f (l : List S45) (q : List Int) (hl : l.length ≤ 1048576) : Ev (fun k => spec_LoseDisk.f k l q) (lostV q l) := by
  unfold spec_LoseDisk.f lostV
  refine ev_bind (spec_DiskOk_f l (by omega)) ?_
  by_cases h : diskOkB l = true
  · obtain ⟨h1, h2⟩ := diskOk_all l h
    have := spec_LoseDisk_l0 l q hl (fun x hx => (h2 x hx).2.2) l.length 0 (by omega)
    exact ev_eq (ev_if h this) (if_pos h).symm
  · exact ev_eq (ev_else h (ev_some rfl)) (if_neg h).symm
theorem copy_map {α β : Type} (g : α → β) (l : List α) (d : α) (z : β) (i : Nat) (h : i < l.length) :
    ((l.take i).map g ++ List.replicate (l.length - i) z).set i (g (l.getD i d)) = (l.take (i + 1)).map g ++ List.replicate (l.length - (i + 1)) z := by
  have h1 : ((l.take i).map g).length = i := by rw [List.length_map, List.length_take]; omega
  rw [List.set_append_right _ _ (by omega), h1, Nat.sub_self]
  have h2 : l.length - i = (l.length - (i + 1)) + 1 := by omega
  rw [h2, List.replicate_succ, List.set_cons_zero, List.take_succ_eq_append_getElem h, List.map_append, List.append_assoc]
  congr 1
  rw [List.getD_eq_getElem?_getD, List.getElem?_eq_getElem h]
  rfl
theorem copy_map_len {α β : Type} (g : α → β) (l : List α) (z : β) (i : Nat) (h : i ≤ l.length) : ((l.take i).map g ++ List.replicate (l.length - i) z).length = l.length := by
  rw [List.length_append, List.length_map, List.length_take, List.length_replicate]; omega
def convFile (x : S135) : S45 := ⟨x.f0, x.f1, x.f2⟩
theorem laws_toFileS_l0 (l : List S135) (hl : l.length ≤ 1048576) : ∀ (d i : Nat), i + d = l.length →
    Ev (fun k => laws_toFileS.l0 k l ((l.take i).map convFile ++ List.replicate (l.length - i) z45) (i : Int)) (l.map convFile) := by
  intro d
  induction d with
  | zero =>
    intro i hi
    refine ev_succ ?_
    simp only [laws_toFileS.l0]
    refine ev_else (by omega) (ev_some ?_)
    have e : i = l.length := by omega
    subst e
    simp
  | succ d ih =>
    intro i hi
    refine ev_succ ?_
    simp only [laws_toFileS.l0, laws_toFile.f, Option.bind_some]
    refine ev_if (by omega) (ev_if (by omega) (ev_if (by rw [copy_map_len _ _ _ _ (by omega)]; omega) ?_))
    have hs : ((l.take i).map convFile ++ List.replicate (l.length - i) z45).set ((i : Int)).toNat (⟨(rd_T135 l (i : Int)).f0, (rd_T135 l (i : Int)).f1, (rd_T135 l (i : Int)).f2⟩ : S45) = (l.take (i + 1)).map convFile ++ List.replicate (l.length - (i + 1)) z45 := copy_map convFile l z135 z45 i (by omega)
    rw [hs, succ_i i (by omega)]
    exact ih (i + 1) (by omega)
theorem laws_toFileS_f (l : List S135) (hl : l.length ≤ 1048576) : Ev (fun k => laws_toFileS.f k l) (l.map convFile) := by
  unfold laws_toFileS.f
  refine ev_if (by omega) (ev_if (by rw [toNat_nat]; omega) ?_)
  have := laws_toFileS_l0 l hl l.length 0 (by omega)
  simpa using this
theorem laws_eqFile_refl (a0 : ByteArray) (a1 : ByteArray) (a2 : Int) : laws_eqFile.f a0 a1 a2 a0 a1 a2 = some true := by
  unfold laws_eqFile.f
  simp
theorem laws_eqFileS_l0 (l : List S45) (hl : l.length ≤ 4611686018427387904) : ∀ (d i : Nat), i + d = l.length →
    Ev (fun k => laws_eqFileS.l0 k l l (i : Int)) true := by
  intro d
  induction d with
  | zero =>
    intro i hi
    refine ev_succ ?_
    simp only [laws_eqFileS.l0]
    exact ev_else (by omega) (ev_some rfl)
  | succ d ih =>
    intro i hi
    refine ev_succ ?_
    simp only [laws_eqFileS.l0]
    refine ev_if (by omega) (ev_if (by omega) (ev_if (by omega) (ev_bind0 (laws_eqFile_refl _ _ _) (ev_if rfl ?_))))
    rw [succ_i i (by omega)]
    exact ih (i + 1) (by omega)
theorem laws_eqFileS_f (l : List S45) (hl : l.length ≤ 4611686018427387904) : Ev (fun k => laws_eqFileS.f k l l) true := by
  unfold laws_eqFileS.f
  exact ev_if rfl (laws_eqFileS_l0 l hl l.length 0 (by omega))
theorem le_sum_mem : ∀ (l : List Nat) (x : Nat), x ∈ l → x ≤ l.sum
  | [], _, h => by cases h
  | y :: l, x, h => by
    rw [List.sum_cons]
    rcases List.mem_cons.1 h with rfl | h
    · omega
    · have := le_sum_mem l x h
      omega
theorem laws_szFile_f (a0 : ByteArray) (a1 : ByteArray) (a2 : Int) (left : Int) (e0 : a0.size ≤ maxLen) (e1 : a1.size ≤ maxLen) (h0 : 0 ≤ left) (h1 : left ≤ 1048576) :
    ∃ r, laws_szFile.f a0 a1 a2 left = some r ∧ (r < 0 ∨ 0 ≤ r ∧ r + ((a0.size : Int) + (a1.size : Int)) = left) := by
  unfold maxLen at e0 e1
  unfold laws_szFile.f
  rw [wid (x := left - (a0.size : Int)) (by omega) (by omega)]
  by_cases c0 : left - (a0.size : Int) < 0
  · exact ⟨-1, by rw [if_pos c0], .inl (by omega)⟩
  rw [if_neg c0]
  rw [wid (x := left - (a0.size : Int) - (a1.size : Int)) (by omega) (by omega)]
  by_cases c1 : left - (a0.size : Int) - (a1.size : Int) < 0
  · exact ⟨-1, by rw [if_pos c1], .inl (by omega)⟩
  rw [if_neg c1]
  exact ⟨_, rfl, .inr ⟨by omega, by omega⟩⟩
def wtFile (l : List S135) : Nat := (l.map fun x => x.f0.size + x.f1.size).sum
theorem wtFile_mem (l : List S135) : ∀ x ∈ l, x.f0.size + x.f1.size ≤ wtFile l := by
  intro x hx
  unfold wtFile
  exact le_sum_mem _ _ (List.mem_map.2 ⟨x, hx, rfl⟩)
theorem wtFile_drop (l : List S135) (i : Nat) (h : i < l.length) : wtFile (l.drop i) = ((rd_T135 l (i : Int)).f0.size + (rd_T135 l (i : Int)).f1.size) + wtFile (l.drop (i + 1)) := by
  rw [drop_getD l z135 i h]
  unfold wtFile
  rw [List.map_cons, List.sum_cons]
  rfl
theorem laws_szFileS_l0 (l : List S135) (hq : ∀ x ∈ l, (x.f0.size ≤ maxLen) ∧ (x.f1.size ≤ maxLen) ∧ (Lit.int .i64 x.f2).wf = true) : ∀ (d i : Nat) (left : Int), i + d = l.length → l.length ≤ 1048576 → 0 ≤ left → left ≤ 1048576 →
    ∃ r, Ev (fun k => laws_szFileS.l0 k l left (i : Int)) r ∧ (r < 0 ∨ 0 ≤ r ∧ r + (wtFile (l.drop i) : Int) = left) := by
  intro d
  induction d with
  | zero =>
    intro i left hi hl h0 h1
    refine ⟨left, ev_succ ?_, .inr ⟨h0, ?_⟩⟩
    · simp only [laws_szFileS.l0]
      exact ev_else (by omega) (ev_some rfl)
    · rw [drop_end l i (by omega)]
      show left + ((0 : Nat) : Int) = left
      omega
  | succ d ih =>
    intro i left hi hl h0 h1
    have hx := hq (rd_T135 l (i : Int)) (by
      show l.getD i z135 ∈ l
      rw [List.getD_eq_getElem?_getD, List.getElem?_eq_getElem (by omega)]
      exact List.getElem_mem _)
    obtain ⟨r, hr, hc⟩ := laws_szFile_f (rd_T135 l (i : Int)).f0 (rd_T135 l (i : Int)).f1 (rd_T135 l (i : Int)).f2 left (hx.1) (hx.2.1) h0 h1
    rw [wtFile_drop l i (by omega)]
    rcases hc with hn | ⟨hp, hs⟩
    · refine ⟨-1, ev_succ ?_, .inl (by omega)⟩
      simp only [laws_szFileS.l0]
      exact ev_if (by omega) (ev_if (by omega) (ev_bind0 hr (ev_if hn (ev_some rfl))))
    · obtain ⟨r', hr', hc'⟩ := ih (i + 1) r (by omega) hl hp (by omega)
      refine ⟨r', ev_succ ?_, ?_⟩
      · simp only [laws_szFileS.l0]
        rw [succ_i i (by omega)]
        exact ev_if (by omega) (ev_if (by omega) (ev_bind0 hr (ev_else (by omega) hr')))
      · rcases hc' with h | ⟨h, h'⟩
        · exact .inl h
        · exact .inr ⟨h, by omega⟩
theorem laws_szFileS_f (l : List S135) (hl : l.length ≤ maxLen ∧ ∀ x ∈ l, (x.f0.size ≤ maxLen) ∧ (x.f1.size ≤ maxLen) ∧ (Lit.int .i64 x.f2).wf = true) (left : Int) (h0 : 0 ≤ left) (h1 : left ≤ 1048576) :
    ∃ r, Ev (fun k => laws_szFileS.f k l left) r ∧ (r < 0 ∨ 0 ≤ r ∧ r + (l.length : Int) + (wtFile l : Int) = left) := by
  obtain ⟨hl, hq⟩ := hl
  unfold maxLen at hl
  unfold laws_szFileS.f
  rw [wid (x := left - (l.length : Int)) (by omega) (by omega)]
  by_cases h : left - (l.length : Int) < 0
  · exact ⟨-1, ev_if h (ev_some rfl), .inl (by omega)⟩
  · obtain ⟨r, hr, hc⟩ := laws_szFileS_l0 l hq l.length 0 (left - (l.length : Int)) (by omega) (by omega) (by omega) (by omega)
    refine ⟨r, ev_else h hr, ?_⟩
    rcases hc with h' | ⟨h', h''⟩
    · exact .inl h'
    · refine .inr ⟨h', ?_⟩
      rw [List.drop_zero] at h''
      omega
theorem laws_toDisk_f (l : List S135) (hl : l.length ≤ 1048576) : Ev (fun k => laws_toDisk.f k l) (l.map convFile) := by
  unfold laws_toDisk.f
  exact ev_bind (laws_toFileS_f l hl) (ev_some rfl)
theorem laws_eqDisk_f (l : List S45) (hl : l.length ≤ 4611686018427387904) : Ev (fun k => laws_eqDisk.f k l l) true := by
  unfold laws_eqDisk.f
  exact ev_bind (laws_eqFileS_f l hl) (ev_if rfl (ev_some rfl))
theorem laws_szDisk_f (l : List S135) (hl : l.length ≤ maxLen ∧ ∀ x ∈ l, (x.f0.size ≤ maxLen) ∧ (x.f1.size ≤ maxLen) ∧ (Lit.int .i64 x.f2).wf = true) (left : Int) (h0 : 0 ≤ left) (h1 : left ≤ 1048576) :
    ∃ r, Ev (fun k => laws_szDisk.f k l left) r ∧ (r < 0 ∨ 0 ≤ r ∧ r + (l.length : Int) + (wtFile l : Int) = left) := by
  obtain ⟨r, hr, hc⟩ := laws_szFileS_f l hl left h0 h1
  unfold laws_szDisk.f
  by_cases h : r < 0
  · exact ⟨-1, ev_bind hr (ev_if h (ev_some rfl)), .inl (by omega)⟩
  · exact ⟨r, ev_bind hr (ev_else h (ev_some rfl)), hc⟩
theorem laws_markText_l0 : ∀ (n : Nat) (s : ByteArray), s.size + n ≤ 9223372036854775806 → ∃ r, Ev (fun k => laws_markText.l0 k (n : Int) s) r := by
  intro n
  induction n using Nat.strongRecOn with
  | ind n ih =>
    intro s hs
    by_cases h : 0 < n
    · have e : wrap64 (Int.tdiv (n : Int) 10) = ((n / 10 : Nat) : Int) := by rw [tdivp (Int.natCast_nonneg _)]; exact wrap_to (by omega) (by omega) (by omega)
      have hsz : ∀ z : Int, (strOfNums [z]).size = 1 := fun z => rfl
      obtain ⟨r, hr⟩ := ih (n / 10) (by omega) (strOfNums [(wrap64 (48 + (Int.tmod (n : Int) 10))) % 256] ++ s) (by rw [ByteArray.size_append, hsz]; omega)
      refine ⟨r, ev_succ ?_⟩
      simp only [laws_markText.l0]
      refine ev_if (by omega) (ev_bind0 rfl (ev_if (by rw [hsz]; omega) ?_))
      rw [e]
      exact hr
    · refine ⟨(⟨#[109]⟩ : ByteArray) ++ s, ev_succ ?_⟩
      simp only [laws_markText.l0]
      exact ev_else (by omega) (ev_if (by omega) (ev_some rfl))
theorem laws_markText_f (m : Int) (h0 : 0 ≤ m) (h1 : m ≤ 4611686018427387904) : ∃ r, Ev (fun k => laws_markText.f k m) r := by
  unfold laws_markText.f
  by_cases h : m ≤ 0
  · exact ⟨_, ev_if h (ev_some rfl)⟩
  · obtain ⟨n, rfl⟩ := Int.eq_ofNat_of_zero_le h0
    obtain ⟨r, hr⟩ := laws_markText_l0 n ⟨#[]⟩ (by
      have : (⟨#[]⟩ : ByteArray).size = 0 := rfl
      omega)
    exact ⟨r, ev_else h hr⟩
/-- the text of a mark -/
noncomputable def mtext (m : Int) : ByteArray := if h : 0 ≤ m ∧ m ≤ 4611686018427387904 then Classical.choose (laws_markText_f m h.1 h.2) else ⟨#[]⟩
theorem mtext_ev (m : Int) (h0 : 0 ≤ m) (h1 : m ≤ 4611686018427387904) : Ev (fun k => laws_markText.f k m) (mtext m) := by
  unfold mtext
  rw [dif_pos ⟨h0, h1⟩]
  exact Classical.choose_spec (laws_markText_f m h0 h1)
noncomputable def mkFile (m : Int) : S45 := ⟨mtext m, mtext (m + 1), (m + 2)⟩
noncomputable def mkFileL (m : Int) (n : Nat) : List S45 := (List.range n).map fun (j : Nat) => mkFile (m + 3 * (j : Int))
theorem mkFileL_succ (m : Int) (n : Nat) : mkFileL m (n + 1) = mkFile m :: mkFileL (m + 3) n := by
  unfold mkFileL
  rw [List.range_succ_eq_map, List.map_cons, List.map_map]
  have e0 : m + 3 * ((0 : Nat) : Int) = m := by omega
  rw [e0]
  congr 1
  apply List.map_congr_left
  intro j _
  show mkFile (m + 3 * ((j + 1 : Nat) : Int)) = mkFile (m + 3 + 3 * (j : Int))
  congr 1
  omega
theorem mkFileL_length (m : Int) (n : Nat) : (mkFileL m n).length = n := by simp [mkFileL]
theorem rd_T45_set (l : List S45) (i : Nat) (v : S45) (h : i < l.length) : rd_T45 (l.set i v) (i : Int) = v := by
  show (l.set i v).getD i z45 = v
  rw [List.getD_eq_getElem?_getD, List.getElem?_set_self h]
  rfl
theorem laws_markFileS_l0 : ∀ (d i : Nat) (l : List S45) (m : Int), i + d = l.length → l.length ≤ 1099511627776 → 0 ≤ m → m + 3 * (d : Int) ≤ 4611686018427387904 →
    Ev (fun k => laws_markFileS.l0 k l m (i : Int)) (m + 3 * (d : Int), l.take i ++ mkFileL m d) := by
  intro d
  induction d with
  | zero =>
    intro i l m hi hl h0 h1
    refine ev_succ ?_
    simp only [laws_markFileS.l0]
    refine ev_else (by omega) (ev_some ?_)
    have e : i = l.length := by omega
    subst e
    simp [mkFileL]
  | succ d ih =>
    intro i l m hi hl h0 h1
    refine ev_succ ?_
    simp only [laws_markFileS.l0]
    obtain ⟨w1, w2, w3⟩ : wrap64 (m + 1) = m + 1 ∧ wrap64 (m + 1 + 1) = m + 2 ∧ wrap64 (m + 2 + 1) = m + 3 := by
      refine ⟨?_, ?_, ?_⟩ <;> exact wrap_to (by omega) (by omega) (by omega)
    rw [w1, w2, w3]
    clear w1 w2 w3
    refine ev_if (by omega) (ev_bind (mtext_ev m (by omega) (by omega)) (ev_if (by omega) (ev_bind0 rfl (ev_bind (mtext_ev (m + 1) (by omega) (by omega)) (ev_bind0 rfl ?_)))))
    have hil : i < l.length := by omega
    rw [succ_i i (by omega)]
    simp only [toNat_nat]
    have hlen : ∀ v : S45, i < (l.set i v).length := fun v => by rw [List.length_set]; exact hil
    have key := ih (i + 1) (l.set i (mkFile m)) (m + 3) (by rw [List.length_set]; omega) (by rw [List.length_set]; omega) (by omega) (by omega)
    have e1 : (l.set i (mkFile m)).take (i + 1) ++ mkFileL (m + 3) d = l.take i ++ mkFileL m (d + 1) := by
      rw [mkFileL_succ, List.take_succ_eq_append_getElem (hlen _), List.take_set_of_le (Nat.le_refl i), List.getElem_set_self, List.append_assoc]
      rfl
    have e2 : m + 3 + 3 * (d : Int) = m + 3 * ((d + 1 : Nat) : Int) := by omega
    rw [e1, e2] at key
    have fin : ∀ v : S45, v = mkFile m → Ev (fun k => laws_markFileS.l0 k (l.set i v) (m + 3) ((i + 1 : Nat) : Int)) (m + 3 * ((d + 1 : Nat) : Int), l.take i ++ mkFileL m (d + 1)) := fun v hv => by rw [hv]; exact key
    simp only [rd_T45_set _ _ _ hil, rd_T45_set _ _ _ (hlen _), List.set_set]
    exact fin _ rfl
theorem laws_markFileS_f (l : List S45) (m : Int) (hl : l.length ≤ 1099511627776) (h0 : 0 ≤ m) (h1 : m ≤ 1099511627776) :
    Ev (fun k => laws_markFileS.f k l m) (m + 3 * (l.length : Int), mkFileL m l.length) := by
  have := laws_markFileS_l0 l.length 0 l m (by omega) hl h0 (by omega)
  simpa [laws_markFileS.f] using this
theorem mkFileL_rd (m : Int) (n i : Nat) (h : i < n) : rd_T45 (mkFileL m n) (i : Int) = mkFile (m + 3 * (i : Int)) := by
  show (mkFileL m n).getD i z45 = _
  rw [List.getD_eq_getElem?_getD]
  simp [mkFileL, h]
theorem laws_heldFileS_l0 (m : Int) (n : Nat) (hn : n ≤ 1099511627776) (h0 : 0 ≤ m) (h1 : m ≤ 1099511627776) : ∀ (d i : Nat), i + d = n →
    Ev (fun k => laws_heldFileS.l0 k (mkFileL m n) (m + 3 * (i : Int)) (i : Int)) (m + 3 * (n : Int)) := by
  intro d
  induction d with
  | zero =>
    intro i hi
    obtain rfl : i = n := by omega
    refine ev_succ ?_
    simp only [laws_heldFileS.l0, mkFileL_length]
    exact ev_else (by omega) (ev_some rfl)
  | succ d ih =>
    intro i hi
    refine ev_succ ?_
    simp only [laws_heldFileS.l0, mkFileL_length]
    rw [mkFileL_rd m n i (by omega)]
    generalize hq : m + 3 * (i : Int) = q
    obtain ⟨w1, w2, w3⟩ : wrap64 (q + 1) = q + 1 ∧ wrap64 (q + 1 + 1) = q + 2 ∧ wrap64 (q + 2 + 1) = q + 3 := by
      refine ⟨?_, ?_, ?_⟩ <;> exact wrap_to (by omega) (by omega) (by omega)
    rw [w1, w2, w3]
    clear w1 w2 w3
    refine ev_if (by omega) (ev_if (by omega) (ev_bind (mtext_ev _ (by omega) (by omega)) (ev_if rfl (ev_bind (mtext_ev _ (by omega) (by omega)) (ev_if rfl (ev_if rfl ?_))))))
    rw [succ_i i (by omega)]
    have := ih (i + 1) (by omega)
    rw [show m + 3 * ((i + 1 : Nat) : Int) = q + 3 by omega] at this
    exact this
theorem laws_heldFileS_f (m : Int) (n : Nat) (hn : n ≤ 1099511627776) (h0 : 0 ≤ m) (h1 : m ≤ 1099511627776) : Ev (fun k => laws_heldFileS.f k (mkFileL m n) m) (m + 3 * (n : Int)) := by
  have := laws_heldFileS_l0 m n hn h0 h1 n 0 (by omega)
  simpa [laws_heldFileS.f] using this
theorem laws_markDisk_f (l : List S45) (m : Int) (hl : l.length ≤ 1099511627776) (h0 : 0 ≤ m) (h1 : m ≤ 1099511627776) : Ev (fun k => laws_markDisk.f k l m) (m + 3 * (l.length : Int), mkFileL m l.length) := by
  unfold laws_markDisk.f
  exact ev_bind (laws_markFileS_f l m hl h0 h1) (ev_some rfl)
theorem laws_heldDisk_f (m : Int) (n : Nat) (hn : n ≤ 1099511627776) (h0 : 0 ≤ m) (h1 : m ≤ 1099511627776) : Ev (fun k => laws_heldDisk.f k (mkFileL m n) m) (m + 3 * (n : Int)) := by
  unfold laws_heldDisk.f
  exact ev_bind (laws_heldFileS_f m n hn h0 h1) (ev_else (by omega) (ev_some rfl))
theorem laws_eqIntS_l0 (a b : List Int) (hl : a.length ≤ 35184372088832) (hab : a.length = b.length) : ∀ (d i : Nat), i + d = a.length →
    Ev (fun k => laws_eqIntS.l0 k a b (i : Int)) (decide (a.drop i = b.drop i)) := by
  intro d
  induction d with
  | zero =>
    intro i hi
    refine ev_succ ?_
    simp only [laws_eqIntS.l0]
    refine ev_else (by omega) (ev_some ?_)
    rw [drop_end a i (by omega), drop_end b i (by omega)]
    simp
  | succ d ih =>
    intro i hi
    refine ev_succ ?_
    simp only [laws_eqIntS.l0]
    refine ev_if (by omega) (ev_if (by omega) (ev_if (by omega) ?_))
    rw [rd_nat, rd_nat, drop_getD a 0 i (by omega), drop_getD b 0 i (by omega), succ_i i (by omega)]
    by_cases h : a.getD i 0 = b.getD i 0
    · refine ev_if h (ev_eq (ih (i + 1) (by omega)) ?_)
      rw [h]; simp
    · refine ev_else h (ev_some ?_)
      have : ¬ (a.getD i 0 :: a.drop (i + 1) = b.getD i 0 :: b.drop (i + 1)) := fun e => h (List.cons.inj e).1
      simp only [decide_eq_false this]
theorem laws_eqIntS_f (a b : List Int) (hl : a.length ≤ 35184372088832) : Ev (fun k => laws_eqIntS.f k a b) (decide (a = b)) := by
  unfold laws_eqIntS.f
  by_cases h : a.length = b.length
  · refine ev_if (by omega) ?_
    have := laws_eqIntS_l0 a b hl h a.length 0 (by omega)
    simpa using this
  · refine ev_else (by omega) (ev_some ?_)
    have : ¬ a = b := fun e => h (by rw [e])
    simp [this]
theorem laws_toIntS_l0 (l : List Int) (hl : l.length ≤ 35184372088832) : ∀ (d i : Nat), i + d = l.length →
    Ev (fun k => laws_toIntS.l0 k l (l.take i ++ List.replicate (l.length - i) 0) (i : Int)) l := by
  intro d
  induction d with
  | zero =>
    intro i hi
    refine ev_succ ?_
    simp only [laws_toIntS.l0]
    refine ev_else (by omega) (ev_some ?_)
    have e : i = l.length := by omega
    subst e
    simp
  | succ d ih =>
    intro i hi
    refine ev_succ ?_
    simp only [laws_toIntS.l0]
    refine ev_if (by omega) (ev_if (by omega) (ev_if (by rw [copy_len _ _ _ (by omega)]; omega) ?_))
    rw [rd_nat, toNat_nat, copy_step l 0 0 i (by omega), succ_i i (by omega)]
    exact ih (i + 1) (by omega)
theorem laws_toIntS_f (l : List Int) (hl : l.length ≤ 35184372088832) : Ev (fun k => laws_toIntS.f k l) l := by
  unfold laws_toIntS.f
  refine ev_if (by omega) (ev_if (by rw [toNat_nat]; exact hl) ?_)
  have := laws_toIntS_l0 l hl l.length 0 (by omega)
  simpa using this
theorem laws_markIntS_l0 : ∀ (d i : Nat) (l : List Int) (m : Int), i + d = l.length → l.length ≤ 1099511627776 → 0 ≤ m → m + (d : Int) ≤ 4611686018427387904 →
    ∃ l', Ev (fun k => laws_markIntS.l0 k l m (i : Int)) (m + (d : Int), l') := by
  intro d
  induction d with
  | zero =>
    intro i l m hi hl h0 h1
    refine ⟨l, ev_succ ?_⟩
    simp only [laws_markIntS.l0]
    exact ev_else (by omega) (ev_some (by simp))
  | succ d ih =>
    intro i l m hi hl h0 h1
    obtain ⟨l', hl'⟩ := ih (i + 1) (l.set i m) (m + 1) (by rw [List.length_set]; omega) (by rw [List.length_set]; omega) (by omega) (by omega)
    refine ⟨l', ev_succ ?_⟩
    simp only [laws_markIntS.l0]
    refine ev_if (by omega) (ev_if (by omega) ?_)
    rw [succ_i i (by omega), wid (x := m + 1) (by omega) (by omega), toNat_nat]
    rw [show m + 1 + (d : Int) = m + ((d + 1 : Nat) : Int) by omega] at hl'
    exact hl'
theorem laws_markIntS_f (l : List Int) (m : Int) (hl : l.length ≤ 1099511627776) (h0 : 0 ≤ m) (h1 : m ≤ 1099511627776) : ∃ l', Ev (fun k => laws_markIntS.f k l m) (m + (l.length : Int), l') := by
  obtain ⟨l', h⟩ := laws_markIntS_l0 l.length 0 l m (by omega) hl h0 (by omega)
  exact ⟨l', by simpa [laws_markIntS.f] using h⟩
theorem FnExactLoseDisk (l : List S135) (q : List Int) (hl : l.length ≤ maxLen ∧ ∀ x ∈ l, (x.f0.size ≤ maxLen) ∧ (x.f1.size ≤ maxLen) ∧ (Lit.int .i64 x.f2).wf = true) (hq : q.length ≤ maxLen ∧ ∀ x ∈ q, (Lit.int .i64 x).wf = true) : ∃ k, laws_FnExactLoseDisk.f k l q = some true := by
  refine Ev.rounds ?_
  unfold laws_FnExactLoseDisk.f
  by_cases hbig : (q.length : Int) > 1048576
  · exact ev_if hbig (ev_some rfl)
  refine ev_else hbig ?_
  obtain ⟨r, hr, hc⟩ := laws_szDisk_f l hl 1048576 (by omega) (by omega)
  refine ev_bind hr ?_
  by_cases hneg : r < 0
  · exact ev_if hneg (ev_some rfl)
  refine ev_else hneg ?_
  have n1 : l.length ≤ 1048576 := by omega
  have n2 : (l.map convFile).length ≤ 1048576 := by rw [List.length_map]; omega
  have tt := laws_toDisk_f l n1
  have ti := laws_toIntS_f q (by omega)
  have n3 : (lostV q (l.map convFile)).1.length ≤ 1048576 := by
    unfold lostV
    split
    · show (impl_Disk_lose.lostTo q (l.map convFile) _).length ≤ _
      rw [impl_Disk_lose.lostTo_length]; exact n2
    · show (0 : Nat) ≤ _
      omega
  have es := spec_LoseDisk_f (l.map convFile) q n2
  have ei := impl_LoseDisk_f (l.map convFile) q (by omega)
  generalize lostV q (l.map convFile) = v at n3 es ei
  have ef := laws_eqDisk_f v.1 (by omega)
  have eg := laws_eqDisk_f (l.map convFile) (by omega)
  have eh := ev_eq (laws_eqIntS_f q q (by omega)) (decide_eq_true rfl)
  have m1 := laws_markDisk_f (l.map convFile) 1 (by omega) (by omega) (by omega)
  have m2 := laws_markDisk_f v.1 1 (by omega) (by omega) (by omega)
  obtain ⟨q', m3⟩ := laws_markIntS_f q (1 + 3 * ((l.map convFile).length : Int)) (by omega) (by omega) (by omega)
  have hd := laws_heldDisk_f 1 v.1.length (by omega) (by omega) (by omega)
  obtain ⟨hq, _⟩ := hq
  have hb : ¬ (v.2 != v.2) = true := by simp
  refine ev_bind tt (ev_bind ti (ev_bind es (ev_bind tt (ev_bind ti (ev_bind ei (ev_bind ef (ev_if rfl (ev_else hb ?_))))))))
  refine ev_bind tt (ev_bind eg (ev_if rfl (ev_bind ti (ev_bind eh (ev_if rfl (ev_bind m1 (ev_bind m3 ?_)))))))
  refine ev_else (by show ¬ _ < (0 : Int); omega) (ev_bind ef (ev_if rfl ?_))
  refine ev_bind m2 (ev_bind hd (ev_else (by omega) (ev_if rfl ?_)))
  refine ev_bind tt (ev_bind ti (ev_bind ei (ev_bind ef (ev_if rfl (ev_else hb ?_)))))
  exact ev_bind hd (ev_else (by omega) (ev_if rfl (ev_some rfl)))

end Go.Proofs.Ytidfhfaekdahpaa.Pure
