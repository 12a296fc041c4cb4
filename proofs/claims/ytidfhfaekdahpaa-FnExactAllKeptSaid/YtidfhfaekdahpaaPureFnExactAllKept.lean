/- For every disk the program's AllKept returns what the reference's returns and leaves the disk as it was, without a condition of its own. -/
import Derived.Test.YtidfhfaekdahpaaQFnExactAllKeptx6
namespace Go.Proofs.Ytidfhfaekdahpaa.Pure
open Go.RowKit Go.Proofs.Ytidfhfaekdahpaa.QFnExactAllKept Go.Proofs.YtidfhfaekdahpaaW.PrintWords Go.Proofs.YtidfhfaekdahpaaW.PrintLast

set_option linter.unusedVariables false
set_option linter.unusedSimpArgs false
/-! small words on rounds -/
theorem wid {x : Int} (h0 : -9223372036854775808 ≤ x) (h1 : x ≤ 9223372036854775807) : wrap64 x = x := by
  unfold wrap64; omega
theorem wrap_to {x y : Int} (h : x = y) (h0 : -9223372036854775808 ≤ y) (h1 : y ≤ 9223372036854775807) : wrap64 x = y := by
  rw [h]; exact wid h0 h1
theorem ev_some {α : Type} {o : Option α} {r : α} (h : o = some r) : Ev (fun _ => o) r := ⟨0, fun _ _ => h⟩
theorem ev_succ {α : Type} {g : Nat → Option α} {r : α} (h : Ev (fun k => g (k + 1)) r) : Ev g r := Ev.step (fun _ => rfl) h
theorem ev_if {α : Type} {c : Prop} [Decidable c] {f g : Nat → Option α} {r : α} (h : c) (k : Ev f r) : Ev (fun n => if c then f n else g n) r := by
  simp only [if_pos h]; exact k
theorem ev_else {α : Type} {c : Prop} [Decidable c] {f g : Nat → Option α} {r : α} (h : ¬ c) (k : Ev g r) : Ev (fun n => if c then f n else g n) r := by
  simp only [if_neg h]; exact k
theorem ev_bind0 {α β : Type} {o : Option α} {f : Nat → α → Option β} {a : α} {r : β} (h : o = some a) (k : Ev (fun n => f n a) r) : Ev (fun n => o.bind (f n)) r := by
  subst h; exact k
theorem ev_bind {α β : Type} {g : Nat → Option α} {f : Nat → α → Option β} {a : α} {r : β} (h : Ev g a) (k : Ev (fun n => f n a) r) : Ev (fun n => (g n).bind (f n)) r := Ev.bind h k
theorem ev_eq {α : Type} {g : Nat → Option α} {a b : α} (h : Ev g a) (e : a = b) : Ev g b := e ▸ h
theorem tdivp {a b : Int} (h : 0 ≤ a) : Int.tdiv a b = a / b := Int.tdiv_eq_ediv_of_nonneg h
theorem tmodp {a b : Int} (h : 0 ≤ a) : Int.tmod a b = a % b := Int.tmod_eq_emod_of_nonneg h
theorem toList_iff (a b : ByteArray) : a.toList = b.toList ↔ a = b := by
  rw [ByteArray.toList_eq, ByteArray.toList_eq]
  exact ⟨fun h => ByteArray.ext (Array.toList_inj.mp h), fun h => by rw [h]⟩
theorem drop_getD {α : Type} (l : List α) (d : α) (i : Nat) (h : i < l.length) : l.drop i = l.getD i d :: l.drop (i + 1) := by
  rw [List.drop_eq_getElem_cons h, List.getD_eq_getElem?_getD, List.getElem?_eq_getElem h]
  rfl
theorem drop_end {α : Type} (l : List α) (i : Nat) (h : l.length ≤ i) : l.drop i = [] := List.drop_eq_nil_of_le h
theorem rd_nat (l : List Int) (i : Nat) : rd l (i : Int) = l.getD i 0 := rfl
theorem copy_step {α : Type} (l : List α) (d z : α) (i : Nat) (h : i < l.length) :
    (l.take i ++ List.replicate (l.length - i) z).set i (l.getD i d) = l.take (i + 1) ++ List.replicate (l.length - (i + 1)) z := by
  have h1 : (l.take i).length = i := by rw [List.length_take]; omega
  rw [List.set_append_right _ _ (by omega), h1, Nat.sub_self]
  have h2 : l.length - i = (l.length - (i + 1)) + 1 := by omega
  rw [h2, List.replicate_succ, List.set_cons_zero, List.take_succ_eq_append_getElem h, List.append_assoc]
  congr 1
  rw [List.getD_eq_getElem?_getD, List.getElem?_eq_getElem h]
  rfl
theorem copy_len {α : Type} (l : List α) (z : α) (i : Nat) (h : i ≤ l.length) : (l.take i ++ List.replicate (l.length - i) z).length = l.length := by
  rw [List.length_append, List.length_take, List.length_replicate]; omega
theorem toNat_nat (i : Nat) : ((i : Int)).toNat = i := rfl
theorem succ_i (i : Nat) (h : i ≤ 9223372036854775806) : wrap64 ((i : Int) + 1) = ((i + 1 : Nat) : Int) := wrap_to (by omega) (by omega) (by omega)
theorem pred_i (i : Nat) (h : 0 < i) (h' : i ≤ 9223372036854775806) : wrap64 ((i : Int) - 1) = ((i - 1 : Nat) : Int) := wrap_to (by omega) (by omega) (by omega)
def fileOkB (f : S45) : Bool := decide (1 ≤ f.f0.size ∧ f.f0.size ≤ 8) && (decide (f.f1.size ≤ 20000) && decide (0 ≤ f.f2 ∧ f.f2 ≤ (f.f1.size : Int)))
def lessB (a b : ByteArray) : Bool := Op.bytesLess a.toList b.toList
def diskL : Option ByteArray → List S45 → Bool
  | _, [] => true
  | p, x :: xs => fileOkB x && ((match p with | none => true | some y => lessB y x.f0) && diskL (some x.f0) xs)
def prevF (l : List S45) (i : Nat) : Option ByteArray := if i = 0 then none else some (rd_T45 l ((i - 1 : Nat) : Int)).f0
def diskOkB (l : List S45) : Bool := decide (l.length ≤ 30) && diskL none l
theorem diskL_at (l : List S45) (i : Nat) (h : i < l.length) :
    diskL (prevF l i) (l.drop i) = (fileOkB (rd_T45 l (i : Int)) && ((if i = 0 then true else lessB (rd_T45 l ((i - 1 : Nat) : Int)).f0 (rd_T45 l (i : Int)).f0) && diskL (prevF l (i + 1)) (l.drop (i + 1)))) := by
  rw [drop_getD l z45 i h]
  have e : prevF l (i + 1) = some (l.getD i z45).f0 := by simp [prevF]; rfl
  rw [e]
  show diskL (prevF l i) (l.getD i z45 :: l.drop (i + 1)) = (fileOkB (l.getD i z45) && _)
  simp only [diskL, prevF]
  by_cases h0 : i = 0
  · subst h0; rfl
  · simp only [h0, if_false]; rfl
theorem impl_inRange_f (x a b : Int) : impl_inRange.f x a b = some (decide (a ≤ x ∧ x ≤ b)) := by
  unfold impl_inRange.f
  by_cases h1 : a ≤ x <;> by_cases h2 : x ≤ b <;> simp [h1, h2]
theorem impl_fileOk_f (f : S45) : impl_fileOk.f f.f0 f.f1 f.f2 = some (fileOkB f) := by
  unfold impl_fileOk.f fileOkB
  simp only [impl_inRange_f, Option.bind_some]
  by_cases h1 : 1 ≤ f.f0.size ∧ f.f0.size ≤ 8
  · have h1' : 1 ≤ (f.f0.size : Int) ∧ (f.f0.size : Int) ≤ 8 := by omega
    by_cases h2 : f.f1.size ≤ 20000
    · have h2' : (f.f1.size : Int) ≤ 20000 := by omega
      simp only [h1, h1', h2, h2', and_self, decide_true, if_true, Bool.true_and]
    · have h2' : ¬ (f.f1.size : Int) ≤ 20000 := by omega
      simp only [h1, h1', h2, h2', and_self, decide_true, decide_false, if_true, if_false, Bool.true_and, Bool.false_and]
  · have h1' : ¬ (1 ≤ (f.f0.size : Int) ∧ (f.f0.size : Int) ≤ 8) := by omega
    simp only [h1, h1', decide_false, Bool.false_and]
    rfl
theorem impl_DiskOk_l0 (l : List S45) (hl : l.length ≤ 4611686018427387904) : ∀ (d i : Nat), i + d = l.length →
    Ev (fun k => impl_DiskOk.l0 k l (l.length : Int) (i : Int) l) (decide (l.length ≤ 30) && diskL (prevF l i) (l.drop i)) := by
  intro d
  induction d with
  | zero =>
    intro i hi
    refine ev_succ ?_
    simp only [impl_DiskOk.l0]
    refine ev_else (by omega) (ev_some ?_)
    rw [drop_end l i (by omega)]
    have e : diskL (prevF l i) [] = true := by cases prevF l i <;> rfl
    rw [e, Bool.and_true]
    congr 1
    apply decide_eq_decide.2
    omega
  | succ d ih =>
    intro i hi
    refine ev_succ ?_
    simp only [impl_DiskOk.l0]
    refine ev_if (by omega) (ev_if (by omega) (ev_if (by omega) (ev_bind0 (impl_fileOk_f _) ?_)))
    rw [diskL_at l i (by omega), succ_i i (by omega)]
    by_cases hf : fileOkB (rd_T45 l (i : Int)) = true
    · refine ev_if hf ?_
      rw [hf, Bool.true_and]
      by_cases h0 : i = 0
      · refine ev_else (by omega) (ev_eq (ih (i + 1) (by omega)) ?_)
        rw [if_pos h0, Bool.true_and]
      · rw [pred_i i (by omega) (by omega), if_neg h0]
        refine ev_if (by omega) (ev_if (by omega) (ev_if (by omega) ?_))
        by_cases hb : lessB (rd_T45 l ((i - 1 : Nat) : Int)).f0 (rd_T45 l (i : Int)).f0 = true
        · refine ev_if hb (ev_eq (ih (i + 1) (by omega)) ?_)
          rw [hb, Bool.true_and]
        · refine ev_else hb (ev_some ?_)
          rw [Bool.eq_false_iff.2 hb, Bool.false_and, Bool.and_false]
    · refine ev_else hf (ev_some ?_)
      rw [Bool.eq_false_iff.2 hf, Bool.false_and, Bool.and_false]
theorem impl_DiskOk_f (l : List S45) (hl : l.length ≤ 4611686018427387904) : Ev (fun k => impl_DiskOk.f k l) (diskOkB l) := by
  have := impl_DiskOk_l0 l hl l.length 0 (by omega)
  unfold impl_DiskOk.f diskOkB
  rw [List.drop_zero] at this
  exact this
theorem spec_l01In_f (x a b : Int) : spec_l01In.f x a b = some (decide (a ≤ x ∧ x ≤ b)) := by
  unfold spec_l01In.f
  by_cases h1 : a ≤ x <;> by_cases h2 : x ≤ b <;> simp [h1, h2]
theorem spec_l03Name_f (s : ByteArray) : spec_l03Name.f s = some (decide (1 ≤ s.size ∧ s.size ≤ 8)) := by
  unfold spec_l03Name.f
  simp only [spec_l01In_f, Option.bind_some]
  congr 1
  apply decide_eq_decide.2
  omega
theorem spec_DiskOk_l0 (l : List S45) (hl : l.length ≤ 4611686018427387904) : ∀ (d i : Nat), i + d = l.length →
    Ev (fun k => spec_DiskOk.l0 k (i : Int) l) (diskL (prevF l i) (l.drop i)) := by
  intro d
  induction d with
  | zero =>
    intro i hi
    refine ev_succ ?_
    simp only [spec_DiskOk.l0]
    refine ev_else (by omega) (ev_some ?_)
    rw [drop_end l i (by omega)]
    cases prevF l i <;> rfl
  | succ d ih =>
    intro i hi
    refine ev_succ ?_
    simp only [spec_DiskOk.l0]
    refine ev_if (by omega) (ev_if (by omega) (ev_bind0 (spec_l03Name_f _) ?_))
    rw [diskL_at l i (by omega), succ_i i (by omega)]
    unfold fileOkB
    by_cases h1 : 1 ≤ (rd_T45 l (i : Int)).f0.size ∧ (rd_T45 l (i : Int)).f0.size ≤ 8
    · refine ev_if (decide_eq_true h1) ?_
      rw [decide_eq_true h1, Bool.true_and]
      by_cases h2 : (rd_T45 l (i : Int)).f1.size ≤ 20000
      · refine ev_else (by omega) (ev_bind0 (spec_l01In_f _ _ _) ?_)
        rw [decide_eq_true h2, Bool.true_and]
        by_cases h3 : 0 ≤ (rd_T45 l (i : Int)).f2 ∧ (rd_T45 l (i : Int)).f2 ≤ ((rd_T45 l (i : Int)).f1.size : Int)
        · refine ev_if (decide_eq_true h3) ?_
          rw [decide_eq_true h3, Bool.true_and]
          by_cases h0 : i = 0
          · refine ev_else (by omega) (ev_eq (ih (i + 1) (by omega)) ?_)
            rw [if_pos h0, Bool.true_and]
          · rw [pred_i i (by omega) (by omega), if_neg h0]
            refine ev_if (by omega) (ev_if (by omega) (ev_if (by omega) ?_))
            by_cases hb : lessB (rd_T45 l ((i - 1 : Nat) : Int)).f0 (rd_T45 l (i : Int)).f0 = true
            · refine ev_if hb (ev_eq (ih (i + 1) (by omega)) ?_)
              rw [hb, Bool.true_and]
            · refine ev_else hb (ev_some ?_)
              rw [Bool.eq_false_iff.2 hb, Bool.false_and]
        · refine ev_else (by rw [decide_eq_false h3]; simp) (ev_some ?_)
          rw [decide_eq_false h3, Bool.false_and]
      · refine ev_if (by omega) (ev_some ?_)
        rw [decide_eq_false h2, Bool.false_and, Bool.false_and]
    · refine ev_else (by rw [decide_eq_false h1]; simp) (ev_some ?_)
      rw [decide_eq_false h1, Bool.false_and, Bool.false_and]
theorem spec_DiskOk_f (l : List S45) (hl : l.length ≤ 4611686018427387904) : Ev (fun k => spec_DiskOk.f k l) (diskOkB l) := by
  unfold spec_DiskOk.f diskOkB
  by_cases h : (l.length : Int) > 30
  · refine ev_if h (ev_some ?_)
    rw [decide_eq_false (by omega), Bool.false_and]
  · refine ev_else h (ev_eq ?_ (by rw [decide_eq_true (show l.length ≤ 30 by omega), Bool.true_and]))
    have := spec_DiskOk_l0 l hl l.length 0 (by omega)
    rw [List.drop_zero] at this
    exact this
def keptB (l : List S45) : Bool := l.all fun f => decide (f.f2 = (f.f1.size : Int))
def allKeptB (l : List S45) : Bool := keptB l && diskOkB l
theorem keptB_at (l : List S45) (i : Nat) (h : i < l.length) :
    keptB (l.drop i) = (decide ((rd_T45 l (i : Int)).f2 = ((rd_T45 l (i : Int)).f1.size : Int)) && keptB (l.drop (i + 1))) := by
  rw [drop_getD l z45 i h]
  unfold keptB
  rw [List.all_cons]
  rfl
theorem impl_AllKept_l0 (l : List S45) (hl : l.length ≤ 4611686018427387904) : ∀ (d i : Nat), i + d = l.length →
    Ev (fun k => impl_AllKept.l0 k l (l.length : Int) (i : Int) l) (keptB (l.drop i) && diskOkB l) := by
  intro d
  induction d with
  | zero =>
    intro i hi
    refine ev_succ ?_
    simp only [impl_AllKept.l0]
    refine ev_else (by omega) (ev_bind (impl_DiskOk_f l hl) (ev_some ?_))
    rw [drop_end l i (by omega)]
    rfl
  | succ d ih =>
    intro i hi
    refine ev_succ ?_
    simp only [impl_AllKept.l0]
    refine ev_if (by omega) (ev_if (by omega) (ev_if (by omega) ?_))
    rw [keptB_at l i (by omega), succ_i i (by omega)]
    by_cases h : (rd_T45 l (i : Int)).f2 = ((rd_T45 l (i : Int)).f1.size : Int)
    · refine ev_if h (ev_eq (ih (i + 1) (by omega)) ?_)
      rw [decide_eq_true h, Bool.true_and]
    · refine ev_else h (ev_some ?_)
      rw [decide_eq_false h, Bool.false_and, Bool.false_and]
theorem impl_AllKept_f (l : List S45) (hl : l.length ≤ 4611686018427387904) : Ev (fun k => impl_AllKept.f k l) (allKeptB l) := by
  have := impl_AllKept_l0 l hl l.length 0 (by omega)
  unfold impl_AllKept.f allKeptB
  rw [List.drop_zero] at this
  exact this
theorem diskL_file : ∀ (l : List S45) (p : Option ByteArray), diskL p l = true → ∀ f ∈ l, fileOkB f = true
  | [], _, _, _, h => by cases h
  | x :: xs, p, h, f, hf => by
    simp only [diskL, Bool.and_eq_true] at h
    rcases List.mem_cons.1 hf with rfl | hf
    · exact h.1
    · exact diskL_file xs _ h.2.2 f hf
theorem rd_mem (l : List S45) (i : Nat) (h : i < l.length) : rd_T45 l (i : Int) ∈ l := by
  show l.getD i z45 ∈ l
  rw [List.getD_eq_getElem?_getD, List.getElem?_eq_getElem h]
  exact List.getElem_mem _
theorem spec_AllKept_l0 (l : List S45) (hl : l.length ≤ 4611686018427387904) (hd : diskOkB l = true) : ∀ (d i : Nat), i + d = l.length →
    Ev (fun k => spec_AllKept.l0 k (i : Int) l) (keptB (l.drop i)) := by
  have hfile : ∀ i : Nat, i < l.length → (rd_T45 l (i : Int)).f2 ≤ ((rd_T45 l (i : Int)).f1.size : Int) := by
    intro i hi
    unfold diskOkB at hd
    rw [Bool.and_eq_true] at hd
    have := diskL_file l none hd.2 _ (rd_mem l i hi)
    unfold fileOkB at this
    simp only [Bool.and_eq_true, decide_eq_true_eq] at this
    exact this.2.2.2
  intro d
  induction d with
  | zero =>
    intro i hi
    refine ev_succ ?_
    simp only [spec_AllKept.l0]
    refine ev_else (by omega) (ev_some ?_)
    rw [drop_end l i (by omega)]
    rfl
  | succ d ih =>
    intro i hi
    refine ev_succ ?_
    simp only [spec_AllKept.l0]
    refine ev_if (by omega) (ev_if (by omega) ?_)
    rw [keptB_at l i (by omega), succ_i i (by omega)]
    have hle := hfile i (by omega)
    by_cases h : (rd_T45 l (i : Int)).f2 = ((rd_T45 l (i : Int)).f1.size : Int)
    · refine ev_else (by omega) (ev_eq (ih (i + 1) (by omega)) ?_)
      rw [decide_eq_true h, Bool.true_and]
    · refine ev_if (by omega) (ev_some ?_)
      rw [decide_eq_false h, Bool.false_and]
theorem spec_AllKept_f (l : List S45) (hl : l.length ≤ 4611686018427387904) : Ev (fun k => spec_AllKept.f k l) (allKeptB l) := by
  unfold spec_AllKept.f allKeptB
  refine ev_bind (spec_DiskOk_f l hl) ?_
  by_cases h : diskOkB l = true
  · refine ev_if h ?_
    rw [h, Bool.and_true]
    have := spec_AllKept_l0 l hl h l.length 0 (by omega)
    rw [List.drop_zero] at this
    exact this
  · refine ev_else h (ev_some ?_)
    rw [Bool.eq_false_iff.2 h, Bool.and_false]
theorem copy_map {α β : Type} (g : α → β) (l : List α) (d : α) (z : β) (i : Nat) (h : i < l.length) :
    ((l.take i).map g ++ List.replicate (l.length - i) z).set i (g (l.getD i d)) = (l.take (i + 1)).map g ++ List.replicate (l.length - (i + 1)) z := by
  have h1 : ((l.take i).map g).length = i := by rw [List.length_map, List.length_take]; omega
  rw [List.set_append_right _ _ (by omega), h1, Nat.sub_self]
  have h2 : l.length - i = (l.length - (i + 1)) + 1 := by omega
  rw [h2, List.replicate_succ, List.set_cons_zero, List.take_succ_eq_append_getElem h, List.map_append, List.append_assoc]
  congr 1
  rw [List.getD_eq_getElem?_getD, List.getElem?_eq_getElem h]
  rfl
theorem copy_map_len {α β : Type} (g : α → β) (l : List α) (z : β) (i : Nat) (h : i ≤ l.length) : ((l.take i).map g ++ List.replicate (l.length - i) z).length = l.length := by
  rw [List.length_append, List.length_map, List.length_take, List.length_replicate]; omega
def convFile (x : S135) : S45 := ⟨x.f0, x.f1, x.f2⟩
theorem laws_toFileS_l0 (l : List S135) (hl : l.length ≤ 1048576) : ∀ (d i : Nat), i + d = l.length →
    Ev (fun k => laws_toFileS.l0 k l ((l.take i).map convFile ++ List.replicate (l.length - i) z45) (i : Int)) (l.map convFile) := by
  intro d
  induction d with
  | zero =>
    intro i hi
    refine ev_succ ?_
    simp only [laws_toFileS.l0]
    refine ev_else (by omega) (ev_some ?_)
    have e : i = l.length := by omega
    subst e
    simp
  | succ d ih =>
    intro i hi
    refine ev_succ ?_
    simp only [laws_toFileS.l0, laws_toFile.f, Option.bind_some]
    refine ev_if (by omega) (ev_if (by omega) (ev_if (by rw [copy_map_len _ _ _ _ (by omega)]; omega) ?_))
    have hs : ((l.take i).map convFile ++ List.replicate (l.length - i) z45).set ((i : Int)).toNat (⟨(rd_T135 l (i : Int)).f0, (rd_T135 l (i : Int)).f1, (rd_T135 l (i : Int)).f2⟩ : S45) = (l.take (i + 1)).map convFile ++ List.replicate (l.length - (i + 1)) z45 := copy_map convFile l z135 z45 i (by omega)
    rw [hs, succ_i i (by omega)]
    exact ih (i + 1) (by omega)
theorem laws_toFileS_f (l : List S135) (hl : l.length ≤ 1048576) : Ev (fun k => laws_toFileS.f k l) (l.map convFile) := by
  unfold laws_toFileS.f
  refine ev_if (by omega) (ev_if (by rw [toNat_nat]; omega) ?_)
  have := laws_toFileS_l0 l hl l.length 0 (by omega)
  simpa using this
theorem laws_eqFile_refl (a0 : ByteArray) (a1 : ByteArray) (a2 : Int) : laws_eqFile.f a0 a1 a2 a0 a1 a2 = some true := by
  unfold laws_eqFile.f
  simp
theorem laws_eqFileS_l0 (l : List S45) (hl : l.length ≤ 4611686018427387904) : ∀ (d i : Nat), i + d = l.length →
    Ev (fun k => laws_eqFileS.l0 k l l (i : Int)) true := by
  intro d
  induction d with
  | zero =>
    intro i hi
    refine ev_succ ?_
    simp only [laws_eqFileS.l0]
    exact ev_else (by omega) (ev_some rfl)
  | succ d ih =>
    intro i hi
    refine ev_succ ?_
    simp only [laws_eqFileS.l0]
    refine ev_if (by omega) (ev_if (by omega) (ev_if (by omega) (ev_bind0 (laws_eqFile_refl _ _ _) (ev_if rfl ?_))))
    rw [succ_i i (by omega)]
    exact ih (i + 1) (by omega)
theorem laws_eqFileS_f (l : List S45) (hl : l.length ≤ 4611686018427387904) : Ev (fun k => laws_eqFileS.f k l l) true := by
  unfold laws_eqFileS.f
  exact ev_if rfl (laws_eqFileS_l0 l hl l.length 0 (by omega))
theorem le_sum_mem : ∀ (l : List Nat) (x : Nat), x ∈ l → x ≤ l.sum
  | [], _, h => by cases h
  | y :: l, x, h => by
    rw [List.sum_cons]
    rcases List.mem_cons.1 h with rfl | h
    · omega
    · have := le_sum_mem l x h
      omega
theorem laws_szFile_f (a0 : ByteArray) (a1 : ByteArray) (a2 : Int) (left : Int) (e0 : a0.size ≤ maxLen) (e1 : a1.size ≤ maxLen) (h0 : 0 ≤ left) (h1 : left ≤ 1048576) :
    ∃ r, laws_szFile.f a0 a1 a2 left = some r ∧ (r < 0 ∨ 0 ≤ r ∧ r + ((a0.size : Int) + (a1.size : Int)) = left) := by
  unfold maxLen at e0 e1
  unfold laws_szFile.f
  rw [wid (x := left - (a0.size : Int)) (by omega) (by omega)]
  by_cases c0 : left - (a0.size : Int) < 0
  · exact ⟨-1, by rw [if_pos c0], .inl (by omega)⟩
  rw [if_neg c0]
  rw [wid (x := left - (a0.size : Int) - (a1.size : Int)) (by omega) (by omega)]
  by_cases c1 : left - (a0.size : Int) - (a1.size : Int) < 0
  · exact ⟨-1, by rw [if_pos c1], .inl (by omega)⟩
  rw [if_neg c1]
  exact ⟨_, rfl, .inr ⟨by omega, by omega⟩⟩
def wtFile (l : List S135) : Nat := (l.map fun x => x.f0.size + x.f1.size).sum
theorem wtFile_mem (l : List S135) : ∀ x ∈ l, x.f0.size + x.f1.size ≤ wtFile l := by
  intro x hx
  unfold wtFile
  exact le_sum_mem _ _ (List.mem_map.2 ⟨x, hx, rfl⟩)
theorem wtFile_drop (l : List S135) (i : Nat) (h : i < l.length) : wtFile (l.drop i) = ((rd_T135 l (i : Int)).f0.size + (rd_T135 l (i : Int)).f1.size) + wtFile (l.drop (i + 1)) := by
  rw [drop_getD l z135 i h]
  unfold wtFile
  rw [List.map_cons, List.sum_cons]
  rfl
theorem laws_szFileS_l0 (l : List S135) (hq : ∀ x ∈ l, (x.f0.size ≤ maxLen) ∧ (x.f1.size ≤ maxLen) ∧ (Lit.int .i64 x.f2).wf = true) : ∀ (d i : Nat) (left : Int), i + d = l.length → l.length ≤ 1048576 → 0 ≤ left → left ≤ 1048576 →
    ∃ r, Ev (fun k => laws_szFileS.l0 k l left (i : Int)) r ∧ (r < 0 ∨ 0 ≤ r ∧ r + (wtFile (l.drop i) : Int) = left) := by
  intro d
  induction d with
  | zero =>
    intro i left hi hl h0 h1
    refine ⟨left, ev_succ ?_, .inr ⟨h0, ?_⟩⟩
    · simp only [laws_szFileS.l0]
      exact ev_else (by omega) (ev_some rfl)
    · rw [drop_end l i (by omega)]
      show left + ((0 : Nat) : Int) = left
      omega
  | succ d ih =>
    intro i left hi hl h0 h1
    have hx := hq (rd_T135 l (i : Int)) (by
      show l.getD i z135 ∈ l
      rw [List.getD_eq_getElem?_getD, List.getElem?_eq_getElem (by omega)]
      exact List.getElem_mem _)
    obtain ⟨r, hr, hc⟩ := laws_szFile_f (rd_T135 l (i : Int)).f0 (rd_T135 l (i : Int)).f1 (rd_T135 l (i : Int)).f2 left (hx.1) (hx.2.1) h0 h1
    rw [wtFile_drop l i (by omega)]
    rcases hc with hn | ⟨hp, hs⟩
    · refine ⟨-1, ev_succ ?_, .inl (by omega)⟩
      simp only [laws_szFileS.l0]
      exact ev_if (by omega) (ev_if (by omega) (ev_bind0 hr (ev_if hn (ev_some rfl))))
    · obtain ⟨r', hr', hc'⟩ := ih (i + 1) r (by omega) hl hp (by omega)
      refine ⟨r', ev_succ ?_, ?_⟩
      · simp only [laws_szFileS.l0]
        rw [succ_i i (by omega)]
        exact ev_if (by omega) (ev_if (by omega) (ev_bind0 hr (ev_else (by omega) hr')))
      · rcases hc' with h | ⟨h, h'⟩
        · exact .inl h
        · exact .inr ⟨h, by omega⟩
theorem laws_szFileS_f (l : List S135) (hl : l.length ≤ maxLen ∧ ∀ x ∈ l, (x.f0.size ≤ maxLen) ∧ (x.f1.size ≤ maxLen) ∧ (Lit.int .i64 x.f2).wf = true) (left : Int) (h0 : 0 ≤ left) (h1 : left ≤ 1048576) :
    ∃ r, Ev (fun k => laws_szFileS.f k l left) r ∧ (r < 0 ∨ 0 ≤ r ∧ r + (l.length : Int) + (wtFile l : Int) = left) := by
  obtain ⟨hl, hq⟩ := hl
  unfold maxLen at hl
  unfold laws_szFileS.f
  rw [wid (x := left - (l.length : Int)) (by omega) (by omega)]
  by_cases h : left - (l.length : Int) < 0
  · exact ⟨-1, ev_if h (ev_some rfl), .inl (by omega)⟩
  · obtain ⟨r, hr, hc⟩ := laws_szFileS_l0 l hq l.length 0 (left - (l.length : Int)) (by omega) (by omega) (by omega) (by omega)
    refine ⟨r, ev_else h hr, ?_⟩
    rcases hc with h' | ⟨h', h''⟩
    · exact .inl h'
    · refine .inr ⟨h', ?_⟩
      rw [List.drop_zero] at h''
      omega
theorem laws_toDisk_f (l : List S135) (hl : l.length ≤ 1048576) : Ev (fun k => laws_toDisk.f k l) (l.map convFile) := by
  unfold laws_toDisk.f
  exact ev_bind (laws_toFileS_f l hl) (ev_some rfl)
theorem laws_eqDisk_f (l : List S45) (hl : l.length ≤ 4611686018427387904) : Ev (fun k => laws_eqDisk.f k l l) true := by
  unfold laws_eqDisk.f
  exact ev_bind (laws_eqFileS_f l hl) (ev_if rfl (ev_some rfl))
theorem laws_szDisk_f (l : List S135) (hl : l.length ≤ maxLen ∧ ∀ x ∈ l, (x.f0.size ≤ maxLen) ∧ (x.f1.size ≤ maxLen) ∧ (Lit.int .i64 x.f2).wf = true) (left : Int) (h0 : 0 ≤ left) (h1 : left ≤ 1048576) :
    ∃ r, Ev (fun k => laws_szDisk.f k l left) r ∧ (r < 0 ∨ 0 ≤ r ∧ r + (l.length : Int) + (wtFile l : Int) = left) := by
  obtain ⟨r, hr, hc⟩ := laws_szFileS_f l hl left h0 h1
  unfold laws_szDisk.f
  by_cases h : r < 0
  · exact ⟨-1, ev_bind hr (ev_if h (ev_some rfl)), .inl (by omega)⟩
  · exact ⟨r, ev_bind hr (ev_else h (ev_some rfl)), hc⟩
theorem FnExactAllKept (l : List S135) (hl : l.length ≤ maxLen ∧ ∀ x ∈ l, (x.f0.size ≤ maxLen) ∧ (x.f1.size ≤ maxLen) ∧ (Lit.int .i64 x.f2).wf = true) : ∃ k, laws_FnExactAllKept.f k l = some true := by
  refine Ev.rounds ?_
  unfold laws_FnExactAllKept.f
  obtain ⟨r, hr, hc⟩ := laws_szDisk_f l hl 1048576 (by omega) (by omega)
  refine ev_bind hr ?_
  by_cases hneg : r < 0
  · exact ev_if hneg (ev_some rfl)
  refine ev_else hneg ?_
  have hlen : l.length ≤ 1048576 := by omega
  have hlen' : (l.map convFile).length ≤ 4611686018427387904 := by rw [List.length_map]; omega
  refine ev_bind (laws_toDisk_f l hlen) (ev_bind (spec_AllKept_f _ hlen') (ev_bind (laws_toDisk_f l hlen) (ev_bind (impl_AllKept_f _ hlen') (ev_else (by simp) ?_))))
  exact ev_bind (laws_toDisk_f l hlen) (ev_bind (laws_eqDisk_f _ hlen') (ev_if rfl (ev_some rfl)))

end Go.Proofs.Ytidfhfaekdahpaa.Pure
