/- For every disk, list of acts and whole numbers the program's CutActs returns what the reference's returns, leaves all as they were and shares no memory with them, without a condition of its own. -/
import Derived.Test.YtidfhfaekdahpaaQFnExactCutActsx18
namespace Go.Proofs.Ytidfhfaekdahpaa.Pure
open Go.RowKit Go.Proofs.Ytidfhfaekdahpaa.QFnExactCutActs Go.Proofs.YtidfhfaekdahpaaW.PrintWords Go.Proofs.YtidfhfaekdahpaaW.PrintLast

set_option linter.unusedVariables false
set_option linter.unusedSimpArgs false
/-! small words on rounds -/
theorem wid {x : Int} (h0 : -9223372036854775808 ≤ x) (h1 : x ≤ 9223372036854775807) : wrap64 x = x := by
 unfold wrap64; omega
theorem wrap_to {x y : Int} (h : x = y) (h0 : -9223372036854775808 ≤ y) (h1 : y ≤ 9223372036854775807) : wrap64 x = y := by
 rw [h]; exact wid h0 h1
theorem ev_some {α : Type} {o : Option α} {r : α} (h : o = some r) : Ev (fun _ => o) r := ⟨0, fun _ _ => h⟩
theorem ev_succ {α : Type} {g : Nat → Option α} {r : α} (h : Ev (fun k => g (k + 1)) r) : Ev g r := Ev.step (fun _ => rfl) h
theorem ev_if {α : Type} {c : Prop} [Decidable c] {f g : Nat → Option α} {r : α} (h : c) (k : Ev f r) : Ev (fun n => if c then f n else g n) r := by
 simp only [if_pos h]; exact k
theorem ev_else {α : Type} {c : Prop} [Decidable c] {f g : Nat → Option α} {r : α} (h : ¬ c) (k : Ev g r) : Ev (fun n => if c then f n else g n) r := by
 simp only [if_neg h]; exact k
theorem ev_bind0 {α β : Type} {o : Option α} {f : Nat → α → Option β} {a : α} {r : β} (h : o = some a) (k : Ev (fun n => f n a) r) : Ev (fun n => o.bind (f n)) r := by
 subst h; exact k
theorem ev_bind {α β : Type} {g : Nat → Option α} {f : Nat → α → Option β} {a : α} {r : β} (h : Ev g a) (k : Ev (fun n => f n a) r) : Ev (fun n => (g n).bind (f n)) r := Ev.bind h k
theorem ev_eq {α : Type} {g : Nat → Option α} {a b : α} (h : Ev g a) (e : a = b) : Ev g b := e ▸ h
theorem tdivp {a b : Int} (h : 0 ≤ a) : Int.tdiv a b = a / b := Int.tdiv_eq_ediv_of_nonneg h
theorem toList_iff (a b : ByteArray) : a.toList = b.toList ↔ a = b := by
 rw [ByteArray.toList_eq, ByteArray.toList_eq]
 exact ⟨fun h => ByteArray.ext (Array.toList_inj.mp h), fun h => by rw [h]⟩
theorem drop_getD {α : Type} (l : List α) (d : α) (i : Nat) (h : i < l.length) : l.drop i = l.getD i d :: l.drop (i + 1) := by
 rw [List.drop_eq_getElem_cons h, List.getD_eq_getElem?_getD, List.getElem?_eq_getElem h]
 rfl
theorem drop_end {α : Type} (l : List α) (i : Nat) (h : l.length ≤ i) : l.drop i = [] := List.drop_eq_nil_of_le h
theorem rd_nat (l : List Int) (i : Nat) : rd l (i : Int) = l.getD i 0 := rfl
theorem copy_step {α : Type} (l : List α) (d z : α) (i : Nat) (h : i < l.length) :
 (l.take i ++ List.replicate (l.length - i) z).set i (l.getD i d) = l.take (i + 1) ++ List.replicate (l.length - (i + 1)) z := by
 have h1 : (l.take i).length = i := by rw [List.length_take]; omega
 rw [List.set_append_right _ _ (by omega), h1, Nat.sub_self]
 have h2 : l.length - i = (l.length - (i + 1)) + 1 := by omega
 rw [h2, List.replicate_succ, List.set_cons_zero, List.take_succ_eq_append_getElem h, List.append_assoc]
 congr 1
 rw [List.getD_eq_getElem?_getD, List.getElem?_eq_getElem h]
 rfl
theorem copy_len {α : Type} (l : List α) (z : α) (i : Nat) (h : i ≤ l.length) : (l.take i ++ List.replicate (l.length - i) z).length = l.length := by
 rw [List.length_append, List.length_take, List.length_replicate]; omega
theorem toNat_nat (i : Nat) : ((i : Int)).toNat = i := rfl
theorem succ_i (i : Nat) (h : i ≤ 9223372036854775806) : wrap64 ((i : Int) + 1) = ((i + 1 : Nat) : Int) := wrap_to (by omega) (by omega) (by omega)
theorem pred_i (i : Nat) (h : 0 < i) (h' : i ≤ 9223372036854775806) : wrap64 ((i : Int) - 1) = ((i - 1 : Nat) : Int) := wrap_to (by omega) (by omega) (by omega)
def fileOkB (f : S45) : Bool := decide (1 ≤ f.f0.size ∧ f.f0.size ≤ 8) && (decide (f.f1.size ≤ 20000) && decide (0 ≤ f.f2 ∧ f.f2 ≤ (f.f1.size : Int)))
def lessB (a b : ByteArray) : Bool := Op.bytesLess a.toList b.toList
def diskL : Option ByteArray → List S45 → Bool
 | _, [] => true
 | p, x :: xs => fileOkB x && ((match p with | none => true | some y => lessB y x.f0) && diskL (some x.f0) xs)
def prevF (l : List S45) (i : Nat) : Option ByteArray := if i = 0 then none else some (rd_T45 l ((i - 1 : Nat) : Int)).f0
def diskOkB (l : List S45) : Bool := decide (l.length ≤ 30) && diskL none l
theorem diskL_at (l : List S45) (i : Nat) (h : i < l.length) :
 diskL (prevF l i) (l.drop i) = (fileOkB (rd_T45 l (i : Int)) && ((if i = 0 then true else lessB (rd_T45 l ((i - 1 : Nat) : Int)).f0 (rd_T45 l (i : Int)).f0) && diskL (prevF l (i + 1)) (l.drop (i + 1)))) := by
 rw [drop_getD l z45 i h]
 have e : prevF l (i + 1) = some (l.getD i z45).f0 := by simp [prevF]; rfl
 rw [e]
 show diskL (prevF l i) (l.getD i z45 :: l.drop (i + 1)) = (fileOkB (l.getD i z45) && _)
 simp only [diskL, prevF]
 by_cases h0 : i = 0
 ·subst h0; rfl
 ·simp only [h0, if_false]; rfl
theorem bl_trans : ∀ (x y z : List UInt8), Op.bytesLess x y = true → Op.bytesLess y z = true → Op.bytesLess x z = true
 | _, _, [], _, h => by simp [Op.bytesLess] at h
 | _, [], _ :: _, h, _ => by simp [Op.bytesLess] at h
 | [], _ :: _, _ :: _, _, _ => by simp [Op.bytesLess]
 | a :: x, b :: y, c :: z, h, k => by
  have ih := bl_trans x y z
  simp only [Op.bytesLess, Bool.or_eq_true, decide_eq_true_eq, Bool.and_eq_true, beq_iff_eq, UInt8.lt_iff_toNat_lt] at h k ⊢
  rcases h with h | ⟨rfl, h⟩
  ·rcases k with k | ⟨rfl, k⟩
   ·left; omega
   ·left; exact h
  ·rcases k with k | ⟨rfl, k⟩
   ·left; exact k
   ·right; exact ⟨rfl, ih h k⟩
theorem bl_irrefl : ∀ x : List UInt8, Op.bytesLess x x = false
 | [] => by simp [Op.bytesLess]
 | a :: x => by simp [Op.bytesLess, bl_irrefl x]
theorem bl_tri (x y : List UInt8) (h : Op.bytesLess x y = false) (k : Op.bytesLess y x = false) : x = y := by
 have := Go.Proofs.YtidfhfaekdahpaaQWords.bl_conv x y
 rw [h, k] at this
 simpa using this
theorem lessB_trans {a b c : ByteArray} (h : lessB a b = true) (k : lessB b c = true) : lessB a c = true := bl_trans _ _ _ h k
theorem lessB_irrefl (a : ByteArray) : lessB a a = false := bl_irrefl _
theorem lessB_tri {a b : ByteArray} (h : lessB a b = false) (k : lessB b a = false) : a = b := (toList_iff a b).1 (bl_tri _ _ h k)
theorem lessB_asymm {a b : ByteArray} (h : lessB a b = true) : lessB b a = false := by
 cases k : lessB b a
 ·rfl
 ·exact absurd (lessB_trans h k) (by rw [lessB_irrefl]; simp)
theorem lessB_ne {a b : ByteArray} (h : lessB a b = true) : a ≠ b := by
 rintro rfl
 rw [lessB_irrefl] at h
 cases h
theorem diskL_all : ∀ (l : List S45) (p : Option ByteArray), diskL p l = true → ∀ x ∈ l, fileOkB x = true := by
 intro l
 induction l with
 | nil => intro p _ x hx; cases hx
 | cons y ys ih =>
  intro p h x hx
  simp only [diskL, Bool.and_eq_true] at h
  rcases List.mem_cons.1 hx with rfl | hx
  ·exact h.1
  ·exact ih _ h.2.2 x hx
theorem diskOk_all (l : List S45) (h : diskOkB l = true) : l.length ≤ 30 ∧ ∀ x ∈ l, (1 ≤ x.f0.size ∧ x.f0.size ≤ 8) ∧ x.f1.size ≤ 20000 ∧ 0 ≤ x.f2 ∧ x.f2 ≤ (x.f1.size : Int) := by
 simp only [diskOkB, Bool.and_eq_true, decide_eq_true_eq] at h
 refine ⟨h.1, fun x hx => ?_⟩
 have := diskL_all l none h.2 x hx
 simp only [fileOkB, Bool.and_eq_true, decide_eq_true_eq] at this
 exact this
def Srt (l : List S45) : Prop := l.Pairwise (fun x y => lessB x.f0 y.f0 = true)
theorem diskL_iff : ∀ (l : List S45) (p : Option ByteArray), diskL p l = true ↔ (∀ x ∈ l, fileOkB x = true) ∧ Srt l ∧ ∀ y, p = some y → ∀ x ∈ l, lessB y x.f0 = true := by
 intro l
 induction l with
 | nil => intro p; simp [diskL, Srt]
 | cons x xs ih =>
  intro p
  simp only [diskL, Bool.and_eq_true, ih, Srt, List.pairwise_cons]
  constructor
  ·rintro ⟨h1, h2, h3, h4, h5⟩
   refine ⟨fun y hy => ?_, ⟨fun y hy => h5 _ rfl y hy, h4⟩, ?_⟩
   ·rcases List.mem_cons.1 hy with rfl | hy
    ·exact h1
    ·exact h3 y hy
   ·rintro y rfl z hz
    rcases List.mem_cons.1 hz with rfl | hz
    ·exact h2
    ·exact lessB_trans h2 (h5 _ rfl z hz)
  ·rintro ⟨h1, ⟨h2, h3⟩, h4⟩
   refine ⟨h1 x (List.mem_cons_self ..), ?_, fun y hy => h1 y (List.mem_cons_of_mem _ hy), h3, ?_⟩
   ·cases p with
    | none => rfl
    | some y => exact h4 y rfl x (List.mem_cons_self ..)
   ·rintro y hy z hz
    injection hy with hy
    subst hy
    exact h2 z hz
theorem diskOk_iff (l : List S45) : diskOkB l = true ↔ l.length ≤ 30 ∧ (∀ x ∈ l, fileOkB x = true) ∧ Srt l := by
 simp only [diskOkB, Bool.and_eq_true, decide_eq_true_eq, diskL_iff]
 constructor
 ·rintro ⟨a, b, c, _⟩; exact ⟨a, b, c⟩
 ·rintro ⟨a, b, c⟩; exact ⟨a, b, c, fun y hy => by cases hy⟩
def putV (l : List S45) (f : S45) : List S45 := l.filter (fun x => lessB x.f0 f.f0) ++ [f] ++ l.filter (fun x => lessB f.f0 x.f0)
theorem putV_mem {l : List S45} {f x : S45} (h : x ∈ putV l f) : x = f ∨ x ∈ l := by
 simp only [putV, List.mem_append, List.mem_filter, List.mem_singleton] at h
 rcases h with (h | h) | h
 ·exact .inr h.1
 ·exact .inl h
 ·exact .inr h.1
theorem putV_srt (l : List S45) (f : S45) (h : Srt l) : Srt (putV l f) := by
 unfold Srt putV
 rw [List.pairwise_append, List.pairwise_append]
 refine ⟨⟨h.sublist List.filter_sublist, List.pairwise_singleton .., ?_⟩, h.sublist List.filter_sublist, ?_⟩
 ·intro a ha b hb
  simp only [List.mem_filter, List.mem_singleton] at ha hb
  rw [hb]
  exact ha.2
 ·intro a ha b hb
  simp only [List.mem_append, List.mem_filter, List.mem_singleton] at ha hb
  rcases ha with ha | ha
  ·exact lessB_trans ha.2 hb.2
  ·rw [ha]
   exact hb.2
theorem putV_length (l : List S45) (f : S45) : (putV l f).length ≤ l.length + 1 := by
 have key : ∀ l : List S45, (l.filter (fun x => lessB x.f0 f.f0)).length + (l.filter (fun x => lessB f.f0 x.f0)).length ≤ l.length := by
  intro l
  induction l with
  | nil => simp
  | cons x xs ih =>
   simp only [List.filter_cons, List.length_cons]
   by_cases h : lessB x.f0 f.f0 = true
   ·rw [if_pos h, if_neg (by rw [lessB_asymm h]; simp), List.length_cons]; omega
   ·rw [if_neg h]
    split
    ·rw [List.length_cons]; omega
    ·omega
 have := key l
 simp only [putV, List.length_append, List.length_singleton]
 omega
theorem impl_inRange_f (x a b : Int) : impl_inRange.f x a b = some (decide (a ≤ x ∧ x ≤ b)) := by
 unfold impl_inRange.f
 by_cases h1 : a ≤ x <;> by_cases h2 : x ≤ b <;> simp [h1, h2]
theorem impl_fileOk_f (f : S45) : impl_fileOk.f f.f0 f.f1 f.f2 = some (fileOkB f) := by
 unfold impl_fileOk.f fileOkB
 simp only [impl_inRange_f, Option.bind_some]
 by_cases h1 : 1 ≤ f.f0.size ∧ f.f0.size ≤ 8
 ·have h1' : 1 ≤ (f.f0.size : Int) ∧ (f.f0.size : Int) ≤ 8 := by omega
  by_cases h2 : f.f1.size ≤ 20000
  ·have h2' : (f.f1.size : Int) ≤ 20000 := by omega
   simp only [h1, h1', h2, h2', and_self, decide_true, if_true, Bool.true_and]
  ·have h2' : ¬ (f.f1.size : Int) ≤ 20000 := by omega
   simp only [h1, h1', h2, h2', and_self, decide_true, decide_false, if_true, if_false, Bool.true_and, Bool.false_and]
 ·have h1' : ¬ (1 ≤ (f.f0.size : Int) ∧ (f.f0.size : Int) ≤ 8) := by omega
  simp only [h1, h1', decide_false, Bool.false_and]
  rfl
theorem impl_DiskOk_l0 (l : List S45) (hl : l.length ≤ 4611686018427387904) : ∀ (d i : Nat), i + d = l.length →
 Ev (fun k => impl_DiskOk.l0 k l (l.length : Int) (i : Int) l) (decide (l.length ≤ 30) && diskL (prevF l i) (l.drop i)) := by
 intro d
 induction d with
 | zero =>
  intro i hi
  refine ev_succ ?_
  simp only [impl_DiskOk.l0]
  refine ev_else (by omega) (ev_some ?_)
  rw [drop_end l i (by omega)]
  have e : diskL (prevF l i) [] = true := by cases prevF l i <;> rfl
  rw [e, Bool.and_true]
  congr 1
  apply decide_eq_decide.2
  omega
 | succ d ih =>
  intro i hi
  refine ev_succ ?_
  simp only [impl_DiskOk.l0]
  refine ev_if (by omega) (ev_if (by omega) (ev_if (by omega) (ev_bind0 (impl_fileOk_f _) ?_)))
  rw [diskL_at l i (by omega), succ_i i (by omega)]
  by_cases hf : fileOkB (rd_T45 l (i : Int)) = true
  ·refine ev_if hf ?_
   rw [hf, Bool.true_and]
   by_cases h0 : i = 0
   ·refine ev_else (by omega) (ev_eq (ih (i + 1) (by omega)) ?_)
    rw [if_pos h0, Bool.true_and]
   ·rw [pred_i i (by omega) (by omega), if_neg h0]
    refine ev_if (by omega) (ev_if (by omega) (ev_if (by omega) ?_))
    by_cases hb : lessB (rd_T45 l ((i - 1 : Nat) : Int)).f0 (rd_T45 l (i : Int)).f0 = true
    ·refine ev_if hb (ev_eq (ih (i + 1) (by omega)) ?_)
     rw [hb, Bool.true_and]
    ·refine ev_else hb (ev_some ?_)
     rw [Bool.eq_false_iff.2 hb, Bool.false_and, Bool.and_false]
  ·refine ev_else hf (ev_some ?_)
   rw [Bool.eq_false_iff.2 hf, Bool.false_and, Bool.and_false]
theorem impl_DiskOk_f (l : List S45) (hl : l.length ≤ 4611686018427387904) : Ev (fun k => impl_DiskOk.f k l) (diskOkB l) := by
 have := impl_DiskOk_l0 l hl l.length 0 (by omega)
 unfold impl_DiskOk.f diskOkB
 rw [List.drop_zero] at this
 exact this
theorem pl_idx_cons (s : ByteArray) (x : S45) (xs : List S45) : impl_Disk_place.idx s (x :: xs) = if lessB x.f0 s = true then impl_Disk_place.idx s xs + 1 else 0 := rfl
theorem pl_has_cons (s : ByteArray) (x : S45) (xs : List S45) : impl_Disk_place.has s (x :: xs) = if lessB x.f0 s = true then impl_Disk_place.has s xs else decide (x.f0 = s) := by
 unfold impl_Disk_place.has
 rw [pl_idx_cons]
 by_cases h : lessB x.f0 s = true
 ·rw [if_pos h, if_pos h, List.length_cons]
  congr 1
  apply decide_eq_decide.2
  omega
 ·rw [if_neg h, if_neg h, List.length_cons, decide_eq_true (Nat.succ_pos _), Bool.true_and]
  show (x.f0.toList == s.toList) = decide (x.f0 = s)
  by_cases e : x.f0 = s
  ·rw [e, decide_eq_true rfl]; simp
  ·rw [decide_eq_false e]
   exact beq_eq_false_iff_ne.2 (fun h2 => e ((toList_iff _ _).1 h2))
theorem pl_lt {s : ByteArray} {l : List S45} (h : impl_Disk_place.has s l = true) : impl_Disk_place.idx s l < l.length := by
 rw [impl_Disk_place.has, Bool.and_eq_true] at h
 exact of_decide_eq_true h.1
theorem pl_name {s : ByteArray} {l : List S45} (h : impl_Disk_place.has s l = true) : (l.getD (impl_Disk_place.idx s l) z45).f0 = s := by
 rw [impl_Disk_place.has, Bool.and_eq_true] at h
 exact (toList_iff _ _).1 (eq_of_beq h.2)
theorem pl_mem {s : ByteArray} {l : List S45} (h : impl_Disk_place.has s l = true) : l.getD (impl_Disk_place.idx s l) z45 ∈ l := by
 have := pl_lt h
 rw [List.getD_eq_getElem?_getD, List.getElem?_eq_getElem this]
 exact List.getElem_mem _
theorem srt_cons {x : S45} {xs : List S45} : Srt (x :: xs) ↔ (∀ y ∈ xs, lessB x.f0 y.f0 = true) ∧ Srt xs := List.pairwise_cons
theorem putL_eq (f : S45) : ∀ (l : List S45), Srt l → impl_Disk_put.putL f l = putV l f := by
 intro l
 induction l with
 | nil => intro _; rfl
 | cons x xs ih =>
  intro hs
  obtain ⟨hx, hs⟩ := srt_cons.1 hs
  have ih := ih hs
  unfold impl_Disk_put.putL at ih ⊢
  rw [pl_has_cons, pl_idx_cons]
  unfold putV at ih ⊢
  rw [List.filter_cons, List.filter_cons]
  by_cases h : lessB x.f0 f.f0 = true
  ·have h2 : ¬ lessB f.f0 x.f0 = true := by rw [lessB_asymm h]; simp
   rw [if_pos h, if_neg h2, if_pos h]
   simp only [if_pos h, List.cons_append]
   rw [← ih]
   split <;> simp
  ·rw [if_neg h, if_neg h, if_neg h]
   have hl : xs.filter (fun y => lessB y.f0 f.f0) = [] := by
    rw [List.filter_eq_nil_iff]
    intro y hy hlt
    exact h (lessB_trans (hx y hy) hlt)
   rw [hl]
   by_cases e : x.f0 = f.f0
   ·have hr : xs.filter (fun y => lessB f.f0 y.f0) = xs := by
     rw [List.filter_eq_self]
     intro y hy
     rw [← e]
     exact hx y hy
    rw [if_pos (by rw [decide_eq_true e]), if_neg (by rw [e, lessB_irrefl]; simp), hr]
    simp
   ·have hgt : lessB f.f0 x.f0 = true := by
     cases hq : lessB f.f0 x.f0 with
     | true => rfl
     | false => exact absurd (lessB_tri (Bool.eq_false_iff.2 h) hq) e
    have hr : xs.filter (fun y => lessB f.f0 y.f0) = xs := by
     rw [List.filter_eq_self]
     intro y hy
     exact lessB_trans hgt (hx y hy)
    rw [if_neg (by rw [decide_eq_false e]; simp), if_pos hgt, hr]
    simp
def withoutV (l : List S45) (s : ByteArray) : List S45 := l.filter (fun x => !decide (x.f0 = s))
theorem erase_eq (s : ByteArray) : ∀ (l : List S45), Srt l → impl_Disk_place.has s l = true → l.eraseIdx (impl_Disk_place.idx s l) = withoutV l s := by
 intro l
 induction l with
 | nil => intro _ h; cases h
 | cons x xs ih =>
  intro hs hh
  obtain ⟨hx, hs⟩ := srt_cons.1 hs
  rw [pl_has_cons] at hh
  rw [pl_idx_cons]
  unfold withoutV at ih ⊢
  rw [List.filter_cons]
  by_cases h : lessB x.f0 s = true
  ·rw [if_pos h] at hh
   rw [if_pos h, List.eraseIdx_cons_succ, ih hs hh, if_pos (by rw [decide_eq_false (lessB_ne h)]; rfl)]
  ·rw [if_neg h] at hh
   have e := of_decide_eq_true hh
   rw [if_neg h, List.eraseIdx_cons_zero, if_neg (by rw [decide_eq_true e]; simp)]
   symm
   rw [List.filter_eq_self]
   intro y hy
   have : x.f0 ≠ y.f0 := lessB_ne (hx y hy)
   rw [decide_eq_false (fun e2 => this (by rw [e, e2]))]
   rfl
def atF (s : ByteArray) : List S45 → Nat → Int
 | [], _ => -1
 | x :: xs, i => if x.f0 = s then (i : Int) else atF s xs (i + 1)
theorem atF_none (s : ByteArray) : ∀ (l : List S45) (i : Nat), (∀ y ∈ l, y.f0 ≠ s) → atF s l i = -1 := by
 intro l
 induction l with
 | nil => intro _ _; rfl
 | cons x xs ih =>
  intro i h
  rw [atF, if_neg (h x (List.mem_cons_self ..))]
  exact ih _ (fun y hy => h y (List.mem_cons_of_mem _ hy))
theorem atF_eq (s : ByteArray) : ∀ (l : List S45) (i : Nat), Srt l → atF s l i = if impl_Disk_place.has s l = true then ((i + impl_Disk_place.idx s l : Nat) : Int) else -1 := by
 intro l
 induction l with
 | nil => intro _ _; rfl
 | cons x xs ih =>
  intro i hs
  obtain ⟨hx, hs⟩ := srt_cons.1 hs
  rw [pl_has_cons, pl_idx_cons, atF]
  by_cases h : lessB x.f0 s = true
  ·rw [if_pos h, if_pos h, if_neg (lessB_ne h), ih (i + 1) hs]
   split
   ·omega
   ·rfl
  ·rw [if_neg h, if_neg h]
   by_cases e : x.f0 = s
   ·rw [if_pos e, decide_eq_true e, if_pos rfl]; simp
   ·rw [if_neg e, decide_eq_false e, if_neg (by simp)]
    have hgt : lessB s x.f0 = true := by
     cases hq : lessB s x.f0 with
     | true => rfl
     | false => exact absurd (lessB_tri (Bool.eq_false_iff.2 h) hq) e
    exact atF_none s xs _ (fun y hy e2 => by
     have := lessB_trans hgt (hx y hy)
     rw [e2, lessB_irrefl] at this
     cases this)
theorem diskOk_put {l : List S45} {f : S45} (hs : Srt l) (ha : ∀ x ∈ l, fileOkB x = true) : diskOkB (putV l f) = (fileOkB f && decide ((putV l f).length ≤ 30)) := by
 rw [Bool.eq_iff_iff, diskOk_iff, Bool.and_eq_true, decide_eq_true_eq]
 constructor
 ·rintro ⟨h1, h2, _⟩
  exact ⟨h2 f (by unfold putV; simp), h1⟩
 ·rintro ⟨h1, h2⟩
  exact ⟨h2, fun x hx => (putV_mem hx).elim (fun e => by rw [e]; exact h1) (ha x), putV_srt l f hs⟩
theorem without_ok {l : List S45} (s : ByteArray) (h : diskOkB l = true) : diskOkB (withoutV l s) = true := by
 rw [diskOk_iff] at h ⊢
 exact ⟨Nat.le_trans (List.length_filter_le _ _) h.1, fun x hx => h.2.1 x (List.mem_filter.1 hx).1, h.2.2.sublist List.filter_sublist⟩
/-- what (*Disk).do computes -/
def doV (kd : Int) (nm tx tt : ByteArray) (l : List S45) : List S45 × Bool :=
 if kd = 1 then (putV l (impl_Disk_do.addF nm tx l), tt.toList.isEmpty && fileOkB (impl_Disk_do.addF nm tx l) && decide ((putV l (impl_Disk_do.addF nm tx l)).length ≤ 30))
 else if impl_Disk_place.has nm l = true then
  if tx.toList.isEmpty = true then
   if kd = 3 then
    if tt = nm then (l, false)
    else if (l.getD (impl_Disk_place.idx nm l) z45).f2 < ((l.getD (impl_Disk_place.idx nm l) z45).f1.size : Int) then (l, false)
    else (putV (withoutV l nm) ⟨tt, (l.getD (impl_Disk_place.idx nm l) z45).f1, (l.getD (impl_Disk_place.idx nm l) z45).f2⟩, fileOkB ⟨tt, (l.getD (impl_Disk_place.idx nm l) z45).f1, (l.getD (impl_Disk_place.idx nm l) z45).f2⟩)
   else if tt.toList.isEmpty = true then
    if kd = 2 then (putV l ⟨nm, (l.getD (impl_Disk_place.idx nm l) z45).f1, ((l.getD (impl_Disk_place.idx nm l) z45).f1.size : Int)⟩, true)
    else if kd = 4 then (withoutV l nm, true)
    else (l, false)
   else (l, false)
  else (l, false)
 else (l, false)
def actV (kd : Int) (nm tx tt : ByteArray) (l : List S45) : List S45 × Bool := if diskOkB l = true then (if (doV kd nm tx tt l).2 = true then ((doV kd nm tx tt l).1, true) else ([], false)) else ([], false)
theorem doF_eq (kd : Int) (nm tx tt : ByteArray) (l : List S45) (hok : diskOkB l = true) (htx : tx.size ≤ 1048576) : impl_Disk_do.doF kd nm tx tt l = some (doV kd nm tx tt l) := by
 obtain ⟨h30, hall, hs⟩ := (diskOk_iff l).1 hok
 have hfs : (impl_Disk_do.addF nm tx l).f1.size ≤ 9223372036854775807 := by
  unfold impl_Disk_do.addF
  dsimp only
  rw [ByteArray.size_append]
  split
  ·rename_i h
   have := (diskOk_all l hok).2 _ (pl_mem h)
   omega
  ·have e : ((⟨nm, ⟨#[]⟩, 0⟩ : S45).f1).size = 0 := rfl
   omega
 have hs2 : Srt (withoutV l nm) := hs.sublist List.filter_sublist
 unfold impl_Disk_do.doF doV
 rw [if_pos (by omega)]
 by_cases hk1 : kd = 1
 ·rw [if_pos hk1, if_pos hk1, if_pos hfs, impl_fileOk_f, Option.bind_some, putL_eq _ _ hs]
  congr 3
  apply decide_eq_decide.2
  omega
 rw [if_neg hk1, if_neg hk1]
 by_cases hh : impl_Disk_place.has nm l = true
 case neg => rw [if_neg hh, if_neg hh]
 rw [if_pos hh, if_pos hh]
 by_cases htxe : tx.toList.isEmpty = true
 case neg => rw [if_neg htxe, if_neg htxe]
 rw [if_pos htxe, if_pos htxe]
 by_cases hk3 : kd = 3
 ·rw [if_pos hk3, if_pos hk3]
  by_cases he : tt = nm
  ·rw [if_pos he, if_pos (by rw [he]; simp)]
  ·rw [if_neg he, if_neg (fun h => he ((toList_iff _ _).1 (eq_of_beq h)))]
   split
   ·rfl
   ·rw [show impl_fileOk.f tt (l.getD (impl_Disk_place.idx nm l) z45).f1 (l.getD (impl_Disk_place.idx nm l) z45).f2 = _ from impl_fileOk_f ⟨tt, (l.getD (impl_Disk_place.idx nm l) z45).f1, (l.getD (impl_Disk_place.idx nm l) z45).f2⟩, Option.bind_some, erase_eq nm l hs hh, putL_eq _ _ hs2]
 rw [if_neg hk3, if_neg hk3]
 by_cases htte : tt.toList.isEmpty = true
 case neg => rw [if_neg htte, if_neg htte]
 rw [if_pos htte, if_pos htte]
 by_cases hk2 : kd = 2
 ·rw [if_pos hk2, if_pos hk2]
  have hn := pl_name hh
  have := putL_eq ⟨nm, (l.getD (impl_Disk_place.idx nm l) z45).f1, ((l.getD (impl_Disk_place.idx nm l) z45).f1.size : Int)⟩ l hs
  unfold impl_Disk_put.putL at this
  rw [if_pos hh] at this
  rw [hn, this]
 ·rw [if_neg hk2, if_neg hk2]
  split
  ·rw [erase_eq nm l hs hh]
  ·rfl
theorem spec_l01In_f (x a b : Int) : spec_l01In.f x a b = some (decide (a ≤ x ∧ x ≤ b)) := by
 unfold spec_l01In.f
 by_cases h1 : a ≤ x <;> by_cases h2 : x ≤ b <;> simp [h1, h2]
theorem spec_l03Name_f (s : ByteArray) : spec_l03Name.f s = some (decide (1 ≤ s.size ∧ s.size ≤ 8)) := by
 unfold spec_l03Name.f
 simp only [spec_l01In_f, Option.bind_some]
 congr 1
 apply decide_eq_decide.2
 omega
theorem spec_DiskOk_l0 (l : List S45) (hl : l.length ≤ 4611686018427387904) : ∀ (d i : Nat), i + d = l.length →
 Ev (fun k => spec_DiskOk.l0 k (i : Int) l) (diskL (prevF l i) (l.drop i)) := by
 intro d
 induction d with
 | zero =>
  intro i hi
  refine ev_succ ?_
  simp only [spec_DiskOk.l0]
  refine ev_else (by omega) (ev_some ?_)
  rw [drop_end l i (by omega)]
  cases prevF l i <;> rfl
 | succ d ih =>
  intro i hi
  refine ev_succ ?_
  simp only [spec_DiskOk.l0]
  refine ev_if (by omega) (ev_if (by omega) (ev_bind0 (spec_l03Name_f _) ?_))
  rw [diskL_at l i (by omega), succ_i i (by omega)]
  unfold fileOkB
  by_cases h1 : 1 ≤ (rd_T45 l (i : Int)).f0.size ∧ (rd_T45 l (i : Int)).f0.size ≤ 8
  ·refine ev_if (decide_eq_true h1) ?_
   rw [decide_eq_true h1, Bool.true_and]
   by_cases h2 : (rd_T45 l (i : Int)).f1.size ≤ 20000
   ·refine ev_else (by omega) (ev_bind0 (spec_l01In_f _ _ _) ?_)
    rw [decide_eq_true h2, Bool.true_and]
    by_cases h3 : 0 ≤ (rd_T45 l (i : Int)).f2 ∧ (rd_T45 l (i : Int)).f2 ≤ ((rd_T45 l (i : Int)).f1.size : Int)
    ·refine ev_if (decide_eq_true h3) ?_
     rw [decide_eq_true h3, Bool.true_and]
     by_cases h0 : i = 0
     ·refine ev_else (by omega) (ev_eq (ih (i + 1) (by omega)) ?_)
      rw [if_pos h0, Bool.true_and]
     ·rw [pred_i i (by omega) (by omega), if_neg h0]
      refine ev_if (by omega) (ev_if (by omega) (ev_if (by omega) ?_))
      by_cases hb : lessB (rd_T45 l ((i - 1 : Nat) : Int)).f0 (rd_T45 l (i : Int)).f0 = true
      ·refine ev_if hb (ev_eq (ih (i + 1) (by omega)) ?_)
       rw [hb, Bool.true_and]
      ·refine ev_else hb (ev_some ?_)
       rw [Bool.eq_false_iff.2 hb, Bool.false_and]
    ·refine ev_else (by rw [decide_eq_false h3]; simp) (ev_some ?_)
     rw [decide_eq_false h3, Bool.false_and]
   ·refine ev_if (by omega) (ev_some ?_)
    rw [decide_eq_false h2, Bool.false_and, Bool.false_and]
  ·refine ev_else (by rw [decide_eq_false h1]; simp) (ev_some ?_)
   rw [decide_eq_false h1, Bool.false_and, Bool.false_and]
theorem spec_DiskOk_f (l : List S45) (hl : l.length ≤ 4611686018427387904) : Ev (fun k => spec_DiskOk.f k l) (diskOkB l) := by
 unfold spec_DiskOk.f diskOkB
 by_cases h : (l.length : Int) > 30
 ·refine ev_if h (ev_some ?_)
  rw [decide_eq_false (by omega), Bool.false_and]
 ·refine ev_else h (ev_eq ?_ (by rw [decide_eq_true (show l.length ≤ 30 by omega), Bool.true_and]))
  have := spec_DiskOk_l0 l hl l.length 0 (by omega)
  rw [List.drop_zero] at this
  exact this
theorem spec_l03Put_l1 (l : List S45) (a b : ByteArray) (c : Int) (hl : l.length ≤ 1048576) : ∀ (d i : Nat) (acc : List S45), i + d = l.length → acc.length + d ≤ 3518437208882 →
 Ev (fun k => spec_l03Put.l1 k (i : Int) l a b c acc) (acc ++ (l.drop i).filter (fun x => lessB a x.f0)) := by
 intro d
 induction d with
 | zero =>
  intro i acc hi ha
  refine ev_succ ?_
  simp only [spec_l03Put.l1]
  refine ev_else (by omega) (ev_some ?_)
  rw [drop_end l i (by omega)]
  simp
 | succ d ih =>
  intro i acc hi ha
  refine ev_succ ?_
  simp only [spec_l03Put.l1]
  refine ev_if (by omega) (ev_if (by omega) ?_)
  rw [drop_getD l z45 i (by omega), List.filter_cons, succ_i i (by omega)]
  have e : rd_T45 l (i : Int) = l.getD i z45 := rfl
  rw [e]
  by_cases h : lessB a (l.getD i z45).f0 = true
  ·rw [if_pos h]
   refine ev_if h (ev_if (by omega) (ev_eq (ih (i + 1) _ (by omega) (by rw [List.length_append, List.length_singleton]; omega)) ?_))
   rw [List.append_assoc]
   rfl
  ·rw [if_neg h]
   exact ev_else h (ih (i + 1) acc (by omega) (by omega))
theorem spec_l03Put_l0 (l : List S45) (a b : ByteArray) (c : Int) (hl : l.length ≤ 1048576) : ∀ (d i : Nat) (acc : List S45), i + d = l.length → acc.length + d ≤ 1048576 →
 Ev (fun k => spec_l03Put.l0 k (i : Int) l a b c acc) (acc ++ (l.drop i).filter (fun x => lessB x.f0 a) ++ [⟨a, b, c⟩] ++ l.filter (fun x => lessB a x.f0)) := by
 intro d
 induction d with
 | zero =>
  intro i acc hi ha
  refine ev_succ ?_
  simp only [spec_l03Put.l0]
  refine ev_else (by omega) (ev_if (by omega) ?_)
  have := spec_l03Put_l1 l a b c hl l.length 0 (acc ++ [⟨a, b, c⟩]) (by omega) (by rw [List.length_append, List.length_singleton]; omega)
  rw [List.drop_zero] at this
  rw [drop_end l i (by omega)]
  simpa using this
 | succ d ih =>
  intro i acc hi ha
  refine ev_succ ?_
  simp only [spec_l03Put.l0]
  refine ev_if (by omega) (ev_if (by omega) ?_)
  rw [drop_getD l z45 i (by omega), List.filter_cons, succ_i i (by omega)]
  have e : rd_T45 l (i : Int) = l.getD i z45 := rfl
  rw [e]
  by_cases h : lessB (l.getD i z45).f0 a = true
  ·rw [if_pos h]
   refine ev_if h (ev_if (by omega) (ev_eq (ih (i + 1) _ (by omega) (by rw [List.length_append, List.length_singleton]; omega)) ?_))
   simp only [List.append_assoc]
   rfl
  ·rw [if_neg h]
   exact ev_else h (ih (i + 1) acc (by omega) (by omega))
theorem spec_l03Put_f (l : List S45) (a b : ByteArray) (c : Int) (hl : l.length ≤ 1048576) : Ev (fun k => spec_l03Put.f k l a b c) (putV l ⟨a, b, c⟩) := by
 have := spec_l03Put_l0 l a b c hl l.length 0 [] (by omega) (by simpa using hl)
 unfold spec_l03Put.f putV
 rw [List.drop_zero] at this
 simpa using this
theorem addF_has {nm tx : ByteArray} {l : List S45} (h : impl_Disk_place.has nm l = true) : impl_Disk_do.addF nm tx l = ⟨nm, (l.getD (impl_Disk_place.idx nm l) z45).f1 ++ tx, (l.getD (impl_Disk_place.idx nm l) z45).f2⟩ := by
 unfold impl_Disk_do.addF
 rw [if_pos h]
 dsimp only
 rw [pl_name h]
theorem addF_new {nm tx : ByteArray} {l : List S45} (h : impl_Disk_place.has nm l = false) : impl_Disk_do.addF nm tx l = ⟨nm, ⟨#[]⟩ ++ tx, 0⟩ := by
 unfold impl_Disk_do.addF
 rw [if_neg (by rw [h]; simp)]
theorem spec_l03At_l0 (l : List S45) (s : ByteArray) (hl : l.length ≤ 1048576) : ∀ (d i : Nat), i + d = l.length → Ev (fun k => spec_l03At.l0 k s (i : Int) l) (atF s (l.drop i) i) := by
 intro d
 induction d with
 | zero =>
  intro i hi
  refine ev_succ ?_
  simp only [spec_l03At.l0]
  refine ev_else (by omega) (ev_some ?_)
  rw [drop_end l i (by omega)]
  rfl
 | succ d ih =>
  intro i hi
  refine ev_succ ?_
  simp only [spec_l03At.l0]
  refine ev_if (by omega) (ev_if (by omega) ?_)
  rw [drop_getD l z45 i (by omega), atF, succ_i i (by omega)]
  have e : rd_T45 l (i : Int) = l.getD i z45 := rfl
  rw [e]
  by_cases h : (l.getD i z45).f0 = s
  ·rw [if_pos h]
   exact ev_if (by rw [h]) (ev_some rfl)
  ·rw [if_neg h]
   exact ev_else (fun h2 => h ((toList_iff _ _).1 h2)) (ih (i + 1) (by omega))
theorem spec_l03At_f (l : List S45) (s : ByteArray) (hl : l.length ≤ 1048576) : Ev (fun k => spec_l03At.f k l s) (atF s l 0) := by
 unfold spec_l03At.f
 have := spec_l03At_l0 l s hl l.length 0 (by omega)
 rw [List.drop_zero] at this
 exact this
theorem spec_l03Without_l0 (l : List S45) (s : ByteArray) (hl : l.length ≤ 1048576) : ∀ (d i : Nat) (acc : List S45), i + d = l.length → acc.length + d ≤ 3518437208882 → Ev (fun k => spec_l03Without.l0 k s (i : Int) l acc) (acc ++ withoutV (l.drop i) s) := by
 intro d
 induction d with
 | zero =>
  intro i acc hi ha
  refine ev_succ ?_
  simp only [spec_l03Without.l0]
  refine ev_else (by omega) (ev_some ?_)
  rw [drop_end l i (by omega)]
  simp [withoutV]
 | succ d ih =>
  intro i acc hi ha
  refine ev_succ ?_
  simp only [spec_l03Without.l0]
  refine ev_if (by omega) (ev_if (by omega) ?_)
  rw [drop_getD l z45 i (by omega), succ_i i (by omega)]
  have e : rd_T45 l (i : Int) = l.getD i z45 := rfl
  rw [e]
  unfold withoutV at ih ⊢
  rw [List.filter_cons]
  by_cases h : (l.getD i z45).f0 = s
  ·rw [if_neg (by rw [decide_eq_true h]; simp)]
   exact ev_if (by rw [h]) (ih (i + 1) acc (by omega) (by omega))
  ·rw [if_pos (by rw [decide_eq_false h]; rfl)]
   refine ev_else (fun h2 => h ((toList_iff _ _).1 h2)) (ev_if (by omega) (ev_eq (ih (i + 1) _ (by omega) (by rw [List.length_append, List.length_singleton]; omega)) ?_))
   rw [List.append_assoc]
   rfl
theorem spec_l03Without_f (l : List S45) (s : ByteArray) (hl : l.length ≤ 1048576) : Ev (fun k => spec_l03Without.f k l s) (withoutV l s) := by
 unfold spec_l03Without.f
 have := spec_l03Without_l0 l s hl l.length 0 [] (by omega) (by simpa using (by omega : l.length ≤ 3518437208882))
 rw [List.drop_zero] at this
 simpa using this
def okV (l : List S45) : List S45 × Bool := if diskOkB l = true then (l, true) else ([], false)
theorem ev_okV {l : List S45} (hl : l.length ≤ 4611686018427387904) : Ev (fun k => (spec_DiskOk.f k l).bind fun t => if t = true then some (l, true) else some (([] : List S45), false)) (okV l) := by
 refine ev_bind (spec_DiskOk_f l hl) ?_
 unfold okV
 by_cases h : diskOkB l = true
 ·exact ev_eq (ev_if h (ev_some rfl)) (if_pos h).symm
 ·exact ev_eq (ev_else h (ev_some rfl)) (if_neg h).symm
theorem spec_DoAct_j0_true (l : List S45) (kd : Int) (nm tx tt : ByteArray) : Ev (fun k => spec_DoAct.j0 k true l kd nm tx tt) ([], false) := by
 refine ev_succ ?_
 simp only [spec_DoAct.j0]
 exact ev_if trivial (ev_some rfl)
theorem spec_DoAct_j2_true (l : List S45) (kd : Int) (nm tx tt a b : ByteArray) (c : Int) : Ev (fun k => spec_DoAct.j2 k true l kd nm tx tt a b c) ([], false) := by
 refine ev_succ ?_
 simp only [spec_DoAct.j2]
 exact ev_if trivial (ev_some rfl)
theorem act_no {kd : Int} {nm tx tt : ByteArray} {l : List S45} (h : (doV kd nm tx tt l).2 = false) : actV kd nm tx tt l = ([], false) := by
 unfold actV
 split
 ·rw [if_neg (by rw [h]; simp)]
 ·rfl
theorem act_is {kd : Int} {nm tx tt : ByteArray} {l l' : List S45} {b : Bool} (hok : diskOkB l = true) (h : doV kd nm tx tt l = (l', b)) (hb : diskOkB l' = b) : okV l' = actV kd nm tx tt l := by
 unfold actV okV
 rw [if_pos hok, h, hb]
 all_goals (cases b <;> rfl)
theorem spec_DoAct_j0_false (l : List S45) (kd : Int) (nm tx tt : ByteArray) (hok : diskOkB l = true) (htx : tx.size ≤ 1048576) (htt : kd ≠ 3 → tt.toList.isEmpty = true) (htxe : kd ≠ 1 → tx.toList.isEmpty = true) : Ev (fun k => spec_DoAct.j0 k false l kd nm tx tt) (actV kd nm tx tt l) := by
 obtain ⟨h30, hall, hs⟩ := (diskOk_iff l).1 hok
 have h1m : l.length ≤ 1048576 := by omega
 have hput : ∀ (m : List S45) (f : S45), m.length ≤ 1048576 → (putV m f).length ≤ 4611686018427387904 := fun m f hm => by have := putV_length m f; omega
 refine ev_succ ?_
 simp only [spec_DoAct.j0]
 refine ev_else (by simp) (ev_bind (spec_l03At_f l nm h1m) ?_)
 rw [atF_eq nm l 0 hs]
 by_cases hh : impl_Disk_place.has nm l = true
 ·have hlt := pl_lt hh
  rw [if_pos hh]
  refine ev_if (by omega) (ev_if (by omega) (ev_if (by omega) (ev_succ ?_)))
  simp only [spec_DoAct.j1]
  have e : rd_T45 l ((0 + impl_Disk_place.idx nm l : Nat) : Int) = l.getD (impl_Disk_place.idx nm l) z45 := by rw [Nat.zero_add]; rfl
  have hx := (diskOk_all l hok).2 _ (pl_mem hh)
  have hn := pl_name hh
  rw [e, hn]
  have hD : doV kd nm tx tt l = _ := rfl
  conv at hD => rhs; unfold doV
  rw [addF_has hh] at hD
  generalize l.getD (impl_Disk_place.idx nm l) z45 = x at hx hn hD ⊢
  obtain ⟨⟨n0, n1⟩, t0, k0, k1⟩ := hx
  rw [hn] at n0 n1
  by_cases hk1 : kd = 1
  ·rw [if_pos hk1] at hD
   refine ev_if hk1 (ev_if (by omega) (ev_bind (spec_l03Put_f l nm (x.f1 ++ tx) x.f2 h1m) ?_))
   rw [htt (by omega)] at hD
   refine ev_eq (ev_okV (hput _ _ h1m)) (act_is hok hD ?_)
   rw [diskOk_put hs hall, Bool.true_and]
  rw [if_neg hk1, if_pos hh, if_pos (htxe hk1)] at hD
  refine ev_else hk1 (ev_else (by omega) ?_)
  by_cases hk2 : kd = 2
  ·rw [if_neg (by omega), if_pos (htt (by omega)), if_pos hk2] at hD
   refine ev_if hk2 (ev_bind (spec_l03Put_f l nm x.f1 _ h1m) (ev_eq (ev_okV (hput _ _ h1m)) (act_is hok hD ?_)))
   rw [diskOk_put hs hall]
   have hlen : (putV l ⟨nm, x.f1, (x.f1.size : Int)⟩).length ≤ 30 := by
    rw [← putL_eq _ _ hs]
    unfold impl_Disk_put.putL
    rw [if_pos hh, List.length_set]
    exact h30
   rw [decide_eq_true hlen, Bool.and_true]
   simp only [fileOkB, Bool.and_eq_true, decide_eq_true_eq]
   exact ⟨⟨n0, n1⟩, t0, by omega, Int.le_refl _⟩
  refine ev_else hk2 ?_
  by_cases hk3 : kd = 3
  ·rw [if_pos hk3] at hD
   refine ev_if hk3 ?_
   by_cases hle : x.f2 < (x.f1.size : Int)
   ·refine ev_if hle (ev_eq (spec_DoAct_j2_true _ _ _ _ _ _ _ _) (act_no ?_).symm)
    rw [hD]
    split
    ·rfl
    ·rfl
   refine ev_else hle ?_
   by_cases hsm : tt = nm
   ·rw [if_pos hsm] at hD
    exact ev_if (by rw [hsm]) (ev_eq (spec_DoAct_j2_true _ _ _ _ _ _ _ _) (act_no (by rw [hD])).symm)
   rw [if_neg hsm, if_neg hle] at hD
   refine ev_else (fun h => hsm ((toList_iff _ _).1 h)) (ev_bind0 (spec_l03Name_f tt) ?_)
   by_cases htn : 1 ≤ tt.size ∧ tt.size ≤ 8
   ·rw [decide_eq_true htn]
    have hw := without_ok nm hok
    obtain ⟨w30, wall, ws⟩ := (diskOk_iff _).1 hw
    have hwl : (withoutV l nm).length ≤ 29 := by
     rw [← erase_eq nm l hs hh, List.length_eraseIdx, if_pos hlt]
     omega
    refine ev_succ ?_
    simp only [spec_DoAct.j2]
    refine ev_else (by simp) (ev_bind (spec_l03Without_f l nm h1m) (ev_bind (spec_l03Put_f (withoutV l nm) tt x.f1 x.f2 (by omega)) (ev_eq (ev_okV (hput _ _ (by omega))) (act_is hok hD ?_))))
    rw [diskOk_put ws wall, decide_eq_true (by have := putV_length (withoutV l nm) ⟨tt, x.f1, x.f2⟩; omega), Bool.and_true]
   ·rw [decide_eq_false htn]
    refine ev_eq (spec_DoAct_j2_true _ _ _ _ _ _ _ _) (act_no ?_).symm
    rw [hD]
    simp only [fileOkB]
    rw [decide_eq_false htn, Bool.false_and]
  rw [if_neg hk3, if_pos (htt hk3), if_neg hk2] at hD
  refine ev_else hk3 ?_
  by_cases hk4 : kd = 4
  ·rw [if_pos hk4] at hD
   have hw := without_ok nm hok
   exact ev_if hk4 (ev_bind (spec_l03Without_f l nm h1m) (ev_eq (ev_okV (by have := ((diskOk_iff _).1 hw).1; omega)) (act_is hok hD hw)))
  ·rw [if_neg hk4] at hD
   exact ev_else hk4 (ev_eq (ev_some rfl) (act_no (by rw [hD])).symm)
 ·have hhf := Bool.eq_false_iff.2 hh
  rw [if_neg hh]
  refine ev_else (by omega) (ev_succ ?_)
  simp only [spec_DoAct.j1]
  have hD : doV kd nm tx tt l = _ := rfl
  conv at hD => rhs; unfold doV
  rw [addF_new hhf] at hD
  by_cases hk1 : kd = 1
  ·rw [if_pos hk1] at hD
   refine ev_if hk1 (ev_if (by have : (⟨#[]⟩ : ByteArray).size = 0 := rfl; omega) (ev_bind (spec_l03Put_f l nm (⟨#[]⟩ ++ tx) 0 h1m) ?_))
   rw [htt (by omega)] at hD
   refine ev_eq (ev_okV (hput _ _ h1m)) (act_is hok hD ?_)
   rw [diskOk_put hs hall, Bool.true_and]
  ·rw [if_neg hk1, if_neg hh] at hD
   exact ev_else hk1 (ev_if (by omega) (ev_eq (ev_some rfl) (act_no (by rw [hD])).symm))
theorem spec_DoAct_f (l : List S45) (kd : Int) (nm tx tt : ByteArray) (hl : l.length ≤ 1048576) (htx : tx.size ≤ 1048576) : Ev (fun k => spec_DoAct.f k l kd nm tx tt) (actV kd nm tx tt l) := by
 unfold spec_DoAct.f
 refine ev_bind (spec_DiskOk_f l (by omega)) ?_
 by_cases hok : diskOkB l = true
 case neg =>
  refine ev_else hok (ev_eq (spec_DoAct_j0_true _ _ _ _ _) ?_)
  unfold actV
  rw [if_neg hok]
 refine ev_if hok (ev_bind0 (spec_l03Name_f nm) ?_)
 by_cases hn : 1 ≤ nm.size ∧ nm.size ≤ 8
 case neg =>
  refine ev_else (by rw [decide_eq_false hn]; simp) (ev_eq (spec_DoAct_j0_true _ _ _ _ _) (act_no ?_).symm)
  have hh : impl_Disk_place.has nm l = false := by
   cases hq : impl_Disk_place.has nm l with
   | false => rfl
   | true =>
    have := ((diskOk_all l hok).2 _ (pl_mem hq)).1
    rw [pl_name hq] at this
    exact absurd this hn
  unfold doV
  rw [hh, addF_new hh]
  split
  ·simp only [fileOkB]
   rw [decide_eq_false hn, Bool.false_and, Bool.and_false, Bool.false_and]
  ·rfl
 refine ev_if (decide_eq_true hn) ?_
 have emp : ∀ s : ByteArray, s.toList.isEmpty = true ↔ s.toList = ([] : List UInt8) := fun s => List.isEmpty_iff
 have bad : (kd ≠ 3 ∧ tt.toList.isEmpty = false) ∨ (kd ≠ 1 ∧ tx.toList.isEmpty = false) → (doV kd nm tx tt l).2 = false := by
  intro hb
  unfold doV
  by_cases hk1 : kd = 1
  ·rw [if_pos hk1]
   rcases hb with hb | hb
   ·rw [hb.2, Bool.false_and, Bool.false_and]
   ·exact absurd hk1 hb.1
  rw [if_neg hk1]
  split
  ·split
   ·rename_i h2
    rcases hb with hb | hb
    ·rw [if_neg hb.1, if_neg (by rw [hb.2]; simp)]
    ·rw [hb.2] at h2; cases h2
   ·rfl
  ·rfl
 by_cases hk3 : kd = 3
 ·refine ev_if hk3 (ev_else (by omega) ?_)
  cases htxe : tx.toList.isEmpty with
  | true =>
   have : (tx.toList != ([] : List UInt8)) = false := by rw [(emp tx).1 htxe]; rfl
   rw [this]
   exact spec_DoAct_j0_false l kd nm tx tt hok htx (fun h => absurd hk3 h) (fun _ => htxe)
  | false =>
   have : (tx.toList != ([] : List UInt8)) = true := by
    rw [bne_iff_ne]
    intro h
    rw [(emp tx).2 h] at htxe
    cases htxe
   rw [this]
   exact ev_eq (spec_DoAct_j0_true _ _ _ _ _) (act_no (bad (.inr ⟨by omega, htxe⟩))).symm
 refine ev_else hk3 ?_
 cases htte : tt.toList.isEmpty with
 | false =>
  exact ev_else (fun h => by rw [(emp tt).2 h] at htte; cases htte) (ev_eq (spec_DoAct_j0_true _ _ _ _ _) (act_no (bad (.inl ⟨hk3, htte⟩))).symm)
 | true =>
  refine ev_if ((emp tt).1 htte) ?_
  by_cases hk1 : kd = 1
  ·exact ev_if hk1 (spec_DoAct_j0_false l kd nm tx tt hok htx (fun _ => htte) (fun h => absurd hk1 h))
  refine ev_else hk1 ?_
  cases htxe : tx.toList.isEmpty with
  | true =>
   have : (tx.toList != ([] : List UInt8)) = false := by rw [(emp tx).1 htxe]; rfl
   rw [this]
   exact spec_DoAct_j0_false l kd nm tx tt hok htx (fun _ => htte) (fun _ => htxe)
  | false =>
   have : (tx.toList != ([] : List UInt8)) = true := by
    rw [bne_iff_ne]
    intro h
    rw [(emp tx).2 h] at htxe
    cases htxe
   rw [this]
   exact ev_eq (spec_DoAct_j0_true _ _ _ _ _) (act_no (bad (.inr ⟨hk1, htxe⟩))).symm
theorem do_ok {kd : Int} {nm tx tt : ByteArray} {l : List S45} (hok : diskOkB l = true) (h : (doV kd nm tx tt l).2 = true) : diskOkB (doV kd nm tx tt l).1 = true := by
 obtain ⟨h30, hall, hs⟩ := (diskOk_iff l).1 hok
 unfold doV at h ⊢
 by_cases hk1 : kd = 1
 ·rw [if_pos hk1] at h ⊢
  dsimp only at h ⊢
  rw [Bool.and_eq_true, Bool.and_eq_true] at h
  rw [diskOk_put hs hall, h.1.2, h.2]
  rfl
 rw [if_neg hk1] at h ⊢
 by_cases hh : impl_Disk_place.has nm l = true
 case neg => rw [if_neg hh] at h; cases h
 rw [if_pos hh] at h ⊢
 have hx := (diskOk_all l hok).2 _ (pl_mem hh)
 rw [pl_name hh] at hx
 have hlt := pl_lt hh
 by_cases htx : tx.toList.isEmpty = true
 case neg => rw [if_neg htx] at h; cases h
 rw [if_pos htx] at h ⊢
 by_cases hk3 : kd = 3
 ·rw [if_pos hk3] at h ⊢
  by_cases hsm : tt = nm
  ·rw [if_pos hsm] at h; cases h
  rw [if_neg hsm] at h ⊢
  by_cases hle : (l.getD (impl_Disk_place.idx nm l) z45).f2 < ((l.getD (impl_Disk_place.idx nm l) z45).f1.size : Int)
  ·rw [if_pos hle] at h; cases h
  rw [if_neg hle] at h ⊢
  have hw := without_ok nm hok
  obtain ⟨_, wall, ws⟩ := (diskOk_iff _).1 hw
  have hwl : (withoutV l nm).length ≤ 29 := by
   rw [← erase_eq nm l hs hh, List.length_eraseIdx, if_pos hlt]
   omega
  dsimp only at h ⊢
  rw [diskOk_put ws wall, h, Bool.true_and]
  exact decide_eq_true (Nat.le_trans (putV_length _ _) (by omega))
 rw [if_neg hk3] at h ⊢
 by_cases htt : tt.toList.isEmpty = true
 case neg => rw [if_neg htt] at h; cases h
 rw [if_pos htt] at h ⊢
 by_cases hk2 : kd = 2
 ·rw [if_pos hk2]
  dsimp only
  rw [diskOk_put hs hall]
  have hlen : (putV l ⟨nm, (l.getD (impl_Disk_place.idx nm l) z45).f1, ((l.getD (impl_Disk_place.idx nm l) z45).f1.size : Int)⟩).length ≤ 30 := by
   rw [← putL_eq _ _ hs]
   unfold impl_Disk_put.putL
   rw [if_pos hh, List.length_set]
   exact h30
  rw [decide_eq_true hlen, Bool.and_true]
  simp only [fileOkB, Bool.and_eq_true, decide_eq_true_eq]
  exact ⟨hx.1, hx.2.1, by omega, Int.le_refl _⟩
 rw [if_neg hk2] at h ⊢
 by_cases hk4 : kd = 4
 ·rw [if_pos hk4]
  exact without_ok nm hok
 ·rw [if_neg hk4] at h; cases h
def actsV : List S55 → Nat → List S45 → List S45 × Int
 | [], n, l => (l, (n : Int))
 | a :: q, n, l => if (doV a.f0 a.f1 a.f2 a.f3 l).2 = true then actsV q (n + 1) (doV a.f0 a.f1 a.f2 a.f3 l).1 else (l, (n : Int))
def doActsV (l : List S45) (q : List S55) : List S45 × Int := if diskOkB l = true then actsV q 0 l else (l, 0)
theorem goF_eq : ∀ (q : List S55) (n : Nat) (l : List S45), diskOkB l = true → (∀ a ∈ q, a.f2.size ≤ 1048576) → impl_DoActs.goF q n l = some (actsV q n l) := by
 intro q
 induction q with
 | nil => intro n l _ _; rfl
 | cons a q ih =>
  intro n l hok hq
  rw [impl_DoActs.goF, actsV, doF_eq _ _ _ _ l hok (hq a (List.mem_cons_self ..)), Option.bind_some]
  by_cases h : (doV a.f0 a.f1 a.f2 a.f3 l).2 = true
  ·rw [if_pos h, if_pos h]
   exact ih _ _ (do_ok hok h) (fun b hb => hq b (List.mem_cons_of_mem _ hb))
  ·rw [if_neg h, if_neg h]
theorem impl_DoActs_f (l : List S45) (q : List S55) (hl : l.length ≤ 1048576) (hql : q.length ≤ 1048576) (hq : ∀ a ∈ q, a.f2.size ≤ 1048576) : Ev (fun k => impl_DoActs.f k l q) (doActsV l q) := by
 unfold impl_DoActs.f doActsV
 refine ev_if ⟨by omega, by omega⟩ (ev_bind (impl_DiskOk_f l (by omega)) ?_)
 by_cases h : diskOkB l = true
 ·exact ev_eq (ev_if h (ev_some (goF_eq q 0 l h hq))) (if_pos h).symm
 ·exact ev_eq (ev_else h (ev_some rfl)) (if_neg h).symm
theorem spec_DoActs_l0 (q : List S55) (hql : q.length ≤ 1048576) (hq : ∀ a ∈ q, a.f2.size ≤ 1048576) : ∀ (d i : Nat) (l : List S45), i + d = q.length → diskOkB l = true →
 Ev (fun k => spec_DoActs.l0 k q (i : Int) l) (actsV (q.drop i) i l) := by
 intro d
 induction d with
 | zero =>
  intro i l hi hok
  refine ev_succ ?_
  simp only [spec_DoActs.l0]
  refine ev_else (by omega) (ev_some ?_)
  rw [drop_end q i (by omega), actsV]
  have : (q.length : Int) = (i : Int) := by omega
  rw [this]
 | succ d ih =>
  intro i l hi hok
  have hlt : i < q.length := by omega
  refine ev_succ ?_
  simp only [spec_DoActs.l0]
  have e : rd_T55 q (i : Int) = q.getD i z55 := rfl
  have hm : q.getD i z55 ∈ q := by
   rw [List.getD_eq_getElem?_getD, List.getElem?_eq_getElem hlt]
   exact List.getElem_mem _
  have ha := hq _ hm
  have h30 := ((diskOk_iff l).1 hok).1
  rw [drop_getD q z55 i hlt, actsV, e, succ_i i (by omega)]
  generalize q.getD i z55 = a at ha ⊢
  refine ev_if (by omega) (ev_if (by omega) (ev_bind (spec_DoAct_f l a.f0 a.f1 a.f2 a.f3 (by omega) ha) ?_))
  unfold actV
  rw [if_pos hok]
  by_cases h : (doV a.f0 a.f1 a.f2 a.f3 l).2 = true
  ·rw [if_pos h, if_pos h]
   exact ev_if rfl (ih (i + 1) _ (by omega) (do_ok hok h))
  ·rw [if_neg h, if_neg h]
   exact ev_else (by simp) (ev_some rfl)
theorem spec_DoActs_f (l : List S45) (q : List S55) (hl : l.length ≤ 1048576) (hql : q.length ≤ 1048576) (hq : ∀ a ∈ q, a.f2.size ≤ 1048576) : Ev (fun k => spec_DoActs.f k l q) (doActsV l q) := by
 unfold spec_DoActs.f doActsV
 refine ev_bind0 rfl (ev_if (by show (0 : Nat) + l.length < _; omega) ?_)
 rw [List.nil_append]
 by_cases hok : diskOkB l = true
 ·rw [if_pos hok]
  have := spec_DoActs_l0 q hql hq q.length 0 l (by omega) hok
  rw [List.drop_zero] at this
  exact this
 ·rw [if_neg hok]
  refine ev_succ ?_
  simp only [spec_DoActs.l0]
  by_cases h0 : (0 : Int) < (q.length : Int)
  ·have hm : q.getD 0 z55 ∈ q := by
    rw [List.getD_eq_getElem?_getD, List.getElem?_eq_getElem (by omega)]
    exact List.getElem_mem _
   have ha := hq _ hm
   have e : rd_T55 q 0 = q.getD 0 z55 := rfl
   rw [e]
   generalize q.getD 0 z55 = a at ha ⊢
   refine ev_if h0 (ev_if (by omega) (ev_bind (spec_DoAct_f l a.f0 a.f1 a.f2 a.f3 hl ha) ?_))
   unfold actV
   rw [if_neg hok]
   exact ev_else (by simp) (ev_some rfl)
  ·refine ev_else h0 (ev_some ?_)
   have : (q.length : Int) = 0 := by omega
   rw [this]
theorem actsV_len : ∀ (q : List S55) (n : Nat) (l : List S45), diskOkB l = true → (actsV q n l).1.length ≤ 31 := by
 intro q
 induction q with
 | nil => intro n l h; have := ((diskOk_iff l).1 h).1; show l.length ≤ 31; omega
 | cons a q ih =>
  intro n l h
  rw [actsV]
  split
  ·rename_i h2
   exact ih _ _ (do_ok h h2)
  ·have := ((diskOk_iff l).1 h).1; show l.length ≤ 31; omega
theorem doActs_length (l : List S45) (q : List S55) (hl : l.length ≤ 1048576) : (doActsV l q).1.length ≤ 1048576 := by
 unfold doActsV
 split
 ·rename_i h
  have := actsV_len q 0 l h
  omega
 ·exact hl
def lostV (q : List Int) (l : List S45) : List S45 × Bool := if diskOkB l = true then (impl_Disk_lose.lostTo q l l.length, true) else ([], false)
theorem lostTo_take (q : List Int) (l : List S45) (i : Nat) (h : i < l.length) : (impl_Disk_lose.lostTo q l (i + 1)).take (i + 1) = (impl_Disk_lose.lostTo q l i).take i ++ [impl_Disk_lose.lx q i (rd_T45 l (i : Int))] := by
 have hl := impl_Disk_lose.lostTo_length q l i
 rw [impl_Disk_lose.lostTo, List.take_succ_eq_append_getElem (by rw [List.length_set]; omega), List.getElem_set_self, List.take_set_of_le (Nat.le_refl _)]
 rfl
theorem extract_all (t : ByteArray) (n : Int) (h : n.toNat = t.size) : t.extract 0 n.toNat = t := by
 rw [h]
 exact ByteArray.extract_zero_size
theorem spec_LoseDisk_l0 (l : List S45) (q : List Int) (hl : l.length ≤ 1048576) (hk : ∀ x ∈ l, 0 ≤ x.f2 ∧ x.f2 ≤ (x.f1.size : Int)) : ∀ (d i : Nat), i + d = l.length →
 Ev (fun k => spec_LoseDisk.l0 k q (i : Int) l ((impl_Disk_lose.lostTo q l i).take i)) (impl_Disk_lose.lostTo q l l.length, true) := by
 intro d
 induction d with
 | zero =>
  intro i hi
  refine ev_succ ?_
  simp only [spec_LoseDisk.l0]
  refine ev_else (by omega) (ev_some ?_)
  obtain rfl : i = l.length := by omega
  rw [List.take_of_length_le (by rw [impl_Disk_lose.lostTo_length]; exact Nat.le_refl _)]
 | succ d ih =>
  intro i hi
  have hx := hk (rd_T45 l (i : Int)) (by
   have : i < l.length := by omega
   show l.getD i z45 ∈ l
   rw [List.getD_eq_getElem?_getD, List.getElem?_eq_getElem this]
   exact List.getElem_mem _)
  have hlen : ((impl_Disk_lose.lostTo q l i).take i).length < 3518437208883 := by rw [List.length_take, impl_Disk_lose.lostTo_length]; omega
  have step := ih (i + 1) (by omega)
  rw [lostTo_take q l i (by omega)] at step
  rw [← succ_i i (by omega)] at step
  have go : ∀ n0 : Int, n0 = (if i < q.length then q.getD i 0 else 0) → Ev (fun k => spec_LoseDisk.j1 k q (i : Int) n0 l ((impl_Disk_lose.lostTo q l i).take i) (rd_T45 l (i : Int)).f0 (rd_T45 l (i : Int)).f1 (rd_T45 l (i : Int)).f2) (impl_Disk_lose.lostTo q l l.length, true) := by
   intro n0 hn0
   generalize rd_T45 l (i : Int) = x at hx step ⊢
   obtain ⟨hx0, hx1⟩ := hx
   have hz : impl_Disk_lose.lz q i x = (if (if n0 > (x.f1.size : Int) then (x.f1.size : Int) else n0) < x.f2 then x.f2 else (if n0 > (x.f1.size : Int) then (x.f1.size : Int) else n0)) := by
    unfold impl_Disk_lose.lz
    subst hn0
    by_cases hq : i < q.length
    ·simp only [if_pos hq]
     generalize q.getD i 0 = y
     repeat' split
     all_goals omega
    ·simp only [if_neg hq]
     repeat' split
     all_goals omega
   simp only [impl_Disk_lose.lx] at step
   refine ev_succ ?_
   simp only [spec_LoseDisk.j1]
   by_cases h1 : n0 > (x.f1.size : Int)
   ·simp only [if_pos h1] at hz
    refine ev_if h1 ?_
    by_cases h2 : (x.f1.size : Int) < x.f2
    ·omega
    ·rw [if_neg h2] at hz
     rw [hz, extract_all _ _ (by omega)] at step
     exact ev_else h2 (ev_if (by omega) (ev_if (by omega) (ev_if hlen step)))
   ·simp only [if_neg h1] at hz
    refine ev_else h1 ?_
    by_cases h2 : n0 < x.f2
    ·rw [if_pos h2] at hz
     rw [hz] at step
     exact ev_if h2 (ev_if (by omega) (ev_if (by omega) (ev_if hlen step)))
    ·rw [if_neg h2] at hz
     rw [hz] at step
     exact ev_else h2 (ev_if (by omega) (ev_if (by omega) (ev_if hlen step)))
  refine ev_succ ?_
  simp only [spec_LoseDisk.l0]
  refine ev_if (by omega) (ev_if (by omega) ?_)
  by_cases hq : i < q.length
  ·exact ev_if (by omega) (go _ (by rw [if_pos hq]; rfl))
  ·exact ev_else (by omega) (go _ (by rw [if_neg hq]))
theorem spec_LoseDisk_f (l : List S45) (q : List Int) (hl : l.length ≤ 1048576) : Ev (fun k => spec_LoseDisk.f k l q) (lostV q l) := by
 unfold spec_LoseDisk.f lostV
 refine ev_bind (spec_DiskOk_f l (by omega)) ?_
 by_cases h : diskOkB l = true
 ·obtain ⟨h1, h2⟩ := diskOk_all l h
  have := spec_LoseDisk_l0 l q hl (fun x hx => (h2 x hx).2.2) l.length 0 (by omega)
  exact ev_eq (ev_if h this) (if_pos h).symm
 ·exact ev_eq (ev_else h (ev_some rfl)) (if_neg h).symm
theorem actsV_ok : ∀ (q : List S55) (n : Nat) (l : List S45), diskOkB l = true → diskOkB (actsV q n l).1 = true := by
 intro q
 induction q with
 | nil => intro n l h; exact h
 | cons a q ih =>
  intro n l h
  rw [actsV]
  split
  ·rename_i h2
   exact ih _ _ (do_ok h h2)
  ·exact h
theorem actsV_n : ∀ (q : List S55) (n : Nat) (l : List S45), (n : Int) ≤ (actsV q n l).2 ∧ (actsV q n l).2 ≤ ((n + q.length : Nat) : Int) := by
 intro q
 induction q with
 | nil => intro n l; exact ⟨Int.le_refl _, by show (n : Int) ≤ ((n + 0 : Nat) : Int); omega⟩
 | cons a q ih =>
  intro n l
  rw [actsV, List.length_cons]
  split
  ·have := ih (n + 1) (doV a.f0 a.f1 a.f2 a.f3 l).1
   omega
  ·show (n : Int) ≤ (n : Int) ∧ (n : Int) ≤ _
   omega
theorem doActs_n (l : List S45) (q : List S55) : 0 ≤ (doActsV l q).2 ∧ (doActsV l q).2 ≤ (q.length : Int) := by
 unfold doActsV
 split
 ·have := actsV_n q 0 l
  omega
 ·show (0 : Int) ≤ 0 ∧ (0 : Int) ≤ _
  omega
def cutV (l : List S45) (q : List S55) (a : Int) (left : List Int) : List S45 × Bool := if 0 ≤ a ∧ a ≤ (q.length : Int) ∧ (doActsV l (q.take a.toNat)).2 = a then lostV left (doActsV l (q.take a.toNat)).1 else ([], false)
theorem cut_no {l : List S45} {q : List S55} {a : Int} {left : List Int} (h : ¬ (0 ≤ a ∧ a ≤ (q.length : Int) ∧ (doActsV l (q.take a.toNat)).2 = a)) : cutV l q a left = ([], false) := if_neg h
theorem cut_bad {l : List S45} {q : List S55} {a : Int} {left : List Int} (h : ¬ diskOkB l = true) : cutV l q a left = ([], false) := by
 unfold cutV
 split
 ·unfold doActsV lostV
  rw [if_neg h]
  exact if_neg h
 ·rfl
theorem impl_CutActs_f (l : List S45) (q : List S55) (a : Int) (left : List Int) (hl : l.length ≤ 1048576) (hql : q.length ≤ 1048576) (hq : ∀ b ∈ q, b.f2.size ≤ 1048576) : Ev (fun k => impl_CutActs.f k l q a left) (cutV l q a left) := by
 unfold impl_CutActs.f
 refine ev_bind0 (impl_inRange_f a 0 (q.length : Int)) ?_
 by_cases h0 : 0 ≤ a ∧ a ≤ (q.length : Int)
 case neg =>
  refine ev_else (by simpa using h0) (ev_some ?_)
  rw [cut_no (fun h => h0 ⟨h.1, h.2.1⟩)]
 refine ev_if (by simpa using h0) (ev_bind (impl_DiskOk_f l (by omega)) ?_)
 by_cases h : diskOkB l = true
 case neg =>
  refine ev_else h (ev_some ?_)
  rw [cut_bad h]
 have hm : ∀ b ∈ q.take a.toNat, b.f2.size ≤ 1048576 := fun b hb => hq b (List.mem_of_mem_take hb)
 refine ev_if h (ev_bind (impl_DoActs_f l (q.take a.toNat) hl (by rw [List.length_take]; omega) hm) ?_)
 have hok : diskOkB (doActsV l (q.take a.toNat)).1 = true := by
  unfold doActsV
  rw [if_pos h]
  exact actsV_ok _ _ _ h
 by_cases hn : (doActsV l (q.take a.toNat)).2 = a
 ·obtain ⟨h1, h2⟩ := diskOk_all _ hok
  refine ev_if hn (ev_if ⟨by omega, fun x hx => (h2 x hx).2.2⟩ (ev_some ?_))
  unfold cutV lostV
  rw [if_pos ⟨h0.1, h0.2, hn⟩, if_pos hok]
 ·refine ev_else hn (ev_some ?_)
  rw [cut_no (fun h => hn h.2.2)]
theorem spec_CutActs_f (l : List S45) (q : List S55) (a : Int) (left : List Int) (hl : l.length ≤ 1048576) (hql : q.length ≤ 1048576) (hq : ∀ b ∈ q, b.f2.size ≤ 1048576) : Ev (fun k => spec_CutActs.f k l q a left) (cutV l q a left) := by
 unfold spec_CutActs.f
 refine ev_bind0 (spec_l01In_f a 0 (q.length : Int)) ?_
 by_cases h0 : 0 ≤ a ∧ a ≤ (q.length : Int)
 case neg =>
  refine ev_else (by simpa using h0) (ev_some ?_)
  rw [cut_no (fun h => h0 ⟨h.1, h.2.1⟩)]
 refine ev_if (by simpa using h0) (ev_if h0.1 (ev_if h0.2 ?_))
 have hm : ∀ b ∈ q.take a.toNat, b.f2.size ≤ 1048576 := fun b hb => hq b (List.mem_of_mem_take hb)
 have ht : (q.take a.toNat).length = a.toNat := by rw [List.length_take]; omega
 have hlen := doActs_length l (q.take a.toNat) hl
 have hn := doActs_n l (q.take a.toNat)
 refine ev_bind (spec_DoActs_f l (q.take a.toNat) hl (by omega) hm) ?_
 by_cases hlt : (doActsV l (q.take a.toNat)).2 < a
 ·refine ev_if hlt (ev_some ?_)
  rw [cut_no (fun h => by omega)]
 ·refine ev_else hlt (ev_bind (spec_LoseDisk_f _ left hlen) (ev_some ?_))
  unfold cutV
  rw [if_pos ⟨h0.1, h0.2, by omega⟩]
theorem copy_map {α β : Type} (g : α → β) (l : List α) (d : α) (z : β) (i : Nat) (h : i < l.length) :
 ((l.take i).map g ++ List.replicate (l.length - i) z).set i (g (l.getD i d)) = (l.take (i + 1)).map g ++ List.replicate (l.length - (i + 1)) z := by
 have h1 : ((l.take i).map g).length = i := by rw [List.length_map, List.length_take]; omega
 rw [List.set_append_right _ _ (by omega), h1, Nat.sub_self]
 have h2 : l.length - i = (l.length - (i + 1)) + 1 := by omega
 rw [h2, List.replicate_succ, List.set_cons_zero, List.take_succ_eq_append_getElem h, List.map_append, List.append_assoc]
 congr 1
 rw [List.getD_eq_getElem?_getD, List.getElem?_eq_getElem h]
 rfl
theorem copy_map_len {α β : Type} (g : α → β) (l : List α) (z : β) (i : Nat) (h : i ≤ l.length) : ((l.take i).map g ++ List.replicate (l.length - i) z).length = l.length := by
 rw [List.length_append, List.length_map, List.length_take, List.length_replicate]; omega
def convFile (x : S135) : S45 := ⟨x.f0, x.f1, x.f2⟩
theorem laws_toFileS_l0 (l : List S135) (hl : l.length ≤ 1048576) : ∀ (d i : Nat), i + d = l.length →
 Ev (fun k => laws_toFileS.l0 k l ((l.take i).map convFile ++ List.replicate (l.length - i) z45) (i : Int)) (l.map convFile) := by
 intro d
 induction d with
 | zero =>
  intro i hi
  refine ev_succ ?_
  simp only [laws_toFileS.l0]
  refine ev_else (by omega) (ev_some ?_)
  have e : i = l.length := by omega
  subst e
  simp
 | succ d ih =>
  intro i hi
  refine ev_succ ?_
  simp only [laws_toFileS.l0, laws_toFile.f, Option.bind_some]
  refine ev_if (by omega) (ev_if (by omega) (ev_if (by rw [copy_map_len _ _ _ _ (by omega)]; omega) ?_))
  have hs : ((l.take i).map convFile ++ List.replicate (l.length - i) z45).set ((i : Int)).toNat (⟨(rd_T135 l (i : Int)).f0, (rd_T135 l (i : Int)).f1, (rd_T135 l (i : Int)).f2⟩ : S45) = (l.take (i + 1)).map convFile ++ List.replicate (l.length - (i + 1)) z45 := copy_map convFile l z135 z45 i (by omega)
  rw [hs, succ_i i (by omega)]
  exact ih (i + 1) (by omega)
theorem laws_toFileS_f (l : List S135) (hl : l.length ≤ 1048576) : Ev (fun k => laws_toFileS.f k l) (l.map convFile) := by
 unfold laws_toFileS.f
 refine ev_if (by omega) (ev_if (by rw [toNat_nat]; omega) ?_)
 have := laws_toFileS_l0 l hl l.length 0 (by omega)
 simpa using this
theorem laws_eqFile_refl (a0 : ByteArray) (a1 : ByteArray) (a2 : Int) : laws_eqFile.f a0 a1 a2 a0 a1 a2 = some true := by
 unfold laws_eqFile.f
 simp
theorem laws_eqFileS_l0 (l : List S45) (hl : l.length ≤ 4611686018427387904) : ∀ (d i : Nat), i + d = l.length →
 Ev (fun k => laws_eqFileS.l0 k l l (i : Int)) true := by
 intro d
 induction d with
 | zero =>
  intro i hi
  refine ev_succ ?_
  simp only [laws_eqFileS.l0]
  exact ev_else (by omega) (ev_some rfl)
 | succ d ih =>
  intro i hi
  refine ev_succ ?_
  simp only [laws_eqFileS.l0]
  refine ev_if (by omega) (ev_if (by omega) (ev_if (by omega) (ev_bind0 (laws_eqFile_refl _ _ _) (ev_if rfl ?_))))
  rw [succ_i i (by omega)]
  exact ih (i + 1) (by omega)
theorem laws_eqFileS_f (l : List S45) (hl : l.length ≤ 4611686018427387904) : Ev (fun k => laws_eqFileS.f k l l) true := by
 unfold laws_eqFileS.f
 exact ev_if rfl (laws_eqFileS_l0 l hl l.length 0 (by omega))
theorem le_sum_mem : ∀ (l : List Nat) (x : Nat), x ∈ l → x ≤ l.sum
 | [], _, h => by cases h
 | y :: l, x, h => by
  rw [List.sum_cons]
  rcases List.mem_cons.1 h with rfl | h
  ·omega
  ·have := le_sum_mem l x h
   omega
theorem laws_szFile_f (a0 : ByteArray) (a1 : ByteArray) (a2 : Int) (left : Int) (e0 : a0.size ≤ maxLen) (e1 : a1.size ≤ maxLen) (h0 : 0 ≤ left) (h1 : left ≤ 1048576) :
 ∃ r, laws_szFile.f a0 a1 a2 left = some r ∧ (r < 0 ∨ 0 ≤ r ∧ r + ((a0.size : Int) + (a1.size : Int)) = left) := by
 unfold maxLen at e0 e1
 unfold laws_szFile.f
 rw [wid (x := left - (a0.size : Int)) (by omega) (by omega)]
 by_cases c0 : left - (a0.size : Int) < 0
 ·exact ⟨-1, by rw [if_pos c0], .inl (by omega)⟩
 rw [if_neg c0]
 rw [wid (x := left - (a0.size : Int) - (a1.size : Int)) (by omega) (by omega)]
 by_cases c1 : left - (a0.size : Int) - (a1.size : Int) < 0
 ·exact ⟨-1, by rw [if_pos c1], .inl (by omega)⟩
 rw [if_neg c1]
 exact ⟨_, rfl, .inr ⟨by omega, by omega⟩⟩
def wtFile (l : List S135) : Nat := (l.map fun x => x.f0.size + x.f1.size).sum
theorem wtFile_drop (l : List S135) (i : Nat) (h : i < l.length) : wtFile (l.drop i) = ((rd_T135 l (i : Int)).f0.size + (rd_T135 l (i : Int)).f1.size) + wtFile (l.drop (i + 1)) := by
 rw [drop_getD l z135 i h]
 unfold wtFile
 rw [List.map_cons, List.sum_cons]
 rfl
theorem laws_szFileS_l0 (l : List S135) (hq : ∀ x ∈ l, (x.f0.size ≤ maxLen) ∧ (x.f1.size ≤ maxLen) ∧ (Lit.int .i64 x.f2).wf = true) : ∀ (d i : Nat) (left : Int), i + d = l.length → l.length ≤ 1048576 → 0 ≤ left → left ≤ 1048576 →
 ∃ r, Ev (fun k => laws_szFileS.l0 k l left (i : Int)) r ∧ (r < 0 ∨ 0 ≤ r ∧ r + (wtFile (l.drop i) : Int) = left) := by
 intro d
 induction d with
 | zero =>
  intro i left hi hl h0 h1
  refine ⟨left, ev_succ ?_, .inr ⟨h0, ?_⟩⟩
  ·simp only [laws_szFileS.l0]
   exact ev_else (by omega) (ev_some rfl)
  ·rw [drop_end l i (by omega)]
   show left + ((0 : Nat) : Int) = left
   omega
 | succ d ih =>
  intro i left hi hl h0 h1
  have hx := hq (rd_T135 l (i : Int)) (by
   show l.getD i z135 ∈ l
   rw [List.getD_eq_getElem?_getD, List.getElem?_eq_getElem (by omega)]
   exact List.getElem_mem _)
  obtain ⟨r, hr, hc⟩ := laws_szFile_f (rd_T135 l (i : Int)).f0 (rd_T135 l (i : Int)).f1 (rd_T135 l (i : Int)).f2 left (hx.1) (hx.2.1) h0 h1
  rw [wtFile_drop l i (by omega)]
  rcases hc with hn | ⟨hp, hs⟩
  ·refine ⟨-1, ev_succ ?_, .inl (by omega)⟩
   simp only [laws_szFileS.l0]
   exact ev_if (by omega) (ev_if (by omega) (ev_bind0 hr (ev_if hn (ev_some rfl))))
  ·obtain ⟨r', hr', hc'⟩ := ih (i + 1) r (by omega) hl hp (by omega)
   refine ⟨r', ev_succ ?_, ?_⟩
   ·simp only [laws_szFileS.l0]
    rw [succ_i i (by omega)]
    exact ev_if (by omega) (ev_if (by omega) (ev_bind0 hr (ev_else (by omega) hr')))
   ·rcases hc' with h | ⟨h, h'⟩
    ·exact .inl h
    ·exact .inr ⟨h, by omega⟩
theorem laws_szFileS_f (l : List S135) (hl : l.length ≤ maxLen ∧ ∀ x ∈ l, (x.f0.size ≤ maxLen) ∧ (x.f1.size ≤ maxLen) ∧ (Lit.int .i64 x.f2).wf = true) (left : Int) (h0 : 0 ≤ left) (h1 : left ≤ 1048576) :
 ∃ r, Ev (fun k => laws_szFileS.f k l left) r ∧ (r < 0 ∨ 0 ≤ r ∧ r + (l.length : Int) + (wtFile l : Int) = left) := by
 obtain ⟨hl, hq⟩ := hl
 unfold maxLen at hl
 unfold laws_szFileS.f
 rw [wid (x := left - (l.length : Int)) (by omega) (by omega)]
 by_cases h : left - (l.length : Int) < 0
 ·exact ⟨-1, ev_if h (ev_some rfl), .inl (by omega)⟩
 ·obtain ⟨r, hr, hc⟩ := laws_szFileS_l0 l hq l.length 0 (left - (l.length : Int)) (by omega) (by omega) (by omega) (by omega)
  refine ⟨r, ev_else h hr, ?_⟩
  rcases hc with h' | ⟨h', h''⟩
  ·exact .inl h'
  ·refine .inr ⟨h', ?_⟩
   rw [List.drop_zero] at h''
   omega
theorem laws_toDisk_f (l : List S135) (hl : l.length ≤ 1048576) : Ev (fun k => laws_toDisk.f k l) (l.map convFile) := by
 unfold laws_toDisk.f
 exact ev_bind (laws_toFileS_f l hl) (ev_some rfl)
theorem laws_eqDisk_f (l : List S45) (hl : l.length ≤ 4611686018427387904) : Ev (fun k => laws_eqDisk.f k l l) true := by
 unfold laws_eqDisk.f
 exact ev_bind (laws_eqFileS_f l hl) (ev_if rfl (ev_some rfl))
theorem laws_szDisk_f (l : List S135) (hl : l.length ≤ maxLen ∧ ∀ x ∈ l, (x.f0.size ≤ maxLen) ∧ (x.f1.size ≤ maxLen) ∧ (Lit.int .i64 x.f2).wf = true) (left : Int) (h0 : 0 ≤ left) (h1 : left ≤ 1048576) :
 ∃ r, Ev (fun k => laws_szDisk.f k l left) r ∧ (r < 0 ∨ 0 ≤ r ∧ r + (l.length : Int) + (wtFile l : Int) = left) := by
 obtain ⟨r, hr, hc⟩ := laws_szFileS_f l hl left h0 h1
 unfold laws_szDisk.f
 by_cases h : r < 0
 ·exact ⟨-1, ev_bind hr (ev_if h (ev_some rfl)), .inl (by omega)⟩
 ·exact ⟨r, ev_bind hr (ev_else h (ev_some rfl)), hc⟩
theorem laws_markText_l0 : ∀ (n : Nat) (s : ByteArray), s.size + n ≤ 9223372036854775806 → ∃ r, Ev (fun k => laws_markText.l0 k (n : Int) s) r := by
 intro n
 induction n using Nat.strongRecOn with
 | ind n ih =>
  intro s hs
  by_cases h : 0 < n
  ·have e : wrap64 (Int.tdiv (n : Int) 10) = ((n / 10 : Nat) : Int) := by rw [tdivp (Int.natCast_nonneg _)]; exact wrap_to (by omega) (by omega) (by omega)
   have hsz : ∀ z : Int, (strOfNums [z]).size = 1 := fun z => rfl
   obtain ⟨r, hr⟩ := ih (n / 10) (by omega) (strOfNums [(wrap64 (48 + (Int.tmod (n : Int) 10))) % 256] ++ s) (by rw [ByteArray.size_append, hsz]; omega)
   refine ⟨r, ev_succ ?_⟩
   simp only [laws_markText.l0]
   refine ev_if (by omega) (ev_bind0 rfl (ev_if (by rw [hsz]; omega) ?_))
   rw [e]
   exact hr
  ·refine ⟨(⟨#[109]⟩ : ByteArray) ++ s, ev_succ ?_⟩
   simp only [laws_markText.l0]
   exact ev_else (by omega) (ev_if (by omega) (ev_some rfl))
theorem laws_markText_f (m : Int) (h0 : 0 ≤ m) (h1 : m ≤ 4611686018427387904) : ∃ r, Ev (fun k => laws_markText.f k m) r := by
 unfold laws_markText.f
 by_cases h : m ≤ 0
 ·exact ⟨_, ev_if h (ev_some rfl)⟩
 ·obtain ⟨n, rfl⟩ := Int.eq_ofNat_of_zero_le h0
  obtain ⟨r, hr⟩ := laws_markText_l0 n ⟨#[]⟩ (by
   have : (⟨#[]⟩ : ByteArray).size = 0 := rfl
   omega)
  exact ⟨r, ev_else h hr⟩
/-- the text of a mark -/
noncomputable def mtext (m : Int) : ByteArray := if h : 0 ≤ m ∧ m ≤ 4611686018427387904 then Classical.choose (laws_markText_f m h.1 h.2) else ⟨#[]⟩
theorem mtext_ev (m : Int) (h0 : 0 ≤ m) (h1 : m ≤ 4611686018427387904) : Ev (fun k => laws_markText.f k m) (mtext m) := by
 unfold mtext
 rw [dif_pos ⟨h0, h1⟩]
 exact Classical.choose_spec (laws_markText_f m h0 h1)
noncomputable def mkFile (m : Int) : S45 := ⟨mtext m, mtext (m + 1), (m + 2)⟩
noncomputable def mkFileL (m : Int) (n : Nat) : List S45 := (List.range n).map fun (j : Nat) => mkFile (m + 3 * (j : Int))
theorem mkFileL_succ (m : Int) (n : Nat) : mkFileL m (n + 1) = mkFile m :: mkFileL (m + 3) n := by
 unfold mkFileL
 rw [List.range_succ_eq_map, List.map_cons, List.map_map]
 have e0 : m + 3 * ((0 : Nat) : Int) = m := by omega
 rw [e0]
 congr 1
 apply List.map_congr_left
 intro j _
 show mkFile (m + 3 * ((j + 1 : Nat) : Int)) = mkFile (m + 3 + 3 * (j : Int))
 congr 1
 omega
theorem mkFileL_length (m : Int) (n : Nat) : (mkFileL m n).length = n := by simp [mkFileL]
theorem rd_T45_set (l : List S45) (i : Nat) (v : S45) (h : i < l.length) : rd_T45 (l.set i v) (i : Int) = v := by
 show (l.set i v).getD i z45 = v
 rw [List.getD_eq_getElem?_getD, List.getElem?_set_self h]
 rfl
theorem laws_markFileS_l0 : ∀ (d i : Nat) (l : List S45) (m : Int), i + d = l.length → l.length ≤ 1099511627776 → 0 ≤ m → m + 3 * (d : Int) ≤ 4611686018427387904 →
 Ev (fun k => laws_markFileS.l0 k l m (i : Int)) (m + 3 * (d : Int), l.take i ++ mkFileL m d) := by
 intro d
 induction d with
 | zero =>
  intro i l m hi hl h0 h1
  refine ev_succ ?_
  simp only [laws_markFileS.l0]
  refine ev_else (by omega) (ev_some ?_)
  have e : i = l.length := by omega
  subst e
  simp [mkFileL]
 | succ d ih =>
  intro i l m hi hl h0 h1
  refine ev_succ ?_
  simp only [laws_markFileS.l0]
  obtain ⟨w1, w2, w3⟩ : wrap64 (m + 1) = m + 1 ∧ wrap64 (m + 1 + 1) = m + 2 ∧ wrap64 (m + 2 + 1) = m + 3 := by
   refine ⟨?_, ?_, ?_⟩ <;> exact wrap_to (by omega) (by omega) (by omega)
  rw [w1, w2, w3]
  clear w1 w2 w3
  refine ev_if (by omega) (ev_bind (mtext_ev m (by omega) (by omega)) (ev_if (by omega) (ev_bind0 rfl (ev_bind (mtext_ev (m + 1) (by omega) (by omega)) (ev_bind0 rfl ?_)))))
  have hil : i < l.length := by omega
  rw [succ_i i (by omega)]
  simp only [toNat_nat]
  have hlen : ∀ v : S45, i < (l.set i v).length := fun v => by rw [List.length_set]; exact hil
  have key := ih (i + 1) (l.set i (mkFile m)) (m + 3) (by rw [List.length_set]; omega) (by rw [List.length_set]; omega) (by omega) (by omega)
  have e1 : (l.set i (mkFile m)).take (i + 1) ++ mkFileL (m + 3) d = l.take i ++ mkFileL m (d + 1) := by
   rw [mkFileL_succ, List.take_succ_eq_append_getElem (hlen _), List.take_set_of_le (Nat.le_refl i), List.getElem_set_self, List.append_assoc]
   rfl
  have e2 : m + 3 + 3 * (d : Int) = m + 3 * ((d + 1 : Nat) : Int) := by omega
  rw [e1, e2] at key
  have fin : ∀ v : S45, v = mkFile m → Ev (fun k => laws_markFileS.l0 k (l.set i v) (m + 3) ((i + 1 : Nat) : Int)) (m + 3 * ((d + 1 : Nat) : Int), l.take i ++ mkFileL m (d + 1)) := fun v hv => by rw [hv]; exact key
  simp only [rd_T45_set _ _ _ hil, rd_T45_set _ _ _ (hlen _), List.set_set]
  exact fin _ rfl
theorem laws_markFileS_f (l : List S45) (m : Int) (hl : l.length ≤ 1099511627776) (h0 : 0 ≤ m) (h1 : m ≤ 1099511627776) :
 Ev (fun k => laws_markFileS.f k l m) (m + 3 * (l.length : Int), mkFileL m l.length) := by
 have := laws_markFileS_l0 l.length 0 l m (by omega) hl h0 (by omega)
 simpa [laws_markFileS.f] using this
theorem mkFileL_rd (m : Int) (n i : Nat) (h : i < n) : rd_T45 (mkFileL m n) (i : Int) = mkFile (m + 3 * (i : Int)) := by
 show (mkFileL m n).getD i z45 = _
 rw [List.getD_eq_getElem?_getD]
 simp [mkFileL, h]
theorem laws_heldFileS_l0 (m : Int) (n : Nat) (hn : n ≤ 1099511627776) (h0 : 0 ≤ m) (h1 : m ≤ 1099511627776) : ∀ (d i : Nat), i + d = n →
 Ev (fun k => laws_heldFileS.l0 k (mkFileL m n) (m + 3 * (i : Int)) (i : Int)) (m + 3 * (n : Int)) := by
 intro d
 induction d with
 | zero =>
  intro i hi
  obtain rfl : i = n := by omega
  refine ev_succ ?_
  simp only [laws_heldFileS.l0, mkFileL_length]
  exact ev_else (by omega) (ev_some rfl)
 | succ d ih =>
  intro i hi
  refine ev_succ ?_
  simp only [laws_heldFileS.l0, mkFileL_length]
  rw [mkFileL_rd m n i (by omega)]
  generalize hq : m + 3 * (i : Int) = q
  obtain ⟨w1, w2, w3⟩ : wrap64 (q + 1) = q + 1 ∧ wrap64 (q + 1 + 1) = q + 2 ∧ wrap64 (q + 2 + 1) = q + 3 := by
   refine ⟨?_, ?_, ?_⟩ <;> exact wrap_to (by omega) (by omega) (by omega)
  rw [w1, w2, w3]
  clear w1 w2 w3
  refine ev_if (by omega) (ev_if (by omega) (ev_bind (mtext_ev _ (by omega) (by omega)) (ev_if rfl (ev_bind (mtext_ev _ (by omega) (by omega)) (ev_if rfl (ev_if rfl ?_))))))
  rw [succ_i i (by omega)]
  have := ih (i + 1) (by omega)
  rw [show m + 3 * ((i + 1 : Nat) : Int) = q + 3 by omega] at this
  exact this
theorem laws_heldFileS_f (m : Int) (n : Nat) (hn : n ≤ 1099511627776) (h0 : 0 ≤ m) (h1 : m ≤ 1099511627776) : Ev (fun k => laws_heldFileS.f k (mkFileL m n) m) (m + 3 * (n : Int)) := by
 have := laws_heldFileS_l0 m n hn h0 h1 n 0 (by omega)
 simpa [laws_heldFileS.f] using this
theorem laws_markDisk_f (l : List S45) (m : Int) (hl : l.length ≤ 1099511627776) (h0 : 0 ≤ m) (h1 : m ≤ 1099511627776) : Ev (fun k => laws_markDisk.f k l m) (m + 3 * (l.length : Int), mkFileL m l.length) := by
 unfold laws_markDisk.f
 exact ev_bind (laws_markFileS_f l m hl h0 h1) (ev_some rfl)
theorem laws_heldDisk_f (m : Int) (n : Nat) (hn : n ≤ 1099511627776) (h0 : 0 ≤ m) (h1 : m ≤ 1099511627776) : Ev (fun k => laws_heldDisk.f k (mkFileL m n) m) (m + 3 * (n : Int)) := by
 unfold laws_heldDisk.f
 exact ev_bind (laws_heldFileS_f m n hn h0 h1) (ev_else (by omega) (ev_some rfl))
def convAct (x : S52) : S55 := ⟨x.f0, x.f1, x.f2, x.f3⟩
theorem laws_toActS_l0 (l : List S52) (hl : l.length ≤ 1048576) : ∀ (d i : Nat), i + d = l.length →
 Ev (fun k => laws_toActS.l0 k l ((l.take i).map convAct ++ List.replicate (l.length - i) z55) (i : Int)) (l.map convAct) := by
 intro d
 induction d with
 | zero =>
  intro i hi
  refine ev_succ ?_
  simp only [laws_toActS.l0]
  refine ev_else (by omega) (ev_some ?_)
  have e : i = l.length := by omega
  subst e
  simp
 | succ d ih =>
  intro i hi
  refine ev_succ ?_
  simp only [laws_toActS.l0, laws_toAct.f, Option.bind_some]
  refine ev_if (by omega) (ev_if (by omega) (ev_if (by rw [copy_map_len _ _ _ _ (by omega)]; omega) ?_))
  have hs : ((l.take i).map convAct ++ List.replicate (l.length - i) z55).set ((i : Int)).toNat (⟨(rd_T52 l (i : Int)).f0, (rd_T52 l (i : Int)).f1, (rd_T52 l (i : Int)).f2, (rd_T52 l (i : Int)).f3⟩ : S55) = (l.take (i + 1)).map convAct ++ List.replicate (l.length - (i + 1)) z55 := copy_map convAct l z52 z55 i (by omega)
  rw [hs, succ_i i (by omega)]
  exact ih (i + 1) (by omega)
theorem laws_toActS_f (l : List S52) (hl : l.length ≤ 1048576) : Ev (fun k => laws_toActS.f k l) (l.map convAct) := by
 unfold laws_toActS.f
 refine ev_if (by omega) (ev_if (by rw [toNat_nat]; omega) ?_)
 have := laws_toActS_l0 l hl l.length 0 (by omega)
 simpa using this
theorem laws_eqAct_refl (a0 : Int) (a1 : ByteArray) (a2 : ByteArray) (a3 : ByteArray) : laws_eqAct.f a0 a1 a2 a3 a0 a1 a2 a3 = some true := by
 unfold laws_eqAct.f
 simp
theorem laws_eqActS_l0 (l : List S55) (hl : l.length ≤ 4611686018427387904) : ∀ (d i : Nat), i + d = l.length →
 Ev (fun k => laws_eqActS.l0 k l l (i : Int)) true := by
 intro d
 induction d with
 | zero =>
  intro i hi
  refine ev_succ ?_
  simp only [laws_eqActS.l0]
  exact ev_else (by omega) (ev_some rfl)
 | succ d ih =>
  intro i hi
  refine ev_succ ?_
  simp only [laws_eqActS.l0]
  refine ev_if (by omega) (ev_if (by omega) (ev_if (by omega) (ev_bind0 (laws_eqAct_refl _ _ _ _) (ev_if rfl ?_))))
  rw [succ_i i (by omega)]
  exact ih (i + 1) (by omega)
theorem laws_eqActS_f (l : List S55) (hl : l.length ≤ 4611686018427387904) : Ev (fun k => laws_eqActS.f k l l) true := by
 unfold laws_eqActS.f
 exact ev_if rfl (laws_eqActS_l0 l hl l.length 0 (by omega))
theorem laws_szAct_f (a0 : Int) (a1 : ByteArray) (a2 : ByteArray) (a3 : ByteArray) (left : Int) (e1 : a1.size ≤ maxLen) (e2 : a2.size ≤ maxLen) (e3 : a3.size ≤ maxLen) (h0 : 0 ≤ left) (h1 : left ≤ 1048576) :
 ∃ r, laws_szAct.f a0 a1 a2 a3 left = some r ∧ (r < 0 ∨ 0 ≤ r ∧ r + ((a1.size : Int) + (a2.size : Int) + (a3.size : Int)) = left) := by
 unfold maxLen at e1 e2 e3
 unfold laws_szAct.f
 rw [wid (x := left - (a1.size : Int)) (by omega) (by omega)]
 by_cases c0 : left - (a1.size : Int) < 0
 ·exact ⟨-1, by rw [if_pos c0], .inl (by omega)⟩
 rw [if_neg c0]
 rw [wid (x := left - (a1.size : Int) - (a2.size : Int)) (by omega) (by omega)]
 by_cases c1 : left - (a1.size : Int) - (a2.size : Int) < 0
 ·exact ⟨-1, by rw [if_pos c1], .inl (by omega)⟩
 rw [if_neg c1]
 rw [wid (x := left - (a1.size : Int) - (a2.size : Int) - (a3.size : Int)) (by omega) (by omega)]
 by_cases c2 : left - (a1.size : Int) - (a2.size : Int) - (a3.size : Int) < 0
 ·exact ⟨-1, by rw [if_pos c2], .inl (by omega)⟩
 rw [if_neg c2]
 exact ⟨_, rfl, .inr ⟨by omega, by omega⟩⟩
def wtAct (l : List S52) : Nat := (l.map fun x => x.f1.size + x.f2.size + x.f3.size).sum
theorem wtAct_mem (l : List S52) : ∀ x ∈ l, x.f1.size + x.f2.size + x.f3.size ≤ wtAct l := by
 intro x hx
 unfold wtAct
 exact le_sum_mem _ _ (List.mem_map.2 ⟨x, hx, rfl⟩)
theorem wtAct_drop (l : List S52) (i : Nat) (h : i < l.length) : wtAct (l.drop i) = ((rd_T52 l (i : Int)).f1.size + (rd_T52 l (i : Int)).f2.size + (rd_T52 l (i : Int)).f3.size) + wtAct (l.drop (i + 1)) := by
 rw [drop_getD l z52 i h]
 unfold wtAct
 rw [List.map_cons, List.sum_cons]
 rfl
theorem laws_szActS_l0 (l : List S52) (hq : ∀ x ∈ l, ((Lit.int .i64 x.f0).wf = true) ∧ (x.f1.size ≤ maxLen) ∧ (x.f2.size ≤ maxLen) ∧ x.f3.size ≤ maxLen) : ∀ (d i : Nat) (left : Int), i + d = l.length → l.length ≤ 1048576 → 0 ≤ left → left ≤ 1048576 →
 ∃ r, Ev (fun k => laws_szActS.l0 k l left (i : Int)) r ∧ (r < 0 ∨ 0 ≤ r ∧ r + (wtAct (l.drop i) : Int) = left) := by
 intro d
 induction d with
 | zero =>
  intro i left hi hl h0 h1
  refine ⟨left, ev_succ ?_, .inr ⟨h0, ?_⟩⟩
  ·simp only [laws_szActS.l0]
   exact ev_else (by omega) (ev_some rfl)
  ·rw [drop_end l i (by omega)]
   show left + ((0 : Nat) : Int) = left
   omega
 | succ d ih =>
  intro i left hi hl h0 h1
  have hx := hq (rd_T52 l (i : Int)) (by
   show l.getD i z52 ∈ l
   rw [List.getD_eq_getElem?_getD, List.getElem?_eq_getElem (by omega)]
   exact List.getElem_mem _)
  obtain ⟨r, hr, hc⟩ := laws_szAct_f (rd_T52 l (i : Int)).f0 (rd_T52 l (i : Int)).f1 (rd_T52 l (i : Int)).f2 (rd_T52 l (i : Int)).f3 left (hx.2.1) (hx.2.2.1) (hx.2.2.2) h0 h1
  rw [wtAct_drop l i (by omega)]
  rcases hc with hn | ⟨hp, hs⟩
  ·refine ⟨-1, ev_succ ?_, .inl (by omega)⟩
   simp only [laws_szActS.l0]
   exact ev_if (by omega) (ev_if (by omega) (ev_bind0 hr (ev_if hn (ev_some rfl))))
  ·obtain ⟨r', hr', hc'⟩ := ih (i + 1) r (by omega) hl hp (by omega)
   refine ⟨r', ev_succ ?_, ?_⟩
   ·simp only [laws_szActS.l0]
    rw [succ_i i (by omega)]
    exact ev_if (by omega) (ev_if (by omega) (ev_bind0 hr (ev_else (by omega) hr')))
   ·rcases hc' with h | ⟨h, h'⟩
    ·exact .inl h
    ·exact .inr ⟨h, by omega⟩
theorem laws_szActS_f (l : List S52) (hl : l.length ≤ maxLen ∧ ∀ x ∈ l, ((Lit.int .i64 x.f0).wf = true) ∧ (x.f1.size ≤ maxLen) ∧ (x.f2.size ≤ maxLen) ∧ x.f3.size ≤ maxLen) (left : Int) (h0 : 0 ≤ left) (h1 : left ≤ 1048576) :
 ∃ r, Ev (fun k => laws_szActS.f k l left) r ∧ (r < 0 ∨ 0 ≤ r ∧ r + (l.length : Int) + (wtAct l : Int) = left) := by
 obtain ⟨hl, hq⟩ := hl
 unfold maxLen at hl
 unfold laws_szActS.f
 rw [wid (x := left - (l.length : Int)) (by omega) (by omega)]
 by_cases h : left - (l.length : Int) < 0
 ·exact ⟨-1, ev_if h (ev_some rfl), .inl (by omega)⟩
 ·obtain ⟨r, hr, hc⟩ := laws_szActS_l0 l hq l.length 0 (left - (l.length : Int)) (by omega) (by omega) (by omega) (by omega)
  refine ⟨r, ev_else h hr, ?_⟩
  rcases hc with h' | ⟨h', h''⟩
  ·exact .inl h'
  ·refine .inr ⟨h', ?_⟩
   rw [List.drop_zero] at h''
   omega
noncomputable def mkAct (m : Int) : S55 := ⟨m, mtext (m + 1), mtext (m + 2), mtext (m + 3)⟩
noncomputable def mkActL (m : Int) (n : Nat) : List S55 := (List.range n).map fun (j : Nat) => mkAct (m + 4 * (j : Int))
theorem mkActL_succ (m : Int) (n : Nat) : mkActL m (n + 1) = mkAct m :: mkActL (m + 4) n := by
 unfold mkActL
 rw [List.range_succ_eq_map, List.map_cons, List.map_map]
 have e0 : m + 4 * ((0 : Nat) : Int) = m := by omega
 rw [e0]
 congr 1
 apply List.map_congr_left
 intro j _
 show mkAct (m + 4 * ((j + 1 : Nat) : Int)) = mkAct (m + 4 + 4 * (j : Int))
 congr 1
 omega
theorem rd_T55_set (l : List S55) (i : Nat) (v : S55) (h : i < l.length) : rd_T55 (l.set i v) (i : Int) = v := by
 show (l.set i v).getD i z55 = v
 rw [List.getD_eq_getElem?_getD, List.getElem?_set_self h]
 rfl
theorem laws_markActS_l0 : ∀ (d i : Nat) (l : List S55) (m : Int), i + d = l.length → l.length ≤ 1099511627776 → 0 ≤ m → m + 4 * (d : Int) ≤ 4611686018427387904 →
 Ev (fun k => laws_markActS.l0 k l m (i : Int)) (m + 4 * (d : Int), l.take i ++ mkActL m d) := by
 intro d
 induction d with
 | zero =>
  intro i l m hi hl h0 h1
  refine ev_succ ?_
  simp only [laws_markActS.l0]
  refine ev_else (by omega) (ev_some ?_)
  have e : i = l.length := by omega
  subst e
  simp [mkActL]
 | succ d ih =>
  intro i l m hi hl h0 h1
  refine ev_succ ?_
  simp only [laws_markActS.l0]
  obtain ⟨w1, w2, w3, w4⟩ : wrap64 (m + 1) = m + 1 ∧ wrap64 (m + 1 + 1) = m + 2 ∧ wrap64 (m + 2 + 1) = m + 3 ∧ wrap64 (m + 3 + 1) = m + 4 := by
   refine ⟨?_, ?_, ?_, ?_⟩ <;> exact wrap_to (by omega) (by omega) (by omega)
  rw [w1, w2, w3, w4]
  clear w1 w2 w3 w4
  refine ev_if (by omega) (ev_if (by omega) (ev_bind0 rfl (ev_bind (mtext_ev (m + 1) (by omega) (by omega)) (ev_bind0 rfl (ev_bind (mtext_ev (m + 2) (by omega) (by omega)) (ev_bind0 rfl (ev_bind (mtext_ev (m + 3) (by omega) (by omega)) ?_)))))))
  have hil : i < l.length := by omega
  rw [succ_i i (by omega)]
  simp only [toNat_nat]
  have hlen : ∀ v : S55, i < (l.set i v).length := fun v => by rw [List.length_set]; exact hil
  have key := ih (i + 1) (l.set i (mkAct m)) (m + 4) (by rw [List.length_set]; omega) (by rw [List.length_set]; omega) (by omega) (by omega)
  have e1 : (l.set i (mkAct m)).take (i + 1) ++ mkActL (m + 4) d = l.take i ++ mkActL m (d + 1) := by
   rw [mkActL_succ, List.take_succ_eq_append_getElem (hlen _), List.take_set_of_le (Nat.le_refl i), List.getElem_set_self, List.append_assoc]
   rfl
  have e2 : m + 4 + 4 * (d : Int) = m + 4 * ((d + 1 : Nat) : Int) := by omega
  rw [e1, e2] at key
  have fin : ∀ v : S55, v = mkAct m → Ev (fun k => laws_markActS.l0 k (l.set i v) (m + 4) ((i + 1 : Nat) : Int)) (m + 4 * ((d + 1 : Nat) : Int), l.take i ++ mkActL m (d + 1)) := fun v hv => by rw [hv]; exact key
  simp only [rd_T55_set _ _ _ hil, rd_T55_set _ _ _ (hlen _), List.set_set]
  exact fin _ rfl
theorem laws_markActS_f (l : List S55) (m : Int) (hl : l.length ≤ 1099511627776) (h0 : 0 ≤ m) (h1 : m ≤ 1099511627776) :
 Ev (fun k => laws_markActS.f k l m) (m + 4 * (l.length : Int), mkActL m l.length) := by
 have := laws_markActS_l0 l.length 0 l m (by omega) hl h0 (by omega)
 simpa [laws_markActS.f] using this
theorem laws_eqIntS_l0 (a b : List Int) (hl : a.length ≤ 35184372088832) (hab : a.length = b.length) : ∀ (d i : Nat), i + d = a.length →
 Ev (fun k => laws_eqIntS.l0 k a b (i : Int)) (decide (a.drop i = b.drop i)) := by
 intro d
 induction d with
 | zero =>
  intro i hi
  refine ev_succ ?_
  simp only [laws_eqIntS.l0]
  refine ev_else (by omega) (ev_some ?_)
  rw [drop_end a i (by omega), drop_end b i (by omega)]
  simp
 | succ d ih =>
  intro i hi
  refine ev_succ ?_
  simp only [laws_eqIntS.l0]
  refine ev_if (by omega) (ev_if (by omega) (ev_if (by omega) ?_))
  rw [rd_nat, rd_nat, drop_getD a 0 i (by omega), drop_getD b 0 i (by omega), succ_i i (by omega)]
  by_cases h : a.getD i 0 = b.getD i 0
  ·refine ev_if h (ev_eq (ih (i + 1) (by omega)) ?_)
   rw [h]; simp
  ·refine ev_else h (ev_some ?_)
   have : ¬ (a.getD i 0 :: a.drop (i + 1) = b.getD i 0 :: b.drop (i + 1)) := fun e => h (List.cons.inj e).1
   simp only [decide_eq_false this]
theorem laws_eqIntS_f (a b : List Int) (hl : a.length ≤ 35184372088832) : Ev (fun k => laws_eqIntS.f k a b) (decide (a = b)) := by
 unfold laws_eqIntS.f
 by_cases h : a.length = b.length
 ·refine ev_if (by omega) ?_
  have := laws_eqIntS_l0 a b hl h a.length 0 (by omega)
  simpa using this
 ·refine ev_else (by omega) (ev_some ?_)
  have : ¬ a = b := fun e => h (by rw [e])
  simp [this]
theorem laws_toIntS_l0 (l : List Int) (hl : l.length ≤ 35184372088832) : ∀ (d i : Nat), i + d = l.length →
 Ev (fun k => laws_toIntS.l0 k l (l.take i ++ List.replicate (l.length - i) 0) (i : Int)) l := by
 intro d
 induction d with
 | zero =>
  intro i hi
  refine ev_succ ?_
  simp only [laws_toIntS.l0]
  refine ev_else (by omega) (ev_some ?_)
  have e : i = l.length := by omega
  subst e
  simp
 | succ d ih =>
  intro i hi
  refine ev_succ ?_
  simp only [laws_toIntS.l0]
  refine ev_if (by omega) (ev_if (by omega) (ev_if (by rw [copy_len _ _ _ (by omega)]; omega) ?_))
  rw [rd_nat, toNat_nat, copy_step l 0 0 i (by omega), succ_i i (by omega)]
  exact ih (i + 1) (by omega)
theorem laws_toIntS_f (l : List Int) (hl : l.length ≤ 35184372088832) : Ev (fun k => laws_toIntS.f k l) l := by
 unfold laws_toIntS.f
 refine ev_if (by omega) (ev_if (by rw [toNat_nat]; exact hl) ?_)
 have := laws_toIntS_l0 l hl l.length 0 (by omega)
 simpa using this
theorem laws_markIntS_l0 : ∀ (d i : Nat) (l : List Int) (m : Int), i + d = l.length → l.length ≤ 1099511627776 → 0 ≤ m → m + (d : Int) ≤ 4611686018427387904 →
 ∃ l', Ev (fun k => laws_markIntS.l0 k l m (i : Int)) (m + (d : Int), l') := by
 intro d
 induction d with
 | zero =>
  intro i l m hi hl h0 h1
  refine ⟨l, ev_succ ?_⟩
  simp only [laws_markIntS.l0]
  exact ev_else (by omega) (ev_some (by simp))
 | succ d ih =>
  intro i l m hi hl h0 h1
  obtain ⟨l', hl'⟩ := ih (i + 1) (l.set i m) (m + 1) (by rw [List.length_set]; omega) (by rw [List.length_set]; omega) (by omega) (by omega)
  refine ⟨l', ev_succ ?_⟩
  simp only [laws_markIntS.l0]
  refine ev_if (by omega) (ev_if (by omega) ?_)
  rw [succ_i i (by omega), wid (x := m + 1) (by omega) (by omega), toNat_nat]
  rw [show m + 1 + (d : Int) = m + ((d + 1 : Nat) : Int) by omega] at hl'
  exact hl'
theorem laws_markIntS_f (l : List Int) (m : Int) (hl : l.length ≤ 1099511627776) (h0 : 0 ≤ m) (h1 : m ≤ 1099511627776) : ∃ l', Ev (fun k => laws_markIntS.f k l m) (m + (l.length : Int), l') := by
 obtain ⟨l', h⟩ := laws_markIntS_l0 l.length 0 l m (by omega) hl h0 (by omega)
 exact ⟨l', by simpa [laws_markIntS.f] using h⟩
theorem FnExactCutActs (l : List S135) (q : List S52) (a : Int) (z : List Int) (hl : l.length ≤ maxLen ∧ ∀ x ∈ l, (x.f0.size ≤ maxLen) ∧ (x.f1.size ≤ maxLen) ∧ (Lit.int .i64 x.f2).wf = true) (hq : q.length ≤ maxLen ∧ ∀ x ∈ q, ((Lit.int .i64 x.f0).wf = true) ∧ (x.f1.size ≤ maxLen) ∧ (x.f2.size ≤ maxLen) ∧ (x.f3.size ≤ maxLen)) (ha : (Lit.int .i64 a).wf = true) (hz : z.length ≤ maxLen ∧ ∀ x ∈ z, (Lit.int .i64 x).wf = true) : ∃ k, laws_FnExactCutActs.f k l q a z = some true := by
 refine Ev.rounds ?_
 unfold laws_FnExactCutActs.f
 by_cases hbig : (z.length : Int) > 1048576
 ·exact ev_if hbig (ev_some rfl)
 refine ev_else hbig ?_
 obtain ⟨r, hr, hc⟩ := laws_szDisk_f l hl 1048576 (by omega) (by omega)
 refine ev_bind hr ?_
 by_cases hneg : r < 0
 ·exact ev_if hneg (ev_some rfl)
 refine ev_else hneg ?_
 obtain ⟨a1, ea, hca⟩ := laws_szActS_f q hq r (by omega) (by omega)
 refine ev_bind ea ?_
 by_cases hna : a1 < 0
 ·exact ev_if hna (ev_some rfl)
 refine ev_else hna ?_
 have n1 : l.length ≤ 1048576 := by omega
 have n2 : (l.map convFile).length ≤ 1048576 := by rw [List.length_map]; omega
 have m1 : q.length ≤ 1048576 := by omega
 have m2 : (q.map convAct).length ≤ 1048576 := by rw [List.length_map]; omega
 have m3 : ∀ b ∈ q.map convAct, b.f2.size ≤ 1048576 := by
  intro b hb
  obtain ⟨x, hx, rfl⟩ := List.mem_map.1 hb
  have h1 := wtAct_mem q x hx
  show x.f2.size ≤ 1048576
  omega
 have tt := laws_toDisk_f l n1
 have ta := laws_toActS_f q m1
 have ti := laws_toIntS_f z (by omega)
 have es := spec_CutActs_f (l.map convFile) (q.map convAct) a z n2 m2 m3
 have ei := impl_CutActs_f (l.map convFile) (q.map convAct) a z n2 m2 m3
 have n3 : (cutV (l.map convFile) (q.map convAct) a z).1.length ≤ 1048576 := by
  unfold cutV
  split
  ·unfold lostV
   split
   ·show (impl_Disk_lose.lostTo _ _ _).length ≤ _
    rw [impl_Disk_lose.lostTo_length]
    exact doActs_length _ _ n2
   ·show (0 : Nat) ≤ _
    omega
  ·show (0 : Nat) ≤ _
   omega
 generalize cutV (l.map convFile) (q.map convAct) a z = v at n3 es ei
 have ef := laws_eqDisk_f v.1 (by omega)
 have eg := laws_eqDisk_f (l.map convFile) (by omega)
 have eh := laws_eqActS_f (q.map convAct) (by omega)
 have ej := ev_eq (laws_eqIntS_f z z (by omega)) (decide_eq_true rfl)
 have k1 := laws_markDisk_f (l.map convFile) 1 (by omega) (by omega) (by omega)
 have k2 := laws_markActS_f (q.map convAct) (1 + 3 * ((l.map convFile).length : Int)) (by omega) (by omega) (by omega)
 have k3 := laws_markDisk_f v.1 1 (by omega) (by omega) (by omega)
 obtain ⟨q', k4⟩ := laws_markIntS_f z (1 + 3 * ((l.map convFile).length : Int) + 4 * ((q.map convAct).length : Int)) (by omega) (by omega) (by omega)
 have hd := laws_heldDisk_f 1 v.1.length (by omega) (by omega) (by omega)
 have hb : ¬ (v.2 != v.2) = true := by simp
 refine ev_bind tt (ev_bind ta (ev_bind ti (ev_bind es (ev_bind tt (ev_bind ta (ev_bind ti (ev_bind ei (ev_bind ef (ev_if rfl (ev_else hb ?_))))))))))
 refine ev_bind tt (ev_bind eg (ev_if rfl (ev_bind ta (ev_bind eh (ev_if rfl (ev_bind ti (ev_bind ej (ev_if rfl (ev_bind k1 (ev_bind k2 (ev_bind k4 ?_)))))))))))
 refine ev_else (by show ¬ _ < (0 : Int); omega) (ev_bind ef (ev_if rfl ?_))
 refine ev_bind k3 (ev_bind hd (ev_else (by omega) (ev_if rfl ?_)))
 refine ev_bind tt (ev_bind ta (ev_bind ti (ev_bind ei (ev_bind ef (ev_if rfl (ev_else hb ?_))))))
 exact ev_bind hd (ev_else (by omega) (ev_if rfl (ev_some rfl)))

end Go.Proofs.Ytidfhfaekdahpaa.Pure
