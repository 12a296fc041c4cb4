/- of a drawn right disk what is kept is never lost; of what is not kept a beginning is left; lost again, nothing more is lost. -/
import Derived.Test.YtidfhfaekdahpaaQFnKeepsx7
namespace Go.Proofs.Ytidfhfaekdahpaa.Pure
open Go.RowKit Go.Proofs.Ytidfhfaekdahpaa.QFnKeeps Go.Proofs.YtidfhfaekdahpaaW.PrintWords Go.Proofs.YtidfhfaekdahpaaW.PrintLast

set_option linter.unusedVariables false
set_option linter.unusedSimpArgs false
/-! small words on rounds -/
theorem wid {x : Int} (h0 : -9223372036854775808 ≤ x) (h1 : x ≤ 9223372036854775807) : wrap64 x = x := by
  unfold wrap64; omega
theorem wrap_to {x y : Int} (h : x = y) (h0 : -9223372036854775808 ≤ y) (h1 : y ≤ 9223372036854775807) : wrap64 x = y := by
  rw [h]; exact wid h0 h1
theorem ev_some {α : Type} {o : Option α} {r : α} (h : o = some r) : Ev (fun _ => o) r := ⟨0, fun _ _ => h⟩
theorem ev_succ {α : Type} {g : Nat → Option α} {r : α} (h : Ev (fun k => g (k + 1)) r) : Ev g r := Ev.step (fun _ => rfl) h
theorem ev_if {α : Type} {c : Prop} [Decidable c] {f g : Nat → Option α} {r : α} (h : c) (k : Ev f r) : Ev (fun n => if c then f n else g n) r := by
  simp only [if_pos h]; exact k
theorem ev_else {α : Type} {c : Prop} [Decidable c] {f g : Nat → Option α} {r : α} (h : ¬ c) (k : Ev g r) : Ev (fun n => if c then f n else g n) r := by
  simp only [if_neg h]; exact k
theorem ev_bind0 {α β : Type} {o : Option α} {f : Nat → α → Option β} {a : α} {r : β} (h : o = some a) (k : Ev (fun n => f n a) r) : Ev (fun n => o.bind (f n)) r := by
  subst h; exact k
theorem ev_bind {α β : Type} {g : Nat → Option α} {f : Nat → α → Option β} {a : α} {r : β} (h : Ev g a) (k : Ev (fun n => f n a) r) : Ev (fun n => (g n).bind (f n)) r := Ev.bind h k
theorem ev_eq {α : Type} {g : Nat → Option α} {a b : α} (h : Ev g a) (e : a = b) : Ev g b := e ▸ h
theorem tdivp {a b : Int} (h : 0 ≤ a) : Int.tdiv a b = a / b := Int.tdiv_eq_ediv_of_nonneg h
theorem tmodp {a b : Int} (h : 0 ≤ a) : Int.tmod a b = a % b := Int.tmod_eq_emod_of_nonneg h
theorem toList_iff (a b : ByteArray) : a.toList = b.toList ↔ a = b := by
  rw [ByteArray.toList_eq, ByteArray.toList_eq]
  exact ⟨fun h => ByteArray.ext (Array.toList_inj.mp h), fun h => by rw [h]⟩
theorem drop_getD {α : Type} (l : List α) (d : α) (i : Nat) (h : i < l.length) : l.drop i = l.getD i d :: l.drop (i + 1) := by
  rw [List.drop_eq_getElem_cons h, List.getD_eq_getElem?_getD, List.getElem?_eq_getElem h]
  rfl
theorem drop_end {α : Type} (l : List α) (i : Nat) (h : l.length ≤ i) : l.drop i = [] := List.drop_eq_nil_of_le h
theorem rd_nat (l : List Int) (i : Nat) : rd l (i : Int) = l.getD i 0 := rfl
theorem copy_step {α : Type} (l : List α) (d z : α) (i : Nat) (h : i < l.length) :
    (l.take i ++ List.replicate (l.length - i) z).set i (l.getD i d) = l.take (i + 1) ++ List.replicate (l.length - (i + 1)) z := by
  have h1 : (l.take i).length = i := by rw [List.length_take]; omega
  rw [List.set_append_right _ _ (by omega), h1, Nat.sub_self]
  have h2 : l.length - i = (l.length - (i + 1)) + 1 := by omega
  rw [h2, List.replicate_succ, List.set_cons_zero, List.take_succ_eq_append_getElem h, List.append_assoc]
  congr 1
  rw [List.getD_eq_getElem?_getD, List.getElem?_eq_getElem h]
  rfl
theorem copy_len {α : Type} (l : List α) (z : α) (i : Nat) (h : i ≤ l.length) : (l.take i ++ List.replicate (l.length - i) z).length = l.length := by
  rw [List.length_append, List.length_take, List.length_replicate]; omega
theorem toNat_nat (i : Nat) : ((i : Int)).toNat = i := rfl
theorem succ_i (i : Nat) (h : i ≤ 9223372036854775806) : wrap64 ((i : Int) + 1) = ((i + 1 : Nat) : Int) := wrap_to (by omega) (by omega) (by omega)
theorem pred_i (i : Nat) (h : 0 < i) (h' : i ≤ 9223372036854775806) : wrap64 ((i : Int) - 1) = ((i - 1 : Nat) : Int) := wrap_to (by omega) (by omega) (by omega)
def fileOkB (f : S45) : Bool := decide (1 ≤ f.f0.size ∧ f.f0.size ≤ 8) && (decide (f.f1.size ≤ 20000) && decide (0 ≤ f.f2 ∧ f.f2 ≤ (f.f1.size : Int)))
def lessB (a b : ByteArray) : Bool := Op.bytesLess a.toList b.toList
def diskL : Option ByteArray → List S45 → Bool
  | _, [] => true
  | p, x :: xs => fileOkB x && ((match p with | none => true | some y => lessB y x.f0) && diskL (some x.f0) xs)
def prevF (l : List S45) (i : Nat) : Option ByteArray := if i = 0 then none else some (rd_T45 l ((i - 1 : Nat) : Int)).f0
def diskOkB (l : List S45) : Bool := decide (l.length ≤ 30) && diskL none l
theorem diskL_at (l : List S45) (i : Nat) (h : i < l.length) :
    diskL (prevF l i) (l.drop i) = (fileOkB (rd_T45 l (i : Int)) && ((if i = 0 then true else lessB (rd_T45 l ((i - 1 : Nat) : Int)).f0 (rd_T45 l (i : Int)).f0) && diskL (prevF l (i + 1)) (l.drop (i + 1)))) := by
  rw [drop_getD l z45 i h]
  have e : prevF l (i + 1) = some (l.getD i z45).f0 := by simp [prevF]; rfl
  rw [e]
  show diskL (prevF l i) (l.getD i z45 :: l.drop (i + 1)) = (fileOkB (l.getD i z45) && _)
  simp only [diskL, prevF]
  by_cases h0 : i = 0
  · subst h0; rfl
  · simp only [h0, if_false]; rfl
theorem diskL_all : ∀ (l : List S45) (p : Option ByteArray), diskL p l = true → ∀ x ∈ l, fileOkB x = true := by
  intro l
  induction l with
  | nil => intro p _ x hx; cases hx
  | cons y ys ih =>
    intro p h x hx
    simp only [diskL, Bool.and_eq_true] at h
    rcases List.mem_cons.1 hx with rfl | hx
    · exact h.1
    · exact ih _ h.2.2 x hx
theorem diskOk_all (l : List S45) (h : diskOkB l = true) : l.length ≤ 30 ∧ ∀ x ∈ l, (1 ≤ x.f0.size ∧ x.f0.size ≤ 8) ∧ x.f1.size ≤ 20000 ∧ 0 ≤ x.f2 ∧ x.f2 ≤ (x.f1.size : Int) := by
  simp only [diskOkB, Bool.and_eq_true, decide_eq_true_eq] at h
  refine ⟨h.1, fun x hx => ?_⟩
  have := diskL_all l none h.2 x hx
  simp only [fileOkB, Bool.and_eq_true, decide_eq_true_eq] at this
  exact this
def lostV (q : List Int) (l : List S45) : List S45 × Bool := if diskOkB l = true then (impl_Disk_lose.lostTo q l l.length, true) else ([], false)
theorem lostTo_take (q : List Int) (l : List S45) (i : Nat) (h : i < l.length) : (impl_Disk_lose.lostTo q l (i + 1)).take (i + 1) = (impl_Disk_lose.lostTo q l i).take i ++ [impl_Disk_lose.lx q i (rd_T45 l (i : Int))] := by
  have hl := impl_Disk_lose.lostTo_length q l i
  rw [impl_Disk_lose.lostTo, List.take_succ_eq_append_getElem (by rw [List.length_set]; omega), List.getElem_set_self, List.take_set_of_le (Nat.le_refl _)]
  rfl
theorem extract_all (t : ByteArray) (n : Int) (h : n.toNat = t.size) : t.extract 0 n.toNat = t := by
  rw [h]
  exact ByteArray.extract_zero_size
theorem bl_trans : ∀ (x y z : List UInt8), Op.bytesLess x y = true → Op.bytesLess y z = true → Op.bytesLess x z = true
  | _, _, [], _, h => by simp [Op.bytesLess] at h
  | _, [], _ :: _, h, _ => by simp [Op.bytesLess] at h
  | [], _ :: _, _ :: _, _, _ => by simp [Op.bytesLess]
  | a :: x, b :: y, c :: z, h, k => by
    have ih := bl_trans x y z
    simp only [Op.bytesLess, Bool.or_eq_true, decide_eq_true_eq, Bool.and_eq_true, beq_iff_eq, UInt8.lt_iff_toNat_lt] at h k ⊢
    rcases h with h | ⟨rfl, h⟩
    · rcases k with k | ⟨rfl, k⟩
      · left; omega
      · left; exact h
    · rcases k with k | ⟨rfl, k⟩
      · left; exact k
      · right; exact ⟨rfl, ih h k⟩
theorem bl_irrefl : ∀ x : List UInt8, Op.bytesLess x x = false
  | [] => by simp [Op.bytesLess]
  | a :: x => by simp [Op.bytesLess, bl_irrefl x]
theorem bl_tri (x y : List UInt8) (h : Op.bytesLess x y = false) (k : Op.bytesLess y x = false) : x = y := by
  have := Go.Proofs.YtidfhfaekdahpaaQWords.bl_conv x y
  rw [h, k] at this
  simpa using this
theorem lessB_trans {a b c : ByteArray} (h : lessB a b = true) (k : lessB b c = true) : lessB a c = true := bl_trans _ _ _ h k
theorem lessB_irrefl (a : ByteArray) : lessB a a = false := bl_irrefl _
theorem lessB_tri {a b : ByteArray} (h : lessB a b = false) (k : lessB b a = false) : a = b := (toList_iff a b).1 (bl_tri _ _ h k)
theorem lessB_asymm {a b : ByteArray} (h : lessB a b = true) : lessB b a = false := by
  cases k : lessB b a
  · rfl
  · exact absurd (lessB_trans h k) (by rw [lessB_irrefl]; simp)
theorem lessB_ne {a b : ByteArray} (h : lessB a b = true) : a ≠ b := by
  rintro rfl
  rw [lessB_irrefl] at h
  cases h
def Srt (l : List S45) : Prop := l.Pairwise (fun x y => lessB x.f0 y.f0 = true)
theorem diskL_iff : ∀ (l : List S45) (p : Option ByteArray), diskL p l = true ↔ (∀ x ∈ l, fileOkB x = true) ∧ Srt l ∧ ∀ y, p = some y → ∀ x ∈ l, lessB y x.f0 = true := by
  intro l
  induction l with
  | nil => intro p; simp [diskL, Srt]
  | cons x xs ih =>
    intro p
    simp only [diskL, Bool.and_eq_true, ih, Srt, List.pairwise_cons]
    constructor
    · rintro ⟨h1, h2, h3, h4, h5⟩
      refine ⟨fun y hy => ?_, ⟨fun y hy => h5 _ rfl y hy, h4⟩, ?_⟩
      · rcases List.mem_cons.1 hy with rfl | hy
        · exact h1
        · exact h3 y hy
      · rintro y rfl z hz
        rcases List.mem_cons.1 hz with rfl | hz
        · exact h2
        · exact lessB_trans h2 (h5 _ rfl z hz)
    · rintro ⟨h1, ⟨h2, h3⟩, h4⟩
      refine ⟨h1 x (List.mem_cons_self ..), ?_, fun y hy => h1 y (List.mem_cons_of_mem _ hy), h3, ?_⟩
      · cases p with
        | none => rfl
        | some y => exact h4 y rfl x (List.mem_cons_self ..)
      · rintro y hy z hz
        injection hy with hy
        subst hy
        exact h2 z hz
theorem diskOk_iff (l : List S45) : diskOkB l = true ↔ l.length ≤ 30 ∧ (∀ x ∈ l, fileOkB x = true) ∧ Srt l := by
  simp only [diskOkB, Bool.and_eq_true, decide_eq_true_eq, diskL_iff]
  constructor
  · rintro ⟨a, b, c, _⟩; exact ⟨a, b, c⟩
  · rintro ⟨a, b, c⟩; exact ⟨a, b, c, fun y hy => by cases hy⟩
def putV (l : List S45) (f : S45) : List S45 := l.filter (fun x => lessB x.f0 f.f0) ++ [f] ++ l.filter (fun x => lessB f.f0 x.f0)
theorem putV_mem {l : List S45} {f x : S45} (h : x ∈ putV l f) : x = f ∨ x ∈ l := by
  simp only [putV, List.mem_append, List.mem_filter, List.mem_singleton] at h
  rcases h with (h | h) | h
  · exact .inr h.1
  · exact .inl h
  · exact .inr h.1
theorem putV_srt (l : List S45) (f : S45) (h : Srt l) : Srt (putV l f) := by
  unfold Srt putV
  rw [List.pairwise_append, List.pairwise_append]
  refine ⟨⟨h.sublist List.filter_sublist, List.pairwise_singleton .., ?_⟩, h.sublist List.filter_sublist, ?_⟩
  · intro a ha b hb
    simp only [List.mem_filter, List.mem_singleton] at ha hb
    rw [hb]
    exact ha.2
  · intro a ha b hb
    simp only [List.mem_append, List.mem_filter, List.mem_singleton] at ha hb
    rcases ha with ha | ha
    · exact lessB_trans ha.2 hb.2
    · rw [ha]
      exact hb.2
theorem putV_length (l : List S45) (f : S45) : (putV l f).length ≤ l.length + 1 := by
  have key : ∀ l : List S45, (l.filter (fun x => lessB x.f0 f.f0)).length + (l.filter (fun x => lessB f.f0 x.f0)).length ≤ l.length := by
    intro l
    induction l with
    | nil => simp
    | cons x xs ih =>
      simp only [List.filter_cons, List.length_cons]
      by_cases h : lessB x.f0 f.f0 = true
      · rw [if_pos h, if_neg (by rw [lessB_asymm h]; simp), List.length_cons]; omega
      · rw [if_neg h]
        split
        · rw [List.length_cons]; omega
        · omega
  have := key l
  simp only [putV, List.length_append, List.length_singleton]
  omega
theorem lostTo_lt (q : List Int) (l : List S45) : ∀ (n j : Nat), j < n → n ≤ l.length → (impl_Disk_lose.lostTo q l n).getD j z45 = impl_Disk_lose.lx q j (l.getD j z45) := by
  intro n
  induction n with
  | zero => intro j hj; omega
  | succ n ih =>
    intro j hj hn
    have hlen := impl_Disk_lose.lostTo_length q l n
    rw [impl_Disk_lose.lostTo, List.getD_eq_getElem?_getD]
    by_cases h : n = j
    · subst h
      rw [List.getElem?_set_self (by omega)]
      rfl
    · rw [List.getElem?_set_ne h, ← List.getD_eq_getElem?_getD]
      exact ih j (by omega) (by omega)
/-- what lies in a disk that lost -/
theorem lost_at (q : List Int) (l : List S45) (j : Nat) (h : j < l.length) : (impl_Disk_lose.lostTo q l l.length).getD j z45 = impl_Disk_lose.lx q j (l.getD j z45) := lostTo_lt q l l.length j h (Nat.le_refl _)
theorem list_ext_getD {α : Type} (a b : List α) (z : α) (hl : a.length = b.length) (h : ∀ j, j < a.length → a.getD j z = b.getD j z) : a = b := by
  apply List.ext_getElem hl
  intro j h1 h2
  have := h j h1
  rw [List.getD_eq_getElem?_getD, List.getD_eq_getElem?_getD, List.getElem?_eq_getElem h1, List.getElem?_eq_getElem h2] at this
  exact this
theorem mem_getD {α : Type} (a : List α) (z : α) (j : Nat) (h : j < a.length) : a.getD j z ∈ a := by
  rw [List.getD_eq_getElem?_getD, List.getElem?_eq_getElem h]
  exact List.getElem_mem _
theorem getD_of_mem {α : Type} (a : List α) (z x : α) (h : x ∈ a) : ∃ j, j < a.length ∧ a.getD j z = x := by
  obtain ⟨j, hj, e⟩ := List.getElem_of_mem h
  refine ⟨j, hj, ?_⟩
  rw [List.getD_eq_getElem?_getD, List.getElem?_eq_getElem hj]
  exact e
theorem extract_size (t : ByteArray) (n : Int) (h0 : 0 ≤ n) (h1 : n ≤ t.size) : (t.extract 0 n.toNat).size = n.toNat := by
  rw [ByteArray.size_extract]
  omega
theorem lost_file (q : List Int) (j : Nat) (x : S45) (h : fileOkB x = true) : fileOkB (impl_Disk_lose.lx q j x) = true ∧ (impl_Disk_lose.lx q j x).f2 = ((impl_Disk_lose.lx q j x).f1.size : Int) ∧ x.f2 ≤ (impl_Disk_lose.lx q j x).f2 := by
  simp only [fileOkB, Bool.and_eq_true, decide_eq_true_eq] at h
  obtain ⟨h1, h2, h3, h4⟩ := h
  obtain ⟨z0, z1⟩ := impl_Disk_lose.lz_range q j x h3 h4
  have hs := extract_size x.f1 (impl_Disk_lose.lz q j x) z0 z1
  have hx : (impl_Disk_lose.lx q j x).f1.size = (impl_Disk_lose.lz q j x).toNat := hs
  have h2' : (impl_Disk_lose.lx q j x).f2 = impl_Disk_lose.lz q j x := rfl
  have h0' : (impl_Disk_lose.lx q j x).f0 = x.f0 := rfl
  have hk : x.f2 ≤ impl_Disk_lose.lz q j x := by
    unfold impl_Disk_lose.lz
    repeat' split
    all_goals omega
  refine ⟨?_, by rw [h2', hx]; omega, by rw [h2']; exact hk⟩
  simp only [fileOkB, Bool.and_eq_true, decide_eq_true_eq, h2', h0', hx]
  exact ⟨h1, by omega, by omega, by omega⟩
theorem lost_ok (q : List Int) (l : List S45) (h : diskOkB l = true) : diskOkB (impl_Disk_lose.lostTo q l l.length) = true := by
  obtain ⟨h1, h2, h3⟩ := (diskOk_iff l).1 h
  have hlen := impl_Disk_lose.lostTo_length q l l.length
  refine (diskOk_iff _).2 ⟨by omega, fun x hx => ?_, ?_⟩
  · obtain ⟨j, hj, e⟩ := getD_of_mem _ z45 x hx
    rw [← e, lost_at q l j (by omega)]
    exact (lost_file q j _ (h2 _ (mem_getD l _ j (by omega)))).1
  · have hn : (impl_Disk_lose.lostTo q l l.length).map (fun x => x.f0) = l.map (fun x => x.f0) := by
      apply list_ext_getD _ _ ByteArray.empty (by rw [List.length_map, List.length_map, hlen])
      intro j hj
      rw [List.length_map] at hj
      have := lost_at q l j (by omega)
      rw [List.getD_eq_getElem?_getD, List.getD_eq_getElem?_getD, List.getElem?_map, List.getElem?_map, List.getElem?_eq_getElem hj, List.getElem?_eq_getElem (by omega)]
      rw [List.getD_eq_getElem?_getD, List.getD_eq_getElem?_getD, List.getElem?_eq_getElem hj, List.getElem?_eq_getElem (by omega)] at this
      show (_ : S45).f0 = _
      have e : (impl_Disk_lose.lostTo q l l.length)[j] = impl_Disk_lose.lx q j l[j] := this
      rw [e]
      rfl
    have hs : (l.map (fun x => x.f0)).Pairwise (fun a b => lessB a b = true) := List.pairwise_map.2 h3
    rw [← hn] at hs
    exact List.pairwise_map.1 hs
/-- lost again, nothing more is lost -/
theorem lost_again (q : List Int) (l : List S45) (h : diskOkB l = true) : impl_Disk_lose.lostTo [] (impl_Disk_lose.lostTo q l l.length) (impl_Disk_lose.lostTo q l l.length).length = impl_Disk_lose.lostTo q l l.length := by
  obtain ⟨h1, h2, h3⟩ := (diskOk_iff l).1 h
  have hlen := impl_Disk_lose.lostTo_length q l l.length
  apply list_ext_getD _ _ z45 (impl_Disk_lose.lostTo_length _ _ _)
  intro j hj
  rw [impl_Disk_lose.lostTo_length] at hj
  rw [lost_at [] _ j hj]
  have hk := lost_file q j (l.getD j z45) (h2 _ (mem_getD l _ j (by omega)))
  rw [← lost_at q l j (by omega)] at hk
  generalize (impl_Disk_lose.lostTo q l l.length).getD j z45 = x at hk
  obtain ⟨a, b, c⟩ := x
  have hk2 : c = (b.size : Int) := hk.2.1
  have hz : impl_Disk_lose.lz [] j ⟨a, b, c⟩ = c := by
    have : 0 ≤ c := by omega
    simp only [impl_Disk_lose.lz, List.length_nil, Nat.not_lt_zero, if_false]
    split
    · rfl
    · omega
  simp only [impl_Disk_lose.lx, hz]
  congr 1
  exact extract_all b c (by omega)
theorem impl_inRange_f (x a b : Int) : impl_inRange.f x a b = some (decide (a ≤ x ∧ x ≤ b)) := by
  unfold impl_inRange.f
  by_cases h1 : a ≤ x <;> by_cases h2 : x ≤ b <;> simp [h1, h2]
theorem impl_fileOk_f (f : S45) : impl_fileOk.f f.f0 f.f1 f.f2 = some (fileOkB f) := by
  unfold impl_fileOk.f fileOkB
  simp only [impl_inRange_f, Option.bind_some]
  by_cases h1 : 1 ≤ f.f0.size ∧ f.f0.size ≤ 8
  · have h1' : 1 ≤ (f.f0.size : Int) ∧ (f.f0.size : Int) ≤ 8 := by omega
    by_cases h2 : f.f1.size ≤ 20000
    · have h2' : (f.f1.size : Int) ≤ 20000 := by omega
      simp only [h1, h1', h2, h2', and_self, decide_true, if_true, Bool.true_and]
    · have h2' : ¬ (f.f1.size : Int) ≤ 20000 := by omega
      simp only [h1, h1', h2, h2', and_self, decide_true, decide_false, if_true, if_false, Bool.true_and, Bool.false_and]
  · have h1' : ¬ (1 ≤ (f.f0.size : Int) ∧ (f.f0.size : Int) ≤ 8) := by omega
    simp only [h1, h1', decide_false, Bool.false_and]
    rfl
theorem impl_DiskOk_l0 (l : List S45) (hl : l.length ≤ 4611686018427387904) : ∀ (d i : Nat), i + d = l.length →
    Ev (fun k => impl_DiskOk.l0 k l (l.length : Int) (i : Int) l) (decide (l.length ≤ 30) && diskL (prevF l i) (l.drop i)) := by
  intro d
  induction d with
  | zero =>
    intro i hi
    refine ev_succ ?_
    simp only [impl_DiskOk.l0]
    refine ev_else (by omega) (ev_some ?_)
    rw [drop_end l i (by omega)]
    have e : diskL (prevF l i) [] = true := by cases prevF l i <;> rfl
    rw [e, Bool.and_true]
    congr 1
    apply decide_eq_decide.2
    omega
  | succ d ih =>
    intro i hi
    refine ev_succ ?_
    simp only [impl_DiskOk.l0]
    refine ev_if (by omega) (ev_if (by omega) (ev_if (by omega) (ev_bind0 (impl_fileOk_f _) ?_)))
    rw [diskL_at l i (by omega), succ_i i (by omega)]
    by_cases hf : fileOkB (rd_T45 l (i : Int)) = true
    · refine ev_if hf ?_
      rw [hf, Bool.true_and]
      by_cases h0 : i = 0
      · refine ev_else (by omega) (ev_eq (ih (i + 1) (by omega)) ?_)
        rw [if_pos h0, Bool.true_and]
      · rw [pred_i i (by omega) (by omega), if_neg h0]
        refine ev_if (by omega) (ev_if (by omega) (ev_if (by omega) ?_))
        by_cases hb : lessB (rd_T45 l ((i - 1 : Nat) : Int)).f0 (rd_T45 l (i : Int)).f0 = true
        · refine ev_if hb (ev_eq (ih (i + 1) (by omega)) ?_)
          rw [hb, Bool.true_and]
        · refine ev_else hb (ev_some ?_)
          rw [Bool.eq_false_iff.2 hb, Bool.false_and, Bool.and_false]
    · refine ev_else hf (ev_some ?_)
      rw [Bool.eq_false_iff.2 hf, Bool.false_and, Bool.and_false]
theorem impl_DiskOk_f (l : List S45) (hl : l.length ≤ 4611686018427387904) : Ev (fun k => impl_DiskOk.f k l) (diskOkB l) := by
  have := impl_DiskOk_l0 l hl l.length 0 (by omega)
  unfold impl_DiskOk.f diskOkB
  rw [List.drop_zero] at this
  exact this
theorem impl_LoseDisk_f (l : List S45) (q : List Int) (hl : l.length ≤ 4611686018427387904) : Ev (fun k => impl_LoseDisk.f k l q) (lostV q l) := by
  unfold impl_LoseDisk.f lostV
  refine ev_bind (impl_DiskOk_f l hl) ?_
  by_cases h : diskOkB l = true
  · obtain ⟨h1, h2⟩ := diskOk_all l h
    exact ev_eq (ev_if h (ev_if ⟨by omega, fun x hx => (h2 x hx).2.2⟩ (ev_some rfl))) (if_pos h).symm
  · exact ev_eq (ev_else h (ev_some rfl)) (if_neg h).symm
/-! drawn numbers: only their ranges matter -/
theorem and255 (x : Int) : 0 ≤ Go.bits .and .i64 x 255 ∧ Go.bits .and .i64 x 255 ≤ 255 := by
  have h : ((BitVec.ofInt 64 x) &&& (BitVec.ofInt 64 255)).toNat ≤ 255 := by
    rw [BitVec.toNat_and]
    exact Nat.le_trans Nat.and_le_right (show (BitVec.ofInt 64 255).toNat ≤ 255 by decide)
  have e : Go.bits .and .i64 x 255 = IntKind.i64.wrap ((((BitVec.ofInt 64 x) &&& (BitVec.ofInt 64 255)).toNat : Nat) : Int) := rfl
  rw [e, IntKind.wrap_i64]
  omega
theorem spec_l01New_l0 (l : List Int) (hl : l.length ≤ 4611686018427387904) : ∀ (d i : Nat) (h : Int), i + d = l.length → ∃ h', Ev (fun k => spec_l01New.l0 k l h (i : Int)) (l, 0, h') := by
  intro d
  induction d with
  | zero =>
    intro i h hi
    refine ⟨h, ev_succ ?_⟩
    simp only [spec_l01New.l0]
    exact ev_else (by omega) (ev_some rfl)
  | succ d ih =>
    intro i h hi
    by_cases h4 : (i : Int) < 4000
    · obtain ⟨h', hh⟩ := ih (i + 1) (Go.bits .and .i64 (wrap64 ((wrap64 ((wrap64 (h * 131)) + (wrap64 (rd l (i : Int))))) + 7)) 1073741823) (by omega)
      refine ⟨h', ev_succ ?_⟩
      simp only [spec_l01New.l0]
      refine ev_if (by omega) (ev_if h4 (ev_if (by omega) ?_))
      rw [succ_i i (by omega)]
      exact hh
    · refine ⟨h, ev_succ ?_⟩
      simp only [spec_l01New.l0]
      exact ev_if (by omega) (ev_else h4 (ev_some rfl))
theorem spec_l01New_f (l : List Int) (hl : l.length ≤ 4611686018427387904) : ∃ h, Ev (fun k => spec_l01New.f k l) (l, 0, h) := by
  unfold spec_l01New.f
  exact spec_l01New_l0 l hl l.length 0 _ (by omega)
/-- what a draw gives: a number that q tells of, and a cursor that is right -/
def Drew (o : Option (Int × Int × Int)) (q : Int → Prop) : Prop := ∃ r i h, o = some (r, i, h) ∧ q r ∧ 0 ≤ i
theorem spec_l01Byte_f (l : List Int) (i h : Int) (hl : l.length ≤ 4611686018427387904) (hi : 0 ≤ i) : Drew (spec_l01Byte.f l i h) (fun r => 0 ≤ r ∧ r ≤ 255) := by
  unfold spec_l01Byte.f Drew
  by_cases h1 : i < (l.length : Int)
  · rw [if_pos h1, if_pos hi]
    refine ⟨_, _, _, rfl, and255 _, ?_⟩
    rw [wid (x := i + 1) (by omega) (by omega)]
    omega
  · rw [if_neg h1]
    exact ⟨_, _, _, rfl, and255 _, hi⟩
theorem spec_l01Below_f (l : List Int) (i h n : Int) (hl : l.length ≤ 4611686018427387904) (hi : 0 ≤ i) (hn : 0 < n) : Drew (spec_l01Below.f l i h n) (fun r => 0 ≤ r ∧ r < n) := by
  unfold spec_l01Below.f
  rw [if_neg (by omega)]
  by_cases h1 : n ≤ 256
  · rw [if_pos h1]
    obtain ⟨r, i', h', e, hr, hi'⟩ := spec_l01Byte_f l i h hl hi
    rw [e]
    simp only [Option.bind_some]
    rw [if_neg (by omega)]
    refine ⟨_, _, _, rfl, ?_, hi'⟩
    rw [tmodp (a := r) hr.1]
    have := Int.emod_lt_of_pos r hn
    have := Int.emod_nonneg r (show n ≠ 0 by omega)
    omega
  · rw [if_neg h1]
    obtain ⟨r1, i1, h1', e1, hr1, hi1⟩ := spec_l01Byte_f l i h hl hi
    obtain ⟨r2, i2, h2', e2, hr2, hi2⟩ := spec_l01Byte_f l i1 h1' hl hi1
    obtain ⟨r3, i3, h3', e3, hr3, hi3⟩ := spec_l01Byte_f l i2 h2' hl hi2
    obtain ⟨r4, i4, h4', e4, hr4, hi4⟩ := spec_l01Byte_f l i3 h3' hl hi3
    rw [e1]; simp only [Option.bind_some]
    rw [e2]; simp only [Option.bind_some]
    rw [e3]; simp only [Option.bind_some]
    rw [e4]; simp only [Option.bind_some]
    rw [if_neg (by omega)]
    refine ⟨_, _, _, rfl, ?_, hi4⟩
    rw [wid (x := r1 * 16777216) (by omega) (by omega), wid (x := r2 * 65536) (by omega) (by omega), wid (x := r3 * 256) (by omega) (by omega), wid (x := r1 * 16777216 + r2 * 65536) (by omega) (by omega), wid (x := r1 * 16777216 + r2 * 65536 + r3 * 256) (by omega) (by omega), wid (x := r1 * 16777216 + r2 * 65536 + r3 * 256 + r4) (by omega) (by omega)]
    rw [tmodp (a := r1 * 16777216 + r2 * 65536 + r3 * 256 + r4) (by omega)]
    have := Int.emod_lt_of_pos (r1 * 16777216 + r2 * 65536 + r3 * 256 + r4) hn
    have := Int.emod_nonneg (r1 * 16777216 + r2 * 65536 + r3 * 256 + r4) (show n ≠ 0 by omega)
    omega
theorem strOfNums_size (l : List Int) : (strOfNums l).size = l.length := by simp [strOfNums, ByteArray.size]
theorem spec_l01Text_l0 (l : List Int) (hl : l.length ≤ 4611686018427387904) (n : Int) (hn : n ≤ 5000) : ∀ (d i : Nat) (acc : List Int) (p h : Int), (i : Int) + d = n → acc.length = i → 0 ≤ p →
    ∃ r p' h', Ev (fun k => spec_l01Text.l0 k n acc (i : Int) l p h) (r, p', h') ∧ r.size ≤ 5000 ∧ 0 ≤ p' := by
  intro d
  induction d with
  | zero =>
    intro i acc p h hi ha hp
    refine ⟨strOfNums acc, p, h, ev_succ ?_, ?_, hp⟩
    · simp only [spec_l01Text.l0]
      exact ev_else (by omega) (ev_some rfl)
    · rw [strOfNums_size]; omega
  | succ d ih =>
    intro i acc p h hi ha hp
    obtain ⟨r, p1, h1, e, hr, hp1⟩ := spec_l01Byte_f l p h hl hp
    obtain ⟨r', p2, h2, hev, hsz, hp2⟩ := ih (i + 1) (acc ++ [r % 256]) p1 h1 (by omega) (by simp [ha]) hp1
    refine ⟨r', p2, h2, ev_succ ?_, hsz, hp2⟩
    simp only [spec_l01Text.l0]
    refine ev_if (by omega) (ev_bind0 e (ev_if (by omega) ?_))
    rw [succ_i i (by omega)]
    exact hev
theorem spec_l01Text_f (l : List Int) (hl : l.length ≤ 4611686018427387904) (p h n : Int) (hp : 0 ≤ p) (hn : 0 ≤ n) :
    ∃ r p' h', Ev (fun k => spec_l01Text.f k l p h n) (r, p', h') ∧ r.size ≤ 5000 ∧ 0 ≤ p' := by
  unfold spec_l01Text.f
  by_cases h5 : n > 5000
  · obtain ⟨r, p', h', e, a, b⟩ := spec_l01Text_l0 l hl 5000 (by omega) 5000 0 [] p h (by omega) rfl hp
    refine ⟨r, p', h', ev_if h5 (ev_succ ?_), a, b⟩
    simp only [spec_l01Text.j0]
    exact e
  · obtain ⟨r, p', h', e, a, b⟩ := spec_l01Text_l0 l hl n (by omega) n.toNat 0 [] p h (by omega) rfl hp
    refine ⟨r, p', h', ev_else h5 (ev_succ ?_), a, b⟩
    simp only [spec_l01Text.j0]
    exact e
theorem spec_l01Pick_f (l : List Int) (i h : Int) (m : List ByteArray) (hl : l.length ≤ 4611686018427387904) (hi : 0 ≤ i) (hm : 0 < m.length) : ∃ r i' h', spec_l01Pick.f l i h m = some (r, i', h') ∧ r ∈ m ∧ 0 ≤ i' := by
  unfold spec_l01Pick.f
  obtain ⟨r, i', h', e, hr, hi'⟩ := spec_l01Below_f l i h (m.length : Int) hl hi (by omega)
  rw [e]
  simp only [Option.bind_some]
  rw [if_pos hr.1, if_pos hr.2]
  refine ⟨_, _, _, rfl, ?_, hi'⟩
  obtain ⟨n, rfl⟩ := Int.eq_ofNat_of_zero_le hr.1
  show m.getD n _ ∈ m
  rw [List.getD_eq_getElem?_getD, List.getElem?_eq_getElem (by omega)]
  exact List.getElem_mem _
theorem spec_l03Named_f (l : List Int) (i h : Int) (hl : l.length ≤ 4611686018427387904) (hi : 0 ≤ i) : ∃ r i' h', spec_l03Named.f l i h = some (r, i', h') ∧ (1 ≤ r.size ∧ r.size ≤ 2) ∧ 0 ≤ i' := by
  unfold spec_l03Named.f
  obtain ⟨r, i', h', e, hr, hi'⟩ := spec_l01Pick_f l i h [(⟨#[97]⟩ : ByteArray), (⟨#[98]⟩ : ByteArray), (⟨#[99]⟩ : ByteArray), (⟨#[106, 48]⟩ : ByteArray), (⟨#[106, 49]⟩ : ByteArray), (⟨#[106, 43]⟩ : ByteArray), (⟨#[115, 48]⟩ : ByteArray), (⟨#[115, 43]⟩ : ByteArray)] hl hi (by decide)
  rw [e]
  refine ⟨r, i', h', rfl, ?_, hi'⟩
  simp only [List.mem_cons, List.not_mem_nil, or_false] at hr
  rcases hr with rfl | rfl | rfl | rfl | rfl | rfl | rfl | rfl <;> exact ⟨by decide, by decide⟩
theorem spec_l03Put_l1 (l : List S45) (a b : ByteArray) (c : Int) (hl : l.length ≤ 1048576) : ∀ (d i : Nat) (acc : List S45), i + d = l.length → acc.length + d ≤ 3518437208882 →
    Ev (fun k => spec_l03Put.l1 k (i : Int) l a b c acc) (acc ++ (l.drop i).filter (fun x => lessB a x.f0)) := by
  intro d
  induction d with
  | zero =>
    intro i acc hi ha
    refine ev_succ ?_
    simp only [spec_l03Put.l1]
    refine ev_else (by omega) (ev_some ?_)
    rw [drop_end l i (by omega)]
    simp
  | succ d ih =>
    intro i acc hi ha
    refine ev_succ ?_
    simp only [spec_l03Put.l1]
    refine ev_if (by omega) (ev_if (by omega) ?_)
    rw [drop_getD l z45 i (by omega), List.filter_cons, succ_i i (by omega)]
    have e : rd_T45 l (i : Int) = l.getD i z45 := rfl
    rw [e]
    by_cases h : lessB a (l.getD i z45).f0 = true
    · rw [if_pos h]
      refine ev_if h (ev_if (by omega) (ev_eq (ih (i + 1) _ (by omega) (by rw [List.length_append, List.length_singleton]; omega)) ?_))
      rw [List.append_assoc]
      rfl
    · rw [if_neg h]
      exact ev_else h (ih (i + 1) acc (by omega) (by omega))
theorem spec_l03Put_l0 (l : List S45) (a b : ByteArray) (c : Int) (hl : l.length ≤ 1048576) : ∀ (d i : Nat) (acc : List S45), i + d = l.length → acc.length + d ≤ 1048576 →
    Ev (fun k => spec_l03Put.l0 k (i : Int) l a b c acc) (acc ++ (l.drop i).filter (fun x => lessB x.f0 a) ++ [⟨a, b, c⟩] ++ l.filter (fun x => lessB a x.f0)) := by
  intro d
  induction d with
  | zero =>
    intro i acc hi ha
    refine ev_succ ?_
    simp only [spec_l03Put.l0]
    refine ev_else (by omega) (ev_if (by omega) ?_)
    have := spec_l03Put_l1 l a b c hl l.length 0 (acc ++ [⟨a, b, c⟩]) (by omega) (by rw [List.length_append, List.length_singleton]; omega)
    rw [List.drop_zero] at this
    rw [drop_end l i (by omega)]
    simpa using this
  | succ d ih =>
    intro i acc hi ha
    refine ev_succ ?_
    simp only [spec_l03Put.l0]
    refine ev_if (by omega) (ev_if (by omega) ?_)
    rw [drop_getD l z45 i (by omega), List.filter_cons, succ_i i (by omega)]
    have e : rd_T45 l (i : Int) = l.getD i z45 := rfl
    rw [e]
    by_cases h : lessB (l.getD i z45).f0 a = true
    · rw [if_pos h]
      refine ev_if h (ev_if (by omega) (ev_eq (ih (i + 1) _ (by omega) (by rw [List.length_append, List.length_singleton]; omega)) ?_))
      simp only [List.append_assoc]
      rfl
    · rw [if_neg h]
      exact ev_else h (ih (i + 1) acc (by omega) (by omega))
theorem spec_l03Put_f (l : List S45) (a b : ByteArray) (c : Int) (hl : l.length ≤ 1048576) : Ev (fun k => spec_l03Put.f k l a b c) (putV l ⟨a, b, c⟩) := by
  have := spec_l03Put_l0 l a b c hl l.length 0 [] (by omega) (by simpa using hl)
  unfold spec_l03Put.f putV
  rw [List.drop_zero] at this
  simpa using this
theorem spec_DrawRightDisk_l0 (l : List Int) (hl : l.length ≤ 4611686018427387904) : ∀ (d i : Nat) (p h : Int) (D : List S45), i + d = 5 → 0 ≤ p → D.length ≤ i → (∀ x ∈ D, fileOkB x = true) → Srt D →
    ∃ r, Ev (fun k => spec_DrawRightDisk.l0 k (i : Int) l p h D) r ∧ diskOkB r = true := by
  intro d
  induction d with
  | zero =>
    intro i p h D hi hp hD ha hs
    obtain ⟨r, p1, h1, e, hr, hp1⟩ := spec_l01Below_f l p h 6 hl hp (by omega)
    refine ⟨D, ev_succ ?_, (diskOk_iff D).2 ⟨by omega, ha, hs⟩⟩
    simp only [spec_DrawRightDisk.l0]
    exact ev_bind0 e (ev_else (by show ¬ (i : Int) < r; omega) (ev_some rfl))
  | succ d ih =>
    intro i p h D hi hp hD ha hs
    obtain ⟨r, p1, h1, e, hr, hp1⟩ := spec_l01Below_f l p h 6 hl hp (by omega)
    by_cases hlt : (i : Int) < r
    · obtain ⟨r2, p2, h2, e2, hr2, hp2⟩ := spec_l01Below_f l p1 h1 30 hl hp1 (by omega)
      obtain ⟨t, p3, h3, e3, ht, hp3⟩ := spec_l01Text_f l hl p2 h2 r2 hp2 hr2.1
      obtain ⟨n, p4, h4, e4, hn, hp4⟩ := spec_l03Named_f l p3 h3 hl hp3
      obtain ⟨r5, p5, h5, e5, hr5, hp5⟩ : Drew (spec_l01Below.f l p4 h4 (wrap64 ((t.size : Int) + 1))) (fun r => 0 ≤ r ∧ r < (t.size : Int) + 1) := by
        rw [wid (x := (t.size : Int) + 1) (by omega) (by omega)]
        exact spec_l01Below_f l p4 h4 ((t.size : Int) + 1) hl hp4 (by omega)
      have hlen := putV_length D ⟨n, t, r5⟩
      obtain ⟨R, hR, hok⟩ := ih (i + 1) p5 h5 (putV D ⟨n, t, r5⟩) (by omega) hp5 (by omega) (fun x hx => by
        rcases putV_mem hx with rfl | hx
        · simp only [fileOkB, Bool.and_eq_true, decide_eq_true_eq]
          exact ⟨⟨hn.1, by omega⟩, by omega, hr5.1, by omega⟩
        · exact ha x hx) (putV_srt _ _ hs)
      refine ⟨R, ev_succ ?_, hok⟩
      simp only [spec_DrawRightDisk.l0]
      refine ev_bind0 e (ev_if hlt (ev_bind0 e2 (ev_bind e3 (ev_bind0 e4 (ev_bind0 e5 (ev_bind (spec_l03Put_f D n t r5 (by omega)) ?_))))))
      rw [succ_i i (by omega)]
      exact hR
    · refine ⟨D, ev_succ ?_, (diskOk_iff D).2 ⟨by omega, ha, hs⟩⟩
      simp only [spec_DrawRightDisk.l0]
      exact ev_bind0 e (ev_else hlt (ev_some rfl))
theorem spec_DrawRightDisk_f (l : List Int) (hl : l.length ≤ 4611686018427387904) : ∃ r, Ev (fun k => spec_DrawRightDisk.f k l) r ∧ diskOkB r = true := by
  obtain ⟨h, e⟩ := spec_l01New_f l hl
  obtain ⟨r, hr, hok⟩ := spec_DrawRightDisk_l0 l hl 5 0 0 h [] rfl (by omega) (Nat.le_refl _) (by simp) List.Pairwise.nil
  unfold spec_DrawRightDisk.f
  exact ⟨r, ev_bind e hr, hok⟩
theorem spec_DrawPlaces_l0 (l : List Int) (hl : l.length ≤ 4611686018427387904) : ∀ (d i : Nat) (p h : Int) (acc : List Int), i + d = 12 → acc.length = i → 0 ≤ p →
    ∃ r, Ev (fun k => spec_DrawPlaces.l0 k acc (i : Int) l p h) r ∧ r.length = 12 := by
  intro d
  induction d with
  | zero =>
    intro i p h acc hi ha hp
    refine ⟨acc, ev_succ ?_, by omega⟩
    simp only [spec_DrawPlaces.l0]
    exact ev_else (by omega) (ev_some rfl)
  | succ d ih =>
    intro i p h acc hi ha hp
    obtain ⟨r, p1, h1, e, hr, hp1⟩ := spec_l01Below_f l p h 10000 hl hp (by omega)
    obtain ⟨R, hR, hlen⟩ := ih (i + 1) p1 h1 (acc ++ [r]) (by omega) (by simp [ha]) hp1
    refine ⟨R, ev_succ ?_, hlen⟩
    simp only [spec_DrawPlaces.l0]
    refine ev_if (by omega) (ev_bind0 e (ev_if (by omega) ?_))
    rw [succ_i i (by omega)]
    exact hR
theorem spec_DrawPlaces_f (l : List Int) (hl : l.length ≤ 4611686018427387904) : ∃ r, Ev (fun k => spec_DrawPlaces.f k l) r ∧ r.length = 12 := by
  obtain ⟨h, e⟩ := spec_l01New_f l hl
  obtain ⟨r, p1, h1, e1, _, hp1⟩ := spec_l01Byte_f l 0 h hl (by omega)
  obtain ⟨R, hR, hlen⟩ := spec_DrawPlaces_l0 l hl 12 0 p1 h1 [] rfl rfl hp1
  unfold spec_DrawPlaces.f
  exact ⟨R, ev_bind e (ev_bind0 e1 hR), hlen⟩
theorem laws_lefts_l0 (l : List Int) (hl : 6 ≤ l.length) : ∀ (d i : Nat) (acc : List Int), i + d = 6 → acc.length = i → ∃ r, Ev (fun k => laws_lefts.l0 k l acc (i : Int)) r ∧ r.length = 6 := by
  intro d
  induction d with
  | zero =>
    intro i acc hi ha
    refine ⟨acc, ev_succ ?_, by omega⟩
    simp only [laws_lefts.l0]
    exact ev_else (by omega) (ev_some rfl)
  | succ d ih =>
    intro i acc hi ha
    obtain ⟨R, hR, hlen⟩ := ih (i + 1) (acc ++ [Int.tmod (rd l (i : Int)) 300]) (by omega) (by simp [ha])
    refine ⟨R, ev_succ ?_, hlen⟩
    simp only [laws_lefts.l0]
    refine ev_if (by omega) (ev_if (by omega) (ev_if (by omega) (ev_if (by omega) ?_)))
    rw [succ_i i (by omega)]
    exact hR
theorem laws_lefts_f (l : List Int) (hl : 6 ≤ l.length) : ∃ r, Ev (fun k => laws_lefts.f k l) r ∧ r.length = 6 := by
  unfold laws_lefts.f
  exact laws_lefts_l0 l hl 6 0 [] rfl rfl
def keptB (l : List S45) : Bool := l.all fun f => decide (f.f2 = (f.f1.size : Int))
def allKeptB (l : List S45) : Bool := keptB l && diskOkB l
theorem keptB_at (l : List S45) (i : Nat) (h : i < l.length) :
    keptB (l.drop i) = (decide ((rd_T45 l (i : Int)).f2 = ((rd_T45 l (i : Int)).f1.size : Int)) && keptB (l.drop (i + 1))) := by
  rw [drop_getD l z45 i h]
  unfold keptB
  rw [List.all_cons]
  rfl
theorem impl_AllKept_l0 (l : List S45) (hl : l.length ≤ 4611686018427387904) : ∀ (d i : Nat), i + d = l.length →
    Ev (fun k => impl_AllKept.l0 k l (l.length : Int) (i : Int) l) (keptB (l.drop i) && diskOkB l) := by
  intro d
  induction d with
  | zero =>
    intro i hi
    refine ev_succ ?_
    simp only [impl_AllKept.l0]
    refine ev_else (by omega) (ev_bind (impl_DiskOk_f l hl) (ev_some ?_))
    rw [drop_end l i (by omega)]
    rfl
  | succ d ih =>
    intro i hi
    refine ev_succ ?_
    simp only [impl_AllKept.l0]
    refine ev_if (by omega) (ev_if (by omega) (ev_if (by omega) ?_))
    rw [keptB_at l i (by omega), succ_i i (by omega)]
    by_cases h : (rd_T45 l (i : Int)).f2 = ((rd_T45 l (i : Int)).f1.size : Int)
    · refine ev_if h (ev_eq (ih (i + 1) (by omega)) ?_)
      rw [decide_eq_true h, Bool.true_and]
    · refine ev_else h (ev_some ?_)
      rw [decide_eq_false h, Bool.false_and, Bool.false_and]
theorem impl_AllKept_f (l : List S45) (hl : l.length ≤ 4611686018427387904) : Ev (fun k => impl_AllKept.f k l) (allKeptB l) := by
  have := impl_AllKept_l0 l hl l.length 0 (by omega)
  unfold impl_AllKept.f allKeptB
  rw [List.drop_zero] at this
  exact this
theorem laws_sameDisk_l0 (l : List S45) (hl : l.length ≤ 1048576) : ∀ (d i : Nat), i + d = l.length → Ev (fun k => laws_sameDisk.l0 k (i : Int) l l) true := by
  intro d
  induction d with
  | zero =>
    intro i hi
    refine ev_succ ?_
    simp only [laws_sameDisk.l0]
    exact ev_else (by omega) (ev_some rfl)
  | succ d ih =>
    intro i hi
    refine ev_succ ?_
    simp only [laws_sameDisk.l0]
    refine ev_if (by omega) (ev_if (by omega) (ev_if (by omega) (ev_else (by simp) ?_)))
    rw [succ_i i (by omega)]
    exact ih (i + 1) (by omega)
theorem laws_sameDisk_f (l : List S45) (hl : l.length ≤ 1048576) : Ev (fun k => laws_sameDisk.f k l l) true := by
  unfold laws_sameDisk.f
  exact ev_if rfl (laws_sameDisk_l0 l hl l.length 0 (by omega))
theorem laws_begins_f (t : ByteArray) (n m : Nat) (h : n ≤ m) (h2 : m ≤ t.size) : laws_begins.f (t.extract 0 n) (t.extract 0 m) = some true := by
  unfold laws_begins.f
  rw [if_pos (by rw [ByteArray.size_extract, ByteArray.size_extract]; omega), if_pos (by omega)]
  have e : (t.extract 0 m).extract 0 (((t.extract 0 n).size : Int)).toNat = t.extract 0 n := by
    have : (((t.extract 0 n).size : Int)).toNat = n := by rw [ByteArray.size_extract]; omega
    rw [this, ByteArray.extract_extract]
    congr 1
    omega
  rw [e]
  simp
theorem laws_FnKeeps_l0 (q : List Int) (l : List S45) (h : diskOkB l = true) : ∀ (d i : Nat), i + d = l.length → Ev (fun k => laws_FnKeeps.l0 k (i : Int) l (impl_Disk_lose.lostTo q l l.length)) true := by
  obtain ⟨h1, h2, h3⟩ := (diskOk_iff l).1 h
  have hlen := impl_Disk_lose.lostTo_length q l l.length
  intro d
  induction d with
  | zero =>
    intro i hi
    refine ev_succ ?_
    simp only [laws_FnKeeps.l0]
    exact ev_else (by omega) (ev_some rfl)
  | succ d ih =>
    intro i hi
    have e1 : rd_T45 (impl_Disk_lose.lostTo q l l.length) (i : Int) = impl_Disk_lose.lx q i (rd_T45 l (i : Int)) := lost_at q l i (by omega)
    have hf := h2 (rd_T45 l (i : Int)) (mem_getD l _ i (by omega))
    have hk := lost_file q i _ hf
    refine ev_succ ?_
    simp only [laws_FnKeeps.l0, e1]
    generalize rd_T45 l (i : Int) = x at hf hk
    simp only [fileOkB, Bool.and_eq_true, decide_eq_true_eq] at hf
    obtain ⟨f1, f2, f3, f4⟩ := hf
    obtain ⟨z0, z1⟩ := impl_Disk_lose.lz_range q i x f3 f4
    have hz : x.f2 ≤ impl_Disk_lose.lz q i x := hk.2.2
    refine ev_if (by omega) (ev_if (by omega) (ev_if (by omega) (ev_if rfl ?_)))
    have b1 : laws_begins.f (impl_Disk_lose.lx q i x).f1 x.f1 = some true := by
      have := laws_begins_f x.f1 (impl_Disk_lose.lz q i x).toNat x.f1.size (by omega) (Nat.le_refl _)
      rwa [ByteArray.extract_zero_size] at this
    have b2 : laws_begins.f (x.f1.extract 0 (x.f2).toNat) (impl_Disk_lose.lx q i x).f1 = some true := laws_begins_f x.f1 x.f2.toNat (impl_Disk_lose.lz q i x).toNat (by omega) (by omega)
    refine ev_bind0 b1 (ev_if rfl (ev_if f3 (ev_if f4 (ev_bind0 b2 (ev_if rfl ?_)))))
    rw [succ_i i (by omega)]
    exact ih (i + 1) (by omega)
theorem FnKeeps (l : List Int) (hl : l.length ≤ maxLen ∧ ∀ x ∈ l, (Lit.int .u8 x).wf = true) : ∃ k, laws_FnKeeps.f k l = some true := by
  refine Ev.rounds ?_
  unfold laws_FnKeeps.f laws_big.f
  refine ev_bind0 rfl ?_
  by_cases hbig : (l.length : Int) > 1048576
  · exact ev_if (by simpa using hbig) (ev_some rfl)
  refine ev_else (by simpa using hbig) ?_
  obtain ⟨D, hD, hok⟩ := spec_DrawRightDisk_f l (by omega)
  obtain ⟨P, hP, hPl⟩ := spec_DrawPlaces_f l (by omega)
  obtain ⟨q, hq, _⟩ := laws_lefts_f P (by omega)
  have n1 := ((diskOk_iff D).1 hok).1
  have hlen := impl_Disk_lose.lostTo_length q D D.length
  have ok2 := lost_ok q D hok
  have e1 := impl_LoseDisk_f D q (by omega)
  have e2 := impl_LoseDisk_f (impl_Disk_lose.lostTo q D D.length) [] (by omega)
  unfold lostV at e1 e2
  rw [if_pos hok] at e1
  rw [if_pos ok2, lost_again q D hok] at e2
  have ek := impl_AllKept_f (impl_Disk_lose.lostTo q D D.length) (by omega)
  have hkept : allKeptB (impl_Disk_lose.lostTo q D D.length) = true := by
    unfold allKeptB keptB
    rw [ok2, Bool.and_true, List.all_eq_true]
    intro x hx
    obtain ⟨j, hj, e⟩ := getD_of_mem _ z45 x hx
    rw [← e, lost_at q D j (by omega)]
    exact decide_eq_true (lost_file q j _ (((diskOk_iff D).1 hok).2.1 _ (mem_getD D _ j (by omega)))).2.1
  rw [hkept] at ek
  refine ev_bind hD (ev_bind hP (ev_bind hq (ev_bind e1 (ev_bind e2 (ev_if rfl (ev_if rfl (ev_if (by show ((impl_Disk_lose.lostTo q D D.length).length : Int) = (D.length : Int); omega) ?_)))))))
  refine ev_bind (laws_sameDisk_f (impl_Disk_lose.lostTo q D D.length) (by omega)) (ev_if rfl (ev_bind ek (ev_if rfl (ev_bind (impl_DiskOk_f D (by omega)) (ev_succ ?_)))))
  simp only [laws_FnKeeps.j0]
  exact ev_else (by rw [hok]; simp) (laws_FnKeeps_l0 q D hok D.length 0 (by omega))

end Go.Proofs.Ytidfhfaekdahpaa.Pure
