/- For every disk and name the program's FileAt returns what the reference's returns and leaves the disk as it was, without a condition of its own. -/
import Derived.Test.YtidfhfaekdahpaaPFnExactFileAtx2
namespace Go.Proofs.Ytidfhfaekdahpaa.Pure
open Go.RowKit Go.Proofs.Ytidfhfaekdahpaa.PFnExactFileAt Go.Proofs.YtidfhfaekdahpaaW.PrintWords Go.Proofs.YtidfhfaekdahpaaW.PrintLast

set_option linter.unusedVariables false
set_option linter.unusedSimpArgs false
/-! small words on rounds -/
theorem wid {x : Int} (h0 : -9223372036854775808 ≤ x) (h1 : x ≤ 9223372036854775807) : wrap64 x = x := by
  unfold wrap64; omega
theorem wrap_to {x y : Int} (h : x = y) (h0 : -9223372036854775808 ≤ y) (h1 : y ≤ 9223372036854775807) : wrap64 x = y := by
  rw [h]; exact wid h0 h1
theorem ev_some {α : Type} {o : Option α} {r : α} (h : o = some r) : Ev (fun _ => o) r := ⟨0, fun _ _ => h⟩
theorem ev_succ {α : Type} {g : Nat → Option α} {r : α} (h : Ev (fun k => g (k + 1)) r) : Ev g r := Ev.step (fun _ => rfl) h
theorem ev_if {α : Type} {c : Prop} [Decidable c] {f g : Nat → Option α} {r : α} (h : c) (k : Ev f r) : Ev (fun n => if c then f n else g n) r := by
  simp only [if_pos h]; exact k
theorem ev_else {α : Type} {c : Prop} [Decidable c] {f g : Nat → Option α} {r : α} (h : ¬ c) (k : Ev g r) : Ev (fun n => if c then f n else g n) r := by
  simp only [if_neg h]; exact k
theorem ev_bind0 {α β : Type} {o : Option α} {f : Nat → α → Option β} {a : α} {r : β} (h : o = some a) (k : Ev (fun n => f n a) r) : Ev (fun n => o.bind (f n)) r := by
  subst h; exact k
theorem ev_bind {α β : Type} {g : Nat → Option α} {f : Nat → α → Option β} {a : α} {r : β} (h : Ev g a) (k : Ev (fun n => f n a) r) : Ev (fun n => (g n).bind (f n)) r := Ev.bind h k
theorem ev_eq {α : Type} {g : Nat → Option α} {a b : α} (h : Ev g a) (e : a = b) : Ev g b := e ▸ h
theorem tdivp {a b : Int} (h : 0 ≤ a) : Int.tdiv a b = a / b := Int.tdiv_eq_ediv_of_nonneg h
theorem tmodp {a b : Int} (h : 0 ≤ a) : Int.tmod a b = a % b := Int.tmod_eq_emod_of_nonneg h
theorem toList_iff (a b : ByteArray) : a.toList = b.toList ↔ a = b := by
  rw [ByteArray.toList_eq, ByteArray.toList_eq]
  exact ⟨fun h => ByteArray.ext (Array.toList_inj.mp h), fun h => by rw [h]⟩
theorem drop_getD {α : Type} (l : List α) (d : α) (i : Nat) (h : i < l.length) : l.drop i = l.getD i d :: l.drop (i + 1) := by
  rw [List.drop_eq_getElem_cons h, List.getD_eq_getElem?_getD, List.getElem?_eq_getElem h]
  rfl
theorem drop_end {α : Type} (l : List α) (i : Nat) (h : l.length ≤ i) : l.drop i = [] := List.drop_eq_nil_of_le h
theorem rd_nat (l : List Int) (i : Nat) : rd l (i : Int) = l.getD i 0 := rfl
theorem copy_step {α : Type} (l : List α) (d z : α) (i : Nat) (h : i < l.length) :
    (l.take i ++ List.replicate (l.length - i) z).set i (l.getD i d) = l.take (i + 1) ++ List.replicate (l.length - (i + 1)) z := by
  have h1 : (l.take i).length = i := by rw [List.length_take]; omega
  rw [List.set_append_right _ _ (by omega), h1, Nat.sub_self]
  have h2 : l.length - i = (l.length - (i + 1)) + 1 := by omega
  rw [h2, List.replicate_succ, List.set_cons_zero, List.take_succ_eq_append_getElem h, List.append_assoc]
  congr 1
  rw [List.getD_eq_getElem?_getD, List.getElem?_eq_getElem h]
  rfl
theorem copy_len {α : Type} (l : List α) (z : α) (i : Nat) (h : i ≤ l.length) : (l.take i ++ List.replicate (l.length - i) z).length = l.length := by
  rw [List.length_append, List.length_take, List.length_replicate]; omega
theorem toNat_nat (i : Nat) : ((i : Int)).toNat = i := rfl
theorem succ_i (i : Nat) (h : i ≤ 9223372036854775806) : wrap64 ((i : Int) + 1) = ((i + 1 : Nat) : Int) := wrap_to (by omega) (by omega) (by omega)
theorem pred_i (i : Nat) (h : 0 < i) (h' : i ≤ 9223372036854775806) : wrap64 ((i : Int) - 1) = ((i - 1 : Nat) : Int) := wrap_to (by omega) (by omega) (by omega)
theorem copy_map {α β : Type} (g : α → β) (l : List α) (d : α) (z : β) (i : Nat) (h : i < l.length) :
    ((l.take i).map g ++ List.replicate (l.length - i) z).set i (g (l.getD i d)) = (l.take (i + 1)).map g ++ List.replicate (l.length - (i + 1)) z := by
  have h1 : ((l.take i).map g).length = i := by rw [List.length_map, List.length_take]; omega
  rw [List.set_append_right _ _ (by omega), h1, Nat.sub_self]
  have h2 : l.length - i = (l.length - (i + 1)) + 1 := by omega
  rw [h2, List.replicate_succ, List.set_cons_zero, List.take_succ_eq_append_getElem h, List.map_append, List.append_assoc]
  congr 1
  rw [List.getD_eq_getElem?_getD, List.getElem?_eq_getElem h]
  rfl
theorem copy_map_len {α β : Type} (g : α → β) (l : List α) (z : β) (i : Nat) (h : i ≤ l.length) : ((l.take i).map g ++ List.replicate (l.length - i) z).length = l.length := by
  rw [List.length_append, List.length_map, List.length_take, List.length_replicate]; omega
def convFile (x : S135) : S45 := ⟨x.f0, x.f1, x.f2⟩
theorem laws_toFileS_l0 (l : List S135) (hl : l.length ≤ 1048576) : ∀ (d i : Nat), i + d = l.length →
    Ev (fun k => laws_toFileS.l0 k l ((l.take i).map convFile ++ List.replicate (l.length - i) z45) (i : Int)) (l.map convFile) := by
  intro d
  induction d with
  | zero =>
    intro i hi
    refine ev_succ ?_
    simp only [laws_toFileS.l0]
    refine ev_else (by omega) (ev_some ?_)
    have e : i = l.length := by omega
    subst e
    simp
  | succ d ih =>
    intro i hi
    refine ev_succ ?_
    simp only [laws_toFileS.l0, laws_toFile.f, Option.bind_some]
    refine ev_if (by omega) (ev_if (by omega) (ev_if (by rw [copy_map_len _ _ _ _ (by omega)]; omega) ?_))
    have hs : ((l.take i).map convFile ++ List.replicate (l.length - i) z45).set ((i : Int)).toNat (⟨(rd_T135 l (i : Int)).f0, (rd_T135 l (i : Int)).f1, (rd_T135 l (i : Int)).f2⟩ : S45) = (l.take (i + 1)).map convFile ++ List.replicate (l.length - (i + 1)) z45 := copy_map convFile l z135 z45 i (by omega)
    rw [hs, succ_i i (by omega)]
    exact ih (i + 1) (by omega)
theorem laws_toFileS_f (l : List S135) (hl : l.length ≤ 1048576) : Ev (fun k => laws_toFileS.f k l) (l.map convFile) := by
  unfold laws_toFileS.f
  refine ev_if (by omega) (ev_if (by rw [toNat_nat]; omega) ?_)
  have := laws_toFileS_l0 l hl l.length 0 (by omega)
  simpa using this
theorem laws_eqFile_refl (a0 : ByteArray) (a1 : ByteArray) (a2 : Int) : laws_eqFile.f a0 a1 a2 a0 a1 a2 = some true := by
  unfold laws_eqFile.f
  simp
theorem laws_eqFileS_l0 (l : List S45) (hl : l.length ≤ 4611686018427387904) : ∀ (d i : Nat), i + d = l.length →
    Ev (fun k => laws_eqFileS.l0 k l l (i : Int)) true := by
  intro d
  induction d with
  | zero =>
    intro i hi
    refine ev_succ ?_
    simp only [laws_eqFileS.l0]
    exact ev_else (by omega) (ev_some rfl)
  | succ d ih =>
    intro i hi
    refine ev_succ ?_
    simp only [laws_eqFileS.l0]
    refine ev_if (by omega) (ev_if (by omega) (ev_if (by omega) (ev_bind0 (laws_eqFile_refl _ _ _) (ev_if rfl ?_))))
    rw [succ_i i (by omega)]
    exact ih (i + 1) (by omega)
theorem laws_eqFileS_f (l : List S45) (hl : l.length ≤ 4611686018427387904) : Ev (fun k => laws_eqFileS.f k l l) true := by
  unfold laws_eqFileS.f
  exact ev_if rfl (laws_eqFileS_l0 l hl l.length 0 (by omega))
theorem le_sum_mem : ∀ (l : List Nat) (x : Nat), x ∈ l → x ≤ l.sum
  | [], _, h => by cases h
  | y :: l, x, h => by
    rw [List.sum_cons]
    rcases List.mem_cons.1 h with rfl | h
    · omega
    · have := le_sum_mem l x h
      omega
theorem laws_szFile_f (a0 : ByteArray) (a1 : ByteArray) (a2 : Int) (left : Int) (e0 : a0.size ≤ maxLen) (e1 : a1.size ≤ maxLen) (h0 : 0 ≤ left) (h1 : left ≤ 1048576) :
    ∃ r, laws_szFile.f a0 a1 a2 left = some r ∧ (r < 0 ∨ 0 ≤ r ∧ r + ((a0.size : Int) + (a1.size : Int)) = left) := by
  unfold maxLen at e0 e1
  unfold laws_szFile.f
  rw [wid (x := left - (a0.size : Int)) (by omega) (by omega)]
  by_cases c0 : left - (a0.size : Int) < 0
  · exact ⟨-1, by rw [if_pos c0], .inl (by omega)⟩
  rw [if_neg c0]
  rw [wid (x := left - (a0.size : Int) - (a1.size : Int)) (by omega) (by omega)]
  by_cases c1 : left - (a0.size : Int) - (a1.size : Int) < 0
  · exact ⟨-1, by rw [if_pos c1], .inl (by omega)⟩
  rw [if_neg c1]
  exact ⟨_, rfl, .inr ⟨by omega, by omega⟩⟩
def wtFile (l : List S135) : Nat := (l.map fun x => x.f0.size + x.f1.size).sum
theorem wtFile_mem (l : List S135) : ∀ x ∈ l, x.f0.size + x.f1.size ≤ wtFile l := by
  intro x hx
  unfold wtFile
  exact le_sum_mem _ _ (List.mem_map.2 ⟨x, hx, rfl⟩)
theorem wtFile_drop (l : List S135) (i : Nat) (h : i < l.length) : wtFile (l.drop i) = ((rd_T135 l (i : Int)).f0.size + (rd_T135 l (i : Int)).f1.size) + wtFile (l.drop (i + 1)) := by
  rw [drop_getD l z135 i h]
  unfold wtFile
  rw [List.map_cons, List.sum_cons]
  rfl
theorem laws_szFileS_l0 (l : List S135) (hq : ∀ x ∈ l, (x.f0.size ≤ maxLen) ∧ (x.f1.size ≤ maxLen) ∧ (Lit.int .i64 x.f2).wf = true) : ∀ (d i : Nat) (left : Int), i + d = l.length → l.length ≤ 1048576 → 0 ≤ left → left ≤ 1048576 →
    ∃ r, Ev (fun k => laws_szFileS.l0 k l left (i : Int)) r ∧ (r < 0 ∨ 0 ≤ r ∧ r + (wtFile (l.drop i) : Int) = left) := by
  intro d
  induction d with
  | zero =>
    intro i left hi hl h0 h1
    refine ⟨left, ev_succ ?_, .inr ⟨h0, ?_⟩⟩
    · simp only [laws_szFileS.l0]
      exact ev_else (by omega) (ev_some rfl)
    · rw [drop_end l i (by omega)]
      show left + ((0 : Nat) : Int) = left
      omega
  | succ d ih =>
    intro i left hi hl h0 h1
    have hx := hq (rd_T135 l (i : Int)) (by
      show l.getD i z135 ∈ l
      rw [List.getD_eq_getElem?_getD, List.getElem?_eq_getElem (by omega)]
      exact List.getElem_mem _)
    obtain ⟨r, hr, hc⟩ := laws_szFile_f (rd_T135 l (i : Int)).f0 (rd_T135 l (i : Int)).f1 (rd_T135 l (i : Int)).f2 left (hx.1) (hx.2.1) h0 h1
    rw [wtFile_drop l i (by omega)]
    rcases hc with hn | ⟨hp, hs⟩
    · refine ⟨-1, ev_succ ?_, .inl (by omega)⟩
      simp only [laws_szFileS.l0]
      exact ev_if (by omega) (ev_if (by omega) (ev_bind0 hr (ev_if hn (ev_some rfl))))
    · obtain ⟨r', hr', hc'⟩ := ih (i + 1) r (by omega) hl hp (by omega)
      refine ⟨r', ev_succ ?_, ?_⟩
      · simp only [laws_szFileS.l0]
        rw [succ_i i (by omega)]
        exact ev_if (by omega) (ev_if (by omega) (ev_bind0 hr (ev_else (by omega) hr')))
      · rcases hc' with h | ⟨h, h'⟩
        · exact .inl h
        · exact .inr ⟨h, by omega⟩
theorem laws_szFileS_f (l : List S135) (hl : l.length ≤ maxLen ∧ ∀ x ∈ l, (x.f0.size ≤ maxLen) ∧ (x.f1.size ≤ maxLen) ∧ (Lit.int .i64 x.f2).wf = true) (left : Int) (h0 : 0 ≤ left) (h1 : left ≤ 1048576) :
    ∃ r, Ev (fun k => laws_szFileS.f k l left) r ∧ (r < 0 ∨ 0 ≤ r ∧ r + (l.length : Int) + (wtFile l : Int) = left) := by
  obtain ⟨hl, hq⟩ := hl
  unfold maxLen at hl
  unfold laws_szFileS.f
  rw [wid (x := left - (l.length : Int)) (by omega) (by omega)]
  by_cases h : left - (l.length : Int) < 0
  · exact ⟨-1, ev_if h (ev_some rfl), .inl (by omega)⟩
  · obtain ⟨r, hr, hc⟩ := laws_szFileS_l0 l hq l.length 0 (left - (l.length : Int)) (by omega) (by omega) (by omega) (by omega)
    refine ⟨r, ev_else h hr, ?_⟩
    rcases hc with h' | ⟨h', h''⟩
    · exact .inl h'
    · refine .inr ⟨h', ?_⟩
      rw [List.drop_zero] at h''
      omega
theorem laws_toDisk_f (l : List S135) (hl : l.length ≤ 1048576) : Ev (fun k => laws_toDisk.f k l) (l.map convFile) := by
  unfold laws_toDisk.f
  exact ev_bind (laws_toFileS_f l hl) (ev_some rfl)
theorem laws_eqDisk_f (l : List S45) (hl : l.length ≤ 4611686018427387904) : Ev (fun k => laws_eqDisk.f k l l) true := by
  unfold laws_eqDisk.f
  exact ev_bind (laws_eqFileS_f l hl) (ev_if rfl (ev_some rfl))
def fileAtV (l : List S45) (s : ByteArray) : ByteArray × Bool :=
  match l.find? (fun f => decide (f.f0 = s)) with
  | none => (⟨#[]⟩, false)
  | some f => (f.f1, true)
theorem fileAtV_at (l : List S45) (s : ByteArray) (i : Nat) (h : i < l.length) :
    fileAtV (l.drop i) s = if (rd_T45 l (i : Int)).f0 = s then ((rd_T45 l (i : Int)).f1, true) else fileAtV (l.drop (i + 1)) s := by
  rw [drop_getD l z45 i h]
  have e : rd_T45 l (i : Int) = l.getD i z45 := rfl
  rw [← e]
  unfold fileAtV
  by_cases hc : (rd_T45 l (i : Int)).f0 = s
  · rw [if_pos hc, List.find?_cons_of_pos (by simpa using hc)]
  · rw [if_neg hc, List.find?_cons_of_neg (by simpa using hc)]
theorem impl_FileAt_l0 (l : List S45) (s : ByteArray) (hl : l.length ≤ 4611686018427387904) : ∀ (d i : Nat), i + d = l.length →
    Ev (fun k => impl_FileAt.l0 k s l (l.length : Int) (i : Int)) (fileAtV (l.drop i) s) := by
  intro d
  induction d with
  | zero =>
    intro i hi
    refine ev_succ ?_
    simp only [impl_FileAt.l0]
    refine ev_else (by omega) (ev_some ?_)
    rw [drop_end l i (by omega)]
    rfl
  | succ d ih =>
    intro i hi
    refine ev_succ ?_
    simp only [impl_FileAt.l0]
    refine ev_if (by omega) (ev_if (by omega) (ev_if (by omega) ?_))
    rw [fileAtV_at l s i (by omega), succ_i i (by omega)]
    by_cases hc : (rd_T45 l (i : Int)).f0 = s
    · exact ev_if ((toList_iff _ _).2 hc) (ev_some (congrArg some (if_pos hc).symm))
    · exact ev_else (fun h => hc ((toList_iff _ _).1 h)) (ev_eq (ih (i + 1) (by omega)) (if_neg hc).symm)
theorem impl_FileAt_f (l : List S45) (s : ByteArray) (hl : l.length ≤ 4611686018427387904) : Ev (fun k => impl_FileAt.f k l s) (fileAtV l s) := by
  have := impl_FileAt_l0 l s hl l.length 0 (by omega)
  simpa [impl_FileAt.f] using this
theorem spec_l03At_l0 (l : List S45) (s : ByteArray) (hl : l.length ≤ 4611686018427387904) : ∀ (d i : Nat), i + d = l.length →
    ∃ r : Int, Ev (fun k => spec_l03At.l0 k s (i : Int) l) r ∧ ((r = -1 ∧ ∀ j, i ≤ j → j < l.length → ¬ (rd_T45 l (j : Int)).f0 = s) ∨ ∃ j : Nat, r = (j : Int) ∧ i ≤ j ∧ j < l.length ∧ (rd_T45 l (j : Int)).f0 = s ∧ ∀ q, i ≤ q → q < j → ¬ (rd_T45 l (q : Int)).f0 = s) := by
  intro d
  induction d with
  | zero =>
    intro i hi
    refine ⟨-1, ev_succ ?_, .inl ⟨rfl, fun j h1 h2 => by omega⟩⟩
    simp only [spec_l03At.l0]
    exact ev_else (by omega) (ev_some rfl)
  | succ d ih =>
    intro i hi
    by_cases hc : (rd_T45 l (i : Int)).f0 = s
    · refine ⟨(i : Int), ev_succ ?_, .inr ⟨i, rfl, Nat.le_refl _, by omega, hc, fun q h1 h2 => by omega⟩⟩
      simp only [spec_l03At.l0]
      exact ev_if (by omega) (ev_if (by omega) (ev_if ((toList_iff _ _).2 hc) (ev_some rfl)))
    · obtain ⟨r, hr, hq⟩ := ih (i + 1) (by omega)
      refine ⟨r, ev_succ ?_, ?_⟩
      · simp only [spec_l03At.l0]
        rw [succ_i i (by omega)]
        exact ev_if (by omega) (ev_if (by omega) (ev_else (fun h => hc ((toList_iff _ _).1 h)) hr))
      · have ext : ∀ q, i ≤ q → (q = i ∨ i + 1 ≤ q) := fun q h => by omega
        rcases hq with ⟨h1, h2⟩ | ⟨j, h1, h2, h3, h4, h5⟩
        · refine .inl ⟨h1, fun q a b => ?_⟩
          rcases ext q a with rfl | h
          · exact hc
          · exact h2 q h b
        · refine .inr ⟨j, h1, by omega, h3, h4, fun q a b => ?_⟩
          rcases ext q a with rfl | h
          · exact hc
          · exact h5 q h b
theorem spec_l03At_f (l : List S45) (s : ByteArray) (hl : l.length ≤ 4611686018427387904) :
    ∃ r : Int, Ev (fun k => spec_l03At.f k l s) r ∧ ((r = -1 ∧ ∀ j, j < l.length → ¬ (rd_T45 l (j : Int)).f0 = s) ∨ ∃ j : Nat, r = (j : Int) ∧ j < l.length ∧ (rd_T45 l (j : Int)).f0 = s ∧ ∀ q, q < j → ¬ (rd_T45 l (q : Int)).f0 = s) := by
  obtain ⟨r, hr, hq⟩ := spec_l03At_l0 l s hl l.length 0 (by omega)
  refine ⟨r, by simpa [spec_l03At.f] using hr, ?_⟩
  rcases hq with ⟨h1, h2⟩ | ⟨j, h1, h2, h3, h4, h5⟩
  · exact .inl ⟨h1, fun j => h2 j (Nat.zero_le _)⟩
  · exact .inr ⟨j, h1, h3, h4, fun q => h5 q (Nat.zero_le _)⟩
theorem fileAtV_none (l : List S45) (s : ByteArray) : ∀ (d i : Nat), i + d = l.length → (∀ j, i ≤ j → j < l.length → ¬ (rd_T45 l (j : Int)).f0 = s) → fileAtV (l.drop i) s = (⟨#[]⟩, false) := by
  intro d
  induction d with
  | zero => intro i hi _; rw [drop_end l i (by omega)]; rfl
  | succ d ih =>
    intro i hi h
    rw [fileAtV_at l s i (by omega), if_neg (h i (Nat.le_refl _) (by omega))]
    exact ih (i + 1) (by omega) (fun j a b => h j (by omega) b)
theorem fileAtV_some (l : List S45) (s : ByteArray) (j : Nat) (hj : j < l.length) (he : (rd_T45 l (j : Int)).f0 = s) : ∀ (d i : Nat), i + d = j → (∀ q, i ≤ q → q < j → ¬ (rd_T45 l (q : Int)).f0 = s) → fileAtV (l.drop i) s = ((rd_T45 l (j : Int)).f1, true) := by
  intro d
  induction d with
  | zero =>
    intro i hi _
    obtain rfl : i = j := by omega
    rw [fileAtV_at l s i hj, if_pos he]
  | succ d ih =>
    intro i hi h
    rw [fileAtV_at l s i (by omega), if_neg (h i (Nat.le_refl _) (by omega))]
    exact ih (i + 1) (by omega) (fun q a b => h q (by omega) b)
theorem spec_FileAt_f (l : List S45) (s : ByteArray) (hl : l.length ≤ 4611686018427387904) : Ev (fun k => spec_FileAt.f k l s) (fileAtV l s) := by
  obtain ⟨r, hr, hq⟩ := spec_l03At_f l s hl
  unfold spec_FileAt.f
  refine ev_bind hr ?_
  rcases hq with ⟨rfl, h⟩ | ⟨j, rfl, hj, he, h⟩
  · have := fileAtV_none l s l.length 0 (by omega) (fun j _ => h j)
    rw [List.drop_zero] at this
    exact ev_if (by omega) (ev_some (by rw [this]))
  · have := fileAtV_some l s j hj he j 0 (by omega) (fun q _ => h q)
    rw [List.drop_zero] at this
    exact ev_else (by omega) (ev_if (by omega) (ev_if (by omega) (ev_some (by rw [this]))))
theorem laws_szDisk_f (l : List S135) (hl : l.length ≤ maxLen ∧ ∀ x ∈ l, (x.f0.size ≤ maxLen) ∧ (x.f1.size ≤ maxLen) ∧ (Lit.int .i64 x.f2).wf = true) (left : Int) (h0 : 0 ≤ left) (h1 : left ≤ 1048576) :
    ∃ r, Ev (fun k => laws_szDisk.f k l left) r ∧ (r < 0 ∨ 0 ≤ r ∧ r + (l.length : Int) + (wtFile l : Int) = left) := by
  obtain ⟨r, hr, hc⟩ := laws_szFileS_f l hl left h0 h1
  unfold laws_szDisk.f
  by_cases h : r < 0
  · exact ⟨-1, ev_bind hr (ev_if h (ev_some rfl)), .inl (by omega)⟩
  · exact ⟨r, ev_bind hr (ev_else h (ev_some rfl)), hc⟩
theorem FnExactFileAt (l : List S135) (s : ByteArray) (hl : l.length ≤ maxLen ∧ ∀ x ∈ l, (x.f0.size ≤ maxLen) ∧ (x.f1.size ≤ maxLen) ∧ (Lit.int .i64 x.f2).wf = true) (hs : s.size ≤ maxLen) : ∃ k, laws_FnExactFileAt.f k l s = some true := by
  refine Ev.rounds ?_
  unfold laws_FnExactFileAt.f
  by_cases hbig : (s.size : Int) > 1048576
  · exact ev_if hbig (ev_some rfl)
  refine ev_else hbig ?_
  obtain ⟨r, hr, hc⟩ := laws_szDisk_f l hl 1048576 (by omega) (by omega)
  refine ev_bind hr ?_
  by_cases hneg : r < 0
  · exact ev_if hneg (ev_some rfl)
  refine ev_else hneg ?_
  have hlen : l.length ≤ 1048576 := by omega
  have hlen' : (l.map convFile).length ≤ 4611686018427387904 := by rw [List.length_map]; omega
  refine ev_bind (laws_toDisk_f l hlen) (ev_bind (spec_FileAt_f _ s hlen') (ev_bind (laws_toDisk_f l hlen) (ev_bind (impl_FileAt_f _ s hlen') (ev_if rfl (ev_succ ?_)))))
  simp only [laws_FnExactFileAt.j0]
  refine ev_else (by simp) (ev_bind (laws_toDisk_f l hlen) (ev_bind (laws_eqDisk_f _ hlen') (ev_if rfl (ev_some rfl))))

end Go.Proofs.Ytidfhfaekdahpaa.Pure
