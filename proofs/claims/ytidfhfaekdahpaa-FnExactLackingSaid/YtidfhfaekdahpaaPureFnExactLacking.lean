/- For every list of spans and every list of numbers the program's Lacking returns what the reference's returns, leaves its arguments as they were and shares no memory with them, without a condition of its own. -/
import Derived.Test.YtidfhfaekdahpaaPFnExactLackingx3
namespace Go.Proofs.Ytidfhfaekdahpaa.Pure
open Go.RowKit Go.Proofs.Ytidfhfaekdahpaa.PFnExactLacking Go.Proofs.YtidfhfaekdahpaaW.PrintWords Go.Proofs.YtidfhfaekdahpaaW.PrintLast

set_option linter.unusedVariables false
set_option linter.unusedSimpArgs false
/-! small words on rounds -/
theorem wid {x : Int} (h0 : -9223372036854775808 ≤ x) (h1 : x ≤ 9223372036854775807) : wrap64 x = x := by
  unfold wrap64; omega
theorem wrap_to {x y : Int} (h : x = y) (h0 : -9223372036854775808 ≤ y) (h1 : y ≤ 9223372036854775807) : wrap64 x = y := by
  rw [h]; exact wid h0 h1
theorem ev_some {α : Type} {o : Option α} {r : α} (h : o = some r) : Ev (fun _ => o) r := ⟨0, fun _ _ => h⟩
theorem ev_succ {α : Type} {g : Nat → Option α} {r : α} (h : Ev (fun k => g (k + 1)) r) : Ev g r := Ev.step (fun _ => rfl) h
theorem ev_if {α : Type} {c : Prop} [Decidable c] {f g : Nat → Option α} {r : α} (h : c) (k : Ev f r) : Ev (fun n => if c then f n else g n) r := by
  simp only [if_pos h]; exact k
theorem ev_else {α : Type} {c : Prop} [Decidable c] {f g : Nat → Option α} {r : α} (h : ¬ c) (k : Ev g r) : Ev (fun n => if c then f n else g n) r := by
  simp only [if_neg h]; exact k
theorem ev_bind0 {α β : Type} {o : Option α} {f : Nat → α → Option β} {a : α} {r : β} (h : o = some a) (k : Ev (fun n => f n a) r) : Ev (fun n => o.bind (f n)) r := by
  subst h; exact k
theorem ev_bind {α β : Type} {g : Nat → Option α} {f : Nat → α → Option β} {a : α} {r : β} (h : Ev g a) (k : Ev (fun n => f n a) r) : Ev (fun n => (g n).bind (f n)) r := Ev.bind h k
theorem ev_eq {α : Type} {g : Nat → Option α} {a b : α} (h : Ev g a) (e : a = b) : Ev g b := e ▸ h
theorem tdivp {a b : Int} (h : 0 ≤ a) : Int.tdiv a b = a / b := Int.tdiv_eq_ediv_of_nonneg h
theorem tmodp {a b : Int} (h : 0 ≤ a) : Int.tmod a b = a % b := Int.tmod_eq_emod_of_nonneg h
theorem toList_iff (a b : ByteArray) : a.toList = b.toList ↔ a = b := by
  rw [ByteArray.toList_eq, ByteArray.toList_eq]
  exact ⟨fun h => ByteArray.ext (Array.toList_inj.mp h), fun h => by rw [h]⟩
theorem drop_getD {α : Type} (l : List α) (d : α) (i : Nat) (h : i < l.length) : l.drop i = l.getD i d :: l.drop (i + 1) := by
  rw [List.drop_eq_getElem_cons h, List.getD_eq_getElem?_getD, List.getElem?_eq_getElem h]
  rfl
theorem drop_end {α : Type} (l : List α) (i : Nat) (h : l.length ≤ i) : l.drop i = [] := List.drop_eq_nil_of_le h
theorem rd_nat (l : List Int) (i : Nat) : rd l (i : Int) = l.getD i 0 := rfl
theorem copy_step {α : Type} (l : List α) (d z : α) (i : Nat) (h : i < l.length) :
    (l.take i ++ List.replicate (l.length - i) z).set i (l.getD i d) = l.take (i + 1) ++ List.replicate (l.length - (i + 1)) z := by
  have h1 : (l.take i).length = i := by rw [List.length_take]; omega
  rw [List.set_append_right _ _ (by omega), h1, Nat.sub_self]
  have h2 : l.length - i = (l.length - (i + 1)) + 1 := by omega
  rw [h2, List.replicate_succ, List.set_cons_zero, List.take_succ_eq_append_getElem h, List.append_assoc]
  congr 1
  rw [List.getD_eq_getElem?_getD, List.getElem?_eq_getElem h]
  rfl
theorem copy_len {α : Type} (l : List α) (z : α) (i : Nat) (h : i ≤ l.length) : (l.take i ++ List.replicate (l.length - i) z).length = l.length := by
  rw [List.length_append, List.length_take, List.length_replicate]; omega
theorem toNat_nat (i : Nat) : ((i : Int)).toNat = i := rfl
theorem succ_i (i : Nat) (h : i ≤ 9223372036854775806) : wrap64 ((i : Int) + 1) = ((i + 1 : Nat) : Int) := wrap_to (by omega) (by omega) (by omega)
theorem pred_i (i : Nat) (h : 0 < i) (h' : i ≤ 9223372036854775806) : wrap64 ((i : Int) - 1) = ((i - 1 : Nat) : Int) := wrap_to (by omega) (by omega) (by omega)
theorem contains_drop (l : List Int) (x : Int) (i : Nat) (h : i < l.length) : (l.drop i).contains x = (decide (l.getD i 0 = x) || (l.drop (i + 1)).contains x) := by
  rw [drop_getD l 0 i h, List.contains_cons]
  by_cases e : l.getD i 0 = x
  · have : (x == l.getD i 0) = true := by simpa using e.symm
    rw [this]; simp only [e, decide_true]
  · have : (x == l.getD i 0) = false := by simpa using fun h => e h.symm
    rw [this]; simp only [e, decide_false]
theorem spec_l10In_l0 (l : List Int) (x : Int) (hl : l.length ≤ 35184372088832) : ∀ (d i : Nat), i + d = l.length →
    Ev (fun k => spec_l10In.l0 k l x (i : Int)) ((l.drop i).contains x) := by
  intro d
  induction d with
  | zero =>
    intro i hi
    refine ev_succ ?_
    simp only [spec_l10In.l0]
    refine ev_else (by omega) (ev_some ?_)
    rw [drop_end l i (by omega)]; rfl
  | succ d ih =>
    intro i hi
    refine ev_succ ?_
    simp only [spec_l10In.l0]
    refine ev_if (by omega) (ev_if (by omega) ?_)
    rw [rd_nat, succ_i i (by omega), contains_drop l x i (by omega)]
    by_cases h : l.getD i 0 = x
    · exact ev_if h (ev_some (by simp only [h, decide_true, Bool.true_or]))
    · exact ev_else h (ev_eq (ih (i + 1) (by omega)) (by simp only [h, decide_false, Bool.false_or]))
theorem spec_l10In_f (l : List Int) (x : Int) (hl : l.length ≤ 35184372088832) : Ev (fun k => spec_l10In.f k l x) (l.contains x) := by
  have := spec_l10In_l0 l x hl l.length 0 (by omega)
  simpa [spec_l10In.f] using this
theorem slices_Index_l0 (l : List Int) (x : Int) (hl : l.length ≤ 35184372088832) : ∀ (d i : Nat), i + d = l.length →
    ∃ r : Int, Ev (fun k => slices_Index_int_int.l0 k l x (l.length : Int) (i : Int)) r ∧ decide (r ≥ 0) = (l.drop i).contains x := by
  intro d
  induction d with
  | zero =>
    intro i hi
    refine ⟨-1, ev_succ ?_, ?_⟩
    · simp only [slices_Index_int_int.l0]
      exact ev_else (by omega) (ev_some rfl)
    · rw [drop_end l i (by omega)]; rfl
  | succ d ih =>
    intro i hi
    rw [contains_drop l x i (by omega)]
    by_cases h : l.getD i 0 = x
    · refine ⟨(i : Int), ev_succ ?_, ?_⟩
      · simp only [slices_Index_int_int.l0]
        refine ev_if (by omega) (ev_if (by omega) (ev_if (by omega) ?_))
        rw [rd_nat]
        exact ev_if h.symm (ev_some rfl)
      · simp only [h, decide_true, Bool.true_or]; simp
    · obtain ⟨r, hr, hd⟩ := ih (i + 1) (by omega)
      refine ⟨r, ev_succ ?_, ?_⟩
      · simp only [slices_Index_int_int.l0]
        refine ev_if (by omega) (ev_if (by omega) (ev_if (by omega) ?_))
        rw [rd_nat, succ_i i (by omega)]
        exact ev_else (fun e => h e.symm) hr
      · rw [hd]; simp only [h, decide_false, Bool.false_or]
theorem slices_Contains_f (l : List Int) (x : Int) (hl : l.length ≤ 35184372088832) : Ev (fun k => slices_Contains_int_int.f k l x) (l.contains x) := by
  obtain ⟨r, hr, hd⟩ := slices_Index_l0 l x hl l.length 0 (by omega)
  unfold slices_Contains_int_int.f slices_Index_int_int.f
  exact ev_bind hr (ev_some (by rw [hd]; rfl))
def lackL (l : List S125) (m : List Int) : List S125 := l.filter fun s => !m.contains s.f0
theorem lackL_drop (l : List S125) (m : List Int) (i : Nat) (h : i < l.length) :
    lackL (l.drop i) m = if m.contains (rd_T125 l (i : Int)).f0 = true then lackL (l.drop (i + 1)) m else rd_T125 l (i : Int) :: lackL (l.drop (i + 1)) m := by
  rw [drop_getD l z125 i h]
  have e : rd_T125 l (i : Int) = l.getD i z125 := rfl
  rw [← e]
  unfold lackL
  by_cases hc : m.contains (rd_T125 l (i : Int)).f0 = true
  · rw [if_pos hc, List.filter_cons, if_neg (by rw [hc]; simp)]
  · rw [if_neg hc, List.filter_cons, if_pos (by rw [Bool.eq_false_iff.2 hc]; rfl)]
theorem lackL_le (l : List S125) (m : List Int) : (lackL l m).length ≤ l.length := List.length_filter_le _ _
theorem spec_Lacking_l0 (l : List S125) (m : List Int) (hl : l.length ≤ 1048576) (hm : m.length ≤ 1048576) : ∀ (d i : Nat) (out : List S125), i + d = l.length → out.length ≤ i →
    Ev (fun k => spec_Lacking.l0 k l m out (i : Int)) (out ++ lackL (l.drop i) m) := by
  intro d
  induction d with
  | zero =>
    intro i out hi ho
    refine ev_succ ?_
    simp only [spec_Lacking.l0]
    refine ev_else (by omega) (ev_some ?_)
    rw [drop_end l i (by omega)]
    show some out = some (out ++ [])
    rw [List.append_nil]
  | succ d ih =>
    intro i out hi ho
    refine ev_succ ?_
    simp only [spec_Lacking.l0]
    refine ev_if (by omega) (ev_if (by omega) (ev_bind (spec_l10In_f m _ (by omega)) ?_))
    rw [lackL_drop l m i (by omega), succ_i i (by omega)]
    by_cases hc : m.contains (rd_T125 l (i : Int)).f0 = true
    · exact ev_if hc (ev_eq (ih (i + 1) out (by omega) (by omega)) (by rw [if_pos hc]))
    · refine ev_else hc (ev_if (by omega) (ev_eq (ih (i + 1) _ (by omega) (by rw [List.length_append, List.length_singleton]; omega)) ?_))
      rw [if_neg hc, List.append_assoc]
      rfl
theorem spec_Lacking_f (l : List S125) (m : List Int) (hl : l.length ≤ 1048576) (hm : m.length ≤ 1048576) : Ev (fun k => spec_Lacking.f k l m) (lackL l m) := by
  have := spec_Lacking_l0 l m hl hm l.length 0 [] (by omega) (by simp)
  rw [List.nil_append, List.drop_zero] at this
  exact this
theorem impl_Lacking_l0 (l : List S125) (m : List Int) (hl : l.length ≤ 1048576) (hm : m.length ≤ 1048576) : ∀ (d i : Nat) (out : List S125), i + d = l.length → out.length ≤ i →
    Ev (fun k => impl_Lacking.l0 k m out l (l.length : Int) (i : Int)) (out ++ lackL (l.drop i) m) := by
  intro d
  induction d with
  | zero =>
    intro i out hi ho
    refine ev_succ ?_
    simp only [impl_Lacking.l0]
    refine ev_else (by omega) (ev_some ?_)
    rw [drop_end l i (by omega)]
    show some out = some (out ++ [])
    rw [List.append_nil]
  | succ d ih =>
    intro i out hi ho
    refine ev_succ ?_
    simp only [impl_Lacking.l0]
    refine ev_if (by omega) (ev_if (by omega) (ev_if (by omega) (ev_bind (slices_Contains_f m _ (by omega)) ?_)))
    rw [lackL_drop l m i (by omega), succ_i i (by omega)]
    by_cases hc : m.contains (rd_T125 l (i : Int)).f0 = true
    · exact ev_if hc (ev_eq (ih (i + 1) out (by omega) (by omega)) (by rw [if_pos hc]))
    · refine ev_else hc (ev_if (by omega) (ev_eq (ih (i + 1) _ (by omega) (by rw [List.length_append, List.length_singleton]; omega)) ?_))
      rw [if_neg hc, List.append_assoc]
      rfl
theorem impl_Lacking_f (l : List S125) (m : List Int) (hl : l.length ≤ 1048576) (hm : m.length ≤ 1048576) : Ev (fun k => impl_Lacking.f k l m) (lackL l m) := by
  have := impl_Lacking_l0 l m hl hm l.length 0 [] (by omega) (by simp)
  rw [List.nil_append, List.drop_zero] at this
  exact this
theorem copy_map {α β : Type} (g : α → β) (l : List α) (d : α) (z : β) (i : Nat) (h : i < l.length) :
    ((l.take i).map g ++ List.replicate (l.length - i) z).set i (g (l.getD i d)) = (l.take (i + 1)).map g ++ List.replicate (l.length - (i + 1)) z := by
  have h1 : ((l.take i).map g).length = i := by rw [List.length_map, List.length_take]; omega
  rw [List.set_append_right _ _ (by omega), h1, Nat.sub_self]
  have h2 : l.length - i = (l.length - (i + 1)) + 1 := by omega
  rw [h2, List.replicate_succ, List.set_cons_zero, List.take_succ_eq_append_getElem h, List.map_append, List.append_assoc]
  congr 1
  rw [List.getD_eq_getElem?_getD, List.getElem?_eq_getElem h]
  rfl
theorem copy_map_len {α β : Type} (g : α → β) (l : List α) (z : β) (i : Nat) (h : i ≤ l.length) : ((l.take i).map g ++ List.replicate (l.length - i) z).length = l.length := by
  rw [List.length_append, List.length_map, List.length_take, List.length_replicate]; omega
def convSpan (x : S127) : S125 := ⟨x.f0, x.f1⟩
theorem laws_toSpanS_l0 (l : List S127) (hl : l.length ≤ 1048576) : ∀ (d i : Nat), i + d = l.length →
    Ev (fun k => laws_toSpanS.l0 k l ((l.take i).map convSpan ++ List.replicate (l.length - i) z125) (i : Int)) (l.map convSpan) := by
  intro d
  induction d with
  | zero =>
    intro i hi
    refine ev_succ ?_
    simp only [laws_toSpanS.l0]
    refine ev_else (by omega) (ev_some ?_)
    have e : i = l.length := by omega
    subst e
    simp
  | succ d ih =>
    intro i hi
    refine ev_succ ?_
    simp only [laws_toSpanS.l0, laws_toSpan.f, Option.bind_some]
    refine ev_if (by omega) (ev_if (by omega) (ev_if (by rw [copy_map_len _ _ _ _ (by omega)]; omega) ?_))
    have hs : ((l.take i).map convSpan ++ List.replicate (l.length - i) z125).set ((i : Int)).toNat (⟨(rd_T127 l (i : Int)).f0, (rd_T127 l (i : Int)).f1⟩ : S125) = (l.take (i + 1)).map convSpan ++ List.replicate (l.length - (i + 1)) z125 := copy_map convSpan l z127 z125 i (by omega)
    rw [hs, succ_i i (by omega)]
    exact ih (i + 1) (by omega)
theorem laws_toSpanS_f (l : List S127) (hl : l.length ≤ 1048576) : Ev (fun k => laws_toSpanS.f k l) (l.map convSpan) := by
  unfold laws_toSpanS.f
  refine ev_if (by omega) (ev_if (by rw [toNat_nat]; omega) ?_)
  have := laws_toSpanS_l0 l hl l.length 0 (by omega)
  simpa using this
theorem laws_eqSpan_refl (a0 : Int) (a1 : Int) : laws_eqSpan.f a0 a1 a0 a1 = some true := by
  unfold laws_eqSpan.f
  simp
theorem laws_eqSpanS_l0 (l : List S125) (hl : l.length ≤ 4611686018427387904) : ∀ (d i : Nat), i + d = l.length →
    Ev (fun k => laws_eqSpanS.l0 k l l (i : Int)) true := by
  intro d
  induction d with
  | zero =>
    intro i hi
    refine ev_succ ?_
    simp only [laws_eqSpanS.l0]
    exact ev_else (by omega) (ev_some rfl)
  | succ d ih =>
    intro i hi
    refine ev_succ ?_
    simp only [laws_eqSpanS.l0]
    refine ev_if (by omega) (ev_if (by omega) (ev_if (by omega) (ev_bind0 (laws_eqSpan_refl _ _) (ev_if rfl ?_))))
    rw [succ_i i (by omega)]
    exact ih (i + 1) (by omega)
theorem laws_eqSpanS_f (l : List S125) (hl : l.length ≤ 4611686018427387904) : Ev (fun k => laws_eqSpanS.f k l l) true := by
  unfold laws_eqSpanS.f
  exact ev_if rfl (laws_eqSpanS_l0 l hl l.length 0 (by omega))
theorem laws_szSpanS_f (l : List S127) (hl : l.length ≤ maxLen) (left : Int) (h0 : 0 ≤ left) (h1 : left ≤ 1048576) :
    ∃ r, laws_szSpanS.f l left = some r ∧ (r < 0 ∨ 0 ≤ r ∧ r + (l.length : Int) = left) := by
  unfold maxLen at hl
  unfold laws_szSpanS.f
  rw [wid (x := left - (l.length : Int)) (by omega) (by omega)]
  by_cases h : left - (l.length : Int) < 0
  · exact ⟨-1, by rw [if_pos h], .inl (by omega)⟩
  · exact ⟨left - (l.length : Int), by rw [if_neg h], .inr ⟨by omega, by omega⟩⟩
def mkSpan (m : Int) : S125 := ⟨m, (m + 1)⟩
def mkSpanL (m : Int) (n : Nat) : List S125 := (List.range n).map fun (j : Nat) => mkSpan (m + 2 * (j : Int))
theorem mkSpanL_succ (m : Int) (n : Nat) : mkSpanL m (n + 1) = mkSpan m :: mkSpanL (m + 2) n := by
  unfold mkSpanL
  rw [List.range_succ_eq_map, List.map_cons, List.map_map]
  have e0 : m + 2 * ((0 : Nat) : Int) = m := by omega
  rw [e0]
  congr 1
  apply List.map_congr_left
  intro j _
  show mkSpan (m + 2 * ((j + 1 : Nat) : Int)) = mkSpan (m + 2 + 2 * (j : Int))
  congr 1
  omega
theorem mkSpanL_length (m : Int) (n : Nat) : (mkSpanL m n).length = n := by simp [mkSpanL]
theorem rd_T125_set (l : List S125) (i : Nat) (v : S125) (h : i < l.length) : rd_T125 (l.set i v) (i : Int) = v := by
  show (l.set i v).getD i z125 = v
  rw [List.getD_eq_getElem?_getD, List.getElem?_set_self h]
  rfl
theorem laws_markSpanS_l0 : ∀ (d i : Nat) (l : List S125) (m : Int), i + d = l.length → l.length ≤ 1099511627776 → 0 ≤ m → m + 2 * (d : Int) ≤ 4611686018427387904 →
    Ev (fun k => laws_markSpanS.l0 k l m (i : Int)) (m + 2 * (d : Int), l.take i ++ mkSpanL m d) := by
  intro d
  induction d with
  | zero =>
    intro i l m hi hl h0 h1
    refine ev_succ ?_
    simp only [laws_markSpanS.l0]
    refine ev_else (by omega) (ev_some ?_)
    have e : i = l.length := by omega
    subst e
    simp [mkSpanL]
  | succ d ih =>
    intro i l m hi hl h0 h1
    refine ev_succ ?_
    simp only [laws_markSpanS.l0]
    obtain ⟨w1, w2⟩ : wrap64 (m + 1) = m + 1 ∧ wrap64 (m + 1 + 1) = m + 2 := by
      refine ⟨?_, ?_⟩ <;> exact wrap_to (by omega) (by omega) (by omega)
    rw [w1, w2]
    clear w1 w2
    refine ev_if (by omega) (ev_if (by omega) (ev_bind0 rfl ?_))
    have hil : i < l.length := by omega
    rw [succ_i i (by omega)]
    simp only [toNat_nat]
    have hlen : ∀ v : S125, i < (l.set i v).length := fun v => by rw [List.length_set]; exact hil
    have key := ih (i + 1) (l.set i (mkSpan m)) (m + 2) (by rw [List.length_set]; omega) (by rw [List.length_set]; omega) (by omega) (by omega)
    have e1 : (l.set i (mkSpan m)).take (i + 1) ++ mkSpanL (m + 2) d = l.take i ++ mkSpanL m (d + 1) := by
      rw [mkSpanL_succ, List.take_succ_eq_append_getElem (hlen _), List.take_set_of_le (Nat.le_refl i), List.getElem_set_self, List.append_assoc]
      rfl
    have e2 : m + 2 + 2 * (d : Int) = m + 2 * ((d + 1 : Nat) : Int) := by omega
    rw [e1, e2] at key
    have fin : ∀ v : S125, v = mkSpan m → Ev (fun k => laws_markSpanS.l0 k (l.set i v) (m + 2) ((i + 1 : Nat) : Int)) (m + 2 * ((d + 1 : Nat) : Int), l.take i ++ mkSpanL m (d + 1)) := fun v hv => by rw [hv]; exact key
    simp only [rd_T125_set _ _ _ hil, rd_T125_set _ _ _ (hlen _), List.set_set]
    exact fin _ rfl
theorem laws_markSpanS_f (l : List S125) (m : Int) (hl : l.length ≤ 1099511627776) (h0 : 0 ≤ m) (h1 : m ≤ 1099511627776) :
    Ev (fun k => laws_markSpanS.f k l m) (m + 2 * (l.length : Int), mkSpanL m l.length) := by
  have := laws_markSpanS_l0 l.length 0 l m (by omega) hl h0 (by omega)
  simpa [laws_markSpanS.f] using this
theorem mkSpanL_rd (m : Int) (n i : Nat) (h : i < n) : rd_T125 (mkSpanL m n) (i : Int) = mkSpan (m + 2 * (i : Int)) := by
  show (mkSpanL m n).getD i z125 = _
  rw [List.getD_eq_getElem?_getD]
  simp [mkSpanL, h]
theorem laws_heldSpanS_l0 (m : Int) (n : Nat) (hn : n ≤ 1099511627776) (h0 : 0 ≤ m) (h1 : m ≤ 1099511627776) : ∀ (d i : Nat), i + d = n →
    Ev (fun k => laws_heldSpanS.l0 k (mkSpanL m n) (m + 2 * (i : Int)) (i : Int)) (m + 2 * (n : Int)) := by
  intro d
  induction d with
  | zero =>
    intro i hi
    obtain rfl : i = n := by omega
    refine ev_succ ?_
    simp only [laws_heldSpanS.l0, mkSpanL_length]
    exact ev_else (by omega) (ev_some rfl)
  | succ d ih =>
    intro i hi
    refine ev_succ ?_
    simp only [laws_heldSpanS.l0, mkSpanL_length]
    rw [mkSpanL_rd m n i (by omega)]
    generalize hq : m + 2 * (i : Int) = q
    obtain ⟨w1, w2⟩ : wrap64 (q + 1) = q + 1 ∧ wrap64 (q + 1 + 1) = q + 2 := by
      refine ⟨?_, ?_⟩ <;> exact wrap_to (by omega) (by omega) (by omega)
    rw [w1, w2]
    clear w1 w2
    refine ev_if (by omega) (ev_if (by omega) (ev_if rfl (ev_if rfl ?_)))
    rw [succ_i i (by omega)]
    have := ih (i + 1) (by omega)
    rw [show m + 2 * ((i + 1 : Nat) : Int) = q + 2 by omega] at this
    exact this
theorem laws_heldSpanS_f (m : Int) (n : Nat) (hn : n ≤ 1099511627776) (h0 : 0 ≤ m) (h1 : m ≤ 1099511627776) : Ev (fun k => laws_heldSpanS.f k (mkSpanL m n) m) (m + 2 * (n : Int)) := by
  have := laws_heldSpanS_l0 m n hn h0 h1 n 0 (by omega)
  simpa [laws_heldSpanS.f] using this
theorem laws_toIntS_l0 (l : List Int) (hl : l.length ≤ 35184372088832) : ∀ (d i : Nat), i + d = l.length →
    Ev (fun k => laws_toIntS.l0 k l (l.take i ++ List.replicate (l.length - i) 0) (i : Int)) l := by
  intro d
  induction d with
  | zero =>
    intro i hi
    refine ev_succ ?_
    simp only [laws_toIntS.l0]
    refine ev_else (by omega) (ev_some ?_)
    have e : i = l.length := by omega
    subst e
    simp
  | succ d ih =>
    intro i hi
    refine ev_succ ?_
    simp only [laws_toIntS.l0]
    refine ev_if (by omega) (ev_if (by omega) (ev_if (by rw [copy_len _ _ _ (by omega)]; omega) ?_))
    rw [rd_nat, toNat_nat, copy_step l 0 0 i (by omega), succ_i i (by omega)]
    exact ih (i + 1) (by omega)
theorem laws_toIntS_f (l : List Int) (hl : l.length ≤ 35184372088832) : Ev (fun k => laws_toIntS.f k l) l := by
  unfold laws_toIntS.f
  refine ev_if (by omega) (ev_if (by rw [toNat_nat]; exact hl) ?_)
  have := laws_toIntS_l0 l hl l.length 0 (by omega)
  simpa using this
theorem laws_eqIntS_l0 (a b : List Int) (hl : a.length ≤ 35184372088832) (hab : a.length = b.length) : ∀ (d i : Nat), i + d = a.length →
    Ev (fun k => laws_eqIntS.l0 k a b (i : Int)) (decide (a.drop i = b.drop i)) := by
  intro d
  induction d with
  | zero =>
    intro i hi
    refine ev_succ ?_
    simp only [laws_eqIntS.l0]
    refine ev_else (by omega) (ev_some ?_)
    rw [drop_end a i (by omega), drop_end b i (by omega)]
    simp
  | succ d ih =>
    intro i hi
    refine ev_succ ?_
    simp only [laws_eqIntS.l0]
    refine ev_if (by omega) (ev_if (by omega) (ev_if (by omega) ?_))
    rw [rd_nat, rd_nat, drop_getD a 0 i (by omega), drop_getD b 0 i (by omega), succ_i i (by omega)]
    by_cases h : a.getD i 0 = b.getD i 0
    · refine ev_if h (ev_eq (ih (i + 1) (by omega)) ?_)
      rw [h]; simp
    · refine ev_else h (ev_some ?_)
      have : ¬ (a.getD i 0 :: a.drop (i + 1) = b.getD i 0 :: b.drop (i + 1)) := fun e => h (List.cons.inj e).1
      simp only [decide_eq_false this]
theorem laws_eqIntS_f (a b : List Int) (hl : a.length ≤ 35184372088832) : Ev (fun k => laws_eqIntS.f k a b) (decide (a = b)) := by
  unfold laws_eqIntS.f
  by_cases h : a.length = b.length
  · refine ev_if (by omega) ?_
    have := laws_eqIntS_l0 a b hl h a.length 0 (by omega)
    simpa using this
  · refine ev_else (by omega) (ev_some ?_)
    have : ¬ a = b := fun e => h (by rw [e])
    simp [this]
theorem laws_markIntS_l0 : ∀ (d i : Nat) (l : List Int) (m : Int), i + d = l.length → l.length ≤ 1099511627776 → 0 ≤ m → m + (d : Int) ≤ 4611686018427387904 →
    ∃ l', Ev (fun k => laws_markIntS.l0 k l m (i : Int)) (m + (d : Int), l') := by
  intro d
  induction d with
  | zero =>
    intro i l m hi hl h0 h1
    refine ⟨l, ev_succ ?_⟩
    simp only [laws_markIntS.l0]
    exact ev_else (by omega) (ev_some (by simp))
  | succ d ih =>
    intro i l m hi hl h0 h1
    obtain ⟨l', hl'⟩ := ih (i + 1) (l.set i m) (m + 1) (by rw [List.length_set]; omega) (by rw [List.length_set]; omega) (by omega) (by omega)
    refine ⟨l', ev_succ ?_⟩
    simp only [laws_markIntS.l0]
    refine ev_if (by omega) (ev_if (by omega) ?_)
    rw [succ_i i (by omega), wid (x := m + 1) (by omega) (by omega), toNat_nat]
    rw [show m + 1 + (d : Int) = m + ((d + 1 : Nat) : Int) by omega] at hl'
    exact hl'
theorem laws_markIntS_f (l : List Int) (m : Int) (hl : l.length ≤ 1099511627776) (h0 : 0 ≤ m) (h1 : m ≤ 1099511627776) : ∃ l', Ev (fun k => laws_markIntS.f k l m) (m + (l.length : Int), l') := by
  obtain ⟨l', h⟩ := laws_markIntS_l0 l.length 0 l m (by omega) hl h0 (by omega)
  exact ⟨l', by simpa [laws_markIntS.f] using h⟩
theorem FnExactLacking (l : List S127) (m : List Int) (hl : l.length ≤ maxLen ∧ ∀ x ∈ l, ((Lit.int .i64 x.f0).wf = true) ∧ (Lit.int .i64 x.f1).wf = true) (hm : m.length ≤ maxLen ∧ ∀ x ∈ m, (Lit.int .i64 x).wf = true) : ∃ k, laws_FnExactLacking.f k l m = some true := by
  refine Ev.rounds ?_
  unfold laws_FnExactLacking.f
  by_cases hbig : (m.length : Int) > 1048576
  · exact ev_if hbig (ev_some rfl)
  refine ev_else hbig ?_
  obtain ⟨r, hr, hc⟩ := laws_szSpanS_f l hl.1 1048576 (by omega) (by omega)
  refine ev_bind0 hr ?_
  by_cases hneg : r < 0
  · exact ev_if hneg (ev_some rfl)
  refine ev_else hneg ?_
  have h1 : l.length ≤ 1048576 := by omega
  have h2 : m.length ≤ 1048576 := by omega
  have h1' : (l.map convSpan).length ≤ 1048576 := by rw [List.length_map]; exact h1
  have h3 := lackL_le (l.map convSpan) m
  have et := laws_toSpanS_f l h1
  have ei := laws_toIntS_f m (by omega)
  have es := spec_Lacking_f (l.map convSpan) m h1' h2
  have ep := impl_Lacking_f (l.map convSpan) m h1' h2
  have eq1 := laws_eqSpanS_f (lackL (l.map convSpan) m) (by omega)
  have eq2 := laws_eqSpanS_f (l.map convSpan) (by omega)
  have eqi := laws_eqIntS_f m m (by omega)
  rw [decide_eq_true rfl] at eqi
  have mk1 := laws_markSpanS_f (l.map convSpan) 1 (by omega) (by omega) (by omega)
  obtain ⟨l', mk2⟩ := laws_markIntS_f m (1 + 2 * ((l.map convSpan).length : Int)) (by omega) (by omega) (by omega)
  have mk3 := laws_markSpanS_f (lackL (l.map convSpan) m) 1 (by omega) (by omega) (by omega)
  have hd := laws_heldSpanS_f 1 (lackL (l.map convSpan) m).length (by omega) (by omega) (by omega)
  refine ev_bind et (ev_bind ei (ev_bind es (ev_bind et (ev_bind ei (ev_bind ep (ev_bind eq1 (ev_if rfl ?_)))))))
  refine ev_bind et (ev_bind eq2 (ev_if rfl (ev_bind ei (ev_bind eqi (ev_if rfl (ev_bind mk1 (ev_bind mk2 (ev_else ?_ (ev_bind eq1 (ev_succ ?_))))))))))
  · show ¬ (1 + 2 * ((l.map convSpan).length : Int) + (m.length : Int) < 0)
    omega
  simp only [laws_FnExactLacking.j0]
  refine ev_else (by simp) (ev_bind mk3 (ev_bind hd (ev_else (by omega) (ev_if rfl (ev_bind et (ev_bind ei (ev_bind ep (ev_bind eq1 (ev_if rfl (ev_bind hd (ev_else (by omega) (ev_if rfl (ev_some rfl)))))))))))))

end Go.Proofs.Ytidfhfaekdahpaa.Pure
