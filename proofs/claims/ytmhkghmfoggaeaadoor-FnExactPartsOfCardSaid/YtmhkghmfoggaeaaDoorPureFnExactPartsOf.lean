/- For every line the program's PartsOf returns what the reference's returns. -/
import Derived.Test.YtmhkghmfoggaeaaDoorQFnExactPartsOfx2
import Derived.Lib.SplitLaws
import Derived.Lib.IndexBytes
import Derived.Lib.IndexLaws
namespace Go.Proofs.YtmhkghmfoggaeaaDoor.Pure
open Go.RowKit Go.Proofs.YtmhkghmfoggaeaaDoor.QFnExactPartsOf Go.Proofs.YtmhkghmfoggaeaaDoorW.PrintWords Go.Proofs.YtmhkghmfoggaeaaDoorW.PrintLast

set_option linter.unusedVariables false
set_option linter.unusedSimpArgs false
/-! small words on rounds -/
theorem wid {x : Int} (h0 : -9223372036854775808 ≤ x) (h1 : x ≤ 9223372036854775807) : wrap64 x = x := by
  unfold wrap64; omega
theorem wrap_to {x y : Int} (h : x = y) (h0 : -9223372036854775808 ≤ y) (h1 : y ≤ 9223372036854775807) : wrap64 x = y := by
  rw [h]; exact wid h0 h1
theorem ev_some {α : Type} {o : Option α} {r : α} (h : o = some r) : Ev (fun _ => o) r := ⟨0, fun _ _ => h⟩
theorem ev_succ {α : Type} {g : Nat → Option α} {r : α} (h : Ev (fun k => g (k + 1)) r) : Ev g r := Ev.step (fun _ => rfl) h
theorem ev_if {α : Type} {c : Prop} [Decidable c] {f g : Nat → Option α} {r : α} (h : c) (k : Ev f r) : Ev (fun n => if c then f n else g n) r := by
  simp only [if_pos h]; exact k
theorem ev_else {α : Type} {c : Prop} [Decidable c] {f g : Nat → Option α} {r : α} (h : ¬ c) (k : Ev g r) : Ev (fun n => if c then f n else g n) r := by
  simp only [if_neg h]; exact k
theorem ev_bind0 {α β : Type} {o : Option α} {f : Nat → α → Option β} {a : α} {r : β} (h : o = some a) (k : Ev (fun n => f n a) r) : Ev (fun n => o.bind (f n)) r := by
  subst h; exact k
theorem ev_bind {α β : Type} {g : Nat → Option α} {f : Nat → α → Option β} {a : α} {r : β} (h : Ev g a) (k : Ev (fun n => f n a) r) : Ev (fun n => (g n).bind (f n)) r := Ev.bind h k
theorem ev_eq {α : Type} {g : Nat → Option α} {a b : α} (h : Ev g a) (e : a = b) : Ev g b := e ▸ h
theorem tdivp {a b : Int} (h : 0 ≤ a) : Int.tdiv a b = a / b := Int.tdiv_eq_ediv_of_nonneg h
theorem tmodp {a b : Int} (h : 0 ≤ a) : Int.tmod a b = a % b := Int.tmod_eq_emod_of_nonneg h
theorem toList_iff (a b : ByteArray) : a.toList = b.toList ↔ a = b := by
  rw [ByteArray.toList_eq, ByteArray.toList_eq]
  exact ⟨fun h => ByteArray.ext (Array.toList_inj.mp h), fun h => by rw [h]⟩
theorem drop_getD {α : Type} (l : List α) (d : α) (i : Nat) (h : i < l.length) : l.drop i = l.getD i d :: l.drop (i + 1) := by
  rw [List.drop_eq_getElem_cons h, List.getD_eq_getElem?_getD, List.getElem?_eq_getElem h]
  rfl
theorem drop_end {α : Type} (l : List α) (i : Nat) (h : l.length ≤ i) : l.drop i = [] := List.drop_eq_nil_of_le h
theorem rd_nat (l : List Int) (i : Nat) : rd l (i : Int) = l.getD i 0 := rfl
theorem copy_step {α : Type} (l : List α) (d z : α) (i : Nat) (h : i < l.length) :
    (l.take i ++ List.replicate (l.length - i) z).set i (l.getD i d) = l.take (i + 1) ++ List.replicate (l.length - (i + 1)) z := by
  have h1 : (l.take i).length = i := by rw [List.length_take]; omega
  rw [List.set_append_right _ _ (by omega), h1, Nat.sub_self]
  have h2 : l.length - i = (l.length - (i + 1)) + 1 := by omega
  rw [h2, List.replicate_succ, List.set_cons_zero, List.take_succ_eq_append_getElem h, List.append_assoc]
  congr 1
  rw [List.getD_eq_getElem?_getD, List.getElem?_eq_getElem h]
  rfl
theorem copy_len {α : Type} (l : List α) (z : α) (i : Nat) (h : i ≤ l.length) : (l.take i ++ List.replicate (l.length - i) z).length = l.length := by
  rw [List.length_append, List.length_take, List.length_replicate]; omega
theorem toNat_nat (i : Nat) : ((i : Int)).toNat = i := rfl
theorem succ_i (i : Nat) (h : i ≤ 9223372036854775806) : wrap64 ((i : Int) + 1) = ((i + 1 : Nat) : Int) := wrap_to (by omega) (by omega) (by omega)
theorem pred_i (i : Nat) (h : 0 < i) (h' : i ≤ 9223372036854775806) : wrap64 ((i : Int) - 1) = ((i - 1 : Nat) : Int) := wrap_to (by omega) (by omega) (by omega)
/-! the words of a line: between blanks, none empty -/
def bs (s : ByteArray) : List UInt8 := s.data.toList
def mkS (l : List UInt8) : ByteArray := ⟨l.toArray⟩
theorem mkS_bs (s : ByteArray) : mkS (bs s) = s := rfl
theorem bs_mk (l : List UInt8) : bs (mkS l) = l := rfl
theorem bs_len (s : ByteArray) : (bs s).length = s.size := by
  unfold bs
  rw [Array.length_toList]
  rfl
theorem bs_extract (s : ByteArray) (i j : Nat) : bs (s.extract i j) = ((bs s).take j).drop i := by
  unfold bs
  rw [ByteArray.data_extract, Array.toList_extract, List.extract_eq_take_drop, List.drop_take]
theorem bs_inj {a b : ByteArray} (h : bs a = bs b) : a = b := by
  rw [← mkS_bs a, h, mkS_bs]
theorem bs_at (s : ByteArray) (i : Nat) (x : UInt8) (l : List UInt8) (h : (bs s).drop i = x :: l) : i < s.size ∧ bt s (i : Int) = (x.toNat : Int) ∧ (bs s).drop (i + 1) = l ∧ (bs s).take (i + 1) = (bs s).take i ++ [x] := by
  have hl : i < (bs s).length := by
    rcases Nat.lt_or_ge i (bs s).length with h1 | h1
    · exact h1
    · rw [List.drop_eq_nil_of_le h1] at h; cases h
  have hs : i < s.size := by rw [← bs_len]; exact hl
  have e := List.drop_eq_getElem_cons hl
  rw [h] at e
  injection e with e1 e2
  refine ⟨hs, ?_, e2.symm, ?_⟩
  · unfold bt
    rw [e1]
    simp [hs, bs]
    rfl
  · rw [List.take_succ_eq_append_getElem hl, e1]
def wordsL : List UInt8 → List UInt8 → List (List UInt8)
  | cur, [] => if cur = [] then [] else [cur]
  | cur, b :: l => if b = 32 then (if cur = [] then [] else [cur]) ++ wordsL [] l else wordsL (cur ++ [b]) l
def okB (x : UInt8) : Bool := decide (32 ≤ x.toNat) && decide (x.toNat ≤ 126)
def lineR (o : List ByteArray) : List ByteArray × Bool := if (o.length : Int) > 10 then ([], false) else (o, true)
theorem lineR_len (o : List ByteArray) : (lineR o).1.length ≤ 10 := by
  unfold lineR
  by_cases h : (o.length : Int) > 10
  · rw [if_pos h]; simp
  · rw [if_neg h]; simp only; omega
def partsV (s : ByteArray) : List ByteArray × Bool :=
  if (s.size : Int) > 600 then ([], false) else if (bs s).all okB = true then lineR ((wordsL [] (bs s)).map mkS) else ([], false)
theorem partsV_len (s : ByteArray) : (partsV s).1.length ≤ 10 := by
  unfold partsV
  by_cases h : (s.size : Int) > 600
  · rw [if_pos h]; simp
  · rw [if_neg h]
    by_cases h2 : (bs s).all okB = true
    · rw [if_pos h2]; exact lineR_len _
    · rw [if_neg h2]; simp
theorem wordsL_end : ∀ (a cur : List UInt8), (∀ b ∈ a, b ≠ 32) → wordsL cur a = if cur ++ a = [] then [] else [cur ++ a]
  | [], cur, _ => by simp [wordsL]
  | b :: a, cur, h => by
    have hb := h b (List.mem_cons_self ..)
    rw [wordsL, if_neg hb, wordsL_end a (cur ++ [b]) (fun c hc => h c (List.mem_cons_of_mem _ hc))]
    simp
theorem wordsL_run : ∀ (a cur b : List UInt8), (∀ x ∈ a, x ≠ 32) → wordsL cur (a ++ 32 :: b) = (if cur ++ a = [] then [] else [cur ++ a]) ++ wordsL [] b
  | [], cur, b, _ => by simp [wordsL]
  | x :: a, cur, b, h => by
    have hx := h x (List.mem_cons_self ..)
    rw [List.cons_append, wordsL, if_neg hx, wordsL_run a (cur ++ [x]) b (fun c hc => h c (List.mem_cons_of_mem _ hc))]
    simp
theorem spec_parts_end (s : ByteArray) (hs : s.size ≤ 600) (out : List ByteArray) (b : Int) : Ev (fun k => spec_PartsOf.l0 k s out b ((s.size + 1 : Nat) : Int)) (lineR out) := by
  refine ev_succ ?_
  simp only [spec_PartsOf.l0]
  refine ev_else (by omega) ?_
  by_cases h : (out.length : Int) > 10
  · rw [show lineR out = ([], false) from if_pos h]; exact ev_if h (ev_some rfl)
  · rw [show lineR out = (out, true) from if_neg h]; exact ev_else h (ev_some rfl)
theorem mk_cur (s : ByteArray) (b i : Nat) (hi : i ≤ s.size) : s.extract b i = mkS (((bs s).take i).drop b) := by
  apply bs_inj
  rw [bs_extract]
  rfl
theorem cur_nil (s : ByteArray) (b i : Nat) (hi : i ≤ s.size) : ((bs s).take i).drop b = [] ↔ i ≤ b := by
  rw [List.drop_eq_nil_iff, List.length_take, bs_len]
  omega
theorem spec_parts_l0 (s : ByteArray) (hs : s.size ≤ 600) : ∀ (l : List UInt8) (i b : Nat) (out : List ByteArray), (bs s).drop i = l → b ≤ i → i ≤ s.size → out.length ≤ i →
    Ev (fun k => spec_PartsOf.l0 k s out (b : Int) (i : Int)) (if l.all okB = true then lineR (out ++ (wordsL (((bs s).take i).drop b) l).map mkS) else ([], false)) := by
  intro l
  induction l with
  | nil =>
    intro i b out hl hb hi ho
    have hend : i = s.size := by
      have := congrArg List.length hl
      rw [List.length_drop, bs_len] at this
      simp at this
      omega
    have hn := cur_nil s b i hi
    have hm := mk_cur s b i hi
    rw [if_pos (by simp)]
    generalize hc : ((bs s).take i).drop b = cur at hn hm
    have s1 : wrap64 ((i : Int) + 1) = ((s.size + 1 : Nat) : Int) := wrap_to (by omega) (by omega) (by omega)
    have hend2 : Ev (fun k => spec_PartsOf.j2 k s out (b : Int) (i : Int) false) (lineR (out ++ (wordsL cur []).map mkS)) := by
      refine ev_succ ?_
      simp only [spec_PartsOf.j2]
      refine ev_else (by simp) ?_
      rw [s1]
      clear s1
      by_cases hbi : b < i
      · refine ev_if (by omega) (ev_if (by omega) (ev_if (by omega) (ev_if (by omega) (ev_if (by omega) ?_))))
        have e : s.extract ((b : Int)).toNat ((i : Int)).toNat = mkS cur := hm
        have hne : ¬ cur = [] := fun h => by have := hn.1 h; omega
        rw [e]
        refine ev_eq (spec_parts_end s hs (out ++ [mkS cur]) _) ?_
        simp [wordsL, hne]
      · refine ev_else (by omega) ?_
        have hne : cur = [] := hn.2 (by omega)
        refine ev_eq (spec_parts_end s hs out _) ?_
        simp [wordsL, hne]
    clear s1
    refine ev_succ ?_
    simp only [spec_PartsOf.l0]
    refine ev_if (by omega) (ev_else (by omega) (ev_succ ?_))
    simp only [spec_PartsOf.j1]
    exact ev_else (by simp) (ev_else (by omega) hend2)
  | cons x l ih =>
    intro i b out hl hb hi ho
    obtain ⟨hlt, hx, hdr, htk⟩ := bs_at s i x l hl
    have hn := cur_nil s b i hi
    have hm := mk_cur s b i hi
    have hbt : bt s (i : Int) = (x.toNat : Int) := hx
    have q1 : (i : Int) + 1 = ((i + 1 : Nat) : Int) ∧ -9223372036854775808 ≤ ((i + 1 : Nat) : Int) ∧ ((i + 1 : Nat) : Int) ≤ 9223372036854775807 := by omega
    have bad : okB x = false → Ev (fun k => spec_PartsOf.l0 k s out (b : Int) (i : Int)) ([], false) := by
      intro hk
      have hk2 : x.toNat < 32 ∨ 126 < x.toNat := by
        unfold okB at hk
        simp at hk
        omega
      have hj : Ev (fun k => spec_PartsOf.j1 k s out (b : Int) (i : Int) true) ([], false) := by
        refine ev_succ ?_
        simp only [spec_PartsOf.j1]
        exact ev_if trivial (ev_some rfl)
      refine ev_succ ?_
      simp only [spec_PartsOf.l0]
      rw [hbt]
      refine ev_if (by omega) (ev_if (by omega) (ev_if (by omega) ?_))
      by_cases h32 : (x.toNat : Int) < 32
      · exact ev_if h32 hj
      · refine ev_else h32 ?_
        rw [decide_eq_true (show (x.toNat : Int) > 126 by omega)]
        exact hj
    cases hk : okB x with
    | false =>
      rw [if_neg (by simp [hk])]
      exact bad hk
    | true =>
      have hk2 : 32 ≤ x.toNat ∧ x.toNat ≤ 126 := by
        unfold okB at hk
        simpa using hk
      have hall : (x :: l).all okB = l.all okB := by simp [hk]
      rw [hall]
      have first : ∀ r, Ev (fun k => spec_PartsOf.j2 k s out (b : Int) (i : Int) ((x.toNat : Int) != 32)) r → Ev (fun k => spec_PartsOf.l0 k s out (b : Int) (i : Int)) r := by
        intro r hr
        refine ev_succ ?_
        simp only [spec_PartsOf.l0]
        rw [hbt]
        refine ev_if (by omega) (ev_if (by omega) (ev_if (by omega) (ev_else (by omega) ?_)))
        rw [decide_eq_false (show ¬ (x.toNat : Int) > 126 by omega)]
        refine ev_succ ?_
        simp only [spec_PartsOf.j1]
        rw [hbt]
        exact ev_else (by simp) (ev_if (by omega) (ev_if (by omega) hr))
      refine first _ ?_
      by_cases h32 : x = 32
      · subst h32
        have hfalse : (((32 : UInt8).toNat : Int) != 32) = false := rfl
        rw [hfalse]
        have ihn := fun out' ho' => ih (i + 1) (i + 1) out' hdr (Nat.le_refl _) (by omega) ho'
        have ecur : ((bs s).take (i + 1)).drop (i + 1) = [] := (cur_nil s (i + 1) (i + 1) (by omega)).2 (Nat.le_refl _)
        rw [ecur] at ihn
        generalize hc : ((bs s).take i).drop b = cur at hn hm ⊢
        have hw : wordsL cur (32 :: l) = (if cur = [] then [] else [cur]) ++ wordsL [] l := by rw [wordsL, if_pos rfl]
        rw [hw]
        have s1 : wrap64 ((i : Int) + 1) = ((i + 1 : Nat) : Int) := wrap_to q1.1 q1.2.1 q1.2.2
        refine ev_succ ?_
        simp only [spec_PartsOf.j2]
        refine ev_else (by simp) ?_
        rw [s1]
        clear s1
        by_cases hbi : b < i
        · refine ev_if (by omega) (ev_if (by omega) (ev_if (by omega) (ev_if (by omega) (ev_if (by omega) ?_))))
          have e : s.extract ((b : Int)).toNat ((i : Int)).toNat = mkS cur := hm
          have hne : ¬ cur = [] := fun h => by have := hn.1 h; omega
          rw [e]
          refine ev_eq (ihn (out ++ [mkS cur]) (by rw [List.length_append, List.length_singleton]; omega)) ?_
          rw [if_neg hne]
          simp
        · refine ev_else (by omega) ?_
          have hne : cur = [] := hn.2 (by omega)
          refine ev_eq (ihn out (by omega)) ?_
          rw [if_pos hne]
          simp
      · have htrue : ((x.toNat : Int) != 32) = true := by
          simp only [bne_iff_ne, ne_eq]
          intro h
          apply h32
          apply UInt8.toNat_inj.1
          have : (32 : UInt8).toNat = 32 := rfl
          omega
        rw [htrue]
        have ihn := ih (i + 1) b out hdr (by omega) (by omega) (by omega)
        have ecur : ((bs s).take (i + 1)).drop b = ((bs s).take i).drop b ++ [x] := by
          rw [htk, List.drop_append_of_le_length (by rw [List.length_take, bs_len]; omega)]
        rw [ecur] at ihn
        have hw : wordsL (((bs s).take i).drop b) (x :: l) = wordsL (((bs s).take i).drop b ++ [x]) l := by rw [wordsL, if_neg h32]
        rw [hw]
        have s1 : wrap64 ((i : Int) + 1) = ((i + 1 : Nat) : Int) := wrap_to q1.1 q1.2.1 q1.2.2
        refine ev_succ ?_
        simp only [spec_PartsOf.j2]
        refine ev_if trivial ?_
        rw [s1]
        exact ihn
theorem spec_PartsOf_f (s : ByteArray) : Ev (fun k => spec_PartsOf.f k s) (partsV s) := by
  unfold spec_PartsOf.f partsV
  refine ev_bind0 rfl ?_
  by_cases h : (s.size : Int) > 600
  · rw [if_pos h]; exact ev_if h (ev_some rfl)
  · rw [if_neg h]
    refine ev_else h ?_
    refine ev_eq (spec_parts_l0 s (by omega) (bs s) 0 0 [] rfl (Nat.le_refl _) (by omega) (by simp)) ?_
    simp
def sp32 : ByteArray := ⟨#[32]⟩
def neB (p : ByteArray) : Bool := decide (p.toList ≠ [])
theorem toList_nil (p : ByteArray) : p.toList = [] ↔ bs p = [] := by rw [ByteArray.toList_eq]; rfl
theorem neB_one (a : List UInt8) : [mkS a].filter neB = (if a = [] then [] else [a]).map mkS := by
  have e : ((mkS a).toList = []) ↔ a = [] := toList_nil (mkS a)
  by_cases h : a = []
  · rw [if_pos h, List.filter_cons_of_neg (by simp [neB, e.2 h])]; rfl
  · rw [if_neg h, List.filter_cons_of_pos (by simp [neB, e, h])]; rfl
theorem not32 {l : List UInt8} (h : ∀ k : Nat, l[k]? ≠ some 32) : ∀ b ∈ l, b ≠ 32 := by
  intro b hb e
  obtain ⟨k, hk⟩ := List.mem_iff_getElem?.1 hb
  exact h k (by rw [hk, e])
theorem split_words : ∀ (n : Nat) (s : ByteArray), s.size ≤ n → (Lib.splitB sp32 0 (Lib.countB s sp32) s).filter neB = (wordsL [] (bs s)).map mkS := by
  have h1 : ∀ s, Lib.indexB s sp32 = Lib.indexByte (bs s) 32 := fun s => Lib.one s sp32 rfl
  intro n
  induction n with
  | zero =>
    intro s hs
    have hb : bs s = [] := List.eq_nil_of_length_eq_zero (by rw [bs_len]; omega)
    have hi : Lib.indexB s sp32 = -1 := by rw [h1, hb]; rfl
    rw [Lib.countB_miss s sp32 hi, Lib.splitB_zero, ← mkS_bs s, neB_one, bs_mk, hb]
    rfl
  | succ n ih =>
    intro s hs
    rcases Int.lt_or_le (Lib.indexB s sp32) 0 with hneg | hpos
    · have hge : -1 ≤ Lib.indexB s sp32 := by rw [h1]; exact Lib.indexByte_ge _ _
      have hi : Lib.indexB s sp32 = -1 := by omega
      have hno := not32 (Lib.indexByte_none (by rw [← h1]; exact hi))
      rw [Lib.countB_miss s sp32 hi, Lib.splitB_zero]
      have e := neB_one (bs s)
      rw [mkS_bs] at e
      rw [e, wordsL_end (bs s) [] hno]
      simp
    · obtain ⟨i, hi⟩ := Int.eq_ofNat_of_zero_le hpos
      obtain ⟨hat, hno⟩ := Lib.indexByte_some (l := bs s) (c := 32) (o := i) (by rw [← h1]; exact hi)
      have hlt : i < (bs s).length := (List.getElem?_eq_some_iff.1 hat).1
      have hget : (bs s)[i] = 32 := (List.getElem?_eq_some_iff.1 hat).2
      have hz : sp32.size = 1 := rfl
      have hdec : bs s = (bs s).take i ++ 32 :: (bs s).drop (i + 1) := by
        have := List.take_append_drop i (bs s)
        rw [List.drop_eq_getElem_cons hlt, hget] at this
        exact this.symm
      have hnoA : ∀ x ∈ (bs s).take i, x ≠ 32 := by
        refine not32 fun k => ?_
        rw [List.getElem?_take]
        by_cases hk : k < i
        · rw [if_pos hk]; exact hno k hk
        · rw [if_neg hk]; simp
      have hr : bs (s.extract (i + 1) s.size) = (bs s).drop (i + 1) := by
        rw [bs_extract, List.take_of_length_le (by rw [bs_len]; omega)]
      have hrs : (s.extract (i + 1) s.size).size ≤ n := by
        have e := congrArg List.length hr
        rw [bs_len, List.length_drop, bs_len] at e
        rw [bs_len] at hlt
        omega
      have step := ih (s.extract (i + 1) s.size) hrs
      have hf : s.extract 0 (i + 0) = mkS ((bs s).take i) := by
        apply bs_inj
        rw [bs_extract]
        rfl
      rw [Lib.countB_hit s sp32 i (by rw [hz]; omega) hi, hz, Nat.add_comm 1, Lib.splitB_hit sp32 0 _ s i hi, hz, hf]
      have e1 : ∀ (p : ByteArray) (T : List ByteArray), (p :: T).filter neB = [p].filter neB ++ T.filter neB := fun p T => by rw [← List.filter_append]; rfl
      rw [e1, neB_one, step, hr]
      conv => rhs; rw [hdec, wordsL_run _ _ _ hnoA]
      simp
theorem impl_parts_l1 (T : List ByteArray) (hT : T.length ≤ 1000) : ∀ (d j : Nat) (acc : List ByteArray), j + d = T.length → acc.length ≤ j →
    Ev (fun k => impl_PartsOf.l1 k acc T (T.length : Int) (j : Int)) (lineR (acc ++ (T.drop j).filter neB)) := by
  intro d
  induction d with
  | zero =>
    intro j acc hj ha
    refine ev_succ ?_
    simp only [impl_PartsOf.l1]
    refine ev_else (by omega) ?_
    rw [drop_end T j (by omega)]
    simp only [List.filter_nil, List.append_nil]
    by_cases h : (acc.length : Int) > 10
    · rw [show lineR acc = ([], false) from if_pos h]; exact ev_if h (ev_some rfl)
    · rw [show lineR acc = (acc, true) from if_neg h]; exact ev_else h (ev_some rfl)
  | succ d ih =>
    intro j acc hj ha
    have e : rdOf ByteArray.empty T (j : Int) = T.getD j ByteArray.empty := rfl
    have hs := succ_i j (by omega)
    have hdr := drop_getD T ByteArray.empty j (by omega)
    refine ev_succ ?_
    simp only [impl_PartsOf.l1]
    rw [e, hs, hdr]
    clear hs
    generalize T.getD j ByteArray.empty = p
    refine ev_if (by omega) (ev_if (by omega) (ev_if (by omega) ?_))
    by_cases h : p.toList = []
    · rw [List.filter_cons_of_neg (by simp [neB, h])]
      exact ev_if h (ih (j + 1) acc (by omega) (by omega))
    · rw [List.filter_cons_of_pos (by simp [neB, h])]
      refine ev_else h (ev_if (by omega) ?_)
      refine ev_eq (ih (j + 1) (acc ++ [p]) (by omega) (by rw [List.length_append, List.length_singleton]; omega)) ?_
      simp
theorem impl_parts_l0 (s : ByteArray) (hs : s.size ≤ 600) : ∀ (l : List UInt8) (i : Nat), (bs s).drop i = l → i ≤ s.size →
    Ev (fun k => impl_PartsOf.l0 k s (i : Int)) (if l.all okB = true then lineR ((wordsL [] (bs s)).map mkS) else ([], false)) := by
  intro l
  induction l with
  | nil =>
    intro i hl hi
    have hend : i = s.size := by
      have := congrArg List.length hl
      rw [List.length_drop, bs_len] at this
      simp at this
      omega
    have hlen : (Lib.splitB sp32 0 (Lib.countB s sp32) s).length = Lib.countB s sp32 + 1 := Lib.splitB_all sp32 (by decide) 0 _ s rfl
    have hcnt := Lib.countB_le sp32 (by decide) s.size s (Nat.le_refl _)
    have hsp : strings_Split.f s ⟨#[32]⟩ = some (Lib.splitB sp32 0 (Lib.countB s sp32) s) := if_pos ⟨by omega, by decide⟩
    rw [if_pos (by simp), ← split_words s.size s (Nat.le_refl _)]
    refine ev_succ ?_
    simp only [impl_PartsOf.l0]
    refine ev_else (by omega) (ev_bind0 hsp ?_)
    exact impl_parts_l1 (Lib.splitB sp32 0 (Lib.countB s sp32) s) (by rw [hlen]; omega) (Lib.splitB sp32 0 (Lib.countB s sp32) s).length 0 [] (by omega) (by simp)
  | cons x l ih =>
    intro i hl hi
    obtain ⟨hlt, hbt, hdr, _⟩ := bs_at s i x l hl
    have step := ih (i + 1) hdr (by omega)
    refine ev_succ ?_
    simp only [impl_PartsOf.l0]
    rw [hbt, succ_i i (by omega)]
    refine ev_if (by omega) (ev_if (by omega) ?_)
    cases hk : okB x with
    | false =>
      have hk2 : x.toNat < 32 ∨ 126 < x.toNat := by
        unfold okB at hk
        simp at hk
        omega
      rw [if_neg (by simp [hk])]
      by_cases h32 : (x.toNat : Int) < 32
      · exact ev_if h32 (ev_some rfl)
      · exact ev_else h32 (ev_if (by omega) (ev_some rfl))
    | true =>
      have hk2 : 32 ≤ x.toNat ∧ x.toNat ≤ 126 := by
        unfold okB at hk
        simpa using hk
      have hall : (x :: l).all okB = l.all okB := by simp [hk]
      rw [hall]
      exact ev_else (by omega) (ev_else (by omega) step)
theorem impl_PartsOf_f (s : ByteArray) : Ev (fun k => impl_PartsOf.f k s) (partsV s) := by
  unfold impl_PartsOf.f partsV
  by_cases h : (s.size : Int) > 600
  · rw [if_pos h]; exact ev_if h (ev_some rfl)
  · rw [if_neg h]
    exact ev_else h (impl_parts_l0 s (by omega) (bs s) 0 rfl (by omega))
theorem laws_markText_l0 : ∀ (n : Nat) (s : ByteArray), s.size + n ≤ 9223372036854775806 → ∃ r, Ev (fun k => laws_markText.l0 k (n : Int) s) r := by
  intro n
  induction n using Nat.strongRecOn with
  | ind n ih =>
    intro s hs
    by_cases h : 0 < n
    · have e : wrap64 (Int.tdiv (n : Int) 10) = ((n / 10 : Nat) : Int) := by rw [tdivp (Int.natCast_nonneg _)]; exact wrap_to (by omega) (by omega) (by omega)
      have hsz : ∀ z : Int, (strOfNums [z]).size = 1 := fun z => rfl
      obtain ⟨r, hr⟩ := ih (n / 10) (by omega) (strOfNums [(wrap64 (48 + (Int.tmod (n : Int) 10))) % 256] ++ s) (by rw [ByteArray.size_append, hsz]; omega)
      refine ⟨r, ev_succ ?_⟩
      simp only [laws_markText.l0]
      refine ev_if (by omega) (ev_bind0 rfl (ev_if (by rw [hsz]; omega) ?_))
      rw [e]
      exact hr
    · refine ⟨(⟨#[109]⟩ : ByteArray) ++ s, ev_succ ?_⟩
      simp only [laws_markText.l0]
      exact ev_else (by omega) (ev_if (by omega) (ev_some rfl))
theorem laws_markText_f (m : Int) (h0 : 0 ≤ m) (h1 : m ≤ 4611686018427387904) : ∃ r, Ev (fun k => laws_markText.f k m) r := by
  unfold laws_markText.f
  by_cases h : m ≤ 0
  · exact ⟨_, ev_if h (ev_some rfl)⟩
  · obtain ⟨n, rfl⟩ := Int.eq_ofNat_of_zero_le h0
    obtain ⟨r, hr⟩ := laws_markText_l0 n ⟨#[]⟩ (by
      have : (⟨#[]⟩ : ByteArray).size = 0 := rfl
      omega)
    exact ⟨r, ev_else h hr⟩
/-- the text of a mark -/
noncomputable def mtext (m : Int) : ByteArray := if h : 0 ≤ m ∧ m ≤ 4611686018427387904 then Classical.choose (laws_markText_f m h.1 h.2) else ⟨#[]⟩
theorem mtext_ev (m : Int) (h0 : 0 ≤ m) (h1 : m ≤ 4611686018427387904) : Ev (fun k => laws_markText.f k m) (mtext m) := by
  unfold mtext
  rw [dif_pos ⟨h0, h1⟩]
  exact Classical.choose_spec (laws_markText_f m h0 h1)
noncomputable def markT (m : Int) (n : Nat) : List ByteArray := (List.range n).map fun i : Nat => mtext (m + (i : Int))
theorem markT_length (m : Int) (n : Nat) : (markT m n).length = n := by simp [markT]
theorem markT_getD (m : Int) (n i : Nat) (h : i < n) : (markT m n).getD i ByteArray.empty = mtext (m + (i : Int)) := by
  have h' : i < (markT m n).length := by rw [markT_length]; exact h
  rw [List.getD_eq_getElem?_getD, List.getElem?_eq_getElem h']
  simp [markT]
theorem markT_set (m : Int) (l : List ByteArray) (i : Nat) (h : i < l.length) : (markT m i ++ l.drop i).set i (mtext (m + (i : Int))) = markT m (i + 1) ++ l.drop (i + 1) := by
  rw [List.set_append_right _ _ (by rw [markT_length]; omega), markT_length, Nat.sub_self, drop_getD l ByteArray.empty i h, List.set_cons_zero]
  simp [markT, List.range_succ]
theorem laws_markStringS_l0 (l : List ByteArray) (m : Int) (hl : l.length ≤ 1099511627776) (h0 : 0 ≤ m) (h1 : m ≤ 1099511627776) : ∀ (d i : Nat), i + d = l.length →
    Ev (fun k => laws_markStringS.l0 k (markT m i ++ l.drop i) (m + (i : Int)) (i : Int)) (m + (l.length : Int), markT m l.length) := by
  intro d
  induction d with
  | zero =>
    intro i hi
    have e : i = l.length := by omega
    refine ev_succ ?_
    simp only [laws_markStringS.l0]
    refine ev_else (by rw [List.length_append, markT_length, List.length_drop]; omega) (ev_some ?_)
    rw [drop_end l i (by omega), e]
    simp
  | succ d ih =>
    intro i hi
    have hm := mtext_ev (m + (i : Int)) (by omega) (by omega)
    refine ev_succ ?_
    simp only [laws_markStringS.l0]
    refine ev_if (by rw [List.length_append, markT_length, List.length_drop]; omega) (ev_bind hm (ev_if (by omega) ?_))
    rw [succ_i i (by omega), wrap_to (x := m + (i : Int) + 1) (y := m + ((i + 1 : Nat) : Int)) (by omega) (by omega) (by omega), toNat_nat, markT_set m l i (by omega)]
    exact ih (i + 1) (by omega)
theorem laws_markStringS_f (l : List ByteArray) (m : Int) (hl : l.length ≤ 1099511627776) (h0 : 0 ≤ m) (h1 : m ≤ 1099511627776) : Ev (fun k => laws_markStringS.f k l m) (m + (l.length : Int), markT m l.length) := by
  have := laws_markStringS_l0 l m hl h0 h1 l.length 0 (by omega)
  simpa [laws_markStringS.f, markT] using this
theorem laws_heldStringS_l0 (m : Int) (n : Nat) (hl : n ≤ 1099511627776) (h0 : 0 ≤ m) (h1 : m ≤ 1099511627776) : ∀ (d i : Nat), i + d = n →
    Ev (fun k => laws_heldStringS.l0 k (markT m n) (m + (i : Int)) (i : Int)) (m + (n : Int)) := by
  intro d
  induction d with
  | zero =>
    intro i hi
    refine ev_succ ?_
    simp only [laws_heldStringS.l0]
    refine ev_else (by rw [markT_length]; omega) (ev_some ?_)
    rw [show i = n by omega]
  | succ d ih =>
    intro i hi
    have hm := mtext_ev (m + (i : Int)) (by omega) (by omega)
    have e : rdOf ByteArray.empty (markT m n) (i : Int) = mtext (m + (i : Int)) := markT_getD m n i (by omega)
    refine ev_succ ?_
    simp only [laws_heldStringS.l0]
    rw [e]
    refine ev_if (by rw [markT_length]; omega) (ev_if (by omega) (ev_bind hm (ev_if rfl ?_)))
    rw [succ_i i (by omega), wrap_to (x := m + (i : Int) + 1) (y := m + ((i + 1 : Nat) : Int)) (by omega) (by omega) (by omega)]
    exact ih (i + 1) (by omega)
theorem laws_heldStringS_f (m : Int) (n : Nat) (hl : n ≤ 1099511627776) (h0 : 0 ≤ m) (h1 : m ≤ 1099511627776) : Ev (fun k => laws_heldStringS.f k (markT m n) m) (m + (n : Int)) := by
  have := laws_heldStringS_l0 m n hl h0 h1 n 0 (by omega)
  simpa [laws_heldStringS.f] using this
theorem laws_eqStringS_l0 (a : List ByteArray) (hl : a.length ≤ 1099511627776) : ∀ (d i : Nat), i + d = a.length → Ev (fun k => laws_eqStringS.l0 k a a (i : Int)) true := by
  intro d
  induction d with
  | zero =>
    intro i hi
    refine ev_succ ?_
    simp only [laws_eqStringS.l0]
    exact ev_else (by omega) (ev_some rfl)
  | succ d ih =>
    intro i hi
    refine ev_succ ?_
    simp only [laws_eqStringS.l0]
    refine ev_if (by omega) (ev_if (by omega) (ev_if (by omega) (ev_if (by trivial) ?_)))
    rw [succ_i i (by omega)]
    exact ih (i + 1) (by omega)
theorem laws_eqStringS_f (a : List ByteArray) (hl : a.length ≤ 1099511627776) : Ev (fun k => laws_eqStringS.f k a a) true := by
  unfold laws_eqStringS.f
  exact ev_if rfl (laws_eqStringS_l0 a hl a.length 0 (by omega))
theorem FnExactPartsOf (a0 : ByteArray) : ∃ k, laws_FnExactPartsOf.f k a0 = some true := by
  refine Ev.rounds ?_
  unfold laws_FnExactPartsOf.f
  by_cases hbig : (a0.size : Int) > 1048576
  · exact ev_if hbig (ev_some rfl)
  refine ev_else hbig ?_
  have hl := partsV_len a0
  have he := laws_eqStringS_f (partsV a0).1 (by omega)
  have hm := laws_markStringS_f (partsV a0).1 1 (by omega) (by omega) (by omega)
  have hh := laws_heldStringS_f 1 (partsV a0).1.length (by omega) (by omega) (by omega)
  refine ev_bind (spec_PartsOf_f a0) (ev_bind (impl_PartsOf_f a0) (ev_bind he (ev_if rfl (ev_else (by simp) (ev_bind hm (ev_bind hh (ev_else (by omega) (ev_if rfl ?_))))))))
  refine ev_bind (impl_PartsOf_f a0) (ev_bind he (ev_if rfl (ev_else (by simp) (ev_bind hh (ev_else (by omega) (ev_if rfl (ev_some rfl)))))))

end Go.Proofs.YtmhkghmfoggaeaaDoor.Pure
