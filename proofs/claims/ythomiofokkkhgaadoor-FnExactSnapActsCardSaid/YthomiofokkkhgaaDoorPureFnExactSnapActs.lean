/- For every disk and snapshot the program's SnapActs returns what the reference's returns, leaves both as they were and shares no memory with them. -/
import Derived.Test.YthomiofokkkhgaaDoorQFnExactSnapActsx15
import Derived.Lib.SplitLaws
import Derived.Lib.IndexBytes
import Derived.Lib.IndexLaws
import Derived.Lib.ItoaMem
import Derived.Lib.ItoaLen
namespace Go.Proofs.YthomiofokkkhgaaDoor.Pure
open Go.RowKit Go.Proofs.YthomiofokkkhgaaDoor.QFnExactSnapActs Go.Proofs.YthomiofokkkhgaaDoorW.PrintWords Go.Proofs.YthomiofokkkhgaaDoorW.PrintLast

set_option linter.unusedVariables false
set_option linter.unusedSimpArgs false
/-! small words on rounds -/
theorem wid {x : Int} (h0 : -9223372036854775808 ≤ x) (h1 : x ≤ 9223372036854775807) : wrap64 x = x := by
  unfold wrap64; omega
theorem wrap_to {x y : Int} (h : x = y) (h0 : -9223372036854775808 ≤ y) (h1 : y ≤ 9223372036854775807) : wrap64 x = y := by
  rw [h]; exact wid h0 h1
theorem ev_some {α : Type} {o : Option α} {r : α} (h : o = some r) : Ev (fun _ => o) r := ⟨0, fun _ _ => h⟩
theorem ev_succ {α : Type} {g : Nat → Option α} {r : α} (h : Ev (fun k => g (k + 1)) r) : Ev g r := Ev.step (fun _ => rfl) h
theorem ev_if {α : Type} {c : Prop} [Decidable c] {f g : Nat → Option α} {r : α} (h : c) (k : Ev f r) : Ev (fun n => if c then f n else g n) r := by
  simp only [if_pos h]; exact k
theorem ev_else {α : Type} {c : Prop} [Decidable c] {f g : Nat → Option α} {r : α} (h : ¬ c) (k : Ev g r) : Ev (fun n => if c then f n else g n) r := by
  simp only [if_neg h]; exact k
theorem ev_bind0 {α β : Type} {o : Option α} {f : Nat → α → Option β} {a : α} {r : β} (h : o = some a) (k : Ev (fun n => f n a) r) : Ev (fun n => o.bind (f n)) r := by
  subst h; exact k
theorem ev_bind {α β : Type} {g : Nat → Option α} {f : Nat → α → Option β} {a : α} {r : β} (h : Ev g a) (k : Ev (fun n => f n a) r) : Ev (fun n => (g n).bind (f n)) r := Ev.bind h k
theorem ev_eq {α : Type} {g : Nat → Option α} {a b : α} (h : Ev g a) (e : a = b) : Ev g b := e ▸ h
theorem tdivp {a b : Int} (h : 0 ≤ a) : Int.tdiv a b = a / b := Int.tdiv_eq_ediv_of_nonneg h
theorem tmodp {a b : Int} (h : 0 ≤ a) : Int.tmod a b = a % b := Int.tmod_eq_emod_of_nonneg h
theorem toList_iff (a b : ByteArray) : a.toList = b.toList ↔ a = b := by
  rw [ByteArray.toList_eq, ByteArray.toList_eq]
  exact ⟨fun h => ByteArray.ext (Array.toList_inj.mp h), fun h => by rw [h]⟩
theorem drop_getD {α : Type} (l : List α) (d : α) (i : Nat) (h : i < l.length) : l.drop i = l.getD i d :: l.drop (i + 1) := by
  rw [List.drop_eq_getElem_cons h, List.getD_eq_getElem?_getD, List.getElem?_eq_getElem h]
  rfl
theorem drop_end {α : Type} (l : List α) (i : Nat) (h : l.length ≤ i) : l.drop i = [] := List.drop_eq_nil_of_le h
theorem rd_nat (l : List Int) (i : Nat) : rd l (i : Int) = l.getD i 0 := rfl
theorem copy_step {α : Type} (l : List α) (d z : α) (i : Nat) (h : i < l.length) :
    (l.take i ++ List.replicate (l.length - i) z).set i (l.getD i d) = l.take (i + 1) ++ List.replicate (l.length - (i + 1)) z := by
  have h1 : (l.take i).length = i := by rw [List.length_take]; omega
  rw [List.set_append_right _ _ (by omega), h1, Nat.sub_self]
  have h2 : l.length - i = (l.length - (i + 1)) + 1 := by omega
  rw [h2, List.replicate_succ, List.set_cons_zero, List.take_succ_eq_append_getElem h, List.append_assoc]
  congr 1
  rw [List.getD_eq_getElem?_getD, List.getElem?_eq_getElem h]
  rfl
theorem copy_len {α : Type} (l : List α) (z : α) (i : Nat) (h : i ≤ l.length) : (l.take i ++ List.replicate (l.length - i) z).length = l.length := by
  rw [List.length_append, List.length_take, List.length_replicate]; omega
theorem toNat_nat (i : Nat) : ((i : Int)).toNat = i := rfl
theorem succ_i (i : Nat) (h : i ≤ 9223372036854775806) : wrap64 ((i : Int) + 1) = ((i + 1 : Nat) : Int) := wrap_to (by omega) (by omega) (by omega)
theorem pred_i (i : Nat) (h : 0 < i) (h' : i ≤ 9223372036854775806) : wrap64 ((i : Int) - 1) = ((i - 1 : Nat) : Int) := wrap_to (by omega) (by omega) (by omega)
/-! the words of a line: between blanks, none empty -/
def bs (s : ByteArray) : List UInt8 := s.data.toList
def mkS (l : List UInt8) : ByteArray := ⟨l.toArray⟩
theorem mkS_bs (s : ByteArray) : mkS (bs s) = s := rfl
theorem bs_mk (l : List UInt8) : bs (mkS l) = l := rfl
theorem bs_len (s : ByteArray) : (bs s).length = s.size := by
  unfold bs
  rw [Array.length_toList]
  rfl
theorem bs_extract (s : ByteArray) (i j : Nat) : bs (s.extract i j) = ((bs s).take j).drop i := by
  unfold bs
  rw [ByteArray.data_extract, Array.toList_extract, List.extract_eq_take_drop, List.drop_take]
theorem bs_inj {a b : ByteArray} (h : bs a = bs b) : a = b := by
  rw [← mkS_bs a, h, mkS_bs]
theorem bs_at (s : ByteArray) (i : Nat) (x : UInt8) (l : List UInt8) (h : (bs s).drop i = x :: l) : i < s.size ∧ bt s (i : Int) = (x.toNat : Int) ∧ (bs s).drop (i + 1) = l ∧ (bs s).take (i + 1) = (bs s).take i ++ [x] := by
  have hl : i < (bs s).length := by
    rcases Nat.lt_or_ge i (bs s).length with h1 | h1
    · exact h1
    · rw [List.drop_eq_nil_of_le h1] at h; cases h
  have hs : i < s.size := by rw [← bs_len]; exact hl
  have e := List.drop_eq_getElem_cons hl
  rw [h] at e
  injection e with e1 e2
  refine ⟨hs, ?_, e2.symm, ?_⟩
  · unfold bt
    rw [e1]
    simp [hs, bs]
    rfl
  · rw [List.take_succ_eq_append_getElem hl, e1]
def wordsL : List UInt8 → List UInt8 → List (List UInt8)
  | cur, [] => if cur = [] then [] else [cur]
  | cur, b :: l => if b = 32 then (if cur = [] then [] else [cur]) ++ wordsL [] l else wordsL (cur ++ [b]) l
def okB (x : UInt8) : Bool := decide (32 ≤ x.toNat) && decide (x.toNat ≤ 126)
def lineR (o : List ByteArray) : List ByteArray × Bool := if (o.length : Int) > 10 then ([], false) else (o, true)
theorem lineR_len (o : List ByteArray) : (lineR o).1.length ≤ 10 := by
  unfold lineR
  by_cases h : (o.length : Int) > 10
  · rw [if_pos h]; simp
  · rw [if_neg h]; simp only; omega
def partsV (s : ByteArray) : List ByteArray × Bool :=
  if (s.size : Int) > 600 then ([], false) else if (bs s).all okB = true then lineR ((wordsL [] (bs s)).map mkS) else ([], false)
theorem partsV_len (s : ByteArray) : (partsV s).1.length ≤ 10 := by
  unfold partsV
  by_cases h : (s.size : Int) > 600
  · rw [if_pos h]; simp
  · rw [if_neg h]
    by_cases h2 : (bs s).all okB = true
    · rw [if_pos h2]; exact lineR_len _
    · rw [if_neg h2]; simp
theorem wordsL_end : ∀ (a cur : List UInt8), (∀ b ∈ a, b ≠ 32) → wordsL cur a = if cur ++ a = [] then [] else [cur ++ a]
  | [], cur, _ => by simp [wordsL]
  | b :: a, cur, h => by
    have hb := h b (List.mem_cons_self ..)
    rw [wordsL, if_neg hb, wordsL_end a (cur ++ [b]) (fun c hc => h c (List.mem_cons_of_mem _ hc))]
    simp
theorem wordsL_run : ∀ (a cur b : List UInt8), (∀ x ∈ a, x ≠ 32) → wordsL cur (a ++ 32 :: b) = (if cur ++ a = [] then [] else [cur ++ a]) ++ wordsL [] b
  | [], cur, b, _ => by simp [wordsL]
  | x :: a, cur, b, h => by
    have hx := h x (List.mem_cons_self ..)
    rw [List.cons_append, wordsL, if_neg hx, wordsL_run a (cur ++ [x]) b (fun c hc => h c (List.mem_cons_of_mem _ hc))]
    simp
theorem str_cons (d : Nat) (h : d < 10) (s : List UInt8) : strOfNums [((48 + (d : Int))) % 256] ++ (⟨s.toArray⟩ : ByteArray) = ⟨(UInt8.ofNat (48 + d) :: s).toArray⟩ := by
  apply ByteArray.ext
  rw [ByteArray.data_append, ← Array.toList_inj]
  have e : ((48 + (d : Int)) % 256).toNat = 48 + d := by omega
  simp [strOfNums, e]
theorem dig_step (u : Nat) (h : u ≠ 0) : (if u = 0 then [] else Lib.decDigits u) = (if u / 10 = 0 then [] else Lib.decDigits (u / 10)) ++ [UInt8.ofNat (48 + u % 10)] := by
  rw [if_neg h]
  by_cases h10 : u < 10
  · rw [if_pos (by omega), Lib.decDigits_one h10, Nat.mod_eq_of_lt h10]; rfl
  · rw [if_neg (by omega)]
    conv => lhs; rw [Lib.decDigits, dif_neg h10]
theorem spec_Decimal_l0 (b : Bool) : ∀ (n u : Nat) (x : Int) (s : List UInt8), u < 10 ^ n → x.natAbs = u → -9223372036854775808 ≤ x → x ≤ 9223372036854775807 → s.length + n ≤ 1000 →
    Ev (fun k => spec_Decimal.l0 k x b ⟨s.toArray⟩) (if b = true then ⟨(45 :: ((if u = 0 then [] else Lib.decDigits u) ++ s)).toArray⟩ else ⟨((if u = 0 then [] else Lib.decDigits u) ++ s).toArray⟩) := by
  have fin : ∀ (s : List UInt8), s.length ≤ 1000 → Ev (fun k => spec_Decimal.l0 k 0 b ⟨s.toArray⟩) (if b = true then ⟨(45 :: s).toArray⟩ else ⟨s.toArray⟩) := by
    intro s hs
    refine ev_succ ?_
    simp only [spec_Decimal.l0]
    have hz : (⟨s.toArray⟩ : ByteArray).size = s.length := by simp [ByteArray.size]
    refine ev_if trivial ?_
    cases b with
    | true =>
      refine ev_if rfl (ev_if (by rw [hz]; omega) (ev_some (congrArg some ?_)))
      rw [if_pos rfl]
      apply ByteArray.ext
      rw [ByteArray.data_append, ← Array.toList_inj]
      simp
    | false => exact ev_else (by simp) (ev_some rfl)
  intro n
  induction n with
  | zero =>
    intro u x s hu hx _ _ hs
    have h0 : u = 0 := by simpa using hu
    subst h0
    obtain rfl : x = 0 := by omega
    simp only [if_pos, List.nil_append]
    exact fin s (by omega)
  | succ n ih =>
    intro u x s hu hx hx0 hx1 hs
    by_cases h0 : u = 0
    · subst h0
      obtain rfl : x = 0 := by omega
      simp only [if_pos, List.nil_append]
      exact fin s (by omega)
    · have hxne : x ≠ 0 := by omega
      have hq : (Int.tdiv x 10).natAbs = u / 10 := by rw [Int.natAbs_tdiv, hx]; rfl
      have hqr : -9223372036854775808 ≤ Int.tdiv x 10 ∧ Int.tdiv x 10 ≤ 9223372036854775807 := by omega
      have hw : wrap64 (Int.tdiv x 10) = Int.tdiv x 10 := wid hqr.1 hqr.2
      have hsz : ∀ z : Int, (strOfNums [z]).size = 1 := fun z => rfl
      have hz : (⟨s.toArray⟩ : ByteArray).size = s.length := by simp [ByteArray.size]
      have hm : (Int.tmod x 10).natAbs = u % 10 := by rw [Int.natAbs_tmod, hx]; rfl
      have step := ih (u / 10) (Int.tdiv x 10) (UInt8.ofNat (48 + u % 10) :: s) (by rw [Nat.pow_succ] at hu; omega) hq hqr.1 hqr.2 (by rw [List.length_cons]; omega)
      rw [dig_step u h0, List.append_assoc, List.singleton_append]
      refine ev_succ ?_
      simp only [spec_Decimal.l0]
      refine ev_else hxne ?_
      have fig : ∀ z : Int, z = ((u % 10 : Nat) : Int) → spec_l01Figure.f z = some ((48 + ((u % 10 : Nat) : Int)) % 256) := by
        intro z hz
        subst hz
        unfold spec_l01Figure.f
        rw [if_pos (by omega), wid (by omega) (by omega)]
      by_cases hneg : Int.tmod x 10 < 0
      · refine ev_if hneg (ev_bind0 (fig _ (by rw [wid (by omega) (by omega)]; omega)) (ev_bind0 rfl (ev_if (by rw [hsz, hz]; omega) ?_)))
        rw [hw, str_cons _ (Nat.mod_lt _ (by omega))]
        exact step
      · refine ev_else hneg (ev_bind0 (fig _ (by omega)) (ev_bind0 rfl (ev_if (by rw [hsz, hz]; omega) ?_)))
        rw [hw, str_cons _ (Nat.mod_lt _ (by omega))]
        exact step
theorem spec_Decimal_f (x : Int) (h0 : -9223372036854775808 ≤ x) (h1 : x ≤ 9223372036854775807) : Ev (fun k => spec_Decimal.f k x) ⟨(Lib.itoa x).toArray⟩ := by
  unfold spec_Decimal.f
  by_cases hz : x = 0
  · subst hz
    refine ev_if rfl (ev_some (congrArg some ?_))
    have : Lib.itoa 0 = [48] := by
      have := Lib.itoa_nonneg 0
      rw [Lib.decDigits_one (by omega)] at this
      exact this
    rw [this]
  · refine ev_else hz ?_
    have step := spec_Decimal_l0 (decide (x < 0)) 20 x.natAbs x [] (by omega) rfl h0 h1 (by simp)
    have hu : ¬ x.natAbs = 0 := by omega
    simp only [List.append_nil, if_neg hu] at step
    refine ev_eq step ?_
    unfold Lib.itoa
    by_cases hn : x < 0
    · rw [if_pos (decide_eq_true hn), if_pos hn]
    · rw [if_neg (by simpa using hn), if_neg hn]
      have : x.natAbs = x.toNat := by omega
      rw [this]
/-- the number that a text tells in figures, as both read it -/
def rdL (x : ByteArray) : List UInt8 → Int → Int × Bool
  | [], a => if a > 1000000000 then (0, false) else if (⟨(Lib.itoa a).toArray⟩ : ByteArray).toList = x.toList then (a, true) else (0, false)
  | b :: l, a => if (b.toNat : Int) < 48 then (0, false) else if (b.toNat : Int) > 57 then (0, false) else rdL x l (a * 10 + ((b.toNat : Int) - 48))
def rdV (x : ByteArray) : Int × Bool := if x.size = 0 ∨ 10 < x.size then (0, false) else rdL x (bs x) 0
theorem rdL_ok (x : ByteArray) : ∀ (l : List UInt8) (a : Int), 0 ≤ a → (rdL x l a).2 = true → (∀ b ∈ l, 48 ≤ b.toNat ∧ b.toNat ≤ 57) ∧ 0 ≤ (rdL x l a).1 ∧ (rdL x l a).1 ≤ 1000000000
  | [], a, h0, h => by
    unfold rdL at h ⊢
    by_cases h1 : a > 1000000000
    · rw [if_pos h1] at h; cases h
    rw [if_neg h1] at h ⊢
    by_cases h2 : (⟨(Lib.itoa a).toArray⟩ : ByteArray).toList = x.toList
    · rw [if_pos h2]; exact ⟨fun b hb => by simp at hb, h0, by show a ≤ _; omega⟩
    · rw [if_neg h2] at h; cases h
  | b :: l, a, h0, h => by
    unfold rdL at h ⊢
    by_cases h1 : (b.toNat : Int) < 48
    · rw [if_pos h1] at h; cases h
    rw [if_neg h1] at h ⊢
    by_cases h2 : (b.toNat : Int) > 57
    · rw [if_pos h2] at h; cases h
    rw [if_neg h2] at h ⊢
    obtain ⟨p1, p2⟩ := rdL_ok x l _ (by omega) h
    refine ⟨fun c hc => ?_, p2⟩
    rcases List.mem_cons.1 hc with rfl | hc
    · omega
    · exact p1 c hc
theorem rdV_ok {x : ByteArray} (h : (rdV x).2 = true) : (∀ b ∈ bs x, 48 ≤ b.toNat ∧ b.toNat ≤ 57) ∧ 0 ≤ (rdV x).1 ∧ (rdV x).1 ≤ 1000000000 ∧ x.size ≠ 0 := by
  unfold rdV at h ⊢
  by_cases h1 : x.size = 0 ∨ 10 < x.size
  · rw [if_pos h1] at h; cases h
  · rw [if_neg h1] at h ⊢
    obtain ⟨p1, p2, p3⟩ := rdL_ok x _ 0 (Int.le_refl _) h
    exact ⟨p1, p2, p3, fun e => h1 (.inl e)⟩
theorem rdV_bad {x : ByteArray} {b : UInt8} (hb : b ∈ bs x) (h : ¬ (48 ≤ b.toNat ∧ b.toNat ≤ 57)) : (rdV x).2 = false := by
  cases e : (rdV x).2 with
  | false => rfl
  | true => exact absurd ((rdV_ok e).1 b hb) h
theorem rdV_empty {x : ByteArray} (h : x.size = 0) : (rdV x).2 = false := by
  unfold rdV; rw [if_pos (.inl h)]
theorem rd_pow10 : ∀ (i : Nat), i ≤ 10 → (10 : Int) ^ i ≤ 10000000000 := by
  intro i hi
  have : ∀ j : Fin 11, (10 : Int) ^ (j : Nat) ≤ 10000000000 := by decide
  exact this ⟨i, by omega⟩
theorem rdL_both (x : ByteArray) (hx : x.size ≤ 10) : ∀ (l : List UInt8) (i : Nat) (a : Int), (bs x).drop i = l → i ≤ x.size → 0 ≤ a → a < 10 ^ i →
    Ev (fun k => spec_ReadDecimal.l0 k x a (i : Int)) (rdL x l a) ∧ Ev (fun k => impl_ReadDecimal.l0 k x a (i : Int)) (rdL x l a) := by
  intro l
  induction l with
  | nil =>
    intro i a hl hi h0 h1
    have hend : i = x.size := by
      have := congrArg List.length hl
      rw [List.length_drop, bs_len] at this
      simp at this
      omega
    have hb := rd_pow10 i (by omega)
    unfold rdL
    by_cases hbig : a > 1000000000
    · rw [if_pos hbig]
      refine ⟨ev_succ ?_, ev_succ ?_⟩
      · simp only [spec_ReadDecimal.l0]; exact ev_else (by omega) (ev_if hbig (ev_some rfl))
      · simp only [impl_ReadDecimal.l0]; exact ev_else (by omega) (ev_if hbig (ev_some rfl))
    · rw [if_neg hbig]
      refine ⟨ev_succ ?_, ev_succ ?_⟩
      · simp only [spec_ReadDecimal.l0]
        refine ev_else (by omega) (ev_else hbig (ev_bind (spec_Decimal_f a (by omega) (by omega)) (ev_some ?_)))
        by_cases he : (⟨(Lib.itoa a).toArray⟩ : ByteArray).toList = x.toList
        · rw [if_pos he, if_pos he]
        · rw [if_neg he, if_neg he]
      · simp only [impl_ReadDecimal.l0]
        refine ev_else (by omega) (ev_else hbig (ev_bind0 (if_pos ⟨by omega, by omega⟩) (ev_some ?_)))
        by_cases he : (⟨(Lib.itoa a).toArray⟩ : ByteArray).toList = x.toList
        · rw [if_pos he, if_pos he]
        · rw [if_neg he, if_neg he]
  | cons b l ih =>
    intro i a hl hi h0 h1
    obtain ⟨hlt, hbt, hdr, _⟩ := bs_at x i b l hl
    have hb := rd_pow10 i (by omega)
    have b1 := b.toNat_lt
    unfold rdL
    by_cases h48 : (b.toNat : Int) < 48
    · rw [if_pos h48]
      refine ⟨ev_succ ?_, ev_succ ?_⟩
      · simp only [spec_ReadDecimal.l0]; rw [hbt]; exact ev_if (by omega) (ev_if (by omega) (ev_if h48 (ev_some rfl)))
      · simp only [impl_ReadDecimal.l0]; rw [hbt]; exact ev_if (by omega) (ev_if (by omega) (ev_if h48 (ev_some rfl)))
    rw [if_neg h48]
    by_cases h57 : (b.toNat : Int) > 57
    · rw [if_pos h57]
      refine ⟨ev_succ ?_, ev_succ ?_⟩
      · simp only [spec_ReadDecimal.l0]; rw [hbt]; exact ev_if (by omega) (ev_if (by omega) (ev_else h48 (ev_if h57 (ev_some rfl))))
      · simp only [impl_ReadDecimal.l0]; rw [hbt]; exact ev_if (by omega) (ev_if (by omega) (ev_else h48 (ev_if h57 (ev_some rfl))))
    rw [if_neg h57]
    have hp : (10 : Int) ^ (i + 1) = 10 ^ i * 10 := Int.pow_succ 10 i
    obtain ⟨d, hd⟩ : ∃ d, d = (b.toNat : Int) - 48 := ⟨_, rfl⟩
    obtain ⟨p, hpp⟩ : ∃ p, p = (10 : Int) ^ i := ⟨_, rfl⟩
    rw [← hpp] at h1 hb hp
    obtain ⟨hs, hm⟩ := ih (i + 1) (a * 10 + d) hdr (by omega) (by omega) (by rw [hp]; omega)
    rw [← hd]
    have hi1 : wrap64 ((i : Int) + 1) = ((i + 1 : Nat) : Int) := wrap_to (by omega) (by omega) (by omega)
    refine ⟨ev_succ ?_, ev_succ ?_⟩
    · simp only [spec_ReadDecimal.l0]
      have e : wrap64 (wrap64 (wrap64 (10 * a) + wrap64 (b.toNat : Int)) - 48) = a * 10 + d := by
        rw [wid (x := 10 * a) (by omega) (by omega), wid (x := (b.toNat : Int)) (by omega) (by omega), wid (x := 10 * a + (b.toNat : Int)) (by omega) (by omega)]
        exact wrap_to (by omega) (by omega) (by omega)
      rw [hbt, e, hi1]
      clear e hi1
      exact ev_if (by omega) (ev_if (by omega) (ev_else h48 (ev_else h57 hs)))
    · simp only [impl_ReadDecimal.l0]
      have e : wrap64 (wrap64 (a * 10) + ((b.toNat : Int) - 48) % 256) = a * 10 + d := by
        rw [wid (x := a * 10) (by omega) (by omega)]
        exact wrap_to (by omega) (by omega) (by omega)
      rw [hbt, e, hi1]
      clear e hi1
      exact ev_if (by omega) (ev_if (by omega) (ev_else h48 (ev_else h57 hm)))
theorem rdV_both (x : ByteArray) : Ev (fun k => spec_ReadDecimal.f k x) (rdV x) ∧ Ev (fun k => impl_ReadDecimal.f k x) (rdV x) := by
  unfold rdV
  by_cases h10 : x.size ≤ 10
  · by_cases h0 : x.size = 0
    · rw [if_pos (.inl h0)]
      refine ⟨?_, ?_⟩
      · unfold spec_ReadDecimal.f
        refine ev_else (by omega) (ev_succ ?_)
        simp only [spec_ReadDecimal.l0]
        refine ev_else (by omega) (ev_else (by omega) (ev_bind (a := ⟨#[48]⟩) (ev_some rfl) (ev_else ?_ (ev_some rfl))))
        intro he
        have := (toList_iff _ _).mp he
        rw [← this] at h0
        simp [ByteArray.size] at h0
      · unfold impl_ReadDecimal.f
        refine ev_if (by omega) (ev_succ ?_)
        simp only [impl_ReadDecimal.j0]
        exact ev_if trivial (ev_some rfl)
    · obtain ⟨hs, hm⟩ := rdL_both x h10 (bs x) 0 0 rfl (by omega) (Int.le_refl _) (by decide)
      rw [if_neg (by omega)]
      refine ⟨?_, ?_⟩
      · unfold spec_ReadDecimal.f
        exact ev_else (by omega) hs
      · unfold impl_ReadDecimal.f
        refine ev_else (by omega) (ev_succ ?_)
        simp only [impl_ReadDecimal.j0]
        exact ev_else (by simp; omega) hm
  · rw [if_pos (.inr (by omega))]
    refine ⟨?_, ?_⟩
    · unfold spec_ReadDecimal.f
      exact ev_if (by omega) (ev_some rfl)
    · unfold impl_ReadDecimal.f
      refine ev_else (by omega) (ev_succ ?_)
      simp only [impl_ReadDecimal.j0]
      exact ev_if (by simp; omega) (ev_some rfl)
/-! the sum, over numbers -/
def crcBit (x : Nat) : Nat := if x % 2 = 1 then (x / 2) ^^^ 3558460437 else x / 2
def crcBits : Nat → Nat → Nat
  | 0, x => x
  | n + 1, x => crcBits n (crcBit x)
def crcL : List Nat → Nat → Nat
  | [], x => x
  | b :: bs, x => crcL bs (crcBits 8 (x ^^^ b))
theorem xor_u32 (a b : Nat) (ha : a < 4294967296) (hb : b < 4294967296) : Go.bits .xor .u32 (a : Int) (b : Int) = ((a ^^^ b : Nat) : Int) := by
  have h : a ^^^ b < 2 ^ 32 := Nat.xor_lt_two_pow ha hb
  have e1 : a % 2 ^ 32 = a := Nat.mod_eq_of_lt ha
  have e2 : b % 2 ^ 32 = b := Nat.mod_eq_of_lt hb
  have e3 : IntKind.u32.bits = 32 := rfl
  simp only [Go.bits, e3, BitVec.ofInt_natCast, BitVec.toNat_xor, BitVec.toNat_ofNat, e1, e2, IntKind.wrap_u32]
  omega
theorem and_one_u32 (a : Nat) (ha : a < 4294967296) : Go.bits .and .u32 (a : Int) 1 = ((a % 2 : Nat) : Int) := by
  have e1 : a % 2 ^ 32 = a := Nat.mod_eq_of_lt ha
  have e3 : IntKind.u32.bits = 32 := rfl
  have e4 : (1 : Int) = ((1 : Nat) : Int) := rfl
  rw [e4]
  simp only [Go.bits, e3, BitVec.ofInt_natCast, BitVec.toNat_and, BitVec.toNat_ofNat, e1, IntKind.wrap_u32]
  have : a &&& (1 % 2 ^ 32) = a % 2 := Nat.and_one_is_mod a
  rw [this]
  omega
theorem crcBit_lt {x : Nat} (h : x < 4294967296) : crcBit x < 4294967296 := by
  unfold crcBit
  split
  · exact Nat.xor_lt_two_pow (n := 32) (by omega) (by omega)
  · omega
theorem crcBits_lt {x : Nat} (h : x < 4294967296) : ∀ n, crcBits n x < 4294967296
  | 0 => h
  | n + 1 => by
    unfold crcBits
    exact crcBits_lt (crcBit_lt h) n
def natsOf (s : ByteArray) : List Nat := s.data.toList.map UInt8.toNat
theorem natsOf_length (s : ByteArray) : (natsOf s).length = s.size := by simp [natsOf]
theorem bt_nat (s : ByteArray) (i : Nat) (h : i < s.size) : bt s (i : Int) = ((s[i]'h).toNat : Int) := by
  unfold bt; simp [h]
theorem natsOf_drop (s : ByteArray) (i : Nat) (h : i < s.size) : (natsOf s).drop i = (s[i]'h).toNat :: (natsOf s).drop (i + 1) := by
  have hl : i < (natsOf s).length := by rw [natsOf_length]; exact h
  rw [List.drop_eq_getElem_cons hl]
  congr 1
  simp [natsOf]
  rfl
theorem natsOf_lt (s : ByteArray) : ∀ x ∈ natsOf s, x < 256 := by
  intro x hx
  simp only [natsOf, List.mem_map] at hx
  obtain ⟨b, _, rfl⟩ := hx
  exact b.toNat_lt
theorem crcL_lt : ∀ (l : List Nat) (x : Nat), (∀ b ∈ l, b < 256) → x < 4294967296 → crcL l x < 4294967296
  | [], _, _, h => h
  | b :: bs, x, hb, h => by
    unfold crcL
    have h1 := hb b (List.mem_cons_self ..)
    exact crcL_lt bs _ (fun c hc => hb c (List.mem_cons_of_mem _ hc)) (crcBits_lt (Nat.xor_lt_two_pow (n := 32) h (by omega)) 8)
/-! a number in bytes -/
def vtl (n : Nat) : List Nat := if h : 127 < n then (n % 128 + 128) :: vtl (n / 128) else [n]
termination_by n
decreasing_by omega
theorem vtl_big {n : Nat} (h : 127 < n) : vtl n = (n % 128 + 128) :: vtl (n / 128) := by rw [vtl, dif_pos h]
theorem vtl_small {n : Nat} (h : n ≤ 127) : vtl n = [n] := by rw [vtl, dif_neg (by omega)]
def intsOf (l : List Nat) : List Int := l.map fun (n : Nat) => (n : Int)
theorem vtl_lt : ∀ (n : Nat), ∀ b ∈ vtl n, b < 256 := by
  intro n
  induction n using Nat.strongRecOn with
  | ind n ih =>
    intro b hb
    by_cases h : 127 < n
    · rw [vtl_big h] at hb
      rcases List.mem_cons.1 hb with rfl | hb
      · omega
      · exact ih _ (by omega) b hb
    · rw [vtl_small (by omega)] at hb
      have : b = n := by simpa using hb
      omega
def strN (l : List Nat) : ByteArray := strOfNums (intsOf l)
theorem natsOf_strN (l : List Nat) (h : ∀ b ∈ l, b < 256) : natsOf (strN l) = l := by
  unfold natsOf strN strOfNums intsOf
  simp only [List.map_map]
  conv => rhs; rw [← List.map_id l]
  apply List.map_congr_left
  intro b hb
  have := h b hb
  simp [UInt8.toNat_ofNat, Nat.mod_eq_of_lt this]
theorem strN_natsOf (s : ByteArray) : strN (natsOf s) = s := by
  unfold natsOf strN strOfNums intsOf
  apply ByteArray.ext
  apply Array.toList_inj.1
  simp [List.map_map, Function.comp_def]
theorem strN_inj {a b : List Nat} (ha : ∀ x ∈ a, x < 256) (hb : ∀ x ∈ b, x < 256) (h : strN a = strN b) : a = b := by
  rw [← natsOf_strN a ha, h, natsOf_strN b hb]
theorem natsOf_inj {a b : ByteArray} (h : natsOf a = natsOf b) : a = b := by
  rw [← strN_natsOf a, h, strN_natsOf]
theorem natsOf_append (a b : ByteArray) : natsOf (a ++ b) = natsOf a ++ natsOf b := by
  simp [natsOf]
theorem strN_append (a b : List Nat) : strN (a ++ b) = strN a ++ strN b := by
  unfold strN strOfNums intsOf
  apply ByteArray.ext
  apply Array.toList_inj.1
  simp
theorem strN_size (l : List Nat) : (strN l).size = l.length := by
  rw [← data_length]
  simp [strN, strOfNums, intsOf]
theorem natsOf_extract (s : ByteArray) (i j : Nat) : natsOf (s.extract i j) = ((natsOf s).take j).drop i := by
  unfold natsOf
  rw [ByteArray.data_extract, Array.toList_extract, List.extract_eq_take_drop, List.map_take, List.map_drop, List.drop_take]
theorem vtl_len (n : Nat) : (vtl n).length ≤ n + 1 := by
  induction n using Nat.strongRecOn with
  | ind n ih =>
    by_cases h : 127 < n
    · rw [vtl_big h, List.length_cons]
      have := ih (n / 128) (by omega)
      omega
    · rw [vtl_small (by omega)]; simp
theorem bt_drop (s : ByteArray) (i a : Nat) (l : List Nat) (h : (natsOf s).drop i = a :: l) : i < s.size ∧ bt s (i : Int) = (a : Int) ∧ (natsOf s).drop (i + 1) = l := by
  have hl : i < s.size := by
    rcases Nat.lt_or_ge i s.size with h1 | h1
    · exact h1
    · rw [List.drop_eq_nil_of_le (by rw [natsOf_length]; exact h1)] at h; cases h
  rw [natsOf_drop s i hl] at h
  injection h with h1 h2
  exact ⟨hl, by rw [bt_nat s i hl, h1], h2⟩
def valN (l : List Nat) (a : Int) : Int := l.foldl (fun (a : Int) (b : Nat) => a * 10 + ((b : Int) - 48)) a
def digN (u : Nat) : List Nat := (Lib.decDigits u).map UInt8.toNat
theorem ofNat48 (d : Nat) (h : d < 10) : (UInt8.ofNat (48 + d)).toNat = 48 + d := by
  have : ∀ e : Fin 10, (UInt8.ofNat (48 + e.val)).toNat = 48 + e.val := by decide
  exact this ⟨d, h⟩
theorem digN_small {u : Nat} (h : u < 10) : digN u = [48 + u] := by
  unfold digN
  rw [Lib.decDigits_one h, List.map_singleton, ofNat48 u h]
theorem digN_big {u : Nat} (h : ¬ u < 10) : digN u = digN (u / 10) ++ [48 + u % 10] := by
  unfold digN
  rw [Lib.decDigits, dif_neg h, List.map_append, List.map_singleton, ofNat48 _ (Nat.mod_lt _ (by omega))]
theorem digN_all (u : Nat) : valN (digN u) 0 = (u : Int) ∧ (∀ b ∈ digN u, 48 ≤ b ∧ b ≤ 57) ∧ 1 ≤ (digN u).length := by
  induction u using Nat.strongRecOn with
  | ind u ih =>
    by_cases h : u < 10
    · rw [digN_small h]
      refine ⟨?_, ?_, ?_⟩
      · simp [valN]; omega
      · intro b hb
        obtain rfl := List.mem_singleton.1 hb
        omega
      · simp
    · obtain ⟨h1, h2, h3⟩ := ih (u / 10) (by omega)
      rw [digN_big h]
      refine ⟨?_, ?_, ?_⟩
      · unfold valN at h1 ⊢
        rw [List.foldl_append, h1]
        simp only [List.foldl_cons, List.foldl_nil]
        omega
      · intro b hb
        rcases List.mem_append.1 hb with hb | hb
        · exact h2 b hb
        · obtain rfl := List.mem_singleton.1 hb
          omega
      · rw [List.length_append]; omega
theorem digN_len : ∀ (k u : Nat), u < 10 ^ (k + 1) → (digN u).length ≤ k + 1 := by
  intro k
  induction k with
  | zero => intro u h; rw [digN_small (by omega)]; simp
  | succ k ih =>
    intro u h
    by_cases h10 : u < 10
    · rw [digN_small h10]; simp
    · rw [digN_big h10, List.length_append, List.length_singleton]
      have := ih (u / 10) (by rw [Nat.pow_succ] at h; omega)
      omega
theorem pow_le10 : ∀ (i : Nat), i ≤ 10 → (10 : Int) ^ i ≤ 10000000000 := by
  intro i hi
  have : ∀ j : Fin 11, (10 : Int) ^ (j : Nat) ≤ 10000000000 := by decide
  exact this ⟨i, by omega⟩
def rdR (x : ByteArray) (v : Int) : Int × Bool := if v > 1000000000 then (0, false) else if (⟨(Lib.itoa v).toArray⟩ : ByteArray).toList = x.toList then (v, true) else (0, false)
theorem impl_ReadDecimal_l0 (x : ByteArray) (hx : x.size ≤ 10) : ∀ (l : List Nat) (i : Nat) (a : Int), (natsOf x).drop i = l → (∀ b ∈ l, 48 ≤ b ∧ b ≤ 57) → 0 ≤ a → a < 10 ^ i → i ≤ x.size →
    Ev (fun k => impl_ReadDecimal.l0 k x a (i : Int)) (rdR x (valN l a)) := by
  intro l
  induction l with
  | nil =>
    intro i a hl _ h0 h1 hi
    have hend : ¬ (i : Int) < (x.size : Int) := by
      have := congrArg List.length hl
      rw [List.length_drop, natsOf_length] at this
      simp at this
      omega
    have hb := pow_le10 i (by omega)
    show Ev (fun k => impl_ReadDecimal.l0 k x a (i : Int)) (rdR x a)
    refine ev_succ ?_
    simp only [impl_ReadDecimal.l0]
    refine ev_else hend ?_
    by_cases hbig : a > 1000000000
    · rw [show rdR x a = (0, false) from if_pos hbig]; exact ev_if hbig (ev_some rfl)
    · rw [show rdR x a = if (⟨(Lib.itoa a).toArray⟩ : ByteArray).toList = x.toList then (a, true) else (0, false) from if_neg hbig]
      refine ev_else hbig (ev_bind0 (show impl_Decimal.f a = some ⟨(Lib.itoa a).toArray⟩ from if_pos ⟨by omega, by omega⟩) (ev_some ?_))
      by_cases he : (⟨(Lib.itoa a).toArray⟩ : ByteArray).toList = x.toList
      · rw [if_pos he, if_pos he]
      · rw [if_neg he, if_neg he]
  | cons b l ih =>
    intro i a hl hd h0 h1 hi
    obtain ⟨hlt, hb, hdr⟩ := bt_drop x i b l hl
    have hd0 := hd b (List.mem_cons_self ..)
    have hp := pow_le10 i (by omega)
    have hi1 : wrap64 ((i : Int) + 1) = ((i + 1 : Nat) : Int) := wrap_to (by omega) (by omega) (by omega)
    have hpw : (10 : Int) ^ (i + 1) = 10 ^ i * 10 := Int.pow_succ 10 i
    obtain ⟨p, hpp⟩ : ∃ p, p = (10 : Int) ^ i := ⟨_, rfl⟩
    rw [← hpp] at h1 hp hpw
    have step := ih (i + 1) (a * 10 + ((b : Int) - 48)) hdr (fun c hc => hd c (List.mem_cons_of_mem _ hc)) (by omega) (by rw [hpw]; omega) (by omega)
    show Ev (fun k => impl_ReadDecimal.l0 k x a (i : Int)) (rdR x (valN l (a * 10 + ((b : Int) - 48))))
    refine ev_succ ?_
    simp only [impl_ReadDecimal.l0]
    have e : wrap64 (wrap64 (a * 10) + ((b : Int) - 48) % 256) = a * 10 + ((b : Int) - 48) := by
      rw [wid (x := a * 10) (by omega) (by omega)]
      exact wrap_to (by omega) (by omega) (by omega)
    rw [hb]
    refine ev_if (by omega) (ev_if (by omega) (ev_else (by omega) (ev_else (by omega) ?_)))
    rw [e, hi1]
    exact step
theorem decimal_round (u : Nat) (h : u ≤ 1000000000) : Ev (fun k => impl_ReadDecimal.f k ⟨(Lib.itoa (u : Int)).toArray⟩) ((u : Int), true) := by
  obtain ⟨h1, h2, h3⟩ := digN_all u
  have hl := digN_len 9 u (by omega)
  have hn : natsOf ⟨(Lib.itoa (u : Int)).toArray⟩ = digN u := by
    unfold natsOf digN
    rw [Lib.itoa_nonneg]
  have hz : (⟨(Lib.itoa (u : Int)).toArray⟩ : ByteArray).size = (digN u).length := by rw [← hn, natsOf_length]
  have step := impl_ReadDecimal_l0 ⟨(Lib.itoa (u : Int)).toArray⟩ (by omega) (digN u) 0 0 (by rw [List.drop_zero, hn]) h2 (by omega) (by decide) (by omega)
  rw [h1] at step
  have e : rdR ⟨(Lib.itoa (u : Int)).toArray⟩ (u : Int) = ((u : Int), true) := by
    unfold rdR
    rw [if_neg (by omega), if_pos rfl]
  rw [e] at step
  unfold impl_ReadDecimal.f
  refine ev_else (by omega) (ev_succ ?_)
  simp only [impl_ReadDecimal.j0]
  exact ev_else (by simp; omega) step
theorem ev_det {α : Type} {g : Nat → Option α} {a b : α} (h : Ev g a) (h' : Ev g b) : a = b := by
  obtain ⟨K, h⟩ := h
  obtain ⟨K', h'⟩ := h'
  have e := (h (max K K') (Nat.le_max_left ..)).symm.trans (h' (max K K') (Nat.le_max_right ..))
  exact Option.some.inj e
theorem rdV_itoa (u : Nat) (h : u ≤ 1000000000) : rdV ⟨(Lib.itoa (u : Int)).toArray⟩ = ((u : Int), true) := ev_det (rdV_both _).2 (decimal_round u h)
theorem rdL_text (x : ByteArray) : ∀ (l : List UInt8) (a : Int), (rdL x l a).2 = true → (⟨(Lib.itoa (rdL x l a).1).toArray⟩ : ByteArray).toList = x.toList
  | [], a, h => by
    unfold rdL at h ⊢
    by_cases h1 : a > 1000000000
    · rw [if_pos h1] at h; cases h
    rw [if_neg h1] at h ⊢
    by_cases h2 : (⟨(Lib.itoa a).toArray⟩ : ByteArray).toList = x.toList
    · rw [if_pos h2]; exact h2
    · rw [if_neg h2] at h; cases h
  | b :: l, a, h => by
    unfold rdL at h ⊢
    by_cases h1 : (b.toNat : Int) < 48
    · rw [if_pos h1] at h; cases h
    rw [if_neg h1] at h ⊢
    by_cases h2 : (b.toNat : Int) > 57
    · rw [if_pos h2] at h; cases h
    rw [if_neg h2] at h ⊢
    exact rdL_text x l _ h
theorem rdV_text {x : ByteArray} (h : (rdV x).2 = true) : x = ⟨(Lib.itoa (rdV x).1).toArray⟩ := by
  unfold rdV at h ⊢
  by_cases h1 : x.size = 0 ∨ 10 < x.size
  · rw [if_pos h1] at h; cases h
  · rw [if_neg h1] at h ⊢
    exact ((toList_iff _ _).1 (rdL_text x _ _ h)).symm
theorem impl_inRange_f (x a b : Int) : impl_inRange.f x a b = some (decide (a ≤ x ∧ x ≤ b)) := by
  unfold impl_inRange.f
  by_cases h1 : a ≤ x <;> by_cases h2 : x ≤ b <;> simp [h1, h2]
theorem spec_l01In_f (x a b : Int) : spec_l01In.f x a b = some (decide (a ≤ x ∧ x ≤ b)) := by
  unfold spec_l01In.f
  by_cases h1 : a ≤ x <;> by_cases h2 : x ≤ b <;> simp [h1, h2]
def nameV (n : Int) : ByteArray := ⟨(115 :: Lib.itoa n).toArray⟩
def snapNameV (x : Int) : ByteArray := if 0 ≤ x ∧ x ≤ 1000000 then nameV x else ⟨#[]⟩
theorem name_cat (x : Int) : (⟨#[115]⟩ : ByteArray) ++ ⟨(Lib.itoa x).toArray⟩ = nameV x := by
  apply ByteArray.ext
  rw [ByteArray.data_append, ← Array.toList_inj]
  simp [nameV]
theorem impl_SnapName_f (x : Int) (h0 : -9223372036854775808 ≤ x) (h1 : x ≤ 9223372036854775807) : impl_SnapName.f x = some (snapNameV x) := by
  unfold impl_SnapName.f impl_isIndex.f snapNameV
  rw [impl_inRange_f]
  by_cases h : 0 ≤ x ∧ x ≤ 1000000
  · have hl := Lib.itoa_length_le x h0 h1
    have hz : (⟨(Lib.itoa x).toArray⟩ : ByteArray).size = (Lib.itoa x).length := by simp [ByteArray.size]
    rw [if_pos h, decide_eq_true h, Option.bind_some, Option.bind_some, if_pos rfl]
    rw [show impl_Decimal.f x = some ⟨(Lib.itoa x).toArray⟩ from if_pos ⟨h0, h1⟩, Option.bind_some, if_pos (by rw [hz]; omega), name_cat]
  · rw [if_neg h, decide_eq_false h]; rfl
theorem spec_SnapName_f (x : Int) (h0 : -9223372036854775808 ≤ x) (h1 : x ≤ 9223372036854775807) : Ev (fun k => spec_SnapName.f k x) (snapNameV x) := by
  unfold spec_SnapName.f snapNameV
  refine ev_bind0 (spec_l01In_f x 0 1000000) ?_
  by_cases h : 0 ≤ x ∧ x ≤ 1000000
  · rw [if_pos h]
    have hl := Lib.itoa_length_le x h0 h1
    have hz : (⟨(Lib.itoa x).toArray⟩ : ByteArray).size = (Lib.itoa x).length := by simp [ByteArray.size]
    exact ev_if (decide_eq_true h) (ev_bind (spec_Decimal_f x h0 h1) (ev_if (by rw [hz]; omega) (ev_some (congrArg some (name_cat x)))))
  · rw [if_neg h]
    exact ev_else (by rw [decide_eq_false h]; simp) (ev_some rfl)
/-- the index of which a text is the name -/
def ixV (s : ByteArray) : Option Int := if (bs s).take 1 = [115] ∧ (rdV (mkS ((bs s).drop 1))).2 = true ∧ (rdV (mkS ((bs s).drop 1))).1 ≤ 1000000 then some (rdV (mkS ((bs s).drop 1))).1 else none
theorem ixV_text {s : ByteArray} {n : Int} (h : ixV s = some n) : s = nameV n ∧ 0 ≤ n ∧ n ≤ 1000000 := by
  unfold ixV at h
  split at h
  · rename_i hc
    obtain ⟨h1, h2, h3⟩ := hc
    obtain rfl := Option.some.inj h
    obtain ⟨_, p1, p2, _⟩ := rdV_ok h2
    refine ⟨?_, p1, h3⟩
    have ht := congrArg bs (rdV_text h2)
    rw [bs_mk] at ht
    apply bs_inj
    have := List.take_append_drop 1 (bs s)
    rw [h1, ht] at this
    generalize (rdV (mkS ((bs s).drop 1))).1 = N at this
    exact this.symm
  · cases h
theorem nameV_inj {a b : Int} (ha : 0 ≤ a) (ha1 : a ≤ 1000000) (hb : 0 ≤ b) (hb1 : b ≤ 1000000) (h : nameV a = nameV b) : a = b := by
  have e : Lib.itoa a = Lib.itoa b := by
    have := congrArg bs h
    exact (List.cons.inj this).2
  have e1 := rdV_itoa a.toNat (by omega)
  have e2 := rdV_itoa b.toNat (by omega)
  rw [Int.toNat_of_nonneg ha] at e1
  rw [Int.toNat_of_nonneg hb, ← e, e1] at e2
  exact (Prod.mk.inj e2).1
theorem cutprefix_s (p : ByteArray) : strings_CutPrefix.f p ⟨#[115]⟩ = some (if (bs p).take 1 = [115] then (mkS ((bs p).drop 1), true) else (p, false)) := by
  unfold strings_CutPrefix.f stringslite_CutPrefix.f stringslite_HasPrefix.f
  have hz : (((⟨#[115]⟩ : ByteArray).size : Nat) : Int) = 1 := rfl
  rw [hz]
  have hz2 : (1 : Int).toNat = 1 := rfl
  rw [hz2]
  have hx : ∀ i, p.extract i p.size = mkS ((bs p).drop i) := fun i => by
    apply bs_inj
    rw [bs_extract, List.take_of_length_le (by rw [bs_len]; omega)]
    rfl
  have ht : p.extract 0 1 = mkS ((bs p).take 1) := by
    apply bs_inj
    rw [bs_extract]
    rfl
  by_cases h : (p.size : Int) ≥ 1
  · rw [if_pos h, if_pos (by omega), if_pos (by omega), Option.bind_some, ht, hx]
    by_cases h2 : (bs p).take 1 = [115]
    · have e : ((mkS ((bs p).take 1)).toList == (⟨#[115]⟩ : ByteArray).toList) = true := by
        rw [h2]; exact beq_iff_eq.2 rfl
      rw [e, if_pos rfl, if_pos (by omega), if_pos (by omega), if_pos h2]; rfl
    · have e : ((mkS ((bs p).take 1)).toList == (⟨#[115]⟩ : ByteArray).toList) = false := by
        refine beq_eq_false_iff_ne.2 fun e => h2 ?_
        rw [ByteArray.toList_eq, ByteArray.toList_eq] at e
        exact e
      rw [e, if_neg (by simp), if_neg h2]; rfl
  · have h2 : ¬ (bs p).take 1 = [115] := by
      intro e
      have := congrArg List.length e
      rw [List.length_take, bs_len] at this
      simp at this
      omega
    rw [if_neg h, if_neg h2]
    rfl
theorem impl_snapIndex_f (s : ByteArray) : ∃ t, Ev (fun k => impl_snapIndex.f k s) t ∧ t.2 = (ixV s).isSome := by
  unfold impl_snapIndex.f ixV
  have hc := cutprefix_s s
  by_cases h : (bs s).take 1 = [115]
  · rw [if_pos h] at hc
    cases h2 : (rdV (mkS ((bs s).drop 1))).2 with
    | false => exact ⟨_, ev_bind0 hc (ev_bind (rdV_both _).2 (ev_if rfl (ev_else (by rw [h2]; simp) (ev_some rfl)))), by simp⟩
    | true =>
      obtain ⟨_, p1, p2, _⟩ := rdV_ok h2
      refine ⟨_, ev_bind0 hc (ev_bind (rdV_both _).2 (ev_if rfl (ev_if h2 (ev_bind0 (a := decide (0 ≤ (rdV (mkS ((bs s).drop 1))).1 ∧ (rdV (mkS ((bs s).drop 1))).1 ≤ 1000000)) (by unfold impl_isIndex.f; rw [impl_inRange_f]; rfl) (ev_some rfl))))), ?_⟩
      show decide _ = _
      by_cases h3 : (rdV (mkS ((bs s).drop 1))).1 ≤ 1000000
      · rw [if_pos ⟨h, rfl, h3⟩, decide_eq_true ⟨p1, h3⟩]; rfl
      · rw [if_neg (fun q => h3 q.2.2), decide_eq_false (fun q => h3 q.2)]; rfl
  · rw [if_neg h] at hc
    rw [if_neg (fun q => h q.1)]
    exact ⟨_, ev_bind0 hc (ev_bind (rdV_both _).2 (ev_else (by simp) (ev_some rfl))), rfl⟩
theorem spec_l08Index_f (s : ByteArray) : Ev (fun k => spec_l08Index.f k s) (match ixV s with | some n => n | none => -1) := by
  unfold spec_l08Index.f
  have hx : s.extract 1 s.size = mkS ((bs s).drop 1) := by
    apply bs_inj
    rw [bs_extract, List.take_of_length_le (by rw [bs_len]; omega)]
    rfl
  by_cases h2 : (s.size : Int) < 2
  · have hn : ixV s = none := by
      unfold ixV
      refine if_neg fun q => ?_
      obtain ⟨_, _, _, p3⟩ := rdV_ok q.2.1
      have e := bs_len (mkS ((bs s).drop 1))
      rw [bs_mk, List.length_drop, bs_len] at e
      omega
    rw [hn]
    exact ev_if h2 (ev_some rfl)
  refine ev_else h2 (ev_if (by omega) ?_)
  rw [hx]
  refine ev_bind (rdV_both _).1 ?_
  cases hr : (rdV (mkS ((bs s).drop 1))).2 with
  | false =>
    have hn : ixV s = none := by
      unfold ixV
      exact if_neg fun q => by rw [hr] at q; exact absurd q.2.1 (by simp)
    rw [hn]
    exact ev_else (by simp) (ev_some rfl)
  | true =>
    obtain ⟨_, p1, p2, _⟩ := rdV_ok hr
    have ht := rdV_text hr
    have hv : ixV s = if (bs s).take 1 = [115] ∧ (rdV (mkS ((bs s).drop 1))).1 ≤ 1000000 then some (rdV (mkS ((bs s).drop 1))).1 else none := by
      unfold ixV
      by_cases q : (bs s).take 1 = [115] ∧ (rdV (mkS ((bs s).drop 1))).1 ≤ 1000000
      · rw [if_pos q, if_pos ⟨q.1, hr, q.2⟩]
      · rw [if_neg q, if_neg (fun z => q ⟨z.1, z.2.2⟩)]
    rw [hv]
    generalize hN : (rdV (mkS ((bs s).drop 1))).1 = N at p1 p2 ht
    refine ev_if rfl (ev_bind (spec_SnapName_f N (by omega) (by omega)) ?_)
    have hsn : N ≤ 1000000 → (nameV N = s ↔ (bs s).take 1 = [115]) := fun hN1 => by
      have hb : bs s = (bs s).take 1 ++ Lib.itoa N := by
        have h1 := congrArg bs ht
        rw [bs_mk] at h1
        have := List.take_append_drop 1 (bs s)
        rw [h1] at this
        exact this.symm
      constructor
      · intro e
        rw [← e]
        rfl
      · intro e
        apply bs_inj
        rw [hb, e]
        rfl
    by_cases hN1 : N ≤ 1000000
    · rw [show snapNameV N = nameV N from if_pos ⟨p1, hN1⟩]
      by_cases h1 : (bs s).take 1 = [115]
      · rw [show (if (bs s).take 1 = [115] ∧ N ≤ 1000000 then some N else none) = some N from if_pos ⟨h1, hN1⟩]
        exact ev_if ((toList_iff _ _).2 ((hsn hN1).2 h1)) (ev_some rfl)
      · rw [show (if (bs s).take 1 = [115] ∧ N ≤ 1000000 then some N else none) = none from if_neg (fun q => h1 q.1)]
        exact ev_else (fun q => h1 ((hsn hN1).1 ((toList_iff _ _).1 q))) (ev_some rfl)
    · rw [show snapNameV N = ⟨#[]⟩ from if_neg (fun q => hN1 q.2), show (if (bs s).take 1 = [115] ∧ N ≤ 1000000 then some N else none) = none from if_neg (fun q => hN1 q.2)]
      refine ev_else (fun q => ?_) (ev_some rfl)
      have := (toList_iff _ _).1 q
      rw [← this] at h2
      exact h2 (by decide)
theorem copy_map {α β : Type} (g : α → β) (l : List α) (d : α) (z : β) (i : Nat) (h : i < l.length) :
    ((l.take i).map g ++ List.replicate (l.length - i) z).set i (g (l.getD i d)) = (l.take (i + 1)).map g ++ List.replicate (l.length - (i + 1)) z := by
  have h1 : ((l.take i).map g).length = i := by rw [List.length_map, List.length_take]; omega
  rw [List.set_append_right _ _ (by omega), h1, Nat.sub_self]
  have h2 : l.length - i = (l.length - (i + 1)) + 1 := by omega
  rw [h2, List.replicate_succ, List.set_cons_zero, List.take_succ_eq_append_getElem h, List.map_append, List.append_assoc]
  congr 1
  rw [List.getD_eq_getElem?_getD, List.getElem?_eq_getElem h]
  rfl
theorem copy_map_len {α β : Type} (g : α → β) (l : List α) (z : β) (i : Nat) (h : i ≤ l.length) : ((l.take i).map g ++ List.replicate (l.length - i) z).length = l.length := by
  rw [List.length_append, List.length_map, List.length_take, List.length_replicate]; omega
def convFile (x : S89) : S71 := ⟨x.f0, x.f1, x.f2⟩
theorem laws_toFileS_l0 (l : List S89) (hl : l.length ≤ 1048576) : ∀ (d i : Nat), i + d = l.length →
    Ev (fun k => laws_toFileS.l0 k l ((l.take i).map convFile ++ List.replicate (l.length - i) z71) (i : Int)) (l.map convFile) := by
  intro d
  induction d with
  | zero =>
    intro i hi
    refine ev_succ ?_
    simp only [laws_toFileS.l0]
    refine ev_else (by omega) (ev_some ?_)
    have e : i = l.length := by omega
    subst e
    simp
  | succ d ih =>
    intro i hi
    refine ev_succ ?_
    simp only [laws_toFileS.l0, laws_toFile.f, Option.bind_some]
    refine ev_if (by omega) (ev_if (by omega) (ev_if (by rw [copy_map_len _ _ _ _ (by omega)]; omega) ?_))
    have hs : ((l.take i).map convFile ++ List.replicate (l.length - i) z71).set ((i : Int)).toNat (⟨(rd_T89 l (i : Int)).f0, (rd_T89 l (i : Int)).f1, (rd_T89 l (i : Int)).f2⟩ : S71) = (l.take (i + 1)).map convFile ++ List.replicate (l.length - (i + 1)) z71 := copy_map convFile l z89 z71 i (by omega)
    rw [hs, succ_i i (by omega)]
    exact ih (i + 1) (by omega)
theorem laws_toFileS_f (l : List S89) (hl : l.length ≤ 1048576) : Ev (fun k => laws_toFileS.f k l) (l.map convFile) := by
  unfold laws_toFileS.f
  refine ev_if (by omega) (ev_if (by rw [toNat_nat]; omega) ?_)
  have := laws_toFileS_l0 l hl l.length 0 (by omega)
  simpa using this
theorem laws_eqFile_refl (a0 : ByteArray) (a1 : ByteArray) (a2 : Int) : laws_eqFile.f a0 a1 a2 a0 a1 a2 = some true := by
  unfold laws_eqFile.f
  simp
theorem laws_eqFileS_l0 (l : List S71) (hl : l.length ≤ 4611686018427387904) : ∀ (d i : Nat), i + d = l.length →
    Ev (fun k => laws_eqFileS.l0 k l l (i : Int)) true := by
  intro d
  induction d with
  | zero =>
    intro i hi
    refine ev_succ ?_
    simp only [laws_eqFileS.l0]
    exact ev_else (by omega) (ev_some rfl)
  | succ d ih =>
    intro i hi
    refine ev_succ ?_
    simp only [laws_eqFileS.l0]
    refine ev_if (by omega) (ev_if (by omega) (ev_if (by omega) (ev_bind0 (laws_eqFile_refl _ _ _) (ev_if rfl ?_))))
    rw [succ_i i (by omega)]
    exact ih (i + 1) (by omega)
theorem laws_eqFileS_f (l : List S71) (hl : l.length ≤ 4611686018427387904) : Ev (fun k => laws_eqFileS.f k l l) true := by
  unfold laws_eqFileS.f
  exact ev_if rfl (laws_eqFileS_l0 l hl l.length 0 (by omega))
theorem le_sum_mem : ∀ (l : List Nat) (x : Nat), x ∈ l → x ≤ l.sum
  | [], _, h => by cases h
  | y :: l, x, h => by
    rw [List.sum_cons]
    rcases List.mem_cons.1 h with rfl | h
    · omega
    · have := le_sum_mem l x h
      omega
theorem laws_szFile_f (a0 : ByteArray) (a1 : ByteArray) (a2 : Int) (left : Int) (e0 : a0.size ≤ maxLen) (e1 : a1.size ≤ maxLen) (h0 : 0 ≤ left) (h1 : left ≤ 1048576) :
    ∃ r, laws_szFile.f a0 a1 a2 left = some r ∧ (r < 0 ∨ 0 ≤ r ∧ r + ((a0.size : Int) + (a1.size : Int)) = left) := by
  unfold maxLen at e0 e1
  unfold laws_szFile.f
  rw [wid (x := left - (a0.size : Int)) (by omega) (by omega)]
  by_cases c0 : left - (a0.size : Int) < 0
  · exact ⟨-1, by rw [if_pos c0], .inl (by omega)⟩
  rw [if_neg c0]
  rw [wid (x := left - (a0.size : Int) - (a1.size : Int)) (by omega) (by omega)]
  by_cases c1 : left - (a0.size : Int) - (a1.size : Int) < 0
  · exact ⟨-1, by rw [if_pos c1], .inl (by omega)⟩
  rw [if_neg c1]
  exact ⟨_, rfl, .inr ⟨by omega, by omega⟩⟩
def wtFile (l : List S89) : Nat := (l.map fun x => x.f0.size + x.f1.size).sum
theorem wtFile_mem (l : List S89) : ∀ x ∈ l, x.f0.size + x.f1.size ≤ wtFile l := by
  intro x hx
  unfold wtFile
  exact le_sum_mem _ _ (List.mem_map.2 ⟨x, hx, rfl⟩)
theorem wtFile_drop (l : List S89) (i : Nat) (h : i < l.length) : wtFile (l.drop i) = ((rd_T89 l (i : Int)).f0.size + (rd_T89 l (i : Int)).f1.size) + wtFile (l.drop (i + 1)) := by
  rw [drop_getD l z89 i h]
  unfold wtFile
  rw [List.map_cons, List.sum_cons]
  rfl
theorem laws_szFileS_l0 (l : List S89) (hq : ∀ x ∈ l, (x.f0.size ≤ maxLen) ∧ (x.f1.size ≤ maxLen) ∧ (Lit.int .i64 x.f2).wf = true) : ∀ (d i : Nat) (left : Int), i + d = l.length → l.length ≤ 1048576 → 0 ≤ left → left ≤ 1048576 →
    ∃ r, Ev (fun k => laws_szFileS.l0 k l left (i : Int)) r ∧ (r < 0 ∨ 0 ≤ r ∧ r + (wtFile (l.drop i) : Int) = left) := by
  intro d
  induction d with
  | zero =>
    intro i left hi hl h0 h1
    refine ⟨left, ev_succ ?_, .inr ⟨h0, ?_⟩⟩
    · simp only [laws_szFileS.l0]
      exact ev_else (by omega) (ev_some rfl)
    · rw [drop_end l i (by omega)]
      show left + ((0 : Nat) : Int) = left
      omega
  | succ d ih =>
    intro i left hi hl h0 h1
    have hx := hq (rd_T89 l (i : Int)) (by
      show l.getD i z89 ∈ l
      rw [List.getD_eq_getElem?_getD, List.getElem?_eq_getElem (by omega)]
      exact List.getElem_mem _)
    obtain ⟨r, hr, hc⟩ := laws_szFile_f (rd_T89 l (i : Int)).f0 (rd_T89 l (i : Int)).f1 (rd_T89 l (i : Int)).f2 left (hx.1) (hx.2.1) h0 h1
    rw [wtFile_drop l i (by omega)]
    rcases hc with hn | ⟨hp, hs⟩
    · refine ⟨-1, ev_succ ?_, .inl (by omega)⟩
      simp only [laws_szFileS.l0]
      exact ev_if (by omega) (ev_if (by omega) (ev_bind0 hr (ev_if hn (ev_some rfl))))
    · obtain ⟨r', hr', hc'⟩ := ih (i + 1) r (by omega) hl hp (by omega)
      refine ⟨r', ev_succ ?_, ?_⟩
      · simp only [laws_szFileS.l0]
        rw [succ_i i (by omega)]
        exact ev_if (by omega) (ev_if (by omega) (ev_bind0 hr (ev_else (by omega) hr')))
      · rcases hc' with h | ⟨h, h'⟩
        · exact .inl h
        · exact .inr ⟨h, by omega⟩
theorem laws_szFileS_f (l : List S89) (hl : l.length ≤ maxLen ∧ ∀ x ∈ l, (x.f0.size ≤ maxLen) ∧ (x.f1.size ≤ maxLen) ∧ (Lit.int .i64 x.f2).wf = true) (left : Int) (h0 : 0 ≤ left) (h1 : left ≤ 1048576) :
    ∃ r, Ev (fun k => laws_szFileS.f k l left) r ∧ (r < 0 ∨ 0 ≤ r ∧ r + (l.length : Int) + (wtFile l : Int) = left) := by
  obtain ⟨hl, hq⟩ := hl
  unfold maxLen at hl
  unfold laws_szFileS.f
  rw [wid (x := left - (l.length : Int)) (by omega) (by omega)]
  by_cases h : left - (l.length : Int) < 0
  · exact ⟨-1, ev_if h (ev_some rfl), .inl (by omega)⟩
  · obtain ⟨r, hr, hc⟩ := laws_szFileS_l0 l hq l.length 0 (left - (l.length : Int)) (by omega) (by omega) (by omega) (by omega)
    refine ⟨r, ev_else h hr, ?_⟩
    rcases hc with h' | ⟨h', h''⟩
    · exact .inl h'
    · refine .inr ⟨h', ?_⟩
      rw [List.drop_zero] at h''
      omega
theorem laws_toDisk_f (l : List S89) (hl : l.length ≤ 1048576) : Ev (fun k => laws_toDisk.f k l) (l.map convFile) := by
  unfold laws_toDisk.f
  exact ev_bind (laws_toFileS_f l hl) (ev_some rfl)
theorem laws_eqDisk_f (l : List S71) (hl : l.length ≤ 4611686018427387904) : Ev (fun k => laws_eqDisk.f k l l) true := by
  unfold laws_eqDisk.f
  exact ev_bind (laws_eqFileS_f l hl) (ev_if rfl (ev_some rfl))
def fileAtV (l : List S71) (s : ByteArray) : ByteArray × Bool :=
  match l.find? (fun f => decide (f.f0 = s)) with
  | none => (⟨#[]⟩, false)
  | some f => (f.f1, true)
theorem fileAtV_at (l : List S71) (s : ByteArray) (i : Nat) (h : i < l.length) :
    fileAtV (l.drop i) s = if (rd_T71 l (i : Int)).f0 = s then ((rd_T71 l (i : Int)).f1, true) else fileAtV (l.drop (i + 1)) s := by
  rw [drop_getD l z71 i h]
  have e : rd_T71 l (i : Int) = l.getD i z71 := rfl
  rw [← e]
  unfold fileAtV
  by_cases hc : (rd_T71 l (i : Int)).f0 = s
  · rw [if_pos hc, List.find?_cons_of_pos (by simpa using hc)]
  · rw [if_neg hc, List.find?_cons_of_neg (by simpa using hc)]
theorem impl_FileAt_l0 (l : List S71) (s : ByteArray) (hl : l.length ≤ 4611686018427387904) : ∀ (d i : Nat), i + d = l.length →
    Ev (fun k => impl_FileAt.l0 k s l (l.length : Int) (i : Int)) (fileAtV (l.drop i) s) := by
  intro d
  induction d with
  | zero =>
    intro i hi
    refine ev_succ ?_
    simp only [impl_FileAt.l0]
    refine ev_else (by omega) (ev_some ?_)
    rw [drop_end l i (by omega)]
    rfl
  | succ d ih =>
    intro i hi
    refine ev_succ ?_
    simp only [impl_FileAt.l0]
    refine ev_if (by omega) (ev_if (by omega) (ev_if (by omega) ?_))
    rw [fileAtV_at l s i (by omega), succ_i i (by omega)]
    by_cases hc : (rd_T71 l (i : Int)).f0 = s
    · exact ev_if ((toList_iff _ _).2 hc) (ev_some (congrArg some (if_pos hc).symm))
    · exact ev_else (fun h => hc ((toList_iff _ _).1 h)) (ev_eq (ih (i + 1) (by omega)) (if_neg hc).symm)
theorem impl_FileAt_f (l : List S71) (s : ByteArray) (hl : l.length ≤ 4611686018427387904) : Ev (fun k => impl_FileAt.f k l s) (fileAtV l s) := by
  have := impl_FileAt_l0 l s hl l.length 0 (by omega)
  simpa [impl_FileAt.f] using this
theorem spec_l03At_l0 (l : List S71) (s : ByteArray) (hl : l.length ≤ 4611686018427387904) : ∀ (d i : Nat), i + d = l.length →
    ∃ r : Int, Ev (fun k => spec_l03At.l0 k s (i : Int) l) r ∧ ((r = -1 ∧ ∀ j, i ≤ j → j < l.length → ¬ (rd_T71 l (j : Int)).f0 = s) ∨ ∃ j : Nat, r = (j : Int) ∧ i ≤ j ∧ j < l.length ∧ (rd_T71 l (j : Int)).f0 = s ∧ ∀ q, i ≤ q → q < j → ¬ (rd_T71 l (q : Int)).f0 = s) := by
  intro d
  induction d with
  | zero =>
    intro i hi
    refine ⟨-1, ev_succ ?_, .inl ⟨rfl, fun j h1 h2 => by omega⟩⟩
    simp only [spec_l03At.l0]
    exact ev_else (by omega) (ev_some rfl)
  | succ d ih =>
    intro i hi
    by_cases hc : (rd_T71 l (i : Int)).f0 = s
    · refine ⟨(i : Int), ev_succ ?_, .inr ⟨i, rfl, Nat.le_refl _, by omega, hc, fun q h1 h2 => by omega⟩⟩
      simp only [spec_l03At.l0]
      exact ev_if (by omega) (ev_if (by omega) (ev_if ((toList_iff _ _).2 hc) (ev_some rfl)))
    · obtain ⟨r, hr, hq⟩ := ih (i + 1) (by omega)
      refine ⟨r, ev_succ ?_, ?_⟩
      · simp only [spec_l03At.l0]
        rw [succ_i i (by omega)]
        exact ev_if (by omega) (ev_if (by omega) (ev_else (fun h => hc ((toList_iff _ _).1 h)) hr))
      · have ext : ∀ q, i ≤ q → (q = i ∨ i + 1 ≤ q) := fun q h => by omega
        rcases hq with ⟨h1, h2⟩ | ⟨j, h1, h2, h3, h4, h5⟩
        · refine .inl ⟨h1, fun q a b => ?_⟩
          rcases ext q a with rfl | h
          · exact hc
          · exact h2 q h b
        · refine .inr ⟨j, h1, by omega, h3, h4, fun q a b => ?_⟩
          rcases ext q a with rfl | h
          · exact hc
          · exact h5 q h b
theorem spec_l03At_f (l : List S71) (s : ByteArray) (hl : l.length ≤ 4611686018427387904) :
    ∃ r : Int, Ev (fun k => spec_l03At.f k l s) r ∧ ((r = -1 ∧ ∀ j, j < l.length → ¬ (rd_T71 l (j : Int)).f0 = s) ∨ ∃ j : Nat, r = (j : Int) ∧ j < l.length ∧ (rd_T71 l (j : Int)).f0 = s ∧ ∀ q, q < j → ¬ (rd_T71 l (q : Int)).f0 = s) := by
  obtain ⟨r, hr, hq⟩ := spec_l03At_l0 l s hl l.length 0 (by omega)
  refine ⟨r, by simpa [spec_l03At.f] using hr, ?_⟩
  rcases hq with ⟨h1, h2⟩ | ⟨j, h1, h2, h3, h4, h5⟩
  · exact .inl ⟨h1, fun j => h2 j (Nat.zero_le _)⟩
  · exact .inr ⟨j, h1, h3, h4, fun q => h5 q (Nat.zero_le _)⟩
theorem fileAtV_none (l : List S71) (s : ByteArray) : ∀ (d i : Nat), i + d = l.length → (∀ j, i ≤ j → j < l.length → ¬ (rd_T71 l (j : Int)).f0 = s) → fileAtV (l.drop i) s = (⟨#[]⟩, false) := by
  intro d
  induction d with
  | zero => intro i hi _; rw [drop_end l i (by omega)]; rfl
  | succ d ih =>
    intro i hi h
    rw [fileAtV_at l s i (by omega), if_neg (h i (Nat.le_refl _) (by omega))]
    exact ih (i + 1) (by omega) (fun j a b => h j (by omega) b)
theorem fileAtV_some (l : List S71) (s : ByteArray) (j : Nat) (hj : j < l.length) (he : (rd_T71 l (j : Int)).f0 = s) : ∀ (d i : Nat), i + d = j → (∀ q, i ≤ q → q < j → ¬ (rd_T71 l (q : Int)).f0 = s) → fileAtV (l.drop i) s = ((rd_T71 l (j : Int)).f1, true) := by
  intro d
  induction d with
  | zero =>
    intro i hi _
    obtain rfl : i = j := by omega
    rw [fileAtV_at l s i hj, if_pos he]
  | succ d ih =>
    intro i hi h
    rw [fileAtV_at l s i (by omega), if_neg (h i (Nat.le_refl _) (by omega))]
    exact ih (i + 1) (by omega) (fun q a b => h q (by omega) b)
def fileOkB (f : S71) : Bool := decide (1 ≤ f.f0.size ∧ f.f0.size ≤ 8) && (decide (f.f1.size ≤ 20000) && decide (0 ≤ f.f2 ∧ f.f2 ≤ (f.f1.size : Int)))
def lessB (a b : ByteArray) : Bool := Op.bytesLess a.toList b.toList
def diskL : Option ByteArray → List S71 → Bool
  | _, [] => true
  | p, x :: xs => fileOkB x && ((match p with | none => true | some y => lessB y x.f0) && diskL (some x.f0) xs)
def prevF (l : List S71) (i : Nat) : Option ByteArray := if i = 0 then none else some (rd_T71 l ((i - 1 : Nat) : Int)).f0
def diskOkB (l : List S71) : Bool := decide (l.length ≤ 30) && diskL none l
theorem diskL_at (l : List S71) (i : Nat) (h : i < l.length) :
    diskL (prevF l i) (l.drop i) = (fileOkB (rd_T71 l (i : Int)) && ((if i = 0 then true else lessB (rd_T71 l ((i - 1 : Nat) : Int)).f0 (rd_T71 l (i : Int)).f0) && diskL (prevF l (i + 1)) (l.drop (i + 1)))) := by
  rw [drop_getD l z71 i h]
  have e : prevF l (i + 1) = some (l.getD i z71).f0 := by simp [prevF]; rfl
  rw [e]
  show diskL (prevF l i) (l.getD i z71 :: l.drop (i + 1)) = (fileOkB (l.getD i z71) && _)
  simp only [diskL, prevF]
  by_cases h0 : i = 0
  · subst h0; rfl
  · simp only [h0, if_false]; rfl
theorem impl_fileOk_f (f : S71) : impl_fileOk.f f.f0 f.f1 f.f2 = some (fileOkB f) := by
  unfold impl_fileOk.f fileOkB
  simp only [impl_inRange_f, Option.bind_some]
  by_cases h1 : 1 ≤ f.f0.size ∧ f.f0.size ≤ 8
  · have h1' : 1 ≤ (f.f0.size : Int) ∧ (f.f0.size : Int) ≤ 8 := by omega
    by_cases h2 : f.f1.size ≤ 20000
    · have h2' : (f.f1.size : Int) ≤ 20000 := by omega
      simp only [h1, h1', h2, h2', and_self, decide_true, if_true, Bool.true_and]
    · have h2' : ¬ (f.f1.size : Int) ≤ 20000 := by omega
      simp only [h1, h1', h2, h2', and_self, decide_true, decide_false, if_true, if_false, Bool.true_and, Bool.false_and]
  · have h1' : ¬ (1 ≤ (f.f0.size : Int) ∧ (f.f0.size : Int) ≤ 8) := by omega
    simp only [h1, h1', decide_false, Bool.false_and]
    rfl
theorem impl_DiskOk_l0 (l : List S71) (hl : l.length ≤ 4611686018427387904) : ∀ (d i : Nat), i + d = l.length →
    Ev (fun k => impl_DiskOk.l0 k l (l.length : Int) (i : Int) l) (decide (l.length ≤ 30) && diskL (prevF l i) (l.drop i)) := by
  intro d
  induction d with
  | zero =>
    intro i hi
    refine ev_succ ?_
    simp only [impl_DiskOk.l0]
    refine ev_else (by omega) (ev_some ?_)
    rw [drop_end l i (by omega)]
    have e : diskL (prevF l i) [] = true := by cases prevF l i <;> rfl
    rw [e, Bool.and_true]
    congr 1
    apply decide_eq_decide.2
    omega
  | succ d ih =>
    intro i hi
    refine ev_succ ?_
    simp only [impl_DiskOk.l0]
    refine ev_if (by omega) (ev_if (by omega) (ev_if (by omega) (ev_bind0 (impl_fileOk_f _) ?_)))
    rw [diskL_at l i (by omega), succ_i i (by omega)]
    by_cases hf : fileOkB (rd_T71 l (i : Int)) = true
    · refine ev_if hf ?_
      rw [hf, Bool.true_and]
      by_cases h0 : i = 0
      · refine ev_else (by omega) (ev_eq (ih (i + 1) (by omega)) ?_)
        rw [if_pos h0, Bool.true_and]
      · rw [pred_i i (by omega) (by omega), if_neg h0]
        refine ev_if (by omega) (ev_if (by omega) (ev_if (by omega) ?_))
        by_cases hb : lessB (rd_T71 l ((i - 1 : Nat) : Int)).f0 (rd_T71 l (i : Int)).f0 = true
        · refine ev_if hb (ev_eq (ih (i + 1) (by omega)) ?_)
          rw [hb, Bool.true_and]
        · refine ev_else hb (ev_some ?_)
          rw [Bool.eq_false_iff.2 hb, Bool.false_and, Bool.and_false]
    · refine ev_else hf (ev_some ?_)
      rw [Bool.eq_false_iff.2 hf, Bool.false_and, Bool.and_false]
theorem impl_DiskOk_f (l : List S71) (hl : l.length ≤ 4611686018427387904) : Ev (fun k => impl_DiskOk.f k l) (diskOkB l) := by
  have := impl_DiskOk_l0 l hl l.length 0 (by omega)
  unfold impl_DiskOk.f diskOkB
  rw [List.drop_zero] at this
  exact this
theorem spec_l03Name_f (s : ByteArray) : spec_l03Name.f s = some (decide (1 ≤ s.size ∧ s.size ≤ 8)) := by
  unfold spec_l03Name.f
  simp only [spec_l01In_f, Option.bind_some]
  congr 1
  apply decide_eq_decide.2
  omega
theorem spec_DiskOk_l0 (l : List S71) (hl : l.length ≤ 4611686018427387904) : ∀ (d i : Nat), i + d = l.length →
    Ev (fun k => spec_DiskOk.l0 k (i : Int) l) (diskL (prevF l i) (l.drop i)) := by
  intro d
  induction d with
  | zero =>
    intro i hi
    refine ev_succ ?_
    simp only [spec_DiskOk.l0]
    refine ev_else (by omega) (ev_some ?_)
    rw [drop_end l i (by omega)]
    cases prevF l i <;> rfl
  | succ d ih =>
    intro i hi
    refine ev_succ ?_
    simp only [spec_DiskOk.l0]
    refine ev_if (by omega) (ev_if (by omega) (ev_bind0 (spec_l03Name_f _) ?_))
    rw [diskL_at l i (by omega), succ_i i (by omega)]
    unfold fileOkB
    by_cases h1 : 1 ≤ (rd_T71 l (i : Int)).f0.size ∧ (rd_T71 l (i : Int)).f0.size ≤ 8
    · refine ev_if (decide_eq_true h1) ?_
      rw [decide_eq_true h1, Bool.true_and]
      by_cases h2 : (rd_T71 l (i : Int)).f1.size ≤ 20000
      · refine ev_else (by omega) (ev_bind0 (spec_l01In_f _ _ _) ?_)
        rw [decide_eq_true h2, Bool.true_and]
        by_cases h3 : 0 ≤ (rd_T71 l (i : Int)).f2 ∧ (rd_T71 l (i : Int)).f2 ≤ ((rd_T71 l (i : Int)).f1.size : Int)
        · refine ev_if (decide_eq_true h3) ?_
          rw [decide_eq_true h3, Bool.true_and]
          by_cases h0 : i = 0
          · refine ev_else (by omega) (ev_eq (ih (i + 1) (by omega)) ?_)
            rw [if_pos h0, Bool.true_and]
          · rw [pred_i i (by omega) (by omega), if_neg h0]
            refine ev_if (by omega) (ev_if (by omega) (ev_if (by omega) ?_))
            by_cases hb : lessB (rd_T71 l ((i - 1 : Nat) : Int)).f0 (rd_T71 l (i : Int)).f0 = true
            · refine ev_if hb (ev_eq (ih (i + 1) (by omega)) ?_)
              rw [hb, Bool.true_and]
            · refine ev_else hb (ev_some ?_)
              rw [Bool.eq_false_iff.2 hb, Bool.false_and]
        · refine ev_else (by rw [decide_eq_false h3]; simp) (ev_some ?_)
          rw [decide_eq_false h3, Bool.false_and]
      · refine ev_if (by omega) (ev_some ?_)
        rw [decide_eq_false h2, Bool.false_and, Bool.false_and]
    · refine ev_else (by rw [decide_eq_false h1]; simp) (ev_some ?_)
      rw [decide_eq_false h1, Bool.false_and, Bool.false_and]
theorem spec_DiskOk_f (l : List S71) (hl : l.length ≤ 4611686018427387904) : Ev (fun k => spec_DiskOk.f k l) (diskOkB l) := by
  unfold spec_DiskOk.f diskOkB
  by_cases h : (l.length : Int) > 30
  · refine ev_if h (ev_some ?_)
    rw [decide_eq_false (by omega), Bool.false_and]
  · refine ev_else h (ev_eq ?_ (by rw [decide_eq_true (show l.length ≤ 30 by omega), Bool.true_and]))
    have := spec_DiskOk_l0 l hl l.length 0 (by omega)
    rw [List.drop_zero] at this
    exact this
def riseL (a b : Int) : Option Int → List Int → Bool
  | _, [] => true
  | p, x :: xs => decide (a ≤ x ∧ x ≤ b) && ((match p with | none => true | some y => decide (y < x)) && riseL a b (some x) xs)
def prevAt (l : List Int) (i : Nat) : Option Int := if i = 0 then none else some (l.getD (i - 1) 0)
theorem riseL_at (a b : Int) (l : List Int) (i : Nat) (h : i < l.length) :
    riseL a b (prevAt l i) (l.drop i) = (decide (a ≤ l.getD i 0 ∧ l.getD i 0 ≤ b) && (if i = 0 then true else decide (l.getD (i - 1) 0 < l.getD i 0)) && riseL a b (prevAt l (i + 1)) (l.drop (i + 1))) := by
  rw [drop_getD l 0 i h]
  have e : prevAt l (i + 1) = some (l.getD i 0) := by simp [prevAt]
  rw [e]
  simp only [riseL, prevAt]
  by_cases h0 : i = 0
  · simp [h0]
  · simp [h0, Bool.and_assoc]
def confOkB (l : List Int) : Bool := decide (1 ≤ l.length) && riseL 1 4 none l
def octS (l : List Int) : ByteArray := strOfNums (l.map fun x => x % 256)
def confTextV (l : List Int) : ByteArray × Bool := if confOkB l = true then (octS l, true) else (⟨#[]⟩, false)
def fourN (x : Nat) : List Nat := [x / 16777216 % 256, x / 65536 % 256, x / 256 % 256, x % 256]
def sumS (s : ByteArray) : ByteArray := strN (fourN (crcL (natsOf s) 4294967295))
theorem sumS_size (s : ByteArray) : (sumS s).size = 4 := by unfold sumS; rw [strN_size]; rfl
theorem four_eq (x : Nat) : strOfNums (([((x : Int) / 16777216) % 256, ((x : Int) / 65536) % 256, ((x : Int) / 256) % 256, ((x : Int)) % 256] : List Int)) = strN (fourN x) := by
  unfold strN fourN intsOf
  simp
def sealedV (s : ByteArray) : ByteArray × Bool := if s.size ≤ 20000 then (s ++ sumS s, true) else (⟨#[]⟩, false)
def unsealedV (s : ByteArray) : ByteArray × Bool :=
  if 4 ≤ s.size ∧ s.size ≤ 20004 ∧ sumS (s.extract 0 (s.size - 4)) = s.extract (s.size - 4) s.size then (s.extract 0 (s.size - 4), true) else (⟨#[]⟩, false)
def shS (s : ByteArray) : ByteArray := strN (vtl s.size) ++ s
def snapBytes (i t : Int) (conf : List Int) (body : ByteArray) : ByteArray := ((strN (vtl i.toNat) ++ strN (vtl t.toNat)) ++ shS (octS conf)) ++ shS body
def snapOkB (i t : Int) (conf : List Int) (body : ByteArray) : Bool := decide (0 ≤ i ∧ i ≤ 1000000) && (decide (0 ≤ t ∧ t ≤ 100000) && (confOkB conf && decide (body.size ≤ 20000)))
def snapTextV (i t : Int) (conf : List Int) (body : ByteArray) : ByteArray × Bool :=
  if snapOkB i t conf body = true ∧ (snapBytes i t conf body).size ≤ 19996 then (snapBytes i t conf body ++ sumS (snapBytes i t conf body), true) else (⟨#[]⟩, false)
theorem octS_size (l : List Int) : (octS l).size = l.length := by
  rw [← data_length]
  simp [octS, strOfNums]
theorem shS_size (s : ByteArray) : (shS s).size ≤ 2 * s.size + 1 := by
  unfold shS
  rw [ByteArray.size_append, strN_size]
  have := vtl_len s.size
  omega
theorem snap_parts (i t : Int) (conf : List Int) (body : ByteArray) (hi : 0 ≤ i ∧ i ≤ 1000000) (ht : 0 ≤ t ∧ t ≤ 100000) (hc : conf.length ≤ 1048576) (hb : body.size ≤ 20000) :
    (strN (vtl i.toNat)).size ≤ 1000001 ∧ (strN (vtl t.toNat)).size ≤ 100001 ∧ (shS (octS conf)).size ≤ 2097153 ∧ (shS body).size ≤ 40001 := by
  refine ⟨?_, ?_, ?_, ?_⟩
  · rw [strN_size]; have := vtl_len i.toNat; omega
  · rw [strN_size]; have := vtl_len t.toNat; omega
  · have := shS_size (octS conf); rw [octS_size] at this; omega
  · have := shS_size body; omega
theorem impl_SumMore_l1 (s : ByteArray) (i : Nat) (hi : i < s.size) (hs : s.size ≤ 140737488355328) (r : Int) : ∀ (d x : Nat), d ≤ 8 → x < 4294967296 →
    Ev (fun k => impl_SumMore.l0 k ((crcBits d x : Nat) : Int) s ((i + 1 : Nat) : Int)) r → Ev (fun k => impl_SumMore.l1 k (x : Int) s (i : Int) ((8 - d : Nat) : Int)) r := by
  intro d
  induction d with
  | zero =>
    intro x _ hx h
    refine ev_succ ?_
    simp only [impl_SumMore.l1]
    refine ev_else (by omega) ?_
    rw [wrap_to (y := ((i + 1 : Nat) : Int)) (by omega) (by omega) (by omega)]
    exact h
  | succ d ih =>
    intro x hd hx h
    have hb := and_one_u32 x hx
    refine ev_succ ?_
    simp only [impl_SumMore.l1]
    refine ev_if (by omega) ?_
    have e8 : wrap64 (((8 - (d + 1) : Nat) : Int) + 1) = ((8 - d : Nat) : Int) := wrap_to (by omega) (by omega) (by omega)
    rw [hb, e8]
    have e2 : (x : Int) / 2 = ((x / 2 : Nat) : Int) := by omega
    rw [e2]
    unfold crcBits at h
    have hlt := crcBit_lt hx
    by_cases hodd : x % 2 = 1
    · refine ev_if (by omega) ?_
      have e3 := xor_u32 (x / 2) 3558460437 (by omega) (by omega)
      have e4 : crcBit x = (x / 2) ^^^ 3558460437 := if_pos hodd
      rw [e4] at h hlt
      rw [show (3558460437 : Int) = ((3558460437 : Nat) : Int) from rfl, e3]
      exact ih _ (by omega) hlt h
    · refine ev_else (by omega) ?_
      have e4 : crcBit x = x / 2 := if_neg hodd
      rw [e4] at h hlt
      exact ih _ (by omega) hlt h
theorem impl_SumMore_l0 (s : ByteArray) (hs : s.size ≤ 140737488355328) : ∀ (d i x : Nat), i + d = s.size → x < 4294967296 →
    Ev (fun k => impl_SumMore.l0 k (x : Int) s (i : Int)) ((crcL ((natsOf s).drop i) x : Nat) : Int) := by
  intro d
  induction d with
  | zero =>
    intro i x hi hx
    refine ev_succ ?_
    simp only [impl_SumMore.l0]
    refine ev_else (by omega) ?_
    have : (natsOf s).drop i = [] := List.drop_eq_nil_of_le (by rw [natsOf_length]; omega)
    rw [this]
    exact ev_some rfl
  | succ d ih =>
    intro i x hi hx
    have hlt : i < s.size := by omega
    refine ev_succ ?_
    simp only [impl_SumMore.l0]
    refine ev_if (by omega) ?_
    refine ev_if (by omega) ?_
    have hbb : (s[i]'hlt).toNat < 256 := UInt8.toNat_lt _
    rw [bt_nat s i hlt, natsOf_drop s i hlt]
    have e1 : (((s[i]'hlt).toNat : Int)) % 4294967296 = (((s[i]'hlt).toNat : Nat) : Int) := by omega
    rw [e1, xor_u32 _ _ hx (by omega)]
    have hx' : x ^^^ (s[i]'hlt).toNat < 4294967296 := Nat.xor_lt_two_pow (n := 32) hx (by omega)
    unfold crcL
    exact impl_SumMore_l1 s i hlt hs _ 8 _ (by omega) hx' (ih (i + 1) _ (by omega) (crcBits_lt hx' 8))
theorem impl_SumMore_f (s : ByteArray) (hs : s.size ≤ 140737488355328) (x : Nat) (hx : x < 4294967296) :
    Ev (fun k => impl_SumMore.f k (x : Int) s) ((crcL (natsOf s) x : Nat) : Int) := by
  have := impl_SumMore_l0 s hs s.size 0 x (by omega) hx
  simpa [impl_SumMore.f] using this
theorem impl_SumOf_f (s : ByteArray) (hs : s.size ≤ 140737488355328) :
    Ev (fun k => impl_SumOf.f k s) ((crcL (natsOf s) 4294967295 : Nat) : Int) := by
  unfold impl_SumOf.f
  exact ev_bind (impl_SumMore_f s hs 4294967295 (by omega)) (ev_some rfl)
theorem impl_sumText_f (s : ByteArray) (hs : s.size ≤ 140737488355328) : Ev (fun k => impl_sumText.f k s) (sumS s) := by
  unfold impl_sumText.f
  exact ev_bind (impl_SumOf_f s hs) (ev_some (by rw [four_eq]; rfl))
theorem impl_Sealed_f (s : ByteArray) (hs : s.size ≤ 140737488351232) : Ev (fun k => impl_Sealed.f k s) (sealedV s) := by
  unfold impl_Sealed.f sealedV
  by_cases h : (s.size : Int) > 20000
  · rw [if_neg (by omega)]
    exact ev_if h (ev_some rfl)
  · refine ev_else h ?_
    rw [if_pos (by omega)]
    refine ev_bind (impl_sumText_f s (by omega)) ?_
    exact ev_if (by rw [sumS_size]; omega) (ev_some rfl)
theorem impl_varText_l0 : ∀ (n : Nat) (xs : List Nat), xs.length + n < 140737488355328 → Ev (fun k => impl_varText.l0 k (n : Int) (intsOf xs)) (strN (xs ++ vtl n)) := by
  intro n
  induction n using Nat.strongRecOn with
  | ind n ih =>
    intro xs hl
    refine ev_succ ?_
    simp only [impl_varText.l0]
    have hlen : (intsOf xs).length = xs.length := by simp [intsOf]
    by_cases h : 127 < n
    · refine ev_if (by omega) ?_
      refine ev_if (by rw [hlen]; omega) ?_
      have e1 : wrap64 (Int.tdiv (n : Int) 128) = ((n / 128 : Nat) : Int) := by rw [tdivp (Int.natCast_nonneg _)]; exact wrap_to (by omega) (by omega) (by omega)
      have e2 : wrap64 (128 + (Int.tmod (n : Int) 128)) % 256 = ((n % 128 + 128 : Nat) : Int) := by rw [tmodp (Int.natCast_nonneg _), wrap_to (y := ((n % 128 + 128 : Nat) : Int)) (by omega) (by omega) (by omega)]; omega
      have e3 : intsOf xs ++ [((n % 128 + 128 : Nat) : Int)] = intsOf (xs ++ [n % 128 + 128]) := by simp [intsOf]
      rw [e1, e2, e3, vtl_big h]
      have e4 : xs ++ (n % 128 + 128) :: vtl (n / 128) = (xs ++ [n % 128 + 128]) ++ vtl (n / 128) := by simp
      rw [e4]
      exact ih (n / 128) (by omega) _ (by rw [List.length_append, List.length_singleton]; omega)
    · refine ev_else (by omega) ?_
      refine ev_if (by rw [hlen]; omega) ?_
      have e2 : (n : Int) % 256 = (n : Int) := by omega
      have e3 : intsOf xs ++ [(n : Int)] = intsOf (xs ++ [n]) := by simp [intsOf]
      rw [e2, e3, vtl_small (by omega)]
      exact ev_some rfl
theorem impl_varText_f (n : Nat) (h : n < 140737488355328) : Ev (fun k => impl_varText.f k (n : Int)) (strN (vtl n)) := by
  have := impl_varText_l0 n [] (by simpa using h)
  simpa [impl_varText.f, intsOf] using this
theorem impl_octets_l0 (l : List Int) (hl : l.length ≤ 35184372088832) : ∀ (d i : Nat), i + d = l.length →
    Ev (fun k => impl_octets.l0 k ((l.take i).map fun x => x % 256) l (l.length : Int) (i : Int)) (octS l) := by
  intro d
  induction d with
  | zero =>
    intro i hi
    refine ev_succ ?_
    simp only [impl_octets.l0]
    refine ev_else (by omega) (ev_some ?_)
    rw [List.take_of_length_le (by omega)]
    rfl
  | succ d ih =>
    intro i hi
    refine ev_succ ?_
    simp only [impl_octets.l0]
    have hlen : ((l.take i).map fun x => x % 256).length = i := by rw [List.length_map, List.length_take]; omega
    refine ev_if (by omega) (ev_if (by omega) (ev_if (by omega) (ev_if (by rw [hlen]; omega) ?_)))
    rw [rd_nat, succ_i i (by omega)]
    have e : (l.take i).map (fun x => x % 256) ++ [l.getD i 0 % 256] = (l.take (i + 1)).map fun x => x % 256 := by
      have hlt : i < l.length := by omega
      rw [List.take_succ_eq_append_getElem hlt, List.map_append, List.getD_eq_getElem?_getD, List.getElem?_eq_getElem hlt]
      rfl
    rw [e]
    exact ih (i + 1) (by omega)
theorem impl_octets_f (l : List Int) (hl : l.length ≤ 35184372088832) : Ev (fun k => impl_octets.f k l) (octS l) := by
  have := impl_octets_l0 l hl l.length 0 (by omega)
  simpa [impl_octets.f] using this
theorem impl_areNodes_l0 (l : List Int) (hl : l.length ≤ 35184372088832) : ∀ (d i : Nat), i + d = l.length →
    Ev (fun k => impl_areNodes.l0 k l l (l.length : Int) (i : Int)) (riseL 1 4 (prevAt l i) (l.drop i)) := by
  intro d
  induction d with
  | zero =>
    intro i hi
    refine ev_succ ?_
    simp only [impl_areNodes.l0]
    refine ev_else (by omega) (ev_some ?_)
    rw [drop_end l i (by omega)]
    cases prevAt l i <;> rfl
  | succ d ih =>
    intro i hi
    refine ev_succ ?_
    simp only [impl_areNodes.l0, impl_isNode.f]
    refine ev_if (by omega) (ev_if (by omega) (ev_if (by omega) ?_))
    rw [impl_inRange_f]
    simp only [Option.bind_some]
    rw [riseL_at 1 4 l i (by omega), rd_nat, succ_i i (by omega)]
    by_cases hr : 1 ≤ l.getD i 0 ∧ l.getD i 0 ≤ 4
    · refine ev_if (by simp only [hr, and_self, decide_true]) ?_
      by_cases h0 : i = 0
      · refine ev_else (by omega) (ev_eq (ih (i + 1) (by omega)) ?_)
        subst h0
        simp only [hr, and_self, decide_true, if_true, Bool.true_and]
      · refine ev_if (by omega) ?_
        rw [pred_i i (by omega) (by omega), rd_nat]
        refine ev_if (by omega) (ev_if (by omega) ?_)
        by_cases hlt : l.getD (i - 1) 0 < l.getD i 0
        · refine ev_else (by omega) (ev_eq (ih (i + 1) (by omega)) ?_)
          simp only [hr, h0, hlt, and_self, decide_true, if_false, Bool.true_and]
        · refine ev_if (by omega) (ev_some ?_)
          simp only [hr, h0, hlt, and_self, decide_true, decide_false, if_false, Bool.and_false, Bool.false_and]
    · refine ev_else (by simp only [hr, decide_false]; simp) (ev_some ?_)
      simp only [hr, decide_false, Bool.false_and]
theorem impl_areNodes_f (l : List Int) (hl : l.length ≤ 35184372088832) : Ev (fun k => impl_areNodes.f k l) (riseL 1 4 none l) := by
  have := impl_areNodes_l0 l hl l.length 0 (by omega)
  simpa [impl_areNodes.f, prevAt] using this
theorem impl_ConfOk_f (l : List Int) (hl : l.length ≤ 35184372088832) : Ev (fun k => impl_ConfOk.f k l) (confOkB l) := by
  unfold impl_ConfOk.f confOkB
  by_cases h1 : 1 ≤ l.length
  · refine ev_if (by omega) ?_
    refine ev_bind (impl_areNodes_f l hl) (ev_some ?_)
    simp [h1]
  · refine ev_else (by omega) (ev_some ?_)
    simp [h1]
theorem impl_shortText_f (s : ByteArray) (hs : s.size ≤ 1000000000) : Ev (fun k => impl_shortText.f k s) (shS s) := by
  unfold impl_shortText.f shS
  refine ev_bind (impl_varText_f s.size (by omega)) (ev_if ?_ (ev_some rfl))
  rw [strN_size]; have := vtl_len s.size; omega
theorem impl_SnapText_f (i t : Int) (conf : List Int) (body : ByteArray) (hc : conf.length ≤ 1048576) : Ev (fun k => impl_SnapText.f k i t conf body) (snapTextV i t conf body) := by
  have no : snapOkB i t conf body = false → Ev (fun k => impl_SnapText.j0 k true i t conf body) (snapTextV i t conf body) := by
    intro hn
    refine ev_succ ?_
    simp only [impl_SnapText.j0]
    refine ev_if (by simp) (ev_some (congrArg some (if_neg ?_).symm))
    rw [hn]; simp
  unfold impl_SnapText.f impl_isIndex.f impl_isTerm.f
  rw [impl_inRange_f, impl_inRange_f]
  simp only [Option.bind_some]
  by_cases hi : 0 ≤ i ∧ i ≤ 1000000
  · refine ev_if (decide_eq_true hi) ?_
    by_cases ht : 0 ≤ t ∧ t ≤ 100000
    · refine ev_if (decide_eq_true ht) (ev_bind (impl_ConfOk_f conf (by omega)) ?_)
      by_cases hcf : confOkB conf = true
      · refine ev_if hcf ?_
        by_cases hb : body.size ≤ 20000
        · have hok : snapOkB i t conf body = true := by unfold snapOkB; rw [decide_eq_true hi, decide_eq_true ht, hcf, decide_eq_true hb]; rfl
          obtain ⟨s1, s2, s3, s4⟩ := snap_parts i t conf body hi ht hc hb
          have e1 := impl_varText_f i.toNat (by omega)
          have e2 := impl_varText_f t.toNat (by omega)
          rw [Int.toNat_of_nonneg hi.1] at e1
          rw [Int.toNat_of_nonneg ht.1] at e2
          refine ev_succ ?_
          simp only [impl_SnapText.j0]
          refine ev_else (by simp; omega) (ev_bind e1 (ev_bind e2 (ev_if (by omega) (ev_bind (impl_octets_f conf (by omega)) (ev_bind (impl_shortText_f _ (by rw [octS_size]; omega)) (ev_if (by rw [ByteArray.size_append]; omega) (ev_bind (impl_shortText_f body (by omega)) (ev_if (by rw [ByteArray.size_append, ByteArray.size_append]; omega) ?_))))))))
          have hsz : (snapBytes i t conf body).size ≤ 10000000 := by unfold snapBytes; rw [ByteArray.size_append, ByteArray.size_append, ByteArray.size_append]; omega
          refine ev_bind (impl_Sealed_f (snapBytes i t conf body) (by omega)) ?_
          unfold sealedV
          by_cases hl : (snapBytes i t conf body).size ≤ 20000
          · rw [if_pos hl]
            refine ev_if rfl ?_
            have h4 : (snapBytes i t conf body ++ sumS (snapBytes i t conf body)).size = (snapBytes i t conf body).size + 4 := by rw [ByteArray.size_append, sumS_size]
            by_cases hl2 : (snapBytes i t conf body).size ≤ 19996
            · exact ev_else (by rw [h4]; omega) (ev_some (congrArg some (if_pos ⟨hok, hl2⟩).symm))
            · exact ev_if (by rw [h4]; omega) (ev_some (congrArg some (if_neg (fun h => hl2 h.2)).symm))
          · rw [if_neg hl]
            exact ev_else (by simp) (ev_some (congrArg some (if_neg (fun h => hl (by omega))).symm))
        · have hd : decide ((body.size : Int) > 20000) = true := by simp; omega
          rw [hd]
          exact no (by unfold snapOkB; rw [decide_eq_false hb]; simp)
      · exact ev_else hcf (no (by unfold snapOkB; rw [Bool.eq_false_iff.2 hcf]; simp))
    · exact ev_else (by rw [decide_eq_false ht]; simp) (no (by unfold snapOkB; rw [decide_eq_false ht]; simp))
  · exact ev_else (by rw [decide_eq_false hi]; simp) (no (by unfold snapOkB; rw [decide_eq_false hi]; simp))
theorem spec_SumMore_l1 (s : ByteArray) (i : Nat) (hi : i < s.size) (hs : s.size ≤ 140737488355328) (r : Int) : ∀ (d x : Nat), d ≤ 8 → x < 4294967296 →
    Ev (fun k => spec_SumMore.l0 k ((crcBits d x : Nat) : Int) s ((i + 1 : Nat) : Int)) r → Ev (fun k => spec_SumMore.l1 k (x : Int) s (i : Int) ((8 - d : Nat) : Int)) r := by
  intro d
  induction d with
  | zero =>
    intro x _ hx h
    refine ev_succ ?_
    simp only [spec_SumMore.l1]
    refine ev_else (by omega) ?_
    rw [wrap_to (y := ((i + 1 : Nat) : Int)) (by omega) (by omega) (by omega)]
    exact h
  | succ d ih =>
    intro x hd hx h
    have hb : Int.tmod (x : Int) 2 = ((x % 2 : Nat) : Int) := by rw [tmodp (Int.natCast_nonneg _)]; omega
    refine ev_succ ?_
    simp only [spec_SumMore.l1]
    refine ev_if (by omega) ?_
    have e8 : wrap64 (((8 - (d + 1) : Nat) : Int) + 1) = ((8 - d : Nat) : Int) := wrap_to (by omega) (by omega) (by omega)
    rw [hb, e8]
    have e2 : Int.tdiv (x : Int) 2 % 4294967296 = ((x / 2 : Nat) : Int) := by rw [tdivp (Int.natCast_nonneg _)]; omega
    rw [e2]
    unfold crcBits at h
    have hlt := crcBit_lt hx
    by_cases hodd : x % 2 = 1
    · refine ev_if (by omega) ?_
      have e3 := xor_u32 (x / 2) 3558460437 (by omega) (by omega)
      have e4 : crcBit x = (x / 2) ^^^ 3558460437 := if_pos hodd
      rw [e4] at h hlt
      rw [show (3558460437 : Int) = ((3558460437 : Nat) : Int) from rfl, e3]
      exact ih _ (by omega) hlt h
    · refine ev_else (by omega) ?_
      have e4 : crcBit x = x / 2 := if_neg hodd
      rw [e4] at h hlt
      exact ih _ (by omega) hlt h
theorem spec_SumMore_l0 (s : ByteArray) (hs : s.size ≤ 140737488355328) : ∀ (d i x : Nat), i + d = s.size → x < 4294967296 →
    Ev (fun k => spec_SumMore.l0 k (x : Int) s (i : Int)) ((crcL ((natsOf s).drop i) x : Nat) : Int) := by
  intro d
  induction d with
  | zero =>
    intro i x hi hx
    refine ev_succ ?_
    simp only [spec_SumMore.l0]
    refine ev_else (by omega) ?_
    have : (natsOf s).drop i = [] := List.drop_eq_nil_of_le (by rw [natsOf_length]; omega)
    rw [this]
    exact ev_some rfl
  | succ d ih =>
    intro i x hi hx
    have hlt : i < s.size := by omega
    refine ev_succ ?_
    simp only [spec_SumMore.l0]
    refine ev_if (by omega) ?_
    refine ev_if (by omega) ?_
    have hbb : (s[i]'hlt).toNat < 256 := UInt8.toNat_lt _
    rw [bt_nat s i hlt, natsOf_drop s i hlt]
    have e1 : (((s[i]'hlt).toNat : Int)) % 4294967296 = (((s[i]'hlt).toNat : Nat) : Int) := by omega
    rw [e1, xor_u32 _ _ hx (by omega)]
    have hx' : x ^^^ (s[i]'hlt).toNat < 4294967296 := Nat.xor_lt_two_pow (n := 32) hx (by omega)
    unfold crcL
    exact spec_SumMore_l1 s i hlt hs _ 8 _ (by omega) hx' (ih (i + 1) _ (by omega) (crcBits_lt hx' 8))
theorem spec_SumMore_f (s : ByteArray) (hs : s.size ≤ 140737488355328) (x : Nat) (hx : x < 4294967296) :
    Ev (fun k => spec_SumMore.f k (x : Int) s) ((crcL (natsOf s) x : Nat) : Int) := by
  have := spec_SumMore_l0 s hs s.size 0 x (by omega) hx
  simpa [spec_SumMore.f] using this
theorem spec_SumOf_f (s : ByteArray) (hs : s.size ≤ 140737488355328) :
    Ev (fun k => spec_SumOf.f k s) ((crcL (natsOf s) 4294967295 : Nat) : Int) := by
  unfold spec_SumOf.f
  exact ev_bind (spec_SumMore_f s hs 4294967295 (by omega)) (ev_some rfl)
theorem spec_l02Four_f (x : Nat) : spec_l02Four.f (x : Int) = some (strN (fourN x)) := by
  unfold spec_l02Four.f
  rw [four_eq]
theorem spec_Sealed_f (s : ByteArray) (hs : s.size ≤ 140737488351232) : Ev (fun k => spec_Sealed.f k s) (sealedV s) := by
  unfold spec_Sealed.f sealedV
  by_cases h : (s.size : Int) > 20000
  · rw [if_neg (by omega)]
    exact ev_if h (ev_some rfl)
  · refine ev_else h ?_
    rw [if_pos (by omega)]
    refine ev_bind (spec_SumOf_f s (by omega)) (ev_bind0 (spec_l02Four_f _) ?_)
    have := sumS_size s
    unfold sumS at this
    exact ev_if (by rw [this]; omega) (ev_some rfl)
theorem spec_l01Var_l0 : ∀ (n : Nat) (xs : List Nat), xs.length + n < 140737488355328 → Ev (fun k => spec_l01Var.l0 k (n : Int) (intsOf xs)) (strN (xs ++ vtl n)) := by
  intro n
  induction n using Nat.strongRecOn with
  | ind n ih =>
    intro xs hl
    refine ev_succ ?_
    simp only [spec_l01Var.l0]
    have hlen : (intsOf xs).length = xs.length := by simp [intsOf]
    by_cases h : 127 < n
    · refine ev_if (by omega) ?_
      refine ev_if (by rw [hlen]; omega) ?_
      have e1 : wrap64 (Int.tdiv (n : Int) 128) = ((n / 128 : Nat) : Int) := by rw [tdivp (Int.natCast_nonneg _)]; exact wrap_to (by omega) (by omega) (by omega)
      have e2 : wrap64 ((Int.tmod (n : Int) 128) + 128) % 256 = ((n % 128 + 128 : Nat) : Int) := by rw [tmodp (Int.natCast_nonneg _), wrap_to (y := ((n % 128 + 128 : Nat) : Int)) (by omega) (by omega) (by omega)]; omega
      have e3 : intsOf xs ++ [((n % 128 + 128 : Nat) : Int)] = intsOf (xs ++ [n % 128 + 128]) := by simp [intsOf]
      rw [e1, e2, e3, vtl_big h]
      have e4 : xs ++ (n % 128 + 128) :: vtl (n / 128) = (xs ++ [n % 128 + 128]) ++ vtl (n / 128) := by simp
      rw [e4]
      exact ih (n / 128) (by omega) _ (by rw [List.length_append, List.length_singleton]; omega)
    · refine ev_else (by omega) ?_
      refine ev_if (by rw [hlen]; omega) ?_
      have e2 : (n : Int) % 256 = (n : Int) := by omega
      have e3 : intsOf xs ++ [(n : Int)] = intsOf (xs ++ [n]) := by simp [intsOf]
      rw [e2, e3, vtl_small (by omega)]
      exact ev_some rfl
theorem spec_l01Var_f (n : Nat) (h : n < 140737488355328) : Ev (fun k => spec_l01Var.f k (n : Int)) (strN (vtl n)) := by
  have := spec_l01Var_l0 n [] (by simpa using h)
  simpa [spec_l01Var.f, intsOf] using this
theorem spec_l05Rise_l0 (l : List Int) (a b : Int) (hl : l.length ≤ 35184372088832) : ∀ (d i : Nat), i + d = l.length →
    Ev (fun k => spec_l05Rise.l0 k l a b (i : Int)) (riseL a b (prevAt l i) (l.drop i)) := by
  intro d
  induction d with
  | zero =>
    intro i hi
    refine ev_succ ?_
    simp only [spec_l05Rise.l0]
    refine ev_else (by omega) (ev_some ?_)
    rw [drop_end l i (by omega)]
    cases prevAt l i <;> rfl
  | succ d ih =>
    intro i hi
    refine ev_succ ?_
    simp only [spec_l05Rise.l0]
    refine ev_if (by omega) (ev_if (by omega) (ev_bind0 (spec_l01In_f _ _ _) ?_))
    rw [riseL_at a b l i (by omega), rd_nat, succ_i i (by omega)]
    by_cases hr : a ≤ l.getD i 0 ∧ l.getD i 0 ≤ b
    · refine ev_if (by simp only [hr, and_self, decide_true]) ?_
      by_cases h0 : i = 0
      · refine ev_else (by omega) (ev_eq (ih (i + 1) (by omega)) ?_)
        subst h0
        simp only [hr, and_self, decide_true, if_true, Bool.true_and]
      · refine ev_if (by omega) ?_
        rw [pred_i i (by omega) (by omega), rd_nat]
        refine ev_if (by omega) (ev_if (by omega) ?_)
        by_cases hlt : l.getD (i - 1) 0 < l.getD i 0
        · refine ev_else (by omega) (ev_eq (ih (i + 1) (by omega)) ?_)
          simp only [hr, h0, hlt, and_self, decide_true, if_false, Bool.true_and]
        · refine ev_if (by omega) (ev_some ?_)
          simp only [hr, h0, hlt, and_self, decide_true, decide_false, if_false, Bool.and_false, Bool.false_and]
    · refine ev_else (by simp only [hr, decide_false]; simp) (ev_some ?_)
      simp only [hr, decide_false, Bool.false_and]
theorem spec_l05Rise_f (l : List Int) (a b : Int) (hl : l.length ≤ 35184372088832) : Ev (fun k => spec_l05Rise.f k l a b) (riseL a b none l) := by
  have := spec_l05Rise_l0 l a b hl l.length 0 (by omega)
  simpa [spec_l05Rise.f, prevAt] using this
theorem riseL_short : ∀ (l : List Int) (p : Option Int) (a b : Int), riseL a b p l = true → (∀ y, p = some y → a ≤ y) → (l.length : Int) ≤ (match p with | none => b - a + 1 | some y => b - y) ∨ l = [] := by
  intro l
  induction l with
  | nil => intro _ _ _ _ _; exact .inr rfl
  | cons x l ih =>
    intro p a b h hp
    left
    simp only [riseL, Bool.and_eq_true, decide_eq_true_eq] at h
    obtain ⟨hr, hq, ht⟩ := h
    have := ih (some x) a b ht (fun y hy => by cases hy; exact hr.1)
    have hx : (l.length : Int) ≤ b - x := by
      rcases this with h | h
      · exact h
      · subst h; simp; omega
    rw [List.length_cons]
    cases p with
    | none => simp only; omega
    | some y => have hy : y < x := by simpa using hq
                simp only; omega
theorem spec_ConfOk_f (l : List Int) (hl : l.length ≤ 35184372088832) : Ev (fun k => spec_ConfOk.f k l) (confOkB l) := by
  unfold spec_ConfOk.f confOkB
  refine ev_bind0 (spec_l01In_f _ _ _) ?_
  by_cases h1 : 1 ≤ l.length
  · by_cases h4 : l.length ≤ 4
    · refine ev_if (by simp; omega) ?_
      refine ev_bind (spec_l05Rise_f l 1 4 hl) (ev_some ?_)
      simp [h1]
    · refine ev_else (by simp; omega) (ev_some ?_)
      by_cases h : riseL 1 4 none l = true
      · rcases riseL_short l none 1 4 h (by simp) with h' | h'
        · simp only at h'; omega
        · subst h'; simp at h1
      · simp [h]
  · refine ev_else (by simp; omega) (ev_some ?_)
    simp [h1]
theorem spec_ConfText_l0 (l : List Int) (hl : l.length ≤ 35184372088832) : ∀ (d i : Nat), i + d = l.length →
    Ev (fun k => spec_ConfText.l0 k l ((l.take i).map fun x => x % 256) (i : Int)) (octS l, true) := by
  intro d
  induction d with
  | zero =>
    intro i hi
    refine ev_succ ?_
    simp only [spec_ConfText.l0]
    refine ev_else (by omega) (ev_some ?_)
    rw [List.take_of_length_le (by omega)]
    rfl
  | succ d ih =>
    intro i hi
    refine ev_succ ?_
    simp only [spec_ConfText.l0]
    have hlen : ((l.take i).map fun x => x % 256).length = i := by rw [List.length_map, List.length_take]; omega
    refine ev_if (by omega) (ev_if (by omega) (ev_if (by rw [hlen]; omega) ?_))
    rw [rd_nat, succ_i i (by omega)]
    have e : (l.take i).map (fun x => x % 256) ++ [l.getD i 0 % 256] = (l.take (i + 1)).map fun x => x % 256 := by
      have hlt : i < l.length := by omega
      rw [List.take_succ_eq_append_getElem hlt, List.map_append, List.getD_eq_getElem?_getD, List.getElem?_eq_getElem hlt]
      rfl
    rw [e]
    exact ih (i + 1) (by omega)
theorem spec_ConfText_f (l : List Int) (hl : l.length ≤ 35184372088832) : Ev (fun k => spec_ConfText.f k l) (confTextV l) := by
  unfold spec_ConfText.f confTextV
  refine ev_bind (spec_ConfOk_f l hl) ?_
  by_cases h : confOkB l = true
  · rw [if_pos h]
    refine ev_if h ?_
    have := spec_ConfText_l0 l hl l.length 0 (by omega)
    simpa using this
  · rw [if_neg h]
    exact ev_else h (ev_some rfl)
theorem spec_l05Short_f (s : ByteArray) (hs : s.size ≤ 1000000000) : Ev (fun k => spec_l05Short.f k s) (shS s) := by
  unfold spec_l05Short.f shS
  refine ev_bind (spec_l01Var_f s.size (by omega)) (ev_if ?_ (ev_some rfl))
  rw [strN_size]; have := vtl_len s.size; omega
theorem spec_SnapText_f (i t : Int) (conf : List Int) (body : ByteArray) (hc : conf.length ≤ 1048576) : Ev (fun k => spec_SnapText.f k i t conf body) (snapTextV i t conf body) := by
  have no : ∀ z, snapOkB i t conf body = false → Ev (fun k => spec_SnapText.j0 k z true i t conf body) (snapTextV i t conf body) := by
    intro z hn
    refine ev_succ ?_
    simp only [spec_SnapText.j0]
    refine ev_if (by simp) (ev_some (congrArg some (if_neg ?_).symm))
    rw [hn]; simp
  unfold spec_SnapText.f
  refine ev_bind (spec_ConfText_f conf (by omega)) ?_
  unfold confTextV
  by_cases hcf : confOkB conf = true
  · rw [if_pos hcf]
    refine ev_if rfl (ev_bind0 (spec_l01In_f _ _ _) ?_)
    by_cases hi : 0 ≤ i ∧ i ≤ 1000000
    · refine ev_if (decide_eq_true hi) (ev_bind0 (spec_l01In_f _ _ _) ?_)
      by_cases ht : 0 ≤ t ∧ t ≤ 100000
      · refine ev_if (decide_eq_true ht) ?_
        by_cases hb : body.size ≤ 20000
        · have hok : snapOkB i t conf body = true := by unfold snapOkB; rw [decide_eq_true hi, decide_eq_true ht, hcf, decide_eq_true hb]; rfl
          obtain ⟨s1, s2, s3, s4⟩ := snap_parts i t conf body hi ht hc hb
          have e1 := spec_l01Var_f i.toNat (by omega)
          have e2 := spec_l01Var_f t.toNat (by omega)
          rw [Int.toNat_of_nonneg hi.1] at e1
          rw [Int.toNat_of_nonneg ht.1] at e2
          refine ev_succ ?_
          simp only [spec_SnapText.j0]
          refine ev_else (by simp; omega) (ev_bind e1 (ev_bind e2 (ev_if (by omega) (ev_bind (spec_l05Short_f _ (by rw [octS_size]; omega)) (ev_if (by rw [ByteArray.size_append]; omega) (ev_bind (spec_l05Short_f body (by omega)) (ev_if (by rw [ByteArray.size_append, ByteArray.size_append]; omega) ?_)))))))
          have hsz : (snapBytes i t conf body).size ≤ 10000000 := by unfold snapBytes; rw [ByteArray.size_append, ByteArray.size_append, ByteArray.size_append]; omega
          have hsw : wrap64 (((snapBytes i t conf body).size : Int) + 4) = ((snapBytes i t conf body).size : Int) + 4 := wid (by omega) (by omega)
          have hsb : (((strN (vtl i.toNat) ++ strN (vtl t.toNat)) ++ shS (octS conf)) ++ shS body) = snapBytes i t conf body := rfl
          rw [hsb, hsw]
          clear hsw
          by_cases hl2 : (snapBytes i t conf body).size ≤ 19996
          · refine ev_else (by omega) (ev_bind (spec_Sealed_f (snapBytes i t conf body) (by omega)) ?_)
            refine ev_some ?_
            unfold sealedV snapTextV
            rw [if_pos (show (snapBytes i t conf body).size ≤ 20000 by omega), if_pos ⟨hok, hl2⟩]
          · exact ev_if (by omega) (ev_some (congrArg some (if_neg (fun h => hl2 h.2)).symm))
        · have hd : decide ((body.size : Int) > 20000) = true := by simp; omega
          rw [hd]
          exact no _ (by unfold snapOkB; rw [decide_eq_false hb]; simp)
      · exact ev_else (by rw [decide_eq_false ht]; simp) (no _ (by unfold snapOkB; rw [decide_eq_false ht]; simp))
    · exact ev_else (by rw [decide_eq_false hi]; simp) (no _ (by unfold snapOkB; rw [decide_eq_false hi]; simp))
  · rw [if_neg hcf]
    exact ev_else (by simp) (no _ (by unfold snapOkB; rw [Bool.eq_false_iff.2 hcf]; simp))
def dropA (s : ByteArray) : S60 := ⟨4, s, ⟨#[]⟩, ⟨#[]⟩⟩
/-- the files that are named as a snapshot, but that of idx, are dropped -/
def dropsV (idx : Int) : List S71 → List S60
  | [] => []
  | f :: fs => (match ixV f.f0 with | some n => if n = idx then [] else [dropA f.f0] | none => []) ++ dropsV idx fs
theorem dropsV_len (idx : Int) : ∀ l : List S71, (dropsV idx l).length ≤ l.length
  | [] => Nat.le_refl _
  | f :: fs => by
    have := dropsV_len idx fs
    simp only [dropsV, List.length_append, List.length_cons]
    split
    · split
      · simp; omega
      · simp; omega
    · simp; omega
theorem impl_goF (idx : Int) (h0 : 0 ≤ idx) (h1 : idx ≤ 1000000) : ∀ (l : List S71) (acc : List S60), Ev (fun k => impl_SnapActs.goF k (snapNameV idx) l acc) (acc ++ dropsV idx l)
  | [], acc => ev_some (by simp [dropsV])
  | f :: fs, acc => by
    simp only [impl_SnapActs.goF, dropsV]
    obtain ⟨t, ht, he⟩ := impl_snapIndex_f f.f0
    refine ev_bind ht ?_
    have hn : snapNameV idx = nameV idx := if_pos ⟨h0, h1⟩
    have hc : (if t.2 = true ∧ f.f0.toList ≠ (snapNameV idx).toList then acc ++ [(⟨4, f.f0, ⟨#[]⟩, ⟨#[]⟩⟩ : S60)] else acc) = acc ++ (match ixV f.f0 with | some n => if n = idx then [] else [dropA f.f0] | none => []) := by
      rw [hn]
      cases hx : ixV f.f0 with
      | none =>
        rw [hx] at he
        rw [if_neg (fun q => by rw [he] at q; exact absurd q.1 (by simp))]
        simp
      | some n =>
        rw [hx] at he
        obtain ⟨ht1, n0, n1⟩ := ixV_text hx
        by_cases hni : n = idx
        · rw [if_neg (fun q => q.2 (by rw [ht1, hni]))]
          show acc = acc ++ (if n = idx then [] else [dropA f.f0])
          rw [if_pos hni]
          simp
        · rw [if_pos ⟨he, fun q => hni (nameV_inj n0 n1 h0 h1 (by rw [← ht1]; exact (toList_iff _ _).1 q))⟩]
          show _ = acc ++ (if n = idx then [] else [dropA f.f0])
          rw [if_neg hni]
          rfl
    rw [hc]
    refine ev_eq (impl_goF idx h0 h1 fs _) ?_
    simp
theorem spec_drops_l0 (idx : Int) (l : List S71) (hl : l.length ≤ 2000000) : ∀ (d i : Nat) (acc : List S60), i + d = l.length → acc.length ≤ i → Ev (fun k => spec_l08Drops.l0 k idx acc (i : Int) l) (acc ++ dropsV idx (l.drop i)) := by
  intro d
  induction d with
  | zero =>
    intro i acc hi ha
    refine ev_succ ?_
    simp only [spec_l08Drops.l0]
    rw [drop_end l i (by omega)]
    exact ev_else (by omega) (ev_some (by simp [dropsV]))
  | succ d ih =>
    intro i acc hi ha
    have e : rd_T71 l (i : Int) = l.getD i z71 := rfl
    refine ev_succ ?_
    simp only [spec_l08Drops.l0]
    rw [e, drop_getD l z71 i (by omega), succ_i i (by omega)]
    generalize l.getD i z71 = f
    simp only [dropsV]
    refine ev_if (by omega) (ev_if (by omega) (ev_bind (spec_l08Index_f f.f0) ?_))
    cases hx : ixV f.f0 with
    | none =>
      refine ev_else (by show ¬ (-1 : Int) ≥ 0; omega) ?_
      refine ev_eq (ih (i + 1) acc (by omega) (by omega)) ?_
      simp
    | some n =>
      obtain ⟨_, n0, n1⟩ := ixV_text hx
      refine ev_if n0 ?_
      by_cases hni : n = idx
      · refine ev_if hni ?_
        refine ev_eq (ih (i + 1) acc (by omega) (by omega)) ?_
        simp only [if_pos hni]
        simp
      · refine ev_else hni (ev_if (by omega) ?_)
        refine ev_eq (ih (i + 1) (acc ++ [⟨4, f.f0, ⟨#[]⟩, ⟨#[]⟩⟩]) (by omega) (by rw [List.length_append, List.length_singleton]; omega)) ?_
        simp only [if_neg hni]
        simp [dropA]
theorem spec_l08Drops_f (idx : Int) (l : List S71) (hl : l.length ≤ 2000000) : Ev (fun k => spec_l08Drops.f k l idx) (dropsV idx l) := by
  unfold spec_l08Drops.f
  refine ev_eq (spec_drops_l0 idx l hl l.length 0 [] (by omega) (by simp)) ?_
  simp
theorem spec_l08New_f (l : List S71) (hl : l.length ≤ 2000000) : Ev (fun k => spec_l08New.f k l) (impl_SnapActs.pre (fileAtV l ⟨#[115, 43]⟩).2) := by
  unfold spec_l08New.f
  obtain ⟨r, hr, hq⟩ := spec_l03At_f l ⟨#[115, 43]⟩ (by omega)
  refine ev_bind hr ?_
  rcases hq with ⟨rfl, h⟩ | ⟨j, rfl, hj, he, h⟩
  · have := fileAtV_none l ⟨#[115, 43]⟩ l.length 0 (by omega) (fun j _ => h j)
    rw [List.drop_zero] at this
    rw [this]
    exact ev_else (by omega) (ev_some rfl)
  · have := fileAtV_some l ⟨#[115, 43]⟩ j hj he j 0 (by omega) (fun q _ => h q)
    rw [List.drop_zero] at this
    rw [this]
    exact ev_if (by omega) (ev_some rfl)
theorem bs_tail (s : ByteArray) (i : Nat) : bs (s.extract i s.size) = (bs s).drop i := by
  rw [bs_extract, List.take_of_length_le (by rw [bs_len]; omega)]
theorem ext_tail (tx : ByteArray) (p q : Nat) : (tx.extract p tx.size).extract q (tx.extract p tx.size).size = tx.extract (p + q) tx.size := by
  apply bs_inj
  rw [bs_tail, bs_tail, bs_tail, List.drop_drop]
theorem ext_head (tx : ByteArray) (p q : Nat) : (tx.extract p tx.size).extract 0 q = tx.extract p (p + q) := by
  apply bs_inj
  rw [bs_extract, bs_tail, bs_extract, List.drop_zero, List.drop_take, show p + q - p = q by omega]
theorem ext_none (tx : ByteArray) (p : Nat) (hp : tx.size ≤ p) : tx.extract p tx.size = ⟨#[]⟩ := by
  apply bs_inj
  rw [bs_tail, List.drop_eq_nil_of_le (by rw [bs_len]; exact hp)]
  rfl
theorem ext_size (tx : ByteArray) (p : Nat) (hp : p ≤ tx.size) : (tx.extract p tx.size).size = tx.size - p := by
  rw [ByteArray.size_extract]; omega
theorem spec_chunks (tx : ByteArray) (htx : tx.size ≤ 1000000) (l : List S71) (i t : Int) (conf : List Int) (body : ByteArray) (pre : List S60) (hpre : pre.length ≤ 1) (r : List S60 × Bool)
    (h : Ev (fun k => spec_SnapActs.l0 k ⟨#[]⟩ (pre ++ sChunks tx ((tx.size + 59) / 60)) l i t conf body) r) : ∀ (d j : Nat), j + d = (tx.size + 59) / 60 →
    Ev (fun k => spec_SnapActs.l0 k (tx.extract (60 * j) tx.size) (pre ++ sChunks tx j) l i t conf body) r := by
  intro d
  induction d with
  | zero =>
    intro j hj
    have e : tx.extract (60 * j) tx.size = ⟨#[]⟩ := ext_none tx _ (by omega)
    rw [e, show j = (tx.size + 59) / 60 by omega]
    exact h
  | succ d ih =>
    intro j hj
    have hlt : 60 * j < tx.size := by omega
    have hz := ext_size tx (60 * j) (by omega)
    have hlen : (pre ++ sChunks tx j).length ≤ 20000 := by
      rw [List.length_append, sChunks, List.length_map, List.length_range]; omega
    have hs : sChunks tx (j + 1) = sChunks tx j ++ [sAct tx j] := by
      simp [sChunks, List.range_succ]
    have step := ih (j + 1) (by omega)
    rw [hs, ← List.append_assoc] at step
    refine ev_succ ?_
    simp only [spec_SnapActs.l0]
    refine ev_if (by rw [hz]; omega) ?_
    by_cases hs60 : tx.size - 60 * j < 60
    · refine ev_if (by rw [hz]; omega) (ev_if (by omega) (ev_if (by omega) (ev_if (by omega) ?_)))
      have e1 : (tx.extract (60 * j) tx.size).extract (((tx.extract (60 * j) tx.size).size : Int)).toNat (tx.extract (60 * j) tx.size).size = tx.extract (60 * (j + 1)) tx.size := by
        rw [toNat_nat, ext_tail, ext_none tx _ (by rw [hz]; omega), ext_none tx _ (by omega)]
      have e2 : (⟨1, (⟨#[115, 43]⟩ : ByteArray), tx.extract (60 * j) tx.size, (⟨#[]⟩ : ByteArray)⟩ : S60) = sAct tx j := by
        unfold sAct
        rw [show 60 * j + min 60 (tx.size - 60 * j) = tx.size by omega]
      rw [e1, e2]
      exact step
    · refine ev_else (by rw [hz]; omega) (ev_if (by omega) (ev_if (by rw [hz]; omega) (ev_if (by omega) ?_)))
      have e1 : (tx.extract (60 * j) tx.size).extract 60 (tx.extract (60 * j) tx.size).size = tx.extract (60 * (j + 1)) tx.size := by
        rw [ext_tail tx (60 * j) 60]
        rw [show 60 * j + 60 = 60 * (j + 1) by omega]
      have e2 : (⟨1, (⟨#[115, 43]⟩ : ByteArray), (tx.extract (60 * j) tx.size).extract 0 60, (⟨#[]⟩ : ByteArray)⟩ : S60) = sAct tx j := by
        unfold sAct
        rw [ext_head, show min 60 (tx.size - 60 * j) = 60 by omega]
      rw [e1, e2]
      exact step
def snapActsV (l : List S71) (i t : Int) (conf : List Int) (body : ByteArray) : List S60 × Bool :=
  if (snapTextV i t conf body).2 = true ∧ diskOkB l = true then (impl_SnapActs.pre (fileAtV l ⟨#[115, 43]⟩).2 ++ sChunks (snapTextV i t conf body).1 (((snapTextV i t conf body).1.size + 59) / 60) ++ [⟨2, ⟨#[115, 43]⟩, ⟨#[]⟩, ⟨#[]⟩⟩, ⟨3, ⟨#[115, 43]⟩, ⟨#[]⟩, snapNameV i⟩] ++ dropsV i l, true) else ([], false)
theorem snapText_ok {i t : Int} {conf : List Int} {body : ByteArray} (h : (snapTextV i t conf body).2 = true) : 0 ≤ i ∧ i ≤ 1000000 ∧ (snapTextV i t conf body).1.size ≤ 20000 := by
  unfold snapTextV at h ⊢
  split at h
  · rename_i hc
    rw [if_pos hc]
    obtain ⟨h1, h2⟩ := hc
    unfold snapOkB at h1
    simp only [Bool.and_eq_true, decide_eq_true_eq] at h1
    refine ⟨h1.1.1, h1.1.2, ?_⟩
    show (_ ++ _ : ByteArray).size ≤ _
    rw [ByteArray.size_append, sumS_size]
    omega
  · cases h
theorem pre_len (b : Bool) : (impl_SnapActs.pre b).length ≤ 1 := by cases b <;> simp [impl_SnapActs.pre]
theorem impl_SnapActs_f (l : List S71) (hl : l.length ≤ 2000000) (i t : Int) (conf : List Int) (body : ByteArray) (hc : conf.length ≤ 1048576) : Ev (fun k => impl_SnapActs.f k l i t conf body) (snapActsV l i t conf body) := by
  unfold impl_SnapActs.f snapActsV
  refine ev_bind (impl_SnapText_f i t conf body hc) ?_
  by_cases h1 : (snapTextV i t conf body).2 = true
  · obtain ⟨i0, i1, hz⟩ := snapText_ok h1
    refine ev_if h1 (ev_bind (impl_DiskOk_f l (by omega)) ?_)
    cases h2 : diskOkB l with
    | false =>
      rw [if_neg (fun q => by simp at q)]
      exact ev_else (by simp) (ev_some rfl)
    | true =>
      rw [if_pos ⟨h1, rfl⟩]
      exact ev_if rfl (ev_bind (impl_FileAt_f l _ (by omega)) (ev_bind0 (impl_SnapName_f i (by omega) (by omega)) (ev_if ⟨by omega, by omega⟩ (ev_bind (impl_goF i i0 i1 l _) (ev_some rfl)))))
  · rw [if_neg (fun q => h1 q.1)]
    exact ev_else h1 (ev_some rfl)
theorem spec_SnapActs_f (l : List S71) (hl : l.length ≤ 2000000) (i t : Int) (conf : List Int) (body : ByteArray) (hc : conf.length ≤ 1048576) : Ev (fun k => spec_SnapActs.f k l i t conf body) (snapActsV l i t conf body) := by
  unfold spec_SnapActs.f snapActsV
  have bad : ∀ x, Ev (fun k => spec_SnapActs.j0 k x true l i t conf body) ([], false) := fun x => by
    refine ev_succ ?_
    simp only [spec_SnapActs.j0]
    exact ev_if trivial (ev_some rfl)
  refine ev_bind (spec_SnapText_f i t conf body hc) ?_
  by_cases h1 : (snapTextV i t conf body).2 = true
  · obtain ⟨i0, i1, hz⟩ := snapText_ok h1
    refine ev_if h1 (ev_bind (spec_DiskOk_f l (by omega)) ?_)
    cases h2 : diskOkB l with
    | false =>
      rw [if_neg (fun q => by simp at q)]
      exact bad _
    | true =>
      rw [if_pos ⟨h1, rfl⟩]
      generalize (snapTextV i t conf body).1 = tx at hz
      refine ev_succ ?_
      simp only [spec_SnapActs.j0]
      refine ev_else (by simp) (ev_bind (spec_l08New_f l hl) ?_)
      have hp := pre_len (fileAtV l ⟨#[115, 43]⟩).2
      generalize impl_SnapActs.pre (fileAtV l ⟨#[115, 43]⟩).2 = P at hp
      have hch : (P ++ sChunks tx ((tx.size + 59) / 60)).length ≤ 20000 := by
        rw [List.length_append, sChunks, List.length_map, List.length_range]; omega
      have hd := dropsV_len i l
      have key := spec_chunks tx (by omega) l i t conf body P hp (P ++ sChunks tx ((tx.size + 59) / 60) ++ [⟨2, ⟨#[115, 43]⟩, ⟨#[]⟩, ⟨#[]⟩⟩, ⟨3, ⟨#[115, 43]⟩, ⟨#[]⟩, snapNameV i⟩] ++ dropsV i l, true) ?_ ((tx.size + 59) / 60) 0 (by omega)
      · have e0 : tx.extract (60 * 0) tx.size = tx := by
          apply bs_inj
          rw [bs_extract, List.take_of_length_le (by rw [bs_len]; omega)]
          rfl
        rw [e0] at key
        have e1 : P ++ sChunks tx 0 = P := by simp [sChunks]
        rw [e1] at key
        exact key
      · generalize P ++ sChunks tx ((tx.size + 59) / 60) = C at hch
        refine ev_succ ?_
        simp only [spec_SnapActs.l0]
        refine ev_else (by show ¬ ((0 : Nat) : Int) > 0; omega) (ev_bind (spec_SnapName_f i (by omega) (by omega)) (ev_bind0 rfl ?_))
        refine ev_if (by simp only [List.length_cons, List.length_nil]; omega) (ev_bind0 rfl (ev_bind (spec_l08Drops_f i l hl) ?_))
        exact ev_if (by rw [List.length_append]; simp only [List.length_cons, List.length_nil]; omega) (ev_some rfl)
  · rw [if_neg (fun q => h1 q.1)]
    exact ev_else h1 (bad _)
theorem snapActsV_len (l : List S71) (hl : l.length ≤ 2000000) (i t : Int) (conf : List Int) (body : ByteArray) : (snapActsV l i t conf body).1.length ≤ 2100000 := by
  unfold snapActsV
  split
  · rename_i hc
    obtain ⟨_, _, hz⟩ := snapText_ok hc.1
    have hp := pre_len (fileAtV l ⟨#[115, 43]⟩).2
    have hd := dropsV_len i l
    simp only [List.length_append, sChunks, List.length_map, List.length_range, List.length_cons, List.length_nil]
    omega
  · simp
theorem laws_eqIntS_l0 (a b : List Int) (hl : a.length ≤ 35184372088832) (hab : a.length = b.length) : ∀ (d i : Nat), i + d = a.length →
    Ev (fun k => laws_eqIntS.l0 k a b (i : Int)) (decide (a.drop i = b.drop i)) := by
  intro d
  induction d with
  | zero =>
    intro i hi
    refine ev_succ ?_
    simp only [laws_eqIntS.l0]
    refine ev_else (by omega) (ev_some ?_)
    rw [drop_end a i (by omega), drop_end b i (by omega)]
    simp
  | succ d ih =>
    intro i hi
    refine ev_succ ?_
    simp only [laws_eqIntS.l0]
    refine ev_if (by omega) (ev_if (by omega) (ev_if (by omega) ?_))
    rw [rd_nat, rd_nat, drop_getD a 0 i (by omega), drop_getD b 0 i (by omega), succ_i i (by omega)]
    by_cases h : a.getD i 0 = b.getD i 0
    · refine ev_if h (ev_eq (ih (i + 1) (by omega)) ?_)
      rw [h]; simp
    · refine ev_else h (ev_some ?_)
      have : ¬ (a.getD i 0 :: a.drop (i + 1) = b.getD i 0 :: b.drop (i + 1)) := fun e => h (List.cons.inj e).1
      simp only [decide_eq_false this]
theorem laws_eqIntS_f (a b : List Int) (hl : a.length ≤ 35184372088832) : Ev (fun k => laws_eqIntS.f k a b) (decide (a = b)) := by
  unfold laws_eqIntS.f
  by_cases h : a.length = b.length
  · refine ev_if (by omega) ?_
    have := laws_eqIntS_l0 a b hl h a.length 0 (by omega)
    simpa using this
  · refine ev_else (by omega) (ev_some ?_)
    have : ¬ a = b := fun e => h (by rw [e])
    simp [this]
theorem laws_toIntS_l0 (l : List Int) (hl : l.length ≤ 35184372088832) : ∀ (d i : Nat), i + d = l.length →
    Ev (fun k => laws_toIntS.l0 k l (l.take i ++ List.replicate (l.length - i) 0) (i : Int)) l := by
  intro d
  induction d with
  | zero =>
    intro i hi
    refine ev_succ ?_
    simp only [laws_toIntS.l0]
    refine ev_else (by omega) (ev_some ?_)
    have e : i = l.length := by omega
    subst e
    simp
  | succ d ih =>
    intro i hi
    refine ev_succ ?_
    simp only [laws_toIntS.l0]
    refine ev_if (by omega) (ev_if (by omega) (ev_if (by rw [copy_len _ _ _ (by omega)]; omega) ?_))
    rw [rd_nat, toNat_nat, copy_step l 0 0 i (by omega), succ_i i (by omega)]
    exact ih (i + 1) (by omega)
theorem laws_toIntS_f (l : List Int) (hl : l.length ≤ 35184372088832) : Ev (fun k => laws_toIntS.f k l) l := by
  unfold laws_toIntS.f
  refine ev_if (by omega) (ev_if (by rw [toNat_nat]; exact hl) ?_)
  have := laws_toIntS_l0 l hl l.length 0 (by omega)
  simpa using this
theorem laws_toSnap_f (i t : Int) (conf : List Int) (body : ByteArray) (hc : conf.length ≤ 1048576) : Ev (fun k => laws_toSnap.f k i t conf body) (i, t, conf, body) := by
  unfold laws_toSnap.f
  exact ev_bind (laws_toIntS_f conf (by omega)) (ev_some rfl)
theorem laws_eqSnap_f (i t : Int) (conf : List Int) (body : ByteArray) (hc : conf.length ≤ 1048576) : Ev (fun k => laws_eqSnap.f k i t conf body i t conf body) true := by
  unfold laws_eqSnap.f
  exact ev_if rfl (ev_if rfl (ev_bind (laws_eqIntS_f conf conf (by omega)) (ev_if (by simp) (ev_if rfl (ev_some rfl)))))
theorem laws_szSnap_f (i t : Int) (conf : List Int) (body : ByteArray) (hc : conf.length ≤ maxLen) (hb : body.size ≤ maxLen) : ∃ r, laws_szSnap.f i t conf body 1048576 = some r ∧ (r < 0 ∨ conf.length ≤ 1048576 ∧ body.size ≤ 1048576) := by
  unfold maxLen at hc hb
  unfold laws_szSnap.f laws_szIntS.f
  rw [wid (x := 1048576 - (conf.length : Int)) (by omega) (by omega)]
  by_cases h : 1048576 - (conf.length : Int) < 0
  · exact ⟨-1, by simp [h], .inl (by omega)⟩
  · rw [if_neg h]
    simp only [Option.bind_some]
    rw [if_neg h, wid (x := 1048576 - (conf.length : Int) - (body.size : Int)) (by omega) (by omega)]
    by_cases h2 : 1048576 - (conf.length : Int) - (body.size : Int) < 0
    · exact ⟨-1, by rw [if_pos h2], .inl (by omega)⟩
    · exact ⟨_, by rw [if_neg h2], .inr ⟨by omega, by omega⟩⟩
theorem laws_szDisk_f (l : List S89) (hl : l.length ≤ maxLen ∧ ∀ x ∈ l, (x.f0.size ≤ maxLen) ∧ (x.f1.size ≤ maxLen) ∧ (Lit.int .i64 x.f2).wf = true) (left : Int) (h0 : 0 ≤ left) (h1 : left ≤ 1048576) :
    ∃ r, Ev (fun k => laws_szDisk.f k l left) r ∧ (r < 0 ∨ 0 ≤ r ∧ r + (l.length : Int) + (wtFile l : Int) = left) := by
  obtain ⟨r, hr, hc⟩ := laws_szFileS_f l hl left h0 h1
  unfold laws_szDisk.f
  by_cases h : r < 0
  · exact ⟨-1, ev_bind hr (ev_if h (ev_some rfl)), .inl (by omega)⟩
  · exact ⟨r, ev_bind hr (ev_else h (ev_some rfl)), hc⟩
theorem laws_markText_l0 : ∀ (n : Nat) (s : ByteArray), s.size + n ≤ 9223372036854775806 → ∃ r, Ev (fun k => laws_markText.l0 k (n : Int) s) r := by
  intro n
  induction n using Nat.strongRecOn with
  | ind n ih =>
    intro s hs
    by_cases h : 0 < n
    · have e : wrap64 (Int.tdiv (n : Int) 10) = ((n / 10 : Nat) : Int) := by rw [tdivp (Int.natCast_nonneg _)]; exact wrap_to (by omega) (by omega) (by omega)
      have hsz : ∀ z : Int, (strOfNums [z]).size = 1 := fun z => rfl
      obtain ⟨r, hr⟩ := ih (n / 10) (by omega) (strOfNums [(wrap64 (48 + (Int.tmod (n : Int) 10))) % 256] ++ s) (by rw [ByteArray.size_append, hsz]; omega)
      refine ⟨r, ev_succ ?_⟩
      simp only [laws_markText.l0]
      refine ev_if (by omega) (ev_bind0 rfl (ev_if (by rw [hsz]; omega) ?_))
      rw [e]
      exact hr
    · refine ⟨(⟨#[109]⟩ : ByteArray) ++ s, ev_succ ?_⟩
      simp only [laws_markText.l0]
      exact ev_else (by omega) (ev_if (by omega) (ev_some rfl))
theorem laws_markText_f (m : Int) (h0 : 0 ≤ m) (h1 : m ≤ 4611686018427387904) : ∃ r, Ev (fun k => laws_markText.f k m) r := by
  unfold laws_markText.f
  by_cases h : m ≤ 0
  · exact ⟨_, ev_if h (ev_some rfl)⟩
  · obtain ⟨n, rfl⟩ := Int.eq_ofNat_of_zero_le h0
    obtain ⟨r, hr⟩ := laws_markText_l0 n ⟨#[]⟩ (by
      have : (⟨#[]⟩ : ByteArray).size = 0 := rfl
      omega)
    exact ⟨r, ev_else h hr⟩
/-- the text of a mark -/
noncomputable def mtext (m : Int) : ByteArray := if h : 0 ≤ m ∧ m ≤ 4611686018427387904 then Classical.choose (laws_markText_f m h.1 h.2) else ⟨#[]⟩
theorem mtext_ev (m : Int) (h0 : 0 ≤ m) (h1 : m ≤ 4611686018427387904) : Ev (fun k => laws_markText.f k m) (mtext m) := by
  unfold mtext
  rw [dif_pos ⟨h0, h1⟩]
  exact Classical.choose_spec (laws_markText_f m h0 h1)
noncomputable def mkFile (m : Int) : S71 := ⟨mtext m, mtext (m + 1), (m + 2)⟩
noncomputable def mkFileL (m : Int) (n : Nat) : List S71 := (List.range n).map fun (j : Nat) => mkFile (m + 3 * (j : Int))
theorem mkFileL_succ (m : Int) (n : Nat) : mkFileL m (n + 1) = mkFile m :: mkFileL (m + 3) n := by
  unfold mkFileL
  rw [List.range_succ_eq_map, List.map_cons, List.map_map]
  have e0 : m + 3 * ((0 : Nat) : Int) = m := by omega
  rw [e0]
  congr 1
  apply List.map_congr_left
  intro j _
  show mkFile (m + 3 * ((j + 1 : Nat) : Int)) = mkFile (m + 3 + 3 * (j : Int))
  congr 1
  omega
theorem mkFileL_length (m : Int) (n : Nat) : (mkFileL m n).length = n := by simp [mkFileL]
theorem rd_T71_set (l : List S71) (i : Nat) (v : S71) (h : i < l.length) : rd_T71 (l.set i v) (i : Int) = v := by
  show (l.set i v).getD i z71 = v
  rw [List.getD_eq_getElem?_getD, List.getElem?_set_self h]
  rfl
theorem laws_markFileS_l0 : ∀ (d i : Nat) (l : List S71) (m : Int), i + d = l.length → l.length ≤ 1099511627776 → 0 ≤ m → m + 3 * (d : Int) ≤ 4611686018427387904 →
    Ev (fun k => laws_markFileS.l0 k l m (i : Int)) (m + 3 * (d : Int), l.take i ++ mkFileL m d) := by
  intro d
  induction d with
  | zero =>
    intro i l m hi hl h0 h1
    refine ev_succ ?_
    simp only [laws_markFileS.l0]
    refine ev_else (by omega) (ev_some ?_)
    have e : i = l.length := by omega
    subst e
    simp [mkFileL]
  | succ d ih =>
    intro i l m hi hl h0 h1
    refine ev_succ ?_
    simp only [laws_markFileS.l0]
    obtain ⟨w1, w2, w3⟩ : wrap64 (m + 1) = m + 1 ∧ wrap64 (m + 1 + 1) = m + 2 ∧ wrap64 (m + 2 + 1) = m + 3 := by
      refine ⟨?_, ?_, ?_⟩ <;> exact wrap_to (by omega) (by omega) (by omega)
    rw [w1, w2, w3]
    clear w1 w2 w3
    refine ev_if (by omega) (ev_bind (mtext_ev m (by omega) (by omega)) (ev_if (by omega) (ev_bind0 rfl (ev_bind (mtext_ev (m + 1) (by omega) (by omega)) (ev_bind0 rfl ?_)))))
    have hil : i < l.length := by omega
    rw [succ_i i (by omega)]
    simp only [toNat_nat]
    have hlen : ∀ v : S71, i < (l.set i v).length := fun v => by rw [List.length_set]; exact hil
    have key := ih (i + 1) (l.set i (mkFile m)) (m + 3) (by rw [List.length_set]; omega) (by rw [List.length_set]; omega) (by omega) (by omega)
    have e1 : (l.set i (mkFile m)).take (i + 1) ++ mkFileL (m + 3) d = l.take i ++ mkFileL m (d + 1) := by
      rw [mkFileL_succ, List.take_succ_eq_append_getElem (hlen _), List.take_set_of_le (Nat.le_refl i), List.getElem_set_self, List.append_assoc]
      rfl
    have e2 : m + 3 + 3 * (d : Int) = m + 3 * ((d + 1 : Nat) : Int) := by omega
    rw [e1, e2] at key
    have fin : ∀ v : S71, v = mkFile m → Ev (fun k => laws_markFileS.l0 k (l.set i v) (m + 3) ((i + 1 : Nat) : Int)) (m + 3 * ((d + 1 : Nat) : Int), l.take i ++ mkFileL m (d + 1)) := fun v hv => by rw [hv]; exact key
    simp only [rd_T71_set _ _ _ hil, rd_T71_set _ _ _ (hlen _), List.set_set]
    exact fin _ rfl
theorem laws_markFileS_f (l : List S71) (m : Int) (hl : l.length ≤ 1099511627776) (h0 : 0 ≤ m) (h1 : m ≤ 1099511627776) :
    Ev (fun k => laws_markFileS.f k l m) (m + 3 * (l.length : Int), mkFileL m l.length) := by
  have := laws_markFileS_l0 l.length 0 l m (by omega) hl h0 (by omega)
  simpa [laws_markFileS.f] using this
theorem laws_eqAct_refl (a0 : Int) (a1 : ByteArray) (a2 : ByteArray) (a3 : ByteArray) : laws_eqAct.f a0 a1 a2 a3 a0 a1 a2 a3 = some true := by
  unfold laws_eqAct.f
  simp
theorem laws_eqActS_l0 (l : List S60) (hl : l.length ≤ 4611686018427387904) : ∀ (d i : Nat), i + d = l.length →
    Ev (fun k => laws_eqActS.l0 k l l (i : Int)) true := by
  intro d
  induction d with
  | zero =>
    intro i hi
    refine ev_succ ?_
    simp only [laws_eqActS.l0]
    exact ev_else (by omega) (ev_some rfl)
  | succ d ih =>
    intro i hi
    refine ev_succ ?_
    simp only [laws_eqActS.l0]
    refine ev_if (by omega) (ev_if (by omega) (ev_if (by omega) (ev_bind0 (laws_eqAct_refl _ _ _ _) (ev_if rfl ?_))))
    rw [succ_i i (by omega)]
    exact ih (i + 1) (by omega)
theorem laws_eqActS_f (l : List S60) (hl : l.length ≤ 4611686018427387904) : Ev (fun k => laws_eqActS.f k l l) true := by
  unfold laws_eqActS.f
  exact ev_if rfl (laws_eqActS_l0 l hl l.length 0 (by omega))
noncomputable def mkAct (m : Int) : S60 := ⟨m, mtext (m + 1), mtext (m + 2), mtext (m + 3)⟩
noncomputable def mkActL (m : Int) (n : Nat) : List S60 := (List.range n).map fun (j : Nat) => mkAct (m + 4 * (j : Int))
theorem mkActL_succ (m : Int) (n : Nat) : mkActL m (n + 1) = mkAct m :: mkActL (m + 4) n := by
  unfold mkActL
  rw [List.range_succ_eq_map, List.map_cons, List.map_map]
  have e0 : m + 4 * ((0 : Nat) : Int) = m := by omega
  rw [e0]
  congr 1
  apply List.map_congr_left
  intro j _
  show mkAct (m + 4 * ((j + 1 : Nat) : Int)) = mkAct (m + 4 + 4 * (j : Int))
  congr 1
  omega
theorem mkActL_length (m : Int) (n : Nat) : (mkActL m n).length = n := by simp [mkActL]
theorem rd_T60_set (l : List S60) (i : Nat) (v : S60) (h : i < l.length) : rd_T60 (l.set i v) (i : Int) = v := by
  show (l.set i v).getD i z60 = v
  rw [List.getD_eq_getElem?_getD, List.getElem?_set_self h]
  rfl
theorem laws_markActS_l0 : ∀ (d i : Nat) (l : List S60) (m : Int), i + d = l.length → l.length ≤ 1099511627776 → 0 ≤ m → m + 4 * (d : Int) ≤ 4611686018427387904 →
    Ev (fun k => laws_markActS.l0 k l m (i : Int)) (m + 4 * (d : Int), l.take i ++ mkActL m d) := by
  intro d
  induction d with
  | zero =>
    intro i l m hi hl h0 h1
    refine ev_succ ?_
    simp only [laws_markActS.l0]
    refine ev_else (by omega) (ev_some ?_)
    have e : i = l.length := by omega
    subst e
    simp [mkActL]
  | succ d ih =>
    intro i l m hi hl h0 h1
    refine ev_succ ?_
    simp only [laws_markActS.l0]
    obtain ⟨w1, w2, w3, w4⟩ : wrap64 (m + 1) = m + 1 ∧ wrap64 (m + 1 + 1) = m + 2 ∧ wrap64 (m + 2 + 1) = m + 3 ∧ wrap64 (m + 3 + 1) = m + 4 := by
      refine ⟨?_, ?_, ?_, ?_⟩ <;> exact wrap_to (by omega) (by omega) (by omega)
    rw [w1, w2, w3, w4]
    clear w1 w2 w3 w4
    refine ev_if (by omega) (ev_if (by omega) (ev_bind0 rfl (ev_bind (mtext_ev (m + 1) (by omega) (by omega)) (ev_bind0 rfl (ev_bind (mtext_ev (m + 2) (by omega) (by omega)) (ev_bind0 rfl (ev_bind (mtext_ev (m + 3) (by omega) (by omega)) ?_)))))))
    have hil : i < l.length := by omega
    rw [succ_i i (by omega)]
    simp only [toNat_nat]
    have hlen : ∀ v : S60, i < (l.set i v).length := fun v => by rw [List.length_set]; exact hil
    have key := ih (i + 1) (l.set i (mkAct m)) (m + 4) (by rw [List.length_set]; omega) (by rw [List.length_set]; omega) (by omega) (by omega)
    have e1 : (l.set i (mkAct m)).take (i + 1) ++ mkActL (m + 4) d = l.take i ++ mkActL m (d + 1) := by
      rw [mkActL_succ, List.take_succ_eq_append_getElem (hlen _), List.take_set_of_le (Nat.le_refl i), List.getElem_set_self, List.append_assoc]
      rfl
    have e2 : m + 4 + 4 * (d : Int) = m + 4 * ((d + 1 : Nat) : Int) := by omega
    rw [e1, e2] at key
    have fin : ∀ v : S60, v = mkAct m → Ev (fun k => laws_markActS.l0 k (l.set i v) (m + 4) ((i + 1 : Nat) : Int)) (m + 4 * ((d + 1 : Nat) : Int), l.take i ++ mkActL m (d + 1)) := fun v hv => by rw [hv]; exact key
    simp only [rd_T60_set _ _ _ hil, rd_T60_set _ _ _ (hlen _), List.set_set]
    exact fin _ rfl
theorem laws_markActS_f (l : List S60) (m : Int) (hl : l.length ≤ 1099511627776) (h0 : 0 ≤ m) (h1 : m ≤ 1099511627776) :
    Ev (fun k => laws_markActS.f k l m) (m + 4 * (l.length : Int), mkActL m l.length) := by
  have := laws_markActS_l0 l.length 0 l m (by omega) hl h0 (by omega)
  simpa [laws_markActS.f] using this
theorem mkActL_rd (m : Int) (n i : Nat) (h : i < n) : rd_T60 (mkActL m n) (i : Int) = mkAct (m + 4 * (i : Int)) := by
  show (mkActL m n).getD i z60 = _
  rw [List.getD_eq_getElem?_getD]
  simp [mkActL, h]
theorem laws_heldActS_l0 (m : Int) (n : Nat) (hn : n ≤ 1099511627776) (h0 : 0 ≤ m) (h1 : m ≤ 1099511627776) : ∀ (d i : Nat), i + d = n →
    Ev (fun k => laws_heldActS.l0 k (mkActL m n) (m + 4 * (i : Int)) (i : Int)) (m + 4 * (n : Int)) := by
  intro d
  induction d with
  | zero =>
    intro i hi
    obtain rfl : i = n := by omega
    refine ev_succ ?_
    simp only [laws_heldActS.l0, mkActL_length]
    exact ev_else (by omega) (ev_some rfl)
  | succ d ih =>
    intro i hi
    refine ev_succ ?_
    simp only [laws_heldActS.l0, mkActL_length]
    rw [mkActL_rd m n i (by omega)]
    generalize hq : m + 4 * (i : Int) = q
    obtain ⟨w1, w2, w3, w4⟩ : wrap64 (q + 1) = q + 1 ∧ wrap64 (q + 1 + 1) = q + 2 ∧ wrap64 (q + 2 + 1) = q + 3 ∧ wrap64 (q + 3 + 1) = q + 4 := by
      refine ⟨?_, ?_, ?_, ?_⟩ <;> exact wrap_to (by omega) (by omega) (by omega)
    rw [w1, w2, w3, w4]
    clear w1 w2 w3 w4
    refine ev_if (by omega) (ev_if (by omega) (ev_if rfl (ev_bind (mtext_ev _ (by omega) (by omega)) (ev_if rfl (ev_bind (mtext_ev _ (by omega) (by omega)) (ev_if rfl (ev_bind (mtext_ev _ (by omega) (by omega)) (ev_if rfl ?_))))))))
    rw [succ_i i (by omega)]
    have := ih (i + 1) (by omega)
    rw [show m + 4 * ((i + 1 : Nat) : Int) = q + 4 by omega] at this
    exact this
theorem laws_heldActS_f (m : Int) (n : Nat) (hn : n ≤ 1099511627776) (h0 : 0 ≤ m) (h1 : m ≤ 1099511627776) : Ev (fun k => laws_heldActS.f k (mkActL m n) m) (m + 4 * (n : Int)) := by
  have := laws_heldActS_l0 m n hn h0 h1 n 0 (by omega)
  simpa [laws_heldActS.f] using this
theorem laws_markIntS_l0 : ∀ (d i : Nat) (l : List Int) (m : Int), i + d = l.length → l.length ≤ 1099511627776 → 0 ≤ m → m + (d : Int) ≤ 4611686018427387904 →
    ∃ l', Ev (fun k => laws_markIntS.l0 k l m (i : Int)) (m + (d : Int), l') := by
  intro d
  induction d with
  | zero =>
    intro i l m hi hl h0 h1
    refine ⟨l, ev_succ ?_⟩
    simp only [laws_markIntS.l0]
    exact ev_else (by omega) (ev_some (by simp))
  | succ d ih =>
    intro i l m hi hl h0 h1
    obtain ⟨l', hl'⟩ := ih (i + 1) (l.set i m) (m + 1) (by rw [List.length_set]; omega) (by rw [List.length_set]; omega) (by omega) (by omega)
    refine ⟨l', ev_succ ?_⟩
    simp only [laws_markIntS.l0]
    refine ev_if (by omega) (ev_if (by omega) ?_)
    rw [succ_i i (by omega), wid (x := m + 1) (by omega) (by omega), toNat_nat]
    rw [show m + 1 + (d : Int) = m + ((d + 1 : Nat) : Int) by omega] at hl'
    exact hl'
theorem laws_markIntS_f (l : List Int) (m : Int) (hl : l.length ≤ 1099511627776) (h0 : 0 ≤ m) (h1 : m ≤ 1099511627776) : ∃ l', Ev (fun k => laws_markIntS.f k l m) (m + (l.length : Int), l') := by
  obtain ⟨l', h⟩ := laws_markIntS_l0 l.length 0 l m (by omega) hl h0 (by omega)
  exact ⟨l', by simpa [laws_markIntS.f] using h⟩
theorem szSnap_any (left : Int) (h0 : 0 ≤ left) (h1 : left ≤ 1048576) (i t : Int) (conf : List Int) (body : ByteArray) (hc : conf.length ≤ maxLen) (hb : body.size ≤ maxLen) : ∃ r, laws_szSnap.f i t conf body left = some r ∧ (r < 0 ∨ conf.length ≤ 1048576) := by
  unfold maxLen at hc hb
  unfold laws_szSnap.f laws_szIntS.f
  rw [wid (x := left - (conf.length : Int)) (by omega) (by omega)]
  by_cases h : left - (conf.length : Int) < 0
  · exact ⟨-1, by simp [h], .inl (by omega)⟩
  · rw [if_neg h]
    simp only [Option.bind_some]
    rw [if_neg h, wid (x := left - (conf.length : Int) - (body.size : Int)) (by omega) (by omega)]
    by_cases h2 : left - (conf.length : Int) - (body.size : Int) < 0
    · exact ⟨-1, by rw [if_pos h2], .inl (by omega)⟩
    · exact ⟨_, by rw [if_neg h2], .inr (by omega)⟩
theorem FnExactSnapActs (l : List S89) (i t : Int) (conf : List Int) (body : ByteArray) (hl : l.length ≤ maxLen ∧ ∀ x ∈ l, (x.f0.size ≤ maxLen) ∧ (x.f1.size ≤ maxLen) ∧ (Lit.int .i64 x.f2).wf = true) (_ : (Lit.int .i64 i).wf = true) (_ : (Lit.int .i64 t).wf = true) (hc : conf.length ≤ maxLen ∧ ∀ x ∈ conf, (Lit.int .i64 x).wf = true) (hb : body.size ≤ maxLen) : ∃ k, laws_FnExactSnapActs.f k l i t conf body = some true := by
  refine Ev.rounds ?_
  unfold laws_FnExactSnapActs.f
  obtain ⟨r, hr, hcs⟩ := laws_szDisk_f l hl 1048576 (by omega) (by omega)
  refine ev_bind hr ?_
  by_cases hneg : r < 0
  · exact ev_if hneg (ev_some rfl)
  refine ev_else hneg ?_
  have n1 : l.length ≤ 1048576 := by omega
  have n9 : l.length + 0 ≤ 1048576 := by omega
  obtain ⟨a, ea, hca⟩ := szSnap_any r (by omega) (by omega) i t conf body hc.1 hb
  refine ev_bind0 ea ?_
  by_cases hna : a < 0
  · exact ev_if hna (ev_some rfl)
  refine ev_else hna ?_
  have m1 : conf.length ≤ 1048576 := hca.resolve_left hna
  have n2 : (l.map convFile).length = l.length := List.length_map ..
  have hbig : (l.map convFile).length ≤ 2000000 := by omega
  have tt := laws_toDisk_f l n1
  have ts := laws_toSnap_f i t conf body m1
  have es := spec_SnapActs_f (l.map convFile) hbig i t conf body m1
  have ei := impl_SnapActs_f (l.map convFile) hbig i t conf body m1
  have n3 := snapActsV_len (l.map convFile) hbig i t conf body
  generalize snapActsV (l.map convFile) i t conf body = v at n3 es ei
  obtain ⟨v, b⟩ := v
  dsimp only at n3
  have ef := laws_eqActS_f v (by omega)
  have eg := laws_eqDisk_f (l.map convFile) (by omega)
  have eh := laws_eqSnap_f i t conf body m1
  obtain ⟨c1, k1⟩ : ∃ c, Ev (fun k => laws_markDisk.f k (l.map convFile) 1) (1 + 3 * ((l.map convFile).length : Int), c) := ⟨_, ev_bind (laws_markFileS_f (l.map convFile) 1 (by omega) (by omega) (by omega)) (ev_some rfl)⟩
  obtain ⟨c2, k2⟩ := laws_markIntS_f conf (1 + 3 * ((l.map convFile).length : Int)) (by omega) (by omega) (by omega)
  have k2' : Ev (fun k => laws_markSnap.f k i t conf body (1 + 3 * ((l.map convFile).length : Int))) (1 + 3 * ((l.map convFile).length : Int) + (conf.length : Int), c2) := by
    unfold laws_markSnap.f
    exact ev_bind k2 (ev_some rfl)
  have k3 := laws_markActS_f v 1 (by omega) (by omega) (by omega)
  have hd := laws_heldActS_f 1 v.length (by omega) (by omega) (by omega)
  have hb2 : ¬ (b != b) = true := by simp
  refine ev_bind tt (ev_bind ts (ev_bind es (ev_bind tt (ev_bind ts (ev_bind ei (ev_bind ef (ev_if rfl (ev_else hb2 ?_))))))))
  refine ev_bind tt (ev_bind eg (ev_if rfl (ev_bind ts (ev_bind eh (ev_if rfl (ev_bind k1 (ev_bind k2' ?_)))))))
  refine ev_else (by show ¬ _ < (0 : Int); omega) (ev_bind ef (ev_if rfl ?_))
  refine ev_bind k3 (ev_bind hd (ev_else (by omega) (ev_if rfl ?_)))
  exact ev_bind tt (ev_bind ts (ev_bind ei (ev_bind ef (ev_if rfl (ev_else hb2 (ev_bind hd (ev_else (by omega) (ev_if rfl (ev_some rfl)))))))))

end Go.Proofs.YthomiofokkkhgaaDoor.Pure
