/- For every text the program's ParseCron returns what the reference's returns, in memory of its own. -/
import Derived.Test.YthomiofokkkhgaaDoorQFnExactParseCronx8
import Derived.Lib.SplitLaws
import Derived.Lib.IndexBytes
import Derived.Lib.IndexLaws
import Derived.Lib.ItoaMem
import Derived.Lib.ItoaLen
namespace Go.Proofs.YthomiofokkkhgaaDoor.Pure
open Go.RowKit Go.Proofs.YthomiofokkkhgaaDoor.QFnExactParseCron Go.Proofs.YthomiofokkkhgaaDoorW.PrintWords Go.Proofs.YthomiofokkkhgaaDoorW.PrintLast

set_option linter.unusedVariables false
set_option linter.unusedSimpArgs false
/-! small words on rounds -/
theorem wid {x : Int} (h0 : -9223372036854775808 ≤ x) (h1 : x ≤ 9223372036854775807) : wrap64 x = x := by
  unfold wrap64; omega
theorem wrap_to {x y : Int} (h : x = y) (h0 : -9223372036854775808 ≤ y) (h1 : y ≤ 9223372036854775807) : wrap64 x = y := by
  rw [h]; exact wid h0 h1
theorem ev_some {α : Type} {o : Option α} {r : α} (h : o = some r) : Ev (fun _ => o) r := ⟨0, fun _ _ => h⟩
theorem ev_succ {α : Type} {g : Nat → Option α} {r : α} (h : Ev (fun k => g (k + 1)) r) : Ev g r := Ev.step (fun _ => rfl) h
theorem ev_if {α : Type} {c : Prop} [Decidable c] {f g : Nat → Option α} {r : α} (h : c) (k : Ev f r) : Ev (fun n => if c then f n else g n) r := by
  simp only [if_pos h]; exact k
theorem ev_else {α : Type} {c : Prop} [Decidable c] {f g : Nat → Option α} {r : α} (h : ¬ c) (k : Ev g r) : Ev (fun n => if c then f n else g n) r := by
  simp only [if_neg h]; exact k
theorem ev_bind0 {α β : Type} {o : Option α} {f : Nat → α → Option β} {a : α} {r : β} (h : o = some a) (k : Ev (fun n => f n a) r) : Ev (fun n => o.bind (f n)) r := by
  subst h; exact k
theorem ev_bind {α β : Type} {g : Nat → Option α} {f : Nat → α → Option β} {a : α} {r : β} (h : Ev g a) (k : Ev (fun n => f n a) r) : Ev (fun n => (g n).bind (f n)) r := Ev.bind h k
theorem ev_eq {α : Type} {g : Nat → Option α} {a b : α} (h : Ev g a) (e : a = b) : Ev g b := e ▸ h
theorem tdivp {a b : Int} (h : 0 ≤ a) : Int.tdiv a b = a / b := Int.tdiv_eq_ediv_of_nonneg h
theorem tmodp {a b : Int} (h : 0 ≤ a) : Int.tmod a b = a % b := Int.tmod_eq_emod_of_nonneg h
theorem toList_iff (a b : ByteArray) : a.toList = b.toList ↔ a = b := by
  rw [ByteArray.toList_eq, ByteArray.toList_eq]
  exact ⟨fun h => ByteArray.ext (Array.toList_inj.mp h), fun h => by rw [h]⟩
theorem drop_getD {α : Type} (l : List α) (d : α) (i : Nat) (h : i < l.length) : l.drop i = l.getD i d :: l.drop (i + 1) := by
  rw [List.drop_eq_getElem_cons h, List.getD_eq_getElem?_getD, List.getElem?_eq_getElem h]
  rfl
theorem drop_end {α : Type} (l : List α) (i : Nat) (h : l.length ≤ i) : l.drop i = [] := List.drop_eq_nil_of_le h
theorem rd_nat (l : List Int) (i : Nat) : rd l (i : Int) = l.getD i 0 := rfl
theorem copy_step {α : Type} (l : List α) (d z : α) (i : Nat) (h : i < l.length) :
    (l.take i ++ List.replicate (l.length - i) z).set i (l.getD i d) = l.take (i + 1) ++ List.replicate (l.length - (i + 1)) z := by
  have h1 : (l.take i).length = i := by rw [List.length_take]; omega
  rw [List.set_append_right _ _ (by omega), h1, Nat.sub_self]
  have h2 : l.length - i = (l.length - (i + 1)) + 1 := by omega
  rw [h2, List.replicate_succ, List.set_cons_zero, List.take_succ_eq_append_getElem h, List.append_assoc]
  congr 1
  rw [List.getD_eq_getElem?_getD, List.getElem?_eq_getElem h]
  rfl
theorem copy_len {α : Type} (l : List α) (z : α) (i : Nat) (h : i ≤ l.length) : (l.take i ++ List.replicate (l.length - i) z).length = l.length := by
  rw [List.length_append, List.length_take, List.length_replicate]; omega
theorem toNat_nat (i : Nat) : ((i : Int)).toNat = i := rfl
theorem succ_i (i : Nat) (h : i ≤ 9223372036854775806) : wrap64 ((i : Int) + 1) = ((i + 1 : Nat) : Int) := wrap_to (by omega) (by omega) (by omega)
theorem pred_i (i : Nat) (h : 0 < i) (h' : i ≤ 9223372036854775806) : wrap64 ((i : Int) - 1) = ((i - 1 : Nat) : Int) := wrap_to (by omega) (by omega) (by omega)
/-! the words of a line: between blanks, none empty -/
def bs (s : ByteArray) : List UInt8 := s.data.toList
def mkS (l : List UInt8) : ByteArray := ⟨l.toArray⟩
theorem mkS_bs (s : ByteArray) : mkS (bs s) = s := rfl
theorem bs_mk (l : List UInt8) : bs (mkS l) = l := rfl
theorem bs_len (s : ByteArray) : (bs s).length = s.size := by
  unfold bs
  rw [Array.length_toList]
  rfl
theorem bs_extract (s : ByteArray) (i j : Nat) : bs (s.extract i j) = ((bs s).take j).drop i := by
  unfold bs
  rw [ByteArray.data_extract, Array.toList_extract, List.extract_eq_take_drop, List.drop_take]
theorem bs_inj {a b : ByteArray} (h : bs a = bs b) : a = b := by
  rw [← mkS_bs a, h, mkS_bs]
theorem bs_at (s : ByteArray) (i : Nat) (x : UInt8) (l : List UInt8) (h : (bs s).drop i = x :: l) : i < s.size ∧ bt s (i : Int) = (x.toNat : Int) ∧ (bs s).drop (i + 1) = l ∧ (bs s).take (i + 1) = (bs s).take i ++ [x] := by
  have hl : i < (bs s).length := by
    rcases Nat.lt_or_ge i (bs s).length with h1 | h1
    · exact h1
    · rw [List.drop_eq_nil_of_le h1] at h; cases h
  have hs : i < s.size := by rw [← bs_len]; exact hl
  have e := List.drop_eq_getElem_cons hl
  rw [h] at e
  injection e with e1 e2
  refine ⟨hs, ?_, e2.symm, ?_⟩
  · unfold bt
    rw [e1]
    simp [hs, bs]
    rfl
  · rw [List.take_succ_eq_append_getElem hl, e1]
def wordsL : List UInt8 → List UInt8 → List (List UInt8)
  | cur, [] => if cur = [] then [] else [cur]
  | cur, b :: l => if b = 32 then (if cur = [] then [] else [cur]) ++ wordsL [] l else wordsL (cur ++ [b]) l
def okB (x : UInt8) : Bool := decide (32 ≤ x.toNat) && decide (x.toNat ≤ 126)
def lineR (o : List ByteArray) : List ByteArray × Bool := if (o.length : Int) > 10 then ([], false) else (o, true)
theorem lineR_len (o : List ByteArray) : (lineR o).1.length ≤ 10 := by
  unfold lineR
  by_cases h : (o.length : Int) > 10
  · rw [if_pos h]; simp
  · rw [if_neg h]; simp only; omega
def partsV (s : ByteArray) : List ByteArray × Bool :=
  if (s.size : Int) > 600 then ([], false) else if (bs s).all okB = true then lineR ((wordsL [] (bs s)).map mkS) else ([], false)
theorem partsV_len (s : ByteArray) : (partsV s).1.length ≤ 10 := by
  unfold partsV
  by_cases h : (s.size : Int) > 600
  · rw [if_pos h]; simp
  · rw [if_neg h]
    by_cases h2 : (bs s).all okB = true
    · rw [if_pos h2]; exact lineR_len _
    · rw [if_neg h2]; simp
theorem wordsL_end : ∀ (a cur : List UInt8), (∀ b ∈ a, b ≠ 32) → wordsL cur a = if cur ++ a = [] then [] else [cur ++ a]
  | [], cur, _ => by simp [wordsL]
  | b :: a, cur, h => by
    have hb := h b (List.mem_cons_self ..)
    rw [wordsL, if_neg hb, wordsL_end a (cur ++ [b]) (fun c hc => h c (List.mem_cons_of_mem _ hc))]
    simp
theorem wordsL_run : ∀ (a cur b : List UInt8), (∀ x ∈ a, x ≠ 32) → wordsL cur (a ++ 32 :: b) = (if cur ++ a = [] then [] else [cur ++ a]) ++ wordsL [] b
  | [], cur, b, _ => by simp [wordsL]
  | x :: a, cur, b, h => by
    have hx := h x (List.mem_cons_self ..)
    rw [List.cons_append, wordsL, if_neg hx, wordsL_run a (cur ++ [x]) b (fun c hc => h c (List.mem_cons_of_mem _ hc))]
    simp
/-! the pieces of a text between the bytes c, empty ones too -/
def splitL (c : UInt8) : List UInt8 → List UInt8 → List (List UInt8)
  | cur, [] => [cur]
  | cur, b :: l => if b = c then cur :: splitL c [] l else splitL c (cur ++ [b]) l
theorem splitL_end (c : UInt8) : ∀ (a cur : List UInt8), (∀ b ∈ a, b ≠ c) → splitL c cur a = [cur ++ a]
  | [], cur, _ => by simp [splitL]
  | b :: a, cur, h => by
    have hb := h b (List.mem_cons_self ..)
    rw [splitL, if_neg hb, splitL_end c a (cur ++ [b]) (fun x hx => h x (List.mem_cons_of_mem _ hx))]
    simp
theorem splitL_run (c : UInt8) : ∀ (a cur b : List UInt8), (∀ x ∈ a, x ≠ c) → splitL c cur (a ++ c :: b) = (cur ++ a) :: splitL c [] b
  | [], cur, b, _ => by simp [splitL]
  | x :: a, cur, b, h => by
    have hx := h x (List.mem_cons_self ..)
    rw [List.cons_append, splitL, if_neg hx, splitL_run c a (cur ++ [x]) b (fun y hy => h y (List.mem_cons_of_mem _ hy))]
    simp
theorem splitL_len (c : UInt8) : ∀ (l cur : List UInt8), (splitL c cur l).length ≤ l.length + 1 ∧ 1 ≤ (splitL c cur l).length
  | [], cur => by simp [splitL]
  | b :: l, cur => by
    rw [splitL]
    split
    · have := splitL_len c l []
      simp only [List.length_cons]
      omega
    · have := splitL_len c l (cur ++ [b])
      simp only [List.length_cons]
      omega
theorem not_c {c : UInt8} {l : List UInt8} (h : ∀ k : Nat, l[k]? ≠ some c) : ∀ b ∈ l, b ≠ c := by
  intro b hb e
  obtain ⟨k, hk⟩ := List.mem_iff_getElem?.1 hb
  exact h k (by rw [hk, e])
theorem hit_parts {c : UInt8} {l : List UInt8} {i : Nat} (hat : l[i]? = some c) (hno : ∀ k, k < i → l[k]? ≠ some c) : l = l.take i ++ c :: l.drop (i + 1) ∧ ∀ x ∈ l.take i, x ≠ c := by
  have hlt : i < l.length := (List.getElem?_eq_some_iff.1 hat).1
  have hget : l[i] = c := (List.getElem?_eq_some_iff.1 hat).2
  refine ⟨?_, ?_⟩
  · have := List.take_append_drop i l
    rw [List.drop_eq_getElem_cons hlt, hget] at this
    exact this.symm
  · refine not_c fun k => ?_
    rw [List.getElem?_take]
    by_cases hk : k < i
    · rw [if_pos hk]; exact hno k hk
    · rw [if_neg hk]; simp
theorem split_pieces (sep : ByteArray) (c : UInt8) (hz : sep.size = 1) (h1 : ∀ s, Lib.indexB s sep = Lib.indexByte (bs s) c) : ∀ (n : Nat) (s : ByteArray), s.size ≤ n → Lib.splitB sep 0 (Lib.countB s sep) s = (splitL c [] (bs s)).map mkS := by
  intro n
  induction n with
  | zero =>
    intro s hs
    have hb : bs s = [] := List.eq_nil_of_length_eq_zero (by rw [bs_len]; omega)
    have hi : Lib.indexB s sep = -1 := by rw [h1, hb]; rfl
    rw [Lib.countB_miss s sep hi, Lib.splitB_zero, hb]
    show [s] = [mkS []]
    rw [← hb, mkS_bs]
  | succ n ih =>
    intro s hs
    rcases Int.lt_or_le (Lib.indexB s sep) 0 with hneg | hpos
    · have hge : -1 ≤ Lib.indexB s sep := by rw [h1]; exact Lib.indexByte_ge _ _
      have hi : Lib.indexB s sep = -1 := by omega
      have hno := not_c (Lib.indexByte_none (by rw [← h1]; exact hi))
      rw [Lib.countB_miss s sep hi, Lib.splitB_zero, splitL_end c (bs s) [] hno]
      rfl
    · obtain ⟨i, hi⟩ := Int.eq_ofNat_of_zero_le hpos
      obtain ⟨hat, hno⟩ := Lib.indexByte_some (l := bs s) (c := c) (o := i) (by rw [← h1]; exact hi)
      have hlt : i < (bs s).length := (List.getElem?_eq_some_iff.1 hat).1
      obtain ⟨hdec, hnoA⟩ := hit_parts hat hno
      have hr : bs (s.extract (i + 1) s.size) = (bs s).drop (i + 1) := by
        rw [bs_extract, List.take_of_length_le (by rw [bs_len]; omega)]
      have hrs : (s.extract (i + 1) s.size).size ≤ n := by
        have e := congrArg List.length hr
        rw [bs_len, List.length_drop, bs_len] at e
        rw [bs_len] at hlt
        omega
      have step := ih (s.extract (i + 1) s.size) hrs
      have hf : s.extract 0 (i + 0) = mkS ((bs s).take i) := by
        apply bs_inj
        rw [bs_extract]
        rfl
      rw [Lib.countB_hit s sep i (by rw [hz]; omega) hi, hz, Nat.add_comm 1, Lib.splitB_hit sep 0 _ s i hi, hz, hf, step, hr]
      conv => rhs; rw [hdec, splitL_run _ _ _ _ hnoA]
      simp
theorem split_sp (s : ByteArray) (c : UInt8) (b i : Nat) (hi : i ≤ s.size) : s.extract ((b : Int)).toNat ((i : Int)).toNat = mkS (((bs s).take i).drop b) := by
  apply bs_inj
  rw [bs_extract]
  rfl
theorem spec_split_end (s : ByteArray) (hs : s.size ≤ 1048576) (c : Int) (out : List ByteArray) (b : Int) : Ev (fun k => spec_l10Split.l0 k s c out b ((s.size + 1 : Nat) : Int)) out := by
  refine ev_succ ?_
  simp only [spec_l10Split.l0]
  exact ev_else (by omega) (ev_some rfl)
theorem spec_split_l0 (s : ByteArray) (hs : s.size ≤ 1048576) (c : UInt8) : ∀ (l : List UInt8) (i b : Nat) (out : List ByteArray), (bs s).drop i = l → b ≤ i → i ≤ s.size → out.length ≤ i →
    Ev (fun k => spec_l10Split.l0 k s (c.toNat : Int) out (b : Int) (i : Int)) (out ++ (splitL c (((bs s).take i).drop b) l).map mkS) := by
  intro l
  induction l with
  | nil =>
    intro i b out hl hb hi ho
    have hend : i = s.size := by
      have := congrArg List.length hl
      rw [List.length_drop, bs_len] at this
      simp at this
      omega
    have s1 : wrap64 ((i : Int) + 1) = ((s.size + 1 : Nat) : Int) := wrap_to (by omega) (by omega) (by omega)
    refine ev_succ ?_
    simp only [spec_l10Split.l0]
    rw [s1, split_sp s c b i hi]
    clear s1
    refine ev_if (by omega) (ev_if (by omega) (ev_if (by omega) (ev_if (by omega) (ev_if (by omega) ?_))))
    exact spec_split_end s hs _ _ _
  | cons x l ih =>
    intro i b out hl hb hi ho
    obtain ⟨hlt, hx, hdr, htk⟩ := bs_at s i x l hl
    have hbt : bt s (i : Int) = (x.toNat : Int) := hx
    have s1 : wrap64 ((i : Int) + 1) = ((i + 1 : Nat) : Int) := wrap_to (by omega) (by omega) (by omega)
    refine ev_succ ?_
    simp only [spec_l10Split.l0]
    rw [hbt, s1, split_sp s c b i hi]
    clear s1
    refine ev_if (by omega) (ev_else (by omega) (ev_if (by omega) (ev_if (by omega) ?_)))
    by_cases h : x = c
    · subst h
      refine ev_if rfl (ev_if (by omega) (ev_if (by omega) (ev_if (by omega) ?_)))
      have := ih (i + 1) (i + 1) (out ++ [mkS (((bs s).take i).drop b)]) hdr (Nat.le_refl _) (by omega) (by rw [List.length_append, List.length_singleton]; omega)
      refine ev_eq this ?_
      have ecur : ((bs s).take (i + 1)).drop (i + 1) = [] := by
        rw [List.drop_eq_nil_iff, List.length_take]; omega
      rw [ecur, splitL, if_pos rfl]
      simp
    · refine ev_else (fun e => h (UInt8.toNat_inj.1 (by omega))) ?_
      have := ih (i + 1) b out hdr (by omega) (by omega) (by omega)
      refine ev_eq this ?_
      have ecur : ((bs s).take (i + 1)).drop b = ((bs s).take i).drop b ++ [x] := by
        rw [htk, List.drop_append_of_le_length (by rw [List.length_take, bs_len]; omega)]
      rw [ecur]
      conv => rhs; rw [splitL, if_neg h]
theorem spec_l10Split_f (s : ByteArray) (hs : s.size ≤ 1048576) (c : UInt8) : Ev (fun k => spec_l10Split.f k s (c.toNat : Int)) ((splitL c [] (bs s)).map mkS) := by
  unfold spec_l10Split.f
  refine ev_eq (spec_split_l0 s hs c (bs s) 0 0 [] rfl (Nat.le_refl _) (by omega) (by simp)) ?_
  simp
theorem str_cons (d : Nat) (h : d < 10) (s : List UInt8) : strOfNums [((48 + (d : Int))) % 256] ++ (⟨s.toArray⟩ : ByteArray) = ⟨(UInt8.ofNat (48 + d) :: s).toArray⟩ := by
  apply ByteArray.ext
  rw [ByteArray.data_append, ← Array.toList_inj]
  have e : ((48 + (d : Int)) % 256).toNat = 48 + d := by omega
  simp [strOfNums, e]
theorem dig_step (u : Nat) (h : u ≠ 0) : (if u = 0 then [] else Lib.decDigits u) = (if u / 10 = 0 then [] else Lib.decDigits (u / 10)) ++ [UInt8.ofNat (48 + u % 10)] := by
  rw [if_neg h]
  by_cases h10 : u < 10
  · rw [if_pos (by omega), Lib.decDigits_one h10, Nat.mod_eq_of_lt h10]; rfl
  · rw [if_neg (by omega)]
    conv => lhs; rw [Lib.decDigits, dif_neg h10]
theorem spec_Decimal_l0 (b : Bool) : ∀ (n u : Nat) (x : Int) (s : List UInt8), u < 10 ^ n → x.natAbs = u → -9223372036854775808 ≤ x → x ≤ 9223372036854775807 → s.length + n ≤ 1000 →
    Ev (fun k => spec_Decimal.l0 k x b ⟨s.toArray⟩) (if b = true then ⟨(45 :: ((if u = 0 then [] else Lib.decDigits u) ++ s)).toArray⟩ else ⟨((if u = 0 then [] else Lib.decDigits u) ++ s).toArray⟩) := by
  have fin : ∀ (s : List UInt8), s.length ≤ 1000 → Ev (fun k => spec_Decimal.l0 k 0 b ⟨s.toArray⟩) (if b = true then ⟨(45 :: s).toArray⟩ else ⟨s.toArray⟩) := by
    intro s hs
    refine ev_succ ?_
    simp only [spec_Decimal.l0]
    have hz : (⟨s.toArray⟩ : ByteArray).size = s.length := by simp [ByteArray.size]
    refine ev_if trivial ?_
    cases b with
    | true =>
      refine ev_if rfl (ev_if (by rw [hz]; omega) (ev_some (congrArg some ?_)))
      rw [if_pos rfl]
      apply ByteArray.ext
      rw [ByteArray.data_append, ← Array.toList_inj]
      simp
    | false => exact ev_else (by simp) (ev_some rfl)
  intro n
  induction n with
  | zero =>
    intro u x s hu hx _ _ hs
    have h0 : u = 0 := by simpa using hu
    subst h0
    obtain rfl : x = 0 := by omega
    simp only [if_pos, List.nil_append]
    exact fin s (by omega)
  | succ n ih =>
    intro u x s hu hx hx0 hx1 hs
    by_cases h0 : u = 0
    · subst h0
      obtain rfl : x = 0 := by omega
      simp only [if_pos, List.nil_append]
      exact fin s (by omega)
    · have hxne : x ≠ 0 := by omega
      have hq : (Int.tdiv x 10).natAbs = u / 10 := by rw [Int.natAbs_tdiv, hx]; rfl
      have hqr : -9223372036854775808 ≤ Int.tdiv x 10 ∧ Int.tdiv x 10 ≤ 9223372036854775807 := by omega
      have hw : wrap64 (Int.tdiv x 10) = Int.tdiv x 10 := wid hqr.1 hqr.2
      have hsz : ∀ z : Int, (strOfNums [z]).size = 1 := fun z => rfl
      have hz : (⟨s.toArray⟩ : ByteArray).size = s.length := by simp [ByteArray.size]
      have hm : (Int.tmod x 10).natAbs = u % 10 := by rw [Int.natAbs_tmod, hx]; rfl
      have step := ih (u / 10) (Int.tdiv x 10) (UInt8.ofNat (48 + u % 10) :: s) (by rw [Nat.pow_succ] at hu; omega) hq hqr.1 hqr.2 (by rw [List.length_cons]; omega)
      rw [dig_step u h0, List.append_assoc, List.singleton_append]
      refine ev_succ ?_
      simp only [spec_Decimal.l0]
      refine ev_else hxne ?_
      have fig : ∀ z : Int, z = ((u % 10 : Nat) : Int) → spec_l01Figure.f z = some ((48 + ((u % 10 : Nat) : Int)) % 256) := by
        intro z hz
        subst hz
        unfold spec_l01Figure.f
        rw [if_pos (by omega), wid (by omega) (by omega)]
      by_cases hneg : Int.tmod x 10 < 0
      · refine ev_if hneg (ev_bind0 (fig _ (by rw [wid (by omega) (by omega)]; omega)) (ev_bind0 rfl (ev_if (by rw [hsz, hz]; omega) ?_)))
        rw [hw, str_cons _ (Nat.mod_lt _ (by omega))]
        exact step
      · refine ev_else hneg (ev_bind0 (fig _ (by omega)) (ev_bind0 rfl (ev_if (by rw [hsz, hz]; omega) ?_)))
        rw [hw, str_cons _ (Nat.mod_lt _ (by omega))]
        exact step
theorem spec_Decimal_f (x : Int) (h0 : -9223372036854775808 ≤ x) (h1 : x ≤ 9223372036854775807) : Ev (fun k => spec_Decimal.f k x) ⟨(Lib.itoa x).toArray⟩ := by
  unfold spec_Decimal.f
  by_cases hz : x = 0
  · subst hz
    refine ev_if rfl (ev_some (congrArg some ?_))
    have : Lib.itoa 0 = [48] := by
      have := Lib.itoa_nonneg 0
      rw [Lib.decDigits_one (by omega)] at this
      exact this
    rw [this]
  · refine ev_else hz ?_
    have step := spec_Decimal_l0 (decide (x < 0)) 20 x.natAbs x [] (by omega) rfl h0 h1 (by simp)
    have hu : ¬ x.natAbs = 0 := by omega
    simp only [List.append_nil, if_neg hu] at step
    refine ev_eq step ?_
    unfold Lib.itoa
    by_cases hn : x < 0
    · rw [if_pos (decide_eq_true hn), if_pos hn]
    · rw [if_neg (by simpa using hn), if_neg hn]
      have : x.natAbs = x.toNat := by omega
      rw [this]
/-- the number that a text tells in figures, as both read it -/
def rdL (x : ByteArray) : List UInt8 → Int → Int × Bool
  | [], a => if a > 1000000000 then (0, false) else if (⟨(Lib.itoa a).toArray⟩ : ByteArray).toList = x.toList then (a, true) else (0, false)
  | b :: l, a => if (b.toNat : Int) < 48 then (0, false) else if (b.toNat : Int) > 57 then (0, false) else rdL x l (a * 10 + ((b.toNat : Int) - 48))
def rdV (x : ByteArray) : Int × Bool := if x.size = 0 ∨ 10 < x.size then (0, false) else rdL x (bs x) 0
theorem rdL_ok (x : ByteArray) : ∀ (l : List UInt8) (a : Int), 0 ≤ a → (rdL x l a).2 = true → (∀ b ∈ l, 48 ≤ b.toNat ∧ b.toNat ≤ 57) ∧ 0 ≤ (rdL x l a).1 ∧ (rdL x l a).1 ≤ 1000000000
  | [], a, h0, h => by
    unfold rdL at h ⊢
    by_cases h1 : a > 1000000000
    · rw [if_pos h1] at h; cases h
    rw [if_neg h1] at h ⊢
    by_cases h2 : (⟨(Lib.itoa a).toArray⟩ : ByteArray).toList = x.toList
    · rw [if_pos h2]; exact ⟨fun b hb => by simp at hb, h0, by show a ≤ _; omega⟩
    · rw [if_neg h2] at h; cases h
  | b :: l, a, h0, h => by
    unfold rdL at h ⊢
    by_cases h1 : (b.toNat : Int) < 48
    · rw [if_pos h1] at h; cases h
    rw [if_neg h1] at h ⊢
    by_cases h2 : (b.toNat : Int) > 57
    · rw [if_pos h2] at h; cases h
    rw [if_neg h2] at h ⊢
    obtain ⟨p1, p2⟩ := rdL_ok x l _ (by omega) h
    refine ⟨fun c hc => ?_, p2⟩
    rcases List.mem_cons.1 hc with rfl | hc
    · omega
    · exact p1 c hc
theorem rdV_ok {x : ByteArray} (h : (rdV x).2 = true) : (∀ b ∈ bs x, 48 ≤ b.toNat ∧ b.toNat ≤ 57) ∧ 0 ≤ (rdV x).1 ∧ (rdV x).1 ≤ 1000000000 ∧ x.size ≠ 0 := by
  unfold rdV at h ⊢
  by_cases h1 : x.size = 0 ∨ 10 < x.size
  · rw [if_pos h1] at h; cases h
  · rw [if_neg h1] at h ⊢
    obtain ⟨p1, p2, p3⟩ := rdL_ok x _ 0 (Int.le_refl _) h
    exact ⟨p1, p2, p3, fun e => h1 (.inl e)⟩
theorem rdV_bad {x : ByteArray} {b : UInt8} (hb : b ∈ bs x) (h : ¬ (48 ≤ b.toNat ∧ b.toNat ≤ 57)) : (rdV x).2 = false := by
  cases e : (rdV x).2 with
  | false => rfl
  | true => exact absurd ((rdV_ok e).1 b hb) h
theorem rdV_empty {x : ByteArray} (h : x.size = 0) : (rdV x).2 = false := by
  unfold rdV; rw [if_pos (.inl h)]
theorem rd_pow10 : ∀ (i : Nat), i ≤ 10 → (10 : Int) ^ i ≤ 10000000000 := by
  intro i hi
  have : ∀ j : Fin 11, (10 : Int) ^ (j : Nat) ≤ 10000000000 := by decide
  exact this ⟨i, by omega⟩
theorem rdL_both (x : ByteArray) (hx : x.size ≤ 10) : ∀ (l : List UInt8) (i : Nat) (a : Int), (bs x).drop i = l → i ≤ x.size → 0 ≤ a → a < 10 ^ i →
    Ev (fun k => spec_ReadDecimal.l0 k x a (i : Int)) (rdL x l a) ∧ Ev (fun k => impl_ReadDecimal.l0 k x a (i : Int)) (rdL x l a) := by
  intro l
  induction l with
  | nil =>
    intro i a hl hi h0 h1
    have hend : i = x.size := by
      have := congrArg List.length hl
      rw [List.length_drop, bs_len] at this
      simp at this
      omega
    have hb := rd_pow10 i (by omega)
    unfold rdL
    by_cases hbig : a > 1000000000
    · rw [if_pos hbig]
      refine ⟨ev_succ ?_, ev_succ ?_⟩
      · simp only [spec_ReadDecimal.l0]; exact ev_else (by omega) (ev_if hbig (ev_some rfl))
      · simp only [impl_ReadDecimal.l0]; exact ev_else (by omega) (ev_if hbig (ev_some rfl))
    · rw [if_neg hbig]
      refine ⟨ev_succ ?_, ev_succ ?_⟩
      · simp only [spec_ReadDecimal.l0]
        refine ev_else (by omega) (ev_else hbig (ev_bind (spec_Decimal_f a (by omega) (by omega)) (ev_some ?_)))
        by_cases he : (⟨(Lib.itoa a).toArray⟩ : ByteArray).toList = x.toList
        · rw [if_pos he, if_pos he]
        · rw [if_neg he, if_neg he]
      · simp only [impl_ReadDecimal.l0]
        refine ev_else (by omega) (ev_else hbig (ev_bind0 (if_pos ⟨by omega, by omega⟩) (ev_some ?_)))
        by_cases he : (⟨(Lib.itoa a).toArray⟩ : ByteArray).toList = x.toList
        · rw [if_pos he, if_pos he]
        · rw [if_neg he, if_neg he]
  | cons b l ih =>
    intro i a hl hi h0 h1
    obtain ⟨hlt, hbt, hdr, _⟩ := bs_at x i b l hl
    have hb := rd_pow10 i (by omega)
    have b1 := b.toNat_lt
    unfold rdL
    by_cases h48 : (b.toNat : Int) < 48
    · rw [if_pos h48]
      refine ⟨ev_succ ?_, ev_succ ?_⟩
      · simp only [spec_ReadDecimal.l0]; rw [hbt]; exact ev_if (by omega) (ev_if (by omega) (ev_if h48 (ev_some rfl)))
      · simp only [impl_ReadDecimal.l0]; rw [hbt]; exact ev_if (by omega) (ev_if (by omega) (ev_if h48 (ev_some rfl)))
    rw [if_neg h48]
    by_cases h57 : (b.toNat : Int) > 57
    · rw [if_pos h57]
      refine ⟨ev_succ ?_, ev_succ ?_⟩
      · simp only [spec_ReadDecimal.l0]; rw [hbt]; exact ev_if (by omega) (ev_if (by omega) (ev_else h48 (ev_if h57 (ev_some rfl))))
      · simp only [impl_ReadDecimal.l0]; rw [hbt]; exact ev_if (by omega) (ev_if (by omega) (ev_else h48 (ev_if h57 (ev_some rfl))))
    rw [if_neg h57]
    have hp : (10 : Int) ^ (i + 1) = 10 ^ i * 10 := Int.pow_succ 10 i
    obtain ⟨d, hd⟩ : ∃ d, d = (b.toNat : Int) - 48 := ⟨_, rfl⟩
    obtain ⟨p, hpp⟩ : ∃ p, p = (10 : Int) ^ i := ⟨_, rfl⟩
    rw [← hpp] at h1 hb hp
    obtain ⟨hs, hm⟩ := ih (i + 1) (a * 10 + d) hdr (by omega) (by omega) (by rw [hp]; omega)
    rw [← hd]
    have hi1 : wrap64 ((i : Int) + 1) = ((i + 1 : Nat) : Int) := wrap_to (by omega) (by omega) (by omega)
    refine ⟨ev_succ ?_, ev_succ ?_⟩
    · simp only [spec_ReadDecimal.l0]
      have e : wrap64 (wrap64 (wrap64 (10 * a) + wrap64 (b.toNat : Int)) - 48) = a * 10 + d := by
        rw [wid (x := 10 * a) (by omega) (by omega), wid (x := (b.toNat : Int)) (by omega) (by omega), wid (x := 10 * a + (b.toNat : Int)) (by omega) (by omega)]
        exact wrap_to (by omega) (by omega) (by omega)
      rw [hbt, e, hi1]
      clear e hi1
      exact ev_if (by omega) (ev_if (by omega) (ev_else h48 (ev_else h57 hs)))
    · simp only [impl_ReadDecimal.l0]
      have e : wrap64 (wrap64 (a * 10) + ((b.toNat : Int) - 48) % 256) = a * 10 + d := by
        rw [wid (x := a * 10) (by omega) (by omega)]
        exact wrap_to (by omega) (by omega) (by omega)
      rw [hbt, e, hi1]
      clear e hi1
      exact ev_if (by omega) (ev_if (by omega) (ev_else h48 (ev_else h57 hm)))
theorem rdV_both (x : ByteArray) : Ev (fun k => spec_ReadDecimal.f k x) (rdV x) ∧ Ev (fun k => impl_ReadDecimal.f k x) (rdV x) := by
  unfold rdV
  by_cases h10 : x.size ≤ 10
  · by_cases h0 : x.size = 0
    · rw [if_pos (.inl h0)]
      refine ⟨?_, ?_⟩
      · unfold spec_ReadDecimal.f
        refine ev_else (by omega) (ev_succ ?_)
        simp only [spec_ReadDecimal.l0]
        refine ev_else (by omega) (ev_else (by omega) (ev_bind (a := ⟨#[48]⟩) (ev_some rfl) (ev_else ?_ (ev_some rfl))))
        intro he
        have := (toList_iff _ _).mp he
        rw [← this] at h0
        simp [ByteArray.size] at h0
      · unfold impl_ReadDecimal.f
        refine ev_if (by omega) (ev_succ ?_)
        simp only [impl_ReadDecimal.j0]
        exact ev_if trivial (ev_some rfl)
    · obtain ⟨hs, hm⟩ := rdL_both x h10 (bs x) 0 0 rfl (by omega) (Int.le_refl _) (by decide)
      rw [if_neg (by omega)]
      refine ⟨?_, ?_⟩
      · unfold spec_ReadDecimal.f
        exact ev_else (by omega) hs
      · unfold impl_ReadDecimal.f
        refine ev_else (by omega) (ev_succ ?_)
        simp only [impl_ReadDecimal.j0]
        exact ev_else (by simp; omega) hm
  · rw [if_pos (.inr (by omega))]
    refine ⟨?_, ?_⟩
    · unfold spec_ReadDecimal.f
      exact ev_if (by omega) (ev_some rfl)
    · unfold impl_ReadDecimal.f
      refine ev_else (by omega) (ev_succ ?_)
      simp only [impl_ReadDecimal.j0]
      exact ev_if (by simp; omega) (ev_some rfl)
/-- what a piece of a field tells: from, upto, step -/
def pieceV (p : ByteArray) (lo hi : Int) : Option (Int × Int × Int) :=
  if bs p = [42] then some (lo, hi, 1)
  else if (bs p).take 2 = [42, 47] then
    (if (rdV (mkS ((bs p).drop 2))).2 = true ∧ (rdV (mkS ((bs p).drop 2))).1 ≥ 1 then some (lo, hi, (rdV (mkS ((bs p).drop 2))).1) else none)
  else match splitL 45 [] (bs p) with
    | [x] => if (rdV (mkS x)).2 = true ∧ lo ≤ (rdV (mkS x)).1 ∧ (rdV (mkS x)).1 ≤ hi then some ((rdV (mkS x)).1, (rdV (mkS x)).1, 1) else none
    | [x, y] => if (rdV (mkS x)).2 = true ∧ (rdV (mkS y)).2 = true ∧ lo ≤ (rdV (mkS x)).1 ∧ (rdV (mkS x)).1 ≤ (rdV (mkS y)).1 ∧ (rdV (mkS y)).1 ≤ hi then some ((rdV (mkS x)).1, (rdV (mkS y)).1, 1) else none
    | _ => none
/-- the four results that tell it -/
def PieceR (o : Option (Int × Int × Int)) (t : Int × Int × Int × Bool) : Prop := match o with
  | none => t.2.2.2 = false
  | some v => t = (v.1, v.2.1, v.2.2, true)
theorem pieceV_ok {p : ByteArray} {lo hi : Int} (hlo : lo ≤ hi) {v : Int × Int × Int} (h : pieceV p lo hi = some v) : lo ≤ v.1 ∧ v.1 ≤ v.2.1 ∧ v.2.1 ≤ hi ∧ 1 ≤ v.2.2 ∧ v.2.2 ≤ 1000000000 := by
  unfold pieceV at h
  split at h
  · obtain rfl := Option.some.inj h
    exact ⟨Int.le_refl _, hlo, Int.le_refl _, by show (1 : Int) ≤ 1; omega, by show (1 : Int) ≤ _; omega⟩
  · split at h
    · split at h
      · rename_i h1
        obtain rfl := Option.some.inj h
        have := rdV_ok h1.1
        exact ⟨Int.le_refl _, hlo, Int.le_refl _, h1.2, this.2.2.1⟩
      · cases h
    · split at h
      · split at h
        · rename_i h1
          obtain rfl := Option.some.inj h
          exact ⟨h1.2.1, Int.le_refl _, h1.2.2, by show (1 : Int) ≤ 1; omega, by show (1 : Int) ≤ _; omega⟩
        · cases h
      · split at h
        · rename_i h1
          obtain rfl := Option.some.inj h
          exact ⟨h1.2.2.1, h1.2.2.2.1, h1.2.2.2.2, by show (1 : Int) ≤ 1; omega, by show (1 : Int) ≤ _; omega⟩
        · cases h
      · cases h
theorem star_iff (p : ByteArray) : p.toList = ([42] : List UInt8) ↔ bs p = [42] := by rw [ByteArray.toList_eq]; rfl
theorem ext_drop (p : ByteArray) (i : Nat) : p.extract i p.size = mkS ((bs p).drop i) := by
  apply bs_inj
  rw [bs_extract, List.take_of_length_le (by rw [bs_len]; omega)]
  rfl
theorem ext_take (p : ByteArray) (i : Nat) : p.extract 0 i = mkS ((bs p).take i) := by
  apply bs_inj
  rw [bs_extract]
  rfl
theorem rd_get1 (a b : ByteArray) : rdOf ByteArray.empty [a, b] 1 = b := rfl
theorem rd_get0 (a : ByteArray) (l : List ByteArray) : rdOf ByteArray.empty (a :: l) 0 = a := rfl
theorem chain5 (c1 c2 : Bool) (c3 c4 c5 c6 : Prop) [Decidable c3] [Decidable c4] [Decidable c5] [Decidable c6] (a b : Int) :
    (if c1 = true then (if c2 = true then (if c3 then (if c4 then (if c5 then (some (a, b, (1 : Int), decide c6)) else (some (a, b, 1, false))) else (some (a, b, 1, false))) else (some (a, b, 1, false))) else (some (a, b, 1, false))) else (some (a, b, 1, false))) = some (a, b, 1, decide (c1 = true ∧ c2 = true ∧ c3 ∧ c4 ∧ c5 ∧ c6)) := by
  by_cases h1 : c1 = true
  case neg => simp [h1]
  by_cases h2 : c2 = true
  case neg => simp [h2]
  by_cases h3 : c3
  case neg => simp [h3]
  by_cases h4 : c4
  case neg => simp [h4]
  by_cases h5 : c5
  case neg => simp [h5]
  simp [h1, h2, h3, h4, h5]
theorem chain4b (c1 c2 : Bool) (c4 c5 c6 : Prop) [Decidable c4] [Decidable c5] [Decidable c6] (a b : Int) :
    (if c1 = true then (if c2 = true then (if c4 then (if c5 then (some (a, b, (1 : Int), decide c6)) else (some (a, b, 1, false))) else (some (a, b, 1, false))) else (some (a, b, 1, false))) else (some (a, b, 1, false))) = some (a, b, 1, decide (c1 = true ∧ c2 = true ∧ c4 ∧ c5 ∧ c6)) := by
  by_cases h1 : c1 = true
  case neg => simp [h1]
  by_cases h2 : c2 = true
  case neg => simp [h2]
  by_cases h4 : c4
  case neg => simp [h4]
  by_cases h5 : c5
  case neg => simp [h5]
  simp [h1, h2, h4, h5]
theorem chain4 (c1 : Bool) (c3 c4 c5 c6 : Prop) [Decidable c3] [Decidable c4] [Decidable c5] [Decidable c6] (a b : Int) :
    (if c1 = true then (if c3 then (if c4 then (if c5 then (some (a, b, (1 : Int), decide c6)) else (some (a, b, 1, false))) else (some (a, b, 1, false))) else (some (a, b, 1, false))) else (some (a, b, 1, false))) = some (a, b, 1, decide (c1 = true ∧ c3 ∧ c4 ∧ c5 ∧ c6)) := by
  by_cases h1 : c1 = true
  case neg => simp [h1]
  by_cases h3 : c3
  case neg => simp [h3]
  by_cases h4 : c4
  case neg => simp [h4]
  by_cases h5 : c5
  case neg => simp [h5]
  simp [h1, h3, h4, h5]
theorem chain3 (c1 : Bool) (c4 c5 c6 : Prop) [Decidable c4] [Decidable c5] [Decidable c6] (a b : Int) :
    (if c1 = true then (if c4 then (if c5 then (some (a, b, (1 : Int), decide c6)) else (some (a, b, 1, false))) else (some (a, b, 1, false))) else (some (a, b, 1, false))) = some (a, b, 1, decide (c1 = true ∧ c4 ∧ c5 ∧ c6)) := by
  by_cases h1 : c1 = true
  case neg => simp [h1]
  by_cases h4 : c4
  case neg => simp [h4]
  by_cases h5 : c5
  case neg => simp [h5]
  simp [h1, h4, h5]
theorem pieceR_if (c : Prop) [Decidable c] (a b s : Int) (d : Bool) (hd : d = decide c) : PieceR (if c then some (a, b, s) else none) (a, b, s, d) := by
  subst hd
  by_cases h : c
  · rw [if_pos h, decide_eq_true h]; rfl
  · rw [if_neg h, decide_eq_false h]; rfl
theorem dash_bad {x : List UInt8} (h : (45 : UInt8) ∈ x) : (rdV (mkS x)).2 = false := rdV_bad (b := 45) (by rw [bs_mk]; exact h) (by decide)
theorem spec_piece (p : ByteArray) (hp : p.size ≤ 1048576) (lo hi : Int) : ∃ t, Ev (fun k => spec_l10Piece.f k p lo hi) t ∧ PieceR (pieceV p lo hi) t := by
  unfold spec_l10Piece.f pieceV
  by_cases h1 : bs p = [42]
  · rw [if_pos h1]
    exact ⟨_, ev_if ((star_iff p).2 h1) (ev_some rfl), rfl⟩
  rw [if_neg h1]
  have hj : ∀ t, Ev (fun k => spec_l10Piece.j0 k p lo hi (decide ((p.size : Int) > 2) && ((p.extract 0 2).toList == ([42, 47] : List UInt8)))) t → Ev (fun k => if p.toList = ([42] : List UInt8) then (some (lo, hi, 1, true)) else (if (p.size : Int) > 2 then (if 0 ≤ 2 then (if 2 ≤ (p.size : Int) then (spec_l10Piece.j0 k p lo hi ((p.extract 0 2).toList == ([42, 47] : List UInt8))) else (none)) else (none)) else (spec_l10Piece.j0 k p lo hi false))) t := by
    intro t ht
    refine ev_else (fun e => h1 ((star_iff p).1 e)) ?_
    by_cases h2 : (p.size : Int) > 2
    · rw [decide_eq_true h2, Bool.true_and] at ht
      exact ev_if h2 (ev_if (by omega) (ev_if (by omega) ht))
    · rw [decide_eq_false h2, Bool.false_and] at ht
      exact ev_else h2 ht
  have ht2 : (p.extract 0 2).toList = ([42, 47] : List UInt8) ↔ (bs p).take 2 = [42, 47] := by
    rw [ext_take, ByteArray.toList_eq]; exact Iff.rfl
  have step : ∀ b t, Ev (fun k => spec_l10Piece.j0 (k + 1) p lo hi b) t → Ev (fun k => spec_l10Piece.j0 k p lo hi b) t := fun b t h => ev_succ h
  by_cases h3 : (p.size : Int) > 2 ∧ (bs p).take 2 = [42, 47]
  · rw [if_pos h3.2]
    refine ⟨_, hj _ (step _ _ ?_), pieceR_if _ lo hi _ (decide ((rdV (mkS ((bs p).drop 2))).2 = true ∧ (rdV (mkS ((bs p).drop 2))).1 ≥ 1)) rfl⟩
    simp only [spec_l10Piece.j0]
    refine ev_if (by rw [decide_eq_true h3.1, ht2.2 h3.2]; rfl) (ev_if (by omega) ?_)
    rw [ext_drop]
    refine ev_bind (rdV_both _).1 (ev_some ?_)
    cases hr : (rdV (mkS ((bs p).drop 2))).2 <;> simp
  · have hfalse : (decide ((p.size : Int) > 2) && ((p.extract 0 2).toList == ([42, 47] : List UInt8))) = false := by
      by_cases h2 : (p.size : Int) > 2
      · rw [decide_eq_true h2, Bool.true_and]
        exact beq_eq_false_iff_ne.2 (fun e => h3 ⟨h2, ht2.1 e⟩)
      · rw [decide_eq_false h2, Bool.false_and]
    rw [hfalse] at hj
    have hsp := spec_l10Split_f p hp 45
    have e45 : (((45 : UInt8)).toNat : Int) = 45 := rfl
    rw [e45] at hsp
    clear e45
    -- a text '*/' alone: no figures
    have hside : (if (bs p).take 2 = [42, 47] then
        (if (rdV (mkS ((bs p).drop 2))).2 = true ∧ (rdV (mkS ((bs p).drop 2))).1 ≥ 1 then some (lo, hi, (rdV (mkS ((bs p).drop 2))).1) else none)
      else match splitL 45 [] (bs p) with
        | [x] => if (rdV (mkS x)).2 = true ∧ lo ≤ (rdV (mkS x)).1 ∧ (rdV (mkS x)).1 ≤ hi then some ((rdV (mkS x)).1, (rdV (mkS x)).1, 1) else none
        | [x, y] => if (rdV (mkS x)).2 = true ∧ (rdV (mkS y)).2 = true ∧ lo ≤ (rdV (mkS x)).1 ∧ (rdV (mkS x)).1 ≤ (rdV (mkS y)).1 ∧ (rdV (mkS y)).1 ≤ hi then some ((rdV (mkS x)).1, (rdV (mkS y)).1, 1) else none
        | _ => none) = match splitL 45 [] (bs p) with
        | [x] => if (rdV (mkS x)).2 = true ∧ lo ≤ (rdV (mkS x)).1 ∧ (rdV (mkS x)).1 ≤ hi then some ((rdV (mkS x)).1, (rdV (mkS x)).1, 1) else none
        | [x, y] => if (rdV (mkS x)).2 = true ∧ (rdV (mkS y)).2 = true ∧ lo ≤ (rdV (mkS x)).1 ∧ (rdV (mkS x)).1 ≤ (rdV (mkS y)).1 ∧ (rdV (mkS y)).1 ≤ hi then some ((rdV (mkS x)).1, (rdV (mkS y)).1, 1) else none
        | _ => none := by
      by_cases h4 : (bs p).take 2 = [42, 47]
      · have hsz : p.size = 2 := by
          have e := congrArg List.length h4
          rw [List.length_take, bs_len] at e
          simp at e
          rcases Nat.lt_or_ge 2 p.size with h5 | h5
          · exact absurd ⟨by omega, h4⟩ h3
          · omega
        have hb : bs p = [42, 47] := by
          rw [List.take_of_length_le (by rw [bs_len]; omega)] at h4
          exact h4
        rw [if_pos h4, hb]
        have e1 : splitL 45 [] [42, 47] = [[42, 47]] := by decide
        have e2 : (rdV (mkS (([42, 47] : List UInt8).drop 2))).2 = false := rdV_empty rfl
        have e3 : (rdV (mkS [42, 47])).2 = false := rdV_bad (b := 42) (by rw [bs_mk]; exact List.mem_cons_self ..) (by decide)
        rw [e1]
        simp only [e2, e3]
        simp
      · rw [if_neg h4]
    rw [hside]
    clear hside
    have hl := splitL_len 45 (bs p) []
    cases hs : splitL 45 [] (bs p) with
    | nil => rw [hs] at hl; simp at hl
    | cons x T =>
      rw [hs] at hsp
      cases T with
      | nil =>
        refine ⟨_, hj _ (step _ _ ?_), pieceR_if _ _ _ _ (decide ((rdV (mkS x)).2 = true ∧ ((1 : Nat) : Int) ≤ 2 ∧ lo ≤ (rdV (mkS x)).1 ∧ (rdV (mkS x)).1 ≤ (rdV (mkS x)).1 ∧ (rdV (mkS x)).1 ≤ hi)) (decide_eq_decide.2 ⟨fun h => ⟨h.1, h.2.2.1, h.2.2.2.2⟩, fun h => ⟨h.1, by omega, h.2.1, Int.le_refl _, h.2.2⟩⟩)⟩
        simp only [spec_l10Piece.j0]
        refine ev_else (by simp) (ev_bind hsp ?_)
        refine ev_if (by simp) ?_
        rw [List.map_cons, rd_get0]
        refine ev_bind (rdV_both _).1 (ev_else (by simp) (ev_some ?_))
        exact chain4 (rdV (mkS x)).2 _ _ _ _ _ _
      | cons y T =>
        cases T with
        | nil =>
          refine ⟨_, hj _ (step _ _ ?_), pieceR_if _ _ _ _ (decide ((rdV (mkS x)).2 = true ∧ (rdV (mkS y)).2 = true ∧ ((2 : Nat) : Int) ≤ 2 ∧ lo ≤ (rdV (mkS x)).1 ∧ (rdV (mkS x)).1 ≤ (rdV (mkS y)).1 ∧ (rdV (mkS y)).1 ≤ hi)) (decide_eq_decide.2 ⟨fun h => ⟨h.1, h.2.1, h.2.2.2.1, h.2.2.2.2.1, h.2.2.2.2.2⟩, fun h => ⟨h.1, h.2.1, by omega, h.2.2.1, h.2.2.2.1, h.2.2.2.2⟩⟩)⟩
          simp only [spec_l10Piece.j0]
          refine ev_else (by simp) (ev_bind hsp ?_)
          refine ev_if (by simp) ?_
          rw [List.map_cons, List.map_cons, List.map_nil, rd_get0, rd_get1]
          refine ev_bind (rdV_both _).1 (ev_if (by simp) (ev_if (by simp) (ev_bind (rdV_both _).1 (ev_some ?_))))
          exact chain5 (rdV (mkS x)).2 (rdV (mkS y)).2 _ _ _ _ _ _
        | cons z T =>
          have hbig : ¬ (((mkS x :: mkS y :: mkS z :: T.map mkS).length : Nat) : Int) ≤ 2 := by simp only [List.length_cons]; omega
          refine ⟨((rdV (mkS x)).1, (rdV (mkS x)).1, 1, false), hj _ (step _ _ ?_), rfl⟩
          simp only [spec_l10Piece.j0]
          refine ev_else (by simp) (ev_bind hsp ?_)
          rw [List.map_cons, List.map_cons, List.map_cons, rd_get0]
          refine ev_if (by simp only [List.length_cons]; omega) ?_
          refine ev_bind (rdV_both _).1 (ev_else (by omega) (ev_some ?_))
          rw [chain4 (rdV (mkS x)).2 _ _ _ _ _ _, decide_eq_false (fun h => hbig h.2.1)]
theorem cut_split (l : List UInt8) : (Lib.cut l [45]).2.2 = true ∧ splitL 45 [] l = (Lib.cut l [45]).1 :: splitL 45 [] (Lib.cut l [45]).2.1 ∨ (Lib.cut l [45]).2.2 = false ∧ (Lib.cut l [45]).1 = l ∧ splitL 45 [] l = [l] := by
  have h1 : ∀ s : ByteArray, Lib.indexB s ⟨#[45]⟩ = Lib.indexByte (bs s) 45 := fun s => Lib.one s ⟨#[45]⟩ rfl
  have hi : Lib.index l [45] = Lib.indexByte l 45 := h1 (mkS l)
  unfold Lib.cut
  rw [hi]
  by_cases h : 0 ≤ Lib.indexByte l 45
  · rw [if_pos h]
    left
    obtain ⟨i, hi⟩ := Int.eq_ofNat_of_zero_le h
    obtain ⟨hat, hno⟩ := Lib.indexByte_some hi
    obtain ⟨hdec, hnoA⟩ := hit_parts hat hno
    rw [hi]
    refine ⟨rfl, ?_⟩
    show splitL 45 [] l = l.take i :: splitL 45 [] (l.drop (i + 1))
    conv => lhs; rw [hdec, splitL_run _ _ _ _ hnoA]
    simp
  · rw [if_neg h]
    right
    have hge := Lib.indexByte_ge l 45
    have hno := not_c (Lib.indexByte_none (l := l) (c := 45) (by omega))
    exact ⟨rfl, rfl, by rw [splitL_end 45 l [] hno]; rfl⟩
theorem splitL_dash : ∀ (l : List UInt8) (cur x y : List UInt8) (T : List (List UInt8)), splitL 45 cur l = x :: y :: T → (45 : UInt8) ∈ l
  | [], cur, x, y, T, h => by simp [splitL] at h
  | b :: l, cur, x, y, T, h => by
    rw [splitL] at h
    by_cases hb : b = 45
    · subst hb; exact List.mem_cons_self ..
    · rw [if_neg hb] at h
      exact List.mem_cons_of_mem _ (splitL_dash l _ x y T h)
theorem splitL_one : ∀ (l : List UInt8) (cur x : List UInt8), splitL 45 cur l = [x] → x = cur ++ l
  | [], cur, x, h => by
    simp [splitL] at h
    simp [h]
  | b :: l, cur, x, h => by
    rw [splitL] at h
    by_cases hb : b = 45
    · rw [if_pos hb] at h
      have e := (List.cons.inj h).2
      have := (splitL_len 45 l []).2
      rw [e] at this
      simp at this
    · rw [if_neg hb] at h
      have := splitL_one l _ x h
      rw [this]; simp
theorem impl_cutprefix (p : ByteArray) : strings_CutPrefix.f p ⟨#[42, 47]⟩ = some (if (bs p).take 2 = [42, 47] then (mkS ((bs p).drop 2), true) else (p, false)) := by
  unfold strings_CutPrefix.f stringslite_CutPrefix.f stringslite_HasPrefix.f
  have hz : (((⟨#[42, 47]⟩ : ByteArray).size : Nat) : Int) = 2 := rfl
  rw [hz]
  have hz2 : (2 : Int).toNat = 2 := rfl
  rw [hz2]
  by_cases h : (p.size : Int) ≥ 2
  · rw [if_pos h, if_pos (by omega), if_pos (by omega), Option.bind_some, ext_take, ext_drop]
    by_cases h2 : (bs p).take 2 = [42, 47]
    · have e : ((mkS ((bs p).take 2)).toList == (⟨#[42, 47]⟩ : ByteArray).toList) = true := by
        rw [h2]; exact beq_iff_eq.2 rfl
      rw [e, if_pos rfl, if_pos (by omega), if_pos (by omega), if_pos h2]; rfl
    · have e : ((mkS ((bs p).take 2)).toList == (⟨#[42, 47]⟩ : ByteArray).toList) = false := by
        refine beq_eq_false_iff_ne.2 fun e => h2 ?_
        rw [ByteArray.toList_eq, ByteArray.toList_eq] at e
        exact e
      rw [e, if_neg (by simp), if_neg h2]; rfl
  · have h2 : ¬ (bs p).take 2 = [42, 47] := by
      intro e
      have := congrArg List.length e
      rw [List.length_take, bs_len] at this
      simp at this
      omega
    rw [if_neg h, if_neg h2]
    rfl
theorem impl_piece (p : ByteArray) (hp : p.size ≤ 1048576) (lo hi : Int) : ∃ t, Ev (fun k => impl_pieceOf.f k p lo hi) t ∧ PieceR (pieceV p lo hi) t := by
  unfold impl_pieceOf.f pieceV
  by_cases h1 : bs p = [42]
  · rw [if_pos h1]
    exact ⟨_, ev_if ((star_iff p).2 h1) (ev_some rfl), rfl⟩
  rw [if_neg h1]
  have n1 : ¬ p.toList = ([42] : List UInt8) := fun e => h1 ((star_iff p).1 e)
  have hcp := impl_cutprefix p
  by_cases h2 : (bs p).take 2 = [42, 47]
  · rw [if_pos h2] at hcp ⊢
    refine ⟨_, ev_else n1 (ev_bind0 hcp (ev_if rfl (ev_bind (rdV_both _).2 (ev_some ?_)))), pieceR_if _ lo hi _ (decide ((rdV (mkS ((bs p).drop 2))).2 = true ∧ (rdV (mkS ((bs p).drop 2))).1 ≥ 1)) rfl⟩
    cases hr : (rdV (mkS ((bs p).drop 2))).2 <;> simp
  rw [if_neg h2] at hcp ⊢
  have hc : strings_Cut.f p ⟨#[45]⟩ = some (mkS (Lib.cut (bs p) [45]).1, mkS (Lib.cut (bs p) [45]).2.1, (Lib.cut (bs p) [45]).2.2) := if_pos (by omega)
  rcases cut_split (bs p) with ⟨c1, c2⟩ | ⟨c1, c2, c3⟩
  · generalize Lib.cut (bs p) [45] = q at hc c1 c2
    obtain ⟨x, r, b⟩ := q
    dsimp only at hc c1 c2
    subst c1
    have hl := (splitL_len 45 r []).2
    rw [c2]
    cases hs : splitL 45 [] r with
    | nil => rw [hs] at hl; simp at hl
    | cons y T =>
      cases T with
      | nil =>
        obtain rfl : y = r := by rw [splitL_one r [] y hs]; simp
        refine ⟨_, ev_else n1 (ev_bind0 hcp (ev_else (by simp) (ev_bind0 hc (ev_bind (rdV_both _).2 (ev_if rfl (ev_bind (rdV_both _).2 (ev_some (chain4b (rdV (mkS x)).2 (rdV (mkS y)).2 _ _ _ _ _)))))))), pieceR_if _ _ _ _ _ (decide_eq_decide.2 Iff.rfl)⟩
      | cons z T =>
        have hbad := dash_bad (splitL_dash r [] y z T hs)
        refine ⟨_, ev_else n1 (ev_bind0 hcp (ev_else (by simp) (ev_bind0 hc (ev_bind (rdV_both _).2 (ev_if rfl (ev_bind (rdV_both _).2 (ev_some (chain4b (rdV (mkS x)).2 (rdV (mkS r)).2 _ _ _ _ _)))))))), ?_⟩
        show decide _ = false
        exact decide_eq_false (fun h => by rw [hbad] at h; exact absurd h.2.1 (by simp))
  · generalize Lib.cut (bs p) [45] = q at hc c1 c2
    obtain ⟨x, r, b⟩ := q
    dsimp only at hc c1 c2
    subst c1
    subst c2
    rw [c3]
    exact ⟨_, ev_else n1 (ev_bind0 hcp (ev_else (by simp) (ev_bind0 hc (ev_bind (rdV_both _).2 (ev_else (by simp) (ev_some (chain3 (rdV (mkS (bs p))).2 _ _ _ _ _))))))), pieceR_if _ _ _ _ _ (decide_eq_decide.2 ⟨fun h => ⟨h.1, h.2.1, h.2.2.2⟩, fun h => ⟨h.1, h.2.1, Int.le_refl _, h.2.2⟩⟩)⟩
/-! rising lists with the same members are the same; what slices.Compact leaves of a sorted one -/
theorem strict_ext : ∀ (a b : List Int), a.Pairwise (· < ·) → b.Pairwise (· < ·) → (∀ x, x ∈ a ↔ x ∈ b) → a = b
  | [], [], _, _, _ => rfl
  | [], y :: b, _, _, h => absurd ((h y).2 (List.mem_cons_self ..)) (by simp)
  | x :: a, [], _, _, h => absurd ((h x).1 (List.mem_cons_self ..)) (by simp)
  | x :: a, y :: b, ha, hb, h => by
    rw [List.pairwise_cons] at ha hb
    have hxy : x = y := by
      rcases List.mem_cons.1 ((h x).1 (List.mem_cons_self ..)) with e | e
      · exact e
      rcases List.mem_cons.1 ((h y).2 (List.mem_cons_self ..)) with e2 | e2
      · exact e2.symm
      have h1 := hb.1 x e
      have h2 := ha.1 y e2
      omega
    subst hxy
    congr 1
    refine strict_ext a b ha.2 hb.2 fun z => ⟨fun hz => ?_, fun hz => ?_⟩
    · rcases List.mem_cons.1 ((h z).1 (List.mem_cons_of_mem _ hz)) with e | e
      · have := ha.1 z hz; omega
      · exact e
    · rcases List.mem_cons.1 ((h z).2 (List.mem_cons_of_mem _ hz)) with e | e
      · have := hb.1 z hz; omega
      · exact e
theorem compactUp (d : Array Int) (hd : ∀ i j, i ≤ j → j < d.size → d[i]! ≤ d[j]!) : ∀ m, m ≤ d.size → (Lib.compactUpTo d m).Pairwise (· < ·) ∧ ∀ x, x ∈ Lib.compactUpTo d m ↔ ∃ j, j < m ∧ d[j]! = x
  | 0, _ => by
    refine ⟨by simp [Lib.compactUpTo], fun x => ?_⟩
    simp [Lib.compactUpTo]
  | m + 1, hm => by
    obtain ⟨h1, h2⟩ := compactUp d hd m (by omega)
    rw [Lib.compactUpTo_succ]
    by_cases hk : m = 0 ∨ d[m]! ≠ d[m - 1]!
    · have e : Lib.keeps d m = true := decide_eq_true hk
      rw [if_pos e]
      refine ⟨List.pairwise_append.2 ⟨h1, by simp, fun x hx y hy => ?_⟩, fun x => ?_⟩
      · obtain rfl := List.mem_singleton.1 hy
        obtain ⟨j, hj, rfl⟩ := (h2 x).1 hx
        have l1 := hd j (m - 1) (by omega) (by omega)
        have l2 := hd (m - 1) m (by omega) (by omega)
        rcases hk with h0 | hne
        · omega
        · omega
      · rw [List.mem_append, h2]
        constructor
        · rintro (⟨j, hj, e⟩ | e)
          · exact ⟨j, by omega, e⟩
          · exact ⟨m, by omega, (List.mem_singleton.1 e).symm⟩
        · rintro ⟨j, hj, ex⟩
          rcases Nat.lt_or_ge j m with h | h
          · exact .inl ⟨j, h, ex⟩
          · have hjm : j = m := by omega
            rw [hjm] at ex
            exact .inr (List.mem_singleton.2 ex.symm)
    · have e : ¬ Lib.keeps d m = true := fun h => hk (of_decide_eq_true h)
      rw [if_neg e, List.append_nil]
      refine ⟨h1, fun x => ?_⟩
      rw [h2]
      have hm0 : m ≠ 0 := fun h => hk (.inl h)
      have heq : d[m]! = d[m - 1]! := by
        rcases Int.lt_trichotomy d[m]! d[m - 1]! with h | h | h
        · exact absurd (.inr (by omega)) hk
        · exact h
        · exact absurd (.inr (by omega)) hk
      constructor
      · rintro ⟨j, hj, e⟩; exact ⟨j, by omega, e⟩
      · rintro ⟨j, hj, ex⟩
        rcases Nat.lt_or_ge j m with h | h
        · exact ⟨j, h, ex⟩
        · have hjm : j = m := by omega
          rw [hjm] at ex
          exact ⟨m - 1, by omega, by rw [← heq]; exact ex⟩
theorem compact_sort (L b : List Int) (hb : b.Pairwise (· < ·)) (h : ∀ x, x ∈ L ↔ x ∈ b) : Lib.compact (L.mergeSort fun x y => decide (x ≤ y)) = b := by
  have hs := List.pairwise_mergeSort (le := fun (x y : Int) => decide (x ≤ y)) (fun a b c h1 h2 => decide_eq_true (Int.le_trans (of_decide_eq_true h1) (of_decide_eq_true h2))) (fun a b => by by_cases h : a ≤ b <;> simp [h] <;> omega) L
  have hmem : ∀ x, x ∈ L.mergeSort (fun x y => decide (x ≤ y)) ↔ x ∈ L := fun x => List.mem_mergeSort
  generalize L.mergeSort (fun x y => decide (x ≤ y)) = S at hs hmem
  have hg : ∀ i, (hi : i < S.length) → S.toArray[i]! = S[i] := fun i hi => by simp [hi]
  obtain ⟨c1, c2⟩ := compactUp S.toArray (fun i j hij hj => by
    have hj' : j < S.length := by simpa using hj
    rw [hg i (by omega), hg j hj']
    rcases Nat.lt_or_eq_of_le hij with h1 | h1
    · exact of_decide_eq_true (List.pairwise_iff_getElem.1 hs i j (by omega) hj' h1)
    · subst h1; exact Int.le_refl _) S.length (by simp)
  refine strict_ext _ b c1 hb fun x => ?_
  show x ∈ Lib.compactUpTo S.toArray S.length ↔ x ∈ b
  rw [c2, ← h, ← hmem]
  constructor
  · rintro ⟨j, hj, e⟩
    rw [hg j hj] at e
    exact e ▸ List.getElem_mem hj
  · intro hx
    obtain ⟨j, hj, e⟩ := List.getElem_of_mem hx
    exact ⟨j, hj, by rw [hg j hj]; exact e⟩
/-- the numbers that the pieces of a field tell -/
def fieldGo (lo hi : Int) : List ByteArray → List Int → Option (List Int)
  | [], acc => some acc
  | p :: ps, acc => match pieceV p lo hi with
    | none => none
    | some v => fieldGo lo hi ps (acc ++ impl_parseField.nums v.1 v.2.1 v.2.2)
def allI (lo hi : Int) : List Int := (List.range (hi - lo + 1).toNat).map fun i : Nat => lo + (i : Int)
/-- of lo .. hi those that are in L -/
def pickI (lo hi : Int) (L : List Int) : List Int := (allI lo hi).filter fun x => decide (x ∈ L)
def fieldV (p : ByteArray) (lo hi : Int) : List Int × Bool := match fieldGo lo hi ((splitL 44 [] (bs p)).map mkS) [] with
  | none => ([], false)
  | some L => (pickI lo hi L, true)
theorem allI_mem (lo hi x : Int) : x ∈ allI lo hi ↔ lo ≤ x ∧ x ≤ hi := by
  unfold allI
  rw [List.mem_map]
  constructor
  · rintro ⟨i, hi, rfl⟩
    have := List.mem_range.1 hi
    omega
  · rintro ⟨h1, h2⟩
    exact ⟨(x - lo).toNat, List.mem_range.2 (by omega), by omega⟩
theorem allI_strict (lo hi : Int) : (allI lo hi).Pairwise (· < ·) := by
  unfold allI
  rw [List.pairwise_map]
  exact List.Pairwise.imp (fun h => by omega) List.pairwise_lt_range
theorem pickI_strict (lo hi : Int) (L : List Int) : (pickI lo hi L).Pairwise (· < ·) := List.Pairwise.filter _ (allI_strict lo hi)
theorem pickI_mem (lo hi : Int) (L : List Int) (x : Int) : x ∈ pickI lo hi L ↔ x ∈ L ∧ lo ≤ x ∧ x ≤ hi := by
  unfold pickI
  rw [List.mem_filter, allI_mem]
  simp [and_comm]
theorem steps_mem : ∀ (m : Nat) (a b s x : Int), 1 ≤ s → x ∈ impl_parseField.steps m a b s → a ≤ x ∧ x ≤ b
  | 0, a, b, s, x, _, h => by simp [impl_parseField.steps] at h
  | m + 1, a, b, s, x, hs, h => by
    unfold impl_parseField.steps at h
    by_cases hab : a ≤ b
    · rw [if_pos hab] at h
      rcases List.mem_cons.1 h with rfl | h
      · omega
      · have := steps_mem m (a + s) b s x hs h; omega
    · rw [if_neg hab] at h; simp at h
theorem steps_len : ∀ (m : Nat) (a b s : Int), (impl_parseField.steps m a b s).length ≤ m
  | 0, a, b, s => by simp [impl_parseField.steps]
  | m + 1, a, b, s => by
    unfold impl_parseField.steps
    by_cases hab : a ≤ b
    · rw [if_pos hab, List.length_cons]
      have := steps_len m (a + s) b s; omega
    · rw [if_neg hab]; simp
theorem nums_ne (a b s : Int) (h : a ≤ b) : impl_parseField.nums a b s ≠ [] := by
  unfold impl_parseField.nums
  obtain ⟨m, hm⟩ : ∃ m, (b - a + 1).toNat = m + 1 := ⟨(b - a).toNat, by omega⟩
  rw [hm, impl_parseField.steps, if_pos h]
  simp
theorem fieldGo_all {lo hi : Int} (hlo : lo ≤ hi) : ∀ (ps : List ByteArray) (acc L : List Int), fieldGo lo hi ps acc = some L → (∀ x ∈ acc, lo ≤ x ∧ x ≤ hi) → (∀ x ∈ L, lo ≤ x ∧ x ≤ hi) ∧ (acc ≠ [] ∨ ps ≠ [] → L ≠ [])
  | [], acc, L, h, ha => by
    simp only [fieldGo] at h
    obtain rfl := Option.some.inj h
    exact ⟨ha, fun h => h.elim id (fun h => absurd rfl h)⟩
  | p :: ps, acc, L, h, ha => by
    simp only [fieldGo] at h
    cases hp : pieceV p lo hi with
    | none => rw [hp] at h; cases h
    | some v =>
      rw [hp] at h
      obtain ⟨v1, v2, v3, v4, v5⟩ := pieceV_ok hlo hp
      obtain ⟨r1, r2⟩ := fieldGo_all hlo ps _ L h (fun x hx => by
        rcases List.mem_append.1 hx with hx | hx
        · exact ha x hx
        · have := steps_mem _ _ _ _ x v4 hx
          omega)
      exact ⟨r1, fun _ => r2 (.inl (by simp [nums_ne _ _ _ v2]))⟩
theorem impl_go {lo hi : Int} (hlo : lo ≤ hi) (h0 : 0 ≤ lo) (h1 : hi < 100) : ∀ (ps : List ByteArray) (acc : List Int), (∀ p ∈ ps, p.size ≤ 1048576) → acc.length + 100 * ps.length ≤ 1000000000 →
    Ev (fun k => impl_parseField.go k lo hi ps acc) (fieldGo lo hi ps acc)
  | [], acc, _, _ => ev_some rfl
  | p :: ps, acc, hps, hl => by
    simp only [impl_parseField.go, fieldGo]
    obtain ⟨t, ht, hr⟩ := impl_piece p (hps p (List.mem_cons_self ..)) lo hi
    refine ev_bind ht ?_
    rw [List.length_cons] at hl
    cases hp : pieceV p lo hi with
    | none =>
      rw [hp] at hr
      have hr' : t.2.2.2 = false := hr
      exact ev_else (by rw [hr']; simp) (ev_some rfl)
    | some v =>
      rw [hp] at hr
      obtain ⟨v1, v2, v3, v4, v5⟩ := pieceV_ok hlo hp
      have hr' : t = (v.1, v.2.1, v.2.2, true) := hr
      subst hr'
      have hf : impl_parseField.fine (v.1, v.2.1, v.2.2, true) acc = true := by
        unfold impl_parseField.fine
        simp only [Bool.and_eq_true, decide_eq_true_eq]
        refine ⟨⟨⟨⟨⟨?_, ?_⟩, ?_⟩, ?_⟩, ?_⟩, ?_⟩ <;> omega
      have hn : (impl_parseField.nums v.1 v.2.1 v.2.2).length ≤ 100 := by
        have := steps_len (v.2.1 - v.1 + 1).toNat v.1 v.2.1 v.2.2
        unfold impl_parseField.nums
        omega
      refine ev_if rfl (ev_if hf ?_)
      exact impl_go hlo h0 h1 ps _ (fun q hq => hps q (List.mem_cons_of_mem _ hq)) (by show (acc ++ impl_parseField.nums v.1 v.2.1 v.2.2).length + _ ≤ _; rw [List.length_append]; omega)
theorem pieces_small (p : ByteArray) (hp : p.size ≤ 1048576) (c : UInt8) : ∀ q ∈ (splitL c [] (bs p)).map mkS, q.size ≤ 1048576 := by
  have key : ∀ (l cur : List UInt8), ∀ x ∈ splitL c cur l, x.length ≤ cur.length + l.length := by
    intro l
    induction l with
    | nil => intro cur x hx; simp [splitL] at hx; subst hx; simp
    | cons b l ih =>
      intro cur x hx
      rw [splitL] at hx
      by_cases hb : b = c
      · rw [if_pos hb] at hx
        rcases List.mem_cons.1 hx with rfl | hx
        · simp
        · have := ih [] x hx
          simp only [List.length_cons, List.length_nil] at this ⊢
          omega
      · rw [if_neg hb] at hx
        have := ih _ x hx
        rw [List.length_append, List.length_singleton] at this
        simp only [List.length_cons]
        omega
  intro q hq
  obtain ⟨x, hx, rfl⟩ := List.mem_map.1 hq
  have h1 := key (bs p) [] x hx
  rw [bs_len] at h1
  have h2 := bs_len (mkS x)
  rw [bs_mk] at h2
  simp at h1
  omega
theorem impl_parseField_f (p : ByteArray) (hp : p.size ≤ 1048576) (i lo hi : Int) (hb : impl_bounds.f i = some (lo, hi)) (hlo : lo ≤ hi) (h0 : 0 ≤ lo) (h1 : hi < 100) : Ev (fun k => impl_parseField.f k p i) (fieldV p lo hi) := by
  unfold impl_parseField.f fieldV
  have hi1 : ∀ s : ByteArray, Lib.indexB s ⟨#[44]⟩ = Lib.indexByte (bs s) 44 := fun s => Lib.one s ⟨#[44]⟩ rfl
  have hs : strings_Split.f p ⟨#[44]⟩ = some ((splitL 44 [] (bs p)).map mkS) := by
    rw [← split_pieces ⟨#[44]⟩ 44 rfl hi1 p.size p (Nat.le_refl _)]
    exact if_pos ⟨by omega, by decide⟩
  have hl := splitL_len 44 (bs p) []
  rw [bs_len] at hl
  refine ev_bind0 hb (ev_bind0 hs (ev_bind (impl_go hlo h0 h1 _ [] (pieces_small p hp 44) (by rw [List.length_map]; simp; omega)) ?_))
  cases hg : fieldGo lo hi ((splitL 44 [] (bs p)).map mkS) [] with
  | none => exact ev_some rfl
  | some L =>
    obtain ⟨a1, a2⟩ := fieldGo_all hlo _ [] L hg (by simp)
    have hne : L ≠ [] := a2 (.inr (fun e => by
      have h3 := congrArg List.length e
      rw [List.length_map, List.length_nil] at h3
      omega))
    refine ev_some ?_
    show (if L.length = 0 then none else some (Lib.compact (L.mergeSort fun x y => decide (x ≤ y)), true)) = some (pickI lo hi L, true)
    rw [if_neg (fun e => hne (List.eq_nil_of_length_eq_zero e))]
    rw [compact_sort L (pickI lo hi L) (pickI_strict lo hi L) (fun x => by rw [pickI_mem]; exact ⟨fun h => ⟨h, a1 x h⟩, fun h => h.1⟩)]
/-- the table of what is told -/
def tabl (hi : Int) (acc : List Int) : List Bool := (List.range (hi + 1).toNat).map fun i : Nat => decide ((i : Int) ∈ acc)
theorem tabl_len (hi : Int) (acc : List Int) : (tabl hi acc).length = (hi + 1).toNat := by simp [tabl]
theorem tabl_get (hi : Int) (acc : List Int) (x : Int) (h0 : 0 ≤ x) (h1 : x ≤ hi) : rdOf false (tabl hi acc) x = decide (x ∈ acc) := by
  unfold rdOf
  have h : x.toNat < (tabl hi acc).length := by rw [tabl_len]; omega
  rw [List.getD_eq_getElem?_getD, List.getElem?_eq_getElem h]
  simp only [tabl, Option.getD_some, List.getElem_map, List.getElem_range]
  rw [Int.toNat_of_nonneg h0]
theorem tabl_set (hi : Int) (acc : List Int) (x : Int) (h0 : 0 ≤ x) (h1 : x ≤ hi) : (tabl hi acc).set x.toNat true = tabl hi (acc ++ [x]) := by
  apply List.ext_getElem
  · rw [List.length_set, tabl_len, tabl_len]
  · intro i h2 h3
    rw [List.length_set, tabl_len] at h2
    rw [List.getElem_set]
    simp only [tabl, List.getElem_map, List.getElem_range, List.mem_append, List.mem_singleton]
    by_cases e : x.toNat = i
    · rw [if_pos e, decide_eq_true (.inr (by omega))]
    · rw [if_neg e]
      exact decide_eq_decide.2 ⟨fun h => .inl h, fun h => h.elim id (fun h => absurd h (by omega))⟩
theorem tabl_nil (hi : Int) : List.replicate (hi + 1).toNat false = tabl hi [] := by
  apply List.ext_getElem
  · simp [tabl]
  · intro i h1 h2
    simp [tabl]
theorem spec_field_l1 {lo hi : Int} (h0 : 0 ≤ lo) (h1 : hi < 100) (ps : List ByteArray) (i : Int) (b s : Int) (hb : b ≤ hi) (hs : 1 ≤ s) (hs2 : s ≤ 1000000000) (r : List Int × Bool) : ∀ (m : Nat) (x : Int) (acc : List Int), lo ≤ x → (b - x + 1).toNat ≤ m → x ≤ 10000000000 →
    Ev (fun k => spec_l10Field.l0 k lo hi (tabl hi (acc ++ impl_parseField.steps m x b s)) ps (wrap64 (i + 1))) r → Ev (fun k => spec_l10Field.l1 k lo hi (tabl hi acc) ps i b s x) r := by
  intro m
  induction m with
  | zero =>
    intro x acc hx hm hx2 h
    refine ev_succ ?_
    simp only [spec_l10Field.l1]
    refine ev_else (by omega) ?_
    simpa [impl_parseField.steps] using h
  | succ m ih =>
    intro x acc hx hm hx2 h
    refine ev_succ ?_
    simp only [spec_l10Field.l1]
    by_cases hxb : x ≤ b
    · have e : wrap64 (x + s) = x + s := wid (by omega) (by omega)
      refine ev_if hxb (ev_if (by omega) (ev_if (by rw [tabl_len]; omega) ?_))
      rw [tabl_set hi acc x (by omega) (by omega), e]
      clear e
      rw [impl_parseField.steps, if_pos hxb] at h
      exact ih (x + s) (acc ++ [x]) (by omega) (by omega) (by omega) (by simpa using h)
    · refine ev_else hxb ?_
      rw [impl_parseField.steps, if_neg hxb, List.append_nil] at h
      exact h
theorem spec_field_l2 {lo hi : Int} (h0 : 0 ≤ lo) (h1 : hi < 100) (acc : List Int) : ∀ (d : Nat) (x : Int) (out : List Int), lo ≤ x → x + (d : Int) = hi + 1 → out.length ≤ 1000 - d →
    Ev (fun k => spec_l10Field.l2 k hi (tabl hi acc) out x) (out ++ ((List.range d).map fun i : Nat => x + (i : Int)).filter (fun y => decide (y ∈ acc)), true) := by
  intro d
  induction d with
  | zero =>
    intro x out hx hd ho
    refine ev_succ ?_
    simp only [spec_l10Field.l2]
    refine ev_else (by omega) (ev_some ?_)
    simp
  | succ d ih =>
    intro x out hx hd ho
    refine ev_succ ?_
    simp only [spec_l10Field.l2]
    have e : wrap64 (x + 1) = x + 1 := wid (by omega) (by omega)
    rw [e, tabl_get hi acc x (by omega) (by omega)]
    clear e
    refine ev_if (by omega) (ev_if (by omega) (ev_if (by rw [tabl_len]; omega) ?_))
    have hr : (List.range (d + 1)).map (fun i : Nat => x + (i : Int)) = x :: (List.range d).map (fun i : Nat => x + 1 + (i : Int)) := by
      rw [List.range_succ_eq_map, List.map_cons, List.map_map]
      congr 1
      · simp
      · refine List.map_congr_left fun i _ => ?_
        simp only [Function.comp]
        omega
    rw [hr]
    by_cases hm : x ∈ acc
    · rw [List.filter_cons_of_pos (by simpa using hm)]
      refine ev_if (decide_eq_true hm) (ev_if (by omega) ?_)
      refine ev_eq (ih (x + 1) (out ++ [x]) (by omega) (by omega) (by rw [List.length_append, List.length_singleton]; omega)) ?_
      simp
    · rw [List.filter_cons_of_neg (by simpa using hm)]
      exact ev_else (by simpa using hm) (ih (x + 1) out (by omega) (by omega) (by omega))
theorem spec_field_l0 {lo hi : Int} (hlo : lo ≤ hi) (h0 : 0 ≤ lo) (h1 : hi < 100) (T : List ByteArray) (hT : T.length ≤ 10000000) (hps : ∀ p ∈ T, p.size ≤ 1048576) : ∀ (d i : Nat) (acc : List Int), i + d = T.length →
    Ev (fun k => spec_l10Field.l0 k lo hi (tabl hi acc) T (i : Int)) (match fieldGo lo hi (T.drop i) acc with | none => ([], false) | some L => (pickI lo hi L, true)) := by
  intro d
  induction d with
  | zero =>
    intro i acc hid
    refine ev_succ ?_
    simp only [spec_l10Field.l0]
    refine ev_else (by omega) ?_
    rw [drop_end T i (by omega)]
    refine ev_eq (spec_field_l2 h0 h1 acc (hi + 1 - lo).toNat lo [] (Int.le_refl _) (by omega) (by simp)) ?_
    simp only [fieldGo, pickI, allI, List.nil_append]
    rw [show hi + 1 - lo = hi - lo + 1 by omega]
  | succ d ih =>
    intro i acc hid
    have hlt : i < T.length := by omega
    have hget : rdOf ByteArray.empty T (i : Int) = T.getD i ByteArray.empty := rfl
    have hdr := drop_getD T ByteArray.empty i hlt
    have hmem : T.getD i ByteArray.empty ∈ T := by
      rw [List.getD_eq_getElem?_getD, List.getElem?_eq_getElem hlt]
      exact List.getElem_mem hlt
    refine ev_succ ?_
    simp only [spec_l10Field.l0]
    rw [hget, hdr]
    generalize T.getD i ByteArray.empty = p at hmem
    refine ev_if (by omega) (ev_if (by omega) ?_)
    obtain ⟨t, ht, hr⟩ := spec_piece p (hps p hmem) lo hi
    refine ev_bind ht ?_
    simp only [fieldGo]
    cases hp : pieceV p lo hi with
    | none =>
      rw [hp] at hr
      have hr' : t.2.2.2 = false := hr
      exact ev_else (by rw [hr']; simp) (ev_some rfl)
    | some v =>
      rw [hp] at hr
      obtain ⟨v1, v2, v3, v4, v5⟩ := pieceV_ok hlo hp
      have hr' : t = (v.1, v.2.1, v.2.2, true) := hr
      subst hr'
      refine ev_if rfl ?_
      refine spec_field_l1 h0 h1 T (i : Int) v.2.1 v.2.2 v3 v4 v5 _ (v.2.1 - v.1 + 1).toNat v.1 acc v1 (Nat.le_refl _) (by omega) ?_
      rw [succ_i i (by omega)]
      exact ih (i + 1) _ (by omega)
theorem spec_l10Field_f (p : ByteArray) (hp : p.size ≤ 1048576) (lo hi : Int) (hlo : lo ≤ hi) (h0 : 0 ≤ lo) (h1 : hi < 100) : Ev (fun k => spec_l10Field.f k p lo hi) (fieldV p lo hi) := by
  unfold spec_l10Field.f fieldV
  have e : wrap64 (hi + 1) = hi + 1 := wid (by omega) (by omega)
  rw [e, tabl_nil]
  clear e
  have hsp := spec_l10Split_f p hp 44
  have e44 : (((44 : UInt8)).toNat : Int) = 44 := rfl
  rw [e44] at hsp
  clear e44
  have hl := splitL_len 44 (bs p) []
  rw [bs_len] at hl
  refine ev_if (by omega) (ev_if (by omega) (ev_bind hsp ?_))
  exact spec_field_l0 hlo h0 h1 _ (by rw [List.length_map]; omega) (pieces_small p hp 44) _ 0 [] (Nat.zero_add _)
theorem spec_parts_end (s : ByteArray) (hs : s.size ≤ 600) (out : List ByteArray) (b : Int) : Ev (fun k => spec_PartsOf.l0 k s out b ((s.size + 1 : Nat) : Int)) (lineR out) := by
  refine ev_succ ?_
  simp only [spec_PartsOf.l0]
  refine ev_else (by omega) ?_
  by_cases h : (out.length : Int) > 10
  · rw [show lineR out = ([], false) from if_pos h]; exact ev_if h (ev_some rfl)
  · rw [show lineR out = (out, true) from if_neg h]; exact ev_else h (ev_some rfl)
theorem mk_cur (s : ByteArray) (b i : Nat) (hi : i ≤ s.size) : s.extract b i = mkS (((bs s).take i).drop b) := by
  apply bs_inj
  rw [bs_extract]
  rfl
theorem cur_nil (s : ByteArray) (b i : Nat) (hi : i ≤ s.size) : ((bs s).take i).drop b = [] ↔ i ≤ b := by
  rw [List.drop_eq_nil_iff, List.length_take, bs_len]
  omega
theorem spec_parts_l0 (s : ByteArray) (hs : s.size ≤ 600) : ∀ (l : List UInt8) (i b : Nat) (out : List ByteArray), (bs s).drop i = l → b ≤ i → i ≤ s.size → out.length ≤ i →
    Ev (fun k => spec_PartsOf.l0 k s out (b : Int) (i : Int)) (if l.all okB = true then lineR (out ++ (wordsL (((bs s).take i).drop b) l).map mkS) else ([], false)) := by
  intro l
  induction l with
  | nil =>
    intro i b out hl hb hi ho
    have hend : i = s.size := by
      have := congrArg List.length hl
      rw [List.length_drop, bs_len] at this
      simp at this
      omega
    have hn := cur_nil s b i hi
    have hm := mk_cur s b i hi
    rw [if_pos (by simp)]
    generalize hc : ((bs s).take i).drop b = cur at hn hm
    have s1 : wrap64 ((i : Int) + 1) = ((s.size + 1 : Nat) : Int) := wrap_to (by omega) (by omega) (by omega)
    have hend2 : Ev (fun k => spec_PartsOf.j2 k s out (b : Int) (i : Int) false) (lineR (out ++ (wordsL cur []).map mkS)) := by
      refine ev_succ ?_
      simp only [spec_PartsOf.j2]
      refine ev_else (by simp) ?_
      rw [s1]
      clear s1
      by_cases hbi : b < i
      · refine ev_if (by omega) (ev_if (by omega) (ev_if (by omega) (ev_if (by omega) (ev_if (by omega) ?_))))
        have e : s.extract ((b : Int)).toNat ((i : Int)).toNat = mkS cur := hm
        have hne : ¬ cur = [] := fun h => by have := hn.1 h; omega
        rw [e]
        refine ev_eq (spec_parts_end s hs (out ++ [mkS cur]) _) ?_
        simp [wordsL, hne]
      · refine ev_else (by omega) ?_
        have hne : cur = [] := hn.2 (by omega)
        refine ev_eq (spec_parts_end s hs out _) ?_
        simp [wordsL, hne]
    clear s1
    refine ev_succ ?_
    simp only [spec_PartsOf.l0]
    refine ev_if (by omega) (ev_else (by omega) (ev_succ ?_))
    simp only [spec_PartsOf.j1]
    exact ev_else (by simp) (ev_else (by omega) hend2)
  | cons x l ih =>
    intro i b out hl hb hi ho
    obtain ⟨hlt, hx, hdr, htk⟩ := bs_at s i x l hl
    have hn := cur_nil s b i hi
    have hm := mk_cur s b i hi
    have hbt : bt s (i : Int) = (x.toNat : Int) := hx
    have q1 : (i : Int) + 1 = ((i + 1 : Nat) : Int) ∧ -9223372036854775808 ≤ ((i + 1 : Nat) : Int) ∧ ((i + 1 : Nat) : Int) ≤ 9223372036854775807 := by omega
    have bad : okB x = false → Ev (fun k => spec_PartsOf.l0 k s out (b : Int) (i : Int)) ([], false) := by
      intro hk
      have hk2 : x.toNat < 32 ∨ 126 < x.toNat := by
        unfold okB at hk
        simp at hk
        omega
      have hj : Ev (fun k => spec_PartsOf.j1 k s out (b : Int) (i : Int) true) ([], false) := by
        refine ev_succ ?_
        simp only [spec_PartsOf.j1]
        exact ev_if trivial (ev_some rfl)
      refine ev_succ ?_
      simp only [spec_PartsOf.l0]
      rw [hbt]
      refine ev_if (by omega) (ev_if (by omega) (ev_if (by omega) ?_))
      by_cases h32 : (x.toNat : Int) < 32
      · exact ev_if h32 hj
      · refine ev_else h32 ?_
        rw [decide_eq_true (show (x.toNat : Int) > 126 by omega)]
        exact hj
    cases hk : okB x with
    | false =>
      rw [if_neg (by simp [hk])]
      exact bad hk
    | true =>
      have hk2 : 32 ≤ x.toNat ∧ x.toNat ≤ 126 := by
        unfold okB at hk
        simpa using hk
      have hall : (x :: l).all okB = l.all okB := by simp [hk]
      rw [hall]
      have first : ∀ r, Ev (fun k => spec_PartsOf.j2 k s out (b : Int) (i : Int) ((x.toNat : Int) != 32)) r → Ev (fun k => spec_PartsOf.l0 k s out (b : Int) (i : Int)) r := by
        intro r hr
        refine ev_succ ?_
        simp only [spec_PartsOf.l0]
        rw [hbt]
        refine ev_if (by omega) (ev_if (by omega) (ev_if (by omega) (ev_else (by omega) ?_)))
        rw [decide_eq_false (show ¬ (x.toNat : Int) > 126 by omega)]
        refine ev_succ ?_
        simp only [spec_PartsOf.j1]
        rw [hbt]
        exact ev_else (by simp) (ev_if (by omega) (ev_if (by omega) hr))
      refine first _ ?_
      by_cases h32 : x = 32
      · subst h32
        have hfalse : (((32 : UInt8).toNat : Int) != 32) = false := rfl
        rw [hfalse]
        have ihn := fun out' ho' => ih (i + 1) (i + 1) out' hdr (Nat.le_refl _) (by omega) ho'
        have ecur : ((bs s).take (i + 1)).drop (i + 1) = [] := (cur_nil s (i + 1) (i + 1) (by omega)).2 (Nat.le_refl _)
        rw [ecur] at ihn
        generalize hc : ((bs s).take i).drop b = cur at hn hm ⊢
        have hw : wordsL cur (32 :: l) = (if cur = [] then [] else [cur]) ++ wordsL [] l := by rw [wordsL, if_pos rfl]
        rw [hw]
        have s1 : wrap64 ((i : Int) + 1) = ((i + 1 : Nat) : Int) := wrap_to q1.1 q1.2.1 q1.2.2
        refine ev_succ ?_
        simp only [spec_PartsOf.j2]
        refine ev_else (by simp) ?_
        rw [s1]
        clear s1
        by_cases hbi : b < i
        · refine ev_if (by omega) (ev_if (by omega) (ev_if (by omega) (ev_if (by omega) (ev_if (by omega) ?_))))
          have e : s.extract ((b : Int)).toNat ((i : Int)).toNat = mkS cur := hm
          have hne : ¬ cur = [] := fun h => by have := hn.1 h; omega
          rw [e]
          refine ev_eq (ihn (out ++ [mkS cur]) (by rw [List.length_append, List.length_singleton]; omega)) ?_
          rw [if_neg hne]
          simp
        · refine ev_else (by omega) ?_
          have hne : cur = [] := hn.2 (by omega)
          refine ev_eq (ihn out (by omega)) ?_
          rw [if_pos hne]
          simp
      · have htrue : ((x.toNat : Int) != 32) = true := by
          simp only [bne_iff_ne, ne_eq]
          intro h
          apply h32
          apply UInt8.toNat_inj.1
          have : (32 : UInt8).toNat = 32 := rfl
          omega
        rw [htrue]
        have ihn := ih (i + 1) b out hdr (by omega) (by omega) (by omega)
        have ecur : ((bs s).take (i + 1)).drop b = ((bs s).take i).drop b ++ [x] := by
          rw [htk, List.drop_append_of_le_length (by rw [List.length_take, bs_len]; omega)]
        rw [ecur] at ihn
        have hw : wordsL (((bs s).take i).drop b) (x :: l) = wordsL (((bs s).take i).drop b ++ [x]) l := by rw [wordsL, if_neg h32]
        rw [hw]
        have s1 : wrap64 ((i : Int) + 1) = ((i + 1 : Nat) : Int) := wrap_to q1.1 q1.2.1 q1.2.2
        refine ev_succ ?_
        simp only [spec_PartsOf.j2]
        refine ev_if trivial ?_
        rw [s1]
        exact ihn
theorem spec_PartsOf_f (s : ByteArray) : Ev (fun k => spec_PartsOf.f k s) (partsV s) := by
  unfold spec_PartsOf.f partsV
  refine ev_bind0 rfl ?_
  by_cases h : (s.size : Int) > 600
  · rw [if_pos h]; exact ev_if h (ev_some rfl)
  · rw [if_neg h]
    refine ev_else h ?_
    refine ev_eq (spec_parts_l0 s (by omega) (bs s) 0 0 [] rfl (Nat.le_refl _) (by omega) (by simp)) ?_
    simp
def sp32 : ByteArray := ⟨#[32]⟩
def neB (p : ByteArray) : Bool := decide (p.toList ≠ [])
theorem toList_nil (p : ByteArray) : p.toList = [] ↔ bs p = [] := by rw [ByteArray.toList_eq]; rfl
theorem neB_one (a : List UInt8) : [mkS a].filter neB = (if a = [] then [] else [a]).map mkS := by
  have e : ((mkS a).toList = []) ↔ a = [] := toList_nil (mkS a)
  by_cases h : a = []
  · rw [if_pos h, List.filter_cons_of_neg (by simp [neB, e.2 h])]; rfl
  · rw [if_neg h, List.filter_cons_of_pos (by simp [neB, e, h])]; rfl
theorem not32 {l : List UInt8} (h : ∀ k : Nat, l[k]? ≠ some 32) : ∀ b ∈ l, b ≠ 32 := by
  intro b hb e
  obtain ⟨k, hk⟩ := List.mem_iff_getElem?.1 hb
  exact h k (by rw [hk, e])
theorem split_words : ∀ (n : Nat) (s : ByteArray), s.size ≤ n → (Lib.splitB sp32 0 (Lib.countB s sp32) s).filter neB = (wordsL [] (bs s)).map mkS := by
  have h1 : ∀ s, Lib.indexB s sp32 = Lib.indexByte (bs s) 32 := fun s => Lib.one s sp32 rfl
  intro n
  induction n with
  | zero =>
    intro s hs
    have hb : bs s = [] := List.eq_nil_of_length_eq_zero (by rw [bs_len]; omega)
    have hi : Lib.indexB s sp32 = -1 := by rw [h1, hb]; rfl
    rw [Lib.countB_miss s sp32 hi, Lib.splitB_zero, ← mkS_bs s, neB_one, bs_mk, hb]
    rfl
  | succ n ih =>
    intro s hs
    rcases Int.lt_or_le (Lib.indexB s sp32) 0 with hneg | hpos
    · have hge : -1 ≤ Lib.indexB s sp32 := by rw [h1]; exact Lib.indexByte_ge _ _
      have hi : Lib.indexB s sp32 = -1 := by omega
      have hno := not32 (Lib.indexByte_none (by rw [← h1]; exact hi))
      rw [Lib.countB_miss s sp32 hi, Lib.splitB_zero]
      have e := neB_one (bs s)
      rw [mkS_bs] at e
      rw [e, wordsL_end (bs s) [] hno]
      simp
    · obtain ⟨i, hi⟩ := Int.eq_ofNat_of_zero_le hpos
      obtain ⟨hat, hno⟩ := Lib.indexByte_some (l := bs s) (c := 32) (o := i) (by rw [← h1]; exact hi)
      have hlt : i < (bs s).length := (List.getElem?_eq_some_iff.1 hat).1
      have hget : (bs s)[i] = 32 := (List.getElem?_eq_some_iff.1 hat).2
      have hz : sp32.size = 1 := rfl
      have hdec : bs s = (bs s).take i ++ 32 :: (bs s).drop (i + 1) := by
        have := List.take_append_drop i (bs s)
        rw [List.drop_eq_getElem_cons hlt, hget] at this
        exact this.symm
      have hnoA : ∀ x ∈ (bs s).take i, x ≠ 32 := by
        refine not32 fun k => ?_
        rw [List.getElem?_take]
        by_cases hk : k < i
        · rw [if_pos hk]; exact hno k hk
        · rw [if_neg hk]; simp
      have hr : bs (s.extract (i + 1) s.size) = (bs s).drop (i + 1) := by
        rw [bs_extract, List.take_of_length_le (by rw [bs_len]; omega)]
      have hrs : (s.extract (i + 1) s.size).size ≤ n := by
        have e := congrArg List.length hr
        rw [bs_len, List.length_drop, bs_len] at e
        rw [bs_len] at hlt
        omega
      have step := ih (s.extract (i + 1) s.size) hrs
      have hf : s.extract 0 (i + 0) = mkS ((bs s).take i) := by
        apply bs_inj
        rw [bs_extract]
        rfl
      rw [Lib.countB_hit s sp32 i (by rw [hz]; omega) hi, hz, Nat.add_comm 1, Lib.splitB_hit sp32 0 _ s i hi, hz, hf]
      have e1 : ∀ (p : ByteArray) (T : List ByteArray), (p :: T).filter neB = [p].filter neB ++ T.filter neB := fun p T => by rw [← List.filter_append]; rfl
      rw [e1, neB_one, step, hr]
      conv => rhs; rw [hdec, wordsL_run _ _ _ hnoA]
      simp
theorem impl_parts_l1 (T : List ByteArray) (hT : T.length ≤ 1000) : ∀ (d j : Nat) (acc : List ByteArray), j + d = T.length → acc.length ≤ j →
    Ev (fun k => impl_PartsOf.l1 k acc T (T.length : Int) (j : Int)) (lineR (acc ++ (T.drop j).filter neB)) := by
  intro d
  induction d with
  | zero =>
    intro j acc hj ha
    refine ev_succ ?_
    simp only [impl_PartsOf.l1]
    refine ev_else (by omega) ?_
    rw [drop_end T j (by omega)]
    simp only [List.filter_nil, List.append_nil]
    by_cases h : (acc.length : Int) > 10
    · rw [show lineR acc = ([], false) from if_pos h]; exact ev_if h (ev_some rfl)
    · rw [show lineR acc = (acc, true) from if_neg h]; exact ev_else h (ev_some rfl)
  | succ d ih =>
    intro j acc hj ha
    have e : rdOf ByteArray.empty T (j : Int) = T.getD j ByteArray.empty := rfl
    have hs := succ_i j (by omega)
    have hdr := drop_getD T ByteArray.empty j (by omega)
    refine ev_succ ?_
    simp only [impl_PartsOf.l1]
    rw [e, hs, hdr]
    clear hs
    generalize T.getD j ByteArray.empty = p
    refine ev_if (by omega) (ev_if (by omega) (ev_if (by omega) ?_))
    by_cases h : p.toList = []
    · rw [List.filter_cons_of_neg (by simp [neB, h])]
      exact ev_if h (ih (j + 1) acc (by omega) (by omega))
    · rw [List.filter_cons_of_pos (by simp [neB, h])]
      refine ev_else h (ev_if (by omega) ?_)
      refine ev_eq (ih (j + 1) (acc ++ [p]) (by omega) (by rw [List.length_append, List.length_singleton]; omega)) ?_
      simp
theorem impl_parts_l0 (s : ByteArray) (hs : s.size ≤ 600) : ∀ (l : List UInt8) (i : Nat), (bs s).drop i = l → i ≤ s.size →
    Ev (fun k => impl_PartsOf.l0 k s (i : Int)) (if l.all okB = true then lineR ((wordsL [] (bs s)).map mkS) else ([], false)) := by
  intro l
  induction l with
  | nil =>
    intro i hl hi
    have hend : i = s.size := by
      have := congrArg List.length hl
      rw [List.length_drop, bs_len] at this
      simp at this
      omega
    have hlen : (Lib.splitB sp32 0 (Lib.countB s sp32) s).length = Lib.countB s sp32 + 1 := Lib.splitB_all sp32 (by decide) 0 _ s rfl
    have hcnt := Lib.countB_le sp32 (by decide) s.size s (Nat.le_refl _)
    have hsp : strings_Split.f s ⟨#[32]⟩ = some (Lib.splitB sp32 0 (Lib.countB s sp32) s) := if_pos ⟨by omega, by decide⟩
    rw [if_pos (by simp), ← split_words s.size s (Nat.le_refl _)]
    refine ev_succ ?_
    simp only [impl_PartsOf.l0]
    refine ev_else (by omega) (ev_bind0 hsp ?_)
    exact impl_parts_l1 (Lib.splitB sp32 0 (Lib.countB s sp32) s) (by rw [hlen]; omega) (Lib.splitB sp32 0 (Lib.countB s sp32) s).length 0 [] (by omega) (by simp)
  | cons x l ih =>
    intro i hl hi
    obtain ⟨hlt, hbt, hdr, _⟩ := bs_at s i x l hl
    have step := ih (i + 1) hdr (by omega)
    refine ev_succ ?_
    simp only [impl_PartsOf.l0]
    rw [hbt, succ_i i (by omega)]
    refine ev_if (by omega) (ev_if (by omega) ?_)
    cases hk : okB x with
    | false =>
      have hk2 : x.toNat < 32 ∨ 126 < x.toNat := by
        unfold okB at hk
        simp at hk
        omega
      rw [if_neg (by simp [hk])]
      by_cases h32 : (x.toNat : Int) < 32
      · exact ev_if h32 (ev_some rfl)
      · exact ev_else h32 (ev_if (by omega) (ev_some rfl))
    | true =>
      have hk2 : 32 ≤ x.toNat ∧ x.toNat ≤ 126 := by
        unfold okB at hk
        simpa using hk
      have hall : (x :: l).all okB = l.all okB := by simp [hk]
      rw [hall]
      exact ev_else (by omega) (ev_else (by omega) step)
theorem impl_PartsOf_f (s : ByteArray) : Ev (fun k => impl_PartsOf.f k s) (partsV s) := by
  unfold impl_PartsOf.f partsV
  by_cases h : (s.size : Int) > 600
  · rw [if_pos h]; exact ev_if h (ev_some rfl)
  · rw [if_neg h]
    exact ev_else h (impl_parts_l0 s (by omega) (bs s) 0 rfl (by omega))
def noCron : List Int × List Int × List Int × List Int × List Int × Bool := ([], [], [], [], [], false)
def cronL (p0 p1 p2 p3 p4 : ByteArray) : List Int × List Int × List Int × List Int × List Int × Bool :=
  if ([(fieldV p0 0 59).2, (fieldV p1 0 23).2, (fieldV p2 1 31).2, (fieldV p3 1 12).2, (fieldV p4 0 6).2].all id) = true then ((fieldV p0 0 59).1, (fieldV p1 0 23).1, (fieldV p2 1 31).1, (fieldV p3 1 12).1, (fieldV p4 0 6).1, true) else noCron
/-- the rule that a text tells -/
def cronV (s : ByteArray) : List Int × List Int × List Int × List Int × List Int × Bool := match partsV s with
  | ([p0, p1, p2, p3, p4], true) => cronL p0 p1 p2 p3 p4
  | _ => noCron
theorem wordsL_small : ∀ (l cur x : List UInt8), x ∈ wordsL cur l → x.length ≤ cur.length + l.length
  | [], cur, x, h => by
    simp only [wordsL] at h
    by_cases hc : cur = []
    · rw [if_pos hc] at h; simp at h
    · rw [if_neg hc] at h; simp at h; subst h; simp
  | b :: l, cur, x, h => by
    rw [wordsL] at h
    by_cases hb : b = 32
    · rw [if_pos hb] at h
      rcases List.mem_append.1 h with h | h
      · by_cases hc : cur = []
        · rw [if_pos hc] at h; simp at h
        · rw [if_neg hc] at h; simp at h; subst h; simp
      · have := wordsL_small l [] x h
        simp only [List.length_nil, List.length_cons] at this ⊢
        omega
    · rw [if_neg hb] at h
      have := wordsL_small l _ x h
      rw [List.length_append, List.length_singleton] at this
      simp only [List.length_cons]
      omega
theorem partsV_small (s : ByteArray) : ∀ p ∈ (partsV s).1, p.size ≤ 600 := by
  unfold partsV
  by_cases h : (s.size : Int) > 600
  · rw [if_pos h]; intro p hp; simp at hp
  rw [if_neg h]
  by_cases h2 : (bs s).all okB = true
  · rw [if_pos h2]
    unfold lineR
    split
    · intro p hp; simp at hp
    · intro p hp
      obtain ⟨x, hx, rfl⟩ := List.mem_map.1 hp
      have h1 := wordsL_small (bs s) [] x hx
      rw [bs_len] at h1
      have h3 := bs_len (mkS x)
      rw [bs_mk] at h3
      simp at h1
      omega
  · rw [if_neg h2]; intro p hp; simp at hp
theorem five {α : Type} (l : List α) (h : l.length = 5) : ∃ a b c d e, l = [a, b, c, d, e] := by
  match l, h with
  | [a, b, c, d, e], _ => exact ⟨a, b, c, d, e, rfl⟩
theorem impl_cron_step (i : Nat) (p : ByteArray) (ps : List ByteArray) (acc : List (List Int)) (lo hi : Int) (r : Option (List (List Int))) (hb : impl_bounds.f (i : Int) = some (lo, hi)) (h0 : lo ≤ hi) (h1 : 0 ≤ lo) (h2 : hi < 100) (hp : p.size ≤ 600)
    (h : Ev (fun k => if (fieldV p lo hi).2 = true then impl_ParseCron.go k (i + 1) ps (acc ++ [(fieldV p lo hi).1]) else some none) r) : Ev (fun k => impl_ParseCron.go k i (p :: ps) acc) r := by
  simp only [impl_ParseCron.go]
  exact ev_bind (impl_parseField_f p (by omega) (i : Int) lo hi hb h0 h1 h2) h
theorem impl_cron_go (p0 p1 p2 p3 p4 : ByteArray) (h0 : p0.size ≤ 600) (h1 : p1.size ≤ 600) (h2 : p2.size ≤ 600) (h3 : p3.size ≤ 600) (h4 : p4.size ≤ 600) :
    Ev (fun k => (impl_ParseCron.go k 0 [p0, p1, p2, p3, p4] []).bind impl_ParseCron.fin) (cronL p0 p1 p2 p3 p4) := by
  unfold cronL
  have no : ∀ b : Bool, b = false → ¬ b = true := fun b h => by rw [h]; simp
  have no2 : impl_ParseCron.fin none = some noCron := rfl
  have hfin : ∀ (o : Option (List (List Int))) (r), Ev (fun k => impl_ParseCron.go k 0 [p0, p1, p2, p3, p4] []) o → impl_ParseCron.fin o = some r → Ev (fun k => (impl_ParseCron.go k 0 [p0, p1, p2, p3, p4] []).bind impl_ParseCron.fin) r := fun o r h e => ev_bind h (ev_some e)
  cases e0 : (fieldV p0 0 59).2 with
  | false => exact hfin none _ (impl_cron_step 0 p0 _ _ 0 59 _ rfl (by omega) (by omega) (by omega) h0 (ev_else (no _ e0) (ev_some rfl))) (by simp; rfl)
  | true =>
  have s0 := fun r h => impl_cron_step 0 p0 [p1, p2, p3, p4] [] 0 59 r rfl (by omega) (by omega) (by omega) h0 (ev_if e0 h)
  cases e1 : (fieldV p1 0 23).2 with
  | false => exact hfin none _ (s0 _ (impl_cron_step 1 p1 _ _ 0 23 _ rfl (by omega) (by omega) (by omega) h1 (ev_else (no _ e1) (ev_some rfl)))) (by simp; rfl)
  | true =>
  have s1 := fun r h => s0 r (impl_cron_step 1 p1 [p2, p3, p4] _ 0 23 r rfl (by omega) (by omega) (by omega) h1 (ev_if e1 h))
  cases e2 : (fieldV p2 1 31).2 with
  | false => exact hfin none _ (s1 _ (impl_cron_step 2 p2 _ _ 1 31 _ rfl (by omega) (by omega) (by omega) h2 (ev_else (no _ e2) (ev_some rfl)))) (by simp; rfl)
  | true =>
  have s2 := fun r h => s1 r (impl_cron_step 2 p2 [p3, p4] _ 1 31 r rfl (by omega) (by omega) (by omega) h2 (ev_if e2 h))
  cases e3 : (fieldV p3 1 12).2 with
  | false => exact hfin none _ (s2 _ (impl_cron_step 3 p3 _ _ 1 12 _ rfl (by omega) (by omega) (by omega) h3 (ev_else (no _ e3) (ev_some rfl)))) (by simp; rfl)
  | true =>
  have s3 := fun r h => s2 r (impl_cron_step 3 p3 [p4] _ 1 12 r rfl (by omega) (by omega) (by omega) h3 (ev_if e3 h))
  cases e4 : (fieldV p4 0 6).2 with
  | false => exact hfin none _ (s3 _ (impl_cron_step 4 p4 _ _ 0 6 _ rfl (by omega) (by omega) (by omega) h4 (ev_else (no _ e4) (ev_some rfl)))) (by simp; rfl)
  | true => exact hfin _ _ (s3 _ (impl_cron_step 4 p4 [] _ 0 6 _ rfl (by omega) (by omega) (by omega) h4 (ev_if e4 (ev_some rfl)))) rfl
theorem impl_ParseCron_f (s : ByteArray) : Ev (fun k => impl_ParseCron.f k s) (cronV s) := by
  unfold impl_ParseCron.f cronV
  have hsm := partsV_small s
  refine ev_bind (impl_PartsOf_f s) ?_
  generalize partsV s = t at hsm
  obtain ⟨T, b⟩ := t
  dsimp only at hsm ⊢
  by_cases h : b = true ∧ T.length = 5
  · obtain ⟨rfl, hT⟩ := h
    obtain ⟨p0, p1, p2, p3, p4, rfl⟩ := five T hT
    exact ev_if ⟨rfl, rfl⟩ (impl_cron_go p0 p1 p2 p3 p4 (hsm p0 (by simp)) (hsm p1 (by simp)) (hsm p2 (by simp)) (hsm p3 (by simp)) (hsm p4 (by simp)))
  · refine ev_else h (ev_some ?_)
    split
    · rename_i e
      injection e with e1 e2
      subst e1 e2
      exact absurd ⟨rfl, rfl⟩ h
    · rfl
theorem spec_cron_l0 (B : List Bool) (hB : B.length = 5) (x0 x1 x2 x3 x4 : List Int) : ∀ (d i : Nat), i + d = 5 → Ev (fun k => spec_ParseCron.l0 k B (i : Int) x0 x1 x2 x3 x4) (if (B.drop i).all id = true then (x0, x1, x2, x3, x4, true) else noCron) := by
  intro d
  induction d with
  | zero =>
    intro i hi
    refine ev_succ ?_
    simp only [spec_ParseCron.l0]
    rw [drop_end B i (by omega)]
    exact ev_else (by omega) (ev_some rfl)
  | succ d ih =>
    intro i hi
    refine ev_succ ?_
    simp only [spec_ParseCron.l0]
    have e : rdOf false B (i : Int) = B.getD i false := rfl
    rw [e, drop_getD B false i (by omega), succ_i i (by omega)]
    refine ev_if (by omega) (ev_if (by omega) (ev_if (by omega) ?_))
    cases hb : B.getD i false with
    | false => exact ev_else (by simp) (ev_some rfl)
    | true => exact ev_if rfl (ev_eq (ih (i + 1) (by omega)) (by simp))
theorem spec_cron_j0 (p0 p1 p2 p3 p4 : ByteArray) (h0 : p0.size ≤ 600) (h1 : p1.size ≤ 600) (h2 : p2.size ≤ 600) (h3 : p3.size ≤ 600) (h4 : p4.size ≤ 600) :
    Ev (fun k => spec_ParseCron.j0 k [p0, p1, p2, p3, p4] false) (cronL p0 p1 p2 p3 p4) := by
  refine ev_succ ?_
  simp only [spec_ParseCron.j0]
  refine ev_else (by simp) (ev_if (by omega) (ev_bind0 rfl ?_))
  refine ev_if (by simp) (ev_bind (spec_l10Field_f p0 (by omega) 0 59 (by omega) (by omega) (by omega)) (ev_if (by simp) ?_))
  refine ev_if (by simp) (ev_bind (spec_l10Field_f p1 (by omega) 0 23 (by omega) (by omega) (by omega)) (ev_if (by simp) ?_))
  refine ev_if (by simp) (ev_bind (spec_l10Field_f p2 (by omega) 1 31 (by omega) (by omega) (by omega)) (ev_if (by simp) ?_))
  refine ev_if (by simp) (ev_bind (spec_l10Field_f p3 (by omega) 1 12 (by omega) (by omega) (by omega)) (ev_if (by simp) ?_))
  refine ev_if (by simp) (ev_bind (spec_l10Field_f p4 (by omega) 0 6 (by omega) (by omega) (by omega)) (ev_if (by simp) ?_))
  exact spec_cron_l0 [(fieldV p0 0 59).2, (fieldV p1 0 23).2, (fieldV p2 1 31).2, (fieldV p3 1 12).2, (fieldV p4 0 6).2] rfl _ _ _ _ _ 5 0 rfl
theorem spec_ParseCron_f (s : ByteArray) : Ev (fun k => spec_ParseCron.f k s) (cronV s) := by
  unfold spec_ParseCron.f cronV
  have hsm := partsV_small s
  refine ev_bind (spec_PartsOf_f s) ?_
  generalize partsV s = t at hsm
  obtain ⟨T, b⟩ := t
  dsimp only at hsm ⊢
  have bad : Ev (fun k => spec_ParseCron.j0 k T true) noCron := by
    refine ev_succ ?_
    simp only [spec_ParseCron.j0]
    exact ev_if trivial (ev_some rfl)
  by_cases h : b = true ∧ T.length = 5
  · obtain ⟨rfl, hT⟩ := h
    obtain ⟨p0, p1, p2, p3, p4, rfl⟩ := five T hT
    refine ev_if rfl ?_
    exact spec_cron_j0 p0 p1 p2 p3 p4 (hsm p0 (by simp)) (hsm p1 (by simp)) (hsm p2 (by simp)) (hsm p3 (by simp)) (hsm p4 (by simp))
  · have hr : (match (T, b) with | ([p0, p1, p2, p3, p4], true) => cronL p0 p1 p2 p3 p4 | _ => noCron) = noCron := by
      split
      · rename_i e
        injection e with e1 e2
        subst e1 e2
        exact absurd ⟨rfl, rfl⟩ h
      · rfl
    refine ev_eq ?_ hr.symm
    by_cases hb : b = true
    · refine ev_if hb ?_
      have : ((T.length : Int) != 5) = true := by
        simp only [bne_iff_ne, ne_eq]
        intro e
        exact h ⟨hb, by omega⟩
      rw [this]
      exact bad
    · exact ev_else hb bad
theorem pickI_len (lo hi : Int) (L : List Int) (h : hi - lo < 100) : (pickI lo hi L).length ≤ 100 := by
  unfold pickI
  refine Nat.le_trans (List.length_filter_le _ _) ?_
  unfold allI
  rw [List.length_map, List.length_range]
  omega
theorem fieldV_len (p : ByteArray) (lo hi : Int) (h : hi - lo < 100) : (fieldV p lo hi).1.length ≤ 100 := by
  unfold fieldV
  split
  · simp
  · exact pickI_len _ _ _ h
theorem cronV_len (s : ByteArray) : (cronV s).1.length ≤ 100 ∧ (cronV s).2.1.length ≤ 100 ∧ (cronV s).2.2.1.length ≤ 100 ∧ (cronV s).2.2.2.1.length ≤ 100 ∧ (cronV s).2.2.2.2.1.length ≤ 100 := by
  unfold cronV
  split
  · unfold cronL
    split
    · exact ⟨fieldV_len _ _ _ (by omega), fieldV_len _ _ _ (by omega), fieldV_len _ _ _ (by omega), fieldV_len _ _ _ (by omega), fieldV_len _ _ _ (by omega)⟩
    · exact ⟨by simp [noCron], by simp [noCron], by simp [noCron], by simp [noCron], by simp [noCron]⟩
  · exact ⟨by simp [noCron], by simp [noCron], by simp [noCron], by simp [noCron], by simp [noCron]⟩
theorem laws_eqIntS_l0 (a b : List Int) (hl : a.length ≤ 35184372088832) (hab : a.length = b.length) : ∀ (d i : Nat), i + d = a.length →
    Ev (fun k => laws_eqIntS.l0 k a b (i : Int)) (decide (a.drop i = b.drop i)) := by
  intro d
  induction d with
  | zero =>
    intro i hi
    refine ev_succ ?_
    simp only [laws_eqIntS.l0]
    refine ev_else (by omega) (ev_some ?_)
    rw [drop_end a i (by omega), drop_end b i (by omega)]
    simp
  | succ d ih =>
    intro i hi
    refine ev_succ ?_
    simp only [laws_eqIntS.l0]
    refine ev_if (by omega) (ev_if (by omega) (ev_if (by omega) ?_))
    rw [rd_nat, rd_nat, drop_getD a 0 i (by omega), drop_getD b 0 i (by omega), succ_i i (by omega)]
    by_cases h : a.getD i 0 = b.getD i 0
    · refine ev_if h (ev_eq (ih (i + 1) (by omega)) ?_)
      rw [h]; simp
    · refine ev_else h (ev_some ?_)
      have : ¬ (a.getD i 0 :: a.drop (i + 1) = b.getD i 0 :: b.drop (i + 1)) := fun e => h (List.cons.inj e).1
      simp only [decide_eq_false this]
theorem laws_eqIntS_f (a b : List Int) (hl : a.length ≤ 35184372088832) : Ev (fun k => laws_eqIntS.f k a b) (decide (a = b)) := by
  unfold laws_eqIntS.f
  by_cases h : a.length = b.length
  · refine ev_if (by omega) ?_
    have := laws_eqIntS_l0 a b hl h a.length 0 (by omega)
    simpa using this
  · refine ev_else (by omega) (ev_some ?_)
    have : ¬ a = b := fun e => h (by rw [e])
    simp [this]
def markI (m : Int) (n : Nat) : List Int := (List.range n).map fun i : Nat => m + (i : Int)
theorem markI_length (m : Int) (n : Nat) : (markI m n).length = n := by simp [markI]
theorem markI_getD (m : Int) (n i : Nat) (h : i < n) : (markI m n).getD i 0 = m + (i : Int) := by
  have h' : i < (markI m n).length := by rw [markI_length]; exact h
  rw [List.getD_eq_getElem?_getD, List.getElem?_eq_getElem h']
  simp [markI]
theorem markI_set (m : Int) (l : List Int) (i : Nat) (h : i < l.length) : (markI m i ++ l.drop i).set i (m + (i : Int)) = markI m (i + 1) ++ l.drop (i + 1) := by
  rw [List.set_append_right _ _ (by rw [markI_length]; omega), markI_length, Nat.sub_self, drop_getD l 0 i h, List.set_cons_zero]
  simp [markI, List.range_succ]
theorem laws_markIntS_l0' (l : List Int) (m : Int) (hl : l.length ≤ 1099511627776) (h0 : 0 ≤ m) (h1 : m ≤ 1099511627776) : ∀ (d i : Nat), i + d = l.length →
    Ev (fun k => laws_markIntS.l0 k (markI m i ++ l.drop i) (m + (i : Int)) (i : Int)) (m + (l.length : Int), markI m l.length) := by
  intro d
  induction d with
  | zero =>
    intro i hi
    have e : i = l.length := by omega
    refine ev_succ ?_
    simp only [laws_markIntS.l0]
    refine ev_else (by rw [List.length_append, markI_length, List.length_drop]; omega) (ev_some ?_)
    rw [drop_end l i (by omega), e]
    simp
  | succ d ih =>
    intro i hi
    refine ev_succ ?_
    simp only [laws_markIntS.l0]
    refine ev_if (by rw [List.length_append, markI_length, List.length_drop]; omega) (ev_if (by omega) ?_)
    rw [succ_i i (by omega), wrap_to (x := m + (i : Int) + 1) (y := m + ((i + 1 : Nat) : Int)) (by omega) (by omega) (by omega), toNat_nat, markI_set m l i (by omega)]
    exact ih (i + 1) (by omega)
theorem laws_markIntS_f' (l : List Int) (m : Int) (hl : l.length ≤ 1099511627776) (h0 : 0 ≤ m) (h1 : m ≤ 1099511627776) : Ev (fun k => laws_markIntS.f k l m) (m + (l.length : Int), markI m l.length) := by
  have := laws_markIntS_l0' l m hl h0 h1 l.length 0 (by omega)
  simpa [laws_markIntS.f, markI] using this
theorem laws_heldIntS_l0 (m : Int) (n : Nat) (hl : n ≤ 1099511627776) (h0 : 0 ≤ m) (h1 : m ≤ 1099511627776) : ∀ (d i : Nat), i + d = n →
    Ev (fun k => laws_heldIntS.l0 k (markI m n) (m + (i : Int)) (i : Int)) (m + (n : Int)) := by
  intro d
  induction d with
  | zero =>
    intro i hi
    refine ev_succ ?_
    simp only [laws_heldIntS.l0]
    refine ev_else (by rw [markI_length]; omega) (ev_some ?_)
    rw [show i = n by omega]
  | succ d ih =>
    intro i hi
    refine ev_succ ?_
    simp only [laws_heldIntS.l0]
    refine ev_if (by rw [markI_length]; omega) (ev_if (by omega) (ev_if ?_ ?_))
    · rw [rd_nat, markI_getD m n i (by omega)]
    rw [succ_i i (by omega), wrap_to (x := m + (i : Int) + 1) (y := m + ((i + 1 : Nat) : Int)) (by omega) (by omega) (by omega)]
    exact ih (i + 1) (by omega)
theorem laws_heldIntS_f (m : Int) (n : Nat) (hl : n ≤ 1099511627776) (h0 : 0 ≤ m) (h1 : m ≤ 1099511627776) : Ev (fun k => laws_heldIntS.f k (markI m n) m) (m + (n : Int)) := by
  have := laws_heldIntS_l0 m n hl h0 h1 n 0 (by omega)
  simpa [laws_heldIntS.f] using this
/-! a rule compared with itself; marks laid into its lists and found again -/
theorem laws_eqCron_f (l0 l1 l2 l3 l4 : List Int) (h0 : l0.length ≤ 1048576) (h1 : l1.length ≤ 1048576) (h2 : l2.length ≤ 1048576) (h3 : l3.length ≤ 1048576) (h4 : l4.length ≤ 1048576) :
    Ev (fun k => laws_eqCron.f k l0 l1 l2 l3 l4 l0 l1 l2 l3 l4) true := by
  unfold laws_eqCron.f
  have e : ∀ l : List Int, l.length ≤ 1048576 → Ev (fun k => laws_eqIntS.f k l l) true := fun l hl => by
    have := laws_eqIntS_f l l (by omega)
    rwa [decide_eq_true rfl] at this
  exact ev_bind (e l0 h0) (ev_if rfl (ev_bind (e l1 h1) (ev_if rfl (ev_bind (e l2 h2) (ev_if rfl (ev_bind (e l3 h3) (ev_if rfl (ev_bind (e l4 h4) (ev_if rfl (ev_some rfl))))))))))
theorem mark_held_cron (l0 l1 l2 l3 l4 : List Int) (h0 : l0.length ≤ 1048576) (h1 : l1.length ≤ 1048576) (h2 : l2.length ≤ 1048576) (h3 : l3.length ≤ 1048576) (h4 : l4.length ≤ 1048576) :
    ∃ m, Ev (fun k => laws_markCron.f k l0 l1 l2 l3 l4 1) m ∧ 0 ≤ m.1 ∧ Ev (fun k => laws_heldCron.f k m.2.1 m.2.2.1 m.2.2.2.1 m.2.2.2.2.1 m.2.2.2.2.2 1) m.1 := by
  obtain ⟨m0, e0⟩ : ∃ m : Int, m = 1 := ⟨_, rfl⟩
  obtain ⟨m1, e1⟩ : ∃ m : Int, m = m0 + (l0.length : Int) := ⟨_, rfl⟩
  obtain ⟨m2, e2⟩ : ∃ m : Int, m = m1 + (l1.length : Int) := ⟨_, rfl⟩
  obtain ⟨m3, e3⟩ : ∃ m : Int, m = m2 + (l2.length : Int) := ⟨_, rfl⟩
  obtain ⟨m4, e4⟩ : ∃ m : Int, m = m3 + (l3.length : Int) := ⟨_, rfl⟩
  obtain ⟨m5, e5⟩ : ∃ m : Int, m = m4 + (l4.length : Int) := ⟨_, rfl⟩
  refine ⟨(m5, markI m0 l0.length, markI m1 l1.length, markI m2 l2.length, markI m3 l3.length, markI m4 l4.length), ?_, ?_, ?_⟩
  · unfold laws_markCron.f
    have a0 := laws_markIntS_f' l0 m0 (by omega) (by omega) (by omega)
    have a1 := laws_markIntS_f' l1 m1 (by omega) (by omega) (by omega)
    have a2 := laws_markIntS_f' l2 m2 (by omega) (by omega) (by omega)
    have a3 := laws_markIntS_f' l3 m3 (by omega) (by omega) (by omega)
    have a4 := laws_markIntS_f' l4 m4 (by omega) (by omega) (by omega)
    rw [← e1] at a0
    rw [← e2] at a1
    rw [← e3] at a2
    rw [← e4] at a3
    rw [← e5] at a4
    rw [← e0]
    exact ev_bind a0 (ev_bind a1 (ev_bind a2 (ev_bind a3 (ev_bind a4 (ev_some rfl)))))
  · show 0 ≤ m5
    omega
  · show Ev (fun k => laws_heldCron.f k (markI m0 l0.length) (markI m1 l1.length) (markI m2 l2.length) (markI m3 l3.length) (markI m4 l4.length) 1) m5
    unfold laws_heldCron.f
    have a0 := laws_heldIntS_f m0 l0.length (by omega) (by omega) (by omega)
    have a1 := laws_heldIntS_f m1 l1.length (by omega) (by omega) (by omega)
    have a2 := laws_heldIntS_f m2 l2.length (by omega) (by omega) (by omega)
    have a3 := laws_heldIntS_f m3 l3.length (by omega) (by omega) (by omega)
    have a4 := laws_heldIntS_f m4 l4.length (by omega) (by omega) (by omega)
    rw [← e1] at a0
    rw [← e2] at a1
    rw [← e3] at a2
    rw [← e4] at a3
    rw [← e5] at a4
    rw [← e0]
    exact ev_bind a0 (ev_else (by omega) (ev_bind a1 (ev_else (by omega) (ev_bind a2 (ev_else (by omega) (ev_bind a3 (ev_else (by omega) (ev_bind a4 (ev_else (by omega) (ev_some rfl))))))))))
theorem FnExactParseCron (a0 : ByteArray) : ∃ k, laws_FnExactParseCron.f k a0 = some true := by
  refine Ev.rounds ?_
  unfold laws_FnExactParseCron.f
  by_cases hbig : (a0.size : Int) > 1048576
  · exact ev_if hbig (ev_some rfl)
  refine ev_else hbig ?_
  have hs := spec_ParseCron_f a0
  have hm := impl_ParseCron_f a0
  obtain ⟨n0, n1, n2, n3, n4⟩ := cronV_len a0
  generalize cronV a0 = v at hs hm n0 n1 n2 n3 n4
  obtain ⟨l0, l1, l2, l3, l4, b⟩ := v
  dsimp only at n0 n1 n2 n3 n4
  have he := laws_eqCron_f l0 l1 l2 l3 l4 (by omega) (by omega) (by omega) (by omega) (by omega)
  obtain ⟨m, q1, q2, q3⟩ := mark_held_cron l0 l1 l2 l3 l4 (by omega) (by omega) (by omega) (by omega) (by omega)
  refine ev_bind hs (ev_bind hm (ev_bind he (ev_if rfl (ev_else (by simp) (ev_bind q1 (ev_bind q3 (ev_else (by omega) (ev_if rfl ?_))))))))
  exact ev_bind hm (ev_bind he (ev_if rfl (ev_else (by simp) (ev_bind q3 (ev_else (by omega) (ev_if rfl (ev_some rfl)))))))

end Go.Proofs.YthomiofokkkhgaaDoor.Pure
