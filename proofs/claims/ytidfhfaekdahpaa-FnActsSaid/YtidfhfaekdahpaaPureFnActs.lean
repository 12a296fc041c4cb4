/- Drawn acts, done one by one, leave what they leave all at once; what is added stands behind, what is dropped is gone. -/
import Derived.Test.YtidfhfaekdahpaaQFnActsx20
import Derived.Lib.ItoaMem
import Derived.Lib.ItoaLen
namespace Go.Proofs.Ytidfhfaekdahpaa.Pure
open Go.RowKit Go.Proofs.Ytidfhfaekdahpaa.QFnActs Go.Proofs.YtidfhfaekdahpaaW.PrintWords Go.Proofs.YtidfhfaekdahpaaW.PrintLast

set_option linter.unusedVariables false
set_option linter.unusedSimpArgs false
/-! small words on rounds -/
theorem wid {x : Int} (h0 : -9223372036854775808 ≤ x) (h1 : x ≤ 9223372036854775807) : wrap64 x = x := by
  unfold wrap64; omega
theorem wrap_to {x y : Int} (h : x = y) (h0 : -9223372036854775808 ≤ y) (h1 : y ≤ 9223372036854775807) : wrap64 x = y := by
  rw [h]; exact wid h0 h1
theorem ev_some {α : Type} {o : Option α} {r : α} (h : o = some r) : Ev (fun _ => o) r := ⟨0, fun _ _ => h⟩
theorem ev_succ {α : Type} {g : Nat → Option α} {r : α} (h : Ev (fun k => g (k + 1)) r) : Ev g r := Ev.step (fun _ => rfl) h
theorem ev_if {α : Type} {c : Prop} [Decidable c] {f g : Nat → Option α} {r : α} (h : c) (k : Ev f r) : Ev (fun n => if c then f n else g n) r := by
  simp only [if_pos h]; exact k
theorem ev_else {α : Type} {c : Prop} [Decidable c] {f g : Nat → Option α} {r : α} (h : ¬ c) (k : Ev g r) : Ev (fun n => if c then f n else g n) r := by
  simp only [if_neg h]; exact k
theorem ev_bind0 {α β : Type} {o : Option α} {f : Nat → α → Option β} {a : α} {r : β} (h : o = some a) (k : Ev (fun n => f n a) r) : Ev (fun n => o.bind (f n)) r := by
  subst h; exact k
theorem ev_bind {α β : Type} {g : Nat → Option α} {f : Nat → α → Option β} {a : α} {r : β} (h : Ev g a) (k : Ev (fun n => f n a) r) : Ev (fun n => (g n).bind (f n)) r := Ev.bind h k
theorem ev_eq {α : Type} {g : Nat → Option α} {a b : α} (h : Ev g a) (e : a = b) : Ev g b := e ▸ h
theorem tmodp {a b : Int} (h : 0 ≤ a) : Int.tmod a b = a % b := Int.tmod_eq_emod_of_nonneg h
theorem toList_iff (a b : ByteArray) : a.toList = b.toList ↔ a = b := by
  rw [ByteArray.toList_eq, ByteArray.toList_eq]
  exact ⟨fun h => ByteArray.ext (Array.toList_inj.mp h), fun h => by rw [h]⟩
theorem drop_getD {α : Type} (l : List α) (d : α) (i : Nat) (h : i < l.length) : l.drop i = l.getD i d :: l.drop (i + 1) := by
  rw [List.drop_eq_getElem_cons h, List.getD_eq_getElem?_getD, List.getElem?_eq_getElem h]
  rfl
theorem drop_end {α : Type} (l : List α) (i : Nat) (h : l.length ≤ i) : l.drop i = [] := List.drop_eq_nil_of_le h
theorem rd_nat (l : List Int) (i : Nat) : rd l (i : Int) = l.getD i 0 := rfl
theorem succ_i (i : Nat) (h : i ≤ 9223372036854775806) : wrap64 ((i : Int) + 1) = ((i + 1 : Nat) : Int) := wrap_to (by omega) (by omega) (by omega)
theorem pred_i (i : Nat) (h : 0 < i) (h' : i ≤ 9223372036854775806) : wrap64 ((i : Int) - 1) = ((i - 1 : Nat) : Int) := wrap_to (by omega) (by omega) (by omega)
/-! drawn numbers: only their ranges matter -/
theorem and255 (x : Int) : 0 ≤ Go.bits .and .i64 x 255 ∧ Go.bits .and .i64 x 255 ≤ 255 := by
  have h : ((BitVec.ofInt 64 x) &&& (BitVec.ofInt 64 255)).toNat ≤ 255 := by
    rw [BitVec.toNat_and]
    exact Nat.le_trans Nat.and_le_right (show (BitVec.ofInt 64 255).toNat ≤ 255 by decide)
  have e : Go.bits .and .i64 x 255 = IntKind.i64.wrap ((((BitVec.ofInt 64 x) &&& (BitVec.ofInt 64 255)).toNat : Nat) : Int) := rfl
  rw [e, IntKind.wrap_i64]
  omega
theorem spec_l01New_l0 (l : List Int) (hl : l.length ≤ 4611686018427387904) : ∀ (d i : Nat) (h : Int), i + d = l.length → ∃ h', Ev (fun k => spec_l01New.l0 k l h (i : Int)) (l, 0, h') := by
  intro d
  induction d with
  | zero =>
    intro i h hi
    refine ⟨h, ev_succ ?_⟩
    simp only [spec_l01New.l0]
    exact ev_else (by omega) (ev_some rfl)
  | succ d ih =>
    intro i h hi
    by_cases h4 : (i : Int) < 4000
    · obtain ⟨h', hh⟩ := ih (i + 1) (Go.bits .and .i64 (wrap64 ((wrap64 ((wrap64 (h * 131)) + (wrap64 (rd l (i : Int))))) + 7)) 1073741823) (by omega)
      refine ⟨h', ev_succ ?_⟩
      simp only [spec_l01New.l0]
      refine ev_if (by omega) (ev_if h4 (ev_if (by omega) ?_))
      rw [succ_i i (by omega)]
      exact hh
    · refine ⟨h, ev_succ ?_⟩
      simp only [spec_l01New.l0]
      exact ev_if (by omega) (ev_else h4 (ev_some rfl))
theorem spec_l01New_f (l : List Int) (hl : l.length ≤ 4611686018427387904) : ∃ h, Ev (fun k => spec_l01New.f k l) (l, 0, h) := by
  unfold spec_l01New.f
  exact spec_l01New_l0 l hl l.length 0 _ (by omega)
/-- what a draw gives: a number that q tells of, and a cursor that is right -/
def Drew (o : Option (Int × Int × Int)) (q : Int → Prop) : Prop := ∃ r i h, o = some (r, i, h) ∧ q r ∧ 0 ≤ i
theorem spec_l01Byte_f (l : List Int) (i h : Int) (hl : l.length ≤ 4611686018427387904) (hi : 0 ≤ i) : Drew (spec_l01Byte.f l i h) (fun r => 0 ≤ r ∧ r ≤ 255) := by
  unfold spec_l01Byte.f Drew
  by_cases h1 : i < (l.length : Int)
  · rw [if_pos h1, if_pos hi]
    refine ⟨_, _, _, rfl, and255 _, ?_⟩
    rw [wid (x := i + 1) (by omega) (by omega)]
    omega
  · rw [if_neg h1]
    exact ⟨_, _, _, rfl, and255 _, hi⟩
theorem spec_l01Below_f (l : List Int) (i h n : Int) (hl : l.length ≤ 4611686018427387904) (hi : 0 ≤ i) (hn : 0 < n) : Drew (spec_l01Below.f l i h n) (fun r => 0 ≤ r ∧ r < n) := by
  unfold spec_l01Below.f
  rw [if_neg (by omega)]
  by_cases h1 : n ≤ 256
  · rw [if_pos h1]
    obtain ⟨r, i', h', e, hr, hi'⟩ := spec_l01Byte_f l i h hl hi
    rw [e]
    simp only [Option.bind_some]
    rw [if_neg (by omega)]
    refine ⟨_, _, _, rfl, ?_, hi'⟩
    rw [tmodp (a := r) hr.1]
    have := Int.emod_lt_of_pos r hn
    have := Int.emod_nonneg r (show n ≠ 0 by omega)
    omega
  · rw [if_neg h1]
    obtain ⟨r1, i1, h1', e1, hr1, hi1⟩ := spec_l01Byte_f l i h hl hi
    obtain ⟨r2, i2, h2', e2, hr2, hi2⟩ := spec_l01Byte_f l i1 h1' hl hi1
    obtain ⟨r3, i3, h3', e3, hr3, hi3⟩ := spec_l01Byte_f l i2 h2' hl hi2
    obtain ⟨r4, i4, h4', e4, hr4, hi4⟩ := spec_l01Byte_f l i3 h3' hl hi3
    rw [e1]; simp only [Option.bind_some]
    rw [e2]; simp only [Option.bind_some]
    rw [e3]; simp only [Option.bind_some]
    rw [e4]; simp only [Option.bind_some]
    rw [if_neg (by omega)]
    refine ⟨_, _, _, rfl, ?_, hi4⟩
    rw [wid (x := r1 * 16777216) (by omega) (by omega), wid (x := r2 * 65536) (by omega) (by omega), wid (x := r3 * 256) (by omega) (by omega), wid (x := r1 * 16777216 + r2 * 65536) (by omega) (by omega), wid (x := r1 * 16777216 + r2 * 65536 + r3 * 256) (by omega) (by omega), wid (x := r1 * 16777216 + r2 * 65536 + r3 * 256 + r4) (by omega) (by omega)]
    rw [tmodp (a := r1 * 16777216 + r2 * 65536 + r3 * 256 + r4) (by omega)]
    have := Int.emod_lt_of_pos (r1 * 16777216 + r2 * 65536 + r3 * 256 + r4) hn
    have := Int.emod_nonneg (r1 * 16777216 + r2 * 65536 + r3 * 256 + r4) (show n ≠ 0 by omega)
    omega
theorem strOfNums_size (l : List Int) : (strOfNums l).size = l.length := by simp [strOfNums, ByteArray.size]
theorem spec_l01Text_l0 (l : List Int) (hl : l.length ≤ 4611686018427387904) (n : Int) (hn : n ≤ 5000) : ∀ (d i : Nat) (acc : List Int) (p h : Int), (i : Int) + d = n → acc.length = i → 0 ≤ p →
    ∃ r p' h', Ev (fun k => spec_l01Text.l0 k n acc (i : Int) l p h) (r, p', h') ∧ r.size ≤ 5000 ∧ 0 ≤ p' := by
  intro d
  induction d with
  | zero =>
    intro i acc p h hi ha hp
    refine ⟨strOfNums acc, p, h, ev_succ ?_, ?_, hp⟩
    · simp only [spec_l01Text.l0]
      exact ev_else (by omega) (ev_some rfl)
    · rw [strOfNums_size]; omega
  | succ d ih =>
    intro i acc p h hi ha hp
    obtain ⟨r, p1, h1, e, hr, hp1⟩ := spec_l01Byte_f l p h hl hp
    obtain ⟨r', p2, h2, hev, hsz, hp2⟩ := ih (i + 1) (acc ++ [r % 256]) p1 h1 (by omega) (by simp [ha]) hp1
    refine ⟨r', p2, h2, ev_succ ?_, hsz, hp2⟩
    simp only [spec_l01Text.l0]
    refine ev_if (by omega) (ev_bind0 e (ev_if (by omega) ?_))
    rw [succ_i i (by omega)]
    exact hev
theorem spec_l01Text_f (l : List Int) (hl : l.length ≤ 4611686018427387904) (p h n : Int) (hp : 0 ≤ p) (hn : 0 ≤ n) :
    ∃ r p' h', Ev (fun k => spec_l01Text.f k l p h n) (r, p', h') ∧ r.size ≤ 5000 ∧ 0 ≤ p' := by
  unfold spec_l01Text.f
  by_cases h5 : n > 5000
  · obtain ⟨r, p', h', e, a, b⟩ := spec_l01Text_l0 l hl 5000 (by omega) 5000 0 [] p h (by omega) rfl hp
    refine ⟨r, p', h', ev_if h5 (ev_succ ?_), a, b⟩
    simp only [spec_l01Text.j0]
    exact e
  · obtain ⟨r, p', h', e, a, b⟩ := spec_l01Text_l0 l hl n (by omega) n.toNat 0 [] p h (by omega) rfl hp
    refine ⟨r, p', h', ev_else h5 (ev_succ ?_), a, b⟩
    simp only [spec_l01Text.j0]
    exact e
theorem spec_l01Pick_f (l : List Int) (i h : Int) (m : List ByteArray) (hl : l.length ≤ 4611686018427387904) (hi : 0 ≤ i) (hm : 0 < m.length) : ∃ r i' h', spec_l01Pick.f l i h m = some (r, i', h') ∧ r ∈ m ∧ 0 ≤ i' := by
  unfold spec_l01Pick.f
  obtain ⟨r, i', h', e, hr, hi'⟩ := spec_l01Below_f l i h (m.length : Int) hl hi (by omega)
  rw [e]
  simp only [Option.bind_some]
  rw [if_pos hr.1, if_pos hr.2]
  refine ⟨_, _, _, rfl, ?_, hi'⟩
  obtain ⟨n, rfl⟩ := Int.eq_ofNat_of_zero_le hr.1
  show m.getD n _ ∈ m
  rw [List.getD_eq_getElem?_getD, List.getElem?_eq_getElem (by omega)]
  exact List.getElem_mem _
theorem spec_l03Named_f (l : List Int) (i h : Int) (hl : l.length ≤ 4611686018427387904) (hi : 0 ≤ i) : ∃ r i' h', spec_l03Named.f l i h = some (r, i', h') ∧ (1 ≤ r.size ∧ r.size ≤ 2) ∧ 0 ≤ i' := by
  unfold spec_l03Named.f
  obtain ⟨r, i', h', e, hr, hi'⟩ := spec_l01Pick_f l i h [(⟨#[97]⟩ : ByteArray), (⟨#[98]⟩ : ByteArray), (⟨#[99]⟩ : ByteArray), (⟨#[106, 48]⟩ : ByteArray), (⟨#[106, 49]⟩ : ByteArray), (⟨#[106, 43]⟩ : ByteArray), (⟨#[115, 48]⟩ : ByteArray), (⟨#[115, 43]⟩ : ByteArray)] hl hi (by decide)
  rw [e]
  refine ⟨r, i', h', rfl, ?_, hi'⟩
  simp only [List.mem_cons, List.not_mem_nil, or_false] at hr
  rcases hr with rfl | rfl | rfl | rfl | rfl | rfl | rfl | rfl <;> exact ⟨by decide, by decide⟩
theorem spec_l01PickInt_f (l : List Int) (i h : Int) (m : List Int) (hl : l.length ≤ 4611686018427387904) (hi : 0 ≤ i) (hm : 0 < m.length) : Drew (spec_l01PickInt.f l i h m) (fun r => r ∈ m) := by
  unfold spec_l01PickInt.f
  obtain ⟨r, i', h', e, hr, hi'⟩ := spec_l01Below_f l i h (m.length : Int) hl hi (by omega)
  rw [e]
  simp only [Option.bind_some]
  rw [if_pos hr.1, if_pos hr.2]
  refine ⟨_, _, _, rfl, ?_, hi'⟩
  obtain ⟨n, rfl⟩ := Int.eq_ofNat_of_zero_le hr.1
  rw [rd_nat, List.getD_eq_getElem?_getD, List.getElem?_eq_getElem (by omega)]
  exact List.getElem_mem _
theorem spec_l01Long_l0 (n : Nat) (v : Int) (hn : n ≤ 281474976710656) : ∀ (d i : Nat) (acc : List Int), i + d = n → acc.length = n → ∃ r, Ev (fun k => spec_l01Long.l0 k (n : Int) v acc (i : Int)) r := by
  intro d
  induction d with
  | zero =>
    intro i acc hi ha
    refine ⟨strOfNums acc, ev_succ ?_⟩
    simp only [spec_l01Long.l0]
    exact ev_else (by omega) (ev_some rfl)
  | succ d ih =>
    intro i acc hi ha
    obtain ⟨r, e⟩ := ih (i + 1) (acc.set i v) (by omega) (by simpa using ha)
    refine ⟨r, ev_succ ?_⟩
    simp only [spec_l01Long.l0]
    refine ev_if (by omega) (ev_if (by omega) (ev_if (by omega) ?_))
    rw [succ_i i (by omega)]
    exact e
theorem spec_l01Long_f (n : Int) (v : Int) (h0 : 0 ≤ n) (hn : n ≤ 281474976710656) : ∃ r, Ev (fun k => spec_l01Long.f k n v) r := by
  obtain ⟨m, rfl⟩ := Int.eq_ofNat_of_zero_le h0
  obtain ⟨r, e⟩ := spec_l01Long_l0 m v (by omega) m 0 (List.replicate m 0) (by omega) (by simp)
  refine ⟨r, ?_⟩
  unfold spec_l01Long.f
  refine ev_if (by omega) (ev_if (by omega) ?_)
  exact e
theorem str_cons (d : Nat) (h : d < 10) (s : List UInt8) : strOfNums [((48 + (d : Int))) % 256] ++ (⟨s.toArray⟩ : ByteArray) = ⟨(UInt8.ofNat (48 + d) :: s).toArray⟩ := by
  apply ByteArray.ext
  rw [ByteArray.data_append, ← Array.toList_inj]
  have e : ((48 + (d : Int)) % 256).toNat = 48 + d := by omega
  simp [strOfNums, e]
theorem dig_step (u : Nat) (h : u ≠ 0) : (if u = 0 then [] else Lib.decDigits u) = (if u / 10 = 0 then [] else Lib.decDigits (u / 10)) ++ [UInt8.ofNat (48 + u % 10)] := by
  rw [if_neg h]
  by_cases h10 : u < 10
  · rw [if_pos (by omega), Lib.decDigits_one h10, Nat.mod_eq_of_lt h10]; rfl
  · rw [if_neg (by omega)]
    conv => lhs; rw [Lib.decDigits, dif_neg h10]
theorem spec_Decimal_l0 (b : Bool) : ∀ (n u : Nat) (x : Int) (s : List UInt8), u < 10 ^ n → x.natAbs = u → -9223372036854775808 ≤ x → x ≤ 9223372036854775807 → s.length + n ≤ 1000 →
    Ev (fun k => spec_Decimal.l0 k x b ⟨s.toArray⟩) (if b = true then ⟨(45 :: ((if u = 0 then [] else Lib.decDigits u) ++ s)).toArray⟩ else ⟨((if u = 0 then [] else Lib.decDigits u) ++ s).toArray⟩) := by
  have fin : ∀ (s : List UInt8), s.length ≤ 1000 → Ev (fun k => spec_Decimal.l0 k 0 b ⟨s.toArray⟩) (if b = true then ⟨(45 :: s).toArray⟩ else ⟨s.toArray⟩) := by
    intro s hs
    refine ev_succ ?_
    simp only [spec_Decimal.l0]
    have hz : (⟨s.toArray⟩ : ByteArray).size = s.length := by simp [ByteArray.size]
    refine ev_if trivial ?_
    cases b with
    | true =>
      refine ev_if rfl (ev_if (by rw [hz]; omega) (ev_some (congrArg some ?_)))
      rw [if_pos rfl]
      apply ByteArray.ext
      rw [ByteArray.data_append, ← Array.toList_inj]
      simp
    | false => exact ev_else (by simp) (ev_some rfl)
  intro n
  induction n with
  | zero =>
    intro u x s hu hx _ _ hs
    have h0 : u = 0 := by simpa using hu
    subst h0
    obtain rfl : x = 0 := by omega
    simp only [if_pos, List.nil_append]
    exact fin s (by omega)
  | succ n ih =>
    intro u x s hu hx hx0 hx1 hs
    by_cases h0 : u = 0
    · subst h0
      obtain rfl : x = 0 := by omega
      simp only [if_pos, List.nil_append]
      exact fin s (by omega)
    · have hxne : x ≠ 0 := by omega
      have hq : (Int.tdiv x 10).natAbs = u / 10 := by rw [Int.natAbs_tdiv, hx]; rfl
      have hqr : -9223372036854775808 ≤ Int.tdiv x 10 ∧ Int.tdiv x 10 ≤ 9223372036854775807 := by omega
      have hw : wrap64 (Int.tdiv x 10) = Int.tdiv x 10 := wid hqr.1 hqr.2
      have hsz : ∀ z : Int, (strOfNums [z]).size = 1 := fun z => rfl
      have hz : (⟨s.toArray⟩ : ByteArray).size = s.length := by simp [ByteArray.size]
      have hm : (Int.tmod x 10).natAbs = u % 10 := by rw [Int.natAbs_tmod, hx]; rfl
      have step := ih (u / 10) (Int.tdiv x 10) (UInt8.ofNat (48 + u % 10) :: s) (by rw [Nat.pow_succ] at hu; omega) hq hqr.1 hqr.2 (by rw [List.length_cons]; omega)
      rw [dig_step u h0, List.append_assoc, List.singleton_append]
      refine ev_succ ?_
      simp only [spec_Decimal.l0]
      refine ev_else hxne ?_
      have fig : ∀ z : Int, z = ((u % 10 : Nat) : Int) → spec_l01Figure.f z = some ((48 + ((u % 10 : Nat) : Int)) % 256) := by
        intro z hz
        subst hz
        unfold spec_l01Figure.f
        rw [if_pos (by omega), wid (by omega) (by omega)]
      by_cases hneg : Int.tmod x 10 < 0
      · refine ev_if hneg (ev_bind0 (fig _ (by rw [wid (by omega) (by omega)]; omega)) (ev_bind0 rfl (ev_if (by rw [hsz, hz]; omega) ?_)))
        rw [hw, str_cons _ (Nat.mod_lt _ (by omega))]
        exact step
      · refine ev_else hneg (ev_bind0 (fig _ (by omega)) (ev_bind0 rfl (ev_if (by rw [hsz, hz]; omega) ?_)))
        rw [hw, str_cons _ (Nat.mod_lt _ (by omega))]
        exact step
theorem spec_Decimal_f (x : Int) (h0 : -9223372036854775808 ≤ x) (h1 : x ≤ 9223372036854775807) : Ev (fun k => spec_Decimal.f k x) ⟨(Lib.itoa x).toArray⟩ := by
  unfold spec_Decimal.f
  by_cases hz : x = 0
  · subst hz
    refine ev_if rfl (ev_some (congrArg some ?_))
    have : Lib.itoa 0 = [48] := by
      have := Lib.itoa_nonneg 0
      rw [Lib.decDigits_one (by omega)] at this
      exact this
    rw [this]
  · refine ev_else hz ?_
    have step := spec_Decimal_l0 (decide (x < 0)) 20 x.natAbs x [] (by omega) rfl h0 h1 (by simp)
    have hu : ¬ x.natAbs = 0 := by omega
    simp only [List.append_nil, if_neg hu] at step
    refine ev_eq step ?_
    unfold Lib.itoa
    by_cases hn : x < 0
    · rw [if_pos (decide_eq_true hn), if_pos hn]
    · rw [if_neg (by simpa using hn), if_neg hn]
      have : x.natAbs = x.toNat := by omega
      rw [this]
def fileOkB (f : S45) : Bool := decide (1 ≤ f.f0.size ∧ f.f0.size ≤ 8) && (decide (f.f1.size ≤ 20000) && decide (0 ≤ f.f2 ∧ f.f2 ≤ (f.f1.size : Int)))
def lessB (a b : ByteArray) : Bool := Op.bytesLess a.toList b.toList
def diskL : Option ByteArray → List S45 → Bool
  | _, [] => true
  | p, x :: xs => fileOkB x && ((match p with | none => true | some y => lessB y x.f0) && diskL (some x.f0) xs)
def prevF (l : List S45) (i : Nat) : Option ByteArray := if i = 0 then none else some (rd_T45 l ((i - 1 : Nat) : Int)).f0
def diskOkB (l : List S45) : Bool := decide (l.length ≤ 30) && diskL none l
theorem diskL_at (l : List S45) (i : Nat) (h : i < l.length) :
    diskL (prevF l i) (l.drop i) = (fileOkB (rd_T45 l (i : Int)) && ((if i = 0 then true else lessB (rd_T45 l ((i - 1 : Nat) : Int)).f0 (rd_T45 l (i : Int)).f0) && diskL (prevF l (i + 1)) (l.drop (i + 1)))) := by
  rw [drop_getD l z45 i h]
  have e : prevF l (i + 1) = some (l.getD i z45).f0 := by simp [prevF]; rfl
  rw [e]
  show diskL (prevF l i) (l.getD i z45 :: l.drop (i + 1)) = (fileOkB (l.getD i z45) && _)
  simp only [diskL, prevF]
  by_cases h0 : i = 0
  · subst h0; rfl
  · simp only [h0, if_false]; rfl
theorem bl_trans : ∀ (x y z : List UInt8), Op.bytesLess x y = true → Op.bytesLess y z = true → Op.bytesLess x z = true
  | _, _, [], _, h => by simp [Op.bytesLess] at h
  | _, [], _ :: _, h, _ => by simp [Op.bytesLess] at h
  | [], _ :: _, _ :: _, _, _ => by simp [Op.bytesLess]
  | a :: x, b :: y, c :: z, h, k => by
    have ih := bl_trans x y z
    simp only [Op.bytesLess, Bool.or_eq_true, decide_eq_true_eq, Bool.and_eq_true, beq_iff_eq, UInt8.lt_iff_toNat_lt] at h k ⊢
    rcases h with h | ⟨rfl, h⟩
    · rcases k with k | ⟨rfl, k⟩
      · left; omega
      · left; exact h
    · rcases k with k | ⟨rfl, k⟩
      · left; exact k
      · right; exact ⟨rfl, ih h k⟩
theorem bl_irrefl : ∀ x : List UInt8, Op.bytesLess x x = false
  | [] => by simp [Op.bytesLess]
  | a :: x => by simp [Op.bytesLess, bl_irrefl x]
theorem bl_tri (x y : List UInt8) (h : Op.bytesLess x y = false) (k : Op.bytesLess y x = false) : x = y := by
  have := Go.Proofs.YtidfhfaekdahpaaQWords.bl_conv x y
  rw [h, k] at this
  simpa using this
theorem lessB_trans {a b c : ByteArray} (h : lessB a b = true) (k : lessB b c = true) : lessB a c = true := bl_trans _ _ _ h k
theorem lessB_irrefl (a : ByteArray) : lessB a a = false := bl_irrefl _
theorem lessB_tri {a b : ByteArray} (h : lessB a b = false) (k : lessB b a = false) : a = b := (toList_iff a b).1 (bl_tri _ _ h k)
theorem lessB_asymm {a b : ByteArray} (h : lessB a b = true) : lessB b a = false := by
  cases k : lessB b a
  · rfl
  · exact absurd (lessB_trans h k) (by rw [lessB_irrefl]; simp)
theorem lessB_ne {a b : ByteArray} (h : lessB a b = true) : a ≠ b := by
  rintro rfl
  rw [lessB_irrefl] at h
  cases h
theorem diskL_all : ∀ (l : List S45) (p : Option ByteArray), diskL p l = true → ∀ x ∈ l, fileOkB x = true := by
  intro l
  induction l with
  | nil => intro p _ x hx; cases hx
  | cons y ys ih =>
    intro p h x hx
    simp only [diskL, Bool.and_eq_true] at h
    rcases List.mem_cons.1 hx with rfl | hx
    · exact h.1
    · exact ih _ h.2.2 x hx
theorem diskOk_all (l : List S45) (h : diskOkB l = true) : l.length ≤ 30 ∧ ∀ x ∈ l, (1 ≤ x.f0.size ∧ x.f0.size ≤ 8) ∧ x.f1.size ≤ 20000 ∧ 0 ≤ x.f2 ∧ x.f2 ≤ (x.f1.size : Int) := by
  simp only [diskOkB, Bool.and_eq_true, decide_eq_true_eq] at h
  refine ⟨h.1, fun x hx => ?_⟩
  have := diskL_all l none h.2 x hx
  simp only [fileOkB, Bool.and_eq_true, decide_eq_true_eq] at this
  exact this
def Srt (l : List S45) : Prop := l.Pairwise (fun x y => lessB x.f0 y.f0 = true)
theorem diskL_iff : ∀ (l : List S45) (p : Option ByteArray), diskL p l = true ↔ (∀ x ∈ l, fileOkB x = true) ∧ Srt l ∧ ∀ y, p = some y → ∀ x ∈ l, lessB y x.f0 = true := by
  intro l
  induction l with
  | nil => intro p; simp [diskL, Srt]
  | cons x xs ih =>
    intro p
    simp only [diskL, Bool.and_eq_true, ih, Srt, List.pairwise_cons]
    constructor
    · rintro ⟨h1, h2, h3, h4, h5⟩
      refine ⟨fun y hy => ?_, ⟨fun y hy => h5 _ rfl y hy, h4⟩, ?_⟩
      · rcases List.mem_cons.1 hy with rfl | hy
        · exact h1
        · exact h3 y hy
      · rintro y rfl z hz
        rcases List.mem_cons.1 hz with rfl | hz
        · exact h2
        · exact lessB_trans h2 (h5 _ rfl z hz)
    · rintro ⟨h1, ⟨h2, h3⟩, h4⟩
      refine ⟨h1 x (List.mem_cons_self ..), ?_, fun y hy => h1 y (List.mem_cons_of_mem _ hy), h3, ?_⟩
      · cases p with
        | none => rfl
        | some y => exact h4 y rfl x (List.mem_cons_self ..)
      · rintro y hy z hz
        injection hy with hy
        subst hy
        exact h2 z hz
theorem diskOk_iff (l : List S45) : diskOkB l = true ↔ l.length ≤ 30 ∧ (∀ x ∈ l, fileOkB x = true) ∧ Srt l := by
  simp only [diskOkB, Bool.and_eq_true, decide_eq_true_eq, diskL_iff]
  constructor
  · rintro ⟨a, b, c, _⟩; exact ⟨a, b, c⟩
  · rintro ⟨a, b, c⟩; exact ⟨a, b, c, fun y hy => by cases hy⟩
def putV (l : List S45) (f : S45) : List S45 := l.filter (fun x => lessB x.f0 f.f0) ++ [f] ++ l.filter (fun x => lessB f.f0 x.f0)
theorem putV_mem {l : List S45} {f x : S45} (h : x ∈ putV l f) : x = f ∨ x ∈ l := by
  simp only [putV, List.mem_append, List.mem_filter, List.mem_singleton] at h
  rcases h with (h | h) | h
  · exact .inr h.1
  · exact .inl h
  · exact .inr h.1
theorem putV_srt (l : List S45) (f : S45) (h : Srt l) : Srt (putV l f) := by
  unfold Srt putV
  rw [List.pairwise_append, List.pairwise_append]
  refine ⟨⟨h.sublist List.filter_sublist, List.pairwise_singleton .., ?_⟩, h.sublist List.filter_sublist, ?_⟩
  · intro a ha b hb
    simp only [List.mem_filter, List.mem_singleton] at ha hb
    rw [hb]
    exact ha.2
  · intro a ha b hb
    simp only [List.mem_append, List.mem_filter, List.mem_singleton] at ha hb
    rcases ha with ha | ha
    · exact lessB_trans ha.2 hb.2
    · rw [ha]
      exact hb.2
theorem putV_length (l : List S45) (f : S45) : (putV l f).length ≤ l.length + 1 := by
  have key : ∀ l : List S45, (l.filter (fun x => lessB x.f0 f.f0)).length + (l.filter (fun x => lessB f.f0 x.f0)).length ≤ l.length := by
    intro l
    induction l with
    | nil => simp
    | cons x xs ih =>
      simp only [List.filter_cons, List.length_cons]
      by_cases h : lessB x.f0 f.f0 = true
      · rw [if_pos h, if_neg (by rw [lessB_asymm h]; simp), List.length_cons]; omega
      · rw [if_neg h]
        split
        · rw [List.length_cons]; omega
        · omega
  have := key l
  simp only [putV, List.length_append, List.length_singleton]
  omega
theorem spec_l03Put_l1 (l : List S45) (a b : ByteArray) (c : Int) (hl : l.length ≤ 1048576) : ∀ (d i : Nat) (acc : List S45), i + d = l.length → acc.length + d ≤ 3518437208882 →
    Ev (fun k => spec_l03Put.l1 k (i : Int) l a b c acc) (acc ++ (l.drop i).filter (fun x => lessB a x.f0)) := by
  intro d
  induction d with
  | zero =>
    intro i acc hi ha
    refine ev_succ ?_
    simp only [spec_l03Put.l1]
    refine ev_else (by omega) (ev_some ?_)
    rw [drop_end l i (by omega)]
    simp
  | succ d ih =>
    intro i acc hi ha
    refine ev_succ ?_
    simp only [spec_l03Put.l1]
    refine ev_if (by omega) (ev_if (by omega) ?_)
    rw [drop_getD l z45 i (by omega), List.filter_cons, succ_i i (by omega)]
    have e : rd_T45 l (i : Int) = l.getD i z45 := rfl
    rw [e]
    by_cases h : lessB a (l.getD i z45).f0 = true
    · rw [if_pos h]
      refine ev_if h (ev_if (by omega) (ev_eq (ih (i + 1) _ (by omega) (by rw [List.length_append, List.length_singleton]; omega)) ?_))
      rw [List.append_assoc]
      rfl
    · rw [if_neg h]
      exact ev_else h (ih (i + 1) acc (by omega) (by omega))
theorem spec_l03Put_l0 (l : List S45) (a b : ByteArray) (c : Int) (hl : l.length ≤ 1048576) : ∀ (d i : Nat) (acc : List S45), i + d = l.length → acc.length + d ≤ 1048576 →
    Ev (fun k => spec_l03Put.l0 k (i : Int) l a b c acc) (acc ++ (l.drop i).filter (fun x => lessB x.f0 a) ++ [⟨a, b, c⟩] ++ l.filter (fun x => lessB a x.f0)) := by
  intro d
  induction d with
  | zero =>
    intro i acc hi ha
    refine ev_succ ?_
    simp only [spec_l03Put.l0]
    refine ev_else (by omega) (ev_if (by omega) ?_)
    have := spec_l03Put_l1 l a b c hl l.length 0 (acc ++ [⟨a, b, c⟩]) (by omega) (by rw [List.length_append, List.length_singleton]; omega)
    rw [List.drop_zero] at this
    rw [drop_end l i (by omega)]
    simpa using this
  | succ d ih =>
    intro i acc hi ha
    refine ev_succ ?_
    simp only [spec_l03Put.l0]
    refine ev_if (by omega) (ev_if (by omega) ?_)
    rw [drop_getD l z45 i (by omega), List.filter_cons, succ_i i (by omega)]
    have e : rd_T45 l (i : Int) = l.getD i z45 := rfl
    rw [e]
    by_cases h : lessB (l.getD i z45).f0 a = true
    · rw [if_pos h]
      refine ev_if h (ev_if (by omega) (ev_eq (ih (i + 1) _ (by omega) (by rw [List.length_append, List.length_singleton]; omega)) ?_))
      simp only [List.append_assoc]
      rfl
    · rw [if_neg h]
      exact ev_else h (ih (i + 1) acc (by omega) (by omega))
theorem spec_l03Put_f (l : List S45) (a b : ByteArray) (c : Int) (hl : l.length ≤ 1048576) : Ev (fun k => spec_l03Put.f k l a b c) (putV l ⟨a, b, c⟩) := by
  have := spec_l03Put_l0 l a b c hl l.length 0 [] (by omega) (by simpa using hl)
  unfold spec_l03Put.f putV
  rw [List.drop_zero] at this
  simpa using this
theorem impl_inRange_f (x a b : Int) : impl_inRange.f x a b = some (decide (a ≤ x ∧ x ≤ b)) := by
  unfold impl_inRange.f
  by_cases h1 : a ≤ x <;> by_cases h2 : x ≤ b <;> simp [h1, h2]
theorem impl_fileOk_f (f : S45) : impl_fileOk.f f.f0 f.f1 f.f2 = some (fileOkB f) := by
  unfold impl_fileOk.f fileOkB
  simp only [impl_inRange_f, Option.bind_some]
  by_cases h1 : 1 ≤ f.f0.size ∧ f.f0.size ≤ 8
  · have h1' : 1 ≤ (f.f0.size : Int) ∧ (f.f0.size : Int) ≤ 8 := by omega
    by_cases h2 : f.f1.size ≤ 20000
    · have h2' : (f.f1.size : Int) ≤ 20000 := by omega
      simp only [h1, h1', h2, h2', and_self, decide_true, if_true, Bool.true_and]
    · have h2' : ¬ (f.f1.size : Int) ≤ 20000 := by omega
      simp only [h1, h1', h2, h2', and_self, decide_true, decide_false, if_true, if_false, Bool.true_and, Bool.false_and]
  · have h1' : ¬ (1 ≤ (f.f0.size : Int) ∧ (f.f0.size : Int) ≤ 8) := by omega
    simp only [h1, h1', decide_false, Bool.false_and]
    rfl
theorem impl_DiskOk_l0 (l : List S45) (hl : l.length ≤ 4611686018427387904) : ∀ (d i : Nat), i + d = l.length →
    Ev (fun k => impl_DiskOk.l0 k l (l.length : Int) (i : Int) l) (decide (l.length ≤ 30) && diskL (prevF l i) (l.drop i)) := by
  intro d
  induction d with
  | zero =>
    intro i hi
    refine ev_succ ?_
    simp only [impl_DiskOk.l0]
    refine ev_else (by omega) (ev_some ?_)
    rw [drop_end l i (by omega)]
    have e : diskL (prevF l i) [] = true := by cases prevF l i <;> rfl
    rw [e, Bool.and_true]
    congr 1
    apply decide_eq_decide.2
    omega
  | succ d ih =>
    intro i hi
    refine ev_succ ?_
    simp only [impl_DiskOk.l0]
    refine ev_if (by omega) (ev_if (by omega) (ev_if (by omega) (ev_bind0 (impl_fileOk_f _) ?_)))
    rw [diskL_at l i (by omega), succ_i i (by omega)]
    by_cases hf : fileOkB (rd_T45 l (i : Int)) = true
    · refine ev_if hf ?_
      rw [hf, Bool.true_and]
      by_cases h0 : i = 0
      · refine ev_else (by omega) (ev_eq (ih (i + 1) (by omega)) ?_)
        rw [if_pos h0, Bool.true_and]
      · rw [pred_i i (by omega) (by omega), if_neg h0]
        refine ev_if (by omega) (ev_if (by omega) (ev_if (by omega) ?_))
        by_cases hb : lessB (rd_T45 l ((i - 1 : Nat) : Int)).f0 (rd_T45 l (i : Int)).f0 = true
        · refine ev_if hb (ev_eq (ih (i + 1) (by omega)) ?_)
          rw [hb, Bool.true_and]
        · refine ev_else hb (ev_some ?_)
          rw [Bool.eq_false_iff.2 hb, Bool.false_and, Bool.and_false]
    · refine ev_else hf (ev_some ?_)
      rw [Bool.eq_false_iff.2 hf, Bool.false_and, Bool.and_false]
theorem impl_DiskOk_f (l : List S45) (hl : l.length ≤ 4611686018427387904) : Ev (fun k => impl_DiskOk.f k l) (diskOkB l) := by
  have := impl_DiskOk_l0 l hl l.length 0 (by omega)
  unfold impl_DiskOk.f diskOkB
  rw [List.drop_zero] at this
  exact this
theorem pl_idx_cons (s : ByteArray) (x : S45) (xs : List S45) : impl_Disk_place.idx s (x :: xs) = if lessB x.f0 s = true then impl_Disk_place.idx s xs + 1 else 0 := rfl
theorem pl_has_cons (s : ByteArray) (x : S45) (xs : List S45) : impl_Disk_place.has s (x :: xs) = if lessB x.f0 s = true then impl_Disk_place.has s xs else decide (x.f0 = s) := by
  unfold impl_Disk_place.has
  rw [pl_idx_cons]
  by_cases h : lessB x.f0 s = true
  · rw [if_pos h, if_pos h, List.length_cons]
    congr 1
    apply decide_eq_decide.2
    omega
  · rw [if_neg h, if_neg h, List.length_cons, decide_eq_true (Nat.succ_pos _), Bool.true_and]
    show (x.f0.toList == s.toList) = decide (x.f0 = s)
    by_cases e : x.f0 = s
    · rw [e, decide_eq_true rfl]; simp
    · rw [decide_eq_false e]
      exact beq_eq_false_iff_ne.2 (fun h2 => e ((toList_iff _ _).1 h2))
theorem pl_lt {s : ByteArray} {l : List S45} (h : impl_Disk_place.has s l = true) : impl_Disk_place.idx s l < l.length := by
  rw [impl_Disk_place.has, Bool.and_eq_true] at h
  exact of_decide_eq_true h.1
theorem pl_name {s : ByteArray} {l : List S45} (h : impl_Disk_place.has s l = true) : (l.getD (impl_Disk_place.idx s l) z45).f0 = s := by
  rw [impl_Disk_place.has, Bool.and_eq_true] at h
  exact (toList_iff _ _).1 (eq_of_beq h.2)
theorem pl_mem {s : ByteArray} {l : List S45} (h : impl_Disk_place.has s l = true) : l.getD (impl_Disk_place.idx s l) z45 ∈ l := by
  have := pl_lt h
  rw [List.getD_eq_getElem?_getD, List.getElem?_eq_getElem this]
  exact List.getElem_mem _
theorem srt_cons {x : S45} {xs : List S45} : Srt (x :: xs) ↔ (∀ y ∈ xs, lessB x.f0 y.f0 = true) ∧ Srt xs := List.pairwise_cons
theorem putL_eq (f : S45) : ∀ (l : List S45), Srt l → impl_Disk_put.putL f l = putV l f := by
  intro l
  induction l with
  | nil => intro _; rfl
  | cons x xs ih =>
    intro hs
    obtain ⟨hx, hs⟩ := srt_cons.1 hs
    have ih := ih hs
    unfold impl_Disk_put.putL at ih ⊢
    rw [pl_has_cons, pl_idx_cons]
    unfold putV at ih ⊢
    rw [List.filter_cons, List.filter_cons]
    by_cases h : lessB x.f0 f.f0 = true
    · have h2 : ¬ lessB f.f0 x.f0 = true := by rw [lessB_asymm h]; simp
      rw [if_pos h, if_neg h2, if_pos h]
      simp only [if_pos h, List.cons_append]
      rw [← ih]
      split <;> simp
    · rw [if_neg h, if_neg h, if_neg h]
      have hl : xs.filter (fun y => lessB y.f0 f.f0) = [] := by
        rw [List.filter_eq_nil_iff]
        intro y hy hlt
        exact h (lessB_trans (hx y hy) hlt)
      rw [hl]
      by_cases e : x.f0 = f.f0
      · have hr : xs.filter (fun y => lessB f.f0 y.f0) = xs := by
          rw [List.filter_eq_self]
          intro y hy
          rw [← e]
          exact hx y hy
        rw [if_pos (by rw [decide_eq_true e]), if_neg (by rw [e, lessB_irrefl]; simp), hr]
        simp
      · have hgt : lessB f.f0 x.f0 = true := by
          cases hq : lessB f.f0 x.f0 with
          | true => rfl
          | false => exact absurd (lessB_tri (Bool.eq_false_iff.2 h) hq) e
        have hr : xs.filter (fun y => lessB f.f0 y.f0) = xs := by
          rw [List.filter_eq_self]
          intro y hy
          exact lessB_trans hgt (hx y hy)
        rw [if_neg (by rw [decide_eq_false e]; simp), if_pos hgt, hr]
        simp
def withoutV (l : List S45) (s : ByteArray) : List S45 := l.filter (fun x => !decide (x.f0 = s))
theorem erase_eq (s : ByteArray) : ∀ (l : List S45), Srt l → impl_Disk_place.has s l = true → l.eraseIdx (impl_Disk_place.idx s l) = withoutV l s := by
  intro l
  induction l with
  | nil => intro _ h; cases h
  | cons x xs ih =>
    intro hs hh
    obtain ⟨hx, hs⟩ := srt_cons.1 hs
    rw [pl_has_cons] at hh
    rw [pl_idx_cons]
    unfold withoutV at ih ⊢
    rw [List.filter_cons]
    by_cases h : lessB x.f0 s = true
    · rw [if_pos h] at hh
      rw [if_pos h, List.eraseIdx_cons_succ, ih hs hh, if_pos (by rw [decide_eq_false (lessB_ne h)]; rfl)]
    · rw [if_neg h] at hh
      have e := of_decide_eq_true hh
      rw [if_neg h, List.eraseIdx_cons_zero, if_neg (by rw [decide_eq_true e]; simp)]
      symm
      rw [List.filter_eq_self]
      intro y hy
      have : x.f0 ≠ y.f0 := lessB_ne (hx y hy)
      rw [decide_eq_false (fun e2 => this (by rw [e, e2]))]
      rfl
def atF (s : ByteArray) : List S45 → Nat → Int
  | [], _ => -1
  | x :: xs, i => if x.f0 = s then (i : Int) else atF s xs (i + 1)
theorem atF_none (s : ByteArray) : ∀ (l : List S45) (i : Nat), (∀ y ∈ l, y.f0 ≠ s) → atF s l i = -1 := by
  intro l
  induction l with
  | nil => intro _ _; rfl
  | cons x xs ih =>
    intro i h
    rw [atF, if_neg (h x (List.mem_cons_self ..))]
    exact ih _ (fun y hy => h y (List.mem_cons_of_mem _ hy))
theorem atF_eq (s : ByteArray) : ∀ (l : List S45) (i : Nat), Srt l → atF s l i = if impl_Disk_place.has s l = true then ((i + impl_Disk_place.idx s l : Nat) : Int) else -1 := by
  intro l
  induction l with
  | nil => intro _ _; rfl
  | cons x xs ih =>
    intro i hs
    obtain ⟨hx, hs⟩ := srt_cons.1 hs
    rw [pl_has_cons, pl_idx_cons, atF]
    by_cases h : lessB x.f0 s = true
    · rw [if_pos h, if_pos h, if_neg (lessB_ne h), ih (i + 1) hs]
      split
      · omega
      · rfl
    · rw [if_neg h, if_neg h]
      by_cases e : x.f0 = s
      · rw [if_pos e, decide_eq_true e, if_pos rfl]; simp
      · rw [if_neg e, decide_eq_false e, if_neg (by simp)]
        have hgt : lessB s x.f0 = true := by
          cases hq : lessB s x.f0 with
          | true => rfl
          | false => exact absurd (lessB_tri (Bool.eq_false_iff.2 h) hq) e
        exact atF_none s xs _ (fun y hy e2 => by
          have := lessB_trans hgt (hx y hy)
          rw [e2, lessB_irrefl] at this
          cases this)
theorem diskOk_put {l : List S45} {f : S45} (hs : Srt l) (ha : ∀ x ∈ l, fileOkB x = true) : diskOkB (putV l f) = (fileOkB f && decide ((putV l f).length ≤ 30)) := by
  rw [Bool.eq_iff_iff, diskOk_iff, Bool.and_eq_true, decide_eq_true_eq]
  constructor
  · rintro ⟨h1, h2, _⟩
    exact ⟨h2 f (by unfold putV; simp), h1⟩
  · rintro ⟨h1, h2⟩
    exact ⟨h2, fun x hx => (putV_mem hx).elim (fun e => by rw [e]; exact h1) (ha x), putV_srt l f hs⟩
theorem without_ok {l : List S45} (s : ByteArray) (h : diskOkB l = true) : diskOkB (withoutV l s) = true := by
  rw [diskOk_iff] at h ⊢
  exact ⟨Nat.le_trans (List.length_filter_le _ _) h.1, fun x hx => h.2.1 x (List.mem_filter.1 hx).1, h.2.2.sublist List.filter_sublist⟩
/-- what (*Disk).do computes -/
def doV (kd : Int) (nm tx tt : ByteArray) (l : List S45) : List S45 × Bool :=
  if kd = 1 then (putV l (impl_Disk_do.addF nm tx l), tt.toList.isEmpty && fileOkB (impl_Disk_do.addF nm tx l) && decide ((putV l (impl_Disk_do.addF nm tx l)).length ≤ 30))
  else if impl_Disk_place.has nm l = true then
    if tx.toList.isEmpty = true then
      if kd = 3 then
        if tt = nm then (l, false)
        else if (l.getD (impl_Disk_place.idx nm l) z45).f2 < ((l.getD (impl_Disk_place.idx nm l) z45).f1.size : Int) then (l, false)
        else (putV (withoutV l nm) ⟨tt, (l.getD (impl_Disk_place.idx nm l) z45).f1, (l.getD (impl_Disk_place.idx nm l) z45).f2⟩, fileOkB ⟨tt, (l.getD (impl_Disk_place.idx nm l) z45).f1, (l.getD (impl_Disk_place.idx nm l) z45).f2⟩)
      else if tt.toList.isEmpty = true then
        if kd = 2 then (putV l ⟨nm, (l.getD (impl_Disk_place.idx nm l) z45).f1, ((l.getD (impl_Disk_place.idx nm l) z45).f1.size : Int)⟩, true)
        else if kd = 4 then (withoutV l nm, true)
        else (l, false)
      else (l, false)
    else (l, false)
  else (l, false)
def actV (kd : Int) (nm tx tt : ByteArray) (l : List S45) : List S45 × Bool := if diskOkB l = true then (if (doV kd nm tx tt l).2 = true then ((doV kd nm tx tt l).1, true) else ([], false)) else ([], false)
theorem doF_eq (kd : Int) (nm tx tt : ByteArray) (l : List S45) (hok : diskOkB l = true) (htx : tx.size ≤ 1048576) : impl_Disk_do.doF kd nm tx tt l = some (doV kd nm tx tt l) := by
  obtain ⟨h30, hall, hs⟩ := (diskOk_iff l).1 hok
  have hfs : (impl_Disk_do.addF nm tx l).f1.size ≤ 9223372036854775807 := by
    unfold impl_Disk_do.addF
    dsimp only
    rw [ByteArray.size_append]
    split
    · rename_i h
      have := (diskOk_all l hok).2 _ (pl_mem h)
      omega
    · have e : ((⟨nm, ⟨#[]⟩, 0⟩ : S45).f1).size = 0 := rfl
      omega
  have hs2 : Srt (withoutV l nm) := hs.sublist List.filter_sublist
  unfold impl_Disk_do.doF doV
  rw [if_pos (by omega)]
  by_cases hk1 : kd = 1
  · rw [if_pos hk1, if_pos hk1, if_pos hfs, impl_fileOk_f, Option.bind_some, putL_eq _ _ hs]
    congr 3
    apply decide_eq_decide.2
    omega
  rw [if_neg hk1, if_neg hk1]
  by_cases hh : impl_Disk_place.has nm l = true
  case neg => rw [if_neg hh, if_neg hh]
  rw [if_pos hh, if_pos hh]
  by_cases htxe : tx.toList.isEmpty = true
  case neg => rw [if_neg htxe, if_neg htxe]
  rw [if_pos htxe, if_pos htxe]
  by_cases hk3 : kd = 3
  · rw [if_pos hk3, if_pos hk3]
    by_cases he : tt = nm
    · rw [if_pos he, if_pos (by rw [he]; simp)]
    · rw [if_neg he, if_neg (fun h => he ((toList_iff _ _).1 (eq_of_beq h)))]
      split
      · rfl
      · rw [show impl_fileOk.f tt (l.getD (impl_Disk_place.idx nm l) z45).f1 (l.getD (impl_Disk_place.idx nm l) z45).f2 = _ from impl_fileOk_f ⟨tt, (l.getD (impl_Disk_place.idx nm l) z45).f1, (l.getD (impl_Disk_place.idx nm l) z45).f2⟩, Option.bind_some, erase_eq nm l hs hh, putL_eq _ _ hs2]
  rw [if_neg hk3, if_neg hk3]
  by_cases htte : tt.toList.isEmpty = true
  case neg => rw [if_neg htte, if_neg htte]
  rw [if_pos htte, if_pos htte]
  by_cases hk2 : kd = 2
  · rw [if_pos hk2, if_pos hk2]
    have hn := pl_name hh
    have := putL_eq ⟨nm, (l.getD (impl_Disk_place.idx nm l) z45).f1, ((l.getD (impl_Disk_place.idx nm l) z45).f1.size : Int)⟩ l hs
    unfold impl_Disk_put.putL at this
    rw [if_pos hh] at this
    rw [hn, this]
  · rw [if_neg hk2, if_neg hk2]
    split
    · rw [erase_eq nm l hs hh]
    · rfl
theorem spec_l01In_f (x a b : Int) : spec_l01In.f x a b = some (decide (a ≤ x ∧ x ≤ b)) := by
  unfold spec_l01In.f
  by_cases h1 : a ≤ x <;> by_cases h2 : x ≤ b <;> simp [h1, h2]
theorem spec_l03Name_f (s : ByteArray) : spec_l03Name.f s = some (decide (1 ≤ s.size ∧ s.size ≤ 8)) := by
  unfold spec_l03Name.f
  simp only [spec_l01In_f, Option.bind_some]
  congr 1
  apply decide_eq_decide.2
  omega
theorem spec_DiskOk_l0 (l : List S45) (hl : l.length ≤ 4611686018427387904) : ∀ (d i : Nat), i + d = l.length →
    Ev (fun k => spec_DiskOk.l0 k (i : Int) l) (diskL (prevF l i) (l.drop i)) := by
  intro d
  induction d with
  | zero =>
    intro i hi
    refine ev_succ ?_
    simp only [spec_DiskOk.l0]
    refine ev_else (by omega) (ev_some ?_)
    rw [drop_end l i (by omega)]
    cases prevF l i <;> rfl
  | succ d ih =>
    intro i hi
    refine ev_succ ?_
    simp only [spec_DiskOk.l0]
    refine ev_if (by omega) (ev_if (by omega) (ev_bind0 (spec_l03Name_f _) ?_))
    rw [diskL_at l i (by omega), succ_i i (by omega)]
    unfold fileOkB
    by_cases h1 : 1 ≤ (rd_T45 l (i : Int)).f0.size ∧ (rd_T45 l (i : Int)).f0.size ≤ 8
    · refine ev_if (decide_eq_true h1) ?_
      rw [decide_eq_true h1, Bool.true_and]
      by_cases h2 : (rd_T45 l (i : Int)).f1.size ≤ 20000
      · refine ev_else (by omega) (ev_bind0 (spec_l01In_f _ _ _) ?_)
        rw [decide_eq_true h2, Bool.true_and]
        by_cases h3 : 0 ≤ (rd_T45 l (i : Int)).f2 ∧ (rd_T45 l (i : Int)).f2 ≤ ((rd_T45 l (i : Int)).f1.size : Int)
        · refine ev_if (decide_eq_true h3) ?_
          rw [decide_eq_true h3, Bool.true_and]
          by_cases h0 : i = 0
          · refine ev_else (by omega) (ev_eq (ih (i + 1) (by omega)) ?_)
            rw [if_pos h0, Bool.true_and]
          · rw [pred_i i (by omega) (by omega), if_neg h0]
            refine ev_if (by omega) (ev_if (by omega) (ev_if (by omega) ?_))
            by_cases hb : lessB (rd_T45 l ((i - 1 : Nat) : Int)).f0 (rd_T45 l (i : Int)).f0 = true
            · refine ev_if hb (ev_eq (ih (i + 1) (by omega)) ?_)
              rw [hb, Bool.true_and]
            · refine ev_else hb (ev_some ?_)
              rw [Bool.eq_false_iff.2 hb, Bool.false_and]
        · refine ev_else (by rw [decide_eq_false h3]; simp) (ev_some ?_)
          rw [decide_eq_false h3, Bool.false_and]
      · refine ev_if (by omega) (ev_some ?_)
        rw [decide_eq_false h2, Bool.false_and, Bool.false_and]
    · refine ev_else (by rw [decide_eq_false h1]; simp) (ev_some ?_)
      rw [decide_eq_false h1, Bool.false_and, Bool.false_and]
theorem spec_DiskOk_f (l : List S45) (hl : l.length ≤ 4611686018427387904) : Ev (fun k => spec_DiskOk.f k l) (diskOkB l) := by
  unfold spec_DiskOk.f diskOkB
  by_cases h : (l.length : Int) > 30
  · refine ev_if h (ev_some ?_)
    rw [decide_eq_false (by omega), Bool.false_and]
  · refine ev_else h (ev_eq ?_ (by rw [decide_eq_true (show l.length ≤ 30 by omega), Bool.true_and]))
    have := spec_DiskOk_l0 l hl l.length 0 (by omega)
    rw [List.drop_zero] at this
    exact this
theorem addF_has {nm tx : ByteArray} {l : List S45} (h : impl_Disk_place.has nm l = true) : impl_Disk_do.addF nm tx l = ⟨nm, (l.getD (impl_Disk_place.idx nm l) z45).f1 ++ tx, (l.getD (impl_Disk_place.idx nm l) z45).f2⟩ := by
  unfold impl_Disk_do.addF
  rw [if_pos h]
  dsimp only
  rw [pl_name h]
theorem addF_new {nm tx : ByteArray} {l : List S45} (h : impl_Disk_place.has nm l = false) : impl_Disk_do.addF nm tx l = ⟨nm, ⟨#[]⟩ ++ tx, 0⟩ := by
  unfold impl_Disk_do.addF
  rw [if_neg (by rw [h]; simp)]
theorem spec_l03At_l0 (l : List S45) (s : ByteArray) (hl : l.length ≤ 1048576) : ∀ (d i : Nat), i + d = l.length → Ev (fun k => spec_l03At.l0 k s (i : Int) l) (atF s (l.drop i) i) := by
  intro d
  induction d with
  | zero =>
    intro i hi
    refine ev_succ ?_
    simp only [spec_l03At.l0]
    refine ev_else (by omega) (ev_some ?_)
    rw [drop_end l i (by omega)]
    rfl
  | succ d ih =>
    intro i hi
    refine ev_succ ?_
    simp only [spec_l03At.l0]
    refine ev_if (by omega) (ev_if (by omega) ?_)
    rw [drop_getD l z45 i (by omega), atF, succ_i i (by omega)]
    have e : rd_T45 l (i : Int) = l.getD i z45 := rfl
    rw [e]
    by_cases h : (l.getD i z45).f0 = s
    · rw [if_pos h]
      exact ev_if (by rw [h]) (ev_some rfl)
    · rw [if_neg h]
      exact ev_else (fun h2 => h ((toList_iff _ _).1 h2)) (ih (i + 1) (by omega))
theorem spec_l03At_f (l : List S45) (s : ByteArray) (hl : l.length ≤ 1048576) : Ev (fun k => spec_l03At.f k l s) (atF s l 0) := by
  unfold spec_l03At.f
  have := spec_l03At_l0 l s hl l.length 0 (by omega)
  rw [List.drop_zero] at this
  exact this
theorem spec_l03Without_l0 (l : List S45) (s : ByteArray) (hl : l.length ≤ 1048576) : ∀ (d i : Nat) (acc : List S45), i + d = l.length → acc.length + d ≤ 3518437208882 → Ev (fun k => spec_l03Without.l0 k s (i : Int) l acc) (acc ++ withoutV (l.drop i) s) := by
  intro d
  induction d with
  | zero =>
    intro i acc hi ha
    refine ev_succ ?_
    simp only [spec_l03Without.l0]
    refine ev_else (by omega) (ev_some ?_)
    rw [drop_end l i (by omega)]
    simp [withoutV]
  | succ d ih =>
    intro i acc hi ha
    refine ev_succ ?_
    simp only [spec_l03Without.l0]
    refine ev_if (by omega) (ev_if (by omega) ?_)
    rw [drop_getD l z45 i (by omega), succ_i i (by omega)]
    have e : rd_T45 l (i : Int) = l.getD i z45 := rfl
    rw [e]
    unfold withoutV at ih ⊢
    rw [List.filter_cons]
    by_cases h : (l.getD i z45).f0 = s
    · rw [if_neg (by rw [decide_eq_true h]; simp)]
      exact ev_if (by rw [h]) (ih (i + 1) acc (by omega) (by omega))
    · rw [if_pos (by rw [decide_eq_false h]; rfl)]
      refine ev_else (fun h2 => h ((toList_iff _ _).1 h2)) (ev_if (by omega) (ev_eq (ih (i + 1) _ (by omega) (by rw [List.length_append, List.length_singleton]; omega)) ?_))
      rw [List.append_assoc]
      rfl
theorem spec_l03Without_f (l : List S45) (s : ByteArray) (hl : l.length ≤ 1048576) : Ev (fun k => spec_l03Without.f k l s) (withoutV l s) := by
  unfold spec_l03Without.f
  have := spec_l03Without_l0 l s hl l.length 0 [] (by omega) (by simpa using (by omega : l.length ≤ 3518437208882))
  rw [List.drop_zero] at this
  simpa using this
def okV (l : List S45) : List S45 × Bool := if diskOkB l = true then (l, true) else ([], false)
theorem ev_okV {l : List S45} (hl : l.length ≤ 4611686018427387904) : Ev (fun k => (spec_DiskOk.f k l).bind fun t => if t = true then some (l, true) else some (([] : List S45), false)) (okV l) := by
  refine ev_bind (spec_DiskOk_f l hl) ?_
  unfold okV
  by_cases h : diskOkB l = true
  · exact ev_eq (ev_if h (ev_some rfl)) (if_pos h).symm
  · exact ev_eq (ev_else h (ev_some rfl)) (if_neg h).symm
theorem spec_DoAct_j0_true (l : List S45) (kd : Int) (nm tx tt : ByteArray) : Ev (fun k => spec_DoAct.j0 k true l kd nm tx tt) ([], false) := by
  refine ev_succ ?_
  simp only [spec_DoAct.j0]
  exact ev_if trivial (ev_some rfl)
theorem spec_DoAct_j2_true (l : List S45) (kd : Int) (nm tx tt a b : ByteArray) (c : Int) : Ev (fun k => spec_DoAct.j2 k true l kd nm tx tt a b c) ([], false) := by
  refine ev_succ ?_
  simp only [spec_DoAct.j2]
  exact ev_if trivial (ev_some rfl)
theorem act_no {kd : Int} {nm tx tt : ByteArray} {l : List S45} (h : (doV kd nm tx tt l).2 = false) : actV kd nm tx tt l = ([], false) := by
  unfold actV
  split
  · rw [if_neg (by rw [h]; simp)]
  · rfl
theorem act_is {kd : Int} {nm tx tt : ByteArray} {l l' : List S45} {b : Bool} (hok : diskOkB l = true) (h : doV kd nm tx tt l = (l', b)) (hb : diskOkB l' = b) : okV l' = actV kd nm tx tt l := by
  unfold actV okV
  rw [if_pos hok, h, hb]
  all_goals (cases b <;> rfl)
theorem spec_DoAct_j0_false (l : List S45) (kd : Int) (nm tx tt : ByteArray) (hok : diskOkB l = true) (htx : tx.size ≤ 1048576) (htt : kd ≠ 3 → tt.toList.isEmpty = true) (htxe : kd ≠ 1 → tx.toList.isEmpty = true) : Ev (fun k => spec_DoAct.j0 k false l kd nm tx tt) (actV kd nm tx tt l) := by
  obtain ⟨h30, hall, hs⟩ := (diskOk_iff l).1 hok
  have h1m : l.length ≤ 1048576 := by omega
  have hput : ∀ (m : List S45) (f : S45), m.length ≤ 1048576 → (putV m f).length ≤ 4611686018427387904 := fun m f hm => by have := putV_length m f; omega
  refine ev_succ ?_
  simp only [spec_DoAct.j0]
  refine ev_else (by simp) (ev_bind (spec_l03At_f l nm h1m) ?_)
  rw [atF_eq nm l 0 hs]
  by_cases hh : impl_Disk_place.has nm l = true
  · have hlt := pl_lt hh
    rw [if_pos hh]
    refine ev_if (by omega) (ev_if (by omega) (ev_if (by omega) (ev_succ ?_)))
    simp only [spec_DoAct.j1]
    have e : rd_T45 l ((0 + impl_Disk_place.idx nm l : Nat) : Int) = l.getD (impl_Disk_place.idx nm l) z45 := by rw [Nat.zero_add]; rfl
    have hx := (diskOk_all l hok).2 _ (pl_mem hh)
    have hn := pl_name hh
    rw [e, hn]
    have hD : doV kd nm tx tt l = _ := rfl
    conv at hD => rhs; unfold doV
    rw [addF_has hh] at hD
    generalize l.getD (impl_Disk_place.idx nm l) z45 = x at hx hn hD ⊢
    obtain ⟨⟨n0, n1⟩, t0, k0, k1⟩ := hx
    rw [hn] at n0 n1
    by_cases hk1 : kd = 1
    · rw [if_pos hk1] at hD
      refine ev_if hk1 (ev_if (by omega) (ev_bind (spec_l03Put_f l nm (x.f1 ++ tx) x.f2 h1m) ?_))
      rw [htt (by omega)] at hD
      refine ev_eq (ev_okV (hput _ _ h1m)) (act_is hok hD ?_)
      rw [diskOk_put hs hall, Bool.true_and]
    rw [if_neg hk1, if_pos hh, if_pos (htxe hk1)] at hD
    refine ev_else hk1 (ev_else (by omega) ?_)
    by_cases hk2 : kd = 2
    · rw [if_neg (by omega), if_pos (htt (by omega)), if_pos hk2] at hD
      refine ev_if hk2 (ev_bind (spec_l03Put_f l nm x.f1 _ h1m) (ev_eq (ev_okV (hput _ _ h1m)) (act_is hok hD ?_)))
      rw [diskOk_put hs hall]
      have hlen : (putV l ⟨nm, x.f1, (x.f1.size : Int)⟩).length ≤ 30 := by
        rw [← putL_eq _ _ hs]
        unfold impl_Disk_put.putL
        rw [if_pos hh, List.length_set]
        exact h30
      rw [decide_eq_true hlen, Bool.and_true]
      simp only [fileOkB, Bool.and_eq_true, decide_eq_true_eq]
      exact ⟨⟨n0, n1⟩, t0, by omega, Int.le_refl _⟩
    refine ev_else hk2 ?_
    by_cases hk3 : kd = 3
    · rw [if_pos hk3] at hD
      refine ev_if hk3 ?_
      by_cases hle : x.f2 < (x.f1.size : Int)
      · refine ev_if hle (ev_eq (spec_DoAct_j2_true _ _ _ _ _ _ _ _) (act_no ?_).symm)
        rw [hD]
        split
        · rfl
        · rfl
      refine ev_else hle ?_
      by_cases hsm : tt = nm
      · rw [if_pos hsm] at hD
        exact ev_if (by rw [hsm]) (ev_eq (spec_DoAct_j2_true _ _ _ _ _ _ _ _) (act_no (by rw [hD])).symm)
      rw [if_neg hsm, if_neg hle] at hD
      refine ev_else (fun h => hsm ((toList_iff _ _).1 h)) (ev_bind0 (spec_l03Name_f tt) ?_)
      by_cases htn : 1 ≤ tt.size ∧ tt.size ≤ 8
      · rw [decide_eq_true htn]
        have hw := without_ok nm hok
        obtain ⟨w30, wall, ws⟩ := (diskOk_iff _).1 hw
        have hwl : (withoutV l nm).length ≤ 29 := by
          rw [← erase_eq nm l hs hh, List.length_eraseIdx, if_pos hlt]
          omega
        refine ev_succ ?_
        simp only [spec_DoAct.j2]
        refine ev_else (by simp) (ev_bind (spec_l03Without_f l nm h1m) (ev_bind (spec_l03Put_f (withoutV l nm) tt x.f1 x.f2 (by omega)) (ev_eq (ev_okV (hput _ _ (by omega))) (act_is hok hD ?_))))
        rw [diskOk_put ws wall, decide_eq_true (by have := putV_length (withoutV l nm) ⟨tt, x.f1, x.f2⟩; omega), Bool.and_true]
      · rw [decide_eq_false htn]
        refine ev_eq (spec_DoAct_j2_true _ _ _ _ _ _ _ _) (act_no ?_).symm
        rw [hD]
        simp only [fileOkB]
        rw [decide_eq_false htn, Bool.false_and]
    rw [if_neg hk3, if_pos (htt hk3), if_neg hk2] at hD
    refine ev_else hk3 ?_
    by_cases hk4 : kd = 4
    · rw [if_pos hk4] at hD
      have hw := without_ok nm hok
      exact ev_if hk4 (ev_bind (spec_l03Without_f l nm h1m) (ev_eq (ev_okV (by have := ((diskOk_iff _).1 hw).1; omega)) (act_is hok hD hw)))
    · rw [if_neg hk4] at hD
      exact ev_else hk4 (ev_eq (ev_some rfl) (act_no (by rw [hD])).symm)
  · have hhf := Bool.eq_false_iff.2 hh
    rw [if_neg hh]
    refine ev_else (by omega) (ev_succ ?_)
    simp only [spec_DoAct.j1]
    have hD : doV kd nm tx tt l = _ := rfl
    conv at hD => rhs; unfold doV
    rw [addF_new hhf] at hD
    by_cases hk1 : kd = 1
    · rw [if_pos hk1] at hD
      refine ev_if hk1 (ev_if (by have : (⟨#[]⟩ : ByteArray).size = 0 := rfl; omega) (ev_bind (spec_l03Put_f l nm (⟨#[]⟩ ++ tx) 0 h1m) ?_))
      rw [htt (by omega)] at hD
      refine ev_eq (ev_okV (hput _ _ h1m)) (act_is hok hD ?_)
      rw [diskOk_put hs hall, Bool.true_and]
    · rw [if_neg hk1, if_neg hh] at hD
      exact ev_else hk1 (ev_if (by omega) (ev_eq (ev_some rfl) (act_no (by rw [hD])).symm))
theorem spec_DoAct_f (l : List S45) (kd : Int) (nm tx tt : ByteArray) (hl : l.length ≤ 1048576) (htx : tx.size ≤ 1048576) : Ev (fun k => spec_DoAct.f k l kd nm tx tt) (actV kd nm tx tt l) := by
  unfold spec_DoAct.f
  refine ev_bind (spec_DiskOk_f l (by omega)) ?_
  by_cases hok : diskOkB l = true
  case neg =>
    refine ev_else hok (ev_eq (spec_DoAct_j0_true _ _ _ _ _) ?_)
    unfold actV
    rw [if_neg hok]
  refine ev_if hok (ev_bind0 (spec_l03Name_f nm) ?_)
  by_cases hn : 1 ≤ nm.size ∧ nm.size ≤ 8
  case neg =>
    refine ev_else (by rw [decide_eq_false hn]; simp) (ev_eq (spec_DoAct_j0_true _ _ _ _ _) (act_no ?_).symm)
    have hh : impl_Disk_place.has nm l = false := by
      cases hq : impl_Disk_place.has nm l with
      | false => rfl
      | true =>
        have := ((diskOk_all l hok).2 _ (pl_mem hq)).1
        rw [pl_name hq] at this
        exact absurd this hn
    unfold doV
    rw [hh, addF_new hh]
    split
    · simp only [fileOkB]
      rw [decide_eq_false hn, Bool.false_and, Bool.and_false, Bool.false_and]
    · rfl
  refine ev_if (decide_eq_true hn) ?_
  have emp : ∀ s : ByteArray, s.toList.isEmpty = true ↔ s.toList = ([] : List UInt8) := fun s => List.isEmpty_iff
  have bad : (kd ≠ 3 ∧ tt.toList.isEmpty = false) ∨ (kd ≠ 1 ∧ tx.toList.isEmpty = false) → (doV kd nm tx tt l).2 = false := by
    intro hb
    unfold doV
    by_cases hk1 : kd = 1
    · rw [if_pos hk1]
      rcases hb with hb | hb
      · rw [hb.2, Bool.false_and, Bool.false_and]
      · exact absurd hk1 hb.1
    rw [if_neg hk1]
    split
    · split
      · rename_i h2
        rcases hb with hb | hb
        · rw [if_neg hb.1, if_neg (by rw [hb.2]; simp)]
        · rw [hb.2] at h2; cases h2
      · rfl
    · rfl
  by_cases hk3 : kd = 3
  · refine ev_if hk3 (ev_else (by omega) ?_)
    cases htxe : tx.toList.isEmpty with
    | true =>
      have : (tx.toList != ([] : List UInt8)) = false := by rw [(emp tx).1 htxe]; rfl
      rw [this]
      exact spec_DoAct_j0_false l kd nm tx tt hok htx (fun h => absurd hk3 h) (fun _ => htxe)
    | false =>
      have : (tx.toList != ([] : List UInt8)) = true := by
        rw [bne_iff_ne]
        intro h
        rw [(emp tx).2 h] at htxe
        cases htxe
      rw [this]
      exact ev_eq (spec_DoAct_j0_true _ _ _ _ _) (act_no (bad (.inr ⟨by omega, htxe⟩))).symm
  refine ev_else hk3 ?_
  cases htte : tt.toList.isEmpty with
  | false =>
    exact ev_else (fun h => by rw [(emp tt).2 h] at htte; cases htte) (ev_eq (spec_DoAct_j0_true _ _ _ _ _) (act_no (bad (.inl ⟨hk3, htte⟩))).symm)
  | true =>
    refine ev_if ((emp tt).1 htte) ?_
    by_cases hk1 : kd = 1
    · exact ev_if hk1 (spec_DoAct_j0_false l kd nm tx tt hok htx (fun _ => htte) (fun h => absurd hk1 h))
    refine ev_else hk1 ?_
    cases htxe : tx.toList.isEmpty with
    | true =>
      have : (tx.toList != ([] : List UInt8)) = false := by rw [(emp tx).1 htxe]; rfl
      rw [this]
      exact spec_DoAct_j0_false l kd nm tx tt hok htx (fun _ => htte) (fun _ => htxe)
    | false =>
      have : (tx.toList != ([] : List UInt8)) = true := by
        rw [bne_iff_ne]
        intro h
        rw [(emp tx).2 h] at htxe
        cases htxe
      rw [this]
      exact ev_eq (spec_DoAct_j0_true _ _ _ _ _) (act_no (bad (.inr ⟨hk1, htxe⟩))).symm
theorem do_ok {kd : Int} {nm tx tt : ByteArray} {l : List S45} (hok : diskOkB l = true) (h : (doV kd nm tx tt l).2 = true) : diskOkB (doV kd nm tx tt l).1 = true := by
  obtain ⟨h30, hall, hs⟩ := (diskOk_iff l).1 hok
  unfold doV at h ⊢
  by_cases hk1 : kd = 1
  · rw [if_pos hk1] at h ⊢
    dsimp only at h ⊢
    rw [Bool.and_eq_true, Bool.and_eq_true] at h
    rw [diskOk_put hs hall, h.1.2, h.2]
    rfl
  rw [if_neg hk1] at h ⊢
  by_cases hh : impl_Disk_place.has nm l = true
  case neg => rw [if_neg hh] at h; cases h
  rw [if_pos hh] at h ⊢
  have hx := (diskOk_all l hok).2 _ (pl_mem hh)
  rw [pl_name hh] at hx
  have hlt := pl_lt hh
  by_cases htx : tx.toList.isEmpty = true
  case neg => rw [if_neg htx] at h; cases h
  rw [if_pos htx] at h ⊢
  by_cases hk3 : kd = 3
  · rw [if_pos hk3] at h ⊢
    by_cases hsm : tt = nm
    · rw [if_pos hsm] at h; cases h
    rw [if_neg hsm] at h ⊢
    by_cases hle : (l.getD (impl_Disk_place.idx nm l) z45).f2 < ((l.getD (impl_Disk_place.idx nm l) z45).f1.size : Int)
    · rw [if_pos hle] at h; cases h
    rw [if_neg hle] at h ⊢
    have hw := without_ok nm hok
    obtain ⟨_, wall, ws⟩ := (diskOk_iff _).1 hw
    have hwl : (withoutV l nm).length ≤ 29 := by
      rw [← erase_eq nm l hs hh, List.length_eraseIdx, if_pos hlt]
      omega
    dsimp only at h ⊢
    rw [diskOk_put ws wall, h, Bool.true_and]
    exact decide_eq_true (Nat.le_trans (putV_length _ _) (by omega))
  rw [if_neg hk3] at h ⊢
  by_cases htt : tt.toList.isEmpty = true
  case neg => rw [if_neg htt] at h; cases h
  rw [if_pos htt] at h ⊢
  by_cases hk2 : kd = 2
  · rw [if_pos hk2]
    dsimp only
    rw [diskOk_put hs hall]
    have hlen : (putV l ⟨nm, (l.getD (impl_Disk_place.idx nm l) z45).f1, ((l.getD (impl_Disk_place.idx nm l) z45).f1.size : Int)⟩).length ≤ 30 := by
      rw [← putL_eq _ _ hs]
      unfold impl_Disk_put.putL
      rw [if_pos hh, List.length_set]
      exact h30
    rw [decide_eq_true hlen, Bool.and_true]
    simp only [fileOkB, Bool.and_eq_true, decide_eq_true_eq]
    exact ⟨hx.1, hx.2.1, by omega, Int.le_refl _⟩
  rw [if_neg hk2] at h ⊢
  by_cases hk4 : kd = 4
  · rw [if_pos hk4]
    exact without_ok nm hok
  · rw [if_neg hk4] at h; cases h
def actsV : List S55 → Nat → List S45 → List S45 × Int
  | [], n, l => (l, (n : Int))
  | a :: q, n, l => if (doV a.f0 a.f1 a.f2 a.f3 l).2 = true then actsV q (n + 1) (doV a.f0 a.f1 a.f2 a.f3 l).1 else (l, (n : Int))
def doActsV (l : List S45) (q : List S55) : List S45 × Int := if diskOkB l = true then actsV q 0 l else (l, 0)
theorem goF_eq : ∀ (q : List S55) (n : Nat) (l : List S45), diskOkB l = true → (∀ a ∈ q, a.f2.size ≤ 1048576) → impl_DoActs.goF q n l = some (actsV q n l) := by
  intro q
  induction q with
  | nil => intro n l _ _; rfl
  | cons a q ih =>
    intro n l hok hq
    rw [impl_DoActs.goF, actsV, doF_eq _ _ _ _ l hok (hq a (List.mem_cons_self ..)), Option.bind_some]
    by_cases h : (doV a.f0 a.f1 a.f2 a.f3 l).2 = true
    · rw [if_pos h, if_pos h]
      exact ih _ _ (do_ok hok h) (fun b hb => hq b (List.mem_cons_of_mem _ hb))
    · rw [if_neg h, if_neg h]
theorem impl_DoActs_f (l : List S45) (q : List S55) (hl : l.length ≤ 1048576) (hql : q.length ≤ 1048576) (hq : ∀ a ∈ q, a.f2.size ≤ 1048576) : Ev (fun k => impl_DoActs.f k l q) (doActsV l q) := by
  unfold impl_DoActs.f doActsV
  refine ev_if ⟨by omega, by omega⟩ (ev_bind (impl_DiskOk_f l (by omega)) ?_)
  by_cases h : diskOkB l = true
  · exact ev_eq (ev_if h (ev_some (goF_eq q 0 l h hq))) (if_pos h).symm
  · exact ev_eq (ev_else h (ev_some rfl)) (if_neg h).symm
theorem spec_DoActs_l0 (q : List S55) (hql : q.length ≤ 1048576) (hq : ∀ a ∈ q, a.f2.size ≤ 1048576) : ∀ (d i : Nat) (l : List S45), i + d = q.length → diskOkB l = true →
    Ev (fun k => spec_DoActs.l0 k q (i : Int) l) (actsV (q.drop i) i l) := by
  intro d
  induction d with
  | zero =>
    intro i l hi hok
    refine ev_succ ?_
    simp only [spec_DoActs.l0]
    refine ev_else (by omega) (ev_some ?_)
    rw [drop_end q i (by omega), actsV]
    have : (q.length : Int) = (i : Int) := by omega
    rw [this]
  | succ d ih =>
    intro i l hi hok
    have hlt : i < q.length := by omega
    refine ev_succ ?_
    simp only [spec_DoActs.l0]
    have e : rd_T55 q (i : Int) = q.getD i z55 := rfl
    have hm : q.getD i z55 ∈ q := by
      rw [List.getD_eq_getElem?_getD, List.getElem?_eq_getElem hlt]
      exact List.getElem_mem _
    have ha := hq _ hm
    have h30 := ((diskOk_iff l).1 hok).1
    rw [drop_getD q z55 i hlt, actsV, e, succ_i i (by omega)]
    generalize q.getD i z55 = a at ha ⊢
    refine ev_if (by omega) (ev_if (by omega) (ev_bind (spec_DoAct_f l a.f0 a.f1 a.f2 a.f3 (by omega) ha) ?_))
    unfold actV
    rw [if_pos hok]
    by_cases h : (doV a.f0 a.f1 a.f2 a.f3 l).2 = true
    · rw [if_pos h, if_pos h]
      exact ev_if rfl (ih (i + 1) _ (by omega) (do_ok hok h))
    · rw [if_neg h, if_neg h]
      exact ev_else (by simp) (ev_some rfl)
theorem spec_DoActs_f (l : List S45) (q : List S55) (hl : l.length ≤ 1048576) (hql : q.length ≤ 1048576) (hq : ∀ a ∈ q, a.f2.size ≤ 1048576) : Ev (fun k => spec_DoActs.f k l q) (doActsV l q) := by
  unfold spec_DoActs.f doActsV
  refine ev_bind0 rfl (ev_if (by show (0 : Nat) + l.length < _; omega) ?_)
  rw [List.nil_append]
  by_cases hok : diskOkB l = true
  · rw [if_pos hok]
    have := spec_DoActs_l0 q hql hq q.length 0 l (by omega) hok
    rw [List.drop_zero] at this
    exact this
  · rw [if_neg hok]
    refine ev_succ ?_
    simp only [spec_DoActs.l0]
    by_cases h0 : (0 : Int) < (q.length : Int)
    · have hm : q.getD 0 z55 ∈ q := by
        rw [List.getD_eq_getElem?_getD, List.getElem?_eq_getElem (by omega)]
        exact List.getElem_mem _
      have ha := hq _ hm
      have e : rd_T55 q 0 = q.getD 0 z55 := rfl
      rw [e]
      generalize q.getD 0 z55 = a at ha ⊢
      refine ev_if h0 (ev_if (by omega) (ev_bind (spec_DoAct_f l a.f0 a.f1 a.f2 a.f3 hl ha) ?_))
      unfold actV
      rw [if_neg hok]
      exact ev_else (by simp) (ev_some rfl)
    · refine ev_else h0 (ev_some ?_)
      have : (q.length : Int) = 0 := by omega
      rw [this]
theorem actsV_len : ∀ (q : List S55) (n : Nat) (l : List S45), diskOkB l = true → (actsV q n l).1.length ≤ 31 := by
  intro q
  induction q with
  | nil => intro n l h; have := ((diskOk_iff l).1 h).1; show l.length ≤ 31; omega
  | cons a q ih =>
    intro n l h
    rw [actsV]
    split
    · rename_i h2
      exact ih _ _ (do_ok h h2)
    · have := ((diskOk_iff l).1 h).1; show l.length ≤ 31; omega
theorem doActs_length (l : List S45) (q : List S55) (hl : l.length ≤ 1048576) : (doActsV l q).1.length ≤ 1048576 := by
  unfold doActsV
  split
  · rename_i h
    have := actsV_len q 0 l h
    omega
  · exact hl
/-! the draws of acts -/
theorem once_f (l : List Int) (i h n : Int) (hl : l.length ≤ 4611686018427387904) (hi : 0 ≤ i) (hn : 0 < n) : ∃ b i' h', spec_l01Once.f l i h n = some (b, i', h') ∧ 0 ≤ i' := by
  unfold spec_l01Once.f
  obtain ⟨r, i', h', e, hr, hi'⟩ := spec_l01Below_f l i h n hl hi hn
  rw [e]
  exact ⟨_, _, _, rfl, hi'⟩
theorem disk_l1 (z : List Int) (hz : z.length ≤ 4611686018427387904) : ∀ (d i : Nat) (p h : Int) (D : List S45), i + d = 40 → 0 ≤ p → D.length ≤ i →
    ∃ r p' h', Ev (fun k => spec_l03Disk.l1 k (i : Int) z p h D) (r, p', h') ∧ r.length ≤ 100 ∧ 0 ≤ p' := by
  intro d
  induction d with
  | zero =>
    intro i p h D hi hp hD
    obtain ⟨v, p1, h1, e1, hv, hp1⟩ := spec_l01Below_f z p h 2 hz hp (by omega)
    refine ⟨D, p1, h1, ev_succ ?_, by omega, hp1⟩
    simp only [spec_l03Disk.l1]
    refine ev_bind0 e1 (ev_else ?_ (ev_some rfl))
    show ¬ (i : Int) < wrap64 (30 + v)
    rw [wid (x := 30 + v) (by omega) (by omega)]
    omega
  | succ d ih =>
    intro i p h D hi hp hD
    obtain ⟨v, p1, h1, e1, hv, hp1⟩ := spec_l01Below_f z p h 2 hz hp (by omega)
    by_cases g : (i : Int) < 30 + v
    · have e2 := spec_Decimal_f (100 + (i : Int)) (by omega) (by omega)
      have hs := Lib.itoa_length_le (100 + (i : Int)) (by omega) (by omega)
      have hs2 : (⟨(Lib.itoa (100 + (i : Int))).toArray⟩ : ByteArray).size ≤ 21 := by simpa [ByteArray.size] using hs
      generalize (⟨(Lib.itoa (100 + (i : Int))).toArray⟩ : ByteArray) = t at e2 hs2
      have hs3 : 1 + t.size ≤ 9223372036854775807 := by omega
      have hD2 : D.length < 3518437208883 := by omega
      obtain ⟨r, p2, h2, e3, hr, hp2⟩ := ih (i + 1) p1 h1 (D ++ [⟨(⟨#[102]⟩ : ByteArray) ++ t, ⟨#[]⟩, 0⟩]) (by omega) hp1 (by rw [List.length_append, List.length_singleton]; omega)
      refine ⟨r, p2, h2, ev_succ ?_, hr, hp2⟩
      simp only [spec_l03Disk.l1]
      rw [wid (x := 100 + (i : Int)) (by omega) (by omega), succ_i i (by omega)]
      refine ev_bind0 e1 (ev_if (by show (i : Int) < wrap64 (30 + v); rw [wid (x := 30 + v) (by omega) (by omega)]; exact g) ?_)
      exact ev_bind e2 (ev_if hs3 (ev_if hD2 e3))
    · refine ⟨D, p1, h1, ev_succ ?_, by omega, hp1⟩
      simp only [spec_l03Disk.l1]
      refine ev_bind0 e1 (ev_else ?_ (ev_some rfl))
      show ¬ (i : Int) < wrap64 (30 + v)
      rw [wid (x := 30 + v) (by omega) (by omega)]
      exact g
theorem disk_end (z : List Int) (hz : z.length ≤ 4611686018427387904) (i p h : Int) (D : List S45) (hp : 0 ≤ p) (hD : D.length ≤ 10) (v p1 h1 : Int) (e : spec_l01Below.f z p h 6 = some (v, p1, h1)) (hp1 : 0 ≤ p1) (hi : ¬ i < v) :
    ∃ r p' h', Ev (fun k => spec_l03Disk.l0 k i z p h D) (r, p', h') ∧ r.length ≤ 100 ∧ 0 ≤ p' := by
  by_cases h0 : (D.length : Int) = 0
  · refine ⟨D, p1, h1, ev_succ ?_, by omega, hp1⟩
    simp only [spec_l03Disk.l0]
    exact ev_bind0 e (ev_else hi (ev_if h0 (ev_some rfl)))
  obtain ⟨a, p2, h2, e2, ha, hp2⟩ := spec_l01Below_f z p1 h1 (D.length : Int) hz hp1 (by omega)
  obtain ⟨b, p3, h3, e3, hb, hp3⟩ := spec_l01Below_f z p2 h2 40 hz hp2 (by omega)
  by_cases b0 : b = 0
  · obtain ⟨x, p4, h4, e4, hx, hp4⟩ := spec_l01PickInt_f z p3 h3 [(-1), wrap64 ((((rd_T45 D a).f1).size : Int) + 1)] hz hp3 (by simp)
    refine ⟨D.set a.toNat ⟨(rd_T45 D a).f0, (rd_T45 D a).f1, x⟩, p4, h4, ev_succ ?_, ?_, hp4⟩
    · simp only [spec_l03Disk.l0]
      exact ev_bind0 e (ev_else hi (ev_else h0 (ev_bind0 e2 (ev_bind0 e3 (ev_if b0 (ev_if ha.1 (ev_if ha.2 (ev_bind0 e4 (ev_some rfl)))))))))
    · rw [List.length_set]; omega
  by_cases b1 : b = 1
  · refine ⟨D ++ [⟨(rd_T45 D a).f0, (rd_T45 D a).f1, (rd_T45 D a).f2⟩], p3, h3, ev_succ ?_, ?_, hp3⟩
    · simp only [spec_l03Disk.l0]
      exact ev_bind0 e (ev_else hi (ev_else h0 (ev_bind0 e2 (ev_bind0 e3 (ev_else b0 (ev_if b1 (ev_if ha.1 (ev_if ha.2 (ev_if (by omega) (ev_some rfl))))))))))
    · rw [List.length_append, List.length_singleton]; omega
  by_cases b2 : b = 2
  · obtain ⟨x, p4, h4, e4, hx, hp4⟩ := spec_l01Pick_f z p3 h3 [(⟨#[]⟩ : ByteArray), (⟨#[49, 50, 51, 52, 53, 54, 55, 56]⟩ : ByteArray), (⟨#[49, 50, 51, 52, 53, 54, 55, 56, 57]⟩ : ByteArray)] hz hp3 (by simp)
    refine ⟨D.set a.toNat ⟨x, (rd_T45 D a).f1, (rd_T45 D a).f2⟩, p4, h4, ev_succ ?_, ?_, hp4⟩
    · simp only [spec_l03Disk.l0]
      exact ev_bind0 e (ev_else hi (ev_else h0 (ev_bind0 e2 (ev_bind0 e3 (ev_else b0 (ev_else b1 (ev_if b2 (ev_bind0 e4 (ev_if ha.1 (ev_if ha.2 (ev_some rfl)))))))))))
    · rw [List.length_set]; omega
  by_cases b3 : b = 3
  · obtain ⟨r, p4, h4, e4, hr, hp4⟩ := disk_l1 z hz 40 0 p3 h3 [] rfl hp3 (Nat.le_refl _)
    refine ⟨r, p4, h4, ev_succ ?_, hr, hp4⟩
    simp only [spec_l03Disk.l0]
    exact ev_bind0 e (ev_else hi (ev_else h0 (ev_bind0 e2 (ev_bind0 e3 (ev_else b0 (ev_else b1 (ev_else b2 (ev_if b3 e4))))))))
  by_cases b4 : b = 4
  · obtain ⟨x, p4, h4, e4, hx, hp4⟩ := spec_l01Below_f z p3 h3 3 hz hp3 (by omega)
    obtain ⟨t, et⟩ := spec_l01Long_f (19999 + x) 65 (by omega) (by omega)
    refine ⟨D.set a.toNat ⟨(rd_T45 D a).f0, t, (rd_T45 D a).f2⟩, p4, h4, ev_succ ?_, ?_, hp4⟩
    · simp only [spec_l03Disk.l0]
      refine ev_bind0 e (ev_else hi (ev_else h0 (ev_bind0 e2 (ev_bind0 e3 (ev_else b0 (ev_else b1 (ev_else b2 (ev_else b3 (ev_if b4 (ev_bind0 e4 ?_))))))))))
      show Ev (fun k => (spec_l01Long.f k (wrap64 (19999 + x)) 65).bind _) _
      rw [wid (x := 19999 + x) (by omega) (by omega)]
      exact ev_bind et (ev_if ha.1 (ev_if ha.2 (ev_some rfl)))
    · rw [List.length_set]; omega
  · refine ⟨D, p3, h3, ev_succ ?_, by omega, hp3⟩
    simp only [spec_l03Disk.l0]
    exact ev_bind0 e (ev_else hi (ev_else h0 (ev_bind0 e2 (ev_bind0 e3 (ev_else b0 (ev_else b1 (ev_else b2 (ev_else b3 (ev_else b4 (ev_some rfl))))))))))
theorem disk_l0 (z : List Int) (hz : z.length ≤ 4611686018427387904) : ∀ (d i : Nat) (p h : Int) (D : List S45), i + d = 6 → 0 ≤ p → D.length ≤ i →
    ∃ r p' h', Ev (fun k => spec_l03Disk.l0 k (i : Int) z p h D) (r, p', h') ∧ r.length ≤ 100 ∧ 0 ≤ p' := by
  intro d
  induction d with
  | zero =>
    intro i p h D hi hp hD
    obtain ⟨v, p1, h1, e, hv, hp1⟩ := spec_l01Below_f z p h 6 hz hp (by omega)
    exact disk_end z hz i p h D hp (by omega) v p1 h1 e hp1 (by omega)
  | succ d ih =>
    intro i p h D hi hp hD
    obtain ⟨v, p1, h1, e, hv, hp1⟩ := spec_l01Below_f z p h 6 hz hp (by omega)
    by_cases g : (i : Int) < v
    case neg => exact disk_end z hz i p h D hp (by omega) v p1 h1 e hp1 g
    obtain ⟨r2, p2, h2, e2, hr2, hp2⟩ := spec_l01Below_f z p1 h1 9 hz hp1 (by omega)
    obtain ⟨t, p3, h3, e3, ht, hp3⟩ := spec_l01Text_f z hz p2 h2 r2 hp2 hr2.1
    obtain ⟨n, p4, h4, e4, hn, hp4⟩ := spec_l03Named_f z p3 h3 hz hp3
    obtain ⟨r5, p5, h5, e5, hr5, hp5⟩ : Drew (spec_l01Below.f z p4 h4 (wrap64 ((t.size : Int) + 1))) (fun r => 0 ≤ r ∧ r < (t.size : Int) + 1) := by
      rw [wid (x := (t.size : Int) + 1) (by omega) (by omega)]
      exact spec_l01Below_f z p4 h4 ((t.size : Int) + 1) hz hp4 (by omega)
    have hlen := putV_length D ⟨n, t, r5⟩
    obtain ⟨R, p6, h6, hR, hok, hp6⟩ := ih (i + 1) p5 h5 (putV D ⟨n, t, r5⟩) (by omega) hp5 (by omega)
    refine ⟨R, p6, h6, ev_succ ?_, hok, hp6⟩
    simp only [spec_l03Disk.l0]
    refine ev_bind0 e (ev_if g (ev_bind0 e2 (ev_bind e3 (ev_bind0 e4 (ev_bind0 e5 (ev_bind (spec_l03Put_f D n t r5 (by omega)) ?_))))))
    rw [succ_i i (by omega)]
    exact hR
theorem spec_l03Disk_f (z : List Int) (hz : z.length ≤ 4611686018427387904) (p h : Int) (hp : 0 ≤ p) : ∃ r p' h', Ev (fun k => spec_l03Disk.f k z p h) (r, p', h') ∧ r.length ≤ 100 ∧ 0 ≤ p' := by
  unfold spec_l03Disk.f
  exact disk_l0 z hz 6 0 p h [] rfl hp (Nat.le_refl _)
theorem act_j0 (z : List Int) (hz : z.length ≤ 4611686018427387904) (p h : Int) (hp : 0 ≤ p) (kd : Int) (nm tx tt : ByteArray) (hx : tx.size ≤ 5000) : ∃ a b c d p' h', Ev (fun k => spec_l03Act.j0 k z p h kd nm tx tt) (a, b, c, d, p', h') ∧ c.size ≤ 5000 ∧ 0 ≤ p' := by
  obtain ⟨v, p1, h1, e, hv, hp1⟩ := spec_l01Below_f z p h 40 hz hp (by omega)
  by_cases v0 : v = 0
  · obtain ⟨x, p2, h2, e2, hx2, hp2⟩ := spec_l01PickInt_f z p1 h1 [0, 5] hz hp1 (by simp)
    refine ⟨x, nm, tx, tt, p2, h2, ev_succ ?_, hx, hp2⟩
    simp only [spec_l03Act.j0]
    exact ev_bind0 e (ev_if v0 (ev_bind0 e2 (ev_some rfl)))
  by_cases v1 : v = 1
  · obtain ⟨x, p2, h2, e2, hx2, hp2⟩ := spec_l01Pick_f z p1 h1 [(⟨#[]⟩ : ByteArray), (⟨#[49, 50, 51, 52, 53, 54, 55, 56, 57]⟩ : ByteArray), (⟨#[110, 101, 119]⟩ : ByteArray)] hz hp1 (by simp)
    refine ⟨kd, x, tx, tt, p2, h2, ev_succ ?_, hx, hp2⟩
    simp only [spec_l03Act.j0]
    exact ev_bind0 e (ev_else v0 (ev_if v1 (ev_bind0 e2 (ev_some rfl))))
  by_cases v2 : v = 2
  · refine ⟨kd, nm, tx, ⟨#[120]⟩, p1, h1, ev_succ ?_, hx, hp1⟩
    simp only [spec_l03Act.j0]
    exact ev_bind0 e (ev_else v0 (ev_else v1 (ev_if v2 (ev_some rfl))))
  by_cases v3 : v = 3
  · refine ⟨kd, nm, ⟨#[120]⟩, tt, p1, h1, ev_succ ?_, by decide, hp1⟩
    simp only [spec_l03Act.j0]
    exact ev_bind0 e (ev_else v0 (ev_else v1 (ev_else v2 (ev_if v3 (ev_some rfl)))))
  · refine ⟨kd, nm, tx, tt, p1, h1, ev_succ ?_, hx, hp1⟩
    simp only [spec_l03Act.j0]
    exact ev_bind0 e (ev_else v0 (ev_else v1 (ev_else v2 (ev_else v3 (ev_some rfl)))))
theorem spec_l03Act_f (z : List Int) (hz : z.length ≤ 4611686018427387904) (p h : Int) (hp : 0 ≤ p) : ∃ a b c d p' h', Ev (fun k => spec_l03Act.f k z p h) (a, b, c, d, p', h') ∧ c.size ≤ 5000 ∧ 0 ≤ p' := by
  unfold spec_l03Act.f
  obtain ⟨v, p1, h1, e1, hv, hp1⟩ := spec_l01Below_f z p h 4 hz hp (by omega)
  obtain ⟨n, p2, h2, e2, hn, hp2⟩ := spec_l03Named_f z p1 h1 hz hp1
  by_cases c1 : wrap64 (1 + v) = 1
  · obtain ⟨u, p3, h3, e3, hu, hp3⟩ := spec_l01Below_f z p2 h2 6 hz hp2 (by omega)
    obtain ⟨t, p4, h4, e4, ht, hp4⟩ := spec_l01Text_f z hz p3 h3 u hp3 hu.1
    obtain ⟨a, b, c, d, p5, h5, e5, hc, hp5⟩ := act_j0 z hz p4 h4 hp4 (wrap64 (1 + v)) n t ⟨#[]⟩ ht
    exact ⟨a, b, c, d, p5, h5, ev_bind0 e1 (ev_bind0 e2 (ev_if c1 (ev_bind0 e3 (ev_bind e4 e5)))), hc, hp5⟩
  by_cases c3 : wrap64 (1 + v) = 3
  · obtain ⟨m, p3, h3, e3, hm, hp3⟩ := spec_l03Named_f z p2 h2 hz hp2
    obtain ⟨a, b, c, d, p5, h5, e5, hc, hp5⟩ := act_j0 z hz p3 h3 hp3 (wrap64 (1 + v)) n ⟨#[]⟩ m (by decide)
    exact ⟨a, b, c, d, p5, h5, ev_bind0 e1 (ev_bind0 e2 (ev_else c1 (ev_if c3 (ev_bind0 e3 e5)))), hc, hp5⟩
  · obtain ⟨a, b, c, d, p5, h5, e5, hc, hp5⟩ := act_j0 z hz p2 h2 hp2 (wrap64 (1 + v)) n ⟨#[]⟩ ⟨#[]⟩ (by decide)
    exact ⟨a, b, c, d, p5, h5, ev_bind0 e1 (ev_bind0 e2 (ev_else c1 (ev_else c3 e5))), hc, hp5⟩
theorem act_len (kd : Int) (nm tx tt : ByteArray) (l : List S45) : (actV kd nm tx tt l).1.length ≤ 100 := by
  unfold actV
  by_cases h : diskOkB l = true
  · rw [if_pos h]
    by_cases h2 : (doV kd nm tx tt l).2 = true
    · rw [if_pos h2]
      have := ((diskOk_iff _).1 (do_ok h h2)).1
      show (doV kd nm tx tt l).1.length ≤ 100
      omega
    · rw [if_neg h2]; show (0 : Nat) ≤ _; omega
  · rw [if_neg h]; show (0 : Nat) ≤ _; omega
theorem acts_l0 (z : List Int) (hz : z.length ≤ 4611686018427387904) : ∀ (d i : Nat) (p h : Int) (Q : List S55) (D : List S45), i + d = 9 → 0 ≤ p → Q.length ≤ i → D.length ≤ 100 → (∀ a ∈ Q, a.f2.size ≤ 5000) →
    ∃ r p' h', Ev (fun k => spec_l03Acts.l0 k Q (i : Int) z p h D) (r, p', h') ∧ r.length ≤ 9 ∧ (∀ a ∈ r, a.f2.size ≤ 5000) ∧ 0 ≤ p' := by
  intro d
  induction d with
  | zero =>
    intro i p h Q D hi hp hQ hD hq
    obtain ⟨v, p1, h1, e, hv, hp1⟩ := spec_l01Below_f z p h 9 hz hp (by omega)
    refine ⟨Q, p1, h1, ev_succ ?_, by omega, hq, hp1⟩
    simp only [spec_l03Acts.l0]
    exact ev_bind0 e (ev_else (by show ¬ (i : Int) < v; omega) (ev_some rfl))
  | succ d ih =>
    intro i p h Q D hi hp hQ hD hq
    obtain ⟨v, p1, h1, e, hv, hp1⟩ := spec_l01Below_f z p h 9 hz hp (by omega)
    by_cases g : (i : Int) < v
    case neg =>
      refine ⟨Q, p1, h1, ev_succ ?_, by omega, hq, hp1⟩
      simp only [spec_l03Acts.l0]
      exact ev_bind0 e (ev_else g (ev_some rfl))
    obtain ⟨a, b, c, dd, p2, h2, e2, hc, hp2⟩ := spec_l03Act_f z hz p1 h1 hp1
    have e3 := spec_DoAct_f D a b c dd (by omega) (by omega)
    have hl := act_len a b c dd D
    generalize actV a b c dd D = V at e3 hl
    obtain ⟨D2, ok⟩ := V
    dsimp only at hl
    have hQ2 : Q.length < 2513169434916 := by omega
    have hq2 : ∀ y ∈ Q ++ [(⟨a, b, c, dd⟩ : S55)], y.f2.size ≤ 5000 := by
      intro y hy
      rcases List.mem_append.1 hy with hy | hy
      · exact hq y hy
      · rw [List.mem_singleton.1 hy]; exact hc
    by_cases hok : ok = true
    · obtain ⟨r, p4, h4, e4, q1, q2, q3⟩ := ih (i + 1) p2 h2 (Q ++ [⟨a, b, c, dd⟩]) D2 (by omega) hp2 (by rw [List.length_append, List.length_singleton]; omega) hl hq2
      refine ⟨r, p4, h4, ev_succ ?_, q1, q2, q3⟩
      simp only [spec_l03Acts.l0]
      rw [succ_i i (by omega)]
      exact ev_bind0 e (ev_if g (ev_bind e2 (ev_bind e3 (ev_if hok (ev_if hQ2 e4)))))
    obtain ⟨o, p3, h3, eo, hp3⟩ := once_f z p2 h2 20 hz hp2 (by omega)
    by_cases ho : o = true
    · obtain ⟨r, p4, h4, e4, q1, q2, q3⟩ := ih (i + 1) p3 h3 (Q ++ [⟨a, b, c, dd⟩]) D2 (by omega) hp3 (by rw [List.length_append, List.length_singleton]; omega) hl hq2
      refine ⟨r, p4, h4, ev_succ ?_, q1, q2, q3⟩
      simp only [spec_l03Acts.l0]
      rw [succ_i i (by omega)]
      exact ev_bind0 e (ev_if g (ev_bind e2 (ev_bind e3 (ev_else hok (ev_bind0 eo (ev_if ho (ev_if hQ2 e4)))))))
    · obtain ⟨r, p4, h4, e4, q1, q2, q3⟩ := ih (i + 1) p3 h3 Q D (by omega) hp3 (by omega) hD hq
      refine ⟨r, p4, h4, ev_succ ?_, q1, q2, q3⟩
      simp only [spec_l03Acts.l0]
      rw [succ_i i (by omega)]
      exact ev_bind0 e (ev_if g (ev_bind e2 (ev_bind e3 (ev_else hok (ev_bind0 eo (ev_else ho e4))))))
theorem spec_l03Acts_f (z : List Int) (hz : z.length ≤ 4611686018427387904) (p h : Int) (hp : 0 ≤ p) (D : List S45) (hD : D.length ≤ 100) : ∃ r p' h', Ev (fun k => spec_l03Acts.f k z p h D) (r, p', h') ∧ r.length ≤ 9 ∧ (∀ a ∈ r, a.f2.size ≤ 5000) ∧ 0 ≤ p' := by
  unfold spec_l03Acts.f
  exact acts_l0 z hz 9 0 p h [] D rfl hp (Nat.le_refl _) hD (fun a ha => by cases ha)
theorem spec_l01Place_f (z : List Int) (hz : z.length ≤ 4611686018427387904) (p h n : Int) (hp : 0 ≤ p) (hn : 0 < n) : ∃ r p' h', spec_l01Place.f z p h n = some (r, p', h') ∧ 0 ≤ p' := by
  unfold spec_l01Place.f
  obtain ⟨o, p1, h1, eo, hp1⟩ := once_f z p h 15 hz hp (by omega)
  rw [eo]
  simp only [Option.bind_some]
  by_cases ho : o = true
  · rw [if_pos ho]
    obtain ⟨x, p2, h2, e2, hx2, hp2⟩ := spec_l01PickInt_f z p1 h1 [(-1), n, wrap64 (n + 1), 9223372036854775807, (-9223372036854775808)] hz hp1 (by simp)
    rw [e2]
    exact ⟨_, _, _, rfl, hp2⟩
  · rw [if_neg ho]
    obtain ⟨x, p2, h2, e2, hx2, hp2⟩ := spec_l01Below_f z p1 h1 n hz hp1 hn
    rw [e2]
    exact ⟨_, _, _, rfl, hp2⟩
theorem left_l0 (z : List Int) (hz : z.length ≤ 4611686018427387904) : ∀ (d i : Nat) (p h : Int) (Q : List Int), i + d = 6 → 0 ≤ p → Q.length ≤ i →
    ∃ r p' h', Ev (fun k => spec_l03Left.l0 k Q (i : Int) z p h) (r, p', h') := by
  intro d
  induction d with
  | zero =>
    intro i p h Q hi hp hQ
    obtain ⟨v, p1, h1, e, hv, hp1⟩ := spec_l01Below_f z p h 6 hz hp (by omega)
    refine ⟨Q, p1, h1, ev_succ ?_⟩
    simp only [spec_l03Left.l0]
    exact ev_bind0 e (ev_else (by show ¬ (i : Int) < v; omega) (ev_some rfl))
  | succ d ih =>
    intro i p h Q hi hp hQ
    obtain ⟨v, p1, h1, e, hv, hp1⟩ := spec_l01Below_f z p h 6 hz hp (by omega)
    by_cases g : (i : Int) < v
    case neg =>
      refine ⟨Q, p1, h1, ev_succ ?_⟩
      simp only [spec_l03Left.l0]
      exact ev_bind0 e (ev_else g (ev_some rfl))
    obtain ⟨x, p2, h2, e2, hx2, hp2⟩ := spec_l01PickInt_f z p1 h1 [0, 1, 2, 3, 5, 9, 40, 200, (-1), 9223372036854775807] hz hp1 (by simp)
    obtain ⟨r, p3, h3, e3⟩ := ih (i + 1) p2 h2 (Q ++ [x]) (by omega) hp2 (by rw [List.length_append, List.length_singleton]; omega)
    refine ⟨r, p3, h3, ev_succ ?_⟩
    simp only [spec_l03Left.l0]
    rw [succ_i i (by omega)]
    exact ev_bind0 e (ev_if g (ev_bind0 e2 (ev_if (by omega) e3)))
theorem spec_DrawCutActs_f (z : List Int) (hz : z.length ≤ 4611686018427387904) : ∃ D Q w left, Ev (fun k => spec_DrawCutActs.f k z) (D, Q, w, left) ∧ D.length ≤ 100 ∧ Q.length ≤ 9 ∧ ∀ a ∈ Q, a.f2.size ≤ 5000 := by
  unfold spec_DrawCutActs.f
  obtain ⟨h, e⟩ := spec_l01New_f z hz
  obtain ⟨D, p1, h1, e1, hD, hp1⟩ := spec_l03Disk_f z hz 0 h (by omega)
  obtain ⟨Q, p2, h2, e2, hQ, hq, hp2⟩ := spec_l03Acts_f z hz p1 h1 hp1 D hD
  obtain ⟨w, p3, h3, e3, hp3⟩ := spec_l01Place_f z hz p2 h2 ((Q.length : Int) + 1) hp2 (by omega)
  obtain ⟨left, p4, h4, e4⟩ := left_l0 z hz 6 0 p3 h3 [] rfl hp3 (Nat.le_refl _)
  refine ⟨D, Q, w, left, ev_bind e (ev_bind e1 (ev_bind e2 ?_)), hD, hQ, hq⟩
  show Ev (fun k => (spec_l01Place.f z p2 h2 (wrap64 ((Q.length : Int) + 1))).bind _) _
  rw [wid (x := (Q.length : Int) + 1) (by omega) (by omega)]
  exact ev_bind0 e3 (ev_bind e4 (ev_some rfl))
def lostV (q : List Int) (l : List S45) : List S45 × Bool := if diskOkB l = true then (impl_Disk_lose.lostTo q l l.length, true) else ([], false)
theorem lostTo_take (q : List Int) (l : List S45) (i : Nat) (h : i < l.length) : (impl_Disk_lose.lostTo q l (i + 1)).take (i + 1) = (impl_Disk_lose.lostTo q l i).take i ++ [impl_Disk_lose.lx q i (rd_T45 l (i : Int))] := by
  have hl := impl_Disk_lose.lostTo_length q l i
  rw [impl_Disk_lose.lostTo, List.take_succ_eq_append_getElem (by rw [List.length_set]; omega), List.getElem_set_self, List.take_set_of_le (Nat.le_refl _)]
  rfl
theorem extract_all (t : ByteArray) (n : Int) (h : n.toNat = t.size) : t.extract 0 n.toNat = t := by
  rw [h]
  exact ByteArray.extract_zero_size
theorem spec_LoseDisk_l0 (l : List S45) (q : List Int) (hl : l.length ≤ 1048576) (hk : ∀ x ∈ l, 0 ≤ x.f2 ∧ x.f2 ≤ (x.f1.size : Int)) : ∀ (d i : Nat), i + d = l.length →
    Ev (fun k => spec_LoseDisk.l0 k q (i : Int) l ((impl_Disk_lose.lostTo q l i).take i)) (impl_Disk_lose.lostTo q l l.length, true) := by
  intro d
  induction d with
  | zero =>
    intro i hi
    refine ev_succ ?_
    simp only [spec_LoseDisk.l0]
    refine ev_else (by omega) (ev_some ?_)
    obtain rfl : i = l.length := by omega
    rw [List.take_of_length_le (by rw [impl_Disk_lose.lostTo_length]; exact Nat.le_refl _)]
  | succ d ih =>
    intro i hi
    have hx := hk (rd_T45 l (i : Int)) (by
      have : i < l.length := by omega
      show l.getD i z45 ∈ l
      rw [List.getD_eq_getElem?_getD, List.getElem?_eq_getElem this]
      exact List.getElem_mem _)
    have hlen : ((impl_Disk_lose.lostTo q l i).take i).length < 3518437208883 := by rw [List.length_take, impl_Disk_lose.lostTo_length]; omega
    have step := ih (i + 1) (by omega)
    rw [lostTo_take q l i (by omega)] at step
    rw [← succ_i i (by omega)] at step
    have go : ∀ n0 : Int, n0 = (if i < q.length then q.getD i 0 else 0) → Ev (fun k => spec_LoseDisk.j1 k q (i : Int) n0 l ((impl_Disk_lose.lostTo q l i).take i) (rd_T45 l (i : Int)).f0 (rd_T45 l (i : Int)).f1 (rd_T45 l (i : Int)).f2) (impl_Disk_lose.lostTo q l l.length, true) := by
      intro n0 hn0
      generalize rd_T45 l (i : Int) = x at hx step ⊢
      obtain ⟨hx0, hx1⟩ := hx
      have hz : impl_Disk_lose.lz q i x = (if (if n0 > (x.f1.size : Int) then (x.f1.size : Int) else n0) < x.f2 then x.f2 else (if n0 > (x.f1.size : Int) then (x.f1.size : Int) else n0)) := by
        unfold impl_Disk_lose.lz
        subst hn0
        by_cases hq : i < q.length
        · simp only [if_pos hq]
          generalize q.getD i 0 = y
          repeat' split
          all_goals omega
        · simp only [if_neg hq]
          repeat' split
          all_goals omega
      simp only [impl_Disk_lose.lx] at step
      refine ev_succ ?_
      simp only [spec_LoseDisk.j1]
      by_cases h1 : n0 > (x.f1.size : Int)
      · simp only [if_pos h1] at hz
        refine ev_if h1 ?_
        by_cases h2 : (x.f1.size : Int) < x.f2
        · omega
        · rw [if_neg h2] at hz
          rw [hz, extract_all _ _ (by omega)] at step
          exact ev_else h2 (ev_if (by omega) (ev_if (by omega) (ev_if hlen step)))
      · simp only [if_neg h1] at hz
        refine ev_else h1 ?_
        by_cases h2 : n0 < x.f2
        · rw [if_pos h2] at hz
          rw [hz] at step
          exact ev_if h2 (ev_if (by omega) (ev_if (by omega) (ev_if hlen step)))
        · rw [if_neg h2] at hz
          rw [hz] at step
          exact ev_else h2 (ev_if (by omega) (ev_if (by omega) (ev_if hlen step)))
    refine ev_succ ?_
    simp only [spec_LoseDisk.l0]
    refine ev_if (by omega) (ev_if (by omega) ?_)
    by_cases hq : i < q.length
    · exact ev_if (by omega) (go _ (by rw [if_pos hq]; rfl))
    · exact ev_else (by omega) (go _ (by rw [if_neg hq]))
theorem spec_LoseDisk_f (l : List S45) (q : List Int) (hl : l.length ≤ 1048576) : Ev (fun k => spec_LoseDisk.f k l q) (lostV q l) := by
  unfold spec_LoseDisk.f lostV
  refine ev_bind (spec_DiskOk_f l (by omega)) ?_
  by_cases h : diskOkB l = true
  · obtain ⟨h1, h2⟩ := diskOk_all l h
    have := spec_LoseDisk_l0 l q hl (fun x hx => (h2 x hx).2.2) l.length 0 (by omega)
    exact ev_eq (ev_if h this) (if_pos h).symm
  · exact ev_eq (ev_else h (ev_some rfl)) (if_neg h).symm
theorem actsV_ok : ∀ (q : List S55) (n : Nat) (l : List S45), diskOkB l = true → diskOkB (actsV q n l).1 = true := by
  intro q
  induction q with
  | nil => intro n l h; exact h
  | cons a q ih =>
    intro n l h
    rw [actsV]
    split
    · rename_i h2
      exact ih _ _ (do_ok h h2)
    · exact h
theorem actsV_n : ∀ (q : List S55) (n : Nat) (l : List S45), (n : Int) ≤ (actsV q n l).2 ∧ (actsV q n l).2 ≤ ((n + q.length : Nat) : Int) := by
  intro q
  induction q with
  | nil => intro n l; exact ⟨Int.le_refl _, by show (n : Int) ≤ ((n + 0 : Nat) : Int); omega⟩
  | cons a q ih =>
    intro n l
    rw [actsV, List.length_cons]
    split
    · have := ih (n + 1) (doV a.f0 a.f1 a.f2 a.f3 l).1
      omega
    · show (n : Int) ≤ (n : Int) ∧ (n : Int) ≤ _
      omega
theorem doActs_n (l : List S45) (q : List S55) : 0 ≤ (doActsV l q).2 ∧ (doActsV l q).2 ≤ (q.length : Int) := by
  unfold doActsV
  split
  · have := actsV_n q 0 l
    omega
  · show (0 : Int) ≤ 0 ∧ (0 : Int) ≤ _
    omega
def cutV (l : List S45) (q : List S55) (a : Int) (left : List Int) : List S45 × Bool := if 0 ≤ a ∧ a ≤ (q.length : Int) ∧ (doActsV l (q.take a.toNat)).2 = a then lostV left (doActsV l (q.take a.toNat)).1 else ([], false)
theorem cut_no {l : List S45} {q : List S55} {a : Int} {left : List Int} (h : ¬ (0 ≤ a ∧ a ≤ (q.length : Int) ∧ (doActsV l (q.take a.toNat)).2 = a)) : cutV l q a left = ([], false) := if_neg h
theorem cut_bad {l : List S45} {q : List S55} {a : Int} {left : List Int} (h : ¬ diskOkB l = true) : cutV l q a left = ([], false) := by
  unfold cutV
  split
  · unfold doActsV lostV
    rw [if_neg h]
    exact if_neg h
  · rfl
theorem impl_CutActs_f (l : List S45) (q : List S55) (a : Int) (left : List Int) (hl : l.length ≤ 1048576) (hql : q.length ≤ 1048576) (hq : ∀ b ∈ q, b.f2.size ≤ 1048576) : Ev (fun k => impl_CutActs.f k l q a left) (cutV l q a left) := by
  unfold impl_CutActs.f
  refine ev_bind0 (impl_inRange_f a 0 (q.length : Int)) ?_
  by_cases h0 : 0 ≤ a ∧ a ≤ (q.length : Int)
  case neg =>
    refine ev_else (by simpa using h0) (ev_some ?_)
    rw [cut_no (fun h => h0 ⟨h.1, h.2.1⟩)]
  refine ev_if (by simpa using h0) (ev_bind (impl_DiskOk_f l (by omega)) ?_)
  by_cases h : diskOkB l = true
  case neg =>
    refine ev_else h (ev_some ?_)
    rw [cut_bad h]
  have hm : ∀ b ∈ q.take a.toNat, b.f2.size ≤ 1048576 := fun b hb => hq b (List.mem_of_mem_take hb)
  refine ev_if h (ev_bind (impl_DoActs_f l (q.take a.toNat) hl (by rw [List.length_take]; omega) hm) ?_)
  have hok : diskOkB (doActsV l (q.take a.toNat)).1 = true := by
    unfold doActsV
    rw [if_pos h]
    exact actsV_ok _ _ _ h
  by_cases hn : (doActsV l (q.take a.toNat)).2 = a
  · obtain ⟨h1, h2⟩ := diskOk_all _ hok
    refine ev_if hn (ev_if ⟨by omega, fun x hx => (h2 x hx).2.2⟩ (ev_some ?_))
    unfold cutV lostV
    rw [if_pos ⟨h0.1, h0.2, hn⟩, if_pos hok]
  · refine ev_else hn (ev_some ?_)
    rw [cut_no (fun h => hn h.2.2)]
theorem spec_CutActs_f (l : List S45) (q : List S55) (a : Int) (left : List Int) (hl : l.length ≤ 1048576) (hql : q.length ≤ 1048576) (hq : ∀ b ∈ q, b.f2.size ≤ 1048576) : Ev (fun k => spec_CutActs.f k l q a left) (cutV l q a left) := by
  unfold spec_CutActs.f
  refine ev_bind0 (spec_l01In_f a 0 (q.length : Int)) ?_
  by_cases h0 : 0 ≤ a ∧ a ≤ (q.length : Int)
  case neg =>
    refine ev_else (by simpa using h0) (ev_some ?_)
    rw [cut_no (fun h => h0 ⟨h.1, h.2.1⟩)]
  refine ev_if (by simpa using h0) (ev_if h0.1 (ev_if h0.2 ?_))
  have hm : ∀ b ∈ q.take a.toNat, b.f2.size ≤ 1048576 := fun b hb => hq b (List.mem_of_mem_take hb)
  have ht : (q.take a.toNat).length = a.toNat := by rw [List.length_take]; omega
  have hlen := doActs_length l (q.take a.toNat) hl
  have hn := doActs_n l (q.take a.toNat)
  refine ev_bind (spec_DoActs_f l (q.take a.toNat) hl (by omega) hm) ?_
  by_cases hlt : (doActsV l (q.take a.toNat)).2 < a
  · refine ev_if hlt (ev_some ?_)
    rw [cut_no (fun h => by omega)]
  · refine ev_else hlt (ev_bind (spec_LoseDisk_f _ left hlen) (ev_some ?_))
    unfold cutV
    rw [if_pos ⟨h0.1, h0.2, by omega⟩]
def fileAtV (l : List S45) (s : ByteArray) : ByteArray × Bool :=
  match l.find? (fun f => decide (f.f0 = s)) with
  | none => (⟨#[]⟩, false)
  | some f => (f.f1, true)
theorem fileAtV_at (l : List S45) (s : ByteArray) (i : Nat) (h : i < l.length) :
    fileAtV (l.drop i) s = if (rd_T45 l (i : Int)).f0 = s then ((rd_T45 l (i : Int)).f1, true) else fileAtV (l.drop (i + 1)) s := by
  rw [drop_getD l z45 i h]
  have e : rd_T45 l (i : Int) = l.getD i z45 := rfl
  rw [← e]
  unfold fileAtV
  by_cases hc : (rd_T45 l (i : Int)).f0 = s
  · rw [if_pos hc, List.find?_cons_of_pos (by simpa using hc)]
  · rw [if_neg hc, List.find?_cons_of_neg (by simpa using hc)]
theorem impl_FileAt_l0 (l : List S45) (s : ByteArray) (hl : l.length ≤ 4611686018427387904) : ∀ (d i : Nat), i + d = l.length →
    Ev (fun k => impl_FileAt.l0 k s l (l.length : Int) (i : Int)) (fileAtV (l.drop i) s) := by
  intro d
  induction d with
  | zero =>
    intro i hi
    refine ev_succ ?_
    simp only [impl_FileAt.l0]
    refine ev_else (by omega) (ev_some ?_)
    rw [drop_end l i (by omega)]
    rfl
  | succ d ih =>
    intro i hi
    refine ev_succ ?_
    simp only [impl_FileAt.l0]
    refine ev_if (by omega) (ev_if (by omega) (ev_if (by omega) ?_))
    rw [fileAtV_at l s i (by omega), succ_i i (by omega)]
    by_cases hc : (rd_T45 l (i : Int)).f0 = s
    · exact ev_if ((toList_iff _ _).2 hc) (ev_some (congrArg some (if_pos hc).symm))
    · exact ev_else (fun h => hc ((toList_iff _ _).1 h)) (ev_eq (ih (i + 1) (by omega)) (if_neg hc).symm)
theorem impl_FileAt_f (l : List S45) (s : ByteArray) (hl : l.length ≤ 4611686018427387904) : Ev (fun k => impl_FileAt.f k l s) (fileAtV l s) := by
  have := impl_FileAt_l0 l s hl l.length 0 (by omega)
  simpa [impl_FileAt.f] using this
theorem fileAt_cons (x : S45) (xs : List S45) (s : ByteArray) : fileAtV (x :: xs) s = if x.f0 = s then (x.f1, true) else fileAtV xs s := by
  unfold fileAtV
  by_cases h : x.f0 = s
  · rw [if_pos h, List.find?_cons_of_pos (by simpa using h)]
  · rw [if_neg h, List.find?_cons_of_neg (by simpa using h)]
theorem fileAt_no : ∀ (l : List S45) (s : ByteArray), (∀ x ∈ l, x.f0 ≠ s) → fileAtV l s = (⟨#[]⟩, false)
  | [], _, _ => rfl
  | x :: xs, s, h => by
    rw [fileAt_cons, if_neg (h x (List.mem_cons_self ..))]
    exact fileAt_no xs s (fun y hy => h y (List.mem_cons_of_mem _ hy))
theorem fileAt_skip (s : ByteArray) (B : List S45) : ∀ (A : List S45), (∀ x ∈ A, x.f0 ≠ s) → fileAtV (A ++ B) s = fileAtV B s
  | [], _ => rfl
  | x :: xs, h => by
    rw [List.cons_append, fileAt_cons, if_neg (h x (List.mem_cons_self ..))]
    exact fileAt_skip s B xs (fun y hy => h y (List.mem_cons_of_mem _ hy))
theorem fileAt_put (l : List S45) (f : S45) : fileAtV (putV l f) f.f0 = (f.f1, true) := by
  unfold putV
  rw [List.append_assoc, fileAt_skip f.f0 _ _ (fun x hx => lessB_ne (List.mem_filter.1 hx).2), List.singleton_append, fileAt_cons, if_pos rfl]
theorem fileAt_without (l : List S45) (s : ByteArray) : fileAtV (withoutV l s) s = (⟨#[]⟩, false) := by
  refine fileAt_no _ _ (fun x hx => ?_)
  have := (List.mem_filter.1 hx).2
  simpa using this
theorem fileAt_has (s : ByteArray) : ∀ (l : List S45), Srt l → fileAtV l s = if impl_Disk_place.has s l = true then ((l.getD (impl_Disk_place.idx s l) z45).f1, true) else (⟨#[]⟩, false)
  | [], _ => rfl
  | x :: xs, hs => by
    obtain ⟨hx, hs⟩ := srt_cons.1 hs
    rw [pl_has_cons, pl_idx_cons, fileAt_cons]
    by_cases h : lessB x.f0 s = true
    · rw [if_pos h, if_pos h, if_neg (lessB_ne h), fileAt_has s xs hs]
      rfl
    · rw [if_neg h, if_neg h]
      by_cases e : x.f0 = s
      · rw [if_pos e, decide_eq_true e, if_pos rfl]; rfl
      · rw [if_neg e, decide_eq_false e, if_neg (by simp)]
        have hgt : lessB s x.f0 = true := by
          cases hq : lessB s x.f0 with
          | true => rfl
          | false => exact absurd (lessB_tri (Bool.eq_false_iff.2 h) hq) e
        exact fileAt_no xs s (fun y hy e2 => by
          have := lessB_trans hgt (hx y hy)
          rw [e2, lessB_irrefl] at this
          cases this)
/-- what is added stands behind what was there -/
theorem do_add (nm tx tt : ByteArray) (l : List S45) (hs : Srt l) : fileAtV (doV 1 nm tx tt l).1 nm = ((fileAtV l nm).1 ++ tx, true) := by
  have hn : (impl_Disk_do.addF nm tx l).f0 = nm := by
    unfold impl_Disk_do.addF
    dsimp only
    split
    · rename_i h; exact pl_name h
    · rfl
  have hp := fileAt_put l (impl_Disk_do.addF nm tx l)
  rw [hn] at hp
  show fileAtV (putV l (impl_Disk_do.addF nm tx l)) nm = _
  rw [hp, fileAt_has nm l hs]
  unfold impl_Disk_do.addF
  dsimp only
  split <;> rfl
/-- what is dropped is not there -/
theorem do_drop (nm tx tt : ByteArray) (l : List S45) (h : (doV 4 nm tx tt l).2 = true) : fileAtV (doV 4 nm tx tt l).1 nm = (⟨#[]⟩, false) := by
  unfold doV at h ⊢
  rw [if_neg (by decide)] at h ⊢
  by_cases h1 : impl_Disk_place.has nm l = true
  case neg => rw [if_neg h1] at h; cases h
  rw [if_pos h1] at h ⊢
  by_cases h2 : tx.toList.isEmpty = true
  case neg => rw [if_neg h2] at h; cases h
  rw [if_pos h2, if_neg (by decide)] at h ⊢
  by_cases h3 : tt.toList.isEmpty = true
  case neg => rw [if_neg h3] at h; cases h
  rw [if_pos h3, if_neg (by decide), if_pos rfl]
  exact fileAt_without l nm
theorem acts_end : ∀ (q : List S55) (n : Nat) (l : List S45), (actsV q n l).2 = (n : Int) → (actsV q n l).1 = l
  | [], _, _, _ => rfl
  | a :: q, n, l, h => by
    rw [actsV] at h ⊢
    split
    · rename_i h2
      rw [if_pos h2] at h
      have := actsV_n q (n + 1) (doV a.f0 a.f1 a.f2 a.f3 l).1
      omega
    · rfl
theorem acts_more : ∀ (a : S55) (q : List S55) (n : Nat) (l : List S45), (n : Int) < (actsV (a :: q) n l).2 → (doV a.f0 a.f1 a.f2 a.f3 l).2 = true ∧ actsV (a :: q) n l = actsV q (n + 1) (doV a.f0 a.f1 a.f2 a.f3 l).1 := by
  intro a q n l h
  rw [actsV] at h ⊢
  by_cases h2 : (doV a.f0 a.f1 a.f2 a.f3 l).2 = true
  · rw [if_pos h2]; exact ⟨h2, rfl⟩
  · rw [if_neg h2] at h
    have : (n : Int) < (n : Int) := h
    omega
theorem impl_DoAct_f (kd : Int) (nm tx tt : ByteArray) (l : List S45) (hl : l.length ≤ 1048576) (htx : tx.size ≤ 1048576) : Ev (fun k => impl_DoAct.f k l kd nm tx tt) (actV kd nm tx tt l) := by
  unfold impl_DoAct.f actV
  refine ev_if (by omega) (ev_bind (impl_DiskOk_f l (by omega)) ?_)
  by_cases h : diskOkB l = true
  · refine ev_eq (ev_if h (ev_bind0 (doF_eq kd nm tx tt l h htx) ?_)) (if_pos h).symm
    by_cases h2 : (doV kd nm tx tt l).2 = true
    · exact ev_eq (ev_if h2 (ev_some rfl)) (if_pos h2).symm
    · exact ev_eq (ev_else h2 (ev_some rfl)) (if_neg h2).symm
  · exact ev_eq (ev_else h (ev_some rfl)) (if_neg h).symm
theorem laws_sameDisk_l0 (l : List S45) (hl : l.length ≤ 1048576) : ∀ (d i : Nat), i + d = l.length → Ev (fun k => laws_sameDisk.l0 k (i : Int) l l) true := by
  intro d
  induction d with
  | zero =>
    intro i hi
    refine ev_succ ?_
    simp only [laws_sameDisk.l0]
    exact ev_else (by omega) (ev_some rfl)
  | succ d ih =>
    intro i hi
    refine ev_succ ?_
    simp only [laws_sameDisk.l0]
    refine ev_if (by omega) (ev_if (by omega) (ev_if (by omega) (ev_else (by simp) ?_)))
    rw [succ_i i (by omega)]
    exact ih (i + 1) (by omega)
theorem laws_sameDisk_f (l : List S45) (hl : l.length ≤ 1048576) : Ev (fun k => laws_sameDisk.f k l l) true := by
  unfold laws_sameDisk.f
  exact ev_if rfl (laws_sameDisk_l0 l hl l.length 0 (by omega))
/-- the disk behind the first i acts -/
def diskAt (l : List S45) (q : List S55) : Nat → List S45
  | 0 => l
  | i + 1 => (doV ((rd_T55 q (i : Int)).f0) ((rd_T55 q (i : Int)).f1) ((rd_T55 q (i : Int)).f2) ((rd_T55 q (i : Int)).f3) (diskAt l q i)).1
theorem rdT_nat (q : List S55) (i : Nat) : rd_T55 q (i : Int) = q.getD i z55 := rfl
theorem diskAt_run (l : List S45) (q : List S55) (n : Nat) (hok : diskOkB l = true) (hn : (actsV q 0 l).2 = (n : Int)) : ∀ i, i ≤ n → diskOkB (diskAt l q i) = true ∧ actsV (q.drop i) i (diskAt l q i) = actsV q 0 l := by
  intro i
  induction i with
  | zero => intro _; exact ⟨hok, rfl⟩
  | succ i ih =>
    intro hi
    obtain ⟨h1, h2⟩ := ih (by omega)
    have hlen : i < q.length := by
      have := (actsV_n (q.drop i) i (diskAt l q i)).2
      rw [h2, hn, List.length_drop] at this
      omega
    have hd := drop_getD q z55 i hlen
    rw [hd] at h2
    obtain ⟨h3, h4⟩ := acts_more (q.getD i z55) (q.drop (i + 1)) i (diskAt l q i) (by rw [h2, hn]; omega)
    refine ⟨do_ok h1 h3, ?_⟩
    show actsV (q.drop (i + 1)) (i + 1) (doV _ _ _ _ (diskAt l q i)).1 = _
    rw [← h2, h4]
    rfl
theorem diskAt_end (l : List S45) (q : List S55) (n : Nat) (hok : diskOkB l = true) (hn : (actsV q 0 l).2 = (n : Int)) : diskAt l q n = (actsV q 0 l).1 := by
  obtain ⟨h1, h2⟩ := diskAt_run l q n hok hn n (Nat.le_refl _)
  rw [← h2]
  exact (acts_end (q.drop n) n (diskAt l q n) (by rw [h2]; exact hn)).symm
theorem diskAt_step (l : List S45) (q : List S55) (n i : Nat) (hok : diskOkB l = true) (hn : (actsV q 0 l).2 = (n : Int)) (hi : i < n) :
    (doV ((rd_T55 q (i : Int)).f0) ((rd_T55 q (i : Int)).f1) ((rd_T55 q (i : Int)).f2) ((rd_T55 q (i : Int)).f3) (diskAt l q i)).2 = true ∧ i < q.length := by
  obtain ⟨h1, h2⟩ := diskAt_run l q n hok hn i (by omega)
  have hlen : i < q.length := by
    have := (actsV_n (q.drop i) i (diskAt l q i)).2
    rw [h2, hn, List.length_drop] at this
    omega
  rw [drop_getD q z55 i hlen] at h2
  exact ⟨(acts_more (q.getD i z55) (q.drop (i + 1)) i (diskAt l q i) (by rw [h2, hn]; omega)).1, hlen⟩
theorem fileAt_size (l : List S45) (s : ByteArray) (h : diskOkB l = true) : (fileAtV l s).1.size ≤ 20000 := by
  unfold fileAtV
  cases hf : l.find? (fun f => decide (f.f0 = s)) with
  | none => show (0 : Nat) ≤ _; omega
  | some f =>
    have h1 := ((diskOk_iff l).1 h).2.1 f (List.mem_of_find?_eq_some hf)
    simp only [fileOkB, Bool.and_eq_true, decide_eq_true_eq] at h1
    exact h1.2.1
theorem all_below (P : Nat → Nat → Prop) : ∀ n, (∀ i, i < n → ∃ K, ∀ k, K ≤ k → P i k) → ∃ K, ∀ k, K ≤ k → ∀ i, i < n → P i k
  | 0, _ => ⟨0, fun k _ i hi => by omega⟩
  | n + 1, h => by
    obtain ⟨K, hK⟩ := all_below P n (fun i hi => h i (by omega))
    obtain ⟨K', hK'⟩ := h n (by omega)
    refine ⟨max K K', fun k hk i hi => ?_⟩
    rcases Nat.lt_or_eq_of_le (Nat.le_of_lt_succ hi) with h1 | h1
    · exact hK k (by omega) i h1
    · subst h1; exact hK' k (by omega)
theorem cut_len (l : List S45) (q : List S55) (a : Int) (z : List Int) (h : l.length ≤ 1048576) : (cutV l q a z).1.length ≤ 1048576 := by
  unfold cutV
  split
  · unfold lostV
    split
    · show (impl_Disk_lose.lostTo _ _ _).length ≤ _
      rw [impl_Disk_lose.lostTo_length]
      exact doActs_length _ _ h
    · show (0 : Nat) ≤ _
      omega
  · show (0 : Nat) ≤ _
    omega
theorem FnActs (l0 : List Int) (h0 : l0.length ≤ maxLen ∧ ∀ x ∈ l0, (Lit.int .u8 x).wf = true) : ∃ k, laws_FnActs.f k l0 = some true := by
  suffices hk : ∃ k, laws_FnActs.Fine k l0 by
    obtain ⟨k, hk⟩ := hk
    exact ⟨k, if_pos hk⟩
  by_cases hbig : 1048576 < l0.length
  · exact ⟨0, .inl hbig⟩
  obtain ⟨d, q, w, left, e1, hd, hq, hq5⟩ := spec_DrawCutActs_f l0 (by omega)
  have hq1 : ∀ a ∈ q, a.f2.size ≤ 1048576 := fun a ha => by have := hq5 a ha; omega
  have e2 := impl_DoActs_f d q (by omega) (by omega) hq1
  have e3 := spec_DoActs_f d q (by omega) (by omega) hq1
  have hlen := doActs_length d q (by omega)
  have e5 := impl_CutActs_f d q w left (by omega) (by omega) hq1
  have e6 := spec_CutActs_f d q w left (by omega) (by omega) hq1
  have hcl := cut_len d q w left (by omega)
  generalize cutV d q w left = C at e5 e6 hcl
  obtain ⟨cut, may⟩ := C
  dsimp only at hcl
  have e7 := laws_sameDisk_f cut hcl
  obtain ⟨n0, n1⟩ := doActs_n d q
  obtain ⟨n, hn⟩ := Int.eq_ofNat_of_zero_le n0
  have hnow : doActsV d q = ((doActsV d q).1, (n : Int)) := Prod.ext rfl hn
  have e4 := laws_sameDisk_f (doActsV d q).1 hlen
  -- the disks on the way
  obtain ⟨D, hD0, hDok, hDo, hDn⟩ : ∃ D : Nat → List S45, D 0 = d ∧ (∀ i, i ≤ n → n ≠ 0 → diskOkB (D i) = true) ∧ (∀ i, i < n → (doV ((rd_T55 q (i : Int)).f0) ((rd_T55 q (i : Int)).f1) ((rd_T55 q (i : Int)).f2) ((rd_T55 q (i : Int)).f3) (D i)) = (D (i + 1), true)) ∧ (n ≠ 0 → D n = (doActsV d q).1) := by
    by_cases hok : diskOkB d = true
    · have ev : doActsV d q = actsV q 0 d := if_pos hok
      rw [ev] at hn
      refine ⟨diskAt d q, rfl, fun i hi _ => (diskAt_run d q n hok hn i hi).1, fun i hi => Prod.ext rfl (diskAt_step d q n i hok hn hi).1, fun _ => ?_⟩
      rw [ev]
      exact diskAt_end d q n hok hn
    · have ev : doActsV d q = (d, 0) := if_neg hok
      rw [ev] at hn
      have hz : n = 0 := by
        have : (0 : Int) = (n : Int) := hn
        omega
      exact ⟨fun _ => d, rfl, fun i _ h => absurd hz h, fun i hi => by omega, fun h => absurd hz h⟩
  have hact : ∀ i, i < n → (rd_T55 q (i : Int)).f2.size ≤ 5000 := by
    intro i hi
    rw [rdT_nat, List.getD_eq_getElem?_getD, List.getElem?_eq_getElem (by omega)]
    exact hq5 _ (List.getElem_mem _)
  have hDl : ∀ i, i ≤ n → n ≠ 0 → (D i).length ≤ 30 := fun i hi h => ((diskOk_iff _).1 (hDok i hi h)).1
  obtain ⟨Ks, hstep⟩ := all_below (fun i k => impl_DoAct.f k (D i) ((rd_T55 q (i : Int)).f0) ((rd_T55 q (i : Int)).f1) ((rd_T55 q (i : Int)).f2) ((rd_T55 q (i : Int)).f3) = some (D (i + 1), true)) n (fun i hi => by
    have hl := hDl i (by omega) (by omega)
    have ha := hact i hi
    have e := impl_DoAct_f ((rd_T55 q (i : Int)).f0) ((rd_T55 q (i : Int)).f1) ((rd_T55 q (i : Int)).f2) ((rd_T55 q (i : Int)).f3) (D i) (by omega) (by omega)
    unfold actV at e
    rw [if_pos (hDok i (by omega) (by omega)), hDo i hi, if_pos rfl] at e
    exact e)
  obtain ⟨K1, hat1⟩ := all_below (fun i k => impl_FileAt.f k (D i) ((rd_T55 q (i : Int)).f1) = some (fileAtV (D i) ((rd_T55 q (i : Int)).f1))) n (fun i hi => by
    have hl := hDl i (by omega) (by omega)
    exact impl_FileAt_f (D i) _ (by omega))
  obtain ⟨K2, hat2⟩ := all_below (fun i k => impl_FileAt.f k (D (i + 1)) ((rd_T55 q (i : Int)).f1) = some (fileAtV (D (i + 1)) ((rd_T55 q (i : Int)).f1))) n (fun i hi => by
    have hl := hDl (i + 1) (by omega) (by omega)
    exact impl_FileAt_f (D (i + 1)) _ (by omega))
  rw [hnow] at e2 e3
  obtain ⟨J1, e1⟩ := e1
  obtain ⟨J2, e2⟩ := e2
  obtain ⟨J3, e3⟩ := e3
  obtain ⟨J4, e4⟩ := e4
  obtain ⟨J5, e5⟩ := e5
  obtain ⟨J6, e6⟩ := e6
  obtain ⟨J7, e7⟩ := e7
  obtain ⟨k, hk⟩ : ∃ k, k = Ks + K1 + K2 + J1 + J2 + J3 + J4 + J5 + J6 + J7 := ⟨_, rfl⟩
  refine ⟨k, .inr ⟨d, q, w, left, n, D, (doActsV d q).1, fun i => (fileAtV (D i) ((rd_T55 q (i : Int)).f1)).1, fun i => (fileAtV (D (i + 1)) ((rd_T55 q (i : Int)).f1)).1, fun i => (fileAtV (D i) ((rd_T55 q (i : Int)).f1)).2, fun i => (fileAtV (D (i + 1)) ((rd_T55 q (i : Int)).f1)).2, cut, may, ?_⟩⟩
  exact {
    big := by omega
    h1 := e1 k (by omega)
    h2 := e2 k (by omega)
    h3 := e3 k (by omega)
    h4 := e4 k (by omega)
    hn := by omega
    hq := by omega
    D0 := hD0
    step := fun i hi => hstep k (by omega) i hi
    at1 := fun i hi => hat1 k (by omega) i hi
    at2 := fun i hi => hat2 k (by omega) i hi
    add := fun i hi hkd => by
      have hs := ((diskOk_iff _).1 (hDok i (by omega) (by omega))).2.2
      have h := do_add ((rd_T55 q (i : Int)).f1) ((rd_T55 q (i : Int)).f2) ((rd_T55 q (i : Int)).f3) (D i) hs
      have h2 := hDo i hi
      rw [hkd] at h2
      rw [h2] at h
      have h3 : fileAtV (D (i + 1)) ((rd_T55 q (i : Int)).f1) = _ := h
      have h4 := fileAt_size (D i) ((rd_T55 q (i : Int)).f1) (hDok i (by omega) (by omega))
      have h5 := hact i hi
      refine ⟨by rw [h3], by omega, by rw [h3]⟩
    drop := fun i hi hkd => by
      have h2 := hDo i hi
      rw [hkd] at h2
      have h := do_drop ((rd_T55 q (i : Int)).f1) ((rd_T55 q (i : Int)).f2) ((rd_T55 q (i : Int)).f3) (D i) (by rw [h2])
      rw [h2] at h
      have h3 : fileAtV (D (i + 1)) ((rd_T55 q (i : Int)).f1) = _ := h
      rw [h3]
    h5 := e5 k (by omega)
    h6 := e6 k (by omega)
    h7 := e7 k (by omega)
    h8 := fun h => by
      rw [hDn h]
      exact e4 k (by omega) }

end Go.Proofs.Ytidfhfaekdahpaa.Pure
