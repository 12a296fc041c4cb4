/- For every text the program's ReadDecimal returns what the reference's returns. -/
import Derived.Test.YtmhkghmfoggaeaaDoorQFnExactReadDecimalx1
import Derived.Lib.ItoaMem
import Derived.Lib.ItoaLen
namespace Go.Proofs.YtmhkghmfoggaeaaDoor.Pure
open Go.RowKit Go.Proofs.YtmhkghmfoggaeaaDoor.QFnExactReadDecimal Go.Proofs.YtmhkghmfoggaeaaDoorW.PrintWords Go.Proofs.YtmhkghmfoggaeaaDoorW.PrintLast

set_option linter.unusedVariables false
set_option linter.unusedSimpArgs false
/-! small words on rounds -/
theorem wid {x : Int} (h0 : -9223372036854775808 ≤ x) (h1 : x ≤ 9223372036854775807) : wrap64 x = x := by
  unfold wrap64; omega
theorem wrap_to {x y : Int} (h : x = y) (h0 : -9223372036854775808 ≤ y) (h1 : y ≤ 9223372036854775807) : wrap64 x = y := by
  rw [h]; exact wid h0 h1
theorem ev_some {α : Type} {o : Option α} {r : α} (h : o = some r) : Ev (fun _ => o) r := ⟨0, fun _ _ => h⟩
theorem ev_succ {α : Type} {g : Nat → Option α} {r : α} (h : Ev (fun k => g (k + 1)) r) : Ev g r := Ev.step (fun _ => rfl) h
theorem ev_if {α : Type} {c : Prop} [Decidable c] {f g : Nat → Option α} {r : α} (h : c) (k : Ev f r) : Ev (fun n => if c then f n else g n) r := by
  simp only [if_pos h]; exact k
theorem ev_else {α : Type} {c : Prop} [Decidable c] {f g : Nat → Option α} {r : α} (h : ¬ c) (k : Ev g r) : Ev (fun n => if c then f n else g n) r := by
  simp only [if_neg h]; exact k
theorem ev_bind0 {α β : Type} {o : Option α} {f : Nat → α → Option β} {a : α} {r : β} (h : o = some a) (k : Ev (fun n => f n a) r) : Ev (fun n => o.bind (f n)) r := by
  subst h; exact k
theorem ev_bind {α β : Type} {g : Nat → Option α} {f : Nat → α → Option β} {a : α} {r : β} (h : Ev g a) (k : Ev (fun n => f n a) r) : Ev (fun n => (g n).bind (f n)) r := Ev.bind h k
theorem ev_eq {α : Type} {g : Nat → Option α} {a b : α} (h : Ev g a) (e : a = b) : Ev g b := e ▸ h
theorem tdivp {a b : Int} (h : 0 ≤ a) : Int.tdiv a b = a / b := Int.tdiv_eq_ediv_of_nonneg h
theorem tmodp {a b : Int} (h : 0 ≤ a) : Int.tmod a b = a % b := Int.tmod_eq_emod_of_nonneg h
theorem toList_iff (a b : ByteArray) : a.toList = b.toList ↔ a = b := by
  rw [ByteArray.toList_eq, ByteArray.toList_eq]
  exact ⟨fun h => ByteArray.ext (Array.toList_inj.mp h), fun h => by rw [h]⟩
theorem str_cons (d : Nat) (h : d < 10) (s : List UInt8) : strOfNums [((48 + (d : Int))) % 256] ++ (⟨s.toArray⟩ : ByteArray) = ⟨(UInt8.ofNat (48 + d) :: s).toArray⟩ := by
  apply ByteArray.ext
  rw [ByteArray.data_append, ← Array.toList_inj]
  have e : ((48 + (d : Int)) % 256).toNat = 48 + d := by omega
  simp [strOfNums, e]
theorem dig_step (u : Nat) (h : u ≠ 0) : (if u = 0 then [] else Lib.decDigits u) = (if u / 10 = 0 then [] else Lib.decDigits (u / 10)) ++ [UInt8.ofNat (48 + u % 10)] := by
  rw [if_neg h]
  by_cases h10 : u < 10
  · rw [if_pos (by omega), Lib.decDigits_one h10, Nat.mod_eq_of_lt h10]; rfl
  · rw [if_neg (by omega)]
    conv => lhs; rw [Lib.decDigits, dif_neg h10]
theorem spec_Decimal_l0 (b : Bool) : ∀ (n u : Nat) (x : Int) (s : List UInt8), u < 10 ^ n → x.natAbs = u → -9223372036854775808 ≤ x → x ≤ 9223372036854775807 → s.length + n ≤ 1000 →
    Ev (fun k => spec_Decimal.l0 k x b ⟨s.toArray⟩) (if b = true then ⟨(45 :: ((if u = 0 then [] else Lib.decDigits u) ++ s)).toArray⟩ else ⟨((if u = 0 then [] else Lib.decDigits u) ++ s).toArray⟩) := by
  have fin : ∀ (s : List UInt8), s.length ≤ 1000 → Ev (fun k => spec_Decimal.l0 k 0 b ⟨s.toArray⟩) (if b = true then ⟨(45 :: s).toArray⟩ else ⟨s.toArray⟩) := by
    intro s hs
    refine ev_succ ?_
    simp only [spec_Decimal.l0]
    have hz : (⟨s.toArray⟩ : ByteArray).size = s.length := by simp [ByteArray.size]
    refine ev_if trivial ?_
    cases b with
    | true =>
      refine ev_if rfl (ev_if (by rw [hz]; omega) (ev_some (congrArg some ?_)))
      rw [if_pos rfl]
      apply ByteArray.ext
      rw [ByteArray.data_append, ← Array.toList_inj]
      simp
    | false => exact ev_else (by simp) (ev_some rfl)
  intro n
  induction n with
  | zero =>
    intro u x s hu hx _ _ hs
    have h0 : u = 0 := by simpa using hu
    subst h0
    obtain rfl : x = 0 := by omega
    simp only [if_pos, List.nil_append]
    exact fin s (by omega)
  | succ n ih =>
    intro u x s hu hx hx0 hx1 hs
    by_cases h0 : u = 0
    · subst h0
      obtain rfl : x = 0 := by omega
      simp only [if_pos, List.nil_append]
      exact fin s (by omega)
    · have hxne : x ≠ 0 := by omega
      have hq : (Int.tdiv x 10).natAbs = u / 10 := by rw [Int.natAbs_tdiv, hx]; rfl
      have hqr : -9223372036854775808 ≤ Int.tdiv x 10 ∧ Int.tdiv x 10 ≤ 9223372036854775807 := by omega
      have hw : wrap64 (Int.tdiv x 10) = Int.tdiv x 10 := wid hqr.1 hqr.2
      have hsz : ∀ z : Int, (strOfNums [z]).size = 1 := fun z => rfl
      have hz : (⟨s.toArray⟩ : ByteArray).size = s.length := by simp [ByteArray.size]
      have hm : (Int.tmod x 10).natAbs = u % 10 := by rw [Int.natAbs_tmod, hx]; rfl
      have step := ih (u / 10) (Int.tdiv x 10) (UInt8.ofNat (48 + u % 10) :: s) (by rw [Nat.pow_succ] at hu; omega) hq hqr.1 hqr.2 (by rw [List.length_cons]; omega)
      rw [dig_step u h0, List.append_assoc, List.singleton_append]
      refine ev_succ ?_
      simp only [spec_Decimal.l0]
      refine ev_else hxne ?_
      have fig : ∀ z : Int, z = ((u % 10 : Nat) : Int) → spec_l01Figure.f z = some ((48 + ((u % 10 : Nat) : Int)) % 256) := by
        intro z hz
        subst hz
        unfold spec_l01Figure.f
        rw [if_pos (by omega), wid (by omega) (by omega)]
      by_cases hneg : Int.tmod x 10 < 0
      · refine ev_if hneg (ev_bind0 (fig _ (by rw [wid (by omega) (by omega)]; omega)) (ev_bind0 rfl (ev_if (by rw [hsz, hz]; omega) ?_)))
        rw [hw, str_cons _ (Nat.mod_lt _ (by omega))]
        exact step
      · refine ev_else hneg (ev_bind0 (fig _ (by omega)) (ev_bind0 rfl (ev_if (by rw [hsz, hz]; omega) ?_)))
        rw [hw, str_cons _ (Nat.mod_lt _ (by omega))]
        exact step
theorem spec_Decimal_f (x : Int) (h0 : -9223372036854775808 ≤ x) (h1 : x ≤ 9223372036854775807) : Ev (fun k => spec_Decimal.f k x) ⟨(Lib.itoa x).toArray⟩ := by
  unfold spec_Decimal.f
  by_cases hz : x = 0
  · subst hz
    refine ev_if rfl (ev_some (congrArg some ?_))
    have : Lib.itoa 0 = [48] := by
      have := Lib.itoa_nonneg 0
      rw [Lib.decDigits_one (by omega)] at this
      exact this
    rw [this]
  · refine ev_else hz ?_
    have step := spec_Decimal_l0 (decide (x < 0)) 20 x.natAbs x [] (by omega) rfl h0 h1 (by simp)
    have hu : ¬ x.natAbs = 0 := by omega
    simp only [List.append_nil, if_neg hu] at step
    refine ev_eq step ?_
    unfold Lib.itoa
    by_cases hn : x < 0
    · rw [if_pos (decide_eq_true hn), if_pos hn]
    · rw [if_neg (by simpa using hn), if_neg hn]
      have : x.natAbs = x.toNat := by omega
      rw [this]
theorem bt_range0 (s : ByteArray) (i : Int) : 0 ≤ bt s i ∧ bt s i ≤ 255 := by
  obtain ⟨h0, h1⟩ := bt_range s i
  omega
theorem pow_le10 : ∀ (i : Nat), i ≤ 10 → (10 : Int) ^ i ≤ 10000000000 := by
  intro i hi
  have : ∀ j : Fin 11, (10 : Int) ^ (j : Nat) ≤ 10000000000 := by decide
  exact this ⟨i, by omega⟩
theorem rd_both (x : ByteArray) (hx : x.size ≤ 10) : ∀ (n i : Nat) (a : Int), i + n = x.size → 0 ≤ a → a < 10 ^ i →
    ∃ r, Ev (fun k => spec_ReadDecimal.l0 k x a i) r ∧ Ev (fun k => impl_ReadDecimal.l0 k x a i) r := by
  intro n
  induction n with
  | zero =>
    intro i a hn h0 h1
    have hb := pow_le10 i (by omega)
    by_cases hbig : a > 1000000000
    · refine ⟨(0, false), ev_succ ?_, ev_succ ?_⟩
      · simp only [spec_ReadDecimal.l0]; exact ev_else (by omega) (ev_if hbig (ev_some rfl))
      · simp only [impl_ReadDecimal.l0]; exact ev_else (by omega) (ev_if hbig (ev_some rfl))
    · refine ⟨if (⟨(Lib.itoa a).toArray⟩ : ByteArray).toList = x.toList then (a, true) else (0, false), ev_succ ?_, ev_succ ?_⟩
      · simp only [spec_ReadDecimal.l0]
        refine ev_else (by omega) (ev_else hbig (ev_bind (spec_Decimal_f a (by omega) (by omega)) (ev_some ?_)))
        by_cases he : (⟨(Lib.itoa a).toArray⟩ : ByteArray).toList = x.toList
        · rw [if_pos he, if_pos he]
        · rw [if_neg he, if_neg he]
      · simp only [impl_ReadDecimal.l0]
        refine ev_else (by omega) (ev_else hbig (ev_bind0 (if_pos ⟨by omega, by omega⟩) (ev_some ?_)))
        by_cases he : (⟨(Lib.itoa a).toArray⟩ : ByteArray).toList = x.toList
        · rw [if_pos he, if_pos he]
        · rw [if_neg he, if_neg he]
  | succ n ih =>
    intro i a hn h0 h1
    have hb := pow_le10 i (by omega)
    obtain ⟨b0, b1⟩ := bt_range0 x (i : Int)
    have hi : wrap64 ((i : Int) + 1) = ((i + 1 : Nat) : Int) := wrap_to (by omega) (by omega) (by omega)
    by_cases h48 : bt x (i : Int) < 48
    · refine ⟨(0, false), ev_succ ?_, ev_succ ?_⟩
      · simp only [spec_ReadDecimal.l0]; exact ev_if (by omega) (ev_if (by omega) (ev_if h48 (ev_some rfl)))
      · simp only [impl_ReadDecimal.l0]; exact ev_if (by omega) (ev_if (by omega) (ev_if h48 (ev_some rfl)))
    by_cases h57 : bt x (i : Int) > 57
    · refine ⟨(0, false), ev_succ ?_, ev_succ ?_⟩
      · simp only [spec_ReadDecimal.l0]; exact ev_if (by omega) (ev_if (by omega) (ev_else h48 (ev_if h57 (ev_some rfl))))
      · simp only [impl_ReadDecimal.l0]; exact ev_if (by omega) (ev_if (by omega) (ev_else h48 (ev_if h57 (ev_some rfl))))
    have hp : (10 : Int) ^ (i + 1) = 10 ^ i * 10 := Int.pow_succ 10 i
    obtain ⟨d, hd⟩ : ∃ d, d = bt x (i : Int) - 48 := ⟨_, rfl⟩
    obtain ⟨p, hpp⟩ : ∃ p, p = (10 : Int) ^ i := ⟨_, rfl⟩
    rw [← hpp] at h1 hb hp
    obtain ⟨r, hs, hm⟩ := ih (i + 1) (a * 10 + d) (by omega) (by omega) (by rw [hp]; omega)
    refine ⟨r, ev_succ ?_, ev_succ ?_⟩
    · simp only [spec_ReadDecimal.l0]
      have e : wrap64 (wrap64 (wrap64 (10 * a) + wrap64 (bt x (i : Int))) - 48) = a * 10 + d := by
        rw [wid (x := 10 * a) (by omega) (by omega), wid (x := bt x (i : Int)) (by omega) (by omega), wid (x := 10 * a + bt x (i : Int)) (by omega) (by omega)]
        exact wrap_to (by omega) (by omega) (by omega)
      refine ev_if (by omega) (ev_if (by omega) (ev_else h48 (ev_else h57 ?_)))
      rw [e, hi]
      exact hs
    · simp only [impl_ReadDecimal.l0]
      have e : wrap64 (wrap64 (a * 10) + (bt x (i : Int) - 48) % 256) = a * 10 + d := by
        rw [wid (x := a * 10) (by omega) (by omega)]
        exact wrap_to (by omega) (by omega) (by omega)
      refine ev_if (by omega) (ev_if (by omega) (ev_else h48 (ev_else h57 ?_)))
      rw [e, hi]
      exact hm
theorem rd_f (x : ByteArray) : ∃ r, Ev (fun k => spec_ReadDecimal.f k x) r ∧ Ev (fun k => impl_ReadDecimal.f k x) r := by
  by_cases h10 : x.size ≤ 10
  · by_cases h0 : x.size = 0
    · have h2 : spec_Decimal.f 0 0 = some ⟨#[48]⟩ := rfl
      refine ⟨(0, false), ?_, ?_⟩
      · unfold spec_ReadDecimal.f
        refine ev_else (by omega) (ev_succ ?_)
        simp only [spec_ReadDecimal.l0]
        refine ev_else (by omega) (ev_else (by omega) (ev_bind (a := ⟨#[48]⟩) (ev_some rfl) (ev_else ?_ (ev_some rfl))))
        intro he
        have := (toList_iff _ _).mp he
        rw [← this] at h0
        simp [ByteArray.size] at h0
      · unfold impl_ReadDecimal.f
        refine ev_if (by omega) (ev_succ ?_)
        simp only [impl_ReadDecimal.j0]
        exact ev_if trivial (ev_some rfl)
    · obtain ⟨r, hs, hm⟩ := rd_both x h10 x.size 0 0 (by omega) (by omega) (by decide)
      refine ⟨r, ?_, ?_⟩
      · unfold spec_ReadDecimal.f
        exact ev_else (by omega) hs
      · unfold impl_ReadDecimal.f
        refine ev_else (by omega) (ev_succ ?_)
        simp only [impl_ReadDecimal.j0]
        exact ev_else (by simp; omega) hm
  · refine ⟨(0, false), ?_, ?_⟩
    · unfold spec_ReadDecimal.f
      exact ev_if (by omega) (ev_some rfl)
    · unfold impl_ReadDecimal.f
      refine ev_else (by omega) (ev_succ ?_)
      simp only [impl_ReadDecimal.j0]
      exact ev_if (by simp; omega) (ev_some rfl)
theorem FnExactReadDecimal (a0 : ByteArray) : ∃ k, laws_FnExactReadDecimal.f k a0 = some true := by
  refine Ev.rounds ?_
  unfold laws_FnExactReadDecimal.f
  by_cases hbig : (a0.size : Int) > 1048576
  · exact ev_if hbig (ev_some rfl)
  refine ev_else hbig ?_
  obtain ⟨r, hs, hm⟩ := rd_f a0
  refine ev_bind hs (ev_bind hm ?_)
  refine ev_if rfl ?_
  exact ev_else (by simp) (ev_some rfl)

end Go.Proofs.YtmhkghmfoggaeaaDoor.Pure
