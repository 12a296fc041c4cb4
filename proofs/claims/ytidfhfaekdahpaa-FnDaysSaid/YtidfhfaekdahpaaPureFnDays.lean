/- Every drawn right day is a minute that tells it, the day behind it is a day on, and months have as many days as their last one, without a condition. -/
import Derived.Test.YtidfhfaekdahpaaQFnDaysx7
namespace Go.Proofs.Ytidfhfaekdahpaa.Pure
open Go.RowKit Go.Proofs.Ytidfhfaekdahpaa.QFnDays Go.Proofs.YtidfhfaekdahpaaW.PrintWords Go.Proofs.YtidfhfaekdahpaaW.PrintLast

set_option linter.unusedVariables false
set_option linter.unusedSimpArgs false
/-! small words on rounds -/
theorem wid {x : Int} (h0 : -9223372036854775808 ≤ x) (h1 : x ≤ 9223372036854775807) : wrap64 x = x := by
  unfold wrap64; omega
theorem wrap_to {x y : Int} (h : x = y) (h0 : -9223372036854775808 ≤ y) (h1 : y ≤ 9223372036854775807) : wrap64 x = y := by
  rw [h]; exact wid h0 h1
theorem ev_some {α : Type} {o : Option α} {r : α} (h : o = some r) : Ev (fun _ => o) r := ⟨0, fun _ _ => h⟩
theorem ev_succ {α : Type} {g : Nat → Option α} {r : α} (h : Ev (fun k => g (k + 1)) r) : Ev g r := Ev.step (fun _ => rfl) h
theorem ev_if {α : Type} {c : Prop} [Decidable c] {f g : Nat → Option α} {r : α} (h : c) (k : Ev f r) : Ev (fun n => if c then f n else g n) r := by
  simp only [if_pos h]; exact k
theorem ev_else {α : Type} {c : Prop} [Decidable c] {f g : Nat → Option α} {r : α} (h : ¬ c) (k : Ev g r) : Ev (fun n => if c then f n else g n) r := by
  simp only [if_neg h]; exact k
theorem ev_bind0 {α β : Type} {o : Option α} {f : Nat → α → Option β} {a : α} {r : β} (h : o = some a) (k : Ev (fun n => f n a) r) : Ev (fun n => o.bind (f n)) r := by
  subst h; exact k
theorem ev_bind {α β : Type} {g : Nat → Option α} {f : Nat → α → Option β} {a : α} {r : β} (h : Ev g a) (k : Ev (fun n => f n a) r) : Ev (fun n => (g n).bind (f n)) r := Ev.bind h k
theorem ev_eq {α : Type} {g : Nat → Option α} {a b : α} (h : Ev g a) (e : a = b) : Ev g b := e ▸ h
theorem tdivp {a b : Int} (h : 0 ≤ a) : Int.tdiv a b = a / b := Int.tdiv_eq_ediv_of_nonneg h
theorem tmodp {a b : Int} (h : 0 ≤ a) : Int.tmod a b = a % b := Int.tmod_eq_emod_of_nonneg h
theorem toList_iff (a b : ByteArray) : a.toList = b.toList ↔ a = b := by
  rw [ByteArray.toList_eq, ByteArray.toList_eq]
  exact ⟨fun h => ByteArray.ext (Array.toList_inj.mp h), fun h => by rw [h]⟩
def leapB (y : Int) : Bool := (decide (Int.tmod y 4 = 0) && !decide (Int.tmod y 100 = 0)) || decide (Int.tmod y 400 = 0)
def dim (y m : Int) : Int := if m = 2 then (if leapB y then 29 else 28) else if m = 4 ∨ m = 6 ∨ m = 9 ∨ m = 11 then 30 else if 1 ≤ m ∧ m ≤ 12 then 31 else 0
/-! years and months in days -/
def lpI (y : Int) : Int := if leapB y = true then 1 else 0
def yrB (y : Int) : Int := 365 * (y - 1970) + (y - 1969) / 4
def cumL (L m : Int) : Int :=
  if m ≤ 1 then 0 else if m = 2 then 31 else if m = 3 then 59 + L else if m = 4 then 90 + L else if m = 5 then 120 + L else if m = 6 then 151 + L
  else if m = 7 then 181 + L else if m = 8 then 212 + L else if m = 9 then 243 + L else if m = 10 then 273 + L else if m = 11 then 304 + L else if m = 12 then 334 + L else 365 + L
theorem leap_in (y : Int) (h0 : 1970 ≤ y) (h1 : y ≤ 2099) : leapB y = decide (y % 4 = 0) := by
  unfold leapB
  rw [tmodp (a := y) (by omega), tmodp (a := y) (by omega), tmodp (a := y) (by omega)]
  by_cases h : y % 4 = 0
  · by_cases h100 : y % 100 = 0
    · have h400 : y % 400 = 0 := by omega
      simp [h, h400]
    · simp [h, h100]
  · have h400 : ¬ y % 400 = 0 := by omega
    simp [h, h400]
theorem lp01 (y : Int) : lpI y = 0 ∨ lpI y = 1 := by unfold lpI; split <;> simp
theorem yrB_succ (y : Int) (h0 : 1970 ≤ y) (h1 : y ≤ 2099) : yrB (y + 1) = yrB y + 365 + lpI y := by
  unfold yrB lpI
  rw [leap_in y h0 h1]
  by_cases h : y % 4 = 0
  · simp only [h, decide_true, if_true]; omega
  · simp only [h, decide_false]; simp only [Bool.false_eq_true, if_false]; omega
theorem yrB_mono (a b : Int) (h0 : 1970 ≤ a) (h : a ≤ b) : yrB a ≤ yrB b := by unfold yrB; omega
theorem yrB_bd (a : Int) (h0 : 1970 ≤ a) (h : a ≤ 2100) : 0 ≤ yrB a ∧ yrB a ≤ 47482 := by unfold yrB; omega
theorem dim_eq (y m : Int) (h1 : 1 ≤ m) (h2 : m ≤ 12) : cumL (lpI y) (m + 1) = cumL (lpI y) m + dim y m := by
  have h' : m = 1 ∨ m = 2 ∨ m = 3 ∨ m = 4 ∨ m = 5 ∨ m = 6 ∨ m = 7 ∨ m = 8 ∨ m = 9 ∨ m = 10 ∨ m = 11 ∨ m = 12 := by omega
  unfold dim lpI
  rcases h' with rfl | rfl | rfl | rfl | rfl | rfl | rfl | rfl | rfl | rfl | rfl | rfl <;> cases leapB y <;> simp [cumL]
theorem dim_bd (y m : Int) : 0 ≤ dim y m ∧ dim y m ≤ 31 := by
  unfold dim
  repeat' split
  all_goals omega
theorem dim_lo (y m : Int) (h1 : 1 ≤ m) (h2 : m ≤ 12) : 28 ≤ dim y m := by
  unfold dim
  repeat' split
  all_goals omega
theorem dim_month (y m : Int) (h : 1 ≤ dim y m) : 1 ≤ m ∧ m ≤ 12 := by
  unfold dim at h
  by_cases h2 : m = 2
  · omega
  rw [if_neg h2] at h
  by_cases h3 : m = 4 ∨ m = 6 ∨ m = 9 ∨ m = 11
  · omega
  rw [if_neg h3] at h
  by_cases h4 : 1 ≤ m ∧ m ≤ 12
  · exact h4
  · rw [if_neg h4] at h; omega
theorem cumL_1 (L : Int) : cumL L 1 = 0 := by unfold cumL; rfl
theorem cumL_13 (L : Int) : cumL L 13 = 365 + L := by unfold cumL; rfl
theorem cumL_mono (y a : Int) (h1 : 1 ≤ a) : ∀ (d : Nat), a + d ≤ 13 → cumL (lpI y) a ≤ cumL (lpI y) (a + d) := by
  intro d
  induction d with
  | zero => intro _; simp
  | succ d ih =>
    intro hd
    have h := ih (by omega)
    have e : a + ((d + 1 : Nat) : Int) = (a + (d : Int)) + 1 := by omega
    rw [e, dim_eq y (a + d) (by omega) (by omega)]
    have := dim_bd y (a + d)
    omega
theorem cumL_le (y a b : Int) (h1 : 1 ≤ a) (h : a ≤ b) (h2 : b ≤ 13) : cumL (lpI y) a ≤ cumL (lpI y) b := by
  have := cumL_mono y a h1 (b - a).toNat (by omega)
  rwa [show a + ((b - a).toNat : Int) = b by omega] at this
theorem cumL_bd (y m : Int) (h1 : 1 ≤ m) (h2 : m ≤ 13) : 0 ≤ cumL (lpI y) m ∧ cumL (lpI y) m ≤ 366 := by
  have a := cumL_le y 1 m (by omega) h1 h2
  have b := cumL_le y m 13 h1 h2 (by omega)
  rw [cumL_1] at a
  rw [cumL_13] at b
  have := lp01 y
  omega
/-- the year of a day -/
theorem year_of (d : Int) (h0 : 0 ≤ d) (h1 : d ≤ 47481) : ∃ y, 1970 ≤ y ∧ y ≤ 2099 ∧ yrB y ≤ d ∧ d < yrB (y + 1) := by
  refine ⟨1970 + (4 * d + 2) / 1461, by omega, by omega, by unfold yrB; omega, by unfold yrB; omega⟩
theorem month_of (y d : Int) (h0 : 0 ≤ d) (h1 : d < 365 + lpI y) : ∃ m, 1 ≤ m ∧ m ≤ 12 ∧ cumL (lpI y) m ≤ d ∧ d < cumL (lpI y) (m + 1) := by
  have h13 := cumL_13 (lpI y)
  have h1' := cumL_1 (lpI y)
  by_cases c : ∃ m : Nat, m ≤ 11 ∧ d < cumL (lpI y) ((m : Int) + 2) ∧ ∀ j : Nat, j < m → ¬ d < cumL (lpI y) ((j : Int) + 2)
  · obtain ⟨m, hm, hd, hj⟩ := c
    refine ⟨(m : Int) + 1, by omega, by omega, ?_, by rwa [show (m : Int) + 1 + 1 = (m : Int) + 2 by omega]⟩
    cases m with
    | zero => simpa [h1'] using h0
    | succ m =>
      have := hj m (by omega)
      rw [show ((m + 1 : Nat) : Int) + 1 = (m : Int) + 2 by omega]
      omega
  · exfalso
    have key : ∀ m : Nat, m ≤ 12 → ∀ j : Nat, j < m → ¬ d < cumL (lpI y) ((j : Int) + 2) := by
      intro m
      induction m with
      | zero => intro _ j hj; omega
      | succ m ih =>
        intro hm j hj
        by_cases e : j = m
        · subst e
          intro hd
          exact c ⟨j, by omega, hd, ih (by omega)⟩
        · exact ih (by omega) j (by omega)
    have := key 12 (by omega) 11 (by omega)
    apply this
    show d < cumL (lpI y) (((11 : Nat) : Int) + 2)
    rw [show ((11 : Nat) : Int) + 2 = 13 from rfl, h13]
    omega
def civOkB (y m d h i : Int) : Bool := decide (1970 ≤ y ∧ y ≤ 2099) && decide (1 ≤ d ∧ d ≤ dim y m) && decide (0 ≤ h ∧ h ≤ 23) && decide (0 ≤ i ∧ i ≤ 59)
def minV (y m d h i : Int) : Int := (yrB y + cumL (lpI y) m + d - 1) * 1440 + h * 60 + i
/-- a minute's day and hour: the one right way to tell it -/
def CivAt (n y m d h i : Int) : Prop := 1970 ≤ y ∧ y ≤ 2099 ∧ 1 ≤ m ∧ m ≤ 12 ∧ yrB y ≤ n / 1440 ∧ n / 1440 < yrB (y + 1) ∧ cumL (lpI y) m ≤ n / 1440 - yrB y ∧ n / 1440 - yrB y < cumL (lpI y) (m + 1) ∧
  d = n / 1440 - yrB y - cumL (lpI y) m + 1 ∧ h = n % 1440 / 60 ∧ i = n % 60
theorem civ_at (n : Int) (h0 : 0 ≤ n) (h1 : n ≤ 68374079) : ∃ y m d h i, CivAt n y m d h i := by
  obtain ⟨y, a, b, c, e⟩ := year_of (n / 1440) (by omega) (by omega)
  have hs := yrB_succ y a b
  obtain ⟨m, a', b', c', e'⟩ := month_of y (n / 1440 - yrB y) (by omega) (by omega)
  exact ⟨y, m, _, _, _, a, b, a', b', c, e, c', e', rfl, rfl, rfl⟩
theorem civ_ok {n y m d h i : Int} (hc : CivAt n y m d h i) (h0 : 0 ≤ n) : civOkB y m d h i = true ∧ minV y m d h i = n := by
  obtain ⟨a, b, a', b', c, e, c', e', rfl, rfl, rfl⟩ := hc
  have hd := dim_eq y m a' b'
  constructor
  · unfold civOkB
    simp only [Bool.and_eq_true, decide_eq_true_eq]
    refine ⟨⟨⟨⟨a, b⟩, ?_, ?_⟩, ?_, ?_⟩, ?_, ?_⟩ <;> omega
  · unfold minV; omega
theorem civ_of_ok {y m d h i : Int} (hc : civOkB y m d h i = true) : 0 ≤ minV y m d h i ∧ minV y m d h i ≤ 68374079 ∧ CivAt (minV y m d h i) y m d h i := by
  unfold civOkB at hc
  simp only [Bool.and_eq_true, decide_eq_true_eq] at hc
  obtain ⟨⟨⟨⟨a, b⟩, c, e⟩, f, g⟩, p, q⟩ := hc
  obtain ⟨m1, m2⟩ := dim_month y m (by omega)
  have hd := dim_eq y m m1 m2
  have hs := yrB_succ y a b
  have hy0 := yrB_bd y a (by omega)
  have hy1 := yrB_bd (y + 1) (by omega) (by omega)
  have hc1 := cumL_bd y m m1 (by omega)
  have hc2 := cumL_le y (m + 1) 13 (by omega) (by omega) (by omega)
  rw [cumL_13] at hc2
  have hdiv : minV y m d h i / 1440 = yrB y + cumL (lpI y) m + d - 1 := by unfold minV; omega
  have hmod : minV y m d h i % 1440 = h * 60 + i := by unfold minV; omega
  have hmod2 : minV y m d h i % 60 = i := by unfold minV; omega
  refine ⟨by unfold minV; omega, by unfold minV; omega, a, b, m1, m2, ?_, ?_, ?_, ?_, ?_, ?_, ?_⟩
  · rw [hdiv]; omega
  · rw [hdiv]; omega
  · rw [hdiv]; omega
  · rw [hdiv]; omega
  · rw [hdiv]; omega
  · rw [hmod]; omega
  · exact hmod2.symm
theorem civ_unique {n y m d h i y' m' d' h' i' : Int} (a : CivAt n y m d h i) (b : CivAt n y' m' d' h' i') : y = y' ∧ m = m' ∧ d = d' ∧ h = h' ∧ i = i' := by
  obtain ⟨a1, a2, a3, a4, a5, a6, a7, a8, a9, a10, a11⟩ := a
  obtain ⟨b1, b2, b3, b4, b5, b6, b7, b8, b9, b10, b11⟩ := b
  have hy : y = y' := by
    rcases Int.lt_trichotomy y y' with h | h | h
    · have := yrB_mono (y + 1) y' (by omega) (by omega); omega
    · exact h
    · have := yrB_mono (y' + 1) y (by omega) (by omega); omega
  subst hy
  have hm : m = m' := by
    rcases Int.lt_trichotomy m m' with h | h | h
    · have := cumL_le y (m + 1) m' (by omega) (by omega) (by omega); omega
    · exact h
    · have := cumL_le y (m' + 1) m (by omega) (by omega) (by omega); omega
  subst hm
  exact ⟨rfl, rfl, by omega, by omega, by omega⟩
/-- what CivilOf answers -/
def CivilIs (n : Int) (r : Int × Int × Int × Int × Int × Bool) : Prop :=
  if 0 ≤ n ∧ n ≤ 68374079 then r.2.2.2.2.2 = true ∧ CivAt n r.1 r.2.1 r.2.2.1 r.2.2.2.1 r.2.2.2.2.1 else r = (0, 0, 0, 0, 0, false)
theorem civilIs_unique {n : Int} {r q : Int × Int × Int × Int × Int × Bool} (h : CivilIs n r) (h' : CivilIs n q) : r = q := by
  unfold CivilIs at h h'
  by_cases hn : 0 ≤ n ∧ n ≤ 68374079
  · rw [if_pos hn] at h h'
    obtain ⟨r1, r2, r3, r4, r5, r6⟩ := r
    obtain ⟨q1, q2, q3, q4, q5, q6⟩ := q
    simp only at h h'
    obtain ⟨a, b, c, d, e⟩ := civ_unique h.2 h'.2
    rw [a, b, c, d, e, h.1, h'.1]
  · rw [if_neg hn] at h h'
    rw [h, h']
theorem impl_LeapYear_f (y : Int) : impl_LeapYear.f y = some (leapB y) := by
  unfold impl_LeapYear.f leapB
  by_cases h4 : Int.tmod y 4 = 0 <;> by_cases h100 : Int.tmod y 100 = 0 <;> by_cases h400 : Int.tmod y 400 = 0 <;> simp [h4, h100, h400]
theorem impl_daysOf_f (y : Int) : impl_daysOf.f y = some (365 + lpI y) := by
  unfold impl_daysOf.f lpI
  rw [impl_LeapYear_f]
  cases leapB y <;> rfl
theorem impl_DaysIn_f (y m : Int) : Ev (fun k => impl_DaysIn.f k y m) (dim y m) := by
  refine ⟨2, fun k hk => ?_⟩
  obtain ⟨k, rfl⟩ : ∃ j, k = j + 2 := ⟨k - 2, by omega⟩
  simp only [impl_DaysIn.f, impl_DaysIn.j0, impl_DaysIn.j1, impl_LeapYear_f, Option.bind_some]
  unfold dim
  by_cases h : 1 ≤ m ∧ m ≤ 12
  · have h' : m = 1 ∨ m = 2 ∨ m = 3 ∨ m = 4 ∨ m = 5 ∨ m = 6 ∨ m = 7 ∨ m = 8 ∨ m = 9 ∨ m = 10 ∨ m = 11 ∨ m = 12 := by omega
    rcases h' with rfl | rfl | rfl | rfl | rfl | rfl | rfl | rfl | rfl | rfl | rfl | rfl <;> cases leapB y <;> simp
  · have h2 : ∀ j : Int, 1 ≤ j → j ≤ 12 → ¬ m = j := by intro j h1 h2; omega
    simp [h, h2 1 (by omega) (by omega), h2 2 (by omega) (by omega), h2 3 (by omega) (by omega), h2 4 (by omega) (by omega), h2 5 (by omega) (by omega), h2 6 (by omega) (by omega), h2 7 (by omega) (by omega), h2 8 (by omega) (by omega), h2 9 (by omega) (by omega), h2 10 (by omega) (by omega), h2 11 (by omega) (by omega), h2 12 (by omega) (by omega)]
theorem impl_inRange_f (x a b : Int) : impl_inRange.f x a b = some (decide (a ≤ x ∧ x ≤ b)) := by
  unfold impl_inRange.f
  by_cases h1 : a ≤ x <;> by_cases h2 : x ≤ b <;> simp [h1, h2]
theorem impl_isMinute_f (n : Int) : impl_isMinute.f n = some (decide (0 ≤ n ∧ n ≤ 68374079)) := by
  unfold impl_isMinute.f
  rw [impl_inRange_f]; rfl
theorem impl_CivilOf_l1 (n y m d h i : Int) (ha : CivAt n y m d h i) (h0 : 0 ≤ n) (h1 : n ≤ 68374079) : ∀ (e : Nat) (j : Int), 1 ≤ j → j + e = m →
    Ev (fun k => impl_CivilOf.l1 k (n / 1440 - yrB y - cumL (lpI y) j) y j 0 h i) (y, m, d, h, i, true) := by
  obtain ⟨a1, a2, a3, a4, a5, a6, a7, a8, a9, a10, a11⟩ := ha
  have yb := yrB_bd y a1 (by omega)
  intro e
  induction e with
  | zero =>
    intro j hj hjm
    obtain rfl : j = m := by omega
    refine ev_succ ?_
    simp only [impl_CivilOf.l1]
    have hs := dim_eq y j a3 a4
    have db := dim_bd y j
    have cb := cumL_bd y j a3 (by omega)
    refine ev_bind (impl_DaysIn_f y j) (ev_else (by omega) (ev_some ?_))
    rw [wid (x := n / 1440 - yrB y - cumL (lpI y) j + 1) (by omega) (by omega), a9]
  | succ e ih =>
    intro j hj hjm
    refine ev_succ ?_
    simp only [impl_CivilOf.l1]
    have hs := dim_eq y j hj (by omega)
    have hle := cumL_le y (j + 1) m (by omega) (by omega) (by omega)
    have cb := cumL_bd y j hj (by omega)
    have db := dim_bd y j
    refine ev_bind (impl_DaysIn_f y j) (ev_if (by omega) (ev_bind (impl_DaysIn_f y j) ?_))
    rw [wid (x := j + 1) (by omega) (by omega), wid (x := n / 1440 - yrB y - cumL (lpI y) j - dim y j) (by omega) (by omega)]
    have := ih (j + 1) (by omega) (by omega)
    rw [hs] at this
    rw [show n / 1440 - yrB y - cumL (lpI y) j - dim y j = n / 1440 - yrB y - (cumL (lpI y) j + dim y j) by omega]
    exact this
theorem impl_CivilOf_l0 (n y m d h i : Int) (ha : CivAt n y m d h i) (h0 : 0 ≤ n) (h1 : n ≤ 68374079) : ∀ (e : Nat) (j : Int), 1970 ≤ j → j + e = y →
    Ev (fun k => impl_CivilOf.l0 k (n / 1440 - yrB j) j 1 0 h i) (y, m, d, h, i, true) := by
  have ha0 := ha
  obtain ⟨a1, a2, a3, a4, a5, a6, a7, a8, a9, a10, a11⟩ := ha
  intro e
  induction e with
  | zero =>
    intro j hj hjy
    obtain rfl : j = y := by omega
    refine ev_succ ?_
    simp only [impl_CivilOf.l0]
    have hs := yrB_succ j a1 a2
    refine ev_bind0 (impl_daysOf_f j) (ev_else (by omega) ?_)
    have := impl_CivilOf_l1 n j m d h i ha0 h0 h1 (m - 1).toNat 1 (by omega) (by omega)
    rw [cumL_1, Int.sub_zero] at this
    exact this
  | succ e ih =>
    intro j hj hjy
    refine ev_succ ?_
    simp only [impl_CivilOf.l0]
    have hs := yrB_succ j hj (by omega)
    have hle := yrB_mono (j + 1) y (by omega) (by omega)
    have yb := yrB_bd j hj (by omega)
    have l01 := lp01 j
    refine ev_bind0 (impl_daysOf_f j) (ev_if (by omega) (ev_bind0 (impl_daysOf_f j) ?_))
    rw [wid (x := j + 1) (by omega) (by omega), wid (x := n / 1440 - yrB j - (365 + lpI j)) (by omega) (by omega)]
    have := ih (j + 1) (by omega) (by omega)
    rw [hs] at this
    rw [show n / 1440 - yrB j - (365 + lpI j) = n / 1440 - (yrB j + 365 + lpI j) by omega]
    exact this
theorem impl_CivilOf_f (n : Int) : ∃ r, Ev (fun k => impl_CivilOf.f k n) r ∧ CivilIs n r := by
  unfold impl_CivilOf.f CivilIs
  by_cases hn : 0 ≤ n ∧ n ≤ 68374079
  · obtain ⟨y, m, d, h, i, ha⟩ := civ_at n hn.1 hn.2
    refine ⟨(y, m, d, h, i, true), ?_, ?_⟩
    · refine ev_bind0 (impl_isMinute_f n) (ev_if (decide_eq_true hn) ?_)
      obtain ⟨a1, a2, a3, a4, a5, a6, a7, a8, a9, a10, a11⟩ := id ha
      have := impl_CivilOf_l0 n y m d h i ha hn.1 hn.2 (y - 1970).toNat 1970 (by omega) (by omega)
      have e0 : n / 1440 - yrB 1970 = n / 1440 := by unfold yrB; omega
      rw [e0, a10, a11] at this
      rw [tdivp (a := n) hn.1, tmodp (a := n) hn.1, tmodp (a := n) hn.1, tdivp (a := n % 1440) (by omega), wid (x := n / 1440) (by omega) (by omega), wid (x := n % 1440 / 60) (by omega) (by omega),
        a10, a11]
      exact this
    · rw [if_pos hn]; exact ⟨rfl, ha⟩
  · refine ⟨(0, 0, 0, 0, 0, false), ?_, ?_⟩
    · exact ev_bind0 (impl_isMinute_f n) (ev_else (by rw [decide_eq_false hn]; simp) (ev_some rfl))
    · rw [if_neg hn]
theorem impl_CivilOk_f (y m d h i : Int) : Ev (fun k => impl_CivilOk.f k y m d h i) (civOkB y m d h i) := by
  unfold impl_CivilOk.f civOkB
  refine ev_bind0 (impl_inRange_f _ _ _) ?_
  by_cases h1 : 1970 ≤ y ∧ y ≤ 2099
  · refine ev_if (decide_eq_true h1) (ev_bind (impl_DaysIn_f y m) (ev_bind0 (impl_inRange_f _ _ _) (ev_succ ?_)))
    simp only [impl_CivilOk.j0]
    by_cases h2 : 1 ≤ d ∧ d ≤ dim y m
    · refine ev_else (by simp only [h2, and_self, decide_true]; simp) (ev_bind0 (impl_inRange_f _ _ _) ?_)
      by_cases h3 : 0 ≤ h ∧ h ≤ 23
      · refine ev_if (decide_eq_true h3) (ev_bind0 (impl_inRange_f _ _ _) (ev_some ?_))
        simp only [decide_eq_true h1, decide_eq_true h2, decide_eq_true h3, Bool.true_and]
      · refine ev_else (by simp only [decide_eq_false h3]; simp) (ev_some ?_)
        simp only [decide_eq_false h3, Bool.and_false, Bool.false_and]
    · refine ev_if (by simp only [decide_eq_false h2]; simp) (ev_some ?_)
      simp only [decide_eq_false h2, Bool.and_false, Bool.false_and]
  · refine ev_else (by simp only [decide_eq_false h1]; simp) (ev_succ ?_)
    simp only [impl_CivilOk.j0]
    refine ev_if (by simp) (ev_some ?_)
    simp only [decide_eq_false h1, Bool.false_and]
def minuteV (y m d h i : Int) : Int × Bool := if civOkB y m d h i = true then (minV y m d h i, true) else (0, false)
theorem impl_MinuteOf_l1 (y m d h i : Int) (hc : civOkB y m d h i = true) : ∀ (e : Nat) (j : Int), 1 ≤ j → j + e = m →
    Ev (fun k => impl_MinuteOf.l1 k (yrB y + cumL (lpI y) j + d - 1) j y m d h i) (minV y m d h i, true) := by
  obtain ⟨b0, b1, b2⟩ := civ_of_ok hc
  unfold civOkB at hc
  simp only [Bool.and_eq_true, decide_eq_true_eq] at hc
  obtain ⟨⟨⟨⟨hy0, hy1⟩, hd0, hd1⟩, hh0, hh1⟩, hi0, hi1⟩ := hc
  obtain ⟨m1, m2⟩ := dim_month y m (by omega)
  have hd31 := dim_bd y m
  have yb := yrB_bd y hy0 (by omega)
  intro e
  induction e with
  | zero =>
    intro j hj hjm
    obtain rfl : j = m := by omega
    refine ev_succ ?_
    simp only [impl_MinuteOf.l1]
    refine ev_else (by omega) (ev_some ?_)
    have cb := cumL_bd y j hj (by omega)
    rw [wid (x := (yrB y + cumL (lpI y) j + d - 1) * 1440) (by omega) (by omega), wid (x := h * 60) (by omega) (by omega), wid (x := (yrB y + cumL (lpI y) j + d - 1) * 1440 + h * 60) (by omega) (by omega), wid (x := (yrB y + cumL (lpI y) j + d - 1) * 1440 + h * 60 + i) (by omega) (by omega)]
    rfl
  | succ e ih =>
    intro j hj hjm
    refine ev_succ ?_
    simp only [impl_MinuteOf.l1]
    refine ev_if (by omega) (ev_bind (impl_DaysIn_f y j) ?_)
    have cb := cumL_bd y j hj (by omega)
    have db := dim_bd y j
    have hs := dim_eq y j hj (by omega)
    rw [wid (x := j + 1) (by omega) (by omega), wid (x := yrB y + cumL (lpI y) j + d - 1 + dim y j) (by omega) (by omega)]
    have := ih (j + 1) (by omega) (by omega)
    rw [hs] at this
    rw [show yrB y + cumL (lpI y) j + d - 1 + dim y j = yrB y + (cumL (lpI y) j + dim y j) + d - 1 by omega]
    exact this
theorem impl_MinuteOf_l0 (y m d h i : Int) (hc : civOkB y m d h i = true) : ∀ (e : Nat) (j : Int), 1970 ≤ j → j + e = y →
    Ev (fun k => impl_MinuteOf.l0 k (yrB j + d - 1) j y m d h i) (minV y m d h i, true) := by
  have hc0 := hc
  unfold civOkB at hc
  simp only [Bool.and_eq_true, decide_eq_true_eq] at hc
  obtain ⟨⟨⟨⟨hy0, hy1⟩, hd0, hd1⟩, hh0, hh1⟩, hi0, hi1⟩ := hc
  obtain ⟨m1, m2⟩ := dim_month y m (by omega)
  have hd31 := dim_bd y m
  intro e
  induction e with
  | zero =>
    intro j hj hjy
    obtain rfl : j = y := by omega
    refine ev_succ ?_
    simp only [impl_MinuteOf.l0]
    refine ev_else (by omega) ?_
    have := impl_MinuteOf_l1 j m d h i hc0 (m - 1).toNat 1 (by omega) (by omega)
    rw [cumL_1, Int.add_zero] at this
    exact this
  | succ e ih =>
    intro j hj hjy
    refine ev_succ ?_
    simp only [impl_MinuteOf.l0]
    refine ev_if (by omega) (ev_bind0 (impl_daysOf_f j) ?_)
    have yb := yrB_bd j hj (by omega)
    have hs := yrB_succ j hj (by omega)
    have l01 := lp01 j
    rw [wid (x := j + 1) (by omega) (by omega), wid (x := yrB j + d - 1 + (365 + lpI j)) (by omega) (by omega)]
    have := ih (j + 1) (by omega) (by omega)
    rw [hs] at this
    rw [show yrB j + d - 1 + (365 + lpI j) = yrB j + 365 + lpI j + d - 1 by omega]
    exact this
theorem impl_MinuteOf_f (y m d h i : Int) : Ev (fun k => impl_MinuteOf.f k y m d h i) (minuteV y m d h i) := by
  unfold impl_MinuteOf.f minuteV
  refine ev_bind (impl_CivilOk_f y m d h i) ?_
  by_cases hc : civOkB y m d h i = true
  · refine ev_if hc (ev_eq ?_ (if_pos hc).symm)
    have hc' := hc
    unfold civOkB at hc'
    simp only [Bool.and_eq_true, decide_eq_true_eq] at hc'
    obtain ⟨⟨⟨⟨hy0, hy1⟩, hd0, hd1⟩, hh0, hh1⟩, hi0, hi1⟩ := hc'
    have hd31 := dim_bd y m
    have := impl_MinuteOf_l0 y m d h i hc (y - 1970).toNat 1970 (by omega) (by omega)
    rw [wid (x := d - 1) (by omega) (by omega)]
    have e0 : yrB 1970 + d - 1 = d - 1 := by unfold yrB; omega
    rw [e0] at this
    exact this
  · exact ev_else hc (ev_some (congrArg some (if_neg hc).symm))
theorem spec_LeapYear_f (y : Int) : spec_LeapYear.f y = some (leapB y) := by
  unfold spec_LeapYear.f leapB
  by_cases h4 : Int.tmod y 4 = 0 <;> by_cases h100 : Int.tmod y 100 = 0 <;> by_cases h400 : Int.tmod y 400 = 0 <;> simp [h4, h100, h400]
theorem spec_l01In_f (x a b : Int) : spec_l01In.f x a b = some (decide (a ≤ x ∧ x ≤ b)) := by
  unfold spec_l01In.f
  by_cases h1 : a ≤ x <;> by_cases h2 : x ≤ b <;> simp [h1, h2]
theorem spec_DaysIn_f (y m : Int) : spec_DaysIn.f y m = some (dim y m) := by
  unfold spec_DaysIn.f dim
  rw [spec_l01In_f, spec_LeapYear_f]
  simp only [Option.bind_some]
  by_cases h : 1 ≤ m ∧ m ≤ 12
  · have h' : m = 1 ∨ m = 2 ∨ m = 3 ∨ m = 4 ∨ m = 5 ∨ m = 6 ∨ m = 7 ∨ m = 8 ∨ m = 9 ∨ m = 10 ∨ m = 11 ∨ m = 12 := by omega
    rcases h' with rfl | rfl | rfl | rfl | rfl | rfl | rfl | rfl | rfl | rfl | rfl | rfl <;> cases leapB y <;> simp [wrap64, rd]
  · have h2 : ¬ m = 2 := by omega
    have h3 : ¬ (m = 4 ∨ m = 6 ∨ m = 9 ∨ m = 11) := by omega
    simp [h, h2, h3]
theorem spec_CivilOk_f (y m d h i : Int) : spec_CivilOk.f y m d h i = some (civOkB y m d h i) := by
  unfold spec_CivilOk.f civOkB
  simp only [spec_l01In_f, spec_DaysIn_f, Option.bind_some]
  by_cases h1 : 1970 ≤ y ∧ y ≤ 2099
  · by_cases h2 : 1 ≤ m ∧ m ≤ 12
    · by_cases h3 : 1 ≤ d ∧ d ≤ dim y m <;> by_cases h4 : 0 ≤ h ∧ h ≤ 23 <;> simp [h1, h2, h3, h4]
    · have h3 : ¬ (1 ≤ d ∧ d ≤ dim y m) := fun h3 => h2 (dim_month y m (by omega))
      simp only [h1, h2, h3, and_self, decide_true, decide_false, if_true, Bool.true_and, Bool.false_and]
      rfl
  · simp only [h1, decide_false, Bool.false_and]
    rfl
theorem drop_getD {α : Type} (l : List α) (d : α) (i : Nat) (h : i < l.length) : l.drop i = l.getD i d :: l.drop (i + 1) := by
  rw [List.drop_eq_getElem_cons h, List.getD_eq_getElem?_getD, List.getElem?_eq_getElem h]
  rfl
theorem drop_end {α : Type} (l : List α) (i : Nat) (h : l.length ≤ i) : l.drop i = [] := List.drop_eq_nil_of_le h
theorem rd_nat (l : List Int) (i : Nat) : rd l (i : Int) = l.getD i 0 := rfl
theorem copy_step {α : Type} (l : List α) (d z : α) (i : Nat) (h : i < l.length) :
    (l.take i ++ List.replicate (l.length - i) z).set i (l.getD i d) = l.take (i + 1) ++ List.replicate (l.length - (i + 1)) z := by
  have h1 : (l.take i).length = i := by rw [List.length_take]; omega
  rw [List.set_append_right _ _ (by omega), h1, Nat.sub_self]
  have h2 : l.length - i = (l.length - (i + 1)) + 1 := by omega
  rw [h2, List.replicate_succ, List.set_cons_zero, List.take_succ_eq_append_getElem h, List.append_assoc]
  congr 1
  rw [List.getD_eq_getElem?_getD, List.getElem?_eq_getElem h]
  rfl
theorem copy_len {α : Type} (l : List α) (z : α) (i : Nat) (h : i ≤ l.length) : (l.take i ++ List.replicate (l.length - i) z).length = l.length := by
  rw [List.length_append, List.length_take, List.length_replicate]; omega
theorem toNat_nat (i : Nat) : ((i : Int)).toNat = i := rfl
theorem succ_i (i : Nat) (h : i ≤ 9223372036854775806) : wrap64 ((i : Int) + 1) = ((i + 1 : Nat) : Int) := wrap_to (by omega) (by omega) (by omega)
theorem pred_i (i : Nat) (h : 0 < i) (h' : i ≤ 9223372036854775806) : wrap64 ((i : Int) - 1) = ((i - 1 : Nat) : Int) := wrap_to (by omega) (by omega) (by omega)
/-! drawn numbers: only their ranges matter -/
theorem and255 (x : Int) : 0 ≤ Go.bits .and .i64 x 255 ∧ Go.bits .and .i64 x 255 ≤ 255 := by
  have h : ((BitVec.ofInt 64 x) &&& (BitVec.ofInt 64 255)).toNat ≤ 255 := by
    rw [BitVec.toNat_and]
    exact Nat.le_trans Nat.and_le_right (show (BitVec.ofInt 64 255).toNat ≤ 255 by decide)
  have e : Go.bits .and .i64 x 255 = IntKind.i64.wrap ((((BitVec.ofInt 64 x) &&& (BitVec.ofInt 64 255)).toNat : Nat) : Int) := rfl
  rw [e, IntKind.wrap_i64]
  omega
theorem spec_l01New_l0 (l : List Int) (hl : l.length ≤ 4611686018427387904) : ∀ (d i : Nat) (h : Int), i + d = l.length → ∃ h', Ev (fun k => spec_l01New.l0 k l h (i : Int)) (l, 0, h') := by
  intro d
  induction d with
  | zero =>
    intro i h hi
    refine ⟨h, ev_succ ?_⟩
    simp only [spec_l01New.l0]
    exact ev_else (by omega) (ev_some rfl)
  | succ d ih =>
    intro i h hi
    by_cases h4 : (i : Int) < 4000
    · obtain ⟨h', hh⟩ := ih (i + 1) (Go.bits .and .i64 (wrap64 ((wrap64 ((wrap64 (h * 131)) + (wrap64 (rd l (i : Int))))) + 7)) 1073741823) (by omega)
      refine ⟨h', ev_succ ?_⟩
      simp only [spec_l01New.l0]
      refine ev_if (by omega) (ev_if h4 (ev_if (by omega) ?_))
      rw [succ_i i (by omega)]
      exact hh
    · refine ⟨h, ev_succ ?_⟩
      simp only [spec_l01New.l0]
      exact ev_if (by omega) (ev_else h4 (ev_some rfl))
theorem spec_l01New_f (l : List Int) (hl : l.length ≤ 4611686018427387904) : ∃ h, Ev (fun k => spec_l01New.f k l) (l, 0, h) := by
  unfold spec_l01New.f
  exact spec_l01New_l0 l hl l.length 0 _ (by omega)
/-- what a draw gives: a number that q tells of, and a cursor that is right -/
def Drew (o : Option (Int × Int × Int)) (q : Int → Prop) : Prop := ∃ r i h, o = some (r, i, h) ∧ q r ∧ 0 ≤ i
theorem spec_l01Byte_f (l : List Int) (i h : Int) (hl : l.length ≤ 4611686018427387904) (hi : 0 ≤ i) : Drew (spec_l01Byte.f l i h) (fun r => 0 ≤ r ∧ r ≤ 255) := by
  unfold spec_l01Byte.f Drew
  by_cases h1 : i < (l.length : Int)
  · rw [if_pos h1, if_pos hi]
    refine ⟨_, _, _, rfl, and255 _, ?_⟩
    rw [wid (x := i + 1) (by omega) (by omega)]
    omega
  · rw [if_neg h1]
    exact ⟨_, _, _, rfl, and255 _, hi⟩
theorem spec_l01Below_f (l : List Int) (i h n : Int) (hl : l.length ≤ 4611686018427387904) (hi : 0 ≤ i) (hn : 0 < n) : Drew (spec_l01Below.f l i h n) (fun r => 0 ≤ r ∧ r < n) := by
  unfold spec_l01Below.f
  rw [if_neg (by omega)]
  by_cases h1 : n ≤ 256
  · rw [if_pos h1]
    obtain ⟨r, i', h', e, hr, hi'⟩ := spec_l01Byte_f l i h hl hi
    rw [e]
    simp only [Option.bind_some]
    rw [if_neg (by omega)]
    refine ⟨_, _, _, rfl, ?_, hi'⟩
    rw [tmodp (a := r) hr.1]
    have := Int.emod_lt_of_pos r hn
    have := Int.emod_nonneg r (show n ≠ 0 by omega)
    omega
  · rw [if_neg h1]
    obtain ⟨r1, i1, h1', e1, hr1, hi1⟩ := spec_l01Byte_f l i h hl hi
    obtain ⟨r2, i2, h2', e2, hr2, hi2⟩ := spec_l01Byte_f l i1 h1' hl hi1
    obtain ⟨r3, i3, h3', e3, hr3, hi3⟩ := spec_l01Byte_f l i2 h2' hl hi2
    obtain ⟨r4, i4, h4', e4, hr4, hi4⟩ := spec_l01Byte_f l i3 h3' hl hi3
    rw [e1]; simp only [Option.bind_some]
    rw [e2]; simp only [Option.bind_some]
    rw [e3]; simp only [Option.bind_some]
    rw [e4]; simp only [Option.bind_some]
    rw [if_neg (by omega)]
    refine ⟨_, _, _, rfl, ?_, hi4⟩
    rw [wid (x := r1 * 16777216) (by omega) (by omega), wid (x := r2 * 65536) (by omega) (by omega), wid (x := r3 * 256) (by omega) (by omega), wid (x := r1 * 16777216 + r2 * 65536) (by omega) (by omega), wid (x := r1 * 16777216 + r2 * 65536 + r3 * 256) (by omega) (by omega), wid (x := r1 * 16777216 + r2 * 65536 + r3 * 256 + r4) (by omega) (by omega)]
    rw [tmodp (a := r1 * 16777216 + r2 * 65536 + r3 * 256 + r4) (by omega)]
    have := Int.emod_lt_of_pos (r1 * 16777216 + r2 * 65536 + r3 * 256 + r4) hn
    have := Int.emod_nonneg (r1 * 16777216 + r2 * 65536 + r3 * 256 + r4) (show n ≠ 0 by omega)
    omega
theorem spec_l01PickInt_f (l : List Int) (i h : Int) (m : List Int) (hl : l.length ≤ 4611686018427387904) (hi : 0 ≤ i) (hm : 0 < m.length) : Drew (spec_l01PickInt.f l i h m) (fun r => r ∈ m) := by
  unfold spec_l01PickInt.f
  obtain ⟨r, i', h', e, hr, hi'⟩ := spec_l01Below_f l i h (m.length : Int) hl hi (by omega)
  rw [e]
  simp only [Option.bind_some]
  rw [if_pos hr.1, if_pos hr.2]
  refine ⟨_, _, _, rfl, ?_, hi'⟩
  obtain ⟨n, rfl⟩ := Int.eq_ofNat_of_zero_le hr.1
  rw [rd_nat, List.getD_eq_getElem?_getD, List.getElem?_eq_getElem (by omega)]
  exact List.getElem_mem _
theorem spec_l09Civil_f (l : List Int) (i h : Int) (hl : l.length ≤ 4611686018427387904) (hi : 0 ≤ i) : ∃ r, spec_l09Civil.f l i h = some r := by
  unfold spec_l09Civil.f
  obtain ⟨r1, i1, h1, e1, _, hi1⟩ := spec_l01Below_f l i h 130 hl hi (by omega)
  rw [e1]; simp only [Option.bind_some]
  obtain ⟨r2, i2, h2, e2, _, hi2⟩ := spec_l01Below_f l i1 h1 12 hl hi1 (by omega)
  rw [e2]; simp only [Option.bind_some]
  obtain ⟨r3, i3, h3, e3, _, hi3⟩ := spec_l01Below_f l i2 h2 31 hl hi2 (by omega)
  rw [e3]; simp only [Option.bind_some]
  obtain ⟨r4, i4, h4, e4, _, hi4⟩ := spec_l01Below_f l i3 h3 24 hl hi3 (by omega)
  rw [e4]; simp only [Option.bind_some]
  obtain ⟨r5, i5, h5, e5, _, hi5⟩ := spec_l01Below_f l i4 h4 60 hl hi4 (by omega)
  rw [e5]; simp only [Option.bind_some]
  obtain ⟨r6, i6, h6, e6, _, hi6⟩ := spec_l01Below_f l i5 h5 12 hl hi5 (by omega)
  rw [e6]; simp only [Option.bind_some]
  obtain ⟨a1, j1, g1, d1, _, _⟩ := spec_l01PickInt_f l i6 h6 [1969, 1970, 2000, 2099, 2100] hl hi6 (by simp)
  obtain ⟨a2, j2, g2, d2, _, _⟩ := spec_l01PickInt_f l i6 h6 [0, 2, 13] hl hi6 (by simp)
  obtain ⟨a3, j3, g3, d3, _, _⟩ := spec_l01PickInt_f l i6 h6 [0, 29, 32] hl hi6 (by simp)
  obtain ⟨a4, j4, g4, d4, _, _⟩ := spec_l01PickInt_f l i6 h6 [(-1), 24] hl hi6 (by simp)
  obtain ⟨a5, j5, g5, d5, _, _⟩ := spec_l01PickInt_f l i6 h6 [(-1), 60] hl hi6 (by simp)
  rw [d1, d2, d3, d4, d5]; simp only [Option.bind_some]
  by_cases c0 : r6 = 0
  · exact ⟨_, if_pos c0⟩
  rw [if_neg c0]
  by_cases c1 : r6 = 1
  · exact ⟨_, if_pos c1⟩
  rw [if_neg c1]
  by_cases c2 : r6 = 2
  · exact ⟨_, if_pos c2⟩
  rw [if_neg c2]
  by_cases c3 : r6 = 3
  · exact ⟨_, if_pos c3⟩
  rw [if_neg c3]
  by_cases c4 : r6 = 4
  · exact ⟨_, if_pos c4⟩
  rw [if_neg c4]
  by_cases c5 : r6 = 5
  · exact ⟨_, if_pos c5⟩
  · exact ⟨_, if_neg c5⟩
theorem spec_DrawMinuteOf_f (l : List Int) (hl : l.length ≤ 4611686018427387904) : ∃ y m d h i, Ev (fun k => spec_DrawMinuteOf.f k l) (y, m, d, h, i) := by
  obtain ⟨h, hn⟩ := spec_l01New_f l hl
  obtain ⟨r, e⟩ := spec_l09Civil_f l 0 h hl (by omega)
  obtain ⟨y, m, d, hh, i, j, g⟩ := r
  exact ⟨y, m, d, hh, i, ev_bind hn (ev_bind0 e (ev_some rfl))⟩
theorem FnDays_j1 (y m d h i : Int) (hc : civOkB y m d h i = true) : Ev (fun k => laws_FnDays.j1 k (dim y m) false y m d h i) true := by
  have hc' := hc
  unfold civOkB at hc'
  simp only [Bool.and_eq_true, decide_eq_true_eq] at hc'
  obtain ⟨⟨⟨⟨hy0, hy1⟩, hd0, hd1⟩, hh0, hh1⟩, hi0, hi1⟩ := hc'
  obtain ⟨m1, m2⟩ := dim_month y m (by omega)
  have hlo := dim_lo y m m1 m2
  have hdb := dim_bd y m
  have hde := dim_eq y m m1 m2
  have hys := yrB_succ y hy0 hy1
  have d13 : dim y 13 = 0 := rfl
  have last : Ev (fun k => impl_MinuteOf.f k y m (dim y m) h i) (minV y m (dim y m) h i, true) := by
    have := impl_MinuteOf_f y m (dim y m) h i
    unfold minuteV at this
    have hok : civOkB y m (dim y m) h i = true := by
      unfold civOkB
      simp only [Bool.and_eq_true, decide_eq_true_eq]
      exact ⟨⟨⟨⟨hy0, hy1⟩, by omega, by omega⟩, hh0, hh1⟩, hi0, hi1⟩
    rwa [if_pos hok] at this
  have hlv : minV y m (dim y m) h i = (yrB y + cumL (lpI y) (m + 1) - 1) * 1440 + h * 60 + i := by
    unfold minV
    rw [hde]
    have : yrB y + cumL (lpI y) m + dim y m - 1 = yrB y + (cumL (lpI y) m + dim y m) - 1 := by omega
    rw [this]
  have yb := yrB_bd y hy0 (by omega)
  have cb := cumL_bd y (m + 1) (by omega) (by omega)
  have hdays : Ev (fun k => (impl_DaysIn.f k y 13).bind fun t => some (t == 0)) true := ev_bind (impl_DaysIn_f y 13) (ev_some (by rw [d13]; rfl))
  have e0 : wrap64 (Int.tmod m 12 + 1) = m % 12 + 1 := by rw [tmodp (a := m) (by omega)]; exact wid (by omega) (by omega)
  have e1 : wrap64 (y + 1) = y + 1 := wid (by omega) (by omega)
  have e2 : wrap64 (minV y m (dim y m) h i + 1440) = minV y m (dim y m) h i + 1440 := by rw [hlv]; exact wid (by omega) (by omega)
  refine ev_succ ?_
  simp only [laws_FnDays.j1]
  rw [e0, e1]
  clear e0 e1
  refine ev_else (by simp) ?_
  by_cases h12 : m = 12
  · subst h12
    refine ev_if (by omega) ?_
    by_cases hlast : y + 1 ≤ 2099
    · have nx : Ev (fun k => impl_MinuteOf.f k (y + 1) (12 % 12 + 1) 1 h i) (minV (y + 1) 1 1 h i, true) := by
        have := impl_MinuteOf_f (y + 1) 1 1 h i
        unfold minuteV at this
        have hok : civOkB (y + 1) 1 1 h i = true := by
          unfold civOkB
          simp only [Bool.and_eq_true, decide_eq_true_eq]
          have := dim_lo (y + 1) 1 (by omega) (by omega)
          exact ⟨⟨⟨⟨by omega, hlast⟩, by omega, by omega⟩, hh0, hh1⟩, hi0, hi1⟩
        rwa [if_pos hok] at this
      refine ev_bind nx (ev_bind last (ev_if rfl (ev_if ?_ hdays)))
      rw [e2, hlv]
      unfold minV
      have a1 := cumL_1 (lpI (y + 1))
      have a2 := cumL_13 (lpI y)
      rw [a1, show (12 : Int) + 1 = 13 from rfl, a2, hys]
      omega
    · have nx : Ev (fun k => impl_MinuteOf.f k (y + 1) (12 % 12 + 1) 1 h i) (0, false) := by
        have := impl_MinuteOf_f (y + 1) 1 1 h i
        unfold minuteV at this
        have hok : ¬ civOkB (y + 1) 1 1 h i = true := by
          unfold civOkB
          simp only [Bool.and_eq_true, decide_eq_true_eq]
          intro hx
          omega
        rwa [if_neg hok] at this
      exact ev_bind nx (ev_bind last (ev_else (by simp) (ev_if (by omega) hdays)))
  · refine ev_else (by omega) ?_
    have hm' : m % 12 + 1 = m + 1 := by omega
    rw [hm']
    have nx : Ev (fun k => impl_MinuteOf.f k y (m + 1) 1 h i) (minV y (m + 1) 1 h i, true) := by
      have := impl_MinuteOf_f y (m + 1) 1 h i
      unfold minuteV at this
      have hok : civOkB y (m + 1) 1 h i = true := by
        unfold civOkB
        simp only [Bool.and_eq_true, decide_eq_true_eq]
        have := dim_lo y (m + 1) (by omega) (by omega)
        exact ⟨⟨⟨⟨hy0, hy1⟩, by omega, by omega⟩, hh0, hh1⟩, hi0, hi1⟩
      rwa [if_pos hok] at this
    refine ev_bind nx (ev_bind last (ev_if rfl (ev_if ?_ hdays)))
    rw [e2, hlv]
    unfold minV
    omega
theorem FnDays (l : List Int) (hl : l.length ≤ maxLen ∧ ∀ x ∈ l, (Lit.int .u8 x).wf = true) : ∃ k, laws_FnDays.f k l = some true := by
  refine Ev.rounds ?_
  unfold laws_FnDays.f laws_big.f
  refine ev_bind0 rfl ?_
  by_cases hbig : (l.length : Int) > 1048576
  · exact ev_if (by simpa using hbig) (ev_some rfl)
  refine ev_else (by simpa using hbig) ?_
  obtain ⟨y, m, d, h, i, hd⟩ := spec_DrawMinuteOf_f l (by omega)
  refine ev_bind hd (ev_bind (impl_MinuteOf_f y m d h i) (ev_bind0 (spec_CivilOk_f y m d h i) ?_))
  unfold minuteV
  have hcok := impl_CivilOk_f y m d h i
  by_cases hc : civOkB y m d h i = true
  · rw [if_pos hc]
    rw [hc] at hcok
    refine ev_else (by rw [hc]; simp) (ev_bind hcok (ev_succ ?_))
    simp only [laws_FnDays.j0]
    obtain ⟨n0, n1, ha⟩ := civ_of_ok hc
    obtain ⟨r, hr, hcr⟩ := impl_CivilOf_f (minV y m d h i)
    unfold CivilIs at hcr
    rw [if_pos ⟨n0, n1⟩] at hcr
    obtain ⟨u1, u2, u3, u4, u5⟩ := civ_unique hcr.2 ha
    have hc' := hc
    unfold civOkB at hc'
    simp only [Bool.and_eq_true, decide_eq_true_eq] at hc'
    obtain ⟨⟨⟨⟨hy0, hy1⟩, hd0, hd1⟩, hh0, hh1⟩, hi0, hi1⟩ := hc'
    obtain ⟨m1, m2⟩ := dim_month y m (by omega)
    have hlo := dim_lo y m m1 m2
    have hdb := dim_bd y m
    refine ev_else (by simp) (ev_if (by simp) (ev_bind hr (ev_bind (impl_DaysIn_f y m) (ev_if hcr.1 (ev_else ?_ (ev_else (by omega) (ev_else (by omega) ?_)))))))
    · rw [u1, u2, u3, u4, u5]; simp
    · have fin := FnDays_j1 y m d h i hc
      by_cases hm2 : m = 2
      · refine ev_if hm2 (ev_bind0 (impl_LeapYear_f y) ?_)
        have : ((dim y m == 29) != leapB y) = false := by
          rw [hm2]
          unfold dim
          cases leapB y <;> rfl
        rw [this]
        exact fin
      · exact ev_else hm2 fin
  · rw [if_neg hc]
    rw [Bool.eq_false_iff.2 hc] at hcok
    refine ev_else (by rw [Bool.eq_false_iff.2 hc]; simp) (ev_bind hcok (ev_succ ?_))
    simp only [laws_FnDays.j0]
    exact ev_else (by simp) (ev_else (by simp) (ev_some rfl))

end Go.Proofs.Ytidfhfaekdahpaa.Pure
