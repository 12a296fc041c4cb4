/- For every day and hour the program's MinuteOf returns what the reference's returns, without a condition. -/
import Derived.Test.YtgdcfkhpeakbfaaPFnExactMinuteOfx4
namespace Go.Proofs.Ytgdcfkhpeakbfaa.Pure
open Go.RowKit Go.Proofs.Ytgdcfkhpeakbfaa.PFnExactMinuteOf Go.Proofs.YtgdcfkhpeakbfaaW.PrintWords Go.Proofs.YtgdcfkhpeakbfaaW.PrintLast

set_option linter.unusedVariables false
set_option linter.unusedSimpArgs false
/-! small words on rounds -/
theorem wid {x : Int} (h0 : -9223372036854775808 ≤ x) (h1 : x ≤ 9223372036854775807) : wrap64 x = x := by
  unfold wrap64; omega
theorem wrap_to {x y : Int} (h : x = y) (h0 : -9223372036854775808 ≤ y) (h1 : y ≤ 9223372036854775807) : wrap64 x = y := by
  rw [h]; exact wid h0 h1
theorem ev_some {α : Type} {o : Option α} {r : α} (h : o = some r) : Ev (fun _ => o) r := ⟨0, fun _ _ => h⟩
theorem ev_succ {α : Type} {g : Nat → Option α} {r : α} (h : Ev (fun k => g (k + 1)) r) : Ev g r := Ev.step (fun _ => rfl) h
theorem ev_if {α : Type} {c : Prop} [Decidable c] {f g : Nat → Option α} {r : α} (h : c) (k : Ev f r) : Ev (fun n => if c then f n else g n) r := by
  simp only [if_pos h]; exact k
theorem ev_else {α : Type} {c : Prop} [Decidable c] {f g : Nat → Option α} {r : α} (h : ¬ c) (k : Ev g r) : Ev (fun n => if c then f n else g n) r := by
  simp only [if_neg h]; exact k
theorem ev_bind0 {α β : Type} {o : Option α} {f : Nat → α → Option β} {a : α} {r : β} (h : o = some a) (k : Ev (fun n => f n a) r) : Ev (fun n => o.bind (f n)) r := by
  subst h; exact k
theorem ev_bind {α β : Type} {g : Nat → Option α} {f : Nat → α → Option β} {a : α} {r : β} (h : Ev g a) (k : Ev (fun n => f n a) r) : Ev (fun n => (g n).bind (f n)) r := Ev.bind h k
theorem ev_eq {α : Type} {g : Nat → Option α} {a b : α} (h : Ev g a) (e : a = b) : Ev g b := e ▸ h
theorem tdivp {a b : Int} (h : 0 ≤ a) : Int.tdiv a b = a / b := Int.tdiv_eq_ediv_of_nonneg h
theorem tmodp {a b : Int} (h : 0 ≤ a) : Int.tmod a b = a % b := Int.tmod_eq_emod_of_nonneg h
theorem toList_iff (a b : ByteArray) : a.toList = b.toList ↔ a = b := by
  rw [ByteArray.toList_eq, ByteArray.toList_eq]
  exact ⟨fun h => ByteArray.ext (Array.toList_inj.mp h), fun h => by rw [h]⟩
def leapB (y : Int) : Bool := (decide (Int.tmod y 4 = 0) && !decide (Int.tmod y 100 = 0)) || decide (Int.tmod y 400 = 0)
def dim (y m : Int) : Int := if m = 2 then (if leapB y then 29 else 28) else if m = 4 ∨ m = 6 ∨ m = 9 ∨ m = 11 then 30 else if 1 ≤ m ∧ m ≤ 12 then 31 else 0
/-! years and months in days -/
def lpI (y : Int) : Int := if leapB y = true then 1 else 0
def yrB (y : Int) : Int := 365 * (y - 1970) + (y - 1969) / 4
def cumL (L m : Int) : Int :=
  if m ≤ 1 then 0 else if m = 2 then 31 else if m = 3 then 59 + L else if m = 4 then 90 + L else if m = 5 then 120 + L else if m = 6 then 151 + L
  else if m = 7 then 181 + L else if m = 8 then 212 + L else if m = 9 then 243 + L else if m = 10 then 273 + L else if m = 11 then 304 + L else if m = 12 then 334 + L else 365 + L
theorem leap_in (y : Int) (h0 : 1970 ≤ y) (h1 : y ≤ 2099) : leapB y = decide (y % 4 = 0) := by
  unfold leapB
  rw [tmodp (a := y) (by omega), tmodp (a := y) (by omega), tmodp (a := y) (by omega)]
  by_cases h : y % 4 = 0
  · by_cases h100 : y % 100 = 0
    · have h400 : y % 400 = 0 := by omega
      simp [h, h400]
    · simp [h, h100]
  · have h400 : ¬ y % 400 = 0 := by omega
    simp [h, h400]
theorem lp01 (y : Int) : lpI y = 0 ∨ lpI y = 1 := by unfold lpI; split <;> simp
theorem yrB_succ (y : Int) (h0 : 1970 ≤ y) (h1 : y ≤ 2099) : yrB (y + 1) = yrB y + 365 + lpI y := by
  unfold yrB lpI
  rw [leap_in y h0 h1]
  by_cases h : y % 4 = 0
  · simp only [h, decide_true, if_true]; omega
  · simp only [h, decide_false]; simp only [Bool.false_eq_true, if_false]; omega
theorem yrB_mono (a b : Int) (h0 : 1970 ≤ a) (h : a ≤ b) : yrB a ≤ yrB b := by unfold yrB; omega
theorem yrB_bd (a : Int) (h0 : 1970 ≤ a) (h : a ≤ 2100) : 0 ≤ yrB a ∧ yrB a ≤ 47482 := by unfold yrB; omega
theorem dim_eq (y m : Int) (h1 : 1 ≤ m) (h2 : m ≤ 12) : cumL (lpI y) (m + 1) = cumL (lpI y) m + dim y m := by
  have h' : m = 1 ∨ m = 2 ∨ m = 3 ∨ m = 4 ∨ m = 5 ∨ m = 6 ∨ m = 7 ∨ m = 8 ∨ m = 9 ∨ m = 10 ∨ m = 11 ∨ m = 12 := by omega
  unfold dim lpI
  rcases h' with rfl | rfl | rfl | rfl | rfl | rfl | rfl | rfl | rfl | rfl | rfl | rfl <;> cases leapB y <;> simp [cumL]
theorem dim_bd (y m : Int) : 0 ≤ dim y m ∧ dim y m ≤ 31 := by
  unfold dim
  repeat' split
  all_goals omega
theorem dim_lo (y m : Int) (h1 : 1 ≤ m) (h2 : m ≤ 12) : 28 ≤ dim y m := by
  unfold dim
  repeat' split
  all_goals omega
theorem dim_month (y m : Int) (h : 1 ≤ dim y m) : 1 ≤ m ∧ m ≤ 12 := by
  unfold dim at h
  by_cases h2 : m = 2
  · omega
  rw [if_neg h2] at h
  by_cases h3 : m = 4 ∨ m = 6 ∨ m = 9 ∨ m = 11
  · omega
  rw [if_neg h3] at h
  by_cases h4 : 1 ≤ m ∧ m ≤ 12
  · exact h4
  · rw [if_neg h4] at h; omega
theorem cumL_1 (L : Int) : cumL L 1 = 0 := by unfold cumL; rfl
theorem cumL_13 (L : Int) : cumL L 13 = 365 + L := by unfold cumL; rfl
theorem cumL_mono (y a : Int) (h1 : 1 ≤ a) : ∀ (d : Nat), a + d ≤ 13 → cumL (lpI y) a ≤ cumL (lpI y) (a + d) := by
  intro d
  induction d with
  | zero => intro _; simp
  | succ d ih =>
    intro hd
    have h := ih (by omega)
    have e : a + ((d + 1 : Nat) : Int) = (a + (d : Int)) + 1 := by omega
    rw [e, dim_eq y (a + d) (by omega) (by omega)]
    have := dim_bd y (a + d)
    omega
theorem cumL_le (y a b : Int) (h1 : 1 ≤ a) (h : a ≤ b) (h2 : b ≤ 13) : cumL (lpI y) a ≤ cumL (lpI y) b := by
  have := cumL_mono y a h1 (b - a).toNat (by omega)
  rwa [show a + ((b - a).toNat : Int) = b by omega] at this
theorem cumL_bd (y m : Int) (h1 : 1 ≤ m) (h2 : m ≤ 13) : 0 ≤ cumL (lpI y) m ∧ cumL (lpI y) m ≤ 366 := by
  have a := cumL_le y 1 m (by omega) h1 h2
  have b := cumL_le y m 13 h1 h2 (by omega)
  rw [cumL_1] at a
  rw [cumL_13] at b
  have := lp01 y
  omega
/-- the year of a day -/
theorem year_of (d : Int) (h0 : 0 ≤ d) (h1 : d ≤ 47481) : ∃ y, 1970 ≤ y ∧ y ≤ 2099 ∧ yrB y ≤ d ∧ d < yrB (y + 1) := by
  refine ⟨1970 + (4 * d + 2) / 1461, by omega, by omega, by unfold yrB; omega, by unfold yrB; omega⟩
theorem month_of (y d : Int) (h0 : 0 ≤ d) (h1 : d < 365 + lpI y) : ∃ m, 1 ≤ m ∧ m ≤ 12 ∧ cumL (lpI y) m ≤ d ∧ d < cumL (lpI y) (m + 1) := by
  have h13 := cumL_13 (lpI y)
  have h1' := cumL_1 (lpI y)
  by_cases c : ∃ m : Nat, m ≤ 11 ∧ d < cumL (lpI y) ((m : Int) + 2) ∧ ∀ j : Nat, j < m → ¬ d < cumL (lpI y) ((j : Int) + 2)
  · obtain ⟨m, hm, hd, hj⟩ := c
    refine ⟨(m : Int) + 1, by omega, by omega, ?_, by rwa [show (m : Int) + 1 + 1 = (m : Int) + 2 by omega]⟩
    cases m with
    | zero => simpa [h1'] using h0
    | succ m =>
      have := hj m (by omega)
      rw [show ((m + 1 : Nat) : Int) + 1 = (m : Int) + 2 by omega]
      omega
  · exfalso
    have key : ∀ m : Nat, m ≤ 12 → ∀ j : Nat, j < m → ¬ d < cumL (lpI y) ((j : Int) + 2) := by
      intro m
      induction m with
      | zero => intro _ j hj; omega
      | succ m ih =>
        intro hm j hj
        by_cases e : j = m
        · subst e
          intro hd
          exact c ⟨j, by omega, hd, ih (by omega)⟩
        · exact ih (by omega) j (by omega)
    have := key 12 (by omega) 11 (by omega)
    apply this
    show d < cumL (lpI y) (((11 : Nat) : Int) + 2)
    rw [show ((11 : Nat) : Int) + 2 = 13 from rfl, h13]
    omega
def civOkB (y m d h i : Int) : Bool := decide (1970 ≤ y ∧ y ≤ 2099) && decide (1 ≤ d ∧ d ≤ dim y m) && decide (0 ≤ h ∧ h ≤ 23) && decide (0 ≤ i ∧ i ≤ 59)
def minV (y m d h i : Int) : Int := (yrB y + cumL (lpI y) m + d - 1) * 1440 + h * 60 + i
/-- a minute's day and hour: the one right way to tell it -/
def CivAt (n y m d h i : Int) : Prop := 1970 ≤ y ∧ y ≤ 2099 ∧ 1 ≤ m ∧ m ≤ 12 ∧ yrB y ≤ n / 1440 ∧ n / 1440 < yrB (y + 1) ∧ cumL (lpI y) m ≤ n / 1440 - yrB y ∧ n / 1440 - yrB y < cumL (lpI y) (m + 1) ∧
  d = n / 1440 - yrB y - cumL (lpI y) m + 1 ∧ h = n % 1440 / 60 ∧ i = n % 60
theorem civ_at (n : Int) (h0 : 0 ≤ n) (h1 : n ≤ 68374079) : ∃ y m d h i, CivAt n y m d h i := by
  obtain ⟨y, a, b, c, e⟩ := year_of (n / 1440) (by omega) (by omega)
  have hs := yrB_succ y a b
  obtain ⟨m, a', b', c', e'⟩ := month_of y (n / 1440 - yrB y) (by omega) (by omega)
  exact ⟨y, m, _, _, _, a, b, a', b', c, e, c', e', rfl, rfl, rfl⟩
theorem civ_ok {n y m d h i : Int} (hc : CivAt n y m d h i) (h0 : 0 ≤ n) : civOkB y m d h i = true ∧ minV y m d h i = n := by
  obtain ⟨a, b, a', b', c, e, c', e', rfl, rfl, rfl⟩ := hc
  have hd := dim_eq y m a' b'
  constructor
  · unfold civOkB
    simp only [Bool.and_eq_true, decide_eq_true_eq]
    refine ⟨⟨⟨⟨a, b⟩, ?_, ?_⟩, ?_, ?_⟩, ?_, ?_⟩ <;> omega
  · unfold minV; omega
theorem civ_of_ok {y m d h i : Int} (hc : civOkB y m d h i = true) : 0 ≤ minV y m d h i ∧ minV y m d h i ≤ 68374079 ∧ CivAt (minV y m d h i) y m d h i := by
  unfold civOkB at hc
  simp only [Bool.and_eq_true, decide_eq_true_eq] at hc
  obtain ⟨⟨⟨⟨a, b⟩, c, e⟩, f, g⟩, p, q⟩ := hc
  obtain ⟨m1, m2⟩ := dim_month y m (by omega)
  have hd := dim_eq y m m1 m2
  have hs := yrB_succ y a b
  have hy0 := yrB_bd y a (by omega)
  have hy1 := yrB_bd (y + 1) (by omega) (by omega)
  have hc1 := cumL_bd y m m1 (by omega)
  have hc2 := cumL_le y (m + 1) 13 (by omega) (by omega) (by omega)
  rw [cumL_13] at hc2
  have hdiv : minV y m d h i / 1440 = yrB y + cumL (lpI y) m + d - 1 := by unfold minV; omega
  have hmod : minV y m d h i % 1440 = h * 60 + i := by unfold minV; omega
  have hmod2 : minV y m d h i % 60 = i := by unfold minV; omega
  refine ⟨by unfold minV; omega, by unfold minV; omega, a, b, m1, m2, ?_, ?_, ?_, ?_, ?_, ?_, ?_⟩
  · rw [hdiv]; omega
  · rw [hdiv]; omega
  · rw [hdiv]; omega
  · rw [hdiv]; omega
  · rw [hdiv]; omega
  · rw [hmod]; omega
  · exact hmod2.symm
theorem civ_unique {n y m d h i y' m' d' h' i' : Int} (a : CivAt n y m d h i) (b : CivAt n y' m' d' h' i') : y = y' ∧ m = m' ∧ d = d' ∧ h = h' ∧ i = i' := by
  obtain ⟨a1, a2, a3, a4, a5, a6, a7, a8, a9, a10, a11⟩ := a
  obtain ⟨b1, b2, b3, b4, b5, b6, b7, b8, b9, b10, b11⟩ := b
  have hy : y = y' := by
    rcases Int.lt_trichotomy y y' with h | h | h
    · have := yrB_mono (y + 1) y' (by omega) (by omega); omega
    · exact h
    · have := yrB_mono (y' + 1) y (by omega) (by omega); omega
  subst hy
  have hm : m = m' := by
    rcases Int.lt_trichotomy m m' with h | h | h
    · have := cumL_le y (m + 1) m' (by omega) (by omega) (by omega); omega
    · exact h
    · have := cumL_le y (m' + 1) m (by omega) (by omega) (by omega); omega
  subst hm
  exact ⟨rfl, rfl, by omega, by omega, by omega⟩
theorem impl_LeapYear_f (y : Int) : impl_LeapYear.f y = some (leapB y) := by
  unfold impl_LeapYear.f leapB
  by_cases h4 : Int.tmod y 4 = 0 <;> by_cases h100 : Int.tmod y 100 = 0 <;> by_cases h400 : Int.tmod y 400 = 0 <;> simp [h4, h100, h400]
theorem impl_DaysIn_f (y m : Int) : Ev (fun k => impl_DaysIn.f k y m) (dim y m) := by
  refine ⟨2, fun k hk => ?_⟩
  obtain ⟨k, rfl⟩ : ∃ j, k = j + 2 := ⟨k - 2, by omega⟩
  simp only [impl_DaysIn.f, impl_DaysIn.j0, impl_DaysIn.j1, impl_LeapYear_f, Option.bind_some]
  unfold dim
  by_cases h : 1 ≤ m ∧ m ≤ 12
  · have h' : m = 1 ∨ m = 2 ∨ m = 3 ∨ m = 4 ∨ m = 5 ∨ m = 6 ∨ m = 7 ∨ m = 8 ∨ m = 9 ∨ m = 10 ∨ m = 11 ∨ m = 12 := by omega
    rcases h' with rfl | rfl | rfl | rfl | rfl | rfl | rfl | rfl | rfl | rfl | rfl | rfl <;> cases leapB y <;> simp
  · have h2 : ∀ j : Int, 1 ≤ j → j ≤ 12 → ¬ m = j := by intro j h1 h2; omega
    simp [h, h2 1 (by omega) (by omega), h2 2 (by omega) (by omega), h2 3 (by omega) (by omega), h2 4 (by omega) (by omega), h2 5 (by omega) (by omega), h2 6 (by omega) (by omega), h2 7 (by omega) (by omega), h2 8 (by omega) (by omega), h2 9 (by omega) (by omega), h2 10 (by omega) (by omega), h2 11 (by omega) (by omega), h2 12 (by omega) (by omega)]
theorem impl_inRange_f (x a b : Int) : impl_inRange.f x a b = some (decide (a ≤ x ∧ x ≤ b)) := by
  unfold impl_inRange.f
  by_cases h1 : a ≤ x <;> by_cases h2 : x ≤ b <;> simp [h1, h2]
theorem impl_CivilOk_f (y m d h i : Int) : Ev (fun k => impl_CivilOk.f k y m d h i) (civOkB y m d h i) := by
  unfold impl_CivilOk.f civOkB
  refine ev_bind0 (impl_inRange_f _ _ _) ?_
  by_cases h1 : 1970 ≤ y ∧ y ≤ 2099
  · refine ev_if (decide_eq_true h1) (ev_bind (impl_DaysIn_f y m) (ev_bind0 (impl_inRange_f _ _ _) (ev_succ ?_)))
    simp only [impl_CivilOk.j0]
    by_cases h2 : 1 ≤ d ∧ d ≤ dim y m
    · refine ev_else (by simp only [h2, and_self, decide_true]; simp) (ev_bind0 (impl_inRange_f _ _ _) ?_)
      by_cases h3 : 0 ≤ h ∧ h ≤ 23
      · refine ev_if (decide_eq_true h3) (ev_bind0 (impl_inRange_f _ _ _) (ev_some ?_))
        simp only [decide_eq_true h1, decide_eq_true h2, decide_eq_true h3, Bool.true_and]
      · refine ev_else (by simp only [decide_eq_false h3]; simp) (ev_some ?_)
        simp only [decide_eq_false h3, Bool.and_false, Bool.false_and]
    · refine ev_if (by simp only [decide_eq_false h2]; simp) (ev_some ?_)
      simp only [decide_eq_false h2, Bool.and_false, Bool.false_and]
  · refine ev_else (by simp only [decide_eq_false h1]; simp) (ev_succ ?_)
    simp only [impl_CivilOk.j0]
    refine ev_if (by simp) (ev_some ?_)
    simp only [decide_eq_false h1, Bool.false_and]
def minuteV (y m d h i : Int) : Int × Bool := if civOkB y m d h i = true then (minV y m d h i, true) else (0, false)
theorem impl_daysOf_f (y : Int) : impl_daysOf.f y = some (365 + lpI y) := by
  unfold impl_daysOf.f lpI
  rw [impl_LeapYear_f]
  cases leapB y <;> rfl
theorem impl_MinuteOf_l1 (y m d h i : Int) (hc : civOkB y m d h i = true) : ∀ (e : Nat) (j : Int), 1 ≤ j → j + e = m →
    Ev (fun k => impl_MinuteOf.l1 k (yrB y + cumL (lpI y) j + d - 1) j y m d h i) (minV y m d h i, true) := by
  obtain ⟨b0, b1, b2⟩ := civ_of_ok hc
  unfold civOkB at hc
  simp only [Bool.and_eq_true, decide_eq_true_eq] at hc
  obtain ⟨⟨⟨⟨hy0, hy1⟩, hd0, hd1⟩, hh0, hh1⟩, hi0, hi1⟩ := hc
  obtain ⟨m1, m2⟩ := dim_month y m (by omega)
  have hd31 := dim_bd y m
  have yb := yrB_bd y hy0 (by omega)
  intro e
  induction e with
  | zero =>
    intro j hj hjm
    obtain rfl : j = m := by omega
    refine ev_succ ?_
    simp only [impl_MinuteOf.l1]
    refine ev_else (by omega) (ev_some ?_)
    have cb := cumL_bd y j hj (by omega)
    rw [wid (x := (yrB y + cumL (lpI y) j + d - 1) * 1440) (by omega) (by omega), wid (x := h * 60) (by omega) (by omega), wid (x := (yrB y + cumL (lpI y) j + d - 1) * 1440 + h * 60) (by omega) (by omega), wid (x := (yrB y + cumL (lpI y) j + d - 1) * 1440 + h * 60 + i) (by omega) (by omega)]
    rfl
  | succ e ih =>
    intro j hj hjm
    refine ev_succ ?_
    simp only [impl_MinuteOf.l1]
    refine ev_if (by omega) (ev_bind (impl_DaysIn_f y j) ?_)
    have cb := cumL_bd y j hj (by omega)
    have db := dim_bd y j
    have hs := dim_eq y j hj (by omega)
    rw [wid (x := j + 1) (by omega) (by omega), wid (x := yrB y + cumL (lpI y) j + d - 1 + dim y j) (by omega) (by omega)]
    have := ih (j + 1) (by omega) (by omega)
    rw [hs] at this
    rw [show yrB y + cumL (lpI y) j + d - 1 + dim y j = yrB y + (cumL (lpI y) j + dim y j) + d - 1 by omega]
    exact this
theorem impl_MinuteOf_l0 (y m d h i : Int) (hc : civOkB y m d h i = true) : ∀ (e : Nat) (j : Int), 1970 ≤ j → j + e = y →
    Ev (fun k => impl_MinuteOf.l0 k (yrB j + d - 1) j y m d h i) (minV y m d h i, true) := by
  have hc0 := hc
  unfold civOkB at hc
  simp only [Bool.and_eq_true, decide_eq_true_eq] at hc
  obtain ⟨⟨⟨⟨hy0, hy1⟩, hd0, hd1⟩, hh0, hh1⟩, hi0, hi1⟩ := hc
  obtain ⟨m1, m2⟩ := dim_month y m (by omega)
  have hd31 := dim_bd y m
  intro e
  induction e with
  | zero =>
    intro j hj hjy
    obtain rfl : j = y := by omega
    refine ev_succ ?_
    simp only [impl_MinuteOf.l0]
    refine ev_else (by omega) ?_
    have := impl_MinuteOf_l1 j m d h i hc0 (m - 1).toNat 1 (by omega) (by omega)
    rw [cumL_1, Int.add_zero] at this
    exact this
  | succ e ih =>
    intro j hj hjy
    refine ev_succ ?_
    simp only [impl_MinuteOf.l0]
    refine ev_if (by omega) (ev_bind0 (impl_daysOf_f j) ?_)
    have yb := yrB_bd j hj (by omega)
    have hs := yrB_succ j hj (by omega)
    have l01 := lp01 j
    rw [wid (x := j + 1) (by omega) (by omega), wid (x := yrB j + d - 1 + (365 + lpI j)) (by omega) (by omega)]
    have := ih (j + 1) (by omega) (by omega)
    rw [hs] at this
    rw [show yrB j + d - 1 + (365 + lpI j) = yrB j + 365 + lpI j + d - 1 by omega]
    exact this
theorem impl_MinuteOf_f (y m d h i : Int) : Ev (fun k => impl_MinuteOf.f k y m d h i) (minuteV y m d h i) := by
  unfold impl_MinuteOf.f minuteV
  refine ev_bind (impl_CivilOk_f y m d h i) ?_
  by_cases hc : civOkB y m d h i = true
  · refine ev_if hc (ev_eq ?_ (if_pos hc).symm)
    have hc' := hc
    unfold civOkB at hc'
    simp only [Bool.and_eq_true, decide_eq_true_eq] at hc'
    obtain ⟨⟨⟨⟨hy0, hy1⟩, hd0, hd1⟩, hh0, hh1⟩, hi0, hi1⟩ := hc'
    have hd31 := dim_bd y m
    have := impl_MinuteOf_l0 y m d h i hc (y - 1970).toNat 1970 (by omega) (by omega)
    rw [wid (x := d - 1) (by omega) (by omega)]
    have e0 : yrB 1970 + d - 1 = d - 1 := by unfold yrB; omega
    rw [e0] at this
    exact this
  · exact ev_else hc (ev_some (congrArg some (if_neg hc).symm))
theorem spec_LeapYear_f (y : Int) : spec_LeapYear.f y = some (leapB y) := by
  unfold spec_LeapYear.f leapB
  by_cases h4 : Int.tmod y 4 = 0 <;> by_cases h100 : Int.tmod y 100 = 0 <;> by_cases h400 : Int.tmod y 400 = 0 <;> simp [h4, h100, h400]
theorem spec_l01In_f (x a b : Int) : spec_l01In.f x a b = some (decide (a ≤ x ∧ x ≤ b)) := by
  unfold spec_l01In.f
  by_cases h1 : a ≤ x <;> by_cases h2 : x ≤ b <;> simp [h1, h2]
theorem spec_DaysIn_f (y m : Int) : spec_DaysIn.f y m = some (dim y m) := by
  unfold spec_DaysIn.f dim
  rw [spec_l01In_f, spec_LeapYear_f]
  simp only [Option.bind_some]
  by_cases h : 1 ≤ m ∧ m ≤ 12
  · have h' : m = 1 ∨ m = 2 ∨ m = 3 ∨ m = 4 ∨ m = 5 ∨ m = 6 ∨ m = 7 ∨ m = 8 ∨ m = 9 ∨ m = 10 ∨ m = 11 ∨ m = 12 := by omega
    rcases h' with rfl | rfl | rfl | rfl | rfl | rfl | rfl | rfl | rfl | rfl | rfl | rfl <;> cases leapB y <;> simp [wrap64, rd]
  · have h2 : ¬ m = 2 := by omega
    have h3 : ¬ (m = 4 ∨ m = 6 ∨ m = 9 ∨ m = 11) := by omega
    simp [h, h2, h3]
theorem spec_CivilOk_f (y m d h i : Int) : spec_CivilOk.f y m d h i = some (civOkB y m d h i) := by
  unfold spec_CivilOk.f civOkB
  simp only [spec_l01In_f, spec_DaysIn_f, Option.bind_some]
  by_cases h1 : 1970 ≤ y ∧ y ≤ 2099
  · by_cases h2 : 1 ≤ m ∧ m ≤ 12
    · by_cases h3 : 1 ≤ d ∧ d ≤ dim y m <;> by_cases h4 : 0 ≤ h ∧ h ≤ 23 <;> simp [h1, h2, h3, h4]
    · have h3 : ¬ (1 ≤ d ∧ d ≤ dim y m) := fun h3 => h2 (dim_month y m (by omega))
      simp only [h1, h2, h3, and_self, decide_true, decide_false, if_true, Bool.true_and, Bool.false_and]
      rfl
  · simp only [h1, decide_false, Bool.false_and]
    rfl
theorem spec_l09Year_f (y : Int) (h0 : 1970 ≤ y) (h1 : y ≤ 2100) : spec_l09Year.f y = some (yrB y) := by
  unfold spec_l09Year.f yrB
  rw [wid (x := y - 1970) (by omega) (by omega), wid (x := y - 1970 + 1) (by omega) (by omega), tdivp (a := y - 1970 + 1) (by omega), wid (x := (y - 1970 + 1) / 4) (by omega) (by omega), wid (x := 365 * (y - 1970)) (by omega) (by omega),
    wid (x := 365 * (y - 1970) + (y - 1970 + 1) / 4) (by omega) (by omega), show y - 1970 + 1 = y - 1969 by omega]
theorem spec_MinuteOf_l0 (y m d h i : Int) (hc : civOkB y m d h i = true) : ∀ (e : Nat) (j : Int), 1 ≤ j → j + e = m →
    Ev (fun k => spec_MinuteOf.l0 k (yrB y + cumL (lpI y) j) j y m d h i) (minV y m d h i, true) := by
  unfold civOkB at hc
  simp only [Bool.and_eq_true, decide_eq_true_eq] at hc
  obtain ⟨⟨⟨⟨hy0, hy1⟩, hd0, hd1⟩, hh0, hh1⟩, hi0, hi1⟩ := hc
  obtain ⟨m1, m2⟩ := dim_month y m (by omega)
  have hd31 := dim_bd y m
  have yb := yrB_bd y hy0 (by omega)
  intro e
  induction e with
  | zero =>
    intro j hj hjm
    obtain rfl : j = m := by omega
    refine ev_succ ?_
    simp only [spec_MinuteOf.l0]
    refine ev_else (by omega) (ev_some ?_)
    have cb := cumL_bd y j hj (by omega)
    rw [wid (x := yrB y + cumL (lpI y) j + d) (by omega) (by omega), wid (x := yrB y + cumL (lpI y) j + d - 1) (by omega) (by omega), wid (x := (yrB y + cumL (lpI y) j + d - 1) * 1440) (by omega) (by omega), wid (x := h * 60) (by omega) (by omega), wid (x := (yrB y + cumL (lpI y) j + d - 1) * 1440 + h * 60) (by omega) (by omega), wid (x := (yrB y + cumL (lpI y) j + d - 1) * 1440 + h * 60 + i) (by omega) (by omega)]
    rfl
  | succ e ih =>
    intro j hj hjm
    refine ev_succ ?_
    simp only [spec_MinuteOf.l0]
    refine ev_if (by omega) (ev_bind0 (spec_DaysIn_f y j) ?_)
    have cb := cumL_bd y j hj (by omega)
    have db := dim_bd y j
    have hs := dim_eq y j hj (by omega)
    rw [wid (x := j + 1) (by omega) (by omega), wid (x := yrB y + cumL (lpI y) j + dim y j) (by omega) (by omega)]
    have := ih (j + 1) (by omega) (by omega)
    rw [hs] at this
    rw [show yrB y + cumL (lpI y) j + dim y j = yrB y + (cumL (lpI y) j + dim y j) by omega]
    exact this
theorem spec_MinuteOf_f (y m d h i : Int) : Ev (fun k => spec_MinuteOf.f k y m d h i) (minuteV y m d h i) := by
  unfold spec_MinuteOf.f minuteV
  refine ev_bind0 (spec_CivilOk_f y m d h i) ?_
  by_cases hc : civOkB y m d h i = true
  · refine ev_if hc (ev_eq ?_ (if_pos hc).symm)
    have hc' := hc
    unfold civOkB at hc'
    simp only [Bool.and_eq_true, decide_eq_true_eq] at hc'
    obtain ⟨⟨⟨⟨hy0, hy1⟩, hd0, hd1⟩, hh0, hh1⟩, hi0, hi1⟩ := hc'
    obtain ⟨m1, m2⟩ := dim_month y m (by omega)
    have := spec_MinuteOf_l0 y m d h i hc (m - 1).toNat 1 (by omega) (by omega)
    rw [cumL_1, Int.add_zero] at this
    exact ev_bind0 (spec_l09Year_f y hy0 (by omega)) this
  · exact ev_else hc (ev_some (congrArg some (if_neg hc).symm))
theorem FnExactMinuteOf (y m d h i : Int) (_ : (Lit.int .i64 y).wf = true) (_ : (Lit.int .i64 m).wf = true) (_ : (Lit.int .i64 d).wf = true) (_ : (Lit.int .i64 h).wf = true) (_ : (Lit.int .i64 i).wf = true) : ∃ k, laws_FnExactMinuteOf.f k y m d h i = some true := by
  refine Ev.rounds ?_
  unfold laws_FnExactMinuteOf.f laws_toCivil.f
  refine ev_bind0 rfl (ev_bind (spec_MinuteOf_f y m d h i) (ev_bind0 rfl (ev_bind (impl_MinuteOf_f y m d h i) ?_)))
  exact ev_if rfl (ev_else (by simp) (ev_some rfl))

end Go.Proofs.Ytgdcfkhpeakbfaa.Pure
