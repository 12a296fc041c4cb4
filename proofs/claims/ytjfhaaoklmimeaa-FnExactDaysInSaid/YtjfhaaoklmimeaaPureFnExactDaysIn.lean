/- For every year and month the program's DaysIn returns what the reference's returns, without a condition. -/
import Derived.Test.YtjfhaaoklmimeaaPFnExactDaysInx1
namespace Go.Proofs.Ytjfhaaoklmimeaa.Pure
open Go.RowKit Go.Proofs.Ytjfhaaoklmimeaa.PFnExactDaysIn Go.Proofs.YtjfhaaoklmimeaaW.PrintWords Go.Proofs.YtjfhaaoklmimeaaW.PrintLast

/-! small words on rounds -/
theorem wid {x : Int} (h0 : -9223372036854775808 ≤ x) (h1 : x ≤ 9223372036854775807) : wrap64 x = x := by
  unfold wrap64; omega
theorem ev_some {α : Type} {o : Option α} {r : α} (h : o = some r) : Ev (fun _ => o) r := ⟨0, fun _ _ => h⟩
theorem ev_succ {α : Type} {g : Nat → Option α} {r : α} (h : Ev (fun k => g (k + 1)) r) : Ev g r := Ev.step (fun _ => rfl) h
theorem ev_if {α : Type} {c : Prop} [Decidable c] {f g : Nat → Option α} {r : α} (h : c) (k : Ev f r) : Ev (fun n => if c then f n else g n) r := by
  simp only [if_pos h]; exact k
theorem ev_else {α : Type} {c : Prop} [Decidable c] {f g : Nat → Option α} {r : α} (h : ¬ c) (k : Ev g r) : Ev (fun n => if c then f n else g n) r := by
  simp only [if_neg h]; exact k
theorem ev_bind0 {α β : Type} {o : Option α} {f : Nat → α → Option β} {a : α} {r : β} (h : o = some a) (k : Ev (fun n => f n a) r) : Ev (fun n => o.bind (f n)) r := by
  subst h; exact k
theorem ev_bind {α β : Type} {g : Nat → Option α} {f : Nat → α → Option β} {a : α} {r : β} (h : Ev g a) (k : Ev (fun n => f n a) r) : Ev (fun n => (g n).bind (f n)) r := Ev.bind h k
theorem ev_eq {α : Type} {g : Nat → Option α} {a b : α} (h : Ev g a) (e : a = b) : Ev g b := e ▸ h
theorem tdivp {a b : Int} (h : 0 ≤ a) : Int.tdiv a b = a / b := Int.tdiv_eq_ediv_of_nonneg h
theorem tmodp {a b : Int} (h : 0 ≤ a) : Int.tmod a b = a % b := Int.tmod_eq_emod_of_nonneg h
theorem toList_iff (a b : ByteArray) : a.toList = b.toList ↔ a = b := by
  rw [ByteArray.toList_eq, ByteArray.toList_eq]
  exact ⟨fun h => ByteArray.ext (Array.toList_inj.mp h), fun h => by rw [h]⟩
def leapB (y : Int) : Bool := (decide (Int.tmod y 4 = 0) && !decide (Int.tmod y 100 = 0)) || decide (Int.tmod y 400 = 0)
def dim (y m : Int) : Int := if m = 2 then (if leapB y then 29 else 28) else if m = 4 ∨ m = 6 ∨ m = 9 ∨ m = 11 then 30 else if 1 ≤ m ∧ m ≤ 12 then 31 else 0
theorem spec_LeapYear_f (y : Int) : spec_LeapYear.f y = some (leapB y) := by
  unfold spec_LeapYear.f leapB
  by_cases h4 : Int.tmod y 4 = 0 <;> by_cases h100 : Int.tmod y 100 = 0 <;> by_cases h400 : Int.tmod y 400 = 0 <;> simp [h4, h100, h400]
theorem spec_l01In_f (x a b : Int) : spec_l01In.f x a b = some (decide (a ≤ x ∧ x ≤ b)) := by
  unfold spec_l01In.f
  by_cases h1 : a ≤ x <;> by_cases h2 : x ≤ b <;> simp [h1, h2]
theorem spec_DaysIn_f (y m : Int) : spec_DaysIn.f y m = some (dim y m) := by
  unfold spec_DaysIn.f dim
  rw [spec_l01In_f, spec_LeapYear_f]
  simp only [Option.bind_some]
  by_cases h : 1 ≤ m ∧ m ≤ 12
  · have h' : m = 1 ∨ m = 2 ∨ m = 3 ∨ m = 4 ∨ m = 5 ∨ m = 6 ∨ m = 7 ∨ m = 8 ∨ m = 9 ∨ m = 10 ∨ m = 11 ∨ m = 12 := by omega
    rcases h' with rfl | rfl | rfl | rfl | rfl | rfl | rfl | rfl | rfl | rfl | rfl | rfl <;> cases leapB y <;> simp [wrap64, rd]
  · have h2 : ¬ m = 2 := by omega
    have h3 : ¬ (m = 4 ∨ m = 6 ∨ m = 9 ∨ m = 11) := by omega
    simp [h, h2, h3]
theorem impl_LeapYear_f (y : Int) : impl_LeapYear.f y = some (leapB y) := by
  unfold impl_LeapYear.f leapB
  by_cases h4 : Int.tmod y 4 = 0 <;> by_cases h100 : Int.tmod y 100 = 0 <;> by_cases h400 : Int.tmod y 400 = 0 <;> simp [h4, h100, h400]
theorem impl_DaysIn_f (y m : Int) : Ev (fun k => impl_DaysIn.f k y m) (dim y m) := by
  refine ⟨2, fun k hk => ?_⟩
  obtain ⟨k, rfl⟩ : ∃ j, k = j + 2 := ⟨k - 2, by omega⟩
  simp only [impl_DaysIn.f, impl_DaysIn.j0, impl_DaysIn.j1, impl_LeapYear_f, Option.bind_some]
  unfold dim
  by_cases h : 1 ≤ m ∧ m ≤ 12
  · have h' : m = 1 ∨ m = 2 ∨ m = 3 ∨ m = 4 ∨ m = 5 ∨ m = 6 ∨ m = 7 ∨ m = 8 ∨ m = 9 ∨ m = 10 ∨ m = 11 ∨ m = 12 := by omega
    rcases h' with rfl | rfl | rfl | rfl | rfl | rfl | rfl | rfl | rfl | rfl | rfl | rfl <;> cases leapB y <;> simp
  · have h2 : ∀ j : Int, 1 ≤ j → j ≤ 12 → ¬ m = j := by intro j h1 h2; omega
    simp [h, h2 1 (by omega) (by omega), h2 2 (by omega) (by omega), h2 3 (by omega) (by omega), h2 4 (by omega) (by omega), h2 5 (by omega) (by omega), h2 6 (by omega) (by omega), h2 7 (by omega) (by omega), h2 8 (by omega) (by omega), h2 9 (by omega) (by omega), h2 10 (by omega) (by omega), h2 11 (by omega) (by omega), h2 12 (by omega) (by omega)]
theorem FnExactDaysIn : laws_FnExactDaysIn.Pure := by
  intro a0 a1 h0 h1
  refine Ev.rounds ?_
  unfold laws_FnExactDaysIn.f
  refine ev_bind0 (spec_DaysIn_f a0 a1) ?_
  refine ev_bind (impl_DaysIn_f a0 a1) ?_
  exact ev_if rfl (ev_some rfl)

end Go.Proofs.Ytjfhaaoklmimeaa.Pure
