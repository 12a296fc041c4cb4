/- For every year the program's LeapYear returns what the reference's returns, without a condition. -/
import Derived.Test.YtjfhaaoklmimeaaPFnExactLeapYearx1
namespace Go.Proofs.Ytjfhaaoklmimeaa.Pure
open Go.RowKit Go.Proofs.Ytjfhaaoklmimeaa.PFnExactLeapYear Go.Proofs.YtjfhaaoklmimeaaW.PrintWords Go.Proofs.YtjfhaaoklmimeaaW.PrintLast

def leapB (y : Int) : Bool := (decide (Int.tmod y 4 = 0) && !decide (Int.tmod y 100 = 0)) || decide (Int.tmod y 400 = 0)
theorem impl_LeapYear_f (y : Int) : impl_LeapYear.f y = some (leapB y) := by
  unfold impl_LeapYear.f leapB
  by_cases h4 : Int.tmod y 4 = 0 <;> by_cases h100 : Int.tmod y 100 = 0 <;> by_cases h400 : Int.tmod y 400 = 0 <;> simp [h4, h100, h400]
theorem spec_LeapYear_f (y : Int) : spec_LeapYear.f y = some (leapB y) := by
  unfold spec_LeapYear.f leapB
  by_cases h4 : Int.tmod y 4 = 0 <;> by_cases h100 : Int.tmod y 100 = 0 <;> by_cases h400 : Int.tmod y 400 = 0 <;> simp [h4, h100, h400]
theorem FnExactLeapYear : laws_FnExactLeapYear.Pure := by
  intro a0 h0
  unfold laws_FnExactLeapYear.f
  rw [spec_LeapYear_f, impl_LeapYear_f]
  simp

end Go.Proofs.Ytjfhaaoklmimeaa.Pure
