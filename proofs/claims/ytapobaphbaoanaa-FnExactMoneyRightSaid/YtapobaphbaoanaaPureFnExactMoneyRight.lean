/- At every number the program's MoneyRight is the reference's MoneyRight. No condition beyond the row's own. -/
import Derived.Test.YtapobaphbaoanaaPFnExactMoneyRightx1
namespace Go.Proofs.Ytapobaphbaoanaa.Pure
set_option linter.unusedSimpArgs false
set_option linter.unusedVariables false
open Go.RowKit Go.Proofs.Ytapobaphbaoanaa.PFnExactMoneyRight Go.Proofs.YtapobaphbaoanaaW.PrintWords Go.Proofs.YtapobaphbaoanaaW.PrintLast Go.Proofs.YtapobaphbaoanaaW.PrintMore
theorem right_same (a : Int) : impl_MoneyRight.f a = spec_MoneyRight.f a := by
  simp only [spec_MoneyRight.f, impl_MoneyRight.f, impl_in.f, ge_iff_le]
  by_cases h1 : (-1000000000000 : Int) ≤ a
  · simp only [if_pos h1, Option.bind_some]
  · simp only [if_neg h1, Option.bind_some]
/-- Is it money? -/
def mr (a : Int) : Bool := decide (-1000000000000 ≤ a ∧ a ≤ 1000000000000)
theorem right_is (a : Int) : spec_MoneyRight.f a = some (mr a) := by
  simp only [spec_MoneyRight.f, ge_iff_le, mr]
  by_cases h1 : (-1000000000000 : Int) ≤ a
  · simp [h1]
  · simp [h1]

theorem FnExactMoneyRight : laws_FnExactMoneyRight.Pure := by
  intro a _
  have h1 := right_same a
  rw [right_is] at h1
  simp [laws_FnExactMoneyRight.f, h1, right_is]

end Go.Proofs.Ytapobaphbaoanaa.Pure
