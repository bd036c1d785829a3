/- At every two numbers the program's MoneyAdd is the reference's MoneyAdd. No condition beyond the row's own. -/
import Derived.Test.YtapobaphbaoanaaPFnExactMoneyAddx1
namespace Go.Proofs.Ytapobaphbaoanaa.Pure
open Go.RowKit Go.Proofs.Ytapobaphbaoanaa.PFnExactMoneyAdd Go.Proofs.YtapobaphbaoanaaW.PrintWords Go.Proofs.YtapobaphbaoanaaW.PrintLast Go.Proofs.YtapobaphbaoanaaW.PrintMore
theorem right_same (a : Int) : impl_MoneyRight.f a = spec_MoneyRight.f a := by
  simp only [spec_MoneyRight.f, impl_MoneyRight.f, impl_in.f, ge_iff_le]
  by_cases h1 : (-1000000000000 : Int) ≤ a
  · simp only [if_pos h1, Option.bind_some]
  · simp only [if_neg h1, Option.bind_some]
/-- Is it money? -/
def mr (a : Int) : Bool := decide (-1000000000000 ≤ a ∧ a ≤ 1000000000000)
theorem right_is (a : Int) : spec_MoneyRight.f a = some (mr a) := by
  simp only [spec_MoneyRight.f, ge_iff_le, mr]
  by_cases h1 : (-1000000000000 : Int) ≤ a
  · simp [h1]
  · simp [h1]

theorem told_same (a : Int) : impl_toldMoney.f a = spec_l02Out.f a := by
  simp only [impl_toldMoney.f, spec_l02Out.f, right_same]
theorem told_some (a : Int) : ∃ p, spec_l02Out.f a = some p := by
  simp only [spec_l02Out.f, right_is, Option.bind_some]; split <;> exact ⟨_, rfl⟩
theorem add_same (a b : Int) : impl_MoneyAdd.f a b = spec_MoneyAdd.f a b := by
  simp only [impl_MoneyAdd.f, spec_MoneyAdd.f, right_same, told_same]
theorem add_some (a b : Int) : ∃ p, spec_MoneyAdd.f a b = some p := by
  obtain ⟨z, hz⟩ := told_some (wrap64 (a + b))
  simp only [spec_MoneyAdd.f, right_is, hz, Option.bind_some]
  split
  · split <;> exact ⟨_, rfl⟩
  · exact ⟨_, rfl⟩
theorem FnExactMoneyAdd : laws_FnExactMoneyAdd.Pure := by
  intro a b _ _
  obtain ⟨p, hp⟩ := add_some a b
  simp only [laws_FnExactMoneyAdd.f, add_same, hp, Option.bind_some, laws_eqMoneyOut.f, if_true]

end Go.Proofs.Ytapobaphbaoanaa.Pure
