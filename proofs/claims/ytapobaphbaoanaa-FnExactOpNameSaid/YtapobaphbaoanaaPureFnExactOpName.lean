/- At every number the program's OpName is the reference's OpName. No condition beyond the row's own. -/
import Derived.Test.YtapobaphbaoanaaPFnExactOpNamex1
import Derived.Test.YtapobaphbaoanaaQLib
namespace Go.Proofs.Ytapobaphbaoanaa.Pure
set_option linter.unusedSimpArgs false
set_option linter.unusedVariables false
open Go.RowKit Go.Proofs.Ytapobaphbaoanaa.PFnExactOpName Go.Proofs.YtapobaphbaoanaaW.PrintWords Go.Proofs.YtapobaphbaoanaaW.PrintLast Go.Proofs.YtapobaphbaoanaaW.PrintMore
open Go.Proofs.Ytapobaphbaoanaa.Q
theorem FnExactOpName : laws_FnExactOpName.Pure := by
  intro a _
  simp only [laws_FnExactOpName.f, spec_OpName.f, impl_OpName.f, impl_in.f, spec_l10Names.f]
  by_cases h1 : a < 1
  · simp [if_pos h1, if_neg (show ¬ (1 : Int) ≤ a by omega)]
  · by_cases h2 : a > 26
    · simp [if_neg h1, if_pos h2, show (1 : Int) ≤ a by omega, show ¬ a ≤ 26 by omega]
    · have e : wrap64 (a - 1) = a - 1 := w64 (by omega) (by omega)
      rw [if_neg h1, if_neg h2, if_pos (show (1 : Int) ≤ a by omega), e]
      simp only [Option.bind_some, List.length_cons, List.length_nil]
      rw [if_pos (show (0 : Int) ≤ a - 1 by omega), if_pos (by omega)]
      simp [show a ≤ 26 by omega, show a - 1 < 26 by omega]

end Go.Proofs.Ytapobaphbaoanaa.Pure
