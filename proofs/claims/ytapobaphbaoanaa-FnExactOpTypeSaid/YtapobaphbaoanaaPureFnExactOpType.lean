/- At every operator and two types the program's OpType is the reference's OpType. No condition beyond the row's own. -/
import Derived.Test.YtapobaphbaoanaaPFnExactOpTypex2
import Derived.Test.YtapobaphbaoanaaQLib
namespace Go.Proofs.Ytapobaphbaoanaa.Pure
set_option linter.unusedSimpArgs false
set_option linter.unusedVariables false
open Go.RowKit Go.Proofs.Ytapobaphbaoanaa.PFnExactOpType Go.Proofs.YtapobaphbaoanaaW.PrintWords Go.Proofs.YtapobaphbaoanaaW.PrintLast Go.Proofs.YtapobaphbaoanaaW.PrintMore
open Go.Proofs.Ytapobaphbaoanaa.Q
/-- What both tell. -/
def opT (l : List UInt8) (a b : Int) : Int :=
  if l = [43] ∨ l = [45] then (if a = b ∧ (a = 1 ∨ a = 2) then a else 0)
  else if l = [42] then (if b = 1 ∧ (a = 1 ∨ a = 2) then a else 0)
  else if l = [60] ∨ l = [60, 61] then (if a = b ∧ 1 ≤ a ∧ a < 5 then 5 else 0)
  else if l = [61] then (if a = b ∧ 1 ≤ a ∧ a ≤ 5 then 5 else 0)
  else if l = [97, 110, 100] ∨ l = [111, 114] then (if a = 5 ∧ b = 5 then 5 else 0) else 0
theorem spec_op (s : ByteArray) (a b : Int) : spec_OpType.f 6 s a b = some (opT s.toList a b) := by
  by_cases e : a = b
  · subst e
    by_cases h : 1 ≤ a ∧ a ≤ 5
    · have h3 : a = 1 ∨ a = 2 ∨ a = 3 ∨ a = 4 ∨ a = 5 := by omega
      clear h
      rcases h3 with e | e | e | e | e <;> subst e <;>
      simp [spec_OpType.f, spec_OpType.j0, spec_OpType.j1, spec_OpType.j2, spec_OpType.j3, opT] <;> (repeat' split) <;> simp_all
    · have n1 : a ≠ 1 := by omega
      have n2 : a ≠ 2 := by omega
      have n5 : a ≠ 5 := by omega
      have n6 : ¬ (1 ≤ a ∧ a < 5) := by omega
      by_cases h1 : 1 ≤ a
      · have h2 : ¬ a ≤ 5 := by omega
        have h4 : ¬ a < 5 := by omega
        simp [spec_OpType.f, spec_OpType.j0, spec_OpType.j1, spec_OpType.j2, spec_OpType.j3, opT, n1, n2, n5, h1, h2, h4] <;> (repeat' split) <;> simp_all
      · simp [spec_OpType.f, spec_OpType.j0, spec_OpType.j1, spec_OpType.j2, spec_OpType.j3, opT, n1, n2, n5, h1] <;> (repeat' split) <;> simp_all
  · by_cases a1 : a = 1
    · subst a1
      have e' : ¬ b = 1 := fun h => e h.symm
      simp [spec_OpType.f, spec_OpType.j0, spec_OpType.j1, spec_OpType.j2, spec_OpType.j3, opT, e, e'] <;> (repeat' split) <;> simp_all
    · by_cases a2 : a = 2
      · subst a2
        by_cases b1 : b = 1
        · subst b1
          simp [spec_OpType.f, spec_OpType.j0, spec_OpType.j1, spec_OpType.j2, spec_OpType.j3, opT] <;> (repeat' split) <;> simp_all
        · simp [spec_OpType.f, spec_OpType.j0, spec_OpType.j1, spec_OpType.j2, spec_OpType.j3, opT, e, b1] <;> (repeat' split) <;> simp_all
      · by_cases a5 : a = 5
        · subst a5
          have e' : ¬ b = 5 := fun h => e h.symm
          simp [spec_OpType.f, spec_OpType.j0, spec_OpType.j1, spec_OpType.j2, spec_OpType.j3, opT, e, e'] <;> (repeat' split) <;> simp_all
        · by_cases h1 : 1 ≤ a
          · simp [spec_OpType.f, spec_OpType.j0, spec_OpType.j1, spec_OpType.j2, spec_OpType.j3, opT, e, a1, a2, a5, h1] <;> (repeat' split) <;> simp_all
          · simp [spec_OpType.f, spec_OpType.j0, spec_OpType.j1, spec_OpType.j2, spec_OpType.j3, opT, e, a1, a2, a5, h1] <;> (repeat' split) <;> simp_all
theorem impl_op (s : ByteArray) (a b : Int) : impl_OpType.f 6 s a b = some (opT s.toList a b) := by
  by_cases e : a = b
  · subst e
    by_cases h : 1 ≤ a ∧ a ≤ 5
    · have h3 : a = 1 ∨ a = 2 ∨ a = 3 ∨ a = 4 ∨ a = 5 := by omega
      clear h
      rcases h3 with e | e | e | e | e <;> subst e <;>
      simp [impl_OpType.f, impl_in.f, impl_OpType.j0, impl_OpType.j1, impl_OpType.j2, impl_OpType.j3, opT] <;> (repeat' split) <;> simp_all
    · have n1 : a ≠ 1 := by omega
      have n2 : a ≠ 2 := by omega
      have n5 : a ≠ 5 := by omega
      have n6 : ¬ (1 ≤ a ∧ a < 5) := by omega
      by_cases h1 : 1 ≤ a
      · have h2 : ¬ a ≤ 5 := by omega
        have h4 : ¬ a < 5 := by omega
        simp [impl_OpType.f, impl_in.f, impl_OpType.j0, impl_OpType.j1, impl_OpType.j2, impl_OpType.j3, opT, n1, n2, n5, h1, h2, h4] <;> (repeat' split) <;> simp_all
      · simp [impl_OpType.f, impl_in.f, impl_OpType.j0, impl_OpType.j1, impl_OpType.j2, impl_OpType.j3, opT, n1, n2, n5, h1] <;> (repeat' split) <;> simp_all
  · by_cases a1 : a = 1
    · subst a1
      have e' : ¬ b = 1 := fun h => e h.symm
      simp [impl_OpType.f, impl_in.f, impl_OpType.j0, impl_OpType.j1, impl_OpType.j2, impl_OpType.j3, opT, e, e'] <;> (repeat' split) <;> simp_all
    · by_cases a2 : a = 2
      · subst a2
        by_cases b1 : b = 1
        · subst b1
          simp [impl_OpType.f, impl_in.f, impl_OpType.j0, impl_OpType.j1, impl_OpType.j2, impl_OpType.j3, opT] <;> (repeat' split) <;> simp_all
        · simp [impl_OpType.f, impl_in.f, impl_OpType.j0, impl_OpType.j1, impl_OpType.j2, impl_OpType.j3, opT, e, b1] <;> (repeat' split) <;> simp_all
      · by_cases a5 : a = 5
        · subst a5
          have e' : ¬ b = 5 := fun h => e h.symm
          simp [impl_OpType.f, impl_in.f, impl_OpType.j0, impl_OpType.j1, impl_OpType.j2, impl_OpType.j3, opT, e, e'] <;> (repeat' split) <;> simp_all
        · by_cases h1 : 1 ≤ a
          · simp [impl_OpType.f, impl_in.f, impl_OpType.j0, impl_OpType.j1, impl_OpType.j2, impl_OpType.j3, opT, e, a1, a2, a5, h1] <;> (repeat' split) <;> simp_all
          · simp [impl_OpType.f, impl_in.f, impl_OpType.j0, impl_OpType.j1, impl_OpType.j2, impl_OpType.j3, opT, e, a1, a2, a5, h1] <;> (repeat' split) <;> simp_all
theorem FnExactOpType : laws_FnExactOpType.Pure := by
  intro s a b _ _ _
  refine ⟨6, ?_⟩
  simp only [laws_FnExactOpType.f, spec_op, impl_op, Option.bind_some, if_true]
  split <;> rfl

end Go.Proofs.Ytapobaphbaoanaa.Pure
