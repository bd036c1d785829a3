/- At every text the program's FunctionNumber is the reference's FunctionNumber. No condition beyond the row's own. -/
import Derived.Test.YtapobaphbaoanaaPFnExactFunctionNumberx1
import Derived.Test.YtapobaphbaoanaaQLib
namespace Go.Proofs.Ytapobaphbaoanaa.Pure
open Go.RowKit Go.Proofs.Ytapobaphbaoanaa.PFnExactFunctionNumber Go.Proofs.YtapobaphbaoanaaW.PrintWords Go.Proofs.YtapobaphbaoanaaW.PrintLast Go.Proofs.YtapobaphbaoanaaW.PrintMore
open Go.Proofs.Ytapobaphbaoanaa.Q
/-- The first place of s in l from i on, -1 if there is none. -/
def idxF (l : List ByteArray) (s : ByteArray) (i : Nat) : Int :=
  if i < l.length then (if (rdOf ByteArray.empty l i).toList = s.toList then (i : Int) else idxF l s (i + 1)) else -1
termination_by l.length - i
theorem idxF_range (l : List ByteArray) (s : ByteArray) : ∀ (d i : Nat), l.length - i = d → -1 ≤ idxF l s i ∧ idxF l s i < l.length := by
  intro d
  induction d with
  | zero => intro i hd; rw [idxF, if_neg (by omega)]; omega
  | succ d ih =>
    intro i hd; rw [idxF, if_pos (by omega)]; split
    · omega
    · exact ih _ (by omega)
theorem index_l0 (l : List ByteArray) (s : ByteArray) (hl : l.length ≤ 140737488351232) : ∀ (d i : Nat), l.length - i = d → Ev (fun k => slices_Index_string_string.l0 k l s l.length i) (idxF l s i) := by
  intro d
  induction d with
  | zero =>
    intro i hd
    refine ev_succ ?_
    rw [idxF, if_neg (by omega)]
    simp only [slices_Index_string_string.l0, if_neg (natNotLt (show ¬ i < l.length by omega))]
    exact Ev.now _
  | succ d ih =>
    intro i hd
    refine ev_succ ?_
    have hi : i < l.length := by omega
    rw [idxF, if_pos hi]
    simp only [slices_Index_string_string.l0, if_pos (natLt hi), if_pos (nat0 i), wsucc hi hl]
    by_cases h : (rdOf ByteArray.empty l i).toList = s.toList
    · simp only [if_pos h, if_pos h.symm]; exact Ev.now _
    · simp only [if_neg h, if_neg (Ne.symm h)]; exact ih _ (by omega)

theorem fnum_l0 (l : List ByteArray) (s : ByteArray) (hl : l.length ≤ 140737488351232) : ∀ (d i : Nat), l.length - i = d → Ev (fun k => spec_FunctionNumber.l0 k s l i) (idxF l s i + 1) := by
  intro d
  induction d with
  | zero =>
    intro i hd
    refine ev_succ ?_
    rw [idxF, if_neg (by omega)]
    simp only [spec_FunctionNumber.l0, if_neg (natNotLt (show ¬ i < l.length by omega))]
    exact Ev.now _
  | succ d ih =>
    intro i hd
    refine ev_succ ?_
    have hi : i < l.length := by omega
    rw [idxF, if_pos hi]
    simp only [spec_FunctionNumber.l0, if_pos (natLt hi), if_pos (nat0 i), wsucc hi hl]
    by_cases h : (rdOf ByteArray.empty l i).toList = s.toList
    · simp only [if_pos h]; exact Ev.now _
    · simp only [if_neg h]; exact ih _ (by omega)
theorem calls_same : impl_functions.f = spec_l10Calls.f := rfl
def callsL : List ByteArray := (spec_l10Calls.f).getD []
theorem calls_l : spec_l10Calls.f = some callsL := rfl
theorem calls_len : callsL.length = 7 := rfl
theorem spec_fnum_ev (s : ByteArray) : Ev (fun k => spec_FunctionNumber.f k s) (idxF callsL s 0 + 1) := by
  simp only [spec_FunctionNumber.f, calls_l, Option.bind_some]
  exact fnum_l0 callsL s (by rw [calls_len]; omega) _ 0 rfl
theorem impl_fnum_ev (s : ByteArray) : Ev (fun k => impl_FunctionNumber.f k s) (idxF callsL s 0 + 1) := by
  simp only [impl_FunctionNumber.f, calls_same, calls_l, Option.bind_some, slices_Index_string_string.f]
  refine Ev.bind (index_l0 callsL s (by rw [calls_len]; omega) _ 0 rfl) ?_
  have h := idxF_range callsL s _ 0 rfl
  rw [calls_len] at h
  rw [w64 (by omega) (by omega)]
  exact Ev.now _

theorem FnExactFunctionNumber : laws_FnExactFunctionNumber.Pure := by
  intro a0 h
  refine Ev.rounds (g := fun k => laws_FnExactFunctionNumber.f k a0) ?_
  simp only [laws_FnExactFunctionNumber.f]
  by_cases h1 : (a0.size : Int) > 1048576
  · simp only [if_pos h1]; exact Ev.now _
  · simp only [if_neg h1]
    refine Ev.bind (spec_fnum_ev a0) ?_
    refine Ev.bind (impl_fnum_ev a0) ?_
    simp only [if_true]; exact Ev.now _

end Go.Proofs.Ytapobaphbaoanaa.Pure
