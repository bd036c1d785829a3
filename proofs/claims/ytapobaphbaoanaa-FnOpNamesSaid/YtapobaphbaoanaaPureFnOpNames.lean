/- A drawn op has a name that no other op has; what is no op has none. No condition beyond the row's own. -/
import Derived.Test.YtapobaphbaoanaaPFnOpNamesx2
import Derived.Test.YtapobaphbaoanaaQLib
namespace Go.Proofs.Ytapobaphbaoanaa.Pure
set_option linter.unusedSimpArgs false
set_option linter.unusedVariables false
open Go.RowKit Go.Proofs.Ytapobaphbaoanaa.PFnOpNames Go.Proofs.YtapobaphbaoanaaW.PrintWords Go.Proofs.YtapobaphbaoanaaW.PrintLast Go.Proofs.YtapobaphbaoanaaW.PrintMore
open Go.Proofs.Ytapobaphbaoanaa.Q
/-- The place that a source has come to lies in its bytes. -/
def StOk (l : List Int) (a : Int) : Prop := 0 ≤ a ∧ a ≤ l.length
theorem told_range (v m most : Int) (h0 : 1 < most) (h1 : most ≤ 9223372036854775807) : 0 ≤ spec_l01Src_n.toldF v m most ∧ spec_l01Src_n.toldF v m most < most := by
  unfold spec_l01Src_n.toldF
  rw [u64w, tmod_pos (by omega)]
  have a := Int.emod_nonneg ((v + m / 1048576) % 18446744073709551616) (show most ≠ 0 by omega)
  have b := Int.emod_lt_of_pos ((v + m / 1048576) % 18446744073709551616) (show 0 < most by omega)
  rw [w64 (by omega) (by omega)]
  exact ⟨a, b⟩
/-- A number below most is drawn. -/
theorem n_ok (l : List Int) (a m s most : Int) (hst : StOk l a) (h1 : most ≤ 9223372036854775807) :
    ∃ r a' m', spec_l01Src_n.f l a m s most = some (r, a', m', s) ∧ StOk l a' ∧ 0 ≤ r ∧ (r < most ∨ r = 0) := by
  unfold spec_l01Src_n.f StOk at *
  by_cases c1 : most ≤ 1
  · rw [if_pos c1]; exact ⟨_, _, _, rfl, hst, by omega, Or.inr rfl⟩
  · rw [if_neg c1, if_pos h1]
    by_cases c2 : a < (l.length : Int)
    · rw [if_pos c2, if_pos hst.1]
      have := told_range (IntKind.u64.wrap (rd l a)) (spec_l01Src_n.mixF m) most (by omega) h1
      exact ⟨_, _, _, rfl, by omega, this.1, Or.inl this.2⟩
    · rw [if_neg c2]
      have := told_range 0 (spec_l01Src_n.mixF m) most (by omega) h1
      exact ⟨_, _, _, rfl, hst, this.1, Or.inl this.2⟩
theorem src_l0 (l : List Int) (hl : l.length ≤ 140737488351232) : ∀ (d i : Nat) (m : Int), 64 - i = d → ∃ m' s, Ev (fun k => spec_l01Source.l0 k l i l 0 m 0) (l, 0, m', s) ∧ 0 ≤ s ∧ s ≤ 12 := by
  have fin : ∀ (i : Nat) (m : Int), ¬ ((i : Int) < (l.length : Int) ∧ (i : Int) < 64) → ∃ m' s, Ev (fun k => spec_l01Source.l0 k l i l 0 m 0) (l, 0, m', s) ∧ 0 ≤ s ∧ s ≤ 12 := by
    intro i m hi
    have ew : wrap64 ((l.length : Int) / 20) = (l.length : Int) / 20 := w64 (by omega) (by omega)
    by_cases h12 : (l.length : Int) / 20 > 12
    · refine ⟨m, 12, ev_succ ?_, by omega, by omega⟩
      simp only [spec_l01Source.l0, ew, if_pos h12]
      by_cases h1 : (i : Int) < (l.length : Int)
      · simp only [if_pos h1, if_neg (show ¬ (i : Int) < 64 from fun h => hi ⟨h1, h⟩)]; exact Ev.now _
      · simp only [if_neg h1]; exact Ev.now _
    · refine ⟨m, (l.length : Int) / 20, ev_succ ?_, by omega, by omega⟩
      simp only [spec_l01Source.l0, ew, if_neg h12]
      by_cases h1 : (i : Int) < (l.length : Int)
      · simp only [if_pos h1, if_neg (show ¬ (i : Int) < 64 from fun h => hi ⟨h1, h⟩)]; exact Ev.now _
      · simp only [if_neg h1]; exact Ev.now _
  intro d
  induction d with
  | zero => intro i m hd; exact fin i m (by omega)
  | succ d ih =>
    intro i m hd
    by_cases h : (i : Int) < (l.length : Int) ∧ (i : Int) < 64
    · obtain ⟨m', s, e, h0⟩ := ih (i + 1) (IntKind.u64.wrap ((Go.bits .xor .u64 m (IntKind.u64.wrap (rd l i))) * 1099511628211)) (by omega)
      refine ⟨m', s, ev_succ ?_, h0⟩
      simp only [spec_l01Source.l0, if_pos h.1, if_pos h.2, if_pos (nat0 i), wsucc (show i < l.length by omega) hl]
      exact e
    · exact fin i m h
theorem src_ok (l : List Int) (hl : l.length ≤ 140737488351232) : ∃ m s, Ev (fun k => spec_l01Source.f k l) (l, 0, m, s) ∧ 0 ≤ s ∧ s ≤ 12 := by
  simp only [spec_l01Source.f]
  exact src_l0 l hl 64 0 _ rfl
theorem st0 (l : List Int) : StOk l 0 := ⟨by omega, by omega⟩

def opNamesL : List ByteArray := (spec_l10Names.f).getD []
theorem opNames_l : spec_l10Names.f = some opNamesL := rfl
theorem specName (a : Int) (h0 : 1 ≤ a) (h1 : a ≤ 26) : spec_OpName.f a = some (rdOf ByteArray.empty opNamesL (a - 1)) := by
  have e : wrap64 (a - 1) = a - 1 := w64 (by omega) (by omega)
  have hl : opNamesL.length = 26 := rfl
  simp only [spec_OpName.f, if_neg (show ¬ a < 1 by omega), if_neg (show ¬ a > 26 by omega), opNames_l, Option.bind_some, e, hl]
  rw [if_pos (by omega), if_pos (by omega)]
theorem implName (a : Int) (h0 : 1 ≤ a) (h1 : a ≤ 26) : impl_OpName.f a = some (rdOf ByteArray.empty opNamesL (a - 1)) := by
  have e : wrap64 (a - 1) = a - 1 := w64 (by omega) (by omega)
  simp only [impl_OpName.f, impl_in.f, if_pos h0, decide_eq_true h1, Option.bind_some, if_true, e]
  rw [if_pos (by omega), if_pos (by simp; omega)]
  rfl
theorem implNone (a : Int) (h : ¬ (1 ≤ a ∧ a ≤ 26)) : impl_OpName.f a = some ⟨#[]⟩ := by
  by_cases h0 : 1 ≤ a
  · simp only [impl_OpName.f, impl_in.f, if_pos h0, decide_eq_false (show ¬ a ≤ 26 by omega), Option.bind_some, Bool.false_eq_true, if_false]
  · simp only [impl_OpName.f, impl_in.f, if_neg h0, Option.bind_some, Bool.false_eq_true, if_false]
theorem names_apart : ∀ i j : Fin 26, i ≠ j → (opNamesL.getD i.val ByteArray.empty).data.toList ≠ (opNamesL.getD j.val ByteArray.empty).data.toList := by decide +kernel
theorem names_full : ∀ i : Fin 26, (opNamesL.getD i.val ByteArray.empty).data.toList ≠ [] := by decide +kernel
theorem ba_toList (s : ByteArray) : s.toList = s.data.toList := ByteArray.toList_eq s
theorem apart (a b : Int) (h0 : 1 ≤ a) (h1 : a ≤ 26) (h2 : 1 ≤ b) (h3 : b ≤ 26) (h : a ≠ b) : (rdOf ByteArray.empty opNamesL (a - 1)).toList ≠ (rdOf ByteArray.empty opNamesL (b - 1)).toList := by
  rw [ba_toList, ba_toList]
  have := names_apart ⟨(a - 1).toNat, by omega⟩ ⟨(b - 1).toNat, by omega⟩ (by intro e; have := congrArg Fin.val e; simp at this; omega)
  exact this
theorem full (a : Int) (h0 : 1 ≤ a) (h1 : a ≤ 26) : (rdOf ByteArray.empty opNamesL (a - 1)).toList ≠ ([] : List UInt8) := by
  rw [ba_toList]
  exact names_full ⟨(a - 1).toNat, by omega⟩
theorem loop (a : Int) (h0 : 1 ≤ a) (h1 : a ≤ 26) : ∀ (d : Nat) (i : Int), 27 - i = d → 1 ≤ i → Ev (fun k => laws_FnOpNames.l0 k a (rdOf ByteArray.empty opNamesL (a - 1)) i) true := by
  intro d
  induction d with
  | zero =>
    intro i hd hi
    refine ev_succ ?_
    simp only [laws_FnOpNames.l0, if_neg (show ¬ i ≤ 26 by omega), if_neg (full a h0 h1), specName a h0 h1, Option.bind_some, beq_self_eq_true]
    exact Ev.now _
  | succ d ih =>
    intro i hd hi
    refine ev_succ ?_
    simp only [laws_FnOpNames.l0, if_pos (show i ≤ 26 by omega), w64 (a := i + 1) (by omega) (by omega)]
    by_cases he : i = a
    · simp only [if_pos he]; exact ih _ (by omega) (by omega)
    · simp only [if_neg he, implName i hi (by omega), Option.bind_some, if_neg (apart i a hi (by omega) h0 h1 he)]
      exact ih _ (by omega) (by omega)
theorem FnOpNames : laws_FnOpNames.Pure := by
  intro l _ hl _
  refine Ev.rounds (g := fun k => laws_FnOpNames.f k l) ?_
  simp only [laws_FnOpNames.f]
  by_cases h1 : (l.length : Int) > 1048576
  · simp only [if_pos h1]; exact Ev.now _
  · simp only [if_neg h1]
    obtain ⟨m, s, e, _⟩ := src_ok l (by omega)
    obtain ⟨r, a', m', en, _, r0, r1⟩ := n_ok l 0 m s 29 (st0 l) (by omega)
    refine Ev.bind (a := r - 1) ?_ ?_
    · simp only [spec_DrawOpName.f]
      refine Ev.bind e ?_
      simp only [en, Option.bind_some, w64 (a := r - 1) (by omega) (by omega)]; exact Ev.now _
    · by_cases hr : 1 ≤ r - 1 ∧ r - 1 ≤ 26
      · simp only [implName _ hr.1 hr.2, Option.bind_some, if_neg (show ¬ r - 1 < 1 by omega), decide_eq_false (show ¬ r - 1 > 26 by omega)]
        refine ev_succ ?_
        simp only [laws_FnOpNames.j0, Bool.false_eq_true, if_false]
        exact loop _ hr.1 hr.2 26 1 (by omega) (by omega)
      · simp only [implNone _ hr, Option.bind_some]
        have e0 : ((⟨#[]⟩ : ByteArray).toList == ([] : List UInt8)) = true := by rw [ba_toList]; rfl
        have q : Ev (fun k => laws_FnOpNames.j0 k (r - 1) ⟨#[]⟩ true) true := ev_succ (by simp only [laws_FnOpNames.j0, if_true, e0]; exact Ev.now _)
        by_cases h2 : r - 1 < 1
        · simp only [if_pos h2]; exact q
        · simp only [if_neg h2, decide_eq_true (show r - 1 > 26 by omega)]; exact q

end Go.Proofs.Ytapobaphbaoanaa.Pure
