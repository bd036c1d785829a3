/- At every text the program's CallTypes is the reference's CallTypes, and its answer owns its memory. No condition beyond the row's own. -/
import Derived.Test.YtkffeaggiegfkaaPFnExactCallTypesx2
import Derived.Test.YtkffeaggiegfkaaQLib
namespace Go.Proofs.Ytkffeaggiegfkaa.Pure
set_option linter.unusedSimpArgs false
set_option linter.unusedVariables false
open Go.RowKit Go.Proofs.Ytkffeaggiegfkaa.PFnExactCallTypes Go.Proofs.YtkffeaggiegfkaaW.PrintWords Go.Proofs.YtkffeaggiegfkaaW.PrintLast Go.Proofs.YtkffeaggiegfkaaW.PrintMore
open Go.Proofs.Ytkffeaggiegfkaa.Q
/-- Slices of int64: told alike, marked, and held as marked. -/
theorem eqI_l0 (l : List Int) (hl : l.length ≤ 140737488351232) : ∀ (d i : Nat), l.length - i = d → Ev (fun k => laws_eqInt64S.l0 k l l i) true := by
  intro d
  induction d with
  | zero =>
    intro i hd
    refine ev_succ ?_
    simp only [laws_eqInt64S.l0, if_neg (natNotLt (show ¬ i < l.length by omega))]; exact Ev.now _
  | succ d ih =>
    intro i hd
    refine ev_succ ?_
    have hi : i < l.length := by omega
    simp only [laws_eqInt64S.l0, if_pos (natLt hi), if_pos (nat0 i), if_true, wsucc hi hl]
    exact ih _ (by omega)
theorem eqI_ev (l : List Int) (hl : l.length ≤ 140737488351232) : Ev (fun k => laws_eqInt64S.f k l l) true := by
  simp only [laws_eqInt64S.f, if_true]; exact eqI_l0 l hl _ 0 rfl
theorem rd_set (l : List Int) (i j : Nat) (v : Int) (hj : j < l.length) : rd (l.set i v) j = if i = j then v else rd l j := by
  unfold rd
  rw [List.getD_eq_getElem?_getD, List.getD_eq_getElem?_getD, List.getElem?_set]
  by_cases h : i = j
  · subst h; simp [hj]
  · simp [h]
theorem markI_l0 : ∀ (d i : Nat) (l : List Int) (v : Int), l.length - i = d → i ≤ l.length → l.length ≤ 140737488351232 → 0 ≤ v → v + d ≤ 4611686018427387904 →
    ∃ l' : List Int, Ev (fun k => laws_markInt64S.l0 k l v i) (v + d, l') ∧ l'.length = l.length ∧ (∀ j : Nat, j < i → rd l' j = rd l j) ∧ (∀ j : Nat, i ≤ j → j < l.length → rd l' j = v + (j - i : Nat)) := by
  intro d
  induction d with
  | zero =>
    intro i l v hd hi hl h0 h1
    refine ⟨l, ev_succ ?_, rfl, fun _ _ => rfl, fun j h2 h3 => by omega⟩
    simp only [laws_markInt64S.l0, if_neg (natNotLt (show ¬ i < l.length by omega))]
    rw [show v + ((0 : Nat) : Int) = v by omega]; exact Ev.now _
  | succ d ih =>
    intro i l v hd hi hl h0 h1
    have hi' : i < l.length := by omega
    obtain ⟨l', e, hlen, hlo, hhi⟩ := ih (i + 1) (l.set i v) (v + 1) (by simp; omega) (by simp; omega) (by simpa using hl) (by omega) (by omega)
    rw [List.length_set] at hlen hhi
    refine ⟨l', ev_succ ?_, hlen, fun j hj => ?_, fun j h2 h3 => ?_⟩
    · simp only [laws_markInt64S.l0, if_pos (natLt hi'), if_pos (nat0 i), w64 (a := v + 1) (by omega) (by omega), wsucc hi' hl, Int.toNat_natCast]
      rw [show v + ((d + 1 : Nat) : Int) = v + 1 + (d : Nat) by omega]
      exact e
    · rw [hlo j (by omega), rd_set _ _ _ _ (by omega), if_neg (by omega)]
    · by_cases hj : j = i
      · subst hj; rw [hlo j (by omega), rd_set _ _ _ _ h3, if_pos rfl]; omega
      · rw [hhi j (by omega) h3]; omega
theorem heldI_l0 (l : List Int) (hl : l.length ≤ 140737488351232) : ∀ (d i : Nat) (v : Int), l.length - i = d → 0 ≤ v → v + d ≤ 4611686018427387904 → (∀ j : Nat, i ≤ j → j < l.length → rd l j = v + (j - i : Nat)) →
    Ev (fun k => laws_heldInt64S.l0 k l v i) (v + d) := by
  intro d
  induction d with
  | zero =>
    intro i v hd h0 h1 h
    refine ev_succ ?_
    simp only [laws_heldInt64S.l0, if_neg (natNotLt (show ¬ i < l.length by omega))]
    rw [show v + ((0 : Nat) : Int) = v by omega]; exact Ev.now _
  | succ d ih =>
    intro i v hd h0 h1 h
    refine ev_succ ?_
    have hi : i < l.length := by omega
    have e := h i (Nat.le_refl _) hi
    rw [Nat.sub_self] at e
    simp only [laws_heldInt64S.l0, if_pos (natLt hi), if_pos (nat0 i), if_pos (show rd l i = v by omega), w64 (a := v + 1) (by omega) (by omega), wsucc hi hl]
    rw [show v + ((d + 1 : Nat) : Int) = v + 1 + (d : Nat) by omega]
    exact ih (i + 1) (v + 1) (by omega) (by omega) (by omega) (fun j h2 h3 => by rw [h j (by omega) h3]; omega)
/-- A row of the call's own, marked from 1 on, is held so. -/
theorem marksI (l : List Int) (hl : l.length ≤ 140737488351232) : ∃ l' : List Int, Ev (fun k => laws_markInt64S.f k l 1) (1 + l.length, l') ∧ Ev (fun k => laws_heldInt64S.f k l' 1) (1 + l.length) := by
  obtain ⟨l', e, hlen, _, hhi⟩ := markI_l0 l.length 0 l 1 (by omega) (by omega) hl (by omega) (by omega)
  refine ⟨l', e, ?_⟩
  simp only [laws_heldInt64S.f]
  exact heldI_l0 l' (by omega) l.length 0 1 (by omega) (by omega) (by omega) (fun j h2 h3 => hhi j h2 (by omega))

theorem call_both (s : ByteArray) : ∃ l : List Int, l.length ≤ 5 ∧ Ev (fun k => spec_CallTypes.f k s) l ∧ Ev (fun k => impl_CallTypes.f k s) l := by
  have key : ∃ l : List Int, l.length ≤ 5 ∧ (∀ k, spec_CallTypes.f (k + 1) s = some l) ∧ (∀ k, impl_CallTypes.f (k + 1) s = some l) := by
    by_cases h1 : s.toList = ([105, 110, 116, 101, 114, 101, 115, 116] : List UInt8)
    · exact ⟨[2, 2, 3, 4, 4], by simp, fun k => by simp [spec_CallTypes.f, h1], fun k => by simp [impl_CallTypes.f, h1]⟩
    · by_cases h2 : s.toList = ([105, 110, 115, 116, 97, 108, 109, 101, 110, 116] : List UInt8)
      · exact ⟨[2, 2, 3, 1, 4], by simp, fun k => by simp [spec_CallTypes.f, h2], fun k => by simp [impl_CallTypes.f, h2]⟩
      · by_cases h3 : s.toList = ([108, 97, 116, 101, 114] : List UInt8)
        · exact ⟨[4, 4, 1], by simp, fun k => by simp [spec_CallTypes.f, h3], fun k => by simp [impl_CallTypes.f, h3]⟩
        · by_cases h4 : s.toList = ([100, 97, 121, 115] : List UInt8)
          · exact ⟨[1, 4, 4], by simp, fun k => by simp [spec_CallTypes.f, h4], fun k => by simp [impl_CallTypes.f, h4]⟩
          · by_cases h5 : s.toList = ([108, 101, 97, 115, 116] : List UInt8)
            · exact ⟨[2, 2, 2], by simp, fun k => by simp [spec_CallTypes.f, spec_CallTypes.j0, h5], fun k => by simp [impl_CallTypes.f, impl_CallTypes.j0, h5]⟩
            · by_cases h6 : s.toList = ([109, 111, 115, 116] : List UInt8)
              · exact ⟨[2, 2, 2], by simp, fun k => by simp [spec_CallTypes.f, spec_CallTypes.j0, h6], fun k => by simp [impl_CallTypes.f, impl_CallTypes.j0, h6]⟩
              · by_cases h7 : s.toList = ([115, 104, 97, 114, 101] : List UInt8)
                · exact ⟨[2, 2, 3], by simp, fun k => by simp [spec_CallTypes.f, spec_CallTypes.j0, h7], fun k => by simp [impl_CallTypes.f, impl_CallTypes.j0, h7]⟩
                · exact ⟨[], by simp, fun k => by simp [spec_CallTypes.f, spec_CallTypes.j0, h1, h2, h3, h4, h5, h6, h7], fun k => by simp [impl_CallTypes.f, impl_CallTypes.j0, h1, h2, h3, h4, h5, h6, h7]⟩
  obtain ⟨l, hl, hs, hi⟩ := key
  exact ⟨l, hl, ev_succ ⟨0, fun k _ => hs k⟩, ev_succ ⟨0, fun k _ => hi k⟩⟩
theorem FnExactCallTypes : laws_FnExactCallTypes.Pure := by
  intro a0 h
  refine Ev.rounds (g := fun k => laws_FnExactCallTypes.f k a0) ?_
  simp only [laws_FnExactCallTypes.f]
  by_cases h1 : (a0.size : Int) > 1048576
  · simp only [if_pos h1]; exact Ev.now _
  · simp only [if_neg h1]
    obtain ⟨l, hl, es, ei⟩ := call_both a0
    obtain ⟨l', em, eh⟩ := marksI l (by omega)
    refine Ev.bind es ?_
    refine Ev.bind ei ?_
    refine Ev.bind (eqI_ev l (by omega)) ?_
    simp only [if_true]
    refine Ev.bind em ?_
    refine Ev.bind eh ?_
    simp only [if_neg (show ¬ (1 : Int) + l.length < 0 by omega), if_true]
    refine Ev.bind ei ?_
    refine Ev.bind (eqI_ev l (by omega)) ?_
    simp only [if_true]
    refine Ev.bind eh ?_
    simp only [if_neg (show ¬ (1 : Int) + l.length < 0 by omega), if_true]
    exact Ev.now _

end Go.Proofs.Ytkffeaggiegfkaa.Pure
