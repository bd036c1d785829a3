/- At every Date the program's DayOf is the reference's DayOf. No condition beyond the row's own. -/
import Derived.Test.YtkffeaggiegfkaaPFnExactDayOfx3
import Derived.Test.YtkffeaggiegfkaaQLib
namespace Go.Proofs.Ytkffeaggiegfkaa.Pure
set_option linter.unusedSimpArgs false
set_option linter.unusedVariables false
open Go.RowKit Go.Proofs.Ytkffeaggiegfkaa.PFnExactDayOf Go.Proofs.YtkffeaggiegfkaaW.PrintWords Go.Proofs.YtkffeaggiegfkaaW.PrintLast Go.Proofs.YtkffeaggiegfkaaW.PrintMore
open Go.Proofs.Ytkffeaggiegfkaa.Q
/-- How many days a month has. -/
def lenF (y m : Int) : Int := if m = 2 then (if Int.tmod y 4 = 0 then 29 else 28) else if m = 4 ∨ m = 6 ∨ m = 9 ∨ m = 11 then 30 else 31
/-- How many days stand ahead of a year. -/
def headF (y : Int) : Int := 365 * (y - 2000) + (y - 2000 + 3) / 4
/-- How many days a year has from a month on. -/
def remF (y m : Int) : Int := if m = 1 then 337 + lenF y 2 else if m = 2 then 306 + lenF y 2 else if m = 3 then 306 else if m = 4 then 275 else if m = 5 then 245 else if m = 6 then 214 else if m = 7 then 184 else if m = 8 then 153 else if m = 9 then 122 else if m = 10 then 92 else if m = 11 then 61 else if m = 12 then 31 else 0
theorem lenF_range (y m : Int) : 28 ≤ lenF y m ∧ lenF y m ≤ 31 := by
  unfold lenF; split
  · split <;> omega
  · split <;> omega
theorem twelve {m : Int} (h0 : 1 ≤ m) (h1 : m ≤ 12) : m = 1 ∨ m = 2 ∨ m = 3 ∨ m = 4 ∨ m = 5 ∨ m = 6 ∨ m = 7 ∨ m = 8 ∨ m = 9 ∨ m = 10 ∨ m = 11 ∨ m = 12 := by omega
theorem rem_step (y m : Int) (h0 : 1 ≤ m) (h1 : m ≤ 12) : remF y m = lenF y m + remF y (m + 1) := by
  rcases twelve h0 h1 with e | e | e | e | e | e | e | e | e | e | e | e <;> subst e <;> simp [remF, lenF] <;> omega
theorem rem_end (y : Int) : remF y 13 = 0 := by simp [remF]
theorem spec_len (y m : Int) : spec_l03Len.f y m = some (lenF y m) := by
  unfold spec_l03Len.f lenF
  by_cases h2 : m = 2
  · rw [if_pos h2, if_pos h2]; split <;> rfl
  · rw [if_neg h2, if_neg h2]
    by_cases h4 : m = 4
    · rw [if_pos h4, if_pos (Or.inl h4)]
    · rw [if_neg h4]
      by_cases h6 : m = 6
      · rw [if_pos h6, if_pos (Or.inr (Or.inl h6))]
      · rw [if_neg h6]
        by_cases h9 : m = 9
        · rw [if_pos h9, if_pos (Or.inr (Or.inr (Or.inl h9)))]
        · rw [if_neg h9]
          by_cases h11 : m = 11
          · rw [if_pos h11, if_pos (Or.inr (Or.inr (Or.inr h11)))]
          · rw [if_neg h11, if_neg (by omega)]
theorem impl_len (y m : Int) (y0 : 0 ≤ y) (y1 : y ≤ 10000) (h0 : 1 ≤ m) (h1 : m ≤ 12) : impl_daysIn.f y m = some (lenF y m) := by
  unfold impl_daysIn.f lenF
  rw [if_pos (by omega)]
  by_cases h2 : m = 2
  · by_cases h : Int.tmod y 4 = 0
    · rw [if_pos ⟨h2, h⟩, if_pos h2, if_pos h]
    · rw [if_neg (fun x => h x.2), if_pos h2, if_pos h2, if_neg h]
  · rw [if_neg (fun x => h2 x.1), if_neg h2, if_neg h2]; split <;> rfl
theorem head_wraps (y : Int) (h0 : 2000 ≤ y) (h1 : y ≤ 2200) : wrap64 ((wrap64 (365 * (wrap64 (y - 2000)))) + (wrap64 (Int.tdiv (wrap64 ((wrap64 (y - 2000)) + 3)) 4))) = headF y := by
  rw [w64 (a := y - 2000) (by omega) (by omega), w64 (a := 365 * (y - 2000)) (by omega) (by omega), w64 (a := y - 2000 + 3) (by omega) (by omega), tdiv_pos (by omega), w64 (a := (y - 2000 + 3) / 4) (by omega) (by omega), w64 (by omega) (by omega)]
  rfl
theorem spec_head (y : Int) (h0 : 2000 ≤ y) (h1 : y ≤ 2200) : spec_l03Head.f y = some (headF y) := by
  unfold spec_l03Head.f; rw [head_wraps y h0 h1]
theorem impl_head (y : Int) (h0 : 2000 ≤ y) (h1 : y ≤ 2200) : impl_yearStart.f y = some (headF y) := by
  unfold impl_yearStart.f; rw [head_wraps y h0 h1]
theorem head_step (y : Int) (h0 : 2000 ≤ y) (h1 : y ≤ 2200) : headF (y + 1) = headF y + remF y 1 := by
  unfold headF
  simp only [remF, lenF, if_true]
  rw [tmod_pos (by omega)]
  split <;> omega

theorem day_loops (Y M D : Int) (y0 : 2000 ≤ Y) (y1 : Y ≤ 2099) (m1 : M ≤ 12) (d0 : 1 ≤ D) (d1 : D ≤ 31) : ∀ (d : Nat) (m n : Int), 1 ≤ m → m + d = M → 0 ≤ n → n ≤ 40000 + 31 * m →
    ∃ r : Int, Ev (fun k => spec_l03Day.l0 k n m Y M D) r ∧ Ev (fun k => impl_Date_day.l0 k (n + D - 1) m Y M D) r := by
  intro d
  induction d with
  | zero =>
    intro m n h0 hd hn hnn
    have : m = M := by omega
    subst this
    refine ⟨n + D - 1, ev_succ ?_, ev_succ ?_⟩
    · simp only [spec_l03Day.l0, if_neg (show ¬ m < m by omega), w64 (a := n + D) (by omega) (by omega), w64 (a := n + D - 1) (by omega) (by omega)]; exact Ev.now _
    · simp only [impl_Date_day.l0, if_neg (show ¬ m < m by omega)]; exact Ev.now _
  | succ d ih =>
    intro m n h0 hd hn hnn
    have hl := lenF_range Y m
    obtain ⟨r, e1, e2⟩ := ih (m + 1) (n + lenF Y m) (by omega) (by omega) (by omega) (by omega)
    refine ⟨r, ev_succ ?_, ev_succ ?_⟩
    · simp only [spec_l03Day.l0, if_pos (show m < M by omega), spec_len, Option.bind_some, w64 (a := n + lenF Y m) (by omega) (by omega), w64 (a := m + 1) (by omega) (by omega)]; exact e1
    · simp only [impl_Date_day.l0, if_pos (show m < M by omega), impl_len Y m (by omega) (by omega) (by omega) (by omega), Option.bind_some, w64 (a := n + lenF Y m + D - 1) (by omega) (by omega), w64 (a := m + 1) (by omega) (by omega), show n + D - 1 + lenF Y m = n + lenF Y m + D - 1 by omega]; exact e2
theorem in_is (a b c : Int) : impl_in.f a b c = some (decide (b ≤ a ∧ a ≤ c)) := by
  unfold impl_in.f
  by_cases h : b ≤ a
  · rw [if_pos h]; congr 1; simp [h]
  · rw [if_neg h]; simp [h]
theorem FnExactDayOf : laws_FnExactDayOf.Pure := by
  intro Y M D _ _ _
  refine Ev.rounds (g := fun k => laws_FnExactDayOf.f k Y M D) ?_
  simp only [laws_FnExactDayOf.f, laws_toDate.f, Option.bind_some]
  have key : ∃ r : Int × Int, Ev (fun k => spec_DayOf.f k Y M D) r ∧ Ev (fun k => impl_DayOf.f k Y M D) r := by
    simp only [spec_DayOf.f, impl_DayOf.f, in_is, spec_len, Option.bind_some]
    by_cases hY : 2000 ≤ Y ∧ Y ≤ 2099
    · simp only [if_neg (show ¬ Y < 2000 by omega), if_neg (show ¬ Y > 2099 by omega), decide_eq_true hY, if_true]
      by_cases hM : 1 ≤ M ∧ M ≤ 12
      · simp only [if_neg (show ¬ M < 1 by omega), if_neg (show ¬ M > 12 by omega), decide_eq_true hM, if_true, impl_len Y M (by omega) (by omega) (by omega) (by omega), Option.bind_some]
        have hl := lenF_range Y M
        by_cases hD : 1 ≤ D ∧ D ≤ lenF Y M
        · simp only [if_neg (show ¬ D < 1 by omega), if_neg (show ¬ D > lenF Y M by omega), decide_eq_true hD, if_true]
          have hh : 0 ≤ headF Y ∧ headF Y ≤ 40000 := by unfold headF; omega
          obtain ⟨r, e1, e2⟩ := day_loops Y M D hY.1 hY.2 hM.2 hD.1 (by omega) (M - 1).toNat 1 (headF Y) (by omega) (by omega) hh.1 (by omega)
          refine ⟨(r, 0), ?_, ?_⟩
          · refine Ev.bind (a := r) ?_ (Ev.now _)
            simp only [spec_l03Day.f, spec_head Y (by omega) (by omega), Option.bind_some]; exact e1
          · refine Ev.bind (a := r) ?_ (Ev.now _)
            simp only [impl_Date_day.f, impl_head Y (by omega) (by omega), Option.bind_some, w64 (a := headF Y + D) (by omega) (by omega), w64 (a := headF Y + D - 1) (by omega) (by omega)]; exact e2
        · simp only [decide_eq_false hD, Bool.false_eq_true, if_false]
          refine ⟨(0, 1), ?_, Ev.now _⟩
          by_cases h : D < 1
          · simp only [if_pos h]; exact Ev.now _
          · simp only [if_neg h, if_pos (show D > lenF Y M by omega)]; exact Ev.now _
      · simp only [decide_eq_false hM, Bool.false_eq_true, if_false]
        refine ⟨(0, 1), ?_, Ev.now _⟩
        by_cases h : M < 1
        · simp only [if_pos h]; exact Ev.now _
        · simp only [if_neg h, if_pos (show M > 12 by omega)]; exact Ev.now _
    · simp only [decide_eq_false hY, Bool.false_eq_true, if_false]
      refine ⟨(0, 1), ?_, Ev.now _⟩
      by_cases h : Y < 2000
      · simp only [if_pos h]; exact Ev.now _
      · simp only [if_neg h, if_pos (show Y > 2099 by omega)]; exact Ev.now _
  obtain ⟨r, e1, e2⟩ := key
  refine Ev.bind e1 ?_
  refine Ev.bind e2 ?_
  simp only [laws_eqDayOut.f, if_true, Option.bind_some]; exact Ev.now _

end Go.Proofs.Ytkffeaggiegfkaa.Pure
