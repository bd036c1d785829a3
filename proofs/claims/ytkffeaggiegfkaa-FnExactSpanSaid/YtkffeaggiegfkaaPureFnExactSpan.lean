/- At every basis and two days the program's Span is the reference's Span. No condition beyond the row's own. -/
import Derived.Test.YtkffeaggiegfkaaPFnExactSpanx2
import Derived.Test.YtkffeaggiegfkaaQLib
namespace Go.Proofs.Ytkffeaggiegfkaa.Pure
set_option linter.unusedSimpArgs false
set_option linter.unusedVariables false
open Go.RowKit Go.Proofs.Ytkffeaggiegfkaa.PFnExactSpan Go.Proofs.YtkffeaggiegfkaaW.PrintWords Go.Proofs.YtkffeaggiegfkaaW.PrintLast Go.Proofs.YtkffeaggiegfkaaW.PrintMore
open Go.Proofs.Ytkffeaggiegfkaa.Q
/-- How many days a month has. -/
def lenF (y m : Int) : Int := if m = 2 then (if Int.tmod y 4 = 0 then 29 else 28) else if m = 4 ∨ m = 6 ∨ m = 9 ∨ m = 11 then 30 else 31
/-- How many days stand ahead of a year. -/
def headF (y : Int) : Int := 365 * (y - 2000) + (y - 2000 + 3) / 4
/-- How many days a year has from a month on. -/
def remF (y m : Int) : Int := if m = 1 then 337 + lenF y 2 else if m = 2 then 306 + lenF y 2 else if m = 3 then 306 else if m = 4 then 275 else if m = 5 then 245 else if m = 6 then 214 else if m = 7 then 184 else if m = 8 then 153 else if m = 9 then 122 else if m = 10 then 92 else if m = 11 then 61 else if m = 12 then 31 else 0
theorem lenF_range (y m : Int) : 28 ≤ lenF y m ∧ lenF y m ≤ 31 := by
  unfold lenF; split
  · split <;> omega
  · split <;> omega
theorem twelve {m : Int} (h0 : 1 ≤ m) (h1 : m ≤ 12) : m = 1 ∨ m = 2 ∨ m = 3 ∨ m = 4 ∨ m = 5 ∨ m = 6 ∨ m = 7 ∨ m = 8 ∨ m = 9 ∨ m = 10 ∨ m = 11 ∨ m = 12 := by omega
theorem rem_step (y m : Int) (h0 : 1 ≤ m) (h1 : m ≤ 12) : remF y m = lenF y m + remF y (m + 1) := by
  rcases twelve h0 h1 with e | e | e | e | e | e | e | e | e | e | e | e <;> subst e <;> simp [remF, lenF] <;> omega
theorem rem_end (y : Int) : remF y 13 = 0 := by simp [remF]
theorem spec_len (y m : Int) : spec_l03Len.f y m = some (lenF y m) := by
  unfold spec_l03Len.f lenF
  by_cases h2 : m = 2
  · rw [if_pos h2, if_pos h2]; split <;> rfl
  · rw [if_neg h2, if_neg h2]
    by_cases h4 : m = 4
    · rw [if_pos h4, if_pos (Or.inl h4)]
    · rw [if_neg h4]
      by_cases h6 : m = 6
      · rw [if_pos h6, if_pos (Or.inr (Or.inl h6))]
      · rw [if_neg h6]
        by_cases h9 : m = 9
        · rw [if_pos h9, if_pos (Or.inr (Or.inr (Or.inl h9)))]
        · rw [if_neg h9]
          by_cases h11 : m = 11
          · rw [if_pos h11, if_pos (Or.inr (Or.inr (Or.inr h11)))]
          · rw [if_neg h11, if_neg (by omega)]
theorem impl_len (y m : Int) (y0 : 0 ≤ y) (y1 : y ≤ 10000) (h0 : 1 ≤ m) (h1 : m ≤ 12) : impl_daysIn.f y m = some (lenF y m) := by
  unfold impl_daysIn.f lenF
  rw [if_pos (by omega)]
  by_cases h2 : m = 2
  · by_cases h : Int.tmod y 4 = 0
    · rw [if_pos ⟨h2, h⟩, if_pos h2, if_pos h]
    · rw [if_neg (fun x => h x.2), if_pos h2, if_pos h2, if_neg h]
  · rw [if_neg (fun x => h2 x.1), if_neg h2, if_neg h2]; split <;> rfl
theorem head_wraps (y : Int) (h0 : 2000 ≤ y) (h1 : y ≤ 2200) : wrap64 ((wrap64 (365 * (wrap64 (y - 2000)))) + (wrap64 (Int.tdiv (wrap64 ((wrap64 (y - 2000)) + 3)) 4))) = headF y := by
  rw [w64 (a := y - 2000) (by omega) (by omega), w64 (a := 365 * (y - 2000)) (by omega) (by omega), w64 (a := y - 2000 + 3) (by omega) (by omega), tdiv_pos (by omega), w64 (a := (y - 2000 + 3) / 4) (by omega) (by omega), w64 (by omega) (by omega)]
  rfl
theorem spec_head (y : Int) (h0 : 2000 ≤ y) (h1 : y ≤ 2200) : spec_l03Head.f y = some (headF y) := by
  unfold spec_l03Head.f; rw [head_wraps y h0 h1]
theorem impl_head (y : Int) (h0 : 2000 ≤ y) (h1 : y ≤ 2200) : impl_yearStart.f y = some (headF y) := by
  unfold impl_yearStart.f; rw [head_wraps y h0 h1]
theorem head_step (y : Int) (h0 : 2000 ≤ y) (h1 : y ≤ 2200) : headF (y + 1) = headF y + remF y 1 := by
  unfold headF
  simp only [remF, lenF, if_true]
  rw [tmod_pos (by omega)]
  split <;> omega

theorem months_l1 (y : Int) (y0 : 2000 ≤ y) (y1 : y ≤ 2200) : ∀ (d : Nat) (m rest : Int), 1 ≤ m → m + d = 12 → 0 ≤ rest → rest < remF y m →
    ∃ M D : Int, Ev (fun k => spec_DateOf.l1 k y rest m) (y, M, D) ∧ Ev (fun k => impl_date.l1 k rest y m 0) (y, M, D) ∧ 1 ≤ M ∧ M ≤ 12 ∧ 1 ≤ D ∧ D ≤ lenF y M := by
  intro d
  induction d with
  | zero =>
    intro m rest h1 hd hr hrr
    have hm : m = 12 := by omega
    subst hm
    have hl : lenF y 12 = 31 := by simp [lenF]
    have hq : remF y 12 = 31 := by simp [remF]
    refine ⟨12, rest + 1, ev_succ ?_, ev_succ ?_, by omega, by omega, by omega, by omega⟩
    · simp only [spec_DateOf.l1, spec_len, Option.bind_some, if_neg (show ¬ rest ≥ lenF y 12 by omega), w64 (a := rest + 1) (by omega) (by omega)]; exact Ev.now _
    · simp only [impl_date.l1, impl_len y 12 (by omega) (by omega) (by omega) (by omega), Option.bind_some, if_neg (show ¬ rest ≥ lenF y 12 by omega), w64 (a := rest + 1) (by omega) (by omega)]; exact Ev.now _
  | succ d ih =>
    intro m rest h1 hd hr hrr
    have hs := rem_step y m h1 (by omega)
    have hl := lenF_range y m
    by_cases hc : rest ≥ lenF y m
    · have hlast : 0 ≤ remF y m ∧ remF y m ≤ 366 := by
        rcases twelve h1 (by omega) with e | e | e | e | e | e | e | e | e | e | e | e <;> subst e <;> simp [remF] <;> have := lenF_range y 2 <;> unfold lenF <;> (repeat' split) <;> omega
      obtain ⟨M, D, e1, e2, r⟩ := ih (m + 1) (rest - lenF y m) (by omega) (by omega) (by omega) (by omega)
      refine ⟨M, D, ev_succ ?_, ev_succ ?_, r⟩
      · simp only [spec_DateOf.l1, spec_len, Option.bind_some, if_pos hc, w64 (a := rest - lenF y m) (by omega) (by omega), w64 (a := m + 1) (by omega) (by omega)]; exact e1
      · simp only [impl_date.l1, impl_len y m (by omega) (by omega) (by omega) (by omega), Option.bind_some, if_pos hc, w64 (a := rest - lenF y m) (by omega) (by omega), w64 (a := m + 1) (by omega) (by omega)]; exact e2
    · refine ⟨m, rest + 1, ev_succ ?_, ev_succ ?_, by omega, by omega, by omega, by omega⟩
      · simp only [spec_DateOf.l1, spec_len, Option.bind_some, if_neg hc, w64 (a := rest + 1) (by omega) (by omega)]; exact Ev.now _
      · simp only [impl_date.l1, impl_len y m (by omega) (by omega) (by omega) (by omega), Option.bind_some, if_neg hc, w64 (a := rest + 1) (by omega) (by omega)]; exact Ev.now _
theorem spec_years (day Y : Int) (hY0 : 2000 ≤ Y) (hY1 : Y ≤ 2099) (h0 : headF Y ≤ day) (h1 : day < headF (Y + 1)) (hday : day ≤ 36524) {r : Int × Int × Int} (hr : Ev (fun k => spec_DateOf.l1 k Y (day - headF Y) 1) r) :
    ∀ (d : Nat) (y : Int), 2000 ≤ y → y + d = Y → Ev (fun k => spec_DateOf.l0 k day y) r := by
  have hh : 0 ≤ headF Y ∧ headF Y ≤ 36600 := by unfold headF; omega
  intro d
  induction d with
  | zero =>
    intro y hy hd
    have : y = Y := by omega
    subst this
    refine ev_succ ?_
    simp only [spec_DateOf.l0, w64 (a := y + 1) (by omega) (by omega), spec_head (y + 1) (by omega) (by omega), spec_head y (by omega) (by omega), Option.bind_some, if_neg (show ¬ headF (y + 1) ≤ day by omega), w64 (a := day - headF y) (by omega) (by omega)]
    exact hr
  | succ d ih =>
    intro y hy hd
    refine ev_succ ?_
    have hle : headF (y + 1) ≤ day := by
      have : headF (y + 1) ≤ headF Y := by unfold headF; omega
      omega
    simp only [spec_DateOf.l0, w64 (a := y + 1) (by omega) (by omega), spec_head (y + 1) (by omega) (by omega), Option.bind_some, if_pos hle]
    exact ih (y + 1) (by omega) (by omega)
theorem impl_years (day Y : Int) (hY0 : 2000 ≤ Y) (hY1 : Y ≤ 2099) (h0 : headF Y ≤ day) (h1 : day < headF (Y + 1)) (hday : day ≤ 36524) {r : Int × Int × Int} (hr : Ev (fun k => impl_date.l1 k (day - headF Y) Y 1 0) r) :
    ∀ (d : Nat) (y : Int), 2000 ≤ y → y + d = Y → Ev (fun k => impl_date.l0 k day y 1 0) r := by
  have hh : 0 ≤ headF Y ∧ headF Y ≤ 36600 := by unfold headF; omega
  intro d
  induction d with
  | zero =>
    intro y hy hd
    have : y = Y := by omega
    subst this
    refine ev_succ ?_
    simp only [impl_date.l0, w64 (a := y + 1) (by omega) (by omega), impl_head (y + 1) (by omega) (by omega), impl_head y (by omega) (by omega), Option.bind_some, if_neg (show ¬ headF (y + 1) ≤ day by omega), w64 (a := day - headF y) (by omega) (by omega)]
    exact hr
  | succ d ih =>
    intro y hy hd
    refine ev_succ ?_
    have hle : headF (y + 1) ≤ day := by
      have : headF (y + 1) ≤ headF Y := by unfold headF; omega
      omega
    simp only [impl_date.l0, w64 (a := y + 1) (by omega) (by omega), impl_head (y + 1) (by omega) (by omega), Option.bind_some, if_pos hle]
    exact ih (y + 1) (by omega) (by omega)
/-- The year of a day. -/
theorem year_of (day : Int) (h0 : 0 ≤ day) (h1 : day ≤ 36524) : ∃ Y : Int, 2000 ≤ Y ∧ Y ≤ 2099 ∧ headF Y ≤ day ∧ day < headF (Y + 1) ∧ 2000 + day / 366 ≤ Y := by
  refine ⟨2000 + 4 * day / 1461, by omega, by omega, ?_, ?_, by omega⟩
  · unfold headF; omega
  · unfold headF; omega
theorem dec_is (day : Int) : spec_l03Right.f day = some (decide (0 ≤ day ∧ day ≤ 36524)) := by
  unfold spec_l03Right.f
  by_cases h : day ≥ 0
  · rw [if_pos h]; congr 1; simp [show (0 : Int) ≤ day from h]
  · rw [if_neg h]; simp [show ¬ (0 : Int) ≤ day from h]
/-- Both tell the same Date of a day. -/
theorem date_both (day : Int) (h0 : 0 ≤ day) (h1 : day ≤ 36524) : ∃ Y M D : Int, Ev (fun k => spec_DateOf.f k day) (Y, M, D) ∧ Ev (fun k => impl_date.f k day) (Y, M, D) ∧ 2000 ≤ Y ∧ Y ≤ 2099 ∧ 1 ≤ M ∧ M ≤ 12 ∧ 1 ≤ D ∧ D ≤ lenF Y M := by
  obtain ⟨Y, y0, y1, d0, d1, ds⟩ := year_of day h0 h1
  have hst := head_step Y y0 (by omega)
  obtain ⟨M, D, e1, e2, r⟩ := months_l1 Y y0 (by omega) 11 1 (day - headF Y) (by omega) (by omega) (by omega) (by omega)
  refine ⟨Y, M, D, ?_, ?_, y0, y1, r⟩
  · simp only [spec_DateOf.f, dec_is, Option.bind_some, decide_eq_true (show 0 ≤ day ∧ day ≤ 36524 from ⟨h0, h1⟩), if_true]
    exact spec_years day Y y0 y1 d0 d1 h1 e1 (Y - 2000).toNat 2000 (by omega) (by omega)
  · simp only [impl_date.f]
    rw [tdiv_pos h0, w64 (a := day / 366) (by omega) (by omega), w64 (by omega) (by omega)]
    exact impl_years day Y y0 y1 d0 d1 h1 e2 (Y - (2000 + day / 366)).toNat _ (by omega) (by omega)
theorem isDay_is (day : Int) : impl_isDay.f day = some (decide (0 ≤ day ∧ day ≤ 36524)) := by
  unfold impl_isDay.f impl_in.f
  by_cases h : (0 : Int) ≤ day
  · rw [if_pos h, Option.bind_some]; congr 1; simp [h]
  · rw [if_neg h, Option.bind_some]; simp [h]

theorem min_is (a b : Int) : spec_l01Min.f a b = some (mn b a) := by
  unfold spec_l01Min.f mn; split <;> rfl
theorem max_is (a : Int) : spec_l01Max.f 0 a = some (mx a 0) := by
  unfold spec_l01Max.f mx
  by_cases h : (0 : Int) > a
  · rw [if_pos h, if_pos (by omega)]
  · rw [if_neg h, if_neg (by omega)]
theorem basis_is (b : Int) : impl_isBasis.f b = some (decide (1 ≤ b ∧ b ≤ 3)) := by
  unfold impl_isBasis.f impl_in.f
  by_cases h : (1 : Int) ≤ b
  · rw [if_pos h, Option.bind_some]; congr 1; simp [h]
  · rw [if_neg h, Option.bind_some]; simp [h]
/-- What Span asks of its arguments. -/
def spanOk (b f t : Int) : Prop := (1 ≤ b ∧ b ≤ 3) ∧ (0 ≤ f ∧ f ≤ 36524) ∧ (0 ≤ t ∧ t ≤ 36524) ∧ f ≤ t
theorem span_bad (b f t : Int) (h : ¬ spanOk b f t) : Ev (fun k => spec_Span.f k b f t) (0, 1) ∧ Ev (fun k => impl_Span.f k b f t) (0, 1) := by
  have hs : Ev (fun k => spec_Span.j0 k b f t true) (0, 1) := ev_succ (by simp only [spec_Span.j0, if_true]; exact Ev.now _)
  have hi : Ev (fun k => impl_Span.j0 k b f t true) (0, 1) := ev_succ (by simp only [impl_Span.j0, if_true]; exact Ev.now _)
  unfold spanOk at h
  simp only [spec_Span.f, impl_Span.f, dec_is, isDay_is, basis_is, Option.bind_some]
  by_cases hb : 1 ≤ b ∧ b ≤ 3
  · simp only [if_neg (show ¬ b < 1 by omega), if_neg (show ¬ b > 3 by omega), decide_eq_true hb, if_true]
    by_cases hf : 0 ≤ f ∧ f ≤ 36524
    · simp only [decide_eq_true hf, if_true]
      by_cases ht : 0 ≤ t ∧ t ≤ 36524
      · simp only [decide_eq_true ht, if_true, decide_eq_true (show t < f by omega)]
        exact ⟨hs, hi⟩
      · simp only [decide_eq_false ht, Bool.false_eq_true, if_false]
        exact ⟨hs, hi⟩
    · simp only [decide_eq_false hf, Bool.false_eq_true, if_false]
      exact ⟨hs, hi⟩
  · simp only [decide_eq_false hb, Bool.false_eq_true, if_false]
    refine ⟨?_, hi⟩
    by_cases h1 : b < 1
    · simp only [if_pos h1]; exact hs
    · simp only [if_neg h1, if_pos (show b > 3 by omega)]; exact hs
theorem span_plain (b f t : Int) (h : spanOk b f t) (h3 : b ≠ 3) : Ev (fun k => spec_Span.f k b f t) (t - f, 0) ∧ Ev (fun k => impl_Span.f k b f t) (t - f, 0) := by
  obtain ⟨hb, hf, ht, hl⟩ := h
  simp only [spec_Span.f, impl_Span.f, dec_is, isDay_is, basis_is, Option.bind_some, if_neg (show ¬ b < 1 by omega), if_neg (show ¬ b > 3 by omega), decide_eq_true hb, decide_eq_true hf, decide_eq_true ht, if_true, decide_eq_false (show ¬ t < f by omega)]
  constructor
  · refine ev_succ ?_
    simp only [spec_Span.j0, Bool.false_eq_true, if_false, if_neg h3, w64 (a := t - f) (by omega) (by omega)]; exact Ev.now _
  · refine ev_succ ?_
    simp only [impl_Span.j0, Bool.false_eq_true, if_false, if_neg h3, w64 (a := t - f) (by omega) (by omega)]; exact Ev.now _
theorem span_three (f t : Int) (h : spanOk 3 f t) : ∃ n : Int, 0 ≤ n ∧ n ≤ 100000 ∧ Ev (fun k => spec_Span.f k 3 f t) (n, 0) ∧ Ev (fun k => impl_Span.f k 3 f t) (n, 0) := by
  obtain ⟨hb, hf, ht, hl⟩ := h
  obtain ⟨Y, M, D, e1, e2, y0, y1, m0, m1, d0, d1⟩ := date_both f hf.1 hf.2
  obtain ⟨Y', M', D', e1', e2', y0', y1', m0', m1', d0', d1'⟩ := date_both t ht.1 ht.2
  have l1 := lenF_range Y M
  have l2 := lenF_range Y' M'
  have n0 : 1 ≤ mn D 30 ∧ mn D 30 ≤ 30 := by unfold mn; split <;> omega
  have n1 : 1 ≤ mn D' 30 ∧ mn D' 30 ≤ 30 := by unfold mn; split <;> omega
  refine ⟨mx (360 * (Y' - Y) + 30 * (M' - M) + mn D' 30 - mn D 30) 0, ?_, ?_, ?_, ?_⟩
  · unfold mx; split <;> omega
  · unfold mx; split <;> omega
  · simp only [spec_Span.f, dec_is, Option.bind_some, if_neg (show ¬ (3 : Int) < 1 by omega), if_neg (show ¬ (3 : Int) > 3 by omega), decide_eq_true hf, decide_eq_true ht, if_true, decide_eq_false (show ¬ t < f by omega)]
    refine ev_succ ?_
    simp only [spec_Span.j0, Bool.false_eq_true, if_false, if_true]
    refine Ev.bind e1 ?_
    refine Ev.bind e1' ?_
    simp only [min_is, max_is, Option.bind_some]
    rw [w64 (a := Y' - Y) (by omega) (by omega), w64 (a := 360 * (Y' - Y)) (by omega) (by omega), w64 (a := M' - M) (by omega) (by omega), w64 (a := 30 * (M' - M)) (by omega) (by omega), w64 (a := 360 * (Y' - Y) + 30 * (M' - M)) (by omega) (by omega), w64 (a := 360 * (Y' - Y) + 30 * (M' - M) + mn D' 30) (by omega) (by omega), w64 (a := 360 * (Y' - Y) + 30 * (M' - M) + mn D' 30 - mn D 30) (by omega) (by omega)]
    exact Ev.now _
  · simp only [impl_Span.f, isDay_is, basis_is, Option.bind_some, decide_eq_true hb, decide_eq_true hf, decide_eq_true ht, if_true, decide_eq_false (show ¬ t < f by omega)]
    refine ev_succ ?_
    simp only [impl_Span.j0, Bool.false_eq_true, if_false, if_true]
    refine Ev.bind e2 ?_
    refine Ev.bind e2' ?_
    rw [w64 (a := Y' - Y) (by omega) (by omega), w64 (a := 360 * (Y' - Y)) (by omega) (by omega), w64 (a := M' - M) (by omega) (by omega), w64 (a := 30 * (M' - M)) (by omega) (by omega), w64 (a := 360 * (Y' - Y) + 30 * (M' - M)) (by omega) (by omega), w64 (a := 360 * (Y' - Y) + 30 * (M' - M) + mn D' 30) (by omega) (by omega), w64 (a := 360 * (Y' - Y) + 30 * (M' - M) + mn D' 30 - mn D 30) (by omega) (by omega)]
    exact Ev.now _
/-- Both Spans are one, and in bounds. -/
theorem span_both (b f t : Int) : ∃ n c : Int, Ev (fun k => spec_Span.f k b f t) (n, c) ∧ Ev (fun k => impl_Span.f k b f t) (n, c) ∧ 0 ≤ n ∧ n ≤ 100000 ∧ (c = 0 ↔ spanOk b f t) ∧ (c ≠ 0 → n = 0 ∧ c = 1) := by
  by_cases h : spanOk b f t
  · by_cases h3 : b = 3
    · subst h3
      obtain ⟨n, n0, n1, e1, e2⟩ := span_three f t h
      exact ⟨n, 0, e1, e2, n0, n1, ⟨fun _ => h, fun _ => rfl⟩, fun x => absurd rfl x⟩
    · obtain ⟨e1, e2⟩ := span_plain b f t h h3
      have h' := h
      obtain ⟨_, hf, ht, hl⟩ := h'
      exact ⟨t - f, 0, e1, e2, by omega, by omega, ⟨fun _ => h, fun _ => rfl⟩, fun x => absurd rfl x⟩
  · obtain ⟨e1, e2⟩ := span_bad b f t h
    exact ⟨0, 1, e1, e2, by omega, by omega, ⟨fun x => absurd x (by omega), fun x => absurd x h⟩, fun _ => ⟨rfl, rfl⟩⟩

theorem FnExactSpan : laws_FnExactSpan.Pure := by
  intro b f t _ _ _
  refine Ev.rounds (g := fun k => laws_FnExactSpan.f k b f t) ?_
  simp only [laws_FnExactSpan.f]
  obtain ⟨n, c, e1, e2, _⟩ := span_both b f t
  refine Ev.bind e1 ?_
  refine Ev.bind e2 ?_
  simp only [laws_eqDayOut.f, if_true, Option.bind_some]; exact Ev.now _

end Go.Proofs.Ytkffeaggiegfkaa.Pure
