/- At every day the program's DateText is the reference's DateText. The row lists tables of Go's library; the card ties them. -/
import Derived.Test.YtabmljlpmnlbpaaDoorPFnExactDateTextx2
import Derived.Test.YtabmljlpmnlbpaaDoorQLib
namespace Go.Proofs.YtabmljlpmnlbpaaDoor.Pure
set_option linter.unusedSimpArgs false
set_option linter.unusedVariables false
open Go.RowKit Go.Proofs.YtabmljlpmnlbpaaDoor.PFnExactDateText Go.Proofs.YtabmljlpmnlbpaaDoorW.PrintWords Go.Proofs.YtabmljlpmnlbpaaDoorW.PrintLast Go.Proofs.YtabmljlpmnlbpaaDoorW.PrintMore
open Go.Proofs.YtabmljlpmnlbpaaDoor.Q
/-- How many days a month has. -/
def lenF (y m : Int) : Int := if m = 2 then (if Int.tmod y 4 = 0 then 29 else 28) else if m = 4 ∨ m = 6 ∨ m = 9 ∨ m = 11 then 30 else 31
/-- How many days stand ahead of a year. -/
def headF (y : Int) : Int := 365 * (y - 2000) + (y - 2000 + 3) / 4
/-- How many days a year has from a month on. -/
def remF (y m : Int) : Int := if m = 1 then 337 + lenF y 2 else if m = 2 then 306 + lenF y 2 else if m = 3 then 306 else if m = 4 then 275 else if m = 5 then 245 else if m = 6 then 214 else if m = 7 then 184 else if m = 8 then 153 else if m = 9 then 122 else if m = 10 then 92 else if m = 11 then 61 else if m = 12 then 31 else 0
theorem lenF_range (y m : Int) : 28 ≤ lenF y m ∧ lenF y m ≤ 31 := by
  unfold lenF; split
  · split <;> omega
  · split <;> omega
theorem twelve {m : Int} (h0 : 1 ≤ m) (h1 : m ≤ 12) : m = 1 ∨ m = 2 ∨ m = 3 ∨ m = 4 ∨ m = 5 ∨ m = 6 ∨ m = 7 ∨ m = 8 ∨ m = 9 ∨ m = 10 ∨ m = 11 ∨ m = 12 := by omega
theorem rem_step (y m : Int) (h0 : 1 ≤ m) (h1 : m ≤ 12) : remF y m = lenF y m + remF y (m + 1) := by
  rcases twelve h0 h1 with e | e | e | e | e | e | e | e | e | e | e | e <;> subst e <;> simp [remF, lenF] <;> omega
theorem rem_end (y : Int) : remF y 13 = 0 := by simp [remF]
theorem spec_len (y m : Int) : spec_l03Len.f y m = some (lenF y m) := by
  unfold spec_l03Len.f lenF
  by_cases h2 : m = 2
  · rw [if_pos h2, if_pos h2]; split <;> rfl
  · rw [if_neg h2, if_neg h2]
    by_cases h4 : m = 4
    · rw [if_pos h4, if_pos (Or.inl h4)]
    · rw [if_neg h4]
      by_cases h6 : m = 6
      · rw [if_pos h6, if_pos (Or.inr (Or.inl h6))]
      · rw [if_neg h6]
        by_cases h9 : m = 9
        · rw [if_pos h9, if_pos (Or.inr (Or.inr (Or.inl h9)))]
        · rw [if_neg h9]
          by_cases h11 : m = 11
          · rw [if_pos h11, if_pos (Or.inr (Or.inr (Or.inr h11)))]
          · rw [if_neg h11, if_neg (by omega)]
theorem impl_len (y m : Int) (y0 : 0 ≤ y) (y1 : y ≤ 10000) (h0 : 1 ≤ m) (h1 : m ≤ 12) : impl_daysIn.f y m = some (lenF y m) := by
  unfold impl_daysIn.f lenF
  rw [if_pos (by omega)]
  by_cases h2 : m = 2
  · by_cases h : Int.tmod y 4 = 0
    · rw [if_pos ⟨h2, h⟩, if_pos h2, if_pos h]
    · rw [if_neg (fun x => h x.2), if_pos h2, if_pos h2, if_neg h]
  · rw [if_neg (fun x => h2 x.1), if_neg h2, if_neg h2]; split <;> rfl
theorem head_wraps (y : Int) (h0 : 2000 ≤ y) (h1 : y ≤ 2200) : wrap64 ((wrap64 (365 * (wrap64 (y - 2000)))) + (wrap64 (Int.tdiv (wrap64 ((wrap64 (y - 2000)) + 3)) 4))) = headF y := by
  rw [w64 (a := y - 2000) (by omega) (by omega), w64 (a := 365 * (y - 2000)) (by omega) (by omega), w64 (a := y - 2000 + 3) (by omega) (by omega), tdiv_pos (by omega), w64 (a := (y - 2000 + 3) / 4) (by omega) (by omega), w64 (by omega) (by omega)]
  rfl
theorem spec_head (y : Int) (h0 : 2000 ≤ y) (h1 : y ≤ 2200) : spec_l03Head.f y = some (headF y) := by
  unfold spec_l03Head.f; rw [head_wraps y h0 h1]
theorem impl_head (y : Int) (h0 : 2000 ≤ y) (h1 : y ≤ 2200) : impl_yearStart.f y = some (headF y) := by
  unfold impl_yearStart.f; rw [head_wraps y h0 h1]
theorem head_step (y : Int) (h0 : 2000 ≤ y) (h1 : y ≤ 2200) : headF (y + 1) = headF y + remF y 1 := by
  unfold headF
  simp only [remF, lenF, if_true]
  rw [tmod_pos (by omega)]
  split <;> omega

theorem months_l1 (y : Int) (y0 : 2000 ≤ y) (y1 : y ≤ 2200) : ∀ (d : Nat) (m rest : Int), 1 ≤ m → m + d = 12 → 0 ≤ rest → rest < remF y m →
    ∃ M D : Int, Ev (fun k => spec_DateOf.l1 k y rest m) (y, M, D) ∧ Ev (fun k => impl_date.l1 k rest y m 0) (y, M, D) ∧ 1 ≤ M ∧ M ≤ 12 ∧ 1 ≤ D ∧ D ≤ lenF y M := by
  intro d
  induction d with
  | zero =>
    intro m rest h1 hd hr hrr
    have hm : m = 12 := by omega
    subst hm
    have hl : lenF y 12 = 31 := by simp [lenF]
    have hq : remF y 12 = 31 := by simp [remF]
    refine ⟨12, rest + 1, ev_succ ?_, ev_succ ?_, by omega, by omega, by omega, by omega⟩
    · simp only [spec_DateOf.l1, spec_len, Option.bind_some, if_neg (show ¬ rest ≥ lenF y 12 by omega), w64 (a := rest + 1) (by omega) (by omega)]; exact Ev.now _
    · simp only [impl_date.l1, impl_len y 12 (by omega) (by omega) (by omega) (by omega), Option.bind_some, if_neg (show ¬ rest ≥ lenF y 12 by omega), w64 (a := rest + 1) (by omega) (by omega)]; exact Ev.now _
  | succ d ih =>
    intro m rest h1 hd hr hrr
    have hs := rem_step y m h1 (by omega)
    have hl := lenF_range y m
    by_cases hc : rest ≥ lenF y m
    · have hlast : 0 ≤ remF y m ∧ remF y m ≤ 366 := by
        rcases twelve h1 (by omega) with e | e | e | e | e | e | e | e | e | e | e | e <;> subst e <;> simp [remF] <;> have := lenF_range y 2 <;> unfold lenF <;> (repeat' split) <;> omega
      obtain ⟨M, D, e1, e2, r⟩ := ih (m + 1) (rest - lenF y m) (by omega) (by omega) (by omega) (by omega)
      refine ⟨M, D, ev_succ ?_, ev_succ ?_, r⟩
      · simp only [spec_DateOf.l1, spec_len, Option.bind_some, if_pos hc, w64 (a := rest - lenF y m) (by omega) (by omega), w64 (a := m + 1) (by omega) (by omega)]; exact e1
      · simp only [impl_date.l1, impl_len y m (by omega) (by omega) (by omega) (by omega), Option.bind_some, if_pos hc, w64 (a := rest - lenF y m) (by omega) (by omega), w64 (a := m + 1) (by omega) (by omega)]; exact e2
    · refine ⟨m, rest + 1, ev_succ ?_, ev_succ ?_, by omega, by omega, by omega, by omega⟩
      · simp only [spec_DateOf.l1, spec_len, Option.bind_some, if_neg hc, w64 (a := rest + 1) (by omega) (by omega)]; exact Ev.now _
      · simp only [impl_date.l1, impl_len y m (by omega) (by omega) (by omega) (by omega), Option.bind_some, if_neg hc, w64 (a := rest + 1) (by omega) (by omega)]; exact Ev.now _
theorem spec_years (day Y : Int) (hY0 : 2000 ≤ Y) (hY1 : Y ≤ 2099) (h0 : headF Y ≤ day) (h1 : day < headF (Y + 1)) (hday : day ≤ 36524) {r : Int × Int × Int} (hr : Ev (fun k => spec_DateOf.l1 k Y (day - headF Y) 1) r) :
    ∀ (d : Nat) (y : Int), 2000 ≤ y → y + d = Y → Ev (fun k => spec_DateOf.l0 k day y) r := by
  have hh : 0 ≤ headF Y ∧ headF Y ≤ 36600 := by unfold headF; omega
  intro d
  induction d with
  | zero =>
    intro y hy hd
    have : y = Y := by omega
    subst this
    refine ev_succ ?_
    simp only [spec_DateOf.l0, w64 (a := y + 1) (by omega) (by omega), spec_head (y + 1) (by omega) (by omega), spec_head y (by omega) (by omega), Option.bind_some, if_neg (show ¬ headF (y + 1) ≤ day by omega), w64 (a := day - headF y) (by omega) (by omega)]
    exact hr
  | succ d ih =>
    intro y hy hd
    refine ev_succ ?_
    have hle : headF (y + 1) ≤ day := by
      have : headF (y + 1) ≤ headF Y := by unfold headF; omega
      omega
    simp only [spec_DateOf.l0, w64 (a := y + 1) (by omega) (by omega), spec_head (y + 1) (by omega) (by omega), Option.bind_some, if_pos hle]
    exact ih (y + 1) (by omega) (by omega)
theorem impl_years (day Y : Int) (hY0 : 2000 ≤ Y) (hY1 : Y ≤ 2099) (h0 : headF Y ≤ day) (h1 : day < headF (Y + 1)) (hday : day ≤ 36524) {r : Int × Int × Int} (hr : Ev (fun k => impl_date.l1 k (day - headF Y) Y 1 0) r) :
    ∀ (d : Nat) (y : Int), 2000 ≤ y → y + d = Y → Ev (fun k => impl_date.l0 k day y 1 0) r := by
  have hh : 0 ≤ headF Y ∧ headF Y ≤ 36600 := by unfold headF; omega
  intro d
  induction d with
  | zero =>
    intro y hy hd
    have : y = Y := by omega
    subst this
    refine ev_succ ?_
    simp only [impl_date.l0, w64 (a := y + 1) (by omega) (by omega), impl_head (y + 1) (by omega) (by omega), impl_head y (by omega) (by omega), Option.bind_some, if_neg (show ¬ headF (y + 1) ≤ day by omega), w64 (a := day - headF y) (by omega) (by omega)]
    exact hr
  | succ d ih =>
    intro y hy hd
    refine ev_succ ?_
    have hle : headF (y + 1) ≤ day := by
      have : headF (y + 1) ≤ headF Y := by unfold headF; omega
      omega
    simp only [impl_date.l0, w64 (a := y + 1) (by omega) (by omega), impl_head (y + 1) (by omega) (by omega), Option.bind_some, if_pos hle]
    exact ih (y + 1) (by omega) (by omega)
/-- The year of a day. -/
theorem year_of (day : Int) (h0 : 0 ≤ day) (h1 : day ≤ 36524) : ∃ Y : Int, 2000 ≤ Y ∧ Y ≤ 2099 ∧ headF Y ≤ day ∧ day < headF (Y + 1) ∧ 2000 + day / 366 ≤ Y := by
  refine ⟨2000 + 4 * day / 1461, by omega, by omega, ?_, ?_, by omega⟩
  · unfold headF; omega
  · unfold headF; omega
theorem dec_is (day : Int) : spec_l03Right.f day = some (decide (0 ≤ day ∧ day ≤ 36524)) := by
  unfold spec_l03Right.f
  by_cases h : day ≥ 0
  · rw [if_pos h]; congr 1; simp [show (0 : Int) ≤ day from h]
  · rw [if_neg h]; simp [show ¬ (0 : Int) ≤ day from h]
/-- Both tell the same Date of a day. -/
theorem date_both (day : Int) (h0 : 0 ≤ day) (h1 : day ≤ 36524) : ∃ Y M D : Int, Ev (fun k => spec_DateOf.f k day) (Y, M, D) ∧ Ev (fun k => impl_date.f k day) (Y, M, D) ∧ 2000 ≤ Y ∧ Y ≤ 2099 ∧ 1 ≤ M ∧ M ≤ 12 ∧ 1 ≤ D ∧ D ≤ lenF Y M := by
  obtain ⟨Y, y0, y1, d0, d1, ds⟩ := year_of day h0 h1
  have hst := head_step Y y0 (by omega)
  obtain ⟨M, D, e1, e2, r⟩ := months_l1 Y y0 (by omega) 11 1 (day - headF Y) (by omega) (by omega) (by omega) (by omega)
  refine ⟨Y, M, D, ?_, ?_, y0, y1, r⟩
  · simp only [spec_DateOf.f, dec_is, Option.bind_some, decide_eq_true (show 0 ≤ day ∧ day ≤ 36524 from ⟨h0, h1⟩), if_true]
    exact spec_years day Y y0 y1 d0 d1 h1 e1 (Y - 2000).toNat 2000 (by omega) (by omega)
  · simp only [impl_date.f]
    rw [tdiv_pos h0, w64 (a := day / 366) (by omega) (by omega), w64 (by omega) (by omega)]
    exact impl_years day Y y0 y1 d0 d1 h1 e2 (Y - (2000 + day / 366)).toNat _ (by omega) (by omega)
theorem isDay_is (day : Int) : impl_isDay.f day = some (decide (0 ≤ day ∧ day ≤ 36524)) := by
  unfold impl_isDay.f impl_in.f
  by_cases h : (0 : Int) ≤ day
  · rw [if_pos h, Option.bind_some]; congr 1; simp [h]
  · rw [if_neg h, Option.bind_some]; simp [h]

def decB (u : Nat) : ByteArray := ⟨(Lib.decDigits u).toArray⟩
theorem dec_small {u : Nat} (h : u < 10) : Lib.decDigits u = [UInt8.ofNat (48 + u)] := by rw [Lib.decDigits, dif_pos h]
theorem dec_step {u : Nat} (h : ¬ u < 10) : Lib.decDigits u = Lib.decDigits (u / 10) ++ [UInt8.ofNat (48 + u % 10)] := by rw [Lib.decDigits, dif_neg h]
theorem dec_len : ∀ (d u : Nat), 1 ≤ d → u < 10 ^ d → (Lib.decDigits u).length ≤ d ∧ 1 ≤ (Lib.decDigits u).length := by
  intro d
  induction d with
  | zero => intro u h; omega
  | succ d ih =>
    intro u h hu
    by_cases h1 : u < 10
    · rw [dec_small h1]; simp
    · rw [dec_step h1, List.length_append, List.length_singleton]
      have hd : 1 ≤ d := by
        rcases Nat.eq_zero_or_pos d with q | q
        · subst q; simp at hu; omega
        · exact q
      have := ih (u / 10) hd (by rw [Nat.pow_succ] at hu; omega)
      omega
theorem decB_size (u : Nat) (h : u < 10 ^ 19) : (decB u).size ≤ 19 ∧ 1 ≤ (decB u).size := by
  have e : (decB u).size = (Lib.decDigits u).length := by simp [decB, ByteArray.size]
  rw [e]; exact dec_len 19 u (by omega) h
theorem ba_ext {a b : ByteArray} (h : a.data.toList = b.data.toList) : a = b := ByteArray.ext (Array.toList_inj.1 h)
theorem implDec (u : Nat) (h : u ≤ 4611686018427387904) : impl_dec.f (u : Int) = some (decB u) := by
  unfold impl_dec.f strconv_FormatInt.f
  rw [if_pos ⟨rfl, by omega, by omega⟩, Option.bind_some, Lib.itoa_nonneg]; rfl
theorem dig_str (u : Nat) : (strOfNums [(wrap64 (48 + (Int.tmod (u : Int) 10))) % 256]).data.toList = [UInt8.ofNat (48 + u % 10)] := by
  rw [tmod_pos (show (0 : Int) ≤ (u : Int) by omega), w64 (by omega) (by omega), strOfNums_data]
  simp only [List.map_cons, List.map_nil]
  congr 2
  omega
theorem sdec_l0 : ∀ (d u : Nat) (x : ByteArray), u < 10 ^ d → u ≤ 4611686018427387904 → x.size + d ≤ 1000 → Ev (fun k => spec_l01Dec.l0 k (u : Int) false x) (if u = 0 then x else decB u ++ x) := by
  intro d
  induction d with
  | zero =>
    intro u x h hb hs
    have hu : u = 0 := by simp at h; omega
    subst hu
    refine ev_succ ?_
    simp only [spec_l01Dec.l0, if_pos (show ((0 : Nat) : Int) = 0 from rfl), Bool.false_eq_true, if_false, if_true]
    exact Ev.now _
  | succ d ih =>
    intro u x h hb hs
    by_cases h0 : u = 0
    · subst h0
      refine ev_succ ?_
      simp only [spec_l01Dec.l0, if_pos (show ((0 : Nat) : Int) = 0 from rfl), Bool.false_eq_true, if_false, if_true]
      exact Ev.now _
    · rw [if_neg h0]
      refine ev_succ ?_
      have ht : Int.tmod (u : Int) 10 = (u : Int) % 10 := tmod_pos (by omega)
      have hq : wrap64 (Int.tdiv (u : Int) 10) = ((u / 10 : Nat) : Int) := by rw [tdiv_pos (by omega), w64 (by omega) (by omega)]; omega
      have ds := dig_str u
      have hsz : (strOfNums [(wrap64 (48 + (Int.tmod (u : Int) 10))) % 256]).size = 1 := by rw [strOfNums_size]; rfl
      simp only [spec_l01Dec.l0, if_neg (show ¬ (u : Int) = 0 by omega), if_neg (show ¬ Int.tmod (u : Int) 10 < 0 by rw [ht]; omega), Option.bind_some, hq]
      generalize strOfNums [(wrap64 (48 + (Int.tmod (u : Int) 10))) % 256] = S at ds hsz
      refine ev_pos (by omega) ?_
      have e := ih (u / 10) (S ++ x) (by rw [Nat.pow_succ] at h; omega) (by omega) (by rw [ByteArray.size_append]; omega)
      have fin : (if u / 10 = 0 then S ++ x else decB (u / 10) ++ (S ++ x)) = decB u ++ x := by
        by_cases h1 : u < 10
        · rw [if_pos (by omega)]
          apply ba_ext
          simp only [ByteArray.data_append, Array.toList_append, ds]
          rw [show (decB u).data.toList = [UInt8.ofNat (48 + u)] by simp [decB, dec_small h1], Nat.mod_eq_of_lt h1]
        · rw [if_neg (by omega)]
          apply ba_ext
          simp only [ByteArray.data_append, Array.toList_append, ds]
          rw [show (decB u).data.toList = (decB (u / 10)).data.toList ++ [UInt8.ofNat (48 + u % 10)] by simp [decB, dec_step h1], List.append_assoc]
      rw [fin] at e
      exact e
theorem sdec_ev (u : Nat) (h : u ≤ 4611686018427387904) : Ev (fun k => spec_l01Dec.f k (u : Int)) (decB u) := by
  by_cases h0 : u = 0
  · subst h0
    simp only [spec_l01Dec.f, if_pos (show ((0 : Nat) : Int) = 0 from rfl)]
    have : (⟨#[48]⟩ : ByteArray) = decB 0 := ba_ext (by simp [decB, dec_small])
    rw [this]; exact Ev.now _
  · have e := sdec_l0 19 u ⟨#[]⟩ (by omega) h (by simp [ByteArray.size])
    rw [if_neg h0] at e
    have e2 : decB u ++ (⟨#[]⟩ : ByteArray) = decB u := ba_ext (by simp)
    rw [e2] at e
    simp only [spec_l01Dec.f, if_neg (show ¬ (u : Int) = 0 by omega), decide_eq_false (show ¬ (u : Int) < 0 by omega)]
    exact e
/-- A text with noughts ahead of it, so that it has so many signs. -/
def padT (m : Nat) (x : ByteArray) : ByteArray := (⟨(List.replicate (m - x.size) (48 : UInt8)).toArray⟩ : ByteArray) ++ x
theorem repB_size (n : Nat) : (⟨(List.replicate n (48 : UInt8)).toArray⟩ : ByteArray).size = n := by
  show (List.replicate n (48 : UInt8)).toArray.size = n
  rw [List.size_toArray, List.length_replicate]
theorem padT_size (m : Nat) (x : ByteArray) : (padT m x).size = (m - x.size) + x.size := by
  unfold padT
  rw [ByteArray.size_append, repB_size]
theorem sdig_l0 (m : Nat) (hm : m ≤ 100) : ∀ (d : Nat) (x : ByteArray), m - x.size = d → x.size ≤ 1000 → Ev (fun k => spec_l02Digits.l0 k (m : Int) x) (padT m x) := by
  intro d
  induction d with
  | zero =>
    intro x hd hx
    refine ev_succ ?_
    simp only [spec_l02Digits.l0]
    refine ev_neg (show ¬ (x.size : Int) < (m : Int) by omega) ?_
    have : padT m x = x := by unfold padT; rw [hd]; exact ba_ext (by simp)
    rw [this]; exact Ev.now _
  | succ d ih =>
    intro x hd hx
    refine ev_succ ?_
    simp only [spec_l02Digits.l0]
    refine ev_pos (show (x.size : Int) < (m : Int) by omega) (ev_pos (by omega) ?_)
    have hs : ((⟨#[48]⟩ : ByteArray) ++ x).size = 1 + x.size := by rw [ByteArray.size_append]; rfl
    have e := ih ((⟨#[48]⟩ : ByteArray) ++ x) (by omega) (by omega)
    have e2 : padT m ((⟨#[48]⟩ : ByteArray) ++ x) = padT m x := by
      unfold padT
      rw [hs, show m - (1 + x.size) = d by omega, hd]
      apply ba_ext
      simp only [ByteArray.data_append, Array.toList_append, List.replicate_succ', List.append_assoc]
    rw [e2] at e
    exact e
theorem sdig_ev (u m : Nat) (h : u ≤ 4611686018427387904) (hm : m ≤ 100) : Ev (fun k => spec_l02Digits.f k (u : Int) (m : Int)) (padT m (decB u)) := by
  have hs := decB_size u (by omega)
  simp only [spec_l02Digits.f]
  exact Ev.bind (sdec_ev u h) (sdig_l0 m hm _ _ rfl (by omega))
theorem rep48 : ∀ c, Lib.repeatL [48] c = List.replicate c (48 : UInt8)
  | 0 => rfl
  | c + 1 => by rw [Lib.repeatL, rep48 c, List.replicate_succ]; rfl
theorem implPad (u m : Nat) (h : u ≤ 4611686018427387904) (hm : m ≤ 100) : impl_padded.f (u : Int) (m : Int) = some (padT m (decB u)) := by
  have hs := decB_size u (by omega)
  unfold impl_padded.f strings_Repeat.f
  rw [implDec u h, Option.bind_some, w64 (by omega) (by omega)]
  have hmx : mx ((m : Int) - ((decB u).size : Int)) 0 = ((m - (decB u).size : Nat) : Int) := by unfold mx; split <;> omega
  have hz : (⟨#[48]⟩ : ByteArray).size = 1 := rfl
  rw [hmx, if_pos ⟨by omega, by omega, by rw [hz, Int.toNat_natCast]; omega⟩, Option.bind_some, Int.toNat_natCast]
  have e : (⟨(Lib.repeatL (⟨#[48]⟩ : ByteArray).data.toList (m - (decB u).size)).toArray⟩ : ByteArray) = (⟨(List.replicate (m - (decB u).size) (48 : UInt8)).toArray⟩ : ByteArray) := by
    rw [← rep48]
  rw [e, if_pos (by rw [repB_size]; omega)]
  rfl

/-- A date as it is written. -/
def dateB (Y M D : Nat) : ByteArray := (((padT 4 (decB Y) ++ (⟨#[45]⟩ : ByteArray)) ++ padT 2 (decB M)) ++ (⟨#[45]⟩ : ByteArray)) ++ padT 2 (decB D)
theorem one_size3 (c : UInt8) : (⟨#[c]⟩ : ByteArray).size = 1 := rfl
theorem year_len (Y : Nat) (h : 2000 ≤ Y) (h2 : Y ≤ 2099) : padT 4 (decB Y) = decB Y := by
  have e : (decB Y).size = 4 := by
    have : (decB Y).size = (Lib.decDigits Y).length := by simp [decB, ByteArray.size]
    rw [this, dec_step (by omega), dec_step (by omega), dec_step (by omega), dec_small (by omega)]
    rfl
  unfold padT
  rw [e]
  exact ba_ext (by simp)
theorem sdate_ev (day : Int) (Y M D : Nat) (h : 0 ≤ day ∧ day ≤ 36524) (e : Ev (fun k => spec_DateOf.f k day) ((Y : Int), (M : Int), (D : Int))) (hY : 2000 ≤ Y ∧ Y ≤ 2099) (hM : M ≤ 12) (hD : D ≤ 31) :
    Ev (fun k => spec_DateText.f k day) (dateB Y M D) := by
  have s1 := decB_size Y (by omega)
  have s2 := decB_size M (by omega)
  have s3 := decB_size D (by omega)
  have p2 := padT_size 2 (decB M)
  have p3 := padT_size 2 (decB D)
  unfold dateB
  rw [year_len Y hY.1 hY.2]
  simp only [spec_DateText.f, dec_is, Option.bind_some, decide_eq_true h, if_true]
  refine Ev.bind e ?_
  refine Ev.bind (sdec_ev Y (by omega)) (ev_pos (by omega) ?_)
  refine Ev.bind (sdig_ev M 2 (by omega) (by omega)) (ev_pos (by rw [ByteArray.size_append, one_size3]; omega) (ev_pos (by rw [ByteArray.size_append, ByteArray.size_append, one_size3]; omega) ?_))
  refine Ev.bind (sdig_ev D 2 (by omega) (by omega)) (ev_pos (by rw [ByteArray.size_append, ByteArray.size_append, ByteArray.size_append, one_size3]; omega) (Ev.now _))
theorem idate_ev (day : Int) (Y M D : Nat) (h : 0 ≤ day ∧ day ≤ 36524) (e : Ev (fun k => impl_date.f k day) ((Y : Int), (M : Int), (D : Int))) (hY : 2000 ≤ Y ∧ Y ≤ 2099) (hM : M ≤ 12) (hD : D ≤ 31) :
    Ev (fun k => impl_DateText.f k day) (dateB Y M D) := by
  have s1 := decB_size Y (by omega)
  have s2 := decB_size M (by omega)
  have s3 := decB_size D (by omega)
  have p1 := padT_size 4 (decB Y)
  have p2 := padT_size 2 (decB M)
  have p3 := padT_size 2 (decB D)
  have iY := implPad Y 4 (by omega) (by omega)
  have iM := implPad M 2 (by omega) (by omega)
  have iD := implPad D 2 (by omega) (by omega)
  rw [show ((4 : Nat) : Int) = 4 from rfl] at iY
  rw [show ((2 : Nat) : Int) = 2 from rfl] at iM iD
  unfold dateB
  simp only [impl_DateText.f, isDay_is, Option.bind_some, decide_eq_true h, if_true]
  refine Ev.bind e ?_
  simp only [iY, iM, iD, Option.bind_some]
  refine ev_pos (by omega) (ev_pos (by rw [ByteArray.size_append, one_size3]; omega) (ev_pos (by rw [ByteArray.size_append, ByteArray.size_append, one_size3]; omega) (ev_pos (by rw [ByteArray.size_append, ByteArray.size_append, ByteArray.size_append, one_size3]; omega) (Ev.now _))))

theorem FnExactDateText : laws_FnExactDateText.Pure := by
  intro day _
  refine Ev.rounds (g := fun k => laws_FnExactDateText.f k day) ?_
  simp only [laws_FnExactDateText.f]
  by_cases h : 0 ≤ day ∧ day ≤ 36524
  · obtain ⟨Y, M, D, e1, e2, y0, y1, m0, m1, d0, d1⟩ := date_both day h.1 h.2
    have hl := lenF_range Y M
    obtain ⟨y, rfl⟩ := Int.eq_ofNat_of_zero_le (show 0 ≤ Y by omega)
    obtain ⟨m, rfl⟩ := Int.eq_ofNat_of_zero_le (show 0 ≤ M by omega)
    obtain ⟨d, rfl⟩ := Int.eq_ofNat_of_zero_le (show 0 ≤ D by omega)
    refine Ev.bind (sdate_ev day y m d h e1 (by omega) (by omega) (by omega)) ?_
    refine Ev.bind (idate_ev day y m d h e2 (by omega) (by omega) (by omega)) ?_
    simp only [if_true]; exact Ev.now _
  · refine Ev.bind (a := ⟨#[]⟩) ⟨0, fun k _ => by simp only [spec_DateText.f, dec_is, Option.bind_some, decide_eq_false h, Bool.false_eq_true, if_false]⟩ ?_
    refine Ev.bind (a := ⟨#[]⟩) ⟨0, fun k _ => by simp only [impl_DateText.f, isDay_is, Option.bind_some, decide_eq_false h, Bool.false_eq_true, if_false]⟩ ?_
    simp only [if_true]; exact Ev.now _

end Go.Proofs.YtabmljlpmnlbpaaDoor.Pure
