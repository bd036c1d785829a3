/- At every text the program's NameRight is the reference's NameRight. No condition beyond the row's own. -/
import Derived.Test.YtabmljlpmnlbpaaDoorPFnExactNameRightx1
import Derived.Test.YtabmljlpmnlbpaaDoorQLib
namespace Go.Proofs.YtabmljlpmnlbpaaDoor.Pure
set_option linter.unusedSimpArgs false
set_option linter.unusedVariables false
open Go.RowKit Go.Proofs.YtabmljlpmnlbpaaDoor.PFnExactNameRight Go.Proofs.YtabmljlpmnlbpaaDoorW.PrintWords Go.Proofs.YtabmljlpmnlbpaaDoorW.PrintLast Go.Proofs.YtabmljlpmnlbpaaDoorW.PrintMore
open Go.Proofs.YtabmljlpmnlbpaaDoor.Q
def lowC (c : UInt8) : Bool := decide (97 ≤ c.toNat) && decide (c.toNat ≤ 122)
def tailC (c : UInt8) : Bool := lowC c || (decide (48 ≤ c.toNat) && decide (c.toNat ≤ 57)) || decide (c.toNat = 95)
/-- Is it a name, but for how many bytes it has? -/
def wordF : List UInt8 → Bool
  | [] => false
  | c :: r => lowC c && r.all tailC
theorem bt_data (s : ByteArray) (i : Nat) (h : i < s.size) : bt s (i : Int) = ((s.data.toList[i]'(by rw [Array.length_toList]; exact h)).toNat : Int) := by
  unfold bt
  rw [Int.toNat_natCast, dif_pos h]
  rfl
theorem sname_l0 (a : ByteArray) (hs : a.size ≤ 140737488351232) : ∀ (d i : Nat), a.size - i = d → 1 ≤ i → Ev (fun k => spec_NameRight.l0 k a (i : Int)) ((a.data.toList.drop i).all tailC) := by
  have hlen : a.data.toList.length = a.size := by rw [Array.length_toList]; rfl
  intro d
  induction d with
  | zero =>
    intro i hd hi
    refine ev_succ ?_
    rw [List.drop_eq_nil_of_le (by omega)]
    simp only [spec_NameRight.l0, if_neg (natNotLt (show ¬ i < a.size by omega))]
    exact Ev.now _
  | succ d ih =>
    intro i hd hi
    have hlt : i < a.size := by omega
    refine ev_succ ?_
    have hz : ¬ (i : Int) = 0 := by omega
    have e := ih (i + 1) (by omega) (by omega)
    simp only [spec_NameRight.l0, if_pos (natLt hlt), if_pos (nat0 i), if_neg hz, wsucc hlt hs, bt_data a i hlt]
    rw [List.drop_eq_getElem_cons (show i < a.data.toList.length by omega), List.all_cons]
    generalize hc : a.data.toList[i]'(by omega) = c
    rw [show tailC c = (decide (97 ≤ c.toNat) && decide (c.toNat ≤ 122) || decide (48 ≤ c.toNat) && decide (c.toNat ≤ 57) || decide (c.toNat = 95)) from rfl]
    by_cases h1 : ((c.toNat : Int) ≥ 97)
    · refine ev_pos h1 ?_
      by_cases h2 : ((c.toNat : Int) ≤ 122)
      · refine ev_pos h2 ?_
        rw [decide_eq_true (show 97 ≤ c.toNat by omega), decide_eq_true (show c.toNat ≤ 122 by omega)]
        simpa using e
      · refine ev_neg h2 ?_
        rw [decide_eq_false (show ¬ c.toNat ≤ 122 by omega), decide_eq_false (show ¬ c.toNat ≤ 57 by omega), decide_eq_false (show ¬ c.toNat = 95 by omega)]
        refine ev_pos (show (c.toNat : Int) ≥ 48 by omega) (ev_neg (show ¬ (c.toNat : Int) ≤ 57 by omega) (ev_neg (show ¬ (c.toNat : Int) = 95 by omega) ?_))
        simp only [Bool.and_false, Bool.or_false, Bool.false_and]
        exact Ev.now _
    · refine ev_neg h1 ?_
      rw [decide_eq_false (show ¬ 97 ≤ c.toNat by omega)]
      by_cases h3 : ((c.toNat : Int) ≥ 48)
      · refine ev_pos h3 ?_
        by_cases h4 : ((c.toNat : Int) ≤ 57)
        · refine ev_pos h4 ?_
          rw [decide_eq_true (show 48 ≤ c.toNat by omega), decide_eq_true (show c.toNat ≤ 57 by omega)]
          simpa using e
        · refine ev_neg h4 ?_
          by_cases h5 : ((c.toNat : Int) = 95)
          · refine ev_pos h5 ?_
            rw [decide_eq_true (show c.toNat = 95 by omega)]
            simpa using e
          · refine ev_neg h5 ?_
            rw [decide_eq_false (show ¬ c.toNat ≤ 57 by omega), decide_eq_false (show ¬ c.toNat = 95 by omega)]
            simp only [Bool.and_false, Bool.or_false, Bool.false_and]
            exact Ev.now _
      · refine ev_neg h3 (ev_neg (show ¬ (c.toNat : Int) = 95 by omega) ?_)
        rw [decide_eq_false (show ¬ 48 ≤ c.toNat by omega), decide_eq_false (show ¬ c.toNat = 95 by omega)]
        simp only [Bool.and_false, Bool.or_false, Bool.false_and]
        exact Ev.now _
/-- A name. -/
def nameF (a : ByteArray) : Bool := decide (a.size ≤ 20) && wordF a.data.toList
theorem sname_ev (a : ByteArray) (hs : a.size ≤ 140737488351232) : Ev (fun k => spec_NameRight.f k a) (nameF a) := by
  have hlen : a.data.toList.length = a.size := by rw [Array.length_toList]; rfl
  by_cases h1 : (a.size : Int) < 1
  · simp only [spec_NameRight.f, if_pos h1]
    refine ev_succ ?_
    simp only [spec_NameRight.j0, if_true]
    have : a.data.toList = [] := List.eq_nil_of_length_eq_zero (by omega)
    unfold nameF
    rw [this]
    simp only [wordF, Bool.and_false]
    exact Ev.now _
  · simp only [spec_NameRight.f, if_neg h1]
    refine ev_succ ?_
    by_cases h2 : (a.size : Int) > 20
    · simp only [decide_eq_true h2, spec_NameRight.j0, if_true]
      unfold nameF
      rw [decide_eq_false (show ¬ a.size ≤ 20 by omega)]
      simp only [Bool.false_and]
      exact Ev.now _
    · simp only [decide_eq_false h2, spec_NameRight.j0, Bool.false_eq_true, if_false]
      unfold nameF
      rw [decide_eq_true (show a.size ≤ 20 by omega), Bool.true_and]
      have hlt : 0 < a.size := by omega
      refine ev_succ ?_
      have e := sname_l0 a hs (a.size - 1) 1 (by omega) (by omega)
      have hb := bt_data a 0 hlt
      have hw := wsucc hlt hs
      rw [show ((0 : Nat) : Int) = 0 from rfl] at hb hw
      simp only [spec_NameRight.l0, if_pos (show (0 : Int) < (a.size : Int) by omega), if_pos (show (0 : Int) ≤ 0 by omega), if_true, hw, hb]
      obtain ⟨c, r, hcr⟩ : ∃ c r, a.data.toList = c :: r := by
        cases hq : a.data.toList with
        | nil => rw [hq] at hlen; simp at hlen; omega
        | cons c r => exact ⟨c, r, rfl⟩
      have hc0 : a.data.toList[0]'(by omega) = c := by simp [hcr]
      rw [hc0]
      rw [hcr, List.drop_succ_cons, List.drop_zero] at e
      rw [hcr]
      simp only [wordF, lowC]
      by_cases h3 : ((c.toNat : Int) ≥ 97)
      · refine ev_pos h3 ?_
        by_cases h4 : ((c.toNat : Int) ≤ 122)
        · refine ev_pos h4 ?_
          rw [decide_eq_true (show 97 ≤ c.toNat by omega), decide_eq_true (show c.toNat ≤ 122 by omega)]
          simpa using e
        · refine ev_neg h4 ?_
          rw [decide_eq_false (show ¬ c.toNat ≤ 122 by omega)]
          simp only [Bool.and_false, Bool.false_and]
          exact Ev.now _
      · refine ev_neg h3 ?_
        rw [decide_eq_false (show ¬ 97 ≤ c.toNat by omega)]
        simp only [Bool.false_and]
        exact Ev.now _
theorem dropWhile_nil {α : Type} (p : α → Bool) : ∀ l : List α, l.dropWhile p = [] ↔ l.all p = true
  | [] => by simp
  | a :: l => by
    rw [List.dropWhile_cons, List.all_cons]
    cases h : p a with
    | true => simpa using dropWhile_nil p l
    | false => simp
theorem trim_nil (l cs : List UInt8) : Lib.trimS l cs = [] ↔ l.all (cs.contains ·) = true := by
  unfold Lib.trimS Lib.trimLeftS Lib.trimRightS
  rw [dropWhile_nil, List.all_reverse]
  constructor
  · intro h
    have e := List.takeWhile_append_dropWhile (p := (cs.contains ·)) (l := l.reverse)
    rw [← List.all_reverse, ← e, List.all_append, h, Bool.and_true]
    exact List.all_takeWhile
  · intro h
    rw [List.all_eq_true] at h ⊢
    intro x hx
    exact h x (List.mem_reverse.1 ((List.dropWhile_sublist _).mem hx))
theorem low_cs : ∀ n : Fin 256, ([97, 98, 99, 100, 101, 102, 103, 104, 105, 106, 107, 108, 109, 110, 111, 112, 113, 114, 115, 116, 117, 118, 119, 120, 121, 122] : List UInt8).contains (UInt8.ofNat n.val) = lowC (UInt8.ofNat n.val) := by decide +kernel
theorem tail_cs : ∀ n : Fin 256, ([97, 98, 99, 100, 101, 102, 103, 104, 105, 106, 107, 108, 109, 110, 111, 112, 113, 114, 115, 116, 117, 118, 119, 120, 121, 122, 48, 49, 50, 51, 52, 53, 54, 55, 56, 57, 95] : List UInt8).contains (UInt8.ofNat n.val) = tailC (UInt8.ofNat n.val) := by decide +kernel
theorem low_c (c : UInt8) : ([97, 98, 99, 100, 101, 102, 103, 104, 105, 106, 107, 108, 109, 110, 111, 112, 113, 114, 115, 116, 117, 118, 119, 120, 121, 122] : List UInt8).contains c = lowC c := by
  have := low_cs ⟨c.toNat, c.toNat_lt⟩
  simpa using this
theorem tail_c (c : UInt8) : ([97, 98, 99, 100, 101, 102, 103, 104, 105, 106, 107, 108, 109, 110, 111, 112, 113, 114, 115, 116, 117, 118, 119, 120, 121, 122, 48, 49, 50, 51, 52, 53, 54, 55, 56, 57, 95] : List UInt8).contains c = tailC c := by
  have := tail_cs ⟨c.toNat, c.toNat_lt⟩
  simpa using this
theorem all_congr {l : List UInt8} {p q : UInt8 → Bool} (h : ∀ c, p c = q c) : l.all p = l.all q := by
  rw [show p = q from funext h]
theorem toArr_nil (l : List UInt8) : ((⟨l.toArray⟩ : ByteArray).toList = ([] : List UInt8)) ↔ l = [] := by rw [Lib.toList_data]
theorem implWord (a : ByteArray) (hs : a.size ≤ 140737488351232) : impl_isWord.f a = some (wordF a.data.toList) := by
  have hlen : a.data.toList.length = a.size := by rw [Array.length_toList]; rfl
  unfold impl_isWord.f
  rw [Lib.toList_data]
  cases hq : a.data.toList with
  | nil => rw [if_pos rfl]; rfl
  | cons c r =>
    have hsz : 1 ≤ a.size := by rw [← hlen, hq]; simp
    rw [if_neg (by simp), if_pos (by decide), if_pos (by omega)]
    have e1 : (a.extract 0 1).data.toList = [c] := by
      rw [Lib.extract_data, hq]; rfl
    have se : (a.extract 0 1).size ≤ 9223372036854775807 := by
      have : (a.extract 0 1).data.toList.length = (a.extract 0 1).size := by rw [Array.length_toList]; rfl
      rw [← this, e1]; simp
    unfold strings_Trim.f
    rw [if_pos ⟨se, by decide +kernel, by decide +kernel⟩, Option.bind_some, e1]
    have t1 : (Lib.trimS [c] ([97, 98, 99, 100, 101, 102, 103, 104, 105, 106, 107, 108, 109, 110, 111, 112, 113, 114, 115, 116, 117, 118, 119, 120, 121, 122] : List UInt8) = []) ↔ lowC c = true := by
      rw [trim_nil, List.all_cons, low_c]; simp
    have t2 : (Lib.trimS (c :: r) ([97, 98, 99, 100, 101, 102, 103, 104, 105, 106, 107, 108, 109, 110, 111, 112, 113, 114, 115, 116, 117, 118, 119, 120, 121, 122, 48, 49, 50, 51, 52, 53, 54, 55, 56, 57, 95] : List UInt8) = []) ↔ (c :: r).all tailC = true := by
      rw [trim_nil, all_congr tail_c]
    by_cases h1 : lowC c = true
    · rw [if_pos ((toArr_nil _).2 (t1.2 h1)), if_pos ⟨by omega, by decide +kernel, by decide +kernel⟩, Option.bind_some, hq]
      have hw : wordF (c :: r) = (c :: r).all tailC := by
        simp only [wordF, List.all_cons, h1, Bool.true_and]
        simp [tailC, h1]
      rw [hw]
      congr 1
      rw [Bool.eq_iff_iff, beq_iff_eq, toArr_nil]
      exact t2
    · rw [if_neg (fun h => h1 (t1.1 ((toArr_nil _).1 h)))]
      simp only [wordF, Bool.not_eq_true] at h1 ⊢
      rw [h1]; rfl
theorem implName (a : ByteArray) (hs : a.size ≤ 140737488351232) : impl_NameRight.f a = some (nameF a) := by
  unfold impl_NameRight.f nameF
  by_cases h : (a.size : Int) ≤ 20
  · rw [if_pos h, implWord a hs, Option.bind_some, decide_eq_true (show a.size ≤ 20 by omega), Bool.true_and]
  · rw [if_neg h, decide_eq_false (show ¬ a.size ≤ 20 by omega), Bool.false_and]

theorem FnExactNameRight : laws_FnExactNameRight.Pure := by
  intro a h
  refine Ev.rounds (g := fun k => laws_FnExactNameRight.f k a) ?_
  simp only [laws_FnExactNameRight.f]
  by_cases h1 : (a.size : Int) > 1048576
  · simp only [if_pos h1]; exact Ev.now _
  · simp only [if_neg h1]
    refine Ev.bind (sname_ev a h) ?_
    simp only [implName a h, Option.bind_some, bne_self_eq_false, Bool.false_eq_true, if_false]
    exact Ev.now _

end Go.Proofs.YtabmljlpmnlbpaaDoor.Pure
