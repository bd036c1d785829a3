/- At every book and spot the program's BookBalance is the reference's BookBalance. The row lists tables of Go's library; the card ties them. -/
import Derived.Test.YtlhefhcdlgkngaaDoorPFnExactBookBalancex10
import Derived.Test.YtlhefhcdlgkngaaDoorQLib
import Derived.Test.YtlhefhcdlgkngaaDoorQLoops
namespace Go.Proofs.YtlhefhcdlgkngaaDoor.Pure
set_option linter.unusedSimpArgs false
set_option linter.unusedVariables false
open Go.RowKit Go.Proofs.YtlhefhcdlgkngaaDoor.PFnExactBookBalance Go.Proofs.YtlhefhcdlgkngaaDoorW.PrintWords Go.Proofs.YtlhefhcdlgkngaaDoorW.PrintLast Go.Proofs.YtlhefhcdlgkngaaDoorW.PrintMore
open Go.Proofs.YtlhefhcdlgkngaaDoor.Q
def lowC (c : UInt8) : Bool := decide (97 ≤ c.toNat) && decide (c.toNat ≤ 122)
def tailC (c : UInt8) : Bool := lowC c || (decide (48 ≤ c.toNat) && decide (c.toNat ≤ 57)) || decide (c.toNat = 95)
/-- Is it a name, but for how many bytes it has? -/
def wordF : List UInt8 → Bool
  | [] => false
  | c :: r => lowC c && r.all tailC
theorem bt_data (s : ByteArray) (i : Nat) (h : i < s.size) : bt s (i : Int) = ((s.data.toList[i]'(by rw [Array.length_toList]; exact h)).toNat : Int) := by
  unfold bt
  rw [Int.toNat_natCast, dif_pos h]
  rfl
theorem sname_l0 (a : ByteArray) (hs : a.size ≤ 140737488351232) : ∀ (d i : Nat), a.size - i = d → 1 ≤ i → Ev (fun k => spec_NameRight.l0 k a (i : Int)) ((a.data.toList.drop i).all tailC) := by
  have hlen : a.data.toList.length = a.size := by rw [Array.length_toList]; rfl
  intro d
  induction d with
  | zero =>
    intro i hd hi
    refine ev_succ ?_
    rw [List.drop_eq_nil_of_le (by omega)]
    simp only [spec_NameRight.l0, if_neg (natNotLt (show ¬ i < a.size by omega))]
    exact Ev.now _
  | succ d ih =>
    intro i hd hi
    have hlt : i < a.size := by omega
    refine ev_succ ?_
    have hz : ¬ (i : Int) = 0 := by omega
    have e := ih (i + 1) (by omega) (by omega)
    simp only [spec_NameRight.l0, if_pos (natLt hlt), if_pos (nat0 i), if_neg hz, wsucc hlt hs, bt_data a i hlt]
    rw [List.drop_eq_getElem_cons (show i < a.data.toList.length by omega), List.all_cons]
    generalize hc : a.data.toList[i]'(by omega) = c
    rw [show tailC c = (decide (97 ≤ c.toNat) && decide (c.toNat ≤ 122) || decide (48 ≤ c.toNat) && decide (c.toNat ≤ 57) || decide (c.toNat = 95)) from rfl]
    by_cases h1 : ((c.toNat : Int) ≥ 97)
    · refine ev_pos h1 ?_
      by_cases h2 : ((c.toNat : Int) ≤ 122)
      · refine ev_pos h2 ?_
        rw [decide_eq_true (show 97 ≤ c.toNat by omega), decide_eq_true (show c.toNat ≤ 122 by omega)]
        simpa using e
      · refine ev_neg h2 ?_
        rw [decide_eq_false (show ¬ c.toNat ≤ 122 by omega), decide_eq_false (show ¬ c.toNat ≤ 57 by omega), decide_eq_false (show ¬ c.toNat = 95 by omega)]
        refine ev_pos (show (c.toNat : Int) ≥ 48 by omega) (ev_neg (show ¬ (c.toNat : Int) ≤ 57 by omega) (ev_neg (show ¬ (c.toNat : Int) = 95 by omega) ?_))
        simp only [Bool.and_false, Bool.or_false, Bool.false_and]
        exact Ev.now _
    · refine ev_neg h1 ?_
      rw [decide_eq_false (show ¬ 97 ≤ c.toNat by omega)]
      by_cases h3 : ((c.toNat : Int) ≥ 48)
      · refine ev_pos h3 ?_
        by_cases h4 : ((c.toNat : Int) ≤ 57)
        · refine ev_pos h4 ?_
          rw [decide_eq_true (show 48 ≤ c.toNat by omega), decide_eq_true (show c.toNat ≤ 57 by omega)]
          simpa using e
        · refine ev_neg h4 ?_
          by_cases h5 : ((c.toNat : Int) = 95)
          · refine ev_pos h5 ?_
            rw [decide_eq_true (show c.toNat = 95 by omega)]
            simpa using e
          · refine ev_neg h5 ?_
            rw [decide_eq_false (show ¬ c.toNat ≤ 57 by omega), decide_eq_false (show ¬ c.toNat = 95 by omega)]
            simp only [Bool.and_false, Bool.or_false, Bool.false_and]
            exact Ev.now _
      · refine ev_neg h3 (ev_neg (show ¬ (c.toNat : Int) = 95 by omega) ?_)
        rw [decide_eq_false (show ¬ 48 ≤ c.toNat by omega), decide_eq_false (show ¬ c.toNat = 95 by omega)]
        simp only [Bool.and_false, Bool.or_false, Bool.false_and]
        exact Ev.now _
/-- A name. -/
def nameF (a : ByteArray) : Bool := decide (a.size ≤ 20) && wordF a.data.toList
theorem sname_ev (a : ByteArray) (hs : a.size ≤ 140737488351232) : Ev (fun k => spec_NameRight.f k a) (nameF a) := by
  have hlen : a.data.toList.length = a.size := by rw [Array.length_toList]; rfl
  by_cases h1 : (a.size : Int) < 1
  · simp only [spec_NameRight.f, if_pos h1]
    refine ev_succ ?_
    simp only [spec_NameRight.j0, if_true]
    have : a.data.toList = [] := List.eq_nil_of_length_eq_zero (by omega)
    unfold nameF
    rw [this]
    simp only [wordF, Bool.and_false]
    exact Ev.now _
  · simp only [spec_NameRight.f, if_neg h1]
    refine ev_succ ?_
    by_cases h2 : (a.size : Int) > 20
    · simp only [decide_eq_true h2, spec_NameRight.j0, if_true]
      unfold nameF
      rw [decide_eq_false (show ¬ a.size ≤ 20 by omega)]
      simp only [Bool.false_and]
      exact Ev.now _
    · simp only [decide_eq_false h2, spec_NameRight.j0, Bool.false_eq_true, if_false]
      unfold nameF
      rw [decide_eq_true (show a.size ≤ 20 by omega), Bool.true_and]
      have hlt : 0 < a.size := by omega
      refine ev_succ ?_
      have e := sname_l0 a hs (a.size - 1) 1 (by omega) (by omega)
      have hb := bt_data a 0 hlt
      have hw := wsucc hlt hs
      rw [show ((0 : Nat) : Int) = 0 from rfl] at hb hw
      simp only [spec_NameRight.l0, if_pos (show (0 : Int) < (a.size : Int) by omega), if_pos (show (0 : Int) ≤ 0 by omega), if_true, hw, hb]
      obtain ⟨c, r, hcr⟩ : ∃ c r, a.data.toList = c :: r := by
        cases hq : a.data.toList with
        | nil => rw [hq] at hlen; simp at hlen; omega
        | cons c r => exact ⟨c, r, rfl⟩
      have hc0 : a.data.toList[0]'(by omega) = c := by simp [hcr]
      rw [hc0]
      rw [hcr, List.drop_succ_cons, List.drop_zero] at e
      rw [hcr]
      simp only [wordF, lowC]
      by_cases h3 : ((c.toNat : Int) ≥ 97)
      · refine ev_pos h3 ?_
        by_cases h4 : ((c.toNat : Int) ≤ 122)
        · refine ev_pos h4 ?_
          rw [decide_eq_true (show 97 ≤ c.toNat by omega), decide_eq_true (show c.toNat ≤ 122 by omega)]
          simpa using e
        · refine ev_neg h4 ?_
          rw [decide_eq_false (show ¬ c.toNat ≤ 122 by omega)]
          simp only [Bool.and_false, Bool.false_and]
          exact Ev.now _
      · refine ev_neg h3 ?_
        rw [decide_eq_false (show ¬ 97 ≤ c.toNat by omega)]
        simp only [Bool.false_and]
        exact Ev.now _
theorem dropWhile_nil {α : Type} (p : α → Bool) : ∀ l : List α, l.dropWhile p = [] ↔ l.all p = true
  | [] => by simp
  | a :: l => by
    rw [List.dropWhile_cons, List.all_cons]
    cases h : p a with
    | true => simpa using dropWhile_nil p l
    | false => simp
theorem trim_nil (l cs : List UInt8) : Lib.trimS l cs = [] ↔ l.all (cs.contains ·) = true := by
  unfold Lib.trimS Lib.trimLeftS Lib.trimRightS
  rw [dropWhile_nil, List.all_reverse]
  constructor
  · intro h
    have e := List.takeWhile_append_dropWhile (p := (cs.contains ·)) (l := l.reverse)
    rw [← List.all_reverse, ← e, List.all_append, h, Bool.and_true]
    exact List.all_takeWhile
  · intro h
    rw [List.all_eq_true] at h ⊢
    intro x hx
    exact h x (List.mem_reverse.1 ((List.dropWhile_sublist _).mem hx))
theorem low_cs : ∀ n : Fin 256, ([97, 98, 99, 100, 101, 102, 103, 104, 105, 106, 107, 108, 109, 110, 111, 112, 113, 114, 115, 116, 117, 118, 119, 120, 121, 122] : List UInt8).contains (UInt8.ofNat n.val) = lowC (UInt8.ofNat n.val) := by decide +kernel
theorem tail_cs : ∀ n : Fin 256, ([97, 98, 99, 100, 101, 102, 103, 104, 105, 106, 107, 108, 109, 110, 111, 112, 113, 114, 115, 116, 117, 118, 119, 120, 121, 122, 48, 49, 50, 51, 52, 53, 54, 55, 56, 57, 95] : List UInt8).contains (UInt8.ofNat n.val) = tailC (UInt8.ofNat n.val) := by decide +kernel
theorem low_c (c : UInt8) : ([97, 98, 99, 100, 101, 102, 103, 104, 105, 106, 107, 108, 109, 110, 111, 112, 113, 114, 115, 116, 117, 118, 119, 120, 121, 122] : List UInt8).contains c = lowC c := by
  have := low_cs ⟨c.toNat, c.toNat_lt⟩
  simpa using this
theorem tail_c (c : UInt8) : ([97, 98, 99, 100, 101, 102, 103, 104, 105, 106, 107, 108, 109, 110, 111, 112, 113, 114, 115, 116, 117, 118, 119, 120, 121, 122, 48, 49, 50, 51, 52, 53, 54, 55, 56, 57, 95] : List UInt8).contains c = tailC c := by
  have := tail_cs ⟨c.toNat, c.toNat_lt⟩
  simpa using this
theorem all_congr {l : List UInt8} {p q : UInt8 → Bool} (h : ∀ c, p c = q c) : l.all p = l.all q := by
  rw [show p = q from funext h]
theorem toArr_nil (l : List UInt8) : ((⟨l.toArray⟩ : ByteArray).toList = ([] : List UInt8)) ↔ l = [] := by rw [Lib.toList_data]
theorem implWord (a : ByteArray) (hs : a.size ≤ 140737488351232) : impl_isWord.f a = some (wordF a.data.toList) := by
  have hlen : a.data.toList.length = a.size := by rw [Array.length_toList]; rfl
  unfold impl_isWord.f
  rw [Lib.toList_data]
  cases hq : a.data.toList with
  | nil => rw [if_pos rfl]; rfl
  | cons c r =>
    have hsz : 1 ≤ a.size := by rw [← hlen, hq]; simp
    rw [if_neg (by simp), if_pos (by decide), if_pos (by omega)]
    have e1 : (a.extract 0 1).data.toList = [c] := by
      rw [Lib.extract_data, hq]; rfl
    have se : (a.extract 0 1).size ≤ 9223372036854775807 := by
      have : (a.extract 0 1).data.toList.length = (a.extract 0 1).size := by rw [Array.length_toList]; rfl
      rw [← this, e1]; simp
    unfold strings_Trim.f
    rw [if_pos ⟨se, by decide +kernel, by decide +kernel⟩, Option.bind_some, e1]
    have t1 : (Lib.trimS [c] ([97, 98, 99, 100, 101, 102, 103, 104, 105, 106, 107, 108, 109, 110, 111, 112, 113, 114, 115, 116, 117, 118, 119, 120, 121, 122] : List UInt8) = []) ↔ lowC c = true := by
      rw [trim_nil, List.all_cons, low_c]; simp
    have t2 : (Lib.trimS (c :: r) ([97, 98, 99, 100, 101, 102, 103, 104, 105, 106, 107, 108, 109, 110, 111, 112, 113, 114, 115, 116, 117, 118, 119, 120, 121, 122, 48, 49, 50, 51, 52, 53, 54, 55, 56, 57, 95] : List UInt8) = []) ↔ (c :: r).all tailC = true := by
      rw [trim_nil, all_congr tail_c]
    by_cases h1 : lowC c = true
    · rw [if_pos ((toArr_nil _).2 (t1.2 h1)), if_pos ⟨by omega, by decide +kernel, by decide +kernel⟩, Option.bind_some, hq]
      have hw : wordF (c :: r) = (c :: r).all tailC := by
        simp only [wordF, List.all_cons, h1, Bool.true_and]
        simp [tailC, h1]
      rw [hw]
      congr 1
      rw [Bool.eq_iff_iff, beq_iff_eq, toArr_nil]
      exact t2
    · rw [if_neg (fun h => h1 (t1.1 ((toArr_nil _).1 h)))]
      simp only [wordF, Bool.not_eq_true] at h1 ⊢
      rw [h1]; rfl
theorem implName (a : ByteArray) (hs : a.size ≤ 140737488351232) : impl_NameRight.f a = some (nameF a) := by
  unfold impl_NameRight.f nameF
  by_cases h : (a.size : Int) ≤ 20
  · rw [if_pos h, implWord a hs, Option.bind_some, decide_eq_true (show a.size ≤ 20 by omega), Bool.true_and]
  · rw [if_neg h, decide_eq_false (show ¬ a.size ≤ 20 by omega), Bool.false_and]

theorem right_same (a : Int) : impl_MoneyRight.f a = spec_MoneyRight.f a := by
  simp only [spec_MoneyRight.f, impl_MoneyRight.f, impl_in.f, ge_iff_le]
  by_cases h1 : (-1000000000000 : Int) ≤ a
  · simp only [if_pos h1, Option.bind_some]
  · simp only [if_neg h1, Option.bind_some]
/-- Is it money? -/
def mr (a : Int) : Bool := decide (-1000000000000 ≤ a ∧ a ≤ 1000000000000)
theorem right_is (a : Int) : spec_MoneyRight.f a = some (mr a) := by
  simp only [spec_MoneyRight.f, ge_iff_le, mr]
  by_cases h1 : (-1000000000000 : Int) ≤ a
  · simp [h1]
  · simp [h1]

theorem eqS_l0 (l : List ByteArray) (hl : l.length ≤ 140737488351232) : ∀ (d i : Nat), l.length - i = d → Ev (fun k => laws_eqStringS.l0 k l l i) true := by
  intro d
  induction d with
  | zero =>
    intro i hd
    refine ev_succ ?_
    simp only [laws_eqStringS.l0, if_neg (natNotLt (show ¬ i < l.length by omega))]; exact Ev.now _
  | succ d ih =>
    intro i hd
    refine ev_succ ?_
    have hi : i < l.length := by omega
    simp only [laws_eqStringS.l0, if_pos (natLt hi), if_pos (nat0 i), if_true, wsucc hi hl]
    exact ih _ (by omega)
theorem eqS_ev (l : List ByteArray) (hl : l.length ≤ 140737488351232) : Ev (fun k => laws_eqStringS.f k l l) true := by
  simp only [laws_eqStringS.f, if_true]; exact eqS_l0 l hl _ 0 rfl

def tot (l : List ByteArray) : Nat := (l.map (·.size)).sum
theorem rd_at (l : List ByteArray) (i : Nat) (h : i < l.length) : rdOf ByteArray.empty l (i : Int) = l[i] := by
  unfold rdOf; rw [Int.toNat_natCast, List.getD_eq_getElem?_getD, List.getElem?_eq_getElem h]; rfl
theorem drop_at {α : Type} (l : List α) (i : Nat) (h : i < l.length) : l.drop i = l[i] :: l.drop (i + 1) := List.drop_eq_getElem_cons h
theorem tot_at (l : List ByteArray) (i : Nat) (h : i < l.length) : tot (l.drop i) = l[i].size + tot (l.drop (i + 1)) := by
  rw [drop_at l i h]; unfold tot; rw [List.map_cons, List.sum_cons]
theorem tot_mem (l : List ByteArray) (x : ByteArray) (h : x ∈ l) : x.size ≤ tot l := by
  induction l with
  | nil => cases h
  | cons y l ih =>
    rcases List.mem_cons.1 h with rfl | h
    · simp [tot]
    · have := ih h; simp only [tot, List.map_cons, List.sum_cons] at this ⊢; omega

theorem szS_l0 (l : List ByteArray) (hl : l.length ≤ 140737488351232) (hx : ∀ x ∈ l, x.size ≤ maxLen) : ∀ (d i : Nat) (left : Int), l.length - i = d → 0 ≤ left → left ≤ 1048576 →
    ∃ t, Ev (fun k => laws_szStringS.l0 k l left i) t ∧ (0 ≤ t → t + (tot (l.drop i) : Int) ≤ left) ∧ t ≤ left := by
  intro d
  induction d with
  | zero =>
    intro i left hd h0 h1
    refine ⟨left, ev_succ ?_, fun _ => ?_, Int.le_refl _⟩
    · simp only [laws_szStringS.l0, if_neg (natNotLt (show ¬ i < l.length by omega))]; exact Ev.now _
    · rw [List.drop_eq_nil_of_le (by omega)]; simp [tot]
  | succ d ih =>
    intro i left hd h0 h1
    have hi : i < l.length := by omega
    have hs := hx _ (List.getElem_mem hi)
    unfold maxLen at hs
    have hw : wrap64 (left - (l[i].size : Int)) = left - (l[i].size : Int) := w64 (by omega) (by omega)
    by_cases hn : left - (l[i].size : Int) < 0
    · refine ⟨-1, ev_succ ?_, fun h => absurd h (by decide), by omega⟩
      simp only [laws_szStringS.l0, if_pos (natLt hi), if_pos (nat0 i), rd_at l i hi, hw, if_pos hn]; exact Ev.now _
    · obtain ⟨t, e, h2, h3⟩ := ih (i + 1) (left - l[i].size) (by omega) (by omega) (by omega)
      refine ⟨t, ev_succ ?_, fun h => ?_, by omega⟩
      · simp only [laws_szStringS.l0, if_pos (natLt hi), if_pos (nat0 i), rd_at l i hi, hw, if_neg hn, wsucc hi hl]; exact e
      · have := h2 h; rw [tot_at l i hi]; omega
theorem szS_ev (l : List ByteArray) (hm : l.length ≤ maxLen) (hx : ∀ x ∈ l, x.size ≤ maxLen) (left : Int) (h0 : 0 ≤ left) (h1 : left ≤ 1048576) :
    ∃ t, Ev (fun k => laws_szStringS.f k l left) t ∧ (0 ≤ t → t + (l.length : Int) + (tot l : Int) ≤ left) := by
  unfold maxLen at hm
  have hw : wrap64 (left - (l.length : Int)) = left - (l.length : Int) := w64 (by omega) (by omega)
  by_cases hn : left - (l.length : Int) < 0
  · refine ⟨-1, ?_, fun h => absurd h (by decide)⟩
    simp only [laws_szStringS.f, hw, if_pos hn]; exact Ev.now _
  · obtain ⟨t, e, h2, _⟩ := szS_l0 l (by omega) hx l.length 0 (left - l.length) (by omega) (by omega) (by omega)
    refine ⟨t, ?_, fun h => ?_⟩
    · simp only [laws_szStringS.f, hw, if_neg hn]; exact e
    · have := h2 h; rw [List.drop_zero] at this; omega
theorem toS_l0 (l : List ByteArray) (hl : l.length ≤ 17592186044416) : ∀ (d i : Nat) (x : List ByteArray), l.length - i = d → i ≤ l.length → x.length = l.length → x.take i = l.take i → Ev (fun k => laws_toStringS.l0 k l x i) l := by
  intro d
  induction d with
  | zero =>
    intro i x hd hi hx h
    refine ev_succ ?_
    have e : x = l := by rw [← List.take_of_length_le (l := x) (i := i) (by omega), h, List.take_of_length_le (by omega)]
    simp only [laws_toStringS.l0, if_neg (natNotLt (show ¬ i < l.length by omega)), e]; exact Ev.now _
  | succ d ih =>
    intro i x hd hi hx h
    have hi : i < l.length := by omega
    refine ev_succ ?_
    simp only [laws_toStringS.l0, if_pos (natLt hi), if_pos (nat0 i), if_pos (natLt (show i < x.length by omega)), rd_at l i hi, wsucc hi (by omega), Int.toNat_natCast]
    refine ih (i + 1) (x.set i l[i]) (by omega) (by omega) (by rw [List.length_set]; exact hx) ?_
    rw [List.take_succ_eq_append_getElem (by rw [List.length_set]; omega), List.take_succ_eq_append_getElem hi, List.getElem_set_self, List.take_set_of_le (Nat.le_refl _), h]
theorem toS_ev (l : List ByteArray) (hl : l.length ≤ 17592186044416) : Ev (fun k => laws_toStringS.f k l) l := by
  simp only [laws_toStringS.f, if_pos (nat0 l.length), Int.toNat_natCast, if_pos hl]
  exact toS_l0 l hl l.length 0 _ rfl (by omega) (by rw [List.length_replicate]) rfl

theorem rdLn (l : List S67) (i : Nat) (h : i < l.length) : rd_T67 l (i : Int) = l[i] := by
  unfold rd_T67; rw [Int.toNat_natCast, List.getD_eq_getElem?_getD, List.getElem?_eq_getElem h]; rfl
theorem rdLnl (l : List S85) (i : Nat) (h : i < l.length) : rd_T85 l (i : Int) = l[i] := by
  unfold rd_T85; rw [Int.toNat_natCast, List.getD_eq_getElem?_getD, List.getElem?_eq_getElem h]; rfl
def cL (x : S85) : S67 := ⟨⟨x.f0.f0, x.f0.f1⟩, x.f1⟩
theorem szLine_is (a b : ByteArray) (c v : Int) (ha : a.size ≤ 9223372036854775807) (hb : b.size ≤ 9223372036854775807) (h0 : 0 ≤ v) (h1 : v ≤ 1048576) :
    laws_szLine.f a b c v = some (if v - ((a.size + b.size : Nat) : Int) < 0 then -1 else v - ((a.size + b.size : Nat) : Int)) := by
  have w1 : wrap64 (v - (a.size : Int)) = v - (a.size : Int) := w64 (by omega) (by omega)
  simp only [laws_szLine.f, laws_szSpot.f, w1]
  by_cases p : v - (a.size : Int) < 0
  · rw [if_pos p, Option.bind_some, if_pos (by omega), if_pos (by omega)]
  · have w2 : wrap64 (v - (a.size : Int) - (b.size : Int)) = v - (a.size : Int) - (b.size : Int) := w64 (by omega) (by omega)
    rw [if_neg p, w2]
    by_cases q : v - (a.size : Int) - (b.size : Int) < 0
    · rw [if_pos q, Option.bind_some, if_pos (by omega), if_pos (by omega)]
    · rw [if_neg q, Option.bind_some, if_neg (by omega), if_neg (by omega)]
      congr 1; omega
theorem sum_mem {α : Type} (sz : α → Nat) : ∀ (l : List α) (x : α), x ∈ l → sz x ≤ (l.map sz).sum
  | [], _, h => by cases h
  | y :: l, x, h => by
    rw [List.map_cons, List.sum_cons]
    rcases List.mem_cons.1 h with q | q
    · subst q; omega
    · have := sum_mem sz l x q; omega
theorem szL_ev (l : List S85) (hm : l.length ≤ maxLen) (hx : ∀ x ∈ l, x.f0.f0.size ≤ maxLen ∧ x.f0.f1.size ≤ maxLen) (left : Int) (h0 : 0 ≤ left) (h1 : left ≤ 1048576) :
    ∃ t, Ev (fun k => laws_szLineS.f k l left) t ∧ (0 ≤ t → t + (l.length : Int) ≤ left ∧ ∀ x ∈ l, x.f0.f0.size + x.f0.f1.size ≤ 1048576) ∧ t ≤ left := by
  unfold maxLen at hm
  have hw : wrap64 (left - (l.length : Int)) = left - (l.length : Int) := w64 (by omega) (by omega)
  by_cases hn : left - (l.length : Int) < 0
  · refine ⟨-1, ?_, fun h => absurd h (by decide), by omega⟩
    simp only [laws_szLineS.f, hw, if_pos hn]; exact Ev.now _
  · obtain ⟨t, e, h2, h3⟩ := sz_ev (fun x : S85 => x.f0.f0.size + x.f0.f1.size) laws_szLineS.l0 l (by omega)
      (fun k i v hi a b c => by
        have hs := hx _ (List.getElem_mem hi)
        unfold maxLen at hs
        have c' : ¬ v - ((l[i].f0.f0.size + l[i].f0.f1.size : Nat) : Int) < 0 := by omega
        simp only [laws_szLineS.l0, if_pos (natLt hi), if_pos (nat0 i), rdLnl l i hi, szLine_is _ _ _ v hs.1 hs.2 a b, Option.bind_some, if_neg c', i64_1 hi (show l.length ≤ 140737488351232 by omega)])
      (fun k i v hi a b c => by
        have hs := hx _ (List.getElem_mem hi)
        unfold maxLen at hs
        simp only [laws_szLineS.l0, if_pos (natLt hi), if_pos (nat0 i), rdLnl l i hi, szLine_is _ _ _ v hs.1 hs.2 a b, Option.bind_some, if_pos c]; rfl)
      (fun k v => by simp only [laws_szLineS.l0, if_neg (natNotLt (Nat.lt_irrefl _))]) (left - l.length) (by omega) (by omega)
    refine ⟨t, ?_, fun h => ?_, by omega⟩
    · simp only [laws_szLineS.f, hw, if_neg hn]; exact e
    · have q := h2 h
      refine ⟨by omega, fun x hx => ?_⟩
      have := sum_mem (fun x : S85 => x.f0.f0.size + x.f0.f1.size) l x hx
      have this : x.f0.f0.size + x.f0.f1.size ≤ _ := this
      omega
theorem toL_ev (l : List S85) (hl : l.length ≤ 1048576) : Ev (fun k => laws_toLineS.f k l) (l.map cL) := by
  simp only [laws_toLineS.f, if_pos (nat0 l.length), Int.toNat_natCast, if_pos (show l.length ≤ 7036874417766 by omega)]
  refine map_ev cL laws_toLineS.l0 1048576 (fun k x y i hB hx hy => ?_) (fun k x y => by simp only [laws_toLineS.l0, if_neg (natNotLt (Nat.lt_irrefl _))]) l _ (List.length_replicate) hl
  simp only [laws_toLineS.l0, if_pos (natLt hx), if_pos (nat0 i), laws_toLine.f, laws_toSpot.f, Option.bind_some, if_pos (natLt hy), rdLnl x i hx, i64_1 hx (show x.length ≤ 140737488351232 by omega), Int.toNat_natCast]; rfl
theorem eqL_ev (l : List S67) (hl : l.length ≤ 140737488351232) : Ev (fun k => laws_eqLineS.f k l l) true := by
  simp only [laws_eqLineS.f, if_true]
  exact all_ev true (fun k l => laws_eqLineS.l0 k l l) l (fun k i hi => by simp only [laws_eqLineS.l0, if_pos (natLt hi), if_pos (nat0 i), laws_eqLine.f, laws_eqSpot.f, if_true, Option.bind_some, i64_1 hi hl]) (fun k => by simp only [laws_eqLineS.l0, if_neg (natNotLt (Nat.lt_irrefl _))])
/-- All from a place on. -/
def allFrom (P : Nat → Prop) (i n : Nat) : Prop := ∀ j, i ≤ j → j < n → P j
theorem af_step {P : Nat → Prop} {i n : Nat} (h : P i) : allFrom P (i + 1) n ↔ allFrom P i n := by
  constructor
  · intro q j h1 h2
    by_cases e : j = i
    · subst e; exact h
    · exact q j (by omega) h2
  · intro q j h1 h2; exact q j (by omega) h2
theorem af_no {P : Nat → Prop} {i n : Nat} (hi : i < n) (h : ¬ P i) : ¬ allFrom P i n := fun q => h (q i (Nat.le_refl _) hi)
theorem af_end {P : Nat → Prop} {i n : Nat} (hi : n ≤ i) : allFrom P i n := fun j h1 h2 => by omega
def lessB (a0 a1 b0 b1 : ByteArray) : Bool := Op.bytesLess a0.toList b0.toList || (decide (a0.toList = b0.toList) && Op.bytesLess a1.toList b1.toList)
theorem spec_less (a0 a1 b0 b1 : ByteArray) : spec_l05Less.f a0 a1 b0 b1 = some (lessB a0 a1 b0 b1) := by
  unfold spec_l05Less.f lessB
  by_cases h : Op.bytesLess a0.toList b0.toList = true
  · rw [if_pos h, h, Bool.true_or]
  · rw [if_neg h]
    rw [Bool.not_eq_true] at h
    rw [h, Bool.false_or]
    by_cases q : a0.toList = b0.toList
    · rw [if_pos q, decide_eq_true q, Bool.true_and]
    · rw [if_neg q, decide_eq_false q, Bool.false_and]
theorem or_ev (c1 c2 : Int) : Ev (fun k => cmp_Or_int.f k [c1, c2]) (if c1 = 0 then c2 else c1) := by
  have hl : (([c1, c2] : List Int).length : Int) = 2 := rfl
  have r0 : rd [c1, c2] 0 = c1 := rfl
  have r1 : rd [c1, c2] 1 = c2 := rfl
  have w0 : wrap64 (0 + 1) = 1 := w64 (by omega) (by omega)
  have w1 : wrap64 (1 + 1) = 2 := w64 (by omega) (by omega)
  simp only [cmp_Or_int.f, hl]
  refine ev_succ ?_
  simp only [cmp_Or_int.l0, hl, r0, w0]
  refine ev_pos (by decide) (ev_pos (by decide) (ev_pos (by decide) ?_))
  by_cases h : c1 = 0
  · rw [if_pos h]
    refine ev_pos h (ev_succ ?_)
    simp only [cmp_Or_int.l0, hl, r1, w1]
    refine ev_pos (by decide) (ev_pos (by decide) (ev_pos (by decide) ?_))
    by_cases h2 : c2 = 0
    · refine ev_pos h2 (ev_succ ?_)
      simp only [cmp_Or_int.l0]
      rw [h2]
      exact ev_neg (by decide) (Ev.now _)
    · exact ev_neg h2 (Ev.now _)
  · rw [if_neg h]
    exact ev_neg h (Ev.now _)
theorem order_ev (a0 a1 b0 b1 : ByteArray) : ∃ r, Ev (fun k => impl_Spot_order.f k a0 a1 b0 b1) r ∧ (r ≥ 0 ↔ lessB a0 a1 b0 b1 = false) := by
  simp only [impl_Spot_order.f, cmp_Compare_string.f, Option.bind_some]
  refine ⟨_, Ev.bind (or_ev _ _) (Ev.now _), ?_⟩
  unfold lessB
  by_cases h : Op.bytesLess a0.toList b0.toList = true
  · rw [if_pos h, h]; simp
  · rw [if_neg h]
    rw [Bool.not_eq_true] at h
    rw [h, Bool.false_or]
    by_cases q : a0.toList = b0.toList
    · rw [decide_eq_true q, q, if_pos (by simp), Bool.true_and]
      by_cases h1 : Op.bytesLess a1.toList b1.toList = true
      · rw [if_pos h1, h1]; simp
      · rw [if_neg h1]
        rw [Bool.not_eq_true] at h1
        rw [h1]
        split <;> simp
    · rw [decide_eq_false q, if_neg (by simp [q])]; simp [q]
/-- A line that may stand where it stands. -/
def gL (L : List S67) (j : Nat) : Prop := nameF (rd_T67 L j).f0.f0 = true ∧ nameF (rd_T67 L j).f0.f1 = true ∧ mr (rd_T67 L j).f1 = true ∧
  (0 < j → lessB (rd_T67 L (j - 1 : Nat)).f0.f0 (rd_T67 L (j - 1 : Nat)).f0.f1 (rd_T67 L j).f0.f0 (rd_T67 L j).f0.f1 = true)
def gI (I : List ByteArray) (j : Nat) : Prop := nameF (rdOf ByteArray.empty I j) = true ∧ (0 < j → Op.bytesLess (rdOf ByteArray.empty I (j - 1 : Nat)).toList (rdOf ByteArray.empty I j).toList = true)
def sumI (L : List S67) : Nat → Nat → Int → Int
  | 0, _, s => s
  | d + 1, i, s => sumI L d (i + 1) (wrap64 (s + (rd_T67 L (i : Int)).f1))
theorem names_ev (a b : ByteArray) (ha : a.size ≤ 140737488351232) (hb : b.size ≤ 140737488351232) : Ev (fun k => spec_l05Names.f k a b) (nameF a && nameF b) := by
  simp only [spec_l05Names.f]
  refine Ev.bind (sname_ev a ha) ?_
  cases nameF a with
  | true => simp only [if_true, Bool.true_and]; exact Ev.bind (sname_ev b hb) (Ev.now _)
  | false => simp only [Bool.false_eq_true, if_false, Bool.false_and]; exact Ev.now _
theorem spot_right (a b : ByteArray) (ha : a.size ≤ 140737488351232) (hb : b.size ≤ 140737488351232) : impl_Spot_isRight.f a b = some (nameF a && nameF b) := by
  simp only [impl_Spot_isRight.f, implName a ha, implName b hb, Option.bind_some]
  cases nameF a <;> rfl
theorem wpred {i : Nat} (h : 0 < i) (hn : i ≤ 140737488351232) : wrap64 ((i : Int) - 1) = ((i - 1 : Nat) : Int) := by rw [w64 (by omega) (by omega)]; omega
theorem nowFalse {P : Prop} (h : ¬ P) : ∃ b, Ev (fun _ => some false) b ∧ (b = true ↔ P) := ⟨false, Ev.now _, by simp [h]⟩
theorem spec_ids (I : List ByteArray) (hI : I.length ≤ 140737488351232) (hz : ∀ j : Nat, j < I.length → (rdOf ByteArray.empty I (j : Int)).size ≤ 140737488351232) :
    ∀ (d i : Nat), I.length - i = d → ∃ b, Ev (fun k => spec_l05Ids.l0 k I (i : Int)) b ∧ (b = true ↔ allFrom (gI I) i I.length) := by
  intro d
  induction d with
  | zero =>
    intro i hd
    refine ⟨true, ev_succ ?_, by simp [af_end (P := gI I) (show I.length ≤ i by omega)]⟩
    simp only [spec_l05Ids.l0, if_neg (natNotLt (show ¬ i < I.length by omega))]; exact Ev.now _
  | succ d ih =>
    intro i hd
    have hi : i < I.length := by omega
    have eN := sname_ev (rdOf ByteArray.empty I (i : Int)) (hz i hi)
    obtain ⟨b, e, hb⟩ := ih (i + 1) (by omega)
    by_cases hn : nameF (rdOf ByteArray.empty I (i : Int)) = true
    · rw [hn] at eN
      by_cases h0 : i = 0
      · refine ⟨b, ev_succ ?_, hb.trans (af_step ⟨hn, fun q => by omega⟩)⟩
        simp only [spec_l05Ids.l0, if_pos (natLt hi), if_pos (nat0 i), wsucc hi hI]
        refine Ev.bind eN ?_
        simp only [if_true]
        exact ev_neg (by omega) e
      · by_cases hl : Op.bytesLess (rdOf ByteArray.empty I (i - 1 : Nat)).toList (rdOf ByteArray.empty I (i : Int)).toList = true
        · refine ⟨b, ev_succ ?_, hb.trans (af_step ⟨hn, fun _ => hl⟩)⟩
          simp only [spec_l05Ids.l0, if_pos (natLt hi), if_pos (nat0 i), wsucc hi hI, wpred (show 0 < i by omega) (by omega)]
          refine Ev.bind eN ?_
          simp only [if_true]
          exact ev_pos (by omega) (ev_pos (by omega) (ev_pos (by omega) (ev_pos hl e)))
        · refine ⟨false, ev_succ ?_, by simp [af_no hi (show ¬ gI I i from fun q => hl (q.2 (by omega)))]⟩
          simp only [spec_l05Ids.l0, if_pos (natLt hi), if_pos (nat0 i), wsucc hi hI, wpred (show 0 < i by omega) (by omega)]
          refine Ev.bind eN ?_
          simp only [if_true]
          exact ev_pos (by omega) (ev_pos (by omega) (ev_pos (by omega) (ev_neg hl (Ev.now _))))
    · refine ⟨false, ev_succ ?_, by simp [af_no hi (show ¬ gI I i from fun q => hn q.1)]⟩
      rw [Bool.not_eq_true] at hn
      rw [hn] at eN
      simp only [spec_l05Ids.l0, if_pos (natLt hi), if_pos (nat0 i), wsucc hi hI]
      refine Ev.bind eN ?_
      simp only [Bool.false_eq_true, if_false]; exact Ev.now _
theorem impl_ids (L : List S67) (I : List ByteArray) (s : Int) (hI : I.length ≤ 140737488351232) (hz : ∀ j : Nat, j < I.length → (rdOf ByteArray.empty I (j : Int)).size ≤ 140737488351232) :
    ∀ (d i : Nat), I.length - i = d → ∃ b, Ev (fun k => impl_BookRight.l1 k s I (I.length : Int) (i : Int) L I) b ∧ (b = true ↔ allFrom (gI I) i I.length ∧ s = 0 ∧ I.length ≤ 100) := by
  intro d
  induction d with
  | zero =>
    intro i hd
    have ha := af_end (P := gI I) (show I.length ≤ i by omega)
    by_cases h0 : s = 0
    · refine ⟨decide ((I.length : Int) ≤ 100), ev_succ ?_, ?_⟩
      · simp only [impl_BookRight.l1, if_neg (natNotLt (show ¬ i < I.length by omega)), if_pos h0]; exact Ev.now _
      · rw [decide_eq_true_eq]
        exact ⟨fun q => ⟨ha, h0, by omega⟩, fun q => by omega⟩
    · refine ⟨false, ev_succ ?_, by simp [h0]⟩
      simp only [impl_BookRight.l1, if_neg (natNotLt (show ¬ i < I.length by omega)), if_neg h0]; exact Ev.now _
  | succ d ih =>
    intro i hd
    have hi : i < I.length := by omega
    have eN := implName (rdOf ByteArray.empty I (i : Int)) (hz i hi)
    obtain ⟨b, e, hb⟩ := ih (i + 1) (by omega)
    by_cases hn : nameF (rdOf ByteArray.empty I (i : Int)) = true
    · rw [hn] at eN
      by_cases h0 : i = 0
      · refine ⟨b, ev_succ ?_, hb.trans (and_congr (af_step ⟨hn, fun q => by omega⟩) Iff.rfl)⟩
        simp only [impl_BookRight.l1, if_pos (natLt hi), if_pos (nat0 i), wsucc hi hI, eN, Option.bind_some, if_true]
        exact ev_neg (by omega) e
      · by_cases hl : Op.bytesLess (rdOf ByteArray.empty I (i - 1 : Nat)).toList (rdOf ByteArray.empty I (i : Int)).toList = true
        · refine ⟨b, ev_succ ?_, hb.trans (and_congr (af_step ⟨hn, fun _ => hl⟩) Iff.rfl)⟩
          simp only [impl_BookRight.l1, if_pos (natLt hi), if_pos (nat0 i), wsucc hi hI, wpred (show 0 < i by omega) (by omega), eN, Option.bind_some, if_true]
          exact ev_pos (by omega) (ev_pos (by omega) (ev_pos (by omega) (ev_pos hl e)))
        · refine ⟨false, ev_succ ?_, by simp [af_no hi (show ¬ gI I i from fun q => hl (q.2 (by omega)))]⟩
          simp only [impl_BookRight.l1, if_pos (natLt hi), if_pos (nat0 i), wsucc hi hI, wpred (show 0 < i by omega) (by omega), eN, Option.bind_some, if_true]
          exact ev_pos (by omega) (ev_pos (by omega) (ev_pos (by omega) (ev_neg hl (Ev.now _))))
    · refine ⟨false, ev_succ ?_, by simp [af_no hi (show ¬ gI I i from fun q => hn q.1)]⟩
      rw [Bool.not_eq_true] at hn
      rw [hn] at eN
      simp only [impl_BookRight.l1, if_pos (natLt hi), if_pos (nat0 i), eN, Option.bind_some, Bool.false_eq_true, if_false]
      exact Ev.now _
def zL (L : List S67) : Prop := ∀ j : Nat, j < L.length → (rd_T67 L (j : Int)).f0.f0.size ≤ 140737488351232 ∧ (rd_T67 L (j : Int)).f0.f1.size ≤ 140737488351232
theorem and_tt {a b : Bool} : (a && b) = true ↔ a = true ∧ b = true := by cases a <;> cases b <;> simp
theorem spec_lines (L : List S67) (I : List ByteArray) (hL : L.length ≤ 140737488351232) (hz : zL L) :
    ∀ (d i : Nat) (s : Int), L.length - i = d → ∃ b, Ev (fun k => spec_BookRight.l0 k s (i : Int) L I) b ∧ (b = true ↔ allFrom (gL L) i L.length ∧ sumI L d i s = 0) := by
  intro d
  induction d with
  | zero =>
    intro i s hd
    have ha := af_end (P := gL L) (show L.length ≤ i by omega)
    refine ⟨s == 0, ev_succ ?_, ?_⟩
    · simp only [spec_BookRight.l0, if_neg (natNotLt (show ¬ i < L.length by omega))]; exact Ev.now _
    · rw [beq_iff_eq]; exact ⟨fun q => ⟨ha, q⟩, fun q => q.2⟩
  | succ d ih =>
    intro i s hd
    have hi : i < L.length := by omega
    have hzi := hz i hi
    have eN := names_ev _ _ hzi.1 hzi.2
    obtain ⟨b, e, hb⟩ := ih (i + 1) (wrap64 (s + (rd_T67 L (i : Int)).f1)) (by omega)
    by_cases hn : (nameF (rd_T67 L (i : Int)).f0.f0 && nameF (rd_T67 L (i : Int)).f0.f1) = true
    · have hnn := and_tt.1 hn
      rw [hn] at eN
      by_cases hm : mr (rd_T67 L (i : Int)).f1 = true
      · by_cases h0 : i = 0
        · refine ⟨b, ev_succ ?_, hb.trans (and_congr (af_step ⟨hnn.1, hnn.2, hm, fun q => by omega⟩) Iff.rfl)⟩
          simp only [spec_BookRight.l0, if_pos (natLt hi), if_pos (nat0 i), wsucc hi hL, right_is, hm]
          refine Ev.bind eN ?_
          simp only [if_true, Option.bind_some]
          exact ev_neg (by omega) e
        · by_cases hl : lessB (rd_T67 L (i - 1 : Nat)).f0.f0 (rd_T67 L (i - 1 : Nat)).f0.f1 (rd_T67 L i).f0.f0 (rd_T67 L i).f0.f1 = true
          · refine ⟨b, ev_succ ?_, hb.trans (and_congr (af_step ⟨hnn.1, hnn.2, hm, fun _ => hl⟩) Iff.rfl)⟩
            simp only [spec_BookRight.l0, if_pos (natLt hi), if_pos (nat0 i), wsucc hi hL, wpred (show 0 < i by omega) (by omega), right_is, hm, spec_less, hl]
            refine Ev.bind eN ?_
            simp only [if_true, Option.bind_some]
            exact ev_pos (by omega) (ev_pos (by omega) (ev_pos (by omega) e))
          · refine ⟨false, ev_succ ?_, by simp [af_no hi (show ¬ gL L i from fun q => hl (q.2.2.2 (by omega)))]⟩
            rw [Bool.not_eq_true] at hl
            simp only [spec_BookRight.l0, if_pos (natLt hi), if_pos (nat0 i), wsucc hi hL, wpred (show 0 < i by omega) (by omega), right_is, hm, spec_less, hl]
            refine Ev.bind eN ?_
            simp only [if_true, Option.bind_some, Bool.false_eq_true, if_false]
            exact ev_pos (by omega) (ev_pos (by omega) (ev_pos (by omega) (Ev.now _)))
      · refine ⟨false, ev_succ ?_, by simp [af_no hi (show ¬ gL L i from fun q => hm q.2.2.1)]⟩
        rw [Bool.not_eq_true] at hm
        simp only [spec_BookRight.l0, if_pos (natLt hi), if_pos (nat0 i), right_is, hm]
        refine Ev.bind eN ?_
        simp only [if_true, Option.bind_some, Bool.false_eq_true, if_false]; exact Ev.now _
    · refine ⟨false, ev_succ ?_, by simp [af_no hi (show ¬ gL L i from fun q => hn (and_tt.2 ⟨q.1, q.2.1⟩))]⟩
      rw [Bool.not_eq_true] at hn
      rw [hn] at eN
      simp only [spec_BookRight.l0, if_pos (natLt hi), if_pos (nat0 i)]
      refine Ev.bind eN ?_
      simp only [Bool.false_eq_true, if_false]; exact Ev.now _
theorem impl_lines (L : List S67) (I : List ByteArray) (hL : L.length ≤ 140737488351232) (hz : zL L) (hI : I.length ≤ 140737488351232) (hzI : ∀ j : Nat, j < I.length → (rdOf ByteArray.empty I (j : Int)).size ≤ 140737488351232) :
    ∀ (d i : Nat) (s : Int), L.length - i = d → ∃ b, Ev (fun k => impl_BookRight.l0 k s L (L.length : Int) (i : Int) L I) b ∧ (b = true ↔ allFrom (fun j => gL L j ∧ j < 60) i L.length ∧ allFrom (gI I) 0 I.length ∧ sumI L d i s = 0 ∧ I.length ≤ 100) := by
  intro d
  induction d with
  | zero =>
    intro i s hd
    have ha := af_end (P := fun j => gL L j ∧ j < 60) (show L.length ≤ i by omega)
    obtain ⟨b, e, hb⟩ := impl_ids L I s hI hzI I.length 0 (by omega)
    refine ⟨b, ev_succ ?_, hb.trans ⟨fun q => ⟨ha, q⟩, fun q => q.2⟩⟩
    simp only [impl_BookRight.l0, if_neg (natNotLt (show ¬ i < L.length by omega))]; exact e
  | succ d ih =>
    intro i s hd
    have hi : i < L.length := by omega
    have hzi := hz i hi
    have eN := spot_right _ _ hzi.1 hzi.2
    obtain ⟨b, e, hb⟩ := ih (i + 1) (wrap64 (s + (rd_T67 L (i : Int)).f1)) (by omega)
    by_cases hn : (nameF (rd_T67 L (i : Int)).f0.f0 && nameF (rd_T67 L (i : Int)).f0.f1) = true
    · have hnn := and_tt.1 hn
      rw [hn] at eN
      by_cases hm : mr (rd_T67 L (i : Int)).f1 = true
      · by_cases h0 : i = 0
        · refine ⟨b, ev_succ ?_, hb.trans (and_congr (af_step (P := fun j => gL L j ∧ j < 60) ⟨⟨hnn.1, hnn.2, hm, fun q => by omega⟩, by omega⟩) Iff.rfl)⟩
          simp only [impl_BookRight.l0, if_pos (natLt hi), if_pos (nat0 i), wsucc hi hL, right_same, right_is, hm, eN, Option.bind_some, if_true]
          exact ev_neg (by omega) (ev_neg (by omega) e)
        · obtain ⟨r, er, hr⟩ := order_ev (rd_T67 L (i - 1 : Nat)).f0.f0 (rd_T67 L (i - 1 : Nat)).f0.f1 (rd_T67 L i).f0.f0 (rd_T67 L i).f0.f1
          by_cases hl : lessB (rd_T67 L (i - 1 : Nat)).f0.f0 (rd_T67 L (i - 1 : Nat)).f0.f1 (rd_T67 L i).f0.f0 (rd_T67 L i).f0.f1 = true
          · have hr' : ¬ r ≥ 0 := fun q => by rw [hr.1 q] at hl; cases hl
            by_cases h60 : i < 60
            · refine ⟨b, ev_succ ?_, hb.trans (and_congr (af_step (P := fun j => gL L j ∧ j < 60) ⟨⟨hnn.1, hnn.2, hm, fun _ => hl⟩, h60⟩) Iff.rfl)⟩
              simp only [impl_BookRight.l0, if_pos (natLt hi), if_pos (nat0 i), wsucc hi hL, wpred (show 0 < i by omega) (by omega), right_same, right_is, hm, eN, Option.bind_some, if_true]
              exact ev_pos (by omega) (ev_pos (by omega) (ev_pos (by omega) (Ev.bind er (ev_neg hr' (ev_neg (by omega) e)))))
            · refine ⟨false, ev_succ ?_, by simp [af_no (P := fun j => gL L j ∧ j < 60) hi (fun q => h60 q.2)]⟩
              simp only [impl_BookRight.l0, if_pos (natLt hi), if_pos (nat0 i), wsucc hi hL, wpred (show 0 < i by omega) (by omega), right_same, right_is, hm, eN, Option.bind_some, if_true]
              exact ev_pos (by omega) (ev_pos (by omega) (ev_pos (by omega) (Ev.bind er (ev_neg hr' (ev_pos (by omega) (Ev.now _))))))
          · refine ⟨false, ev_succ ?_, by simp [af_no (P := fun j => gL L j ∧ j < 60) hi (fun q => hl (q.1.2.2.2 (by omega)))]⟩
            rw [Bool.not_eq_true] at hl
            simp only [impl_BookRight.l0, if_pos (natLt hi), if_pos (nat0 i), wsucc hi hL, wpred (show 0 < i by omega) (by omega), right_same, right_is, hm, eN, Option.bind_some, if_true]
            exact ev_pos (by omega) (ev_pos (by omega) (ev_pos (by omega) (Ev.bind er (ev_pos (hr.2 hl) (Ev.now _)))))
      · refine ⟨false, ev_succ ?_, by simp [af_no (P := fun j => gL L j ∧ j < 60) hi (fun q => hm q.1.2.2.1)]⟩
        rw [Bool.not_eq_true] at hm
        simp only [impl_BookRight.l0, if_pos (natLt hi), if_pos (nat0 i), right_same, right_is, hm, eN, Option.bind_some, if_true, Bool.false_eq_true, if_false]
        exact Ev.now _
    · refine ⟨false, ev_succ ?_, by simp [af_no (P := fun j => gL L j ∧ j < 60) hi (fun q => hn (and_tt.2 ⟨q.1.1, q.1.2.1⟩))]⟩
      rw [Bool.not_eq_true] at hn
      rw [hn] at eN
      simp only [impl_BookRight.l0, if_pos (natLt hi), if_pos (nat0 i), eN, Option.bind_some, Bool.false_eq_true, if_false]
      exact Ev.now _
/-- The same answer of both. -/
theorem book_both3 (L : List S67) (I : List ByteArray) (hL : L.length ≤ 140737488351232) (hz : zL L) (hI : I.length ≤ 140737488351232) (hzI : ∀ j : Nat, j < I.length → (rdOf ByteArray.empty I (j : Int)).size ≤ 140737488351232) :
    ∃ b, Ev (fun k => spec_BookRight.f k L I) b ∧ Ev (fun k => impl_BookRight.f k L I) b ∧ (b = true → allFrom (fun j => gL L j ∧ j < 60) 0 L.length) := by
  obtain ⟨b2, e2, h2⟩ := impl_lines L I hL hz hI hzI L.length 0 0 (by omega)
  have e2' : Ev (fun k => impl_BookRight.f k L I) b2 := e2
  suffices h : ∃ b, Ev (fun k => spec_BookRight.f k L I) b ∧ (b = true ↔ allFrom (fun j => gL L j ∧ j < 60) 0 L.length ∧ allFrom (gI I) 0 I.length ∧ sumI L L.length 0 0 = 0 ∧ I.length ≤ 100) by
    obtain ⟨b, e, hb⟩ := h
    have : b = b2 := by rw [Bool.eq_iff_iff]; exact hb.trans h2.symm
    exact ⟨b, e, by rw [this]; exact e2', fun q => (hb.1 q).1⟩
  by_cases h60 : (L.length : Int) > 60
  · refine ⟨false, ?_, by simp [af_no (P := fun j => gL L j ∧ j < 60) (i := 60) (n := L.length) (by omega) (fun q => by omega)]; intro q; exact absurd (q 60 (by omega) (by omega)).2 (by omega)⟩
    simp only [spec_BookRight.f, if_pos h60]
    refine ev_succ ?_
    simp only [spec_BookRight.j0, if_true]; exact Ev.now _
  · by_cases h100 : (I.length : Int) > 100
    · refine ⟨false, ?_, ⟨(fun q => by cases q), fun q => by have := q.2.2.2; omega⟩⟩
      simp only [spec_BookRight.f, if_neg h60, if_pos h100]
      refine ev_succ ?_
      simp only [spec_BookRight.j0, if_true]; exact Ev.now _
    · obtain ⟨b1, e1, h1⟩ := spec_ids I hI hzI I.length 0 (by omega)
      have e1' : Ev (fun k => spec_l05Ids.f k I) b1 := e1
      cases b1 with
      | false =>
        refine ⟨false, ?_, ⟨(fun q => by cases q), fun q => h1.2 q.2.1⟩⟩
        simp only [spec_BookRight.f, if_neg h60, if_neg h100]
        refine Ev.bind e1' (ev_succ ?_)
        simp only [spec_BookRight.j0, Bool.not_false, if_true]; exact Ev.now _
      | true =>
        obtain ⟨b, e, hb⟩ := spec_lines L I hL hz L.length 0 0 (by omega)
        refine ⟨b, ?_, hb.trans ?_⟩
        · simp only [spec_BookRight.f, if_neg h60, if_neg h100]
          refine Ev.bind e1' (ev_succ ?_)
          simp only [spec_BookRight.j0, Bool.not_true, Bool.false_eq_true, if_false]; exact e
        · constructor
          · rintro ⟨p, q⟩
            exact ⟨fun j a c => ⟨p j a c, by omega⟩, h1.1 rfl, q, by omega⟩
          · rintro ⟨p, _, q, _⟩
            exact ⟨fun j a c => (p j a c).1, q⟩
theorem book_both (L : List S67) (I : List ByteArray) (hL : L.length ≤ 140737488351232) (hz : zL L) (hI : I.length ≤ 140737488351232) (hzI : ∀ j : Nat, j < I.length → (rdOf ByteArray.empty I (j : Int)).size ≤ 140737488351232) :
    ∃ b, Ev (fun k => spec_BookRight.f k L I) b ∧ Ev (fun k => impl_BookRight.f k L I) b := by
  obtain ⟨b, e1, e2, _⟩ := book_both3 L I hL hz hI hzI
  exact ⟨b, e1, e2⟩

theorem bl_irr : ∀ l : List UInt8, Op.bytesLess l l = false
  | [] => rfl
  | a :: l => by simp [Op.bytesLess, bl_irr l]
theorem bl_trans : ∀ x y z : List UInt8, Op.bytesLess x y = true → Op.bytesLess y z = true → Op.bytesLess x z = true
  | x, y, [], _, h => by cases y <;> simp [Op.bytesLess] at h
  | [], y, c :: z, _, _ => by simp [Op.bytesLess]
  | a :: x, [], c :: z, h, _ => by simp [Op.bytesLess] at h
  | a :: x, b :: y, c :: z, h, g => by
    simp only [Op.bytesLess, Bool.or_eq_true, decide_eq_true_eq, Bool.and_eq_true, beq_iff_eq] at h g ⊢
    rcases h with h | ⟨rfl, h⟩
    · rcases g with g | ⟨rfl, g⟩
      · exact .inl (UInt8.lt_trans h g)
      · exact .inl h
    · rcases g with g | ⟨rfl, g⟩
      · exact .inl g
      · exact .inr ⟨rfl, bl_trans x y z h g⟩
theorem less_iff (a0 a1 b0 b1 : ByteArray) : lessB a0 a1 b0 b1 = true ↔ Op.bytesLess a0.toList b0.toList = true ∨ (a0.toList = b0.toList ∧ Op.bytesLess a1.toList b1.toList = true) := by
  unfold lessB
  rw [Bool.or_eq_true, Bool.and_eq_true, decide_eq_true_eq]
theorem less_trans {a0 a1 b0 b1 c0 c1 : ByteArray} (h : lessB a0 a1 b0 b1 = true) (g : lessB b0 b1 c0 c1 = true) : lessB a0 a1 c0 c1 = true := by
  rw [less_iff] at h g ⊢
  rcases h with h | ⟨e, h⟩
  · rcases g with g | ⟨e', g⟩
    · exact .inl (bl_trans _ _ _ h g)
    · rw [← e']; exact .inl h
  · rcases g with g | ⟨e', g⟩
    · rw [e]; exact .inl g
    · exact .inr ⟨e.trans e', bl_trans _ _ _ h g⟩
theorem order2_ev (a0 a1 b0 b1 : ByteArray) : ∃ r, Ev (fun k => impl_Spot_order.f k a0 a1 b0 b1) r ∧ (r < 0 ↔ lessB a0 a1 b0 b1 = true) ∧ (r = 0 ↔ a0.toList = b0.toList ∧ a1.toList = b1.toList) := by
  simp only [impl_Spot_order.f, cmp_Compare_string.f, Option.bind_some]
  refine ⟨_, Ev.bind (or_ev _ _) (Ev.now _), ?_⟩
  rw [less_iff]
  by_cases h : Op.bytesLess a0.toList b0.toList = true
  · have hne : ¬ a0.toList = b0.toList := fun e => by rw [e, bl_irr] at h; cases h
    simp [h, hne]
  · by_cases q : a0.toList = b0.toList
    · rw [q] at h ⊢
      rw [if_neg h, if_pos (by simp)]
      simp only [if_true]
      by_cases h1 : Op.bytesLess a1.toList b1.toList = true
      · have hne : ¬ a1.toList = b1.toList := fun e => by rw [e, bl_irr] at h1; cases h1
        simp [h1, hne, bl_irr]
      · by_cases q1 : a1.toList = b1.toList
        · simp [q1, bl_irr]
        · simp [h1, q1, bl_irr]
    · simp [h, q]
section
variable (L : List S67) (t0 t1 : ByteArray)
def lt_at (m : Nat) : Prop := lessB (rd_T67 L (m : Int)).f0.f0 (rd_T67 L (m : Int)).f0.f1 t0 t1 = true
def eq_at (m : Nat) : Prop := (rd_T67 L (m : Int)).f0.f0.toList = t0.toList ∧ (rd_T67 L (m : Int)).f0.f1.toList = t1.toList
theorem ord_ev (m : Nat) : ∃ r, Ev (fun k => impl_Book_place.ord k (rd_T67 L (m : Int)) t0 t1) r ∧ (r < 0 ↔ lt_at L t0 t1 m) ∧ (r = 0 ↔ eq_at L t0 t1 m) := by
  obtain ⟨r, e, h⟩ := order2_ev (rd_T67 L (m : Int)).f0.f0 (rd_T67 L (m : Int)).f0.f1 t0 t1
  refine ⟨r, ?_, h⟩
  simp only [impl_Book_place.ord, impl_Book_place_1.f]
  exact Ev.bind e (Ev.now _)
theorem place_l0 (hmono : ∀ m m', m ≤ m' → m' < L.length → lt_at L t0 t1 m' → lt_at L t0 t1 m) : ∀ (d i j : Nat), j - i ≤ d → i ≤ j → j ≤ L.length → (∀ m, m < i → lt_at L t0 t1 m) → (∀ m, j ≤ m → m < L.length → ¬ lt_at L t0 t1 m) →
    ∃ (i0 : Nat) (b : Bool), Ev (fun k => impl_Book_place.l0 k L t0 t1 (i : Int) (j : Int)) ((i0 : Int), b) ∧ (b = true ↔ i0 < L.length ∧ eq_at L t0 t1 i0) ∧ i0 ≤ L.length ∧ (∀ m, m < i0 → lt_at L t0 t1 m) ∧ (∀ m, i0 ≤ m → m < L.length → ¬ lt_at L t0 t1 m) := by
  intro d
  induction d with
  | zero =>
    intro i j hd hij hj h1 h2
    have e : i = j := by omega
    subst e
    by_cases hi : i < L.length
    · obtain ⟨r, er, _, hr⟩ := ord_ev L t0 t1 i
      refine ⟨i, r == 0, ev_succ ?_, ?_, by omega, h1, h2⟩
      · simp only [impl_Book_place.l0, if_neg (Int.lt_irrefl _), if_pos (natLt hi)]
        exact Ev.bind er (Ev.now _)
      · rw [beq_iff_eq, hr]; exact ⟨fun h => ⟨hi, h⟩, fun h => h.2⟩
    · refine ⟨i, false, ev_succ ?_, ?_, by omega, h1, h2⟩
      · simp only [impl_Book_place.l0, if_neg (Int.lt_irrefl _), if_neg (natNotLt hi)]; exact Ev.now _
      · exact ⟨fun h => (by cases h), fun h => absurd h.1 hi⟩
  | succ d ih =>
    intro i j hd hij hj h1 h2
    by_cases e : i = j
    · exact ih i j (by omega) hij hj h1 h2
    · obtain ⟨r, er, hr, _⟩ := ord_ev L t0 t1 ((i + j) / 2)
      have hc : ((i : Int) + (j : Int)) / 2 = (((i + j) / 2 : Nat) : Int) := by omega
      by_cases hl : lt_at L t0 t1 ((i + j) / 2)
      · obtain ⟨i0, b, e0, hb⟩ := ih ((i + j) / 2 + 1) j (by omega) (by omega) hj (fun m hm => hmono m ((i + j) / 2) (by omega) (by omega) hl) h2
        refine ⟨i0, b, ev_succ ?_, hb⟩
        simp only [impl_Book_place.l0, if_pos (show (i : Int) < (j : Int) by omega), hc]
        refine Ev.bind er ?_
        simp only [if_pos (hr.2 hl)]
        exact e0
      · obtain ⟨i0, b, e0, hb⟩ := ih i ((i + j) / 2) (by omega) (by omega) (by omega) h1 (fun m h3 h4 hm => hl (hmono _ m h3 h4 hm))
        refine ⟨i0, b, ev_succ ?_, hb⟩
        simp only [impl_Book_place.l0, if_pos (show (i : Int) < (j : Int) by omega), hc]
        refine Ev.bind er ?_
        simp only [if_neg (fun q => hl (hr.1 q))]
        exact e0
theorem find_l0 (I : List ByteArray) (hL : L.length ≤ 140737488351232) : ∀ (d i : Nat), L.length - i = d → i ≤ L.length →
    (∃ j, i ≤ j ∧ j < L.length ∧ eq_at L t0 t1 j ∧ (∀ m, i ≤ m → m < j → ¬ eq_at L t0 t1 m) ∧ Ev (fun k => spec_l05Find.l0 k (i : Int) L I t0 t1) (j : Int)) ∨
    ((∀ m, i ≤ m → m < L.length → ¬ eq_at L t0 t1 m) ∧ Ev (fun k => spec_l05Find.l0 k (i : Int) L I t0 t1) (-1)) := by
  intro d
  induction d with
  | zero =>
    intro i hd hi
    refine .inr ⟨fun m h1 h2 => by omega, ev_succ ?_⟩
    simp only [spec_l05Find.l0, if_neg (natNotLt (show ¬ i < L.length by omega))]; exact Ev.now _
  | succ d ih =>
    intro i hd hi
    have h : i < L.length := by omega
    by_cases hq : eq_at L t0 t1 i
    · refine .inl ⟨i, Nat.le_refl _, h, hq, fun m h1 h2 => by omega, ev_succ ?_⟩
      simp only [spec_l05Find.l0, if_pos (natLt h), if_pos (nat0 i)]
      have hc : ((rd_T67 L (i : Int)).f0.f0.toList == t0.toList && (rd_T67 L (i : Int)).f0.f1.toList == t1.toList) = true := by rw [Bool.and_eq_true, beq_iff_eq, beq_iff_eq]; exact hq
      simp only [if_pos hc]
      exact Ev.now _
    · have st : ∀ {r : Int}, Ev (fun k => spec_l05Find.l0 k ((i + 1 : Nat) : Int) L I t0 t1) r → Ev (fun k => spec_l05Find.l0 k (i : Int) L I t0 t1) r := fun e => by
        refine ev_succ ?_
        simp only [spec_l05Find.l0, if_pos (natLt h), if_pos (nat0 i), i64_1 h hL]
        have hc : ¬ ((rd_T67 L (i : Int)).f0.f0.toList == t0.toList && (rd_T67 L (i : Int)).f0.f1.toList == t1.toList) = true := by rw [Bool.and_eq_true, beq_iff_eq, beq_iff_eq]; exact hq
        simp only [if_neg hc]
        exact e
      rcases ih (i + 1) (by omega) (by omega) with ⟨j, h1, h2, h3, h4, e⟩ | ⟨h1, e⟩
      · refine .inl ⟨j, by omega, h2, h3, fun m a b => ?_, st e⟩
        by_cases hm : m = i
        · subst hm; exact hq
        · exact h4 m (by omega) b
      · refine .inr ⟨fun m a b => ?_, st e⟩
        by_cases hm : m = i
        · subst hm; exact hq
        · exact h1 m (by omega) b
/-- In a book of which the lines stand in order both find the same line. -/
theorem balance_both (I : List ByteArray) (hL : L.length ≤ 140737488351232) (hg : allFrom (fun j => gL L j ∧ j < 60) 0 L.length) :
    ∃ n c : Int, Ev (fun k => (spec_l05Find.f k L I t0 t1).bind fun t134 => (if t134 < 0 then (some ((0 : Int), (8 : Int))) else (if 0 ≤ t134 then (if t134 < (L.length : Int) then (some ((rd_T67 L t134).f1, 0)) else (none)) else (none)))) (n, c) ∧
      Ev (fun k => (impl_Book_place.f k L I t0 t1).bind fun bt204 => (if bt204.2 = true then ((impl_Book_balance.f k L I t0 t1).bind fun t206 => (some (t206, 0))) else (some (0, 8)))) (n, c) := by
  have hstep : ∀ m, m + 1 < L.length → lessB (rd_T67 L (m : Int)).f0.f0 (rd_T67 L (m : Int)).f0.f1 (rd_T67 L ((m + 1 : Nat) : Int)).f0.f0 (rd_T67 L ((m + 1 : Nat) : Int)).f0.f1 = true := fun m hm =>
    (hg (m + 1) (by omega) hm).1.2.2.2 (by omega)
  have hless : ∀ (d m : Nat), m + 1 + d < L.length → lessB (rd_T67 L (m : Int)).f0.f0 (rd_T67 L (m : Int)).f0.f1 (rd_T67 L ((m + 1 + d : Nat) : Int)).f0.f0 (rd_T67 L ((m + 1 + d : Nat) : Int)).f0.f1 = true := by
    intro d
    induction d with
    | zero => intro m hm; exact hstep m hm
    | succ d ih => intro m hm; exact less_trans (ih m (by omega)) (hstep (m + 1 + d) (by omega))
  have hlt : ∀ m m', m < m' → m' < L.length → lessB (rd_T67 L (m : Int)).f0.f0 (rd_T67 L (m : Int)).f0.f1 (rd_T67 L (m' : Int)).f0.f0 (rd_T67 L (m' : Int)).f0.f1 = true := fun m m' h1 h2 => by
    have := hless (m' - m - 1) m (by omega)
    rw [show m + 1 + (m' - m - 1) = m' by omega] at this
    exact this
  have hmono : ∀ m m', m ≤ m' → m' < L.length → lt_at L t0 t1 m' → lt_at L t0 t1 m := fun m m' h1 h2 h => by
    rcases Nat.eq_or_lt_of_le h1 with e | e
    · subst e; exact h
    · exact less_trans (hlt m m' e h2) h
  have eqlt : ∀ m j, m < j → j < L.length → eq_at L t0 t1 j → lt_at L t0 t1 m := fun m j h1 h2 h => by
    have := hlt m j h1 h2
    unfold lt_at
    unfold lessB at this ⊢
    rw [h.1, h.2] at this
    exact this
  have eqnl : ∀ j, eq_at L t0 t1 j → ¬ lt_at L t0 t1 j := fun j h hl => by
    unfold lt_at at hl
    rw [less_iff, h.1, h.2, bl_irr, bl_irr] at hl
    rcases hl with hl | ⟨_, hl⟩ <;> cases hl
  obtain ⟨i0, b, ep, hb, hi0, h1, h2⟩ := place_l0 L t0 t1 hmono L.length 0 L.length (by omega) (by omega) (Nat.le_refl _) (fun m hm => by omega) (fun m hm hm' => by omega)
  have ep' : Ev (fun k => impl_Book_place.f k L I t0 t1) ((i0 : Int), b) := ep
  rcases find_l0 L t0 t1 I hL L.length 0 (by omega) (by omega) with ⟨j, _, hj, hq, _, ef⟩ | ⟨hn, ef⟩
  · have ef' : Ev (fun k => spec_l05Find.f k L I t0 t1) (j : Int) := ef
    have e : i0 = j := by
      rcases Nat.lt_trichotomy i0 j with c | c | c
      · exact absurd (eqlt i0 j c hj hq) (h2 i0 (Nat.le_refl _) (by omega))
      · exact c
      · exact absurd (h1 j c) (eqnl j hq)
    subst e
    have hbt : b = true := hb.2 ⟨hj, hq⟩
    subst hbt
    refine ⟨(rd_T67 L (i0 : Int)).f1, 0, Ev.bind ef' ?_, Ev.bind ep' ?_⟩
    · simp only [if_neg (show ¬ (i0 : Int) < 0 by omega), if_pos (nat0 i0), if_pos (natLt hj)]; exact Ev.now _
    · simp only [if_true, impl_Book_balance.f]
      refine Ev.bind (Ev.bind ep' ?_) (Ev.now _)
      simp only [if_true, if_pos (nat0 i0), if_pos (natLt hj)]; exact Ev.now _
  · have ef' : Ev (fun k => spec_l05Find.f k L I t0 t1) (-1) := ef
    have hbf : b = false := by
      cases b with
      | false => rfl
      | true => have := hb.1 rfl; exact absurd this.2 (hn i0 (by omega) this.1)
    subst hbf
    refine ⟨0, 8, Ev.bind ef' ?_, Ev.bind ep' ?_⟩
    · simp only [if_pos (show (-1 : Int) < 0 by omega)]; exact Ev.now _
    · simp only [Bool.false_eq_true, if_false]; exact Ev.now _
end
theorem FnExactBookBalance : laws_FnExactBookBalance.Pure := by
  intro l I t0 t1 hl hI ht0 ht1
  have hlm := hl.1
  have hIm := hI.1
  unfold maxLen at hlm hIm ht0 ht1
  refine Ev.rounds (g := fun k => laws_FnExactBookBalance.f k l I t0 t1) ?_
  simp only [laws_FnExactBookBalance.f, laws_szBook.f]
  obtain ⟨t, e, h2, h3⟩ := szL_ev l hl.1 (fun x hx => (hl.2 x hx).1) 1048576 (by omega) (by omega)
  have sz : ∃ u, Ev (fun k => (laws_szLineS.f k l 1048576).bind fun t108 => (if t108 < 0 then (some (-1)) else ((laws_szStringS.f k I t108).bind fun t109 => (if t109 < 0 then (some (-1)) else (some t109))))) u ∧ (0 ≤ u → l.length ≤ 1048576 ∧ I.length ≤ 1048576 ∧ (∀ x ∈ l, x.f0.f0.size + x.f0.f1.size ≤ 1048576) ∧ tot I ≤ 1048576 ∧ u ≤ 1048576) := by
    by_cases ht : t < 0
    · exact ⟨-1, Ev.bind e (by simp only [if_pos ht]; exact Ev.now _), fun q => by omega⟩
    · have h2' := h2 (by omega)
      obtain ⟨u, e2, h4⟩ := szS_ev I hI.1 hI.2 t (by omega) (by omega)
      by_cases hu : u < 0
      · exact ⟨-1, Ev.bind e (by simp only [if_neg ht]; exact Ev.bind e2 (by simp only [if_pos hu]; exact Ev.now _)), fun q => by omega⟩
      · have h4' := h4 (by omega)
        exact ⟨u, Ev.bind e (by simp only [if_neg ht]; exact Ev.bind e2 (by simp only [if_neg hu]; exact Ev.now _)), fun q => ⟨by omega, by omega, h2'.2, by omega, by omega⟩⟩
  obtain ⟨u, eu, hu⟩ := sz
  refine Ev.bind eu ?_
  by_cases hu0 : u < 0
  · simp only [if_pos hu0]; exact Ev.now _
  have hs := hu (by omega)
  simp only [if_neg hu0]
  have hsp : ∃ v, laws_szSpot.f t0 t1 u = some v := by
    unfold laws_szSpot.f
    split
    · exact ⟨_, rfl⟩
    · split <;> exact ⟨_, rfl⟩
  obtain ⟨v, ev⟩ := hsp
  simp only [ev, Option.bind_some]
  by_cases hv0 : v < 0
  · simp only [if_pos hv0]; exact Ev.now _
  simp only [if_neg hv0, laws_toSpot.f, Option.bind_some]
  have hto : Ev (fun k => laws_toBook.f k l I) (l.map cL, I) := by
    simp only [laws_toBook.f]
    exact Ev.bind (toL_ev l hs.1) (Ev.bind (toS_ev I (by omega)) (Ev.now _))
  have hzL : zL (l.map cL) := by
    intro j hj
    have hj' : j < l.length := by simpa using hj
    rw [rdLn _ j hj, List.getElem_map]
    have := hs.2.2.1 _ (List.getElem_mem hj')
    constructor
    · show l[j].f0.f0.size ≤ _
      omega
    · show l[j].f0.f1.size ≤ _
      omega
  have hzI : ∀ j : Nat, j < I.length → (rdOf ByteArray.empty I (j : Int)).size ≤ 140737488351232 := by
    intro j hj
    rw [rd_at I j hj]
    have := tot_mem I _ (List.getElem_mem hj)
    have := hs.2.2.2.1
    omega
  have hlen : (l.map cL).length ≤ 140737488351232 := by rw [List.length_map]; omega
  obtain ⟨b, e1, e2, hb⟩ := book_both3 (l.map cL) I hlen hzL (by omega) hzI
  have key : ∃ n c : Int, Ev (fun k => spec_BookBalance.f k (l.map cL) I t0 t1) (n, c) ∧ Ev (fun k => impl_BookBalance.f k (l.map cL) I t0 t1) (n, c) := by
    simp only [spec_BookBalance.f, impl_BookBalance.f]
    cases b with
    | false =>
      exact ⟨0, 1, Ev.bind e1 (by simp only [Bool.false_eq_true, if_false]; exact Ev.now _), Ev.bind e2 (by simp only [Bool.false_eq_true, if_false]; exact Ev.now _)⟩
    | true =>
      obtain ⟨n, c, q1, q2⟩ := balance_both (l.map cL) t0 t1 I hlen (hb rfl)
      exact ⟨n, c, Ev.bind e1 (by simp only [if_true]; exact q1), Ev.bind e2 (by simp only [if_true]; exact q2)⟩
  obtain ⟨n, c, q1, q2⟩ := key
  refine Ev.bind hto (Ev.bind q1 (Ev.bind hto (Ev.bind q2 ?_)))
  simp only [laws_eqMoneyOut.f, if_true, Option.bind_some]
  refine Ev.bind hto ?_
  refine Ev.bind (a := true) ?_ (by simp only [if_true]; exact Ev.now _)
  simp only [laws_eqBook.f]
  refine Ev.bind (eqL_ev _ (by rw [List.length_map]; omega)) ?_
  simp only [if_true]
  refine Ev.bind (eqS_ev I (by omega)) ?_
  simp only [if_true]; exact Ev.now _

end Go.Proofs.YtlhefhcdlgkngaaDoor.Pure
