/- At every row of legs the program's LegsBack is the reference's LegsBack: the legs from behind, each turned, where they are right, and none where not; the answer is the call's own. The row lists tables of Go's library; the card ties them. -/
import Derived.Test.YtopeaemfnlcecaaDoorPFnExactLegsBackx6
import Derived.Test.YtopeaemfnlcecaaDoorQLib
import Derived.Test.YtopeaemfnlcecaaDoorQLoops
namespace Go.Proofs.YtopeaemfnlcecaaDoor.Pure
set_option linter.unusedSimpArgs false
set_option linter.unusedVariables false
open Go.RowKit Go.Proofs.YtopeaemfnlcecaaDoor.PFnExactLegsBack Go.Proofs.YtopeaemfnlcecaaDoorW.PrintWords Go.Proofs.YtopeaemfnlcecaaDoorW.PrintLast Go.Proofs.YtopeaemfnlcecaaDoorW.PrintMore
open Go.Proofs.YtopeaemfnlcecaaDoor.Q
def lowC (c : UInt8) : Bool := decide (97 ≤ c.toNat) && decide (c.toNat ≤ 122)
def tailC (c : UInt8) : Bool := lowC c || (decide (48 ≤ c.toNat) && decide (c.toNat ≤ 57)) || decide (c.toNat = 95)
/-- Is it a name, but for how many bytes it has? -/
def wordF : List UInt8 → Bool
  | [] => false
  | c :: r => lowC c && r.all tailC
theorem bt_data (s : ByteArray) (i : Nat) (h : i < s.size) : bt s (i : Int) = ((s.data.toList[i]'(by rw [Array.length_toList]; exact h)).toNat : Int) := by
  unfold bt
  rw [Int.toNat_natCast, dif_pos h]
  rfl
theorem sname_l0 (a : ByteArray) (hs : a.size ≤ 140737488351232) : ∀ (d i : Nat), a.size - i = d → 1 ≤ i → Ev (fun k => spec_NameRight.l0 k a (i : Int)) ((a.data.toList.drop i).all tailC) := by
  have hlen : a.data.toList.length = a.size := by rw [Array.length_toList]; rfl
  intro d
  induction d with
  | zero =>
    intro i hd hi
    refine ev_succ ?_
    rw [List.drop_eq_nil_of_le (by omega)]
    simp only [spec_NameRight.l0, if_neg (natNotLt (show ¬ i < a.size by omega))]
    exact Ev.now _
  | succ d ih =>
    intro i hd hi
    have hlt : i < a.size := by omega
    refine ev_succ ?_
    have hz : ¬ (i : Int) = 0 := by omega
    have e := ih (i + 1) (by omega) (by omega)
    simp only [spec_NameRight.l0, if_pos (natLt hlt), if_pos (nat0 i), if_neg hz, wsucc hlt hs, bt_data a i hlt]
    rw [List.drop_eq_getElem_cons (show i < a.data.toList.length by omega), List.all_cons]
    generalize hc : a.data.toList[i]'(by omega) = c
    rw [show tailC c = (decide (97 ≤ c.toNat) && decide (c.toNat ≤ 122) || decide (48 ≤ c.toNat) && decide (c.toNat ≤ 57) || decide (c.toNat = 95)) from rfl]
    by_cases h1 : ((c.toNat : Int) ≥ 97)
    · refine ev_pos h1 ?_
      by_cases h2 : ((c.toNat : Int) ≤ 122)
      · refine ev_pos h2 ?_
        rw [decide_eq_true (show 97 ≤ c.toNat by omega), decide_eq_true (show c.toNat ≤ 122 by omega)]
        simpa using e
      · refine ev_neg h2 ?_
        rw [decide_eq_false (show ¬ c.toNat ≤ 122 by omega), decide_eq_false (show ¬ c.toNat ≤ 57 by omega), decide_eq_false (show ¬ c.toNat = 95 by omega)]
        refine ev_pos (show (c.toNat : Int) ≥ 48 by omega) (ev_neg (show ¬ (c.toNat : Int) ≤ 57 by omega) (ev_neg (show ¬ (c.toNat : Int) = 95 by omega) ?_))
        simp only [Bool.and_false, Bool.or_false, Bool.false_and]
        exact Ev.now _
    · refine ev_neg h1 ?_
      rw [decide_eq_false (show ¬ 97 ≤ c.toNat by omega)]
      by_cases h3 : ((c.toNat : Int) ≥ 48)
      · refine ev_pos h3 ?_
        by_cases h4 : ((c.toNat : Int) ≤ 57)
        · refine ev_pos h4 ?_
          rw [decide_eq_true (show 48 ≤ c.toNat by omega), decide_eq_true (show c.toNat ≤ 57 by omega)]
          simpa using e
        · refine ev_neg h4 ?_
          by_cases h5 : ((c.toNat : Int) = 95)
          · refine ev_pos h5 ?_
            rw [decide_eq_true (show c.toNat = 95 by omega)]
            simpa using e
          · refine ev_neg h5 ?_
            rw [decide_eq_false (show ¬ c.toNat ≤ 57 by omega), decide_eq_false (show ¬ c.toNat = 95 by omega)]
            simp only [Bool.and_false, Bool.or_false, Bool.false_and]
            exact Ev.now _
      · refine ev_neg h3 (ev_neg (show ¬ (c.toNat : Int) = 95 by omega) ?_)
        rw [decide_eq_false (show ¬ 48 ≤ c.toNat by omega), decide_eq_false (show ¬ c.toNat = 95 by omega)]
        simp only [Bool.and_false, Bool.or_false, Bool.false_and]
        exact Ev.now _
/-- A name. -/
def nameF (a : ByteArray) : Bool := decide (a.size ≤ 20) && wordF a.data.toList
theorem sname_ev (a : ByteArray) (hs : a.size ≤ 140737488351232) : Ev (fun k => spec_NameRight.f k a) (nameF a) := by
  have hlen : a.data.toList.length = a.size := by rw [Array.length_toList]; rfl
  by_cases h1 : (a.size : Int) < 1
  · simp only [spec_NameRight.f, if_pos h1]
    refine ev_succ ?_
    simp only [spec_NameRight.j0, if_true]
    have : a.data.toList = [] := List.eq_nil_of_length_eq_zero (by omega)
    unfold nameF
    rw [this]
    simp only [wordF, Bool.and_false]
    exact Ev.now _
  · simp only [spec_NameRight.f, if_neg h1]
    refine ev_succ ?_
    by_cases h2 : (a.size : Int) > 20
    · simp only [decide_eq_true h2, spec_NameRight.j0, if_true]
      unfold nameF
      rw [decide_eq_false (show ¬ a.size ≤ 20 by omega)]
      simp only [Bool.false_and]
      exact Ev.now _
    · simp only [decide_eq_false h2, spec_NameRight.j0, Bool.false_eq_true, if_false]
      unfold nameF
      rw [decide_eq_true (show a.size ≤ 20 by omega), Bool.true_and]
      have hlt : 0 < a.size := by omega
      refine ev_succ ?_
      have e := sname_l0 a hs (a.size - 1) 1 (by omega) (by omega)
      have hb := bt_data a 0 hlt
      have hw := wsucc hlt hs
      rw [show ((0 : Nat) : Int) = 0 from rfl] at hb hw
      simp only [spec_NameRight.l0, if_pos (show (0 : Int) < (a.size : Int) by omega), if_pos (show (0 : Int) ≤ 0 by omega), if_true, hw, hb]
      obtain ⟨c, r, hcr⟩ : ∃ c r, a.data.toList = c :: r := by
        cases hq : a.data.toList with
        | nil => rw [hq] at hlen; simp at hlen; omega
        | cons c r => exact ⟨c, r, rfl⟩
      have hc0 : a.data.toList[0]'(by omega) = c := by simp [hcr]
      rw [hc0]
      rw [hcr, List.drop_succ_cons, List.drop_zero] at e
      rw [hcr]
      simp only [wordF, lowC]
      by_cases h3 : ((c.toNat : Int) ≥ 97)
      · refine ev_pos h3 ?_
        by_cases h4 : ((c.toNat : Int) ≤ 122)
        · refine ev_pos h4 ?_
          rw [decide_eq_true (show 97 ≤ c.toNat by omega), decide_eq_true (show c.toNat ≤ 122 by omega)]
          simpa using e
        · refine ev_neg h4 ?_
          rw [decide_eq_false (show ¬ c.toNat ≤ 122 by omega)]
          simp only [Bool.and_false, Bool.false_and]
          exact Ev.now _
      · refine ev_neg h3 ?_
        rw [decide_eq_false (show ¬ 97 ≤ c.toNat by omega)]
        simp only [Bool.false_and]
        exact Ev.now _
theorem dropWhile_nil {α : Type} (p : α → Bool) : ∀ l : List α, l.dropWhile p = [] ↔ l.all p = true
  | [] => by simp
  | a :: l => by
    rw [List.dropWhile_cons, List.all_cons]
    cases h : p a with
    | true => simpa using dropWhile_nil p l
    | false => simp
theorem trim_nil (l cs : List UInt8) : Lib.trimS l cs = [] ↔ l.all (cs.contains ·) = true := by
  unfold Lib.trimS Lib.trimLeftS Lib.trimRightS
  rw [dropWhile_nil, List.all_reverse]
  constructor
  · intro h
    have e := List.takeWhile_append_dropWhile (p := (cs.contains ·)) (l := l.reverse)
    rw [← List.all_reverse, ← e, List.all_append, h, Bool.and_true]
    exact List.all_takeWhile
  · intro h
    rw [List.all_eq_true] at h ⊢
    intro x hx
    exact h x (List.mem_reverse.1 ((List.dropWhile_sublist _).mem hx))
theorem low_cs : ∀ n : Fin 256, ([97, 98, 99, 100, 101, 102, 103, 104, 105, 106, 107, 108, 109, 110, 111, 112, 113, 114, 115, 116, 117, 118, 119, 120, 121, 122] : List UInt8).contains (UInt8.ofNat n.val) = lowC (UInt8.ofNat n.val) := by decide +kernel
theorem tail_cs : ∀ n : Fin 256, ([97, 98, 99, 100, 101, 102, 103, 104, 105, 106, 107, 108, 109, 110, 111, 112, 113, 114, 115, 116, 117, 118, 119, 120, 121, 122, 48, 49, 50, 51, 52, 53, 54, 55, 56, 57, 95] : List UInt8).contains (UInt8.ofNat n.val) = tailC (UInt8.ofNat n.val) := by decide +kernel
theorem low_c (c : UInt8) : ([97, 98, 99, 100, 101, 102, 103, 104, 105, 106, 107, 108, 109, 110, 111, 112, 113, 114, 115, 116, 117, 118, 119, 120, 121, 122] : List UInt8).contains c = lowC c := by
  have := low_cs ⟨c.toNat, c.toNat_lt⟩
  simpa using this
theorem tail_c (c : UInt8) : ([97, 98, 99, 100, 101, 102, 103, 104, 105, 106, 107, 108, 109, 110, 111, 112, 113, 114, 115, 116, 117, 118, 119, 120, 121, 122, 48, 49, 50, 51, 52, 53, 54, 55, 56, 57, 95] : List UInt8).contains c = tailC c := by
  have := tail_cs ⟨c.toNat, c.toNat_lt⟩
  simpa using this
theorem all_congr {l : List UInt8} {p q : UInt8 → Bool} (h : ∀ c, p c = q c) : l.all p = l.all q := by
  rw [show p = q from funext h]
theorem toArr_nil (l : List UInt8) : ((⟨l.toArray⟩ : ByteArray).toList = ([] : List UInt8)) ↔ l = [] := by rw [Lib.toList_data]
theorem implWord (a : ByteArray) (hs : a.size ≤ 140737488351232) : impl_isWord.f a = some (wordF a.data.toList) := by
  have hlen : a.data.toList.length = a.size := by rw [Array.length_toList]; rfl
  unfold impl_isWord.f
  rw [Lib.toList_data]
  cases hq : a.data.toList with
  | nil => rw [if_pos rfl]; rfl
  | cons c r =>
    have hsz : 1 ≤ a.size := by rw [← hlen, hq]; simp
    rw [if_neg (by simp), if_pos (by decide), if_pos (by omega)]
    have e1 : (a.extract 0 1).data.toList = [c] := by
      rw [Lib.extract_data, hq]; rfl
    have se : (a.extract 0 1).size ≤ 9223372036854775807 := by
      have : (a.extract 0 1).data.toList.length = (a.extract 0 1).size := by rw [Array.length_toList]; rfl
      rw [← this, e1]; simp
    unfold strings_Trim.f
    rw [if_pos ⟨se, by decide +kernel, by decide +kernel⟩, Option.bind_some, e1]
    have t1 : (Lib.trimS [c] ([97, 98, 99, 100, 101, 102, 103, 104, 105, 106, 107, 108, 109, 110, 111, 112, 113, 114, 115, 116, 117, 118, 119, 120, 121, 122] : List UInt8) = []) ↔ lowC c = true := by
      rw [trim_nil, List.all_cons, low_c]; simp
    have t2 : (Lib.trimS (c :: r) ([97, 98, 99, 100, 101, 102, 103, 104, 105, 106, 107, 108, 109, 110, 111, 112, 113, 114, 115, 116, 117, 118, 119, 120, 121, 122, 48, 49, 50, 51, 52, 53, 54, 55, 56, 57, 95] : List UInt8) = []) ↔ (c :: r).all tailC = true := by
      rw [trim_nil, all_congr tail_c]
    by_cases h1 : lowC c = true
    · rw [if_pos ((toArr_nil _).2 (t1.2 h1)), if_pos ⟨by omega, by decide +kernel, by decide +kernel⟩, Option.bind_some, hq]
      have hw : wordF (c :: r) = (c :: r).all tailC := by
        simp only [wordF, List.all_cons, h1, Bool.true_and]
        simp [tailC, h1]
      rw [hw]
      congr 1
      rw [Bool.eq_iff_iff, beq_iff_eq, toArr_nil]
      exact t2
    · rw [if_neg (fun h => h1 (t1.1 ((toArr_nil _).1 h)))]
      simp only [wordF, Bool.not_eq_true] at h1 ⊢
      rw [h1]; rfl
theorem implName (a : ByteArray) (hs : a.size ≤ 140737488351232) : impl_NameRight.f a = some (nameF a) := by
  unfold impl_NameRight.f nameF
  by_cases h : (a.size : Int) ≤ 20
  · rw [if_pos h, implWord a hs, Option.bind_some, decide_eq_true (show a.size ≤ 20 by omega), Bool.true_and]
  · rw [if_neg h, decide_eq_false (show ¬ a.size ≤ 20 by omega), Bool.false_and]

theorem rdLg (l : List S38) (i : Nat) (h : i < l.length) : rd_T38 l (i : Int) = l[i] := by
  unfold rd_T38; rw [Int.toNat_natCast, List.getD_eq_getElem?_getD, List.getElem?_eq_getElem h]; rfl
theorem rdLgl (l : List S34) (i : Nat) (h : i < l.length) : rd_T34 l (i : Int) = l[i] := by
  unfold rd_T34; rw [Int.toNat_natCast, List.getD_eq_getElem?_getD, List.getElem?_eq_getElem h]; rfl
def cG (x : S34) : S38 := ⟨⟨x.f0.f0, x.f0.f1⟩, ⟨x.f1.f0, x.f1.f1⟩, x.f2⟩
def szG (x : S34) : Nat := x.f0.f0.size + x.f0.f1.size + (x.f1.f0.size + x.f1.f1.size)
theorem szSpot_is (a b : ByteArray) (v : Int) (ha : a.size ≤ 9223372036854775807) (hb : b.size ≤ 9223372036854775807) (h0 : 0 ≤ v) (h1 : v ≤ 1048576) :
    laws_szSpot.f a b v = some (if v - ((a.size + b.size : Nat) : Int) < 0 then -1 else v - ((a.size + b.size : Nat) : Int)) := by
  have w1 : wrap64 (v - (a.size : Int)) = v - (a.size : Int) := w64 (by omega) (by omega)
  simp only [laws_szSpot.f, w1]
  by_cases p : v - (a.size : Int) < 0
  · rw [if_pos p, if_pos (by omega)]
  · have w2 : wrap64 (v - (a.size : Int) - (b.size : Int)) = v - (a.size : Int) - (b.size : Int) := w64 (by omega) (by omega)
    rw [if_neg p, w2]
    by_cases q : v - (a.size : Int) - (b.size : Int) < 0
    · rw [if_pos q, if_pos (by omega)]
    · rw [if_neg q, if_neg (by omega)]
      congr 1; omega
theorem szLeg_is (x : S34) (v : Int) (h : (x.f0.f0.size ≤ 9223372036854775807 ∧ x.f0.f1.size ≤ 9223372036854775807) ∧ (x.f1.f0.size ≤ 9223372036854775807 ∧ x.f1.f1.size ≤ 9223372036854775807)) (h0 : 0 ≤ v) (h1 : v ≤ 1048576) :
    laws_szLeg.f x.f0.f0 x.f0.f1 x.f1.f0 x.f1.f1 x.f2 v = some (if v - (szG x : Int) < 0 then -1 else v - (szG x : Int)) := by
  unfold szG
  simp only [laws_szLeg.f, szSpot_is _ _ v h.1.1 h.1.2 h0 h1, Option.bind_some]
  by_cases p : v - ((x.f0.f0.size + x.f0.f1.size : Nat) : Int) < 0
  · rw [if_pos p, if_pos (by omega), if_pos (by omega)]
  · rw [if_neg p, if_neg (by omega), szSpot_is _ _ _ h.2.1 h.2.2 (by omega) (by omega), Option.bind_some]
    by_cases q : v - ((x.f0.f0.size + x.f0.f1.size : Nat) : Int) - ((x.f1.f0.size + x.f1.f1.size : Nat) : Int) < 0
    · rw [if_pos q, if_pos (by omega), if_pos (by omega)]
    · rw [if_neg q, if_neg (by omega), if_neg (by omega)]
      congr 1; omega
theorem sum_mem {α : Type} (sz : α → Nat) : ∀ (l : List α) (x : α), x ∈ l → sz x ≤ (l.map sz).sum
  | [], _, h => by cases h
  | y :: l, x, h => by
    rw [List.map_cons, List.sum_cons]
    rcases List.mem_cons.1 h with q | q
    · subst q; omega
    · have := sum_mem sz l x q; omega
theorem szG_ev (l : List S34) (hm : l.length ≤ maxLen) (hx : ∀ x ∈ l, ((x.f0.f0.size ≤ maxLen ∧ x.f0.f1.size ≤ maxLen) ∧ (x.f1.f0.size ≤ maxLen ∧ x.f1.f1.size ≤ maxLen))) :
    ∃ t, Ev (fun k => laws_szLegS.f k l 1048576) t ∧ (0 ≤ t → l.length ≤ 1048576 ∧ ∀ x ∈ l, szG x ≤ 1048576) := by
  unfold maxLen at hm
  have hw : wrap64 (1048576 - (l.length : Int)) = 1048576 - (l.length : Int) := w64 (by omega) (by omega)
  by_cases hn : 1048576 - (l.length : Int) < 0
  · refine ⟨-1, ?_, fun h => absurd h (by decide)⟩
    simp only [laws_szLegS.f, hw, if_pos hn]; exact Ev.now _
  · obtain ⟨t, e, h2, h3⟩ := sz_ev szG laws_szLegS.l0 l (by omega)
      (fun k i v hi a b c => by
        have hs := hx _ (List.getElem_mem hi)
        unfold maxLen at hs
        have c' : ¬ v - (szG l[i] : Int) < 0 := by omega
        simp only [laws_szLegS.l0, if_pos (natLt hi), if_pos (nat0 i), rdLgl l i hi, szLeg_is _ v hs a b, Option.bind_some, if_neg c', i64_1 hi (show l.length ≤ 140737488351232 by omega)])
      (fun k i v hi a b c => by
        have hs := hx _ (List.getElem_mem hi)
        unfold maxLen at hs
        simp only [laws_szLegS.l0, if_pos (natLt hi), if_pos (nat0 i), rdLgl l i hi, szLeg_is _ v hs a b, Option.bind_some, if_pos c]; rfl)
      (fun k v => by simp only [laws_szLegS.l0, if_neg (natNotLt (Nat.lt_irrefl _))]) (1048576 - l.length) (by omega) (by omega)
    refine ⟨t, ?_, fun h => ?_⟩
    · simp only [laws_szLegS.f, hw, if_neg hn]; exact e
    · have q := h2 h
      refine ⟨by omega, fun x hx => ?_⟩
      have := sum_mem szG l x hx
      omega
theorem toG_ev (l : List S34) (hl : l.length ≤ 1048576) : Ev (fun k => laws_toLegS.f k l) (l.map cG) := by
  simp only [laws_toLegS.f, if_pos (nat0 l.length), Int.toNat_natCast, if_pos (show l.length ≤ 3909374676536 by omega)]
  refine map_ev cG laws_toLegS.l0 1048576 (fun k x y i hB hx hy => ?_) (fun k x y => by simp only [laws_toLegS.l0, if_neg (natNotLt (Nat.lt_irrefl _))]) l _ (List.length_replicate) hl
  simp only [laws_toLegS.l0, if_pos (natLt hx), if_pos (nat0 i), laws_toLeg.f, laws_toSpot.f, Option.bind_some, if_pos (natLt hy), rdLgl x i hx, i64_1 hx (show x.length ≤ 140737488351232 by omega), Int.toNat_natCast]; rfl
theorem eqG_ev (l : List S38) (hl : l.length ≤ 140737488351232) : Ev (fun k => laws_eqLegS.f k l l) true := by
  simp only [laws_eqLegS.f, if_true]
  exact all_ev true (fun k l => laws_eqLegS.l0 k l l) l (fun k i hi => by simp only [laws_eqLegS.l0, if_pos (natLt hi), if_pos (nat0 i), laws_eqLeg.f, laws_eqSpot.f, if_true, Option.bind_some, i64_1 hi hl]) (fun k => by simp only [laws_eqLegS.l0, if_neg (natNotLt (Nat.lt_irrefl _))])
/-- All from a place on. -/
def allFrom (P : Nat → Prop) (i n : Nat) : Prop := ∀ j, i ≤ j → j < n → P j
theorem af_step {P : Nat → Prop} {i n : Nat} (h : P i) : allFrom P (i + 1) n ↔ allFrom P i n := by
  constructor
  · intro q j h1 h2
    by_cases e : j = i
    · subst e; exact h
    · exact q j (by omega) h2
  · intro q j h1 h2; exact q j (by omega) h2
theorem af_no {P : Nat → Prop} {i n : Nat} (hi : i < n) (h : ¬ P i) : ¬ allFrom P i n := fun q => h (q i (Nat.le_refl _) hi)
theorem af_end {P : Nat → Prop} {i n : Nat} (hi : n ≤ i) : allFrom P i n := fun j h1 h2 => by omega
theorem names_ev (a b : ByteArray) (ha : a.size ≤ 140737488351232) (hb : b.size ≤ 140737488351232) : Ev (fun k => spec_l05Names.f k a b) (nameF a && nameF b) := by
  simp only [spec_l05Names.f]
  refine Ev.bind (sname_ev a ha) ?_
  cases nameF a with
  | true => simp only [if_true, Bool.true_and]; exact Ev.bind (sname_ev b hb) (Ev.now _)
  | false => simp only [Bool.false_eq_true, if_false, Bool.false_and]; exact Ev.now _
theorem spot_right (a b : ByteArray) (ha : a.size ≤ 140737488351232) (hb : b.size ≤ 140737488351232) : impl_Spot_isRight.f a b = some (nameF a && nameF b) := by
  simp only [impl_Spot_isRight.f, implName a ha, implName b hb, Option.bind_some]
  cases nameF a <;> rfl
theorem and_tt {a b : Bool} : (a && b) = true ↔ a = true ∧ b = true := by cases a <;> cases b <;> simp
/-- A leg that is right. -/
def legR (x : S38) : Bool := (nameF x.f0.f0 && nameF x.f0.f1) && ((nameF x.f1.f0 && nameF x.f1.f1) && decide (0 ≤ x.f2 ∧ x.f2 ≤ 1000000000000))
def zG (x : S38) : Prop := (x.f0.f0.size ≤ 140737488351232 ∧ x.f0.f1.size ≤ 140737488351232) ∧ (x.f1.f0.size ≤ 140737488351232 ∧ x.f1.f1.size ≤ 140737488351232)
theorem leg_is (x : S38) (h : zG x) : impl_LegsRight.leg x = some (!legR x) := by
  unfold impl_LegsRight.leg legR
  simp only [impl_LegsRight_1.f, spot_right _ _ h.1.1 h.1.2, spot_right _ _ h.2.1 h.2.2, Option.bind_some]
  by_cases p : (nameF x.f0.f0 && nameF x.f0.f1) = true
  · rw [if_pos p, p, Bool.true_and]
    by_cases q : (nameF x.f1.f0 && nameF x.f1.f1) = true
    · rw [if_pos q, q, Bool.true_and]
      unfold impl_in.f
      by_cases r : 0 ≤ x.f2
      · rw [if_pos r, Option.bind_some]; congr 2; simp [r]
      · rw [if_neg r, Option.bind_some]; congr 1; simp [r]
    · rw [if_neg q]; rw [Bool.not_eq_true] at q; rw [q]; rfl
  · rw [if_neg p]; rw [Bool.not_eq_true] at p; rw [p]; rfl
theorem specG (L : List S38) (hL : L.length ≤ 140737488351232) (hz : ∀ x ∈ L, zG x) :
    ∀ (d i : Nat), L.length - i = d → Ev (fun k => spec_LegsRight.l0 k L (i : Int)) ((L.drop i).all legR) := by
  intro d
  induction d with
  | zero =>
    intro i hd
    refine ev_succ ?_
    rw [List.drop_eq_nil_of_le (by omega)]
    simp only [spec_LegsRight.l0, if_neg (natNotLt (show ¬ i < L.length by omega))]; exact Ev.now _
  | succ d ih =>
    intro i hd
    have hi : i < L.length := by omega
    have h := hz _ (List.getElem_mem hi)
    have e := ih (i + 1) (by omega)
    have e1 := names_ev _ _ h.1.1 h.1.2
    have e2 := names_ev _ _ h.2.1 h.2.2
    refine ev_succ ?_
    simp only [spec_LegsRight.l0, if_pos (natLt hi), if_pos (nat0 i), rdLg L i hi, wsucc hi hL]
    refine Ev.bind e1 ?_
    rw [List.drop_eq_getElem_cons hi, List.all_cons]
    rw [show legR L[i] = ((nameF L[i].f0.f0 && nameF L[i].f0.f1) && ((nameF L[i].f1.f0 && nameF L[i].f1.f1) && decide (0 ≤ L[i].f2 ∧ L[i].f2 ≤ 1000000000000))) from rfl]
    cases (nameF L[i].f0.f0 && nameF L[i].f0.f1) with
    | false => simp only [Bool.false_eq_true, if_false, Bool.false_and]; exact Ev.now _
    | true =>
      simp only [if_true, Bool.true_and]
      refine Ev.bind e2 ?_
      cases (nameF L[i].f1.f0 && nameF L[i].f1.f1) with
      | false => simp only [Bool.false_eq_true, if_false, Bool.false_and]; exact Ev.now _
      | true =>
        simp only [if_true, Bool.true_and]
        by_cases q : L[i].f2 < 0
        · rw [decide_eq_false (by omega), Bool.false_and]; exact ev_pos q (Ev.now _)
        · refine ev_neg q ?_
          by_cases r : L[i].f2 > 1000000000000
          · rw [decide_eq_false (by omega), Bool.false_and]; exact ev_pos r (Ev.now _)
          · rw [decide_eq_true (by omega), Bool.true_and]; exact ev_neg r e
theorem implG (L : List S38) (hz : ∀ x ∈ L, zG x) : impl_LegsRight.f L = some (if (L.length : Int) ≤ 20 then L.all legR else false) := by
  unfold impl_LegsRight.f
  by_cases h : (L.length : Int) ≤ 20
  · rw [if_pos h, if_pos h, if_pos (List.all_eq_true.2 fun x hx => by rw [leg_is x (hz x hx)]; rfl)]
    congr 1
    rw [Bool.eq_iff_iff, Bool.not_eq_true', List.any_eq_false, List.all_eq_true]
    constructor
    · intro q x hx
      have := q x hx
      rw [leg_is x (hz x hx)] at this
      simpa using this
    · intro q x hx
      rw [leg_is x (hz x hx), q x hx]; simp
  · rw [if_neg h, if_neg h]

theorem mt_l0 : ∀ (d : Nat) (n : Int) (x : ByteArray), 0 ≤ n → n ≤ 4611686018427387904 → n < 10 ^ d → x.size + d ≤ 1000 → ∃ t, Ev (fun k => laws_markText.l0 k n x) t := by
  intro d
  induction d with
  | zero =>
    intro n x h0 hb h1 h2
    have : n = 0 := by simp at h1; omega
    subst this
    refine ⟨(⟨#[109]⟩ : ByteArray) ++ x, ev_succ ?_⟩
    simp only [laws_markText.l0, if_neg (show ¬ (0 : Int) > 0 by omega)]
    exact ev_pos (show 1 + x.size ≤ 9223372036854775807 by omega) (Ev.now _)
  | succ d ih =>
    intro n x h0 hb h1 h2
    by_cases hn : n > 0
    · have hs : (strOfNums [(wrap64 (48 + (Int.tmod n 10))) % 256]).size = 1 := by simp [strOfNums, ByteArray.size]
      have hq : Int.tdiv n 10 = n / 10 := tdiv_pos h0
      have hw : wrap64 (n / 10) = n / 10 := w64 (by omega) (by omega)
      have h1' : n < 10 ^ d * 10 := by rw [← Int.pow_succ]; exact h1
      obtain ⟨t, e⟩ := ih (n / 10) (strOfNums [(wrap64 (48 + (Int.tmod n 10))) % 256] ++ x) (by omega) (by omega) (by omega) (by rw [ByteArray.size_append, hs]; omega)
      refine ⟨t, ev_succ ?_⟩
      simp only [laws_markText.l0, if_pos hn, Option.bind_some, hq, hw]
      exact ev_pos (show (strOfNums [(wrap64 (48 + (Int.tmod n 10))) % 256]).size + x.size ≤ 9223372036854775807 by omega) e
    · refine ⟨(⟨#[109]⟩ : ByteArray) ++ x, ev_succ ?_⟩
      simp only [laws_markText.l0, if_neg hn]
      exact ev_pos (show 1 + x.size ≤ 9223372036854775807 by omega) (Ev.now _)
theorem mt_ex (n : Int) (h0 : 0 ≤ n) (h1 : n ≤ 4611686018427387904) : ∃ t, Ev (fun k => laws_markText.f k n) t := by
  by_cases h : n ≤ 0
  · refine ⟨⟨#[109, 48]⟩, ?_⟩
    simp only [laws_markText.f, if_pos h]; exact Ev.now _
  · obtain ⟨t, e⟩ := mt_l0 19 n ⟨#[]⟩ h0 h1 (by omega) (by simp [ByteArray.size])
    refine ⟨t, ?_⟩
    simp only [laws_markText.f, if_neg h]; exact e
open Classical in
/-- The text of a mark. -/
noncomputable def mtF (n : Int) : ByteArray := if h : ∃ t, Ev (fun k => laws_markText.f k n) t then Classical.choose h else ByteArray.empty
theorem mt_ev (n : Int) (h0 : 0 ≤ n) (h1 : n ≤ 4611686018427387904) : Ev (fun k => laws_markText.f k n) (mtF n) := by
  have h := mt_ex n h0 h1
  unfold mtF
  rw [dif_pos h]
  exact Classical.choose_spec h

theorem rdSm (l : List Sm38) (i : Nat) (h : i < l.length) : rd_Tm38 l (i : Int) = l[i] := by
  unfold rd_Tm38; rw [Int.toNat_natCast, List.getD_eq_getElem?_getD, List.getElem?_eq_getElem h]; rfl
theorem rdSm_set (l : List Sm38) (i : Nat) (h : i < l.length) (x : Sm38) : rd_Tm38 (l.set i x) (i : Int) = x := by
  rw [rdSm _ i (by rw [List.length_set]; exact h), List.getElem_set_self]
noncomputable def mL (v : Int) : Sm38 := ⟨mtF v, mtF (v + 1), mtF (v + 2), mtF (v + 3), v + 4⟩
section
variable {v : Int} (a : 0 ≤ v) (b : v ≤ 4611686018100000000)
include a b
theorem v1 : wrap64 (v + 1) = v + 1 := w64 (by omega) (by omega)
theorem v2 : wrap64 (v + 1 + 1) = v + 2 := by rw [w64 (by omega) (by omega)]; omega
theorem v3 : wrap64 (v + 2 + 1) = v + 3 := by rw [w64 (by omega) (by omega)]; omega
theorem v4 : wrap64 (v + 3 + 1) = v + 4 := by rw [w64 (by omega) (by omega)]; omega
theorem v5 : wrap64 (v + 4 + 1) = v + ((5 : Nat) : Int) := by rw [w64 (by omega) (by omega)]; omega
theorem mts : ∃ K, ∀ k, K ≤ k → laws_markText.f k v = some (mtF v) ∧ laws_markText.f k (v + 1) = some (mtF (v + 1)) ∧ laws_markText.f k (v + 2) = some (mtF (v + 2)) ∧ laws_markText.f k (v + 3) = some (mtF (v + 3)) := by
  obtain ⟨K0, h0⟩ := mt_ev v a (by omega)
  obtain ⟨K1, h1⟩ := mt_ev (v + 1) (by omega) (by omega)
  obtain ⟨K2, h2⟩ := mt_ev (v + 2) (by omega) (by omega)
  obtain ⟨K3, h3⟩ := mt_ev (v + 3) (by omega) (by omega)
  exact ⟨K0 + K1 + K2 + K3, fun k hk => ⟨h0 k (by omega), h1 k (by omega), h2 k (by omega), h3 k (by omega)⟩⟩
end
theorem markF_ev (l : List Sm38) (hl : l.length ≤ 1048576) (v : Int) (h0 : 0 ≤ v) (h1 : v ≤ 4611686018000000000) : Ev (fun k => laws_markLegF.f k l v) (v + ((5 * l.length : Nat) : Int), marked mL 5 l.length v) := by
  simp only [laws_markLegF.f]
  refine mark_ev mL 5 (by omega) laws_markLegF.l0 (fun l v i hl hi a b => ?_) (fun k l v => by simp only [laws_markLegF.l0, if_neg (natNotLt (Nat.lt_irrefl _))]) l hl v h0 h1
  obtain ⟨K, hK⟩ := mts a b
  refine ⟨K, fun k hk => ?_⟩
  obtain ⟨m0, m1, m2, m3⟩ := hK k hk
  simp only [laws_markLegF.l0, if_pos (natLt hi), if_pos (nat0 i), v1 a b, v2 a b, v3 a b, v4 a b, v5 a b, m0, m1, m2, m3, Option.bind_some, i64_1 hi (show l.length ≤ 140737488351232 by omega), Int.toNat_natCast, List.set_set, rdSm_set l i hi]
  rfl
theorem markG_ev (l : List S38) (hl : l.length ≤ 1048576) : Ev (fun k => laws_markLegS.f k l 1) (1 + ((5 * l.length : Nat) : Int), marked (fun v => unL (mL v)) 5 l.length 1) := by
  simp only [laws_markLegS.f]
  have e := markF_ev (l.map flL) (by rw [List.length_map]; exact hl) 1 (by omega) (by omega)
  rw [List.length_map] at e
  refine Ev.bind e ?_
  rw [show (marked mL 5 l.length 1).map unL = marked (fun v => unL (mL v)) 5 l.length 1 by simp [marked]]
  exact Ev.now _
theorem heldG_ev (n : Nat) (hn : n ≤ 1048576) : Ev (fun k => laws_heldLegS.f k (marked (fun v => unL (mL v)) 5 n 1) 1) (1 + ((5 * n : Nat) : Int)) := by
  simp only [laws_heldLegS.f]
  refine held_ev (fun v => unL (mL v)) 5 (by omega) laws_heldLegS.l0 (fun l v i hl hi he a b => ?_) (fun k l v => by simp only [laws_heldLegS.l0, if_neg (natNotLt (Nat.lt_irrefl _))]) n hn 1 (by omega) (by omega)
  obtain ⟨K, hK⟩ := mts a b
  refine ⟨K, fun k hk => ?_⟩
  obtain ⟨m0, m1, m2, m3⟩ := hK k hk
  simp only [laws_heldLegS.l0, if_pos (natLt hi), if_pos (nat0 i), rdLg l i hi, he, unL, mL, if_true, v1 a b, v2 a b, v3 a b, v4 a b, v5 a b, m0, m1, m2, m3, Option.bind_some, i64_1 hi (show l.length ≤ 140737488351232 by omega)]
def backG (b : Bool) (L : List S38) : List S38 := if b = true then L.reverse.map swapL else []
theorem backG_len (b : Bool) (L : List S38) : (backG b L).length ≤ L.length := by
  unfold backG; split <;> simp
theorem spec_back_l0 (L : List S38) (hL : L.length ≤ 1048576) : ∀ (j : Nat) (acc : List S38), j ≤ L.length → acc.length + j = L.length → Ev (fun k => spec_LegsBack.l0 k L acc ((j : Int) - 1)) (acc ++ (L.take j).reverse.map swapL) := by
  intro j
  induction j with
  | zero =>
    intro acc hj ha
    refine ev_succ ?_
    simp only [spec_LegsBack.l0]
    rw [List.take_zero, List.reverse_nil, List.map_nil, List.append_nil]
    exact ev_neg (by omega) (Ev.now _)
  | succ j ih =>
    intro acc hj ha
    have hi : j < L.length := by omega
    refine ev_succ ?_
    have e1 : ((j + 1 : Nat) : Int) - 1 = (j : Int) := by omega
    simp only [spec_LegsBack.l0, e1, rdLg L j hi, w64 (a := (j : Int) - 1) (by omega) (by omega)]
    rw [List.take_succ_eq_append_getElem hi, List.reverse_append, List.reverse_singleton, List.singleton_append, List.map_cons]
    have e := ih (acc ++ [swapL L[j]]) (by omega) (by rw [List.length_append]; simp; omega)
    rw [List.append_assoc, List.singleton_append] at e
    exact ev_pos (by omega) (ev_pos (by omega) (ev_pos (by omega) (ev_pos (by omega) e)))
theorem FnExactLegsBack : laws_FnExactLegsBack.Pure := by
  intro l hl
  refine Ev.rounds (g := fun k => laws_FnExactLegsBack.f k l) ?_
  simp only [laws_FnExactLegsBack.f]
  obtain ⟨u, eu, hu⟩ := szG_ev l hl.1 (fun x hx => ⟨(hl.2 x hx).1, (hl.2 x hx).2.1⟩)
  refine Ev.bind eu ?_
  by_cases hu0 : u < 0
  · simp only [if_pos hu0]; exact Ev.now _
  have hs := hu (by omega)
  simp only [if_neg hu0]
  have hto := toG_ev l hs.1
  have hln : (l.map cG).length ≤ 1048576 := by rw [List.length_map]; exact hs.1
  have hz : ∀ x ∈ l.map cG, zG x := by
    intro x hx
    obtain ⟨y, hy, rfl⟩ := List.mem_map.1 hx
    have := hs.2 y hy
    unfold szG at this
    unfold zG cG
    exact ⟨⟨by show y.f0.f0.size ≤ _; omega, by show y.f0.f1.size ≤ _; omega⟩, by show y.f1.f0.size ≤ _; omega, by show y.f1.f1.size ≤ _; omega⟩
  obtain ⟨q, hq⟩ : ∃ q : Bool, q = (if ((l.map cG).length : Int) ≤ 20 then (l.map cG).all legR else false) := ⟨_, rfl⟩
  have es : Ev (fun k => spec_LegsRight.f k (l.map cG)) q := by
    rw [hq]
    simp only [spec_LegsRight.f]
    by_cases c : ((l.map cG).length : Int) ≤ 20
    · rw [if_pos c]
      exact ev_neg (by omega) (specG (l.map cG) (by omega) hz _ 0 rfl)
    · rw [if_neg c]; exact ev_pos (by omega) (Ev.now _)
  have ei := implG _ hz
  rw [← hq] at ei
  clear hq hz
  generalize l.map cG = L at hto hln es ei ⊢
  have hb := backG_len q L
  have sb : Ev (fun k => spec_LegsBack.f k L) (backG q L) := by
    simp only [spec_LegsBack.f, Option.bind_some]
    refine Ev.bind es ?_
    unfold backG
    cases q with
    | false => simp only [Bool.false_eq_true, if_false]; exact Ev.now _
    | true =>
      simp only [if_true, w64 (a := (L.length : Int) - 1) (by omega) (by omega)]
      have e := spec_back_l0 L hln L.length [] (Nat.le_refl _) (by simp)
      rw [List.take_length, List.nil_append] at e
      exact e
  have ib : impl_LegsBack.f L = some (backG q L) := by
    unfold impl_LegsBack.f backG
    rw [if_pos hln, ei, Option.bind_some]
    cases q <;> rfl
  generalize backG q L = R at hb sb ib
  have n1 : ∀ n : Nat, ¬ 1 + ((5 * n : Nat) : Int) < 0 := fun n => by omega
  have qr := eqG_ev R (by omega)
  have ho := heldG_ev R.length (by omega)
  refine Ev.bind hto (Ev.bind sb (Ev.bind hto (ev_cbind ib (Ev.bind qr (ev_pos rfl ?_)))))
  refine Ev.bind hto (Ev.bind (eqG_ev L (by omega)) (ev_pos rfl ?_))
  refine Ev.bind (markG_ev L hln) (ev_neg (n1 _) (Ev.bind qr (ev_succ ?_)))
  simp only [laws_FnExactLegsBack.j0, Bool.not_true, Bool.false_eq_true, if_false]
  refine Ev.bind (markG_ev R (by omega)) (Ev.bind ho (ev_neg (n1 _) (ev_pos rfl ?_)))
  exact Ev.bind hto (ev_cbind ib (Ev.bind qr (ev_pos rfl (Ev.bind ho (ev_neg (n1 _) (ev_pos rfl (Ev.now _)))))))

end Go.Proofs.YtopeaemfnlcecaaDoor.Pure
