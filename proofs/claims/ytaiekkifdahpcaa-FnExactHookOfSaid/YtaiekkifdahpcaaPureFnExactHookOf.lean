/- At every product and hook the program's HookOf is the reference's HookOf, and its answer owns its memory. No condition beyond the row's own. -/
import Derived.Test.YtaiekkifdahpcaaPFnExactHookOfx6
import Derived.Test.YtaiekkifdahpcaaQLib
import Derived.Test.YtaiekkifdahpcaaQLoops
namespace Go.Proofs.Ytaiekkifdahpcaa.Pure
set_option linter.unusedSimpArgs false
set_option linter.unusedVariables false
open Go.RowKit Go.Proofs.Ytaiekkifdahpcaa.PFnExactHookOf Go.Proofs.YtaiekkifdahpcaaW.PrintWords Go.Proofs.YtaiekkifdahpcaaW.PrintLast Go.Proofs.YtaiekkifdahpcaaW.PrintMore
open Go.Proofs.Ytaiekkifdahpcaa.Q
theorem mt_l0 : ∀ (d : Nat) (n : Int) (x : ByteArray), 0 ≤ n → n ≤ 4611686018427387904 → n < 10 ^ d → x.size + d ≤ 1000 → ∃ t, Ev (fun k => laws_markText.l0 k n x) t := by
  intro d
  induction d with
  | zero =>
    intro n x h0 hb h1 h2
    have : n = 0 := by simp at h1; omega
    subst this
    refine ⟨(⟨#[109]⟩ : ByteArray) ++ x, ev_succ ?_⟩
    simp only [laws_markText.l0, if_neg (show ¬ (0 : Int) > 0 by omega)]
    exact ev_pos (show 1 + x.size ≤ 9223372036854775807 by omega) (Ev.now _)
  | succ d ih =>
    intro n x h0 hb h1 h2
    by_cases hn : n > 0
    · have hs : (strOfNums [(wrap64 (48 + (Int.tmod n 10))) % 256]).size = 1 := by simp [strOfNums, ByteArray.size]
      have hq : Int.tdiv n 10 = n / 10 := tdiv_pos h0
      have hw : wrap64 (n / 10) = n / 10 := w64 (by omega) (by omega)
      have h1' : n < 10 ^ d * 10 := by rw [← Int.pow_succ]; exact h1
      obtain ⟨t, e⟩ := ih (n / 10) (strOfNums [(wrap64 (48 + (Int.tmod n 10))) % 256] ++ x) (by omega) (by omega) (by omega) (by rw [ByteArray.size_append, hs]; omega)
      refine ⟨t, ev_succ ?_⟩
      simp only [laws_markText.l0, if_pos hn, Option.bind_some, hq, hw]
      exact ev_pos (show (strOfNums [(wrap64 (48 + (Int.tmod n 10))) % 256]).size + x.size ≤ 9223372036854775807 by omega) e
    · refine ⟨(⟨#[109]⟩ : ByteArray) ++ x, ev_succ ?_⟩
      simp only [laws_markText.l0, if_neg hn]
      exact ev_pos (show 1 + x.size ≤ 9223372036854775807 by omega) (Ev.now _)
theorem mt_ex (n : Int) (h0 : 0 ≤ n) (h1 : n ≤ 4611686018427387904) : ∃ t, Ev (fun k => laws_markText.f k n) t := by
  by_cases h : n ≤ 0
  · refine ⟨⟨#[109, 48]⟩, ?_⟩
    simp only [laws_markText.f, if_pos h]; exact Ev.now _
  · obtain ⟨t, e⟩ := mt_l0 19 n ⟨#[]⟩ h0 h1 (by omega) (by simp [ByteArray.size])
    refine ⟨t, ?_⟩
    simp only [laws_markText.f, if_neg h]; exact e
open Classical in
/-- The text of a mark. -/
noncomputable def mtF (n : Int) : ByteArray := if h : ∃ t, Ev (fun k => laws_markText.f k n) t then Classical.choose h else ByteArray.empty
theorem mt_ev (n : Int) (h0 : 0 ≤ n) (h1 : n ≤ 4611686018427387904) : Ev (fun k => laws_markText.f k n) (mtF n) := by
  have h := mt_ex n h0 h1
  unfold mtF
  rw [dif_pos h]
  exact Classical.choose_spec h

theorem eqS_l0 (l : List ByteArray) (hl : l.length ≤ 140737488351232) : ∀ (d i : Nat), l.length - i = d → Ev (fun k => laws_eqStringS.l0 k l l i) true := by
  intro d
  induction d with
  | zero =>
    intro i hd
    refine ev_succ ?_
    simp only [laws_eqStringS.l0, if_neg (natNotLt (show ¬ i < l.length by omega))]; exact Ev.now _
  | succ d ih =>
    intro i hd
    refine ev_succ ?_
    have hi : i < l.length := by omega
    simp only [laws_eqStringS.l0, if_pos (natLt hi), if_pos (nat0 i), if_true, wsucc hi hl]
    exact ih _ (by omega)
theorem eqS_ev (l : List ByteArray) (hl : l.length ≤ 140737488351232) : Ev (fun k => laws_eqStringS.f k l l) true := by
  simp only [laws_eqStringS.f, if_true]; exact eqS_l0 l hl _ 0 rfl

def tot (l : List ByteArray) : Nat := (l.map (·.size)).sum
theorem rd_at (l : List ByteArray) (i : Nat) (h : i < l.length) : rdOf ByteArray.empty l (i : Int) = l[i] := by
  unfold rdOf; rw [Int.toNat_natCast, List.getD_eq_getElem?_getD, List.getElem?_eq_getElem h]; rfl
theorem drop_at {α : Type} (l : List α) (i : Nat) (h : i < l.length) : l.drop i = l[i] :: l.drop (i + 1) := List.drop_eq_getElem_cons h
theorem tot_at (l : List ByteArray) (i : Nat) (h : i < l.length) : tot (l.drop i) = l[i].size + tot (l.drop (i + 1)) := by
  rw [drop_at l i h]; unfold tot; rw [List.map_cons, List.sum_cons]
theorem tot_mem (l : List ByteArray) (x : ByteArray) (h : x ∈ l) : x.size ≤ tot l := by
  induction l with
  | nil => cases h
  | cons y l ih =>
    rcases List.mem_cons.1 h with rfl | h
    · simp [tot]
    · have := ih h; simp only [tot, List.map_cons, List.sum_cons] at this ⊢; omega

theorem szS_l0 (l : List ByteArray) (hl : l.length ≤ 140737488351232) (hx : ∀ x ∈ l, x.size ≤ maxLen) : ∀ (d i : Nat) (left : Int), l.length - i = d → 0 ≤ left → left ≤ 1048576 →
    ∃ t, Ev (fun k => laws_szStringS.l0 k l left i) t ∧ (0 ≤ t → t + (tot (l.drop i) : Int) ≤ left) ∧ t ≤ left := by
  intro d
  induction d with
  | zero =>
    intro i left hd h0 h1
    refine ⟨left, ev_succ ?_, fun _ => ?_, Int.le_refl _⟩
    · simp only [laws_szStringS.l0, if_neg (natNotLt (show ¬ i < l.length by omega))]; exact Ev.now _
    · rw [List.drop_eq_nil_of_le (by omega)]; simp [tot]
  | succ d ih =>
    intro i left hd h0 h1
    have hi : i < l.length := by omega
    have hs := hx _ (List.getElem_mem hi)
    unfold maxLen at hs
    have hw : wrap64 (left - (l[i].size : Int)) = left - (l[i].size : Int) := w64 (by omega) (by omega)
    by_cases hn : left - (l[i].size : Int) < 0
    · refine ⟨-1, ev_succ ?_, fun h => absurd h (by decide), by omega⟩
      simp only [laws_szStringS.l0, if_pos (natLt hi), if_pos (nat0 i), rd_at l i hi, hw, if_pos hn]; exact Ev.now _
    · obtain ⟨t, e, h2, h3⟩ := ih (i + 1) (left - l[i].size) (by omega) (by omega) (by omega)
      refine ⟨t, ev_succ ?_, fun h => ?_, by omega⟩
      · simp only [laws_szStringS.l0, if_pos (natLt hi), if_pos (nat0 i), rd_at l i hi, hw, if_neg hn, wsucc hi hl]; exact e
      · have := h2 h; rw [tot_at l i hi]; omega
theorem szS_ev (l : List ByteArray) (hm : l.length ≤ maxLen) (hx : ∀ x ∈ l, x.size ≤ maxLen) (left : Int) (h0 : 0 ≤ left) (h1 : left ≤ 1048576) :
    ∃ t, Ev (fun k => laws_szStringS.f k l left) t ∧ (0 ≤ t → t + (l.length : Int) + (tot l : Int) ≤ left) := by
  unfold maxLen at hm
  have hw : wrap64 (left - (l.length : Int)) = left - (l.length : Int) := w64 (by omega) (by omega)
  by_cases hn : left - (l.length : Int) < 0
  · refine ⟨-1, ?_, fun h => absurd h (by decide)⟩
    simp only [laws_szStringS.f, hw, if_pos hn]; exact Ev.now _
  · obtain ⟨t, e, h2, _⟩ := szS_l0 l (by omega) hx l.length 0 (left - l.length) (by omega) (by omega) (by omega)
    refine ⟨t, ?_, fun h => ?_⟩
    · simp only [laws_szStringS.f, hw, if_neg hn]; exact e
    · have := h2 h; rw [List.drop_zero] at this; omega
theorem toS_l0 (l : List ByteArray) (hl : l.length ≤ 17592186044416) : ∀ (d i : Nat) (x : List ByteArray), l.length - i = d → i ≤ l.length → x.length = l.length → x.take i = l.take i → Ev (fun k => laws_toStringS.l0 k l x i) l := by
  intro d
  induction d with
  | zero =>
    intro i x hd hi hx h
    refine ev_succ ?_
    have e : x = l := by rw [← List.take_of_length_le (l := x) (i := i) (by omega), h, List.take_of_length_le (by omega)]
    simp only [laws_toStringS.l0, if_neg (natNotLt (show ¬ i < l.length by omega)), e]; exact Ev.now _
  | succ d ih =>
    intro i x hd hi hx h
    have hi : i < l.length := by omega
    refine ev_succ ?_
    simp only [laws_toStringS.l0, if_pos (natLt hi), if_pos (nat0 i), if_pos (natLt (show i < x.length by omega)), rd_at l i hi, wsucc hi (by omega), Int.toNat_natCast]
    refine ih (i + 1) (x.set i l[i]) (by omega) (by omega) (by rw [List.length_set]; exact hx) ?_
    rw [List.take_succ_eq_append_getElem (by rw [List.length_set]; omega), List.take_succ_eq_append_getElem hi, List.getElem_set_self, List.take_set_of_le (Nat.le_refl _), h]
theorem toS_ev (l : List ByteArray) (hl : l.length ≤ 17592186044416) : Ev (fun k => laws_toStringS.f k l) l := by
  simp only [laws_toStringS.f, if_pos (nat0 l.length), Int.toNat_natCast, if_pos hl]
  exact toS_l0 l hl l.length 0 _ rfl (by omega) (by rw [List.length_replicate]) rfl

theorem rdN (l : List S111) (i : Nat) (h : i < l.length) : rd_T111 l (i : Int) = l[i] := by
  unfold rd_T111; rw [Int.toNat_natCast, List.getD_eq_getElem?_getD, List.getElem?_eq_getElem h]; rfl
theorem rdNl (l : List S145) (i : Nat) (h : i < l.length) : rd_T145 l (i : Int) = l[i] := by
  unfold rd_T145; rw [Int.toNat_natCast, List.getD_eq_getElem?_getD, List.getElem?_eq_getElem h]; rfl
def cN (x : S145) : S111 := ⟨x.f0, x.f1, x.f2, x.f3, x.f4⟩
theorem szN_ev (l : List S145) (hm : l.length ≤ maxLen) (hx : ∀ x ∈ l, x.f1.size ≤ maxLen ∧ x.f2.size ≤ maxLen) (left : Int) (h0 : 0 ≤ left) (h1 : left ≤ 1048576) :
    ∃ t, Ev (fun k => laws_szNodeS.f k l left) t ∧ (0 ≤ t → t + (l.length : Int) ≤ left) ∧ t ≤ left := by
  unfold maxLen at hm
  have hw : wrap64 (left - (l.length : Int)) = left - (l.length : Int) := w64 (by omega) (by omega)
  by_cases hn : left - (l.length : Int) < 0
  · refine ⟨-1, ?_, fun h => absurd h (by decide), by omega⟩
    simp only [laws_szNodeS.f, hw, if_pos hn]; exact Ev.now _
  · obtain ⟨t, e, h2, h3⟩ := sz_ev (fun x : S145 => x.f1.size + x.f2.size) laws_szNodeS.l0 l (by omega)
      (fun k i v hi a b c => by
        have hs := hx _ (List.getElem_mem hi)
        unfold maxLen at hs
        have w1 : wrap64 (v - (l[i].f1.size : Int)) = v - (l[i].f1.size : Int) := w64 (by omega) (by omega)
        have w2 : wrap64 (v - (l[i].f1.size : Int) - (l[i].f2.size : Int)) = v - (l[i].f1.size : Int) - (l[i].f2.size : Int) := w64 (by omega) (by omega)
        simp only [laws_szNodeS.l0, if_pos (natLt hi), if_pos (nat0 i), rdNl l i hi, laws_szNode.f, w1, w2, if_neg (show ¬ v - (l[i].f1.size : Int) < 0 by omega), if_neg (show ¬ v - (l[i].f1.size : Int) - (l[i].f2.size : Int) < 0 by omega), Option.bind_some, i64_1 hi (show l.length ≤ 140737488351232 by omega)]
        rw [show v - ((l[i].f1.size + l[i].f2.size : Nat) : Int) = v - (l[i].f1.size : Int) - (l[i].f2.size : Int) by omega])
      (fun k i v hi a b c => by
        have hs := hx _ (List.getElem_mem hi)
        unfold maxLen at hs
        have w1 : wrap64 (v - (l[i].f1.size : Int)) = v - (l[i].f1.size : Int) := w64 (by omega) (by omega)
        by_cases q : v - (l[i].f1.size : Int) < 0
        · simp only [laws_szNodeS.l0, if_pos (natLt hi), if_pos (nat0 i), rdNl l i hi, laws_szNode.f, w1, if_pos q, Option.bind_some]; rfl
        · have w2 : wrap64 (v - (l[i].f1.size : Int) - (l[i].f2.size : Int)) = v - (l[i].f1.size : Int) - (l[i].f2.size : Int) := w64 (by omega) (by omega)
          simp only [laws_szNodeS.l0, if_pos (natLt hi), if_pos (nat0 i), rdNl l i hi, laws_szNode.f, w1, w2, if_neg q, if_pos (show v - (l[i].f1.size : Int) - (l[i].f2.size : Int) < 0 by omega), Option.bind_some]; rfl)
      (fun k v => by simp only [laws_szNodeS.l0, if_neg (natNotLt (Nat.lt_irrefl _))]) (left - l.length) (by omega) (by omega)
    refine ⟨t, ?_, fun h => ?_, by omega⟩
    · simp only [laws_szNodeS.f, hw, if_neg hn]; exact e
    · have := h2 h; omega
theorem toN_ev (l : List S145) (hl : l.length ≤ 1048576) : Ev (fun k => laws_toNodeS.f k l) (l.map cN) := by
  simp only [laws_toNodeS.f, if_pos (nat0 l.length), Int.toNat_natCast, if_pos (show l.length ≤ 5026338869833 by omega)]
  refine map_ev cN laws_toNodeS.l0 1048576 (fun k x y i hB hx hy => ?_) (fun k x y => by simp only [laws_toNodeS.l0, if_neg (natNotLt (Nat.lt_irrefl _))]) l _ (List.length_replicate) hl
  simp only [laws_toNodeS.l0, if_pos (natLt hx), if_pos (nat0 i), laws_toNode.f, Option.bind_some, if_pos (natLt hy), rdNl x i hx, i64_1 hx (show x.length ≤ 140737488351232 by omega), Int.toNat_natCast]; rfl
theorem eqN_ev (l : List S111) (hl : l.length ≤ 140737488351232) : Ev (fun k => laws_eqNodeS.f k l l) true := by
  simp only [laws_eqNodeS.f, if_true]
  exact all_ev true (fun k l => laws_eqNodeS.l0 k l l) l (fun k i hi => by simp only [laws_eqNodeS.l0, if_pos (natLt hi), if_pos (nat0 i), laws_eqNode.f, if_true, Option.bind_some, i64_1 hi hl]) (fun k => by simp only [laws_eqNodeS.l0, if_neg (natNotLt (Nat.lt_irrefl _))])

theorem rdPm (l : List S107) (i : Nat) (h : i < l.length) : rd_T107 l (i : Int) = l[i] := by
  unfold rd_T107; rw [Int.toNat_natCast, List.getD_eq_getElem?_getD, List.getElem?_eq_getElem h]; rfl
theorem rdPml (l : List S143) (i : Nat) (h : i < l.length) : rd_T143 l (i : Int) = l[i] := by
  unfold rd_T143; rw [Int.toNat_natCast, List.getD_eq_getElem?_getD, List.getElem?_eq_getElem h]; rfl
def cP (x : S143) : S107 := ⟨x.f0, x.f1, x.f2, x.f3⟩
theorem szPm_ev (l : List S143) (hm : l.length ≤ maxLen) (hx : ∀ x ∈ l, x.f0.size ≤ maxLen) (left : Int) (h0 : 0 ≤ left) (h1 : left ≤ 1048576) :
    ∃ t, Ev (fun k => laws_szParamS.f k l left) t ∧ (0 ≤ t → t + (l.length : Int) ≤ left) ∧ t ≤ left := by
  unfold maxLen at hm
  have hw : wrap64 (left - (l.length : Int)) = left - (l.length : Int) := w64 (by omega) (by omega)
  by_cases hn : left - (l.length : Int) < 0
  · refine ⟨-1, ?_, fun h => absurd h (by decide), by omega⟩
    simp only [laws_szParamS.f, hw, if_pos hn]; exact Ev.now _
  · obtain ⟨t, e, h2, h3⟩ := sz_ev (fun x : S143 => x.f0.size) laws_szParamS.l0 l (by omega)
      (fun k i v hi a b c => by
        have hs := hx _ (List.getElem_mem hi)
        unfold maxLen at hs
        have w1 : wrap64 (v - (l[i].f0.size : Int)) = v - (l[i].f0.size : Int) := w64 (by omega) (by omega)
        simp only [laws_szParamS.l0, if_pos (natLt hi), if_pos (nat0 i), rdPml l i hi, laws_szParam.f, w1, if_neg (show ¬ v - (l[i].f0.size : Int) < 0 by omega), Option.bind_some, i64_1 hi (show l.length ≤ 140737488351232 by omega)])
      (fun k i v hi a b c => by
        have hs := hx _ (List.getElem_mem hi)
        unfold maxLen at hs
        have w1 : wrap64 (v - (l[i].f0.size : Int)) = v - (l[i].f0.size : Int) := w64 (by omega) (by omega)
        simp only [laws_szParamS.l0, if_pos (natLt hi), if_pos (nat0 i), rdPml l i hi, laws_szParam.f, w1, if_pos c, Option.bind_some]; rfl)
      (fun k v => by simp only [laws_szParamS.l0, if_neg (natNotLt (Nat.lt_irrefl _))]) (left - l.length) (by omega) (by omega)
    refine ⟨t, ?_, fun h => ?_, by omega⟩
    · simp only [laws_szParamS.f, hw, if_neg hn]; exact e
    · have := h2 h; omega
theorem toPm_ev (l : List S143) (hl : l.length ≤ 1048576) : Ev (fun k => laws_toParamS.f k l) (l.map cP) := by
  simp only [laws_toParamS.f, if_pos (nat0 l.length), Int.toNat_natCast, if_pos (show l.length ≤ 7036874417766 by omega)]
  refine map_ev cP laws_toParamS.l0 1048576 (fun k x y i hB hx hy => ?_) (fun k x y => by simp only [laws_toParamS.l0, if_neg (natNotLt (Nat.lt_irrefl _))]) l _ (List.length_replicate) hl
  simp only [laws_toParamS.l0, if_pos (natLt hx), if_pos (nat0 i), laws_toParam.f, Option.bind_some, if_pos (natLt hy), rdPml x i hx, i64_1 hx (show x.length ≤ 140737488351232 by omega), Int.toNat_natCast]; rfl
theorem eqPm_ev (l : List S107) (hl : l.length ≤ 140737488351232) : Ev (fun k => laws_eqParamS.f k l l) true := by
  simp only [laws_eqParamS.f, if_true]
  exact all_ev true (fun k l => laws_eqParamS.l0 k l l) l (fun k i hi => by simp only [laws_eqParamS.l0, if_pos (natLt hi), if_pos (nat0 i), laws_eqParam.f, if_true, Option.bind_some, i64_1 hi hl]) (fun k => by simp only [laws_eqParamS.l0, if_neg (natNotLt (Nat.lt_irrefl _))])
structure PL where
  a : ByteArray
  b : Int
  l2 : List ByteArray
  l3 : List ByteArray
  l4 : List S143
  l5 : List S145
  l6 : List S145
  l7 : List S145
/-- What is known of a product that comes in. -/
structure PL.ok (p : PL) : Prop where
  ha : p.a.size ≤ maxLen
  h2 : p.l2.length ≤ maxLen ∧ ∀ x ∈ p.l2, x.size ≤ maxLen
  h3 : p.l3.length ≤ maxLen ∧ ∀ x ∈ p.l3, x.size ≤ maxLen
  h4 : p.l4.length ≤ maxLen ∧ ∀ x ∈ p.l4, x.f0.size ≤ maxLen
  h5 : p.l5.length ≤ maxLen ∧ ∀ x ∈ p.l5, x.f1.size ≤ maxLen ∧ x.f2.size ≤ maxLen
  h6 : p.l6.length ≤ maxLen ∧ ∀ x ∈ p.l6, x.f1.size ≤ maxLen ∧ x.f2.size ≤ maxLen
  h7 : p.l7.length ≤ maxLen ∧ ∀ x ∈ p.l7, x.f1.size ≤ maxLen ∧ x.f2.size ≤ maxLen
structure PL.small (p : PL) : Prop where
  h2 : p.l2.length ≤ 1048576
  h3 : p.l3.length ≤ 1048576
  h4 : p.l4.length ≤ 1048576
  h5 : p.l5.length ≤ 1048576
  h6 : p.l6.length ≤ 1048576
  h7 : p.l7.length ≤ 1048576
theorem szProd_ev (p : PL) (h : p.ok) (left : Int) (q0 : 0 ≤ left) (q1 : left ≤ 1048576) : ∃ t, Ev (fun k => laws_szProduct.f k p.a p.b p.l2 p.l3 p.l4 p.l5 p.l6 p.l7 left) t ∧ (0 ≤ t → p.small) ∧ t ≤ left := by
  have ha := h.ha
  unfold maxLen at ha
  have hw : wrap64 (left - (p.a.size : Int)) = left - (p.a.size : Int) := w64 (by omega) (by omega)
  have fin : ∀ t : Int, t = -1 → (0 ≤ t → p.small) ∧ t ≤ left := fun t ht => ⟨fun h => by omega, by omega⟩
  have now1 : Ev (fun _ => some (-1 : Int)) (-1) := Ev.now _
  by_cases hn : left - (p.a.size : Int) < 0
  · refine ⟨-1, ?_, fin _ rfl⟩
    simp only [laws_szProduct.f, hw, if_pos hn]; exact now1
  simp only [laws_szProduct.f, hw, if_neg hn]
  obtain ⟨t2, e2, a2⟩ := szS_ev p.l2 h.h2.1 h.h2.2 _ (show 0 ≤ left - (p.a.size : Int) by omega) (by omega)
  by_cases n2 : t2 < 0
  · exact ⟨-1, Ev.bind e2 (by simp only [if_pos n2]; exact now1), fin _ rfl⟩
  have a2' := a2 (by omega)
  obtain ⟨t3, e3, a3⟩ := szS_ev p.l3 h.h3.1 h.h3.2 t2 (by omega) (by omega)
  by_cases n3 : t3 < 0
  · exact ⟨-1, Ev.bind e2 (by simp only [if_neg n2]; exact Ev.bind e3 (by simp only [if_pos n3]; exact now1)), fin _ rfl⟩
  have a3' := a3 (by omega)
  obtain ⟨t4, e4, a4, b4⟩ := szPm_ev p.l4 h.h4.1 h.h4.2 t3 (by omega) (by omega)
  by_cases n4 : t4 < 0
  · exact ⟨-1, Ev.bind e2 (by simp only [if_neg n2]; exact Ev.bind e3 (by simp only [if_neg n3]; exact Ev.bind e4 (by simp only [if_pos n4]; exact now1))), fin _ rfl⟩
  have a4' := a4 (by omega)
  obtain ⟨t5, e5, a5, b5⟩ := szN_ev p.l5 h.h5.1 h.h5.2 t4 (by omega) (by omega)
  by_cases n5 : t5 < 0
  · exact ⟨-1, Ev.bind e2 (by simp only [if_neg n2]; exact Ev.bind e3 (by simp only [if_neg n3]; exact Ev.bind e4 (by simp only [if_neg n4]; exact Ev.bind e5 (by simp only [if_pos n5]; exact now1)))), fin _ rfl⟩
  have a5' := a5 (by omega)
  obtain ⟨t6, e6, a6, b6⟩ := szN_ev p.l6 h.h6.1 h.h6.2 t5 (by omega) (by omega)
  by_cases n6 : t6 < 0
  · exact ⟨-1, Ev.bind e2 (by simp only [if_neg n2]; exact Ev.bind e3 (by simp only [if_neg n3]; exact Ev.bind e4 (by simp only [if_neg n4]; exact Ev.bind e5 (by simp only [if_neg n5]; exact Ev.bind e6 (by simp only [if_pos n6]; exact now1))))), fin _ rfl⟩
  have a6' := a6 (by omega)
  obtain ⟨t7, e7, a7, b7⟩ := szN_ev p.l7 h.h7.1 h.h7.2 t6 (by omega) (by omega)
  by_cases n7 : t7 < 0
  · exact ⟨-1, Ev.bind e2 (by simp only [if_neg n2]; exact Ev.bind e3 (by simp only [if_neg n3]; exact Ev.bind e4 (by simp only [if_neg n4]; exact Ev.bind e5 (by simp only [if_neg n5]; exact Ev.bind e6 (by simp only [if_neg n6]; exact Ev.bind e7 (by simp only [if_pos n7]; exact now1)))))), fin _ rfl⟩
  have a7' := a7 (by omega)
  exact ⟨t7, Ev.bind e2 (by simp only [if_neg n2]; exact Ev.bind e3 (by simp only [if_neg n3]; exact Ev.bind e4 (by simp only [if_neg n4]; exact Ev.bind e5 (by simp only [if_neg n5]; exact Ev.bind e6 (by simp only [if_neg n6]; exact Ev.bind e7 (by simp only [if_neg n7]; exact Ev.now _)))))),
    fun _ => ⟨by omega, by omega, by omega, by omega, by omega, by omega⟩, by omega⟩
theorem toProd_ev (p : PL) (h : p.small) : Ev (fun k => laws_toProduct.f k p.a p.b p.l2 p.l3 p.l4 p.l5 p.l6 p.l7) (p.a, p.b, p.l2, p.l3, p.l4.map cP, p.l5.map cN, p.l6.map cN, p.l7.map cN) := by
  simp only [laws_toProduct.f]
  refine Ev.bind (toS_ev p.l2 (by have := h.h2; omega)) ?_
  refine Ev.bind (toS_ev p.l3 (by have := h.h3; omega)) ?_
  refine Ev.bind (toPm_ev p.l4 h.h4) ?_
  refine Ev.bind (toN_ev p.l5 h.h5) ?_
  refine Ev.bind (toN_ev p.l6 h.h6) ?_
  refine Ev.bind (toN_ev p.l7 h.h7) ?_
  exact Ev.now _
theorem eqProd_ev (p : PL) (h : p.small) : Ev (fun k => laws_eqProduct.f k p.a p.b p.l2 p.l3 (p.l4.map cP) (p.l5.map cN) (p.l6.map cN) (p.l7.map cN) p.a p.b p.l2 p.l3 (p.l4.map cP) (p.l5.map cN) (p.l6.map cN) (p.l7.map cN)) true := by
  simp only [laws_eqProduct.f, if_true]
  refine Ev.bind (eqS_ev p.l2 (by have := h.h2; omega)) ?_
  simp only [if_true]
  refine Ev.bind (eqS_ev p.l3 (by have := h.h3; omega)) ?_
  simp only [if_true]
  refine Ev.bind (eqPm_ev _ (by rw [List.length_map]; have := h.h4; omega)) ?_
  simp only [if_true]
  refine Ev.bind (eqN_ev _ (by rw [List.length_map]; have := h.h5; omega)) ?_
  simp only [if_true]
  refine Ev.bind (eqN_ev _ (by rw [List.length_map]; have := h.h6; omega)) ?_
  simp only [if_true]
  refine Ev.bind (eqN_ev _ (by rw [List.length_map]; have := h.h7; omega)) ?_
  simp only [if_true]
  exact Ev.now _

theorem mt_k (n : Int) (h0 : 0 ≤ n) (h1 : n ≤ 4611686018427387904) : ∃ K, ∀ k, K ≤ k → laws_markText.f k n = some (mtF n) := mt_ev n h0 h1
noncomputable def mS (v : Int) : ByteArray := mtF v
noncomputable def mP (v : Int) : S107 := ⟨mtF v, v + 1, v + 2, v + 3⟩
noncomputable def mN (v : Int) : S111 := ⟨v, mtF (v + 1), mtF (v + 2), v + 3, v + 4⟩
theorem rdPm_set (l : List S107) (i : Nat) (h : i < l.length) (x : S107) : rd_T107 (l.set i x) (i : Int) = x := by
  rw [rdPm _ i (by rw [List.length_set]; exact h), List.getElem_set_self]
theorem rdN_set (l : List S111) (i : Nat) (h : i < l.length) (x : S111) : rd_T111 (l.set i x) (i : Int) = x := by
  rw [rdN _ i (by rw [List.length_set]; exact h), List.getElem_set_self]
theorem markS_ev' (l : List ByteArray) (hl : l.length ≤ 1048576) (v : Int) (h0 : 0 ≤ v) (h1 : v ≤ 4611686018000000000) : Ev (fun k => laws_markStringS.f k l v) (v + ((1 * l.length : Nat) : Int), marked mS 1 l.length v) := by
  simp only [laws_markStringS.f]
  refine mark_ev mS 1 (by omega) laws_markStringS.l0 (fun l v i hl hi a b => ?_) (fun k l v => by simp only [laws_markStringS.l0, if_neg (natNotLt (Nat.lt_irrefl _))]) l hl v h0 h1
  obtain ⟨K, hK⟩ := mt_k v a (by omega)
  refine ⟨K, fun k hk => ?_⟩
  simp only [laws_markStringS.l0, if_pos (natLt hi), hK k hk, Option.bind_some, if_pos (nat0 i), i64_1 hi (show l.length ≤ 140737488351232 by omega), Int.toNat_natCast, w64 (a := v + 1) (by omega) (by omega)]
  rfl
theorem markP_ev' (l : List S107) (hl : l.length ≤ 1048576) (v : Int) (h0 : 0 ≤ v) (h1 : v ≤ 4611686018000000000) : Ev (fun k => laws_markParamS.f k l v) (v + ((4 * l.length : Nat) : Int), marked mP 4 l.length v) := by
  simp only [laws_markParamS.f]
  refine mark_ev mP 4 (by omega) laws_markParamS.l0 (fun l v i hl hi a b => ?_) (fun k l v => by simp only [laws_markParamS.l0, if_neg (natNotLt (Nat.lt_irrefl _))]) l hl v h0 h1
  obtain ⟨K, hK⟩ := mt_k v a (by omega)
  refine ⟨K, fun k hk => ?_⟩
  simp only [laws_markParamS.l0, if_pos (natLt hi), hK k hk, Option.bind_some, if_pos (nat0 i), i64_1 hi (show l.length ≤ 140737488351232 by omega), Int.toNat_natCast, w64 (a := v + 1) (by omega) (by omega), w64 (a := v + 1 + 1) (by omega) (by omega), w64 (a := v + 1 + 1 + 1) (by omega) (by omega), w64 (a := v + 1 + 1 + 1 + 1) (by omega) (by omega)]
  simp only [List.set_set, rdPm_set l i hi]
  rw [show v + 1 + 1 + 1 + 1 = v + ((4 : Nat) : Int) by omega, show (⟨mtF v, v + 1, v + 1 + 1, v + 1 + 1 + 1⟩ : S107) = mP v by unfold mP; rw [show v + 1 + 1 = v + 2 by omega, show v + 2 + 1 = v + 3 by omega]]
theorem markN_ev' (l : List S111) (hl : l.length ≤ 1048576) (v : Int) (h0 : 0 ≤ v) (h1 : v ≤ 4611686018000000000) : Ev (fun k => laws_markNodeS.f k l v) (v + ((5 * l.length : Nat) : Int), marked mN 5 l.length v) := by
  simp only [laws_markNodeS.f]
  refine mark_ev mN 5 (by omega) laws_markNodeS.l0 (fun l v i hl hi a b => ?_) (fun k l v => by simp only [laws_markNodeS.l0, if_neg (natNotLt (Nat.lt_irrefl _))]) l hl v h0 h1
  obtain ⟨K1, hK1⟩ := mt_k (v + 1) (by omega) (by omega)
  obtain ⟨K2, hK2⟩ := mt_k (v + 2) (by omega) (by omega)
  refine ⟨max K1 K2, fun k hk => ?_⟩
  have w1 : wrap64 (v + 1) = v + 1 := w64 (by omega) (by omega)
  have w2 : wrap64 (v + 1 + 1) = v + 2 := by rw [w64 (by omega) (by omega)]; omega
  have w3 : wrap64 (v + 2 + 1) = v + 3 := by rw [w64 (by omega) (by omega)]; omega
  have w4 : wrap64 (v + 3 + 1) = v + 4 := by rw [w64 (by omega) (by omega)]; omega
  have w5 : wrap64 (v + 4 + 1) = v + ((5 : Nat) : Int) := by rw [w64 (by omega) (by omega)]; omega
  simp only [laws_markNodeS.l0, if_pos (natLt hi), if_pos (nat0 i), w1, w2, w3, w4, w5, hK1 k (by omega), hK2 k (by omega), Option.bind_some, i64_1 hi (show l.length ≤ 140737488351232 by omega), Int.toNat_natCast, List.set_set, rdN_set l i hi]
  rfl
theorem heldN_ev' (n : Nat) (hn : n ≤ 1048576) (v : Int) (h0 : 0 ≤ v) (h1 : v ≤ 4611686018000000000) : Ev (fun k => laws_heldNodeS.f k (marked mN 5 n v) v) (v + ((5 * n : Nat) : Int)) := by
  simp only [laws_heldNodeS.f]
  refine held_ev mN 5 (by omega) laws_heldNodeS.l0 (fun l v i hl hi he a b => ?_) (fun k l v => by simp only [laws_heldNodeS.l0, if_neg (natNotLt (Nat.lt_irrefl _))]) n hn v h0 h1
  obtain ⟨K1, hK1⟩ := mt_k (v + 1) (by omega) (by omega)
  obtain ⟨K2, hK2⟩ := mt_k (v + 2) (by omega) (by omega)
  refine ⟨max K1 K2, fun k hk => ?_⟩
  have w1 : wrap64 (v + 1) = v + 1 := w64 (by omega) (by omega)
  have w2 : wrap64 (v + 1 + 1) = v + 2 := by rw [w64 (by omega) (by omega)]; omega
  have w3 : wrap64 (v + 2 + 1) = v + 3 := by rw [w64 (by omega) (by omega)]; omega
  have w4 : wrap64 (v + 3 + 1) = v + 4 := by rw [w64 (by omega) (by omega)]; omega
  have w5 : wrap64 (v + 4 + 1) = v + ((5 : Nat) : Int) := by rw [w64 (by omega) (by omega)]; omega
  simp only [laws_heldNodeS.l0, if_pos (natLt hi), if_pos (nat0 i), rdN l i hi, he, mN, if_true, w1, w2, w3, w4, w5, hK1 k (by omega), hK2 k (by omega), Option.bind_some, i64_1 hi (show l.length ≤ 140737488351232 by omega)]
theorem markProd_ev (p : PL) (h : p.small) : ∃ x, Ev (fun k => laws_markProduct.f k p.a p.b p.l2 p.l3 (p.l4.map cP) (p.l5.map cN) (p.l6.map cN) (p.l7.map cN) 1) x ∧ 0 ≤ x.1 := by
  have q2 := h.h2; have q3 := h.h3; have q4 := h.h4; have q5 := h.h5; have q6 := h.h6; have q7 := h.h7
  have r4 : (p.l4.map cP).length ≤ 1048576 := by rw [List.length_map]; exact q4
  have r5 : (p.l5.map cN).length ≤ 1048576 := by rw [List.length_map]; exact q5
  have r6 : (p.l6.map cN).length ≤ 1048576 := by rw [List.length_map]; exact q6
  have r7 : (p.l7.map cN).length ≤ 1048576 := by rw [List.length_map]; exact q7
  obtain ⟨v2, e2⟩ : ∃ v : Int, v = 1 + ((1 * p.l2.length : Nat) : Int) := ⟨_, rfl⟩
  obtain ⟨v3, e3⟩ : ∃ v : Int, v = v2 + ((1 * p.l3.length : Nat) : Int) := ⟨_, rfl⟩
  obtain ⟨v4, e4⟩ : ∃ v : Int, v = v3 + ((4 * (p.l4.map cP).length : Nat) : Int) := ⟨_, rfl⟩
  obtain ⟨v5, e5⟩ : ∃ v : Int, v = v4 + ((5 * (p.l5.map cN).length : Nat) : Int) := ⟨_, rfl⟩
  obtain ⟨v6, e6⟩ : ∃ v : Int, v = v5 + ((5 * (p.l6.map cN).length : Nat) : Int) := ⟨_, rfl⟩
  obtain ⟨v7, e7⟩ : ∃ v : Int, v = v6 + ((5 * (p.l7.map cN).length : Nat) : Int) := ⟨_, rfl⟩
  have m2 := markS_ev' p.l2 q2 1 (by omega) (by omega)
  have m3 := markS_ev' p.l3 q3 v2 (by omega) (by omega)
  have m4 := markP_ev' _ r4 v3 (by omega) (by omega)
  have m5 := markN_ev' _ r5 v4 (by omega) (by omega)
  have m6 := markN_ev' _ r6 v5 (by omega) (by omega)
  have m7 := markN_ev' _ r7 v6 (by omega) (by omega)
  rw [← e2] at m2
  rw [← e3] at m3
  rw [← e4] at m4
  rw [← e5] at m5
  rw [← e6] at m6
  rw [← e7] at m7
  refine ⟨(v7, marked mS 1 p.l2.length 1, marked mS 1 p.l3.length v2, marked mP 4 (p.l4.map cP).length v3, marked mN 5 (p.l5.map cN).length v4, marked mN 5 (p.l6.map cN).length v5, marked mN 5 (p.l7.map cN).length v6), ?_, (show 0 ≤ v7 by omega)⟩
  · simp only [laws_markProduct.f]
    refine Ev.bind m2 ?_
    refine Ev.bind m3 ?_
    refine Ev.bind m4 ?_
    refine Ev.bind m5 ?_
    refine Ev.bind m6 ?_
    refine Ev.bind m7 ?_
    exact Ev.now _

/-- The list of a hook. -/
def hookL (p : PL) (h : Int) : List S111 := if h = 1 then p.l5.map cN else if h = 2 then p.l6.map cN else if h = 3 then p.l7.map cN else []
theorem hookL_len (p : PL) (q : p.small) (h : Int) : (hookL p h).length ≤ 1048576 := by
  have q5 := q.h5; have q6 := q.h6; have q7 := q.h7
  unfold hookL
  split
  · rw [List.length_map]; exact q5
  · split
    · rw [List.length_map]; exact q6
    · split
      · rw [List.length_map]; exact q7
      · simp
theorem specHook (p : PL) (q : p.small) (h : Int) : spec_HookOf.f p.a p.b p.l2 p.l3 (p.l4.map cP) (p.l5.map cN) (p.l6.map cN) (p.l7.map cN) h = some (hookL p h) := by
  have q5 := q.h5; have q6 := q.h6; have q7 := q.h7
  unfold spec_HookOf.f hookL
  simp only [Option.bind_some, List.nil_append, List.length_nil, List.length_map, Nat.zero_add]
  by_cases h1 : h = 1
  · rw [if_pos h1, if_pos h1, if_pos (by omega)]
  · rw [if_neg h1, if_neg h1]
    by_cases h2 : h = 2
    · rw [if_pos h2, if_pos h2, if_pos (by omega)]
    · rw [if_neg h2, if_neg h2]
      by_cases h3 : h = 3
      · rw [if_pos h3, if_pos h3, if_pos (by omega)]
      · rw [if_neg h3, if_neg h3, if_pos (by omega)]
theorem implHook (p : PL) (q : p.small) (h : Int) : impl_HookOf.f p.a p.b p.l2 p.l3 (p.l4.map cP) (p.l5.map cN) (p.l6.map cN) (p.l7.map cN) h = some (hookL p h) := by
  have q5 := q.h5; have q6 := q.h6; have q7 := q.h7
  unfold impl_HookOf.f hookL impl_Node.f
  simp only [List.length_map]
  by_cases h1 : h = 1
  · rw [if_pos h1, if_pos h1, if_pos (by omega)]
  · rw [if_neg h1, if_neg h1]
    by_cases h2 : h = 2
    · rw [if_pos h2, if_pos h2, if_pos (by omega)]
    · rw [if_neg h2, if_neg h2]
      by_cases h3 : h = 3
      · rw [if_pos h3, if_pos h3, if_pos (by omega)]
      · rw [if_neg h3, if_neg h3]
theorem FnExactHookOf : laws_FnExactHookOf.Pure := by
  intro a b l2 l3 l4 l5 l6 l7 h ha hb h2 h3 h4 h5 h6 h7 hh
  refine Ev.rounds (g := fun k => laws_FnExactHookOf.f k a b l2 l3 l4 l5 l6 l7 h) ?_
  obtain ⟨p, hp⟩ : ∃ p : PL, p = ⟨a, b, l2, l3, l4, l5, l6, l7⟩ := ⟨_, rfl⟩
  have hok : p.ok := by
    subst hp
    exact ⟨ha, h2, h3, ⟨h4.1, fun x hx => (h4.2 x hx).1⟩, ⟨h5.1, fun x hx => ⟨(h5.2 x hx).2.1, (h5.2 x hx).2.2.1⟩⟩, ⟨h6.1, fun x hx => ⟨(h6.2 x hx).2.1, (h6.2 x hx).2.2.1⟩⟩, ⟨h7.1, fun x hx => ⟨(h7.2 x hx).2.1, (h7.2 x hx).2.2.1⟩⟩⟩
  have goal : Ev (fun k => laws_FnExactHookOf.f k p.a p.b p.l2 p.l3 p.l4 p.l5 p.l6 p.l7 h) true := by
    simp only [laws_FnExactHookOf.f]
    obtain ⟨t, e, hs, _⟩ := szProd_ev p hok 1048576 (by omega) (by omega)
    refine Ev.bind e ?_
    by_cases ht : t < 0
    · simp only [if_pos ht]; exact Ev.now _
    · simp only [if_neg ht]
      have q := hs (by omega)
      have hl := hookL_len p q h
      obtain ⟨x, em, hx⟩ := markProd_ev p q
      refine Ev.bind (toProd_ev p q) ?_
      simp only [specHook p q h, Option.bind_some]
      refine Ev.bind (toProd_ev p q) ?_
      simp only [implHook p q h, Option.bind_some]
      refine Ev.bind (eqN_ev _ (by omega)) ?_
      simp only [if_true]
      refine Ev.bind (toProd_ev p q) ?_
      simp only []
      refine Ev.bind (eqProd_ev p q) ?_
      simp only [if_true]
      refine Ev.bind em ?_
      simp only [if_neg (show ¬ x.1 < 0 by omega)]
      refine Ev.bind (eqN_ev _ (by omega)) ?_
      simp only [Bool.not_true]
      refine ev_succ ?_
      simp only [laws_FnExactHookOf.j0, Bool.false_eq_true, if_false]
      have eh := heldN_ev' (hookL p h).length hl 1 (by omega) (by omega)
      have hn : ¬ (1 : Int) + ((5 * (hookL p h).length : Nat) : Int) < 0 := by omega
      refine Ev.bind (markN_ev' _ hl 1 (by omega) (by omega)) ?_
      refine Ev.bind eh ?_
      simp only [if_neg hn, if_true]
      refine Ev.bind (toProd_ev p q) ?_
      simp only [implHook p q h, Option.bind_some]
      refine Ev.bind (eqN_ev _ (by omega)) ?_
      simp only [if_true]
      refine Ev.bind eh ?_
      simp only [if_neg hn, if_true]
      exact Ev.now _
  subst hp
  exact goal

end Go.Proofs.Ytaiekkifdahpcaa.Pure
