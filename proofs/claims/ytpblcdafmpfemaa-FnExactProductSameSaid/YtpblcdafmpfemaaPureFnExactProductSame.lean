/- At every two products the program's ProductSame is the reference's ProductSame. -/
import Derived.Test.YtpblcdafmpfemaaPFnExactProductSamex9
import Derived.Test.YtpblcdafmpfemaaQLib
import Derived.Test.YtpblcdafmpfemaaQLoops
namespace Go.Proofs.Ytpblcdafmpfemaa.Pure
set_option linter.unusedSimpArgs false
set_option linter.unusedVariables false
open Go.RowKit Go.Proofs.Ytpblcdafmpfemaa.PFnExactProductSame Go.Proofs.YtpblcdafmpfemaaW.PrintWords Go.Proofs.YtpblcdafmpfemaaW.PrintLast Go.Proofs.YtpblcdafmpfemaaW.PrintMore
open Go.Proofs.Ytpblcdafmpfemaa.Q
theorem eqS_l0 (l : List ByteArray) (hl : l.length ≤ 140737488351232) : ∀ (d i : Nat), l.length - i = d → Ev (fun k => laws_eqStringS.l0 k l l i) true := by
  intro d
  induction d with
  | zero =>
    intro i hd
    refine ev_succ ?_
    simp only [laws_eqStringS.l0, if_neg (natNotLt (show ¬ i < l.length by omega))]; exact Ev.now _
  | succ d ih =>
    intro i hd
    refine ev_succ ?_
    have hi : i < l.length := by omega
    simp only [laws_eqStringS.l0, if_pos (natLt hi), if_pos (nat0 i), if_true, wsucc hi hl]
    exact ih _ (by omega)
theorem eqS_ev (l : List ByteArray) (hl : l.length ≤ 140737488351232) : Ev (fun k => laws_eqStringS.f k l l) true := by
  simp only [laws_eqStringS.f, if_true]; exact eqS_l0 l hl _ 0 rfl

def tot (l : List ByteArray) : Nat := (l.map (·.size)).sum
theorem rd_at (l : List ByteArray) (i : Nat) (h : i < l.length) : rdOf ByteArray.empty l (i : Int) = l[i] := by
  unfold rdOf; rw [Int.toNat_natCast, List.getD_eq_getElem?_getD, List.getElem?_eq_getElem h]; rfl
theorem drop_at {α : Type} (l : List α) (i : Nat) (h : i < l.length) : l.drop i = l[i] :: l.drop (i + 1) := List.drop_eq_getElem_cons h
theorem tot_at (l : List ByteArray) (i : Nat) (h : i < l.length) : tot (l.drop i) = l[i].size + tot (l.drop (i + 1)) := by
  rw [drop_at l i h]; unfold tot; rw [List.map_cons, List.sum_cons]
theorem tot_mem (l : List ByteArray) (x : ByteArray) (h : x ∈ l) : x.size ≤ tot l := by
  induction l with
  | nil => cases h
  | cons y l ih =>
    rcases List.mem_cons.1 h with rfl | h
    · simp [tot]
    · have := ih h; simp only [tot, List.map_cons, List.sum_cons] at this ⊢; omega

theorem szS_l0 (l : List ByteArray) (hl : l.length ≤ 140737488351232) (hx : ∀ x ∈ l, x.size ≤ maxLen) : ∀ (d i : Nat) (left : Int), l.length - i = d → 0 ≤ left → left ≤ 1048576 →
    ∃ t, Ev (fun k => laws_szStringS.l0 k l left i) t ∧ (0 ≤ t → t + (tot (l.drop i) : Int) ≤ left) ∧ t ≤ left := by
  intro d
  induction d with
  | zero =>
    intro i left hd h0 h1
    refine ⟨left, ev_succ ?_, fun _ => ?_, Int.le_refl _⟩
    · simp only [laws_szStringS.l0, if_neg (natNotLt (show ¬ i < l.length by omega))]; exact Ev.now _
    · rw [List.drop_eq_nil_of_le (by omega)]; simp [tot]
  | succ d ih =>
    intro i left hd h0 h1
    have hi : i < l.length := by omega
    have hs := hx _ (List.getElem_mem hi)
    unfold maxLen at hs
    have hw : wrap64 (left - (l[i].size : Int)) = left - (l[i].size : Int) := w64 (by omega) (by omega)
    by_cases hn : left - (l[i].size : Int) < 0
    · refine ⟨-1, ev_succ ?_, fun h => absurd h (by decide), by omega⟩
      simp only [laws_szStringS.l0, if_pos (natLt hi), if_pos (nat0 i), rd_at l i hi, hw, if_pos hn]; exact Ev.now _
    · obtain ⟨t, e, h2, h3⟩ := ih (i + 1) (left - l[i].size) (by omega) (by omega) (by omega)
      refine ⟨t, ev_succ ?_, fun h => ?_, by omega⟩
      · simp only [laws_szStringS.l0, if_pos (natLt hi), if_pos (nat0 i), rd_at l i hi, hw, if_neg hn, wsucc hi hl]; exact e
      · have := h2 h; rw [tot_at l i hi]; omega
theorem szS_ev (l : List ByteArray) (hm : l.length ≤ maxLen) (hx : ∀ x ∈ l, x.size ≤ maxLen) (left : Int) (h0 : 0 ≤ left) (h1 : left ≤ 1048576) :
    ∃ t, Ev (fun k => laws_szStringS.f k l left) t ∧ (0 ≤ t → t + (l.length : Int) + (tot l : Int) ≤ left) := by
  unfold maxLen at hm
  have hw : wrap64 (left - (l.length : Int)) = left - (l.length : Int) := w64 (by omega) (by omega)
  by_cases hn : left - (l.length : Int) < 0
  · refine ⟨-1, ?_, fun h => absurd h (by decide)⟩
    simp only [laws_szStringS.f, hw, if_pos hn]; exact Ev.now _
  · obtain ⟨t, e, h2, _⟩ := szS_l0 l (by omega) hx l.length 0 (left - l.length) (by omega) (by omega) (by omega)
    refine ⟨t, ?_, fun h => ?_⟩
    · simp only [laws_szStringS.f, hw, if_neg hn]; exact e
    · have := h2 h; rw [List.drop_zero] at this; omega
theorem toS_l0 (l : List ByteArray) (hl : l.length ≤ 17592186044416) : ∀ (d i : Nat) (x : List ByteArray), l.length - i = d → i ≤ l.length → x.length = l.length → x.take i = l.take i → Ev (fun k => laws_toStringS.l0 k l x i) l := by
  intro d
  induction d with
  | zero =>
    intro i x hd hi hx h
    refine ev_succ ?_
    have e : x = l := by rw [← List.take_of_length_le (l := x) (i := i) (by omega), h, List.take_of_length_le (by omega)]
    simp only [laws_toStringS.l0, if_neg (natNotLt (show ¬ i < l.length by omega)), e]; exact Ev.now _
  | succ d ih =>
    intro i x hd hi hx h
    have hi : i < l.length := by omega
    refine ev_succ ?_
    simp only [laws_toStringS.l0, if_pos (natLt hi), if_pos (nat0 i), if_pos (natLt (show i < x.length by omega)), rd_at l i hi, wsucc hi (by omega), Int.toNat_natCast]
    refine ih (i + 1) (x.set i l[i]) (by omega) (by omega) (by rw [List.length_set]; exact hx) ?_
    rw [List.take_succ_eq_append_getElem (by rw [List.length_set]; omega), List.take_succ_eq_append_getElem hi, List.getElem_set_self, List.take_set_of_le (Nat.le_refl _), h]
theorem toS_ev (l : List ByteArray) (hl : l.length ≤ 17592186044416) : Ev (fun k => laws_toStringS.f k l) l := by
  simp only [laws_toStringS.f, if_pos (nat0 l.length), Int.toNat_natCast, if_pos hl]
  exact toS_l0 l hl l.length 0 _ rfl (by omega) (by rw [List.length_replicate]) rfl

theorem rdN (l : List S88) (i : Nat) (h : i < l.length) : rd_T88 l (i : Int) = l[i] := by
  unfold rd_T88; rw [Int.toNat_natCast, List.getD_eq_getElem?_getD, List.getElem?_eq_getElem h]; rfl
theorem rdNl (l : List S117) (i : Nat) (h : i < l.length) : rd_T117 l (i : Int) = l[i] := by
  unfold rd_T117; rw [Int.toNat_natCast, List.getD_eq_getElem?_getD, List.getElem?_eq_getElem h]; rfl
def cN (x : S117) : S88 := ⟨x.f0, x.f1, x.f2, x.f3, x.f4⟩
theorem szN_ev (l : List S117) (hm : l.length ≤ maxLen) (hx : ∀ x ∈ l, x.f1.size ≤ maxLen ∧ x.f2.size ≤ maxLen) (left : Int) (h0 : 0 ≤ left) (h1 : left ≤ 1048576) :
    ∃ t, Ev (fun k => laws_szNodeS.f k l left) t ∧ (0 ≤ t → t + (l.length : Int) ≤ left ∧ ∀ x ∈ l, x.f1.size + x.f2.size ≤ 1048576) ∧ t ≤ left := by
  unfold maxLen at hm
  have hw : wrap64 (left - (l.length : Int)) = left - (l.length : Int) := w64 (by omega) (by omega)
  by_cases hn : left - (l.length : Int) < 0
  · refine ⟨-1, ?_, fun h => absurd h (by decide), by omega⟩
    simp only [laws_szNodeS.f, hw, if_pos hn]; exact Ev.now _
  · obtain ⟨t, e, h2, h3⟩ := sz_ev (fun x : S117 => x.f1.size + x.f2.size) laws_szNodeS.l0 l (by omega)
      (fun k i v hi a b c => by
        have hs := hx _ (List.getElem_mem hi)
        unfold maxLen at hs
        have w1 : wrap64 (v - (l[i].f1.size : Int)) = v - (l[i].f1.size : Int) := w64 (by omega) (by omega)
        have w2 : wrap64 (v - (l[i].f1.size : Int) - (l[i].f2.size : Int)) = v - (l[i].f1.size : Int) - (l[i].f2.size : Int) := w64 (by omega) (by omega)
        simp only [laws_szNodeS.l0, if_pos (natLt hi), if_pos (nat0 i), rdNl l i hi, laws_szNode.f, w1, w2, if_neg (show ¬ v - (l[i].f1.size : Int) < 0 by omega), if_neg (show ¬ v - (l[i].f1.size : Int) - (l[i].f2.size : Int) < 0 by omega), Option.bind_some, i64_1 hi (show l.length ≤ 140737488351232 by omega)]
        rw [show v - ((l[i].f1.size + l[i].f2.size : Nat) : Int) = v - (l[i].f1.size : Int) - (l[i].f2.size : Int) by omega])
      (fun k i v hi a b c => by
        have hs := hx _ (List.getElem_mem hi)
        unfold maxLen at hs
        have w1 : wrap64 (v - (l[i].f1.size : Int)) = v - (l[i].f1.size : Int) := w64 (by omega) (by omega)
        by_cases q : v - (l[i].f1.size : Int) < 0
        · simp only [laws_szNodeS.l0, if_pos (natLt hi), if_pos (nat0 i), rdNl l i hi, laws_szNode.f, w1, if_pos q, Option.bind_some]; rfl
        · have w2 : wrap64 (v - (l[i].f1.size : Int) - (l[i].f2.size : Int)) = v - (l[i].f1.size : Int) - (l[i].f2.size : Int) := w64 (by omega) (by omega)
          simp only [laws_szNodeS.l0, if_pos (natLt hi), if_pos (nat0 i), rdNl l i hi, laws_szNode.f, w1, w2, if_neg q, if_pos (show v - (l[i].f1.size : Int) - (l[i].f2.size : Int) < 0 by omega), Option.bind_some]; rfl)
      (fun k v => by simp only [laws_szNodeS.l0, if_neg (natNotLt (Nat.lt_irrefl _))]) (left - l.length) (by omega) (by omega)
    refine ⟨t, ?_, fun h => ?_, by omega⟩
    · simp only [laws_szNodeS.f, hw, if_neg hn]; exact e
    · have q := h2 h
      refine ⟨by omega, fun x hx => ?_⟩
      have hm : x.f1.size + x.f2.size ≤ (l.map fun x : S117 => x.f1.size + x.f2.size).sum := by
        clear q h2 h3 e hn hw
        induction l with
        | nil => cases hx
        | cons y l ih =>
          rw [List.map_cons, List.sum_cons]
          rcases List.mem_cons.1 hx with z | z
          · subst z; omega
          · have := ih (by simp at hm; omega) (fun x hx' => by rename_i hxs; exact hxs x (List.mem_cons_of_mem _ hx')) z; omega
      omega
theorem toN_ev (l : List S117) (hl : l.length ≤ 1048576) : Ev (fun k => laws_toNodeS.f k l) (l.map cN) := by
  simp only [laws_toNodeS.f, if_pos (nat0 l.length), Int.toNat_natCast, if_pos (show l.length ≤ 5026338869833 by omega)]
  refine map_ev cN laws_toNodeS.l0 1048576 (fun k x y i hB hx hy => ?_) (fun k x y => by simp only [laws_toNodeS.l0, if_neg (natNotLt (Nat.lt_irrefl _))]) l _ (List.length_replicate) hl
  simp only [laws_toNodeS.l0, if_pos (natLt hx), if_pos (nat0 i), laws_toNode.f, Option.bind_some, if_pos (natLt hy), rdNl x i hx, i64_1 hx (show x.length ≤ 140737488351232 by omega), Int.toNat_natCast]; rfl
theorem eqN_ev (l : List S88) (hl : l.length ≤ 140737488351232) : Ev (fun k => laws_eqNodeS.f k l l) true := by
  simp only [laws_eqNodeS.f, if_true]
  exact all_ev true (fun k l => laws_eqNodeS.l0 k l l) l (fun k i hi => by simp only [laws_eqNodeS.l0, if_pos (natLt hi), if_pos (nat0 i), laws_eqNode.f, if_true, Option.bind_some, i64_1 hi hl]) (fun k => by simp only [laws_eqNodeS.l0, if_neg (natNotLt (Nat.lt_irrefl _))])

theorem rdPm (l : List S82) (i : Nat) (h : i < l.length) : rd_T82 l (i : Int) = l[i] := by
  unfold rd_T82; rw [Int.toNat_natCast, List.getD_eq_getElem?_getD, List.getElem?_eq_getElem h]; rfl
theorem rdPml (l : List S115) (i : Nat) (h : i < l.length) : rd_T115 l (i : Int) = l[i] := by
  unfold rd_T115; rw [Int.toNat_natCast, List.getD_eq_getElem?_getD, List.getElem?_eq_getElem h]; rfl
def cP (x : S115) : S82 := ⟨x.f0, x.f1, x.f2, x.f3⟩
theorem szPm_ev (l : List S115) (hm : l.length ≤ maxLen) (hx : ∀ x ∈ l, x.f0.size ≤ maxLen) (left : Int) (h0 : 0 ≤ left) (h1 : left ≤ 1048576) :
    ∃ t, Ev (fun k => laws_szParamS.f k l left) t ∧ (0 ≤ t → t + (l.length : Int) ≤ left ∧ ∀ x ∈ l, x.f0.size ≤ 1048576) ∧ t ≤ left := by
  unfold maxLen at hm
  have hw : wrap64 (left - (l.length : Int)) = left - (l.length : Int) := w64 (by omega) (by omega)
  by_cases hn : left - (l.length : Int) < 0
  · refine ⟨-1, ?_, fun h => absurd h (by decide), by omega⟩
    simp only [laws_szParamS.f, hw, if_pos hn]; exact Ev.now _
  · obtain ⟨t, e, h2, h3⟩ := sz_ev (fun x : S115 => x.f0.size) laws_szParamS.l0 l (by omega)
      (fun k i v hi a b c => by
        have hs := hx _ (List.getElem_mem hi)
        unfold maxLen at hs
        have w1 : wrap64 (v - (l[i].f0.size : Int)) = v - (l[i].f0.size : Int) := w64 (by omega) (by omega)
        simp only [laws_szParamS.l0, if_pos (natLt hi), if_pos (nat0 i), rdPml l i hi, laws_szParam.f, w1, if_neg (show ¬ v - (l[i].f0.size : Int) < 0 by omega), Option.bind_some, i64_1 hi (show l.length ≤ 140737488351232 by omega)])
      (fun k i v hi a b c => by
        have hs := hx _ (List.getElem_mem hi)
        unfold maxLen at hs
        have w1 : wrap64 (v - (l[i].f0.size : Int)) = v - (l[i].f0.size : Int) := w64 (by omega) (by omega)
        simp only [laws_szParamS.l0, if_pos (natLt hi), if_pos (nat0 i), rdPml l i hi, laws_szParam.f, w1, if_pos c, Option.bind_some]; rfl)
      (fun k v => by simp only [laws_szParamS.l0, if_neg (natNotLt (Nat.lt_irrefl _))]) (left - l.length) (by omega) (by omega)
    refine ⟨t, ?_, fun h => ?_, by omega⟩
    · simp only [laws_szParamS.f, hw, if_neg hn]; exact e
    · have q := h2 h
      refine ⟨by omega, fun z hz => ?_⟩
      have hq : ∀ (m : List S115), ∀ z ∈ m, z.f0.size ≤ (m.map fun x : S115 => x.f0.size).sum := by
        intro m
        induction m with
        | nil => intro z hz; cases hz
        | cons y m ih =>
          intro z hz
          rw [List.map_cons, List.sum_cons]
          rcases List.mem_cons.1 hz with c | c
          · subst c; omega
          · have := ih z c; omega
      have := hq l z hz
      omega
theorem toPm_ev (l : List S115) (hl : l.length ≤ 1048576) : Ev (fun k => laws_toParamS.f k l) (l.map cP) := by
  simp only [laws_toParamS.f, if_pos (nat0 l.length), Int.toNat_natCast, if_pos (show l.length ≤ 7036874417766 by omega)]
  refine map_ev cP laws_toParamS.l0 1048576 (fun k x y i hB hx hy => ?_) (fun k x y => by simp only [laws_toParamS.l0, if_neg (natNotLt (Nat.lt_irrefl _))]) l _ (List.length_replicate) hl
  simp only [laws_toParamS.l0, if_pos (natLt hx), if_pos (nat0 i), laws_toParam.f, Option.bind_some, if_pos (natLt hy), rdPml x i hx, i64_1 hx (show x.length ≤ 140737488351232 by omega), Int.toNat_natCast]; rfl
theorem eqPm_ev (l : List S82) (hl : l.length ≤ 140737488351232) : Ev (fun k => laws_eqParamS.f k l l) true := by
  simp only [laws_eqParamS.f, if_true]
  exact all_ev true (fun k l => laws_eqParamS.l0 k l l) l (fun k i hi => by simp only [laws_eqParamS.l0, if_pos (natLt hi), if_pos (nat0 i), laws_eqParam.f, if_true, Option.bind_some, i64_1 hi hl]) (fun k => by simp only [laws_eqParamS.l0, if_neg (natNotLt (Nat.lt_irrefl _))])
structure PL where
  a : ByteArray
  b : Int
  l2 : List ByteArray
  l3 : List ByteArray
  l4 : List S115
  l5 : List S117
  l6 : List S117
  l7 : List S117
/-- What is known of a product that comes in. -/
structure PL.ok (p : PL) : Prop where
  ha : p.a.size ≤ maxLen
  h2 : p.l2.length ≤ maxLen ∧ ∀ x ∈ p.l2, x.size ≤ maxLen
  h3 : p.l3.length ≤ maxLen ∧ ∀ x ∈ p.l3, x.size ≤ maxLen
  h4 : p.l4.length ≤ maxLen ∧ ∀ x ∈ p.l4, x.f0.size ≤ maxLen
  h5 : p.l5.length ≤ maxLen ∧ ∀ x ∈ p.l5, x.f1.size ≤ maxLen ∧ x.f2.size ≤ maxLen
  h6 : p.l6.length ≤ maxLen ∧ ∀ x ∈ p.l6, x.f1.size ≤ maxLen ∧ x.f2.size ≤ maxLen
  h7 : p.l7.length ≤ maxLen ∧ ∀ x ∈ p.l7, x.f1.size ≤ maxLen ∧ x.f2.size ≤ maxLen
structure PL.small (p : PL) : Prop where
  h2 : p.l2.length ≤ 1048576
  h3 : p.l3.length ≤ 1048576
  h4 : p.l4.length ≤ 1048576
  h5 : p.l5.length ≤ 1048576
  h6 : p.l6.length ≤ 1048576
  h7 : p.l7.length ≤ 1048576
  sa : p.a.size ≤ 1048576
  s2 : ∀ x ∈ p.l2, x.size ≤ 1048576
  s3 : ∀ x ∈ p.l3, x.size ≤ 1048576
  s4 : ∀ x ∈ p.l4, x.f0.size ≤ 1048576
  s5 : ∀ x ∈ p.l5, x.f1.size + x.f2.size ≤ 1048576
  s6 : ∀ x ∈ p.l6, x.f1.size + x.f2.size ≤ 1048576
  s7 : ∀ x ∈ p.l7, x.f1.size + x.f2.size ≤ 1048576
theorem mem_tot (l : List ByteArray) : ∀ x ∈ l, x.size ≤ tot l := by
  induction l with
  | nil => intro x hx; cases hx
  | cons y l ih =>
    intro x hx
    have e : tot (y :: l) = y.size + tot l := by simp [tot]
    rw [e]
    rcases List.mem_cons.1 hx with z | z
    · subst z; omega
    · have := ih x z; omega
theorem szProd_ev (p : PL) (h : p.ok) (left : Int) (q0 : 0 ≤ left) (q1 : left ≤ 1048576) : ∃ t, Ev (fun k => laws_szProduct.f k p.a p.b p.l2 p.l3 p.l4 p.l5 p.l6 p.l7 left) t ∧ (0 ≤ t → p.small) ∧ t ≤ left := by
  have ha := h.ha
  unfold maxLen at ha
  have hw : wrap64 (left - (p.a.size : Int)) = left - (p.a.size : Int) := w64 (by omega) (by omega)
  have fin : ∀ t : Int, t = -1 → (0 ≤ t → p.small) ∧ t ≤ left := fun t ht => ⟨fun h => by omega, by omega⟩
  have now1 : Ev (fun _ => some (-1 : Int)) (-1) := Ev.now _
  by_cases hn : left - (p.a.size : Int) < 0
  · refine ⟨-1, ?_, fin _ rfl⟩
    simp only [laws_szProduct.f, hw, if_pos hn]; exact now1
  simp only [laws_szProduct.f, hw, if_neg hn]
  obtain ⟨t2, e2, a2⟩ := szS_ev p.l2 h.h2.1 h.h2.2 _ (show 0 ≤ left - (p.a.size : Int) by omega) (by omega)
  by_cases n2 : t2 < 0
  · exact ⟨-1, Ev.bind e2 (by simp only [if_pos n2]; exact now1), fin _ rfl⟩
  have a2' := a2 (by omega)
  obtain ⟨t3, e3, a3⟩ := szS_ev p.l3 h.h3.1 h.h3.2 t2 (by omega) (by omega)
  by_cases n3 : t3 < 0
  · exact ⟨-1, Ev.bind e2 (by simp only [if_neg n2]; exact Ev.bind e3 (by simp only [if_pos n3]; exact now1)), fin _ rfl⟩
  have a3' := a3 (by omega)
  obtain ⟨t4, e4, a4, b4⟩ := szPm_ev p.l4 h.h4.1 h.h4.2 t3 (by omega) (by omega)
  by_cases n4 : t4 < 0
  · exact ⟨-1, Ev.bind e2 (by simp only [if_neg n2]; exact Ev.bind e3 (by simp only [if_neg n3]; exact Ev.bind e4 (by simp only [if_pos n4]; exact now1))), fin _ rfl⟩
  obtain ⟨a4', s4⟩ := a4 (by omega)
  obtain ⟨t5, e5, a5, b5⟩ := szN_ev p.l5 h.h5.1 h.h5.2 t4 (by omega) (by omega)
  by_cases n5 : t5 < 0
  · exact ⟨-1, Ev.bind e2 (by simp only [if_neg n2]; exact Ev.bind e3 (by simp only [if_neg n3]; exact Ev.bind e4 (by simp only [if_neg n4]; exact Ev.bind e5 (by simp only [if_pos n5]; exact now1)))), fin _ rfl⟩
  obtain ⟨a5', s5⟩ := a5 (by omega)
  obtain ⟨t6, e6, a6, b6⟩ := szN_ev p.l6 h.h6.1 h.h6.2 t5 (by omega) (by omega)
  by_cases n6 : t6 < 0
  · exact ⟨-1, Ev.bind e2 (by simp only [if_neg n2]; exact Ev.bind e3 (by simp only [if_neg n3]; exact Ev.bind e4 (by simp only [if_neg n4]; exact Ev.bind e5 (by simp only [if_neg n5]; exact Ev.bind e6 (by simp only [if_pos n6]; exact now1))))), fin _ rfl⟩
  obtain ⟨a6', s6⟩ := a6 (by omega)
  obtain ⟨t7, e7, a7, b7⟩ := szN_ev p.l7 h.h7.1 h.h7.2 t6 (by omega) (by omega)
  by_cases n7 : t7 < 0
  · exact ⟨-1, Ev.bind e2 (by simp only [if_neg n2]; exact Ev.bind e3 (by simp only [if_neg n3]; exact Ev.bind e4 (by simp only [if_neg n4]; exact Ev.bind e5 (by simp only [if_neg n5]; exact Ev.bind e6 (by simp only [if_neg n6]; exact Ev.bind e7 (by simp only [if_pos n7]; exact now1)))))), fin _ rfl⟩
  obtain ⟨a7', s7⟩ := a7 (by omega)
  exact ⟨t7, Ev.bind e2 (by simp only [if_neg n2]; exact Ev.bind e3 (by simp only [if_neg n3]; exact Ev.bind e4 (by simp only [if_neg n4]; exact Ev.bind e5 (by simp only [if_neg n5]; exact Ev.bind e6 (by simp only [if_neg n6]; exact Ev.bind e7 (by simp only [if_neg n7]; exact Ev.now _)))))),
    fun _ => ⟨by omega, by omega, by omega, by omega, by omega, by omega, by omega, fun x hx => by have := mem_tot _ x hx; omega, fun x hx => by have := mem_tot _ x hx; omega, s4, s5, s6, s7⟩, by omega⟩
theorem toProd_ev (p : PL) (h : p.small) : Ev (fun k => laws_toProduct.f k p.a p.b p.l2 p.l3 p.l4 p.l5 p.l6 p.l7) (p.a, p.b, p.l2, p.l3, p.l4.map cP, p.l5.map cN, p.l6.map cN, p.l7.map cN) := by
  simp only [laws_toProduct.f]
  refine Ev.bind (toS_ev p.l2 (by have := h.h2; omega)) ?_
  refine Ev.bind (toS_ev p.l3 (by have := h.h3; omega)) ?_
  refine Ev.bind (toPm_ev p.l4 h.h4) ?_
  refine Ev.bind (toN_ev p.l5 h.h5) ?_
  refine Ev.bind (toN_ev p.l6 h.h6) ?_
  refine Ev.bind (toN_ev p.l7 h.h7) ?_
  exact Ev.now _
theorem eqProd_ev (p : PL) (h : p.small) : Ev (fun k => laws_eqProduct.f k p.a p.b p.l2 p.l3 (p.l4.map cP) (p.l5.map cN) (p.l6.map cN) (p.l7.map cN) p.a p.b p.l2 p.l3 (p.l4.map cP) (p.l5.map cN) (p.l6.map cN) (p.l7.map cN)) true := by
  simp only [laws_eqProduct.f, if_true]
  refine Ev.bind (eqS_ev p.l2 (by have := h.h2; omega)) ?_
  simp only [if_true]
  refine Ev.bind (eqS_ev p.l3 (by have := h.h3; omega)) ?_
  simp only [if_true]
  refine Ev.bind (eqPm_ev _ (by rw [List.length_map]; have := h.h4; omega)) ?_
  simp only [if_true]
  refine Ev.bind (eqN_ev _ (by rw [List.length_map]; have := h.h5; omega)) ?_
  simp only [if_true]
  refine Ev.bind (eqN_ev _ (by rw [List.length_map]; have := h.h6; omega)) ?_
  simp only [if_true]
  refine Ev.bind (eqN_ev _ (by rw [List.length_map]; have := h.h7; omega)) ?_
  simp only [if_true]
  exact Ev.now _

theorem two_ev {α : Type} (eq : α → α → Bool) (e : Bool) (g : Nat → Int → Option Bool) (l m : List α) (hlen : l.length = m.length)
    (hs : ∀ k (i : Nat) (h : i < l.length) (h' : i < m.length), g (k + 1) (i : Int) = if eq l[i] m[i] = true then g k ((i + 1 : Nat) : Int) else some false)
    (he : Ev (fun k => g k (l.length : Int)) e) : Ev (fun k => g k 0) (((l.zip m).all fun p => eq p.1 p.2) && e) := by
  have key : ∀ (d i : Nat), l.length - i = d → i ≤ l.length → Ev (fun k => g k (i : Int)) ((((l.drop i).zip (m.drop i)).all fun p => eq p.1 p.2) && e) := by
    intro d
    induction d with
    | zero =>
      intro i hd hi
      have hi' : i = l.length := by omega
      subst hi'
      rw [List.drop_length]; exact he
    | succ d ih =>
      intro i hd hi
      have h1 : i < l.length := by omega
      have h2 : i < m.length := by omega
      rw [List.drop_eq_getElem_cons h1, List.drop_eq_getElem_cons h2, List.zip_cons_cons, List.all_cons]
      refine ev_succ ?_
      simp only [hs _ i h1 h2]
      cases hq : eq l[i] m[i]
      · simp only [Bool.false_eq_true, if_false, Bool.false_and]; exact Ev.now _
      · simp only [if_true, Bool.true_and]; exact ih (i + 1) (by omega) (by omega)
  exact key l.length 0 (by omega) (by omega)
def eqT (x y : ByteArray) : Bool := decide (x.toList = y.toList)
def eqPm (x y : S82) : Bool := (x.f0.toList == y.f0.toList) && (x.f1 == y.f1 && (x.f2 == y.f2 && x.f3 == y.f3))
def eqNd (x y : S88) : Bool := x.f0 == y.f0 && ((x.f1.toList == y.f1.toList) && ((x.f2.toList == y.f2.toList) && (x.f3 == y.f3 && x.f4 == y.f4)))
def sL {α : Type} (eq : α → α → Bool) (l m : List α) : Bool := decide (l.length = m.length) && (l.zip m).all fun p => eq p.1 p.2
theorem lenI {a b : Nat} : ((a : Int) = (b : Int)) ↔ a = b := by omega
theorem if_not {α : Type} {b : Bool} {x y : α} : (if (!b) = true then x else y) = if b = true then y else x := by cases b <;> rfl
theorem specT_ev (l m : List ByteArray) (hl : l.length ≤ 1048576) : Ev (fun k => spec_l07SameTexts.f k l m) (sL eqT l m) := by
  simp only [spec_l07SameTexts.f, lenI]
  by_cases h : l.length = m.length
  · simp only [if_pos h, sL, decide_eq_true h, Bool.true_and]
    have := two_ev eqT true (fun k i => spec_l07SameTexts.l0 k l m i) l m h (fun k i h1 h2 => by
      simp only [spec_l07SameTexts.l0, if_pos (natLt h1), if_pos (natLt h2), if_pos (nat0 i), rd_at l i h1, rd_at m i h2, eqT, decide_eq_true_eq, i64_1 h1 (show l.length ≤ 140737488351232 by omega)])
      (ev_succ (by simp only [spec_l07SameTexts.l0, if_neg (natNotLt (Nat.lt_irrefl _))]; exact Ev.now _))
    rw [Bool.and_true] at this; exact this
  · simp only [if_neg h, sL, decide_eq_false h, Bool.false_and]; exact Ev.now _
theorem implT_ev (l m : List ByteArray) (hl : l.length ≤ 1048576) : Ev (fun k => slices_Equal_string_string.f k l m) (sL eqT l m) := by
  simp only [slices_Equal_string_string.f, lenI]
  by_cases h : l.length = m.length
  · simp only [if_pos h, sL, decide_eq_true h, Bool.true_and]
    have := two_ev eqT true (fun k i => slices_Equal_string_string.l0 k l m (l.length : Int) i) l m h (fun k i h1 h2 => by
      simp only [slices_Equal_string_string.l0, if_pos (natLt h1), if_pos (natLt h2), if_pos (nat0 i), rd_at l i h1, rd_at m i h2, eqT, decide_eq_true_eq, i64_1 h1 (show l.length ≤ 140737488351232 by omega)])
      (ev_succ (by simp only [slices_Equal_string_string.l0, if_neg (natNotLt (Nat.lt_irrefl _))]; exact Ev.now _))
    rw [Bool.and_true] at this; exact this
  · simp only [if_neg h, sL, decide_eq_false h, Bool.false_and]; exact Ev.now _
theorem notPm (x y : S82) : (!((x.f0.toList) == (y.f0.toList)) || (!(x.f1 == y.f1) || (!(x.f2 == y.f2) || !(x.f3 == y.f3)))) = !(eqPm x y) := by
  simp only [eqPm, Bool.not_and]
theorem notNd (x y : S88) : (!(x.f0 == y.f0) || (!((x.f1.toList) == (y.f1.toList)) || (!((x.f2.toList) == (y.f2.toList)) || (!(x.f3 == y.f3) || !(x.f4 == y.f4))))) = !(eqNd x y) := by
  simp only [eqNd, Bool.not_and]
theorem specN_ev (l m : List S88) (hl : l.length ≤ 1048576) : Ev (fun k => spec_l07SameNodes.f k l m) (sL eqNd l m) := by
  simp only [spec_l07SameNodes.f, lenI]
  by_cases h : l.length = m.length
  · simp only [if_pos h, sL, decide_eq_true h, Bool.true_and]
    have := two_ev eqNd true (fun k i => spec_l07SameNodes.l0 k l m i) l m h (fun k i h1 h2 => by
      simp only [spec_l07SameNodes.l0, if_pos (natLt h1), if_pos (natLt h2), if_pos (nat0 i), rdN l i h1, rdN m i h2, notNd, if_not, i64_1 h1 (show l.length ≤ 140737488351232 by omega)])
      (ev_succ (by simp only [spec_l07SameNodes.l0, if_neg (natNotLt (Nat.lt_irrefl _))]; exact Ev.now _))
    rw [Bool.and_true] at this; exact this
  · simp only [if_neg h, sL, decide_eq_false h, Bool.false_and]; exact Ev.now _
theorem implN_ev (l m : List S88) (hl : l.length ≤ 1048576) : Ev (fun k => impl_Node.f k l m) (sL eqNd l m) := by
  simp only [impl_Node.f, lenI]
  by_cases h : l.length = m.length
  · simp only [if_pos h, sL, decide_eq_true h, Bool.true_and]
    have := two_ev eqNd true (fun k i => impl_Node.l0 k l m (l.length : Int) i) l m h (fun k i h1 h2 => by
      simp only [impl_Node.l0, if_pos (natLt h1), if_pos (natLt h2), if_pos (nat0 i), rdN l i h1, rdN m i h2, notNd, if_not, i64_1 h1 (show l.length ≤ 140737488351232 by omega)])
      (ev_succ (by simp only [impl_Node.l0, if_neg (natNotLt (Nat.lt_irrefl _))]; exact Ev.now _))
    rw [Bool.and_true] at this; exact this
  · simp only [if_neg h, sL, decide_eq_false h, Bool.false_and]; exact Ev.now _
theorem implP_ev (l m : List S82) (hl : l.length ≤ 1048576) : Ev (fun k => impl_Param.f k l m) (sL eqPm l m) := by
  simp only [impl_Param.f, lenI]
  by_cases h : l.length = m.length
  · simp only [if_pos h, sL, decide_eq_true h, Bool.true_and]
    have := two_ev eqPm true (fun k i => impl_Param.l0 k l m (l.length : Int) i) l m h (fun k i h1 h2 => by
      simp only [impl_Param.l0, if_pos (natLt h1), if_pos (natLt h2), if_pos (nat0 i), rdPm l i h1, rdPm m i h2, notPm, if_not, i64_1 h1 (show l.length ≤ 140737488351232 by omega)])
      (ev_succ (by simp only [impl_Param.l0, if_neg (natNotLt (Nat.lt_irrefl _))]; exact Ev.now _))
    rw [Bool.and_true] at this; exact this
  · simp only [if_neg h, sL, decide_eq_false h, Bool.false_and]; exact Ev.now _
/-- A call whose answer is asked at once: false, or what follows. -/
theorem ask_ev {g : Nat → Option Bool} {f : Nat → Option Bool} {b e : Bool} (hg : Ev g b) (hf : b = true → Ev f e) : Ev (fun k => (g k).bind fun t => if t = true then f k else some false) (b && e) := by
  cases b
  · exact Ev.bind hg (by simp only [Bool.false_eq_true, if_false, Bool.false_and]; exact Ev.now _)
  · exact Ev.bind hg (by simp only [if_true, Bool.true_and]; exact hf rfl)
theorem last_ev {g : Nat → Option Bool} {b : Bool} (hg : Ev g b) : Ev (fun k => (g k).bind fun t => some t) b := Ev.bind hg (Ev.now _)
section
variable (a b : ByteArray) (x y : Int) (l2 l3 m2 m3 : List ByteArray) (l4 m4 : List S82) (l5 l6 l7 m5 m6 m7 : List S88)
def restL : Bool := sL eqNd l5 m5 && (sL eqNd l6 m6 && sL eqNd l7 m7)
def sameL : Bool := eqT a b && (decide (x = y) && (sL eqT l2 m2 && (sL eqT l3 m3 && (sL eqPm l4 m4 && restL l5 l6 l7 m5 m6 m7))))
theorem j0_ev (c : Bool) (h4 : l4.length ≤ 1048576) (h5 : l5.length ≤ 1048576) (h6 : l6.length ≤ 1048576) (h7 : l7.length ≤ 1048576) (hc : c = false → l4.length = m4.length) :
    Ev (fun k => spec_ProductSame.j0 k c a x l2 l3 l4 l5 l6 l7 b y m2 m3 m4 m5 m6 m7) (!c && (((l4.zip m4).all fun p => eqPm p.1 p.2) && restL l5 l6 l7 m5 m6 m7)) := by
  refine ev_succ ?_
  cases c
  · simp only [spec_ProductSame.j0, Bool.false_eq_true, if_false, Bool.not_false, Bool.true_and]
    refine two_ev eqPm (restL l5 l6 l7 m5 m6 m7) (fun k i => spec_ProductSame.l0 k i a x l2 l3 l4 l5 l6 l7 b y m2 m3 m4 m5 m6 m7) l4 m4 (hc rfl) (fun k i h1 h2 => ?_) (ev_succ ?_)
    · simp only [spec_ProductSame.l0, if_pos (natLt h1), if_pos (natLt h2), if_pos (nat0 i), rdPm l4 i h1, rdPm m4 i h2, notPm, if_not, i64_1 h1 (show l4.length ≤ 140737488351232 by omega)]
    · simp only [spec_ProductSame.l0, if_neg (natNotLt (Nat.lt_irrefl _))]
      exact ask_ev (specN_ev l5 m5 h5) (fun _ => ask_ev (specN_ev l6 m6 h6) (fun _ => last_ev (specN_ev l7 m7 h7)))
  · simp only [spec_ProductSame.j0, if_true, Bool.not_true, Bool.false_and]; exact Ev.now _
theorem spec_ev (h2 : l2.length ≤ 1048576) (h3 : l3.length ≤ 1048576) (h4 : l4.length ≤ 1048576) (h5 : l5.length ≤ 1048576) (h6 : l6.length ≤ 1048576) (h7 : l7.length ≤ 1048576) :
    Ev (fun k => spec_ProductSame.f k a x l2 l3 l4 l5 l6 l7 b y m2 m3 m4 m5 m6 m7) (sameL a b x y l2 l3 m2 m3 l4 m4 l5 l6 l7 m5 m6 m7) := by
  have jt := j0_ev a b x y l2 l3 m2 m3 l4 m4 l5 l6 l7 m5 m6 m7 true h4 h5 h6 h7 (fun h => by cases h)
  simp only [Bool.not_true, Bool.false_and] at jt
  simp only [spec_ProductSame.f, sameL, eqT]
  by_cases ha : a.toList = b.toList
  · simp only [if_pos ha, decide_eq_true ha, Bool.true_and]
    by_cases hb : x = y
    · simp only [if_pos hb, decide_eq_true hb, Bool.true_and]
      refine Ev.bind (specT_ev l2 m2 h2) ?_
      cases hT2 : sL eqT l2 m2
      · simp only [Bool.false_eq_true, if_false, Bool.false_and]; exact jt
      simp only [if_true, Bool.true_and]
      refine Ev.bind (specT_ev l3 m3 h3) ?_
      cases hT3 : sL eqT l3 m3
      · simp only [Bool.false_eq_true, if_false, Bool.false_and]; exact jt
      simp only [if_true, Bool.true_and]
      have j := j0_ev a b x y l2 l3 m2 m3 l4 m4 l5 l6 l7 m5 m6 m7 ((l4.length : Int) != (m4.length : Int)) h4 h5 h6 h7 (fun h => by
        have := bne_eq_false_iff_eq.1 h; omega)
      have e : (!((l4.length : Int) != (m4.length : Int))) = decide (l4.length = m4.length) := by
        by_cases h : l4.length = m4.length
        · simp [h]
        · simp [h]; omega
      rw [e, ← Bool.and_assoc] at j
      exact j
    · simp only [if_neg hb, decide_eq_false hb, Bool.false_and]; exact jt
  · simp only [if_neg ha, decide_eq_false ha, Bool.false_and]; exact jt
theorem impl_ev (h2 : l2.length ≤ 1048576) (h3 : l3.length ≤ 1048576) (h4 : l4.length ≤ 1048576) (h5 : l5.length ≤ 1048576) (h6 : l6.length ≤ 1048576) (h7 : l7.length ≤ 1048576) :
    Ev (fun k => impl_ProductSame.f k a x l2 l3 l4 l5 l6 l7 b y m2 m3 m4 m5 m6 m7) (sameL a b x y l2 l3 m2 m3 l4 m4 l5 l6 l7 m5 m6 m7) := by
  simp only [impl_ProductSame.f, sameL, eqT]
  by_cases ha : a.toList = b.toList
  · simp only [if_pos ha, decide_eq_true ha, Bool.true_and]
    have face : Ev (fun k => impl_sameFace.f k a x l2 l3 l4 l5 l6 l7 b y m2 m3 m4 m5 m6 m7) (decide (x = y) && (sL eqT l2 m2 && (sL eqT l3 m3 && sL eqPm l4 m4))) := by
      simp only [impl_sameFace.f]
      by_cases hb : x = y
      · simp only [if_pos hb, decide_eq_true hb, Bool.true_and]
        exact ask_ev (implT_ev l2 m2 h2) (fun _ => ask_ev (implT_ev l3 m3 h3) (fun _ => last_ev (implP_ev l4 m4 h4)))
      · simp only [if_neg hb, decide_eq_false hb, Bool.false_and]; exact Ev.now _
    have := ask_ev face (fun _ => ask_ev (implN_ev l5 m5 h5) (fun _ => ask_ev (implN_ev l6 m6 h6) (fun _ => last_ev (implN_ev l7 m7 h7))))
    simp only [Bool.and_assoc, restL] at this ⊢
    exact this
  · simp only [if_neg ha, decide_eq_false ha, Bool.false_and]; exact Ev.now _
end
theorem FnExactProductSame : laws_FnExactProductSame.Pure := by
  intro a b l2 l3 l4 l5 l6 l7 a' b' m2 m3 m4 m5 m6 m7 ha _ h2 h3 h4 h5 h6 h7 ha' _ h2' h3' h4' h5' h6' h7'
  refine Ev.rounds (g := fun k => laws_FnExactProductSame.f k a b l2 l3 l4 l5 l6 l7 a' b' m2 m3 m4 m5 m6 m7) ?_
  simp only [laws_FnExactProductSame.f]
  obtain ⟨p, hp⟩ : ∃ p : PL, p = ⟨a, b, l2, l3, l4, l5, l6, l7⟩ := ⟨_, rfl⟩
  obtain ⟨q, hq⟩ : ∃ p : PL, p = ⟨a', b', m2, m3, m4, m5, m6, m7⟩ := ⟨_, rfl⟩
  have hok : p.ok := by
    subst hp
    exact ⟨ha, h2, h3, ⟨h4.1, fun x hx => (h4.2 x hx).1⟩, ⟨h5.1, fun x hx => ⟨(h5.2 x hx).2.1, (h5.2 x hx).2.2.1⟩⟩, ⟨h6.1, fun x hx => ⟨(h6.2 x hx).2.1, (h6.2 x hx).2.2.1⟩⟩, ⟨h7.1, fun x hx => ⟨(h7.2 x hx).2.1, (h7.2 x hx).2.2.1⟩⟩⟩
  have hoq : q.ok := by
    subst hq
    exact ⟨ha', h2', h3', ⟨h4'.1, fun x hx => (h4'.2 x hx).1⟩, ⟨h5'.1, fun x hx => ⟨(h5'.2 x hx).2.1, (h5'.2 x hx).2.2.1⟩⟩, ⟨h6'.1, fun x hx => ⟨(h6'.2 x hx).2.1, (h6'.2 x hx).2.2.1⟩⟩, ⟨h7'.1, fun x hx => ⟨(h7'.2 x hx).2.1, (h7'.2 x hx).2.2.1⟩⟩⟩
  obtain ⟨u, eu, hu, lu⟩ := szProd_ev p hok 1048576 (by omega) (by omega)
  have hto := toProd_ev p
  have heq := eqProd_ev p
  have hsz := szProd_ev q hoq
  have hto' := toProd_ev q
  have heq' := eqProd_ev q
  have hse := spec_ev p.a q.a p.b q.b p.l2 p.l3 q.l2 q.l3 (p.l4.map cP) (q.l4.map cP) (p.l5.map cN) (p.l6.map cN) (p.l7.map cN) (q.l5.map cN) (q.l6.map cN) (q.l7.map cN)
  have him := impl_ev p.a q.a p.b q.b p.l2 p.l3 q.l2 q.l3 (p.l4.map cP) (q.l4.map cP) (p.l5.map cN) (p.l6.map cN) (p.l7.map cN) (q.l5.map cN) (q.l6.map cN) (q.l7.map cN)
  simp only [List.length_map] at hse him
  subst hp
  subst hq
  refine Ev.bind eu ?_
  by_cases hu0 : u < 0
  · simp only [if_pos hu0]; exact Ev.now _
  have hs := hu (by omega)
  simp only [if_neg hu0]
  obtain ⟨v, ev, hv, _⟩ := hsz u (by omega) lu
  refine Ev.bind ev ?_
  by_cases hv0 : v < 0
  · simp only [if_pos hv0]; exact Ev.now _
  have hs' := hv (by omega)
  simp only [if_neg hv0]
  refine Ev.bind (hto hs) (Ev.bind (hto' hs') (Ev.bind (hse hs.h2 hs.h3 hs.h4 hs.h5 hs.h6 hs.h7) (Ev.bind (hto hs) (Ev.bind (hto' hs') (Ev.bind (him hs.h2 hs.h3 hs.h4 hs.h5 hs.h6 hs.h7) ?_)))))
  simp only [bne_self_eq_false, Bool.false_eq_true, if_false]
  refine Ev.bind (hto hs) (Ev.bind (heq hs) ?_)
  simp only [if_true]
  refine Ev.bind (hto' hs') (Ev.bind (heq' hs') ?_)
  simp only [if_true]; exact Ev.now _

end Go.Proofs.Ytpblcdafmpfemaa.Pure
