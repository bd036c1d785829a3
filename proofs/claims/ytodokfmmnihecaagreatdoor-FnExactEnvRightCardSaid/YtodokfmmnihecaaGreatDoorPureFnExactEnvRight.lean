/- At every product and Env the program's EnvRight is the reference's EnvRight. The row lists a table of Go's library; the card ties it. -/
import Derived.Test.YtodokfmmnihecaaGreatDoorPFnExactEnvRightx19
import Derived.Test.YtodokfmmnihecaaGreatDoorQLib
import Derived.Test.YtodokfmmnihecaaGreatDoorQLoops
namespace Go.Proofs.YtodokfmmnihecaaGreatDoor.Pure
set_option linter.unusedSimpArgs false
set_option linter.unusedVariables false
open Go.RowKit Go.Proofs.YtodokfmmnihecaaGreatDoor.PFnExactEnvRight Go.Proofs.YtodokfmmnihecaaGreatDoorW.PrintWords Go.Proofs.YtodokfmmnihecaaGreatDoorW.PrintLast Go.Proofs.YtodokfmmnihecaaGreatDoorW.PrintMore
open Go.Proofs.YtodokfmmnihecaaGreatDoor.Q
theorem eqS_l0 (l : List ByteArray) (hl : l.length ≤ 140737488351232) : ∀ (d i : Nat), l.length - i = d → Ev (fun k => laws_eqStringS.l0 k l l i) true := by
  intro d
  induction d with
  | zero =>
    intro i hd
    refine ev_succ ?_
    simp only [laws_eqStringS.l0, if_neg (natNotLt (show ¬ i < l.length by omega))]; exact Ev.now _
  | succ d ih =>
    intro i hd
    refine ev_succ ?_
    have hi : i < l.length := by omega
    simp only [laws_eqStringS.l0, if_pos (natLt hi), if_pos (nat0 i), if_true, wsucc hi hl]
    exact ih _ (by omega)
theorem eqS_ev (l : List ByteArray) (hl : l.length ≤ 140737488351232) : Ev (fun k => laws_eqStringS.f k l l) true := by
  simp only [laws_eqStringS.f, if_true]; exact eqS_l0 l hl _ 0 rfl

def tot (l : List ByteArray) : Nat := (l.map (·.size)).sum
theorem rd_at (l : List ByteArray) (i : Nat) (h : i < l.length) : rdOf ByteArray.empty l (i : Int) = l[i] := by
  unfold rdOf; rw [Int.toNat_natCast, List.getD_eq_getElem?_getD, List.getElem?_eq_getElem h]; rfl
theorem drop_at {α : Type} (l : List α) (i : Nat) (h : i < l.length) : l.drop i = l[i] :: l.drop (i + 1) := List.drop_eq_getElem_cons h
theorem tot_at (l : List ByteArray) (i : Nat) (h : i < l.length) : tot (l.drop i) = l[i].size + tot (l.drop (i + 1)) := by
  rw [drop_at l i h]; unfold tot; rw [List.map_cons, List.sum_cons]
theorem tot_mem (l : List ByteArray) (x : ByteArray) (h : x ∈ l) : x.size ≤ tot l := by
  induction l with
  | nil => cases h
  | cons y l ih =>
    rcases List.mem_cons.1 h with rfl | h
    · simp [tot]
    · have := ih h; simp only [tot, List.map_cons, List.sum_cons] at this ⊢; omega

theorem szS_l0 (l : List ByteArray) (hl : l.length ≤ 140737488351232) (hx : ∀ x ∈ l, x.size ≤ maxLen) : ∀ (d i : Nat) (left : Int), l.length - i = d → 0 ≤ left → left ≤ 1048576 →
    ∃ t, Ev (fun k => laws_szStringS.l0 k l left i) t ∧ (0 ≤ t → t + (tot (l.drop i) : Int) ≤ left) ∧ t ≤ left := by
  intro d
  induction d with
  | zero =>
    intro i left hd h0 h1
    refine ⟨left, ev_succ ?_, fun _ => ?_, Int.le_refl _⟩
    · simp only [laws_szStringS.l0, if_neg (natNotLt (show ¬ i < l.length by omega))]; exact Ev.now _
    · rw [List.drop_eq_nil_of_le (by omega)]; simp [tot]
  | succ d ih =>
    intro i left hd h0 h1
    have hi : i < l.length := by omega
    have hs := hx _ (List.getElem_mem hi)
    unfold maxLen at hs
    have hw : wrap64 (left - (l[i].size : Int)) = left - (l[i].size : Int) := w64 (by omega) (by omega)
    by_cases hn : left - (l[i].size : Int) < 0
    · refine ⟨-1, ev_succ ?_, fun h => absurd h (by decide), by omega⟩
      simp only [laws_szStringS.l0, if_pos (natLt hi), if_pos (nat0 i), rd_at l i hi, hw, if_pos hn]; exact Ev.now _
    · obtain ⟨t, e, h2, h3⟩ := ih (i + 1) (left - l[i].size) (by omega) (by omega) (by omega)
      refine ⟨t, ev_succ ?_, fun h => ?_, by omega⟩
      · simp only [laws_szStringS.l0, if_pos (natLt hi), if_pos (nat0 i), rd_at l i hi, hw, if_neg hn, wsucc hi hl]; exact e
      · have := h2 h; rw [tot_at l i hi]; omega
theorem szS_ev (l : List ByteArray) (hm : l.length ≤ maxLen) (hx : ∀ x ∈ l, x.size ≤ maxLen) (left : Int) (h0 : 0 ≤ left) (h1 : left ≤ 1048576) :
    ∃ t, Ev (fun k => laws_szStringS.f k l left) t ∧ (0 ≤ t → t + (l.length : Int) + (tot l : Int) ≤ left) := by
  unfold maxLen at hm
  have hw : wrap64 (left - (l.length : Int)) = left - (l.length : Int) := w64 (by omega) (by omega)
  by_cases hn : left - (l.length : Int) < 0
  · refine ⟨-1, ?_, fun h => absurd h (by decide)⟩
    simp only [laws_szStringS.f, hw, if_pos hn]; exact Ev.now _
  · obtain ⟨t, e, h2, _⟩ := szS_l0 l (by omega) hx l.length 0 (left - l.length) (by omega) (by omega) (by omega)
    refine ⟨t, ?_, fun h => ?_⟩
    · simp only [laws_szStringS.f, hw, if_neg hn]; exact e
    · have := h2 h; rw [List.drop_zero] at this; omega
theorem toS_l0 (l : List ByteArray) (hl : l.length ≤ 17592186044416) : ∀ (d i : Nat) (x : List ByteArray), l.length - i = d → i ≤ l.length → x.length = l.length → x.take i = l.take i → Ev (fun k => laws_toStringS.l0 k l x i) l := by
  intro d
  induction d with
  | zero =>
    intro i x hd hi hx h
    refine ev_succ ?_
    have e : x = l := by rw [← List.take_of_length_le (l := x) (i := i) (by omega), h, List.take_of_length_le (by omega)]
    simp only [laws_toStringS.l0, if_neg (natNotLt (show ¬ i < l.length by omega)), e]; exact Ev.now _
  | succ d ih =>
    intro i x hd hi hx h
    have hi : i < l.length := by omega
    refine ev_succ ?_
    simp only [laws_toStringS.l0, if_pos (natLt hi), if_pos (nat0 i), if_pos (natLt (show i < x.length by omega)), rd_at l i hi, wsucc hi (by omega), Int.toNat_natCast]
    refine ih (i + 1) (x.set i l[i]) (by omega) (by omega) (by rw [List.length_set]; exact hx) ?_
    rw [List.take_succ_eq_append_getElem (by rw [List.length_set]; omega), List.take_succ_eq_append_getElem hi, List.getElem_set_self, List.take_set_of_le (Nat.le_refl _), h]
theorem toS_ev (l : List ByteArray) (hl : l.length ≤ 17592186044416) : Ev (fun k => laws_toStringS.f k l) l := by
  simp only [laws_toStringS.f, if_pos (nat0 l.length), Int.toNat_natCast, if_pos hl]
  exact toS_l0 l hl l.length 0 _ rfl (by omega) (by rw [List.length_replicate]) rfl

theorem rdN (l : List S73) (i : Nat) (h : i < l.length) : rd_T73 l (i : Int) = l[i] := by
  unfold rd_T73; rw [Int.toNat_natCast, List.getD_eq_getElem?_getD, List.getElem?_eq_getElem h]; rfl
theorem rdNl (l : List S176) (i : Nat) (h : i < l.length) : rd_T176 l (i : Int) = l[i] := by
  unfold rd_T176; rw [Int.toNat_natCast, List.getD_eq_getElem?_getD, List.getElem?_eq_getElem h]; rfl
def cN (x : S176) : S73 := ⟨x.f0, x.f1, x.f2, x.f3, x.f4⟩
theorem szN_ev (l : List S176) (hm : l.length ≤ maxLen) (hx : ∀ x ∈ l, x.f1.size ≤ maxLen ∧ x.f2.size ≤ maxLen) (left : Int) (h0 : 0 ≤ left) (h1 : left ≤ 1048576) :
    ∃ t, Ev (fun k => laws_szNodeS.f k l left) t ∧ (0 ≤ t → t + (l.length : Int) ≤ left ∧ ∀ x ∈ l, x.f1.size + x.f2.size ≤ 1048576) ∧ t ≤ left := by
  unfold maxLen at hm
  have hw : wrap64 (left - (l.length : Int)) = left - (l.length : Int) := w64 (by omega) (by omega)
  by_cases hn : left - (l.length : Int) < 0
  · refine ⟨-1, ?_, fun h => absurd h (by decide), by omega⟩
    simp only [laws_szNodeS.f, hw, if_pos hn]; exact Ev.now _
  · obtain ⟨t, e, h2, h3⟩ := sz_ev (fun x : S176 => x.f1.size + x.f2.size) laws_szNodeS.l0 l (by omega)
      (fun k i v hi a b c => by
        have hs := hx _ (List.getElem_mem hi)
        unfold maxLen at hs
        have w1 : wrap64 (v - (l[i].f1.size : Int)) = v - (l[i].f1.size : Int) := w64 (by omega) (by omega)
        have w2 : wrap64 (v - (l[i].f1.size : Int) - (l[i].f2.size : Int)) = v - (l[i].f1.size : Int) - (l[i].f2.size : Int) := w64 (by omega) (by omega)
        simp only [laws_szNodeS.l0, if_pos (natLt hi), if_pos (nat0 i), rdNl l i hi, laws_szNode.f, w1, w2, if_neg (show ¬ v - (l[i].f1.size : Int) < 0 by omega), if_neg (show ¬ v - (l[i].f1.size : Int) - (l[i].f2.size : Int) < 0 by omega), Option.bind_some, i64_1 hi (show l.length ≤ 140737488351232 by omega)]
        rw [show v - ((l[i].f1.size + l[i].f2.size : Nat) : Int) = v - (l[i].f1.size : Int) - (l[i].f2.size : Int) by omega])
      (fun k i v hi a b c => by
        have hs := hx _ (List.getElem_mem hi)
        unfold maxLen at hs
        have w1 : wrap64 (v - (l[i].f1.size : Int)) = v - (l[i].f1.size : Int) := w64 (by omega) (by omega)
        by_cases q : v - (l[i].f1.size : Int) < 0
        · simp only [laws_szNodeS.l0, if_pos (natLt hi), if_pos (nat0 i), rdNl l i hi, laws_szNode.f, w1, if_pos q, Option.bind_some]; rfl
        · have w2 : wrap64 (v - (l[i].f1.size : Int) - (l[i].f2.size : Int)) = v - (l[i].f1.size : Int) - (l[i].f2.size : Int) := w64 (by omega) (by omega)
          simp only [laws_szNodeS.l0, if_pos (natLt hi), if_pos (nat0 i), rdNl l i hi, laws_szNode.f, w1, w2, if_neg q, if_pos (show v - (l[i].f1.size : Int) - (l[i].f2.size : Int) < 0 by omega), Option.bind_some]; rfl)
      (fun k v => by simp only [laws_szNodeS.l0, if_neg (natNotLt (Nat.lt_irrefl _))]) (left - l.length) (by omega) (by omega)
    refine ⟨t, ?_, fun h => ?_, by omega⟩
    · simp only [laws_szNodeS.f, hw, if_neg hn]; exact e
    · have q := h2 h
      refine ⟨by omega, fun x hx => ?_⟩
      have hm : x.f1.size + x.f2.size ≤ (l.map fun x : S176 => x.f1.size + x.f2.size).sum := by
        clear q h2 h3 e hn hw
        induction l with
        | nil => cases hx
        | cons y l ih =>
          rw [List.map_cons, List.sum_cons]
          rcases List.mem_cons.1 hx with z | z
          · subst z; omega
          · have := ih (by simp at hm; omega) (fun x hx' => by rename_i hxs; exact hxs x (List.mem_cons_of_mem _ hx')) z; omega
      omega
theorem toN_ev (l : List S176) (hl : l.length ≤ 1048576) : Ev (fun k => laws_toNodeS.f k l) (l.map cN) := by
  simp only [laws_toNodeS.f, if_pos (nat0 l.length), Int.toNat_natCast, if_pos (show l.length ≤ 5026338869833 by omega)]
  refine map_ev cN laws_toNodeS.l0 1048576 (fun k x y i hB hx hy => ?_) (fun k x y => by simp only [laws_toNodeS.l0, if_neg (natNotLt (Nat.lt_irrefl _))]) l _ (List.length_replicate) hl
  simp only [laws_toNodeS.l0, if_pos (natLt hx), if_pos (nat0 i), laws_toNode.f, Option.bind_some, if_pos (natLt hy), rdNl x i hx, i64_1 hx (show x.length ≤ 140737488351232 by omega), Int.toNat_natCast]; rfl
theorem eqN_ev (l : List S73) (hl : l.length ≤ 140737488351232) : Ev (fun k => laws_eqNodeS.f k l l) true := by
  simp only [laws_eqNodeS.f, if_true]
  exact all_ev true (fun k l => laws_eqNodeS.l0 k l l) l (fun k i hi => by simp only [laws_eqNodeS.l0, if_pos (natLt hi), if_pos (nat0 i), laws_eqNode.f, if_true, Option.bind_some, i64_1 hi hl]) (fun k => by simp only [laws_eqNodeS.l0, if_neg (natNotLt (Nat.lt_irrefl _))])

theorem rdPm (l : List S75) (i : Nat) (h : i < l.length) : rd_T75 l (i : Int) = l[i] := by
  unfold rd_T75; rw [Int.toNat_natCast, List.getD_eq_getElem?_getD, List.getElem?_eq_getElem h]; rfl
theorem rdPml (l : List S174) (i : Nat) (h : i < l.length) : rd_T174 l (i : Int) = l[i] := by
  unfold rd_T174; rw [Int.toNat_natCast, List.getD_eq_getElem?_getD, List.getElem?_eq_getElem h]; rfl
def cP (x : S174) : S75 := ⟨x.f0, x.f1, x.f2, x.f3⟩
theorem szPm_ev (l : List S174) (hm : l.length ≤ maxLen) (hx : ∀ x ∈ l, x.f0.size ≤ maxLen) (left : Int) (h0 : 0 ≤ left) (h1 : left ≤ 1048576) :
    ∃ t, Ev (fun k => laws_szParamS.f k l left) t ∧ (0 ≤ t → t + (l.length : Int) ≤ left ∧ ∀ x ∈ l, x.f0.size ≤ 1048576) ∧ t ≤ left := by
  unfold maxLen at hm
  have hw : wrap64 (left - (l.length : Int)) = left - (l.length : Int) := w64 (by omega) (by omega)
  by_cases hn : left - (l.length : Int) < 0
  · refine ⟨-1, ?_, fun h => absurd h (by decide), by omega⟩
    simp only [laws_szParamS.f, hw, if_pos hn]; exact Ev.now _
  · obtain ⟨t, e, h2, h3⟩ := sz_ev (fun x : S174 => x.f0.size) laws_szParamS.l0 l (by omega)
      (fun k i v hi a b c => by
        have hs := hx _ (List.getElem_mem hi)
        unfold maxLen at hs
        have w1 : wrap64 (v - (l[i].f0.size : Int)) = v - (l[i].f0.size : Int) := w64 (by omega) (by omega)
        simp only [laws_szParamS.l0, if_pos (natLt hi), if_pos (nat0 i), rdPml l i hi, laws_szParam.f, w1, if_neg (show ¬ v - (l[i].f0.size : Int) < 0 by omega), Option.bind_some, i64_1 hi (show l.length ≤ 140737488351232 by omega)])
      (fun k i v hi a b c => by
        have hs := hx _ (List.getElem_mem hi)
        unfold maxLen at hs
        have w1 : wrap64 (v - (l[i].f0.size : Int)) = v - (l[i].f0.size : Int) := w64 (by omega) (by omega)
        simp only [laws_szParamS.l0, if_pos (natLt hi), if_pos (nat0 i), rdPml l i hi, laws_szParam.f, w1, if_pos c, Option.bind_some]; rfl)
      (fun k v => by simp only [laws_szParamS.l0, if_neg (natNotLt (Nat.lt_irrefl _))]) (left - l.length) (by omega) (by omega)
    refine ⟨t, ?_, fun h => ?_, by omega⟩
    · simp only [laws_szParamS.f, hw, if_neg hn]; exact e
    · have q := h2 h
      refine ⟨by omega, fun z hz => ?_⟩
      have hq : ∀ (m : List S174), ∀ z ∈ m, z.f0.size ≤ (m.map fun x : S174 => x.f0.size).sum := by
        intro m
        induction m with
        | nil => intro z hz; cases hz
        | cons y m ih =>
          intro z hz
          rw [List.map_cons, List.sum_cons]
          rcases List.mem_cons.1 hz with c | c
          · subst c; omega
          · have := ih z c; omega
      have := hq l z hz
      omega
theorem toPm_ev (l : List S174) (hl : l.length ≤ 1048576) : Ev (fun k => laws_toParamS.f k l) (l.map cP) := by
  simp only [laws_toParamS.f, if_pos (nat0 l.length), Int.toNat_natCast, if_pos (show l.length ≤ 7036874417766 by omega)]
  refine map_ev cP laws_toParamS.l0 1048576 (fun k x y i hB hx hy => ?_) (fun k x y => by simp only [laws_toParamS.l0, if_neg (natNotLt (Nat.lt_irrefl _))]) l _ (List.length_replicate) hl
  simp only [laws_toParamS.l0, if_pos (natLt hx), if_pos (nat0 i), laws_toParam.f, Option.bind_some, if_pos (natLt hy), rdPml x i hx, i64_1 hx (show x.length ≤ 140737488351232 by omega), Int.toNat_natCast]; rfl
theorem eqPm_ev (l : List S75) (hl : l.length ≤ 140737488351232) : Ev (fun k => laws_eqParamS.f k l l) true := by
  simp only [laws_eqParamS.f, if_true]
  exact all_ev true (fun k l => laws_eqParamS.l0 k l l) l (fun k i hi => by simp only [laws_eqParamS.l0, if_pos (natLt hi), if_pos (nat0 i), laws_eqParam.f, if_true, Option.bind_some, i64_1 hi hl]) (fun k => by simp only [laws_eqParamS.l0, if_neg (natNotLt (Nat.lt_irrefl _))])
structure PL where
  a : ByteArray
  b : Int
  l2 : List ByteArray
  l3 : List ByteArray
  l4 : List S174
  l5 : List S176
  l6 : List S176
  l7 : List S176
/-- What is known of a product that comes in. -/
structure PL.ok (p : PL) : Prop where
  ha : p.a.size ≤ maxLen
  h2 : p.l2.length ≤ maxLen ∧ ∀ x ∈ p.l2, x.size ≤ maxLen
  h3 : p.l3.length ≤ maxLen ∧ ∀ x ∈ p.l3, x.size ≤ maxLen
  h4 : p.l4.length ≤ maxLen ∧ ∀ x ∈ p.l4, x.f0.size ≤ maxLen
  h5 : p.l5.length ≤ maxLen ∧ ∀ x ∈ p.l5, x.f1.size ≤ maxLen ∧ x.f2.size ≤ maxLen
  h6 : p.l6.length ≤ maxLen ∧ ∀ x ∈ p.l6, x.f1.size ≤ maxLen ∧ x.f2.size ≤ maxLen
  h7 : p.l7.length ≤ maxLen ∧ ∀ x ∈ p.l7, x.f1.size ≤ maxLen ∧ x.f2.size ≤ maxLen
structure PL.small (p : PL) : Prop where
  h2 : p.l2.length ≤ 1048576
  h3 : p.l3.length ≤ 1048576
  h4 : p.l4.length ≤ 1048576
  h5 : p.l5.length ≤ 1048576
  h6 : p.l6.length ≤ 1048576
  h7 : p.l7.length ≤ 1048576
  sa : p.a.size ≤ 1048576
  s2 : ∀ x ∈ p.l2, x.size ≤ 1048576
  s3 : ∀ x ∈ p.l3, x.size ≤ 1048576
  s4 : ∀ x ∈ p.l4, x.f0.size ≤ 1048576
  s5 : ∀ x ∈ p.l5, x.f1.size + x.f2.size ≤ 1048576
  s6 : ∀ x ∈ p.l6, x.f1.size + x.f2.size ≤ 1048576
  s7 : ∀ x ∈ p.l7, x.f1.size + x.f2.size ≤ 1048576
theorem mem_tot (l : List ByteArray) : ∀ x ∈ l, x.size ≤ tot l := by
  induction l with
  | nil => intro x hx; cases hx
  | cons y l ih =>
    intro x hx
    have e : tot (y :: l) = y.size + tot l := by simp [tot]
    rw [e]
    rcases List.mem_cons.1 hx with z | z
    · subst z; omega
    · have := ih x z; omega
theorem szProd_ev (p : PL) (h : p.ok) (left : Int) (q0 : 0 ≤ left) (q1 : left ≤ 1048576) : ∃ t, Ev (fun k => laws_szProduct.f k p.a p.b p.l2 p.l3 p.l4 p.l5 p.l6 p.l7 left) t ∧ (0 ≤ t → p.small) ∧ t ≤ left := by
  have ha := h.ha
  unfold maxLen at ha
  have hw : wrap64 (left - (p.a.size : Int)) = left - (p.a.size : Int) := w64 (by omega) (by omega)
  have fin : ∀ t : Int, t = -1 → (0 ≤ t → p.small) ∧ t ≤ left := fun t ht => ⟨fun h => by omega, by omega⟩
  have now1 : Ev (fun _ => some (-1 : Int)) (-1) := Ev.now _
  by_cases hn : left - (p.a.size : Int) < 0
  · refine ⟨-1, ?_, fin _ rfl⟩
    simp only [laws_szProduct.f, hw, if_pos hn]; exact now1
  simp only [laws_szProduct.f, hw, if_neg hn]
  obtain ⟨t2, e2, a2⟩ := szS_ev p.l2 h.h2.1 h.h2.2 _ (show 0 ≤ left - (p.a.size : Int) by omega) (by omega)
  by_cases n2 : t2 < 0
  · exact ⟨-1, Ev.bind e2 (by simp only [if_pos n2]; exact now1), fin _ rfl⟩
  have a2' := a2 (by omega)
  obtain ⟨t3, e3, a3⟩ := szS_ev p.l3 h.h3.1 h.h3.2 t2 (by omega) (by omega)
  by_cases n3 : t3 < 0
  · exact ⟨-1, Ev.bind e2 (by simp only [if_neg n2]; exact Ev.bind e3 (by simp only [if_pos n3]; exact now1)), fin _ rfl⟩
  have a3' := a3 (by omega)
  obtain ⟨t4, e4, a4, b4⟩ := szPm_ev p.l4 h.h4.1 h.h4.2 t3 (by omega) (by omega)
  by_cases n4 : t4 < 0
  · exact ⟨-1, Ev.bind e2 (by simp only [if_neg n2]; exact Ev.bind e3 (by simp only [if_neg n3]; exact Ev.bind e4 (by simp only [if_pos n4]; exact now1))), fin _ rfl⟩
  obtain ⟨a4', s4⟩ := a4 (by omega)
  obtain ⟨t5, e5, a5, b5⟩ := szN_ev p.l5 h.h5.1 h.h5.2 t4 (by omega) (by omega)
  by_cases n5 : t5 < 0
  · exact ⟨-1, Ev.bind e2 (by simp only [if_neg n2]; exact Ev.bind e3 (by simp only [if_neg n3]; exact Ev.bind e4 (by simp only [if_neg n4]; exact Ev.bind e5 (by simp only [if_pos n5]; exact now1)))), fin _ rfl⟩
  obtain ⟨a5', s5⟩ := a5 (by omega)
  obtain ⟨t6, e6, a6, b6⟩ := szN_ev p.l6 h.h6.1 h.h6.2 t5 (by omega) (by omega)
  by_cases n6 : t6 < 0
  · exact ⟨-1, Ev.bind e2 (by simp only [if_neg n2]; exact Ev.bind e3 (by simp only [if_neg n3]; exact Ev.bind e4 (by simp only [if_neg n4]; exact Ev.bind e5 (by simp only [if_neg n5]; exact Ev.bind e6 (by simp only [if_pos n6]; exact now1))))), fin _ rfl⟩
  obtain ⟨a6', s6⟩ := a6 (by omega)
  obtain ⟨t7, e7, a7, b7⟩ := szN_ev p.l7 h.h7.1 h.h7.2 t6 (by omega) (by omega)
  by_cases n7 : t7 < 0
  · exact ⟨-1, Ev.bind e2 (by simp only [if_neg n2]; exact Ev.bind e3 (by simp only [if_neg n3]; exact Ev.bind e4 (by simp only [if_neg n4]; exact Ev.bind e5 (by simp only [if_neg n5]; exact Ev.bind e6 (by simp only [if_neg n6]; exact Ev.bind e7 (by simp only [if_pos n7]; exact now1)))))), fin _ rfl⟩
  obtain ⟨a7', s7⟩ := a7 (by omega)
  exact ⟨t7, Ev.bind e2 (by simp only [if_neg n2]; exact Ev.bind e3 (by simp only [if_neg n3]; exact Ev.bind e4 (by simp only [if_neg n4]; exact Ev.bind e5 (by simp only [if_neg n5]; exact Ev.bind e6 (by simp only [if_neg n6]; exact Ev.bind e7 (by simp only [if_neg n7]; exact Ev.now _)))))),
    fun _ => ⟨by omega, by omega, by omega, by omega, by omega, by omega, by omega, fun x hx => by have := mem_tot _ x hx; omega, fun x hx => by have := mem_tot _ x hx; omega, s4, s5, s6, s7⟩, by omega⟩
theorem toProd_ev (p : PL) (h : p.small) : Ev (fun k => laws_toProduct.f k p.a p.b p.l2 p.l3 p.l4 p.l5 p.l6 p.l7) (p.a, p.b, p.l2, p.l3, p.l4.map cP, p.l5.map cN, p.l6.map cN, p.l7.map cN) := by
  simp only [laws_toProduct.f]
  refine Ev.bind (toS_ev p.l2 (by have := h.h2; omega)) ?_
  refine Ev.bind (toS_ev p.l3 (by have := h.h3; omega)) ?_
  refine Ev.bind (toPm_ev p.l4 h.h4) ?_
  refine Ev.bind (toN_ev p.l5 h.h5) ?_
  refine Ev.bind (toN_ev p.l6 h.h6) ?_
  refine Ev.bind (toN_ev p.l7 h.h7) ?_
  exact Ev.now _
theorem eqProd_ev (p : PL) (h : p.small) : Ev (fun k => laws_eqProduct.f k p.a p.b p.l2 p.l3 (p.l4.map cP) (p.l5.map cN) (p.l6.map cN) (p.l7.map cN) p.a p.b p.l2 p.l3 (p.l4.map cP) (p.l5.map cN) (p.l6.map cN) (p.l7.map cN)) true := by
  simp only [laws_eqProduct.f, if_true]
  refine Ev.bind (eqS_ev p.l2 (by have := h.h2; omega)) ?_
  simp only [if_true]
  refine Ev.bind (eqS_ev p.l3 (by have := h.h3; omega)) ?_
  simp only [if_true]
  refine Ev.bind (eqPm_ev _ (by rw [List.length_map]; have := h.h4; omega)) ?_
  simp only [if_true]
  refine Ev.bind (eqN_ev _ (by rw [List.length_map]; have := h.h5; omega)) ?_
  simp only [if_true]
  refine Ev.bind (eqN_ev _ (by rw [List.length_map]; have := h.h6; omega)) ?_
  simp only [if_true]
  refine Ev.bind (eqN_ev _ (by rw [List.length_map]; have := h.h7; omega)) ?_
  simp only [if_true]
  exact Ev.now _

theorem right_same (a : Int) : impl_MoneyRight.f a = spec_MoneyRight.f a := by
  simp only [spec_MoneyRight.f, impl_MoneyRight.f, impl_in.f, ge_iff_le]
  by_cases h1 : (-1000000000000 : Int) ≤ a
  · simp only [if_pos h1, Option.bind_some]
  · simp only [if_neg h1, Option.bind_some]
/-- Is it money? -/
def mr (a : Int) : Bool := decide (-1000000000000 ≤ a ∧ a ≤ 1000000000000)
theorem right_is (a : Int) : spec_MoneyRight.f a = some (mr a) := by
  simp only [spec_MoneyRight.f, ge_iff_le, mr]
  by_cases h1 : (-1000000000000 : Int) ≤ a
  · simp [h1]
  · simp [h1]

def iB (lo hi x : Int) : Bool := decide (lo ≤ x) && decide (x ≤ hi)
theorem implIn (x lo hi : Int) : impl_in.f x lo hi = some (iB lo hi x) := by
  unfold impl_in.f iB
  by_cases h : lo ≤ x
  · rw [if_pos h, decide_eq_true h, Bool.true_and]
  · rw [if_neg h, decide_eq_false h, Bool.false_and]
theorem ev_from {α : Type} {g : Nat → Option α} {r : α} (c : Nat) (h : ∀ k, g (k + c) = some r) : Ev g r :=
  ⟨c, fun n hn => by obtain ⟨m, rfl⟩ : ∃ m, n = m + c := ⟨n - c, by omega⟩; exact h m⟩

def lowC (c : UInt8) : Bool := decide (97 ≤ c.toNat) && decide (c.toNat ≤ 122)
def tailC (c : UInt8) : Bool := lowC c || (decide (48 ≤ c.toNat) && decide (c.toNat ≤ 57)) || decide (c.toNat = 95)
/-- Is it a name, but for how many bytes it has? -/
def wordF : List UInt8 → Bool
  | [] => false
  | c :: r => lowC c && r.all tailC
theorem bt_data (s : ByteArray) (i : Nat) (h : i < s.size) : bt s (i : Int) = ((s.data.toList[i]'(by rw [Array.length_toList]; exact h)).toNat : Int) := by
  unfold bt
  rw [Int.toNat_natCast, dif_pos h]
  rfl
theorem sname_l0 (a : ByteArray) (hs : a.size ≤ 140737488351232) : ∀ (d i : Nat), a.size - i = d → 1 ≤ i → Ev (fun k => spec_NameRight.l0 k a (i : Int)) ((a.data.toList.drop i).all tailC) := by
  have hlen : a.data.toList.length = a.size := by rw [Array.length_toList]; rfl
  intro d
  induction d with
  | zero =>
    intro i hd hi
    refine ev_succ ?_
    rw [List.drop_eq_nil_of_le (by omega)]
    simp only [spec_NameRight.l0, if_neg (natNotLt (show ¬ i < a.size by omega))]
    exact Ev.now _
  | succ d ih =>
    intro i hd hi
    have hlt : i < a.size := by omega
    refine ev_succ ?_
    have hz : ¬ (i : Int) = 0 := by omega
    have e := ih (i + 1) (by omega) (by omega)
    simp only [spec_NameRight.l0, if_pos (natLt hlt), if_pos (nat0 i), if_neg hz, wsucc hlt hs, bt_data a i hlt]
    rw [List.drop_eq_getElem_cons (show i < a.data.toList.length by omega), List.all_cons]
    generalize hc : a.data.toList[i]'(by omega) = c
    rw [show tailC c = (decide (97 ≤ c.toNat) && decide (c.toNat ≤ 122) || decide (48 ≤ c.toNat) && decide (c.toNat ≤ 57) || decide (c.toNat = 95)) from rfl]
    by_cases h1 : ((c.toNat : Int) ≥ 97)
    · refine ev_pos h1 ?_
      by_cases h2 : ((c.toNat : Int) ≤ 122)
      · refine ev_pos h2 ?_
        rw [decide_eq_true (show 97 ≤ c.toNat by omega), decide_eq_true (show c.toNat ≤ 122 by omega)]
        simpa using e
      · refine ev_neg h2 ?_
        rw [decide_eq_false (show ¬ c.toNat ≤ 122 by omega), decide_eq_false (show ¬ c.toNat ≤ 57 by omega), decide_eq_false (show ¬ c.toNat = 95 by omega)]
        refine ev_pos (show (c.toNat : Int) ≥ 48 by omega) (ev_neg (show ¬ (c.toNat : Int) ≤ 57 by omega) (ev_neg (show ¬ (c.toNat : Int) = 95 by omega) ?_))
        simp only [Bool.and_false, Bool.or_false, Bool.false_and]
        exact Ev.now _
    · refine ev_neg h1 ?_
      rw [decide_eq_false (show ¬ 97 ≤ c.toNat by omega)]
      by_cases h3 : ((c.toNat : Int) ≥ 48)
      · refine ev_pos h3 ?_
        by_cases h4 : ((c.toNat : Int) ≤ 57)
        · refine ev_pos h4 ?_
          rw [decide_eq_true (show 48 ≤ c.toNat by omega), decide_eq_true (show c.toNat ≤ 57 by omega)]
          simpa using e
        · refine ev_neg h4 ?_
          by_cases h5 : ((c.toNat : Int) = 95)
          · refine ev_pos h5 ?_
            rw [decide_eq_true (show c.toNat = 95 by omega)]
            simpa using e
          · refine ev_neg h5 ?_
            rw [decide_eq_false (show ¬ c.toNat ≤ 57 by omega), decide_eq_false (show ¬ c.toNat = 95 by omega)]
            simp only [Bool.and_false, Bool.or_false, Bool.false_and]
            exact Ev.now _
      · refine ev_neg h3 (ev_neg (show ¬ (c.toNat : Int) = 95 by omega) ?_)
        rw [decide_eq_false (show ¬ 48 ≤ c.toNat by omega), decide_eq_false (show ¬ c.toNat = 95 by omega)]
        simp only [Bool.and_false, Bool.or_false, Bool.false_and]
        exact Ev.now _
/-- A name. -/
def nameF (a : ByteArray) : Bool := decide (a.size ≤ 20) && wordF a.data.toList
theorem sname_ev (a : ByteArray) (hs : a.size ≤ 140737488351232) : Ev (fun k => spec_NameRight.f k a) (nameF a) := by
  have hlen : a.data.toList.length = a.size := by rw [Array.length_toList]; rfl
  by_cases h1 : (a.size : Int) < 1
  · simp only [spec_NameRight.f, if_pos h1]
    refine ev_succ ?_
    simp only [spec_NameRight.j0, if_true]
    have : a.data.toList = [] := List.eq_nil_of_length_eq_zero (by omega)
    unfold nameF
    rw [this]
    simp only [wordF, Bool.and_false]
    exact Ev.now _
  · simp only [spec_NameRight.f, if_neg h1]
    refine ev_succ ?_
    by_cases h2 : (a.size : Int) > 20
    · simp only [decide_eq_true h2, spec_NameRight.j0, if_true]
      unfold nameF
      rw [decide_eq_false (show ¬ a.size ≤ 20 by omega)]
      simp only [Bool.false_and]
      exact Ev.now _
    · simp only [decide_eq_false h2, spec_NameRight.j0, Bool.false_eq_true, if_false]
      unfold nameF
      rw [decide_eq_true (show a.size ≤ 20 by omega), Bool.true_and]
      have hlt : 0 < a.size := by omega
      refine ev_succ ?_
      have e := sname_l0 a hs (a.size - 1) 1 (by omega) (by omega)
      have hb := bt_data a 0 hlt
      have hw := wsucc hlt hs
      rw [show ((0 : Nat) : Int) = 0 from rfl] at hb hw
      simp only [spec_NameRight.l0, if_pos (show (0 : Int) < (a.size : Int) by omega), if_pos (show (0 : Int) ≤ 0 by omega), if_true, hw, hb]
      obtain ⟨c, r, hcr⟩ : ∃ c r, a.data.toList = c :: r := by
        cases hq : a.data.toList with
        | nil => rw [hq] at hlen; simp at hlen; omega
        | cons c r => exact ⟨c, r, rfl⟩
      have hc0 : a.data.toList[0]'(by omega) = c := by simp [hcr]
      rw [hc0]
      rw [hcr, List.drop_succ_cons, List.drop_zero] at e
      rw [hcr]
      simp only [wordF, lowC]
      by_cases h3 : ((c.toNat : Int) ≥ 97)
      · refine ev_pos h3 ?_
        by_cases h4 : ((c.toNat : Int) ≤ 122)
        · refine ev_pos h4 ?_
          rw [decide_eq_true (show 97 ≤ c.toNat by omega), decide_eq_true (show c.toNat ≤ 122 by omega)]
          simpa using e
        · refine ev_neg h4 ?_
          rw [decide_eq_false (show ¬ c.toNat ≤ 122 by omega)]
          simp only [Bool.and_false, Bool.false_and]
          exact Ev.now _
      · refine ev_neg h3 ?_
        rw [decide_eq_false (show ¬ 97 ≤ c.toNat by omega)]
        simp only [Bool.false_and]
        exact Ev.now _
theorem dropWhile_nil {α : Type} (p : α → Bool) : ∀ l : List α, l.dropWhile p = [] ↔ l.all p = true
  | [] => by simp
  | a :: l => by
    rw [List.dropWhile_cons, List.all_cons]
    cases h : p a with
    | true => simpa using dropWhile_nil p l
    | false => simp
theorem trim_nil (l cs : List UInt8) : Lib.trimS l cs = [] ↔ l.all (cs.contains ·) = true := by
  unfold Lib.trimS Lib.trimLeftS Lib.trimRightS
  rw [dropWhile_nil, List.all_reverse]
  constructor
  · intro h
    have e := List.takeWhile_append_dropWhile (p := (cs.contains ·)) (l := l.reverse)
    rw [← List.all_reverse, ← e, List.all_append, h, Bool.and_true]
    exact List.all_takeWhile
  · intro h
    rw [List.all_eq_true] at h ⊢
    intro x hx
    exact h x (List.mem_reverse.1 ((List.dropWhile_sublist _).mem hx))
theorem low_cs : ∀ n : Fin 256, ([97, 98, 99, 100, 101, 102, 103, 104, 105, 106, 107, 108, 109, 110, 111, 112, 113, 114, 115, 116, 117, 118, 119, 120, 121, 122] : List UInt8).contains (UInt8.ofNat n.val) = lowC (UInt8.ofNat n.val) := by decide +kernel
theorem tail_cs : ∀ n : Fin 256, ([97, 98, 99, 100, 101, 102, 103, 104, 105, 106, 107, 108, 109, 110, 111, 112, 113, 114, 115, 116, 117, 118, 119, 120, 121, 122, 48, 49, 50, 51, 52, 53, 54, 55, 56, 57, 95] : List UInt8).contains (UInt8.ofNat n.val) = tailC (UInt8.ofNat n.val) := by decide +kernel
theorem low_c (c : UInt8) : ([97, 98, 99, 100, 101, 102, 103, 104, 105, 106, 107, 108, 109, 110, 111, 112, 113, 114, 115, 116, 117, 118, 119, 120, 121, 122] : List UInt8).contains c = lowC c := by
  have := low_cs ⟨c.toNat, c.toNat_lt⟩
  simpa using this
theorem tail_c (c : UInt8) : ([97, 98, 99, 100, 101, 102, 103, 104, 105, 106, 107, 108, 109, 110, 111, 112, 113, 114, 115, 116, 117, 118, 119, 120, 121, 122, 48, 49, 50, 51, 52, 53, 54, 55, 56, 57, 95] : List UInt8).contains c = tailC c := by
  have := tail_cs ⟨c.toNat, c.toNat_lt⟩
  simpa using this
theorem all_congr {l : List UInt8} {p q : UInt8 → Bool} (h : ∀ c, p c = q c) : l.all p = l.all q := by
  rw [show p = q from funext h]
theorem toArr_nil (l : List UInt8) : ((⟨l.toArray⟩ : ByteArray).toList = ([] : List UInt8)) ↔ l = [] := by rw [Lib.toList_data]
theorem implWord (a : ByteArray) (hs : a.size ≤ 140737488351232) : impl_isWord.f a = some (wordF a.data.toList) := by
  have hlen : a.data.toList.length = a.size := by rw [Array.length_toList]; rfl
  unfold impl_isWord.f
  rw [Lib.toList_data]
  cases hq : a.data.toList with
  | nil => rw [if_pos rfl]; rfl
  | cons c r =>
    have hsz : 1 ≤ a.size := by rw [← hlen, hq]; simp
    rw [if_neg (by simp), if_pos (by decide), if_pos (by omega)]
    have e1 : (a.extract 0 1).data.toList = [c] := by
      rw [Lib.extract_data, hq]; rfl
    have se : (a.extract 0 1).size ≤ 9223372036854775807 := by
      have : (a.extract 0 1).data.toList.length = (a.extract 0 1).size := by rw [Array.length_toList]; rfl
      rw [← this, e1]; simp
    unfold strings_Trim.f
    rw [if_pos ⟨se, by decide +kernel, by decide +kernel⟩, Option.bind_some, e1]
    have t1 : (Lib.trimS [c] ([97, 98, 99, 100, 101, 102, 103, 104, 105, 106, 107, 108, 109, 110, 111, 112, 113, 114, 115, 116, 117, 118, 119, 120, 121, 122] : List UInt8) = []) ↔ lowC c = true := by
      rw [trim_nil, List.all_cons, low_c]; simp
    have t2 : (Lib.trimS (c :: r) ([97, 98, 99, 100, 101, 102, 103, 104, 105, 106, 107, 108, 109, 110, 111, 112, 113, 114, 115, 116, 117, 118, 119, 120, 121, 122, 48, 49, 50, 51, 52, 53, 54, 55, 56, 57, 95] : List UInt8) = []) ↔ (c :: r).all tailC = true := by
      rw [trim_nil, all_congr tail_c]
    by_cases h1 : lowC c = true
    · rw [if_pos ((toArr_nil _).2 (t1.2 h1)), if_pos ⟨by omega, by decide +kernel, by decide +kernel⟩, Option.bind_some, hq]
      have hw : wordF (c :: r) = (c :: r).all tailC := by
        simp only [wordF, List.all_cons, h1, Bool.true_and]
        simp [tailC, h1]
      rw [hw]
      congr 1
      rw [Bool.eq_iff_iff, beq_iff_eq, toArr_nil]
      exact t2
    · rw [if_neg (fun h => h1 (t1.1 ((toArr_nil _).1 h)))]
      simp only [wordF, Bool.not_eq_true] at h1 ⊢
      rw [h1]; rfl
theorem implName (a : ByteArray) (hs : a.size ≤ 140737488351232) : impl_NameRight.f a = some (nameF a) := by
  unfold impl_NameRight.f nameF
  by_cases h : (a.size : Int) ≤ 20
  · rw [if_pos h, implWord a hs, Option.bind_some, decide_eq_true (show a.size ≤ 20 by omega), Bool.true_and]
  · rw [if_neg h, decide_eq_false (show ¬ a.size ≤ 20 by omega), Bool.false_and]

theorem c_nil (c : UInt8) (x : List UInt8) : Lib.contains [] (c :: x) = false := rfl
theorem c_cons (b : UInt8) (l sub : List UInt8) : Lib.contains (b :: l) sub = (sub.isPrefixOf (b :: l) || Lib.contains l sub) := by
  have hg := Lib.index_ge l sub
  unfold Lib.contains
  rw [Lib.index]
  by_cases h : sub.isPrefixOf (b :: l) = true
  · simp [h]
  · rw [Bool.not_eq_true] at h
    rw [h]
    by_cases h2 : Lib.index l sub = -1
    · simp [h2]
    · have h3 : (Lib.index l sub == -1) = false := beq_eq_false_iff_ne.mpr h2
      simp only [h3, Bool.false_eq_true, if_false, Bool.false_or]
      apply decide_eq_decide.2
      omega
theorem c_one (s : List UInt8) (c : UInt8) : Lib.contains s [c] = decide (c ∈ s) := by
  induction s with
  | nil => rfl
  | cons b l ih =>
    rw [c_cons, ih]
    by_cases h : c = b
    · subst h; simp [List.isPrefixOf]
    · have h' : (c == b) = false := beq_eq_false_iff_ne.mpr h
      simp [List.isPrefixOf, h', h]
theorem c_skip (v t x : List UInt8) (hv : (32 : UInt8) ∉ v) : Lib.contains (v ++ t) (32 :: x) = Lib.contains t (32 :: x) := by
  induction v with
  | nil => rfl
  | cons b v ih =>
    have hb : ((32 : UInt8) == b) = false := beq_eq_false_iff_ne.mpr (fun e => hv (by rw [e]; exact List.mem_cons_self))
    rw [List.cons_append, c_cons, ih (fun h => hv (List.mem_cons_of_mem _ h))]
    simp [List.isPrefixOf, hb]
theorem c_pre : ∀ (w v t : List UInt8), (32 : UInt8) ∉ w → (32 : UInt8) ∉ v → (w ++ [32]).isPrefixOf (v ++ 32 :: t) = decide (w = v)
  | [], [], t, _, _ => by simp [List.isPrefixOf]
  | [], b :: v, t, _, hv => by
    have hb : ((32 : UInt8) == b) = false := beq_eq_false_iff_ne.mpr (fun e => hv (by rw [e]; exact List.mem_cons_self))
    simp [List.isPrefixOf, hb]
  | a :: w, [], t, hw, _ => by
    have hb : (a == (32 : UInt8)) = false := beq_eq_false_iff_ne.mpr (fun e => hw (by rw [← e]; exact List.mem_cons_self))
    simp [List.isPrefixOf, hb]
  | a :: w, b :: v, t, hw, hv => by
    have ih := c_pre w v t (fun h => hw (List.mem_cons_of_mem _ h)) (fun h => hv (List.mem_cons_of_mem _ h))
    rw [List.cons_append, List.cons_append]
    simp only [List.isPrefixOf, ih, List.cons.injEq]
    by_cases e : a = b
    · subst e; simp
    · have hb : (a == b) = false := beq_eq_false_iff_ne.mpr e
      simp [hb, e]
/-- Words, each with a blank behind it. -/
def lineF (ws : List (List UInt8)) : List UInt8 := ws.flatMap fun v => v ++ [32]
theorem c_line (w : List UInt8) (hw : (32 : UInt8) ∉ w) : ∀ (ws : List (List UInt8)), (∀ v ∈ ws, (32 : UInt8) ∉ v) → Lib.contains (32 :: lineF ws) (32 :: (w ++ [32])) = decide (w ∈ ws)
  | [], _ => by
    rw [c_cons]
    cases w <;> rfl
  | v :: r, h => by
    have ih := c_line w hw r (fun x hx => h x (List.mem_cons_of_mem _ hx))
    have e : lineF (v :: r) = v ++ 32 :: lineF r := by simp [lineF]
    rw [e, c_cons, c_skip _ _ _ (h v List.mem_cons_self), ih]
    have e2 : (32 :: (w ++ [32])).isPrefixOf (32 :: (v ++ 32 :: lineF r)) = decide (w = v) := by
      rw [← c_pre w v (lineF r) hw (h v List.mem_cons_self)]
      simp [List.isPrefixOf]
    rw [e2]
    by_cases q : w = v
    · simp [q]
    · simp [q]
def wordsB : List ByteArray := spec_l07Words.f.getD []
def wordsL : List (List UInt8) := wordsB.map fun x => x.data.toList
theorem words_is : spec_l07Words.f = some wordsB := rfl
theorem words_blank : ∀ v ∈ wordsL, (32 : UInt8) ∉ v := by decide +kernel
theorem words_nil : ([] : List UInt8) ∉ wordsL := by decide +kernel
theorem in_l0 (l : List ByteArray) (a : ByteArray) (hl : l.length ≤ 140737488351232) : ∀ (d i : Nat), l.length - i = d → Ev (fun k => spec_l05In.l0 k l a (i : Int)) (decide (a.data.toList ∈ (l.drop i).map fun x => x.data.toList)) := by
  intro d
  induction d with
  | zero =>
    intro i hd
    refine ev_succ ?_
    rw [List.drop_eq_nil_of_le (by omega)]
    simp only [spec_l05In.l0, if_neg (natNotLt (show ¬ i < l.length by omega))]
    exact Ev.now _
  | succ d ih =>
    intro i hd
    refine ev_succ ?_
    have hi : i < l.length := by omega
    simp only [spec_l05In.l0, if_pos (natLt hi), if_pos (nat0 i), rd_at l i hi, wsucc hi hl]
    rw [drop_at l i hi, List.map_cons]
    by_cases h : l[i].toList = a.toList
    · refine ev_pos h ?_
      rw [Lib.toList_data, Lib.toList_data] at h
      rw [h, decide_eq_true (List.mem_cons_self)]
      exact Ev.now _
    · refine ev_neg h ?_
      have e := ih (i + 1) (by omega)
      rw [Lib.toList_data, Lib.toList_data] at h
      rw [show decide (a.data.toList ∈ l[i].data.toList :: (l.drop (i + 1)).map fun x => x.data.toList) = decide (a.data.toList ∈ (l.drop (i + 1)).map fun x => x.data.toList) by
        apply decide_eq_decide.2
        rw [List.mem_cons]
        exact ⟨fun q => q.resolve_left (fun q => h q.symm), Or.inr⟩]
      exact e
theorem specRes_ev (a : ByteArray) : Ev (fun k => spec_Reserved.f k a) (decide (a.data.toList ∈ wordsL)) := by
  simp only [spec_Reserved.f, words_is, Option.bind_some]
  refine Ev.bind (a := decide (a.data.toList ∈ wordsL)) ?_ (Ev.now _)
  simp only [spec_l05In.f]
  exact in_l0 wordsB a (by decide +kernel) wordsB.length 0 rfl
set_option maxRecDepth 100000 in
theorem implRes (a : ByteArray) (h : a.size ≤ 1048576) : impl_Reserved.f a = some (decide (a.data.toList ∈ wordsL)) := by
  unfold impl_Reserved.f
  rw [Lib.toList_data]
  by_cases h0 : a.data.toList = []
  · rw [if_pos h0, h0, decide_eq_false words_nil]
  · rw [if_neg h0]
    have e1 : strings_Contains.f a ⟨#[32]⟩ = some (decide ((32 : UInt8) ∈ a.data.toList)) := by
      unfold strings_Contains.f
      rw [if_pos (by omega), ← c_one]
    rw [e1, Option.bind_some]
    by_cases h1 : (32 : UInt8) ∈ a.data.toList
    · simp only [decide_eq_true h1, if_true]
      rw [decide_eq_false (fun q => words_blank _ q h1)]
    · simp only [decide_eq_false h1, Bool.false_eq_true, if_false]
      have hs : ((⟨#[32]⟩ : ByteArray) ++ a).size = 1 + a.size := by rw [ByteArray.size_append]; rfl
      rw [if_pos (by omega), if_pos (by omega)]
      unfold strings_Contains.f
      have ed : (((⟨#[32]⟩ : ByteArray) ++ a) ++ (⟨#[32]⟩ : ByteArray)).data.toList = 32 :: (a.data.toList ++ [32]) := by simp
      rw [if_pos (by decide +kernel), ed, Option.bind_some, ← c_line a.data.toList h1 wordsL words_blank]
      exact congrArg (fun z => some (Lib.contains z (32 :: (a.data.toList ++ [32])))) (by decide +kernel)

/-- The first place of s in l from i on, -1 if there is none. -/
def idxF (l : List ByteArray) (s : ByteArray) (i : Nat) : Int :=
  if i < l.length then (if (rdOf ByteArray.empty l i).toList = s.toList then (i : Int) else idxF l s (i + 1)) else -1
termination_by l.length - i
theorem idxF_range (l : List ByteArray) (s : ByteArray) : ∀ (d i : Nat), l.length - i = d → -1 ≤ idxF l s i ∧ idxF l s i < l.length := by
  intro d
  induction d with
  | zero => intro i hd; rw [idxF, if_neg (by omega)]; omega
  | succ d ih =>
    intro i hd; rw [idxF, if_pos (by omega)]; split
    · omega
    · exact ih _ (by omega)
theorem index_l0 (l : List ByteArray) (s : ByteArray) (hl : l.length ≤ 140737488351232) : ∀ (d i : Nat), l.length - i = d → Ev (fun k => slices_Index_string_string.l0 k l s l.length i) (idxF l s i) := by
  intro d
  induction d with
  | zero =>
    intro i hd
    refine ev_succ ?_
    rw [idxF, if_neg (by omega)]
    simp only [slices_Index_string_string.l0, if_neg (natNotLt (show ¬ i < l.length by omega))]
    exact Ev.now _
  | succ d ih =>
    intro i hd
    refine ev_succ ?_
    have hi : i < l.length := by omega
    rw [idxF, if_pos hi]
    simp only [slices_Index_string_string.l0, if_pos (natLt hi), if_pos (nat0 i), wsucc hi hl]
    by_cases h : (rdOf ByteArray.empty l i).toList = s.toList
    · simp only [if_pos h, if_pos h.symm]; exact Ev.now _
    · simp only [if_neg h, if_neg (Ne.symm h)]; exact ih _ (by omega)


theorem ev_up {α : Type} {g : Nat → Option α} {r : α} (e : Ev g r) : Ev (fun k => g (k + 1)) r := by
  obtain ⟨K, h⟩ := e
  exact ⟨K, fun n hn => h (n + 1) (by omega)⟩
theorem and_tail (p q : Bool) : (if p = true then some q else some false) = some (p && q) := by cases p <;> rfl
/-- A name that is free. -/
def freeF (a : ByteArray) : Bool := nameF a && !(decide (a.data.toList ∈ wordsL))
theorem freeImpl (a : ByteArray) (h : a.size ≤ 1048576) : impl_isFree.f a = some (freeF a) := by
  unfold impl_isFree.f freeF
  rw [implName a (by omega), Option.bind_some, implRes a h]
  cases nameF a <;> rfl
theorem freeSpec (a : ByteArray) (h : a.size ≤ 1048576) : Ev (fun k => spec_l07Name.f k a) (freeF a) := by
  simp only [spec_l07Name.f]
  refine Ev.bind (sname_ev a (by omega)) ?_
  unfold freeF
  cases nameF a with
  | false => simp only [Bool.false_eq_true, if_false, Bool.false_and]; exact Ev.now _
  | true => simp only [if_true, Bool.true_and]; exact Ev.bind (specRes_ev a) (Ev.now _)
/-- A number in the bounds of its type. -/
def bndF (kind n : Int) : Bool := if kind = 1 ∨ kind = 2 then mr n else if kind = 3 then iB 0 1000000 n else if kind = 4 then iB 0 36524 n else if kind = 5 then iB 0 1 n else false
theorem boundSpec (kind n : Int) : ∀ k, spec_l07Bound.f (k + 1) kind n = some (bndF kind n) := by
  intro k
  have hr : spec_l03Rate.f n = some (iB 0 1000000 n) := by
    unfold spec_l03Rate.f iB
    by_cases c : n ≥ 0
    · rw [if_pos c, decide_eq_true (show 0 ≤ n by omega), Bool.true_and]
    · rw [if_neg c, decide_eq_false (show ¬ 0 ≤ n by omega), Bool.false_and]
  have hd : spec_l03Right.f n = some (iB 0 36524 n) := by
    unfold spec_l03Right.f iB
    by_cases c : n ≥ 0
    · rw [if_pos c, decide_eq_true (show 0 ≤ n by omega), Bool.true_and]
    · rw [if_neg c, decide_eq_false (show ¬ 0 ≤ n by omega), Bool.false_and]
  have h1 : (if n = 0 then some true else some (n == 1)) = some (iB 0 1 n) := by
    unfold iB
    by_cases c : n = 0
    · subst c; rfl
    · rw [if_neg c]; congr 1
      rw [Bool.eq_iff_iff, beq_iff_eq, Bool.and_eq_true, decide_eq_true_eq, decide_eq_true_eq]; omega
  simp only [spec_l07Bound.f, spec_l07Bound.j0, right_is, hr, hd, h1, Option.bind_some]
  unfold bndF
  by_cases c1 : kind = 1
  · subst c1; simp
  by_cases c2 : kind = 2
  · subst c2; simp
  simp only [if_neg c1, show (kind == 2) = false from beq_eq_false_iff_ne.mpr c2, Bool.false_eq_true, if_false, if_neg (show ¬ (kind = 1 ∨ kind = 2) by omega)]
  by_cases c3 : kind = 3
  · rw [if_pos c3, if_pos c3]
  rw [if_neg c3, if_neg c3]
  by_cases c4 : kind = 4
  · rw [if_pos c4, if_pos c4]
  rw [if_neg c4, if_neg c4]
  by_cases c5 : kind = 5
  · rw [if_pos c5, if_pos c5]
  · rw [if_neg c5, if_neg c5]
theorem boundImpl (kind n : Int) : ∀ k, impl_inType.f (k + 1) kind n = some (bndF kind n) := by
  intro k
  have hm : impl_MoneyRight.f n = some (mr n) := by rw [right_same, right_is]
  have hr : impl_isRate.f n = some (iB 0 1000000 n) := by unfold impl_isRate.f; rw [implIn]; rfl
  have hd : impl_isDay.f n = some (iB 0 36524 n) := by unfold impl_isDay.f; rw [implIn]; rfl
  simp only [impl_inType.f, impl_inType.j0, hm, hr, hd, implIn, Option.bind_some]
  unfold bndF
  by_cases c1 : kind = 1
  · subst c1; simp
  by_cases c2 : kind = 2
  · subst c2; simp
  simp only [if_neg c1, show (kind == 2) = false from beq_eq_false_iff_ne.mpr c2, Bool.false_eq_true, if_false, if_neg (show ¬ (kind = 1 ∨ kind = 2) by omega)]
  by_cases c3 : kind = 3
  · rw [if_pos c3, if_pos c3]
  rw [if_neg c3, if_neg c3]
  by_cases c4 : kind = 4
  · rw [if_pos c4, if_pos c4]
  rw [if_neg c4, if_neg c4]
  by_cases c5 : kind = 5
  · rw [if_pos c5, if_pos c5]
  · rw [if_neg c5, if_neg c5]
/-- Is a text one of these? -/
def inF (l : List ByteArray) (a : ByteArray) : Bool := decide (a.data.toList ∈ l.map fun x => x.data.toList)
theorem inSpec (l : List ByteArray) (a : ByteArray) (hl : l.length ≤ 140737488351232) : Ev (fun k => spec_l05In.f k l a) (inF l a) := by
  simp only [spec_l05In.f]
  have := in_l0 l a hl l.length 0 rfl
  rwa [List.drop_zero] at this
theorem idx_in (l : List ByteArray) (a : ByteArray) : ∀ (d i : Nat), l.length - i = d → decide (idxF l a i ≥ 0) = decide (a.data.toList ∈ (l.drop i).map fun x => x.data.toList) := by
  intro d
  induction d with
  | zero =>
    intro i hd
    rw [idxF, if_neg (by omega), List.drop_eq_nil_of_le (by omega)]; simp
  | succ d ih =>
    intro i hd
    have hi : i < l.length := by omega
    rw [idxF, if_pos hi, rd_at l i hi, List.drop_eq_getElem_cons hi, List.map_cons]
    by_cases h : l[i].toList = a.toList
    · rw [if_pos h]
      have h' : a.data.toList = l[i].data.toList := by rw [Lib.toList_data, Lib.toList_data] at h; exact h.symm
      rw [decide_eq_true (show (i : Int) ≥ 0 by omega), decide_eq_true (by rw [h']; exact List.mem_cons_self)]
    · rw [if_neg h, ih (i + 1) (by omega)]
      have h' : ¬ a.data.toList = l[i].data.toList := fun z => h (by rw [Lib.toList_data, Lib.toList_data]; exact z.symm)
      rw [decide_eq_decide]
      constructor
      · intro z; exact List.mem_cons_of_mem _ z
      · intro z
        rcases List.mem_cons.1 z with q | q
        · exact absurd q h'
        · exact q
theorem inImpl (l : List ByteArray) (a : ByteArray) (hl : l.length ≤ 140737488351232) : Ev (fun k => slices_Contains_string_string.f k l a) (inF l a) := by
  simp only [slices_Contains_string_string.f, slices_Index_string_string.f]
  refine Ev.bind (index_l0 l a hl l.length 0 rfl) ?_
  have := idx_in l a l.length 0 rfl
  rw [List.drop_zero] at this
  rw [this]; exact Ev.now _
def opsB : List ByteArray := impl_operators.f.getD []
def fnsB : List ByteArray := impl_functions.f.getD []
theorem ops_is : impl_operators.f = some opsB := rfl
theorem fns_is : impl_functions.f = some fnsB := rfl
theorem opSpec (a : ByteArray) : Ev (fun k => spec_l07Op.f k a) (inF opsB a) := by
  simp only [spec_l07Op.f]
  exact Ev.bind (inSpec opsB a (by decide +kernel)) (Ev.now _)
theorem callSpec (a : ByteArray) : Ev (fun k => spec_l07Call.f k a) (inF fnsB a) := by
  simp only [spec_l07Call.f]
  exact Ev.bind (inSpec fnsB a (by decide +kernel)) (Ev.now _)
def emp (a : ByteArray) : Bool := a.toList == []
theorem emp_if {α : Type} (a : ByteArray) (x y : α) : (if a.toList = ([] : List UInt8) then x else y) = if emp a = true then x else y := by
  unfold emp
  by_cases h : a.toList = []
  · rw [if_pos h, if_pos (by rw [h]; rfl)]
  · rw [if_neg h, if_neg (by simpa using h)]
/-- What a node has to be, seen by itself. -/
def sh5 (x : S73) : Bool :=
  if x.f0 = 20 ∨ x.f0 = 21 then freeF x.f1 && (x.f3 == 0 && x.f4 == 1)
  else if x.f0 = 22 then emp x.f1 && (x.f3 == 0 && x.f4 == 3)
  else if x.f0 = 23 then freeF x.f1 && (freeF x.f2 && (x.f3 == 0 && x.f4 == 1))
  else if x.f0 = 24 then emp x.f1 && (iB 1 99 x.f3 && x.f4 == 0)
  else if x.f0 = 26 then emp x.f1 && (x.f3 == 0 && x.f4 == 2)
  else if x.f0 = 27 then emp x.f1 && (x.f3 == 0 && iB 0 40 x.f4) else false
def sh4 (x : S73) : Bool := if x.f0 = 13 ∨ x.f0 = 25 then emp x.f1 && (x.f3 == 0 && x.f4 == 1) else if x.f0 = 14 then inF fnsB x.f1 && (x.f3 == 0 && iB 1 4 x.f4) else sh5 x
def sh3 (x : S73) : Bool := if x.f0 = 8 ∨ x.f0 = 9 ∨ x.f0 = 10 ∨ x.f0 = 11 then emp x.f1 && (x.f3 == 0 && x.f4 == 0) else if x.f0 = 12 then inF opsB x.f1 && (x.f3 == 0 && x.f4 == 2) else sh4 x
def sh2 (x : S73) : Bool := if x.f0 = 6 ∨ x.f0 = 7 then freeF x.f1 && (x.f3 == 0 && x.f4 == 0) else sh3 x
def sh1 (x : S73) : Bool := if x.f0 = 1 ∨ x.f0 = 2 ∨ x.f0 = 3 ∨ x.f0 = 4 ∨ x.f0 = 5 then emp x.f1 && (x.f4 == 0 && bndF x.f0 x.f3) else sh2 x
def shapeB (x : S73) : Bool := if x.f0 ≠ 23 ∧ emp x.f2 = false then false else sh1 x
theorem eq0_if {α : Type} (a b : Int) (x y : α) : (if a = b then x else y) = if (a == b) = true then x else y := by
  by_cases h : a = b
  · rw [if_pos h, if_pos (by simp [h])]
  · rw [if_neg h, if_neg (by simp [h])]
theorem ge_le (a lo hi : Int) : (if a ≥ lo then some (decide (a ≤ hi)) else some false) = some (iB lo hi a) := by
  unfold iB
  by_cases h : lo ≤ a
  · rw [if_pos h, decide_eq_true h, Bool.true_and]
  · rw [if_neg h, decide_eq_false h, Bool.false_and]
theorem ge_le2 (a lo hi : Int) (b : Bool) : (if a ≥ lo then (if a ≤ hi then some b else some false) else some false) = some (iB lo hi a && b) := by
  unfold iB
  by_cases h : lo ≤ a
  · by_cases h' : a ≤ hi
    · rw [if_pos h, if_pos h', decide_eq_true h, decide_eq_true h']; rfl
    · rw [if_pos h, if_neg h', decide_eq_false h', Bool.and_false, Bool.false_and]
  · rw [if_neg h, decide_eq_false h, Bool.false_and, Bool.false_and]
theorem ev_and {f : Nat → Option Bool} {p q : Bool} (e : Ev f p) : Ev (fun k => (f k).bind fun t => if t = true then some q else some false) (p && q) := by
  refine Ev.bind e ?_
  rw [and_tail]; exact Ev.now _
theorem ev_and2 {f : Nat → Option Bool} {p q : Bool} (e : Ev f p) : Ev (fun k => (f k).bind fun t => some (t && q)) (p && q) := Ev.bind e (Ev.now _)
theorem ev_true {g : Nat → Option Bool} {r s : Bool} (e : Ev g r) (h : r = s) : Ev g s := h ▸ e
section
variable (x : S73) (h1 : x.f1.size ≤ 1048576) (h2 : x.f2.size ≤ 1048576)
include h1 h2
theorem S5 : Ev (fun k => spec_l07Shape.j5 k x.f1 x.f3 x.f4 x.f0 (decide (x.f0 = 20 ∨ x.f0 = 21)) x.f0 x.f1 x.f2 x.f3 x.f4) (sh5 x) := by
  refine ev_succ ?_
  simp only [spec_l07Shape.j5, emp_if, eq0_if x.f3 0, ge_le, ge_le2, and_tail]
  unfold sh5
  by_cases c : x.f0 = 20 ∨ x.f0 = 21
  · rw [decide_eq_true c, if_pos c]; simp only [if_true]; exact ev_and2 (freeSpec _ h1)
  · rw [decide_eq_false c, if_neg c]; simp only [Bool.false_eq_true, if_false]
    refine ev_ite2 (fun _ => Ev.now _) (fun _ => ev_ite2 (fun _ => ?_) (fun _ => ev_ite2 (fun _ => Ev.now _) (fun _ => ev_ite2 (fun _ => Ev.now _) (fun _ => ev_ite2 (fun _ => Ev.now _) (fun _ => Ev.now _)))))
    refine Ev.bind (freeSpec _ h1) ?_
    cases freeF x.f1 with
    | false => simp only [Bool.false_eq_true, if_false, Bool.false_and]; exact Ev.now _
    | true => simp only [if_true, Bool.true_and]; exact ev_and2 (freeSpec _ h2)
theorem S4 : Ev (fun k => spec_l07Shape.j4 k x.f1 x.f3 x.f4 x.f0 (decide (x.f0 = 13 ∨ x.f0 = 25)) x.f0 x.f1 x.f2 x.f3 x.f4) (sh4 x) := by
  have e5 := S5 x h1 h2
  refine ev_succ ?_
  simp only [spec_l07Shape.j4, emp_if, eq0_if x.f3 0, ge_le, and_tail]
  unfold sh4
  by_cases c : x.f0 = 13 ∨ x.f0 = 25
  · rw [decide_eq_true c, if_pos c]; simp only [if_true]; exact Ev.now _
  · rw [decide_eq_false c, if_neg c]; simp only [Bool.false_eq_true, if_false]
    refine ev_ite2 (fun _ => ev_and2 (callSpec _)) (fun _ => ?_)
    by_cases d : x.f0 = 20
    · refine ev_pos d ?_
      rw [show (x.f0 == 20) = decide (x.f0 = 20 ∨ x.f0 = 21) by rw [Bool.eq_iff_iff, beq_iff_eq, decide_eq_true_iff]; omega]; exact e5
    · refine ev_neg d ?_
      rw [show (x.f0 == 21) = decide (x.f0 = 20 ∨ x.f0 = 21) by rw [Bool.eq_iff_iff, beq_iff_eq, decide_eq_true_iff]; omega]; exact e5
theorem S3 : Ev (fun k => spec_l07Shape.j3 k x.f1 x.f3 x.f4 x.f0 (decide (x.f0 = 8 ∨ x.f0 = 9 ∨ x.f0 = 10 ∨ x.f0 = 11)) x.f0 x.f1 x.f2 x.f3 x.f4) (sh3 x) := by
  have e4 := S4 x h1 h2
  refine ev_succ ?_
  simp only [spec_l07Shape.j3, emp_if, eq0_if x.f3 0, and_tail]
  unfold sh3
  by_cases c : x.f0 = 8 ∨ x.f0 = 9 ∨ x.f0 = 10 ∨ x.f0 = 11
  · rw [decide_eq_true c, if_pos c]; simp only [if_true]; exact Ev.now _
  · rw [decide_eq_false c, if_neg c]; simp only [Bool.false_eq_true, if_false]
    refine ev_ite2 (fun _ => ev_and2 (opSpec _)) (fun _ => ?_)
    by_cases d : x.f0 = 13
    · refine ev_pos d ?_
      rw [show (x.f0 == 13) = decide (x.f0 = 13 ∨ x.f0 = 25) by rw [Bool.eq_iff_iff, beq_iff_eq, decide_eq_true_iff]; omega]; exact e4
    · refine ev_neg d ?_
      rw [show (x.f0 == 25) = decide (x.f0 = 13 ∨ x.f0 = 25) by rw [Bool.eq_iff_iff, beq_iff_eq, decide_eq_true_iff]; omega]; exact e4
theorem S2 : Ev (fun k => spec_l07Shape.j2 k x.f1 x.f3 x.f4 x.f0 (decide (x.f0 = 6 ∨ x.f0 = 7)) x.f0 x.f1 x.f2 x.f3 x.f4) (sh2 x) := by
  have e3 := S3 x h1 h2
  refine ev_succ ?_
  simp only [spec_l07Shape.j2, eq0_if x.f3 0, and_tail]
  unfold sh2
  by_cases c : x.f0 = 6 ∨ x.f0 = 7
  · rw [decide_eq_true c, if_pos c]; simp only [if_true]; exact ev_and2 (freeSpec _ h1)
  · rw [decide_eq_false c, if_neg c]; simp only [Bool.false_eq_true, if_false]
    by_cases d8 : x.f0 = 8
    · refine ev_pos d8 ?_
      rw [show (x.f0 == 8) = decide (x.f0 = 8 ∨ x.f0 = 9 ∨ x.f0 = 10 ∨ x.f0 = 11) by rw [Bool.eq_iff_iff, beq_iff_eq, decide_eq_true_iff]; omega]; exact e3
    refine ev_neg d8 ?_
    by_cases d9 : x.f0 = 9
    · refine ev_pos d9 ?_
      rw [show (x.f0 == 9) = decide (x.f0 = 8 ∨ x.f0 = 9 ∨ x.f0 = 10 ∨ x.f0 = 11) by rw [Bool.eq_iff_iff, beq_iff_eq, decide_eq_true_iff]; omega]; exact e3
    refine ev_neg d9 ?_
    by_cases d10 : x.f0 = 10
    · refine ev_pos d10 ?_
      rw [show (x.f0 == 10) = decide (x.f0 = 8 ∨ x.f0 = 9 ∨ x.f0 = 10 ∨ x.f0 = 11) by rw [Bool.eq_iff_iff, beq_iff_eq, decide_eq_true_iff]; omega]; exact e3
    refine ev_neg d10 ?_
    rw [show (x.f0 == 11) = decide (x.f0 = 8 ∨ x.f0 = 9 ∨ x.f0 = 10 ∨ x.f0 = 11) by rw [Bool.eq_iff_iff, beq_iff_eq, decide_eq_true_iff]; omega]; exact e3
theorem S1 : Ev (fun k => spec_l07Shape.j1 k x.f1 x.f3 x.f4 x.f0 (decide (x.f0 = 1 ∨ x.f0 = 2 ∨ x.f0 = 3 ∨ x.f0 = 4 ∨ x.f0 = 5)) x.f0 x.f1 x.f2 x.f3 x.f4) (sh1 x) := by
  have e2 := S2 x h1 h2
  refine ev_succ ?_
  simp only [spec_l07Shape.j1, emp_if, eq0_if x.f4 0]
  unfold sh1
  by_cases c : x.f0 = 1 ∨ x.f0 = 2 ∨ x.f0 = 3 ∨ x.f0 = 4 ∨ x.f0 = 5
  · rw [decide_eq_true c, if_pos c]; simp only [if_true]
    cases emp x.f1 with
    | false => simp only [Bool.false_eq_true, if_false, Bool.false_and]; exact Ev.now _
    | true =>
      simp only [if_true, Bool.true_and]
      cases (x.f4 == 0) with
      | false => simp only [Bool.false_eq_true, if_false, Bool.false_and]; exact Ev.now _
      | true => simp only [if_true, Bool.true_and]; exact Ev.bind (ev_from 1 (boundSpec _ _)) (Ev.now _)
  · rw [decide_eq_false c, if_neg c]; simp only [Bool.false_eq_true, if_false]
    by_cases d6 : x.f0 = 6
    · refine ev_pos d6 ?_
      rw [show (x.f0 == 6) = decide (x.f0 = 6 ∨ x.f0 = 7) by rw [Bool.eq_iff_iff, beq_iff_eq, decide_eq_true_iff]; omega]; exact e2
    refine ev_neg d6 ?_
    rw [show (x.f0 == 7) = decide (x.f0 = 6 ∨ x.f0 = 7) by rw [Bool.eq_iff_iff, beq_iff_eq, decide_eq_true_iff]; omega]; exact e2
theorem shapeSpec : Ev (fun k => spec_l07Shape.f k x.f0 x.f1 x.f2 x.f3 x.f4) (shapeB x) := by
  have e1 := S1 x h1 h2
  have e0 : Ev (fun k => spec_l07Shape.j0 k x.f1 x.f3 x.f4 (decide (x.f0 ≠ 23 ∧ emp x.f2 = false)) x.f0 x.f1 x.f2 x.f3 x.f4) (shapeB x) := by
    refine ev_succ ?_
    simp only [spec_l07Shape.j0]
    unfold shapeB
    by_cases c : x.f0 ≠ 23 ∧ emp x.f2 = false
    · rw [decide_eq_true c, if_pos c]; simp only [if_true]; exact Ev.now _
    · rw [decide_eq_false c, if_neg c]; simp only [Bool.false_eq_true, if_false]
      by_cases d1 : x.f0 = 1
      · refine ev_pos d1 ?_
        rw [show (x.f0 == 1) = decide (x.f0 = 1 ∨ x.f0 = 2 ∨ x.f0 = 3 ∨ x.f0 = 4 ∨ x.f0 = 5) by rw [Bool.eq_iff_iff, beq_iff_eq, decide_eq_true_iff]; omega]; exact e1
      refine ev_neg d1 ?_
      by_cases d2 : x.f0 = 2
      · refine ev_pos d2 ?_
        rw [show (x.f0 == 2) = decide (x.f0 = 1 ∨ x.f0 = 2 ∨ x.f0 = 3 ∨ x.f0 = 4 ∨ x.f0 = 5) by rw [Bool.eq_iff_iff, beq_iff_eq, decide_eq_true_iff]; omega]; exact e1
      refine ev_neg d2 ?_
      by_cases d3 : x.f0 = 3
      · refine ev_pos d3 ?_
        rw [show (x.f0 == 3) = decide (x.f0 = 1 ∨ x.f0 = 2 ∨ x.f0 = 3 ∨ x.f0 = 4 ∨ x.f0 = 5) by rw [Bool.eq_iff_iff, beq_iff_eq, decide_eq_true_iff]; omega]; exact e1
      refine ev_neg d3 ?_
      by_cases d4 : x.f0 = 4
      · refine ev_pos d4 ?_
        rw [show (x.f0 == 4) = decide (x.f0 = 1 ∨ x.f0 = 2 ∨ x.f0 = 3 ∨ x.f0 = 4 ∨ x.f0 = 5) by rw [Bool.eq_iff_iff, beq_iff_eq, decide_eq_true_iff]; omega]; exact e1
      refine ev_neg d4 ?_
      rw [show (x.f0 == 5) = decide (x.f0 = 1 ∨ x.f0 = 2 ∨ x.f0 = 3 ∨ x.f0 = 4 ∨ x.f0 = 5) by rw [Bool.eq_iff_iff, beq_iff_eq, decide_eq_true_iff]; omega]; exact e1
  simp only [spec_l07Shape.f]
  by_cases c : x.f0 = 23
  · refine ev_pos c ?_
    rw [show decide (x.f0 ≠ 23 ∧ emp x.f2 = false) = false by simp [c]] at e0; exact e0
  · refine ev_neg c ?_
    rw [show decide (x.f0 ≠ 23 ∧ emp x.f2 = false) = (x.f2.toList != ([] : List UInt8)) by unfold emp; generalize x.f2.toList = l; cases l <;> simp [c]] at e0; exact e0
end

/-- What a kid has to be: 1 an expression, 2 a statement, 3 a block. -/
def sortF (kind i : Int) : Int := if kind = 27 then 2 else if (kind = 22 ∨ kind = 26) ∧ i > 0 then 3 else 1
def isB (kind sort : Int) : Bool := if sort = 1 then decide (kind < 20) else if sort = 2 then decide (20 ≤ kind ∧ kind ≤ 27) else decide (kind = 27)
theorem sortSpec (kind i : Int) : spec_l07Sort.f kind i = some (sortF kind i) := by
  unfold spec_l07Sort.f sortF
  by_cases c : kind = 27
  · rw [if_pos c, if_pos c]
  rw [if_neg c, if_neg c]
  by_cases c2 : kind = 22
  · rw [if_pos c2]
    by_cases d : i > 0
    · rw [if_pos d, if_pos ⟨Or.inl c2, d⟩]
    · rw [if_neg d, if_neg (by omega : ¬ ((kind = 22 ∨ kind = 26) ∧ i > 0))]; simp [c2]
  rw [if_neg c2]
  by_cases c3 : kind = 26
  · rw [if_pos c3]
    by_cases d : i > 0
    · rw [if_pos d, if_pos ⟨Or.inr c3, d⟩]
    · rw [if_neg d, if_neg (by omega : ¬ ((kind = 22 ∨ kind = 26) ∧ i > 0))]
  · rw [if_neg c3, if_neg (by omega : ¬ ((kind = 22 ∨ kind = 26) ∧ i > 0))]
theorem isSpec (kind sort : Int) : spec_l07Is.f kind sort = some (isB kind sort) := by
  unfold spec_l07Is.f isB
  by_cases c : sort = 1
  · rw [if_pos c, if_pos c]
  rw [if_neg c, if_neg c]
  by_cases c2 : sort = 2
  · rw [if_pos c2, if_pos c2]
    by_cases d : kind ≥ 20
    · by_cases d2 : kind < 27
      · rw [if_pos d, if_pos d2, decide_eq_true (show 20 ≤ kind ∧ kind ≤ 27 by omega)]
      · rw [if_pos d, if_neg d2]; congr 1; rw [Bool.eq_iff_iff, beq_iff_eq, decide_eq_true_iff]; omega
    · rw [if_neg d]; congr 1; rw [Bool.eq_iff_iff, beq_iff_eq, decide_eq_true_iff]; omega
  · rw [if_neg c2, if_neg c2]; congr 1
/-- The kids of a node, grown one behind the other. -/
def kidsG (g : Nat → Option (S161 × Nat)) : Nat → List S161 → Int → Nat → Option (List S161 × Int × Nat)
  | 0, acc, dp, at_ => some (acc, dp, at_)
  | m + 1, acc, dp, at_ => (g at_).bind fun p => kidsG g m (acc ++ [p.1]) (mx dp (wrap64 (p.1.f3 + 1))) p.2
/-- The tree at a place, no more than so many levels deep. -/
def grow (l : List S73) : Nat → Nat → Option (S161 × Nat)
  | 0, _ => none
  | e + 1, at_ => if at_ < l.length then (if 0 ≤ (rd_T73 l (at_ : Int)).f4 ∧ (rd_T73 l (at_ : Int)).f4 ≤ 150 then
      (kidsG (grow l e) (rd_T73 l (at_ : Int)).f4.toNat [] 1 (at_ + 1)).bind fun p => some (⟨rd_T73 l (at_ : Int), (at_ : Int), p.1, p.2.1⟩, p.2.2) else none) else none
def kidsOk (f : Int → S161 → Bool) (kind : Int) : Int → List S161 → Bool
  | _, [] => true
  | i, c :: cs => f (sortF kind i) c && kidsOk f kind (i + 1) cs
/-- A tree that is right, seen as that sort. -/
def okT : Nat → Int → S161 → Bool
  | 0, _, _ => false
  | e + 1, sort, t => isB t.f0.f0 sort && (shapeB t.f0 && kidsOk (okT e) t.f0.f0 0 t.f2)
/-- The kids of a node, as the reference goes through them: the place behind them. -/
def kidsS (f : Nat → Int → Option Nat) (kind : Int) : Nat → Int → Nat → Option Nat
  | 0, _, at_ => some at_
  | m + 1, i, at_ => (f at_ (sortF kind i)).bind fun nx => kidsS f kind m (i + 1) nx
def treeS (l : List S73) : Nat → Nat → Int → Option Nat
  | 0, _, _ => none
  | e + 1, at_, sort => if at_ < l.length then (if shapeB (rd_T73 l (at_ : Int)) = true ∧ isB (rd_T73 l (at_ : Int)).f0 sort = true then
      kidsS (treeS l e) (rd_T73 l (at_ : Int)).f0 (rd_T73 l (at_ : Int)).f4.toNat 0 (at_ + 1) else none) else none
theorem shape_many (x : S73) (h : shapeB x = true) : 0 ≤ x.f4 ∧ x.f4 ≤ 40 := by
  unfold shapeB sh1 sh2 sh3 sh4 sh5 at h
  have b1 : ∀ {p q : Bool} {m : Int}, (p && (q && (x.f4 == m))) = true → x.f4 = m := by intro p q m h; simp at h; exact h.2.2
  have b0 : ∀ {p q : Bool} {m : Int}, (p && ((x.f4 == m) && q)) = true → x.f4 = m := by intro p q m h; simp at h; exact h.2.1
  have b3 : ∀ {p q r : Bool} {m : Int}, (p && (q && (r && (x.f4 == m)))) = true → x.f4 = m := by intro p q r m h; simp at h; exact h.2.2.2
  have b4 : ∀ {p q : Bool} {lo hi : Int}, (p && (q && iB lo hi x.f4)) = true → lo ≤ x.f4 ∧ x.f4 ≤ hi := by intro p q lo hi h; unfold iB at h; simp at h; exact h.2.2
  by_cases c0 : x.f0 ≠ 23 ∧ emp x.f2 = false
  · rw [if_pos c0] at h; cases h
  rw [if_neg c0] at h
  by_cases c1 : x.f0 = 1 ∨ x.f0 = 2 ∨ x.f0 = 3 ∨ x.f0 = 4 ∨ x.f0 = 5
  · rw [if_pos c1] at h; have := b0 h; omega
  rw [if_neg c1] at h
  by_cases c2 : x.f0 = 6 ∨ x.f0 = 7
  · rw [if_pos c2] at h; have := b1 h; omega
  rw [if_neg c2] at h
  by_cases c3 : x.f0 = 8 ∨ x.f0 = 9 ∨ x.f0 = 10 ∨ x.f0 = 11
  · rw [if_pos c3] at h; have := b1 h; omega
  rw [if_neg c3] at h
  by_cases c4 : x.f0 = 12
  · rw [if_pos c4] at h; have := b1 h; omega
  rw [if_neg c4] at h
  by_cases c5 : x.f0 = 13 ∨ x.f0 = 25
  · rw [if_pos c5] at h; have := b1 h; omega
  rw [if_neg c5] at h
  by_cases c6 : x.f0 = 14
  · rw [if_pos c6] at h; have := b4 h; omega
  rw [if_neg c6] at h
  by_cases c7 : x.f0 = 20 ∨ x.f0 = 21
  · rw [if_pos c7] at h; have := b1 h; omega
  rw [if_neg c7] at h
  by_cases c8 : x.f0 = 22
  · rw [if_pos c8] at h; have := b1 h; omega
  rw [if_neg c8] at h
  by_cases c9 : x.f0 = 23
  · rw [if_pos c9] at h; have := b3 h; omega
  rw [if_neg c9] at h
  by_cases c10 : x.f0 = 24
  · rw [if_pos c10] at h; have := b1 h; omega
  rw [if_neg c10] at h
  by_cases c11 : x.f0 = 26
  · rw [if_pos c11] at h; have := b1 h; omega
  rw [if_neg c11] at h
  by_cases c12 : x.f0 = 27
  · rw [if_pos c12] at h; have := b4 h; omega
  rw [if_neg c12] at h
  cases h
/-- What the kids grow to, and what they are held to be. -/
theorem kids_same (l : List S73) (e : Nat) (ih : ∀ at_ sort, treeS l e at_ sort = (grow l e at_).bind fun p => if okT e sort p.1 = true then some p.2 else none) (kind : Int) :
    ∀ (m : Nat) (acc : List S161) (dp : Int) (i : Int) (at_ : Nat),
      (kidsS (treeS l e) kind m i at_ = none → ∀ acc' dp' nx, kidsG (grow l e) m acc dp at_ = some (acc', dp', nx) → ∃ ks, acc' = acc ++ ks ∧ kidsOk (okT e) kind i ks = false) ∧
      (∀ nx, kidsS (treeS l e) kind m i at_ = some nx → ∃ ks dp', kidsG (grow l e) m acc dp at_ = some (acc ++ ks, dp', nx) ∧ kidsOk (okT e) kind i ks = true) := by
  intro m
  induction m with
  | zero =>
    intro acc dp i at_
    refine ⟨fun h => by simp [kidsS] at h, fun nx h => ?_⟩
    simp only [kidsS, Option.some.injEq] at h
    subst h
    exact ⟨[], dp, by simp [kidsG], rfl⟩
  | succ m ihm =>
    intro acc dp i at_
    simp only [kidsS, kidsG, ih]
    cases hg : grow l e at_ with
    | none =>
      refine ⟨fun _ acc' dp' nx h => by simp at h, fun nx h => by simp at h⟩
    | some p =>
      simp only [Option.bind_some]
      cases hk : okT e (sortF kind i) p.1 with
      | false =>
        refine ⟨fun _ acc' dp' nx h => ?_, fun nx h => by simp at h⟩
        have pre : ∀ (m : Nat) (acc : List S161) (dp : Int) (at_ : Nat) acc' dp' nx, kidsG (grow l e) m acc dp at_ = some (acc', dp', nx) → ∃ ks, acc' = acc ++ ks := by
          intro m
          induction m with
          | zero => intro acc dp at_ acc' dp' nx h; simp only [kidsG, Option.some.injEq, Prod.mk.injEq] at h; exact ⟨[], by rw [← h.1]; simp⟩
          | succ m ih2 =>
            intro acc dp at_ acc' dp' nx h
            simp only [kidsG] at h
            obtain ⟨q, _, h⟩ := Option.bind_eq_some_iff.mp h
            obtain ⟨ks, hks⟩ := ih2 _ _ _ _ _ _ h
            exact ⟨q.1 :: ks, by rw [hks]; simp⟩
        obtain ⟨ks, hks⟩ := pre _ _ _ _ _ _ _ h
        exact ⟨p.1 :: ks, by rw [hks]; simp, by simp [kidsOk, hk]⟩
      | true =>
        simp only [if_true, Option.bind_some]
        obtain ⟨h1, h2⟩ := ihm (acc ++ [p.1]) (mx dp (wrap64 (p.1.f3 + 1))) (i + 1) p.2
        refine ⟨fun h acc' dp' nx hh => ?_, fun nx h => ?_⟩
        · obtain ⟨ks, a, b⟩ := h1 h acc' dp' nx hh
          exact ⟨p.1 :: ks, by rw [a]; simp, by simp [kidsOk, b]⟩
        · obtain ⟨ks, dp', a, b⟩ := h2 nx h
          exact ⟨p.1 :: ks, dp', by rw [a]; simp, by simp [kidsOk, hk, b]⟩
theorem tree_same (l : List S73) : ∀ (e at_ : Nat) (sort : Int), treeS l e at_ sort = (grow l e at_).bind fun p => if okT e sort p.1 = true then some p.2 else none := by
  intro e
  induction e with
  | zero => intro at_ sort; rfl
  | succ e ih =>
    intro at_ sort
    simp only [treeS, grow]
    by_cases h : at_ < l.length
    · rw [if_pos h, if_pos h]
      obtain ⟨x, hx⟩ : ∃ x, x = rd_T73 l (at_ : Int) := ⟨_, rfl⟩
      rw [← hx]
      by_cases hs : shapeB x = true ∧ isB x.f0 sort = true
      · rw [if_pos hs]
        have hm := shape_many x hs.1
        rw [if_pos (show 0 ≤ x.f4 ∧ x.f4 ≤ 150 by omega)]
        obtain ⟨h1, h2⟩ := kids_same l e ih x.f0 x.f4.toNat [] 1 0 (at_ + 1)
        cases hk : kidsS (treeS l e) x.f0 x.f4.toNat 0 (at_ + 1) with
        | none =>
          cases hg : kidsG (grow l e) x.f4.toNat [] 1 (at_ + 1) with
          | none => rfl
          | some p =>
            obtain ⟨acc', dp', nx⟩ := p
            obtain ⟨ks, a, b⟩ := h1 hk acc' dp' nx hg
            simp only [List.nil_append] at a
            subst a
            simp [okT, hs.1, hs.2, b]
        | some nx =>
          obtain ⟨ks, dp', a, b⟩ := h2 nx hk
          rw [a]
          simp [okT, hs.1, hs.2, b]
      · rw [if_neg hs]
        by_cases hm : 0 ≤ x.f4 ∧ x.f4 ≤ 150
        · rw [if_pos hm]
          cases hg : kidsG (grow l e) x.f4.toNat [] 1 (at_ + 1) with
          | none => rfl
          | some p =>
            simp only [Option.bind_some]
            rw [if_neg]
            intro z
            simp only [okT, Bool.and_eq_true] at z
            exact hs ⟨z.2.1, z.1⟩
        · rw [if_neg hm]; rfl
    · rw [if_neg h, if_neg h]; rfl
theorem rdN_bounds (l : List S73) (hz : ∀ x ∈ l, x.f1.size ≤ 1048576 ∧ x.f2.size ≤ 1048576) (i : Nat) (h : i < l.length) : (rd_T73 l (i : Int)).f1.size ≤ 1048576 ∧ (rd_T73 l (i : Int)).f2.size ≤ 1048576 := by
  rw [rdN l i h]; exact hz _ (List.getElem_mem h)
def outT (o : Option (S161 × Nat)) : Int × ByteArray × ByteArray × Int × Int × Int × (List S161) × Int × Int × Bool :=
  match o with
  | some (t, nx) => (t.f0.f0, t.f0.f1, t.f0.f2, t.f0.f3, t.f0.f4, t.f1, t.f2, t.f3, (nx : Int), true)
  | none => (0, ⟨#[]⟩, ⟨#[]⟩, 0, 0, 0, [], 0, 0, false)
theorem grow_range (l : List S73) (hl : l.length ≤ 150) : ∀ (e at_ : Nat) t nx, grow l e at_ = some (t, nx) → nx ≤ l.length := by
  intro e
  induction e with
  | zero => intro at_ t nx h; cases h
  | succ e ih =>
    intro at_ t nx h
    simp only [grow] at h
    by_cases c : at_ < l.length
    · rw [if_pos c] at h
      by_cases d : 0 ≤ (rd_T73 l (at_ : Int)).f4 ∧ (rd_T73 l (at_ : Int)).f4 ≤ 150
      · rw [if_pos d] at h
        obtain ⟨p, hp, h⟩ := Option.bind_eq_some_iff.mp h
        have key : ∀ (m : Nat) (acc : List S161) (dp : Int) (at_ : Nat) acc' dp' nx, at_ ≤ l.length → kidsG (grow l e) m acc dp at_ = some (acc', dp', nx) → nx ≤ l.length := by
          intro m
          induction m with
          | zero => intro acc dp at_ acc' dp' nx ha h; simp only [kidsG, Option.some.injEq, Prod.mk.injEq] at h; omega
          | succ m ih2 =>
            intro acc dp at_ acc' dp' nx ha h
            simp only [kidsG] at h
            obtain ⟨q, hq, h⟩ := Option.bind_eq_some_iff.mp h
            exact ih2 _ _ _ _ _ _ (ih at_ q.1 q.2 hq) h
        simp only [Option.some.injEq, Prod.mk.injEq] at h
        rw [← h.2]
        exact key _ _ _ _ _ _ _ (by omega) hp
      · rw [if_neg d] at h; cases h
    · rw [if_neg c] at h; cases h
section
variable (l : List S73) (hl : l.length ≤ 150)
include hl
theorem implKids (e : Nat) (dep : Int) (hd : dep + (e + 1) = 21) (he : e ≤ 20) (ih : ∀ at_ : Nat, at_ ≤ l.length → Ev (fun k => impl_growTree.f k l (at_ : Int) (dep + 1)) (outT (grow l e at_))) (x : S73) (x5 : Int) (m : Nat) (hx : x.f4 = (m : Int)) (hm : m ≤ 150) :
    ∀ (d i : Nat) (at_ : Nat) (acc : List S161) (dp : Int), m - i = d → acc.length = i → i ≤ m → at_ ≤ l.length →
      Ev (fun k => impl_growTree.l0 k l (at_ : Int) dep (m : Int) (i : Int) x.f0 x.f1 x.f2 x.f3 x.f4 x5 acc dp) (outT ((kidsG (grow l e) d acc dp at_).bind fun p => some (⟨x, x5, p.1, p.2.1⟩, p.2.2))) := by
  have hw : wrap64 (dep + 1) = dep + 1 := w64 (by omega) (by omega)
  intro d
  induction d with
  | zero =>
    intro i at_ acc dp hi ha him hat
    refine ev_succ ?_
    simp only [impl_growTree.l0]
    refine ev_neg (by omega) ?_
    simp only [kidsG, Option.bind_some, outT]; exact Ev.now _
  | succ d ihd =>
    intro i at_ acc dp hi ha him hat
    refine ev_succ ?_
    simp only [impl_growTree.l0, hw, kidsG]
    refine ev_pos (by omega) (Ev.bind (ih at_ hat) ?_)
    cases hg : grow l e at_ with
    | none => simp only [outT, Option.bind_none, Bool.false_eq_true, if_false]; exact Ev.now _
    | some p =>
      obtain ⟨⟨⟨t0, t1, t2, t3, t4⟩, t5, t6, t7⟩, nx⟩ := p
      have hn := grow_range l hl e at_ _ nx hg
      have e1 : outT (some (⟨⟨t0, t1, t2, t3, t4⟩, t5, t6, t7⟩, nx)) = (t0, t1, t2, t3, t4, t5, t6, t7, (nx : Int), true) := rfl
      simp only [e1, Option.bind_some, if_true]
      refine ev_pos (by omega) ?_
      rw [show wrap64 ((i : Int) + 1) = ((i + 1 : Nat) : Int) from wsucc (show i < m by omega) (by omega)]
      exact ihd (i + 1) nx (acc ++ [⟨⟨t0, t1, t2, t3, t4⟩, t5, t6, t7⟩]) (mx dp (wrap64 (t7 + 1))) (by omega) (by simp; omega) (by omega) hn
theorem implGrow : ∀ (e at_ : Nat) (dep : Int), dep + e = 21 → e ≤ 21 → at_ ≤ l.length → Ev (fun k => impl_growTree.f k l (at_ : Int) dep) (outT (grow l e at_)) := by
  intro e
  induction e with
  | zero =>
    intro at_ dep hd he hat
    have jt : Ev (fun k => impl_growTree.j0 k l (at_ : Int) dep true) (outT none) := by
      refine ev_succ ?_
      simp only [impl_growTree.j0, if_true, outT]; exact Ev.now _
    refine ev_succ ?_
    simp only [impl_growTree.f, grow]
    by_cases c : (at_ : Int) ≥ (l.length : Int)
    · exact ev_pos c jt
    · exact ev_neg c (ev_pos (by omega) jt)
  | succ e ih =>
    intro at_ dep hd he hat
    have jt : Ev (fun k => impl_growTree.j0 k l (at_ : Int) dep true) (outT none) := by
      refine ev_succ ?_
      simp only [impl_growTree.j0, if_true, outT]; exact Ev.now _
    refine ev_succ ?_
    simp only [impl_growTree.f, grow]
    by_cases c : at_ < l.length
    · rw [if_pos c]
      refine ev_neg (by omega) (ev_neg (by omega) (ev_pos (nat0 at_) (ev_pos (natLt c) ?_)))
      rw [implIn]
      refine ev_cbind rfl ?_
      obtain ⟨x, hx⟩ : ∃ x, x = rd_T73 l (at_ : Int) := ⟨_, rfl⟩
      rw [← hx]
      by_cases hm : 0 ≤ x.f4 ∧ x.f4 ≤ 150
      · rw [if_pos hm, show iB 0 150 x.f4 = true from by unfold iB; simp [hm.1, hm.2]]
        refine ev_succ ?_
        simp only [impl_growTree.j0, Bool.not_true, Bool.false_eq_true, if_false, ← hx]
        refine ev_pos (nat0 at_) (ev_pos (natLt c) ?_)
        rw [wsucc c (by omega)]
        obtain ⟨m, em⟩ := Int.eq_ofNat_of_zero_le hm.1
        have := implKids l hl e dep (by omega) (by omega) (fun at_ ha => ih at_ (dep + 1) (by omega) (by omega) ha) x (at_ : Int) m em (by omega) m 0 (at_ + 1) [] 1 rfl rfl (by omega) (by omega)
        rw [em, Int.toNat_natCast]
        rw [em] at this
        exact this
      · rw [if_neg hm, show iB 0 150 x.f4 = false from by
          cases h : iB 0 150 x.f4 with
          | false => rfl
          | true => unfold iB at h; simp at h; exact absurd h hm]
        exact jt
    · rw [if_neg c]
      exact ev_pos (by omega) jt
theorem tree_range : ∀ (e at_ : Nat) (sort : Int) nx, treeS l e at_ sort = some nx → nx ≤ l.length := by
  intro e at_ sort nx h
  rw [tree_same] at h
  obtain ⟨p, hp, h⟩ := Option.bind_eq_some_iff.mp h
  have := grow_range l hl e at_ p.1 p.2 hp
  by_cases c : okT e sort p.1 = true
  · rw [if_pos c] at h; cases h; exact this
  · rw [if_neg c] at h; cases h
def outS (o : Option Nat) : Int := match o with | some n => (n : Int) | none => -1
theorem specKids (e : Nat) (dep : Int) (hd : dep + (e + 1) = 21) (he : e ≤ 20) (ih : ∀ (at_ : Nat) (sort : Int), at_ ≤ l.length → Ev (fun k => spec_l07Tree.f k l (at_ : Int) sort (dep + 1)) (outS (treeS l e at_ sort))) (x : S73) (m : Nat) (hx : x.f4 = (m : Int)) (hm : m ≤ 150) :
    ∀ (d i : Nat) (at_ : Nat), m - i = d → i ≤ m → at_ ≤ l.length →
      Ev (fun k => spec_l07Tree.l0 k l (at_ : Int) dep (i : Int) x.f0 x.f1 x.f2 x.f3 x.f4) (outS (kidsS (treeS l e) x.f0 d (i : Int) at_)) := by
  have hw : wrap64 (dep + 1) = dep + 1 := w64 (by omega) (by omega)
  intro d
  induction d with
  | zero =>
    intro i at_ hi him hat
    refine ev_succ ?_
    simp only [spec_l07Tree.l0]
    refine ev_neg (by omega) (ev_succ ?_)
    simp only [spec_l07Tree.j2, Bool.false_eq_true, if_false, kidsS, outS]; exact Ev.now _
  | succ d ihd =>
    intro i at_ hi him hat
    refine ev_succ ?_
    simp only [spec_l07Tree.l0]
    refine ev_pos (by omega) ?_
    rw [decide_eq_true (show (at_ : Int) ≥ 0 by omega)]
    refine ev_succ ?_
    simp only [spec_l07Tree.j2, if_true, sortSpec, Option.bind_some, hw, kidsS]
    refine Ev.bind (ih at_ _ hat) ?_
    rw [show wrap64 ((i : Int) + 1) = ((i + 1 : Nat) : Int) from wsucc (show i < m by omega) (by omega)]
    cases hg : treeS l e at_ (sortF x.f0 (i : Int)) with
    | none =>
      simp only [outS, Option.bind_none]
      refine ev_succ ?_
      simp only [spec_l07Tree.l0]
      have j2f : Ev (fun k => spec_l07Tree.j2 k l (-1) dep ((i + 1 : Nat) : Int) false x.f0 x.f1 x.f2 x.f3 x.f4) (-1) := by
        refine ev_succ ?_
        simp only [spec_l07Tree.j2, Bool.false_eq_true, if_false]; exact Ev.now _
      by_cases c : ((i + 1 : Nat) : Int) < x.f4
      · refine ev_pos c ?_
        rw [decide_eq_false (by decide)]; exact j2f
      · exact ev_neg c j2f
    | some nx =>
      simp only [outS, Option.bind_some]
      exact ihd (i + 1) nx (by omega) (by omega) (tree_range l hl e at_ _ nx hg)
theorem specTree (hz : ∀ x ∈ l, x.f1.size ≤ 1048576 ∧ x.f2.size ≤ 1048576) : ∀ (e at_ : Nat) (sort dep : Int), dep + e = 21 → e ≤ 21 → at_ ≤ l.length → Ev (fun k => spec_l07Tree.f k l (at_ : Int) sort dep) (outS (treeS l e at_ sort)) := by
  intro e
  induction e with
  | zero =>
    intro at_ sort dep hd he hat
    have jt : Ev (fun k => spec_l07Tree.j0 k l (at_ : Int) dep true) (-1) := by
      refine ev_succ ?_
      simp only [spec_l07Tree.j0, if_true]; exact Ev.now _
    refine ev_succ ?_
    simp only [spec_l07Tree.f, treeS, outS]
    by_cases c : (at_ : Int) ≥ (l.length : Int)
    · exact ev_pos c jt
    · exact ev_neg c (ev_pos (by omega) jt)
  | succ e ih =>
    intro at_ sort dep hd he hat
    have jt : Ev (fun k => spec_l07Tree.j0 k l (at_ : Int) dep true) (-1) := by
      refine ev_succ ?_
      simp only [spec_l07Tree.j0, if_true]; exact Ev.now _
    refine ev_succ ?_
    simp only [spec_l07Tree.f, treeS]
    by_cases c : at_ < l.length
    · rw [if_pos c]
      have hb := rdN_bounds l hz at_ c
      refine ev_neg (by omega) (ev_neg (by omega) (ev_pos (nat0 at_) (ev_pos (natLt c) ?_)))
      obtain ⟨x, hx⟩ : ∃ x, x = rd_T73 l (at_ : Int) := ⟨_, rfl⟩
      rw [← hx] at hb ⊢
      refine Ev.bind (shapeSpec x hb.1 hb.2) ?_
      cases hs : shapeB x with
      | false =>
        simp only [Bool.false_eq_true, if_false, false_and, outS]; exact jt
      | true =>
        simp only [if_true, isSpec, Option.bind_some, true_and]
        cases hi : isB x.f0 sort with
        | false => simp only [Bool.not_false, Bool.false_eq_true, if_false, outS]; exact jt
        | true =>
          simp only [Bool.not_true, if_true]
          refine ev_succ ?_
          simp only [spec_l07Tree.j0, Bool.false_eq_true, if_false, ← hx]
          refine ev_pos (nat0 at_) (ev_pos (natLt c) ?_)
          rw [wsucc c (by omega)]
          have hm := shape_many x hs
          obtain ⟨m, em⟩ := Int.eq_ofNat_of_zero_le hm.1
          have := specKids l hl e dep (by omega) (by omega) (fun at_ sort ha => ih at_ sort (dep + 1) (by omega) (by omega) ha) x m em (by omega) m 0 (at_ + 1) rfl (by omega) (by omega)
          rw [em, Int.toNat_natCast]
          rw [em] at this
          exact this
    · rw [if_neg c]
      simp only [outS]
      exact ev_pos (by omega) jt
end

def codeF (sort : Int) : Int := if sort = 1 then 101 else if sort = 2 then 115 else 98
/-- The letters tell what the kids of such a node have to be. -/
def conf (s : ByteArray) (kind : Int) : Prop := ∀ i : Nat, i < s.size → bt s (i : Int) = codeF (sortF kind (i : Int))
def KR (e : Nat) (t : S161) (n : Int) : Bool := decide ((t.f2.length : Int) = n) && kidsOk (okT e) t.f0.f0 0 t.f2
theorem rdT (l : List S161) (i : Nat) (h : i < l.length) : rd_T161 l (i : Int) = l[i] := by
  unfold rd_T161; rw [Int.toNat_natCast, List.getD_eq_getElem?_getD, List.getElem?_eq_getElem h]; rfl
theorem ok3 (e : Nat) (c : S161) : okT e 3 c = (decide (c.f0.f0 = 27) && okT e 2 c) := by
  cases e with
  | zero => simp [okT]
  | succ e =>
    simp only [okT]
    unfold isB
    by_cases k : c.f0.f0 = 27
    · simp [k]
    · simp [k]
theorem sort123 (kind i : Int) : sortF kind i = 1 ∨ sortF kind i = 2 ∨ sortF kind i = 3 := by
  unfold sortF; split
  · exact Or.inr (Or.inl rfl)
  · split
    · exact Or.inr (Or.inr rfl)
    · exact Or.inl rfl
theorem kidsLoop (e : Nat) (kind : Int) (s : ByteArray) (L : List S161) (hc : conf s kind) (hs : L.length = s.size) (hL : L.length ≤ 150)
    (IH : ∀ c ∈ L, Ev (fun k => impl_tree_isExpr.f (impl_tree_kidsAre.f k) k c.f0.f0 c.f0.f1 c.f0.f2 c.f0.f3 c.f0.f4 c.f1 c.f2 c.f3) (okT e 1 c) ∧ Ev (fun k => impl_tree_isStatement.f (impl_tree_kidsAre.f k) k c.f0.f0 c.f0.f1 c.f0.f2 c.f0.f3 c.f0.f4 c.f1 c.f2 c.f3) (okT e 2 c)) :
    ∀ (d i : Nat), L.length - i = d → Ev (fun k => impl_tree_kidsAre.l0 k s L (L.length : Int) (i : Int)) (kidsOk (okT e) kind (i : Int) (L.drop i)) := by
  intro d
  induction d with
  | zero =>
    intro i hd
    refine ev_succ ?_
    simp only [impl_tree_kidsAre.l0]
    rw [List.drop_eq_nil_of_le (by omega)]
    exact ev_neg (natNotLt (by omega)) (Ev.now _)
  | succ d ih =>
    intro i hd
    have hi : i < L.length := by omega
    have hb := hc i (by omega)
    obtain ⟨e1, e2⟩ := IH _ (List.getElem_mem hi)
    have nx := ih (i + 1) (by omega)
    rw [List.drop_eq_getElem_cons hi]
    simp only [kidsOk]
    refine ev_succ ?_
    simp only [impl_tree_kidsAre.l0, rdT L i hi]
    refine ev_pos (natLt hi) (ev_pos (nat0 i) (ev_pos (natLt hi) (ev_pos (by omega) ?_)))
    have hw := wsucc hi (show L.length ≤ 140737488351232 by omega)
    have tr1 : Ev (fun k => impl_tree_kidsAre.j1 k s (i : Int) L (L.length : Int) (i : Int) true L[i].f0.f0 L[i].f0.f1 L[i].f0.f2 L[i].f0.f3 L[i].f0.f4 L[i].f1 L[i].f2 L[i].f3) false := by
      refine ev_succ ?_
      simp only [impl_tree_kidsAre.j1, if_true]; exact Ev.now _
    have tr2 : Ev (fun k => impl_tree_kidsAre.j2 k s (i : Int) L (L.length : Int) (i : Int) true L[i].f0.f0 L[i].f0.f1 L[i].f0.f2 L[i].f0.f3 L[i].f0.f4 L[i].f1 L[i].f2 L[i].f3) false := by
      refine ev_succ ?_
      simp only [impl_tree_kidsAre.j2, if_true]; exact Ev.now _
    have nx2 : ¬ bt s (i : Int) = 98 → Ev (fun k => impl_tree_kidsAre.j2 k s (i : Int) L (L.length : Int) (i : Int) false L[i].f0.f0 L[i].f0.f1 L[i].f0.f2 L[i].f0.f3 L[i].f0.f4 L[i].f1 L[i].f2 L[i].f3) (kidsOk (okT e) kind ((i : Int) + 1) (L.drop (i + 1))) := by
      intro hn
      refine ev_succ ?_
      simp only [impl_tree_kidsAre.j2, Bool.false_eq_true, if_false, hw]
      exact ev_pos (nat0 i) (ev_pos (by omega) (ev_neg hn nx))
    have nx1 : ¬ bt s (i : Int) = 115 → ¬ bt s (i : Int) = 98 → Ev (fun k => impl_tree_kidsAre.j1 k s (i : Int) L (L.length : Int) (i : Int) false L[i].f0.f0 L[i].f0.f1 L[i].f0.f2 L[i].f0.f3 L[i].f0.f4 L[i].f1 L[i].f2 L[i].f3) (kidsOk (okT e) kind ((i : Int) + 1) (L.drop (i + 1))) := by
      intro h1 h2
      refine ev_succ ?_
      simp only [impl_tree_kidsAre.j1, Bool.false_eq_true, if_false]
      exact ev_pos (nat0 i) (ev_pos (by omega) (ev_neg h1 (nx2 h2)))
    rcases sort123 kind (i : Int) with hq | hq | hq
    · rw [hq] at hb ⊢
      have hb' : bt s (i : Int) = 101 := hb
      refine ev_pos hb' (Ev.bind e1 ?_)
      cases okT e 1 L[i] with
      | false => simp only [Bool.not_false, Bool.false_and]; exact tr1
      | true => simp only [Bool.not_true, Bool.true_and]; exact nx1 (by omega) (by omega)
    · rw [hq] at hb ⊢
      have hb' : bt s (i : Int) = 115 := hb
      refine ev_neg (by omega) (ev_succ ?_)
      simp only [impl_tree_kidsAre.j1, Bool.false_eq_true, if_false]
      refine ev_pos (nat0 i) (ev_pos (by omega) (ev_pos hb' (Ev.bind e2 ?_)))
      cases okT e 2 L[i] with
      | false => simp only [Bool.not_false, Bool.false_and]; exact tr2
      | true => simp only [Bool.not_true, Bool.true_and]; exact nx2 (by omega)
    · rw [hq] at hb ⊢
      have hb' : bt s (i : Int) = 98 := hb
      rw [ok3 e L[i]]
      refine ev_neg (by omega) (ev_succ ?_)
      simp only [impl_tree_kidsAre.j1, Bool.false_eq_true, if_false]
      refine ev_pos (nat0 i) (ev_pos (by omega) (ev_neg (by omega) (ev_succ ?_)))
      simp only [impl_tree_kidsAre.j2, Bool.false_eq_true, if_false, hw]
      refine ev_pos (nat0 i) (ev_pos (by omega) (ev_pos hb' ?_))
      by_cases c : L[i].f0.f0 = 27
      · rw [decide_eq_true c, Bool.true_and]
        refine ev_pos c (Ev.bind e2 ?_)
        cases okT e 2 L[i] with
        | false => simp only [Bool.false_eq_true, if_false, Bool.false_and]; exact Ev.now _
        | true => simp only [if_true, Bool.true_and]; exact nx
      · rw [decide_eq_false c, Bool.false_and, Bool.false_and]
        exact ev_neg c (Ev.now _)
theorem kidsEv (e : Nat) (t : S161) (hL : t.f2.length ≤ 150)
    (IH : ∀ c ∈ t.f2, Ev (fun k => impl_tree_isExpr.f (impl_tree_kidsAre.f k) k c.f0.f0 c.f0.f1 c.f0.f2 c.f0.f3 c.f0.f4 c.f1 c.f2 c.f3) (okT e 1 c) ∧ Ev (fun k => impl_tree_isStatement.f (impl_tree_kidsAre.f k) k c.f0.f0 c.f0.f1 c.f0.f2 c.f0.f3 c.f0.f4 c.f1 c.f2 c.f3) (okT e 2 c)) (s : ByteArray) (hc : conf s t.f0.f0) :
    Ev (fun k => impl_tree_kidsAre.f k t.f0.f0 t.f0.f1 t.f0.f2 t.f0.f3 t.f0.f4 t.f1 t.f2 t.f3 s) (KR e t s.size) := by
  refine ev_succ ?_
  simp only [impl_tree_kidsAre.f]
  unfold KR
  by_cases c : (t.f2.length : Int) = (s.size : Int)
  · rw [decide_eq_true c, Bool.true_and]
    refine ev_pos c ?_
    have := kidsLoop e t.f0.f0 s t.f2 hc (by omega) hL IH _ 0 rfl
    rwa [List.drop_zero] at this
  · rw [decide_eq_false c, Bool.false_and]
    exact ev_neg c (Ev.now _)
theorem rep_list (c : UInt8) : ∀ n, Lib.repeatL [c] n = List.replicate n c
  | 0 => rfl
  | n + 1 => by rw [Lib.repeatL, rep_list c n]; rfl
theorem rep_is (c : UInt8) (n : Nat) (hn : n ≤ 150) : strings_Repeat.f ⟨#[c]⟩ (n : Int) = some ⟨(List.replicate n c).toArray⟩ := by
  unfold strings_Repeat.f
  rw [if_pos ⟨by omega, by omega, by rw [Int.toNat_natCast]; show 1 * n ≤ _; omega⟩, Int.toNat_natCast]
  congr 2
  show (Lib.repeatL [c] n).toArray = _
  rw [rep_list]
theorem rep_size (c : UInt8) (n : Nat) : (⟨(List.replicate n c).toArray⟩ : ByteArray).size = n := by simp [ByteArray.size]
theorem rep_bt (c : UInt8) (n i : Nat) (h : i < n) : bt ⟨(List.replicate n c).toArray⟩ (i : Int) = (c.toNat : Int) := by
  rw [bt_data _ i (by rw [rep_size]; exact h)]
  simp
theorem conf0 (kind : Int) : conf ⟨#[]⟩ kind := fun i h => absurd h (by simp [ByteArray.size])
theorem conf_rep (c : UInt8) (n : Nat) (kind : Int) (h : ∀ i : Nat, i < n → (c.toNat : Int) = codeF (sortF kind (i : Int))) : conf ⟨(List.replicate n c).toArray⟩ kind := fun i hi => by
  rw [rep_size] at hi; rw [rep_bt c n i hi]; exact h i hi
theorem confE (kind : Int) (h : ¬ kind = 27) : conf ⟨#[101]⟩ kind := fun i hi => by
  have : i = 0 := by have : i < 1 := hi; omega
  subst this
  unfold sortF; rw [if_neg h, if_neg (by omega)]; rfl
theorem confEE : conf ⟨#[101, 101]⟩ 12 := fun i hi => by
  have : i = 0 ∨ i = 1 := by have : i < 2 := hi; omega
  rcases this with rfl | rfl <;> rfl
theorem confEBB : conf ⟨#[101, 98, 98]⟩ 22 := fun i hi => by
  have : i = 0 ∨ i = 1 ∨ i = 2 := by have : i < 3 := hi; omega
  rcases this with rfl | rfl | rfl <;> rfl
theorem confEB : conf ⟨#[101, 98]⟩ 26 := fun i hi => by
  have : i = 0 ∨ i = 1 := by have : i < 2 := hi; omega
  rcases this with rfl | rfl <;> rfl
def KFT : Type := Int → ByteArray → ByteArray → Int → Int → Int → List S161 → Int → ByteArray → Option Bool
section
variable (e : Nat) (t : S161) (h1 : t.f0.f1.size ≤ 1048576) (h2 : t.f0.f2.size ≤ 1048576) (hL : t.f2.length ≤ 150)
include h1 h2 hL
def KRok (e : Nat) (t : S161) (KF : Nat → Int → ByteArray → ByteArray → Int → Int → Int → List S161 → Int → ByteArray → Option Bool) : Prop :=
  ∀ s : ByteArray, conf s t.f0.f0 → Ev (fun k => KF k t.f0.f0 t.f0.f1 t.f0.f2 t.f0.f3 t.f0.f4 t.f1 t.f2 t.f3 s) (KR e t s.size)
omit h1 h2 hL in
theorem KRok.up {e : Nat} {t : S161} {KF : Nat → Int → ByteArray → ByteArray → Int → Int → Int → List S161 → Int → ByteArray → Option Bool} (h : KRok e t KF) : KRok e t (fun k => KF (k + 1)) := fun s hs => ev_up (h s hs)
def E2 (e : Nat) (t : S161) : Bool :=
  if t.f0.f0 = 12 then inF opsB t.f0.f1 && ((t.f0.f3 == 0) && (emp t.f0.f2 && KR e t 2))
  else if t.f0.f0 = 13 then emp t.f0.f1 && ((t.f0.f3 == 0) && (emp t.f0.f2 && KR e t 1))
  else if t.f0.f0 = 14 then inF fnsB t.f0.f1 && (iB 1 4 (t.f2.length : Int) && ((t.f0.f3 == 0) && (emp t.f0.f2 && KR e t (t.f2.length : Int)))) else false
omit h1 h2 hL in
theorem emp_b (a : ByteArray) : (a.toList == ([] : List UInt8)) = emp a := rfl
omit h1 h2 hL in
theorem three {p q r : Bool} {g : Nat → Option Bool} {x : Bool} (eg : Ev g x) : Ev (fun k => if p = true then (if q = true then (if r = true then (g k).bind fun t => some t else some false) else some false) else some false) (p && (q && (r && x))) := by
  cases p with
  | false => simp only [Bool.false_eq_true, if_false, Bool.false_and]; exact Ev.now _
  | true =>
    cases q with
    | false => simp only [Bool.false_eq_true, if_false, Bool.false_and, Bool.and_false]; exact Ev.now _
    | true =>
      cases r with
      | false => simp only [Bool.false_eq_true, if_false, Bool.false_and, Bool.and_false]; exact Ev.now _
      | true => simp only [if_true, Bool.true_and]; exact Ev.bind eg (Ev.now _)
omit h1 h2 in
theorem X2 (KF : Nat → Int → ByteArray → ByteArray → Int → Int → Int → List S161 → Int → ByteArray → Option Bool) (hK : KRok e t KF) : Ev (fun k => impl_tree_isExpr.j2 (KF k) k (emp t.f0.f1) (t.f0.f3 == 0) ⟨#[]⟩ t.f0.f0 (decide (t.f0.f0 = 8 ∨ t.f0.f0 = 9 ∨ t.f0.f0 = 10 ∨ t.f0.f0 = 11)) t.f0.f0 t.f0.f1 t.f0.f2 t.f0.f3 t.f0.f4 t.f1 t.f2 t.f3)
    (if t.f0.f0 = 8 ∨ t.f0.f0 = 9 ∨ t.f0.f0 = 10 ∨ t.f0.f0 = 11 then emp t.f0.f1 && ((t.f0.f3 == 0) && (emp t.f0.f2 && KR e t 0)) else E2 e t) := by
  have hK' := hK.up
  refine ev_succ ?_
  simp only [impl_tree_isExpr.j2, emp_if]
  by_cases c : t.f0.f0 = 8 ∨ t.f0.f0 = 9 ∨ t.f0.f0 = 10 ∨ t.f0.f0 = 11
  · rw [decide_eq_true c, if_pos c]; simp only [if_true]
    exact three (hK' ⟨#[]⟩ (conf0 _))
  · rw [decide_eq_false c, if_neg c]; simp only [Bool.false_eq_true, if_false]
    unfold E2
    by_cases d : t.f0.f0 = 12
    · rw [if_pos d]
      refine ev_pos d ?_
      rw [ops_is]
      refine ev_cbind rfl (Ev.bind (inImpl opsB _ (by decide +kernel)) ?_)
      exact three (hK' ⟨#[101, 101]⟩ (by rw [d]; exact confEE))
    rw [if_neg d]
    refine ev_neg d ?_
    by_cases d2 : t.f0.f0 = 13
    · rw [if_pos d2]
      refine ev_pos d2 ?_
      exact three (hK' ⟨#[101]⟩ (confE _ (by omega)))
    rw [if_neg d2]
    refine ev_neg d2 ?_
    by_cases d3 : t.f0.f0 = 14
    · rw [if_pos d3]
      refine ev_pos d3 ?_
      rw [fns_is]
      refine ev_cbind rfl (Ev.bind (inImpl fnsB _ (by decide +kernel)) ?_)
      rw [rep_is 101 t.f2.length (by omega), implIn]
      have hk := hK' ⟨(List.replicate t.f2.length 101).toArray⟩ (conf_rep 101 _ _ (fun i hi => by
        unfold sortF; rw [if_neg (by omega), if_neg (by omega)]; rfl))
      rw [rep_size] at hk
      cases inF fnsB t.f0.f1 with
      | false => simp only [Bool.false_eq_true, if_false, Bool.false_and]; exact ev_cbind rfl (Ev.now _)
      | true => simp only [if_true, Bool.true_and]; exact ev_cbind rfl (ev_cbind rfl (three hk))
    · rw [if_neg d3]; exact ev_neg d3 (Ev.now _)
omit h2 in
theorem X1 (KF : Nat → Int → ByteArray → ByteArray → Int → Int → Int → List S161 → Int → ByteArray → Option Bool) (hK : KRok e t KF) : Ev (fun k => impl_tree_isExpr.j1 (KF k) k (emp t.f0.f1) (t.f0.f3 == 0) ⟨#[]⟩ t.f0.f0 (decide (t.f0.f0 = 6 ∨ t.f0.f0 = 7)) t.f0.f0 t.f0.f1 t.f0.f2 t.f0.f3 t.f0.f4 t.f1 t.f2 t.f3)
    (if t.f0.f0 = 6 ∨ t.f0.f0 = 7 then freeF t.f0.f1 && ((t.f0.f3 == 0) && (emp t.f0.f2 && KR e t 0)) else if t.f0.f0 = 8 ∨ t.f0.f0 = 9 ∨ t.f0.f0 = 10 ∨ t.f0.f0 = 11 then emp t.f0.f1 && ((t.f0.f3 == 0) && (emp t.f0.f2 && KR e t 0)) else E2 e t) := by
  have hK' := hK.up
  have x2 := X2 e t hL _ hK'
  refine ev_succ ?_
  simp only [impl_tree_isExpr.j1, emp_if]
  by_cases c : t.f0.f0 = 6 ∨ t.f0.f0 = 7
  · rw [decide_eq_true c, if_pos c, freeImpl _ h1]; simp only [if_true]
    exact ev_cbind rfl (three (hK' ⟨#[]⟩ (conf0 _)))
  · rw [decide_eq_false c, if_neg c]; simp only [Bool.false_eq_true, if_false]
    by_cases d8 : t.f0.f0 = 8
    · refine ev_pos d8 ?_
      rw [show (t.f0.f0 == 8) = decide (t.f0.f0 = 8 ∨ t.f0.f0 = 9 ∨ t.f0.f0 = 10 ∨ t.f0.f0 = 11) by rw [Bool.eq_iff_iff, beq_iff_eq, decide_eq_true_iff]; omega]; exact x2
    refine ev_neg d8 ?_
    by_cases d9 : t.f0.f0 = 9
    · refine ev_pos d9 ?_
      rw [show (t.f0.f0 == 9) = decide (t.f0.f0 = 8 ∨ t.f0.f0 = 9 ∨ t.f0.f0 = 10 ∨ t.f0.f0 = 11) by rw [Bool.eq_iff_iff, beq_iff_eq, decide_eq_true_iff]; omega]; exact x2
    refine ev_neg d9 ?_
    by_cases d10 : t.f0.f0 = 10
    · refine ev_pos d10 ?_
      rw [show (t.f0.f0 == 10) = decide (t.f0.f0 = 8 ∨ t.f0.f0 = 9 ∨ t.f0.f0 = 10 ∨ t.f0.f0 = 11) by rw [Bool.eq_iff_iff, beq_iff_eq, decide_eq_true_iff]; omega]; exact x2
    refine ev_neg d10 ?_
    rw [show (t.f0.f0 == 11) = decide (t.f0.f0 = 8 ∨ t.f0.f0 = 9 ∨ t.f0.f0 = 10 ∨ t.f0.f0 = 11) by rw [Bool.eq_iff_iff, beq_iff_eq, decide_eq_true_iff]; omega]; exact x2
def EX (e : Nat) (t : S161) : Bool :=
  if t.f0.f0 = 1 ∨ t.f0.f0 = 2 ∨ t.f0.f0 = 3 ∨ t.f0.f0 = 4 ∨ t.f0.f0 = 5 then emp t.f0.f1 && (bndF t.f0.f0 t.f0.f3 && (emp t.f0.f2 && KR e t 0))
  else if t.f0.f0 = 6 ∨ t.f0.f0 = 7 then freeF t.f0.f1 && ((t.f0.f3 == 0) && (emp t.f0.f2 && KR e t 0)) else if t.f0.f0 = 8 ∨ t.f0.f0 = 9 ∨ t.f0.f0 = 10 ∨ t.f0.f0 = 11 then emp t.f0.f1 && ((t.f0.f3 == 0) && (emp t.f0.f2 && KR e t 0)) else E2 e t
omit h2 in
theorem exprEv (KF : Nat → Int → ByteArray → ByteArray → Int → Int → Int → List S161 → Int → ByteArray → Option Bool) (hK : KRok e t KF) : Ev (fun k => impl_tree_isExpr.f (KF k) k t.f0.f0 t.f0.f1 t.f0.f2 t.f0.f3 t.f0.f4 t.f1 t.f2 t.f3) (EX e t) := by
  have x0 : Ev (fun k => impl_tree_isExpr.j0 (KF k) k (emp t.f0.f1) (t.f0.f3 == 0) ⟨#[]⟩ t.f0.f0 (decide (t.f0.f0 = 1 ∨ t.f0.f0 = 2 ∨ t.f0.f0 = 3 ∨ t.f0.f0 = 4 ∨ t.f0.f0 = 5)) t.f0.f0 t.f0.f1 t.f0.f2 t.f0.f3 t.f0.f4 t.f1 t.f2 t.f3) (EX e t) := by
    have hK' := hK.up
    have x1 := X1 e t h1 hL _ hK'
    refine ev_succ ?_
    simp only [impl_tree_isExpr.j0, emp_if]
    unfold EX
    by_cases c : t.f0.f0 = 1 ∨ t.f0.f0 = 2 ∨ t.f0.f0 = 3 ∨ t.f0.f0 = 4 ∨ t.f0.f0 = 5
    · rw [decide_eq_true c, if_pos c]; simp only [if_true]
      exact Ev.bind (ev_from 1 (boundImpl _ _)) (three (hK' ⟨#[]⟩ (conf0 _)))
    · rw [decide_eq_false c, if_neg c]; simp only [Bool.false_eq_true, if_false]
      by_cases d : t.f0.f0 = 6
      · refine ev_pos d ?_
        rw [show (t.f0.f0 == 6) = decide (t.f0.f0 = 6 ∨ t.f0.f0 = 7) by rw [Bool.eq_iff_iff, beq_iff_eq, decide_eq_true_iff]; omega]; exact x1
      refine ev_neg d ?_
      rw [show (t.f0.f0 == 7) = decide (t.f0.f0 = 6 ∨ t.f0.f0 = 7) by rw [Bool.eq_iff_iff, beq_iff_eq, decide_eq_true_iff]; omega]; exact x1
  simp only [impl_tree_isExpr.f, emp_b]
  by_cases d1 : t.f0.f0 = 1
  · refine ev_pos d1 ?_
    rw [show (t.f0.f0 == 1) = decide (t.f0.f0 = 1 ∨ t.f0.f0 = 2 ∨ t.f0.f0 = 3 ∨ t.f0.f0 = 4 ∨ t.f0.f0 = 5) by rw [Bool.eq_iff_iff, beq_iff_eq, decide_eq_true_iff]; omega]; exact x0
  refine ev_neg d1 ?_
  by_cases d2 : t.f0.f0 = 2
  · refine ev_pos d2 ?_
    rw [show (t.f0.f0 == 2) = decide (t.f0.f0 = 1 ∨ t.f0.f0 = 2 ∨ t.f0.f0 = 3 ∨ t.f0.f0 = 4 ∨ t.f0.f0 = 5) by rw [Bool.eq_iff_iff, beq_iff_eq, decide_eq_true_iff]; omega]; exact x0
  refine ev_neg d2 ?_
  by_cases d3 : t.f0.f0 = 3
  · refine ev_pos d3 ?_
    rw [show (t.f0.f0 == 3) = decide (t.f0.f0 = 1 ∨ t.f0.f0 = 2 ∨ t.f0.f0 = 3 ∨ t.f0.f0 = 4 ∨ t.f0.f0 = 5) by rw [Bool.eq_iff_iff, beq_iff_eq, decide_eq_true_iff]; omega]; exact x0
  refine ev_neg d3 ?_
  by_cases d4 : t.f0.f0 = 4
  · refine ev_pos d4 ?_
    rw [show (t.f0.f0 == 4) = decide (t.f0.f0 = 1 ∨ t.f0.f0 = 2 ∨ t.f0.f0 = 3 ∨ t.f0.f0 = 4 ∨ t.f0.f0 = 5) by rw [Bool.eq_iff_iff, beq_iff_eq, decide_eq_true_iff]; omega]; exact x0
  refine ev_neg d4 ?_
  rw [show (t.f0.f0 == 5) = decide (t.f0.f0 = 1 ∨ t.f0.f0 = 2 ∨ t.f0.f0 = 3 ∨ t.f0.f0 = 4 ∨ t.f0.f0 = 5) by rw [Bool.eq_iff_iff, beq_iff_eq, decide_eq_true_iff]; omega]; exact x0
def ST (e : Nat) (t : S161) : Bool :=
  if t.f0.f0 = 20 ∨ t.f0.f0 = 21 then freeF t.f0.f1 && (emp t.f0.f2 && ((t.f0.f3 == 0) && KR e t 1))
  else if t.f0.f0 = 22 then emp t.f0.f1 && (emp t.f0.f2 && ((t.f0.f3 == 0) && KR e t 3))
  else if t.f0.f0 = 23 then freeF t.f0.f1 && (freeF t.f0.f2 && ((t.f0.f3 == 0) && KR e t 1))
  else if t.f0.f0 = 24 then emp t.f0.f1 && (emp t.f0.f2 && (iB 1 99 t.f0.f3 && KR e t 0))
  else if t.f0.f0 = 25 then emp t.f0.f1 && (emp t.f0.f2 && ((t.f0.f3 == 0) && KR e t 1))
  else if t.f0.f0 = 26 then emp t.f0.f1 && (emp t.f0.f2 && ((t.f0.f3 == 0) && KR e t 2))
  else if t.f0.f0 = 27 then (if (t.f2.length : Int) > 40 then false else emp t.f0.f1 && (emp t.f0.f2 && ((t.f0.f3 == 0) && KR e t (t.f2.length : Int)))) else false
theorem stmtEv (KF : Nat → Int → ByteArray → ByteArray → Int → Int → Int → List S161 → Int → ByteArray → Option Bool) (hK : KRok e t KF) : Ev (fun k => impl_tree_isStatement.f (KF k) k t.f0.f0 t.f0.f1 t.f0.f2 t.f0.f3 t.f0.f4 t.f1 t.f2 t.f3) (ST e t) := by
  have x0 : Ev (fun k => impl_tree_isStatement.j0 (KF k) k (emp t.f0.f1) (emp t.f0.f2) (t.f0.f3 == 0) ⟨#[101]⟩ t.f0.f0 (decide (t.f0.f0 = 20 ∨ t.f0.f0 = 21)) t.f0.f0 t.f0.f1 t.f0.f2 t.f0.f3 t.f0.f4 t.f1 t.f2 t.f3) (ST e t) := by
    have hK' := hK.up
    refine ev_succ ?_
    simp only [impl_tree_isStatement.j0]
    unfold ST
    by_cases c : t.f0.f0 = 20 ∨ t.f0.f0 = 21
    · rw [decide_eq_true c, if_pos c, freeImpl _ h1]; simp only [if_true]
      exact ev_cbind rfl (three (hK' ⟨#[101]⟩ (confE _ (by omega))))
    rw [decide_eq_false c, if_neg c]; simp only [Bool.false_eq_true, if_false]
    by_cases c2 : t.f0.f0 = 22
    · rw [if_pos c2]
      exact ev_pos c2 (three (hK' ⟨#[101, 98, 98]⟩ (by rw [c2]; exact confEBB)))
    rw [if_neg c2]
    refine ev_neg c2 ?_
    by_cases c3 : t.f0.f0 = 23
    · rw [if_pos c3]
      refine ev_pos c3 ?_
      rw [freeImpl _ h1, freeImpl _ h2]
      exact ev_cbind rfl (ev_cbind rfl (three (hK' ⟨#[101]⟩ (confE _ (by omega)))))
    rw [if_neg c3]
    refine ev_neg c3 ?_
    by_cases c4 : t.f0.f0 = 24
    · rw [if_pos c4]
      refine ev_pos c4 ?_
      rw [implIn]
      exact ev_cbind rfl (three (hK' ⟨#[]⟩ (conf0 _)))
    rw [if_neg c4]
    refine ev_neg c4 ?_
    by_cases c5 : t.f0.f0 = 25
    · rw [if_pos c5]
      exact ev_pos c5 (three (hK' ⟨#[101]⟩ (confE _ (by omega))))
    rw [if_neg c5]
    refine ev_neg c5 ?_
    by_cases c6 : t.f0.f0 = 26
    · rw [if_pos c6]
      exact ev_pos c6 (three (hK' ⟨#[101, 98]⟩ (by rw [c6]; exact confEB)))
    rw [if_neg c6]
    refine ev_neg c6 ?_
    by_cases c7 : t.f0.f0 = 27
    · rw [if_pos c7]
      refine ev_pos c7 ?_
      by_cases c8 : (t.f2.length : Int) > 40
      · rw [if_pos c8]; exact ev_pos c8 (Ev.now _)
      · rw [if_neg c8]
        refine ev_neg c8 ?_
        rw [rep_is 115 t.f2.length (by omega)]
        have hk := hK' ⟨(List.replicate t.f2.length 115).toArray⟩ (conf_rep 115 _ _ (fun i hi => by
          unfold sortF; rw [if_pos c7]; rfl))
        rw [rep_size] at hk
        exact ev_cbind rfl (three hk)
    · rw [if_neg c7]; exact ev_neg c7 (Ev.now _)
  simp only [impl_tree_isStatement.f, emp_b]
  by_cases d1 : t.f0.f0 = 20
  · refine ev_pos d1 ?_
    rw [show (t.f0.f0 == 20) = decide (t.f0.f0 = 20 ∨ t.f0.f0 = 21) by rw [Bool.eq_iff_iff, beq_iff_eq, decide_eq_true_iff]; omega]; exact x0
  refine ev_neg d1 ?_
  rw [show (t.f0.f0 == 21) = decide (t.f0.f0 = 20 ∨ t.f0.f0 = 21) by rw [Bool.eq_iff_iff, beq_iff_eq, decide_eq_true_iff]; omega]; exact x0
end

theorem shape_eq (x : S73) : shapeB x = ((decide (x.f0 = 23) || emp x.f2) && sh1 x) := by
  unfold shapeB
  by_cases c : x.f0 = 23
  · rw [if_neg (by simp [c]), decide_eq_true c]; simp
  · rw [decide_eq_false c]
    cases h : emp x.f2 with
    | false => rw [if_pos ⟨c, rfl⟩]; rfl
    | true => rw [if_neg (by simp)]; rfl
section
variable (e : Nat) (t : S161) (hf : t.f0.f4 = (t.f2.length : Int))
include hf
theorem f4_is (m : Int) : (t.f0.f4 == m) = decide ((t.f2.length : Int) = m) := by
  rw [hf, Bool.eq_iff_iff, beq_iff_eq, decide_eq_true_iff]
theorem ex_ok : EX e t = okT (e + 1) 1 t := by
  have hm := f4_is t hf
  simp only [okT, shape_eq]
  unfold EX E2 KR sh1 sh2 sh3 sh4 sh5
  simp only [hm]
  simp only [hf, decide_true, Bool.true_and]
  have hi : isB t.f0.f0 1 = decide (t.f0.f0 < 20) := rfl
  rw [hi]
  generalize kidsOk (okT e) t.f0.f0 0 t.f2 = K
  by_cases c0 : t.f0.f0 < 20
  · rw [decide_eq_true c0, decide_eq_false (show ¬ t.f0.f0 = 23 by omega), Bool.true_and, Bool.false_or]
    generalize emp t.f0.f1 = a
    generalize emp t.f0.f2 = b
    by_cases c1 : t.f0.f0 = 1 ∨ t.f0.f0 = 2 ∨ t.f0.f0 = 3 ∨ t.f0.f0 = 4 ∨ t.f0.f0 = 5
    · rw [if_pos c1, if_pos c1]
      generalize bndF t.f0.f0 t.f0.f3 = c; generalize decide ((t.f2.length : Int) = 0) = d
      cases a <;> cases b <;> cases c <;> cases d <;> cases K <;> rfl
    rw [if_neg c1, if_neg c1]
    by_cases c2 : t.f0.f0 = 6 ∨ t.f0.f0 = 7
    · rw [if_pos c2, if_pos c2]
      generalize freeF t.f0.f1 = c; generalize decide ((t.f2.length : Int) = 0) = d; generalize (t.f0.f3 == 0) = f
      cases f <;> cases b <;> cases c <;> cases d <;> cases K <;> rfl
    rw [if_neg c2, if_neg c2]
    by_cases c3 : t.f0.f0 = 8 ∨ t.f0.f0 = 9 ∨ t.f0.f0 = 10 ∨ t.f0.f0 = 11
    · rw [if_pos c3, if_pos c3]
      generalize decide ((t.f2.length : Int) = 0) = d; generalize (t.f0.f3 == 0) = f
      cases f <;> cases b <;> cases a <;> cases d <;> cases K <;> rfl
    rw [if_neg c3, if_neg c3]
    by_cases c4 : t.f0.f0 = 12
    · rw [if_pos c4, if_pos c4]
      generalize inF opsB t.f0.f1 = c; generalize decide ((t.f2.length : Int) = 2) = d; generalize (t.f0.f3 == 0) = f
      cases f <;> cases b <;> cases c <;> cases d <;> cases K <;> rfl
    rw [if_neg c4, if_neg c4]
    by_cases c5 : t.f0.f0 = 13
    · rw [if_pos c5, if_pos (Or.inl c5)]
      generalize decide ((t.f2.length : Int) = 1) = d; generalize (t.f0.f3 == 0) = f
      cases f <;> cases b <;> cases a <;> cases d <;> cases K <;> rfl
    rw [if_neg c5, if_neg (show ¬ (t.f0.f0 = 13 ∨ t.f0.f0 = 25) by omega)]
    by_cases c6 : t.f0.f0 = 14
    · rw [if_pos c6, if_pos c6]
      generalize inF fnsB t.f0.f1 = c; generalize iB 1 4 (t.f2.length : Int) = d; generalize (t.f0.f3 == 0) = f
      cases f <;> cases b <;> cases c <;> cases d <;> cases K <;> rfl
    rw [if_neg c6, if_neg c6, if_neg (by omega), if_neg (by omega), if_neg (by omega), if_neg (by omega), if_neg (by omega), if_neg (by omega)]
    simp
  · rw [decide_eq_false c0, if_neg (by omega), if_neg (by omega), if_neg (by omega), if_neg (by omega), if_neg (by omega), if_neg (by omega)]; simp
theorem st_ok : ST e t = okT (e + 1) 2 t := by
  have hm := f4_is t hf
  simp only [okT, shape_eq]
  unfold ST KR sh1 sh2 sh3 sh4 sh5
  simp only [hm]
  simp only [hf, decide_true, Bool.true_and]
  have hi : isB t.f0.f0 2 = decide (20 ≤ t.f0.f0 ∧ t.f0.f0 ≤ 27) := rfl
  rw [hi]
  generalize kidsOk (okT e) t.f0.f0 0 t.f2 = K
  by_cases c0 : 20 ≤ t.f0.f0 ∧ t.f0.f0 ≤ 27
  · rw [decide_eq_true c0, Bool.true_and, if_neg (show ¬ (t.f0.f0 = 1 ∨ t.f0.f0 = 2 ∨ t.f0.f0 = 3 ∨ t.f0.f0 = 4 ∨ t.f0.f0 = 5) by omega), if_neg (show ¬ (t.f0.f0 = 6 ∨ t.f0.f0 = 7) by omega), if_neg (show ¬ (t.f0.f0 = 8 ∨ t.f0.f0 = 9 ∨ t.f0.f0 = 10 ∨ t.f0.f0 = 11) by omega), if_neg (show ¬ t.f0.f0 = 12 by omega)]
    by_cases c1 : t.f0.f0 = 20 ∨ t.f0.f0 = 21
    · rw [if_pos c1, if_neg (by omega), if_neg (by omega), if_pos c1, decide_eq_false (show ¬ t.f0.f0 = 23 by omega)]
      generalize freeF t.f0.f1 = c; generalize decide ((t.f2.length : Int) = 1) = d; generalize (t.f0.f3 == 0) = f; generalize emp t.f0.f2 = b
      cases f <;> cases b <;> cases c <;> cases d <;> cases K <;> rfl
    rw [if_neg c1]
    by_cases c2 : t.f0.f0 = 22
    · rw [if_pos c2, if_neg (by omega), if_neg (by omega), if_neg c1, if_pos c2, decide_eq_false (show ¬ t.f0.f0 = 23 by omega)]
      generalize emp t.f0.f1 = a; generalize decide ((t.f2.length : Int) = 3) = d; generalize (t.f0.f3 == 0) = f; generalize emp t.f0.f2 = b
      cases f <;> cases b <;> cases a <;> cases d <;> cases K <;> rfl
    rw [if_neg c2]
    by_cases c3 : t.f0.f0 = 23
    · rw [if_pos c3, if_neg (by omega), if_neg (by omega), if_neg c1, if_neg c2, if_pos c3, decide_eq_true c3]
      generalize freeF t.f0.f1 = a; generalize freeF t.f0.f2 = b; generalize decide ((t.f2.length : Int) = 1) = d; generalize (t.f0.f3 == 0) = f
      cases f <;> cases b <;> cases a <;> cases d <;> cases K <;> rfl
    rw [if_neg c3, decide_eq_false c3]
    by_cases c4 : t.f0.f0 = 24
    · rw [if_pos c4, if_neg (by omega), if_neg (by omega), if_neg c1, if_neg c2, if_neg c3, if_pos c4]
      generalize emp t.f0.f1 = a; generalize decide ((t.f2.length : Int) = 0) = d; generalize iB 1 99 t.f0.f3 = f; generalize emp t.f0.f2 = b
      cases f <;> cases b <;> cases a <;> cases d <;> cases K <;> rfl
    rw [if_neg c4]
    by_cases c5 : t.f0.f0 = 25
    · rw [if_pos c5, if_pos (show t.f0.f0 = 13 ∨ t.f0.f0 = 25 from Or.inr c5)]
      generalize emp t.f0.f1 = a; generalize decide ((t.f2.length : Int) = 1) = d; generalize (t.f0.f3 == 0) = f; generalize emp t.f0.f2 = b
      cases f <;> cases b <;> cases a <;> cases d <;> cases K <;> rfl
    rw [if_neg c5, if_neg (show ¬ (t.f0.f0 = 13 ∨ t.f0.f0 = 25) by omega), if_neg (show ¬ t.f0.f0 = 14 by omega), if_neg c1, if_neg c2, if_neg c3, if_neg c4]
    by_cases c6 : t.f0.f0 = 26
    · rw [if_pos c6, if_pos c6]
      generalize emp t.f0.f1 = a; generalize decide ((t.f2.length : Int) = 2) = d; generalize (t.f0.f3 == 0) = f; generalize emp t.f0.f2 = b
      cases f <;> cases b <;> cases a <;> cases d <;> cases K <;> rfl
    rw [if_neg c6, if_neg c6, if_pos (show t.f0.f0 = 27 by omega), if_pos (show t.f0.f0 = 27 by omega)]
    have h40 : iB 0 40 (t.f2.length : Int) = !(decide ((t.f2.length : Int) > 40)) := by
      unfold iB
      by_cases h : (t.f2.length : Int) > 40
      · rw [decide_eq_true h, decide_eq_false (show ¬ (t.f2.length : Int) ≤ 40 by omega)]; simp
      · rw [decide_eq_false h, decide_eq_true (show (t.f2.length : Int) ≤ 40 by omega), decide_eq_true (show (0 : Int) ≤ (t.f2.length : Int) by omega)]; rfl
    rw [h40]
    by_cases h : (t.f2.length : Int) > 40
    · rw [if_pos h, decide_eq_true h]; simp
    · rw [if_neg h, decide_eq_false h]
      generalize emp t.f0.f1 = a; generalize (t.f0.f3 == 0) = f; generalize emp t.f0.f2 = b
      cases f <;> cases b <;> cases a <;> cases K <;> rfl
  · rw [decide_eq_false c0, if_neg (by omega), if_neg (by omega), if_neg (by omega), if_neg (by omega), if_neg (by omega), if_neg (by omega), if_neg (by omega)]; simp
end
def Fits : Nat → S161 → Prop
  | 0, _ => False
  | e + 1, t => (t.f0.f1.size ≤ 1048576 ∧ t.f0.f2.size ≤ 1048576) ∧ t.f2.length ≤ 150 ∧ t.f0.f4 = (t.f2.length : Int) ∧ ∀ c ∈ t.f2, Fits e c
theorem grow_fits (l : List S73) (hz : ∀ x ∈ l, x.f1.size ≤ 1048576 ∧ x.f2.size ≤ 1048576) : ∀ (e at_ : Nat) t nx, grow l e at_ = some (t, nx) → Fits e t := by
  intro e
  induction e with
  | zero => intro at_ t nx h; cases h
  | succ e ih =>
    intro at_ t nx h
    simp only [grow] at h
    by_cases c : at_ < l.length
    · rw [if_pos c] at h
      by_cases d : 0 ≤ (rd_T73 l (at_ : Int)).f4 ∧ (rd_T73 l (at_ : Int)).f4 ≤ 150
      · rw [if_pos d] at h
        obtain ⟨p, hp, h⟩ := Option.bind_eq_some_iff.mp h
        have key : ∀ (m : Nat) (acc : List S161) (dp : Int) (at_ : Nat) acc' dp' nx, (∀ c ∈ acc, Fits e c) → kidsG (grow l e) m acc dp at_ = some (acc', dp', nx) → (∀ c ∈ acc', Fits e c) ∧ acc'.length = acc.length + m := by
          intro m
          induction m with
          | zero => intro acc dp at_ acc' dp' nx ha h; simp only [kidsG, Option.some.injEq, Prod.mk.injEq] at h; rw [← h.1]; exact ⟨ha, rfl⟩
          | succ m ih2 =>
            intro acc dp at_ acc' dp' nx ha h
            simp only [kidsG] at h
            obtain ⟨q, hq, h⟩ := Option.bind_eq_some_iff.mp h
            have := ih2 _ _ _ _ _ _ (fun c hc => by
              rcases List.mem_append.1 hc with z | z
              · exact ha c z
              · rw [List.mem_singleton.1 z]; exact ih at_ q.1 q.2 hq) h
            refine ⟨this.1, ?_⟩
            rw [this.2, List.length_append, List.length_singleton]; omega
        simp only [Option.some.injEq, Prod.mk.injEq] at h
        have kk := key _ _ _ _ _ _ _ (fun c hc => by cases hc) hp
        rw [← h.1]
        refine ⟨rdN_bounds l hz at_ c, ?_, ?_, kk.1⟩
        · show p.1.length ≤ 150; rw [kk.2]; simp; omega
        · show (rd_T73 l (at_ : Int)).f4 = (p.1.length : Int); rw [kk.2]; simp; omega
      · rw [if_neg d] at h; cases h
    · rw [if_neg c] at h; cases h
theorem trees_ev : ∀ (e : Nat) (t : S161), Fits e t →
    Ev (fun k => impl_tree_isExpr.f (impl_tree_kidsAre.f k) k t.f0.f0 t.f0.f1 t.f0.f2 t.f0.f3 t.f0.f4 t.f1 t.f2 t.f3) (okT e 1 t) ∧ Ev (fun k => impl_tree_isStatement.f (impl_tree_kidsAre.f k) k t.f0.f0 t.f0.f1 t.f0.f2 t.f0.f3 t.f0.f4 t.f1 t.f2 t.f3) (okT e 2 t) := by
  intro e
  induction e with
  | zero => intro t h; cases h
  | succ e ih =>
    intro t h
    obtain ⟨⟨h1, h2⟩, hL, hf, hk⟩ := h
    have hK : KRok e t impl_tree_kidsAre.f := fun s hs => kidsEv e t hL (fun c hc => ih c (hk c hc)) s hs
    rw [← ex_ok e t hf, ← st_ok e t hf]
    exact ⟨exprEv e t h1 hL impl_tree_kidsAre.f hK, stmtEv e t h1 h2 hL impl_tree_kidsAre.f hK⟩
/-- A list of nodes that is right. -/
def nodesB (l : List S73) : Bool := decide (l.length ≤ 150) && (match grow l 20 0 with | some p => decide (p.2 = l.length) && okT 20 3 p.1 | none => false)
theorem nodesSpec (l : List S73) (hl : l.length ≤ 1048576) (hz : ∀ x ∈ l, x.f1.size ≤ 1048576 ∧ x.f2.size ≤ 1048576) : Ev (fun k => spec_NodesRight.f k l) (nodesB l) := by
  simp only [spec_NodesRight.f]
  unfold nodesB
  by_cases c : l.length ≤ 150
  · rw [decide_eq_true c, Bool.true_and]
    refine ev_pos (by omega) (Ev.bind (specTree l c hz 20 0 3 1 (by omega) (by omega) (by omega)) ?_)
    rw [tree_same]
    cases hg : grow l 20 0 with
    | none => simp only [Option.bind_none, outS]; rw [show ((-1 : Int) == (l.length : Int)) = false from by rw [beq_eq_false_iff_ne]; omega]; exact Ev.now _
    | some p =>
      simp only [Option.bind_some]
      cases okT 20 3 p.1 with
      | false => simp only [Bool.false_eq_true, if_false, outS, Bool.and_false]; rw [show ((-1 : Int) == (l.length : Int)) = false from by rw [beq_eq_false_iff_ne]; omega]; exact Ev.now _
      | true => simp only [if_true, outS, Bool.and_true]; rw [show ((p.2 : Int) == (l.length : Int)) = decide (p.2 = l.length) from by rw [Bool.eq_iff_iff, beq_iff_eq, decide_eq_true_iff]; omega]; exact Ev.now _
  · rw [decide_eq_false c, Bool.false_and]
    exact ev_neg (by omega) (Ev.now _)
theorem nodesImpl (l : List S73) (hl : l.length ≤ 1048576) (hz : ∀ x ∈ l, x.f1.size ≤ 1048576 ∧ x.f2.size ≤ 1048576) : Ev (fun k => impl_NodesRight.f k l) (nodesB l) := by
  simp only [impl_NodesRight.f, impl_treeOf.f]
  unfold nodesB
  by_cases c : l.length ≤ 150
  · rw [decide_eq_true c, Bool.true_and]
    have hg0 := implGrow l c 20 0 1 (by omega) (by omega) (by omega)
    cases hg : grow l 20 0 with
    | none =>
      rw [hg] at hg0
      refine Ev.bind (a := ((0 : Int), (⟨#[]⟩ : ByteArray), (⟨#[]⟩ : ByteArray), (0 : Int), (0 : Int), (0 : Int), ([] : List S161), (0 : Int), false)) (ev_neg (by omega) (Ev.bind hg0 ?_)) ?_
      · simp only [outT, Bool.false_eq_true, if_false]; exact Ev.now _
      · simp only [Bool.false_eq_true, if_false]; exact Ev.now _
    | some p =>
      obtain ⟨⟨⟨t0, t1, t2, t3, t4⟩, t5, t6, t7⟩, nx⟩ := p
      rw [hg] at hg0
      have hfit := grow_fits l hz 20 0 _ _ hg
      have hs := (trees_ev 20 _ hfit).2
      refine Ev.bind (a := (t0, t1, t2, t3, t4, t5, t6, t7, ((nx : Int) == (l.length : Int)))) (ev_neg (by omega) (Ev.bind hg0 ?_)) ?_
      · simp only [outT, if_true]; exact Ev.now _
      · simp only
        rw [show ((nx : Int) == (l.length : Int)) = decide (nx = l.length) from by rw [Bool.eq_iff_iff, beq_iff_eq, decide_eq_true_iff]; omega]
        rw [ok3]
        by_cases d : nx = l.length
        · rw [decide_eq_true d, Bool.true_and]; simp only [if_true]
          by_cases k : t0 = 27
          · refine ev_pos k (Ev.bind ?_ (Ev.now _))
            rw [decide_eq_true (show (⟨⟨t0, t1, t2, t3, t4⟩, t5, t6, t7⟩ : S161).f0.f0 = 27 from k), Bool.true_and]
            simp only [impl_tree_isStatement_o.f]
            exact hs
          · rw [decide_eq_false (show ¬ (⟨⟨t0, t1, t2, t3, t4⟩, t5, t6, t7⟩ : S161).f0.f0 = 27 from k), Bool.false_and]
            exact ev_neg k (Ev.now _)
        · rw [decide_eq_false d, Bool.false_and]; simp only [Bool.false_eq_true, if_false]; exact Ev.now _
  · rw [decide_eq_false c, Bool.false_and]
    refine Ev.bind (ev_pos (by omega) (Ev.now _)) ?_
    simp only [Bool.false_eq_true, if_false]; exact Ev.now _

def parF (x : S75) : Bool := bndF x.f1 x.f2 && (bndF x.f1 x.f3 && decide (x.f2 ≤ x.f3))
theorem parSpec (x : S75) : Ev (fun k => spec_l07ParamRight.f k x.f0 x.f1 x.f2 x.f3) (parF x) := by
  simp only [spec_l07ParamRight.f]
  unfold parF
  refine Ev.bind (ev_from 1 (boundSpec _ _)) ?_
  cases bndF x.f1 x.f2 with
  | false => simp only [Bool.false_eq_true, if_false, Bool.false_and]; exact Ev.now _
  | true =>
    simp only [if_true, Bool.true_and]
    refine Ev.bind (ev_from 1 (boundSpec _ _)) ?_
    cases bndF x.f1 x.f3 with
    | false => simp only [Bool.false_eq_true, if_false, Bool.false_and]; exact Ev.now _
    | true => simp only [if_true, Bool.true_and]; exact Ev.now _
theorem rdPmR (l : List S75) (i : Nat) (h : i < l.length) : rd_T75 l (i : Int) = l[i] := by
  unfold rd_T75; rw [Int.toNat_natCast, List.getD_eq_getElem?_getD, List.getElem?_eq_getElem h]; rfl
/-- The names are free, and no two are alike: from the i-th on. -/
def nmB (L : List ByteArray) : Nat → Nat → Bool
  | 0, _ => true
  | d + 1, i => freeF (rdOf ByteArray.empty L (i : Int)) && (!(inF (L.take i) (rdOf ByteArray.empty L (i : Int))) && nmB L d (i + 1))
section
variable (a : ByteArray) (b : Int) (C D : List ByteArray) (P : List S75) (X Y Z : List S73)
def nodes3 (X Y Z : List S73) : Bool := nodesB X && (nodesB Y && nodesB Z)
def NodesOk (X : List S73) : Prop := X.length ≤ 1048576 ∧ ∀ x ∈ X, x.f1.size ≤ 1048576 ∧ x.f2.size ≤ 1048576
variable (hX : NodesOk X) (hY : NodesOk Y) (hZ : NodesOk Z)
include hX hY hZ
theorem nodes3_spec : Ev (fun k => (spec_NodesRight.f k X).bind fun t173 => (if t173 = true then ((spec_NodesRight.f k Y).bind fun t174 => (if t174 = true then ((spec_NodesRight.f k Z).bind fun t175 => (some t175)) else (some false))) else (some false))) (nodes3 X Y Z) := by
  unfold nodes3
  refine Ev.bind (nodesSpec X hX.1 hX.2) ?_
  cases nodesB X with
  | false => simp only [Bool.false_eq_true, if_false, Bool.false_and]; exact Ev.now _
  | true =>
    simp only [if_true, Bool.true_and]
    refine Ev.bind (nodesSpec Y hY.1 hY.2) ?_
    cases nodesB Y with
    | false => simp only [Bool.false_eq_true, if_false, Bool.false_and]; exact Ev.now _
    | true => simp only [if_true, Bool.true_and]; exact Ev.bind (nodesSpec Z hZ.1 hZ.2) (Ev.now _)
theorem nodes3_impl : Ev (fun k => (impl_NodesRight.f k X).bind fun t173 => (if t173 = true then ((impl_NodesRight.f k Y).bind fun t174 => (if t174 = true then ((impl_NodesRight.f k Z).bind fun t175 => (some t175)) else (some false))) else (some false))) (nodes3 X Y Z) := by
  unfold nodes3
  refine Ev.bind (nodesImpl X hX.1 hX.2) ?_
  cases nodesB X with
  | false => simp only [Bool.false_eq_true, if_false, Bool.false_and]; exact Ev.now _
  | true =>
    simp only [if_true, Bool.true_and]
    refine Ev.bind (nodesImpl Y hY.1 hY.2) ?_
    cases nodesB Y with
    | false => simp only [Bool.false_eq_true, if_false, Bool.false_and]; exact Ev.now _
    | true => simp only [if_true, Bool.true_and]; exact Ev.bind (nodesImpl Z hZ.1 hZ.2) (Ev.now _)
theorem nm_spec (L : List ByteArray) (hL : L.length ≤ 2000000) (hs : ∀ x ∈ L, x.size ≤ 1048576) : ∀ (d i : Nat), L.length - i = d → Ev (fun k => spec_ProductRight.l1 k L (i : Int) a b C D P X Y Z) (nmB L d i && nodes3 X Y Z) := by
  intro d
  induction d with
  | zero =>
    intro i hd
    refine ev_succ ?_
    simp only [spec_ProductRight.l1, nmB, Bool.true_and]
    exact ev_neg (natNotLt (by omega)) (nodes3_spec X Y Z hX hY hZ)
  | succ d ih =>
    intro i hd
    have hi : i < L.length := by omega
    refine ev_succ ?_
    simp only [spec_ProductRight.l1, nmB]
    refine ev_pos (natLt hi) (ev_pos (nat0 i) (Ev.bind (freeSpec _ (by rw [rd_at L i hi]; exact hs _ (List.getElem_mem hi))) ?_))
    cases freeF (rdOf ByteArray.empty L (i : Int)) with
    | false => simp only [Bool.false_eq_true, if_false, Bool.false_and]; exact Ev.now _
    | true =>
      simp only [if_true, Bool.true_and]
      refine ev_pos (by omega) ?_
      rw [Int.toNat_natCast]
      refine Ev.bind (inSpec _ _ (by rw [List.length_take]; omega)) ?_
      cases inF (L.take i) (rdOf ByteArray.empty L (i : Int)) with
      | true => simp only [if_true, Bool.not_true, Bool.false_and]; exact Ev.now _
      | false => simp only [Bool.false_eq_true, if_false, Bool.not_false, Bool.true_and]; rw [wsucc hi (by omega)]; exact ih (i + 1) (by omega)
theorem nm_impl (L : List ByteArray) (hL : L.length ≤ 2000000) (hs : ∀ x ∈ L, x.size ≤ 1048576) : ∀ (d i : Nat), L.length - i = d → Ev (fun k => impl_ProductRight.l1 k L L (L.length : Int) (i : Int) a b C D P X Y Z) (nmB L d i && nodes3 X Y Z) := by
  intro d
  induction d with
  | zero =>
    intro i hd
    refine ev_succ ?_
    simp only [impl_ProductRight.l1, nmB, Bool.true_and]
    exact ev_neg (natNotLt (by omega)) (nodes3_impl X Y Z hX hY hZ)
  | succ d ih =>
    intro i hd
    have hi : i < L.length := by omega
    refine ev_succ ?_
    simp only [impl_ProductRight.l1, nmB]
    refine ev_pos (natLt hi) (ev_pos (nat0 i) (ev_pos (natLt hi) (ev_cbind (freeImpl _ (by rw [rd_at L i hi]; exact hs _ (List.getElem_mem hi))) ?_)))
    cases freeF (rdOf ByteArray.empty L (i : Int)) with
    | false => simp only [Bool.false_eq_true, if_false, Bool.false_and]; exact Ev.now _
    | true =>
      simp only [if_true, Bool.true_and]
      refine ev_pos (by omega) ?_
      rw [Int.toNat_natCast]
      refine Ev.bind (inImpl _ _ (by rw [List.length_take]; omega)) ?_
      cases inF (L.take i) (rdOf ByteArray.empty L (i : Int)) with
      | true => simp only [if_true, Bool.not_true, Bool.false_and]; exact Ev.now _
      | false => simp only [Bool.false_eq_true, if_false, Bool.not_false, Bool.true_and]; rw [wsucc hi (by omega)]; exact ih (i + 1) (by omega)
def tailB (L : List ByteArray) (X Y Z : List S73) : Bool := nmB L L.length 0 && nodes3 X Y Z
theorem par_spec (hP : P.length ≤ 1000000) (hps : ∀ x ∈ P, x.f0.size ≤ 1048576) : ∀ (d i : Nat) (acc : List ByteArray), P.length - i = d → acc.length + d ≤ 2000000 → (∀ x ∈ acc, x.size ≤ 1048576) →
    Ev (fun k => spec_ProductRight.l0 k acc (i : Int) a b C D P X Y Z) ((P.drop i).all parF && tailB (acc ++ (P.drop i).map (·.f0)) X Y Z) := by
  intro d
  induction d with
  | zero =>
    intro i acc hd hq ha
    refine ev_succ ?_
    simp only [spec_ProductRight.l0]
    rw [List.drop_eq_nil_of_le (by omega), List.all_nil, List.map_nil, List.append_nil, Bool.true_and]
    exact ev_neg (natNotLt (by omega)) (nm_spec a b C D P X Y Z hX hY hZ acc (by omega) ha _ 0 rfl)
  | succ d ih =>
    intro i acc hd hq ha
    have hi : i < P.length := by omega
    refine ev_succ ?_
    simp only [spec_ProductRight.l0, rdPmR P i hi]
    rw [List.drop_eq_getElem_cons hi, List.all_cons, List.map_cons]
    refine ev_pos (natLt hi) (ev_pos (nat0 i) (ev_pos (by omega) (Ev.bind (parSpec _) ?_)))
    cases parF P[i] with
    | false => simp only [Bool.false_eq_true, if_false, Bool.false_and]; exact Ev.now _
    | true =>
      simp only [if_true, Bool.true_and]
      rw [wsucc hi (by omega)]
      have e := ih (i + 1) (acc ++ [P[i].f0]) (by omega) (by rw [List.length_append, List.length_singleton]; omega) (fun x hx => by
        rcases List.mem_append.1 hx with z | z
        · exact ha x z
        · rw [List.mem_singleton.1 z]; exact hps _ (List.getElem_mem hi))
      rwa [List.append_assoc, List.singleton_append] at e
theorem par_impl (hP : P.length ≤ 1000000) (hps : ∀ x ∈ P, x.f0.size ≤ 1048576) : ∀ (d i : Nat) (acc : List ByteArray), P.length - i = d → acc.length + d ≤ 2000000 → (∀ x ∈ acc, x.size ≤ 1048576) →
    Ev (fun k => impl_ProductRight.l0 k acc P (P.length : Int) (i : Int) a b C D P X Y Z) ((P.drop i).all parF && tailB (acc ++ (P.drop i).map (·.f0)) X Y Z) := by
  intro d
  induction d with
  | zero =>
    intro i acc hd hq ha
    refine ev_succ ?_
    simp only [impl_ProductRight.l0]
    rw [List.drop_eq_nil_of_le (by omega), List.all_nil, List.map_nil, List.append_nil, Bool.true_and]
    exact ev_neg (natNotLt (by omega)) (nm_impl a b C D P X Y Z hX hY hZ acc (by omega) ha _ 0 rfl)
  | succ d ih =>
    intro i acc hd hq ha
    have hi : i < P.length := by omega
    refine ev_succ ?_
    simp only [impl_ProductRight.l0, rdPmR P i hi]
    rw [List.drop_eq_getElem_cons hi, List.all_cons, List.map_cons]
    refine ev_pos (natLt hi) (ev_pos (nat0 i) (ev_pos (natLt hi) (ev_pos (by omega) ?_)))
    unfold parF
    refine Ev.bind (ev_from 1 (boundImpl _ _)) ?_
    cases bndF P[i].f1 P[i].f2 with
    | false => simp only [Bool.false_eq_true, if_false, Bool.false_and]; exact Ev.now _
    | true =>
      simp only [if_true, Bool.true_and]
      refine Ev.bind (ev_from 1 (boundImpl _ _)) ?_
      cases bndF P[i].f1 P[i].f3 with
      | false => simp only [Bool.false_eq_true, if_false, Bool.false_and]; exact Ev.now _
      | true =>
        simp only [if_true, Bool.true_and]
        by_cases c : P[i].f2 ≤ P[i].f3
        · rw [decide_eq_true c, Bool.true_and]
          refine ev_neg (by omega) ?_
          rw [wsucc hi (by omega)]
          have e := ih (i + 1) (acc ++ [P[i].f0]) (by omega) (by rw [List.length_append, List.length_singleton]; omega) (fun x hx => by
            rcases List.mem_append.1 hx with z | z
            · exact ha x z
            · rw [List.mem_singleton.1 z]; exact hps _ (List.getElem_mem hi))
          rwa [List.append_assoc, List.singleton_append] at e
        · rw [decide_eq_false c, Bool.false_and]; exact ev_pos (by omega) (Ev.now _)
end
theorem concat2 (A B : List ByteArray) (hA : A.length ≤ 1000) (hB : B.length ≤ 1000) : Ev (fun k => slices_Concat_string_string.f k [A, B]) (A ++ B) := by
  have r0 : rd_L6 [A, B] 0 = A := rfl
  have r1 : rd_L6 [A, B] 1 = B := rfl
  have w0 : wrap64 (0 + (A.length : Int)) = (A.length : Int) := by rw [w64 (by omega) (by omega)]; omega
  have w1 : wrap64 ((A.length : Int) + (B.length : Int)) = (A.length : Int) + (B.length : Int) := w64 (by omega) (by omega)
  have v0 : wrap64 (0 + 1) = 1 := by rw [w64 (by omega) (by omega)]; rfl
  have v1 : wrap64 (1 + 1) = 2 := by rw [w64 (by omega) (by omega)]; rfl
  have l2 : (([A, B] : List (List ByteArray)).length : Int) = 2 := rfl
  simp only [slices_Concat_string_string.f, l2]
  refine ev_succ ?_
  simp only [slices_Concat_string_string.l0, l2, r0, w0, v0]
  refine ev_pos (by decide) (ev_pos (by decide) (ev_pos (by decide) (ev_neg (by omega) (ev_succ ?_))))
  simp only [slices_Concat_string_string.l0, l2, r1, w1, v1]
  refine ev_pos (by decide) (ev_pos (by decide) (ev_pos (by decide) (ev_neg (by omega) (ev_succ ?_))))
  simp only [slices_Concat_string_string.l0, l2]
  refine ev_neg (by decide) (ev_cbind (a := []) (by unfold slices_Grow_string_string.f; rw [if_pos ⟨rfl, by omega, by omega⟩]) (ev_succ ?_))
  simp only [slices_Concat_string_string.l1, l2, r0, v0, List.nil_append]
  refine ev_pos (by decide) (ev_pos (by decide) (ev_pos (by decide) (ev_pos (by simp; omega) (ev_succ ?_))))
  simp only [slices_Concat_string_string.l1, l2, r1, v1]
  refine ev_pos (by decide) (ev_pos (by decide) (ev_pos (by decide) (ev_pos (by omega) (ev_succ ?_))))
  simp only [slices_Concat_string_string.l1]
  exact ev_neg (by decide) (Ev.now _)
/-- A product that is right. -/
def prodB (a : ByteArray) (b : Int) (C D : List ByteArray) (P : List S75) (X Y Z : List S73) : Bool :=
  freeF a && (iB 1 3 b && (decide (C.length ≤ 4) && (iB 1 6 (D.length : Int) && (decide (P.length ≤ 8) && (P.all parF && tailB (C ++ D ++ P.map (·.f0)) X Y Z)))))
structure ProdOk (a : ByteArray) (C D : List ByteArray) (P : List S75) (X Y Z : List S73) : Prop where
  ha : a.size ≤ 1048576
  hC : ∀ x ∈ C, x.size ≤ 1048576
  hD : ∀ x ∈ D, x.size ≤ 1048576
  hP : ∀ x ∈ P, x.f0.size ≤ 1048576
  hX : NodesOk X
  hY : NodesOk Y
  hZ : NodesOk Z
section
variable (a : ByteArray) (b : Int) (C D : List ByteArray) (P : List S75) (X Y Z : List S73) (h : ProdOk a C D P X Y Z)
include h
theorem app_sizes : ∀ x ∈ C ++ D, x.size ≤ 1048576 := fun x hx => by
  rcases List.mem_append.1 hx with z | z
  · exact h.hC x z
  · exact h.hD x z
theorem j0_spec (q : Bool) (hc : q = false → C.length ≤ 4 ∧ D.length ≤ 6 ∧ P.length ≤ 8) : Ev (fun k => spec_ProductRight.j0 k q a b C D P X Y Z) (!q && (P.all parF && tailB (C ++ D ++ P.map (·.f0)) X Y Z)) := by
  refine ev_succ ?_
  simp only [spec_ProductRight.j0]
  cases q with
  | true => simp only [if_true, Bool.not_true, Bool.false_and]; exact Ev.now _
  | false =>
    obtain ⟨c1, c2, c3⟩ := hc rfl
    simp only [Bool.false_eq_true, if_false, Bool.not_false, Bool.true_and, Option.bind_some, List.nil_append]
    refine ev_pos (by simp; omega) (ev_pos (by omega) ?_)
    have e := par_spec a b C D P X Y Z h.hX h.hY h.hZ (by omega) h.hP _ 0 (C ++ D) rfl (by rw [List.length_append]; omega) (app_sizes a C D P X Y Z h)
    rwa [List.drop_zero] at e
theorem j0_impl (q : Bool) (hc : q = false → C.length ≤ 4 ∧ D.length ≤ 6 ∧ P.length ≤ 8) : Ev (fun k => impl_ProductRight.j0 k q a b C D P X Y Z) (!q && (P.all parF && tailB (C ++ D ++ P.map (·.f0)) X Y Z)) := by
  refine ev_succ ?_
  simp only [impl_ProductRight.j0]
  cases q with
  | true => simp only [if_true, Bool.not_true, Bool.false_and]; exact Ev.now _
  | false =>
    obtain ⟨c1, c2, c3⟩ := hc rfl
    simp only [Bool.false_eq_true, if_false, Bool.not_false, Bool.true_and]
    refine Ev.bind (concat2 C D (by omega) (by omega)) ?_
    have e := par_impl a b C D P X Y Z h.hX h.hY h.hZ (by omega) h.hP _ 0 (C ++ D) rfl (by rw [List.length_append]; omega) (app_sizes a C D P X Y Z h)
    rwa [List.drop_zero] at e
theorem prodSpec : Ev (fun k => spec_ProductRight.f k a b C D P X Y Z) (prodB a b C D P X Y Z) := by
  have jt := j0_spec a b C D P X Y Z h true (fun z => by cases z)
  simp only [Bool.not_true, Bool.false_and] at jt
  simp only [spec_ProductRight.f]
  refine Ev.bind (freeSpec a h.ha) ?_
  unfold prodB iB
  cases freeF a with
  | false => simp only [Bool.false_eq_true, if_false, Bool.false_and]; exact jt
  | true =>
    simp only [if_true, Bool.true_and]
    by_cases c1 : b < 1
    · rw [decide_eq_false (show ¬ (1 : Int) ≤ b by omega), Bool.false_and, Bool.false_and]; exact ev_pos c1 jt
    rw [decide_eq_true (show (1 : Int) ≤ b by omega), Bool.true_and]; refine ev_neg c1 ?_
    by_cases c2 : b > 3
    · rw [decide_eq_false (show ¬ b ≤ 3 by omega), Bool.false_and]; exact ev_pos c2 jt
    rw [decide_eq_true (show b ≤ 3 by omega), Bool.true_and]; refine ev_neg c2 ?_
    by_cases c3 : (C.length : Int) > 4
    · rw [decide_eq_false (show ¬ C.length ≤ 4 by omega), Bool.false_and]; exact ev_pos c3 jt
    rw [decide_eq_true (show C.length ≤ 4 by omega), Bool.true_and]; refine ev_neg c3 ?_
    by_cases c4 : (D.length : Int) < 1
    · rw [decide_eq_false (show ¬ (1 : Int) ≤ (D.length : Int) by omega), Bool.false_and, Bool.false_and]; exact ev_pos c4 jt
    rw [decide_eq_true (show (1 : Int) ≤ (D.length : Int) by omega), Bool.true_and]; refine ev_neg c4 ?_
    by_cases c5 : (D.length : Int) > 6
    · rw [decide_eq_false (show ¬ (D.length : Int) ≤ 6 by omega), Bool.false_and]; exact ev_pos c5 jt
    rw [decide_eq_true (show (D.length : Int) ≤ 6 by omega), Bool.true_and]; refine ev_neg c5 ?_
    have e := j0_spec a b C D P X Y Z h (decide ((P.length : Int) > 8)) (fun z => by have := of_decide_eq_false z; omega)
    rw [show (!(decide ((P.length : Int) > 8))) = decide (P.length ≤ 8) from by rw [Bool.eq_iff_iff]; simp; omega] at e
    exact e
theorem prodImpl : Ev (fun k => impl_ProductRight.f k a b C D P X Y Z) (prodB a b C D P X Y Z) := by
  have jt := j0_impl a b C D P X Y Z h true (fun z => by cases z)
  simp only [Bool.not_true, Bool.false_and] at jt
  simp only [impl_ProductRight.f, impl_isBasis.f, implIn, Option.bind_some]
  refine ev_cbind (freeImpl a h.ha) ?_
  unfold prodB
  cases freeF a with
  | false => simp only [Bool.false_eq_true, if_false, Bool.false_and]; exact jt
  | true =>
    simp only [if_true, Bool.true_and]
    cases iB 1 3 b with
    | false => simp only [Bool.false_eq_true, if_false, Bool.false_and]; exact jt
    | true =>
      simp only [if_true, Bool.true_and]
      by_cases c3 : (C.length : Int) > 4
      · rw [decide_eq_false (show ¬ C.length ≤ 4 by omega), Bool.false_and]; exact ev_pos c3 jt
      rw [decide_eq_true (show C.length ≤ 4 by omega), Bool.true_and]; refine ev_neg c3 ?_
      cases c4 : iB 1 6 (D.length : Int) with
      | false => simp only [Bool.false_eq_true, if_false, Bool.false_and]; exact jt
      | true =>
        simp only [if_true, Bool.true_and]
        have hD : (D.length : Int) ≤ 6 := by unfold iB at c4; simp at c4; omega
        have e := j0_impl a b C D P X Y Z h (decide ((P.length : Int) > 8)) (fun z => by have := of_decide_eq_false z; omega)
        rw [show (!(decide ((P.length : Int) > 8))) = decide (P.length ≤ 8) from by rw [Bool.eq_iff_iff]; simp; omega] at e
        exact e
end
theorem small_ok (p : PL) (h : p.small) : ProdOk p.a p.l2 p.l3 (p.l4.map cP) (p.l5.map cN) (p.l6.map cN) (p.l7.map cN) := by
  have n : ∀ l : List S176, l.length ≤ 1048576 → (∀ x ∈ l, x.f1.size + x.f2.size ≤ 1048576) → NodesOk (l.map cN) := fun l h1 h2 => ⟨by rw [List.length_map]; exact h1, fun x hx => by
    obtain ⟨y, hy, rfl⟩ := List.mem_map.1 hx
    have := h2 y hy
    exact ⟨by show y.f1.size ≤ _; omega, by show y.f2.size ≤ _; omega⟩⟩
  exact ⟨h.sa, h.s2, h.s3, fun x hx => by
    obtain ⟨y, hy, rfl⟩ := List.mem_map.1 hx
    exact h.s4 y hy, n _ h.h5 h.s5, n _ h.h6 h.s6, n _ h.h7 h.s7⟩

def mB (n : Int) : Bool := iB (-1000000000000) 1000000000000 n
theorem mr_mB (a : Int) : mr a = mB a := by
  have h := right_is a
  unfold spec_MoneyRight.f at h
  unfold mB iB
  by_cases c : a ≥ (-1000000000000)
  · rw [if_pos c] at h; rw [← Option.some.inj h, decide_eq_true (show -1000000000000 ≤ a by omega), Bool.true_and]
  · rw [if_neg c] at h; rw [← Option.some.inj h, decide_eq_false (show ¬ -1000000000000 ≤ a by omega), Bool.false_and]
def restB (a2 a3 a4 a5 a6 : Int) : Bool := iB 0 36524 a2 && (iB 0 a2 a3 && (iB 0 1000 a4 && (iB 0 1000000000000 a5 && iB 0 2000 a6)))
theorem iBt {lo hi x : Int} (h : lo ≤ x ∧ x ≤ hi) : iB lo hi x = true := by unfold iB; simp [h.1, h.2]
theorem iBf {lo hi x : Int} (h : ¬ (lo ≤ x ∧ x ≤ hi)) : iB lo hi x = false := by
  cases e : iB lo hi x with
  | false => rfl
  | true => unfold iB at e; simp at e; exact absurd e h
theorem rest_tail (a2 a3 a4 a5 a6 : Int) : ((spec_l03Right.f a2).bind fun t224 => (if t224 = true then ((spec_l03Right.f a3).bind fun t225 => (if t225 = true then (if a3 ≤ a2 then (if a4 ≥ 0 then (if a4 ≤ 1000 then ((spec_MoneyRight.f a5).bind fun t226 => (if t226 = true then (if a5 ≥ 0 then (if a6 ≥ 0 then (some (decide (a6 ≤ 2000))) else (some false)) else (some false)) else (some false))) else (some false)) else (some false)) else (some false)) else (some false))) else (some false))) = some (restB a2 a3 a4 a5 a6) := by
  have hd : ∀ a, spec_l03Right.f a = some (iB 0 36524 a) := fun a => by
    unfold spec_l03Right.f iB
    by_cases c : a ≥ 0
    · rw [if_pos c, decide_eq_true (show 0 ≤ a by omega), Bool.true_and]
    · rw [if_neg c, decide_eq_false (show ¬ 0 ≤ a by omega), Bool.false_and]
  rw [hd, hd, right_is, mr_mB]
  simp only [Option.bind_some]
  unfold restB
  by_cases c2 : 0 ≤ a2 ∧ a2 ≤ 36524
  · rw [iBt c2, if_pos rfl, Bool.true_and]
    by_cases c3 : 0 ≤ a3 ∧ a3 ≤ a2
    · rw [iBt c3, iBt (show 0 ≤ a3 ∧ a3 ≤ 36524 by omega), if_pos rfl, if_pos c3.2, Bool.true_and]
      by_cases c4 : 0 ≤ a4 ∧ a4 ≤ 1000
      · rw [iBt c4, if_pos c4.1, if_pos c4.2, Bool.true_and]
        by_cases c5 : 0 ≤ a5 ∧ a5 ≤ 1000000000000
        · rw [iBt c5, show mB a5 = true from iBt (by omega), if_pos rfl, if_pos c5.1, Bool.true_and]
          by_cases c6 : a6 ≥ 0
          · rw [if_pos c6]; unfold iB; rw [decide_eq_true (show 0 ≤ a6 by omega), Bool.true_and]
          · rw [if_neg c6, iBf (by omega)]
        · rw [iBf c5, Bool.false_and]
          cases hm : mB a5 with
          | false => rw [if_neg (by simp)]
          | true =>
            rw [if_pos rfl]
            unfold mB iB at hm
            simp at hm
            rw [if_neg (by omega)]
      · rw [iBf c4, Bool.false_and]
        by_cases c40 : a4 ≥ 0
        · rw [if_pos c40, if_neg (by omega)]
        · rw [if_neg c40]
    · rw [iBf c3, Bool.false_and]
      cases h3 : iB 0 36524 a3 with
      | false => rw [if_neg (by simp)]
      | true =>
        rw [if_pos rfl]
        unfold iB at h3
        simp at h3
        rw [if_neg (by omega)]
  · rw [iBf c2, Bool.false_and, if_neg (by simp)]
theorem rdI (l : List Int) (i : Nat) (h : i < l.length) : rd l (i : Int) = l[i] := by
  unfold rd; rw [Int.toNat_natCast, List.getD_eq_getElem?_getD, List.getElem?_eq_getElem h]; rfl
theorem rest_ev (p b : List Int) (hb : b.length ≤ 140737488351232) (a2 a3 a4 a5 a6 : Int) : ∀ (d i : Nat), b.length - i = d → Ev (fun k => spec_l09Rest.l0 k (i : Int) p b a2 a3 a4 a5 a6) ((b.drop i).all mB && restB a2 a3 a4 a5 a6) := by
  intro d
  induction d with
  | zero =>
    intro i hd
    refine ev_succ ?_
    simp only [spec_l09Rest.l0, if_neg (natNotLt (show ¬ i < b.length by omega)), rest_tail]
    rw [List.drop_eq_nil_of_le (by omega), List.all_nil, Bool.true_and]; exact Ev.now _
  | succ d ih =>
    intro i hd
    have hi : i < b.length := by omega
    refine ev_succ ?_
    simp only [spec_l09Rest.l0, if_pos (natLt hi), if_pos (nat0 i), rdI b i hi, right_is, mr_mB, Option.bind_some, wsucc hi hb]
    rw [List.drop_eq_getElem_cons hi, List.all_cons]
    cases mB b[i] with
    | false => simp only [Bool.false_eq_true, if_false, Bool.false_and]; exact Ev.now _
    | true => simp only [if_true, Bool.true_and]; exact ih (i + 1) (by omega)
theorem toInts_ev (l : List Int) (hl : l.length ≤ 1048576) : Ev (fun k => laws_toInt64S.f k l) l := by
  simp only [laws_toInt64S.f, if_pos (nat0 l.length), Int.toNat_natCast, if_pos (show l.length ≤ 35184372088832 by omega)]
  have := map_ev id laws_toInt64S.l0 1048576 (fun k x y i hB hx hy => by simp only [laws_toInt64S.l0, if_pos (natLt hx), if_pos (nat0 i), if_pos (natLt hy), rdI x i hx, i64_1 hx (show x.length ≤ 140737488351232 by omega), Int.toNat_natCast, id]) (fun k x y => by simp only [laws_toInt64S.l0, if_neg (natNotLt (Nat.lt_irrefl _))]) l _ (List.length_replicate (n := l.length) (a := (0 : Int))) hl
  rwa [List.map_id] at this
theorem szInts_is (l : List Int) (v : Int) (hl : l.length ≤ maxLen) (h0 : 0 ≤ v) (h1 : v ≤ 1048576) : laws_szInt64S.f l v = some (if v - (l.length : Int) < 0 then -1 else v - (l.length : Int)) := by
  unfold maxLen at hl
  have w : wrap64 (v - (l.length : Int)) = v - (l.length : Int) := w64 (by omega) (by omega)
  unfold laws_szInt64S.f
  rw [w]
  by_cases h : v - (l.length : Int) < 0
  · rw [if_pos h, if_pos h]
  · rw [if_neg h, if_neg h]
theorem szEnv_is (p b : List Int) (a2 a3 a4 a5 a6 v : Int) (hp : p.length ≤ maxLen) (hb : b.length ≤ maxLen) (h0 : 0 ≤ v) (h1 : v ≤ 1048576) : ∃ t, laws_szEnv.f p b a2 a3 a4 a5 a6 v = some t ∧ (0 ≤ t → p.length ≤ 1048576 ∧ b.length ≤ 1048576 ∧ t ≤ 1048576) := by
  unfold laws_szEnv.f
  rw [szInts_is p v hp h0 h1]
  by_cases h : v - (p.length : Int) < 0
  · exact ⟨-1, by rw [if_pos h]; rfl, fun z => absurd z (by decide)⟩
  · rw [if_neg h, Option.bind_some, if_neg h, szInts_is b _ hb (by omega) (by omega)]
    by_cases h' : v - (p.length : Int) - (b.length : Int) < 0
    · exact ⟨-1, by rw [if_pos h']; rfl, fun z => absurd z (by decide)⟩
    · exact ⟨_, by rw [if_neg h', Option.bind_some, if_neg h'], fun _ => by omega⟩
theorem toEnv_ev (p b : List Int) (a2 a3 a4 a5 a6 : Int) (hp : p.length ≤ 1048576) (hb : b.length ≤ 1048576) : Ev (fun k => laws_toEnv.f k p b a2 a3 a4 a5 a6) (p, b, a2, a3, a4, a5, a6) := by
  simp only [laws_toEnv.f]
  exact Ev.bind (toInts_ev p hp) (Ev.bind (toInts_ev b hb) (Ev.now _))

/-- Slices of int64: told alike, marked, and held as marked. -/
theorem eqI_l0 (l : List Int) (hl : l.length ≤ 140737488351232) : ∀ (d i : Nat), l.length - i = d → Ev (fun k => laws_eqInt64S.l0 k l l i) true := by
  intro d
  induction d with
  | zero =>
    intro i hd
    refine ev_succ ?_
    simp only [laws_eqInt64S.l0, if_neg (natNotLt (show ¬ i < l.length by omega))]; exact Ev.now _
  | succ d ih =>
    intro i hd
    refine ev_succ ?_
    have hi : i < l.length := by omega
    simp only [laws_eqInt64S.l0, if_pos (natLt hi), if_pos (nat0 i), if_true, wsucc hi hl]
    exact ih _ (by omega)
theorem eqI_ev (l : List Int) (hl : l.length ≤ 140737488351232) : Ev (fun k => laws_eqInt64S.f k l l) true := by
  simp only [laws_eqInt64S.f, if_true]; exact eqI_l0 l hl _ 0 rfl
theorem rd_set (l : List Int) (i j : Nat) (v : Int) (hj : j < l.length) : rd (l.set i v) j = if i = j then v else rd l j := by
  unfold rd
  rw [List.getD_eq_getElem?_getD, List.getD_eq_getElem?_getD, List.getElem?_set]
  by_cases h : i = j
  · subst h; simp [hj]
  · simp [h]

/-- The parameters' numbers lie in their bounds: from the i-th on. -/
def prB (p : List Int) (P : List S75) : Nat → Nat → Bool
  | 0, _ => true
  | d + 1, i => iB (rd_T75 P (i : Int)).f2 (rd_T75 P (i : Int)).f3 (rd p (i : Int)) && prB p P d (i + 1)
theorem any_all (f g : Int → Bool) (h : ∀ x, f x = !(g x)) (l : List Int) : l.any f = !(l.all g) := by
  induction l with
  | nil => rfl
  | cons x l ih => rw [List.any_cons, List.all_cons, ih, h]; cases g x <;> rfl
theorem eqEnv_ev (p b : List Int) (a2 a3 a4 a5 a6 : Int) (hp : p.length ≤ 140737488351232) (hb : b.length ≤ 140737488351232) : Ev (fun k => laws_eqEnv.f k p b a2 a3 a4 a5 a6 p b a2 a3 a4 a5 a6) true := by
  simp only [laws_eqEnv.f]
  refine Ev.bind (eqI_ev p hp) ?_
  simp only [if_true]
  refine Ev.bind (eqI_ev b hb) ?_
  simp only [if_true]; exact Ev.now _
section
variable (a : ByteArray) (b : Int) (C D : List ByteArray) (P : List S75) (X Y Z : List S73) (p e : List Int) (a2 a3 a4 a5 a6 : Int) (hl : p.length = P.length) (hp : p.length ≤ 1048576)
include hl hp
theorem pairs_spec : ∀ (d i : Nat), p.length - i = d → Ev (fun k => spec_EnvRight.l0 k (i : Int) a b C D P X Y Z p e a2 a3 a4 a5 a6) (prB p P d i) := by
  intro d
  induction d with
  | zero => intro i hd; refine ev_succ ?_; simp only [spec_EnvRight.l0, prB]; exact ev_neg (natNotLt (by omega)) (Ev.now _)
  | succ d ih =>
    intro i hd
    have hi : i < p.length := by omega
    refine ev_succ ?_
    simp only [spec_EnvRight.l0, prB]
    refine ev_pos (natLt hi) (ev_pos (nat0 i) (ev_pos (natLt (by omega)) ?_))
    unfold iB
    by_cases c1 : rd p (i : Int) < (rd_T75 P (i : Int)).f2
    · rw [decide_eq_false (show ¬ (rd_T75 P (i : Int)).f2 ≤ rd p (i : Int) by omega), Bool.false_and, Bool.false_and]; exact ev_pos c1 (Ev.now _)
    rw [decide_eq_true (show (rd_T75 P (i : Int)).f2 ≤ rd p (i : Int) by omega), Bool.true_and]; refine ev_neg c1 ?_
    by_cases c2 : rd p (i : Int) > (rd_T75 P (i : Int)).f3
    · rw [decide_eq_false (show ¬ rd p (i : Int) ≤ (rd_T75 P (i : Int)).f3 by omega), Bool.false_and]; exact ev_pos c2 (Ev.now _)
    rw [decide_eq_true (show rd p (i : Int) ≤ (rd_T75 P (i : Int)).f3 by omega), Bool.true_and]; refine ev_neg c2 ?_
    rw [wsucc hi (by omega)]; exact ih (i + 1) (by omega)
omit hp in
theorem pairs_impl (hp : p.length ≤ 1048576) : ∀ (d i : Nat), p.length - i = d → Ev (fun k => impl_Product_paramsRight.l0 k p P (P.length : Int) (i : Int)) (prB p P d i) := by
  intro d
  induction d with
  | zero => intro i hd; refine ev_succ ?_; simp only [impl_Product_paramsRight.l0, prB]; exact ev_neg (natNotLt (by omega)) (Ev.now _)
  | succ d ih =>
    intro i hd
    have hi : i < p.length := by omega
    refine ev_succ ?_
    simp only [impl_Product_paramsRight.l0, prB]
    refine ev_pos (natLt (by omega)) (ev_pos (nat0 i) (ev_pos (natLt (by omega)) (ev_pos (natLt hi) (ev_cbind (implIn _ _ _) ?_))))
    cases iB (rd_T75 P (i : Int)).f2 (rd_T75 P (i : Int)).f3 (rd p (i : Int)) with
    | false => simp only [Bool.false_eq_true, if_false, Bool.false_and]; exact Ev.now _
    | true => simp only [if_true, Bool.true_and]; rw [wsucc hi (by omega)]; exact ih (i + 1) (by omega)
end
/-- An Env that is right for a product. -/
def envB (a : ByteArray) (b : Int) (C D : List ByteArray) (P : List S75) (X Y Z : List S73) (p e : List Int) (a2 a3 a4 a5 a6 : Int) : Bool :=
  prodB a b C D P X Y Z && (decide ((p.length : Int) = (P.length : Int)) && (prB p P p.length 0 && (decide ((e.length : Int) = (D.length : Int)) && (e.all mB && restB a2 a3 a4 a5 a6))))
section
variable (a : ByteArray) (b : Int) (C D : List ByteArray) (P : List S75) (X Y Z : List S73) (h : ProdOk a C D P X Y Z) (p e : List Int) (hp : p.length ≤ 1048576) (he : e.length ≤ 1048576) (a2 a3 a4 a5 a6 : Int)
include h hp he
theorem envSpec : Ev (fun k => spec_EnvRight.f k a b C D P X Y Z p e a2 a3 a4 a5 a6) (envB a b C D P X Y Z p e a2 a3 a4 a5 a6) := by
  have jt : Ev (fun k => spec_EnvRight.j0 k true a b C D P X Y Z p e a2 a3 a4 a5 a6) false := by
    refine ev_succ ?_
    simp only [spec_EnvRight.j0, if_true]; exact Ev.now _
  simp only [spec_EnvRight.f]
  refine Ev.bind (prodSpec a b C D P X Y Z h) ?_
  unfold envB
  cases prodB a b C D P X Y Z with
  | false => simp only [Bool.false_eq_true, if_false, Bool.false_and]; exact jt
  | true =>
    simp only [if_true, Bool.true_and]
    by_cases c : (p.length : Int) = (P.length : Int)
    · rw [decide_eq_true c, Bool.true_and]
      refine ev_pos c ?_
      by_cases c2 : (e.length : Int) = (D.length : Int)
      · rw [decide_eq_true c2, Bool.true_and]
        refine ev_pos c2 ?_
        have hr := rest_ev p e (by omega) a2 a3 a4 a5 a6 _ 0 rfl
        rw [List.drop_zero] at hr
        refine Ev.bind (show Ev (fun k => spec_l09Rest.f k p e a2 a3 a4 a5 a6) _ from hr) ?_
        cases (e.all mB && restB a2 a3 a4 a5 a6) with
        | false => simp only [Bool.not_false, Bool.and_false]; exact jt
        | true =>
          simp only [Bool.not_true, Bool.and_true]
          refine ev_succ ?_
          simp only [spec_EnvRight.j0, Bool.false_eq_true, if_false]
          exact pairs_spec a b C D P X Y Z p e a2 a3 a4 a5 a6 (by omega) hp _ 0 rfl
      · rw [decide_eq_false c2, Bool.false_and, Bool.and_false]
        exact ev_neg c2 jt
    · rw [decide_eq_false c, Bool.false_and]
      exact ev_neg c jt
omit he in
theorem envImpl : Ev (fun k => impl_EnvRight.f k a b C D P X Y Z p e a2 a3 a4 a5 a6) (envB a b C D P X Y Z p e a2 a3 a4 a5 a6) := by
  simp only [impl_EnvRight.f]
  refine Ev.bind (prodImpl a b C D P X Y Z h) ?_
  unfold envB
  cases prodB a b C D P X Y Z with
  | false => simp only [Bool.false_eq_true, if_false, Bool.false_and]; exact Ev.now _
  | true =>
    simp only [if_true, Bool.true_and]
    have pr : Ev (fun k => impl_Product_paramsRight.f k a b C D P X Y Z p) (decide ((p.length : Int) = (P.length : Int)) && prB p P p.length 0) := by
      simp only [impl_Product_paramsRight.f]
      by_cases c : (p.length : Int) = (P.length : Int)
      · rw [decide_eq_true c, Bool.true_and]
        exact ev_pos c (pairs_impl P p (by omega) hp _ 0 rfl)
      · rw [decide_eq_false c, Bool.false_and]; exact ev_neg c (Ev.now _)
    refine Ev.bind pr ?_
    rw [← Bool.and_assoc]
    cases (decide ((p.length : Int) = (P.length : Int)) && prB p P p.length 0) with
    | false => simp only [Bool.false_eq_true, if_false, Bool.false_and]; exact Ev.now _
    | true =>
      simp only [if_true, Bool.true_and]
      have h2 : e.any impl_Env_isRight.bad = !(e.all mB) := any_all _ _ (fun _ => rfl) e
      unfold impl_Env_isRight.f
      rw [h2, Bool.not_not]
      exact Ev.now _
end
theorem FnExactEnvRight : laws_FnExactEnvRight.Pure := by
  intro a b l2 l3 l4 l5 l6 l7 q0 q1 b2 b3 b4 b5 b6 ha _ h2 h3 h4 h5 h6 h7 g0 g1 _ _ _ _ _
  refine Ev.rounds (g := fun k => laws_FnExactEnvRight.f k a b l2 l3 l4 l5 l6 l7 q0 q1 b2 b3 b4 b5 b6) ?_
  simp only [laws_FnExactEnvRight.f]
  obtain ⟨p, hp⟩ : ∃ p : PL, p = ⟨a, b, l2, l3, l4, l5, l6, l7⟩ := ⟨_, rfl⟩
  have hok : p.ok := by
    subst hp
    exact ⟨ha, h2, h3, ⟨h4.1, fun x hx => (h4.2 x hx).1⟩, ⟨h5.1, fun x hx => ⟨(h5.2 x hx).2.1, (h5.2 x hx).2.2.1⟩⟩, ⟨h6.1, fun x hx => ⟨(h6.2 x hx).2.1, (h6.2 x hx).2.2.1⟩⟩, ⟨h7.1, fun x hx => ⟨(h7.2 x hx).2.1, (h7.2 x hx).2.2.1⟩⟩⟩
  obtain ⟨u, eu, hu, hu1⟩ := szProd_ev p hok 1048576 (by omega) (by omega)
  have hto := toProd_ev p
  have heq := eqProd_ev p
  have hsm := small_ok p
  subst hp
  refine Ev.bind eu ?_
  by_cases hu0 : u < 0
  · simp only [if_pos hu0]; exact Ev.now _
  · have hs := hu (by omega)
    simp only [if_neg hu0]
    obtain ⟨t, et, ht⟩ := szEnv_is q0 q1 b2 b3 b4 b5 b6 u g0.1 g1.1 (by omega) (by omega)
    refine ev_cbind et ?_
    by_cases hn2 : t < 0
    · simp only [if_pos hn2]; exact Ev.now _
    · simp only [if_neg hn2]
      have hz := ht (by omega)
      have hte := toEnv_ev q0 q1 b2 b3 b4 b5 b6 hz.1 hz.2.1
      refine Ev.bind (hto hs) (Ev.bind hte (Ev.bind (envSpec _ _ _ _ _ _ _ _ (hsm hs) _ _ hz.1 hz.2.1 _ _ _ _ _) (Ev.bind (hto hs) (Ev.bind hte (Ev.bind (envImpl _ _ _ _ _ _ _ _ (hsm hs) _ _ hz.1 _ _ _ _ _) ?_)))))
      simp only [bne_self_eq_false, Bool.false_eq_true, if_false]
      refine Ev.bind (hto hs) (Ev.bind (heq hs) ?_)
      simp only [if_true]
      refine Ev.bind hte (Ev.bind (eqEnv_ev q0 q1 b2 b3 b4 b5 b6 (by omega) (by omega)) ?_)
      simp only [if_true]; exact Ev.now _

end Go.Proofs.YtodokfmmnihecaaGreatDoor.Pure
