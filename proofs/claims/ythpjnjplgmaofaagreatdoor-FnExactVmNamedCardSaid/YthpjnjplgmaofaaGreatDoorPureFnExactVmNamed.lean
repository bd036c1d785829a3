import Derived.Test.YthpjnjplgmaofaaGreatDoorPFnExactVmNamedx5
import Derived.Test.YthpjnjplgmaofaaGreatDoorQLib
import Derived.Test.YthpjnjplgmaofaaGreatDoorQLoops
namespace Go.Proofs.YthpjnjplgmaofaaGreatDoor.Pure
set_option linter.unusedSimpArgs false
set_option linter.unusedVariables false
open Go.RowKit Go.Proofs.YthpjnjplgmaofaaGreatDoor.PFnExactVmNamed Go.Proofs.YthpjnjplgmaofaaGreatDoorW.PrintWords Go.Proofs.YthpjnjplgmaofaaGreatDoorW.PrintLast Go.Proofs.YthpjnjplgmaofaaGreatDoorW.PrintMore
open Go.Proofs.YthpjnjplgmaofaaGreatDoor.Q
theorem eqS_l0 (l : List ByteArray) (hl : l.length ≤ 140737488351232) : ∀ (d i : Nat), l.length - i = d → Ev (fun k => bN.l0 k l l i) true := by
  intro d
  induction d with
  | zero =>
    intro i hd
    refine bF ?_
    simp only [bN.l0, if_neg (eD (show ¬ i < l.length by omega))]; exact Ev.now _
  | succ d ih =>
    intro i hd
    refine bF ?_
    have hi : i < l.length := by omega
    simp only [bN.l0, if_pos (fB hi), if_pos (gD i), if_true, jG hi hl]
    exact ih _ (by omega)
theorem vN (l : List ByteArray) (hl : l.length ≤ 140737488351232) : Ev (fun k => bN.f k l l) true := by
  simp only [bN.f, if_true]; exact eqS_l0 l hl _ 0 rfl
def tot (l : List ByteArray) : Nat := (l.map (·.size)).sum
theorem nS (l : List ByteArray) (i : Nat) (h : i < l.length) : fG ByteArray.empty l (i : Int) = l[i] := by
  unfold fG; rw [Int.toNat_natCast, List.getD_eq_getElem?_getD, List.getElem?_eq_getElem h]; rfl
theorem drop_at {α : Type} (l : List α) (i : Nat) (h : i < l.length) : l.drop i = l[i] :: l.drop (i + 1) := List.drop_eq_getElem_cons h
theorem tot_at (l : List ByteArray) (i : Nat) (h : i < l.length) : tot (l.drop i) = l[i].size + tot (l.drop (i + 1)) := by
  rw [drop_at l i h]; unfold tot; rw [List.map_cons, List.sum_cons]
theorem tot_mem (l : List ByteArray) (x : ByteArray) (h : x ∈ l) : x.size ≤ tot l := by
  induction l with
  | nil => cases h
  | cons y l ih =>
    rcases List.mem_cons.1 h with rfl | h
    · simp [tot]
    · have := ih h; simp only [tot, List.map_cons, List.sum_cons] at this ⊢; omega
theorem szS_l0 (l : List ByteArray) (hl : l.length ≤ 140737488351232) (hx : ∀ x ∈ l, x.size ≤ maxLen) : ∀ (d i : Nat) (left : Int), l.length - i = d → 0 ≤ left → left ≤ 1048576 →
    ∃ t, Ev (fun k => bL.l0 k l left i) t ∧ (0 ≤ t → t + (tot (l.drop i) : Int) ≤ left) ∧ t ≤ left := by
  intro d
  induction d with
  | zero =>
    intro i left hd h0 h1
    refine ⟨left, bF ?_, fun _ => ?_, Int.le_refl _⟩
    · simp only [bL.l0, if_neg (eD (show ¬ i < l.length by omega))]; exact Ev.now _
    · rw [List.drop_eq_nil_of_le (by omega)]; simp [tot]
  | succ d ih =>
    intro i left hd h0 h1
    have hi : i < l.length := by omega
    have hs := hx _ (List.getElem_mem hi)
    unfold maxLen at hs
    have hw : wrap64 (left - (l[i].size : Int)) = left - (l[i].size : Int) := w64 (by omega) (by omega)
    by_cases hn : left - (l[i].size : Int) < 0
    · refine ⟨-1, bF ?_, fun h => absurd h (by decide), by omega⟩
      simp only [bL.l0, if_pos (fB hi), if_pos (gD i), nS l i hi, hw, if_pos hn]; exact Ev.now _
    · obtain ⟨t, e, h2, h3⟩ := ih (i + 1) (left - l[i].size) (by omega) (by omega) (by omega)
      refine ⟨t, bF ?_, fun h => ?_, by omega⟩
      · simp only [bL.l0, if_pos (fB hi), if_pos (gD i), nS l i hi, hw, if_neg hn, jG hi hl]; exact e
      · have := h2 h; rw [tot_at l i hi]; omega
theorem uA (l : List ByteArray) (hm : l.length ≤ maxLen) (hx : ∀ x ∈ l, x.size ≤ maxLen) (left : Int) (h0 : 0 ≤ left) (h1 : left ≤ 1048576) :
    ∃ t, Ev (fun k => bL.f k l left) t ∧ (0 ≤ t → t + (l.length : Int) + (tot l : Int) ≤ left) := by
  unfold maxLen at hm
  have hw : wrap64 (left - (l.length : Int)) = left - (l.length : Int) := w64 (by omega) (by omega)
  by_cases hn : left - (l.length : Int) < 0
  · refine ⟨-1, ?_, fun h => absurd h (by decide)⟩
    simp only [bL.f, hw, if_pos hn]; exact Ev.now _
  · obtain ⟨t, e, h2, _⟩ := szS_l0 l (by omega) hx l.length 0 (left - l.length) (by omega) (by omega) (by omega)
    refine ⟨t, ?_, fun h => ?_⟩
    · simp only [bL.f, hw, if_neg hn]; exact e
    · have := h2 h; rw [List.drop_zero] at this; omega
theorem toS_l0 (l : List ByteArray) (hl : l.length ≤ 17592186044416) : ∀ (d i : Nat) (x : List ByteArray), l.length - i = d → i ≤ l.length → x.length = l.length → x.take i = l.take i → Ev (fun k => bV.l0 k l x i) l := by
  intro d
  induction d with
  | zero =>
    intro i x hd hi hx h
    refine bF ?_
    have e : x = l := by rw [← List.take_of_length_le (l := x) (i := i) (by omega), h, List.take_of_length_le (by omega)]
    simp only [bV.l0, if_neg (eD (show ¬ i < l.length by omega)), e]; exact Ev.now _
  | succ d ih =>
    intro i x hd hi hx h
    have hi : i < l.length := by omega
    refine bF ?_
    simp only [bV.l0, if_pos (fB hi), if_pos (gD i), if_pos (fB (show i < x.length by omega)), nS l i hi, jG hi (by omega), Int.toNat_natCast]
    refine ih (i + 1) (x.set i l[i]) (by omega) (by omega) (by rw [List.length_set]; exact hx) ?_
    rw [List.take_succ_eq_append_getElem (by rw [List.length_set]; omega), List.take_succ_eq_append_getElem hi, List.getElem_set_self, List.take_set_of_le (Nat.le_refl _), h]
theorem ut (l : List ByteArray) (hl : l.length ≤ 17592186044416) : Ev (fun k => bV.f k l) l := by
  simp only [bV.f, if_pos (gD l.length), Int.toNat_natCast, if_pos hl]
  exact toS_l0 l hl l.length 0 _ rfl (by omega) (by rw [List.length_replicate]) rfl
theorem rdN (l : List S88) (i : Nat) (h : i < l.length) : av l (i : Int) = l[i] := by
  unfold av; rw [Int.toNat_natCast, List.getD_eq_getElem?_getD, List.getElem?_eq_getElem h]; rfl
theorem rdNl (l : List S81) (i : Nat) (h : i < l.length) : iA l (i : Int) = l[i] := by
  unfold iA; rw [Int.toNat_natCast, List.getD_eq_getElem?_getD, List.getElem?_eq_getElem h]; rfl
def cN (x : S81) : S88 := ⟨x.f0, x.f1, x.f2, x.f3, x.f4⟩
theorem qL (l : List S81) (hm : l.length ≤ maxLen) (hx : ∀ x ∈ l, x.f1.size ≤ maxLen ∧ x.f2.size ≤ maxLen) (left : Int) (h0 : 0 ≤ left) (h1 : left ≤ 1048576) :
    ∃ t, Ev (fun k => bX.f k l left) t ∧ (0 ≤ t → t + (l.length : Int) ≤ left ∧ ∀ x ∈ l, x.f1.size + x.f2.size ≤ 1048576) ∧ t ≤ left := by
  unfold maxLen at hm
  have hw : wrap64 (left - (l.length : Int)) = left - (l.length : Int) := w64 (by omega) (by omega)
  by_cases hn : left - (l.length : Int) < 0
  · refine ⟨-1, ?_, fun h => absurd h (by decide), by omega⟩
    simp only [bX.f, hw, if_pos hn]; exact Ev.now _
  · obtain ⟨t, e, h2, h3⟩ := sz_ev (fun x : S81 => x.f1.size + x.f2.size) bX.l0 l (by omega)
      (fun k i v hi a b c => by
        have hs := hx _ (List.getElem_mem hi)
        unfold maxLen at hs
        have w1 : wrap64 (v - (l[i].f1.size : Int)) = v - (l[i].f1.size : Int) := w64 (by omega) (by omega)
        have w2 : wrap64 (v - (l[i].f1.size : Int) - (l[i].f2.size : Int)) = v - (l[i].f1.size : Int) - (l[i].f2.size : Int) := w64 (by omega) (by omega)
        simp only [bX.l0, if_pos (fB hi), if_pos (gD i), rdNl l i hi, gI.f, w1, w2, if_neg (show ¬ v - (l[i].f1.size : Int) < 0 by omega), if_neg (show ¬ v - (l[i].f1.size : Int) - (l[i].f2.size : Int) < 0 by omega), Option.bind_some, jr hi (show l.length ≤ 140737488351232 by omega)]
        rw [show v - ((l[i].f1.size + l[i].f2.size : Nat) : Int) = v - (l[i].f1.size : Int) - (l[i].f2.size : Int) by omega])
      (fun k i v hi a b c => by
        have hs := hx _ (List.getElem_mem hi)
        unfold maxLen at hs
        have w1 : wrap64 (v - (l[i].f1.size : Int)) = v - (l[i].f1.size : Int) := w64 (by omega) (by omega)
        by_cases q : v - (l[i].f1.size : Int) < 0
        · simp only [bX.l0, if_pos (fB hi), if_pos (gD i), rdNl l i hi, gI.f, w1, if_pos q, Option.bind_some]; rfl
        · have w2 : wrap64 (v - (l[i].f1.size : Int) - (l[i].f2.size : Int)) = v - (l[i].f1.size : Int) - (l[i].f2.size : Int) := w64 (by omega) (by omega)
          simp only [bX.l0, if_pos (fB hi), if_pos (gD i), rdNl l i hi, gI.f, w1, w2, if_neg q, if_pos (show v - (l[i].f1.size : Int) - (l[i].f2.size : Int) < 0 by omega), Option.bind_some]; rfl)
      (fun k v => by simp only [bX.l0, if_neg (eD (Nat.lt_irrefl _))]) (left - l.length) (by omega) (by omega)
    refine ⟨t, ?_, fun h => ?_, by omega⟩
    · simp only [bX.f, hw, if_neg hn]; exact e
    · have q := h2 h
      refine ⟨by omega, fun x hx => ?_⟩
      have hm : x.f1.size + x.f2.size ≤ (l.map fun x : S81 => x.f1.size + x.f2.size).sum := by
        clear q h2 h3 e hn hw
        induction l with
        | nil => cases hx
        | cons y l ih =>
          rw [List.map_cons, List.sum_cons]
          rcases List.mem_cons.1 hx with z | z
          · subst z; omega
          · have := ih (by simp at hm; omega) (fun x hx' => by rename_i hxs; exact hxs x (List.mem_cons_of_mem _ hx')) z; omega
      omega
theorem qK (l : List S81) (hl : l.length ≤ 1048576) : Ev (fun k => cO.f k l) (l.map cN) := by
  simp only [cO.f, if_pos (gD l.length), Int.toNat_natCast, if_pos (show l.length ≤ 5026338869833 by omega)]
  refine qX cN cO.l0 1048576 (fun k x y i hB hx hy => ?_) (fun k x y => by simp only [cO.l0, if_neg (eD (Nat.lt_irrefl _))]) l _ (List.length_replicate) hl
  simp only [cO.l0, if_pos (fB hx), if_pos (gD i), iV.f, Option.bind_some, if_pos (fB hy), rdNl x i hx, jr hx (show x.length ≤ 140737488351232 by omega), Int.toNat_natCast]; rfl
theorem ry (l : List S88) (hl : l.length ≤ 140737488351232) : Ev (fun k => bA.f k l l) true := by
  simp only [bA.f, if_true]
  exact pE true (fun k l => bA.l0 k l l) l (fun k i hi => by simp only [bA.l0, if_pos (fB hi), if_pos (gD i), iC.f, if_true, Option.bind_some, jr hi hl]) (fun k => by simp only [bA.l0, if_neg (eD (Nat.lt_irrefl _))])
theorem rdPm (l : List S83) (i : Nat) (h : i < l.length) : aX l (i : Int) = l[i] := by
  unfold aX; rw [Int.toNat_natCast, List.getD_eq_getElem?_getD, List.getElem?_eq_getElem h]; rfl
theorem uJ (l : List S78) (i : Nat) (h : i < l.length) : iZ l (i : Int) = l[i] := by
  unfold iZ; rw [Int.toNat_natCast, List.getD_eq_getElem?_getD, List.getElem?_eq_getElem h]; rfl
def cP (x : S78) : S83 := ⟨x.f0, x.f1, x.f2, x.f3⟩
theorem szPm_ev (l : List S78) (hm : l.length ≤ maxLen) (hx : ∀ x ∈ l, x.f0.size ≤ maxLen) (left : Int) (h0 : 0 ≤ left) (h1 : left ≤ 1048576) :
    ∃ t, Ev (fun k => cu.f k l left) t ∧ (0 ≤ t → t + (l.length : Int) ≤ left ∧ ∀ x ∈ l, x.f0.size ≤ 1048576) ∧ t ≤ left := by
  unfold maxLen at hm
  have hw : wrap64 (left - (l.length : Int)) = left - (l.length : Int) := w64 (by omega) (by omega)
  by_cases hn : left - (l.length : Int) < 0
  · refine ⟨-1, ?_, fun h => absurd h (by decide), by omega⟩
    simp only [cu.f, hw, if_pos hn]; exact Ev.now _
  · obtain ⟨t, e, h2, h3⟩ := sz_ev (fun x : S78 => x.f0.size) cu.l0 l (by omega)
      (fun k i v hi a b c => by
        have hs := hx _ (List.getElem_mem hi)
        unfold maxLen at hs
        have w1 : wrap64 (v - (l[i].f0.size : Int)) = v - (l[i].f0.size : Int) := w64 (by omega) (by omega)
        simp only [cu.l0, if_pos (fB hi), if_pos (gD i), uJ l i hi, gH.f, w1, if_neg (show ¬ v - (l[i].f0.size : Int) < 0 by omega), Option.bind_some, jr hi (show l.length ≤ 140737488351232 by omega)])
      (fun k i v hi a b c => by
        have hs := hx _ (List.getElem_mem hi)
        unfold maxLen at hs
        have w1 : wrap64 (v - (l[i].f0.size : Int)) = v - (l[i].f0.size : Int) := w64 (by omega) (by omega)
        simp only [cu.l0, if_pos (fB hi), if_pos (gD i), uJ l i hi, gH.f, w1, if_pos c, Option.bind_some]; rfl)
      (fun k v => by simp only [cu.l0, if_neg (eD (Nat.lt_irrefl _))]) (left - l.length) (by omega) (by omega)
    refine ⟨t, ?_, fun h => ?_, by omega⟩
    · simp only [cu.f, hw, if_neg hn]; exact e
    · have q := h2 h
      refine ⟨by omega, fun z hz => ?_⟩
      have hq : ∀ (m : List S78), ∀ z ∈ m, z.f0.size ≤ (m.map fun x : S78 => x.f0.size).sum := by
        intro m
        induction m with
        | nil => intro z hz; cases hz
        | cons y m ih =>
          intro z hz
          rw [List.map_cons, List.sum_cons]
          rcases List.mem_cons.1 hz with c | c
          · subst c; omega
          · have := ih z c; omega
      have := hq l z hz
      omega
theorem toPm_ev (l : List S78) (hl : l.length ≤ 1048576) : Ev (fun k => di.f k l) (l.map cP) := by
  simp only [di.f, if_pos (gD l.length), Int.toNat_natCast, if_pos (show l.length ≤ 7036874417766 by omega)]
  refine qX cP di.l0 1048576 (fun k x y i hB hx hy => ?_) (fun k x y => by simp only [di.l0, if_neg (eD (Nat.lt_irrefl _))]) l _ (List.length_replicate) hl
  simp only [di.l0, if_pos (fB hx), if_pos (gD i), iG.f, Option.bind_some, if_pos (fB hy), uJ x i hx, jr hx (show x.length ≤ 140737488351232 by omega), Int.toNat_natCast]; rfl
theorem eqPm_ev (l : List S83) (hl : l.length ≤ 140737488351232) : Ev (fun k => bD.f k l l) true := by
  simp only [bD.f, if_true]
  exact pE true (fun k l => bD.l0 k l l) l (fun k i hi => by simp only [bD.l0, if_pos (fB hi), if_pos (gD i), gY.f, if_true, Option.bind_some, jr hi hl]) (fun k => by simp only [bD.l0, if_neg (eD (Nat.lt_irrefl _))])
structure PL where
  a : ByteArray
  b : Int
  l2 : List ByteArray
  l3 : List ByteArray
  l4 : List S78
  l5 : List S81
  l6 : List S81
  l7 : List S81
/-- What is known of a product that comes in. -/
structure PL.ok (p : PL) : Prop where
  ha : p.a.size ≤ maxLen
  h2 : p.l2.length ≤ maxLen ∧ ∀ x ∈ p.l2, x.size ≤ maxLen
  h3 : p.l3.length ≤ maxLen ∧ ∀ x ∈ p.l3, x.size ≤ maxLen
  h4 : p.l4.length ≤ maxLen ∧ ∀ x ∈ p.l4, x.f0.size ≤ maxLen
  h5 : p.l5.length ≤ maxLen ∧ ∀ x ∈ p.l5, x.f1.size ≤ maxLen ∧ x.f2.size ≤ maxLen
  h6 : p.l6.length ≤ maxLen ∧ ∀ x ∈ p.l6, x.f1.size ≤ maxLen ∧ x.f2.size ≤ maxLen
  h7 : p.l7.length ≤ maxLen ∧ ∀ x ∈ p.l7, x.f1.size ≤ maxLen ∧ x.f2.size ≤ maxLen
structure PL.small (p : PL) : Prop where
  h2 : p.l2.length ≤ 1048576
  h3 : p.l3.length ≤ 1048576
  h4 : p.l4.length ≤ 1048576
  h5 : p.l5.length ≤ 1048576
  h6 : p.l6.length ≤ 1048576
  h7 : p.l7.length ≤ 1048576
  sa : p.a.size ≤ 1048576
  s2 : ∀ x ∈ p.l2, x.size ≤ 1048576
  s3 : ∀ x ∈ p.l3, x.size ≤ 1048576
  s4 : ∀ x ∈ p.l4, x.f0.size ≤ 1048576
  s5 : ∀ x ∈ p.l5, x.f1.size + x.f2.size ≤ 1048576
  s6 : ∀ x ∈ p.l6, x.f1.size + x.f2.size ≤ 1048576
  s7 : ∀ x ∈ p.l7, x.f1.size + x.f2.size ≤ 1048576
theorem rR (l : List ByteArray) : ∀ x ∈ l, x.size ≤ tot l := by
  induction l with
  | nil => intro x hx; cases hx
  | cons y l ih =>
    intro x hx
    have e : tot (y :: l) = y.size + tot l := by simp [tot]
    rw [e]
    rcases List.mem_cons.1 hx with z | z
    · subst z; omega
    · have := ih x z; omega
theorem sZ (p : PL) (h : p.ok) (left : Int) (q0 : 0 ≤ left) (q1 : left ≤ 1048576) : ∃ t, Ev (fun k => bG.f k p.a p.b p.l2 p.l3 p.l4 p.l5 p.l6 p.l7 left) t ∧ (0 ≤ t → p.small) ∧ t ≤ left := by
  have ha := h.ha
  unfold maxLen at ha
  have hw : wrap64 (left - (p.a.size : Int)) = left - (p.a.size : Int) := w64 (by omega) (by omega)
  have fin : ∀ t : Int, t = -1 → (0 ≤ t → p.small) ∧ t ≤ left := fun t ht => ⟨fun h => by omega, by omega⟩
  have now1 : Ev (fun _ => some (-1 : Int)) (-1) := Ev.now _
  by_cases hn : left - (p.a.size : Int) < 0
  · refine ⟨-1, ?_, fin _ rfl⟩
    simp only [bG.f, hw, if_pos hn]; exact now1
  simp only [bG.f, hw, if_neg hn]
  obtain ⟨t2, e2, a2⟩ := uA p.l2 h.h2.1 h.h2.2 _ (show 0 ≤ left - (p.a.size : Int) by omega) (by omega)
  by_cases n2 : t2 < 0
  · exact ⟨-1, Ev.bind e2 (by simp only [if_pos n2]; exact now1), fin _ rfl⟩
  have a2' := a2 (by omega)
  obtain ⟨t3, e3, a3⟩ := uA p.l3 h.h3.1 h.h3.2 t2 (by omega) (by omega)
  by_cases n3 : t3 < 0
  · exact ⟨-1, Ev.bind e2 (by simp only [if_neg n2]; exact Ev.bind e3 (by simp only [if_pos n3]; exact now1)), fin _ rfl⟩
  have a3' := a3 (by omega)
  obtain ⟨t4, e4, a4, b4⟩ := szPm_ev p.l4 h.h4.1 h.h4.2 t3 (by omega) (by omega)
  by_cases n4 : t4 < 0
  · exact ⟨-1, Ev.bind e2 (by simp only [if_neg n2]; exact Ev.bind e3 (by simp only [if_neg n3]; exact Ev.bind e4 (by simp only [if_pos n4]; exact now1))), fin _ rfl⟩
  obtain ⟨a4', s4⟩ := a4 (by omega)
  obtain ⟨t5, e5, a5, b5⟩ := qL p.l5 h.h5.1 h.h5.2 t4 (by omega) (by omega)
  by_cases n5 : t5 < 0
  · exact ⟨-1, Ev.bind e2 (by simp only [if_neg n2]; exact Ev.bind e3 (by simp only [if_neg n3]; exact Ev.bind e4 (by simp only [if_neg n4]; exact Ev.bind e5 (by simp only [if_pos n5]; exact now1)))), fin _ rfl⟩
  obtain ⟨a5', s5⟩ := a5 (by omega)
  obtain ⟨t6, e6, a6, b6⟩ := qL p.l6 h.h6.1 h.h6.2 t5 (by omega) (by omega)
  by_cases n6 : t6 < 0
  · exact ⟨-1, Ev.bind e2 (by simp only [if_neg n2]; exact Ev.bind e3 (by simp only [if_neg n3]; exact Ev.bind e4 (by simp only [if_neg n4]; exact Ev.bind e5 (by simp only [if_neg n5]; exact Ev.bind e6 (by simp only [if_pos n6]; exact now1))))), fin _ rfl⟩
  obtain ⟨a6', s6⟩ := a6 (by omega)
  obtain ⟨t7, e7, a7, b7⟩ := qL p.l7 h.h7.1 h.h7.2 t6 (by omega) (by omega)
  by_cases n7 : t7 < 0
  · exact ⟨-1, Ev.bind e2 (by simp only [if_neg n2]; exact Ev.bind e3 (by simp only [if_neg n3]; exact Ev.bind e4 (by simp only [if_neg n4]; exact Ev.bind e5 (by simp only [if_neg n5]; exact Ev.bind e6 (by simp only [if_neg n6]; exact Ev.bind e7 (by simp only [if_pos n7]; exact now1)))))), fin _ rfl⟩
  obtain ⟨a7', s7⟩ := a7 (by omega)
  exact ⟨t7, Ev.bind e2 (by simp only [if_neg n2]; exact Ev.bind e3 (by simp only [if_neg n3]; exact Ev.bind e4 (by simp only [if_neg n4]; exact Ev.bind e5 (by simp only [if_neg n5]; exact Ev.bind e6 (by simp only [if_neg n6]; exact Ev.bind e7 (by simp only [if_neg n7]; exact Ev.now _)))))),
    fun _ => ⟨by omega, by omega, by omega, by omega, by omega, by omega, by omega, fun x hx => by have := rR _ x hx; omega, fun x hx => by have := rR _ x hx; omega, s4, s5, s6, s7⟩, by omega⟩
theorem sW (p : PL) (h : p.small) : Ev (fun k => dE.f k p.a p.b p.l2 p.l3 p.l4 p.l5 p.l6 p.l7) (p.a, p.b, p.l2, p.l3, p.l4.map cP, p.l5.map cN, p.l6.map cN, p.l7.map cN) := by
  simp only [dE.f]
  refine Ev.bind (ut p.l2 (by have := h.h2; omega)) ?_
  refine Ev.bind (ut p.l3 (by have := h.h3; omega)) ?_
  refine Ev.bind (toPm_ev p.l4 h.h4) ?_
  refine Ev.bind (qK p.l5 h.h5) ?_
  refine Ev.bind (qK p.l6 h.h6) ?_
  refine Ev.bind (qK p.l7 h.h7) ?_
  exact Ev.now _
theorem tT (p : PL) (h : p.small) : Ev (fun k => cK.f k p.a p.b p.l2 p.l3 (p.l4.map cP) (p.l5.map cN) (p.l6.map cN) (p.l7.map cN) p.a p.b p.l2 p.l3 (p.l4.map cP) (p.l5.map cN) (p.l6.map cN) (p.l7.map cN)) true := by
  simp only [cK.f, if_true]
  refine Ev.bind (vN p.l2 (by have := h.h2; omega)) ?_
  simp only [if_true]
  refine Ev.bind (vN p.l3 (by have := h.h3; omega)) ?_
  simp only [if_true]
  refine Ev.bind (eqPm_ev _ (by rw [List.length_map]; have := h.h4; omega)) ?_
  simp only [if_true]
  refine Ev.bind (ry _ (by rw [List.length_map]; have := h.h5; omega)) ?_
  simp only [if_true]
  refine Ev.bind (ry _ (by rw [List.length_map]; have := h.h6; omega)) ?_
  simp only [if_true]
  refine Ev.bind (ry _ (by rw [List.length_map]; have := h.h7; omega)) ?_
  simp only [if_true]
  exact Ev.now _
theorem qO (a : Int) : fI.f a = fD.f a := by
  simp only [fD.f, fI.f, dZ.f, ge_iff_le]
  by_cases h1 : (-1000000000000 : Int) ≤ a
  · simp only [if_pos h1, Option.bind_some]
  · simp only [if_neg h1, Option.bind_some]
/-- Is it money? -/
def mr (a : Int) : Bool := decide (-1000000000000 ≤ a ∧ a ≤ 1000000000000)
theorem qc (a : Int) : fD.f a = some (mr a) := by
  simp only [fD.f, ge_iff_le, mr]
  by_cases h1 : (-1000000000000 : Int) ≤ a
  · simp [h1]
  · simp [h1]
def iB (lo hi x : Int) : Bool := decide (lo ≤ x) && decide (x ≤ hi)
theorem kS (x lo hi : Int) : dZ.f x lo hi = some (iB lo hi x) := by
  unfold dZ.f iB
  by_cases h : lo ≤ x
  · rw [if_pos h, decide_eq_true h, Bool.true_and]
  · rw [if_neg h, decide_eq_false h, Bool.false_and]
theorem ll {α : Type} {g : Nat → Option α} {r : α} (c : Nat) (h : ∀ k, g (k + c) = some r) : Ev g r :=
  ⟨c, fun n hn => by obtain ⟨m, rfl⟩ : ∃ m, n = m + c := ⟨n - c, by omega⟩; exact h m⟩
def qY (c : UInt8) : Bool := decide (97 ≤ c.toNat) && decide (c.toNat ≤ 122)
def mY (c : UInt8) : Bool := qY c || (decide (48 ≤ c.toNat) && decide (c.toNat ≤ 57)) || decide (c.toNat = 95)
/-- Is it a name, but for how many bytes it has? -/
def nM : List UInt8 → Bool
  | [] => false
  | c :: r => qY c && r.all mY
theorem pz (s : ByteArray) (i : Nat) (h : i < s.size) : bt s (i : Int) = ((s.data.toList[i]'(by rw [Array.length_toList]; exact h)).toNat : Int) := by
  unfold bt
  rw [Int.toNat_natCast, dif_pos h]
  rfl
theorem uF (a : ByteArray) (hs : a.size ≤ 140737488351232) : ∀ (d i : Nat), a.size - i = d → 1 ≤ i → Ev (fun k => aU.l0 k a (i : Int)) ((a.data.toList.drop i).all mY) := by
  have hlen : a.data.toList.length = a.size := by rw [Array.length_toList]; rfl
  intro d
  induction d with
  | zero =>
    intro i hd hi
    refine bF ?_
    rw [List.drop_eq_nil_of_le (by omega)]
    simp only [aU.l0, if_neg (eD (show ¬ i < a.size by omega))]
    exact Ev.now _
  | succ d ih =>
    intro i hd hi
    have hlt : i < a.size := by omega
    refine bF ?_
    have hz : ¬ (i : Int) = 0 := by omega
    have e := ih (i + 1) (by omega) (by omega)
    simp only [aU.l0, if_pos (fB hlt), if_pos (gD i), if_neg hz, jG hlt hs, pz a i hlt]
    rw [List.drop_eq_getElem_cons (show i < a.data.toList.length by omega), List.all_cons]
    generalize hc : a.data.toList[i]'(by omega) = c
    rw [show mY c = (decide (97 ≤ c.toNat) && decide (c.toNat ≤ 122) || decide (48 ≤ c.toNat) && decide (c.toNat ≤ 57) || decide (c.toNat = 95)) from rfl]
    by_cases h1 : ((c.toNat : Int) ≥ 97)
    · refine aV h1 ?_
      by_cases h2 : ((c.toNat : Int) ≤ 122)
      · refine aV h2 ?_
        rw [decide_eq_true (show 97 ≤ c.toNat by omega), decide_eq_true (show c.toNat ≤ 122 by omega)]
        simpa using e
      · refine bS h2 ?_
        rw [decide_eq_false (show ¬ c.toNat ≤ 122 by omega), decide_eq_false (show ¬ c.toNat ≤ 57 by omega), decide_eq_false (show ¬ c.toNat = 95 by omega)]
        refine aV (show (c.toNat : Int) ≥ 48 by omega) (bS (show ¬ (c.toNat : Int) ≤ 57 by omega) (bS (show ¬ (c.toNat : Int) = 95 by omega) ?_))
        simp only [Bool.and_false, Bool.or_false, Bool.false_and]
        exact Ev.now _
    · refine bS h1 ?_
      rw [decide_eq_false (show ¬ 97 ≤ c.toNat by omega)]
      by_cases h3 : ((c.toNat : Int) ≥ 48)
      · refine aV h3 ?_
        by_cases h4 : ((c.toNat : Int) ≤ 57)
        · refine aV h4 ?_
          rw [decide_eq_true (show 48 ≤ c.toNat by omega), decide_eq_true (show c.toNat ≤ 57 by omega)]
          simpa using e
        · refine bS h4 ?_
          by_cases h5 : ((c.toNat : Int) = 95)
          · refine aV h5 ?_
            rw [decide_eq_true (show c.toNat = 95 by omega)]
            simpa using e
          · refine bS h5 ?_
            rw [decide_eq_false (show ¬ c.toNat ≤ 57 by omega), decide_eq_false (show ¬ c.toNat = 95 by omega)]
            simp only [Bool.and_false, Bool.or_false, Bool.false_and]
            exact Ev.now _
      · refine bS h3 (bS (show ¬ (c.toNat : Int) = 95 by omega) ?_)
        rw [decide_eq_false (show ¬ 48 ≤ c.toNat by omega), decide_eq_false (show ¬ c.toNat = 95 by omega)]
        simp only [Bool.and_false, Bool.or_false, Bool.false_and]
        exact Ev.now _
/-- A name. -/
def lV (a : ByteArray) : Bool := decide (a.size ≤ 20) && nM a.data.toList
theorem uG (a : ByteArray) (hs : a.size ≤ 140737488351232) : Ev (fun k => aU.f k a) (lV a) := by
  have hlen : a.data.toList.length = a.size := by rw [Array.length_toList]; rfl
  by_cases h1 : (a.size : Int) < 1
  · simp only [aU.f, if_pos h1]
    refine bF ?_
    simp only [aU.j0, if_true]
    have : a.data.toList = [] := List.eq_nil_of_length_eq_zero (by omega)
    unfold lV
    rw [this]
    simp only [nM, Bool.and_false]
    exact Ev.now _
  · simp only [aU.f, if_neg h1]
    refine bF ?_
    by_cases h2 : (a.size : Int) > 20
    · simp only [decide_eq_true h2, aU.j0, if_true]
      unfold lV
      rw [decide_eq_false (show ¬ a.size ≤ 20 by omega)]
      simp only [Bool.false_and]
      exact Ev.now _
    · simp only [decide_eq_false h2, aU.j0, Bool.false_eq_true, if_false]
      unfold lV
      rw [decide_eq_true (show a.size ≤ 20 by omega), Bool.true_and]
      have hlt : 0 < a.size := by omega
      refine bF ?_
      have e := uF a hs (a.size - 1) 1 (by omega) (by omega)
      have hb := pz a 0 hlt
      have hw := jG hlt hs
      rw [show ((0 : Nat) : Int) = 0 from rfl] at hb hw
      simp only [aU.l0, if_pos (show (0 : Int) < (a.size : Int) by omega), if_pos (show (0 : Int) ≤ 0 by omega), if_true, hw, hb]
      obtain ⟨c, r, hcr⟩ : ∃ c r, a.data.toList = c :: r := by
        cases hq : a.data.toList with
        | nil => rw [hq] at hlen; simp at hlen; omega
        | cons c r => exact ⟨c, r, rfl⟩
      have hc0 : a.data.toList[0]'(by omega) = c := by simp [hcr]
      rw [hc0]
      rw [hcr, List.drop_succ_cons, List.drop_zero] at e
      rw [hcr]
      simp only [nM, qY]
      by_cases h3 : ((c.toNat : Int) ≥ 97)
      · refine aV h3 ?_
        by_cases h4 : ((c.toNat : Int) ≤ 122)
        · refine aV h4 ?_
          rw [decide_eq_true (show 97 ≤ c.toNat by omega), decide_eq_true (show c.toNat ≤ 122 by omega)]
          simpa using e
        · refine bS h4 ?_
          rw [decide_eq_false (show ¬ c.toNat ≤ 122 by omega)]
          simp only [Bool.and_false, Bool.false_and]
          exact Ev.now _
      · refine bS h3 ?_
        rw [decide_eq_false (show ¬ 97 ≤ c.toNat by omega)]
        simp only [Bool.false_and]
        exact Ev.now _
theorem lw {α : Type} (p : α → Bool) : ∀ l : List α, l.dropWhile p = [] ↔ l.all p = true
  | [] => by simp
  | a :: l => by
    rw [List.dropWhile_cons, List.all_cons]
    cases h : p a with
    | true => simpa using lw p l
    | false => simp
theorem pW (l cs : List UInt8) : Lib.trimS l cs = [] ↔ l.all (cs.contains ·) = true := by
  unfold Lib.trimS Lib.trimLeftS Lib.trimRightS
  rw [lw, List.all_reverse]
  constructor
  · intro h
    have e := List.takeWhile_append_dropWhile (p := (cs.contains ·)) (l := l.reverse)
    rw [← List.all_reverse, ← e, List.all_append, h, Bool.and_true]
    exact List.all_takeWhile
  · intro h
    rw [List.all_eq_true] at h ⊢
    intro x hx
    exact h x (List.mem_reverse.1 ((List.dropWhile_sublist _).mem hx))
theorem low_cs : ∀ n : Fin 256, ([97, 98, 99, 100, 101, 102, 103, 104, 105, 106, 107, 108, 109, 110, 111, 112, 113, 114, 115, 116, 117, 118, 119, 120, 121, 122] : List UInt8).contains (UInt8.ofNat n.val) = qY (UInt8.ofNat n.val) := by decide +kernel
theorem tail_cs : ∀ n : Fin 256, ([97, 98, 99, 100, 101, 102, 103, 104, 105, 106, 107, 108, 109, 110, 111, 112, 113, 114, 115, 116, 117, 118, 119, 120, 121, 122, 48, 49, 50, 51, 52, 53, 54, 55, 56, 57, 95] : List UInt8).contains (UInt8.ofNat n.val) = mY (UInt8.ofNat n.val) := by decide +kernel
theorem low_c (c : UInt8) : ([97, 98, 99, 100, 101, 102, 103, 104, 105, 106, 107, 108, 109, 110, 111, 112, 113, 114, 115, 116, 117, 118, 119, 120, 121, 122] : List UInt8).contains c = qY c := by
  have := low_cs ⟨c.toNat, c.toNat_lt⟩
  simpa using this
theorem tail_c (c : UInt8) : ([97, 98, 99, 100, 101, 102, 103, 104, 105, 106, 107, 108, 109, 110, 111, 112, 113, 114, 115, 116, 117, 118, 119, 120, 121, 122, 48, 49, 50, 51, 52, 53, 54, 55, 56, 57, 95] : List UInt8).contains c = mY c := by
  have := tail_cs ⟨c.toNat, c.toNat_lt⟩
  simpa using this
theorem uh {l : List UInt8} {p q : UInt8 → Bool} (h : ∀ c, p c = q c) : l.all p = l.all q := by
  rw [show p = q from funext h]
theorem mq (l : List UInt8) : ((⟨l.toArray⟩ : ByteArray).toList = ([] : List UInt8)) ↔ l = [] := by rw [Lib.toList_data]
theorem vI (a : ByteArray) (hs : a.size ≤ 140737488351232) : iD.f a = some (nM a.data.toList) := by
  have hlen : a.data.toList.length = a.size := by rw [Array.length_toList]; rfl
  unfold iD.f
  rw [Lib.toList_data]
  cases hq : a.data.toList with
  | nil => rw [if_pos rfl]; rfl
  | cons c r =>
    have hsz : 1 ≤ a.size := by rw [← hlen, hq]; simp
    rw [if_neg (by simp), if_pos (by decide), if_pos (by omega)]
    have e1 : (a.extract 0 1).data.toList = [c] := by
      rw [Lib.extract_data, hq]; rfl
    have se : (a.extract 0 1).size ≤ 9223372036854775807 := by
      have : (a.extract 0 1).data.toList.length = (a.extract 0 1).size := by rw [Array.length_toList]; rfl
      rw [← this, e1]; simp
    unfold gp.f
    rw [if_pos ⟨se, by decide +kernel, by decide +kernel⟩, Option.bind_some, e1]
    have t1 : (Lib.trimS [c] ([97, 98, 99, 100, 101, 102, 103, 104, 105, 106, 107, 108, 109, 110, 111, 112, 113, 114, 115, 116, 117, 118, 119, 120, 121, 122] : List UInt8) = []) ↔ qY c = true := by
      rw [pW, List.all_cons, low_c]; simp
    have t2 : (Lib.trimS (c :: r) ([97, 98, 99, 100, 101, 102, 103, 104, 105, 106, 107, 108, 109, 110, 111, 112, 113, 114, 115, 116, 117, 118, 119, 120, 121, 122, 48, 49, 50, 51, 52, 53, 54, 55, 56, 57, 95] : List UInt8) = []) ↔ (c :: r).all mY = true := by
      rw [pW, uh tail_c]
    by_cases h1 : qY c = true
    · rw [if_pos ((mq _).2 (t1.2 h1)), if_pos ⟨by omega, by decide +kernel, by decide +kernel⟩, Option.bind_some, hq]
      have hw : nM (c :: r) = (c :: r).all mY := by
        simp only [nM, List.all_cons, h1, Bool.true_and]
        simp [mY, h1]
      rw [hw]
      congr 1
      rw [Bool.eq_iff_iff, beq_iff_eq, mq]
      exact t2
    · rw [if_neg (fun h => h1 (t1.1 ((mq _).1 h)))]
      simp only [nM, Bool.not_eq_true] at h1 ⊢
      rw [h1]; rfl
theorem vJ (a : ByteArray) (hs : a.size ≤ 140737488351232) : fP.f a = some (lV a) := by
  unfold fP.f lV
  by_cases h : (a.size : Int) ≤ 20
  · rw [if_pos h, vI a hs, Option.bind_some, decide_eq_true (show a.size ≤ 20 by omega), Bool.true_and]
  · rw [if_neg h, decide_eq_false (show ¬ a.size ≤ 20 by omega), Bool.false_and]
theorem c_nil (c : UInt8) (x : List UInt8) : Lib.contains [] (c :: x) = false := rfl
theorem pu (b : UInt8) (l sub : List UInt8) : Lib.contains (b :: l) sub = (sub.isPrefixOf (b :: l) || Lib.contains l sub) := by
  have hg := Lib.index_ge l sub
  unfold Lib.contains
  rw [Lib.index]
  by_cases h : sub.isPrefixOf (b :: l) = true
  · simp [h]
  · rw [Bool.not_eq_true] at h
    rw [h]
    by_cases h2 : Lib.index l sub = -1
    · simp [h2]
    · have h3 : (Lib.index l sub == -1) = false := beq_eq_false_iff_ne.mpr h2
      simp only [h3, Bool.false_eq_true, if_false, Bool.false_or]
      apply decide_eq_decide.2
      omega
theorem c_one (s : List UInt8) (c : UInt8) : Lib.contains s [c] = decide (c ∈ s) := by
  induction s with
  | nil => rfl
  | cons b l ih =>
    rw [pu, ih]
    by_cases h : c = b
    · subst h; simp [List.isPrefixOf]
    · have h' : (c == b) = false := beq_eq_false_iff_ne.mpr h
      simp [List.isPrefixOf, h', h]
theorem c_skip (v t x : List UInt8) (hv : (32 : UInt8) ∉ v) : Lib.contains (v ++ t) (32 :: x) = Lib.contains t (32 :: x) := by
  induction v with
  | nil => rfl
  | cons b v ih =>
    have hb : ((32 : UInt8) == b) = false := beq_eq_false_iff_ne.mpr (fun e => hv (by rw [e]; exact List.mem_cons_self))
    rw [List.cons_append, pu, ih (fun h => hv (List.mem_cons_of_mem _ h))]
    simp [List.isPrefixOf, hb]
theorem c_pre : ∀ (w v t : List UInt8), (32 : UInt8) ∉ w → (32 : UInt8) ∉ v → (w ++ [32]).isPrefixOf (v ++ 32 :: t) = decide (w = v)
  | [], [], t, _, _ => by simp [List.isPrefixOf]
  | [], b :: v, t, _, hv => by
    have hb : ((32 : UInt8) == b) = false := beq_eq_false_iff_ne.mpr (fun e => hv (by rw [e]; exact List.mem_cons_self))
    simp [List.isPrefixOf, hb]
  | a :: w, [], t, hw, _ => by
    have hb : (a == (32 : UInt8)) = false := beq_eq_false_iff_ne.mpr (fun e => hw (by rw [← e]; exact List.mem_cons_self))
    simp [List.isPrefixOf, hb]
  | a :: w, b :: v, t, hw, hv => by
    have ih := c_pre w v t (fun h => hw (List.mem_cons_of_mem _ h)) (fun h => hv (List.mem_cons_of_mem _ h))
    rw [List.cons_append, List.cons_append]
    simp only [List.isPrefixOf, ih, List.cons.injEq]
    by_cases e : a = b
    · subst e; simp
    · have hb : (a == b) = false := beq_eq_false_iff_ne.mpr e
      simp [hb, e]
/-- Words, each with a blank behind it. -/
def oO (ws : List (List UInt8)) : List UInt8 := ws.flatMap fun v => v ++ [32]
theorem vQ (w : List UInt8) (hw : (32 : UInt8) ∉ w) : ∀ (ws : List (List UInt8)), (∀ v ∈ ws, (32 : UInt8) ∉ v) → Lib.contains (32 :: oO ws) (32 :: (w ++ [32])) = decide (w ∈ ws)
  | [], _ => by
    rw [pu]
    cases w <;> rfl
  | v :: r, h => by
    have ih := vQ w hw r (fun x hx => h x (List.mem_cons_of_mem _ hx))
    have e : oO (v :: r) = v ++ 32 :: oO r := by simp [oO]
    rw [e, pu, c_skip _ _ _ (h v List.mem_cons_self), ih]
    have e2 : (32 :: (w ++ [32])).isPrefixOf (32 :: (v ++ 32 :: oO r)) = decide (w = v) := by
      rw [← c_pre w v (oO r) hw (h v List.mem_cons_self)]
      simp [List.isPrefixOf]
    rw [e2]
    by_cases q : w = v
    · simp [q]
    · simp [q]
def oZ : List ByteArray := gK.f.getD []
def lD : List (List UInt8) := oZ.map fun x => x.data.toList
theorem uj : gK.f = some oZ := rfl
theorem mX : ∀ v ∈ lD, (32 : UInt8) ∉ v := by decide +kernel
theorem sQ : ([] : List UInt8) ∉ lD := by decide +kernel
theorem in_l0 (l : List ByteArray) (a : ByteArray) (hl : l.length ≤ 140737488351232) : ∀ (d i : Nat), l.length - i = d → Ev (fun k => bY.l0 k l a (i : Int)) (decide (a.data.toList ∈ (l.drop i).map fun x => x.data.toList)) := by
  intro d
  induction d with
  | zero =>
    intro i hd
    refine bF ?_
    rw [List.drop_eq_nil_of_le (by omega)]
    simp only [bY.l0, if_neg (eD (show ¬ i < l.length by omega))]
    exact Ev.now _
  | succ d ih =>
    intro i hd
    refine bF ?_
    have hi : i < l.length := by omega
    simp only [bY.l0, if_pos (fB hi), if_pos (gD i), nS l i hi, jG hi hl]
    rw [drop_at l i hi, List.map_cons]
    by_cases h : l[i].toList = a.toList
    · refine aV h ?_
      rw [Lib.toList_data, Lib.toList_data] at h
      rw [h, decide_eq_true (List.mem_cons_self)]
      exact Ev.now _
    · refine bS h ?_
      have e := ih (i + 1) (by omega)
      rw [Lib.toList_data, Lib.toList_data] at h
      rw [show decide (a.data.toList ∈ l[i].data.toList :: (l.drop (i + 1)).map fun x => x.data.toList) = decide (a.data.toList ∈ (l.drop (i + 1)).map fun x => x.data.toList) by
        apply decide_eq_decide.2
        rw [List.mem_cons]
        exact ⟨fun q => q.resolve_left (fun q => h q.symm), Or.inr⟩]
      exact e
theorem qM (a : ByteArray) : Ev (fun k => fw.f k a) (decide (a.data.toList ∈ lD)) := by
  simp only [fw.f, uj, Option.bind_some]
  refine Ev.bind (a := decide (a.data.toList ∈ lD)) ?_ (Ev.now _)
  simp only [bY.f]
  exact in_l0 oZ a (by decide +kernel) oZ.length 0 rfl
set_option maxRecDepth 100000 in
theorem implRes (a : ByteArray) (h : a.size ≤ 1048576) : gN.f a = some (decide (a.data.toList ∈ lD)) := by
  unfold gN.f
  rw [Lib.toList_data]
  by_cases h0 : a.data.toList = []
  · rw [if_pos h0, h0, decide_eq_false sQ]
  · rw [if_neg h0]
    have e1 : strings_Contains.f a ⟨#[32]⟩ = some (decide ((32 : UInt8) ∈ a.data.toList)) := by
      unfold strings_Contains.f
      rw [if_pos (by omega), ← c_one]
    rw [e1, Option.bind_some]
    by_cases h1 : (32 : UInt8) ∈ a.data.toList
    · simp only [decide_eq_true h1, if_true]
      rw [decide_eq_false (fun q => mX _ q h1)]
    · simp only [decide_eq_false h1, Bool.false_eq_true, if_false]
      have hs : ((⟨#[32]⟩ : ByteArray) ++ a).size = 1 + a.size := by rw [ByteArray.size_append]; rfl
      rw [if_pos (by omega), if_pos (by omega)]
      unfold strings_Contains.f
      have ed : (((⟨#[32]⟩ : ByteArray) ++ a) ++ (⟨#[32]⟩ : ByteArray)).data.toList = 32 :: (a.data.toList ++ [32]) := by simp
      rw [if_pos (by decide +kernel), ed, Option.bind_some, ← vQ a.data.toList h1 lD mX]
      exact congrArg (fun z => some (Lib.contains z (32 :: (a.data.toList ++ [32])))) (by decide +kernel)
/-- The first place of s in l from i on, -1 if there is none. -/
def nW (l : List ByteArray) (s : ByteArray) (i : Nat) : Int :=
  if i < l.length then (if (fG ByteArray.empty l i).toList = s.toList then (i : Int) else nW l s (i + 1)) else -1
termination_by l.length - i
theorem idxF_range (l : List ByteArray) (s : ByteArray) : ∀ (d i : Nat), l.length - i = d → -1 ≤ nW l s i ∧ nW l s i < l.length := by
  intro d
  induction d with
  | zero => intro i hd; rw [nW, if_neg (by omega)]; omega
  | succ d ih =>
    intro i hd; rw [nW, if_pos (by omega)]; split
    · omega
    · exact ih _ (by omega)
theorem vH (l : List ByteArray) (s : ByteArray) (hl : l.length ≤ 140737488351232) : ∀ (d i : Nat), l.length - i = d → Ev (fun k => aN.l0 k l s l.length i) (nW l s i) := by
  intro d
  induction d with
  | zero =>
    intro i hd
    refine bF ?_
    rw [nW, if_neg (by omega)]
    simp only [aN.l0, if_neg (eD (show ¬ i < l.length by omega))]
    exact Ev.now _
  | succ d ih =>
    intro i hd
    refine bF ?_
    have hi : i < l.length := by omega
    rw [nW, if_pos hi]
    simp only [aN.l0, if_pos (fB hi), if_pos (gD i), jG hi hl]
    by_cases h : (fG ByteArray.empty l i).toList = s.toList
    · simp only [if_pos h, if_pos h.symm]; exact Ev.now _
    · simp only [if_neg h, if_neg (Ne.symm h)]; exact ih _ (by omega)
theorem ev_up {α : Type} {g : Nat → Option α} {r : α} (e : Ev g r) : Ev (fun k => g (k + 1)) r := by
  obtain ⟨K, h⟩ := e
  exact ⟨K, fun n hn => h (n + 1) (by omega)⟩
theorem kX (p q : Bool) : (if p = true then some q else some false) = some (p && q) := by cases p <;> rfl
/-- A name that is free. -/
def iq (a : ByteArray) : Bool := lV a && !(decide (a.data.toList ∈ lD))
theorem kE (a : ByteArray) (h : a.size ≤ 1048576) : df.f a = some (iq a) := by
  unfold df.f iq
  rw [vJ a (by omega), Option.bind_some, implRes a h]
  cases lV a <;> rfl
theorem kD (a : ByteArray) (h : a.size ≤ 1048576) : Ev (fun k => bn.f k a) (iq a) := by
  simp only [bn.f]
  refine Ev.bind (uG a (by omega)) ?_
  unfold iq
  cases lV a with
  | false => simp only [Bool.false_eq_true, if_false, Bool.false_and]; exact Ev.now _
  | true => simp only [if_true, Bool.true_and]; exact Ev.bind (qM a) (Ev.now _)
/-- A number in the bounds of its type. -/
def mR (kind n : Int) : Bool := if kind = 1 ∨ kind = 2 then mr n else if kind = 3 then iB 0 1000000 n else if kind = 4 then iB 0 36524 n else if kind = 5 then iB 0 1 n else false
theorem mO (kind n : Int) : ∀ k, bC.f (k + 1) kind n = some (mR kind n) := by
  intro k
  have hr : gW.f n = some (iB 0 1000000 n) := by
    unfold gW.f iB
    by_cases c : n ≥ 0
    · rw [if_pos c, decide_eq_true (show 0 ≤ n by omega), Bool.true_and]
    · rw [if_neg c, decide_eq_false (show ¬ 0 ≤ n by omega), Bool.false_and]
  have hd : gL.f n = some (iB 0 36524 n) := by
    unfold gL.f iB
    by_cases c : n ≥ 0
    · rw [if_pos c, decide_eq_true (show 0 ≤ n by omega), Bool.true_and]
    · rw [if_neg c, decide_eq_false (show ¬ 0 ≤ n by omega), Bool.false_and]
  have h1 : (if n = 0 then some true else some (n == 1)) = some (iB 0 1 n) := by
    unfold iB
    by_cases c : n = 0
    · subst c; rfl
    · rw [if_neg c]; congr 1
      rw [Bool.eq_iff_iff, beq_iff_eq, Bool.and_eq_true, decide_eq_true_eq, decide_eq_true_eq]; omega
  simp only [bC.f, bC.j0, qc, hr, hd, h1, Option.bind_some]
  unfold mR
  by_cases c1 : kind = 1
  · subst c1; simp
  by_cases c2 : kind = 2
  · subst c2; simp
  simp only [if_neg c1, show (kind == 2) = false from beq_eq_false_iff_ne.mpr c2, Bool.false_eq_true, if_false, if_neg (show ¬ (kind = 1 ∨ kind = 2) by omega)]
  by_cases c3 : kind = 3
  · rw [if_pos c3, if_pos c3]
  rw [if_neg c3, if_neg c3]
  by_cases c4 : kind = 4
  · rw [if_pos c4, if_pos c4]
  rw [if_neg c4, if_neg c4]
  by_cases c5 : kind = 5
  · rw [if_pos c5, if_pos c5]
  · rw [if_neg c5, if_neg c5]
theorem mQ (kind n : Int) : ∀ k, bE.f (k + 1) kind n = some (mR kind n) := by
  intro k
  have hm : fI.f n = some (mr n) := by rw [qO, qc]
  have hr : iE.f n = some (iB 0 1000000 n) := by unfold iE.f; rw [kS]; rfl
  have hd : iP.f n = some (iB 0 36524 n) := by unfold iP.f; rw [kS]; rfl
  simp only [bE.f, bE.j0, hm, hr, hd, kS, Option.bind_some]
  unfold mR
  by_cases c1 : kind = 1
  · subst c1; simp
  by_cases c2 : kind = 2
  · subst c2; simp
  simp only [if_neg c1, show (kind == 2) = false from beq_eq_false_iff_ne.mpr c2, Bool.false_eq_true, if_false, if_neg (show ¬ (kind = 1 ∨ kind = 2) by omega)]
  by_cases c3 : kind = 3
  · rw [if_pos c3, if_pos c3]
  rw [if_neg c3, if_neg c3]
  by_cases c4 : kind = 4
  · rw [if_pos c4, if_pos c4]
  rw [if_neg c4, if_neg c4]
  by_cases c5 : kind = 5
  · rw [if_pos c5, if_pos c5]
  · rw [if_neg c5, if_neg c5]
/-- Is a text one of these? -/
def inF (l : List ByteArray) (a : ByteArray) : Bool := decide (a.data.toList ∈ l.map fun x => x.data.toList)
theorem qZ (l : List ByteArray) (a : ByteArray) (hl : l.length ≤ 140737488351232) : Ev (fun k => bY.f k l a) (inF l a) := by
  simp only [bY.f]
  have := in_l0 l a hl l.length 0 rfl
  rwa [List.drop_zero] at this
theorem idx_in (l : List ByteArray) (a : ByteArray) : ∀ (d i : Nat), l.length - i = d → decide (nW l a i ≥ 0) = decide (a.data.toList ∈ (l.drop i).map fun x => x.data.toList) := by
  intro d
  induction d with
  | zero =>
    intro i hd
    rw [nW, if_neg (by omega), List.drop_eq_nil_of_le (by omega)]; simp
  | succ d ih =>
    intro i hd
    have hi : i < l.length := by omega
    rw [nW, if_pos hi, nS l i hi, List.drop_eq_getElem_cons hi, List.map_cons]
    by_cases h : l[i].toList = a.toList
    · rw [if_pos h]
      have h' : a.data.toList = l[i].data.toList := by rw [Lib.toList_data, Lib.toList_data] at h; exact h.symm
      rw [decide_eq_true (show (i : Int) ≥ 0 by omega), decide_eq_true (by rw [h']; exact List.mem_cons_self)]
    · rw [if_neg h, ih (i + 1) (by omega)]
      have h' : ¬ a.data.toList = l[i].data.toList := fun z => h (by rw [Lib.toList_data, Lib.toList_data]; exact z.symm)
      rw [decide_eq_decide]
      constructor
      · intro z; exact List.mem_cons_of_mem _ z
      · intro z
        rcases List.mem_cons.1 z with q | q
        · exact absurd q h'
        · exact q
theorem rf (l : List ByteArray) (a : ByteArray) (hl : l.length ≤ 140737488351232) : Ev (fun k => ay.f k l a) (inF l a) := by
  simp only [ay.f, aN.f]
  refine Ev.bind (vH l a hl l.length 0 rfl) ?_
  have := idx_in l a l.length 0 rfl
  rw [List.drop_zero] at this
  rw [this]; exact Ev.now _
def qV : List ByteArray := fC.f.getD []
def qB : List ByteArray := fu.f.getD []
theorem ops_is : fC.f = some qV := rfl
theorem fns_is : fu.f = some qB := rfl
theorem opSpec (a : ByteArray) : Ev (fun k => eO.f k a) (inF qV a) := by
  simp only [eO.f]
  exact Ev.bind (qZ qV a (by decide +kernel)) (Ev.now _)
theorem vP (a : ByteArray) : Ev (fun k => dO.f k a) (inF qB a) := by
  simp only [dO.f]
  exact Ev.bind (qZ qB a (by decide +kernel)) (Ev.now _)
def emp (a : ByteArray) : Bool := a.toList == []
theorem lJ {α : Type} (a : ByteArray) (x y : α) : (if a.toList = ([] : List UInt8) then x else y) = if emp a = true then x else y := by
  unfold emp
  by_cases h : a.toList = []
  · rw [if_pos h, if_pos (by rw [h]; rfl)]
  · rw [if_neg h, if_neg (by simpa using h)]
/-- What a node has to be, seen by itself. -/
def sh5 (x : S88) : Bool :=
  if x.f0 = 20 ∨ x.f0 = 21 then iq x.f1 && (x.f3 == 0 && x.f4 == 1)
  else if x.f0 = 22 then emp x.f1 && (x.f3 == 0 && x.f4 == 3)
  else if x.f0 = 23 then iq x.f1 && (iq x.f2 && (x.f3 == 0 && x.f4 == 1))
  else if x.f0 = 24 then emp x.f1 && (iB 1 99 x.f3 && x.f4 == 0)
  else if x.f0 = 26 then emp x.f1 && (x.f3 == 0 && x.f4 == 2)
  else if x.f0 = 27 then emp x.f1 && (x.f3 == 0 && iB 0 40 x.f4) else false
def sh4 (x : S88) : Bool := if x.f0 = 13 ∨ x.f0 = 25 then emp x.f1 && (x.f3 == 0 && x.f4 == 1) else if x.f0 = 14 then inF qB x.f1 && (x.f3 == 0 && iB 1 4 x.f4) else sh5 x
def sh3 (x : S88) : Bool := if x.f0 = 8 ∨ x.f0 = 9 ∨ x.f0 = 10 ∨ x.f0 = 11 then emp x.f1 && (x.f3 == 0 && x.f4 == 0) else if x.f0 = 12 then inF qV x.f1 && (x.f3 == 0 && x.f4 == 2) else sh4 x
def sh2 (x : S88) : Bool := if x.f0 = 6 ∨ x.f0 = 7 then iq x.f1 && (x.f3 == 0 && x.f4 == 0) else sh3 x
def sh1 (x : S88) : Bool := if x.f0 = 1 ∨ x.f0 = 2 ∨ x.f0 = 3 ∨ x.f0 = 4 ∨ x.f0 = 5 then emp x.f1 && (x.f4 == 0 && mR x.f0 x.f3) else sh2 x
def jK (x : S88) : Bool := if x.f0 ≠ 23 ∧ emp x.f2 = false then false else sh1 x
theorem oh {α : Type} (a b : Int) (x y : α) : (if a = b then x else y) = if (a == b) = true then x else y := by
  by_cases h : a = b
  · rw [if_pos h, if_pos (by simp [h])]
  · rw [if_neg h, if_neg (by simp [h])]
theorem ge_le (a lo hi : Int) : (if a ≥ lo then some (decide (a ≤ hi)) else some false) = some (iB lo hi a) := by
  unfold iB
  by_cases h : lo ≤ a
  · rw [if_pos h, decide_eq_true h, Bool.true_and]
  · rw [if_neg h, decide_eq_false h, Bool.false_and]
theorem ge_le2 (a lo hi : Int) (b : Bool) : (if a ≥ lo then (if a ≤ hi then some b else some false) else some false) = some (iB lo hi a && b) := by
  unfold iB
  by_cases h : lo ≤ a
  · by_cases h' : a ≤ hi
    · rw [if_pos h, if_pos h', decide_eq_true h, decide_eq_true h']; rfl
    · rw [if_pos h, if_neg h', decide_eq_false h', Bool.and_false, Bool.false_and]
  · rw [if_neg h, decide_eq_false h, Bool.false_and, Bool.false_and]
theorem ev_and {f : Nat → Option Bool} {p q : Bool} (e : Ev f p) : Ev (fun k => (f k).bind fun t => if t = true then some q else some false) (p && q) := by
  refine Ev.bind e ?_
  rw [kX]; exact Ev.now _
theorem lZ {f : Nat → Option Bool} {p q : Bool} (e : Ev f p) : Ev (fun k => (f k).bind fun t => some (t && q)) (p && q) := Ev.bind e (Ev.now _)
theorem ev_true {g : Nat → Option Bool} {r s : Bool} (e : Ev g r) (h : r = s) : Ev g s := h ▸ e
section
variable (x : S88) (h1 : x.f1.size ≤ 1048576) (h2 : x.f2.size ≤ 1048576)
include h1 h2
theorem S5 : Ev (fun k => au.j5 k x.f1 x.f3 x.f4 x.f0 (decide (x.f0 = 20 ∨ x.f0 = 21)) x.f0 x.f1 x.f2 x.f3 x.f4) (sh5 x) := by
  refine bF ?_
  simp only [au.j5, lJ, oh x.f3 0, ge_le, ge_le2, kX]
  unfold sh5
  by_cases c : x.f0 = 20 ∨ x.f0 = 21
  · rw [decide_eq_true c, if_pos c]; simp only [if_true]; exact lZ (kD _ h1)
  · rw [decide_eq_false c, if_neg c]; simp only [Bool.false_eq_true, if_false]
    refine kG (fun _ => Ev.now _) (fun _ => kG (fun _ => ?_) (fun _ => kG (fun _ => Ev.now _) (fun _ => kG (fun _ => Ev.now _) (fun _ => kG (fun _ => Ev.now _) (fun _ => Ev.now _)))))
    refine Ev.bind (kD _ h1) ?_
    cases iq x.f1 with
    | false => simp only [Bool.false_eq_true, if_false, Bool.false_and]; exact Ev.now _
    | true => simp only [if_true, Bool.true_and]; exact lZ (kD _ h2)
theorem S4 : Ev (fun k => au.j4 k x.f1 x.f3 x.f4 x.f0 (decide (x.f0 = 13 ∨ x.f0 = 25)) x.f0 x.f1 x.f2 x.f3 x.f4) (sh4 x) := by
  have e5 := S5 x h1 h2
  refine bF ?_
  simp only [au.j4, lJ, oh x.f3 0, ge_le, kX]
  unfold sh4
  by_cases c : x.f0 = 13 ∨ x.f0 = 25
  · rw [decide_eq_true c, if_pos c]; simp only [if_true]; exact Ev.now _
  · rw [decide_eq_false c, if_neg c]; simp only [Bool.false_eq_true, if_false]
    refine kG (fun _ => lZ (vP _)) (fun _ => ?_)
    by_cases d : x.f0 = 20
    · refine aV d ?_
      rw [show (x.f0 == 20) = decide (x.f0 = 20 ∨ x.f0 = 21) by rw [Bool.eq_iff_iff, beq_iff_eq, decide_eq_true_iff]; omega]; exact e5
    · refine bS d ?_
      rw [show (x.f0 == 21) = decide (x.f0 = 20 ∨ x.f0 = 21) by rw [Bool.eq_iff_iff, beq_iff_eq, decide_eq_true_iff]; omega]; exact e5
theorem S3 : Ev (fun k => au.j3 k x.f1 x.f3 x.f4 x.f0 (decide (x.f0 = 8 ∨ x.f0 = 9 ∨ x.f0 = 10 ∨ x.f0 = 11)) x.f0 x.f1 x.f2 x.f3 x.f4) (sh3 x) := by
  have e4 := S4 x h1 h2
  refine bF ?_
  simp only [au.j3, lJ, oh x.f3 0, kX]
  unfold sh3
  by_cases c : x.f0 = 8 ∨ x.f0 = 9 ∨ x.f0 = 10 ∨ x.f0 = 11
  · rw [decide_eq_true c, if_pos c]; simp only [if_true]; exact Ev.now _
  · rw [decide_eq_false c, if_neg c]; simp only [Bool.false_eq_true, if_false]
    refine kG (fun _ => lZ (opSpec _)) (fun _ => ?_)
    by_cases d : x.f0 = 13
    · refine aV d ?_
      rw [show (x.f0 == 13) = decide (x.f0 = 13 ∨ x.f0 = 25) by rw [Bool.eq_iff_iff, beq_iff_eq, decide_eq_true_iff]; omega]; exact e4
    · refine bS d ?_
      rw [show (x.f0 == 25) = decide (x.f0 = 13 ∨ x.f0 = 25) by rw [Bool.eq_iff_iff, beq_iff_eq, decide_eq_true_iff]; omega]; exact e4
theorem S2 : Ev (fun k => au.j2 k x.f1 x.f3 x.f4 x.f0 (decide (x.f0 = 6 ∨ x.f0 = 7)) x.f0 x.f1 x.f2 x.f3 x.f4) (sh2 x) := by
  have e3 := S3 x h1 h2
  refine bF ?_
  simp only [au.j2, oh x.f3 0, kX]
  unfold sh2
  by_cases c : x.f0 = 6 ∨ x.f0 = 7
  · rw [decide_eq_true c, if_pos c]; simp only [if_true]; exact lZ (kD _ h1)
  · rw [decide_eq_false c, if_neg c]; simp only [Bool.false_eq_true, if_false]
    by_cases d8 : x.f0 = 8
    · refine aV d8 ?_
      rw [show (x.f0 == 8) = decide (x.f0 = 8 ∨ x.f0 = 9 ∨ x.f0 = 10 ∨ x.f0 = 11) by rw [Bool.eq_iff_iff, beq_iff_eq, decide_eq_true_iff]; omega]; exact e3
    refine bS d8 ?_
    by_cases d9 : x.f0 = 9
    · refine aV d9 ?_
      rw [show (x.f0 == 9) = decide (x.f0 = 8 ∨ x.f0 = 9 ∨ x.f0 = 10 ∨ x.f0 = 11) by rw [Bool.eq_iff_iff, beq_iff_eq, decide_eq_true_iff]; omega]; exact e3
    refine bS d9 ?_
    by_cases d10 : x.f0 = 10
    · refine aV d10 ?_
      rw [show (x.f0 == 10) = decide (x.f0 = 8 ∨ x.f0 = 9 ∨ x.f0 = 10 ∨ x.f0 = 11) by rw [Bool.eq_iff_iff, beq_iff_eq, decide_eq_true_iff]; omega]; exact e3
    refine bS d10 ?_
    rw [show (x.f0 == 11) = decide (x.f0 = 8 ∨ x.f0 = 9 ∨ x.f0 = 10 ∨ x.f0 = 11) by rw [Bool.eq_iff_iff, beq_iff_eq, decide_eq_true_iff]; omega]; exact e3
theorem S1 : Ev (fun k => au.j1 k x.f1 x.f3 x.f4 x.f0 (decide (x.f0 = 1 ∨ x.f0 = 2 ∨ x.f0 = 3 ∨ x.f0 = 4 ∨ x.f0 = 5)) x.f0 x.f1 x.f2 x.f3 x.f4) (sh1 x) := by
  have e2 := S2 x h1 h2
  refine bF ?_
  simp only [au.j1, lJ, oh x.f4 0]
  unfold sh1
  by_cases c : x.f0 = 1 ∨ x.f0 = 2 ∨ x.f0 = 3 ∨ x.f0 = 4 ∨ x.f0 = 5
  · rw [decide_eq_true c, if_pos c]; simp only [if_true]
    cases emp x.f1 with
    | false => simp only [Bool.false_eq_true, if_false, Bool.false_and]; exact Ev.now _
    | true =>
      simp only [if_true, Bool.true_and]
      cases (x.f4 == 0) with
      | false => simp only [Bool.false_eq_true, if_false, Bool.false_and]; exact Ev.now _
      | true => simp only [if_true, Bool.true_and]; exact Ev.bind (ll 1 (mO _ _)) (Ev.now _)
  · rw [decide_eq_false c, if_neg c]; simp only [Bool.false_eq_true, if_false]
    by_cases d6 : x.f0 = 6
    · refine aV d6 ?_
      rw [show (x.f0 == 6) = decide (x.f0 = 6 ∨ x.f0 = 7) by rw [Bool.eq_iff_iff, beq_iff_eq, decide_eq_true_iff]; omega]; exact e2
    refine bS d6 ?_
    rw [show (x.f0 == 7) = decide (x.f0 = 6 ∨ x.f0 = 7) by rw [Bool.eq_iff_iff, beq_iff_eq, decide_eq_true_iff]; omega]; exact e2
theorem tu : Ev (fun k => au.f k x.f0 x.f1 x.f2 x.f3 x.f4) (jK x) := by
  have e1 := S1 x h1 h2
  have e0 : Ev (fun k => au.j0 k x.f1 x.f3 x.f4 (decide (x.f0 ≠ 23 ∧ emp x.f2 = false)) x.f0 x.f1 x.f2 x.f3 x.f4) (jK x) := by
    refine bF ?_
    simp only [au.j0]
    unfold jK
    by_cases c : x.f0 ≠ 23 ∧ emp x.f2 = false
    · rw [decide_eq_true c, if_pos c]; simp only [if_true]; exact Ev.now _
    · rw [decide_eq_false c, if_neg c]; simp only [Bool.false_eq_true, if_false]
      by_cases d1 : x.f0 = 1
      · refine aV d1 ?_
        rw [show (x.f0 == 1) = decide (x.f0 = 1 ∨ x.f0 = 2 ∨ x.f0 = 3 ∨ x.f0 = 4 ∨ x.f0 = 5) by rw [Bool.eq_iff_iff, beq_iff_eq, decide_eq_true_iff]; omega]; exact e1
      refine bS d1 ?_
      by_cases d2 : x.f0 = 2
      · refine aV d2 ?_
        rw [show (x.f0 == 2) = decide (x.f0 = 1 ∨ x.f0 = 2 ∨ x.f0 = 3 ∨ x.f0 = 4 ∨ x.f0 = 5) by rw [Bool.eq_iff_iff, beq_iff_eq, decide_eq_true_iff]; omega]; exact e1
      refine bS d2 ?_
      by_cases d3 : x.f0 = 3
      · refine aV d3 ?_
        rw [show (x.f0 == 3) = decide (x.f0 = 1 ∨ x.f0 = 2 ∨ x.f0 = 3 ∨ x.f0 = 4 ∨ x.f0 = 5) by rw [Bool.eq_iff_iff, beq_iff_eq, decide_eq_true_iff]; omega]; exact e1
      refine bS d3 ?_
      by_cases d4 : x.f0 = 4
      · refine aV d4 ?_
        rw [show (x.f0 == 4) = decide (x.f0 = 1 ∨ x.f0 = 2 ∨ x.f0 = 3 ∨ x.f0 = 4 ∨ x.f0 = 5) by rw [Bool.eq_iff_iff, beq_iff_eq, decide_eq_true_iff]; omega]; exact e1
      refine bS d4 ?_
      rw [show (x.f0 == 5) = decide (x.f0 = 1 ∨ x.f0 = 2 ∨ x.f0 = 3 ∨ x.f0 = 4 ∨ x.f0 = 5) by rw [Bool.eq_iff_iff, beq_iff_eq, decide_eq_true_iff]; omega]; exact e1
  simp only [au.f]
  by_cases c : x.f0 = 23
  · refine aV c ?_
    rw [show decide (x.f0 ≠ 23 ∧ emp x.f2 = false) = false by simp [c]] at e0; exact e0
  · refine bS c ?_
    rw [show decide (x.f0 ≠ 23 ∧ emp x.f2 = false) = (x.f2.toList != ([] : List UInt8)) by unfold emp; generalize x.f2.toList = l; cases l <;> simp [c]] at e0; exact e0
end
/-- What a kid has to be: 1 an expression, 2 a statement, 3 a block. -/
def jJ (kind i : Int) : Int := if kind = 27 then 2 else if (kind = 22 ∨ kind = 26) ∧ i > 0 then 3 else 1
def isB (kind sort : Int) : Bool := if sort = 1 then decide (kind < 20) else if sort = 2 then decide (20 ≤ kind ∧ kind ≤ 27) else decide (kind = 27)
theorem uE (kind i : Int) : gV.f kind i = some (jJ kind i) := by
  unfold gV.f jJ
  by_cases c : kind = 27
  · rw [if_pos c, if_pos c]
  rw [if_neg c, if_neg c]
  by_cases c2 : kind = 22
  · rw [if_pos c2]
    by_cases d : i > 0
    · rw [if_pos d, if_pos ⟨Or.inl c2, d⟩]
    · rw [if_neg d, if_neg (by omega : ¬ ((kind = 22 ∨ kind = 26) ∧ i > 0))]; simp [c2]
  rw [if_neg c2]
  by_cases c3 : kind = 26
  · rw [if_pos c3]
    by_cases d : i > 0
    · rw [if_pos d, if_pos ⟨Or.inr c3, d⟩]
    · rw [if_neg d, if_neg (by omega : ¬ ((kind = 22 ∨ kind = 26) ∧ i > 0))]
  · rw [if_neg c3, if_neg (by omega : ¬ ((kind = 22 ∨ kind = 26) ∧ i > 0))]
theorem isSpec (kind sort : Int) : iN.f kind sort = some (isB kind sort) := by
  unfold iN.f isB
  by_cases c : sort = 1
  · rw [if_pos c, if_pos c]
  rw [if_neg c, if_neg c]
  by_cases c2 : sort = 2
  · rw [if_pos c2, if_pos c2]
    by_cases d : kind ≥ 20
    · by_cases d2 : kind < 27
      · rw [if_pos d, if_pos d2, decide_eq_true (show 20 ≤ kind ∧ kind ≤ 27 by omega)]
      · rw [if_pos d, if_neg d2]; congr 1; rw [Bool.eq_iff_iff, beq_iff_eq, decide_eq_true_iff]; omega
    · rw [if_neg d]; congr 1; rw [Bool.eq_iff_iff, beq_iff_eq, decide_eq_true_iff]; omega
  · rw [if_neg c2, if_neg c2]; congr 1
/-- The kids of a node, grown one behind the other. -/
def iW (g : Nat → Option (dS × Nat)) : Nat → List dS → Int → Nat → Option (List dS × Int × Nat)
  | 0, acc, dp, at_ => some (acc, dp, at_)
  | m + 1, acc, dp, at_ => (g at_).bind fun p => iW g m (acc ++ [p.1]) (mx dp (wrap64 (p.1.f3 + 1))) p.2
/-- The tree at a place, no more than so many levels deep. -/
def grow (l : List S88) : Nat → Nat → Option (dS × Nat)
  | 0, _ => none
  | e + 1, at_ => if at_ < l.length then (if 0 ≤ (av l (at_ : Int)).f4 ∧ (av l (at_ : Int)).f4 ≤ 150 then
      (iW (grow l e) (av l (at_ : Int)).f4.toNat [] 1 (at_ + 1)).bind fun p => some (⟨av l (at_ : Int), (at_ : Int), p.1, p.2.1⟩, p.2.2) else none) else none
def ja (f : Int → dS → Bool) (kind : Int) : Int → List dS → Bool
  | _, [] => true
  | i, c :: cs => f (jJ kind i) c && ja f kind (i + 1) cs
/-- A tree that is right, seen as that sort. -/
def okT : Nat → Int → dS → Bool
  | 0, _, _ => false
  | e + 1, sort, t => isB t.f0.f0 sort && (jK t.f0 && ja (okT e) t.f0.f0 0 t.f2)
/-- The kids of a node, as the reference goes through them: the place behind them. -/
def kR (f : Nat → Int → Option Nat) (kind : Int) : Nat → Int → Nat → Option Nat
  | 0, _, at_ => some at_
  | m + 1, i, at_ => (f at_ (jJ kind i)).bind fun nx => kR f kind m (i + 1) nx
def jQ (l : List S88) : Nat → Nat → Int → Option Nat
  | 0, _, _ => none
  | e + 1, at_, sort => if at_ < l.length then (if jK (av l (at_ : Int)) = true ∧ isB (av l (at_ : Int)).f0 sort = true then
      kR (jQ l e) (av l (at_ : Int)).f0 (av l (at_ : Int)).f4.toNat 0 (at_ + 1) else none) else none
theorem nP (x : S88) (h : jK x = true) : 0 ≤ x.f4 ∧ x.f4 ≤ 40 := by
  unfold jK sh1 sh2 sh3 sh4 sh5 at h
  have b1 : ∀ {p q : Bool} {m : Int}, (p && (q && (x.f4 == m))) = true → x.f4 = m := by intro p q m h; simp at h; exact h.2.2
  have b0 : ∀ {p q : Bool} {m : Int}, (p && ((x.f4 == m) && q)) = true → x.f4 = m := by intro p q m h; simp at h; exact h.2.1
  have b3 : ∀ {p q r : Bool} {m : Int}, (p && (q && (r && (x.f4 == m)))) = true → x.f4 = m := by intro p q r m h; simp at h; exact h.2.2.2
  have b4 : ∀ {p q : Bool} {lo hi : Int}, (p && (q && iB lo hi x.f4)) = true → lo ≤ x.f4 ∧ x.f4 ≤ hi := by intro p q lo hi h; unfold iB at h; simp at h; exact h.2.2
  by_cases c0 : x.f0 ≠ 23 ∧ emp x.f2 = false
  · rw [if_pos c0] at h; cases h
  rw [if_neg c0] at h
  by_cases c1 : x.f0 = 1 ∨ x.f0 = 2 ∨ x.f0 = 3 ∨ x.f0 = 4 ∨ x.f0 = 5
  · rw [if_pos c1] at h; have := b0 h; omega
  rw [if_neg c1] at h
  by_cases c2 : x.f0 = 6 ∨ x.f0 = 7
  · rw [if_pos c2] at h; have := b1 h; omega
  rw [if_neg c2] at h
  by_cases c3 : x.f0 = 8 ∨ x.f0 = 9 ∨ x.f0 = 10 ∨ x.f0 = 11
  · rw [if_pos c3] at h; have := b1 h; omega
  rw [if_neg c3] at h
  by_cases c4 : x.f0 = 12
  · rw [if_pos c4] at h; have := b1 h; omega
  rw [if_neg c4] at h
  by_cases c5 : x.f0 = 13 ∨ x.f0 = 25
  · rw [if_pos c5] at h; have := b1 h; omega
  rw [if_neg c5] at h
  by_cases c6 : x.f0 = 14
  · rw [if_pos c6] at h; have := b4 h; omega
  rw [if_neg c6] at h
  by_cases c7 : x.f0 = 20 ∨ x.f0 = 21
  · rw [if_pos c7] at h; have := b1 h; omega
  rw [if_neg c7] at h
  by_cases c8 : x.f0 = 22
  · rw [if_pos c8] at h; have := b1 h; omega
  rw [if_neg c8] at h
  by_cases c9 : x.f0 = 23
  · rw [if_pos c9] at h; have := b3 h; omega
  rw [if_neg c9] at h
  by_cases c10 : x.f0 = 24
  · rw [if_pos c10] at h; have := b1 h; omega
  rw [if_neg c10] at h
  by_cases c11 : x.f0 = 26
  · rw [if_pos c11] at h; have := b1 h; omega
  rw [if_neg c11] at h
  by_cases c12 : x.f0 = 27
  · rw [if_pos c12] at h; have := b4 h; omega
  rw [if_neg c12] at h
  cases h
/-- What the kids grow to, and what they are held to be. -/
theorem tN (l : List S88) (e : Nat) (ih : ∀ at_ sort, jQ l e at_ sort = (grow l e at_).bind fun p => if okT e sort p.1 = true then some p.2 else none) (kind : Int) :
    ∀ (m : Nat) (acc : List dS) (dp : Int) (i : Int) (at_ : Nat),
      (kR (jQ l e) kind m i at_ = none → ∀ acc' dp' nx, iW (grow l e) m acc dp at_ = some (acc', dp', nx) → ∃ ks, acc' = acc ++ ks ∧ ja (okT e) kind i ks = false) ∧
      (∀ nx, kR (jQ l e) kind m i at_ = some nx → ∃ ks dp', iW (grow l e) m acc dp at_ = some (acc ++ ks, dp', nx) ∧ ja (okT e) kind i ks = true) := by
  intro m
  induction m with
  | zero =>
    intro acc dp i at_
    refine ⟨fun h => by simp [kR] at h, fun nx h => ?_⟩
    simp only [kR, Option.some.injEq] at h
    subst h
    exact ⟨[], dp, by simp [iW], rfl⟩
  | succ m ihm =>
    intro acc dp i at_
    simp only [kR, iW, ih]
    cases hg : grow l e at_ with
    | none =>
      refine ⟨fun _ acc' dp' nx h => by simp at h, fun nx h => by simp at h⟩
    | some p =>
      simp only [Option.bind_some]
      cases hk : okT e (jJ kind i) p.1 with
      | false =>
        refine ⟨fun _ acc' dp' nx h => ?_, fun nx h => by simp at h⟩
        have pre : ∀ (m : Nat) (acc : List dS) (dp : Int) (at_ : Nat) acc' dp' nx, iW (grow l e) m acc dp at_ = some (acc', dp', nx) → ∃ ks, acc' = acc ++ ks := by
          intro m
          induction m with
          | zero => intro acc dp at_ acc' dp' nx h; simp only [iW, Option.some.injEq, Prod.mk.injEq] at h; exact ⟨[], by rw [← h.1]; simp⟩
          | succ m ih2 =>
            intro acc dp at_ acc' dp' nx h
            simp only [iW] at h
            obtain ⟨q, _, h⟩ := Option.bind_eq_some_iff.mp h
            obtain ⟨ks, hks⟩ := ih2 _ _ _ _ _ _ h
            exact ⟨q.1 :: ks, by rw [hks]; simp⟩
        obtain ⟨ks, hks⟩ := pre _ _ _ _ _ _ _ h
        exact ⟨p.1 :: ks, by rw [hks]; simp, by simp [ja, hk]⟩
      | true =>
        simp only [if_true, Option.bind_some]
        obtain ⟨h1, h2⟩ := ihm (acc ++ [p.1]) (mx dp (wrap64 (p.1.f3 + 1))) (i + 1) p.2
        refine ⟨fun h acc' dp' nx hh => ?_, fun nx h => ?_⟩
        · obtain ⟨ks, a, b⟩ := h1 h acc' dp' nx hh
          exact ⟨p.1 :: ks, by rw [a]; simp, by simp [ja, b]⟩
        · obtain ⟨ks, dp', a, b⟩ := h2 nx h
          exact ⟨p.1 :: ks, dp', by rw [a]; simp, by simp [ja, hk, b]⟩
theorem oI (l : List S88) : ∀ (e at_ : Nat) (sort : Int), jQ l e at_ sort = (grow l e at_).bind fun p => if okT e sort p.1 = true then some p.2 else none := by
  intro e
  induction e with
  | zero => intro at_ sort; rfl
  | succ e ih =>
    intro at_ sort
    simp only [jQ, grow]
    by_cases h : at_ < l.length
    · rw [if_pos h, if_pos h]
      obtain ⟨x, hx⟩ : ∃ x, x = av l (at_ : Int) := ⟨_, rfl⟩
      rw [← hx]
      by_cases hs : jK x = true ∧ isB x.f0 sort = true
      · rw [if_pos hs]
        have hm := nP x hs.1
        rw [if_pos (show 0 ≤ x.f4 ∧ x.f4 ≤ 150 by omega)]
        obtain ⟨h1, h2⟩ := tN l e ih x.f0 x.f4.toNat [] 1 0 (at_ + 1)
        cases hk : kR (jQ l e) x.f0 x.f4.toNat 0 (at_ + 1) with
        | none =>
          cases hg : iW (grow l e) x.f4.toNat [] 1 (at_ + 1) with
          | none => rfl
          | some p =>
            obtain ⟨acc', dp', nx⟩ := p
            obtain ⟨ks, a, b⟩ := h1 hk acc' dp' nx hg
            simp only [List.nil_append] at a
            subst a
            simp [okT, hs.1, hs.2, b]
        | some nx =>
          obtain ⟨ks, dp', a, b⟩ := h2 nx hk
          rw [a]
          simp [okT, hs.1, hs.2, b]
      · rw [if_neg hs]
        by_cases hm : 0 ≤ x.f4 ∧ x.f4 ≤ 150
        · rw [if_pos hm]
          cases hg : iW (grow l e) x.f4.toNat [] 1 (at_ + 1) with
          | none => rfl
          | some p =>
            simp only [Option.bind_some]
            rw [if_neg]
            intro z
            simp only [okT, Bool.and_eq_true] at z
            exact hs ⟨z.2.1, z.1⟩
        · rw [if_neg hm]; rfl
    · rw [if_neg h, if_neg h]; rfl
theorem nT (l : List S88) (hz : ∀ x ∈ l, x.f1.size ≤ 1048576 ∧ x.f2.size ≤ 1048576) (i : Nat) (h : i < l.length) : (av l (i : Int)).f1.size ≤ 1048576 ∧ (av l (i : Int)).f2.size ≤ 1048576 := by
  rw [rdN l i h]; exact hz _ (List.getElem_mem h)
def outT (o : Option (dS × Nat)) : Int × ByteArray × ByteArray × Int × Int × Int × (List dS) × Int × Int × Bool :=
  match o with
  | some (t, nx) => (t.f0.f0, t.f0.f1, t.f0.f2, t.f0.f3, t.f0.f4, t.f1, t.f2, t.f3, (nx : Int), true)
  | none => (0, ⟨#[]⟩, ⟨#[]⟩, 0, 0, 0, [], 0, 0, false)
theorem nY (l : List S88) (hl : l.length ≤ 150) : ∀ (e at_ : Nat) t nx, grow l e at_ = some (t, nx) → nx ≤ l.length := by
  intro e
  induction e with
  | zero => intro at_ t nx h; cases h
  | succ e ih =>
    intro at_ t nx h
    simp only [grow] at h
    by_cases c : at_ < l.length
    · rw [if_pos c] at h
      by_cases d : 0 ≤ (av l (at_ : Int)).f4 ∧ (av l (at_ : Int)).f4 ≤ 150
      · rw [if_pos d] at h
        obtain ⟨p, hp, h⟩ := Option.bind_eq_some_iff.mp h
        have key : ∀ (m : Nat) (acc : List dS) (dp : Int) (at_ : Nat) acc' dp' nx, at_ ≤ l.length → iW (grow l e) m acc dp at_ = some (acc', dp', nx) → nx ≤ l.length := by
          intro m
          induction m with
          | zero => intro acc dp at_ acc' dp' nx ha h; simp only [iW, Option.some.injEq, Prod.mk.injEq] at h; omega
          | succ m ih2 =>
            intro acc dp at_ acc' dp' nx ha h
            simp only [iW] at h
            obtain ⟨q, hq, h⟩ := Option.bind_eq_some_iff.mp h
            exact ih2 _ _ _ _ _ _ (ih at_ q.1 q.2 hq) h
        simp only [Option.some.injEq, Prod.mk.injEq] at h
        rw [← h.2]
        exact key _ _ _ _ _ _ _ (by omega) hp
      · rw [if_neg d] at h; cases h
    · rw [if_neg c] at h; cases h
section
variable (l : List S88) (hl : l.length ≤ 150)
include hl
theorem vK (e : Nat) (dep : Int) (hd : dep + (e + 1) = 21) (he : e ≤ 20) (ih : ∀ at_ : Nat, at_ ≤ l.length → Ev (fun k => aW.f k l (at_ : Int) (dep + 1)) (outT (grow l e at_))) (x : S88) (x5 : Int) (m : Nat) (hx : x.f4 = (m : Int)) (hm : m ≤ 150) :
    ∀ (d i : Nat) (at_ : Nat) (acc : List dS) (dp : Int), m - i = d → acc.length = i → i ≤ m → at_ ≤ l.length →
      Ev (fun k => aW.l0 k l (at_ : Int) dep (m : Int) (i : Int) x.f0 x.f1 x.f2 x.f3 x.f4 x5 acc dp) (outT ((iW (grow l e) d acc dp at_).bind fun p => some (⟨x, x5, p.1, p.2.1⟩, p.2.2))) := by
  have hw : wrap64 (dep + 1) = dep + 1 := w64 (by omega) (by omega)
  intro d
  induction d with
  | zero =>
    intro i at_ acc dp hi ha him hat
    refine bF ?_
    simp only [aW.l0]
    refine bS (by omega) ?_
    simp only [iW, Option.bind_some, outT]; exact Ev.now _
  | succ d ihd =>
    intro i at_ acc dp hi ha him hat
    refine bF ?_
    simp only [aW.l0, hw, iW]
    refine aV (by omega) (Ev.bind (ih at_ hat) ?_)
    cases hg : grow l e at_ with
    | none => simp only [outT, Option.bind_none, Bool.false_eq_true, if_false]; exact Ev.now _
    | some p =>
      obtain ⟨⟨⟨t0, t1, t2, t3, t4⟩, t5, t6, t7⟩, nx⟩ := p
      have hn := nY l hl e at_ _ nx hg
      have e1 : outT (some (⟨⟨t0, t1, t2, t3, t4⟩, t5, t6, t7⟩, nx)) = (t0, t1, t2, t3, t4, t5, t6, t7, (nx : Int), true) := rfl
      simp only [e1, Option.bind_some, if_true]
      refine aV (by omega) ?_
      rw [show wrap64 ((i : Int) + 1) = ((i + 1 : Nat) : Int) from jG (show i < m by omega) (by omega)]
      exact ihd (i + 1) nx (acc ++ [⟨⟨t0, t1, t2, t3, t4⟩, t5, t6, t7⟩]) (mx dp (wrap64 (t7 + 1))) (by omega) (by simp; omega) (by omega) hn
theorem vL : ∀ (e at_ : Nat) (dep : Int), dep + e = 21 → e ≤ 21 → at_ ≤ l.length → Ev (fun k => aW.f k l (at_ : Int) dep) (outT (grow l e at_)) := by
  intro e
  induction e with
  | zero =>
    intro at_ dep hd he hat
    have jt : Ev (fun k => aW.j0 k l (at_ : Int) dep true) (outT none) := by
      refine bF ?_
      simp only [aW.j0, if_true, outT]; exact Ev.now _
    refine bF ?_
    simp only [aW.f, grow]
    by_cases c : (at_ : Int) ≥ (l.length : Int)
    · exact aV c jt
    · exact bS c (aV (by omega) jt)
  | succ e ih =>
    intro at_ dep hd he hat
    have jt : Ev (fun k => aW.j0 k l (at_ : Int) dep true) (outT none) := by
      refine bF ?_
      simp only [aW.j0, if_true, outT]; exact Ev.now _
    refine bF ?_
    simp only [aW.f, grow]
    by_cases c : at_ < l.length
    · rw [if_pos c]
      refine bS (by omega) (bS (by omega) (aV (gD at_) (aV (fB c) ?_)))
      rw [kS]
      refine fQ rfl ?_
      obtain ⟨x, hx⟩ : ∃ x, x = av l (at_ : Int) := ⟨_, rfl⟩
      rw [← hx]
      by_cases hm : 0 ≤ x.f4 ∧ x.f4 ≤ 150
      · rw [if_pos hm, show iB 0 150 x.f4 = true from by unfold iB; simp [hm.1, hm.2]]
        refine bF ?_
        simp only [aW.j0, Bool.not_true, Bool.false_eq_true, if_false, ← hx]
        refine aV (gD at_) (aV (fB c) ?_)
        rw [jG c (by omega)]
        obtain ⟨m, em⟩ := Int.eq_ofNat_of_zero_le hm.1
        have := vK l hl e dep (by omega) (by omega) (fun at_ ha => ih at_ (dep + 1) (by omega) (by omega) ha) x (at_ : Int) m em (by omega) m 0 (at_ + 1) [] 1 rfl rfl (by omega) (by omega)
        rw [em, Int.toNat_natCast]
        rw [em] at this
        exact this
      · rw [if_neg hm, show iB 0 150 x.f4 = false from by
          cases h : iB 0 150 x.f4 with
          | false => rfl
          | true => unfold iB at h; simp at h; exact absurd h hm]
        exact jt
    · rw [if_neg c]
      exact aV (by omega) jt
theorem qJ : ∀ (e at_ : Nat) (sort : Int) nx, jQ l e at_ sort = some nx → nx ≤ l.length := by
  intro e at_ sort nx h
  rw [oI] at h
  obtain ⟨p, hp, h⟩ := Option.bind_eq_some_iff.mp h
  have := nY l hl e at_ p.1 p.2 hp
  by_cases c : okT e sort p.1 = true
  · rw [if_pos c] at h; cases h; exact this
  · rw [if_neg c] at h; cases h
def mF (o : Option Nat) : Int := match o with | some n => (n : Int) | none => -1
theorem uD (e : Nat) (dep : Int) (hd : dep + (e + 1) = 21) (he : e ≤ 20) (ih : ∀ (at_ : Nat) (sort : Int), at_ ≤ l.length → Ev (fun k => aM.f k l (at_ : Int) sort (dep + 1)) (mF (jQ l e at_ sort))) (x : S88) (m : Nat) (hx : x.f4 = (m : Int)) (hm : m ≤ 150) :
    ∀ (d i : Nat) (at_ : Nat), m - i = d → i ≤ m → at_ ≤ l.length →
      Ev (fun k => aM.l0 k l (at_ : Int) dep (i : Int) x.f0 x.f1 x.f2 x.f3 x.f4) (mF (kR (jQ l e) x.f0 d (i : Int) at_)) := by
  have hw : wrap64 (dep + 1) = dep + 1 := w64 (by omega) (by omega)
  intro d
  induction d with
  | zero =>
    intro i at_ hi him hat
    refine bF ?_
    simp only [aM.l0]
    refine bS (by omega) (bF ?_)
    simp only [aM.j2, Bool.false_eq_true, if_false, kR, mF]; exact Ev.now _
  | succ d ihd =>
    intro i at_ hi him hat
    refine bF ?_
    simp only [aM.l0]
    refine aV (by omega) ?_
    rw [decide_eq_true (show (at_ : Int) ≥ 0 by omega)]
    refine bF ?_
    simp only [aM.j2, if_true, uE, Option.bind_some, hw, kR]
    refine Ev.bind (ih at_ _ hat) ?_
    rw [show wrap64 ((i : Int) + 1) = ((i + 1 : Nat) : Int) from jG (show i < m by omega) (by omega)]
    cases hg : jQ l e at_ (jJ x.f0 (i : Int)) with
    | none =>
      simp only [mF, Option.bind_none]
      refine bF ?_
      simp only [aM.l0]
      have j2f : Ev (fun k => aM.j2 k l (-1) dep ((i + 1 : Nat) : Int) false x.f0 x.f1 x.f2 x.f3 x.f4) (-1) := by
        refine bF ?_
        simp only [aM.j2, Bool.false_eq_true, if_false]; exact Ev.now _
      by_cases c : ((i + 1 : Nat) : Int) < x.f4
      · refine aV c ?_
        rw [decide_eq_false (by decide)]; exact j2f
      · exact bS c j2f
    | some nx =>
      simp only [mF, Option.bind_some]
      exact ihd (i + 1) nx (by omega) (by omega) (qJ l hl e at_ _ nx hg)
theorem uC (hz : ∀ x ∈ l, x.f1.size ≤ 1048576 ∧ x.f2.size ≤ 1048576) : ∀ (e at_ : Nat) (sort dep : Int), dep + e = 21 → e ≤ 21 → at_ ≤ l.length → Ev (fun k => aM.f k l (at_ : Int) sort dep) (mF (jQ l e at_ sort)) := by
  intro e
  induction e with
  | zero =>
    intro at_ sort dep hd he hat
    have jt : Ev (fun k => aM.j0 k l (at_ : Int) dep true) (-1) := by
      refine bF ?_
      simp only [aM.j0, if_true]; exact Ev.now _
    refine bF ?_
    simp only [aM.f, jQ, mF]
    by_cases c : (at_ : Int) ≥ (l.length : Int)
    · exact aV c jt
    · exact bS c (aV (by omega) jt)
  | succ e ih =>
    intro at_ sort dep hd he hat
    have jt : Ev (fun k => aM.j0 k l (at_ : Int) dep true) (-1) := by
      refine bF ?_
      simp only [aM.j0, if_true]; exact Ev.now _
    refine bF ?_
    simp only [aM.f, jQ]
    by_cases c : at_ < l.length
    · rw [if_pos c]
      have hb := nT l hz at_ c
      refine bS (by omega) (bS (by omega) (aV (gD at_) (aV (fB c) ?_)))
      obtain ⟨x, hx⟩ : ∃ x, x = av l (at_ : Int) := ⟨_, rfl⟩
      rw [← hx] at hb ⊢
      refine Ev.bind (tu x hb.1 hb.2) ?_
      cases hs : jK x with
      | false =>
        simp only [Bool.false_eq_true, if_false, false_and, mF]; exact jt
      | true =>
        simp only [if_true, isSpec, Option.bind_some, true_and]
        cases hi : isB x.f0 sort with
        | false => simp only [Bool.not_false, Bool.false_eq_true, if_false, mF]; exact jt
        | true =>
          simp only [Bool.not_true, if_true]
          refine bF ?_
          simp only [aM.j0, Bool.false_eq_true, if_false, ← hx]
          refine aV (gD at_) (aV (fB c) ?_)
          rw [jG c (by omega)]
          have hm := nP x hs
          obtain ⟨m, em⟩ := Int.eq_ofNat_of_zero_le hm.1
          have := uD l hl e dep (by omega) (by omega) (fun at_ sort ha => ih at_ sort (dep + 1) (by omega) (by omega) ha) x m em (by omega) m 0 (at_ + 1) rfl (by omega) (by omega)
          rw [em, Int.toNat_natCast]
          rw [em] at this
          exact this
    · rw [if_neg c]
      simp only [mF]
      exact aV (by omega) jt
end
def codeF (sort : Int) : Int := if sort = 1 then 101 else if sort = 2 then 115 else 98
/-- The letters tell what the kids of such a node have to be. -/
def conf (s : ByteArray) (kind : Int) : Prop := ∀ i : Nat, i < s.size → bt s (i : Int) = codeF (jJ kind (i : Int))
def KR (e : Nat) (t : dS) (n : Int) : Bool := decide ((t.f2.length : Int) = n) && ja (okT e) t.f0.f0 0 t.f2
theorem rdT (l : List dS) (i : Nat) (h : i < l.length) : bR l (i : Int) = l[i] := by
  unfold bR; rw [Int.toNat_natCast, List.getD_eq_getElem?_getD, List.getElem?_eq_getElem h]; rfl
theorem ok3 (e : Nat) (c : dS) : okT e 3 c = (decide (c.f0.f0 = 27) && okT e 2 c) := by
  cases e with
  | zero => simp [okT]
  | succ e =>
    simp only [okT]
    unfold isB
    by_cases k : c.f0.f0 = 27
    · simp [k]
    · simp [k]
theorem sort123 (kind i : Int) : jJ kind i = 1 ∨ jJ kind i = 2 ∨ jJ kind i = 3 := by
  unfold jJ; split
  · exact Or.inr (Or.inl rfl)
  · split
    · exact Or.inr (Or.inr rfl)
    · exact Or.inl rfl
theorem uZ (e : Nat) (kind : Int) (s : ByteArray) (L : List dS) (hc : conf s kind) (hs : L.length = s.size) (hL : L.length ≤ 150)
    (IH : ∀ c ∈ L, Ev (fun k => ah.f (ag.f k) k c.f0.f0 c.f0.f1 c.f0.f2 c.f0.f3 c.f0.f4 c.f1 c.f2 c.f3) (okT e 1 c) ∧ Ev (fun k => ak.f (ag.f k) k c.f0.f0 c.f0.f1 c.f0.f2 c.f0.f3 c.f0.f4 c.f1 c.f2 c.f3) (okT e 2 c)) :
    ∀ (d i : Nat), L.length - i = d → Ev (fun k => ag.l0 k s L (L.length : Int) (i : Int)) (ja (okT e) kind (i : Int) (L.drop i)) := by
  intro d
  induction d with
  | zero =>
    intro i hd
    refine bF ?_
    simp only [ag.l0]
    rw [List.drop_eq_nil_of_le (by omega)]
    exact bS (eD (by omega)) (Ev.now _)
  | succ d ih =>
    intro i hd
    have hi : i < L.length := by omega
    have hb := hc i (by omega)
    obtain ⟨e1, e2⟩ := IH _ (List.getElem_mem hi)
    have nx := ih (i + 1) (by omega)
    rw [List.drop_eq_getElem_cons hi]
    simp only [ja]
    refine bF ?_
    simp only [ag.l0, rdT L i hi]
    refine aV (fB hi) (aV (gD i) (aV (fB hi) (aV (by omega) ?_)))
    have hw := jG hi (show L.length ≤ 140737488351232 by omega)
    have tr1 : Ev (fun k => ag.j1 k s (i : Int) L (L.length : Int) (i : Int) true L[i].f0.f0 L[i].f0.f1 L[i].f0.f2 L[i].f0.f3 L[i].f0.f4 L[i].f1 L[i].f2 L[i].f3) false := by
      refine bF ?_
      simp only [ag.j1, if_true]; exact Ev.now _
    have tr2 : Ev (fun k => ag.j2 k s (i : Int) L (L.length : Int) (i : Int) true L[i].f0.f0 L[i].f0.f1 L[i].f0.f2 L[i].f0.f3 L[i].f0.f4 L[i].f1 L[i].f2 L[i].f3) false := by
      refine bF ?_
      simp only [ag.j2, if_true]; exact Ev.now _
    have nx2 : ¬ bt s (i : Int) = 98 → Ev (fun k => ag.j2 k s (i : Int) L (L.length : Int) (i : Int) false L[i].f0.f0 L[i].f0.f1 L[i].f0.f2 L[i].f0.f3 L[i].f0.f4 L[i].f1 L[i].f2 L[i].f3) (ja (okT e) kind ((i : Int) + 1) (L.drop (i + 1))) := by
      intro hn
      refine bF ?_
      simp only [ag.j2, Bool.false_eq_true, if_false, hw]
      exact aV (gD i) (aV (by omega) (bS hn nx))
    have nx1 : ¬ bt s (i : Int) = 115 → ¬ bt s (i : Int) = 98 → Ev (fun k => ag.j1 k s (i : Int) L (L.length : Int) (i : Int) false L[i].f0.f0 L[i].f0.f1 L[i].f0.f2 L[i].f0.f3 L[i].f0.f4 L[i].f1 L[i].f2 L[i].f3) (ja (okT e) kind ((i : Int) + 1) (L.drop (i + 1))) := by
      intro h1 h2
      refine bF ?_
      simp only [ag.j1, Bool.false_eq_true, if_false]
      exact aV (gD i) (aV (by omega) (bS h1 (nx2 h2)))
    rcases sort123 kind (i : Int) with hq | hq | hq
    · rw [hq] at hb ⊢
      have hb' : bt s (i : Int) = 101 := hb
      refine aV hb' (Ev.bind e1 ?_)
      cases okT e 1 L[i] with
      | false => simp only [Bool.not_false, Bool.false_and]; exact tr1
      | true => simp only [Bool.not_true, Bool.true_and]; exact nx1 (by omega) (by omega)
    · rw [hq] at hb ⊢
      have hb' : bt s (i : Int) = 115 := hb
      refine bS (by omega) (bF ?_)
      simp only [ag.j1, Bool.false_eq_true, if_false]
      refine aV (gD i) (aV (by omega) (aV hb' (Ev.bind e2 ?_)))
      cases okT e 2 L[i] with
      | false => simp only [Bool.not_false, Bool.false_and]; exact tr2
      | true => simp only [Bool.not_true, Bool.true_and]; exact nx2 (by omega)
    · rw [hq] at hb ⊢
      have hb' : bt s (i : Int) = 98 := hb
      rw [ok3 e L[i]]
      refine bS (by omega) (bF ?_)
      simp only [ag.j1, Bool.false_eq_true, if_false]
      refine aV (gD i) (aV (by omega) (bS (by omega) (bF ?_)))
      simp only [ag.j2, Bool.false_eq_true, if_false, hw]
      refine aV (gD i) (aV (by omega) (aV hb' ?_))
      by_cases c : L[i].f0.f0 = 27
      · rw [decide_eq_true c, Bool.true_and]
        refine aV c (Ev.bind e2 ?_)
        cases okT e 2 L[i] with
        | false => simp only [Bool.false_eq_true, if_false, Bool.false_and]; exact Ev.now _
        | true => simp only [if_true, Bool.true_and]; exact nx
      · rw [decide_eq_false c, Bool.false_and, Bool.false_and]
        exact bS c (Ev.now _)
theorem kidsEv (e : Nat) (t : dS) (hL : t.f2.length ≤ 150)
    (IH : ∀ c ∈ t.f2, Ev (fun k => ah.f (ag.f k) k c.f0.f0 c.f0.f1 c.f0.f2 c.f0.f3 c.f0.f4 c.f1 c.f2 c.f3) (okT e 1 c) ∧ Ev (fun k => ak.f (ag.f k) k c.f0.f0 c.f0.f1 c.f0.f2 c.f0.f3 c.f0.f4 c.f1 c.f2 c.f3) (okT e 2 c)) (s : ByteArray) (hc : conf s t.f0.f0) :
    Ev (fun k => ag.f k t.f0.f0 t.f0.f1 t.f0.f2 t.f0.f3 t.f0.f4 t.f1 t.f2 t.f3 s) (KR e t s.size) := by
  refine bF ?_
  simp only [ag.f]
  unfold KR
  by_cases c : (t.f2.length : Int) = (s.size : Int)
  · rw [decide_eq_true c, Bool.true_and]
    refine aV c ?_
    have := uZ e t.f0.f0 s t.f2 hc (by omega) hL IH _ 0 rfl
    rwa [List.drop_zero] at this
  · rw [decide_eq_false c, Bool.false_and]
    exact bS c (Ev.now _)
theorem qh (c : UInt8) : ∀ n, Lib.repeatL [c] n = List.replicate n c
  | 0 => rfl
  | n + 1 => by rw [Lib.repeatL, qh c n]; rfl
theorem uI (c : UInt8) (n : Nat) (hn : n ≤ 150) : strings_Repeat.f ⟨#[c]⟩ (n : Int) = some ⟨(List.replicate n c).toArray⟩ := by
  unfold strings_Repeat.f
  rw [if_pos ⟨by omega, by omega, by rw [Int.toNat_natCast]; show 1 * n ≤ _; omega⟩, Int.toNat_natCast]
  congr 2
  show (Lib.repeatL [c] n).toArray = _
  rw [qh]
theorem lT (c : UInt8) (n : Nat) : (⟨(List.replicate n c).toArray⟩ : ByteArray).size = n := by simp [ByteArray.size]
theorem rep_bt (c : UInt8) (n i : Nat) (h : i < n) : bt ⟨(List.replicate n c).toArray⟩ (i : Int) = (c.toNat : Int) := by
  rw [pz _ i (by rw [lT]; exact h)]
  simp
theorem rY (kind : Int) : conf ⟨#[]⟩ kind := fun i h => absurd h (by simp [ByteArray.size])
theorem qC (c : UInt8) (n : Nat) (kind : Int) (h : ∀ i : Nat, i < n → (c.toNat : Int) = codeF (jJ kind (i : Int))) : conf ⟨(List.replicate n c).toArray⟩ kind := fun i hi => by
  rw [lT] at hi; rw [rep_bt c n i hi]; exact h i hi
theorem rX (kind : Int) (h : ¬ kind = 27) : conf ⟨#[101]⟩ kind := fun i hi => by
  have : i = 0 := by have : i < 1 := hi; omega
  subst this
  unfold jJ; rw [if_neg h, if_neg (by omega)]; rfl
theorem confEE : conf ⟨#[101, 101]⟩ 12 := fun i hi => by
  have : i = 0 ∨ i = 1 := by have : i < 2 := hi; omega
  rcases this with rfl | rfl <;> rfl
theorem confEBB : conf ⟨#[101, 98, 98]⟩ 22 := fun i hi => by
  have : i = 0 ∨ i = 1 ∨ i = 2 := by have : i < 3 := hi; omega
  rcases this with rfl | rfl | rfl <;> rfl
theorem confEB : conf ⟨#[101, 98]⟩ 26 := fun i hi => by
  have : i = 0 ∨ i = 1 := by have : i < 2 := hi; omega
  rcases this with rfl | rfl <;> rfl
def KFT : Type := Int → ByteArray → ByteArray → Int → Int → Int → List dS → Int → ByteArray → Option Bool
section
variable (e : Nat) (t : dS) (h1 : t.f0.f1.size ≤ 1048576) (h2 : t.f0.f2.size ≤ 1048576) (hL : t.f2.length ≤ 150)
include h1 h2 hL
def qG (e : Nat) (t : dS) (KF : Nat → Int → ByteArray → ByteArray → Int → Int → Int → List dS → Int → ByteArray → Option Bool) : Prop :=
  ∀ s : ByteArray, conf s t.f0.f0 → Ev (fun k => KF k t.f0.f0 t.f0.f1 t.f0.f2 t.f0.f3 t.f0.f4 t.f1 t.f2 t.f3 s) (KR e t s.size)
omit h1 h2 hL in
theorem qG.up {e : Nat} {t : dS} {KF : Nat → Int → ByteArray → ByteArray → Int → Int → Int → List dS → Int → ByteArray → Option Bool} (h : qG e t KF) : qG e t (fun k => KF (k + 1)) := fun s hs => ev_up (h s hs)
def E2 (e : Nat) (t : dS) : Bool :=
  if t.f0.f0 = 12 then inF qV t.f0.f1 && ((t.f0.f3 == 0) && (emp t.f0.f2 && KR e t 2))
  else if t.f0.f0 = 13 then emp t.f0.f1 && ((t.f0.f3 == 0) && (emp t.f0.f2 && KR e t 1))
  else if t.f0.f0 = 14 then inF qB t.f0.f1 && (iB 1 4 (t.f2.length : Int) && ((t.f0.f3 == 0) && (emp t.f0.f2 && KR e t (t.f2.length : Int)))) else false
omit h1 h2 hL in
theorem emp_b (a : ByteArray) : (a.toList == ([] : List UInt8)) = emp a := rfl
omit h1 h2 hL in
theorem three {p q r : Bool} {g : Nat → Option Bool} {x : Bool} (eg : Ev g x) : Ev (fun k => if p = true then (if q = true then (if r = true then (g k).bind fun t => some t else some false) else some false) else some false) (p && (q && (r && x))) := by
  cases p with
  | false => simp only [Bool.false_eq_true, if_false, Bool.false_and]; exact Ev.now _
  | true =>
    cases q with
    | false => simp only [Bool.false_eq_true, if_false, Bool.false_and, Bool.and_false]; exact Ev.now _
    | true =>
      cases r with
      | false => simp only [Bool.false_eq_true, if_false, Bool.false_and, Bool.and_false]; exact Ev.now _
      | true => simp only [if_true, Bool.true_and]; exact Ev.bind eg (Ev.now _)
omit h1 h2 in
theorem X2 (KF : Nat → Int → ByteArray → ByteArray → Int → Int → Int → List dS → Int → ByteArray → Option Bool) (hK : qG e t KF) : Ev (fun k => ah.j2 (KF k) k (emp t.f0.f1) (t.f0.f3 == 0) ⟨#[]⟩ t.f0.f0 (decide (t.f0.f0 = 8 ∨ t.f0.f0 = 9 ∨ t.f0.f0 = 10 ∨ t.f0.f0 = 11)) t.f0.f0 t.f0.f1 t.f0.f2 t.f0.f3 t.f0.f4 t.f1 t.f2 t.f3)
    (if t.f0.f0 = 8 ∨ t.f0.f0 = 9 ∨ t.f0.f0 = 10 ∨ t.f0.f0 = 11 then emp t.f0.f1 && ((t.f0.f3 == 0) && (emp t.f0.f2 && KR e t 0)) else E2 e t) := by
  have hK' := hK.up
  refine bF ?_
  simp only [ah.j2, lJ]
  by_cases c : t.f0.f0 = 8 ∨ t.f0.f0 = 9 ∨ t.f0.f0 = 10 ∨ t.f0.f0 = 11
  · rw [decide_eq_true c, if_pos c]; simp only [if_true]
    exact three (hK' ⟨#[]⟩ (rY _))
  · rw [decide_eq_false c, if_neg c]; simp only [Bool.false_eq_true, if_false]
    unfold E2
    by_cases d : t.f0.f0 = 12
    · rw [if_pos d]
      refine aV d ?_
      rw [ops_is]
      refine fQ rfl (Ev.bind (rf qV _ (by decide +kernel)) ?_)
      exact three (hK' ⟨#[101, 101]⟩ (by rw [d]; exact confEE))
    rw [if_neg d]
    refine bS d ?_
    by_cases d2 : t.f0.f0 = 13
    · rw [if_pos d2]
      refine aV d2 ?_
      exact three (hK' ⟨#[101]⟩ (rX _ (by omega)))
    rw [if_neg d2]
    refine bS d2 ?_
    by_cases d3 : t.f0.f0 = 14
    · rw [if_pos d3]
      refine aV d3 ?_
      rw [fns_is]
      refine fQ rfl (Ev.bind (rf qB _ (by decide +kernel)) ?_)
      rw [uI 101 t.f2.length (by omega), kS]
      have hk := hK' ⟨(List.replicate t.f2.length 101).toArray⟩ (qC 101 _ _ (fun i hi => by
        unfold jJ; rw [if_neg (by omega), if_neg (by omega)]; rfl))
      rw [lT] at hk
      cases inF qB t.f0.f1 with
      | false => simp only [Bool.false_eq_true, if_false, Bool.false_and]; exact fQ rfl (Ev.now _)
      | true => simp only [if_true, Bool.true_and]; exact fQ rfl (fQ rfl (three hk))
    · rw [if_neg d3]; exact bS d3 (Ev.now _)
omit h2 in
theorem X1 (KF : Nat → Int → ByteArray → ByteArray → Int → Int → Int → List dS → Int → ByteArray → Option Bool) (hK : qG e t KF) : Ev (fun k => ah.j1 (KF k) k (emp t.f0.f1) (t.f0.f3 == 0) ⟨#[]⟩ t.f0.f0 (decide (t.f0.f0 = 6 ∨ t.f0.f0 = 7)) t.f0.f0 t.f0.f1 t.f0.f2 t.f0.f3 t.f0.f4 t.f1 t.f2 t.f3)
    (if t.f0.f0 = 6 ∨ t.f0.f0 = 7 then iq t.f0.f1 && ((t.f0.f3 == 0) && (emp t.f0.f2 && KR e t 0)) else if t.f0.f0 = 8 ∨ t.f0.f0 = 9 ∨ t.f0.f0 = 10 ∨ t.f0.f0 = 11 then emp t.f0.f1 && ((t.f0.f3 == 0) && (emp t.f0.f2 && KR e t 0)) else E2 e t) := by
  have hK' := hK.up
  have x2 := X2 e t hL _ hK'
  refine bF ?_
  simp only [ah.j1, lJ]
  by_cases c : t.f0.f0 = 6 ∨ t.f0.f0 = 7
  · rw [decide_eq_true c, if_pos c, kE _ h1]; simp only [if_true]
    exact fQ rfl (three (hK' ⟨#[]⟩ (rY _)))
  · rw [decide_eq_false c, if_neg c]; simp only [Bool.false_eq_true, if_false]
    by_cases d8 : t.f0.f0 = 8
    · refine aV d8 ?_
      rw [show (t.f0.f0 == 8) = decide (t.f0.f0 = 8 ∨ t.f0.f0 = 9 ∨ t.f0.f0 = 10 ∨ t.f0.f0 = 11) by rw [Bool.eq_iff_iff, beq_iff_eq, decide_eq_true_iff]; omega]; exact x2
    refine bS d8 ?_
    by_cases d9 : t.f0.f0 = 9
    · refine aV d9 ?_
      rw [show (t.f0.f0 == 9) = decide (t.f0.f0 = 8 ∨ t.f0.f0 = 9 ∨ t.f0.f0 = 10 ∨ t.f0.f0 = 11) by rw [Bool.eq_iff_iff, beq_iff_eq, decide_eq_true_iff]; omega]; exact x2
    refine bS d9 ?_
    by_cases d10 : t.f0.f0 = 10
    · refine aV d10 ?_
      rw [show (t.f0.f0 == 10) = decide (t.f0.f0 = 8 ∨ t.f0.f0 = 9 ∨ t.f0.f0 = 10 ∨ t.f0.f0 = 11) by rw [Bool.eq_iff_iff, beq_iff_eq, decide_eq_true_iff]; omega]; exact x2
    refine bS d10 ?_
    rw [show (t.f0.f0 == 11) = decide (t.f0.f0 = 8 ∨ t.f0.f0 = 9 ∨ t.f0.f0 = 10 ∨ t.f0.f0 = 11) by rw [Bool.eq_iff_iff, beq_iff_eq, decide_eq_true_iff]; omega]; exact x2
def EX (e : Nat) (t : dS) : Bool :=
  if t.f0.f0 = 1 ∨ t.f0.f0 = 2 ∨ t.f0.f0 = 3 ∨ t.f0.f0 = 4 ∨ t.f0.f0 = 5 then emp t.f0.f1 && (mR t.f0.f0 t.f0.f3 && (emp t.f0.f2 && KR e t 0))
  else if t.f0.f0 = 6 ∨ t.f0.f0 = 7 then iq t.f0.f1 && ((t.f0.f3 == 0) && (emp t.f0.f2 && KR e t 0)) else if t.f0.f0 = 8 ∨ t.f0.f0 = 9 ∨ t.f0.f0 = 10 ∨ t.f0.f0 = 11 then emp t.f0.f1 && ((t.f0.f3 == 0) && (emp t.f0.f2 && KR e t 0)) else E2 e t
omit h2 in
theorem exprEv (KF : Nat → Int → ByteArray → ByteArray → Int → Int → Int → List dS → Int → ByteArray → Option Bool) (hK : qG e t KF) : Ev (fun k => ah.f (KF k) k t.f0.f0 t.f0.f1 t.f0.f2 t.f0.f3 t.f0.f4 t.f1 t.f2 t.f3) (EX e t) := by
  have x0 : Ev (fun k => ah.j0 (KF k) k (emp t.f0.f1) (t.f0.f3 == 0) ⟨#[]⟩ t.f0.f0 (decide (t.f0.f0 = 1 ∨ t.f0.f0 = 2 ∨ t.f0.f0 = 3 ∨ t.f0.f0 = 4 ∨ t.f0.f0 = 5)) t.f0.f0 t.f0.f1 t.f0.f2 t.f0.f3 t.f0.f4 t.f1 t.f2 t.f3) (EX e t) := by
    have hK' := hK.up
    have x1 := X1 e t h1 hL _ hK'
    refine bF ?_
    simp only [ah.j0, lJ]
    unfold EX
    by_cases c : t.f0.f0 = 1 ∨ t.f0.f0 = 2 ∨ t.f0.f0 = 3 ∨ t.f0.f0 = 4 ∨ t.f0.f0 = 5
    · rw [decide_eq_true c, if_pos c]; simp only [if_true]
      exact Ev.bind (ll 1 (mQ _ _)) (three (hK' ⟨#[]⟩ (rY _)))
    · rw [decide_eq_false c, if_neg c]; simp only [Bool.false_eq_true, if_false]
      by_cases d : t.f0.f0 = 6
      · refine aV d ?_
        rw [show (t.f0.f0 == 6) = decide (t.f0.f0 = 6 ∨ t.f0.f0 = 7) by rw [Bool.eq_iff_iff, beq_iff_eq, decide_eq_true_iff]; omega]; exact x1
      refine bS d ?_
      rw [show (t.f0.f0 == 7) = decide (t.f0.f0 = 6 ∨ t.f0.f0 = 7) by rw [Bool.eq_iff_iff, beq_iff_eq, decide_eq_true_iff]; omega]; exact x1
  simp only [ah.f, emp_b]
  by_cases d1 : t.f0.f0 = 1
  · refine aV d1 ?_
    rw [show (t.f0.f0 == 1) = decide (t.f0.f0 = 1 ∨ t.f0.f0 = 2 ∨ t.f0.f0 = 3 ∨ t.f0.f0 = 4 ∨ t.f0.f0 = 5) by rw [Bool.eq_iff_iff, beq_iff_eq, decide_eq_true_iff]; omega]; exact x0
  refine bS d1 ?_
  by_cases d2 : t.f0.f0 = 2
  · refine aV d2 ?_
    rw [show (t.f0.f0 == 2) = decide (t.f0.f0 = 1 ∨ t.f0.f0 = 2 ∨ t.f0.f0 = 3 ∨ t.f0.f0 = 4 ∨ t.f0.f0 = 5) by rw [Bool.eq_iff_iff, beq_iff_eq, decide_eq_true_iff]; omega]; exact x0
  refine bS d2 ?_
  by_cases d3 : t.f0.f0 = 3
  · refine aV d3 ?_
    rw [show (t.f0.f0 == 3) = decide (t.f0.f0 = 1 ∨ t.f0.f0 = 2 ∨ t.f0.f0 = 3 ∨ t.f0.f0 = 4 ∨ t.f0.f0 = 5) by rw [Bool.eq_iff_iff, beq_iff_eq, decide_eq_true_iff]; omega]; exact x0
  refine bS d3 ?_
  by_cases d4 : t.f0.f0 = 4
  · refine aV d4 ?_
    rw [show (t.f0.f0 == 4) = decide (t.f0.f0 = 1 ∨ t.f0.f0 = 2 ∨ t.f0.f0 = 3 ∨ t.f0.f0 = 4 ∨ t.f0.f0 = 5) by rw [Bool.eq_iff_iff, beq_iff_eq, decide_eq_true_iff]; omega]; exact x0
  refine bS d4 ?_
  rw [show (t.f0.f0 == 5) = decide (t.f0.f0 = 1 ∨ t.f0.f0 = 2 ∨ t.f0.f0 = 3 ∨ t.f0.f0 = 4 ∨ t.f0.f0 = 5) by rw [Bool.eq_iff_iff, beq_iff_eq, decide_eq_true_iff]; omega]; exact x0
def ST (e : Nat) (t : dS) : Bool :=
  if t.f0.f0 = 20 ∨ t.f0.f0 = 21 then iq t.f0.f1 && (emp t.f0.f2 && ((t.f0.f3 == 0) && KR e t 1))
  else if t.f0.f0 = 22 then emp t.f0.f1 && (emp t.f0.f2 && ((t.f0.f3 == 0) && KR e t 3))
  else if t.f0.f0 = 23 then iq t.f0.f1 && (iq t.f0.f2 && ((t.f0.f3 == 0) && KR e t 1))
  else if t.f0.f0 = 24 then emp t.f0.f1 && (emp t.f0.f2 && (iB 1 99 t.f0.f3 && KR e t 0))
  else if t.f0.f0 = 25 then emp t.f0.f1 && (emp t.f0.f2 && ((t.f0.f3 == 0) && KR e t 1))
  else if t.f0.f0 = 26 then emp t.f0.f1 && (emp t.f0.f2 && ((t.f0.f3 == 0) && KR e t 2))
  else if t.f0.f0 = 27 then (if (t.f2.length : Int) > 40 then false else emp t.f0.f1 && (emp t.f0.f2 && ((t.f0.f3 == 0) && KR e t (t.f2.length : Int)))) else false
theorem stmtEv (KF : Nat → Int → ByteArray → ByteArray → Int → Int → Int → List dS → Int → ByteArray → Option Bool) (hK : qG e t KF) : Ev (fun k => ak.f (KF k) k t.f0.f0 t.f0.f1 t.f0.f2 t.f0.f3 t.f0.f4 t.f1 t.f2 t.f3) (ST e t) := by
  have x0 : Ev (fun k => ak.j0 (KF k) k (emp t.f0.f1) (emp t.f0.f2) (t.f0.f3 == 0) ⟨#[101]⟩ t.f0.f0 (decide (t.f0.f0 = 20 ∨ t.f0.f0 = 21)) t.f0.f0 t.f0.f1 t.f0.f2 t.f0.f3 t.f0.f4 t.f1 t.f2 t.f3) (ST e t) := by
    have hK' := hK.up
    refine bF ?_
    simp only [ak.j0]
    unfold ST
    by_cases c : t.f0.f0 = 20 ∨ t.f0.f0 = 21
    · rw [decide_eq_true c, if_pos c, kE _ h1]; simp only [if_true]
      exact fQ rfl (three (hK' ⟨#[101]⟩ (rX _ (by omega))))
    rw [decide_eq_false c, if_neg c]; simp only [Bool.false_eq_true, if_false]
    by_cases c2 : t.f0.f0 = 22
    · rw [if_pos c2]
      exact aV c2 (three (hK' ⟨#[101, 98, 98]⟩ (by rw [c2]; exact confEBB)))
    rw [if_neg c2]
    refine bS c2 ?_
    by_cases c3 : t.f0.f0 = 23
    · rw [if_pos c3]
      refine aV c3 ?_
      rw [kE _ h1, kE _ h2]
      exact fQ rfl (fQ rfl (three (hK' ⟨#[101]⟩ (rX _ (by omega)))))
    rw [if_neg c3]
    refine bS c3 ?_
    by_cases c4 : t.f0.f0 = 24
    · rw [if_pos c4]
      refine aV c4 ?_
      rw [kS]
      exact fQ rfl (three (hK' ⟨#[]⟩ (rY _)))
    rw [if_neg c4]
    refine bS c4 ?_
    by_cases c5 : t.f0.f0 = 25
    · rw [if_pos c5]
      exact aV c5 (three (hK' ⟨#[101]⟩ (rX _ (by omega))))
    rw [if_neg c5]
    refine bS c5 ?_
    by_cases c6 : t.f0.f0 = 26
    · rw [if_pos c6]
      exact aV c6 (three (hK' ⟨#[101, 98]⟩ (by rw [c6]; exact confEB)))
    rw [if_neg c6]
    refine bS c6 ?_
    by_cases c7 : t.f0.f0 = 27
    · rw [if_pos c7]
      refine aV c7 ?_
      by_cases c8 : (t.f2.length : Int) > 40
      · rw [if_pos c8]; exact aV c8 (Ev.now _)
      · rw [if_neg c8]
        refine bS c8 ?_
        rw [uI 115 t.f2.length (by omega)]
        have hk := hK' ⟨(List.replicate t.f2.length 115).toArray⟩ (qC 115 _ _ (fun i hi => by
          unfold jJ; rw [if_pos c7]; rfl))
        rw [lT] at hk
        exact fQ rfl (three hk)
    · rw [if_neg c7]; exact bS c7 (Ev.now _)
  simp only [ak.f, emp_b]
  by_cases d1 : t.f0.f0 = 20
  · refine aV d1 ?_
    rw [show (t.f0.f0 == 20) = decide (t.f0.f0 = 20 ∨ t.f0.f0 = 21) by rw [Bool.eq_iff_iff, beq_iff_eq, decide_eq_true_iff]; omega]; exact x0
  refine bS d1 ?_
  rw [show (t.f0.f0 == 21) = decide (t.f0.f0 = 20 ∨ t.f0.f0 = 21) by rw [Bool.eq_iff_iff, beq_iff_eq, decide_eq_true_iff]; omega]; exact x0
end
theorem qb (x : S88) : jK x = ((decide (x.f0 = 23) || emp x.f2) && sh1 x) := by
  unfold jK
  by_cases c : x.f0 = 23
  · rw [if_neg (by simp [c]), decide_eq_true c]; simp
  · rw [decide_eq_false c]
    cases h : emp x.f2 with
    | false => rw [if_pos ⟨c, rfl⟩]; rfl
    | true => rw [if_neg (by simp)]; rfl
section
variable (e : Nat) (t : dS) (hf : t.f0.f4 = (t.f2.length : Int))
include hf
theorem f4_is (m : Int) : (t.f0.f4 == m) = decide ((t.f2.length : Int) = m) := by
  rw [hf, Bool.eq_iff_iff, beq_iff_eq, decide_eq_true_iff]
theorem ex_ok : EX e t = okT (e + 1) 1 t := by
  have hm := f4_is t hf
  simp only [okT, qb]
  unfold EX E2 KR sh1 sh2 sh3 sh4 sh5
  simp only [hm]
  simp only [hf, decide_true, Bool.true_and]
  have hi : isB t.f0.f0 1 = decide (t.f0.f0 < 20) := rfl
  rw [hi]
  generalize ja (okT e) t.f0.f0 0 t.f2 = K
  by_cases c0 : t.f0.f0 < 20
  · rw [decide_eq_true c0, decide_eq_false (show ¬ t.f0.f0 = 23 by omega), Bool.true_and, Bool.false_or]
    generalize emp t.f0.f1 = a
    generalize emp t.f0.f2 = b
    by_cases c1 : t.f0.f0 = 1 ∨ t.f0.f0 = 2 ∨ t.f0.f0 = 3 ∨ t.f0.f0 = 4 ∨ t.f0.f0 = 5
    · rw [if_pos c1, if_pos c1]
      generalize mR t.f0.f0 t.f0.f3 = c; generalize decide ((t.f2.length : Int) = 0) = d
      cases a <;> cases b <;> cases c <;> cases d <;> cases K <;> rfl
    rw [if_neg c1, if_neg c1]
    by_cases c2 : t.f0.f0 = 6 ∨ t.f0.f0 = 7
    · rw [if_pos c2, if_pos c2]
      generalize iq t.f0.f1 = c; generalize decide ((t.f2.length : Int) = 0) = d; generalize (t.f0.f3 == 0) = f
      cases f <;> cases b <;> cases c <;> cases d <;> cases K <;> rfl
    rw [if_neg c2, if_neg c2]
    by_cases c3 : t.f0.f0 = 8 ∨ t.f0.f0 = 9 ∨ t.f0.f0 = 10 ∨ t.f0.f0 = 11
    · rw [if_pos c3, if_pos c3]
      generalize decide ((t.f2.length : Int) = 0) = d; generalize (t.f0.f3 == 0) = f
      cases f <;> cases b <;> cases a <;> cases d <;> cases K <;> rfl
    rw [if_neg c3, if_neg c3]
    by_cases c4 : t.f0.f0 = 12
    · rw [if_pos c4, if_pos c4]
      generalize inF qV t.f0.f1 = c; generalize decide ((t.f2.length : Int) = 2) = d; generalize (t.f0.f3 == 0) = f
      cases f <;> cases b <;> cases c <;> cases d <;> cases K <;> rfl
    rw [if_neg c4, if_neg c4]
    by_cases c5 : t.f0.f0 = 13
    · rw [if_pos c5, if_pos (Or.inl c5)]
      generalize decide ((t.f2.length : Int) = 1) = d; generalize (t.f0.f3 == 0) = f
      cases f <;> cases b <;> cases a <;> cases d <;> cases K <;> rfl
    rw [if_neg c5, if_neg (show ¬ (t.f0.f0 = 13 ∨ t.f0.f0 = 25) by omega)]
    by_cases c6 : t.f0.f0 = 14
    · rw [if_pos c6, if_pos c6]
      generalize inF qB t.f0.f1 = c; generalize iB 1 4 (t.f2.length : Int) = d; generalize (t.f0.f3 == 0) = f
      cases f <;> cases b <;> cases c <;> cases d <;> cases K <;> rfl
    rw [if_neg c6, if_neg c6, if_neg (by omega), if_neg (by omega), if_neg (by omega), if_neg (by omega), if_neg (by omega), if_neg (by omega)]
    simp
  · rw [decide_eq_false c0, if_neg (by omega), if_neg (by omega), if_neg (by omega), if_neg (by omega), if_neg (by omega), if_neg (by omega)]; simp
theorem st_ok : ST e t = okT (e + 1) 2 t := by
  have hm := f4_is t hf
  simp only [okT, qb]
  unfold ST KR sh1 sh2 sh3 sh4 sh5
  simp only [hm]
  simp only [hf, decide_true, Bool.true_and]
  have hi : isB t.f0.f0 2 = decide (20 ≤ t.f0.f0 ∧ t.f0.f0 ≤ 27) := rfl
  rw [hi]
  generalize ja (okT e) t.f0.f0 0 t.f2 = K
  by_cases c0 : 20 ≤ t.f0.f0 ∧ t.f0.f0 ≤ 27
  · rw [decide_eq_true c0, Bool.true_and, if_neg (show ¬ (t.f0.f0 = 1 ∨ t.f0.f0 = 2 ∨ t.f0.f0 = 3 ∨ t.f0.f0 = 4 ∨ t.f0.f0 = 5) by omega), if_neg (show ¬ (t.f0.f0 = 6 ∨ t.f0.f0 = 7) by omega), if_neg (show ¬ (t.f0.f0 = 8 ∨ t.f0.f0 = 9 ∨ t.f0.f0 = 10 ∨ t.f0.f0 = 11) by omega), if_neg (show ¬ t.f0.f0 = 12 by omega)]
    by_cases c1 : t.f0.f0 = 20 ∨ t.f0.f0 = 21
    · rw [if_pos c1, if_neg (by omega), if_neg (by omega), if_pos c1, decide_eq_false (show ¬ t.f0.f0 = 23 by omega)]
      generalize iq t.f0.f1 = c; generalize decide ((t.f2.length : Int) = 1) = d; generalize (t.f0.f3 == 0) = f; generalize emp t.f0.f2 = b
      cases f <;> cases b <;> cases c <;> cases d <;> cases K <;> rfl
    rw [if_neg c1]
    by_cases c2 : t.f0.f0 = 22
    · rw [if_pos c2, if_neg (by omega), if_neg (by omega), if_neg c1, if_pos c2, decide_eq_false (show ¬ t.f0.f0 = 23 by omega)]
      generalize emp t.f0.f1 = a; generalize decide ((t.f2.length : Int) = 3) = d; generalize (t.f0.f3 == 0) = f; generalize emp t.f0.f2 = b
      cases f <;> cases b <;> cases a <;> cases d <;> cases K <;> rfl
    rw [if_neg c2]
    by_cases c3 : t.f0.f0 = 23
    · rw [if_pos c3, if_neg (by omega), if_neg (by omega), if_neg c1, if_neg c2, if_pos c3, decide_eq_true c3]
      generalize iq t.f0.f1 = a; generalize iq t.f0.f2 = b; generalize decide ((t.f2.length : Int) = 1) = d; generalize (t.f0.f3 == 0) = f
      cases f <;> cases b <;> cases a <;> cases d <;> cases K <;> rfl
    rw [if_neg c3, decide_eq_false c3]
    by_cases c4 : t.f0.f0 = 24
    · rw [if_pos c4, if_neg (by omega), if_neg (by omega), if_neg c1, if_neg c2, if_neg c3, if_pos c4]
      generalize emp t.f0.f1 = a; generalize decide ((t.f2.length : Int) = 0) = d; generalize iB 1 99 t.f0.f3 = f; generalize emp t.f0.f2 = b
      cases f <;> cases b <;> cases a <;> cases d <;> cases K <;> rfl
    rw [if_neg c4]
    by_cases c5 : t.f0.f0 = 25
    · rw [if_pos c5, if_pos (show t.f0.f0 = 13 ∨ t.f0.f0 = 25 from Or.inr c5)]
      generalize emp t.f0.f1 = a; generalize decide ((t.f2.length : Int) = 1) = d; generalize (t.f0.f3 == 0) = f; generalize emp t.f0.f2 = b
      cases f <;> cases b <;> cases a <;> cases d <;> cases K <;> rfl
    rw [if_neg c5, if_neg (show ¬ (t.f0.f0 = 13 ∨ t.f0.f0 = 25) by omega), if_neg (show ¬ t.f0.f0 = 14 by omega), if_neg c1, if_neg c2, if_neg c3, if_neg c4]
    by_cases c6 : t.f0.f0 = 26
    · rw [if_pos c6, if_pos c6]
      generalize emp t.f0.f1 = a; generalize decide ((t.f2.length : Int) = 2) = d; generalize (t.f0.f3 == 0) = f; generalize emp t.f0.f2 = b
      cases f <;> cases b <;> cases a <;> cases d <;> cases K <;> rfl
    rw [if_neg c6, if_neg c6, if_pos (show t.f0.f0 = 27 by omega), if_pos (show t.f0.f0 = 27 by omega)]
    have h40 : iB 0 40 (t.f2.length : Int) = !(decide ((t.f2.length : Int) > 40)) := by
      unfold iB
      by_cases h : (t.f2.length : Int) > 40
      · rw [decide_eq_true h, decide_eq_false (show ¬ (t.f2.length : Int) ≤ 40 by omega)]; simp
      · rw [decide_eq_false h, decide_eq_true (show (t.f2.length : Int) ≤ 40 by omega), decide_eq_true (show (0 : Int) ≤ (t.f2.length : Int) by omega)]; rfl
    rw [h40]
    by_cases h : (t.f2.length : Int) > 40
    · rw [if_pos h, decide_eq_true h]; simp
    · rw [if_neg h, decide_eq_false h]
      generalize emp t.f0.f1 = a; generalize (t.f0.f3 == 0) = f; generalize emp t.f0.f2 = b
      cases f <;> cases b <;> cases a <;> cases K <;> rfl
  · rw [decide_eq_false c0, if_neg (by omega), if_neg (by omega), if_neg (by omega), if_neg (by omega), if_neg (by omega), if_neg (by omega), if_neg (by omega)]; simp
end
def Fits : Nat → dS → Prop
  | 0, _ => False
  | e + 1, t => (t.f0.f1.size ≤ 1048576 ∧ t.f0.f2.size ≤ 1048576) ∧ t.f2.length ≤ 150 ∧ t.f0.f4 = (t.f2.length : Int) ∧ ∀ c ∈ t.f2, Fits e c
theorem tQ (l : List S88) (hz : ∀ x ∈ l, x.f1.size ≤ 1048576 ∧ x.f2.size ≤ 1048576) : ∀ (e at_ : Nat) t nx, grow l e at_ = some (t, nx) → Fits e t := by
  intro e
  induction e with
  | zero => intro at_ t nx h; cases h
  | succ e ih =>
    intro at_ t nx h
    simp only [grow] at h
    by_cases c : at_ < l.length
    · rw [if_pos c] at h
      by_cases d : 0 ≤ (av l (at_ : Int)).f4 ∧ (av l (at_ : Int)).f4 ≤ 150
      · rw [if_pos d] at h
        obtain ⟨p, hp, h⟩ := Option.bind_eq_some_iff.mp h
        have key : ∀ (m : Nat) (acc : List dS) (dp : Int) (at_ : Nat) acc' dp' nx, (∀ c ∈ acc, Fits e c) → iW (grow l e) m acc dp at_ = some (acc', dp', nx) → (∀ c ∈ acc', Fits e c) ∧ acc'.length = acc.length + m := by
          intro m
          induction m with
          | zero => intro acc dp at_ acc' dp' nx ha h; simp only [iW, Option.some.injEq, Prod.mk.injEq] at h; rw [← h.1]; exact ⟨ha, rfl⟩
          | succ m ih2 =>
            intro acc dp at_ acc' dp' nx ha h
            simp only [iW] at h
            obtain ⟨q, hq, h⟩ := Option.bind_eq_some_iff.mp h
            have := ih2 _ _ _ _ _ _ (fun c hc => by
              rcases List.mem_append.1 hc with z | z
              · exact ha c z
              · rw [List.mem_singleton.1 z]; exact ih at_ q.1 q.2 hq) h
            refine ⟨this.1, ?_⟩
            rw [this.2, List.length_append, List.length_singleton]; omega
        simp only [Option.some.injEq, Prod.mk.injEq] at h
        have kk := key _ _ _ _ _ _ _ (fun c hc => by cases hc) hp
        rw [← h.1]
        refine ⟨nT l hz at_ c, ?_, ?_, kk.1⟩
        · show p.1.length ≤ 150; rw [kk.2]; simp; omega
        · show (av l (at_ : Int)).f4 = (p.1.length : Int); rw [kk.2]; simp; omega
      · rw [if_neg d] at h; cases h
    · rw [if_neg c] at h; cases h
theorem uq : ∀ (e : Nat) (t : dS), Fits e t →
    Ev (fun k => ah.f (ag.f k) k t.f0.f0 t.f0.f1 t.f0.f2 t.f0.f3 t.f0.f4 t.f1 t.f2 t.f3) (okT e 1 t) ∧ Ev (fun k => ak.f (ag.f k) k t.f0.f0 t.f0.f1 t.f0.f2 t.f0.f3 t.f0.f4 t.f1 t.f2 t.f3) (okT e 2 t) := by
  intro e
  induction e with
  | zero => intro t h; cases h
  | succ e ih =>
    intro t h
    obtain ⟨⟨h1, h2⟩, hL, hf, hk⟩ := h
    have hK : qG e t ag.f := fun s hs => kidsEv e t hL (fun c hc => ih c (hk c hc)) s hs
    rw [← ex_ok e t hf, ← st_ok e t hf]
    exact ⟨exprEv e t h1 hL ag.f hK, stmtEv e t h1 h2 hL ag.f hK⟩
/-- A list of nodes that is right. -/
def jP (l : List S88) : Bool := decide (l.length ≤ 150) && (match grow l 20 0 with | some p => decide (p.2 = l.length) && okT 20 3 p.1 | none => false)
theorem mG (l : List S88) (hl : l.length ≤ 1048576) (hz : ∀ x ∈ l, x.f1.size ≤ 1048576 ∧ x.f2.size ≤ 1048576) : Ev (fun k => cz.f k l) (jP l) := by
  simp only [cz.f]
  unfold jP
  by_cases c : l.length ≤ 150
  · rw [decide_eq_true c, Bool.true_and]
    refine aV (by omega) (Ev.bind (uC l c hz 20 0 3 1 (by omega) (by omega) (by omega)) ?_)
    rw [oI]
    cases hg : grow l 20 0 with
    | none => simp only [Option.bind_none, mF]; rw [show ((-1 : Int) == (l.length : Int)) = false from by rw [beq_eq_false_iff_ne]; omega]; exact Ev.now _
    | some p =>
      simp only [Option.bind_some]
      cases okT 20 3 p.1 with
      | false => simp only [Bool.false_eq_true, if_false, mF, Bool.and_false]; rw [show ((-1 : Int) == (l.length : Int)) = false from by rw [beq_eq_false_iff_ne]; omega]; exact Ev.now _
      | true => simp only [if_true, mF, Bool.and_true]; rw [show ((p.2 : Int) == (l.length : Int)) = decide (p.2 = l.length) from by rw [Bool.eq_iff_iff, beq_iff_eq, decide_eq_true_iff]; omega]; exact Ev.now _
  · rw [decide_eq_false c, Bool.false_and]
    exact bS (by omega) (Ev.now _)
theorem mH (l : List S88) (hl : l.length ≤ 1048576) (hz : ∀ x ∈ l, x.f1.size ≤ 1048576 ∧ x.f2.size ≤ 1048576) : Ev (fun k => cB.f k l) (jP l) := by
  simp only [cB.f, fE.f]
  unfold jP
  by_cases c : l.length ≤ 150
  · rw [decide_eq_true c, Bool.true_and]
    have hg0 := vL l c 20 0 1 (by omega) (by omega) (by omega)
    cases hg : grow l 20 0 with
    | none =>
      rw [hg] at hg0
      refine Ev.bind (a := ((0 : Int), (⟨#[]⟩ : ByteArray), (⟨#[]⟩ : ByteArray), (0 : Int), (0 : Int), (0 : Int), ([] : List dS), (0 : Int), false)) (bS (by omega) (Ev.bind hg0 ?_)) ?_
      · simp only [outT, Bool.false_eq_true, if_false]; exact Ev.now _
      · simp only [Bool.false_eq_true, if_false]; exact Ev.now _
    | some p =>
      obtain ⟨⟨⟨t0, t1, t2, t3, t4⟩, t5, t6, t7⟩, nx⟩ := p
      rw [hg] at hg0
      have hfit := tQ l hz 20 0 _ _ hg
      have hs := (uq 20 _ hfit).2
      refine Ev.bind (a := (t0, t1, t2, t3, t4, t5, t6, t7, ((nx : Int) == (l.length : Int)))) (bS (by omega) (Ev.bind hg0 ?_)) ?_
      · simp only [outT, if_true]; exact Ev.now _
      · simp only
        rw [show ((nx : Int) == (l.length : Int)) = decide (nx = l.length) from by rw [Bool.eq_iff_iff, beq_iff_eq, decide_eq_true_iff]; omega]
        rw [ok3]
        by_cases d : nx = l.length
        · rw [decide_eq_true d, Bool.true_and]; simp only [if_true]
          by_cases k : t0 = 27
          · refine aV k (Ev.bind ?_ (Ev.now _))
            rw [decide_eq_true (show (⟨⟨t0, t1, t2, t3, t4⟩, t5, t6, t7⟩ : dS).f0.f0 = 27 from k), Bool.true_and]
            simp only [dQ.f]
            exact hs
          · rw [decide_eq_false (show ¬ (⟨⟨t0, t1, t2, t3, t4⟩, t5, t6, t7⟩ : dS).f0.f0 = 27 from k), Bool.false_and]
            exact bS k (Ev.now _)
        · rw [decide_eq_false d, Bool.false_and]; simp only [Bool.false_eq_true, if_false]; exact Ev.now _
  · rw [decide_eq_false c, Bool.false_and]
    refine Ev.bind (aV (by omega) (Ev.now _)) ?_
    simp only [Bool.false_eq_true, if_false]; exact Ev.now _
def o7 (x : S83) : Bool := mR x.f1 x.f2 && (mR x.f1 x.f3 && decide (x.f2 ≤ x.f3))
theorem parSpec (x : S83) : Ev (fun k => dC.f k x.f0 x.f1 x.f2 x.f3) (o7 x) := by
  simp only [dC.f]
  unfold o7
  refine Ev.bind (ll 1 (mO _ _)) ?_
  cases mR x.f1 x.f2 with
  | false => simp only [Bool.false_eq_true, if_false, Bool.false_and]; exact Ev.now _
  | true =>
    simp only [if_true, Bool.true_and]
    refine Ev.bind (ll 1 (mO _ _)) ?_
    cases mR x.f1 x.f3 with
    | false => simp only [Bool.false_eq_true, if_false, Bool.false_and]; exact Ev.now _
    | true => simp only [if_true, Bool.true_and]; exact Ev.now _
theorem rdPmR (l : List S83) (i : Nat) (h : i < l.length) : aX l (i : Int) = l[i] := by
  unfold aX; rw [Int.toNat_natCast, List.getD_eq_getElem?_getD, List.getElem?_eq_getElem h]; rfl
/-- The names are free, and no two are alike: from the i-th on. -/
def nmB (L : List ByteArray) : Nat → Nat → Bool
  | 0, _ => true
  | d + 1, i => iq (fG ByteArray.empty L (i : Int)) && (!(inF (L.take i) (fG ByteArray.empty L (i : Int))) && nmB L d (i + 1))
section
variable (a : ByteArray) (b : Int) (C D : List ByteArray) (P : List S83) (X Y Z : List S88)
def lG (X Y Z : List S88) : Bool := jP X && (jP Y && jP Z)
def kI (X : List S88) : Prop := X.length ≤ 1048576 ∧ ∀ x ∈ X, x.f1.size ≤ 1048576 ∧ x.f2.size ≤ 1048576
variable (hX : kI X) (hY : kI Y) (hZ : kI Z)
include hX hY hZ
theorem ql : Ev (fun k => (cz.f k X).bind fun t173 => (if t173 = true then ((cz.f k Y).bind fun t174 => (if t174 = true then ((cz.f k Z).bind fun t175 => (some t175)) else (some false))) else (some false))) (lG X Y Z) := by
  unfold lG
  refine Ev.bind (mG X hX.1 hX.2) ?_
  cases jP X with
  | false => simp only [Bool.false_eq_true, if_false, Bool.false_and]; exact Ev.now _
  | true =>
    simp only [if_true, Bool.true_and]
    refine Ev.bind (mG Y hY.1 hY.2) ?_
    cases jP Y with
    | false => simp only [Bool.false_eq_true, if_false, Bool.false_and]; exact Ev.now _
    | true => simp only [if_true, Bool.true_and]; exact Ev.bind (mG Z hZ.1 hZ.2) (Ev.now _)
theorem qm : Ev (fun k => (cB.f k X).bind fun t173 => (if t173 = true then ((cB.f k Y).bind fun t174 => (if t174 = true then ((cB.f k Z).bind fun t175 => (some t175)) else (some false))) else (some false))) (lG X Y Z) := by
  unfold lG
  refine Ev.bind (mH X hX.1 hX.2) ?_
  cases jP X with
  | false => simp only [Bool.false_eq_true, if_false, Bool.false_and]; exact Ev.now _
  | true =>
    simp only [if_true, Bool.true_and]
    refine Ev.bind (mH Y hY.1 hY.2) ?_
    cases jP Y with
    | false => simp only [Bool.false_eq_true, if_false, Bool.false_and]; exact Ev.now _
    | true => simp only [if_true, Bool.true_and]; exact Ev.bind (mH Z hZ.1 hZ.2) (Ev.now _)
theorem nm_spec (L : List ByteArray) (hL : L.length ≤ 2000000) (hs : ∀ x ∈ L, x.size ≤ 1048576) : ∀ (d i : Nat), L.length - i = d → Ev (fun k => ai.l1 k L (i : Int) a b C D P X Y Z) (nmB L d i && lG X Y Z) := by
  intro d
  induction d with
  | zero =>
    intro i hd
    refine bF ?_
    simp only [ai.l1, nmB, Bool.true_and]
    exact bS (eD (by omega)) (ql X Y Z hX hY hZ)
  | succ d ih =>
    intro i hd
    have hi : i < L.length := by omega
    refine bF ?_
    simp only [ai.l1, nmB]
    refine aV (fB hi) (aV (gD i) (Ev.bind (kD _ (by rw [nS L i hi]; exact hs _ (List.getElem_mem hi))) ?_))
    cases iq (fG ByteArray.empty L (i : Int)) with
    | false => simp only [Bool.false_eq_true, if_false, Bool.false_and]; exact Ev.now _
    | true =>
      simp only [if_true, Bool.true_and]
      refine aV (by omega) ?_
      rw [Int.toNat_natCast]
      refine Ev.bind (qZ _ _ (by rw [List.length_take]; omega)) ?_
      cases inF (L.take i) (fG ByteArray.empty L (i : Int)) with
      | true => simp only [if_true, Bool.not_true, Bool.false_and]; exact Ev.now _
      | false => simp only [Bool.false_eq_true, if_false, Bool.not_false, Bool.true_and]; rw [jG hi (by omega)]; exact ih (i + 1) (by omega)
theorem nm_impl (L : List ByteArray) (hL : L.length ≤ 2000000) (hs : ∀ x ∈ L, x.size ≤ 1048576) : ∀ (d i : Nat), L.length - i = d → Ev (fun k => aA.l1 k L L (L.length : Int) (i : Int) a b C D P X Y Z) (nmB L d i && lG X Y Z) := by
  intro d
  induction d with
  | zero =>
    intro i hd
    refine bF ?_
    simp only [aA.l1, nmB, Bool.true_and]
    exact bS (eD (by omega)) (qm X Y Z hX hY hZ)
  | succ d ih =>
    intro i hd
    have hi : i < L.length := by omega
    refine bF ?_
    simp only [aA.l1, nmB]
    refine aV (fB hi) (aV (gD i) (aV (fB hi) (fQ (kE _ (by rw [nS L i hi]; exact hs _ (List.getElem_mem hi))) ?_)))
    cases iq (fG ByteArray.empty L (i : Int)) with
    | false => simp only [Bool.false_eq_true, if_false, Bool.false_and]; exact Ev.now _
    | true =>
      simp only [if_true, Bool.true_and]
      refine aV (by omega) ?_
      rw [Int.toNat_natCast]
      refine Ev.bind (rf _ _ (by rw [List.length_take]; omega)) ?_
      cases inF (L.take i) (fG ByteArray.empty L (i : Int)) with
      | true => simp only [if_true, Bool.not_true, Bool.false_and]; exact Ev.now _
      | false => simp only [Bool.false_eq_true, if_false, Bool.not_false, Bool.true_and]; rw [jG hi (by omega)]; exact ih (i + 1) (by omega)
def pY (L : List ByteArray) (X Y Z : List S88) : Bool := nmB L L.length 0 && lG X Y Z
theorem uO (hP : P.length ≤ 1000000) (hps : ∀ x ∈ P, x.f0.size ≤ 1048576) : ∀ (d i : Nat) (acc : List ByteArray), P.length - i = d → acc.length + d ≤ 2000000 → (∀ x ∈ acc, x.size ≤ 1048576) →
    Ev (fun k => ai.l0 k acc (i : Int) a b C D P X Y Z) ((P.drop i).all o7 && pY (acc ++ (P.drop i).map (·.f0)) X Y Z) := by
  intro d
  induction d with
  | zero =>
    intro i acc hd hq ha
    refine bF ?_
    simp only [ai.l0]
    rw [List.drop_eq_nil_of_le (by omega), List.all_nil, List.map_nil, List.append_nil, Bool.true_and]
    exact bS (eD (by omega)) (nm_spec a b C D P X Y Z hX hY hZ acc (by omega) ha _ 0 rfl)
  | succ d ih =>
    intro i acc hd hq ha
    have hi : i < P.length := by omega
    refine bF ?_
    simp only [ai.l0, rdPmR P i hi]
    rw [List.drop_eq_getElem_cons hi, List.all_cons, List.map_cons]
    refine aV (fB hi) (aV (gD i) (aV (by omega) (Ev.bind (parSpec _) ?_)))
    cases o7 P[i] with
    | false => simp only [Bool.false_eq_true, if_false, Bool.false_and]; exact Ev.now _
    | true =>
      simp only [if_true, Bool.true_and]
      rw [jG hi (by omega)]
      have e := ih (i + 1) (acc ++ [P[i].f0]) (by omega) (by rw [List.length_append, List.length_singleton]; omega) (fun x hx => by
        rcases List.mem_append.1 hx with z | z
        · exact ha x z
        · rw [List.mem_singleton.1 z]; exact hps _ (List.getElem_mem hi))
      rwa [List.append_assoc, List.singleton_append] at e
theorem uP (hP : P.length ≤ 1000000) (hps : ∀ x ∈ P, x.f0.size ≤ 1048576) : ∀ (d i : Nat) (acc : List ByteArray), P.length - i = d → acc.length + d ≤ 2000000 → (∀ x ∈ acc, x.size ≤ 1048576) →
    Ev (fun k => aA.l0 k acc P (P.length : Int) (i : Int) a b C D P X Y Z) ((P.drop i).all o7 && pY (acc ++ (P.drop i).map (·.f0)) X Y Z) := by
  intro d
  induction d with
  | zero =>
    intro i acc hd hq ha
    refine bF ?_
    simp only [aA.l0]
    rw [List.drop_eq_nil_of_le (by omega), List.all_nil, List.map_nil, List.append_nil, Bool.true_and]
    exact bS (eD (by omega)) (nm_impl a b C D P X Y Z hX hY hZ acc (by omega) ha _ 0 rfl)
  | succ d ih =>
    intro i acc hd hq ha
    have hi : i < P.length := by omega
    refine bF ?_
    simp only [aA.l0, rdPmR P i hi]
    rw [List.drop_eq_getElem_cons hi, List.all_cons, List.map_cons]
    refine aV (fB hi) (aV (gD i) (aV (fB hi) (aV (by omega) ?_)))
    unfold o7
    refine Ev.bind (ll 1 (mQ _ _)) ?_
    cases mR P[i].f1 P[i].f2 with
    | false => simp only [Bool.false_eq_true, if_false, Bool.false_and]; exact Ev.now _
    | true =>
      simp only [if_true, Bool.true_and]
      refine Ev.bind (ll 1 (mQ _ _)) ?_
      cases mR P[i].f1 P[i].f3 with
      | false => simp only [Bool.false_eq_true, if_false, Bool.false_and]; exact Ev.now _
      | true =>
        simp only [if_true, Bool.true_and]
        by_cases c : P[i].f2 ≤ P[i].f3
        · rw [decide_eq_true c, Bool.true_and]
          refine bS (by omega) ?_
          rw [jG hi (by omega)]
          have e := ih (i + 1) (acc ++ [P[i].f0]) (by omega) (by rw [List.length_append, List.length_singleton]; omega) (fun x hx => by
            rcases List.mem_append.1 hx with z | z
            · exact ha x z
            · rw [List.mem_singleton.1 z]; exact hps _ (List.getElem_mem hi))
          rwa [List.append_assoc, List.singleton_append] at e
        · rw [decide_eq_false c, Bool.false_and]; exact aV (by omega) (Ev.now _)
end
theorem rZ (A B : List ByteArray) (hA : A.length ≤ 1000) (hB : B.length ≤ 1000) : Ev (fun k => aj.f k [A, B]) (A ++ B) := by
  have r0 : ky [A, B] 0 = A := rfl
  have r1 : ky [A, B] 1 = B := rfl
  have w0 : wrap64 (0 + (A.length : Int)) = (A.length : Int) := by rw [w64 (by omega) (by omega)]; omega
  have w1 : wrap64 ((A.length : Int) + (B.length : Int)) = (A.length : Int) + (B.length : Int) := w64 (by omega) (by omega)
  have v0 : wrap64 (0 + 1) = 1 := by rw [w64 (by omega) (by omega)]; rfl
  have v1 : wrap64 (1 + 1) = 2 := by rw [w64 (by omega) (by omega)]; rfl
  have l2 : (([A, B] : List (List ByteArray)).length : Int) = 2 := rfl
  simp only [aj.f, l2]
  refine bF ?_
  simp only [aj.l0, l2, r0, w0, v0]
  refine aV (by decide) (aV (by decide) (aV (by decide) (bS (by omega) (bF ?_))))
  simp only [aj.l0, l2, r1, w1, v1]
  refine aV (by decide) (aV (by decide) (aV (by decide) (bS (by omega) (bF ?_))))
  simp only [aj.l0, l2]
  refine bS (by decide) (fQ (a := []) (by unfold eZ.f; rw [if_pos ⟨rfl, by omega, by omega⟩]) (bF ?_))
  simp only [aj.l1, l2, r0, v0, List.nil_append]
  refine aV (by decide) (aV (by decide) (aV (by decide) (aV (by simp; omega) (bF ?_))))
  simp only [aj.l1, l2, r1, v1]
  refine aV (by decide) (aV (by decide) (aV (by decide) (aV (by omega) (bF ?_))))
  simp only [aj.l1]
  exact bS (by decide) (Ev.now _)
/-- A product that is right. -/
def kQ (a : ByteArray) (b : Int) (C D : List ByteArray) (P : List S83) (X Y Z : List S88) : Bool :=
  iq a && (iB 1 3 b && (decide (C.length ≤ 4) && (iB 1 6 (D.length : Int) && (decide (P.length ≤ 8) && (P.all o7 && pY (C ++ D ++ P.map (·.f0)) X Y Z)))))
structure rJ (a : ByteArray) (C D : List ByteArray) (P : List S83) (X Y Z : List S88) : Prop where
  ha : a.size ≤ 1048576
  hC : ∀ x ∈ C, x.size ≤ 1048576
  hD : ∀ x ∈ D, x.size ≤ 1048576
  hP : ∀ x ∈ P, x.f0.size ≤ 1048576
  hX : kI X
  hY : kI Y
  hZ : kI Z
section
variable (a : ByteArray) (b : Int) (C D : List ByteArray) (P : List S83) (X Y Z : List S88) (h : rJ a C D P X Y Z)
include h
theorem oV : ∀ x ∈ C ++ D, x.size ≤ 1048576 := fun x hx => by
  rcases List.mem_append.1 hx with z | z
  · exact h.hC x z
  · exact h.hD x z
theorem rU (q : Bool) (hc : q = false → C.length ≤ 4 ∧ D.length ≤ 6 ∧ P.length ≤ 8) : Ev (fun k => ai.j0 k q a b C D P X Y Z) (!q && (P.all o7 && pY (C ++ D ++ P.map (·.f0)) X Y Z)) := by
  refine bF ?_
  simp only [ai.j0]
  cases q with
  | true => simp only [if_true, Bool.not_true, Bool.false_and]; exact Ev.now _
  | false =>
    obtain ⟨c1, c2, c3⟩ := hc rfl
    simp only [Bool.false_eq_true, if_false, Bool.not_false, Bool.true_and, Option.bind_some, List.nil_append]
    refine aV (by simp; omega) (aV (by omega) ?_)
    have e := uO a b C D P X Y Z h.hX h.hY h.hZ (by omega) h.hP _ 0 (C ++ D) rfl (by rw [List.length_append]; omega) (oV a C D P X Y Z h)
    rwa [List.drop_zero] at e
theorem rV (q : Bool) (hc : q = false → C.length ≤ 4 ∧ D.length ≤ 6 ∧ P.length ≤ 8) : Ev (fun k => aA.j0 k q a b C D P X Y Z) (!q && (P.all o7 && pY (C ++ D ++ P.map (·.f0)) X Y Z)) := by
  refine bF ?_
  simp only [aA.j0]
  cases q with
  | true => simp only [if_true, Bool.not_true, Bool.false_and]; exact Ev.now _
  | false =>
    obtain ⟨c1, c2, c3⟩ := hc rfl
    simp only [Bool.false_eq_true, if_false, Bool.not_false, Bool.true_and]
    refine Ev.bind (rZ C D (by omega) (by omega)) ?_
    have e := uP a b C D P X Y Z h.hX h.hY h.hZ (by omega) h.hP _ 0 (C ++ D) rfl (by rw [List.length_append]; omega) (oV a C D P X Y Z h)
    rwa [List.drop_zero] at e
theorem uM : Ev (fun k => ai.f k a b C D P X Y Z) (kQ a b C D P X Y Z) := by
  have jt := rU a b C D P X Y Z h true (fun z => by cases z)
  simp only [Bool.not_true, Bool.false_and] at jt
  simp only [ai.f]
  refine Ev.bind (kD a h.ha) ?_
  unfold kQ iB
  cases iq a with
  | false => simp only [Bool.false_eq_true, if_false, Bool.false_and]; exact jt
  | true =>
    simp only [if_true, Bool.true_and]
    by_cases c1 : b < 1
    · rw [decide_eq_false (show ¬ (1 : Int) ≤ b by omega), Bool.false_and, Bool.false_and]; exact aV c1 jt
    rw [decide_eq_true (show (1 : Int) ≤ b by omega), Bool.true_and]; refine bS c1 ?_
    by_cases c2 : b > 3
    · rw [decide_eq_false (show ¬ b ≤ 3 by omega), Bool.false_and]; exact aV c2 jt
    rw [decide_eq_true (show b ≤ 3 by omega), Bool.true_and]; refine bS c2 ?_
    by_cases c3 : (C.length : Int) > 4
    · rw [decide_eq_false (show ¬ C.length ≤ 4 by omega), Bool.false_and]; exact aV c3 jt
    rw [decide_eq_true (show C.length ≤ 4 by omega), Bool.true_and]; refine bS c3 ?_
    by_cases c4 : (D.length : Int) < 1
    · rw [decide_eq_false (show ¬ (1 : Int) ≤ (D.length : Int) by omega), Bool.false_and, Bool.false_and]; exact aV c4 jt
    rw [decide_eq_true (show (1 : Int) ≤ (D.length : Int) by omega), Bool.true_and]; refine bS c4 ?_
    by_cases c5 : (D.length : Int) > 6
    · rw [decide_eq_false (show ¬ (D.length : Int) ≤ 6 by omega), Bool.false_and]; exact aV c5 jt
    rw [decide_eq_true (show (D.length : Int) ≤ 6 by omega), Bool.true_and]; refine bS c5 ?_
    have e := rU a b C D P X Y Z h (decide ((P.length : Int) > 8)) (fun z => by have := of_decide_eq_false z; omega)
    rw [show (!(decide ((P.length : Int) > 8))) = decide (P.length ≤ 8) from by rw [Bool.eq_iff_iff]; simp; omega] at e
    exact e
theorem uN : Ev (fun k => aA.f k a b C D P X Y Z) (kQ a b C D P X Y Z) := by
  have jt := rV a b C D P X Y Z h true (fun z => by cases z)
  simp only [Bool.not_true, Bool.false_and] at jt
  simp only [aA.f, gq.f, kS, Option.bind_some]
  refine fQ (kE a h.ha) ?_
  unfold kQ
  cases iq a with
  | false => simp only [Bool.false_eq_true, if_false, Bool.false_and]; exact jt
  | true =>
    simp only [if_true, Bool.true_and]
    cases iB 1 3 b with
    | false => simp only [Bool.false_eq_true, if_false, Bool.false_and]; exact jt
    | true =>
      simp only [if_true, Bool.true_and]
      by_cases c3 : (C.length : Int) > 4
      · rw [decide_eq_false (show ¬ C.length ≤ 4 by omega), Bool.false_and]; exact aV c3 jt
      rw [decide_eq_true (show C.length ≤ 4 by omega), Bool.true_and]; refine bS c3 ?_
      cases c4 : iB 1 6 (D.length : Int) with
      | false => simp only [Bool.false_eq_true, if_false, Bool.false_and]; exact jt
      | true =>
        simp only [if_true, Bool.true_and]
        have hD : (D.length : Int) ≤ 6 := by unfold iB at c4; simp at c4; omega
        have e := rV a b C D P X Y Z h (decide ((P.length : Int) > 8)) (fun z => by have := of_decide_eq_false z; omega)
        rw [show (!(decide ((P.length : Int) > 8))) = decide (P.length ≤ 8) from by rw [Bool.eq_iff_iff]; simp; omega] at e
        exact e
end
theorem uH (p : PL) (h : p.small) : rJ p.a p.l2 p.l3 (p.l4.map cP) (p.l5.map cN) (p.l6.map cN) (p.l7.map cN) := by
  have n : ∀ l : List S81, l.length ≤ 1048576 → (∀ x ∈ l, x.f1.size + x.f2.size ≤ 1048576) → kI (l.map cN) := fun l h1 h2 => ⟨by rw [List.length_map]; exact h1, fun x hx => by
    obtain ⟨y, hy, rfl⟩ := List.mem_map.1 hx
    have := h2 y hy
    exact ⟨by show y.f1.size ≤ _; omega, by show y.f2.size ≤ _; omega⟩⟩
  exact ⟨h.sa, h.s2, h.s3, fun x hx => by
    obtain ⟨y, hy, rfl⟩ := List.mem_map.1 hx
    exact h.s4 y hy, n _ h.h5 h.s5, n _ h.h6 h.s6, n _ h.h7 h.s7⟩
theorem mt_l0 : ∀ (d : Nat) (n : Int) (x : ByteArray), 0 ≤ n → n ≤ 4611686018427387904 → n < 10 ^ d → x.size + d ≤ 1000 → ∃ t, Ev (fun k => aK.l0 k n x) t := by
  intro d
  induction d with
  | zero =>
    intro n x h0 hb h1 h2
    have : n = 0 := by simp at h1; omega
    subst this
    refine ⟨(⟨#[109]⟩ : ByteArray) ++ x, bF ?_⟩
    simp only [aK.l0, if_neg (show ¬ (0 : Int) > 0 by omega)]
    exact aV (show 1 + x.size ≤ 9223372036854775807 by omega) (Ev.now _)
  | succ d ih =>
    intro n x h0 hb h1 h2
    by_cases hn : n > 0
    · have hs : (strOfNums [(wrap64 (48 + (Int.tmod n 10))) % 256]).size = 1 := by simp [strOfNums, ByteArray.size]
      have hq : Int.tdiv n 10 = n / 10 := uu h0
      have hw : wrap64 (n / 10) = n / 10 := w64 (by omega) (by omega)
      have h1' : n < 10 ^ d * 10 := by rw [← Int.pow_succ]; exact h1
      obtain ⟨t, e⟩ := ih (n / 10) (strOfNums [(wrap64 (48 + (Int.tmod n 10))) % 256] ++ x) (by omega) (by omega) (by omega) (by rw [ByteArray.size_append, hs]; omega)
      refine ⟨t, bF ?_⟩
      simp only [aK.l0, if_pos hn, Option.bind_some, hq, hw]
      exact aV (show (strOfNums [(wrap64 (48 + (Int.tmod n 10))) % 256]).size + x.size ≤ 9223372036854775807 by omega) e
    · refine ⟨(⟨#[109]⟩ : ByteArray) ++ x, bF ?_⟩
      simp only [aK.l0, if_neg hn]
      exact aV (show 1 + x.size ≤ 9223372036854775807 by omega) (Ev.now _)
theorem mt_ex (n : Int) (h0 : 0 ≤ n) (h1 : n ≤ 4611686018427387904) : ∃ t, Ev (fun k => aK.f k n) t := by
  by_cases h : n ≤ 0
  · refine ⟨⟨#[109, 48]⟩, ?_⟩
    simp only [aK.f, if_pos h]; exact Ev.now _
  · obtain ⟨t, e⟩ := mt_l0 19 n ⟨#[]⟩ h0 h1 (by omega) (by simp [ByteArray.size])
    refine ⟨t, ?_⟩
    simp only [aK.f, if_neg h]; exact e
open Classical in
/-- The text of a mark. -/
noncomputable def mtF (n : Int) : ByteArray := if h : ∃ t, Ev (fun k => aK.f k n) t then Classical.choose h else ByteArray.empty
theorem mt_ev (n : Int) (h0 : 0 ≤ n) (h1 : n ≤ 4611686018427387904) : Ev (fun k => aK.f k n) (mtF n) := by
  have h := mt_ex n h0 h1
  unfold mtF
  rw [dif_pos h]
  exact Classical.choose_spec h
theorem qp (n : Int) (h0 : 0 ≤ n) (h1 : n ≤ 4611686018427387904) : ∃ K, ∀ k, K ≤ k → aK.f k n = some (mtF n) := mt_ev n h0 h1
noncomputable def mS (v : Int) : ByteArray := mtF v
noncomputable def mP (v : Int) : S83 := ⟨mtF v, v + 1, v + 2, v + 3⟩
noncomputable def mN (v : Int) : S88 := ⟨v, mtF (v + 1), mtF (v + 2), v + 3, v + 4⟩
theorem uK (l : List S83) (i : Nat) (h : i < l.length) (x : S83) : aX (l.set i x) (i : Int) = x := by
  rw [rdPm _ i (by rw [List.length_set]; exact h), List.getElem_set_self]
theorem rdN_set (l : List S88) (i : Nat) (h : i < l.length) (x : S88) : av (l.set i x) (i : Int) = x := by
  rw [rdN _ i (by rw [List.length_set]; exact h), List.getElem_set_self]
theorem oN (l : List ByteArray) (hl : l.length ≤ 1048576) (v : Int) (h0 : 0 ≤ v) (h1 : v ≤ 4611686018000000000) : Ev (fun k => bH.f k l v) (v + ((1 * l.length : Nat) : Int), marked mS 1 l.length v) := by
  simp only [bH.f]
  refine lW mS 1 (by omega) bH.l0 (fun l v i hl hi a b => ?_) (fun k l v => by simp only [bH.l0, if_neg (eD (Nat.lt_irrefl _))]) l hl v h0 h1
  obtain ⟨K, hK⟩ := qp v a (by omega)
  refine ⟨K, fun k hk => ?_⟩
  simp only [bH.l0, if_pos (fB hi), hK k hk, Option.bind_some, if_pos (gD i), jr hi (show l.length ≤ 140737488351232 by omega), Int.toNat_natCast, w64 (a := v + 1) (by omega) (by omega)]
  rfl
theorem tL (l : List S83) (hl : l.length ≤ 1048576) (v : Int) (h0 : 0 ≤ v) (h1 : v ≤ 4611686018000000000) : Ev (fun k => bU.f k l v) (v + ((4 * l.length : Nat) : Int), marked mP 4 l.length v) := by
  simp only [bU.f]
  refine lW mP 4 (by omega) bU.l0 (fun l v i hl hi a b => ?_) (fun k l v => by simp only [bU.l0, if_neg (eD (Nat.lt_irrefl _))]) l hl v h0 h1
  obtain ⟨K, hK⟩ := qp v a (by omega)
  refine ⟨K, fun k hk => ?_⟩
  simp only [bU.l0, if_pos (fB hi), hK k hk, Option.bind_some, if_pos (gD i), jr hi (show l.length ≤ 140737488351232 by omega), Int.toNat_natCast, w64 (a := v + 1) (by omega) (by omega), w64 (a := v + 1 + 1) (by omega) (by omega), w64 (a := v + 1 + 1 + 1) (by omega) (by omega), w64 (a := v + 1 + 1 + 1 + 1) (by omega) (by omega)]
  simp only [List.set_set, uK l i hi]
  rw [show v + 1 + 1 + 1 + 1 = v + ((4 : Nat) : Int) by omega, show (⟨mtF v, v + 1, v + 1 + 1, v + 1 + 1 + 1⟩ : S83) = mP v by unfold mP; rw [show v + 1 + 1 = v + 2 by omega, show v + 2 + 1 = v + 3 by omega]]
theorem mJ (l : List S88) (hl : l.length ≤ 1048576) (v : Int) (h0 : 0 ≤ v) (h1 : v ≤ 4611686018000000000) : Ev (fun k => bM.f k l v) (v + ((5 * l.length : Nat) : Int), marked mN 5 l.length v) := by
  simp only [bM.f]
  refine lW mN 5 (by omega) bM.l0 (fun l v i hl hi a b => ?_) (fun k l v => by simp only [bM.l0, if_neg (eD (Nat.lt_irrefl _))]) l hl v h0 h1
  obtain ⟨K1, hK1⟩ := qp (v + 1) (by omega) (by omega)
  obtain ⟨K2, hK2⟩ := qp (v + 2) (by omega) (by omega)
  refine ⟨max K1 K2, fun k hk => ?_⟩
  have w1 : wrap64 (v + 1) = v + 1 := w64 (by omega) (by omega)
  have w2 : wrap64 (v + 1 + 1) = v + 2 := by rw [w64 (by omega) (by omega)]; omega
  have w3 : wrap64 (v + 2 + 1) = v + 3 := by rw [w64 (by omega) (by omega)]; omega
  have w4 : wrap64 (v + 3 + 1) = v + 4 := by rw [w64 (by omega) (by omega)]; omega
  have w5 : wrap64 (v + 4 + 1) = v + ((5 : Nat) : Int) := by rw [w64 (by omega) (by omega)]; omega
  simp only [bM.l0, if_pos (fB hi), if_pos (gD i), w1, w2, w3, w4, w5, hK1 k (by omega), hK2 k (by omega), Option.bind_some, jr hi (show l.length ≤ 140737488351232 by omega), Int.toNat_natCast, List.set_set, rdN_set l i hi]
  rfl
theorem qw (p : PL) (h : p.small) : ∃ x, Ev (fun k => dW.f k p.a p.b p.l2 p.l3 (p.l4.map cP) (p.l5.map cN) (p.l6.map cN) (p.l7.map cN) 1) x ∧ 0 ≤ x.1 ∧ x.1 ≤ 1000000000 := by
  have q2 := h.h2; have q3 := h.h3; have q4 := h.h4; have q5 := h.h5; have q6 := h.h6; have q7 := h.h7
  have r4 : (p.l4.map cP).length ≤ 1048576 := by rw [List.length_map]; exact q4
  have r5 : (p.l5.map cN).length ≤ 1048576 := by rw [List.length_map]; exact q5
  have r6 : (p.l6.map cN).length ≤ 1048576 := by rw [List.length_map]; exact q6
  have r7 : (p.l7.map cN).length ≤ 1048576 := by rw [List.length_map]; exact q7
  obtain ⟨v2, e2⟩ : ∃ v : Int, v = 1 + ((1 * p.l2.length : Nat) : Int) := ⟨_, rfl⟩
  obtain ⟨v3, e3⟩ : ∃ v : Int, v = v2 + ((1 * p.l3.length : Nat) : Int) := ⟨_, rfl⟩
  obtain ⟨v4, e4⟩ : ∃ v : Int, v = v3 + ((4 * (p.l4.map cP).length : Nat) : Int) := ⟨_, rfl⟩
  obtain ⟨v5, e5⟩ : ∃ v : Int, v = v4 + ((5 * (p.l5.map cN).length : Nat) : Int) := ⟨_, rfl⟩
  obtain ⟨v6, e6⟩ : ∃ v : Int, v = v5 + ((5 * (p.l6.map cN).length : Nat) : Int) := ⟨_, rfl⟩
  obtain ⟨v7, e7⟩ : ∃ v : Int, v = v6 + ((5 * (p.l7.map cN).length : Nat) : Int) := ⟨_, rfl⟩
  have m2 := oN p.l2 q2 1 (by omega) (by omega)
  have m3 := oN p.l3 q3 v2 (by omega) (by omega)
  have m4 := tL _ r4 v3 (by omega) (by omega)
  have m5 := mJ _ r5 v4 (by omega) (by omega)
  have m6 := mJ _ r6 v5 (by omega) (by omega)
  have m7 := mJ _ r7 v6 (by omega) (by omega)
  rw [← e2] at m2
  rw [← e3] at m3
  rw [← e4] at m4
  rw [← e5] at m5
  rw [← e6] at m6
  rw [← e7] at m7
  refine ⟨(v7, marked mS 1 p.l2.length 1, marked mS 1 p.l3.length v2, marked mP 4 (p.l4.map cP).length v3, marked mN 5 (p.l5.map cN).length v4, marked mN 5 (p.l6.map cN).length v5, marked mN 5 (p.l7.map cN).length v6), ?_, (show 0 ≤ v7 by omega), (show v7 ≤ 1000000000 by omega)⟩
  · simp only [dW.f]
    refine Ev.bind m2 ?_
    refine Ev.bind m3 ?_
    refine Ev.bind m4 ?_
    refine Ev.bind m5 ?_
    refine Ev.bind m6 ?_
    refine Ev.bind m7 ?_
    exact Ev.now _
theorem rdV (l : List S58) (i : Nat) (h : i < l.length) : aD l (i : Int) = l[i] := by
  unfold aD; rw [Int.toNat_natCast, List.getD_eq_getElem?_getD, List.getElem?_eq_getElem h]; rfl
theorem rdVl (l : List S91) (i : Nat) (h : i < l.length) : kP l (i : Int) = l[i] := by
  unfold kP; rw [Int.toNat_natCast, List.getD_eq_getElem?_getD, List.getElem?_eq_getElem h]; rfl
theorem rdA (l : List S60) (i : Nat) (h : i < l.length) : cZ l (i : Int) = l[i] := by
  unfold cZ; rw [Int.toNat_natCast, List.getD_eq_getElem?_getD, List.getElem?_eq_getElem h]; rfl
theorem rdV_set (l : List S58) (i : Nat) (h : i < l.length) (x : S58) : aD (l.set i x) (i : Int) = x := by
  rw [rdV _ i (by rw [List.length_set]; exact h), List.getElem_set_self]
theorem rdA_set (l : List S60) (i : Nat) (h : i < l.length) (x : S60) : cZ (l.set i x) (i : Int) = x := by
  rw [rdA _ i (by rw [List.length_set]; exact h), List.getElem_set_self]
def cV (x : S91) : S58 := ⟨x.f0, x.f1, x.f2⟩
theorem toV_ev (l : List S91) (hl : l.length ≤ 1048576) : Ev (fun k => dh.f k l) (l.map cV) := by
  simp only [dh.f, if_pos (gD l.length), Int.toNat_natCast, if_pos (show l.length ≤ 11728124029610 by omega)]
  refine qX cV dh.l0 1048576 (fun k x y i hB hx hy => ?_) (fun k x y => by simp only [dh.l0, if_neg (eD (Nat.lt_irrefl _))]) l _ (List.length_replicate) hl
  simp only [dh.l0, if_pos (fB hx), if_pos (gD i), iF.f, Option.bind_some, if_pos (fB hy), rdVl x i hx, jr hx (show x.length ≤ 140737488351232 by omega), Int.toNat_natCast]; rfl
theorem eqV_ev (l : List S58) (hl : l.length ≤ 140737488351232) : Ev (fun k => bq.f k l l) true := by
  simp only [bq.f, if_true]
  exact pE true (fun k l => bq.l0 k l l) l (fun k i hi => by simp only [bq.l0, if_pos (fB hi), if_pos (gD i), gX.f, if_true, Option.bind_some, jr hi hl]) (fun k => by simp only [bq.l0, if_neg (eD (Nat.lt_irrefl _))])
theorem eqA_ev (l : List S60) (hl : l.length ≤ 140737488351232) : Ev (fun k => bK.f k l l) true := by
  simp only [bK.f, if_true]
  exact pE true (fun k l => bK.l0 k l l) l (fun k i hi => by simp only [bK.l0, if_pos (fB hi), if_pos (gD i), iO.f, if_true, Option.bind_some, jr hi hl]) (fun k => by simp only [bK.l0, if_neg (eD (Nat.lt_irrefl _))])
def mV (v : Int) : S58 := ⟨v, v + 1, v + 2⟩
noncomputable def mA (v : Int) : S60 := ⟨mtF v, mtF (v + 1), v + 2⟩
section
variable {v : Int} (a : 0 ≤ v) (b : v ≤ 4611686018100000000)
include a b
theorem v1 : wrap64 (v + 1) = v + 1 := w64 (by omega) (by omega)
theorem v2 : wrap64 (v + 1 + 1) = v + 2 := by rw [w64 (by omega) (by omega)]; omega
theorem v3 : wrap64 (v + 2 + 1) = v + ((3 : Nat) : Int) := by rw [w64 (by omega) (by omega)]; omega
end
theorem uV (l : List S58) (hl : l.length ≤ 1048576) (v : Int) (h0 : 0 ≤ v) (h1 : v ≤ 4611686018000000000) : Ev (fun k => bT.f k l v) (v + ((3 * l.length : Nat) : Int), marked mV 3 l.length v) := by
  simp only [bT.f]
  refine lW mV 3 (by omega) bT.l0 (fun l v i hl hi a b => ⟨0, fun k hk => ?_⟩) (fun k l v => by simp only [bT.l0, if_neg (eD (Nat.lt_irrefl _))]) l hl v h0 h1
  simp only [bT.l0, if_pos (fB hi), if_pos (gD i), Option.bind_some, v1 a b, v2 a b, v3 a b, jr hi (show l.length ≤ 140737488351232 by omega), Int.toNat_natCast, List.set_set, rdV_set l i hi]
  rfl
theorem uW (l : List S60) (hl : l.length ≤ 1048576) (v : Int) (h0 : 0 ≤ v) (h1 : v ≤ 4611686018000000000) : Ev (fun k => dm.f k l v) (v + ((3 * l.length : Nat) : Int), marked mA 3 l.length v) := by
  simp only [dm.f]
  refine lW mA 3 (by omega) dm.l0 (fun l v i hl hi a b => ?_) (fun k l v => by simp only [dm.l0, if_neg (eD (Nat.lt_irrefl _))]) l hl v h0 h1
  obtain ⟨K1, hK1⟩ := qp v a (by omega)
  obtain ⟨K2, hK2⟩ := qp (v + 1) (by omega) (by omega)
  refine ⟨max K1 K2, fun k hk => ?_⟩
  simp only [dm.l0, if_pos (fB hi), if_pos (gD i), v1 a b, v2 a b, v3 a b, hK1 k (by omega), hK2 k (by omega), Option.bind_some, jr hi (show l.length ≤ 140737488351232 by omega), Int.toNat_natCast, List.set_set, rdA_set l i hi]
  rfl
theorem vM (n : Nat) (hn : n ≤ 1048576) (v : Int) (h0 : 0 ≤ v) (h1 : v ≤ 4611686018000000000) : Ev (fun k => aT.f k (marked mA 3 n v) v) (v + ((3 * n : Nat) : Int)) := by
  simp only [aT.f]
  refine held_ev mA 3 (by omega) aT.l0 (fun l v i hl hi he a b => ?_) (fun k l v => by simp only [aT.l0, if_neg (eD (Nat.lt_irrefl _))]) n hn v h0 h1
  obtain ⟨K1, hK1⟩ := qp v a (by omega)
  obtain ⟨K2, hK2⟩ := qp (v + 1) (by omega) (by omega)
  refine ⟨max K1 K2, fun k hk => ?_⟩
  simp only [aT.l0, if_pos (fB hi), if_pos (gD i), rdA l i hi, he, mA, if_true, v1 a b, v2 a b, v3 a b, hK1 k (by omega), hK2 k (by omega), Option.bind_some, jr hi (show l.length ≤ 140737488351232 by omega)]
section
variable (N : List ByteArray)
def inB (x : S58) : Bool := decide ((0 ≤ x.f0 ∧ x.f0 < (N.length : Int)) ∧ (0 ≤ x.f1 ∧ x.f1 < (N.length : Int)))
def actF (x : S58) : S60 := ⟨fG ByteArray.empty N x.f0, fG ByteArray.empty N x.f1, x.f2⟩
abbrev OutL := List S60 × Int × Int × Int × Int
def nQ (m : List S58) (acc : List S60) (a b c e : Int) : OutL := if m.all (inB N) = true then (acc ++ m.map (actF N), a, b, c, e) else ([], 0, 0, 0, 0)
variable (x : S58) (m : List S58) (acc : List S60) (a b c e : Int)
theorem qd : nQ N [] acc a b c e = (acc, a, b, c, e) := by simp [nQ]
theorem rQ (h : inB N x = true) : nQ N (x :: m) acc a b c e = nQ N m (acc ++ [actF N x]) a b c e := by simp [nQ, h]
theorem kw (h : inB N x = false) : nQ N (x :: m) acc a b c e = ([], 0, 0, 0, 0) := by simp [nQ, h]
end
section
variable (N : List ByteArray) (l : List S58) (hl : l.length ≤ 20) (a b c e : Int)
include hl
theorem vs_l0 : ∀ (d i : Nat) (acc : List S60), l.length - i = d → i ≤ l.length → acc.length = i → Ev (fun k => aQ.l0 k N (i : Int) l a b c e acc a b c e) (nQ N (l.drop i) acc a b c e) := by
  intro d
  induction d with
  | zero =>
    intro i acc hd hi ha
    obtain rfl : i = l.length := by omega
    rw [List.drop_length, qd]
    refine bF ?_
    simp only [aQ.l0]
    exact bS (eD (Nat.lt_irrefl _)) (Ev.now _)
  | succ d ih =>
    intro i acc hd hi ha
    have h : i < l.length := by omega
    rw [List.drop_eq_getElem_cons h]
    refine bF ?_
    simp only [aQ.l0, rdV l i h, jr h (show l.length ≤ 140737488351232 by omega)]
    refine aV (fB h) (aV (gD i) ?_)
    have ih' := ih (i + 1) (acc ++ [actF N l[i]]) (by omega) (by omega) (by simp [ha])
    generalize l[i] = x at ih' ⊢
    by_cases c1 : x.f0 < 0
    · rw [kw N x _ _ _ _ _ _ (decide_eq_false (by omega))]; exact aV c1 (Ev.now _)
    by_cases c2 : x.f1 < 0
    · rw [kw N x _ _ _ _ _ _ (decide_eq_false (by omega))]; exact bS c1 (aV c2 (Ev.now _))
    by_cases c3 : x.f0 ≥ (N.length : Int)
    · rw [kw N x _ _ _ _ _ _ (decide_eq_false (by omega))]; exact bS c1 (bS c2 (aV c3 (Ev.now _)))
    by_cases c4 : x.f1 ≥ (N.length : Int)
    · rw [kw N x _ _ _ _ _ _ (decide_eq_false (by omega))]; exact bS c1 (bS c2 (bS c3 (aV c4 (Ev.now _))))
    rw [rQ N x _ _ _ _ _ _ (decide_eq_true (by omega))]
    exact bS c1 (bS c2 (bS c3 (bS c4 (aV (by omega) (aV (by omega) (aV (by omega) (aV (by omega) (aV (by omega) ih'))))))))
theorem vi_l0 (hN : N.length ≤ 1000) : ∀ (d i : Nat) (acc : List S60), l.length - i = d → i ≤ l.length → acc.length = i → Ev (fun k => aY.l0 k N l (l.length : Int) (i : Int) acc a b c e) (nQ N (l.drop i) acc a b c e) := by
  intro d
  induction d with
  | zero =>
    intro i acc hd hi ha
    obtain rfl : i = l.length := by omega
    rw [List.drop_length, qd]
    refine bF ?_
    simp only [aY.l0]
    exact bS (eD (Nat.lt_irrefl _)) (Ev.now _)
  | succ d ih =>
    intro i acc hd hi ha
    have h : i < l.length := by omega
    rw [List.drop_eq_getElem_cons h]
    refine bF ?_
    simp only [aY.l0, rdV l i h, jr h (show l.length ≤ 140737488351232 by omega), kS, Option.bind_some, w64 (a := (N.length : Int) - 1) (by omega) (by omega)]
    refine aV (fB h) (aV (gD i) (aV (fB h) ?_))
    have ih' := ih (i + 1) (acc ++ [actF N l[i]]) (by omega) (by omega) (by simp [ha])
    generalize l[i] = x at ih' ⊢
    have ib : ∀ y : Int, iB 0 ((N.length : Int) - 1) y = decide (0 ≤ y ∧ y < (N.length : Int)) := fun y => by
      unfold iB
      rw [← Bool.decide_and]
      exact decide_eq_decide.2 (by omega)
    simp only [ib, decide_eq_true_eq]
    by_cases c1 : 0 ≤ x.f0 ∧ x.f0 < (N.length : Int)
    · by_cases c2 : 0 ≤ x.f1 ∧ x.f1 < (N.length : Int)
      · rw [rQ N x _ _ _ _ _ _ (decide_eq_true ⟨c1, c2⟩)]
        exact aV c1 (aV c2 (aV c1.1 (aV c1.2 (aV c2.1 (aV c2.2 (aV (by omega) ih'))))))
      · rw [kw N x _ _ _ _ _ _ (decide_eq_false (fun h => c2 h.2))]; exact aV c1 (bS c2 (Ev.now _))
    · rw [kw N x _ _ _ _ _ _ (decide_eq_false (fun h => c1 h.1))]; exact bS c1 (Ev.now _)
end
def vmF (q : Bool) (N : List ByteArray) (l : List S58) (a b c e : Int) : OutL := if q = true then (if l.length ≤ 20 then nQ N l [] a b c e else ([], 0, 0, 0, 0)) else ([], 0, 0, 0, 0)
theorem vmF_len (q : Bool) (N : List ByteArray) (l : List S58) (a b c e : Int) : (vmF q N l a b c e).1.length ≤ 20 := by
  unfold vmF nQ
  split
  · split
    · split
      · simp; omega
      · simp
    · simp
  · simp
section
variable (a : ByteArray) (b : Int) (C D : List ByteArray) (P : List S83) (X Y Z : List S88) (h : rJ a C D P X Y Z) (l : List S58) (n1 n2 n3 n4 : Int)
include h
theorem vmSpec (hC : C.length ≤ 1048576) (hD : D.length ≤ 1048576) : Ev (fun k => aQ.f k a b C D P X Y Z l n1 n2 n3 n4) (vmF (kQ a b C D P X Y Z) (D ++ C) l n1 n2 n3 n4) := by
  have jt : Ev (fun k => aQ.j0 k (D ++ C) true l n1 n2 n3 n4) ([], 0, 0, 0, 0) := bF (by simp only [aQ.j0, if_true]; exact Ev.now _)
  simp only [aQ.f, Option.bind_some, List.nil_append]
  refine aV (by simp; omega) (aV (by omega) (Ev.bind (uM a b C D P X Y Z h) ?_))
  unfold vmF
  cases kQ a b C D P X Y Z with
  | false => simp only [Bool.false_eq_true, if_false]; exact jt
  | true =>
    simp only [if_true]
    by_cases c : l.length ≤ 20
    · rw [if_pos c, decide_eq_false (show ¬ (l.length : Int) > 20 by omega)]
      refine bF ?_
      simp only [aQ.j0, Bool.false_eq_true, if_false]
      exact vs_l0 (D ++ C) l c n1 n2 n3 n4 _ 0 [] rfl (by omega) rfl
    · rw [if_neg c, decide_eq_true (show (l.length : Int) > 20 by omega)]; exact jt
theorem vmImpl : Ev (fun k => aY.f k a b C D P X Y Z l n1 n2 n3 n4) (vmF (kQ a b C D P X Y Z) (D ++ C) l n1 n2 n3 n4) := by
  have jt : Ev (fun k => aY.j0 k true a b C D P X Y Z l n1 n2 n3 n4) ([], 0, 0, 0, 0) := bF (by simp only [aY.j0, if_true]; exact Ev.now _)
  simp only [aY.f]
  refine Ev.bind (uN a b C D P X Y Z h) ?_
  unfold vmF
  cases hq : kQ a b C D P X Y Z with
  | false => simp only [Bool.false_eq_true, if_false]; exact jt
  | true =>
    simp only [kQ, iB, Bool.and_eq_true, decide_eq_true_eq] at hq
    obtain ⟨_, _, hc, ⟨_, hd⟩, _⟩ := hq
    simp only [if_true]
    by_cases c : l.length ≤ 20
    · rw [if_pos c, decide_eq_false (show ¬ (l.length : Int) > 20 by omega)]
      refine bF ?_
      simp only [aY.j0, Bool.false_eq_true, if_false]
      refine Ev.bind (rZ D C (by omega) (by omega)) ?_
      exact vi_l0 (D ++ C) l c n1 n2 n3 n4 (by rw [List.length_append]; omega) _ 0 [] rfl (by omega) rfl
    · rw [if_neg c, decide_eq_true (show (l.length : Int) > 20 by omega)]; exact jt
end
theorem FnExactVmNamed : laws_FnExactVmNamed.Pure := by
  intro a b l2 l3 l4 l5 l6 l7 v n1 n2 n3 n4 ha _ h2 h3 h4 h5 h6 h7 hv _ _ _ _
  refine Ev.rounds (g := fun k => laws_FnExactVmNamed.f k a b l2 l3 l4 l5 l6 l7 v n1 n2 n3 n4) ?_
  simp only [laws_FnExactVmNamed.f]
  obtain ⟨p, hp⟩ : ∃ p : PL, p = ⟨a, b, l2, l3, l4, l5, l6, l7⟩ := ⟨_, rfl⟩
  have hok : p.ok := by
    subst hp
    exact ⟨ha, h2, h3, ⟨h4.1, fun x hx => (h4.2 x hx).1⟩, ⟨h5.1, fun x hx => ⟨(h5.2 x hx).2.1, (h5.2 x hx).2.2.1⟩⟩, ⟨h6.1, fun x hx => ⟨(h6.2 x hx).2.1, (h6.2 x hx).2.2.1⟩⟩, ⟨h7.1, fun x hx => ⟨(h7.2 x hx).2.1, (h7.2 x hx).2.2.1⟩⟩⟩
  obtain ⟨u, eu, hu, hu1⟩ := sZ p hok 1048576 (by omega) (by omega)
  have hto := sW p
  have heq := tT p
  have hsm := uH p
  have hmk := qw p
  have hlen : p.small → p.l2.length ≤ 1048576 ∧ p.l3.length ≤ 1048576 := fun h => ⟨h.h2, h.h3⟩
  subst hp
  refine Ev.bind eu ?_
  by_cases hu0 : u < 0
  · simp only [if_pos hu0]; exact Ev.now _
  have hs := hu (by omega)
  simp only [if_neg hu0]
  have hvm := hv.1
  unfold maxLen at hvm
  have hw : wrap64 (u - (v.length : Int)) = u - (v.length : Int) := w64 (by omega) (by omega)
  by_cases hn : u - (v.length : Int) < 0
  · refine fQ (a := -1) (by simp only [gG.f, gu.f, hw, if_pos hn, Option.bind_some]; rfl) ?_
    simp only [if_pos (show (-1 : Int) < 0 by decide)]; exact Ev.now _
  refine fQ (a := u - (v.length : Int)) (by simp only [gG.f, gu.f, hw, if_neg hn, Option.bind_some]) ?_
  simp only [if_neg hn]
  have hv2 : (v.map cV).length ≤ 1048576 := by rw [List.length_map]; omega
  have hte : Ev (fun k => dI.f k v n1 n2 n3 n4) (v.map cV, n1, n2, n3, n4) := by
    simp only [dI.f]; exact Ev.bind (toV_ev v (by omega)) (Ev.now _)
  have qv : Ev (fun k => fA.f k (v.map cV) n1 n2 n3 n4 (v.map cV) n1 n2 n3 n4) true := by
    simp only [fA.f, if_true]; exact Ev.bind (eqV_ev _ (by omega)) (by simp only [if_true]; exact Ev.now _)
  have vs := vmSpec _ b _ _ _ _ _ _ (hsm hs) (v.map cV) n1 n2 n3 n4 (hlen hs).1 (hlen hs).2
  have vi := vmImpl _ b _ _ _ _ _ _ (hsm hs) (v.map cV) n1 n2 n3 n4
  have hA := vmF_len (kQ a b l2 l3 (l4.map cP) (l5.map cN) (l6.map cN) (l7.map cN)) (l3 ++ l2) (v.map cV) n1 n2 n3 n4
  simp only at vs vi
  generalize vmF (kQ a b l2 l3 (l4.map cP) (l5.map cN) (l6.map cN) (l7.map cN)) (l3 ++ l2) (v.map cV) n1 n2 n3 n4 = R at vs vi hA
  obtain ⟨A, r1, r2, r3, r4⟩ := R
  simp only at hA
  have qo : Ev (fun k => dP.f k A r1 r2 r3 r4 A r1 r2 r3 r4) true := by
    simp only [dP.f, if_true]; exact Ev.bind (eqA_ev A (by omega)) (by simp only [if_true]; exact Ev.now _)
  obtain ⟨x, ex, x0, x1⟩ := hmk hs
  have mv : Ev (fun k => eP.f k (v.map cV) n1 n2 n3 n4 x.1) (x.1 + ((3 * (v.map cV).length : Nat) : Int), marked mV 3 (v.map cV).length x.1) := by
    simp only [eP.f]; exact Ev.bind (uV _ hv2 _ x0 (by omega)) (Ev.now _)
  have mo : Ev (fun k => dX.f k A r1 r2 r3 r4 1) (1 + ((3 * A.length : Nat) : Int), marked mA 3 A.length 1) := by
    simp only [dX.f]; exact Ev.bind (uW A (by omega) 1 (by omega) (by omega)) (Ev.now _)
  have n0 : ¬ 1 + ((3 * A.length : Nat) : Int) < 0 := by omega
  have ho : Ev (fun k => dM.f k (marked mA 3 A.length 1) r1 r2 r3 r4 1) (1 + ((3 * A.length : Nat) : Int)) := by
    simp only [dM.f]; exact Ev.bind (vM A.length (by omega) 1 (by omega) (by omega)) (bS n0 (Ev.now _))
  refine Ev.bind (hto hs) (Ev.bind hte (Ev.bind vs (Ev.bind (hto hs) (Ev.bind hte (Ev.bind vi (Ev.bind qo (aV rfl ?_)))))))
  refine Ev.bind (hto hs) (Ev.bind (heq hs) (aV rfl ?_))
  refine Ev.bind hte (Ev.bind qv (aV rfl ?_))
  refine Ev.bind ex (Ev.bind mv (bS (show ¬ x.1 + ((3 * (v.map cV).length : Nat) : Int) < 0 by omega) (Ev.bind qo (bF ?_))))
  simp only [laws_FnExactVmNamed.j0, Bool.not_true, Bool.false_eq_true, if_false]
  refine Ev.bind mo (Ev.bind ho (bS n0 (aV rfl ?_)))
  exact Ev.bind (hto hs) (Ev.bind hte (Ev.bind vi (Ev.bind qo (aV rfl (Ev.bind ho (bS n0 (aV rfl (Ev.now _))))))))
end Go.Proofs.YthpjnjplgmaofaaGreatDoor.Pure
