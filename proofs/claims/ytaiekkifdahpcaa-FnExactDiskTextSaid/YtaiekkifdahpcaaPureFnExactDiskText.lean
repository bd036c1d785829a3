/- At every disk the program's DiskText is the reference's DiskText. No condition beyond the row's own. -/
import Derived.Test.YtaiekkifdahpcaaPFnExactDiskTextx3
import Derived.Test.YtaiekkifdahpcaaQLib
namespace Go.Proofs.Ytaiekkifdahpcaa.Pure
set_option linter.unusedSimpArgs false
set_option linter.unusedVariables false
open Go.RowKit Go.Proofs.Ytaiekkifdahpcaa.PFnExactDiskText Go.Proofs.YtaiekkifdahpcaaW.PrintWords Go.Proofs.YtaiekkifdahpcaaW.PrintLast Go.Proofs.YtaiekkifdahpcaaW.PrintMore
open Go.Proofs.Ytaiekkifdahpcaa.Q
theorem eqS_l0 (l : List ByteArray) (hl : l.length ≤ 140737488351232) : ∀ (d i : Nat), l.length - i = d → Ev (fun k => laws_eqStringS.l0 k l l i) true := by
  intro d
  induction d with
  | zero =>
    intro i hd
    refine ev_succ ?_
    simp only [laws_eqStringS.l0, if_neg (natNotLt (show ¬ i < l.length by omega))]; exact Ev.now _
  | succ d ih =>
    intro i hd
    refine ev_succ ?_
    have hi : i < l.length := by omega
    simp only [laws_eqStringS.l0, if_pos (natLt hi), if_pos (nat0 i), if_true, wsucc hi hl]
    exact ih _ (by omega)
theorem eqS_ev (l : List ByteArray) (hl : l.length ≤ 140737488351232) : Ev (fun k => laws_eqStringS.f k l l) true := by
  simp only [laws_eqStringS.f, if_true]; exact eqS_l0 l hl _ 0 rfl

def tot (l : List ByteArray) : Nat := (l.map (·.size)).sum
theorem rd_at (l : List ByteArray) (i : Nat) (h : i < l.length) : rdOf ByteArray.empty l (i : Int) = l[i] := by
  unfold rdOf; rw [Int.toNat_natCast, List.getD_eq_getElem?_getD, List.getElem?_eq_getElem h]; rfl
theorem drop_at {α : Type} (l : List α) (i : Nat) (h : i < l.length) : l.drop i = l[i] :: l.drop (i + 1) := List.drop_eq_getElem_cons h
theorem tot_at (l : List ByteArray) (i : Nat) (h : i < l.length) : tot (l.drop i) = l[i].size + tot (l.drop (i + 1)) := by
  rw [drop_at l i h]; unfold tot; rw [List.map_cons, List.sum_cons]
theorem tot_mem (l : List ByteArray) (x : ByteArray) (h : x ∈ l) : x.size ≤ tot l := by
  induction l with
  | nil => cases h
  | cons y l ih =>
    rcases List.mem_cons.1 h with rfl | h
    · simp [tot]
    · have := ih h; simp only [tot, List.map_cons, List.sum_cons] at this ⊢; omega
theorem szS_l0 (l : List ByteArray) (hl : l.length ≤ 140737488351232) (hx : ∀ x ∈ l, x.size ≤ maxLen) : ∀ (d i : Nat) (left : Int), l.length - i = d → 0 ≤ left → left ≤ 1048576 →
    ∃ t, Ev (fun k => laws_szStringS.l0 k l left i) t ∧ (0 ≤ t → t + (tot (l.drop i) : Int) ≤ left) ∧ t ≤ left := by
  intro d
  induction d with
  | zero =>
    intro i left hd h0 h1
    refine ⟨left, ev_succ ?_, fun _ => ?_, Int.le_refl _⟩
    · simp only [laws_szStringS.l0, if_neg (natNotLt (show ¬ i < l.length by omega))]; exact Ev.now _
    · rw [List.drop_eq_nil_of_le (by omega)]; simp [tot]
  | succ d ih =>
    intro i left hd h0 h1
    have hi : i < l.length := by omega
    have hs := hx _ (List.getElem_mem hi)
    unfold maxLen at hs
    have hw : wrap64 (left - (l[i].size : Int)) = left - (l[i].size : Int) := w64 (by omega) (by omega)
    by_cases hn : left - (l[i].size : Int) < 0
    · refine ⟨-1, ev_succ ?_, fun h => absurd h (by decide), by omega⟩
      simp only [laws_szStringS.l0, if_pos (natLt hi), if_pos (nat0 i), rd_at l i hi, hw, if_pos hn]; exact Ev.now _
    · obtain ⟨t, e, h2, h3⟩ := ih (i + 1) (left - l[i].size) (by omega) (by omega) (by omega)
      refine ⟨t, ev_succ ?_, fun h => ?_, by omega⟩
      · simp only [laws_szStringS.l0, if_pos (natLt hi), if_pos (nat0 i), rd_at l i hi, hw, if_neg hn, wsucc hi hl]; exact e
      · have := h2 h; rw [tot_at l i hi]; omega
theorem szS_ev (l : List ByteArray) (hm : l.length ≤ maxLen) (hx : ∀ x ∈ l, x.size ≤ maxLen) (left : Int) (h0 : 0 ≤ left) (h1 : left ≤ 1048576) :
    ∃ t, Ev (fun k => laws_szStringS.f k l left) t ∧ (0 ≤ t → t + (l.length : Int) + (tot l : Int) ≤ left) := by
  unfold maxLen at hm
  have hw : wrap64 (left - (l.length : Int)) = left - (l.length : Int) := w64 (by omega) (by omega)
  by_cases hn : left - (l.length : Int) < 0
  · refine ⟨-1, ?_, fun h => absurd h (by decide)⟩
    simp only [laws_szStringS.f, hw, if_pos hn]; exact Ev.now _
  · obtain ⟨t, e, h2, _⟩ := szS_l0 l (by omega) hx l.length 0 (left - l.length) (by omega) (by omega) (by omega)
    refine ⟨t, ?_, fun h => ?_⟩
    · simp only [laws_szStringS.f, hw, if_neg hn]; exact e
    · have := h2 h; rw [List.drop_zero] at this; omega
theorem toS_l0 (l : List ByteArray) (hl : l.length ≤ 17592186044416) : ∀ (d i : Nat) (x : List ByteArray), l.length - i = d → i ≤ l.length → x.length = l.length → x.take i = l.take i → Ev (fun k => laws_toStringS.l0 k l x i) l := by
  intro d
  induction d with
  | zero =>
    intro i x hd hi hx h
    refine ev_succ ?_
    have e : x = l := by rw [← List.take_of_length_le (l := x) (i := i) (by omega), h, List.take_of_length_le (by omega)]
    simp only [laws_toStringS.l0, if_neg (natNotLt (show ¬ i < l.length by omega)), e]; exact Ev.now _
  | succ d ih =>
    intro i x hd hi hx h
    have hi : i < l.length := by omega
    refine ev_succ ?_
    simp only [laws_toStringS.l0, if_pos (natLt hi), if_pos (nat0 i), if_pos (natLt (show i < x.length by omega)), rd_at l i hi, wsucc hi (by omega), Int.toNat_natCast]
    refine ih (i + 1) (x.set i l[i]) (by omega) (by omega) (by rw [List.length_set]; exact hx) ?_
    rw [List.take_succ_eq_append_getElem (by rw [List.length_set]; omega), List.take_succ_eq_append_getElem hi, List.getElem_set_self, List.take_set_of_le (Nat.le_refl _), h]
theorem toS_ev (l : List ByteArray) (hl : l.length ≤ 17592186044416) : Ev (fun k => laws_toStringS.f k l) l := by
  simp only [laws_toStringS.f, if_pos (nat0 l.length), Int.toNat_natCast, if_pos hl]
  exact toS_l0 l hl l.length 0 _ rfl (by omega) (by rw [List.length_replicate]) rfl
theorem szDisk_ev (a : ByteArray) (l : List ByteArray) (ha : a.size ≤ maxLen) (hm : l.length ≤ maxLen ∧ ∀ x ∈ l, x.size ≤ maxLen) :
    ∃ t, Ev (fun k => laws_szDisk.f k a l 1048576) t ∧ (0 ≤ t → a.size + l.length + tot l ≤ 1048576) := by
  have ha' := ha
  unfold maxLen at ha'
  have hw : wrap64 (1048576 - (a.size : Int)) = 1048576 - (a.size : Int) := w64 (by omega) (by omega)
  by_cases hn : 1048576 - (a.size : Int) < 0
  · refine ⟨-1, ?_, fun h => absurd h (by decide)⟩
    simp only [laws_szDisk.f, hw, if_pos hn]; exact Ev.now _
  · obtain ⟨t, e, h⟩ := szS_ev l hm.1 hm.2 (1048576 - a.size) (by omega) (by omega)
    by_cases ht : t < 0
    · refine ⟨-1, ?_, fun h => absurd h (by decide)⟩
      simp only [laws_szDisk.f, hw, if_neg hn]
      refine Ev.bind e ?_
      simp only [if_pos ht]; exact Ev.now _
    · refine ⟨t, ?_, fun h' => by have := h h'; omega⟩
      simp only [laws_szDisk.f, hw, if_neg hn]
      refine Ev.bind e ?_
      simp only [if_neg ht]; exact Ev.now _
theorem toDisk_ev (a : ByteArray) (l : List ByteArray) (hl : l.length ≤ 17592186044416) : Ev (fun k => laws_toDisk.f k a l) (a, l) := by
  simp only [laws_toDisk.f]
  refine Ev.bind (toS_ev l hl) ?_
  exact Ev.now _
theorem eqDisk_ev (a : ByteArray) (l : List ByteArray) (hl : l.length ≤ 140737488351232) : Ev (fun k => laws_eqDisk.f k a l a l) true := by
  simp only [laws_eqDisk.f, if_true]
  refine Ev.bind (eqS_ev l hl) ?_
  simp only [if_true]; exact Ev.now _
/-- What is asked of a disk. -/
def rightF (a : ByteArray) (l : List ByteArray) : Bool := decide (l.length ≤ 100 ∧ (∀ x ∈ l, x.toList ≠ []) ∧ a.size + tot l ≤ 20000)
def sumF (s : Nat) (l : List ByteArray) : Bool := decide ((∀ x ∈ l, x.toList ≠ []) ∧ s + tot l ≤ 20000)
theorem sumF_nil (s : Nat) : sumF s [] = decide ((s : Int) ≤ 20000) := by
  unfold sumF; apply decide_eq_decide.2; simp [tot]; omega
theorem sumF_cons (s : Nat) (x : ByteArray) (l : List ByteArray) (h : x.toList ≠ []) : sumF s (x :: l) = sumF (s + x.size) l := by
  unfold sumF
  apply decide_eq_decide.2
  have e : tot (x :: l) = x.size + tot l := by unfold tot; rw [List.map_cons, List.sum_cons]
  rw [e, List.forall_mem_cons, Nat.add_assoc]
  exact ⟨fun q => ⟨q.1.2, q.2⟩, fun q => ⟨⟨h, q.1⟩, q.2⟩⟩
theorem sumF_e (s : Nat) (x : ByteArray) (l : List ByteArray) (h : x.toList = []) : sumF s (x :: l) = false := by
  unfold sumF
  apply decide_eq_false
  rintro ⟨q, _⟩
  exact q x List.mem_cons_self h
theorem sumF_big (s : Nat) (x : ByteArray) (l : List ByteArray) (h : x.size > 20000) : sumF s (x :: l) = false := by
  unfold sumF
  apply decide_eq_false
  rintro ⟨_, q⟩
  have e : tot (x :: l) = x.size + tot l := by unfold tot; rw [List.map_cons, List.sum_cons]
  omega
theorem specR_l0 (a : ByteArray) (l : List ByteArray) (hl : l.length ≤ 1048576) (hx : tot l ≤ 1048576) : ∀ (d i s : Nat), l.length - i = d → s + tot (l.drop i) ≤ 2097152 →
    Ev (fun k => spec_DiskRight.l0 k (s : Int) (i : Int) a l) (sumF s (l.drop i)) := by
  intro d
  induction d with
  | zero =>
    intro i s hd hs
    refine ev_succ ?_
    rw [List.drop_eq_nil_of_le (by omega), sumF_nil]
    simp only [spec_DiskRight.l0, if_neg (natNotLt (show ¬ i < l.length by omega))]
    exact Ev.now _
  | succ d ih =>
    intro i s hd hs
    have hi : i < l.length := by omega
    have ht := tot_at l i hi
    refine ev_succ ?_
    simp only [spec_DiskRight.l0, if_pos (natLt hi), if_pos (nat0 i), rd_at l i hi, wsucc hi (show l.length ≤ 140737488351232 by omega)]
    rw [drop_at l i hi]
    by_cases hz : l[i].toList = []
    · rw [sumF_e _ _ _ hz]
      exact ev_pos hz (Ev.now _)
    · refine ev_neg hz ?_
      by_cases hb : (l[i].size : Int) > 20000
      · rw [sumF_big _ _ _ (by omega)]
        exact ev_pos hb (Ev.now _)
      · refine ev_neg hb ?_
        have e := ih (i + 1) (s + l[i].size) (by omega) (by omega)
        rw [sumF_cons _ _ _ hz, show wrap64 ((s : Int) + (l[i].size : Int)) = ((s + l[i].size : Nat) : Int) by rw [w64 (by omega) (by omega)]; omega]
        exact e
theorem specR_ev (a : ByteArray) (l : List ByteArray) (h : a.size + l.length + tot l ≤ 1048576) : Ev (fun k => spec_DiskRight.f k a l) (rightF a l) := by
  by_cases h1 : (l.length : Int) > 100
  · simp only [spec_DiskRight.f, if_pos h1]
    rw [show rightF a l = false by unfold rightF; apply decide_eq_false; rintro ⟨h, _⟩; omega]
    refine ev_succ ?_
    simp only [spec_DiskRight.j0, if_true]; exact Ev.now _
  · simp only [spec_DiskRight.f, if_neg h1]
    by_cases h2 : (a.size : Int) > 20000
    · rw [show rightF a l = false by unfold rightF; apply decide_eq_false; rintro ⟨_, _, h⟩; omega, decide_eq_true h2]
      refine ev_succ ?_
      simp only [spec_DiskRight.j0, if_true]; exact Ev.now _
    · rw [decide_eq_false h2]
      refine ev_succ ?_
      simp only [spec_DiskRight.j0, Bool.false_eq_true, if_false]
      have e := specR_l0 a l (by omega) (by omega) l.length 0 a.size rfl (by rw [List.drop_zero]; omega)
      rw [List.drop_zero] at e
      rw [show rightF a l = sumF a.size l by
        unfold rightF sumF
        apply decide_eq_decide.2
        exact ⟨fun h => h.2, fun h => ⟨by omega, h⟩⟩]
      exact e
theorem idx_l0 (l : List ByteArray) (hl : l.length ≤ 1048576) : ∀ (d i : Nat), l.length - i = d → ∃ r : Int, Ev (fun k => slices_Index_string_string.l0 k l ⟨#[]⟩ l.length i) r ∧ (0 ≤ r ↔ ∃ x ∈ l.drop i, x.toList = []) := by
  intro d
  induction d with
  | zero =>
    intro i hd
    refine ⟨-1, ev_succ ?_, ?_⟩
    · simp only [slices_Index_string_string.l0, if_neg (natNotLt (show ¬ i < l.length by omega))]; exact Ev.now _
    · rw [List.drop_eq_nil_of_le (by omega)]; simp
  | succ d ih =>
    intro i hd
    have hi : i < l.length := by omega
    have he : (⟨#[]⟩ : ByteArray).toList = [] := by rw [Lib.toList_data]
    by_cases hz : l[i].toList = []
    · refine ⟨i, ev_succ ?_, ?_⟩
      · simp only [slices_Index_string_string.l0, if_pos (natLt hi), if_pos (nat0 i), rd_at l i hi, wsucc hi (by omega), he]
        exact ev_pos hz.symm (Ev.now _)
      · exact ⟨fun _ => ⟨l[i], by rw [drop_at l i hi]; exact List.mem_cons_self, hz⟩, fun _ => by omega⟩
    · obtain ⟨r, e, hr⟩ := ih (i + 1) (by omega)
      refine ⟨r, ev_succ ?_, ?_⟩
      · simp only [slices_Index_string_string.l0, if_pos (natLt hi), if_pos (nat0 i), rd_at l i hi, wsucc hi (by omega), he]
        exact ev_neg (fun h => hz h.symm) e
      · rw [hr]
        constructor
        · rintro ⟨x, hx, hq⟩
          exact ⟨x, by rw [drop_at l i hi]; exact List.mem_cons_of_mem _ hx, hq⟩
        · rintro ⟨x, hx, hq⟩
          rw [drop_at l i hi] at hx
          rcases List.mem_cons.1 hx with rfl | hx
          · exact absurd hq hz
          · exact ⟨x, hx, hq⟩
theorem contains_ev (l : List ByteArray) (hl : l.length ≤ 1048576) : Ev (fun k => slices_Contains_string_string.f k l ⟨#[]⟩) (decide (∃ x ∈ l, x.toList = [])) := by
  obtain ⟨r, e, hr⟩ := idx_l0 l hl l.length 0 rfl
  rw [List.drop_zero] at hr
  simp only [slices_Contains_string_string.f]
  refine Ev.bind (a := r) ?_ ?_
  · simp only [slices_Index_string_string.f]; exact e
  · rw [show decide (∃ x ∈ l, x.toList = []) = decide (r ≥ 0) by apply decide_eq_decide.2; rw [← hr]]
    exact Ev.now _
/-- The texts, one behind the other. -/
def looseF (l : List ByteArray) : ByteArray := ⟨((l.map (·.data.toList)).flatten).toArray⟩
theorem loose_size (l : List ByteArray) : (looseF l).size = tot l := by
  unfold looseF tot
  simp only [ByteArray.size, List.size_toArray, List.length_flatten, List.map_map]
  congr 1
theorem joinE (l : List (List UInt8)) : Lib.join l [] = l.flatten := by
  cases l with
  | nil => rfl
  | cons x r => rw [Lib.join_cons]; simp [Lib.joinTail]
theorem text_ev (a : ByteArray) (l : List ByteArray) (h : a.size + l.length + tot l ≤ 1048576) : impl_Disk_text.f a l = some (a ++ looseF l) := by
  have hs := loose_size l
  have hj : Lib.join (l.map (·.data.toList)) (⟨#[]⟩ : ByteArray).data.toList = (l.map (·.data.toList)).flatten := joinE _
  have hlen : ((l.map (·.data.toList)).flatten).length = tot l := by rw [← hs]; simp [looseF, ByteArray.size]
  have e : strings_Join.f l ⟨#[]⟩ = some (looseF l) := by
    unfold strings_Join.f
    rw [hj, if_pos ⟨by omega, by omega⟩]; rfl
  rw [impl_Disk_text.f, e, Option.bind_some, if_pos (by omega)]
theorem implR_ev (a : ByteArray) (l : List ByteArray) (h : a.size + l.length + tot l ≤ 1048576) : Ev (fun k => impl_DiskRight.f k a l) (rightF a l) := by
  by_cases h1 : (l.length : Int) ≤ 100
  · simp only [impl_DiskRight.f, if_pos h1]
    refine Ev.bind (contains_ev l (by omega)) ?_
    by_cases hz : ∃ x ∈ l, x.toList = []
    · simp only [decide_eq_true hz, if_true]
      rw [show rightF a l = false by
        unfold rightF; apply decide_eq_false; rintro ⟨_, h, _⟩
        obtain ⟨x, hx, he⟩ := hz
        exact h x hx he]
      exact Ev.now _
    · simp only [decide_eq_false hz, Bool.false_eq_true, if_false, text_ev a l h, Option.bind_some]
      rw [show rightF a l = decide (((a ++ looseF l).size : Int) ≤ 20000) by
        unfold rightF; apply decide_eq_decide.2
        rw [ByteArray.size_append, loose_size]
        exact ⟨fun h => by omega, fun h => ⟨by omega, fun x hx he => hz ⟨x, hx, he⟩, by omega⟩⟩]
      exact Ev.now _
  · simp only [impl_DiskRight.f, if_neg h1]
    rw [show rightF a l = false by unfold rightF; apply decide_eq_false; rintro ⟨h, _⟩; omega]
    exact Ev.now _

theorem back (s : ByteArray) : (bytesOf s).map (fun n => UInt8.ofNat n.toNat) = s.data.toList := by
  unfold bytesOf
  rw [List.map_map]
  conv => rhs; rw [← List.map_id s.data.toList]
  apply List.map_congr_left
  intro b _
  simp
theorem byt_len (s : ByteArray) : (bytesOf s).length = s.size := by unfold bytesOf; rw [List.length_map, Array.length_toList]; rfl
theorem loose_take (l : List ByteArray) (i : Nat) (h : i < l.length) : ((l.take (i + 1)).map bytesOf).flatten = ((l.take i).map bytesOf).flatten ++ bytesOf l[i] := by
  rw [List.take_succ_eq_append_getElem h, List.map_append, List.flatten_append, List.map_cons, List.map_nil, List.flatten_cons, List.flatten_nil, List.append_nil]
theorem loose_len (l : List ByteArray) : ((l.map bytesOf).flatten).length = tot l := by
  unfold tot
  rw [List.length_flatten, List.map_map]
  congr 1
  apply List.map_congr_left
  intro b _
  exact byt_len b
theorem tot_take (l : List ByteArray) (i : Nat) : tot (l.take i) + tot (l.drop i) = tot l := by
  unfold tot
  rw [← List.sum_append, ← List.map_append, List.take_append_drop]
theorem loose_l0 (a : ByteArray) (l : List ByteArray) (hl : l.length ≤ 1048576) (hx : tot l ≤ 1048576) : ∀ (d i : Nat), l.length - i = d → i ≤ l.length →
    Ev (fun k => spec_l06Loose.l0 k (((l.take i).map bytesOf).flatten) (i : Int) a l) (looseF l) := by
  intro d
  induction d with
  | zero =>
    intro i hd hi
    refine ev_succ ?_
    rw [List.take_of_length_le (by omega)]
    simp only [spec_l06Loose.l0, if_neg (natNotLt (show ¬ i < l.length by omega))]
    have e : strOfNums ((l.map bytesOf).flatten) = looseF l := by
      unfold strOfNums looseF
      rw [List.map_flatten, List.map_map]
      congr 3
      apply List.map_congr_left
      intro b _
      exact back b
    rw [e]; exact Ev.now _
  | succ d ih =>
    intro i hd hi
    have hi : i < l.length := by omega
    have h1 := tot_take l i
    have h2 := tot_at l i hi
    refine ev_succ ?_
    simp only [spec_l06Loose.l0, if_pos (natLt hi), if_pos (nat0 i), rd_at l i hi, wsucc hi (show l.length ≤ 140737488351232 by omega)]
    refine ev_pos ?_ ?_
    · rw [loose_len]; omega
    · rw [← loose_take l i hi]
      exact ih (i + 1) (by omega) (by omega)
theorem FnExactDiskText : laws_FnExactDiskText.Pure := by
  intro a l ha hl
  refine Ev.rounds (g := fun k => laws_FnExactDiskText.f k a l) ?_
  simp only [laws_FnExactDiskText.f]
  obtain ⟨t, e, h⟩ := szDisk_ev a l ha hl
  refine Ev.bind e ?_
  by_cases ht : t < 0
  · simp only [if_pos ht]; exact Ev.now _
  · simp only [if_neg ht]
    have h' := h (by omega)
    have hs := loose_size l
    have hw : ∃ v : ByteArray, Ev (fun k => spec_DiskText.f k a l) v ∧ Ev (fun k => impl_DiskText.f k a l) v := by
      cases hr : rightF a l with
      | true =>
        have e1 := specR_ev a l h'
        have e2 := implR_ev a l h'
        rw [hr] at e1 e2
        refine ⟨a ++ looseF l, ?_, ?_⟩
        · simp only [spec_DiskText.f]
          refine Ev.bind e1 ?_
          simp only [if_true]
          have e3 := loose_l0 a l (by omega) (by omega) l.length 0 rfl (by omega)
          refine Ev.bind (a := looseF l) ?_ ?_
          · simp only [spec_l06Loose.f]; exact e3
          · exact ev_pos (show a.size + (looseF l).size ≤ 9223372036854775807 by omega) (Ev.now _)
        · simp only [impl_DiskText.f]
          refine Ev.bind e2 ?_
          simp only [if_true, text_ev a l h', Option.bind_some]
          exact Ev.now _
      | false =>
        have e1 := specR_ev a l h'
        have e2 := implR_ev a l h'
        rw [hr] at e1 e2
        refine ⟨⟨#[]⟩, ?_, ?_⟩
        · simp only [spec_DiskText.f]
          refine Ev.bind e1 ?_
          simp only [Bool.false_eq_true, if_false]
          exact Ev.now _
        · simp only [impl_DiskText.f]
          refine Ev.bind e2 ?_
          simp only [Bool.false_eq_true, if_false]
          exact Ev.now _
    obtain ⟨v, hv1, hv2⟩ := hw
    refine Ev.bind (toDisk_ev a l (by omega)) ?_
    refine Ev.bind hv1 ?_
    refine Ev.bind (toDisk_ev a l (by omega)) ?_
    refine Ev.bind hv2 ?_
    simp only [if_true]
    refine Ev.bind (toDisk_ev a l (by omega)) ?_
    refine Ev.bind (eqDisk_ev a l (by omega)) ?_
    simp only [if_true]; exact Ev.now _

end Go.Proofs.Ytaiekkifdahpcaa.Pure
