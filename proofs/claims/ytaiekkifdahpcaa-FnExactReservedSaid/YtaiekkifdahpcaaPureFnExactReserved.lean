/- At every text the program's Reserved is the reference's Reserved. No condition beyond the row's own. -/
import Derived.Test.YtaiekkifdahpcaaPFnExactReservedx1
import Derived.Test.YtaiekkifdahpcaaQLib
namespace Go.Proofs.Ytaiekkifdahpcaa.Pure
set_option linter.unusedSimpArgs false
set_option linter.unusedVariables false
open Go.RowKit Go.Proofs.Ytaiekkifdahpcaa.PFnExactReserved Go.Proofs.YtaiekkifdahpcaaW.PrintWords Go.Proofs.YtaiekkifdahpcaaW.PrintLast Go.Proofs.YtaiekkifdahpcaaW.PrintMore
open Go.Proofs.Ytaiekkifdahpcaa.Q
def tot (l : List ByteArray) : Nat := (l.map (·.size)).sum
theorem rd_at (l : List ByteArray) (i : Nat) (h : i < l.length) : rdOf ByteArray.empty l (i : Int) = l[i] := by
  unfold rdOf; rw [Int.toNat_natCast, List.getD_eq_getElem?_getD, List.getElem?_eq_getElem h]; rfl
theorem drop_at {α : Type} (l : List α) (i : Nat) (h : i < l.length) : l.drop i = l[i] :: l.drop (i + 1) := List.drop_eq_getElem_cons h
theorem tot_at (l : List ByteArray) (i : Nat) (h : i < l.length) : tot (l.drop i) = l[i].size + tot (l.drop (i + 1)) := by
  rw [drop_at l i h]; unfold tot; rw [List.map_cons, List.sum_cons]
theorem tot_mem (l : List ByteArray) (x : ByteArray) (h : x ∈ l) : x.size ≤ tot l := by
  induction l with
  | nil => cases h
  | cons y l ih =>
    rcases List.mem_cons.1 h with rfl | h
    · simp [tot]
    · have := ih h; simp only [tot, List.map_cons, List.sum_cons] at this ⊢; omega

theorem c_nil (c : UInt8) (x : List UInt8) : Lib.contains [] (c :: x) = false := rfl
theorem c_cons (b : UInt8) (l sub : List UInt8) : Lib.contains (b :: l) sub = (sub.isPrefixOf (b :: l) || Lib.contains l sub) := by
  have hg := Lib.index_ge l sub
  unfold Lib.contains
  rw [Lib.index]
  by_cases h : sub.isPrefixOf (b :: l) = true
  · simp [h]
  · rw [Bool.not_eq_true] at h
    rw [h]
    by_cases h2 : Lib.index l sub = -1
    · simp [h2]
    · have h3 : (Lib.index l sub == -1) = false := beq_eq_false_iff_ne.mpr h2
      simp only [h3, Bool.false_eq_true, if_false, Bool.false_or]
      apply decide_eq_decide.2
      omega
theorem c_one (s : List UInt8) (c : UInt8) : Lib.contains s [c] = decide (c ∈ s) := by
  induction s with
  | nil => rfl
  | cons b l ih =>
    rw [c_cons, ih]
    by_cases h : c = b
    · subst h; simp [List.isPrefixOf]
    · have h' : (c == b) = false := beq_eq_false_iff_ne.mpr h
      simp [List.isPrefixOf, h', h]
theorem c_skip (v t x : List UInt8) (hv : (32 : UInt8) ∉ v) : Lib.contains (v ++ t) (32 :: x) = Lib.contains t (32 :: x) := by
  induction v with
  | nil => rfl
  | cons b v ih =>
    have hb : ((32 : UInt8) == b) = false := beq_eq_false_iff_ne.mpr (fun e => hv (by rw [e]; exact List.mem_cons_self))
    rw [List.cons_append, c_cons, ih (fun h => hv (List.mem_cons_of_mem _ h))]
    simp [List.isPrefixOf, hb]
theorem c_pre : ∀ (w v t : List UInt8), (32 : UInt8) ∉ w → (32 : UInt8) ∉ v → (w ++ [32]).isPrefixOf (v ++ 32 :: t) = decide (w = v)
  | [], [], t, _, _ => by simp [List.isPrefixOf]
  | [], b :: v, t, _, hv => by
    have hb : ((32 : UInt8) == b) = false := beq_eq_false_iff_ne.mpr (fun e => hv (by rw [e]; exact List.mem_cons_self))
    simp [List.isPrefixOf, hb]
  | a :: w, [], t, hw, _ => by
    have hb : (a == (32 : UInt8)) = false := beq_eq_false_iff_ne.mpr (fun e => hw (by rw [← e]; exact List.mem_cons_self))
    simp [List.isPrefixOf, hb]
  | a :: w, b :: v, t, hw, hv => by
    have ih := c_pre w v t (fun h => hw (List.mem_cons_of_mem _ h)) (fun h => hv (List.mem_cons_of_mem _ h))
    rw [List.cons_append, List.cons_append]
    simp only [List.isPrefixOf, ih, List.cons.injEq]
    by_cases e : a = b
    · subst e; simp
    · have hb : (a == b) = false := beq_eq_false_iff_ne.mpr e
      simp [hb, e]
/-- Words, each with a blank behind it. -/
def lineF (ws : List (List UInt8)) : List UInt8 := ws.flatMap fun v => v ++ [32]
theorem c_line (w : List UInt8) (hw : (32 : UInt8) ∉ w) : ∀ (ws : List (List UInt8)), (∀ v ∈ ws, (32 : UInt8) ∉ v) → Lib.contains (32 :: lineF ws) (32 :: (w ++ [32])) = decide (w ∈ ws)
  | [], _ => by
    rw [c_cons]
    cases w <;> rfl
  | v :: r, h => by
    have ih := c_line w hw r (fun x hx => h x (List.mem_cons_of_mem _ hx))
    have e : lineF (v :: r) = v ++ 32 :: lineF r := by simp [lineF]
    rw [e, c_cons, c_skip _ _ _ (h v List.mem_cons_self), ih]
    have e2 : (32 :: (w ++ [32])).isPrefixOf (32 :: (v ++ 32 :: lineF r)) = decide (w = v) := by
      rw [← c_pre w v (lineF r) hw (h v List.mem_cons_self)]
      simp [List.isPrefixOf]
    rw [e2]
    by_cases q : w = v
    · simp [q]
    · simp [q]
def wordsB : List ByteArray := spec_l07Words.f.getD []
def wordsL : List (List UInt8) := wordsB.map fun x => x.data.toList
theorem words_is : spec_l07Words.f = some wordsB := rfl
theorem words_blank : ∀ v ∈ wordsL, (32 : UInt8) ∉ v := by decide +kernel
theorem words_nil : ([] : List UInt8) ∉ wordsL := by decide +kernel
theorem in_l0 (l : List ByteArray) (a : ByteArray) (hl : l.length ≤ 140737488351232) : ∀ (d i : Nat), l.length - i = d → Ev (fun k => spec_l05In.l0 k l a (i : Int)) (decide (a.data.toList ∈ (l.drop i).map fun x => x.data.toList)) := by
  intro d
  induction d with
  | zero =>
    intro i hd
    refine ev_succ ?_
    rw [List.drop_eq_nil_of_le (by omega)]
    simp only [spec_l05In.l0, if_neg (natNotLt (show ¬ i < l.length by omega))]
    exact Ev.now _
  | succ d ih =>
    intro i hd
    refine ev_succ ?_
    have hi : i < l.length := by omega
    simp only [spec_l05In.l0, if_pos (natLt hi), if_pos (nat0 i), rd_at l i hi, wsucc hi hl]
    rw [drop_at l i hi, List.map_cons]
    by_cases h : l[i].toList = a.toList
    · refine ev_pos h ?_
      rw [Lib.toList_data, Lib.toList_data] at h
      rw [h, decide_eq_true (List.mem_cons_self)]
      exact Ev.now _
    · refine ev_neg h ?_
      have e := ih (i + 1) (by omega)
      rw [Lib.toList_data, Lib.toList_data] at h
      rw [show decide (a.data.toList ∈ l[i].data.toList :: (l.drop (i + 1)).map fun x => x.data.toList) = decide (a.data.toList ∈ (l.drop (i + 1)).map fun x => x.data.toList) by
        apply decide_eq_decide.2
        rw [List.mem_cons]
        exact ⟨fun q => q.resolve_left (fun q => h q.symm), Or.inr⟩]
      exact e
theorem specRes_ev (a : ByteArray) : Ev (fun k => spec_Reserved.f k a) (decide (a.data.toList ∈ wordsL)) := by
  simp only [spec_Reserved.f, words_is, Option.bind_some]
  refine Ev.bind (a := decide (a.data.toList ∈ wordsL)) ?_ (Ev.now _)
  simp only [spec_l05In.f]
  exact in_l0 wordsB a (by decide +kernel) wordsB.length 0 rfl
set_option maxRecDepth 100000 in
theorem implRes (a : ByteArray) (h : a.size ≤ 1048576) : impl_Reserved.f a = some (decide (a.data.toList ∈ wordsL)) := by
  unfold impl_Reserved.f
  rw [Lib.toList_data]
  by_cases h0 : a.data.toList = []
  · rw [if_pos h0, h0, decide_eq_false words_nil]
  · rw [if_neg h0]
    have e1 : strings_Contains.f a ⟨#[32]⟩ = some (decide ((32 : UInt8) ∈ a.data.toList)) := by
      unfold strings_Contains.f
      rw [if_pos (by omega), ← c_one]
    rw [e1, Option.bind_some]
    by_cases h1 : (32 : UInt8) ∈ a.data.toList
    · simp only [decide_eq_true h1, if_true]
      rw [decide_eq_false (fun q => words_blank _ q h1)]
    · simp only [decide_eq_false h1, Bool.false_eq_true, if_false]
      have hs : ((⟨#[32]⟩ : ByteArray) ++ a).size = 1 + a.size := by rw [ByteArray.size_append]; rfl
      rw [if_pos (by omega), if_pos (by omega)]
      unfold strings_Contains.f
      have ed : (((⟨#[32]⟩ : ByteArray) ++ a) ++ (⟨#[32]⟩ : ByteArray)).data.toList = 32 :: (a.data.toList ++ [32]) := by simp
      rw [if_pos (by decide +kernel), ed, Option.bind_some, ← c_line a.data.toList h1 wordsL words_blank]
      exact congrArg (fun z => some (Lib.contains z (32 :: (a.data.toList ++ [32])))) (by decide +kernel)

theorem FnExactReserved : laws_FnExactReserved.Pure := by
  intro a h
  refine Ev.rounds (g := fun k => laws_FnExactReserved.f k a) ?_
  simp only [laws_FnExactReserved.f]
  by_cases h1 : (a.size : Int) > 1048576
  · simp only [if_pos h1]; exact Ev.now _
  · simp only [if_neg h1]
    refine Ev.bind (specRes_ev a) ?_
    simp only [implRes a (by omega), Option.bind_some, bne_self_eq_false, Bool.false_eq_true, if_false]
    exact Ev.now _

end Go.Proofs.Ytaiekkifdahpcaa.Pure
