/- Loops over lists, told once for all: what copies a list, what compares it with itself, what marks it and what looks whether the marks hold. -/
import Derived.Test.YtopeaemfnlcecaaDoorQLib
namespace Go.Proofs.YtopeaemfnlcecaaDoor.Q
open Go Go.RowKit Go.Proofs.YtopeaemfnlcecaaDoorW.PrintWords Go.Proofs.YtopeaemfnlcecaaDoorW.PrintLast Go.Proofs.YtopeaemfnlcecaaDoorW.PrintMore

theorem i64_1 {i n : Nat} (h : i < n) (hn : n ≤ 140737488351232) : wrap64 ((i : Int) + 1) = ((i + 1 : Nat) : Int) := by unfold wrap64; omega
/-- A loop that writes the image of each element into a row as long. -/
theorem map_ev {α β : Type} (c : α → β) (g : Nat → List α → List β → Int → Option (List β)) (B : Nat)
    (hs : ∀ k x y (i : Nat), x.length ≤ B → (h : i < x.length) → i < y.length → g (k + 1) x y (i : Int) = g k x (y.set i (c x[i])) ((i + 1 : Nat) : Int))
    (he : ∀ k x y, g (k + 1) x y (x.length : Int) = some y) (x : List α) (y : List β) (hy : y.length = x.length) (hB : x.length ≤ B) : Ev (fun k => g k x y 0) (x.map c) := by
  have key : ∀ (d i : Nat) (y : List β), x.length - i = d → i ≤ x.length → y.length = x.length → y.take i = (x.map c).take i → Ev (fun k => g k x y (i : Int)) (x.map c) := by
    intro d
    induction d with
    | zero =>
      intro i y hd hi hy h
      have hi' : i = x.length := by omega
      subst hi'
      refine ev_succ ?_
      simp only [he]
      have e : y = x.map c := by
        rw [← List.take_of_length_le (l := y) (i := x.length) (by omega), h, List.take_of_length_le (by simp)]
      rw [e]; exact Ev.now _
    | succ d ih =>
      intro i y hd hi hy h
      have hi' : i < x.length := by omega
      refine Ev.step (fun k => hs k x y i hB hi' (by omega)) ?_
      refine ih (i + 1) (y.set i (c x[i])) (by omega) (by omega) (by rw [List.length_set]; exact hy) ?_
      rw [List.take_succ_eq_append_getElem (by rw [List.length_set]; omega), List.take_succ_eq_append_getElem (by simpa using hi'), List.getElem_set_self, List.take_set_of_le (Nat.le_refl _), h]
      simp
  exact key x.length 0 y rfl (by omega) hy rfl
/-- A loop that goes through a list and comes to one answer. -/
theorem all_ev {α γ : Type} (r : γ) (g : Nat → List α → Int → Option γ) (l : List α)
    (hs : ∀ k (i : Nat), (h : i < l.length) → g (k + 1) l (i : Int) = g k l ((i + 1 : Nat) : Int)) (he : ∀ k, g (k + 1) l (l.length : Int) = some r) : Ev (fun k => g k l 0) r := by
  have key : ∀ (d i : Nat), l.length - i = d → i ≤ l.length → Ev (fun k => g k l (i : Int)) r := by
    intro d
    induction d with
    | zero =>
      intro i hd hi
      have hi' : i = l.length := by omega
      subst hi'
      refine ev_succ ?_
      simp only [he]; exact Ev.now _
    | succ d ih =>
      intro i hd hi
      exact Ev.step (fun k => hs k i (by omega)) (ih (i + 1) (by omega) (by omega))
  exact key l.length 0 rfl (by omega)
/-- What is left of a sum when the sizes of all elements are taken off it; below 0: it is done. -/
theorem sz_ev {α : Type} (sz : α → Nat) (g : Nat → List α → Int → Int → Option Int) (l : List α) (hl : l.length ≤ 140737488351232)
    (hs : ∀ k (i : Nat) (v : Int), (h : i < l.length) → 0 ≤ v → v ≤ 1048576 → 0 ≤ v - (sz l[i] : Int) → g (k + 1) l v (i : Int) = g k l (v - sz l[i]) ((i + 1 : Nat) : Int))
    (hb : ∀ k (i : Nat) (v : Int), (h : i < l.length) → 0 ≤ v → v ≤ 1048576 → v - (sz l[i] : Int) < 0 → g (k + 1) l v (i : Int) = some (-1))
    (he : ∀ k v, g (k + 1) l v (l.length : Int) = some v) (v : Int) (h0 : 0 ≤ v) (h1 : v ≤ 1048576) :
    ∃ t, Ev (fun k => g k l v 0) t ∧ (0 ≤ t → t + ((l.map sz).sum : Int) ≤ v) ∧ t ≤ v := by
  have key : ∀ (d i : Nat) (v : Int), l.length - i = d → i ≤ l.length → 0 ≤ v → v ≤ 1048576 → ∃ t, Ev (fun k => g k l v (i : Int)) t ∧ (0 ≤ t → t + (((l.drop i).map sz).sum : Int) ≤ v) ∧ t ≤ v := by
    intro d
    induction d with
    | zero =>
      intro i v hd hi h0 h1
      have hi' : i = l.length := by omega
      subst hi'
      refine ⟨v, ev_succ ?_, fun _ => by simp, Int.le_refl _⟩
      simp only [he]; exact Ev.now _
    | succ d ih =>
      intro i v hd hi h0 h1
      have hi' : i < l.length := by omega
      by_cases hn : v - (sz l[i] : Int) < 0
      · refine ⟨-1, ev_succ ?_, fun h => absurd h (by decide), by omega⟩
        simp only [hb _ i v hi' h0 h1 hn]; exact Ev.now _
      · obtain ⟨t, e, h2, h3⟩ := ih (i + 1) (v - sz l[i]) (by omega) (by omega) (by omega) (by omega)
        refine ⟨t, Ev.step (fun k => hs k i v hi' h0 h1 (by omega)) e, fun h => ?_, by omega⟩
        have := h2 h
        rw [List.drop_eq_getElem_cons hi', List.map_cons, List.sum_cons]
        omega
  have := key l.length 0 v rfl (by omega) h0 h1
  rwa [List.drop_zero] at this
/-- A row of n elements, marked one behind the other from v on, c numbers an element. -/
def marked {β : Type} (m : Int → β) (c n : Nat) (v : Int) : List β := (List.range n).map fun j => m (v + ((c * j : Nat) : Int))
theorem marked_length {β : Type} (m : Int → β) (c n : Nat) (v : Int) : (marked m c n v).length = n := by simp [marked]
theorem marked_at {β : Type} (m : Int → β) (c n : Nat) (v : Int) (j : Nat) (h : j < (marked m c n v).length) : (marked m c n v)[j] = m (v + ((c * j : Nat) : Int)) := by simp [marked]
/-- Eventually, whatever comes behind: a step that leans on what is so from some number of rounds on. -/
theorem Ev.later {α : Type} {g f : Nat → Option α} {r : α} (h : ∃ K, ∀ k, K ≤ k → g (k + 1) = f k) (e : Ev f r) : Ev g r := by
  obtain ⟨K, h⟩ := h
  obtain ⟨K', e⟩ := e
  refine ⟨max K K' + 1, fun n hn => ?_⟩
  obtain ⟨m, rfl⟩ : ∃ m, n = m + 1 := ⟨n - 1, by omega⟩
  rw [h m (by omega)]
  exact e m (by omega)
theorem mark_ev {β : Type} (m : Int → β) (c : Nat) (hc : c ≤ 8) (g : Nat → List β → Int → Int → Option (Int × List β))
    (hs : ∀ l v (i : Nat), l.length ≤ 1048576 → (h : i < l.length) → 0 ≤ v → v ≤ 4611686018100000000 → ∃ K, ∀ k, K ≤ k → g (k + 1) l v (i : Int) = g k (l.set i (m v)) (v + (c : Int)) ((i + 1 : Nat) : Int))
    (he : ∀ k l v, g (k + 1) l v (l.length : Int) = some (v, l)) (l : List β) (hl : l.length ≤ 1048576) (v : Int) (h0 : 0 ≤ v) (h1 : v ≤ 4611686018000000000) :
    Ev (fun k => g k l v 0) (v + ((c * l.length : Nat) : Int), marked m c l.length v) := by
  have key : ∀ (d i : Nat) (y : List β) (u : Int), l.length - i = d → i ≤ l.length → y.length = l.length → u = v + ((c * i : Nat) : Int) → y.take i = (marked m c l.length v).take i →
      Ev (fun k => g k y u (i : Int)) (v + ((c * l.length : Nat) : Int), marked m c l.length v) := by
    intro d
    induction d with
    | zero =>
      intro i y u hd hi hy hu h
      have hi' : i = y.length := by omega
      subst hi'
      refine ev_succ ?_
      simp only [he]
      have e : y = marked m c l.length v := by
        rw [← List.take_of_length_le (l := y) (i := y.length) (by omega), h, List.take_of_length_le (by rw [marked_length]; omega)]
      rw [hu, hy, ← e]; exact Ev.now _
    | succ d ih =>
      intro i y u hd hi hy hu h
      have hi' : i < y.length := by omega
      have hci : c * i ≤ 8 * i := Nat.mul_le_mul_right _ hc
      have hcs : c * (i + 1) = c * i + c := Nat.mul_succ _ _
      refine Ev.later (hs y u i (by omega) hi' (by omega) (by omega)) ?_
      refine ih (i + 1) (y.set i (m u)) (u + c) (by omega) (by omega) (by rw [List.length_set]; exact hy) (by omega) ?_
      rw [List.take_succ_eq_append_getElem (by rw [List.length_set]; omega), List.take_succ_eq_append_getElem (by rw [marked_length]; omega), List.getElem_set_self, List.take_set_of_le (Nat.le_refl _), h, marked_at, hu]
  exact key l.length 0 l v rfl (by omega) rfl (by simp) rfl
theorem held_ev {β : Type} (m : Int → β) (c : Nat) (hc : c ≤ 8) (g : Nat → List β → Int → Int → Option Int)
    (hs : ∀ l v (i : Nat), l.length ≤ 1048576 → (h : i < l.length) → l[i] = m v → 0 ≤ v → v ≤ 4611686018100000000 → ∃ K, ∀ k, K ≤ k → g (k + 1) l v (i : Int) = g k l (v + (c : Int)) ((i + 1 : Nat) : Int))
    (he : ∀ k l v, g (k + 1) l v (l.length : Int) = some v) (n : Nat) (hn : n ≤ 1048576) (v : Int) (h0 : 0 ≤ v) (h1 : v ≤ 4611686018000000000) :
    Ev (fun k => g k (marked m c n v) v 0) (v + ((c * n : Nat) : Int)) := by
  have hln := marked_length m c n v
  have key : ∀ (d i : Nat) (u : Int), n - i = d → i ≤ n → u = v + ((c * i : Nat) : Int) → Ev (fun k => g k (marked m c n v) u (i : Int)) (v + ((c * n : Nat) : Int)) := by
    intro d
    induction d with
    | zero =>
      intro i u hd hi hu
      have hi' : i = n := by omega
      subst hi'
      refine ev_succ ⟨0, fun k _ => ?_⟩
      have := he k (marked m c i v) u
      rw [hln] at this
      show g (k + 1) (marked m c i v) u (i : Int) = _
      rw [this, hu]
    | succ d ih =>
      intro i u hd hi hu
      have hci : c * i ≤ 8 * i := Nat.mul_le_mul_right _ hc
      have hcs : c * (i + 1) = c * i + c := Nat.mul_succ _ _
      refine Ev.later (hs _ u i (by omega) (by omega) (by rw [marked_at, hu]) (by omega) (by omega)) ?_
      exact ih (i + 1) (u + c) (by omega) (by omega) (by omega)
  exact key n 0 v rfl (by omega) (by simp)

end Go.Proofs.YtopeaemfnlcecaaDoor.Q
