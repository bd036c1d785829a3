import Derived.Test.YthpjnjplgmaofaaGreatDoorWWords
import Derived.Test.YthpjnjplgmaofaaGreatDoorWLast
import Derived.Test.YthpjnjplgmaofaaGreatDoorWMore
import Derived.Test.YthpjnjplgmaofaaGreatDoorShLast
namespace Go.Proofs.YthpjnjplgmaofaaGreatDoorW.PrintWords
open Go.RowKit Go.Proofs.YthpjnjplgmaofaaGreatDoorW.PrintLast Go.Proofs.YthpjnjplgmaofaaGreatDoorW.PrintMore
theorem bl {w w1 : World} (h : Below w.heap.size w w1 := by repeat (first | (with_reducible first | exact HB.out | apply aZ | apply aJ | apply bg | refine bJ ?_ (aa.out (by assumption))) | exact HB.out)) : Below w.heap.size w w1 := h
theorem bk {g : Nat} {o : Obj} {w0 w : World} (h : w0.heap[g]? = some o) (f : w0.heap[g]? = some o → w.heap[g]? = some o := by intro h_; (with_reducible repeat (first | refine fo ?_ _ | refine bB ?_ | refine dB ?_ _)); exact h_) : w.heap[g]? = some o := f h
theorem er {α : Type} {a b : α} (h : a = b := by first | rfl | (simp [oU, oQ] <;> rfl) | (simp [*, oU, oQ] <;> rfl)) : a = b := h
theorem cb {α : Type} {d : Kd α} {w0 w : World} {A : Option Addr} {n : Nat} {xs : List α} (h : d.C w0 A n xs) (f : d.C w0 A n xs → d.C w A n xs := by intro h_; repeat (first | exact (Kd.dK h_ HB.out) | (with_reducible refine Kd.fV ?_ _) | (with_reducible refine Kd.fU ?_ _) | (with_reducible refine Kd.gU ?_))) : d.C w A n xs := f h
theorem kr {α : Type} {d : Kd α} {e : Nat} {w0 w : World} {base : Nat} {ok : Nat → Prop} {v : Value} {xs : List α} (h : d.R e w0 base ok v xs) (f : d.R e w0 base ok v xs → d.R e w base ok v xs := by intro h_; (with_reducible repeat (first | apply Kd.fM | apply Kd.fK | apply Kd.dx)); exact h_) : d.R e w base ok v xs := f h
theorem ar {α : Type} {a b : α} (h : a = b := by (try simp only [List.map_toArray, List.map_cons, List.map_nil]); first | done | rfl | (simp only [List.length_drop, List.length_take]; rfl)) : a = b := h
theorem bsz {w W : World} {g : Nat} (hg : g = W.heap.size) (h : Below w.heap.size w W := by repeat (first | (with_reducible first | exact HB.out | apply aZ | apply aJ | apply bg | refine bJ ?_ (aa.out (by assumption))) | exact HB.out)) : w.heap.size ≤ g := hg ▸ az h
theorem cc {α : Type} {d : Kd α} {w0 w : World} {A : Option Addr} {n : Nat} {xs : List α} (h : d.C w0 A n xs) (f : d.C w0 A n xs → d.C w A n xs := by intro h_; repeat (first | exact h_ | (with_reducible refine Kd.fV ?_ _) | (with_reducible refine Kd.fU ?_ _) | (with_reducible refine Kd.gU ?_))) : d.C w A n xs := f h
theorem hbc {w w1 w2 : World} {a : Addr} {v : Value} (h : Below w.heap.size w w1) (hx : w.cell? a = some v) (e : w2.cell? a = w1.cell? a := by exact rfl) : w2.cell? a = some v := e.trans ((h.cell (World.block_lt_of_cell? _ _ hx)).trans hx)
theorem ode {p : Prop} [Decidable p] (h : decide p = true := by first | (with_reducible assumption) | assumption) : p := of_decide_eq_true h
theorem gQ {w : World} {g : Nat} {t : TypeId} {v0 v1 v2 v3 v4 v5 v6 v7 : Value} (h : w.heap[g]? = some (.cells #[v0, v1, v2, v3, v4, v5, v6, v7] t (0, 0))) : w.cell? ⟨g, 0, none⟩ = some v0 ∧ w.cell? ⟨g, 1, none⟩ = some v1 ∧ w.cell? ⟨g, 2, none⟩ = some v2 ∧ w.cell? ⟨g, 3, none⟩ = some v3 ∧ w.cell? ⟨g, 4, none⟩ = some v4 ∧ w.cell? ⟨g, 5, none⟩ = some v5 ∧ w.cell? ⟨g, 6, none⟩ = some v6 ∧ w.cell? ⟨g, 7, none⟩ = some v7 := ⟨(ae h 0).trans rfl, (ae h 1).trans rfl, (ae h 2).trans rfl, (ae h 3).trans rfl, (ae h 4).trans rfl, (ae h 5).trans rfl, (ae h 6).trans rfl, (ae h 7).trans rfl⟩
abbrev T_ : Bool := true
abbrev F_ : Bool := false
section
variable {P : Program} {ops : Array Oper} {Q : Exit → Act → World → Prop} {md : Region.Mode} {S S2 : World → Prop} {ds : List Nat}
end
theorem am {p : Prop} (h : p) : aa p := ⟨h⟩
theorem z1 {α : Type} (l : List α) (i : Nat) (x : α) : l.toArray.setIfInBounds i x = (l.set i x).toArray := List.setIfInBounds_toArray ..
theorem z2 {α : Type} (x y : α) (l : List α) : (x :: l).set 0 y = y :: l := rfl
theorem z3 {α : Type} (x y : α) (l : List α) (n : Nat) : (x :: l).set (n + 1) y = x :: l.set n y := rfl
end Go.Proofs.YthpjnjplgmaofaaGreatDoorW.PrintWords
