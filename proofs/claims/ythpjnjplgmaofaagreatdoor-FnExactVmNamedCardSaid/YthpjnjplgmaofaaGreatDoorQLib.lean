import Derived.Test.YthpjnjplgmaofaaGreatDoorWMore
import Derived.Laws.BitsAllLaws
namespace Go.Proofs.YthpjnjplgmaofaaGreatDoor.Q
open Go Go.RowKit Go.Proofs.YthpjnjplgmaofaaGreatDoorW.PrintWords Go.Proofs.YthpjnjplgmaofaaGreatDoorW.PrintLast Go.Proofs.YthpjnjplgmaofaaGreatDoorW.PrintMore
theorem bF {α : Type} {g : Nat → Option α} {r : α} (h : Ev (fun k => g (k + 1)) r) : Ev g r := Ev.step (fun _ => rfl) h
theorem aV {α : Type} {c : Prop} [Decidable c] {a b : Nat → Option α} {r : α} (h : c) (e : Ev a r) : Ev (fun k => if c then a k else b k) r := by simp only [if_pos h]; exact e
theorem bS {α : Type} {c : Prop} [Decidable c] {a b : Nat → Option α} {r : α} (h : ¬ c) (e : Ev b r) : Ev (fun k => if c then a k else b k) r := by simp only [if_neg h]; exact e
theorem fQ {α β : Type} {o : Option α} {f : Nat → α → Option β} {a : α} {r : β} (h : o = some a) (k : Ev (fun n => f n a) r) : Ev (fun n => o.bind (f n)) r := by
  subst h; exact k
theorem kG {α : Type} {c : Prop} [Decidable c] {a b : Nat → Option α} {x y : α} (h : c → Ev a x) (h' : ¬ c → Ev b y) : Ev (fun k => if c then a k else b k) (if c then x else y) := by
  by_cases hc : c
  · simp only [if_pos hc]; exact h hc
  · simp only [if_neg hc]; exact h' hc
theorem w64 {a : Int} (h0 : -9223372036854775808 ≤ a) (h1 : a ≤ 9223372036854775807) : wrap64 a = a := by unfold wrap64; omega
theorem jG {i n : Nat} (h : i < n) (hn : n ≤ 140737488351232) : wrap64 ((i : Int) + 1) = ((i + 1 : Nat) : Int) := by unfold wrap64; omega
theorem uu {a b : Int} (h : 0 ≤ a) : Int.tdiv a b = a / b := Int.tdiv_eq_ediv_of_nonneg h
theorem fB {i n : Nat} (h : i < n) : (i : Int) < (n : Int) := by omega
theorem eD {i n : Nat} (h : ¬ i < n) : ¬ (i : Int) < (n : Int) := by omega
theorem gD (i : Nat) : (0 : Int) ≤ (i : Int) := by omega
end Go.Proofs.YthpjnjplgmaofaaGreatDoor.Q
