/- At every text the program's Sum is the reference's Sum. No condition beyond the row's own. -/
import Derived.Test.YtapobaphbaoanaaPFnExactSumx1
import Derived.Test.YtapobaphbaoanaaQLib
namespace Go.Proofs.Ytapobaphbaoanaa.Pure
open Go.RowKit Go.Proofs.Ytapobaphbaoanaa.PFnExactSum Go.Proofs.YtapobaphbaoanaaW.PrintWords Go.Proofs.YtapobaphbaoanaaW.PrintLast Go.Proofs.YtapobaphbaoanaaW.PrintMore
open Go.Proofs.Ytapobaphbaoanaa.Q
/-- The sum of the bytes of s from place i on, n being the sum of those ahead. -/
def sumF (s : ByteArray) (i : Nat) (n : Int) : Int :=
  if i < s.size then sumF s (i + 1) ((257 * n + bt s i) % 4294967291) else n
termination_by s.size - i

theorem sumF_range (s : ByteArray) : ∀ (d i : Nat) (n : Int), s.size - i = d → 0 ≤ n → n < 4294967291 → 0 ≤ sumF s i n ∧ sumF s i n < 4294967291 := by
  intro d
  induction d with
  | zero => intro i n hd h0 h1; rw [sumF, if_neg (by omega)]; exact ⟨h0, h1⟩
  | succ d ih => intro i n hd h0 h1; rw [sumF, if_pos (by omega)]; exact ih _ _ (by omega) (by omega) (by omega)

theorem sum_round (s : ByteArray) (i : Nat) (n : Int) (h0 : 0 ≤ n) (h1 : n < 4294967291) :
    Int.tmod (wrap64 ((wrap64 (257 * n)) + (wrap64 (bt s i)))) 4294967291 = (257 * n + bt s i) % 4294967291 := by
  have hb := bt_range s i
  rw [w64 (a := 257 * n) (by omega) (by omega), w64 (a := bt s i) (by omega) (by omega), w64 (by omega) (by omega), tmod_pos (by omega)]

theorem spec_sum_l0 (s : ByteArray) (hs : s.size ≤ 140737488351232) : ∀ (d i : Nat) (n : Int), s.size - i = d → 0 ≤ n → n < 4294967291 → Ev (fun k => spec_Sum.l0 k s n i) (sumF s i n) := by
  intro d
  induction d with
  | zero =>
    intro i n hd h0 h1
    refine ev_succ ?_
    rw [sumF, if_neg (by omega)]
    simp only [spec_Sum.l0, if_neg (natNotLt (show ¬ i < s.size by omega))]
    exact Ev.now _
  | succ d ih =>
    intro i n hd h0 h1
    refine ev_succ ?_
    have hi : i < s.size := by omega
    rw [sumF, if_pos hi]
    simp only [spec_Sum.l0, if_pos (natLt hi), if_pos (nat0 i), sum_round s i n h0 h1, wsucc hi hs]
    exact ih _ _ (by omega) (by omega) (by omega)

theorem impl_sum_l0 (s : ByteArray) (hs : s.size ≤ 140737488351232) : ∀ (d i : Nat) (n : Int), s.size - i = d → 0 ≤ n → n < 4294967291 → Ev (fun k => impl_sum.l0 k s n s.size i) (sumF s i n) := by
  intro d
  induction d with
  | zero =>
    intro i n hd h0 h1
    refine ev_succ ?_
    rw [sumF, if_neg (by omega)]
    simp only [impl_sum.l0, if_neg (natNotLt (show ¬ i < s.size by omega))]
    exact Ev.now _
  | succ d ih =>
    intro i n hd h0 h1
    refine ev_succ ?_
    have hi : i < s.size := by omega
    rw [sumF, if_pos hi]
    simp only [impl_sum.l0, if_pos (natLt hi), if_pos (nat0 i), sum_round s i n h0 h1, wsucc hi hs]
    exact ih _ _ (by omega) (by omega) (by omega)

theorem impl_sum_ev (s : ByteArray) (hs : s.size ≤ 140737488351232) : Ev (fun k => impl_sum.f k s) (sumF s 0 7) := by
  simp only [impl_sum.f]
  exact impl_sum_l0 s hs _ 0 7 rfl (by omega) (by omega)
theorem spec_Sum_ev (s : ByteArray) (hs : s.size ≤ 20000) : Ev (fun k => spec_Sum.f k s) (sumF s 0 7) := by
  simp only [spec_Sum.f, if_neg (show ¬ (s.size : Int) > 20000 by omega)]
  exact spec_sum_l0 s (by omega) _ 0 7 rfl (by omega) (by omega)

theorem FnExactSum : laws_FnExactSum.Pure := by
  intro a0 h
  refine Ev.rounds (g := fun k => laws_FnExactSum.f k a0) ?_
  simp only [laws_FnExactSum.f]
  by_cases h1 : (a0.size : Int) > 1048576
  · simp only [if_pos h1]; exact Ev.now _
  · simp only [if_neg h1]
    by_cases h2 : (a0.size : Int) > 20000
    · simp only [spec_Sum.f, impl_Sum.f, if_pos h2, Option.bind_some, if_true]; exact Ev.now _
    · refine Ev.bind (spec_Sum_ev a0 (by omega)) ?_
      refine Ev.bind (a := sumF a0 0 7) ?_ ?_
      · simp only [impl_Sum.f, if_neg h2]
        exact Ev.bind (impl_sum_ev a0 h) (Ev.now _)
      · simp only [if_true]; exact Ev.now _

end Go.Proofs.Ytapobaphbaoanaa.Pure
