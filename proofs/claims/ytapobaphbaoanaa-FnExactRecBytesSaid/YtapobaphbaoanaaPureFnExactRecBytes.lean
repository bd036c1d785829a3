/- At every text the program's RecBytes is the reference's RecBytes. No condition beyond the row's own. -/
import Derived.Test.YtapobaphbaoanaaPFnExactRecBytesx1
import Derived.Test.YtapobaphbaoanaaQLib
namespace Go.Proofs.Ytapobaphbaoanaa.Pure
set_option linter.unusedSimpArgs false
set_option linter.unusedVariables false
open Go.RowKit Go.Proofs.Ytapobaphbaoanaa.PFnExactRecBytes Go.Proofs.YtapobaphbaoanaaW.PrintWords Go.Proofs.YtapobaphbaoanaaW.PrintLast Go.Proofs.YtapobaphbaoanaaW.PrintMore
open Go.Proofs.Ytapobaphbaoanaa.Q
/-- The bytes of a number from 0 on, seven bits each. -/
def enc7 (u : Nat) : List Int := if u < 128 then [(u : Int)] else ((u % 128 + 128 : Nat) : Int) :: enc7 (u / 128)
termination_by u
/-- A number of int64 made one of uint64. -/
def fold64 (a : Int) : Nat := if a < 0 then (-2 * a - 1).toNat else (2 * a).toNat
theorem fold64_lt {a : Int} (h0 : -9223372036854775808 ≤ a) (h1 : a ≤ 9223372036854775807) : fold64 a < 18446744073709551616 := by
  unfold fold64; split <;> omega

theorem spec_putnum_l0 : ∀ (d u : Nat) (acc : List Int), u < 128 ^ (d + 1) → u < 18446744073709551616 → acc.length + d ≤ 100 → Ev (fun k => spec_PutNum.l0 k (u : Int) acc) (strOfNums (acc ++ enc7 u)) := by
  intro d
  induction d with
  | zero =>
    intro u acc hu _ ha
    refine ev_succ ?_
    have hu' : u < 128 := by simpa using hu
    rw [enc7, if_pos hu']
    simp only [spec_PutNum.l0, if_neg (show ¬ (u : Int) ≥ 128 by omega), if_pos (show acc.length < 140737488355328 by omega), show (u : Int) % 256 = u by omega]
    exact Ev.now _
  | succ d ih =>
    intro u acc hu hu2 ha
    refine ev_succ ?_
    by_cases hs : u < 128
    · rw [enc7, if_pos hs]
      simp only [spec_PutNum.l0, if_neg (show ¬ (u : Int) ≥ 128 by omega), if_pos (show acc.length < 140737488355328 by omega), show (u : Int) % 256 = u by omega]
      exact Ev.now _
    · rw [enc7, if_neg hs]
      have e1 : IntKind.u64.wrap (Int.tdiv (u : Int) 128) = ((u / 128 : Nat) : Int) := by
        rw [tdiv_pos (by omega), u64in (by omega) (by omega)]; omega
      have e2 : IntKind.u64.wrap ((Int.tmod (u : Int) 128) + 128) % 256 = ((u % 128 + 128 : Nat) : Int) := by
        rw [tmod_pos (by omega), u64in (by omega) (by omega)]; omega
      simp only [spec_PutNum.l0, if_pos (show (u : Int) ≥ 128 by omega), if_pos (show acc.length < 140737488355328 by omega), e1, e2]
      have := ih (u / 128) (acc ++ [((u % 128 + 128 : Nat) : Int)]) (by rw [Nat.pow_succ] at hu; omega) (by omega) (by simp; omega)
      simpa [List.append_assoc] using this

theorem spec_PutNum_ev (a : Int) (h0 : -9223372036854775808 ≤ a) (h1 : a ≤ 9223372036854775807) : Ev (fun k => spec_PutNum.f k a) (strOfNums (enc7 (fold64 a))) := by
  have hf : spec_l01Fold.f a = some (fold64 a : Int) := by
    unfold spec_l01Fold.f fold64
    by_cases h : a < 0
    · rw [if_pos h, if_pos h, w64 (a := a + 1) (by omega) (by omega), w64 (by omega) (by omega), u64in (n := -(a + 1)) (by omega) (by omega), u64in (n := 2 * -(a + 1)) (by omega) (by omega), u64in (by omega) (by omega)]
      congr 1; omega
    · rw [if_neg h, if_neg h, u64in (n := a) (by omega) (by omega), u64in (by omega) (by omega)]
      congr 1; omega
  simp only [spec_PutNum.f, hf, Option.bind_some]
  have hl := fold64_lt h0 h1
  have := spec_putnum_l0 9 (fold64 a) [] (by omega) hl (by simp)
  simpa using this

theorem or128 (x : Int) : Go.bits .or .u8 (x % 256) 128 = x % 128 + 128 := by
  rw [u8_or _ _ (by omega) (by omega) (by omega) (by omega)]
  have h : ∀ n : Fin 256, (n.val ||| 128) = n.val % 128 + 128 := by decide +kernel
  have := h ⟨(x % 256).toNat, by omega⟩
  simp only at this
  rw [show (128 : Int).toNat = 128 from rfl, this]; omega

theorem impl_numBytes_l0 : ∀ (d u : Nat) (acc : List Int), u < 128 ^ (d + 1) → acc.length + d ≤ 100 → Ev (fun k => impl_numBytes.l0 k (u : Int) acc) (acc ++ enc7 u) := by
  intro d
  induction d with
  | zero =>
    intro u acc hu ha
    refine ev_succ ?_
    have hu' : u < 128 := by simpa using hu
    rw [enc7, if_pos hu']
    simp only [impl_numBytes.l0, if_neg (show ¬ (u : Int) > 127 by omega), if_pos (show acc.length < 140737488355328 by omega), show (u : Int) % 256 = u by omega]
    exact Ev.now _
  | succ d ih =>
    intro u acc hu ha
    refine ev_succ ?_
    by_cases hs : u < 128
    · rw [enc7, if_pos hs]
      simp only [impl_numBytes.l0, if_neg (show ¬ (u : Int) > 127 by omega), if_pos (show acc.length < 140737488355328 by omega), show (u : Int) % 256 = u by omega]
      exact Ev.now _
    · rw [enc7, if_neg hs]
      simp only [impl_numBytes.l0, if_pos (show (u : Int) > 127 by omega), if_pos (show acc.length < 140737488355328 by omega), or128, show (u : Int) % 128 + 128 = ((u % 128 + 128 : Nat) : Int) by omega, show (u : Int) / 128 = ((u / 128 : Nat) : Int) by omega]
      have := ih (u / 128) (acc ++ [((u % 128 + 128 : Nat) : Int)]) (by rw [Nat.pow_succ] at hu; omega) (by simp; omega)
      simpa [List.append_assoc] using this

theorem xor_ones (x : Nat) (h : x < 18446744073709551616) : x ^^^ 18446744073709551615 = 18446744073709551615 - x := by
  have h1 : (BitVec.ofNat 64 x ^^^ BitVec.allOnes 64).toNat = (~~~ (BitVec.ofNat 64 x)).toNat := by rw [BitVec.xor_allOnes]
  rw [BitVec.toNat_xor, BitVec.toNat_not, BitVec.toNat_ofNat, BitVec.toNat_allOnes, Nat.mod_eq_of_lt (by simpa using h)] at h1
  simpa using h1

theorem impl_fold (a : Int) (h0 : -9223372036854775808 ≤ a) (h1 : a ≤ 9223372036854775807) :
    Go.bits .xor .u64 (IntKind.u64.wrap ((IntKind.u64.wrap (a)) * 2)) (IntKind.u64.wrap (a / 9223372036854775808)) = (fold64 a : Int) := by
  rw [u64w, u64w, u64w, u64_xor _ _ (by omega) (by omega) (by omega) (by omega)]
  unfold fold64
  by_cases h : a < 0
  · rw [if_pos h, show (a / 9223372036854775808 % 18446744073709551616).toNat = 18446744073709551615 by omega, xor_ones _ (by omega)]
    omega
  · rw [if_neg h, show (a / 9223372036854775808 % 18446744073709551616).toNat = 0 by omega, Nat.xor_zero]
    omega

theorem impl_numBytes_ev (a : Int) (h0 : -9223372036854775808 ≤ a) (h1 : a ≤ 9223372036854775807) : Ev (fun k => impl_numBytes.f k a) (enc7 (fold64 a)) := by
  simp only [impl_numBytes.f, impl_fold a h0 h1]
  have hl := fold64_lt h0 h1
  have := impl_numBytes_l0 9 (fold64 a) [] (by omega) (by simp)
  simpa using this
theorem enc7_len : ∀ (d u : Nat), u < 128 ^ (d + 1) → (enc7 u).length ≤ d + 1 := by
  intro d
  induction d with
  | zero => intro u hu; rw [enc7, if_pos (by simpa using hu)]; simp
  | succ d ih =>
    intro u hu
    rw [enc7]; split
    · simp
    · have := ih (u / 128) (by rw [Nat.pow_succ] at hu; omega)
      simp; omega
theorem enc7_len10 {u : Nat} (hu : u < 18446744073709551616) : (enc7 u).length ≤ 10 := enc7_len 9 u (by omega)

theorem impl_PutNum_ev (a : Int) (h0 : -9223372036854775808 ≤ a) (h1 : a ≤ 9223372036854775807) : Ev (fun k => impl_PutNum.f k a) (strOfNums (enc7 (fold64 a))) := by
  simp only [impl_PutNum.f]
  exact Ev.bind (impl_numBytes_ev a h0 h1) (Ev.now _)
theorem nums_size (xs : List Int) : (strOfNums xs).size = xs.length := by simp [strOfNums, ByteArray.size]
theorem put_size {a : Int} (h0 : -9223372036854775808 ≤ a) (h1 : a ≤ 9223372036854775807) : (strOfNums (enc7 (fold64 a))).size ≤ 10 := by
  rw [nums_size]; exact enc7_len10 (fold64_lt h0 h1)

/-- The sum of the bytes of s from place i on, n being the sum of those ahead. -/
def sumF (s : ByteArray) (i : Nat) (n : Int) : Int :=
  if i < s.size then sumF s (i + 1) ((257 * n + bt s i) % 4294967291) else n
termination_by s.size - i

theorem sumF_range (s : ByteArray) : ∀ (d i : Nat) (n : Int), s.size - i = d → 0 ≤ n → n < 4294967291 → 0 ≤ sumF s i n ∧ sumF s i n < 4294967291 := by
  intro d
  induction d with
  | zero => intro i n hd h0 h1; rw [sumF, if_neg (by omega)]; exact ⟨h0, h1⟩
  | succ d ih => intro i n hd h0 h1; rw [sumF, if_pos (by omega)]; exact ih _ _ (by omega) (by omega) (by omega)

theorem sum_round (s : ByteArray) (i : Nat) (n : Int) (h0 : 0 ≤ n) (h1 : n < 4294967291) :
    Int.tmod (wrap64 ((wrap64 (257 * n)) + (wrap64 (bt s i)))) 4294967291 = (257 * n + bt s i) % 4294967291 := by
  have hb := bt_range s i
  rw [w64 (a := 257 * n) (by omega) (by omega), w64 (a := bt s i) (by omega) (by omega), w64 (by omega) (by omega), tmod_pos (by omega)]

theorem spec_sum_l0 (s : ByteArray) (hs : s.size ≤ 140737488351232) : ∀ (d i : Nat) (n : Int), s.size - i = d → 0 ≤ n → n < 4294967291 → Ev (fun k => spec_Sum.l0 k s n i) (sumF s i n) := by
  intro d
  induction d with
  | zero =>
    intro i n hd h0 h1
    refine ev_succ ?_
    rw [sumF, if_neg (by omega)]
    simp only [spec_Sum.l0, if_neg (natNotLt (show ¬ i < s.size by omega))]
    exact Ev.now _
  | succ d ih =>
    intro i n hd h0 h1
    refine ev_succ ?_
    have hi : i < s.size := by omega
    rw [sumF, if_pos hi]
    simp only [spec_Sum.l0, if_pos (natLt hi), if_pos (nat0 i), sum_round s i n h0 h1, wsucc hi hs]
    exact ih _ _ (by omega) (by omega) (by omega)

theorem impl_sum_l0 (s : ByteArray) (hs : s.size ≤ 140737488351232) : ∀ (d i : Nat) (n : Int), s.size - i = d → 0 ≤ n → n < 4294967291 → Ev (fun k => impl_sum.l0 k s n s.size i) (sumF s i n) := by
  intro d
  induction d with
  | zero =>
    intro i n hd h0 h1
    refine ev_succ ?_
    rw [sumF, if_neg (by omega)]
    simp only [impl_sum.l0, if_neg (natNotLt (show ¬ i < s.size by omega))]
    exact Ev.now _
  | succ d ih =>
    intro i n hd h0 h1
    refine ev_succ ?_
    have hi : i < s.size := by omega
    rw [sumF, if_pos hi]
    simp only [impl_sum.l0, if_pos (natLt hi), if_pos (nat0 i), sum_round s i n h0 h1, wsucc hi hs]
    exact ih _ _ (by omega) (by omega) (by omega)

theorem impl_sum_ev (s : ByteArray) (hs : s.size ≤ 140737488351232) : Ev (fun k => impl_sum.f k s) (sumF s 0 7) := by
  simp only [impl_sum.f]
  exact impl_sum_l0 s hs _ 0 7 rfl (by omega) (by omega)
theorem spec_Sum_ev (s : ByteArray) (hs : s.size ≤ 20000) : Ev (fun k => spec_Sum.f k s) (sumF s 0 7) := by
  simp only [spec_Sum.f, if_neg (show ¬ (s.size : Int) > 20000 by omega)]
  exact spec_sum_l0 s (by omega) _ 0 7 rfl (by omega) (by omega)

def putB (n : Int) : ByteArray := strOfNums (enc7 (fold64 n))
def recB (s : ByteArray) : ByteArray := (putB s.size ++ putB (sumF (putB s.size ++ s) 0 7)) ++ s
theorem append_size (a b : ByteArray) : (a ++ b).size = a.size + b.size := ByteArray.size_append
theorem putB_size {a : Int} (h0 : -9223372036854775808 ≤ a) (h1 : a ≤ 9223372036854775807) : (putB a).size ≤ 10 := put_size h0 h1
theorem spec_rec_ev (s : ByteArray) (h0 : 1 ≤ s.size) (h1 : s.size ≤ 10000) : Ev (fun k => spec_RecBytes.f k s) (recB s) := by
  have b0 : -9223372036854775808 ≤ (s.size : Int) := by omega
  have b1 : (s.size : Int) ≤ 9223372036854775807 := by omega
  have hz := putB_size b0 b1
  have hy := append_size (putB s.size) s
  have hr := sumF_range (putB s.size ++ s) _ 0 7 rfl (by omega) (by omega)
  have hq := putB_size (a := sumF (putB s.size ++ s) 0 7) (by omega) (by omega)
  have hx := append_size (putB s.size) (putB (sumF (putB s.size ++ s) 0 7))
  simp only [spec_RecBytes.f, if_neg (show ¬ (s.size : Int) < 1 by omega), decide_eq_false (show ¬ (s.size : Int) > 10000 by omega)]
  refine ev_succ ?_
  simp only [spec_RecBytes.j0, Bool.false_eq_true, if_false]
  refine Ev.bind (spec_PutNum_ev _ b0 b1) ?_
  simp only [if_pos (show (strOfNums (enc7 (fold64 s.size))).size + s.size ≤ 9223372036854775807 from by have : (strOfNums (enc7 (fold64 s.size))).size ≤ 10 := hz; omega)]
  refine Ev.bind (spec_Sum_ev (putB s.size ++ s) (by omega)) ?_
  refine Ev.bind (spec_PutNum_ev _ (by omega) (by omega)) ?_
  refine ev_pos (show (putB s.size).size + (putB (sumF (putB s.size ++ s) 0 7)).size ≤ 9223372036854775807 by omega) ?_
  refine ev_pos (show (putB s.size ++ putB (sumF (putB s.size ++ s) 0 7)).size + s.size ≤ 9223372036854775807 by omega) ?_
  exact Ev.now _
theorem impl_rec_ev (s : ByteArray) (h0 : 1 ≤ s.size) (h1 : s.size ≤ 10000) : Ev (fun k => impl_RecBytes.f k s) (recB s) := by
  have b0 : -9223372036854775808 ≤ (s.size : Int) := by omega
  have b1 : (s.size : Int) ≤ 9223372036854775807 := by omega
  have hz := putB_size b0 b1
  have hy := append_size (putB s.size) s
  have hr := sumF_range (putB s.size ++ s) _ 0 7 rfl (by omega) (by omega)
  have hq := putB_size (a := sumF (putB s.size ++ s) 0 7) (by omega) (by omega)
  have hx := append_size (putB s.size) (putB (sumF (putB s.size ++ s) 0 7))
  simp only [impl_RecBytes.f, impl_in.f, if_pos (show (1 : Int) ≤ s.size by omega), decide_eq_true (show (s.size : Int) ≤ 10000 by omega), Option.bind_some, if_true]
  refine Ev.bind (impl_PutNum_ev _ b0 b1) ?_
  simp only [if_pos (show (strOfNums (enc7 (fold64 s.size))).size + s.size ≤ 9223372036854775807 from by have : (strOfNums (enc7 (fold64 s.size))).size ≤ 10 := hz; omega)]
  refine Ev.bind (impl_sum_ev (putB s.size ++ s) (by omega)) ?_
  refine Ev.bind (impl_PutNum_ev _ (by omega) (by omega)) ?_
  refine ev_pos (show (putB s.size).size + (putB (sumF (putB s.size ++ s) 0 7)).size ≤ 9223372036854775807 by omega) ?_
  refine ev_pos (show (putB s.size ++ putB (sumF (putB s.size ++ s) 0 7)).size + s.size ≤ 9223372036854775807 by omega) ?_
  exact Ev.now _

theorem FnExactRecBytes : laws_FnExactRecBytes.Pure := by
  intro a0 h
  refine Ev.rounds (g := fun k => laws_FnExactRecBytes.f k a0) ?_
  simp only [laws_FnExactRecBytes.f]
  by_cases h1 : (a0.size : Int) > 1048576
  · simp only [if_pos h1]; exact Ev.now _
  · simp only [if_neg h1]
    by_cases h2 : a0.size < 1 ∨ 10000 < a0.size
    · refine Ev.bind (a := ⟨#[]⟩) ?_ ?_
      · by_cases h3 : (a0.size : Int) < 1
        · simp only [spec_RecBytes.f, if_pos h3]
          refine ev_succ ?_
          simp only [spec_RecBytes.j0, if_true]; exact Ev.now _
        · simp only [spec_RecBytes.f, if_neg h3, decide_eq_true (show (a0.size : Int) > 10000 by omega)]
          refine ev_succ ?_
          simp only [spec_RecBytes.j0, if_true]; exact Ev.now _
      · refine Ev.bind (a := ⟨#[]⟩) ?_ ?_
        · by_cases h3 : (a0.size : Int) < 1
          · simp only [impl_RecBytes.f, impl_in.f, if_neg (show ¬ (1 : Int) ≤ a0.size by omega), Option.bind_some, Bool.false_eq_true, if_false]; exact Ev.now _
          · simp only [impl_RecBytes.f, impl_in.f, if_pos (show (1 : Int) ≤ a0.size by omega), decide_eq_false (show ¬ (a0.size : Int) ≤ 10000 by omega), Option.bind_some, Bool.false_eq_true, if_false]; exact Ev.now _
        · simp only [if_true]; exact Ev.now _
    · refine Ev.bind (spec_rec_ev a0 (by omega) (by omega)) ?_
      refine Ev.bind (impl_rec_ev a0 (by omega) (by omega)) ?_
      simp only [if_true]; exact Ev.now _

end Go.Proofs.Ytapobaphbaoanaa.Pure
