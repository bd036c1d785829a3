/- At every text the program's PutText is the reference's PutText. No condition beyond the row's own. -/
import Derived.Test.YtapobaphbaoanaaPFnExactPutTextx1
import Derived.Test.YtapobaphbaoanaaQLib
namespace Go.Proofs.Ytapobaphbaoanaa.Pure
set_option linter.unusedSimpArgs false
set_option linter.unusedVariables false
open Go.RowKit Go.Proofs.Ytapobaphbaoanaa.PFnExactPutText Go.Proofs.YtapobaphbaoanaaW.PrintWords Go.Proofs.YtapobaphbaoanaaW.PrintLast Go.Proofs.YtapobaphbaoanaaW.PrintMore
open Go.Proofs.Ytapobaphbaoanaa.Q
/-- The bytes of a number from 0 on, seven bits each. -/
def enc7 (u : Nat) : List Int := if u < 128 then [(u : Int)] else ((u % 128 + 128 : Nat) : Int) :: enc7 (u / 128)
termination_by u
/-- A number of int64 made one of uint64. -/
def fold64 (a : Int) : Nat := if a < 0 then (-2 * a - 1).toNat else (2 * a).toNat
theorem fold64_lt {a : Int} (h0 : -9223372036854775808 ≤ a) (h1 : a ≤ 9223372036854775807) : fold64 a < 18446744073709551616 := by
  unfold fold64; split <;> omega

theorem spec_putnum_l0 : ∀ (d u : Nat) (acc : List Int), u < 128 ^ (d + 1) → u < 18446744073709551616 → acc.length + d ≤ 100 → Ev (fun k => spec_PutNum.l0 k (u : Int) acc) (strOfNums (acc ++ enc7 u)) := by
  intro d
  induction d with
  | zero =>
    intro u acc hu _ ha
    refine ev_succ ?_
    have hu' : u < 128 := by simpa using hu
    rw [enc7, if_pos hu']
    simp only [spec_PutNum.l0, if_neg (show ¬ (u : Int) ≥ 128 by omega), if_pos (show acc.length < 140737488355328 by omega), show (u : Int) % 256 = u by omega]
    exact Ev.now _
  | succ d ih =>
    intro u acc hu hu2 ha
    refine ev_succ ?_
    by_cases hs : u < 128
    · rw [enc7, if_pos hs]
      simp only [spec_PutNum.l0, if_neg (show ¬ (u : Int) ≥ 128 by omega), if_pos (show acc.length < 140737488355328 by omega), show (u : Int) % 256 = u by omega]
      exact Ev.now _
    · rw [enc7, if_neg hs]
      have e1 : IntKind.u64.wrap (Int.tdiv (u : Int) 128) = ((u / 128 : Nat) : Int) := by
        rw [tdiv_pos (by omega), u64in (by omega) (by omega)]; omega
      have e2 : IntKind.u64.wrap ((Int.tmod (u : Int) 128) + 128) % 256 = ((u % 128 + 128 : Nat) : Int) := by
        rw [tmod_pos (by omega), u64in (by omega) (by omega)]; omega
      simp only [spec_PutNum.l0, if_pos (show (u : Int) ≥ 128 by omega), if_pos (show acc.length < 140737488355328 by omega), e1, e2]
      have := ih (u / 128) (acc ++ [((u % 128 + 128 : Nat) : Int)]) (by rw [Nat.pow_succ] at hu; omega) (by omega) (by simp; omega)
      simpa [List.append_assoc] using this

theorem spec_PutNum_ev (a : Int) (h0 : -9223372036854775808 ≤ a) (h1 : a ≤ 9223372036854775807) : Ev (fun k => spec_PutNum.f k a) (strOfNums (enc7 (fold64 a))) := by
  have hf : spec_l01Fold.f a = some (fold64 a : Int) := by
    unfold spec_l01Fold.f fold64
    by_cases h : a < 0
    · rw [if_pos h, if_pos h, w64 (a := a + 1) (by omega) (by omega), w64 (by omega) (by omega), u64in (n := -(a + 1)) (by omega) (by omega), u64in (n := 2 * -(a + 1)) (by omega) (by omega), u64in (by omega) (by omega)]
      congr 1; omega
    · rw [if_neg h, if_neg h, u64in (n := a) (by omega) (by omega), u64in (by omega) (by omega)]
      congr 1; omega
  simp only [spec_PutNum.f, hf, Option.bind_some]
  have hl := fold64_lt h0 h1
  have := spec_putnum_l0 9 (fold64 a) [] (by omega) hl (by simp)
  simpa using this

theorem or128 (x : Int) : Go.bits .or .u8 (x % 256) 128 = x % 128 + 128 := by
  rw [u8_or _ _ (by omega) (by omega) (by omega) (by omega)]
  have h : ∀ n : Fin 256, (n.val ||| 128) = n.val % 128 + 128 := by decide +kernel
  have := h ⟨(x % 256).toNat, by omega⟩
  simp only at this
  rw [show (128 : Int).toNat = 128 from rfl, this]; omega

theorem impl_numBytes_l0 : ∀ (d u : Nat) (acc : List Int), u < 128 ^ (d + 1) → acc.length + d ≤ 100 → Ev (fun k => impl_numBytes.l0 k (u : Int) acc) (acc ++ enc7 u) := by
  intro d
  induction d with
  | zero =>
    intro u acc hu ha
    refine ev_succ ?_
    have hu' : u < 128 := by simpa using hu
    rw [enc7, if_pos hu']
    simp only [impl_numBytes.l0, if_neg (show ¬ (u : Int) > 127 by omega), if_pos (show acc.length < 140737488355328 by omega), show (u : Int) % 256 = u by omega]
    exact Ev.now _
  | succ d ih =>
    intro u acc hu ha
    refine ev_succ ?_
    by_cases hs : u < 128
    · rw [enc7, if_pos hs]
      simp only [impl_numBytes.l0, if_neg (show ¬ (u : Int) > 127 by omega), if_pos (show acc.length < 140737488355328 by omega), show (u : Int) % 256 = u by omega]
      exact Ev.now _
    · rw [enc7, if_neg hs]
      simp only [impl_numBytes.l0, if_pos (show (u : Int) > 127 by omega), if_pos (show acc.length < 140737488355328 by omega), or128, show (u : Int) % 128 + 128 = ((u % 128 + 128 : Nat) : Int) by omega, show (u : Int) / 128 = ((u / 128 : Nat) : Int) by omega]
      have := ih (u / 128) (acc ++ [((u % 128 + 128 : Nat) : Int)]) (by rw [Nat.pow_succ] at hu; omega) (by simp; omega)
      simpa [List.append_assoc] using this

theorem xor_ones (x : Nat) (h : x < 18446744073709551616) : x ^^^ 18446744073709551615 = 18446744073709551615 - x := by
  have h1 : (BitVec.ofNat 64 x ^^^ BitVec.allOnes 64).toNat = (~~~ (BitVec.ofNat 64 x)).toNat := by rw [BitVec.xor_allOnes]
  rw [BitVec.toNat_xor, BitVec.toNat_not, BitVec.toNat_ofNat, BitVec.toNat_allOnes, Nat.mod_eq_of_lt (by simpa using h)] at h1
  simpa using h1

theorem impl_fold (a : Int) (h0 : -9223372036854775808 ≤ a) (h1 : a ≤ 9223372036854775807) :
    Go.bits .xor .u64 (IntKind.u64.wrap ((IntKind.u64.wrap (a)) * 2)) (IntKind.u64.wrap (a / 9223372036854775808)) = (fold64 a : Int) := by
  rw [u64w, u64w, u64w, u64_xor _ _ (by omega) (by omega) (by omega) (by omega)]
  unfold fold64
  by_cases h : a < 0
  · rw [if_pos h, show (a / 9223372036854775808 % 18446744073709551616).toNat = 18446744073709551615 by omega, xor_ones _ (by omega)]
    omega
  · rw [if_neg h, show (a / 9223372036854775808 % 18446744073709551616).toNat = 0 by omega, Nat.xor_zero]
    omega

theorem impl_numBytes_ev (a : Int) (h0 : -9223372036854775808 ≤ a) (h1 : a ≤ 9223372036854775807) : Ev (fun k => impl_numBytes.f k a) (enc7 (fold64 a)) := by
  simp only [impl_numBytes.f, impl_fold a h0 h1]
  have hl := fold64_lt h0 h1
  have := impl_numBytes_l0 9 (fold64 a) [] (by omega) (by simp)
  simpa using this
theorem enc7_len : ∀ (d u : Nat), u < 128 ^ (d + 1) → (enc7 u).length ≤ d + 1 := by
  intro d
  induction d with
  | zero => intro u hu; rw [enc7, if_pos (by simpa using hu)]; simp
  | succ d ih =>
    intro u hu
    rw [enc7]; split
    · simp
    · have := ih (u / 128) (by rw [Nat.pow_succ] at hu; omega)
      simp; omega
theorem enc7_len10 {u : Nat} (hu : u < 18446744073709551616) : (enc7 u).length ≤ 10 := enc7_len 9 u (by omega)

theorem impl_PutNum_ev (a : Int) (h0 : -9223372036854775808 ≤ a) (h1 : a ≤ 9223372036854775807) : Ev (fun k => impl_PutNum.f k a) (strOfNums (enc7 (fold64 a))) := by
  simp only [impl_PutNum.f]
  exact Ev.bind (impl_numBytes_ev a h0 h1) (Ev.now _)
theorem nums_size (xs : List Int) : (strOfNums xs).size = xs.length := by simp [strOfNums, ByteArray.size]
theorem put_size {a : Int} (h0 : -9223372036854775808 ≤ a) (h1 : a ≤ 9223372036854775807) : (strOfNums (enc7 (fold64 a))).size ≤ 10 := by
  rw [nums_size]; exact enc7_len10 (fold64_lt h0 h1)

/-- Are all bytes from place i on 32 to 126? -/
def shownF (s : ByteArray) (i : Nat) : Bool :=
  if i < s.size then (if bt s i < 32 then false else if bt s i > 126 then false else shownF s (i + 1)) else true
termination_by s.size - i
theorem spec_plain_l0 (s : ByteArray) (hs : s.size ≤ 140737488351232) : ∀ (d i : Nat), s.size - i = d → Ev (fun k => spec_l01Plain.l0 k s i) (shownF s i) := by
  intro d
  induction d with
  | zero =>
    intro i hd
    refine ev_succ ?_
    rw [shownF, if_neg (by omega)]
    simp only [spec_l01Plain.l0, if_neg (natNotLt (show ¬ i < s.size by omega))]
    exact Ev.now _
  | succ d ih =>
    intro i hd
    refine ev_succ ?_
    have hi : i < s.size := by omega
    rw [shownF, if_pos hi]
    simp only [spec_l01Plain.l0, if_pos (natLt hi), if_pos (nat0 i), wsucc hi hs]
    by_cases h : bt s i < 32
    · simp only [if_pos h]; exact Ev.now _
    · simp only [if_neg h]
      by_cases h' : bt s i > 126
      · simp only [if_pos h']; exact Ev.now _
      · simp only [if_neg h']; exact ih _ (by omega)
theorem impl_shown_l0 (s : ByteArray) (hs : s.size ≤ 140737488351232) : ∀ (d i : Nat), s.size - i = d → Ev (fun k => impl_isShown.l0 k s s.size i) (shownF s i) := by
  intro d
  induction d with
  | zero =>
    intro i hd
    refine ev_succ ?_
    rw [shownF, if_neg (by omega)]
    simp only [impl_isShown.l0, if_neg (natNotLt (show ¬ i < s.size by omega))]
    exact Ev.now _
  | succ d ih =>
    intro i hd
    refine ev_succ ?_
    have hi : i < s.size := by omega
    rw [shownF, if_pos hi]
    simp only [impl_isShown.l0, if_pos (natLt hi), if_pos (nat0 i), wsucc hi hs]
    by_cases h : bt s i < 32
    · simp only [if_pos h]; exact Ev.now _
    · simp only [if_neg h]
      by_cases h' : bt s i > 126
      · simp only [if_pos h']; exact Ev.now _
      · simp only [if_neg h']; exact ih _ (by omega)

theorem FnExactPutText : laws_FnExactPutText.Pure := by
  intro a0 h
  refine Ev.rounds (g := fun k => laws_FnExactPutText.f k a0) ?_
  simp only [laws_FnExactPutText.f]
  by_cases h1 : (a0.size : Int) > 1048576
  · simp only [if_pos h1]; exact Ev.now _
  · simp only [if_neg h1]
    by_cases h2 : (a0.size : Int) > 200
    · simp only [spec_PutText.f, impl_PutText.f, if_pos h2, Option.bind_some, if_true]; exact Ev.now _
    · simp only [spec_PutText.f, impl_PutText.f, if_neg h2, spec_l01Plain.f, impl_isShown.f]
      have b0 : -9223372036854775808 ≤ (a0.size : Int) := by omega
      have b1 : (a0.size : Int) ≤ 9223372036854775807 := by omega
      have hz := put_size b0 b1
      refine Ev.bind (a := if shownF a0 0 = true then strOfNums (enc7 (fold64 a0.size)) ++ a0 else ⟨#[]⟩) ?_ ?_
      · refine Ev.bind (spec_plain_l0 a0 h _ 0 rfl) ?_
        by_cases h3 : shownF a0 0 = true
        · simp only [if_pos h3]
          refine Ev.bind (spec_PutNum_ev _ b0 b1) ?_
          simp only [if_pos (show (strOfNums (enc7 (fold64 a0.size))).size + a0.size ≤ 9223372036854775807 by omega)]; exact Ev.now _
        · simp only [if_neg h3]; exact Ev.now _
      · refine Ev.bind (a := if shownF a0 0 = true then strOfNums (enc7 (fold64 a0.size)) ++ a0 else ⟨#[]⟩) ?_ ?_
        · refine Ev.bind (impl_shown_l0 a0 h _ 0 rfl) ?_
          by_cases h3 : shownF a0 0 = true
          · simp only [if_pos h3]
            refine Ev.bind (impl_PutNum_ev _ b0 b1) ?_
            simp only [if_pos (show (strOfNums (enc7 (fold64 a0.size))).size + a0.size ≤ 9223372036854775807 by omega)]; exact Ev.now _
          · simp only [if_neg h3]; exact Ev.now _
        · simp only [if_true]; exact Ev.now _

end Go.Proofs.Ytapobaphbaoanaa.Pure
