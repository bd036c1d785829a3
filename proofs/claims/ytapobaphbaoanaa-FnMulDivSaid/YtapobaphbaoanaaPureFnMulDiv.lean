/- A drawn product over a divisor is nearest, of two that are as near the even one; the other sign of a factor is that of it; a greater factor makes it no less; times a divisor and over it money is itself. No condition beyond the row's own. -/
import Derived.Test.YtapobaphbaoanaaPFnMulDivx6
import Derived.Test.YtapobaphbaoanaaQLib
namespace Go.Proofs.Ytapobaphbaoanaa.Pure
set_option linter.unusedSimpArgs false
set_option linter.unusedVariables false
open Go.RowKit Go.Proofs.Ytapobaphbaoanaa.PFnMulDiv Go.Proofs.YtapobaphbaoanaaW.PrintWords Go.Proofs.YtapobaphbaoanaaW.PrintLast Go.Proofs.YtapobaphbaoanaaW.PrintMore
open Go.Proofs.Ytapobaphbaoanaa.Q
theorem right_same (a : Int) : impl_MoneyRight.f a = spec_MoneyRight.f a := by
  simp only [spec_MoneyRight.f, impl_MoneyRight.f, impl_in.f, ge_iff_le]
  by_cases h1 : (-1000000000000 : Int) ≤ a
  · simp only [if_pos h1, Option.bind_some]
  · simp only [if_neg h1, Option.bind_some]
/-- Is it money? -/
def mr (a : Int) : Bool := decide (-1000000000000 ≤ a ∧ a ≤ 1000000000000)
theorem right_is (a : Int) : spec_MoneyRight.f a = some (mr a) := by
  simp only [spec_MoneyRight.f, ge_iff_le, mr]
  by_cases h1 : (-1000000000000 : Int) ≤ a
  · simp [h1]
  · simp [h1]

theorem u64_mask32 (x : Int) (h0 : 0 ≤ x) (h1 : x < 18446744073709551616) : Go.bits .and .u64 x 4294967295 = x % 4294967296 := by
  rw [u64_and _ _ h0 h1 (by omega) (by omega)]
  have h := Nat.and_two_pow_sub_one_eq_mod x.toNat 32
  rw [show (4294967295 : Int).toNat = 2 ^ 32 - 1 from rfl, h, show (2 ^ 32 : Nat) = 4294967296 from rfl]
  omega
theorem mul_bd {x y m n : Int} (h0 : 0 ≤ x) (h1 : x ≤ m) (h2 : 0 ≤ y) (h3 : y ≤ n) : 0 ≤ x * y ∧ x * y ≤ m * n :=
  ⟨Int.mul_nonneg h0 h2, Int.mul_le_mul h1 h3 h2 (by omega)⟩
theorem mul64_is (a b : Int) (ha0 : 0 ≤ a) (ha : a < 18446744073709551616) (hb0 : 0 ≤ b) (hb : b < 18446744073709551616) :
    bits_Mul64.f a b = some (a * b / 18446744073709551616, a * b % 18446744073709551616) := by
  unfold bits_Mul64.f
  rw [u64_mask32 a ha0 ha, u64_mask32 b hb0 hb]
  have e : a * b = (a / 4294967296) * (b / 4294967296) * 18446744073709551616 + ((a / 4294967296) * (b % 4294967296) + (a % 4294967296) * (b / 4294967296)) * 4294967296 + (a % 4294967296) * (b % 4294967296) := by
    have e1 : a = 4294967296 * (a / 4294967296) + a % 4294967296 := by omega
    have e2 : b = 4294967296 * (b / 4294967296) + b % 4294967296 := by omega
    generalize a / 4294967296 = X at e1 ⊢
    generalize a % 4294967296 = x at e1 ⊢
    generalize b / 4294967296 = Y at e2 ⊢
    generalize b % 4294967296 = y at e2 ⊢
    subst e1 e2
    simp only [Int.add_mul, Int.mul_add]
    have h1 : 4294967296 * X * (4294967296 * Y) = X * Y * 18446744073709551616 := by
      rw [Int.mul_assoc, Int.mul_left_comm X, ← Int.mul_assoc, Int.mul_comm _ (X * Y)]; rfl
    have h2 : 4294967296 * X * y = X * y * 4294967296 := by rw [Int.mul_assoc, Int.mul_comm]
    have h3 : x * (4294967296 * Y) = x * Y * 4294967296 := by rw [Int.mul_left_comm, Int.mul_comm]
    rw [h1, h2, h3]; omega
  have p1 := mul_bd (x := a / 4294967296) (y := b / 4294967296) (m := 4294967295) (n := 4294967295) (by omega) (by omega) (by omega) (by omega)
  have p2 := mul_bd (x := a / 4294967296) (y := b % 4294967296) (m := 4294967295) (n := 4294967295) (by omega) (by omega) (by omega) (by omega)
  have p3 := mul_bd (x := a % 4294967296) (y := b / 4294967296) (m := 4294967295) (n := 4294967295) (by omega) (by omega) (by omega) (by omega)
  have p4 := mul_bd (x := a % 4294967296) (y := b % 4294967296) (m := 4294967295) (n := 4294967295) (by omega) (by omega) (by omega) (by omega)
  rw [e]
  generalize (a / 4294967296) * (b / 4294967296) = q1 at *
  generalize (a / 4294967296) * (b % 4294967296) = q2 at *
  generalize (a % 4294967296) * (b / 4294967296) = q3 at *
  generalize (a % 4294967296) * (b % 4294967296) = q4 at *
  rw [u64in (n := q1) (by omega) (by omega), u64in (n := q2) (by omega) (by omega), u64in (n := q3) (by omega) (by omega), u64in (n := q4) (by omega) (by omega), u64in (n := q2 + q4 / 4294967296) (by omega) (by omega), u64_mask32 _ (by omega) (by omega), u64in (n := q1 + _) (by omega) (by omega), u64in (n := _ + q3) (by omega) (by omega), u64in (n := q1 + _ + _) (by omega) (by omega), u64w]
  congr 2
  omega

def absF (a : Int) : Int := if a < 0 then -a else a
theorem abs_mul (a b : Int) : absF (a * b) = absF a * absF b := by
  unfold absF
  by_cases ha : a < 0 <;> by_cases hb : b < 0
  · have := Int.mul_pos_of_neg_of_neg ha hb
    rw [if_neg (by omega), if_pos ha, if_pos hb, Int.neg_mul_neg]
  · rw [if_pos ha, if_neg hb, Int.neg_mul]
    by_cases h0 : b = 0
    · subst h0; simp
    · have := Int.mul_neg_of_neg_of_pos ha (show 0 < b by omega)
      rw [if_pos this]
  · rw [if_neg ha, if_pos hb, Int.mul_neg]
    by_cases h0 : a = 0
    · subst h0; simp
    · have := Int.mul_neg_of_pos_of_neg (show 0 < a by omega) hb
      rw [if_pos this]
  · have := Int.mul_nonneg (show 0 ≤ a by omega) (show 0 ≤ b by omega)
    rw [if_neg (by omega), if_neg ha, if_neg hb]
theorem mr_true {a : Int} (h : mr a = true) : -1000000000000 ≤ a ∧ a ≤ 1000000000000 := by unfold mr at h; simpa using h
theorem out_is (n : Int) : spec_l02Out.f n = some (if mr n then (n, 0) else (0, 13)) := by
  simp only [spec_l02Out.f, right_is, Option.bind_some]
  by_cases h : mr n = true
  · rw [if_pos h, if_pos h]
  · rw [if_neg h, if_neg h]
theorem abs_is {a : Int} (h : mr a = true) : spec_l02Abs.f a = some (absF a) := by
  have := mr_true h
  unfold spec_l02Abs.f absF
  by_cases h0 : a < 0
  · rw [if_pos h0, if_pos h0, w64 (by omega) (by omega)]
  · rw [if_neg h0, if_neg h0]
theorem abs_bd {a : Int} (h : mr a = true) : 0 ≤ absF a ∧ absF a ≤ 1000000000000 := by
  have := mr_true h
  unfold absF; split <;> omega
theorem mx_abs {a : Int} (h : mr a = true) : IntKind.u64.wrap (mx a (wrap64 (-a))) = absF a := by
  have := mr_true h
  rw [w64 (by omega) (by omega)]
  unfold mx absF
  by_cases h0 : a < 0
  · rw [if_pos (by omega), if_pos h0, u64in (by omega) (by omega)]
  · rw [if_neg (by omega), if_neg h0, u64in (by omega) (by omega)]
theorem prod_small {a b : Int} (ha : mr a = true) (hb : mr b = true) : wrap64 (a * b) = a * b ∨ ¬ (absF a * absF b ≤ 1000000000000) := by
  by_cases h : absF a * absF b ≤ 1000000000000
  · left
    rw [← abs_mul] at h
    unfold absF at h
    apply w64 <;> split at h <;> omega
  · right; exact h
theorem in_range (a b : Int) : (-1000000000000 ≤ a * b ∧ a * b ≤ 1000000000000) ↔ absF a * absF b ≤ 1000000000000 := by
  rw [← abs_mul]; unfold absF; split <;> omega


/-- How many bits a byte has. -/
def lenB (b : Int) : Int := if b < 1 then 0 else if b < 2 then 1 else if b < 4 then 2 else if b < 8 then 3 else if b < 16 then 4 else if b < 32 then 5 else if b < 64 then 6 else if b < 128 then 7 else 8
set_option maxRecDepth 100000 in
theorem tab_all : ∀ n : Fin 256, bt (⟨#[0, 1, 2, 2, 3, 3, 3, 3, 4, 4, 4, 4, 4, 4, 4, 4, 5, 5, 5, 5, 5, 5, 5, 5, 5, 5, 5, 5, 5, 5, 5, 5, 6, 6, 6, 6, 6, 6, 6, 6, 6, 6, 6, 6, 6, 6, 6, 6, 6, 6, 6, 6, 6, 6, 6, 6, 6, 6, 6, 6, 6, 6, 6, 6, 7, 7, 7, 7, 7, 7, 7, 7, 7, 7, 7, 7, 7, 7, 7, 7, 7, 7, 7, 7, 7, 7, 7, 7, 7, 7, 7, 7, 7, 7, 7, 7, 7, 7, 7, 7, 7, 7, 7, 7, 7, 7, 7, 7, 7, 7, 7, 7, 7, 7, 7, 7, 7, 7, 7, 7, 7, 7, 7, 7, 7, 7, 7, 7, 8, 8, 8, 8, 8, 8, 8, 8, 8, 8, 8, 8, 8, 8, 8, 8, 8, 8, 8, 8, 8, 8, 8, 8, 8, 8, 8, 8, 8, 8, 8, 8, 8, 8, 8, 8, 8, 8, 8, 8, 8, 8, 8, 8, 8, 8, 8, 8, 8, 8, 8, 8, 8, 8, 8, 8, 8, 8, 8, 8, 8, 8, 8, 8, 8, 8, 8, 8, 8, 8, 8, 8, 8, 8, 8, 8, 8, 8, 8, 8, 8, 8, 8, 8, 8, 8, 8, 8, 8, 8, 8, 8, 8, 8, 8, 8, 8, 8, 8, 8, 8, 8, 8, 8, 8, 8, 8, 8, 8, 8, 8, 8, 8, 8, 8, 8, 8, 8, 8, 8, 8, 8, 8, 8, 8, 8, 8, 8]⟩ : ByteArray) (n.val : Int) = lenB (n.val : Int) := by decide +kernel
set_option maxRecDepth 100000 in
theorem tab_len (b : Int) (h0 : 0 ≤ b) (h1 : b < 256) : bt (⟨#[0, 1, 2, 2, 3, 3, 3, 3, 4, 4, 4, 4, 4, 4, 4, 4, 5, 5, 5, 5, 5, 5, 5, 5, 5, 5, 5, 5, 5, 5, 5, 5, 6, 6, 6, 6, 6, 6, 6, 6, 6, 6, 6, 6, 6, 6, 6, 6, 6, 6, 6, 6, 6, 6, 6, 6, 6, 6, 6, 6, 6, 6, 6, 6, 7, 7, 7, 7, 7, 7, 7, 7, 7, 7, 7, 7, 7, 7, 7, 7, 7, 7, 7, 7, 7, 7, 7, 7, 7, 7, 7, 7, 7, 7, 7, 7, 7, 7, 7, 7, 7, 7, 7, 7, 7, 7, 7, 7, 7, 7, 7, 7, 7, 7, 7, 7, 7, 7, 7, 7, 7, 7, 7, 7, 7, 7, 7, 7, 8, 8, 8, 8, 8, 8, 8, 8, 8, 8, 8, 8, 8, 8, 8, 8, 8, 8, 8, 8, 8, 8, 8, 8, 8, 8, 8, 8, 8, 8, 8, 8, 8, 8, 8, 8, 8, 8, 8, 8, 8, 8, 8, 8, 8, 8, 8, 8, 8, 8, 8, 8, 8, 8, 8, 8, 8, 8, 8, 8, 8, 8, 8, 8, 8, 8, 8, 8, 8, 8, 8, 8, 8, 8, 8, 8, 8, 8, 8, 8, 8, 8, 8, 8, 8, 8, 8, 8, 8, 8, 8, 8, 8, 8, 8, 8, 8, 8, 8, 8, 8, 8, 8, 8, 8, 8, 8, 8, 8, 8, 8, 8, 8, 8, 8, 8, 8, 8, 8, 8, 8, 8, 8, 8, 8, 8, 8, 8]⟩ : ByteArray) b = lenB b := by
  have := tab_all ⟨b.toNat, by omega⟩
  rwa [show ((⟨b.toNat, by omega⟩ : Fin 256).val : Int) = b by simp; omega] at this
theorem lenB_is (i : Int) (h0 : 1 ≤ i) (h1 : i < 256) : ∃ L : Nat, 1 ≤ L ∧ L ≤ 8 ∧ lenB i = L ∧ (2 : Int) ^ (L - 1) ≤ i ∧ i < (2 : Int) ^ L := by
  unfold lenB
  rw [if_neg (show ¬ i < 1 by omega)]
  by_cases a1 : i < 2
  · rw [if_pos a1]; exact ⟨1, by omega, by omega, rfl, by simp; omega, by simp; omega⟩
  · rw [if_neg a1]
    by_cases a2 : i < 4
    · rw [if_pos a2]; exact ⟨2, by omega, by omega, rfl, by simp; omega, by simp; omega⟩
    · rw [if_neg a2]
      by_cases a3 : i < 8
      · rw [if_pos a3]; exact ⟨3, by omega, by omega, rfl, by simp; omega, by simp; omega⟩
      · rw [if_neg a3]
        by_cases a4 : i < 16
        · rw [if_pos a4]; exact ⟨4, by omega, by omega, rfl, by simp; omega, by simp; omega⟩
        · rw [if_neg a4]
          by_cases a5 : i < 32
          · rw [if_pos a5]; exact ⟨5, by omega, by omega, rfl, by simp; omega, by simp; omega⟩
          · rw [if_neg a5]
            by_cases a6 : i < 64
            · rw [if_pos a6]; exact ⟨6, by omega, by omega, rfl, by simp; omega, by simp; omega⟩
            · rw [if_neg a6]
              by_cases a7 : i < 128
              · rw [if_pos a7]; exact ⟨7, by omega, by omega, rfl, by simp; omega, by simp; omega⟩
              · rw [if_neg a7]; exact ⟨8, by omega, by omega, rfl, by simp; omega, by simp; omega⟩
theorem pow_split (b L : Nat) (i y : Int) (hL : 1 ≤ L) (h0 : (2 : Int) ^ (L - 1) ≤ i) (h1 : i < (2 : Int) ^ L) (e0 : i * 2 ^ b ≤ y) (e1 : y < (i + 1) * 2 ^ b) : (2 : Int) ^ (b + L - 1) ≤ y ∧ y < (2 : Int) ^ (b + L) := by
  have hp : (0 : Int) < 2 ^ b := Int.pow_pos (by omega)
  constructor
  · have h := Int.mul_le_mul_of_nonneg_right h0 (Int.le_of_lt hp)
    rw [← Int.pow_add] at h
    rw [show b + L - 1 = L - 1 + b by omega]
    omega
  · have h := Int.mul_le_mul_of_nonneg_right (show i + 1 ≤ (2 : Int) ^ L by omega) (Int.le_of_lt hp)
    rw [← Int.pow_add] at h
    rw [show b + L = L + b by omega]
    omega
set_option maxRecDepth 100000 in
theorem len64_ev (y : Int) (h0 : 1 ≤ y) (h1 : y < 1073741824) : ∃ n : Nat, 1 ≤ n ∧ n ≤ 32 ∧ (2 : Int) ^ (n - 1) ≤ y ∧ y < (2 : Int) ^ n ∧ Ev (fun k => bits_Len64.f k y) n := by
  simp only [bits_Len64.f, if_neg (show ¬ y ≥ 4294967296 by omega)]
  by_cases c1 : y ≥ 65536
  · by_cases c2 : y / 65536 ≥ 256
    · obtain ⟨L, l1, l8, el, p0, p1⟩ := lenB_is (y / 65536 / 256 % 256) (by omega) (by omega)
      have hs := pow_split 24 L _ y l1 p0 p1 (by simp; omega) (by simp; omega)
      refine ⟨24 + L, by omega, by omega, by simpa using hs.1, hs.2, ev_succ ⟨0, fun k _ => ?_⟩⟩
      show bits_Len64.j0 (k + 1) y 0 = _
      rw [bits_Len64.j0, if_pos c1, if_pos c2, if_pos (show 0 ≤ y / 65536 / 256 % 256 by omega), if_pos (show y / 65536 / 256 % 256 < 256 by omega), tab_len _ (show 0 ≤ y / 65536 / 256 % 256 by omega) (show y / 65536 / 256 % 256 < 256 by omega), el, w64 (a := (L : Int)) (by omega) (by omega), w64 (a := 0 + 16) (by omega) (by omega), w64 (a := 0 + 16 + 8) (by omega) (by omega), w64 (a := 0 + 16 + 8 + (L : Int)) (by omega) (by omega), show (0 : Int) + 16 + 8 + (L : Int) = ((24 + L : Nat) : Int) by omega]
    · obtain ⟨L, l1, l8, el, p0, p1⟩ := lenB_is (y / 65536 % 256) (by omega) (by omega)
      have hs := pow_split 16 L _ y l1 p0 p1 (by simp; omega) (by simp; omega)
      refine ⟨16 + L, by omega, by omega, by simpa using hs.1, hs.2, ev_succ ⟨0, fun k _ => ?_⟩⟩
      show bits_Len64.j0 (k + 1) y 0 = _
      rw [bits_Len64.j0, if_pos c1, if_neg c2, if_pos (show 0 ≤ y / 65536 % 256 by omega), if_pos (show y / 65536 % 256 < 256 by omega), tab_len _ (show 0 ≤ y / 65536 % 256 by omega) (show y / 65536 % 256 < 256 by omega), el, w64 (a := (L : Int)) (by omega) (by omega), w64 (a := 0 + 16) (by omega) (by omega), w64 (a := 0 + 16 + (L : Int)) (by omega) (by omega), show (0 : Int) + 16 + (L : Int) = ((16 + L : Nat) : Int) by omega]
  · by_cases c2 : y ≥ 256
    · obtain ⟨L, l1, l8, el, p0, p1⟩ := lenB_is (y / 256 % 256) (by omega) (by omega)
      have hs := pow_split 8 L _ y l1 p0 p1 (by simp; omega) (by simp; omega)
      refine ⟨8 + L, by omega, by omega, by simpa using hs.1, hs.2, ev_succ ⟨0, fun k _ => ?_⟩⟩
      show bits_Len64.j0 (k + 1) y 0 = _
      rw [bits_Len64.j0, if_neg c1, if_pos c2, if_pos (show 0 ≤ y / 256 % 256 by omega), if_pos (show y / 256 % 256 < 256 by omega), tab_len _ (show 0 ≤ y / 256 % 256 by omega) (show y / 256 % 256 < 256 by omega), el, w64 (a := (L : Int)) (by omega) (by omega), w64 (a := 0 + 8) (by omega) (by omega), w64 (a := 0 + 8 + (L : Int)) (by omega) (by omega), show (0 : Int) + 8 + (L : Int) = ((8 + L : Nat) : Int) by omega]
    · obtain ⟨L, l1, l8, el, p0, p1⟩ := lenB_is (y % 256) (by omega) (by omega)
      have hs := pow_split 0 L _ y l1 p0 p1 (by simp; omega) (by simp; omega)
      refine ⟨L, by omega, by omega, by simpa using hs.1, by simpa using hs.2, ev_succ ⟨0, fun k _ => ?_⟩⟩
      show bits_Len64.j0 (k + 1) y 0 = _
      rw [bits_Len64.j0, if_neg c1, if_neg c2, if_pos (show 0 ≤ y % 256 by omega), if_pos (show y % 256 < 256 by omega), tab_len _ (show 0 ≤ y % 256 by omega) (show y % 256 < 256 by omega), el, w64 (a := (L : Int)) (by omega) (by omega), w64 (a := 0 + (L : Int)) (by omega) (by omega), show (0 : Int) + (L : Int) = ((L : Nat) : Int) by omega]
/-- The long division by halves, where the divisor has no more than 32 bits: plain numbers. -/
theorem halves (hi lo y P Q R : Int) (hP : P = R * 4294967296) (hPQ : P * Q = 18446744073709551616) (hR : 0 < R) (hQ : 0 < Q) (h0 : 0 ≤ hi) (h1 : hi < y) (h2 : 0 ≤ lo) (h3 : lo < 18446744073709551616)
    (hY : y * P < 18446744073709551616) :
    let un32 := hi * P + lo / Q
    let yn := y * R
    let un1 := (lo % Q) * P / 4294967296
    let un0 := (lo % Q) * P % 4294967296
    let un21 := un32 % yn * 4294967296 + un1
    0 ≤ un32 ∧ un32 < 18446744073709551616 ∧ 0 < yn ∧ yn < 4294967296 ∧ un32 / yn < 4294967296 ∧ 0 ≤ un32 / yn ∧ 0 ≤ un1 ∧ un1 < 4294967296 ∧ (lo % Q) * P < 18446744073709551616 ∧ 0 ≤ (lo % Q) * P ∧ un21 < 18446744073709551616 ∧ 0 ≤ un21 ∧ un21 / yn < 4294967296 ∧ 0 ≤ un21 / yn ∧
      (hi * 18446744073709551616 + lo) / y = un32 / yn * 4294967296 + un21 / yn ∧ (un21 % yn * 4294967296 + un0) / P = (hi * 18446744073709551616 + lo) % y ∧ 0 ≤ un21 % yn * 4294967296 + un0 ∧ un21 % yn * 4294967296 + un0 < 18446744073709551616 := by
  intro un32 yn un1 un0 un21
  have hPp : 0 < P := by rw [hP]; omega
  have hy : 0 < y := by omega
  have yn0 : 0 < yn := Int.mul_pos hy hR
  have eY : y * P = yn * 4294967296 := by rw [hP]; grind
  have lq0 : 0 ≤ lo / Q := Int.ediv_nonneg h2 (by omega)
  have lqm : 0 ≤ lo % Q := Int.emod_nonneg _ (by omega)
  have lqm2 : lo % Q < Q := Int.emod_lt_of_pos _ hQ
  have elo : lo = Q * (lo / Q) + lo % Q := (Int.mul_ediv_add_emod lo Q).symm
  have lqP : lo / Q < P := by
    apply Int.ediv_lt_of_lt_mul hQ
    omega
  have hPm : 0 ≤ hi * P := Int.mul_nonneg h0 (by omega)
  have hhi : hi * P ≤ y * P - P := by
    have := Int.mul_le_mul_of_nonneg_right (show hi ≤ y - 1 by omega) (show 0 ≤ P by omega)
    grind
  have u32 : un32 < yn * 4294967296 := by show hi * P + lo / Q < _; omega
  have u32n : 0 ≤ un32 := by show 0 ≤ hi * P + lo / Q; omega
  have m1 : 0 ≤ (lo % Q) * P := Int.mul_nonneg lqm (by omega)
  have m2 : (lo % Q) * P < 18446744073709551616 := by
    have := Int.mul_lt_mul_of_pos_right lqm2 hPp
    rw [Int.mul_comm Q P, hPQ] at this
    exact this
  have q1 : un32 / yn < 4294967296 := Int.ediv_lt_of_lt_mul yn0 (by rw [Int.mul_comm]; exact u32)
  have q1n : 0 ≤ un32 / yn := Int.ediv_nonneg u32n (by omega)
  have r1 : 0 ≤ un32 % yn := Int.emod_nonneg _ (by omega)
  have r1l : un32 % yn < yn := Int.emod_lt_of_pos _ yn0
  have n1 : 0 ≤ un1 := Int.ediv_nonneg m1 (by omega)
  have n1l : un1 < 4294967296 := by show (lo % Q) * P / 4294967296 < _; omega
  have n0 : 0 ≤ un0 := Int.emod_nonneg _ (by omega)
  have n0l : un0 < 4294967296 := Int.emod_lt_of_pos _ (by omega)
  have en : (lo % Q) * P = un1 * 4294967296 + un0 := by show _ = (lo % Q) * P / 4294967296 * 4294967296 + (lo % Q) * P % 4294967296; omega
  have u21 : un21 < yn * 4294967296 := by show un32 % yn * 4294967296 + un1 < _; omega
  have u21n : 0 ≤ un21 := by show 0 ≤ un32 % yn * 4294967296 + un1; omega
  have q0 : un21 / yn < 4294967296 := Int.ediv_lt_of_lt_mul yn0 (by rw [Int.mul_comm]; exact u21)
  have q0n : 0 ≤ un21 / yn := Int.ediv_nonneg u21n (by omega)
  have r0 : 0 ≤ un21 % yn := Int.emod_nonneg _ (by omega)
  have r0l : un21 % yn < yn := Int.emod_lt_of_pos _ yn0
  have e32 : un32 = yn * (un32 / yn) + un32 % yn := (Int.mul_ediv_add_emod un32 yn).symm
  have e21 : un21 = yn * (un21 / yn) + un21 % yn := (Int.mul_ediv_add_emod un21 yn).symm
  have d32 : un32 = hi * P + lo / Q := rfl
  have d21 : un21 = un32 % yn * 4294967296 + un1 := rfl
  have key : (hi * 18446744073709551616 + lo - (un32 / yn * 4294967296 + un21 / yn) * y) * P = un21 % yn * 4294967296 + un0 := by
    generalize un32 / yn = A at *
    generalize un32 % yn = B at *
    generalize un21 / yn = C at *
    generalize un21 % yn = D at *
    generalize lo / Q = E at *
    generalize lo % Q = F at *
    generalize un1 = G at *
    generalize un0 = K at *
    clear q1 q1n r1 r1l n1 n1l n0 n0l u21 u21n q0 q0n r0 r0l u32 u32n m1 m2 hhi hPm lqP lqm lqm2 lq0
    grind
  have rem0 : 0 ≤ un21 % yn * 4294967296 + un0 := by omega
  have reml : un21 % yn * 4294967296 + un0 < y * P := by omega
  generalize hr : hi * 18446744073709551616 + lo - (un32 / yn * 4294967296 + un21 / yn) * y = r at key
  have hr0 : 0 ≤ r := by
    rcases Int.lt_or_le r 0 with h | h
    · have := Int.mul_neg_of_neg_of_pos h hPp
      omega
    · exact h
  have hrl : r < y := by
    rcases Int.lt_or_le r y with h | h
    · exact h
    · have := Int.mul_le_mul_of_nonneg_right h (show 0 ≤ P by omega)
      omega
  have eN : hi * 18446744073709551616 + lo = r + y * (un32 / yn * 4294967296 + un21 / yn) := by
    rw [← hr, Int.mul_comm y]; omega
  refine ⟨u32n, by omega, yn0, by omega, q1, q1n, n1, n1l, m2, m1, by omega, u21n, q0, q0n, ?_, ?_, rem0, by omega⟩
  · rw [eN, Int.add_mul_ediv_left _ _ (by omega), Int.ediv_eq_zero_of_lt hr0 hrl]; omega
  · rw [eN, Int.add_mul_emod_self_left, Int.emod_eq_of_lt hr0 hrl, ← key, Int.mul_ediv_cancel _ (by omega)]

theorem shl_is {x : Int} {s : Nat} (h : s ≤ 64) : shl .u64 x (s : Int) = IntKind.u64.wrap (x * 2 ^ s) := by
  unfold shl
  rw [Int.toNat_natCast, Nat.min_eq_left (by exact h)]
theorem shr_is {x : Int} {s : Nat} (h : s ≤ 64) : shr .u64 x (s : Int) = x / 2 ^ s := by
  unfold shr
  rw [Int.toNat_natCast, Nat.min_eq_left (by exact h)]
theorem or_join (a b : Int) (s : Nat) (ha : 0 ≤ a) (hb : 0 ≤ b) (hbl : b < 2 ^ s) (hd : a % 2 ^ s = 0) (hal : a < 18446744073709551616) (hbl2 : b < 18446744073709551616) : Go.bits .or .u64 a b = a + b := by
  rw [u64_or _ _ ha hal hb hbl2]
  have e1 : a.toNat % 2 ^ s = 0 := by
    have h1 : ((a.toNat % 2 ^ s : Nat) : Int) = a % 2 ^ s := by rw [Int.natCast_emod, Int.toNat_of_nonneg ha]; simp
    omega
  have e2 : b.toNat < 2 ^ s := by
    have h1 : ((2 ^ s : Nat) : Int) = (2 : Int) ^ s := by simp
    omega
  rw [nat_join s _ _ e1 e2]
  omega
/-- math/bits.Div64 at a divisor of no more than 30 bits. -/
theorem div64_ev (hi lo y : Int) (h0 : 0 ≤ hi) (h1 : hi < y) (h2 : 0 ≤ lo) (h3 : lo < 18446744073709551616) (h4 : y < 1073741824) :
    Ev (fun k => bits_Div64.f k hi lo y) ((hi * 18446744073709551616 + lo) / y, (hi * 18446744073709551616 + lo) % y) := by
  simp only [bits_Div64.f, if_neg (show ¬ y = 0 by omega), if_neg (show ¬ y ≤ hi by omega)]
  by_cases hz : hi = 0
  · subst hz
    simp only [if_true]
    have hd := Int.ediv_nonneg h2 (show 0 ≤ y by omega)
    have hd2 : lo / y ≤ lo := Int.ediv_le_self _ h2
    rw [tdiv_pos h2, tmod_pos h2, u64in hd (by omega), Int.zero_mul, Int.zero_add]
    exact Ev.now _
  · simp only [if_neg hz]
    obtain ⟨n, n1, n32, p0, p1, en⟩ := len64_ev y (by omega) h4
    have hn30 : n ≤ 30 := by
      rcases Nat.lt_or_ge 30 n with h | h
      · exfalso
        have : (2 : Int) ^ 30 ≤ 2 ^ (n - 1) := by
          rw [show n - 1 = 30 + (n - 1 - 30) by omega, Int.pow_add]
          have : (1 : Int) ≤ 2 ^ (n - 1 - 30) := Int.pow_pos (by omega)
          omega
        have e30 : (2 : Int) ^ 30 = 1073741824 := rfl
        omega
      · exact h
    obtain ⟨s, hs⟩ : ∃ s : Nat, s = 64 - n := ⟨_, rfl⟩
    have elz : Ev (fun k => bits_LeadingZeros64.f k y) (s : Int) := by
      simp only [bits_LeadingZeros64.f]
      refine Ev.bind en ?_
      rw [w64 (by omega) (by omega), show (64 : Int) - (n : Int) = (s : Int) by omega]; exact Ev.now _
    refine Ev.bind elz ?_
    have ews : IntKind.u64.wrap (s : Int) = s := u64in (by omega) (by omega)
    have ews2 : IntKind.u64.wrap (64 - (s : Int)) = ((64 - s : Nat) : Int) := by rw [u64in (by omega) (by omega)]; omega
    simp only [ews, ews2, if_pos (nat0 s), if_pos (nat0 (64 - s)), shl_is (show s ≤ 64 by omega), shr_is (show 64 - s ≤ 64 by omega)]
    obtain ⟨P, eP⟩ : ∃ P : Int, P = 2 ^ s := ⟨_, rfl⟩
    obtain ⟨Q, eQ⟩ : ∃ Q : Int, Q = 2 ^ (64 - s) := ⟨_, rfl⟩
    obtain ⟨R, eR⟩ : ∃ R : Int, R = 2 ^ (s - 32) := ⟨_, rfl⟩
    have hP : P = R * 4294967296 := by
      rw [eP, eR, show (4294967296 : Int) = 2 ^ 32 from rfl, ← Int.pow_add]; congr 1; omega
    have hPQ : P * Q = 18446744073709551616 := by
      rw [eP, eQ, ← Int.pow_add, show (18446744073709551616 : Int) = 2 ^ 64 from rfl]; congr 1; omega
    have hR : 0 < R := by rw [eR]; exact Int.pow_pos (by omega)
    have hQ : 0 < Q := by rw [eQ]; exact Int.pow_pos (by omega)
    have hPp : 0 < P := by omega
    have hY : y * P < 18446744073709551616 := by
      have h := Int.mul_lt_mul_of_pos_right p1 hPp
      rw [eP, ← Int.pow_add, show n + s = 64 by omega] at h
      rw [eP]; exact h
    have H := halves hi lo y P Q R hP hPQ hR hQ h0 h1 h2 h3 hY
    have en1 : y * P / 4294967296 = y * R := by rw [hP, ← Int.mul_assoc, Int.mul_ediv_cancel _ (by omega)]
    have en0 : Go.bits .and .u64 (y * P) 4294967295 = 0 := by
      rw [u64_mask32 _ (Int.mul_nonneg (by omega) (by omega)) hY, hP, ← Int.mul_assoc, Int.mul_emod_left]
    have ehiP : hi * P < 18446744073709551616 := by
      have := Int.mul_le_mul_of_nonneg_right (show hi ≤ y by omega) (show 0 ≤ P by omega)
      omega
    have hiP0 : 0 ≤ hi * P := Int.mul_nonneg h0 (by omega)
    have elo : IntKind.u64.wrap (lo * P) = lo % Q * P := by
      rw [u64w]
      have e : lo * P = lo % Q * P + 18446744073709551616 * (lo / Q) := by
        have := Int.mul_ediv_add_emod lo Q
        grind
      rw [e, Int.add_mul_emod_self_left]
      exact Int.emod_eq_of_lt H.2.2.2.2.2.2.2.2.2.1 H.2.2.2.2.2.2.2.2.1
    have lqP : lo / Q < P := Int.ediv_lt_of_lt_mul hQ (by rw [hPQ]; exact h3)
    have lq0 : 0 ≤ lo / Q := Int.ediv_nonneg h2 (by omega)
    have eor : Go.bits .or .u64 (hi * P) (lo / Q) = hi * P + lo / Q := by
      refine or_join _ _ s hiP0 lq0 (by rw [← eP]; exact lqP) (by rw [← eP]; exact Int.mul_emod_left _ _) ehiP (by omega)
    rw [← eP, ← eQ]
    rw [u64in (n := y * P) (Int.mul_nonneg (by omega) (by omega)) hY, u64in (n := hi * P) hiP0 ehiP, elo, eor, en1, en0]
    obtain ⟨u0, u1, yn0, yn1, q1, q1n, n1', n1l, m2, m1, u21l, u21n, q0, q0n, eq, er, rm0, rml⟩ := H
    rw [u64_mask32 _ m1 m2]
    generalize hu : hi * P + lo / Q = un32 at *
    generalize hyn : y * R = yn at *
    generalize hg : lo % Q * P / 4294967296 = un1 at *
    generalize hk : lo % Q * P % 4294967296 = un0 at *
    have eYP : y * P = yn * 4294967296 := by rw [hP, ← hyn]; grind
    have d1 := Int.mul_ediv_add_emod un32 yn
    have rr0 : 0 ≤ un32 % yn := Int.emod_nonneg _ (by omega)
    have rrl : un32 % yn < yn := Int.emod_lt_of_pos _ yn0
    have k0 : 0 ≤ un0 := by rw [← hk]; exact Int.emod_nonneg _ (by omega)
    have k1 : un0 < 4294967296 := by rw [← hk]; exact Int.emod_lt_of_pos _ (by omega)
    have mq : 0 ≤ un32 / yn * yn := Int.mul_nonneg q1n (by omega)
    have mqe : un32 / yn * yn = un32 - un32 % yn := by rw [Int.mul_comm]; omega
    simp only [if_neg (show ¬ yn = 0 by omega), tdiv_pos u0, u64in (n := un32 / yn) q1n (by omega)]
    have er1 : IntKind.u64.wrap (un32 - IntKind.u64.wrap (un32 / yn * yn)) = un32 % yn := by
      rw [mqe, u64in (n := un32 - un32 % yn) (by omega) (by omega), u64in (by omega) (by omega)]; omega
    rw [er1]
    -- the first half
    refine ev_succ ?_
    simp only [bits_Div64.l0, if_neg (show ¬ un32 / yn ≥ 4294967296 by omega), Int.mul_zero]
    have t1 : decide (IntKind.u64.wrap 0 > IntKind.u64.wrap (IntKind.u64.wrap (4294967296 * (un32 % yn)) + un1)) = false := by
      have e0 : IntKind.u64.wrap 0 = 0 := u64in (by omega) (by omega)
      rw [e0, u64w]
      simp only [gt_iff_lt, decide_eq_false_iff_not]
      have := Int.emod_nonneg (IntKind.u64.wrap (4294967296 * (un32 % yn)) + un1) (show (18446744073709551616 : Int) ≠ 0 by omega)
      omega
    rw [t1]
    refine ev_succ ?_
    simp only [bits_Div64.j1, Bool.false_eq_true, if_false]
    refine ev_succ ?_
    have eun21 : IntKind.u64.wrap ((IntKind.u64.wrap ((IntKind.u64.wrap (un32 * 4294967296)) + un1)) - (IntKind.u64.wrap (un32 / yn * (y * P)))) = un32 % yn * 4294967296 + un1 := by
      have e : un32 / yn * (y * P) = (un32 - un32 % yn) * 4294967296 := by rw [eYP, ← mqe]; grind
      rw [e]
      simp only [u64w]
      omega
    simp only [bits_Div64.j2, eun21, if_neg (show ¬ yn = 0 by omega)]
    generalize hv : un32 % yn * 4294967296 + un1 = un21 at *
    have d2 := Int.mul_ediv_add_emod un21 yn
    have ss0 : 0 ≤ un21 % yn := Int.emod_nonneg _ (by omega)
    have ssl : un21 % yn < yn := Int.emod_lt_of_pos _ yn0
    have mq2 := Int.mul_nonneg q0n (show 0 ≤ yn by omega)
    have nqe : un21 / yn * yn = un21 - un21 % yn := by rw [Int.mul_comm]; omega
    have er2 : IntKind.u64.wrap (un21 - IntKind.u64.wrap (un21 / yn * yn)) = un21 % yn := by
      rw [nqe, u64in (n := un21 - un21 % yn) (by omega) (by omega), u64in (by omega) (by omega)]; omega
    simp only [tdiv_pos u21n, u64in (n := un21 / yn) q0n (by omega), er2]
    -- the second half
    refine ev_succ ?_
    simp only [bits_Div64.l1, if_neg (show ¬ un21 / yn ≥ 4294967296 by omega), Int.mul_zero]
    have t2 : decide (IntKind.u64.wrap 0 > IntKind.u64.wrap (IntKind.u64.wrap (4294967296 * (un21 % yn)) + un0)) = false := by
      have e0 : IntKind.u64.wrap 0 = 0 := u64in (by omega) (by omega)
      rw [e0, u64w]
      simp only [gt_iff_lt, decide_eq_false_iff_not]
      have := Int.emod_nonneg (IntKind.u64.wrap (4294967296 * (un21 % yn)) + un0) (show (18446744073709551616 : Int) ≠ 0 by omega)
      omega
    rw [t2]
    refine ev_succ ?_
    have erem : IntKind.u64.wrap ((IntKind.u64.wrap ((IntKind.u64.wrap (un21 * 4294967296)) + un0)) - (IntKind.u64.wrap (un21 / yn * (y * P)))) = un21 % yn * 4294967296 + un0 := by
      have e : un21 / yn * (y * P) = (un21 - un21 % yn) * 4294967296 := by rw [eYP, ← nqe]; grind
      rw [e]
      simp only [u64w]
      omega
    simp only [bits_Div64.j4, Bool.false_eq_true, if_false, if_pos (nat0 s), erem, shr_is (show s ≤ 64 by omega)]
    rw [← eP, er, u64in (n := un32 / yn * 4294967296) (by omega) (by omega), u64in (by omega) (by omega), ← eq]
    exact Ev.now _

/-- N over c, to the nearest, halves to the even one. -/
def nearF (N c : Int) : Int := if 2 * (N % c) > c ∨ (2 * (N % c) = c ∧ N / c % 2 = 1) then N / c + 1 else N / c
def mdOk (a b c : Int) : Prop := mr a = true ∧ (0 ≤ b ∧ b ≤ 10000000000) ∧ (1 ≤ c ∧ c ≤ 1000000000)
/-- What MulDiv tells of what it takes. -/
def mdF (a b c : Int) : Int × Int := if nearF (absF a * b) c ≤ 1000000000000 then (if a < 0 then -nearF (absF a * b) c else nearF (absF a * b) c, 0) else (0, 13)
theorem near_ge (N c : Int) : N / c ≤ nearF N c ∧ nearF N c ≤ N / c + 1 := by unfold nearF; split <;> omega
theorem prod_bd {a b c : Int} (h : mdOk a b c) : 0 ≤ absF a * b ∧ absF a * b ≤ 10000000000000000000000 := by
  have ha := abs_bd h.1
  exact mul_bd ha.1 ha.2 h.2.1.1 h.2.1.2
/-- The reference's way: by millions. -/
theorem spec_near (A b c : Int) (hA0 : 0 ≤ A) (hA1 : A ≤ 1000000000000) (hb0 : 0 ≤ b) (hb1 : b ≤ 10000000000) (hc0 : 1 ≤ c) (hc1 : c ≤ 1000000000) :
    ∃ n, spec_l02Near.f A b c = some n ∧ ((n = nearF (A * b) c ∧ n ≤ 100000000000000000) ∨ (n = 2000000000000 ∧ 2000000000000 < nearF (A * b) c)) := by
  have b1 := mul_bd (x := A / 1000000) (y := b) (m := 1000000) (n := 10000000000) (by omega) (by omega) hb0 hb1
  have b2 := mul_bd (x := A % 1000000) (y := b) (m := 999999) (n := 10000000000) (by omega) (by omega) hb0 hb1
  have eN : A * b = A / 1000000 * b * 1000000 + A % 1000000 * b := by
    have : A = A / 1000000 * 1000000 + A % 1000000 := by omega
    generalize A / 1000000 = x at *
    generalize A % 1000000 = y at *
    subst this
    grind
  unfold spec_l02Near.f
  rw [if_neg (show ¬ c = 0 by omega), tdiv_pos hA0, tmod_pos hA0, w64 (a := A / 1000000) (by omega) (by omega), w64 (a := A / 1000000 * b) (by omega) (by omega), w64 (a := A % 1000000 * b) (by omega) (by omega), tdiv_pos b1.1, tmod_pos b1.1]
  generalize hH : A / 1000000 * b = H at *
  generalize hM : A % 1000000 * b = M at *
  have d1 := Int.mul_ediv_add_emod H c
  have q1n : 0 ≤ H / c := Int.ediv_nonneg b1.1 (by omega)
  have q1l : H / c ≤ H := Int.ediv_le_self _ b1.1
  have m1 : 0 ≤ H % c := Int.emod_nonneg _ (by omega)
  have m1l : H % c < c := Int.emod_lt_of_pos _ (by omega)
  have L0 : 0 ≤ H % c * 1000000 + M := by omega
  have d2 := Int.mul_ediv_add_emod (H % c * 1000000 + M) c
  have q2n : 0 ≤ (H % c * 1000000 + M) / c := Int.ediv_nonneg L0 (by omega)
  have q2l : (H % c * 1000000 + M) / c ≤ H % c * 1000000 + M := Int.ediv_le_self _ L0
  have m2 : 0 ≤ (H % c * 1000000 + M) % c := Int.emod_nonneg _ (by omega)
  have m2l : (H % c * 1000000 + M) % c < c := Int.emod_lt_of_pos _ (by omega)
  have eNc : A * b = (H % c * 1000000 + M) % c + c * (H / c * 1000000 + (H % c * 1000000 + M) / c) := by
    rw [eN]
    generalize (H % c * 1000000 + M) / c = u at *
    generalize (H % c * 1000000 + M) % c = v at *
    generalize H / c = s at *
    generalize H % c = t at *
    grind
  have eq : A * b / c = H / c * 1000000 + (H % c * 1000000 + M) / c := by
    rw [eNc, Int.add_mul_ediv_left _ _ (by omega), Int.ediv_eq_zero_of_lt m2 m2l]; omega
  have em : A * b % c = (H % c * 1000000 + M) % c := by
    rw [eNc, Int.add_mul_emod_self_left, Int.emod_eq_of_lt m2 m2l]
  rw [w64 (a := H / c) (by omega) (by omega)]
  by_cases big : H / c > 2000000
  · rw [if_pos big]
    refine ⟨_, rfl, Or.inr ⟨rfl, ?_⟩⟩
    have := (near_ge (A * b) c).1
    omega
  · rw [if_neg big]
    rw [w64 (a := H % c * 1000000) (by omega) (by omega), w64 (a := H % c * 1000000 + M) (by omega) (by omega), tmod_pos L0, tdiv_pos L0]
    unfold nearF
    rw [eq, em]
    generalize (H % c * 1000000 + M) / c = u at *
    generalize (H % c * 1000000 + M) % c = v at *
    generalize H / c = s at *
    have ub : u ≤ 20000000000000000 := by omega
    rw [w64 (a := 2 * v) (by omega) (by omega), w64 (a := s * 1000000) (by omega) (by omega), w64 (a := u) (by omega) (by omega), w64 (a := u + 1) (by omega) (by omega), w64 (a := s * 1000000 + (u + 1)) (by omega) (by omega), w64 (a := s * 1000000 + u) (by omega) (by omega), tmod_pos (show 0 ≤ s * 1000000 + u by omega)]
    by_cases g1 : 2 * v > c
    · rw [if_pos g1, if_pos (Or.inl g1)]
      exact ⟨_, rfl, Or.inl ⟨by omega, by omega⟩⟩
    · rw [if_neg g1]
      by_cases g2 : 2 * v = c
      · rw [if_pos g2]
        by_cases g3 : (s * 1000000 + u) % 2 = 1
        · rw [if_pos g3, if_pos (Or.inr ⟨g2, g3⟩)]
          exact ⟨_, rfl, Or.inl ⟨by omega, by omega⟩⟩
        · rw [if_neg g3, if_neg (fun h => h.elim g1 (fun q => g3 q.2))]
          exact ⟨_, rfl, Or.inl ⟨rfl, by omega⟩⟩
      · rw [if_neg g2, if_neg (fun h => h.elim g1 (fun q => g2 q.1))]
        exact ⟨_, rfl, Or.inl ⟨rfl, by omega⟩⟩
theorem near_nonneg {N c : Int} (h0 : 0 ≤ N) (h1 : 1 ≤ c) : 0 ≤ nearF N c := by
  have := (near_ge N c).1
  have := Int.ediv_nonneg h0 (show 0 ≤ c by omega)
  omega
theorem spec_muldiv (a b c : Int) (h : mdOk a b c) : Ev (fun k => spec_MulDiv.f k a b c) (mdF a b c) := by
  have ha := abs_bd h.1
  have hm := mr_true h.1
  have hP := prod_bd h
  obtain ⟨hr, hb, hc⟩ := h
  simp only [spec_MulDiv.f, right_is, Option.bind_some, if_pos hr, if_neg (show ¬ b < 0 by omega), if_neg (show ¬ b > 10000000000 by omega), if_neg (show ¬ c < 1 by omega), decide_eq_false (show ¬ c > 1000000000 by omega)]
  refine ev_succ ?_
  obtain ⟨n, e, hn⟩ := spec_near (absF a) b c ha.1 ha.2 hb.1 hb.2 hc.1 hc.2
  have n0 := near_nonneg hP.1 hc.1
  simp only [spec_MulDiv.j0, Bool.false_eq_true, if_false, abs_is hr, e, Option.bind_some, out_is]
  unfold mdF
  rcases hn with ⟨hn, hl⟩ | ⟨hn, hl⟩
  · rw [← hn] at n0 ⊢
    by_cases hs : n ≤ 1000000000000
    · rw [if_pos hs]
      by_cases h0 : a < 0
      · have hq : mr (-n) = true := by unfold mr; simp; omega
        simp only [if_pos h0, w64 (a := -n) (by omega) (by omega), if_pos hq]; exact Ev.now _
      · have hq : mr n = true := by unfold mr; simp; omega
        simp only [if_neg h0, if_pos hq]; exact Ev.now _
    · rw [if_neg hs]
      by_cases h0 : a < 0
      · have hq : ¬ mr (-n) = true := by unfold mr; simp; omega
        simp only [if_pos h0, w64 (a := -n) (by omega) (by omega), if_neg hq]; exact Ev.now _
      · have hq : ¬ mr n = true := by unfold mr; simp; omega
        simp only [if_neg h0, if_neg hq]; exact Ev.now _
  · rw [if_neg (show ¬ nearF (absF a * b) c ≤ 1000000000000 by omega), hn]
    by_cases h0 : a < 0
    · simp only [if_pos h0, w64 (a := -2000000000000) (by omega) (by omega), if_neg (show ¬ mr (-2000000000000) = true by decide)]; exact Ev.now _
    · simp only [if_neg h0, if_neg (show ¬ mr 2000000000000 = true by decide)]; exact Ev.now _
theorem in_is (a b c : Int) : impl_in.f a b c = some (decide (b ≤ a ∧ a ≤ c)) := by
  unfold impl_in.f
  by_cases h : b ≤ a
  · rw [if_pos h]; congr 1; simp [h]
  · rw [if_neg h]; simp [h]
theorem impl_muldiv (a b c : Int) (h : mdOk a b c) (hw : absF a * b / c ≠ 18446744073709551615) : Ev (fun k => impl_MulDiv.f k a b c) (mdF a b c) := by
  have ha := abs_bd h.1
  have hm := mr_true h.1
  have hP := prod_bd h
  obtain ⟨hr, hb, hc⟩ := h
  simp only [impl_MulDiv.f, right_same, right_is, in_is, Option.bind_some, if_pos hr, decide_eq_true hb, decide_eq_true hc, if_true, Bool.not_true]
  refine ev_succ ?_
  simp only [impl_MulDiv.j0, Bool.false_eq_true, if_false, mx_abs hr, u64in (n := b) (by omega) (by omega), mul64_is _ b ha.1 (by omega) hb.1 (by omega), Option.bind_some, u64in (n := c) (by omega) (by omega)]
  have n0 := near_nonneg hP.1 hc.1
  have ng := near_ge (absF a * b) c
  generalize hN : absF a * b = N at *
  have q0 : 0 ≤ N / c := Int.ediv_nonneg hP.1 (by omega)
  have d1 := Int.mul_ediv_add_emod N c
  have m1 : 0 ≤ N % c := Int.emod_nonneg _ (by omega)
  have m1l : N % c < c := Int.emod_lt_of_pos _ (by omega)
  unfold mdF
  rw [hN]
  by_cases hh : N / 18446744073709551616 ≥ c
  · simp only [if_pos hh]
    have : 18446744073709551616 ≤ N / c := by
      apply (Int.le_ediv_iff_mul_le (by omega)).mpr
      omega
    rw [if_neg (by omega)]; exact Ev.now _
  · simp only [if_neg hh]
    have ql : N / c < 18446744073709551616 := Int.ediv_lt_of_lt_mul (by omega) (by omega)
    have E := div64_ev (N / 18446744073709551616) (N % 18446744073709551616) c (by omega) (by omega) (by omega) (by omega) (by omega)
    rw [show N / 18446744073709551616 * 18446744073709551616 + N % 18446744073709551616 = N by omega] at E
    refine Ev.bind E ?_
    simp only [u64in (n := 2 * (N % c)) (by omega) (by omega), tmod_pos q0]
    have fin : ∀ q : Int, 0 ≤ q → q < 18446744073709551616 → Ev (fun k => impl_MulDiv.j2 k a q) (if q ≤ 1000000000000 then (if a < 0 then -q else q, 0) else (0, 13)) := by
      intro q hq0 hq1
      refine ev_succ ?_
      simp only [impl_MulDiv.j2]
      by_cases hs : q ≤ 1000000000000
      · rw [if_pos hs]
        simp only [if_neg (show ¬ q > 1000000000000 by omega), w64 (a := q) (by omega) (by omega), w64 (a := -q) (by omega) (by omega)]
        by_cases h0 : a < 0
        · simp only [if_pos h0]; exact Ev.now _
        · simp only [if_neg h0]; exact Ev.now _
      · rw [if_neg hs]
        simp only [if_pos (show q > 1000000000000 by omega)]; exact Ev.now _
    have up : nearF N c = N / c + 1 → Ev (fun k => impl_MulDiv.j1 k a (N / c) true) (if nearF N c ≤ 1000000000000 then (if a < 0 then -nearF N c else nearF N c, 0) else (0, 13)) := by
      intro en
      rw [en]
      refine ev_succ ?_
      simp only [impl_MulDiv.j1, if_true, u64in (n := N / c + 1) (by omega) (by omega)]
      exact fin _ (by omega) (by omega)
    have down : nearF N c = N / c → Ev (fun k => impl_MulDiv.j1 k a (N / c) false) (if nearF N c ≤ 1000000000000 then (if a < 0 then -nearF N c else nearF N c, 0) else (0, 13)) := by
      intro en
      rw [en]
      refine ev_succ ?_
      simp only [impl_MulDiv.j1, Bool.false_eq_true, if_false]
      exact fin _ q0 ql
    by_cases g1 : 2 * (N % c) > c
    · simp only [if_pos g1]
      exact up (by unfold nearF; rw [if_pos (Or.inl g1)])
    · simp only [if_neg g1]
      by_cases g2 : 2 * (N % c) = c
      · simp only [if_pos g2]
        by_cases g3 : N / c % 2 = 1
        · simp only [g3, beq_self_eq_true]
          exact up (by unfold nearF; rw [if_pos (Or.inr ⟨g2, g3⟩)])
        · have gb : (N / c % 2 == 1) = false := by simpa using g3
          simp only [gb]
          exact down (by unfold nearF; rw [if_neg (fun h => h.elim g1 (fun q => g3 q.2))])
      · simp only [if_neg g2]
        exact down (by unfold nearF; rw [if_neg (fun h => h.elim g1 (fun q => g2 q.1))])
theorem muldiv_bad (a b c : Int) (h : ¬ mdOk a b c) : Ev (fun k => spec_MulDiv.f k a b c) (0, 1) ∧ Ev (fun k => impl_MulDiv.f k a b c) (0, 1) := by
  have hs : Ev (fun k => spec_MulDiv.j0 k a b c true) (0, 1) := ev_succ (by simp only [spec_MulDiv.j0, if_true]; exact Ev.now _)
  have hi : Ev (fun k => impl_MulDiv.j0 k a b c true) (0, 1) := ev_succ (by simp only [impl_MulDiv.j0, if_true]; exact Ev.now _)
  simp only [spec_MulDiv.f, impl_MulDiv.f, right_same, right_is, in_is, Option.bind_some]
  by_cases hr : mr a = true
  · simp only [if_pos hr]
    by_cases hb : 0 ≤ b ∧ b ≤ 10000000000
    · have hc : ¬ (1 ≤ c ∧ c ≤ 1000000000) := fun hc => h ⟨hr, hb, hc⟩
      simp only [if_neg (show ¬ b < 0 by omega), if_neg (show ¬ b > 10000000000 by omega), decide_eq_true hb, if_true, decide_eq_false hc, Bool.not_false]
      refine ⟨?_, hi⟩
      by_cases h1 : c < 1
      · simp only [if_pos h1]; exact hs
      · simp only [if_neg h1, decide_eq_true (show c > 1000000000 by omega)]; exact hs
    · simp only [decide_eq_false hb, Bool.false_eq_true, if_false]
      refine ⟨?_, hi⟩
      by_cases h1 : b < 0
      · simp only [if_pos h1]; exact hs
      · simp only [if_neg h1, if_pos (show b > 10000000000 by omega)]; exact hs
  · simp only [if_neg hr]; exact ⟨hs, hi⟩

/-- The place that a source has come to lies in its bytes. -/
def StOk (l : List Int) (a : Int) : Prop := 0 ≤ a ∧ a ≤ l.length
theorem told_range (v m most : Int) (h0 : 1 < most) (h1 : most ≤ 9223372036854775807) : 0 ≤ spec_l01Src_n.toldF v m most ∧ spec_l01Src_n.toldF v m most < most := by
  unfold spec_l01Src_n.toldF
  rw [u64w, tmod_pos (by omega)]
  have a := Int.emod_nonneg ((v + m / 1048576) % 18446744073709551616) (show most ≠ 0 by omega)
  have b := Int.emod_lt_of_pos ((v + m / 1048576) % 18446744073709551616) (show 0 < most by omega)
  rw [w64 (by omega) (by omega)]
  exact ⟨a, b⟩
/-- A number below most is drawn. -/
theorem n_ok (l : List Int) (a m s most : Int) (hst : StOk l a) (h1 : most ≤ 9223372036854775807) :
    ∃ r a' m', spec_l01Src_n.f l a m s most = some (r, a', m', s) ∧ StOk l a' ∧ 0 ≤ r ∧ (r < most ∨ r = 0) := by
  unfold spec_l01Src_n.f StOk at *
  by_cases c1 : most ≤ 1
  · rw [if_pos c1]; exact ⟨_, _, _, rfl, hst, by omega, Or.inr rfl⟩
  · rw [if_neg c1, if_pos h1]
    by_cases c2 : a < (l.length : Int)
    · rw [if_pos c2, if_pos hst.1]
      have := told_range (IntKind.u64.wrap (rd l a)) (spec_l01Src_n.mixF m) most (by omega) h1
      exact ⟨_, _, _, rfl, by omega, this.1, Or.inl this.2⟩
    · rw [if_neg c2]
      have := told_range 0 (spec_l01Src_n.mixF m) most (by omega) h1
      exact ⟨_, _, _, rfl, hst, this.1, Or.inl this.2⟩
theorem src_l0 (l : List Int) (hl : l.length ≤ 140737488351232) : ∀ (d i : Nat) (m : Int), 64 - i = d → ∃ m' s, Ev (fun k => spec_l01Source.l0 k l i l 0 m 0) (l, 0, m', s) ∧ 0 ≤ s ∧ s ≤ 12 := by
  have fin : ∀ (i : Nat) (m : Int), ¬ ((i : Int) < (l.length : Int) ∧ (i : Int) < 64) → ∃ m' s, Ev (fun k => spec_l01Source.l0 k l i l 0 m 0) (l, 0, m', s) ∧ 0 ≤ s ∧ s ≤ 12 := by
    intro i m hi
    have ew : wrap64 ((l.length : Int) / 20) = (l.length : Int) / 20 := w64 (by omega) (by omega)
    by_cases h12 : (l.length : Int) / 20 > 12
    · refine ⟨m, 12, ev_succ ?_, by omega, by omega⟩
      simp only [spec_l01Source.l0, ew, if_pos h12]
      by_cases h1 : (i : Int) < (l.length : Int)
      · simp only [if_pos h1, if_neg (show ¬ (i : Int) < 64 from fun h => hi ⟨h1, h⟩)]; exact Ev.now _
      · simp only [if_neg h1]; exact Ev.now _
    · refine ⟨m, (l.length : Int) / 20, ev_succ ?_, by omega, by omega⟩
      simp only [spec_l01Source.l0, ew, if_neg h12]
      by_cases h1 : (i : Int) < (l.length : Int)
      · simp only [if_pos h1, if_neg (show ¬ (i : Int) < 64 from fun h => hi ⟨h1, h⟩)]; exact Ev.now _
      · simp only [if_neg h1]; exact Ev.now _
  intro d
  induction d with
  | zero => intro i m hd; exact fin i m (by omega)
  | succ d ih =>
    intro i m hd
    by_cases h : (i : Int) < (l.length : Int) ∧ (i : Int) < 64
    · obtain ⟨m', s, e, h0⟩ := ih (i + 1) (IntKind.u64.wrap ((Go.bits .xor .u64 m (IntKind.u64.wrap (rd l i))) * 1099511628211)) (by omega)
      refine ⟨m', s, ev_succ ?_, h0⟩
      simp only [spec_l01Source.l0, if_pos h.1, if_pos h.2, if_pos (nat0 i), wsucc (show i < l.length by omega) hl]
      exact e
    · exact fin i m h
theorem src_ok (l : List Int) (hl : l.length ≤ 140737488351232) : ∃ m s, Ev (fun k => spec_l01Source.f k l) (l, 0, m, s) ∧ 0 ≤ s ∧ s ≤ 12 := by
  simp only [spec_l01Source.f]
  exact src_l0 l hl 64 0 _ rfl
theorem st0 (l : List Int) : StOk l 0 := ⟨by omega, by omega⟩

theorem rd_all {p : Int → Prop} (l : List Int) (h : ∀ x ∈ l, p x) (i : Int) (h0 : 0 ≤ i) (h1 : i < (l.length : Int)) : p (rd l i) := by
  unfold rd
  rw [List.getD_eq_getElem?_getD, List.getElem?_eq_getElem (by omega)]
  exact h _ (List.getElem_mem _)
/-- An edge is a number of int64. -/
theorem edge_ok (l : List Int) (a m s : Int) (hst : StOk l a) : ∃ r a' m', spec_l01Src_edge.f l a m s = some (r, a', m', s) ∧ StOk l a' ∧ -9223372036854775808 ≤ r ∧ r ≤ 9223372036854775807 := by
  obtain ⟨r, a', m', e, hs, h0, h1⟩ := n_ok l a m s 14 hst (by omega)
  simp only [spec_l01Src_edge.f, Option.bind_some, e]
  rw [if_pos h0, if_pos (by simp; omega)]
  refine ⟨_, _, _, rfl, hs, ?_⟩
  exact rd_all (p := fun x => -9223372036854775808 ≤ x ∧ x ≤ 9223372036854775807) _ (by simp) _ h0 (by simp; omega)

/-- Drawn money is a number of int64. -/
theorem money_ok (l : List Int) (a m s : Int) (hst : StOk l a) : ∃ r a' m', spec_l01Src_l02Money.f l a m s = some (r, a', m', s) ∧ StOk l a' ∧ -9223372036854775808 ≤ r ∧ r ≤ 9223372036854775807 := by
  obtain ⟨r, a1, m1, e, hs, h0, h1⟩ := n_ok l a m s 8 hst (by omega)
  simp only [spec_l01Src_l02Money.f, e, Option.bind_some]
  by_cases c0 : r = 0
  · rw [if_pos c0]
    obtain ⟨r2, a2, m2, e2, hs2, h2⟩ := edge_ok l a1 m1 s hs
    simp only [e2, Option.bind_some]
    exact ⟨_, _, _, rfl, hs2, h2⟩
  · rw [if_neg c0]
    by_cases c1 : r = 1
    · rw [if_pos c1]
      obtain ⟨r2, a2, m2, e2, hs2, h2, h3⟩ := n_ok l a1 m1 s 5 hs (by omega)
      simp only [e2, Option.bind_some]
      rw [if_pos h2, if_pos (by simp; omega)]
      refine ⟨_, _, _, rfl, hs2, ?_⟩
      exact rd_all (p := fun x => -9223372036854775808 ≤ x ∧ x ≤ 9223372036854775807) _ (by simp) _ h2 (by simp; omega)
    · rw [if_neg c1]
      by_cases c2 : r = 2
      · rw [if_pos c2]
        obtain ⟨r2, a2, m2, e2, hs2, h2, h3⟩ := n_ok l a1 m1 s 9 hs (by omega)
        simp only [e2, Option.bind_some, w64 (a := r2 - 4) (by omega) (by omega)]
        exact ⟨_, _, _, rfl, hs2, by omega, by omega⟩
      · rw [if_neg c2]
        by_cases c3 : r = 3
        · rw [if_pos c3]
          obtain ⟨r2, a2, m2, e2, hs2, h2, h3⟩ := n_ok l a1 m1 s 1000000000000 hs (by omega)
          simp only [e2, Option.bind_some]
          exact ⟨_, _, _, rfl, hs2, by omega, by omega⟩
        · rw [if_neg c3]
          obtain ⟨r2, a2, m2, e2, hs2, h2, h3⟩ := n_ok l a1 m1 s 1000000 hs (by omega)
          simp only [e2, Option.bind_some, w64 (a := r2 - 100000) (by omega) (by omega)]
          exact ⟨_, _, _, rfl, hs2, by omega, by omega⟩

instance decMd (a b c : Int) : Decidable (mdOk a b c) := by unfold mdOk; infer_instance
/-- The bounds of what is drawn. -/
def drawnB (b : Int) : Prop := (-1 ≤ b ∧ b ≤ 1000000) ∨ b = 10000000000 ∨ b = 10000000001
theorem draw_ok (l : List Int) (hl : l.length ≤ 140737488351232) : ∃ a b c, Ev (fun k => spec_DrawMulDiv.f k l) (a, b, c) ∧ (-9223372036854775808 ≤ a ∧ a ≤ 9223372036854775807) ∧ drawnB b ∧ -1 ≤ c ∧ c ≤ 1000000001 := by
  obtain ⟨m, z, e, _⟩ := src_ok l hl
  obtain ⟨a, p1, m1, e1, h1, a0, a1⟩ := money_ok l 0 m z (st0 l)
  obtain ⟨b, p2, m2, e2, h2, b0, b1⟩ := n_ok l p1 m1 z 1000000 h1 (by omega)
  obtain ⟨c, p3, m3, e3, h3, c0, c1⟩ := n_ok l p2 m2 z 365000000 h2 (by omega)
  obtain ⟨r, p4, m4, e4, h4, r0, r1⟩ := n_ok l p3 m3 z 6 h3 (by omega)
  have ec : wrap64 (1 + c) = 1 + c := w64 (by omega) (by omega)
  simp only [spec_DrawMulDiv.f]
  by_cases q0 : r = 0
  · obtain ⟨x, p5, m5, e5, h5, x0, x1⟩ := n_ok l p4 m4 z 5 h4 (by omega)
    refine ⟨a, rd [0, 10000000000, 10000000001, -1, 1] x, 1 + c, Ev.bind e ?_, ⟨a0, a1⟩, ?_, by omega, by omega⟩
    · simp only [e1, e2, e3, e4, Option.bind_some, if_pos q0, e5, if_pos x0, ec]
      rw [if_pos (by simp; omega)]; exact Ev.now _
    · exact rd_all (p := drawnB) _ (by unfold drawnB; simp) _ x0 (by simp; omega)
  · by_cases q1 : r = 1
    · obtain ⟨x, p5, m5, e5, h5, x0, x1⟩ := n_ok l p4 m4 z 6 h4 (by omega)
      have hc := rd_all (p := fun y => -1 ≤ y ∧ y ≤ 1000000001) [0, 1, 2, 1000000000, 1000000001, -1] (by simp) x x0 (by simp; omega)
      refine ⟨a, b, rd [0, 1, 2, 1000000000, 1000000001, -1] x, Ev.bind e ?_, ⟨a0, a1⟩, Or.inl ⟨by omega, by omega⟩, hc.1, hc.2⟩
      simp only [e1, e2, e3, e4, Option.bind_some, if_neg q0, if_pos q1, e5, if_pos x0]
      rw [if_pos (by simp; omega)]; exact Ev.now _
    · by_cases q2 : r = 2
      · obtain ⟨x, p5, m5, e5, h5, x0, x1⟩ := n_ok l p4 m4 z 20 h4 (by omega)
        obtain ⟨y, p6, m6, e6, h6, y0, y1⟩ := n_ok l p5 m5 z 40 h5 (by omega)
        refine ⟨a, y, 1 + x, Ev.bind e ?_, ⟨a0, a1⟩, Or.inl ⟨by omega, by omega⟩, by omega, by omega⟩
        simp only [e1, e2, e3, e4, Option.bind_some, if_neg q0, if_neg q1, if_pos q2, e5, e6, w64 (a := 1 + x) (by omega) (by omega)]; exact Ev.now _
      · refine ⟨a, b, 1 + c, Ev.bind e ?_, ⟨a0, a1⟩, Or.inl ⟨by omega, by omega⟩, by omega, by omega⟩
        simp only [e1, e2, e3, e4, Option.bind_some, if_neg q0, if_neg q1, if_neg q2, ec]; exact Ev.now _
theorem no_top {a b c : Int} (h : mdOk a b c) (hb : b ≤ 2000000 ∨ b = 10000000000) : absF a * b / c ≠ 18446744073709551615 := by
  intro e
  have ha := abs_bd h.1
  obtain ⟨_, hb0, hc⟩ := h
  have d := Int.mul_ediv_add_emod (absF a * b) c
  have m0 : 0 ≤ absF a * b % c := Int.emod_nonneg _ (by omega)
  have m1 : absF a * b % c < c := Int.emod_lt_of_pos _ (by omega)
  rw [e] at d
  rcases hb with hb | hb
  · have := (mul_bd ha.1 ha.2 hb0.1 hb).2
    omega
  · subst hb
    omega
theorem near_mono {N M c : Int} (hc : 1 ≤ c) (h : N ≤ M) : nearF N c ≤ nearF M c := by
  have a := near_ge N c
  have b := near_ge M c
  have hq : N / c ≤ M / c := Int.ediv_le_ediv (by omega) h
  by_cases e : N / c = M / c
  · have d1 := Int.mul_ediv_add_emod N c
    have d2 := Int.mul_ediv_add_emod M c
    unfold nearF
    rw [e] at d1 ⊢
    by_cases g : 2 * (N % c) > c ∨ (2 * (N % c) = c ∧ M / c % 2 = 1)
    · rw [if_pos g]
      by_cases g2 : 2 * (M % c) > c ∨ (2 * (M % c) = c ∧ M / c % 2 = 1)
      · rw [if_pos g2]; exact Int.le_refl _
      · exfalso; omega
    · rw [if_neg g]; split <;> omega
  · omega
theorem near_self (A c : Int) (hc : 1 ≤ c) : nearF (A * c) c = A := by
  unfold nearF
  rw [Int.mul_emod_left, Int.mul_ediv_cancel _ (by omega), if_neg (by omega)]
theorem abs_neg (a : Int) : absF (-a) = absF a := by unfold absF; split <;> split <;> omega
theorem md_self (a c : Int) (hr : mr a = true) (hc : 1 ≤ c) : mdF a c c = (a, 0) := by
  have := abs_bd hr
  unfold mdF
  rw [near_self _ _ hc, if_pos this.2]
  unfold absF
  split <;> simp
/-- How far the nearest is off. -/
theorem near_off (N c : Int) (h0 : 0 ≤ N) (hc : 1 ≤ c) : 2 * (N - nearF N c * c) ≤ c ∧ -c ≤ 2 * (N - nearF N c * c) ∧ (2 * (N - nearF N c * c) = c ∨ 2 * (N - nearF N c * c) = -c → nearF N c % 2 = 0) := by
  have d := Int.mul_ediv_add_emod N c
  have m0 : 0 ≤ N % c := Int.emod_nonneg _ (by omega)
  have m1 : N % c < c := Int.emod_lt_of_pos _ (by omega)
  unfold nearF
  by_cases g : 2 * (N % c) > c ∨ (2 * (N % c) = c ∧ N / c % 2 = 1)
  · rw [if_pos g]
    have e : (N / c + 1) * c = c * (N / c) + c := by grind
    rw [e]
    refine ⟨by omega, by omega, by omega⟩
  · rw [if_neg g]
    have e : N / c * c = c * (N / c) := Int.mul_comm _ _
    rw [e]
    refine ⟨by omega, by omega, by omega⟩
/-- The last test: the product is nearest. -/
theorem last_ok (a b c n : Int) (h : mdOk a b c) (hn : n = if a < 0 then -nearF (absF a * b) c else nearF (absF a * b) c) (ha0 : ¬ a > 1000000) (ha1 : ¬ a < -1000000) (hb : ¬ b > 1000000) :
    (if (wrap64 (2 * (wrap64 ((wrap64 (a * b)) - (wrap64 (n * c)))))) ≤ c then (if (wrap64 (2 * (wrap64 ((wrap64 (a * b)) - (wrap64 (n * c)))))) ≥ (wrap64 (-c)) then (if (wrap64 (2 * (wrap64 ((wrap64 (a * b)) - (wrap64 (n * c)))))) = c then (some ((Int.tmod n 2) == 0)) else (if (wrap64 (2 * (wrap64 ((wrap64 (a * b)) - (wrap64 (n * c)))))) = (wrap64 (-c)) then (some ((Int.tmod n 2) == 0)) else (some true))) else (some false)) else (some false)) = some true := by
  have hA : 0 ≤ absF a ∧ absF a ≤ 1000000 := by unfold absF; split <;> omega
  have hN := mul_bd hA.1 hA.2 h.2.1.1 (show b ≤ 1000000 by omega)
  obtain ⟨hr, hb0, hc⟩ := h
  have off := near_off (absF a * b) c hN.1 hc.1
  have n0 := near_nonneg hN.1 hc.1
  generalize hm : nearF (absF a * b) c = m at *
  have ab : a * b = if a < 0 then -(absF a * b) else absF a * b := by
    unfold absF; split
    · rw [Int.neg_mul, Int.neg_neg]
    · rfl
  have nc : n * c = if a < 0 then -(m * c) else m * c := by
    rw [hn]; split
    · rw [Int.neg_mul]
    · rfl
  have ev : ∀ q, n % 2 = 0 → some ((Int.tmod n 2) == 0) = some q → q = true := by
    intro q hq e
    have : Int.tmod n 2 = 0 := by
      by_cases hneg : n < 0
      · have : Int.tmod n 2 = -(Int.tmod (-n) 2) := by rw [Int.neg_tmod]; omega
        rw [this, tmod_pos (by omega)]; omega
      · rw [tmod_pos (by omega)]; exact hq
    rw [this] at e
    simp at e
    exact e.symm ▸ rfl
  have ev2 : n % 2 = 0 → some ((Int.tmod n 2) == 0) = some true := fun hq => by
    cases hx : ((Int.tmod n 2) == 0) with
    | true => rfl
    | false => exact absurd (ev false hq (by rw [hx])) (by simp)
  have npar : n % 2 = m % 2 := by rw [hn]; split <;> omega
  rw [ab, nc]
  generalize absF a * b = N at *
  generalize m * c = mc at *
  by_cases hs : a < 0
  · simp only [if_pos hs]
    rw [w64 (a := -N) (by omega) (by omega), w64 (a := -mc) (by omega) (by omega), w64 (a := -N - -mc) (by omega) (by omega), w64 (a := 2 * (-N - -mc)) (by omega) (by omega), w64 (a := -c) (by omega) (by omega)]
    rw [if_pos (by omega), if_pos (by omega)]
    by_cases g1 : 2 * (-N - -mc) = c
    · rw [if_pos g1]; exact ev2 (by rw [npar]; exact off.2.2 (Or.inr (by omega)))
    · rw [if_neg g1]
      by_cases g2 : 2 * (-N - -mc) = -c
      · rw [if_pos g2]; exact ev2 (by rw [npar]; exact off.2.2 (Or.inl (by omega)))
      · rw [if_neg g2]
  · simp only [if_neg hs]
    rw [w64 (a := N) (by omega) (by omega), w64 (a := mc) (by omega) (by omega), w64 (a := N - mc) (by omega) (by omega), w64 (a := 2 * (N - mc)) (by omega) (by omega), w64 (a := -c) (by omega) (by omega)]
    rw [if_pos (by omega), if_pos (by omega)]
    by_cases g1 : 2 * (N - mc) = c
    · rw [if_pos g1]; exact ev2 (by rw [npar]; exact off.2.2 (Or.inl g1))
    · rw [if_neg g1]
      by_cases g2 : 2 * (N - mc) = -c
      · rw [if_pos g2]; exact ev2 (by rw [npar]; exact off.2.2 (Or.inr g2))
      · rw [if_neg g2]
theorem mdF_code (a b c : Int) : (mdF a b c).2 = 0 ∨ ((mdF a b c).2 = 13 ∧ (mdF a b c).1 = 0) := by
  unfold mdF; split
  · left; rfl
  · right; exact ⟨rfl, rfl⟩
theorem FnMulDiv : laws_FnMulDiv.Pure := by
  intro l _ hl _
  refine Ev.rounds (g := fun k => laws_FnMulDiv.f k l) ?_
  simp only [laws_FnMulDiv.f]
  by_cases h1 : (l.length : Int) > 1048576
  · simp only [if_pos h1]; exact Ev.now _
  · simp only [if_neg h1]
    obtain ⟨a, b, c, e, ha, hb, hc⟩ := draw_ok l (by omega)
    refine Ev.bind e ?_
    by_cases ok : mdOk a b c
    · have hbb : b ≤ 2000000 ∨ b = 10000000000 := by
        rcases hb with hb | hb | hb
        · left; omega
        · right; exact hb
        · exact absurd ok.2.1.2 (by omega)
      have hm := mr_true ok.1
      have okn : mdOk (-a) b c := ⟨by unfold mr; simp; omega, ok.2⟩
      have oks : mdOk a c c := ⟨ok.1, ⟨by have := ok.2.2.1; omega, by have := ok.2.2.2; omega⟩, ok.2.2⟩
      have tops : absF a * c / c ≠ 18446744073709551615 := by
        rw [Int.mul_ediv_cancel _ (by have := ok.2.2.1; omega)]
        have := abs_bd ok.1
        omega
      refine Ev.bind (impl_muldiv a b c ok (no_top ok hbb)) ?_
      refine Ev.bind (spec_muldiv a b c ok) ?_
      have hcode := mdF_code a b c
      simp only [beq_self_eq_true, Bool.not_true, Bool.or_self, Bool.false_eq_true, if_false, if_neg (show ¬ (mdF a b c).2 = 1 by omega), w64 (a := -a) (by omega) (by omega)]
      refine Ev.bind (impl_muldiv (-a) b c okn (by have := no_top ok hbb; rwa [abs_neg])) ?_
      have hneg : mdF (-a) b c = (-(mdF a b c).1, (mdF a b c).2) := by
        unfold mdF
        rw [abs_neg]
        by_cases hs : nearF (absF a * b) c ≤ 1000000000000
        · rw [if_pos hs, if_pos hs]
          by_cases h0 : a < 0
          · rw [if_pos h0, if_neg (show ¬ -a < 0 by omega)]; simp
          · rw [if_neg h0]
            by_cases h00 : a = 0
            · subst h00
              have : nearF (absF 0 * b) c = 0 := by
                have e0 : absF 0 = 0 := by simp [absF]
                rw [e0, Int.zero_mul]
                have := near_self 0 c ok.2.2.1
                rwa [Int.zero_mul] at this
              rw [this]; simp
            · rw [if_pos (show -a < 0 by omega)]
        · rw [if_neg hs, if_neg hs]; rfl
      have hr1 : -1000000000000 ≤ (mdF a b c).1 ∧ (mdF a b c).1 ≤ 1000000000000 := by
        have hN := prod_bd ok
        have n0 := near_nonneg hN.1 ok.2.2.1
        unfold mdF
        by_cases hs : nearF (absF a * b) c ≤ 1000000000000
        · rw [if_pos hs]; simp only; split <;> omega
        · rw [if_neg hs]; simp
      rw [hneg]
      simp only [w64 (a := -(mdF a b c).1) (by omega) (by omega), if_true]
      refine Ev.bind (impl_muldiv a c c oks tops) ?_
      rw [md_self a c ok.1 ok.2.2.1]
      simp only [beq_self_eq_true, Bool.not_true, Bool.or_self]
      refine ev_succ ?_
      simp only [laws_FnMulDiv.j0, Bool.false_eq_true, if_false]
      by_cases hz : (mdF a b c).2 = 0
      · simp only [if_pos hz]
        have hs : nearF (absF a * b) c ≤ 1000000000000 := by
          unfold mdF at hz
          by_cases hs : nearF (absF a * b) c ≤ 1000000000000
          · exact hs
          · rw [if_neg hs] at hz; exact absurd hz (by simp)
        have hn : (mdF a b c).1 = if a < 0 then -nearF (absF a * b) c else nearF (absF a * b) c := by unfold mdF; rw [if_pos hs]
        have j2 : Ev (fun k => laws_FnMulDiv.j2 k a b c false (mdF a b c).1 (mdF a b c).2) true := by
          refine ev_succ ?_
          simp only [laws_FnMulDiv.j2, Bool.false_eq_true, if_false]
          by_cases x1 : a > 1000000
          · simp only [if_pos x1]; exact Ev.now _
          · by_cases x2 : a < -1000000
            · simp only [if_neg x1, if_pos x2]; exact Ev.now _
            · by_cases x3 : b > 1000000
              · simp only [if_neg x1, if_neg x2, if_pos x3]; exact Ev.now _
              · simp only [if_neg x1, if_neg x2, if_neg x3]
                exact ev_const (last_ok a b c _ ok hn x1 x2 x3)
        have j1 : Ev (fun k => laws_FnMulDiv.j1 k a b c false (mdF a b c).1 (mdF a b c).2) true := by
          refine ev_succ ?_
          simp only [laws_FnMulDiv.j1, Bool.false_eq_true, if_false]
          by_cases x1 : a > 1000000
          · simp only [if_pos x1]; exact Ev.now _
          · by_cases x2 : a < -1000000
            · simp only [if_neg x1, if_pos x2]; exact Ev.now _
            · by_cases x3 : b > 1000000
              · simp only [if_neg x1, if_neg x2, if_pos x3]; exact Ev.now _
              · simp only [if_neg x1, if_neg x2, if_neg x3]
                exact ev_const (last_ok a b c _ ok hn x1 x2 x3)
        by_cases ha0 : a ≥ 0
        · simp only [if_pos ha0]
          by_cases hbm : b < 10000000000
          · simp only [decide_eq_true hbm]
            refine ev_succ ?_
            have hb2 : b + 1 ≤ 2000000 := by rcases hb with hb | hb | hb <;> omega
            have ok1 : mdOk a (b + 1) c := ⟨ok.1, ⟨by have := ok.2.1.1; omega, by omega⟩, ok.2.2⟩
            have bq := ok.2.1.1
            simp only [laws_FnMulDiv.j1, if_true, w64 (a := b + 1) (by omega) (by omega)]
            refine Ev.bind (impl_muldiv a (b + 1) c ok1 (no_top ok1 (Or.inl hb2))) ?_
            by_cases hz1 : (mdF a (b + 1) c).2 = 0
            · simp only [if_pos hz1]
              have hge : ¬ (mdF a (b + 1) c).1 < (mdF a b c).1 := by
                have hs1 : nearF (absF a * (b + 1)) c ≤ 1000000000000 := by
                  unfold mdF at hz1
                  by_cases hs : nearF (absF a * (b + 1)) c ≤ 1000000000000
                  · exact hs
                  · rw [if_neg hs] at hz1; exact absurd hz1 (by simp)
                have hmo := near_mono (N := absF a * b) (M := absF a * (b + 1)) ok.2.2.1 (by
                  have := (abs_bd ok.1).1
                  rw [Int.mul_add]; omega)
                rw [hn]
                unfold mdF
                rw [if_pos hs1, if_neg (show ¬ a < 0 by omega), if_neg (show ¬ a < 0 by omega)]
                simp only; omega
              simp only [decide_eq_false hge]
              exact j2
            · simp only [if_neg hz1]; exact j2
          · simp only [decide_eq_false hbm]; exact j1
        · simp only [if_neg ha0]; exact j1
      · simp only [if_neg hz]; exact Ev.now _
    · obtain ⟨e1, e2⟩ := muldiv_bad a b c ok
      refine Ev.bind e2 ?_
      refine Ev.bind e1 ?_
      simp only [beq_self_eq_true, Bool.not_true, Bool.or_self, Bool.false_eq_true, if_false, if_true]
      exact Ev.now _

end Go.Proofs.Ytapobaphbaoanaa.Pure
