/- A drawn interest is the reference's; its span is the sum of its two parts, outside 30E; a greater balance bears no less; nothing bears nothing, and no days bear nothing. No condition beyond the row's own. -/
import Derived.Test.YthecbcflpadinaaPFnInterestx9
import Derived.Test.YthecbcflpadinaaQLib
namespace Go.Proofs.Ythecbcflpadinaa.Pure
set_option linter.unusedSimpArgs false
set_option linter.unusedVariables false
open Go.RowKit Go.Proofs.Ythecbcflpadinaa.PFnInterest Go.Proofs.YthecbcflpadinaaW.PrintWords Go.Proofs.YthecbcflpadinaaW.PrintLast Go.Proofs.YthecbcflpadinaaW.PrintMore
open Go.Proofs.Ythecbcflpadinaa.Q
theorem right_same (a : Int) : impl_MoneyRight.f a = spec_MoneyRight.f a := by
  simp only [spec_MoneyRight.f, impl_MoneyRight.f, impl_in.f, ge_iff_le]
  by_cases h1 : (-1000000000000 : Int) ≤ a
  · simp only [if_pos h1, Option.bind_some]
  · simp only [if_neg h1, Option.bind_some]
/-- Is it money? -/
def mr (a : Int) : Bool := decide (-1000000000000 ≤ a ∧ a ≤ 1000000000000)
theorem right_is (a : Int) : spec_MoneyRight.f a = some (mr a) := by
  simp only [spec_MoneyRight.f, ge_iff_le, mr]
  by_cases h1 : (-1000000000000 : Int) ≤ a
  · simp [h1]
  · simp [h1]

theorem u64_mask32 (x : Int) (h0 : 0 ≤ x) (h1 : x < 18446744073709551616) : Go.bits .and .u64 x 4294967295 = x % 4294967296 := by
  rw [u64_and _ _ h0 h1 (by omega) (by omega)]
  have h := Nat.and_two_pow_sub_one_eq_mod x.toNat 32
  rw [show (4294967295 : Int).toNat = 2 ^ 32 - 1 from rfl, h, show (2 ^ 32 : Nat) = 4294967296 from rfl]
  omega
theorem mul_bd {x y m n : Int} (h0 : 0 ≤ x) (h1 : x ≤ m) (h2 : 0 ≤ y) (h3 : y ≤ n) : 0 ≤ x * y ∧ x * y ≤ m * n :=
  ⟨Int.mul_nonneg h0 h2, Int.mul_le_mul h1 h3 h2 (by omega)⟩
theorem mul64_is (a b : Int) (ha0 : 0 ≤ a) (ha : a < 18446744073709551616) (hb0 : 0 ≤ b) (hb : b < 18446744073709551616) :
    bits_Mul64.f a b = some (a * b / 18446744073709551616, a * b % 18446744073709551616) := by
  unfold bits_Mul64.f
  rw [u64_mask32 a ha0 ha, u64_mask32 b hb0 hb]
  have e : a * b = (a / 4294967296) * (b / 4294967296) * 18446744073709551616 + ((a / 4294967296) * (b % 4294967296) + (a % 4294967296) * (b / 4294967296)) * 4294967296 + (a % 4294967296) * (b % 4294967296) := by
    have e1 : a = 4294967296 * (a / 4294967296) + a % 4294967296 := by omega
    have e2 : b = 4294967296 * (b / 4294967296) + b % 4294967296 := by omega
    generalize a / 4294967296 = X at e1 ⊢
    generalize a % 4294967296 = x at e1 ⊢
    generalize b / 4294967296 = Y at e2 ⊢
    generalize b % 4294967296 = y at e2 ⊢
    subst e1 e2
    simp only [Int.add_mul, Int.mul_add]
    have h1 : 4294967296 * X * (4294967296 * Y) = X * Y * 18446744073709551616 := by
      rw [Int.mul_assoc, Int.mul_left_comm X, ← Int.mul_assoc, Int.mul_comm _ (X * Y)]; rfl
    have h2 : 4294967296 * X * y = X * y * 4294967296 := by rw [Int.mul_assoc, Int.mul_comm]
    have h3 : x * (4294967296 * Y) = x * Y * 4294967296 := by rw [Int.mul_left_comm, Int.mul_comm]
    rw [h1, h2, h3]; omega
  have p1 := mul_bd (x := a / 4294967296) (y := b / 4294967296) (m := 4294967295) (n := 4294967295) (by omega) (by omega) (by omega) (by omega)
  have p2 := mul_bd (x := a / 4294967296) (y := b % 4294967296) (m := 4294967295) (n := 4294967295) (by omega) (by omega) (by omega) (by omega)
  have p3 := mul_bd (x := a % 4294967296) (y := b / 4294967296) (m := 4294967295) (n := 4294967295) (by omega) (by omega) (by omega) (by omega)
  have p4 := mul_bd (x := a % 4294967296) (y := b % 4294967296) (m := 4294967295) (n := 4294967295) (by omega) (by omega) (by omega) (by omega)
  rw [e]
  generalize (a / 4294967296) * (b / 4294967296) = q1 at *
  generalize (a / 4294967296) * (b % 4294967296) = q2 at *
  generalize (a % 4294967296) * (b / 4294967296) = q3 at *
  generalize (a % 4294967296) * (b % 4294967296) = q4 at *
  rw [u64in (n := q1) (by omega) (by omega), u64in (n := q2) (by omega) (by omega), u64in (n := q3) (by omega) (by omega), u64in (n := q4) (by omega) (by omega), u64in (n := q2 + q4 / 4294967296) (by omega) (by omega), u64_mask32 _ (by omega) (by omega), u64in (n := q1 + _) (by omega) (by omega), u64in (n := _ + q3) (by omega) (by omega), u64in (n := q1 + _ + _) (by omega) (by omega), u64w]
  congr 2
  omega

def absF (a : Int) : Int := if a < 0 then -a else a
theorem abs_mul (a b : Int) : absF (a * b) = absF a * absF b := by
  unfold absF
  by_cases ha : a < 0 <;> by_cases hb : b < 0
  · have := Int.mul_pos_of_neg_of_neg ha hb
    rw [if_neg (by omega), if_pos ha, if_pos hb, Int.neg_mul_neg]
  · rw [if_pos ha, if_neg hb, Int.neg_mul]
    by_cases h0 : b = 0
    · subst h0; simp
    · have := Int.mul_neg_of_neg_of_pos ha (show 0 < b by omega)
      rw [if_pos this]
  · rw [if_neg ha, if_pos hb, Int.mul_neg]
    by_cases h0 : a = 0
    · subst h0; simp
    · have := Int.mul_neg_of_pos_of_neg (show 0 < a by omega) hb
      rw [if_pos this]
  · have := Int.mul_nonneg (show 0 ≤ a by omega) (show 0 ≤ b by omega)
    rw [if_neg (by omega), if_neg ha, if_neg hb]
theorem mr_true {a : Int} (h : mr a = true) : -1000000000000 ≤ a ∧ a ≤ 1000000000000 := by unfold mr at h; simpa using h
theorem out_is (n : Int) : spec_l02Out.f n = some (if mr n then (n, 0) else (0, 13)) := by
  simp only [spec_l02Out.f, right_is, Option.bind_some]
  by_cases h : mr n = true
  · rw [if_pos h, if_pos h]
  · rw [if_neg h, if_neg h]
theorem abs_is {a : Int} (h : mr a = true) : spec_l02Abs.f a = some (absF a) := by
  have := mr_true h
  unfold spec_l02Abs.f absF
  by_cases h0 : a < 0
  · rw [if_pos h0, if_pos h0, w64 (by omega) (by omega)]
  · rw [if_neg h0, if_neg h0]
theorem abs_bd {a : Int} (h : mr a = true) : 0 ≤ absF a ∧ absF a ≤ 1000000000000 := by
  have := mr_true h
  unfold absF; split <;> omega
theorem mx_abs {a : Int} (h : mr a = true) : IntKind.u64.wrap (mx a (wrap64 (-a))) = absF a := by
  have := mr_true h
  rw [w64 (by omega) (by omega)]
  unfold mx absF
  by_cases h0 : a < 0
  · rw [if_pos (by omega), if_pos h0, u64in (by omega) (by omega)]
  · rw [if_neg (by omega), if_neg h0, u64in (by omega) (by omega)]
theorem prod_small {a b : Int} (ha : mr a = true) (hb : mr b = true) : wrap64 (a * b) = a * b ∨ ¬ (absF a * absF b ≤ 1000000000000) := by
  by_cases h : absF a * absF b ≤ 1000000000000
  · left
    rw [← abs_mul] at h
    unfold absF at h
    apply w64 <;> split at h <;> omega
  · right; exact h
theorem in_range (a b : Int) : (-1000000000000 ≤ a * b ∧ a * b ≤ 1000000000000) ↔ absF a * absF b ≤ 1000000000000 := by
  rw [← abs_mul]; unfold absF; split <;> omega


/-- How many bits a byte has. -/
def lenB (b : Int) : Int := if b < 1 then 0 else if b < 2 then 1 else if b < 4 then 2 else if b < 8 then 3 else if b < 16 then 4 else if b < 32 then 5 else if b < 64 then 6 else if b < 128 then 7 else 8
set_option maxRecDepth 100000 in
theorem tab_all : ∀ n : Fin 256, bt (⟨#[0, 1, 2, 2, 3, 3, 3, 3, 4, 4, 4, 4, 4, 4, 4, 4, 5, 5, 5, 5, 5, 5, 5, 5, 5, 5, 5, 5, 5, 5, 5, 5, 6, 6, 6, 6, 6, 6, 6, 6, 6, 6, 6, 6, 6, 6, 6, 6, 6, 6, 6, 6, 6, 6, 6, 6, 6, 6, 6, 6, 6, 6, 6, 6, 7, 7, 7, 7, 7, 7, 7, 7, 7, 7, 7, 7, 7, 7, 7, 7, 7, 7, 7, 7, 7, 7, 7, 7, 7, 7, 7, 7, 7, 7, 7, 7, 7, 7, 7, 7, 7, 7, 7, 7, 7, 7, 7, 7, 7, 7, 7, 7, 7, 7, 7, 7, 7, 7, 7, 7, 7, 7, 7, 7, 7, 7, 7, 7, 8, 8, 8, 8, 8, 8, 8, 8, 8, 8, 8, 8, 8, 8, 8, 8, 8, 8, 8, 8, 8, 8, 8, 8, 8, 8, 8, 8, 8, 8, 8, 8, 8, 8, 8, 8, 8, 8, 8, 8, 8, 8, 8, 8, 8, 8, 8, 8, 8, 8, 8, 8, 8, 8, 8, 8, 8, 8, 8, 8, 8, 8, 8, 8, 8, 8, 8, 8, 8, 8, 8, 8, 8, 8, 8, 8, 8, 8, 8, 8, 8, 8, 8, 8, 8, 8, 8, 8, 8, 8, 8, 8, 8, 8, 8, 8, 8, 8, 8, 8, 8, 8, 8, 8, 8, 8, 8, 8, 8, 8, 8, 8, 8, 8, 8, 8, 8, 8, 8, 8, 8, 8, 8, 8, 8, 8, 8, 8]⟩ : ByteArray) (n.val : Int) = lenB (n.val : Int) := by decide +kernel
set_option maxRecDepth 100000 in
theorem tab_len (b : Int) (h0 : 0 ≤ b) (h1 : b < 256) : bt (⟨#[0, 1, 2, 2, 3, 3, 3, 3, 4, 4, 4, 4, 4, 4, 4, 4, 5, 5, 5, 5, 5, 5, 5, 5, 5, 5, 5, 5, 5, 5, 5, 5, 6, 6, 6, 6, 6, 6, 6, 6, 6, 6, 6, 6, 6, 6, 6, 6, 6, 6, 6, 6, 6, 6, 6, 6, 6, 6, 6, 6, 6, 6, 6, 6, 7, 7, 7, 7, 7, 7, 7, 7, 7, 7, 7, 7, 7, 7, 7, 7, 7, 7, 7, 7, 7, 7, 7, 7, 7, 7, 7, 7, 7, 7, 7, 7, 7, 7, 7, 7, 7, 7, 7, 7, 7, 7, 7, 7, 7, 7, 7, 7, 7, 7, 7, 7, 7, 7, 7, 7, 7, 7, 7, 7, 7, 7, 7, 7, 8, 8, 8, 8, 8, 8, 8, 8, 8, 8, 8, 8, 8, 8, 8, 8, 8, 8, 8, 8, 8, 8, 8, 8, 8, 8, 8, 8, 8, 8, 8, 8, 8, 8, 8, 8, 8, 8, 8, 8, 8, 8, 8, 8, 8, 8, 8, 8, 8, 8, 8, 8, 8, 8, 8, 8, 8, 8, 8, 8, 8, 8, 8, 8, 8, 8, 8, 8, 8, 8, 8, 8, 8, 8, 8, 8, 8, 8, 8, 8, 8, 8, 8, 8, 8, 8, 8, 8, 8, 8, 8, 8, 8, 8, 8, 8, 8, 8, 8, 8, 8, 8, 8, 8, 8, 8, 8, 8, 8, 8, 8, 8, 8, 8, 8, 8, 8, 8, 8, 8, 8, 8, 8, 8, 8, 8, 8, 8]⟩ : ByteArray) b = lenB b := by
  have := tab_all ⟨b.toNat, by omega⟩
  rwa [show ((⟨b.toNat, by omega⟩ : Fin 256).val : Int) = b by simp; omega] at this
theorem lenB_is (i : Int) (h0 : 1 ≤ i) (h1 : i < 256) : ∃ L : Nat, 1 ≤ L ∧ L ≤ 8 ∧ lenB i = L ∧ (2 : Int) ^ (L - 1) ≤ i ∧ i < (2 : Int) ^ L := by
  unfold lenB
  rw [if_neg (show ¬ i < 1 by omega)]
  by_cases a1 : i < 2
  · rw [if_pos a1]; exact ⟨1, by omega, by omega, rfl, by simp; omega, by simp; omega⟩
  · rw [if_neg a1]
    by_cases a2 : i < 4
    · rw [if_pos a2]; exact ⟨2, by omega, by omega, rfl, by simp; omega, by simp; omega⟩
    · rw [if_neg a2]
      by_cases a3 : i < 8
      · rw [if_pos a3]; exact ⟨3, by omega, by omega, rfl, by simp; omega, by simp; omega⟩
      · rw [if_neg a3]
        by_cases a4 : i < 16
        · rw [if_pos a4]; exact ⟨4, by omega, by omega, rfl, by simp; omega, by simp; omega⟩
        · rw [if_neg a4]
          by_cases a5 : i < 32
          · rw [if_pos a5]; exact ⟨5, by omega, by omega, rfl, by simp; omega, by simp; omega⟩
          · rw [if_neg a5]
            by_cases a6 : i < 64
            · rw [if_pos a6]; exact ⟨6, by omega, by omega, rfl, by simp; omega, by simp; omega⟩
            · rw [if_neg a6]
              by_cases a7 : i < 128
              · rw [if_pos a7]; exact ⟨7, by omega, by omega, rfl, by simp; omega, by simp; omega⟩
              · rw [if_neg a7]; exact ⟨8, by omega, by omega, rfl, by simp; omega, by simp; omega⟩
theorem pow_split (b L : Nat) (i y : Int) (hL : 1 ≤ L) (h0 : (2 : Int) ^ (L - 1) ≤ i) (h1 : i < (2 : Int) ^ L) (e0 : i * 2 ^ b ≤ y) (e1 : y < (i + 1) * 2 ^ b) : (2 : Int) ^ (b + L - 1) ≤ y ∧ y < (2 : Int) ^ (b + L) := by
  have hp : (0 : Int) < 2 ^ b := Int.pow_pos (by omega)
  constructor
  · have h := Int.mul_le_mul_of_nonneg_right h0 (Int.le_of_lt hp)
    rw [← Int.pow_add] at h
    rw [show b + L - 1 = L - 1 + b by omega]
    omega
  · have h := Int.mul_le_mul_of_nonneg_right (show i + 1 ≤ (2 : Int) ^ L by omega) (Int.le_of_lt hp)
    rw [← Int.pow_add] at h
    rw [show b + L = L + b by omega]
    omega
set_option maxRecDepth 100000 in
theorem len64_ev (y : Int) (h0 : 1 ≤ y) (h1 : y < 1073741824) : ∃ n : Nat, 1 ≤ n ∧ n ≤ 32 ∧ (2 : Int) ^ (n - 1) ≤ y ∧ y < (2 : Int) ^ n ∧ Ev (fun k => bits_Len64.f k y) n := by
  simp only [bits_Len64.f, if_neg (show ¬ y ≥ 4294967296 by omega)]
  by_cases c1 : y ≥ 65536
  · by_cases c2 : y / 65536 ≥ 256
    · obtain ⟨L, l1, l8, el, p0, p1⟩ := lenB_is (y / 65536 / 256 % 256) (by omega) (by omega)
      have hs := pow_split 24 L _ y l1 p0 p1 (by simp; omega) (by simp; omega)
      refine ⟨24 + L, by omega, by omega, by simpa using hs.1, hs.2, ev_succ ⟨0, fun k _ => ?_⟩⟩
      show bits_Len64.j0 (k + 1) y 0 = _
      rw [bits_Len64.j0, if_pos c1, if_pos c2, if_pos (show 0 ≤ y / 65536 / 256 % 256 by omega), if_pos (show y / 65536 / 256 % 256 < 256 by omega), tab_len _ (show 0 ≤ y / 65536 / 256 % 256 by omega) (show y / 65536 / 256 % 256 < 256 by omega), el, w64 (a := (L : Int)) (by omega) (by omega), w64 (a := 0 + 16) (by omega) (by omega), w64 (a := 0 + 16 + 8) (by omega) (by omega), w64 (a := 0 + 16 + 8 + (L : Int)) (by omega) (by omega), show (0 : Int) + 16 + 8 + (L : Int) = ((24 + L : Nat) : Int) by omega]
    · obtain ⟨L, l1, l8, el, p0, p1⟩ := lenB_is (y / 65536 % 256) (by omega) (by omega)
      have hs := pow_split 16 L _ y l1 p0 p1 (by simp; omega) (by simp; omega)
      refine ⟨16 + L, by omega, by omega, by simpa using hs.1, hs.2, ev_succ ⟨0, fun k _ => ?_⟩⟩
      show bits_Len64.j0 (k + 1) y 0 = _
      rw [bits_Len64.j0, if_pos c1, if_neg c2, if_pos (show 0 ≤ y / 65536 % 256 by omega), if_pos (show y / 65536 % 256 < 256 by omega), tab_len _ (show 0 ≤ y / 65536 % 256 by omega) (show y / 65536 % 256 < 256 by omega), el, w64 (a := (L : Int)) (by omega) (by omega), w64 (a := 0 + 16) (by omega) (by omega), w64 (a := 0 + 16 + (L : Int)) (by omega) (by omega), show (0 : Int) + 16 + (L : Int) = ((16 + L : Nat) : Int) by omega]
  · by_cases c2 : y ≥ 256
    · obtain ⟨L, l1, l8, el, p0, p1⟩ := lenB_is (y / 256 % 256) (by omega) (by omega)
      have hs := pow_split 8 L _ y l1 p0 p1 (by simp; omega) (by simp; omega)
      refine ⟨8 + L, by omega, by omega, by simpa using hs.1, hs.2, ev_succ ⟨0, fun k _ => ?_⟩⟩
      show bits_Len64.j0 (k + 1) y 0 = _
      rw [bits_Len64.j0, if_neg c1, if_pos c2, if_pos (show 0 ≤ y / 256 % 256 by omega), if_pos (show y / 256 % 256 < 256 by omega), tab_len _ (show 0 ≤ y / 256 % 256 by omega) (show y / 256 % 256 < 256 by omega), el, w64 (a := (L : Int)) (by omega) (by omega), w64 (a := 0 + 8) (by omega) (by omega), w64 (a := 0 + 8 + (L : Int)) (by omega) (by omega), show (0 : Int) + 8 + (L : Int) = ((8 + L : Nat) : Int) by omega]
    · obtain ⟨L, l1, l8, el, p0, p1⟩ := lenB_is (y % 256) (by omega) (by omega)
      have hs := pow_split 0 L _ y l1 p0 p1 (by simp; omega) (by simp; omega)
      refine ⟨L, by omega, by omega, by simpa using hs.1, by simpa using hs.2, ev_succ ⟨0, fun k _ => ?_⟩⟩
      show bits_Len64.j0 (k + 1) y 0 = _
      rw [bits_Len64.j0, if_neg c1, if_neg c2, if_pos (show 0 ≤ y % 256 by omega), if_pos (show y % 256 < 256 by omega), tab_len _ (show 0 ≤ y % 256 by omega) (show y % 256 < 256 by omega), el, w64 (a := (L : Int)) (by omega) (by omega), w64 (a := 0 + (L : Int)) (by omega) (by omega), show (0 : Int) + (L : Int) = ((L : Nat) : Int) by omega]
/-- The long division by halves, where the divisor has no more than 32 bits: plain numbers. -/
theorem halves (hi lo y P Q R : Int) (hP : P = R * 4294967296) (hPQ : P * Q = 18446744073709551616) (hR : 0 < R) (hQ : 0 < Q) (h0 : 0 ≤ hi) (h1 : hi < y) (h2 : 0 ≤ lo) (h3 : lo < 18446744073709551616)
    (hY : y * P < 18446744073709551616) :
    let un32 := hi * P + lo / Q
    let yn := y * R
    let un1 := (lo % Q) * P / 4294967296
    let un0 := (lo % Q) * P % 4294967296
    let un21 := un32 % yn * 4294967296 + un1
    0 ≤ un32 ∧ un32 < 18446744073709551616 ∧ 0 < yn ∧ yn < 4294967296 ∧ un32 / yn < 4294967296 ∧ 0 ≤ un32 / yn ∧ 0 ≤ un1 ∧ un1 < 4294967296 ∧ (lo % Q) * P < 18446744073709551616 ∧ 0 ≤ (lo % Q) * P ∧ un21 < 18446744073709551616 ∧ 0 ≤ un21 ∧ un21 / yn < 4294967296 ∧ 0 ≤ un21 / yn ∧
      (hi * 18446744073709551616 + lo) / y = un32 / yn * 4294967296 + un21 / yn ∧ (un21 % yn * 4294967296 + un0) / P = (hi * 18446744073709551616 + lo) % y ∧ 0 ≤ un21 % yn * 4294967296 + un0 ∧ un21 % yn * 4294967296 + un0 < 18446744073709551616 := by
  intro un32 yn un1 un0 un21
  have hPp : 0 < P := by rw [hP]; omega
  have hy : 0 < y := by omega
  have yn0 : 0 < yn := Int.mul_pos hy hR
  have eY : y * P = yn * 4294967296 := by rw [hP]; grind
  have lq0 : 0 ≤ lo / Q := Int.ediv_nonneg h2 (by omega)
  have lqm : 0 ≤ lo % Q := Int.emod_nonneg _ (by omega)
  have lqm2 : lo % Q < Q := Int.emod_lt_of_pos _ hQ
  have elo : lo = Q * (lo / Q) + lo % Q := (Int.mul_ediv_add_emod lo Q).symm
  have lqP : lo / Q < P := by
    apply Int.ediv_lt_of_lt_mul hQ
    omega
  have hPm : 0 ≤ hi * P := Int.mul_nonneg h0 (by omega)
  have hhi : hi * P ≤ y * P - P := by
    have := Int.mul_le_mul_of_nonneg_right (show hi ≤ y - 1 by omega) (show 0 ≤ P by omega)
    grind
  have u32 : un32 < yn * 4294967296 := by show hi * P + lo / Q < _; omega
  have u32n : 0 ≤ un32 := by show 0 ≤ hi * P + lo / Q; omega
  have m1 : 0 ≤ (lo % Q) * P := Int.mul_nonneg lqm (by omega)
  have m2 : (lo % Q) * P < 18446744073709551616 := by
    have := Int.mul_lt_mul_of_pos_right lqm2 hPp
    rw [Int.mul_comm Q P, hPQ] at this
    exact this
  have q1 : un32 / yn < 4294967296 := Int.ediv_lt_of_lt_mul yn0 (by rw [Int.mul_comm]; exact u32)
  have q1n : 0 ≤ un32 / yn := Int.ediv_nonneg u32n (by omega)
  have r1 : 0 ≤ un32 % yn := Int.emod_nonneg _ (by omega)
  have r1l : un32 % yn < yn := Int.emod_lt_of_pos _ yn0
  have n1 : 0 ≤ un1 := Int.ediv_nonneg m1 (by omega)
  have n1l : un1 < 4294967296 := by show (lo % Q) * P / 4294967296 < _; omega
  have n0 : 0 ≤ un0 := Int.emod_nonneg _ (by omega)
  have n0l : un0 < 4294967296 := Int.emod_lt_of_pos _ (by omega)
  have en : (lo % Q) * P = un1 * 4294967296 + un0 := by show _ = (lo % Q) * P / 4294967296 * 4294967296 + (lo % Q) * P % 4294967296; omega
  have u21 : un21 < yn * 4294967296 := by show un32 % yn * 4294967296 + un1 < _; omega
  have u21n : 0 ≤ un21 := by show 0 ≤ un32 % yn * 4294967296 + un1; omega
  have q0 : un21 / yn < 4294967296 := Int.ediv_lt_of_lt_mul yn0 (by rw [Int.mul_comm]; exact u21)
  have q0n : 0 ≤ un21 / yn := Int.ediv_nonneg u21n (by omega)
  have r0 : 0 ≤ un21 % yn := Int.emod_nonneg _ (by omega)
  have r0l : un21 % yn < yn := Int.emod_lt_of_pos _ yn0
  have e32 : un32 = yn * (un32 / yn) + un32 % yn := (Int.mul_ediv_add_emod un32 yn).symm
  have e21 : un21 = yn * (un21 / yn) + un21 % yn := (Int.mul_ediv_add_emod un21 yn).symm
  have d32 : un32 = hi * P + lo / Q := rfl
  have d21 : un21 = un32 % yn * 4294967296 + un1 := rfl
  have key : (hi * 18446744073709551616 + lo - (un32 / yn * 4294967296 + un21 / yn) * y) * P = un21 % yn * 4294967296 + un0 := by
    generalize un32 / yn = A at *
    generalize un32 % yn = B at *
    generalize un21 / yn = C at *
    generalize un21 % yn = D at *
    generalize lo / Q = E at *
    generalize lo % Q = F at *
    generalize un1 = G at *
    generalize un0 = K at *
    clear q1 q1n r1 r1l n1 n1l n0 n0l u21 u21n q0 q0n r0 r0l u32 u32n m1 m2 hhi hPm lqP lqm lqm2 lq0
    grind
  have rem0 : 0 ≤ un21 % yn * 4294967296 + un0 := by omega
  have reml : un21 % yn * 4294967296 + un0 < y * P := by omega
  generalize hr : hi * 18446744073709551616 + lo - (un32 / yn * 4294967296 + un21 / yn) * y = r at key
  have hr0 : 0 ≤ r := by
    rcases Int.lt_or_le r 0 with h | h
    · have := Int.mul_neg_of_neg_of_pos h hPp
      omega
    · exact h
  have hrl : r < y := by
    rcases Int.lt_or_le r y with h | h
    · exact h
    · have := Int.mul_le_mul_of_nonneg_right h (show 0 ≤ P by omega)
      omega
  have eN : hi * 18446744073709551616 + lo = r + y * (un32 / yn * 4294967296 + un21 / yn) := by
    rw [← hr, Int.mul_comm y]; omega
  refine ⟨u32n, by omega, yn0, by omega, q1, q1n, n1, n1l, m2, m1, by omega, u21n, q0, q0n, ?_, ?_, rem0, by omega⟩
  · rw [eN, Int.add_mul_ediv_left _ _ (by omega), Int.ediv_eq_zero_of_lt hr0 hrl]; omega
  · rw [eN, Int.add_mul_emod_self_left, Int.emod_eq_of_lt hr0 hrl, ← key, Int.mul_ediv_cancel _ (by omega)]

theorem shl_is {x : Int} {s : Nat} (h : s ≤ 64) : shl .u64 x (s : Int) = IntKind.u64.wrap (x * 2 ^ s) := by
  unfold shl
  rw [Int.toNat_natCast, Nat.min_eq_left (by exact h)]
theorem shr_is {x : Int} {s : Nat} (h : s ≤ 64) : shr .u64 x (s : Int) = x / 2 ^ s := by
  unfold shr
  rw [Int.toNat_natCast, Nat.min_eq_left (by exact h)]
theorem or_join (a b : Int) (s : Nat) (ha : 0 ≤ a) (hb : 0 ≤ b) (hbl : b < 2 ^ s) (hd : a % 2 ^ s = 0) (hal : a < 18446744073709551616) (hbl2 : b < 18446744073709551616) : Go.bits .or .u64 a b = a + b := by
  rw [u64_or _ _ ha hal hb hbl2]
  have e1 : a.toNat % 2 ^ s = 0 := by
    have h1 : ((a.toNat % 2 ^ s : Nat) : Int) = a % 2 ^ s := by rw [Int.natCast_emod, Int.toNat_of_nonneg ha]; simp
    omega
  have e2 : b.toNat < 2 ^ s := by
    have h1 : ((2 ^ s : Nat) : Int) = (2 : Int) ^ s := by simp
    omega
  rw [nat_join s _ _ e1 e2]
  omega
/-- math/bits.Div64 at a divisor of no more than 30 bits. -/
theorem div64_ev (hi lo y : Int) (h0 : 0 ≤ hi) (h1 : hi < y) (h2 : 0 ≤ lo) (h3 : lo < 18446744073709551616) (h4 : y < 1073741824) :
    Ev (fun k => bits_Div64.f k hi lo y) ((hi * 18446744073709551616 + lo) / y, (hi * 18446744073709551616 + lo) % y) := by
  simp only [bits_Div64.f, if_neg (show ¬ y = 0 by omega), if_neg (show ¬ y ≤ hi by omega)]
  by_cases hz : hi = 0
  · subst hz
    simp only [if_true]
    have hd := Int.ediv_nonneg h2 (show 0 ≤ y by omega)
    have hd2 : lo / y ≤ lo := Int.ediv_le_self _ h2
    rw [tdiv_pos h2, tmod_pos h2, u64in hd (by omega), Int.zero_mul, Int.zero_add]
    exact Ev.now _
  · simp only [if_neg hz]
    obtain ⟨n, n1, n32, p0, p1, en⟩ := len64_ev y (by omega) h4
    have hn30 : n ≤ 30 := by
      rcases Nat.lt_or_ge 30 n with h | h
      · exfalso
        have : (2 : Int) ^ 30 ≤ 2 ^ (n - 1) := by
          rw [show n - 1 = 30 + (n - 1 - 30) by omega, Int.pow_add]
          have : (1 : Int) ≤ 2 ^ (n - 1 - 30) := Int.pow_pos (by omega)
          omega
        have e30 : (2 : Int) ^ 30 = 1073741824 := rfl
        omega
      · exact h
    obtain ⟨s, hs⟩ : ∃ s : Nat, s = 64 - n := ⟨_, rfl⟩
    have elz : Ev (fun k => bits_LeadingZeros64.f k y) (s : Int) := by
      simp only [bits_LeadingZeros64.f]
      refine Ev.bind en ?_
      rw [w64 (by omega) (by omega), show (64 : Int) - (n : Int) = (s : Int) by omega]; exact Ev.now _
    refine Ev.bind elz ?_
    have ews : IntKind.u64.wrap (s : Int) = s := u64in (by omega) (by omega)
    have ews2 : IntKind.u64.wrap (64 - (s : Int)) = ((64 - s : Nat) : Int) := by rw [u64in (by omega) (by omega)]; omega
    simp only [ews, ews2, if_pos (nat0 s), if_pos (nat0 (64 - s)), shl_is (show s ≤ 64 by omega), shr_is (show 64 - s ≤ 64 by omega)]
    obtain ⟨P, eP⟩ : ∃ P : Int, P = 2 ^ s := ⟨_, rfl⟩
    obtain ⟨Q, eQ⟩ : ∃ Q : Int, Q = 2 ^ (64 - s) := ⟨_, rfl⟩
    obtain ⟨R, eR⟩ : ∃ R : Int, R = 2 ^ (s - 32) := ⟨_, rfl⟩
    have hP : P = R * 4294967296 := by
      rw [eP, eR, show (4294967296 : Int) = 2 ^ 32 from rfl, ← Int.pow_add]; congr 1; omega
    have hPQ : P * Q = 18446744073709551616 := by
      rw [eP, eQ, ← Int.pow_add, show (18446744073709551616 : Int) = 2 ^ 64 from rfl]; congr 1; omega
    have hR : 0 < R := by rw [eR]; exact Int.pow_pos (by omega)
    have hQ : 0 < Q := by rw [eQ]; exact Int.pow_pos (by omega)
    have hPp : 0 < P := by omega
    have hY : y * P < 18446744073709551616 := by
      have h := Int.mul_lt_mul_of_pos_right p1 hPp
      rw [eP, ← Int.pow_add, show n + s = 64 by omega] at h
      rw [eP]; exact h
    have H := halves hi lo y P Q R hP hPQ hR hQ h0 h1 h2 h3 hY
    have en1 : y * P / 4294967296 = y * R := by rw [hP, ← Int.mul_assoc, Int.mul_ediv_cancel _ (by omega)]
    have en0 : Go.bits .and .u64 (y * P) 4294967295 = 0 := by
      rw [u64_mask32 _ (Int.mul_nonneg (by omega) (by omega)) hY, hP, ← Int.mul_assoc, Int.mul_emod_left]
    have ehiP : hi * P < 18446744073709551616 := by
      have := Int.mul_le_mul_of_nonneg_right (show hi ≤ y by omega) (show 0 ≤ P by omega)
      omega
    have hiP0 : 0 ≤ hi * P := Int.mul_nonneg h0 (by omega)
    have elo : IntKind.u64.wrap (lo * P) = lo % Q * P := by
      rw [u64w]
      have e : lo * P = lo % Q * P + 18446744073709551616 * (lo / Q) := by
        have := Int.mul_ediv_add_emod lo Q
        grind
      rw [e, Int.add_mul_emod_self_left]
      exact Int.emod_eq_of_lt H.2.2.2.2.2.2.2.2.2.1 H.2.2.2.2.2.2.2.2.1
    have lqP : lo / Q < P := Int.ediv_lt_of_lt_mul hQ (by rw [hPQ]; exact h3)
    have lq0 : 0 ≤ lo / Q := Int.ediv_nonneg h2 (by omega)
    have eor : Go.bits .or .u64 (hi * P) (lo / Q) = hi * P + lo / Q := by
      refine or_join _ _ s hiP0 lq0 (by rw [← eP]; exact lqP) (by rw [← eP]; exact Int.mul_emod_left _ _) ehiP (by omega)
    rw [← eP, ← eQ]
    rw [u64in (n := y * P) (Int.mul_nonneg (by omega) (by omega)) hY, u64in (n := hi * P) hiP0 ehiP, elo, eor, en1, en0]
    obtain ⟨u0, u1, yn0, yn1, q1, q1n, n1', n1l, m2, m1, u21l, u21n, q0, q0n, eq, er, rm0, rml⟩ := H
    rw [u64_mask32 _ m1 m2]
    generalize hu : hi * P + lo / Q = un32 at *
    generalize hyn : y * R = yn at *
    generalize hg : lo % Q * P / 4294967296 = un1 at *
    generalize hk : lo % Q * P % 4294967296 = un0 at *
    have eYP : y * P = yn * 4294967296 := by rw [hP, ← hyn]; grind
    have d1 := Int.mul_ediv_add_emod un32 yn
    have rr0 : 0 ≤ un32 % yn := Int.emod_nonneg _ (by omega)
    have rrl : un32 % yn < yn := Int.emod_lt_of_pos _ yn0
    have k0 : 0 ≤ un0 := by rw [← hk]; exact Int.emod_nonneg _ (by omega)
    have k1 : un0 < 4294967296 := by rw [← hk]; exact Int.emod_lt_of_pos _ (by omega)
    have mq : 0 ≤ un32 / yn * yn := Int.mul_nonneg q1n (by omega)
    have mqe : un32 / yn * yn = un32 - un32 % yn := by rw [Int.mul_comm]; omega
    simp only [if_neg (show ¬ yn = 0 by omega), tdiv_pos u0, u64in (n := un32 / yn) q1n (by omega)]
    have er1 : IntKind.u64.wrap (un32 - IntKind.u64.wrap (un32 / yn * yn)) = un32 % yn := by
      rw [mqe, u64in (n := un32 - un32 % yn) (by omega) (by omega), u64in (by omega) (by omega)]; omega
    rw [er1]
    -- the first half
    refine ev_succ ?_
    simp only [bits_Div64.l0, if_neg (show ¬ un32 / yn ≥ 4294967296 by omega), Int.mul_zero]
    have t1 : decide (IntKind.u64.wrap 0 > IntKind.u64.wrap (IntKind.u64.wrap (4294967296 * (un32 % yn)) + un1)) = false := by
      have e0 : IntKind.u64.wrap 0 = 0 := u64in (by omega) (by omega)
      rw [e0, u64w]
      simp only [gt_iff_lt, decide_eq_false_iff_not]
      have := Int.emod_nonneg (IntKind.u64.wrap (4294967296 * (un32 % yn)) + un1) (show (18446744073709551616 : Int) ≠ 0 by omega)
      omega
    rw [t1]
    refine ev_succ ?_
    simp only [bits_Div64.j1, Bool.false_eq_true, if_false]
    refine ev_succ ?_
    have eun21 : IntKind.u64.wrap ((IntKind.u64.wrap ((IntKind.u64.wrap (un32 * 4294967296)) + un1)) - (IntKind.u64.wrap (un32 / yn * (y * P)))) = un32 % yn * 4294967296 + un1 := by
      have e : un32 / yn * (y * P) = (un32 - un32 % yn) * 4294967296 := by rw [eYP, ← mqe]; grind
      rw [e]
      simp only [u64w]
      omega
    simp only [bits_Div64.j2, eun21, if_neg (show ¬ yn = 0 by omega)]
    generalize hv : un32 % yn * 4294967296 + un1 = un21 at *
    have d2 := Int.mul_ediv_add_emod un21 yn
    have ss0 : 0 ≤ un21 % yn := Int.emod_nonneg _ (by omega)
    have ssl : un21 % yn < yn := Int.emod_lt_of_pos _ yn0
    have mq2 := Int.mul_nonneg q0n (show 0 ≤ yn by omega)
    have nqe : un21 / yn * yn = un21 - un21 % yn := by rw [Int.mul_comm]; omega
    have er2 : IntKind.u64.wrap (un21 - IntKind.u64.wrap (un21 / yn * yn)) = un21 % yn := by
      rw [nqe, u64in (n := un21 - un21 % yn) (by omega) (by omega), u64in (by omega) (by omega)]; omega
    simp only [tdiv_pos u21n, u64in (n := un21 / yn) q0n (by omega), er2]
    -- the second half
    refine ev_succ ?_
    simp only [bits_Div64.l1, if_neg (show ¬ un21 / yn ≥ 4294967296 by omega), Int.mul_zero]
    have t2 : decide (IntKind.u64.wrap 0 > IntKind.u64.wrap (IntKind.u64.wrap (4294967296 * (un21 % yn)) + un0)) = false := by
      have e0 : IntKind.u64.wrap 0 = 0 := u64in (by omega) (by omega)
      rw [e0, u64w]
      simp only [gt_iff_lt, decide_eq_false_iff_not]
      have := Int.emod_nonneg (IntKind.u64.wrap (4294967296 * (un21 % yn)) + un0) (show (18446744073709551616 : Int) ≠ 0 by omega)
      omega
    rw [t2]
    refine ev_succ ?_
    have erem : IntKind.u64.wrap ((IntKind.u64.wrap ((IntKind.u64.wrap (un21 * 4294967296)) + un0)) - (IntKind.u64.wrap (un21 / yn * (y * P)))) = un21 % yn * 4294967296 + un0 := by
      have e : un21 / yn * (y * P) = (un21 - un21 % yn) * 4294967296 := by rw [eYP, ← nqe]; grind
      rw [e]
      simp only [u64w]
      omega
    simp only [bits_Div64.j4, Bool.false_eq_true, if_false, if_pos (nat0 s), erem, shr_is (show s ≤ 64 by omega)]
    rw [← eP, er, u64in (n := un32 / yn * 4294967296) (by omega) (by omega), u64in (by omega) (by omega), ← eq]
    exact Ev.now _

/-- N over c, to the nearest, halves to the even one. -/
def nearF (N c : Int) : Int := if 2 * (N % c) > c ∨ (2 * (N % c) = c ∧ N / c % 2 = 1) then N / c + 1 else N / c
def mdOk (a b c : Int) : Prop := mr a = true ∧ (0 ≤ b ∧ b ≤ 10000000000) ∧ (1 ≤ c ∧ c ≤ 1000000000)
/-- What MulDiv tells of what it takes. -/
def mdF (a b c : Int) : Int × Int := if nearF (absF a * b) c ≤ 1000000000000 then (if a < 0 then -nearF (absF a * b) c else nearF (absF a * b) c, 0) else (0, 13)
theorem near_ge (N c : Int) : N / c ≤ nearF N c ∧ nearF N c ≤ N / c + 1 := by unfold nearF; split <;> omega
theorem prod_bd {a b c : Int} (h : mdOk a b c) : 0 ≤ absF a * b ∧ absF a * b ≤ 10000000000000000000000 := by
  have ha := abs_bd h.1
  exact mul_bd ha.1 ha.2 h.2.1.1 h.2.1.2
/-- The reference's way: by millions. -/
theorem spec_near (A b c : Int) (hA0 : 0 ≤ A) (hA1 : A ≤ 1000000000000) (hb0 : 0 ≤ b) (hb1 : b ≤ 10000000000) (hc0 : 1 ≤ c) (hc1 : c ≤ 1000000000) :
    ∃ n, spec_l02Near.f A b c = some n ∧ ((n = nearF (A * b) c ∧ n ≤ 100000000000000000) ∨ (n = 2000000000000 ∧ 2000000000000 < nearF (A * b) c)) := by
  have b1 := mul_bd (x := A / 1000000) (y := b) (m := 1000000) (n := 10000000000) (by omega) (by omega) hb0 hb1
  have b2 := mul_bd (x := A % 1000000) (y := b) (m := 999999) (n := 10000000000) (by omega) (by omega) hb0 hb1
  have eN : A * b = A / 1000000 * b * 1000000 + A % 1000000 * b := by
    have : A = A / 1000000 * 1000000 + A % 1000000 := by omega
    generalize A / 1000000 = x at *
    generalize A % 1000000 = y at *
    subst this
    grind
  unfold spec_l02Near.f
  rw [if_neg (show ¬ c = 0 by omega), tdiv_pos hA0, tmod_pos hA0, w64 (a := A / 1000000) (by omega) (by omega), w64 (a := A / 1000000 * b) (by omega) (by omega), w64 (a := A % 1000000 * b) (by omega) (by omega), tdiv_pos b1.1, tmod_pos b1.1]
  generalize hH : A / 1000000 * b = H at *
  generalize hM : A % 1000000 * b = M at *
  have d1 := Int.mul_ediv_add_emod H c
  have q1n : 0 ≤ H / c := Int.ediv_nonneg b1.1 (by omega)
  have q1l : H / c ≤ H := Int.ediv_le_self _ b1.1
  have m1 : 0 ≤ H % c := Int.emod_nonneg _ (by omega)
  have m1l : H % c < c := Int.emod_lt_of_pos _ (by omega)
  have L0 : 0 ≤ H % c * 1000000 + M := by omega
  have d2 := Int.mul_ediv_add_emod (H % c * 1000000 + M) c
  have q2n : 0 ≤ (H % c * 1000000 + M) / c := Int.ediv_nonneg L0 (by omega)
  have q2l : (H % c * 1000000 + M) / c ≤ H % c * 1000000 + M := Int.ediv_le_self _ L0
  have m2 : 0 ≤ (H % c * 1000000 + M) % c := Int.emod_nonneg _ (by omega)
  have m2l : (H % c * 1000000 + M) % c < c := Int.emod_lt_of_pos _ (by omega)
  have eNc : A * b = (H % c * 1000000 + M) % c + c * (H / c * 1000000 + (H % c * 1000000 + M) / c) := by
    rw [eN]
    generalize (H % c * 1000000 + M) / c = u at *
    generalize (H % c * 1000000 + M) % c = v at *
    generalize H / c = s at *
    generalize H % c = t at *
    grind
  have eq : A * b / c = H / c * 1000000 + (H % c * 1000000 + M) / c := by
    rw [eNc, Int.add_mul_ediv_left _ _ (by omega), Int.ediv_eq_zero_of_lt m2 m2l]; omega
  have em : A * b % c = (H % c * 1000000 + M) % c := by
    rw [eNc, Int.add_mul_emod_self_left, Int.emod_eq_of_lt m2 m2l]
  rw [w64 (a := H / c) (by omega) (by omega)]
  by_cases big : H / c > 2000000
  · rw [if_pos big]
    refine ⟨_, rfl, Or.inr ⟨rfl, ?_⟩⟩
    have := (near_ge (A * b) c).1
    omega
  · rw [if_neg big]
    rw [w64 (a := H % c * 1000000) (by omega) (by omega), w64 (a := H % c * 1000000 + M) (by omega) (by omega), tmod_pos L0, tdiv_pos L0]
    unfold nearF
    rw [eq, em]
    generalize (H % c * 1000000 + M) / c = u at *
    generalize (H % c * 1000000 + M) % c = v at *
    generalize H / c = s at *
    have ub : u ≤ 20000000000000000 := by omega
    rw [w64 (a := 2 * v) (by omega) (by omega), w64 (a := s * 1000000) (by omega) (by omega), w64 (a := u) (by omega) (by omega), w64 (a := u + 1) (by omega) (by omega), w64 (a := s * 1000000 + (u + 1)) (by omega) (by omega), w64 (a := s * 1000000 + u) (by omega) (by omega), tmod_pos (show 0 ≤ s * 1000000 + u by omega)]
    by_cases g1 : 2 * v > c
    · rw [if_pos g1, if_pos (Or.inl g1)]
      exact ⟨_, rfl, Or.inl ⟨by omega, by omega⟩⟩
    · rw [if_neg g1]
      by_cases g2 : 2 * v = c
      · rw [if_pos g2]
        by_cases g3 : (s * 1000000 + u) % 2 = 1
        · rw [if_pos g3, if_pos (Or.inr ⟨g2, g3⟩)]
          exact ⟨_, rfl, Or.inl ⟨by omega, by omega⟩⟩
        · rw [if_neg g3, if_neg (fun h => h.elim g1 (fun q => g3 q.2))]
          exact ⟨_, rfl, Or.inl ⟨rfl, by omega⟩⟩
      · rw [if_neg g2, if_neg (fun h => h.elim g1 (fun q => g2 q.1))]
        exact ⟨_, rfl, Or.inl ⟨rfl, by omega⟩⟩
theorem near_nonneg {N c : Int} (h0 : 0 ≤ N) (h1 : 1 ≤ c) : 0 ≤ nearF N c := by
  have := (near_ge N c).1
  have := Int.ediv_nonneg h0 (show 0 ≤ c by omega)
  omega
theorem spec_muldiv (a b c : Int) (h : mdOk a b c) : Ev (fun k => spec_MulDiv.f k a b c) (mdF a b c) := by
  have ha := abs_bd h.1
  have hm := mr_true h.1
  have hP := prod_bd h
  obtain ⟨hr, hb, hc⟩ := h
  simp only [spec_MulDiv.f, right_is, Option.bind_some, if_pos hr, if_neg (show ¬ b < 0 by omega), if_neg (show ¬ b > 10000000000 by omega), if_neg (show ¬ c < 1 by omega), decide_eq_false (show ¬ c > 1000000000 by omega)]
  refine ev_succ ?_
  obtain ⟨n, e, hn⟩ := spec_near (absF a) b c ha.1 ha.2 hb.1 hb.2 hc.1 hc.2
  have n0 := near_nonneg hP.1 hc.1
  simp only [spec_MulDiv.j0, Bool.false_eq_true, if_false, abs_is hr, e, Option.bind_some, out_is]
  unfold mdF
  rcases hn with ⟨hn, hl⟩ | ⟨hn, hl⟩
  · rw [← hn] at n0 ⊢
    by_cases hs : n ≤ 1000000000000
    · rw [if_pos hs]
      by_cases h0 : a < 0
      · have hq : mr (-n) = true := by unfold mr; simp; omega
        simp only [if_pos h0, w64 (a := -n) (by omega) (by omega), if_pos hq]; exact Ev.now _
      · have hq : mr n = true := by unfold mr; simp; omega
        simp only [if_neg h0, if_pos hq]; exact Ev.now _
    · rw [if_neg hs]
      by_cases h0 : a < 0
      · have hq : ¬ mr (-n) = true := by unfold mr; simp; omega
        simp only [if_pos h0, w64 (a := -n) (by omega) (by omega), if_neg hq]; exact Ev.now _
      · have hq : ¬ mr n = true := by unfold mr; simp; omega
        simp only [if_neg h0, if_neg hq]; exact Ev.now _
  · rw [if_neg (show ¬ nearF (absF a * b) c ≤ 1000000000000 by omega), hn]
    by_cases h0 : a < 0
    · simp only [if_pos h0, w64 (a := -2000000000000) (by omega) (by omega), if_neg (show ¬ mr (-2000000000000) = true by decide)]; exact Ev.now _
    · simp only [if_neg h0, if_neg (show ¬ mr 2000000000000 = true by decide)]; exact Ev.now _
theorem in_is (a b c : Int) : impl_in.f a b c = some (decide (b ≤ a ∧ a ≤ c)) := by
  unfold impl_in.f
  by_cases h : b ≤ a
  · rw [if_pos h]; congr 1; simp [h]
  · rw [if_neg h]; simp [h]
theorem impl_muldiv (a b c : Int) (h : mdOk a b c) (hw : absF a * b / c ≠ 18446744073709551615) : Ev (fun k => impl_MulDiv.f k a b c) (mdF a b c) := by
  have ha := abs_bd h.1
  have hm := mr_true h.1
  have hP := prod_bd h
  obtain ⟨hr, hb, hc⟩ := h
  simp only [impl_MulDiv.f, right_same, right_is, in_is, Option.bind_some, if_pos hr, decide_eq_true hb, decide_eq_true hc, if_true, Bool.not_true]
  refine ev_succ ?_
  simp only [impl_MulDiv.j0, Bool.false_eq_true, if_false, mx_abs hr, u64in (n := b) (by omega) (by omega), mul64_is _ b ha.1 (by omega) hb.1 (by omega), Option.bind_some, u64in (n := c) (by omega) (by omega)]
  have n0 := near_nonneg hP.1 hc.1
  have ng := near_ge (absF a * b) c
  generalize hN : absF a * b = N at *
  have q0 : 0 ≤ N / c := Int.ediv_nonneg hP.1 (by omega)
  have d1 := Int.mul_ediv_add_emod N c
  have m1 : 0 ≤ N % c := Int.emod_nonneg _ (by omega)
  have m1l : N % c < c := Int.emod_lt_of_pos _ (by omega)
  unfold mdF
  rw [hN]
  by_cases hh : N / 18446744073709551616 ≥ c
  · simp only [if_pos hh]
    have : 18446744073709551616 ≤ N / c := by
      apply (Int.le_ediv_iff_mul_le (by omega)).mpr
      omega
    rw [if_neg (by omega)]; exact Ev.now _
  · simp only [if_neg hh]
    have ql : N / c < 18446744073709551616 := Int.ediv_lt_of_lt_mul (by omega) (by omega)
    have E := div64_ev (N / 18446744073709551616) (N % 18446744073709551616) c (by omega) (by omega) (by omega) (by omega) (by omega)
    rw [show N / 18446744073709551616 * 18446744073709551616 + N % 18446744073709551616 = N by omega] at E
    refine Ev.bind E ?_
    simp only [u64in (n := 2 * (N % c)) (by omega) (by omega), tmod_pos q0]
    have fin : ∀ q : Int, 0 ≤ q → q < 18446744073709551616 → Ev (fun k => impl_MulDiv.j2 k a q) (if q ≤ 1000000000000 then (if a < 0 then -q else q, 0) else (0, 13)) := by
      intro q hq0 hq1
      refine ev_succ ?_
      simp only [impl_MulDiv.j2]
      by_cases hs : q ≤ 1000000000000
      · rw [if_pos hs]
        simp only [if_neg (show ¬ q > 1000000000000 by omega), w64 (a := q) (by omega) (by omega), w64 (a := -q) (by omega) (by omega)]
        by_cases h0 : a < 0
        · simp only [if_pos h0]; exact Ev.now _
        · simp only [if_neg h0]; exact Ev.now _
      · rw [if_neg hs]
        simp only [if_pos (show q > 1000000000000 by omega)]; exact Ev.now _
    have up : nearF N c = N / c + 1 → Ev (fun k => impl_MulDiv.j1 k a (N / c) true) (if nearF N c ≤ 1000000000000 then (if a < 0 then -nearF N c else nearF N c, 0) else (0, 13)) := by
      intro en
      rw [en]
      refine ev_succ ?_
      simp only [impl_MulDiv.j1, if_true, u64in (n := N / c + 1) (by omega) (by omega)]
      exact fin _ (by omega) (by omega)
    have down : nearF N c = N / c → Ev (fun k => impl_MulDiv.j1 k a (N / c) false) (if nearF N c ≤ 1000000000000 then (if a < 0 then -nearF N c else nearF N c, 0) else (0, 13)) := by
      intro en
      rw [en]
      refine ev_succ ?_
      simp only [impl_MulDiv.j1, Bool.false_eq_true, if_false]
      exact fin _ q0 ql
    by_cases g1 : 2 * (N % c) > c
    · simp only [if_pos g1]
      exact up (by unfold nearF; rw [if_pos (Or.inl g1)])
    · simp only [if_neg g1]
      by_cases g2 : 2 * (N % c) = c
      · simp only [if_pos g2]
        by_cases g3 : N / c % 2 = 1
        · simp only [g3, beq_self_eq_true]
          exact up (by unfold nearF; rw [if_pos (Or.inr ⟨g2, g3⟩)])
        · have gb : (N / c % 2 == 1) = false := by simpa using g3
          simp only [gb]
          exact down (by unfold nearF; rw [if_neg (fun h => h.elim g1 (fun q => g3 q.2))])
      · simp only [if_neg g2]
        exact down (by unfold nearF; rw [if_neg (fun h => h.elim g1 (fun q => g2 q.1))])
theorem muldiv_bad (a b c : Int) (h : ¬ mdOk a b c) : Ev (fun k => spec_MulDiv.f k a b c) (0, 1) ∧ Ev (fun k => impl_MulDiv.f k a b c) (0, 1) := by
  have hs : Ev (fun k => spec_MulDiv.j0 k a b c true) (0, 1) := ev_succ (by simp only [spec_MulDiv.j0, if_true]; exact Ev.now _)
  have hi : Ev (fun k => impl_MulDiv.j0 k a b c true) (0, 1) := ev_succ (by simp only [impl_MulDiv.j0, if_true]; exact Ev.now _)
  simp only [spec_MulDiv.f, impl_MulDiv.f, right_same, right_is, in_is, Option.bind_some]
  by_cases hr : mr a = true
  · simp only [if_pos hr]
    by_cases hb : 0 ≤ b ∧ b ≤ 10000000000
    · have hc : ¬ (1 ≤ c ∧ c ≤ 1000000000) := fun hc => h ⟨hr, hb, hc⟩
      simp only [if_neg (show ¬ b < 0 by omega), if_neg (show ¬ b > 10000000000 by omega), decide_eq_true hb, if_true, decide_eq_false hc, Bool.not_false]
      refine ⟨?_, hi⟩
      by_cases h1 : c < 1
      · simp only [if_pos h1]; exact hs
      · simp only [if_neg h1, decide_eq_true (show c > 1000000000 by omega)]; exact hs
    · simp only [decide_eq_false hb, Bool.false_eq_true, if_false]
      refine ⟨?_, hi⟩
      by_cases h1 : b < 0
      · simp only [if_pos h1]; exact hs
      · simp only [if_neg h1, if_pos (show b > 10000000000 by omega)]; exact hs
  · simp only [if_neg hr]; exact ⟨hs, hi⟩

/-- How many days a month has. -/
def lenF (y m : Int) : Int := if m = 2 then (if Int.tmod y 4 = 0 then 29 else 28) else if m = 4 ∨ m = 6 ∨ m = 9 ∨ m = 11 then 30 else 31
/-- How many days stand ahead of a year. -/
def headF (y : Int) : Int := 365 * (y - 2000) + (y - 2000 + 3) / 4
/-- How many days a year has from a month on. -/
def remF (y m : Int) : Int := if m = 1 then 337 + lenF y 2 else if m = 2 then 306 + lenF y 2 else if m = 3 then 306 else if m = 4 then 275 else if m = 5 then 245 else if m = 6 then 214 else if m = 7 then 184 else if m = 8 then 153 else if m = 9 then 122 else if m = 10 then 92 else if m = 11 then 61 else if m = 12 then 31 else 0
theorem lenF_range (y m : Int) : 28 ≤ lenF y m ∧ lenF y m ≤ 31 := by
  unfold lenF; split
  · split <;> omega
  · split <;> omega
theorem twelve {m : Int} (h0 : 1 ≤ m) (h1 : m ≤ 12) : m = 1 ∨ m = 2 ∨ m = 3 ∨ m = 4 ∨ m = 5 ∨ m = 6 ∨ m = 7 ∨ m = 8 ∨ m = 9 ∨ m = 10 ∨ m = 11 ∨ m = 12 := by omega
theorem rem_step (y m : Int) (h0 : 1 ≤ m) (h1 : m ≤ 12) : remF y m = lenF y m + remF y (m + 1) := by
  rcases twelve h0 h1 with e | e | e | e | e | e | e | e | e | e | e | e <;> subst e <;> simp [remF, lenF] <;> omega
theorem rem_end (y : Int) : remF y 13 = 0 := by simp [remF]
theorem spec_len (y m : Int) : spec_l03Len.f y m = some (lenF y m) := by
  unfold spec_l03Len.f lenF
  by_cases h2 : m = 2
  · rw [if_pos h2, if_pos h2]; split <;> rfl
  · rw [if_neg h2, if_neg h2]
    by_cases h4 : m = 4
    · rw [if_pos h4, if_pos (Or.inl h4)]
    · rw [if_neg h4]
      by_cases h6 : m = 6
      · rw [if_pos h6, if_pos (Or.inr (Or.inl h6))]
      · rw [if_neg h6]
        by_cases h9 : m = 9
        · rw [if_pos h9, if_pos (Or.inr (Or.inr (Or.inl h9)))]
        · rw [if_neg h9]
          by_cases h11 : m = 11
          · rw [if_pos h11, if_pos (Or.inr (Or.inr (Or.inr h11)))]
          · rw [if_neg h11, if_neg (by omega)]
theorem impl_len (y m : Int) (y0 : 0 ≤ y) (y1 : y ≤ 10000) (h0 : 1 ≤ m) (h1 : m ≤ 12) : impl_daysIn.f y m = some (lenF y m) := by
  unfold impl_daysIn.f lenF
  rw [if_pos (by omega)]
  by_cases h2 : m = 2
  · by_cases h : Int.tmod y 4 = 0
    · rw [if_pos ⟨h2, h⟩, if_pos h2, if_pos h]
    · rw [if_neg (fun x => h x.2), if_pos h2, if_pos h2, if_neg h]
  · rw [if_neg (fun x => h2 x.1), if_neg h2, if_neg h2]; split <;> rfl
theorem head_wraps (y : Int) (h0 : 2000 ≤ y) (h1 : y ≤ 2200) : wrap64 ((wrap64 (365 * (wrap64 (y - 2000)))) + (wrap64 (Int.tdiv (wrap64 ((wrap64 (y - 2000)) + 3)) 4))) = headF y := by
  rw [w64 (a := y - 2000) (by omega) (by omega), w64 (a := 365 * (y - 2000)) (by omega) (by omega), w64 (a := y - 2000 + 3) (by omega) (by omega), tdiv_pos (by omega), w64 (a := (y - 2000 + 3) / 4) (by omega) (by omega), w64 (by omega) (by omega)]
  rfl
theorem spec_head (y : Int) (h0 : 2000 ≤ y) (h1 : y ≤ 2200) : spec_l03Head.f y = some (headF y) := by
  unfold spec_l03Head.f; rw [head_wraps y h0 h1]
theorem impl_head (y : Int) (h0 : 2000 ≤ y) (h1 : y ≤ 2200) : impl_yearStart.f y = some (headF y) := by
  unfold impl_yearStart.f; rw [head_wraps y h0 h1]
theorem head_step (y : Int) (h0 : 2000 ≤ y) (h1 : y ≤ 2200) : headF (y + 1) = headF y + remF y 1 := by
  unfold headF
  simp only [remF, lenF, if_true]
  rw [tmod_pos (by omega)]
  split <;> omega

theorem months_l1 (y : Int) (y0 : 2000 ≤ y) (y1 : y ≤ 2200) : ∀ (d : Nat) (m rest : Int), 1 ≤ m → m + d = 12 → 0 ≤ rest → rest < remF y m →
    ∃ M D : Int, Ev (fun k => spec_DateOf.l1 k y rest m) (y, M, D) ∧ Ev (fun k => impl_date.l1 k rest y m 0) (y, M, D) ∧ 1 ≤ M ∧ M ≤ 12 ∧ 1 ≤ D ∧ D ≤ lenF y M := by
  intro d
  induction d with
  | zero =>
    intro m rest h1 hd hr hrr
    have hm : m = 12 := by omega
    subst hm
    have hl : lenF y 12 = 31 := by simp [lenF]
    have hq : remF y 12 = 31 := by simp [remF]
    refine ⟨12, rest + 1, ev_succ ?_, ev_succ ?_, by omega, by omega, by omega, by omega⟩
    · simp only [spec_DateOf.l1, spec_len, Option.bind_some, if_neg (show ¬ rest ≥ lenF y 12 by omega), w64 (a := rest + 1) (by omega) (by omega)]; exact Ev.now _
    · simp only [impl_date.l1, impl_len y 12 (by omega) (by omega) (by omega) (by omega), Option.bind_some, if_neg (show ¬ rest ≥ lenF y 12 by omega), w64 (a := rest + 1) (by omega) (by omega)]; exact Ev.now _
  | succ d ih =>
    intro m rest h1 hd hr hrr
    have hs := rem_step y m h1 (by omega)
    have hl := lenF_range y m
    by_cases hc : rest ≥ lenF y m
    · have hlast : 0 ≤ remF y m ∧ remF y m ≤ 366 := by
        rcases twelve h1 (by omega) with e | e | e | e | e | e | e | e | e | e | e | e <;> subst e <;> simp [remF] <;> have := lenF_range y 2 <;> unfold lenF <;> (repeat' split) <;> omega
      obtain ⟨M, D, e1, e2, r⟩ := ih (m + 1) (rest - lenF y m) (by omega) (by omega) (by omega) (by omega)
      refine ⟨M, D, ev_succ ?_, ev_succ ?_, r⟩
      · simp only [spec_DateOf.l1, spec_len, Option.bind_some, if_pos hc, w64 (a := rest - lenF y m) (by omega) (by omega), w64 (a := m + 1) (by omega) (by omega)]; exact e1
      · simp only [impl_date.l1, impl_len y m (by omega) (by omega) (by omega) (by omega), Option.bind_some, if_pos hc, w64 (a := rest - lenF y m) (by omega) (by omega), w64 (a := m + 1) (by omega) (by omega)]; exact e2
    · refine ⟨m, rest + 1, ev_succ ?_, ev_succ ?_, by omega, by omega, by omega, by omega⟩
      · simp only [spec_DateOf.l1, spec_len, Option.bind_some, if_neg hc, w64 (a := rest + 1) (by omega) (by omega)]; exact Ev.now _
      · simp only [impl_date.l1, impl_len y m (by omega) (by omega) (by omega) (by omega), Option.bind_some, if_neg hc, w64 (a := rest + 1) (by omega) (by omega)]; exact Ev.now _
theorem spec_years (day Y : Int) (hY0 : 2000 ≤ Y) (hY1 : Y ≤ 2099) (h0 : headF Y ≤ day) (h1 : day < headF (Y + 1)) (hday : day ≤ 36524) {r : Int × Int × Int} (hr : Ev (fun k => spec_DateOf.l1 k Y (day - headF Y) 1) r) :
    ∀ (d : Nat) (y : Int), 2000 ≤ y → y + d = Y → Ev (fun k => spec_DateOf.l0 k day y) r := by
  have hh : 0 ≤ headF Y ∧ headF Y ≤ 36600 := by unfold headF; omega
  intro d
  induction d with
  | zero =>
    intro y hy hd
    have : y = Y := by omega
    subst this
    refine ev_succ ?_
    simp only [spec_DateOf.l0, w64 (a := y + 1) (by omega) (by omega), spec_head (y + 1) (by omega) (by omega), spec_head y (by omega) (by omega), Option.bind_some, if_neg (show ¬ headF (y + 1) ≤ day by omega), w64 (a := day - headF y) (by omega) (by omega)]
    exact hr
  | succ d ih =>
    intro y hy hd
    refine ev_succ ?_
    have hle : headF (y + 1) ≤ day := by
      have : headF (y + 1) ≤ headF Y := by unfold headF; omega
      omega
    simp only [spec_DateOf.l0, w64 (a := y + 1) (by omega) (by omega), spec_head (y + 1) (by omega) (by omega), Option.bind_some, if_pos hle]
    exact ih (y + 1) (by omega) (by omega)
theorem impl_years (day Y : Int) (hY0 : 2000 ≤ Y) (hY1 : Y ≤ 2099) (h0 : headF Y ≤ day) (h1 : day < headF (Y + 1)) (hday : day ≤ 36524) {r : Int × Int × Int} (hr : Ev (fun k => impl_date.l1 k (day - headF Y) Y 1 0) r) :
    ∀ (d : Nat) (y : Int), 2000 ≤ y → y + d = Y → Ev (fun k => impl_date.l0 k day y 1 0) r := by
  have hh : 0 ≤ headF Y ∧ headF Y ≤ 36600 := by unfold headF; omega
  intro d
  induction d with
  | zero =>
    intro y hy hd
    have : y = Y := by omega
    subst this
    refine ev_succ ?_
    simp only [impl_date.l0, w64 (a := y + 1) (by omega) (by omega), impl_head (y + 1) (by omega) (by omega), impl_head y (by omega) (by omega), Option.bind_some, if_neg (show ¬ headF (y + 1) ≤ day by omega), w64 (a := day - headF y) (by omega) (by omega)]
    exact hr
  | succ d ih =>
    intro y hy hd
    refine ev_succ ?_
    have hle : headF (y + 1) ≤ day := by
      have : headF (y + 1) ≤ headF Y := by unfold headF; omega
      omega
    simp only [impl_date.l0, w64 (a := y + 1) (by omega) (by omega), impl_head (y + 1) (by omega) (by omega), Option.bind_some, if_pos hle]
    exact ih (y + 1) (by omega) (by omega)
/-- The year of a day. -/
theorem year_of (day : Int) (h0 : 0 ≤ day) (h1 : day ≤ 36524) : ∃ Y : Int, 2000 ≤ Y ∧ Y ≤ 2099 ∧ headF Y ≤ day ∧ day < headF (Y + 1) ∧ 2000 + day / 366 ≤ Y := by
  refine ⟨2000 + 4 * day / 1461, by omega, by omega, ?_, ?_, by omega⟩
  · unfold headF; omega
  · unfold headF; omega
theorem dec_is (day : Int) : spec_l03Right.f day = some (decide (0 ≤ day ∧ day ≤ 36524)) := by
  unfold spec_l03Right.f
  by_cases h : day ≥ 0
  · rw [if_pos h]; congr 1; simp [show (0 : Int) ≤ day from h]
  · rw [if_neg h]; simp [show ¬ (0 : Int) ≤ day from h]
/-- Both tell the same Date of a day. -/
theorem date_both (day : Int) (h0 : 0 ≤ day) (h1 : day ≤ 36524) : ∃ Y M D : Int, Ev (fun k => spec_DateOf.f k day) (Y, M, D) ∧ Ev (fun k => impl_date.f k day) (Y, M, D) ∧ 2000 ≤ Y ∧ Y ≤ 2099 ∧ 1 ≤ M ∧ M ≤ 12 ∧ 1 ≤ D ∧ D ≤ lenF Y M := by
  obtain ⟨Y, y0, y1, d0, d1, ds⟩ := year_of day h0 h1
  have hst := head_step Y y0 (by omega)
  obtain ⟨M, D, e1, e2, r⟩ := months_l1 Y y0 (by omega) 11 1 (day - headF Y) (by omega) (by omega) (by omega) (by omega)
  refine ⟨Y, M, D, ?_, ?_, y0, y1, r⟩
  · simp only [spec_DateOf.f, dec_is, Option.bind_some, decide_eq_true (show 0 ≤ day ∧ day ≤ 36524 from ⟨h0, h1⟩), if_true]
    exact spec_years day Y y0 y1 d0 d1 h1 e1 (Y - 2000).toNat 2000 (by omega) (by omega)
  · simp only [impl_date.f]
    rw [tdiv_pos h0, w64 (a := day / 366) (by omega) (by omega), w64 (by omega) (by omega)]
    exact impl_years day Y y0 y1 d0 d1 h1 e2 (Y - (2000 + day / 366)).toNat _ (by omega) (by omega)
theorem isDay_is (day : Int) : impl_isDay.f day = some (decide (0 ≤ day ∧ day ≤ 36524)) := by
  unfold impl_isDay.f impl_in.f
  by_cases h : (0 : Int) ≤ day
  · rw [if_pos h, Option.bind_some]; congr 1; simp [h]
  · rw [if_neg h, Option.bind_some]; simp [h]

theorem min_is (a b : Int) : spec_l01Min.f a b = some (mn b a) := by
  unfold spec_l01Min.f mn; split <;> rfl
theorem max_is (a : Int) : spec_l01Max.f 0 a = some (mx a 0) := by
  unfold spec_l01Max.f mx
  by_cases h : (0 : Int) > a
  · rw [if_pos h, if_pos (by omega)]
  · rw [if_neg h, if_neg (by omega)]
theorem basis_is (b : Int) : impl_isBasis.f b = some (decide (1 ≤ b ∧ b ≤ 3)) := by
  unfold impl_isBasis.f impl_in.f
  by_cases h : (1 : Int) ≤ b
  · rw [if_pos h, Option.bind_some]; congr 1; simp [h]
  · rw [if_neg h, Option.bind_some]; simp [h]
/-- What Span asks of its arguments. -/
def spanOk (b f t : Int) : Prop := (1 ≤ b ∧ b ≤ 3) ∧ (0 ≤ f ∧ f ≤ 36524) ∧ (0 ≤ t ∧ t ≤ 36524) ∧ f ≤ t
theorem span_bad (b f t : Int) (h : ¬ spanOk b f t) : Ev (fun k => spec_Span.f k b f t) (0, 1) ∧ Ev (fun k => impl_Span.f k b f t) (0, 1) := by
  have hs : Ev (fun k => spec_Span.j0 k b f t true) (0, 1) := ev_succ (by simp only [spec_Span.j0, if_true]; exact Ev.now _)
  have hi : Ev (fun k => impl_Span.j0 k b f t true) (0, 1) := ev_succ (by simp only [impl_Span.j0, if_true]; exact Ev.now _)
  unfold spanOk at h
  simp only [spec_Span.f, impl_Span.f, dec_is, isDay_is, basis_is, Option.bind_some]
  by_cases hb : 1 ≤ b ∧ b ≤ 3
  · simp only [if_neg (show ¬ b < 1 by omega), if_neg (show ¬ b > 3 by omega), decide_eq_true hb, if_true]
    by_cases hf : 0 ≤ f ∧ f ≤ 36524
    · simp only [decide_eq_true hf, if_true]
      by_cases ht : 0 ≤ t ∧ t ≤ 36524
      · simp only [decide_eq_true ht, if_true, decide_eq_true (show t < f by omega)]
        exact ⟨hs, hi⟩
      · simp only [decide_eq_false ht, Bool.false_eq_true, if_false]
        exact ⟨hs, hi⟩
    · simp only [decide_eq_false hf, Bool.false_eq_true, if_false]
      exact ⟨hs, hi⟩
  · simp only [decide_eq_false hb, Bool.false_eq_true, if_false]
    refine ⟨?_, hi⟩
    by_cases h1 : b < 1
    · simp only [if_pos h1]; exact hs
    · simp only [if_neg h1, if_pos (show b > 3 by omega)]; exact hs
theorem span_plain (b f t : Int) (h : spanOk b f t) (h3 : b ≠ 3) : Ev (fun k => spec_Span.f k b f t) (t - f, 0) ∧ Ev (fun k => impl_Span.f k b f t) (t - f, 0) := by
  obtain ⟨hb, hf, ht, hl⟩ := h
  simp only [spec_Span.f, impl_Span.f, dec_is, isDay_is, basis_is, Option.bind_some, if_neg (show ¬ b < 1 by omega), if_neg (show ¬ b > 3 by omega), decide_eq_true hb, decide_eq_true hf, decide_eq_true ht, if_true, decide_eq_false (show ¬ t < f by omega)]
  constructor
  · refine ev_succ ?_
    simp only [spec_Span.j0, Bool.false_eq_true, if_false, if_neg h3, w64 (a := t - f) (by omega) (by omega)]; exact Ev.now _
  · refine ev_succ ?_
    simp only [impl_Span.j0, Bool.false_eq_true, if_false, if_neg h3, w64 (a := t - f) (by omega) (by omega)]; exact Ev.now _
theorem span_three (f t : Int) (h : spanOk 3 f t) : ∃ n : Int, 0 ≤ n ∧ n ≤ 100000 ∧ Ev (fun k => spec_Span.f k 3 f t) (n, 0) ∧ Ev (fun k => impl_Span.f k 3 f t) (n, 0) := by
  obtain ⟨hb, hf, ht, hl⟩ := h
  obtain ⟨Y, M, D, e1, e2, y0, y1, m0, m1, d0, d1⟩ := date_both f hf.1 hf.2
  obtain ⟨Y', M', D', e1', e2', y0', y1', m0', m1', d0', d1'⟩ := date_both t ht.1 ht.2
  have l1 := lenF_range Y M
  have l2 := lenF_range Y' M'
  have n0 : 1 ≤ mn D 30 ∧ mn D 30 ≤ 30 := by unfold mn; split <;> omega
  have n1 : 1 ≤ mn D' 30 ∧ mn D' 30 ≤ 30 := by unfold mn; split <;> omega
  refine ⟨mx (360 * (Y' - Y) + 30 * (M' - M) + mn D' 30 - mn D 30) 0, ?_, ?_, ?_, ?_⟩
  · unfold mx; split <;> omega
  · unfold mx; split <;> omega
  · simp only [spec_Span.f, dec_is, Option.bind_some, if_neg (show ¬ (3 : Int) < 1 by omega), if_neg (show ¬ (3 : Int) > 3 by omega), decide_eq_true hf, decide_eq_true ht, if_true, decide_eq_false (show ¬ t < f by omega)]
    refine ev_succ ?_
    simp only [spec_Span.j0, Bool.false_eq_true, if_false, if_true]
    refine Ev.bind e1 ?_
    refine Ev.bind e1' ?_
    simp only [min_is, max_is, Option.bind_some]
    rw [w64 (a := Y' - Y) (by omega) (by omega), w64 (a := 360 * (Y' - Y)) (by omega) (by omega), w64 (a := M' - M) (by omega) (by omega), w64 (a := 30 * (M' - M)) (by omega) (by omega), w64 (a := 360 * (Y' - Y) + 30 * (M' - M)) (by omega) (by omega), w64 (a := 360 * (Y' - Y) + 30 * (M' - M) + mn D' 30) (by omega) (by omega), w64 (a := 360 * (Y' - Y) + 30 * (M' - M) + mn D' 30 - mn D 30) (by omega) (by omega)]
    exact Ev.now _
  · simp only [impl_Span.f, isDay_is, basis_is, Option.bind_some, decide_eq_true hb, decide_eq_true hf, decide_eq_true ht, if_true, decide_eq_false (show ¬ t < f by omega)]
    refine ev_succ ?_
    simp only [impl_Span.j0, Bool.false_eq_true, if_false, if_true]
    refine Ev.bind e2 ?_
    refine Ev.bind e2' ?_
    rw [w64 (a := Y' - Y) (by omega) (by omega), w64 (a := 360 * (Y' - Y)) (by omega) (by omega), w64 (a := M' - M) (by omega) (by omega), w64 (a := 30 * (M' - M)) (by omega) (by omega), w64 (a := 360 * (Y' - Y) + 30 * (M' - M)) (by omega) (by omega), w64 (a := 360 * (Y' - Y) + 30 * (M' - M) + mn D' 30) (by omega) (by omega), w64 (a := 360 * (Y' - Y) + 30 * (M' - M) + mn D' 30 - mn D 30) (by omega) (by omega)]
    exact Ev.now _
/-- Both Spans are one, and in bounds. -/
theorem span_both (b f t : Int) : ∃ n c : Int, Ev (fun k => spec_Span.f k b f t) (n, c) ∧ Ev (fun k => impl_Span.f k b f t) (n, c) ∧ 0 ≤ n ∧ n ≤ 100000 ∧ (c = 0 ↔ spanOk b f t) ∧ (c ≠ 0 → n = 0 ∧ c = 1) := by
  by_cases h : spanOk b f t
  · by_cases h3 : b = 3
    · subst h3
      obtain ⟨n, n0, n1, e1, e2⟩ := span_three f t h
      exact ⟨n, 0, e1, e2, n0, n1, ⟨fun _ => h, fun _ => rfl⟩, fun x => absurd rfl x⟩
    · obtain ⟨e1, e2⟩ := span_plain b f t h h3
      have h' := h
      obtain ⟨_, hf, ht, hl⟩ := h'
      exact ⟨t - f, 0, e1, e2, by omega, by omega, ⟨fun _ => h, fun _ => rfl⟩, fun x => absurd rfl x⟩
  · obtain ⟨e1, e2⟩ := span_bad b f t h
    exact ⟨0, 1, e1, e2, by omega, by omega, ⟨fun x => absurd x (by omega), fun x => absurd x h⟩, fun _ => ⟨rfl, rfl⟩⟩

instance decMd (a b c : Int) : Decidable (mdOk a b c) := by unfold mdOk; infer_instance
instance decSp (b f t : Int) : Decidable (spanOk b f t) := by unfold spanOk; infer_instance
/-- What MulDiv tells of whatever it is given. -/
def mdT (a b c : Int) : Int × Int := if mdOk a b c then mdF a b c else (0, 1)
theorem muldiv_both (a b c : Int) (hw : mdOk a b c → absF a * b / c ≠ 18446744073709551615) : Ev (fun k => spec_MulDiv.f k a b c) (mdT a b c) ∧ Ev (fun k => impl_MulDiv.f k a b c) (mdT a b c) := by
  unfold mdT
  by_cases h : mdOk a b c
  · rw [if_pos h]; exact ⟨spec_muldiv a b c h, impl_muldiv a b c h (hw h)⟩
  · rw [if_neg h]; exact muldiv_bad a b c h
theorem big_div (a b c : Int) (hc : 360000000 ≤ c) (h : mdOk a b c) : absF a * b / c ≠ 18446744073709551615 := by
  have hP := prod_bd h
  have : absF a * b / c < 18446744073709551615 := Int.ediv_lt_of_lt_mul (by omega) (by omega)
  omega
/-- How many millionths of days a basis' year has. -/
def yearF (b : Int) : Int := if b = 1 then 365000000 else 360000000
theorem rate_is (r : Int) : spec_l03Rate.f r = some (decide (0 ≤ r ∧ r ≤ 1000000)) := by
  unfold spec_l03Rate.f
  by_cases h : r ≥ 0
  · rw [if_pos h]; congr 1; simp [show (0 : Int) ≤ r from h]
  · rw [if_neg h]; simp [show ¬ (0 : Int) ≤ r from h]
theorem isRate_is (r : Int) : impl_isRate.f r = some (decide (0 ≤ r ∧ r ≤ 1000000)) := by
  unfold impl_isRate.f; rw [in_is]; rfl
theorem interest_bad (n r b f t : Int) (h : ¬ ((0 ≤ n ∧ n ≤ 1000000000000) ∧ 0 ≤ r ∧ r ≤ 1000000)) : Ev (fun k => spec_Interest.f k n r b f t) (0, 1) ∧ Ev (fun k => impl_Interest.f k n r b f t) (0, 1) := by
  have hs : Ev (fun k => spec_Interest.j0 k n r b f t true) (0, 1) := ev_succ (by simp only [spec_Interest.j0, if_true]; exact Ev.now _)
  have hi : Ev (fun k => impl_Interest.j0 k n r b f t true) (0, 1) := ev_succ (by simp only [impl_Interest.j0, if_true]; exact Ev.now _)
  simp only [spec_Interest.f, impl_Interest.f, right_is, in_is, rate_is, isRate_is, Option.bind_some]
  by_cases hn : 0 ≤ n ∧ n ≤ 1000000000000
  · have hq : mr n = true := by unfold mr; simp; omega
    have hr : ¬ (0 ≤ r ∧ r ≤ 1000000) := fun hr => h ⟨hn, hr⟩
    simp only [if_pos hq, if_neg (show ¬ n < 0 by omega), decide_eq_false hr, Bool.not_false, decide_eq_true hn, if_true]
    exact ⟨hs, hi⟩
  · simp only [decide_eq_false hn, Bool.false_eq_true, if_false]
    refine ⟨?_, hi⟩
    by_cases hq : mr n = true
    · have := mr_true hq
      simp only [if_pos hq, if_pos (show n < 0 by omega)]; exact hs
    · simp only [if_neg hq]; exact hs
/-- Interest where balance and rate are right, by the Span. -/
theorem interest_good (n r b f t d c : Int) (hn : 0 ≤ n ∧ n ≤ 1000000000000) (hr : 0 ≤ r ∧ r ≤ 1000000) (e1 : Ev (fun k => spec_Span.f k b f t) (d, c)) (e2 : Ev (fun k => impl_Span.f k b f t) (d, c)) (d0 : 0 ≤ d) (d1 : d ≤ 100000) :
    Ev (fun k => spec_Interest.f k n r b f t) (if c = 0 then mdT n (r * d) (yearF b) else (0, c)) ∧ Ev (fun k => impl_Interest.f k n r b f t) (if c = 0 then mdT n (r * d) (yearF b) else (0, c)) := by
  have hq : mr n = true := by unfold mr; simp; omega
  have hp := mul_bd hr.1 hr.2 d0 d1
  have hy : 360000000 ≤ yearF b := by unfold yearF; split <;> omega
  have hm := muldiv_both n (r * d) (yearF b) (big_div n _ _ hy)
  simp only [spec_Interest.f, impl_Interest.f, right_is, in_is, rate_is, isRate_is, Option.bind_some, if_pos hq, if_neg (show ¬ n < 0 by omega), decide_eq_true hr, Bool.not_true, decide_eq_true hn, if_true]
  constructor
  · refine ev_succ ?_
    simp only [spec_Interest.j0, Bool.false_eq_true, if_false]
    refine Ev.bind e1 ?_
    by_cases hc : c = 0
    · have ey : ∀ z, spec_l03Year.f b = some z → wrap64 (1000000 * z) = yearF b := by
        intro z hz
        unfold spec_l03Year.f at hz
        unfold yearF
        by_cases hb : b = 1
        · rw [if_pos hb] at hz ⊢; cases hz; exact w64 (by omega) (by omega)
        · rw [if_neg hb] at hz ⊢; cases hz; exact w64 (by omega) (by omega)
      obtain ⟨z, hz⟩ : ∃ z, spec_l03Year.f b = some z := by unfold spec_l03Year.f; split <;> exact ⟨_, rfl⟩
      simp only [if_pos hc, hz, Option.bind_some, ey z hz, w64 (a := r * d) (by omega) (by omega)]
      exact Ev.bind hm.1 (Ev.now _)
    · simp only [if_neg hc]; exact Ev.now _
  · refine ev_succ ?_
    simp only [impl_Interest.j0, Bool.false_eq_true, if_false]
    refine Ev.bind e2 ?_
    by_cases hc : c = 0
    · simp only [if_pos hc, w64 (a := r * d) (by omega) (by omega)]
      have hm2 := hm.2
      unfold yearF at hm2 ⊢
      by_cases hb : b = 1
      · simp only [if_pos hb] at hm2 ⊢
        exact Ev.bind hm2 (Ev.now _)
      · simp only [if_neg hb] at hm2 ⊢
        exact Ev.bind hm2 (Ev.now _)
    · simp only [if_neg hc]; exact Ev.now _

/-- The place that a source has come to lies in its bytes. -/
def StOk (l : List Int) (a : Int) : Prop := 0 ≤ a ∧ a ≤ l.length
theorem told_range (v m most : Int) (h0 : 1 < most) (h1 : most ≤ 9223372036854775807) : 0 ≤ spec_l01Src_n.toldF v m most ∧ spec_l01Src_n.toldF v m most < most := by
  unfold spec_l01Src_n.toldF
  rw [u64w, tmod_pos (by omega)]
  have a := Int.emod_nonneg ((v + m / 1048576) % 18446744073709551616) (show most ≠ 0 by omega)
  have b := Int.emod_lt_of_pos ((v + m / 1048576) % 18446744073709551616) (show 0 < most by omega)
  rw [w64 (by omega) (by omega)]
  exact ⟨a, b⟩
/-- A number below most is drawn. -/
theorem n_ok (l : List Int) (a m s most : Int) (hst : StOk l a) (h1 : most ≤ 9223372036854775807) :
    ∃ r a' m', spec_l01Src_n.f l a m s most = some (r, a', m', s) ∧ StOk l a' ∧ 0 ≤ r ∧ (r < most ∨ r = 0) := by
  unfold spec_l01Src_n.f StOk at *
  by_cases c1 : most ≤ 1
  · rw [if_pos c1]; exact ⟨_, _, _, rfl, hst, by omega, Or.inr rfl⟩
  · rw [if_neg c1, if_pos h1]
    by_cases c2 : a < (l.length : Int)
    · rw [if_pos c2, if_pos hst.1]
      have := told_range (IntKind.u64.wrap (rd l a)) (spec_l01Src_n.mixF m) most (by omega) h1
      exact ⟨_, _, _, rfl, by omega, this.1, Or.inl this.2⟩
    · rw [if_neg c2]
      have := told_range 0 (spec_l01Src_n.mixF m) most (by omega) h1
      exact ⟨_, _, _, rfl, hst, this.1, Or.inl this.2⟩
theorem src_l0 (l : List Int) (hl : l.length ≤ 140737488351232) : ∀ (d i : Nat) (m : Int), 64 - i = d → ∃ m' s, Ev (fun k => spec_l01Source.l0 k l i l 0 m 0) (l, 0, m', s) ∧ 0 ≤ s ∧ s ≤ 12 := by
  have fin : ∀ (i : Nat) (m : Int), ¬ ((i : Int) < (l.length : Int) ∧ (i : Int) < 64) → ∃ m' s, Ev (fun k => spec_l01Source.l0 k l i l 0 m 0) (l, 0, m', s) ∧ 0 ≤ s ∧ s ≤ 12 := by
    intro i m hi
    have ew : wrap64 ((l.length : Int) / 20) = (l.length : Int) / 20 := w64 (by omega) (by omega)
    by_cases h12 : (l.length : Int) / 20 > 12
    · refine ⟨m, 12, ev_succ ?_, by omega, by omega⟩
      simp only [spec_l01Source.l0, ew, if_pos h12]
      by_cases h1 : (i : Int) < (l.length : Int)
      · simp only [if_pos h1, if_neg (show ¬ (i : Int) < 64 from fun h => hi ⟨h1, h⟩)]; exact Ev.now _
      · simp only [if_neg h1]; exact Ev.now _
    · refine ⟨m, (l.length : Int) / 20, ev_succ ?_, by omega, by omega⟩
      simp only [spec_l01Source.l0, ew, if_neg h12]
      by_cases h1 : (i : Int) < (l.length : Int)
      · simp only [if_pos h1, if_neg (show ¬ (i : Int) < 64 from fun h => hi ⟨h1, h⟩)]; exact Ev.now _
      · simp only [if_neg h1]; exact Ev.now _
  intro d
  induction d with
  | zero => intro i m hd; exact fin i m (by omega)
  | succ d ih =>
    intro i m hd
    by_cases h : (i : Int) < (l.length : Int) ∧ (i : Int) < 64
    · obtain ⟨m', s, e, h0⟩ := ih (i + 1) (IntKind.u64.wrap ((Go.bits .xor .u64 m (IntKind.u64.wrap (rd l i))) * 1099511628211)) (by omega)
      refine ⟨m', s, ev_succ ?_, h0⟩
      simp only [spec_l01Source.l0, if_pos h.1, if_pos h.2, if_pos (nat0 i), wsucc (show i < l.length by omega) hl]
      exact e
    · exact fin i m h
theorem src_ok (l : List Int) (hl : l.length ≤ 140737488351232) : ∃ m s, Ev (fun k => spec_l01Source.f k l) (l, 0, m, s) ∧ 0 ≤ s ∧ s ≤ 12 := by
  simp only [spec_l01Source.f]
  exact src_l0 l hl 64 0 _ rfl
theorem st0 (l : List Int) : StOk l 0 := ⟨by omega, by omega⟩

theorem rd_all {p : Int → Prop} (l : List Int) (h : ∀ x ∈ l, p x) (i : Int) (h0 : 0 ≤ i) (h1 : i < (l.length : Int)) : p (rd l i) := by
  unfold rd
  rw [List.getD_eq_getElem?_getD, List.getElem?_eq_getElem (by omega)]
  exact h _ (List.getElem_mem _)
/-- An edge is a number of int64. -/
theorem edge_ok (l : List Int) (a m s : Int) (hst : StOk l a) : ∃ r a' m', spec_l01Src_edge.f l a m s = some (r, a', m', s) ∧ StOk l a' ∧ -9223372036854775808 ≤ r ∧ r ≤ 9223372036854775807 := by
  obtain ⟨r, a', m', e, hs, h0, h1⟩ := n_ok l a m s 14 hst (by omega)
  simp only [spec_l01Src_edge.f, Option.bind_some, e]
  rw [if_pos h0, if_pos (by simp; omega)]
  refine ⟨_, _, _, rfl, hs, ?_⟩
  exact rd_all (p := fun x => -9223372036854775808 ≤ x ∧ x ≤ 9223372036854775807) _ (by simp) _ h0 (by simp; omega)

/-- Drawn money is a number of int64. -/
theorem money_ok (l : List Int) (a m s : Int) (hst : StOk l a) : ∃ r a' m', spec_l01Src_l02Money.f l a m s = some (r, a', m', s) ∧ StOk l a' ∧ -9223372036854775808 ≤ r ∧ r ≤ 9223372036854775807 := by
  obtain ⟨r, a1, m1, e, hs, h0, h1⟩ := n_ok l a m s 8 hst (by omega)
  simp only [spec_l01Src_l02Money.f, e, Option.bind_some]
  by_cases c0 : r = 0
  · rw [if_pos c0]
    obtain ⟨r2, a2, m2, e2, hs2, h2⟩ := edge_ok l a1 m1 s hs
    simp only [e2, Option.bind_some]
    exact ⟨_, _, _, rfl, hs2, h2⟩
  · rw [if_neg c0]
    by_cases c1 : r = 1
    · rw [if_pos c1]
      obtain ⟨r2, a2, m2, e2, hs2, h2, h3⟩ := n_ok l a1 m1 s 5 hs (by omega)
      simp only [e2, Option.bind_some]
      rw [if_pos h2, if_pos (by simp; omega)]
      refine ⟨_, _, _, rfl, hs2, ?_⟩
      exact rd_all (p := fun x => -9223372036854775808 ≤ x ∧ x ≤ 9223372036854775807) _ (by simp) _ h2 (by simp; omega)
    · rw [if_neg c1]
      by_cases c2 : r = 2
      · rw [if_pos c2]
        obtain ⟨r2, a2, m2, e2, hs2, h2, h3⟩ := n_ok l a1 m1 s 9 hs (by omega)
        simp only [e2, Option.bind_some, w64 (a := r2 - 4) (by omega) (by omega)]
        exact ⟨_, _, _, rfl, hs2, by omega, by omega⟩
      · rw [if_neg c2]
        by_cases c3 : r = 3
        · rw [if_pos c3]
          obtain ⟨r2, a2, m2, e2, hs2, h2, h3⟩ := n_ok l a1 m1 s 1000000000000 hs (by omega)
          simp only [e2, Option.bind_some]
          exact ⟨_, _, _, rfl, hs2, by omega, by omega⟩
        · rw [if_neg c3]
          obtain ⟨r2, a2, m2, e2, hs2, h2, h3⟩ := n_ok l a1 m1 s 1000000 hs (by omega)
          simp only [e2, Option.bind_some, w64 (a := r2 - 100000) (by omega) (by omega)]
          exact ⟨_, _, _, rfl, hs2, by omega, by omega⟩


theorem day_ex (Y M D : Int) (m1 : M ≤ 12) : ∀ (d : Nat) (m n : Int), 1 ≤ m → m + d = M → ∃ r : Int, Ev (fun k => spec_l03Day.l0 k n m Y M D) r := by
  intro d
  induction d with
  | zero =>
    intro m n h0 hd
    exact ⟨_, ev_succ (by simp only [spec_l03Day.l0, if_neg (show ¬ m < M by omega)]; exact Ev.now _)⟩
  | succ d ih =>
    intro m n h0 hd
    obtain ⟨r, e⟩ := ih (m + 1) (wrap64 (n + lenF Y m)) (by omega) (by omega)
    refine ⟨r, ev_succ ?_⟩
    simp only [spec_l03Day.l0, if_pos (show m < M by omega), spec_len, Option.bind_some, w64 (a := m + 1) (by omega) (by omega)]; exact e
theorem one_ok (l : List Int) (a m s most : Int) (hst : StOk l a) (h1 : most ≤ 9223372036854775807) : ∃ q a' m', spec_l01Src_one.f l a m s most = some (q, a', m', s) ∧ StOk l a' := by
  obtain ⟨r, a1, m1, e, hs, _, _⟩ := n_ok l a m s most hst h1
  exact ⟨r == 0, a1, m1, by simp only [spec_l01Src_one.f, e, Option.bind_some], hs⟩
theorem any_ok (l : List Int) (a m s : Int) (hst : StOk l a) : ∃ r a' m', Ev (fun k => spec_l01Src_l03Any.f k l a m s) (r, a', m', s) ∧ StOk l a' := by
  obtain ⟨r, a1, m1, e, hs, h0, h1⟩ := n_ok l a m s 8 hst (by omega)
  simp only [spec_l01Src_l03Any.f, e, Option.bind_some]
  by_cases c0 : r = 0
  · obtain ⟨r2, a2, m2, e2, hs2, h2⟩ := edge_ok l a1 m1 s hs
    simp only [if_pos c0, e2, Option.bind_some]
    exact ⟨_, _, _, Ev.now _, hs2⟩
  · simp only [if_neg c0]
    by_cases c1 : r = 1
    · obtain ⟨r2, a2, m2, e2, hs2, h2, h3⟩ := n_ok l a1 m1 s 8 hs (by omega)
      simp only [if_pos c1, e2, Option.bind_some, if_pos h2]
      refine ⟨rd [0, 36524, 36525, -1, 58, 59, 60, 1520] r2, a2, m2, ?_, hs2⟩
      rw [if_pos (by simp; omega)]
      exact Ev.now _
    · simp only [if_neg c1]
      by_cases c2 : r = 2
      · obtain ⟨Y, a2, m2, e2, hs2, y0, y1⟩ := n_ok l a1 m1 s 100 hs (by omega)
        obtain ⟨M, a3, m3, e3, hs3, mm0, mm1⟩ := n_ok l a2 m2 s 12 hs2 (by omega)
        obtain ⟨D, a4, m4, e4, hs4, d0, d1⟩ := n_ok l a3 m3 s 4 hs3 (by omega)
        obtain ⟨x, ex⟩ := day_ex (2000 + Y) (1 + M) (28 + D) (by omega) M.toNat 1 (headF (2000 + Y)) (by omega) (by omega)
        simp only [if_pos c2, e2, e3, e4, Option.bind_some, w64 (a := 2000 + Y) (by omega) (by omega), w64 (a := 1 + M) (by omega) (by omega), w64 (a := 28 + D) (by omega) (by omega), spec_l03Day.f, spec_head (2000 + Y) (by omega) (by omega)]
        exact ⟨_, _, _, Ev.bind ex (Ev.now _), hs4⟩
      · obtain ⟨r2, a2, m2, e2, hs2, h2, h3⟩ := n_ok l a1 m1 s 36525 hs (by omega)
        simp only [if_neg c2, e2, Option.bind_some]
        exact ⟨_, _, _, Ev.now _, hs2⟩
theorem rate_ok (l : List Int) (a m s : Int) (hst : StOk l a) : ∃ r a' m', spec_l01Src_l02Rate.f l a m s = some (r, a', m', s) ∧ StOk l a' := by
  obtain ⟨r, a1, m1, e, hs, h0, h1⟩ := n_ok l a m s 6 hst (by omega)
  simp only [spec_l01Src_l02Rate.f, e, Option.bind_some]
  by_cases c0 : r = 0
  · obtain ⟨r2, a2, m2, e2, hs2, h2⟩ := edge_ok l a1 m1 s hs
    simp only [if_pos c0, e2, Option.bind_some]
    exact ⟨_, _, _, rfl, hs2⟩
  · simp only [if_neg c0]
    by_cases c1 : r = 1
    · obtain ⟨r2, a2, m2, e2, hs2, h2, h3⟩ := n_ok l a1 m1 s 6 hs (by omega)
      simp only [if_pos c1, e2, Option.bind_some, if_pos h2]
      rw [if_pos (by simp; omega)]
      exact ⟨_, _, _, rfl, hs2⟩
    · obtain ⟨r2, a2, m2, e2, hs2, h2, h3⟩ := n_ok l a1 m1 s 120000 hs (by omega)
      simp only [if_neg c1, e2, Option.bind_some]
      exact ⟨_, _, _, rfl, hs2⟩
theorem draw_ok (l : List Int) (hl : l.length ≤ 140737488351232) : ∃ n r b f t, Ev (fun k => spec_DrawInterest.f k l) (n, r, b, f, t) := by
  obtain ⟨m, z, e, _⟩ := src_ok l hl
  obtain ⟨b, p1, m1, e1, h1, b0, b1⟩ := n_ok l 0 m z 3 (st0 l) (by omega)
  obtain ⟨f, p2, m2, e2, h2⟩ := any_ok l p1 m1 z h1
  obtain ⟨t, p3, m3, e3, h3⟩ := any_ok l p2 m2 z h2
  obtain ⟨q, p4, m4, e4, h4⟩ := one_ok l p3 m3 z 2 h3 (by omega)
  simp only [spec_DrawInterest.f]
  cases q with
  | true =>
    obtain ⟨x, p5, m5, e5, h5, x0, x1⟩ := n_ok l p4 m4 z 800 h4 (by omega)
    obtain ⟨n, p6, m6, e6, h6, n0, n1⟩ := money_ok l p5 m5 z h5
    obtain ⟨r, p7, m7, e7, h7⟩ := rate_ok l p6 m6 z h6
    refine ⟨n, r, wrap64 (1 + b), f, wrap64 (f + x), Ev.bind e ?_⟩
    simp only [e1, Option.bind_some]
    refine Ev.bind e2 ?_
    refine Ev.bind e3 ?_
    simp only [e4, e5, e6, e7, Option.bind_some, if_true]
    exact Ev.now _
  | false =>
    obtain ⟨n, p6, m6, e6, h6, n0, n1⟩ := money_ok l p4 m4 z h4
    obtain ⟨r, p7, m7, e7, h7⟩ := rate_ok l p6 m6 z h6
    refine ⟨n, r, wrap64 (1 + b), f, t, Ev.bind e ?_⟩
    simp only [e1, Option.bind_some]
    refine Ev.bind e2 ?_
    refine Ev.bind e3 ?_
    simp only [e4, e6, e7, Option.bind_some, Bool.false_eq_true, if_false]
    exact Ev.now _

theorem near_mono {N M c : Int} (hc : 1 ≤ c) (h : N ≤ M) : nearF N c ≤ nearF M c := by
  have a := near_ge N c
  have b := near_ge M c
  have hq : N / c ≤ M / c := Int.ediv_le_ediv (by omega) h
  by_cases e : N / c = M / c
  · have d1 := Int.mul_ediv_add_emod N c
    have d2 := Int.mul_ediv_add_emod M c
    unfold nearF
    rw [e] at d1 ⊢
    by_cases g : 2 * (N % c) > c ∨ (2 * (N % c) = c ∧ M / c % 2 = 1)
    · rw [if_pos g]
      by_cases g2 : 2 * (M % c) > c ∨ (2 * (M % c) = c ∧ M / c % 2 = 1)
      · rw [if_pos g2]; exact Int.le_refl _
      · exfalso; omega
    · rw [if_neg g]; split <;> omega
  · omega

theorem near_zero (c : Int) (hc : 1 ≤ c) : nearF 0 c = 0 := by
  unfold nearF
  rw [Int.zero_emod, Int.zero_ediv, if_neg (by omega)]
theorem md_zero (a b c : Int) (h : absF a * b = 0) (hc : 1 ≤ c) : mdF a b c = (0, 0) := by
  unfold mdF
  rw [h, near_zero c hc]
  simp
theorem span_self (b f t : Int) (h : spanOk b f t) : Ev (fun k => spec_Span.f k b f f) (0, 0) ∧ Ev (fun k => impl_Span.f k b f f) (0, 0) := by
  have hs : spanOk b f f := ⟨h.1, h.2.1, h.2.1, Int.le_refl f⟩
  by_cases h3 : b = 3
  · subst h3
    obtain ⟨hb, hf, _, _⟩ := h
    obtain ⟨Y, M, D, e1, e2, y0, y1, m0, m1, d0, d1⟩ := date_both f hf.1 hf.2
    have l1 := lenF_range Y M
    have n0 : 1 ≤ mn D 30 ∧ mn D 30 ≤ 30 := by unfold mn; split <;> omega
    have mz : mx 0 0 = 0 := by decide
    constructor
    · simp only [spec_Span.f, dec_is, Option.bind_some, if_neg (show ¬ (3 : Int) < 1 by omega), if_neg (show ¬ (3 : Int) > 3 by omega), decide_eq_true hf, if_true, decide_eq_false (show ¬ f < f by omega)]
      refine ev_succ ?_
      simp only [spec_Span.j0, Bool.false_eq_true, if_false, if_true]
      refine Ev.bind e1 ?_
      refine Ev.bind e1 ?_
      simp only [min_is, max_is, Option.bind_some]
      rw [show Y - Y = 0 by omega, show M - M = 0 by omega, w64 (a := (0 : Int)) (by omega) (by omega), show (360 : Int) * 0 = 0 by omega, show (30 : Int) * 0 = 0 by omega, w64 (a := (0 : Int)) (by omega) (by omega), show (0 : Int) + 0 = 0 by omega, w64 (a := (0 : Int)) (by omega) (by omega), w64 (a := 0 + mn D 30) (by omega) (by omega), w64 (a := 0 + mn D 30 - mn D 30) (by omega) (by omega), show 0 + mn D 30 - mn D 30 = 0 by omega, mz]
      exact Ev.now _
    · simp only [impl_Span.f, isDay_is, basis_is, Option.bind_some, decide_eq_true hb, decide_eq_true hf, if_true, decide_eq_false (show ¬ f < f by omega)]
      refine ev_succ ?_
      simp only [impl_Span.j0, Bool.false_eq_true, if_false, if_true]
      refine Ev.bind e2 ?_
      refine Ev.bind e2 ?_
      rw [show Y - Y = 0 by omega, show M - M = 0 by omega, w64 (a := (0 : Int)) (by omega) (by omega), show (360 : Int) * 0 = 0 by omega, show (30 : Int) * 0 = 0 by omega, w64 (a := (0 : Int)) (by omega) (by omega), show (0 : Int) + 0 = 0 by omega, w64 (a := (0 : Int)) (by omega) (by omega), w64 (a := 0 + mn D 30) (by omega) (by omega), w64 (a := 0 + mn D 30 - mn D 30) (by omega) (by omega), show 0 + mn D 30 - mn D 30 = 0 by omega, mz]
      exact Ev.now _
  · have := span_plain b f f hs h3
    rw [show f - f = 0 by omega] at this
    exact this
theorem lw_ok (m : List Int) (i : Int) (h0 : 0 ≤ i) (hw : ∀ x ∈ m, (Lit.int .u8 x).wf = true) : ∃ v, laws_lwAt.f m i 256 = some v ∧ 0 ≤ v ∧ v < 256 := by
  unfold laws_lwAt.f
  rw [if_neg (show ¬ (256 : Int) ≤ 1 by omega)]
  by_cases hz : (m.length : Int) = 0
  · rw [if_pos hz]; exact ⟨0, rfl, by omega, by omega⟩
  · rw [if_neg hz, tmod_pos h0]
    have a := Int.emod_nonneg i hz
    have b := Int.emod_lt_of_pos i (show 0 < (m.length : Int) by omega)
    rw [if_pos a, if_pos b, if_neg (show ¬ (256 : Int) = 0 by omega)]
    have hr := rd_all (p := fun x => 0 ≤ x ∧ x ≤ 255) m (fun x hx => by
      have := hw x hx
      simp only [Lit.wf, IntKind.min, IntKind.max, IntKind.signed, IntKind.bits, Bool.and_eq_true, decide_eq_true_eq] at this
      simp at this
      omega) _ a b
    rw [w64 (by omega) (by omega), tmod_pos hr.1]
    exact ⟨_, rfl, by omega, by omega⟩
theorem FnInterest : laws_FnInterest.Pure := by
  intro l m hl1 hl hlw hm1 hm hmw
  refine Ev.rounds (g := fun k => laws_FnInterest.f k l m) ?_
  have triv : Ev (fun k => laws_FnInterest.j0 k l m true) true := ev_succ (by simp only [laws_FnInterest.j0, if_true]; exact Ev.now _)
  simp only [laws_FnInterest.f]
  by_cases h0 : (l.length : Int) > 1048576
  · simp only [if_pos h0]; exact triv
  simp only [if_neg h0]
  by_cases h1 : (m.length : Int) > 1048576
  · simp only [decide_eq_true h1]; exact triv
  simp only [decide_eq_false h1]
  refine ev_succ ?_
  simp only [laws_FnInterest.j0, Bool.false_eq_true, if_false]
  obtain ⟨n, r, b, f, t, e⟩ := draw_ok l (by omega)
  refine Ev.bind e ?_
  by_cases good : (0 ≤ n ∧ n ≤ 1000000000000) ∧ 0 ≤ r ∧ r ≤ 1000000
  case neg =>
    obtain ⟨e1, e2⟩ := interest_bad n r b f t good
    refine Ev.bind e2 ?_
    refine Ev.bind e1 ?_
    simp only [beq_self_eq_true, Bool.not_true, Bool.or_self, Bool.false_eq_true, if_false, if_neg (show ¬ (1 : Int) = 0 by omega)]
    exact Ev.now _
  obtain ⟨d, c, s1, s2, d0, d1, hc, hcn⟩ := span_both b f t
  obtain ⟨e1, e2⟩ := interest_good n r b f t d c good.1 good.2 s1 s2 d0 d1
  refine Ev.bind e2 ?_
  refine Ev.bind e1 ?_
  simp only [beq_self_eq_true, Bool.not_true, Bool.or_self, Bool.false_eq_true, if_false]
  by_cases hx : (if c = 0 then mdT n (r * d) (yearF b) else (0, c)).2 = 0
  case neg => simp only [if_neg hx]; exact Ev.now _
  simp only [if_pos hx]
  have c0 : c = 0 := by
    by_cases h : c = 0
    · exact h
    · rw [if_neg h] at hx; exact hx
  subst c0
  have ok : spanOk b f t := hc.mp rfl
  simp only [if_true] at hx ⊢
  have mok : mdOk n (r * d) (yearF b) := by
    by_cases h : mdOk n (r * d) (yearF b)
    · exact h
    · unfold mdT at hx; rw [if_neg h] at hx; exact absurd hx (by simp)
  have hmd : mdT n (r * d) (yearF b) = mdF n (r * d) (yearF b) := by unfold mdT; rw [if_pos mok]
  rw [hmd] at hx
  simp only [hmd]
  have hy : 1 ≤ yearF b := mok.2.2.1
  have bz : 0 ≤ r * d := mok.2.1.1
  -- nothing bears nothing
  have z1 : Ev (fun k => impl_Interest.f k 0 r b f t) (0, 0) := by
    have z := (interest_good 0 r b f t d 0 (by omega) good.2 s1 s2 d0 d1).2
    simp only [if_true] at z
    have k0 : mdOk 0 (r * d) (yearF b) := ⟨by unfold mr; decide, mok.2⟩
    unfold mdT at z
    rw [if_pos k0, md_zero 0 _ _ (by simp [absF]) hy] at z
    exact z
  have z2 : Ev (fun k => impl_Interest.f k n r b f f) (0, 0) := by
    obtain ⟨q1, q2⟩ := span_self b f t ok
    have z := (interest_good n r b f f 0 0 good.1 good.2 q1 q2 (by omega) (by omega)).2
    simp only [if_true, Int.mul_zero] at z
    have k0 : mdOk n 0 (yearF b) := ⟨mok.1, by omega, mok.2.2⟩
    unfold mdT at z
    rw [if_pos k0, md_zero n _ _ (Int.mul_zero _) hy] at z
    exact z
  have j2 : Ev (fun k => laws_FnInterest.j2 k n r b f t false) true := by
    refine ev_succ ?_
    simp only [laws_FnInterest.j2, Bool.false_eq_true, if_false]
    refine Ev.bind z1 ?_
    simp only [beq_self_eq_true, Bool.and_self, if_true]
    refine Ev.bind z2 ?_
    exact Ev.now _
  have j1 : Ev (fun k => laws_FnInterest.j1 k n r b f t false (mdF n (r * d) (yearF b)).1 (mdF n (r * d) (yearF b)).2) true := by
    refine ev_succ ?_
    simp only [laws_FnInterest.j1, Bool.false_eq_true, if_false]
    by_cases hn : n < 1000000000000
    · simp only [if_pos hn, w64 (a := n + 1) (by omega) (by omega)]
      refine Ev.bind (interest_good (n + 1) r b f t d 0 (by omega) good.2 s1 s2 d0 d1).2 ?_
      simp only [if_true]
      have k1 : mdOk (n + 1) (r * d) (yearF b) := ⟨by unfold mr; simp; omega, mok.2⟩
      unfold mdT
      simp only [if_pos k1]
      by_cases hz : (mdF (n + 1) (r * d) (yearF b)).2 = 0
      · simp only [if_pos hz]
        have hs : nearF (absF n * (r * d)) (yearF b) ≤ 1000000000000 := by
          unfold mdF at hx
          by_cases hs : nearF (absF n * (r * d)) (yearF b) ≤ 1000000000000
          · exact hs
          · rw [if_neg hs] at hx; exact absurd hx (by simp)
        have hs1 : nearF (absF (n + 1) * (r * d)) (yearF b) ≤ 1000000000000 := by
          unfold mdF at hz
          by_cases hs : nearF (absF (n + 1) * (r * d)) (yearF b) ≤ 1000000000000
          · exact hs
          · rw [if_neg hs] at hz; exact absurd hz (by simp)
        have ea : absF n = n := by unfold absF; rw [if_neg (by omega)]
        have ea1 : absF (n + 1) = n + 1 := by unfold absF; rw [if_neg (by omega)]
        have hmo := near_mono (N := absF n * (r * d)) (M := absF (n + 1) * (r * d)) hy (by
          rw [ea, ea1, Int.add_mul]; omega)
        have hge : ¬ (mdF (n + 1) (r * d) (yearF b)).1 < (mdF n (r * d) (yearF b)).1 := by
          unfold mdF
          rw [if_pos hs, if_pos hs1, if_neg (show ¬ n < 0 by omega), if_neg (show ¬ n + 1 < 0 by omega)]
          simp only; omega
        simp only [decide_eq_false hge]
        exact j2
      · simp only [if_neg hz]; exact j2
    · simp only [if_neg hn]
      refine Ev.bind z1 ?_
      simp only [beq_self_eq_true, Bool.and_self, if_true]
      refine Ev.bind z2 ?_
      exact Ev.now _
  obtain ⟨v0, el0, v00, v01⟩ := lw_ok m 0 (by omega) hmw
  obtain ⟨v1, el1, v10, v11⟩ := lw_ok m 1 (by omega) hmw
  obtain ⟨hb, hf, ht, hl⟩ := ok
  have q0 := Int.emod_nonneg (v0 * 256 + v1) (show t - f + 1 ≠ 0 by omega)
  have q1 := Int.emod_lt_of_pos (v0 * 256 + v1) (show 0 < t - f + 1 by omega)
  simp only [el0, el1, Option.bind_some, w64 (a := t - f) (by omega) (by omega), w64 (a := t - f + 1) (by omega) (by omega), w64 (a := v0 * 256) (by omega) (by omega), w64 (a := v0 * 256 + v1) (by omega) (by omega), if_neg (show ¬ t - f + 1 = 0 by omega), tmod_pos (show 0 ≤ v0 * 256 + v1 by omega)]
  generalize (v0 * 256 + v1) % (t - f + 1) = q at *
  simp only [w64 (a := f + q) (by omega) (by omega)]
  have o1 : spanOk b f (f + q) := ⟨hb, hf, by omega, by omega⟩
  have o2 : spanOk b (f + q) t := ⟨hb, by omega, ht, by omega⟩
  by_cases h3 : b = 3
  · obtain ⟨x1, y1, _, u1, _, _, w1, _⟩ := span_both b f (f + q)
    obtain ⟨x2, y2, _, u2, _, _, w2, _⟩ := span_both b (f + q) t
    have k1 := w1.mpr o1
    have k2 := w2.mpr o2
    subst k1
    subst k2
    refine Ev.bind u1 ?_
    refine Ev.bind u2 ?_
    simp only [if_pos h3, if_true, bne_self_eq_false]
    exact j1
  · refine Ev.bind (span_plain b f (f + q) o1 h3).2 ?_
    refine Ev.bind (span_plain b (f + q) t o2 h3).2 ?_
    simp only [if_neg h3]
    refine Ev.bind (span_plain b f t ⟨hb, hf, ht, hl⟩ h3).2 ?_
    simp only [w64 (a := f + q - f + (t - (f + q))) (by omega) (by omega), if_pos (show t - f = f + q - f + (t - (f + q)) by omega), if_true, bne_self_eq_false]
    exact j1

end Go.Proofs.Ythecbcflpadinaa.Pure
