/- What a drawn operator comes to is of the type that is told for it: a bool is 0 or 1, and a whole number or money in its bounds. No condition beyond the row's own. -/
import Derived.Test.YthecbcflpadinaaPFnOpsx6
import Derived.Test.YthecbcflpadinaaQLib
namespace Go.Proofs.Ythecbcflpadinaa.Pure
set_option linter.unusedSimpArgs false
set_option linter.unusedVariables false
open Go.RowKit Go.Proofs.Ythecbcflpadinaa.PFnOps Go.Proofs.YthecbcflpadinaaW.PrintWords Go.Proofs.YthecbcflpadinaaW.PrintLast Go.Proofs.YthecbcflpadinaaW.PrintMore
open Go.Proofs.Ythecbcflpadinaa.Q
theorem right_same (a : Int) : impl_MoneyRight.f a = spec_MoneyRight.f a := by
  simp only [spec_MoneyRight.f, impl_MoneyRight.f, impl_in.f, ge_iff_le]
  by_cases h1 : (-1000000000000 : Int) ≤ a
  · simp only [if_pos h1, Option.bind_some]
  · simp only [if_neg h1, Option.bind_some]
/-- Is it money? -/
def mr (a : Int) : Bool := decide (-1000000000000 ≤ a ∧ a ≤ 1000000000000)
theorem right_is (a : Int) : spec_MoneyRight.f a = some (mr a) := by
  simp only [spec_MoneyRight.f, ge_iff_le, mr]
  by_cases h1 : (-1000000000000 : Int) ≤ a
  · simp [h1]
  · simp [h1]

theorem u64_mask32 (x : Int) (h0 : 0 ≤ x) (h1 : x < 18446744073709551616) : Go.bits .and .u64 x 4294967295 = x % 4294967296 := by
  rw [u64_and _ _ h0 h1 (by omega) (by omega)]
  have h := Nat.and_two_pow_sub_one_eq_mod x.toNat 32
  rw [show (4294967295 : Int).toNat = 2 ^ 32 - 1 from rfl, h, show (2 ^ 32 : Nat) = 4294967296 from rfl]
  omega
theorem mul_bd {x y m n : Int} (h0 : 0 ≤ x) (h1 : x ≤ m) (h2 : 0 ≤ y) (h3 : y ≤ n) : 0 ≤ x * y ∧ x * y ≤ m * n :=
  ⟨Int.mul_nonneg h0 h2, Int.mul_le_mul h1 h3 h2 (by omega)⟩
theorem mul64_is (a b : Int) (ha0 : 0 ≤ a) (ha : a < 18446744073709551616) (hb0 : 0 ≤ b) (hb : b < 18446744073709551616) :
    bits_Mul64.f a b = some (a * b / 18446744073709551616, a * b % 18446744073709551616) := by
  unfold bits_Mul64.f
  rw [u64_mask32 a ha0 ha, u64_mask32 b hb0 hb]
  have e : a * b = (a / 4294967296) * (b / 4294967296) * 18446744073709551616 + ((a / 4294967296) * (b % 4294967296) + (a % 4294967296) * (b / 4294967296)) * 4294967296 + (a % 4294967296) * (b % 4294967296) := by
    have e1 : a = 4294967296 * (a / 4294967296) + a % 4294967296 := by omega
    have e2 : b = 4294967296 * (b / 4294967296) + b % 4294967296 := by omega
    generalize a / 4294967296 = X at e1 ⊢
    generalize a % 4294967296 = x at e1 ⊢
    generalize b / 4294967296 = Y at e2 ⊢
    generalize b % 4294967296 = y at e2 ⊢
    subst e1 e2
    simp only [Int.add_mul, Int.mul_add]
    have h1 : 4294967296 * X * (4294967296 * Y) = X * Y * 18446744073709551616 := by
      rw [Int.mul_assoc, Int.mul_left_comm X, ← Int.mul_assoc, Int.mul_comm _ (X * Y)]; rfl
    have h2 : 4294967296 * X * y = X * y * 4294967296 := by rw [Int.mul_assoc, Int.mul_comm]
    have h3 : x * (4294967296 * Y) = x * Y * 4294967296 := by rw [Int.mul_left_comm, Int.mul_comm]
    rw [h1, h2, h3]; omega
  have p1 := mul_bd (x := a / 4294967296) (y := b / 4294967296) (m := 4294967295) (n := 4294967295) (by omega) (by omega) (by omega) (by omega)
  have p2 := mul_bd (x := a / 4294967296) (y := b % 4294967296) (m := 4294967295) (n := 4294967295) (by omega) (by omega) (by omega) (by omega)
  have p3 := mul_bd (x := a % 4294967296) (y := b / 4294967296) (m := 4294967295) (n := 4294967295) (by omega) (by omega) (by omega) (by omega)
  have p4 := mul_bd (x := a % 4294967296) (y := b % 4294967296) (m := 4294967295) (n := 4294967295) (by omega) (by omega) (by omega) (by omega)
  rw [e]
  generalize (a / 4294967296) * (b / 4294967296) = q1 at *
  generalize (a / 4294967296) * (b % 4294967296) = q2 at *
  generalize (a % 4294967296) * (b / 4294967296) = q3 at *
  generalize (a % 4294967296) * (b % 4294967296) = q4 at *
  rw [u64in (n := q1) (by omega) (by omega), u64in (n := q2) (by omega) (by omega), u64in (n := q3) (by omega) (by omega), u64in (n := q4) (by omega) (by omega), u64in (n := q2 + q4 / 4294967296) (by omega) (by omega), u64_mask32 _ (by omega) (by omega), u64in (n := q1 + _) (by omega) (by omega), u64in (n := _ + q3) (by omega) (by omega), u64in (n := q1 + _ + _) (by omega) (by omega), u64w]
  congr 2
  omega

/-- What MoneyTimes tells. -/
def mtimesF (a b : Int) : Int × Int :=
  if mr a then (if a = 0 ∨ b = 0 then (0, 0) else if mr b then (if -1000000000000 ≤ a * b ∧ a * b ≤ 1000000000000 then (a * b, 0) else (0, 13)) else (0, 13)) else (0, 1)
def absF (a : Int) : Int := if a < 0 then -a else a
theorem abs_mul (a b : Int) : absF (a * b) = absF a * absF b := by
  unfold absF
  by_cases ha : a < 0 <;> by_cases hb : b < 0
  · have := Int.mul_pos_of_neg_of_neg ha hb
    rw [if_neg (by omega), if_pos ha, if_pos hb, Int.neg_mul_neg]
  · rw [if_pos ha, if_neg hb, Int.neg_mul]
    by_cases h0 : b = 0
    · subst h0; simp
    · have := Int.mul_neg_of_neg_of_pos ha (show 0 < b by omega)
      rw [if_pos this]
  · rw [if_neg ha, if_pos hb, Int.mul_neg]
    by_cases h0 : a = 0
    · subst h0; simp
    · have := Int.mul_neg_of_pos_of_neg (show 0 < a by omega) hb
      rw [if_pos this]
  · have := Int.mul_nonneg (show 0 ≤ a by omega) (show 0 ≤ b by omega)
    rw [if_neg (by omega), if_neg ha, if_neg hb]
theorem mr_true {a : Int} (h : mr a = true) : -1000000000000 ≤ a ∧ a ≤ 1000000000000 := by unfold mr at h; simpa using h
theorem out_is (n : Int) : spec_l02Out.f n = some (if mr n then (n, 0) else (0, 13)) := by
  simp only [spec_l02Out.f, right_is, Option.bind_some]
  by_cases h : mr n = true
  · rw [if_pos h, if_pos h]
  · rw [if_neg h, if_neg h]
theorem abs_is {a : Int} (h : mr a = true) : spec_l02Abs.f a = some (absF a) := by
  have := mr_true h
  unfold spec_l02Abs.f absF
  by_cases h0 : a < 0
  · rw [if_pos h0, if_pos h0, w64 (by omega) (by omega)]
  · rw [if_neg h0, if_neg h0]
theorem abs_bd {a : Int} (h : mr a = true) : 0 ≤ absF a ∧ absF a ≤ 1000000000000 := by
  have := mr_true h
  unfold absF; split <;> omega
theorem mx_abs {a : Int} (h : mr a = true) : IntKind.u64.wrap (mx a (wrap64 (-a))) = absF a := by
  have := mr_true h
  rw [w64 (by omega) (by omega)]
  unfold mx absF
  by_cases h0 : a < 0
  · rw [if_pos (by omega), if_pos h0, u64in (by omega) (by omega)]
  · rw [if_neg (by omega), if_neg h0, u64in (by omega) (by omega)]
theorem prod_small {a b : Int} (ha : mr a = true) (hb : mr b = true) : wrap64 (a * b) = a * b ∨ ¬ (absF a * absF b ≤ 1000000000000) := by
  by_cases h : absF a * absF b ≤ 1000000000000
  · left
    rw [← abs_mul] at h
    unfold absF at h
    apply w64 <;> split at h <;> omega
  · right; exact h
theorem in_range (a b : Int) : (-1000000000000 ≤ a * b ∧ a * b ≤ 1000000000000) ↔ absF a * absF b ≤ 1000000000000 := by
  rw [← abs_mul]; unfold absF; split <;> omega
theorem spec_mtimes_ev (a b : Int) : Ev (fun k => spec_MoneyTimes.f k a b) (mtimesF a b) := by
  simp only [spec_MoneyTimes.f, right_is, Option.bind_some, mtimesF]
  by_cases ha : mr a = true
  · rw [if_pos ha]
    simp only [if_pos ha]
    by_cases h0 : a = 0
    · simp only [if_pos h0, if_pos (Or.inl h0 : a = 0 ∨ b = 0)]
      refine ev_succ ?_
      simp only [spec_MoneyTimes.j0, if_true]; exact Ev.now _
    · simp only [if_neg h0]
      refine ev_succ ?_
      simp only [spec_MoneyTimes.j0]
      by_cases hb0 : b = 0
      · simp only [hb0, beq_self_eq_true, if_true, or_true]; exact Ev.now _
      · have hbb : (b == 0) = false := by simpa using hb0
        rw [if_neg (show ¬ (a = 0 ∨ b = 0) by omega)]
        simp only [hbb, Bool.false_eq_true, if_false, right_is, Option.bind_some]
        by_cases hb : mr b = true
        · simp only [if_pos hb, abs_is ha, abs_is hb, Option.bind_some]
          have ka := abs_bd ha
          have kb := abs_bd hb
          have na : absF a ≠ 0 := by unfold absF; split <;> omega
          have hd : 1000000000000 / absF a ≤ 1000000000000 := Int.ediv_le_self _ (by omega)
          have hd0 : 0 ≤ 1000000000000 / absF a := Int.ediv_nonneg (by omega) (by omega)
          simp only [if_neg na, tdiv_pos (show (0 : Int) ≤ 1000000000000 by omega), w64 (a := 1000000000000 / absF a) (by omega) (by omega)]
          have hle : absF b ≤ 1000000000000 / absF a ↔ absF b * absF a ≤ 1000000000000 := Int.le_ediv_iff_mul_le (by omega)
          rw [Int.mul_comm] at hle
          by_cases hg : absF a * absF b ≤ 1000000000000
          · have h1 : ¬ absF b > 1000000000000 / absF a := by have := hle.mpr hg; omega
            have h2 := (in_range a b).mpr hg
            have h3 := (prod_small ha hb).resolve_right (fun h => h hg)
            have h4 : mr (a * b) = true := by unfold mr; simpa using h2
            simp only [if_neg h1, h3, out_is, Option.bind_some, if_pos h2, if_pos h4]; exact Ev.now _
          · have h1 : absF b > 1000000000000 / absF a := by
              by_cases h : absF b ≤ 1000000000000 / absF a
              · exact absurd (hle.mp h) hg
              · omega
            have h2 : ¬ _ := fun h => hg ((in_range a b).mp h)
            simp only [if_pos h1, if_neg h2]; exact Ev.now _
        · simp only [if_neg hb]; exact Ev.now _
  · rw [if_neg ha]
    simp only [if_neg ha]; exact Ev.now _
theorem impl_mtimes_ev (a b : Int) : Ev (fun k => impl_MoneyTimes.f k a b) (mtimesF a b) := by
  simp only [impl_MoneyTimes.f, right_same, right_is, Option.bind_some, mtimesF]
  by_cases ha : mr a = true
  · rw [if_pos ha]
    simp only [if_pos ha]
    by_cases h0 : a = 0
    · simp only [if_pos h0, if_pos (Or.inl h0 : a = 0 ∨ b = 0)]
      refine ev_succ ?_
      simp only [impl_MoneyTimes.j0, if_true]; exact Ev.now _
    · simp only [if_neg h0]
      refine ev_succ ?_
      simp only [impl_MoneyTimes.j0]
      by_cases hb0 : b = 0
      · simp only [hb0, beq_self_eq_true, if_true, or_true]; exact Ev.now _
      · have hbb : (b == 0) = false := by simpa using hb0
        rw [if_neg (show ¬ (a = 0 ∨ b = 0) by omega)]
        simp only [hbb, Bool.false_eq_true, if_false, right_same, right_is, Option.bind_some]
        by_cases hb : mr b = true
        · have ka := abs_bd ha
          have kb := abs_bd hb
          have kp := mul_bd ka.1 ka.2 kb.1 kb.2
          simp only [if_pos hb, mx_abs ha, mx_abs hb, mul64_is _ _ ka.1 (by omega) kb.1 (by omega), Option.bind_some]
          by_cases hg : absF a * absF b ≤ 1000000000000
          · have h2 := (in_range a b).mpr hg
            have h3 := (prod_small ha hb).resolve_right (fun h => h hg)
            simp only [if_neg (show ¬ absF a * absF b / 18446744073709551616 > 0 by omega), if_neg (show ¬ absF a * absF b % 18446744073709551616 > 1000000000000 by omega), h3, if_pos h2]; exact Ev.now _
          · have h2 : ¬ _ := fun h => hg ((in_range a b).mp h)
            rw [if_neg h2]
            by_cases h4 : absF a * absF b / 18446744073709551616 > 0
            · simp only [if_pos h4]; exact Ev.now _
            · simp only [if_neg h4, if_pos (show absF a * absF b % 18446744073709551616 > 1000000000000 by omega)]; exact Ev.now _
        · simp only [if_neg hb]; exact Ev.now _
  · rw [if_neg ha]
    simp only [if_neg ha]; exact Ev.now _

theorem told_is (n : Int) : impl_toldMoney.f n = spec_l02Out.f n := by
  simp only [impl_toldMoney.f, spec_l02Out.f, right_same]
theorem truth_is (b : Bool) : impl_truth.f b = spec_l09If.f b := rfl
/-- What a test comes to. -/
def truthF (b : Bool) : Int × Int := if b = true then (1, 0) else (0, 0)
def outF (n : Int) : Int × Int := if mr n = true then (n, 0) else (0, 13)
/-- What OpValue tells. -/
def opvF (s : ByteArray) (a b : Int) : Int × Int :=
  if (s.size : Int) > 20000 then (0, 2) else if mr a = true ∧ mr b = true then
    (if s.toList = ([43] : List UInt8) then outF (wrap64 (a + b)) else if s.toList = ([45] : List UInt8) then outF (wrap64 (a - b))
    else if s.toList = ([42] : List UInt8) then mtimesF a b else if s.toList = ([60] : List UInt8) then truthF (decide (a < b)) else if s.toList = ([60, 61] : List UInt8) then truthF (decide (a ≤ b))
    else if s.toList = ([61] : List UInt8) then truthF (a == b) else if s.toList = ([97, 110, 100] : List UInt8) then (if a = 1 then truthF (b == 1) else truthF false)
    else if s.toList = ([111, 114] : List UInt8) then (if a = 1 then truthF true else truthF (b == 1)) else (0, 6))
  else (0, 1)
theorem pair_eta (p : Int × Int) : (p.1, p.2) = p := rfl
theorem if_is (x : Bool) : spec_l09If.f x = some (truthF x) := by unfold spec_l09If.f truthF; split <;> rfl
theorem out_outF (n : Int) : spec_l02Out.f n = some (outF n) := out_is n
theorem opvalue_spec (s : ByteArray) (a b : Int) : Ev (fun k => spec_OpValue.f k s a b) (opvF s a b) := by
  simp only [spec_OpValue.f, opvF, right_is, Option.bind_some]
  by_cases h0 : (s.size : Int) > 20000
  · simp only [if_pos h0]; exact Ev.now _
  · simp only [if_neg h0]
    have hj : Ev (fun k => spec_OpValue.j0 k s a b true) (0, 1) := ev_succ (by simp only [spec_OpValue.j0, if_true]; exact Ev.now _)
    by_cases ha : mr a = true
    · simp only [if_pos ha]
      by_cases hb : mr b = true
      · rw [if_pos (⟨ha, hb⟩ : mr a = true ∧ mr b = true)]
        simp only [hb, Bool.not_true]
        refine ev_succ ?_
        simp only [spec_OpValue.j0, Bool.false_eq_true, if_false, out_outF, if_is, Option.bind_some, pair_eta]
        refine ev_ite2 (fun _ => Ev.now _) (fun _ => ?_)
        refine ev_ite2 (fun _ => Ev.now _) (fun _ => ?_)
        refine ev_ite2 (fun _ => Ev.bind (spec_mtimes_ev a b) (Ev.now _)) (fun _ => ?_)
        refine ev_ite2 (fun _ => Ev.now _) (fun _ => ?_)
        refine ev_ite2 (fun _ => Ev.now _) (fun _ => ?_)
        refine ev_ite2 (fun _ => Ev.now _) (fun _ => ?_)
        refine ev_ite2 (fun _ => ?_) (fun _ => ?_)
        · exact ev_ite2 (fun _ => Ev.now _) (fun _ => Ev.now _)
        refine ev_ite2 (fun _ => ?_) (fun _ => Ev.now _)
        exact ev_ite2 (fun _ => Ev.now _) (fun _ => Ev.now _)
      · rw [if_neg (show ¬ (mr a = true ∧ mr b = true) from fun h => hb h.2)]
        simp only [hb, Bool.not_false]; exact hj
    · rw [if_neg (show ¬ (mr a = true ∧ mr b = true) from fun h => ha h.1)]
      simp only [if_neg ha]; exact hj
theorem opvalue_impl (s : ByteArray) (a b : Int) : Ev (fun k => impl_OpValue.f k s a b) (opvF s a b) := by
  simp only [impl_OpValue.f, opvF, right_same, right_is, Option.bind_some]
  by_cases h0 : (s.size : Int) > 20000
  · simp only [if_pos h0]; exact Ev.now _
  · simp only [if_neg h0]
    by_cases ha : mr a = true
    · simp only [if_pos ha]
      by_cases hb : mr b = true
      · rw [if_pos (⟨ha, hb⟩ : mr a = true ∧ mr b = true)]
        simp only [if_pos hb, told_is, truth_is, out_outF, if_is, Option.bind_some, pair_eta]
        refine ev_ite2 (fun _ => Ev.now _) (fun _ => ?_)
        refine ev_ite2 (fun _ => Ev.now _) (fun _ => ?_)
        refine ev_ite2 (fun _ => Ev.bind (impl_mtimes_ev a b) (Ev.now _)) (fun _ => ?_)
        refine ev_ite2 (fun _ => Ev.now _) (fun _ => ?_)
        refine ev_ite2 (fun _ => Ev.now _) (fun _ => ?_)
        refine ev_ite2 (fun _ => Ev.now _) (fun _ => ?_)
        refine ev_ite2 (fun _ => ?_) (fun _ => ?_)
        · exact ev_ite2 (fun _ => Ev.now _) (fun _ => Ev.now _)
        refine ev_ite2 (fun _ => ?_) (fun _ => Ev.now _)
        exact ev_ite2 (fun _ => Ev.now _) (fun _ => Ev.now _)
      · rw [if_neg (show ¬ (mr a = true ∧ mr b = true) from fun h => hb h.2)]
        simp only [if_neg hb]; exact Ev.now _
    · rw [if_neg (show ¬ (mr a = true ∧ mr b = true) from fun h => ha h.1)]
      simp only [if_neg ha]; exact Ev.now _

/-- What both tell. -/
def opT (l : List UInt8) (a b : Int) : Int :=
  if l = [43] ∨ l = [45] then (if a = b ∧ (a = 1 ∨ a = 2) then a else 0)
  else if l = [42] then (if b = 1 ∧ (a = 1 ∨ a = 2) then a else 0)
  else if l = [60] ∨ l = [60, 61] then (if a = b ∧ 1 ≤ a ∧ a < 5 then 5 else 0)
  else if l = [61] then (if a = b ∧ 1 ≤ a ∧ a ≤ 5 then 5 else 0)
  else if l = [97, 110, 100] ∨ l = [111, 114] then (if a = 5 ∧ b = 5 then 5 else 0) else 0

theorem impl_op (s : ByteArray) (a b : Int) : impl_OpType.f 6 s a b = some (opT s.toList a b) := by
  by_cases e : a = b
  · subst e
    by_cases h : 1 ≤ a ∧ a ≤ 5
    · have h3 : a = 1 ∨ a = 2 ∨ a = 3 ∨ a = 4 ∨ a = 5 := by omega
      clear h
      rcases h3 with e | e | e | e | e <;> subst e <;>
      simp [impl_OpType.f, impl_in.f, impl_OpType.j0, impl_OpType.j1, impl_OpType.j2, impl_OpType.j3, opT] <;> (repeat' split) <;> simp_all
    · have n1 : a ≠ 1 := by omega
      have n2 : a ≠ 2 := by omega
      have n5 : a ≠ 5 := by omega
      have n6 : ¬ (1 ≤ a ∧ a < 5) := by omega
      by_cases h1 : 1 ≤ a
      · have h2 : ¬ a ≤ 5 := by omega
        have h4 : ¬ a < 5 := by omega
        simp [impl_OpType.f, impl_in.f, impl_OpType.j0, impl_OpType.j1, impl_OpType.j2, impl_OpType.j3, opT, n1, n2, n5, h1, h2, h4] <;> (repeat' split) <;> simp_all
      · simp [impl_OpType.f, impl_in.f, impl_OpType.j0, impl_OpType.j1, impl_OpType.j2, impl_OpType.j3, opT, n1, n2, n5, h1] <;> (repeat' split) <;> simp_all
  · by_cases a1 : a = 1
    · subst a1
      have e' : ¬ b = 1 := fun h => e h.symm
      simp [impl_OpType.f, impl_in.f, impl_OpType.j0, impl_OpType.j1, impl_OpType.j2, impl_OpType.j3, opT, e, e'] <;> (repeat' split) <;> simp_all
    · by_cases a2 : a = 2
      · subst a2
        by_cases b1 : b = 1
        · subst b1
          simp [impl_OpType.f, impl_in.f, impl_OpType.j0, impl_OpType.j1, impl_OpType.j2, impl_OpType.j3, opT] <;> (repeat' split) <;> simp_all
        · simp [impl_OpType.f, impl_in.f, impl_OpType.j0, impl_OpType.j1, impl_OpType.j2, impl_OpType.j3, opT, e, b1] <;> (repeat' split) <;> simp_all
      · by_cases a5 : a = 5
        · subst a5
          have e' : ¬ b = 5 := fun h => e h.symm
          simp [impl_OpType.f, impl_in.f, impl_OpType.j0, impl_OpType.j1, impl_OpType.j2, impl_OpType.j3, opT, e, e'] <;> (repeat' split) <;> simp_all
        · by_cases h1 : 1 ≤ a
          · simp [impl_OpType.f, impl_in.f, impl_OpType.j0, impl_OpType.j1, impl_OpType.j2, impl_OpType.j3, opT, e, a1, a2, a5, h1] <;> (repeat' split) <;> simp_all
          · simp [impl_OpType.f, impl_in.f, impl_OpType.j0, impl_OpType.j1, impl_OpType.j2, impl_OpType.j3, opT, e, a1, a2, a5, h1] <;> (repeat' split) <;> simp_all

/-- The place that a source has come to lies in its bytes. -/
def StOk (l : List Int) (a : Int) : Prop := 0 ≤ a ∧ a ≤ l.length
theorem told_range (v m most : Int) (h0 : 1 < most) (h1 : most ≤ 9223372036854775807) : 0 ≤ spec_l01Src_n.toldF v m most ∧ spec_l01Src_n.toldF v m most < most := by
  unfold spec_l01Src_n.toldF
  rw [u64w, tmod_pos (by omega)]
  have a := Int.emod_nonneg ((v + m / 1048576) % 18446744073709551616) (show most ≠ 0 by omega)
  have b := Int.emod_lt_of_pos ((v + m / 1048576) % 18446744073709551616) (show 0 < most by omega)
  rw [w64 (by omega) (by omega)]
  exact ⟨a, b⟩
/-- A number below most is drawn. -/
theorem n_ok (l : List Int) (a m s most : Int) (hst : StOk l a) (h1 : most ≤ 9223372036854775807) :
    ∃ r a' m', spec_l01Src_n.f l a m s most = some (r, a', m', s) ∧ StOk l a' ∧ 0 ≤ r ∧ (r < most ∨ r = 0) := by
  unfold spec_l01Src_n.f StOk at *
  by_cases c1 : most ≤ 1
  · rw [if_pos c1]; exact ⟨_, _, _, rfl, hst, by omega, Or.inr rfl⟩
  · rw [if_neg c1, if_pos h1]
    by_cases c2 : a < (l.length : Int)
    · rw [if_pos c2, if_pos hst.1]
      have := told_range (IntKind.u64.wrap (rd l a)) (spec_l01Src_n.mixF m) most (by omega) h1
      exact ⟨_, _, _, rfl, by omega, this.1, Or.inl this.2⟩
    · rw [if_neg c2]
      have := told_range 0 (spec_l01Src_n.mixF m) most (by omega) h1
      exact ⟨_, _, _, rfl, hst, this.1, Or.inl this.2⟩
theorem src_l0 (l : List Int) (hl : l.length ≤ 140737488351232) : ∀ (d i : Nat) (m : Int), 64 - i = d → ∃ m' s, Ev (fun k => spec_l01Source.l0 k l i l 0 m 0) (l, 0, m', s) ∧ 0 ≤ s ∧ s ≤ 12 := by
  have fin : ∀ (i : Nat) (m : Int), ¬ ((i : Int) < (l.length : Int) ∧ (i : Int) < 64) → ∃ m' s, Ev (fun k => spec_l01Source.l0 k l i l 0 m 0) (l, 0, m', s) ∧ 0 ≤ s ∧ s ≤ 12 := by
    intro i m hi
    have ew : wrap64 ((l.length : Int) / 20) = (l.length : Int) / 20 := w64 (by omega) (by omega)
    by_cases h12 : (l.length : Int) / 20 > 12
    · refine ⟨m, 12, ev_succ ?_, by omega, by omega⟩
      simp only [spec_l01Source.l0, ew, if_pos h12]
      by_cases h1 : (i : Int) < (l.length : Int)
      · simp only [if_pos h1, if_neg (show ¬ (i : Int) < 64 from fun h => hi ⟨h1, h⟩)]; exact Ev.now _
      · simp only [if_neg h1]; exact Ev.now _
    · refine ⟨m, (l.length : Int) / 20, ev_succ ?_, by omega, by omega⟩
      simp only [spec_l01Source.l0, ew, if_neg h12]
      by_cases h1 : (i : Int) < (l.length : Int)
      · simp only [if_pos h1, if_neg (show ¬ (i : Int) < 64 from fun h => hi ⟨h1, h⟩)]; exact Ev.now _
      · simp only [if_neg h1]; exact Ev.now _
  intro d
  induction d with
  | zero => intro i m hd; exact fin i m (by omega)
  | succ d ih =>
    intro i m hd
    by_cases h : (i : Int) < (l.length : Int) ∧ (i : Int) < 64
    · obtain ⟨m', s, e, h0⟩ := ih (i + 1) (IntKind.u64.wrap ((Go.bits .xor .u64 m (IntKind.u64.wrap (rd l i))) * 1099511628211)) (by omega)
      refine ⟨m', s, ev_succ ?_, h0⟩
      simp only [spec_l01Source.l0, if_pos h.1, if_pos h.2, if_pos (nat0 i), wsucc (show i < l.length by omega) hl]
      exact e
    · exact fin i m h
theorem src_ok (l : List Int) (hl : l.length ≤ 140737488351232) : ∃ m s, Ev (fun k => spec_l01Source.f k l) (l, 0, m, s) ∧ 0 ≤ s ∧ s ≤ 12 := by
  simp only [spec_l01Source.f]
  exact src_l0 l hl 64 0 _ rfl
theorem st0 (l : List Int) : StOk l 0 := ⟨by omega, by omega⟩

theorem rd_all {p : Int → Prop} (l : List Int) (h : ∀ x ∈ l, p x) (i : Int) (h0 : 0 ≤ i) (h1 : i < (l.length : Int)) : p (rd l i) := by
  unfold rd
  rw [List.getD_eq_getElem?_getD, List.getElem?_eq_getElem (by omega)]
  exact h _ (List.getElem_mem _)
/-- An edge is a number of int64. -/
theorem edge_ok (l : List Int) (a m s : Int) (hst : StOk l a) : ∃ r a' m', spec_l01Src_edge.f l a m s = some (r, a', m', s) ∧ StOk l a' ∧ -9223372036854775808 ≤ r ∧ r ≤ 9223372036854775807 := by
  obtain ⟨r, a', m', e, hs, h0, h1⟩ := n_ok l a m s 14 hst (by omega)
  simp only [spec_l01Src_edge.f, Option.bind_some, e]
  rw [if_pos h0, if_pos (by simp; omega)]
  refine ⟨_, _, _, rfl, hs, ?_⟩
  exact rd_all (p := fun x => -9223372036854775808 ≤ x ∧ x ≤ 9223372036854775807) _ (by simp) _ h0 (by simp; omega)

/-- Drawn money is a number of int64. -/
theorem money_ok (l : List Int) (a m s : Int) (hst : StOk l a) : ∃ r a' m', spec_l01Src_l02Money.f l a m s = some (r, a', m', s) ∧ StOk l a' ∧ -9223372036854775808 ≤ r ∧ r ≤ 9223372036854775807 := by
  obtain ⟨r, a1, m1, e, hs, h0, h1⟩ := n_ok l a m s 8 hst (by omega)
  simp only [spec_l01Src_l02Money.f, e, Option.bind_some]
  by_cases c0 : r = 0
  · rw [if_pos c0]
    obtain ⟨r2, a2, m2, e2, hs2, h2⟩ := edge_ok l a1 m1 s hs
    simp only [e2, Option.bind_some]
    exact ⟨_, _, _, rfl, hs2, h2⟩
  · rw [if_neg c0]
    by_cases c1 : r = 1
    · rw [if_pos c1]
      obtain ⟨r2, a2, m2, e2, hs2, h2, h3⟩ := n_ok l a1 m1 s 5 hs (by omega)
      simp only [e2, Option.bind_some]
      rw [if_pos h2, if_pos (by simp; omega)]
      refine ⟨_, _, _, rfl, hs2, ?_⟩
      exact rd_all (p := fun x => -9223372036854775808 ≤ x ∧ x ≤ 9223372036854775807) _ (by simp) _ h2 (by simp; omega)
    · rw [if_neg c1]
      by_cases c2 : r = 2
      · rw [if_pos c2]
        obtain ⟨r2, a2, m2, e2, hs2, h2, h3⟩ := n_ok l a1 m1 s 9 hs (by omega)
        simp only [e2, Option.bind_some, w64 (a := r2 - 4) (by omega) (by omega)]
        exact ⟨_, _, _, rfl, hs2, by omega, by omega⟩
      · rw [if_neg c2]
        by_cases c3 : r = 3
        · rw [if_pos c3]
          obtain ⟨r2, a2, m2, e2, hs2, h2, h3⟩ := n_ok l a1 m1 s 1000000000000 hs (by omega)
          simp only [e2, Option.bind_some]
          exact ⟨_, _, _, rfl, hs2, by omega, by omega⟩
        · rw [if_neg c3]
          obtain ⟨r2, a2, m2, e2, hs2, h2, h3⟩ := n_ok l a1 m1 s 1000000 hs (by omega)
          simp only [e2, Option.bind_some, w64 (a := r2 - 100000) (by omega) (by omega)]
          exact ⟨_, _, _, rfl, hs2, by omega, by omega⟩

theorem optype_ev (s : ByteArray) (a b : Int) : Ev (fun k => impl_OpType.f k s a b) (opT s.toList a b) :=
  Ev.of (g := fun k => impl_OpType.f k s a b) (fun k => impl_OpType.mono s a b k) (impl_op s a b)
/-- The operators that are drawn. -/
def drawnOps : List (List UInt8) := [[43], [45], [42], [60], [60, 61], [61], [97, 110, 100], [111, 114], [], [110, 111, 116]]
theorem mr_small {n : Int} (h0 : 0 ≤ n) (h1 : n ≤ 1) : mr n = true := by unfold mr; simp; omega
theorem outF_ok (n : Int) : ((outF n).2 = 0 → mr (outF n).1 = true) ∧ ((outF n).2 ≠ 0 → (outF n).1 = 0) := by
  unfold outF; by_cases h : mr n = true <;> simp [h]
theorem truthF_ok (b : Bool) : (truthF b).2 = 0 ∧ ((truthF b).1 = 0 ∨ (truthF b).1 = 1) := by cases b <;> simp [truthF]
theorem mtimesF_ok (a b : Int) : ((mtimesF a b).2 = 0 → mr (mtimesF a b).1 = true) ∧ ((mtimesF a b).2 ≠ 0 → (mtimesF a b).1 = 0) := by
  unfold mtimesF
  by_cases h1 : mr a = true
  · rw [if_pos h1]
    by_cases h2 : a = 0 ∨ b = 0
    · rw [if_pos h2]; exact ⟨fun _ => mr_small (by omega) (by omega), fun _ => rfl⟩
    · rw [if_neg h2]
      by_cases h3 : mr b = true
      · rw [if_pos h3]
        by_cases h4 : -1000000000000 ≤ a * b ∧ a * b ≤ 1000000000000
        · rw [if_pos h4]; exact ⟨fun _ => by unfold mr; simpa using h4, fun h => absurd rfl h⟩
        · rw [if_neg h4]; exact ⟨fun h => absurd h (by simp), fun _ => rfl⟩
      · rw [if_neg h3]; exact ⟨fun h => absurd h (by simp), fun _ => rfl⟩
  · rw [if_neg h1]; exact ⟨fun h => absurd h (by simp), fun _ => rfl⟩
/-- What is told of a value and its type. -/
def good (l : List UInt8) (r : Int × Int) : Prop :=
  (r.2 ≠ 0 → r.1 = 0) ∧ (r.2 = 0 → mr r.1 = true ∧ ((opT l 5 5 = 5 ∨ opT l 1 1 = 5) → r.1 = 0 ∨ r.1 = 1))
theorem good_truth (l : List UInt8) (b : Bool) : good l (truthF b) := by
  have := truthF_ok b
  refine ⟨fun h => absurd this.1 h, fun _ => ⟨?_, fun _ => this.2⟩⟩
  rcases this.2 with h | h <;> rw [h] <;> exact mr_small (by omega) (by omega)
theorem opv_good (s : ByteArray) (a b : Int) : good s.toList (opvF s a b) := by
  unfold opvF
  split
  · exact ⟨fun _ => rfl, fun h => absurd h (by simp)⟩
  · split
    · by_cases e1 : s.toList = ([43] : List UInt8)
      · rw [if_pos e1, e1]
        exact ⟨(outF_ok _).2, fun h => ⟨(outF_ok _).1 h, fun h => absurd h (by simp [opT])⟩⟩
      · rw [if_neg e1]
        by_cases e2 : s.toList = ([45] : List UInt8)
        · rw [if_pos e2, e2]
          exact ⟨(outF_ok _).2, fun h => ⟨(outF_ok _).1 h, fun h => absurd h (by simp [opT])⟩⟩
        · rw [if_neg e2]
          by_cases e3 : s.toList = ([42] : List UInt8)
          · rw [if_pos e3, e3]
            exact ⟨(mtimesF_ok _ _).2, fun h => ⟨(mtimesF_ok _ _).1 h, fun h => absurd h (by simp [opT])⟩⟩
          · rw [if_neg e3]
            split
            · exact good_truth _ _
            · split
              · exact good_truth _ _
              · split
                · exact good_truth _ _
                · split
                  · split <;> exact good_truth _ _
                  · split
                    · split <;> exact good_truth _ _
                    · exact ⟨fun _ => rfl, fun h => absurd h (by simp)⟩
    · exact ⟨fun _ => rfl, fun h => absurd h (by simp)⟩
theorem draw_ok (l : List Int) (hl : l.length ≤ 140737488351232) : ∃ s a b, Ev (fun k => spec_DrawOpValue.f k l) (s, a, b) := by
  obtain ⟨m, z, e, _⟩ := src_ok l hl
  obtain ⟨r, a1, m1, e1, h1, r0, r1⟩ := n_ok l 0 m z 10 (st0 l) (by omega)
  obtain ⟨r2, a2, m2, e2, h2, _, _⟩ := n_ok l a1 m1 z 3 h1 (by omega)
  have hp : ∀ L : List ByteArray, L.length = 10 → ∃ s, spec_l01Src_pick.f l 0 m z L = some (s, a1, m1, z) := by
    intro L hL
    have e : (L.length : Int) = 10 := by omega
    simp only [spec_l01Src_pick.f, e, e1, Option.bind_some, if_pos r0, if_pos (show r < 10 by omega)]
    exact ⟨_, rfl⟩
  obtain ⟨s, hs⟩ := hp _ (show (([(⟨#[43]⟩ : ByteArray), (⟨#[45]⟩ : ByteArray), (⟨#[42]⟩ : ByteArray), (⟨#[60]⟩ : ByteArray), (⟨#[60, 61]⟩ : ByteArray), (⟨#[61]⟩ : ByteArray), (⟨#[97, 110, 100]⟩ : ByteArray), (⟨#[111, 114]⟩ : ByteArray), (⟨#[]⟩ : ByteArray), (⟨#[110, 111, 116]⟩ : ByteArray)] : List ByteArray)).length = 10 from rfl)
  simp only [spec_DrawOpValue.f]
  by_cases hr : r2 = 0
  · obtain ⟨x, a3, m3, e3, h3, _⟩ := n_ok l a2 m2 z 3 h2 (by omega)
    obtain ⟨y, a4, m4, e4, h4, _⟩ := n_ok l a3 m3 z 3 h3 (by omega)
    refine ⟨s, x, y, Ev.bind e ?_⟩
    simp only [hs, spec_l01Src_one.f, e2, Option.bind_some, hr, beq_self_eq_true, if_true, e3, e4]
    exact Ev.now _
  · obtain ⟨x, a3, m3, e3, h3, _⟩ := money_ok l a2 m2 z h2
    obtain ⟨y, a4, m4, e4, h4, _⟩ := money_ok l a3 m3 z h3
    refine ⟨s, x, y, Ev.bind e ?_⟩
    have hb : (r2 == 0) = false := by simpa using hr
    simp only [hs, spec_l01Src_one.f, e2, Option.bind_some, hb, Bool.false_eq_true, if_false, e3, e4]
    exact Ev.now _
theorem FnOps : laws_FnOps.Pure := by
  intro l _ hl _
  refine Ev.rounds (g := fun k => laws_FnOps.f k l) ?_
  simp only [laws_FnOps.f]
  by_cases h1 : (l.length : Int) > 1048576
  · simp only [if_pos h1]; exact Ev.now _
  · simp only [if_neg h1]
    obtain ⟨s, a, b, e⟩ := draw_ok l (by omega)
    refine Ev.bind e ?_
    refine Ev.bind (opvalue_impl s a b) ?_
    refine Ev.bind (opvalue_spec s a b) ?_
    obtain ⟨g1, g2⟩ := opv_good s a b
    simp only [beq_self_eq_true, Bool.not_true, Bool.or_self, Bool.false_eq_true, if_false, right_is, Option.bind_some]
    by_cases h0 : (opvF s a b).2 = 0
    · obtain ⟨g3, g4⟩ := g2 h0
      simp only [if_pos h0, g3, if_true]
      refine Ev.bind (optype_ev s 5 5) ?_
      by_cases q : opT s.toList 5 5 = 5
      · simp only [if_pos q]
        rcases g4 (Or.inl q) with z | z <;> simp only [z] <;> exact Ev.now _
      · simp only [if_neg q]
        refine Ev.bind (optype_ev s 1 1) ?_
        by_cases q2 : opT s.toList 1 1 = 5
        · simp only [if_pos q2]
          rcases g4 (Or.inr q2) with z | z <;> simp only [z] <;> exact Ev.now _
        · simp only [if_neg q2]; exact Ev.now _
    · simp only [if_neg h0, g1 h0, beq_self_eq_true]; exact Ev.now _

end Go.Proofs.Ythecbcflpadinaa.Pure
