/- At every operator and two numbers the program's OpValue is the reference's OpValue. No condition beyond the row's own. -/
import Derived.Test.YtkffeaggiegfkaaPFnExactOpValuex2
import Derived.Test.YtkffeaggiegfkaaQLib
namespace Go.Proofs.Ytkffeaggiegfkaa.Pure
set_option linter.unusedSimpArgs false
set_option linter.unusedVariables false
open Go.RowKit Go.Proofs.Ytkffeaggiegfkaa.PFnExactOpValue Go.Proofs.YtkffeaggiegfkaaW.PrintWords Go.Proofs.YtkffeaggiegfkaaW.PrintLast Go.Proofs.YtkffeaggiegfkaaW.PrintMore
open Go.Proofs.Ytkffeaggiegfkaa.Q
theorem right_same (a : Int) : impl_MoneyRight.f a = spec_MoneyRight.f a := by
  simp only [spec_MoneyRight.f, impl_MoneyRight.f, impl_in.f, ge_iff_le]
  by_cases h1 : (-1000000000000 : Int) ≤ a
  · simp only [if_pos h1, Option.bind_some]
  · simp only [if_neg h1, Option.bind_some]
/-- Is it money? -/
def mr (a : Int) : Bool := decide (-1000000000000 ≤ a ∧ a ≤ 1000000000000)
theorem right_is (a : Int) : spec_MoneyRight.f a = some (mr a) := by
  simp only [spec_MoneyRight.f, ge_iff_le, mr]
  by_cases h1 : (-1000000000000 : Int) ≤ a
  · simp [h1]
  · simp [h1]

theorem u64_mask32 (x : Int) (h0 : 0 ≤ x) (h1 : x < 18446744073709551616) : Go.bits .and .u64 x 4294967295 = x % 4294967296 := by
  rw [u64_and _ _ h0 h1 (by omega) (by omega)]
  have h := Nat.and_two_pow_sub_one_eq_mod x.toNat 32
  rw [show (4294967295 : Int).toNat = 2 ^ 32 - 1 from rfl, h, show (2 ^ 32 : Nat) = 4294967296 from rfl]
  omega
theorem mul_bd {x y m n : Int} (h0 : 0 ≤ x) (h1 : x ≤ m) (h2 : 0 ≤ y) (h3 : y ≤ n) : 0 ≤ x * y ∧ x * y ≤ m * n :=
  ⟨Int.mul_nonneg h0 h2, Int.mul_le_mul h1 h3 h2 (by omega)⟩
theorem mul64_is (a b : Int) (ha0 : 0 ≤ a) (ha : a < 18446744073709551616) (hb0 : 0 ≤ b) (hb : b < 18446744073709551616) :
    bits_Mul64.f a b = some (a * b / 18446744073709551616, a * b % 18446744073709551616) := by
  unfold bits_Mul64.f
  rw [u64_mask32 a ha0 ha, u64_mask32 b hb0 hb]
  have e : a * b = (a / 4294967296) * (b / 4294967296) * 18446744073709551616 + ((a / 4294967296) * (b % 4294967296) + (a % 4294967296) * (b / 4294967296)) * 4294967296 + (a % 4294967296) * (b % 4294967296) := by
    have e1 : a = 4294967296 * (a / 4294967296) + a % 4294967296 := by omega
    have e2 : b = 4294967296 * (b / 4294967296) + b % 4294967296 := by omega
    generalize a / 4294967296 = X at e1 ⊢
    generalize a % 4294967296 = x at e1 ⊢
    generalize b / 4294967296 = Y at e2 ⊢
    generalize b % 4294967296 = y at e2 ⊢
    subst e1 e2
    simp only [Int.add_mul, Int.mul_add]
    have h1 : 4294967296 * X * (4294967296 * Y) = X * Y * 18446744073709551616 := by
      rw [Int.mul_assoc, Int.mul_left_comm X, ← Int.mul_assoc, Int.mul_comm _ (X * Y)]; rfl
    have h2 : 4294967296 * X * y = X * y * 4294967296 := by rw [Int.mul_assoc, Int.mul_comm]
    have h3 : x * (4294967296 * Y) = x * Y * 4294967296 := by rw [Int.mul_left_comm, Int.mul_comm]
    rw [h1, h2, h3]; omega
  have p1 := mul_bd (x := a / 4294967296) (y := b / 4294967296) (m := 4294967295) (n := 4294967295) (by omega) (by omega) (by omega) (by omega)
  have p2 := mul_bd (x := a / 4294967296) (y := b % 4294967296) (m := 4294967295) (n := 4294967295) (by omega) (by omega) (by omega) (by omega)
  have p3 := mul_bd (x := a % 4294967296) (y := b / 4294967296) (m := 4294967295) (n := 4294967295) (by omega) (by omega) (by omega) (by omega)
  have p4 := mul_bd (x := a % 4294967296) (y := b % 4294967296) (m := 4294967295) (n := 4294967295) (by omega) (by omega) (by omega) (by omega)
  rw [e]
  generalize (a / 4294967296) * (b / 4294967296) = q1 at *
  generalize (a / 4294967296) * (b % 4294967296) = q2 at *
  generalize (a % 4294967296) * (b / 4294967296) = q3 at *
  generalize (a % 4294967296) * (b % 4294967296) = q4 at *
  rw [u64in (n := q1) (by omega) (by omega), u64in (n := q2) (by omega) (by omega), u64in (n := q3) (by omega) (by omega), u64in (n := q4) (by omega) (by omega), u64in (n := q2 + q4 / 4294967296) (by omega) (by omega), u64_mask32 _ (by omega) (by omega), u64in (n := q1 + _) (by omega) (by omega), u64in (n := _ + q3) (by omega) (by omega), u64in (n := q1 + _ + _) (by omega) (by omega), u64w]
  congr 2
  omega

/-- What MoneyTimes tells. -/
def mtimesF (a b : Int) : Int × Int :=
  if mr a then (if a = 0 ∨ b = 0 then (0, 0) else if mr b then (if -1000000000000 ≤ a * b ∧ a * b ≤ 1000000000000 then (a * b, 0) else (0, 13)) else (0, 13)) else (0, 1)
def absF (a : Int) : Int := if a < 0 then -a else a
theorem abs_mul (a b : Int) : absF (a * b) = absF a * absF b := by
  unfold absF
  by_cases ha : a < 0 <;> by_cases hb : b < 0
  · have := Int.mul_pos_of_neg_of_neg ha hb
    rw [if_neg (by omega), if_pos ha, if_pos hb, Int.neg_mul_neg]
  · rw [if_pos ha, if_neg hb, Int.neg_mul]
    by_cases h0 : b = 0
    · subst h0; simp
    · have := Int.mul_neg_of_neg_of_pos ha (show 0 < b by omega)
      rw [if_pos this]
  · rw [if_neg ha, if_pos hb, Int.mul_neg]
    by_cases h0 : a = 0
    · subst h0; simp
    · have := Int.mul_neg_of_pos_of_neg (show 0 < a by omega) hb
      rw [if_pos this]
  · have := Int.mul_nonneg (show 0 ≤ a by omega) (show 0 ≤ b by omega)
    rw [if_neg (by omega), if_neg ha, if_neg hb]
theorem mr_true {a : Int} (h : mr a = true) : -1000000000000 ≤ a ∧ a ≤ 1000000000000 := by unfold mr at h; simpa using h
theorem out_is (n : Int) : spec_l02Out.f n = some (if mr n then (n, 0) else (0, 13)) := by
  simp only [spec_l02Out.f, right_is, Option.bind_some]
  by_cases h : mr n = true
  · rw [if_pos h, if_pos h]
  · rw [if_neg h, if_neg h]
theorem abs_is {a : Int} (h : mr a = true) : spec_l02Abs.f a = some (absF a) := by
  have := mr_true h
  unfold spec_l02Abs.f absF
  by_cases h0 : a < 0
  · rw [if_pos h0, if_pos h0, w64 (by omega) (by omega)]
  · rw [if_neg h0, if_neg h0]
theorem abs_bd {a : Int} (h : mr a = true) : 0 ≤ absF a ∧ absF a ≤ 1000000000000 := by
  have := mr_true h
  unfold absF; split <;> omega
theorem mx_abs {a : Int} (h : mr a = true) : IntKind.u64.wrap (mx a (wrap64 (-a))) = absF a := by
  have := mr_true h
  rw [w64 (by omega) (by omega)]
  unfold mx absF
  by_cases h0 : a < 0
  · rw [if_pos (by omega), if_pos h0, u64in (by omega) (by omega)]
  · rw [if_neg (by omega), if_neg h0, u64in (by omega) (by omega)]
theorem prod_small {a b : Int} (ha : mr a = true) (hb : mr b = true) : wrap64 (a * b) = a * b ∨ ¬ (absF a * absF b ≤ 1000000000000) := by
  by_cases h : absF a * absF b ≤ 1000000000000
  · left
    rw [← abs_mul] at h
    unfold absF at h
    apply w64 <;> split at h <;> omega
  · right; exact h
theorem in_range (a b : Int) : (-1000000000000 ≤ a * b ∧ a * b ≤ 1000000000000) ↔ absF a * absF b ≤ 1000000000000 := by
  rw [← abs_mul]; unfold absF; split <;> omega
theorem spec_mtimes_ev (a b : Int) : Ev (fun k => spec_MoneyTimes.f k a b) (mtimesF a b) := by
  simp only [spec_MoneyTimes.f, right_is, Option.bind_some, mtimesF]
  by_cases ha : mr a = true
  · rw [if_pos ha]
    simp only [if_pos ha]
    by_cases h0 : a = 0
    · simp only [if_pos h0, if_pos (Or.inl h0 : a = 0 ∨ b = 0)]
      refine ev_succ ?_
      simp only [spec_MoneyTimes.j0, if_true]; exact Ev.now _
    · simp only [if_neg h0]
      refine ev_succ ?_
      simp only [spec_MoneyTimes.j0]
      by_cases hb0 : b = 0
      · simp only [hb0, beq_self_eq_true, if_true, or_true]; exact Ev.now _
      · have hbb : (b == 0) = false := by simpa using hb0
        rw [if_neg (show ¬ (a = 0 ∨ b = 0) by omega)]
        simp only [hbb, Bool.false_eq_true, if_false, right_is, Option.bind_some]
        by_cases hb : mr b = true
        · simp only [if_pos hb, abs_is ha, abs_is hb, Option.bind_some]
          have ka := abs_bd ha
          have kb := abs_bd hb
          have na : absF a ≠ 0 := by unfold absF; split <;> omega
          have hd : 1000000000000 / absF a ≤ 1000000000000 := Int.ediv_le_self _ (by omega)
          have hd0 : 0 ≤ 1000000000000 / absF a := Int.ediv_nonneg (by omega) (by omega)
          simp only [if_neg na, tdiv_pos (show (0 : Int) ≤ 1000000000000 by omega), w64 (a := 1000000000000 / absF a) (by omega) (by omega)]
          have hle : absF b ≤ 1000000000000 / absF a ↔ absF b * absF a ≤ 1000000000000 := Int.le_ediv_iff_mul_le (by omega)
          rw [Int.mul_comm] at hle
          by_cases hg : absF a * absF b ≤ 1000000000000
          · have h1 : ¬ absF b > 1000000000000 / absF a := by have := hle.mpr hg; omega
            have h2 := (in_range a b).mpr hg
            have h3 := (prod_small ha hb).resolve_right (fun h => h hg)
            have h4 : mr (a * b) = true := by unfold mr; simpa using h2
            simp only [if_neg h1, h3, out_is, Option.bind_some, if_pos h2, if_pos h4]; exact Ev.now _
          · have h1 : absF b > 1000000000000 / absF a := by
              by_cases h : absF b ≤ 1000000000000 / absF a
              · exact absurd (hle.mp h) hg
              · omega
            have h2 : ¬ _ := fun h => hg ((in_range a b).mp h)
            simp only [if_pos h1, if_neg h2]; exact Ev.now _
        · simp only [if_neg hb]; exact Ev.now _
  · rw [if_neg ha]
    simp only [if_neg ha]; exact Ev.now _
theorem impl_mtimes_ev (a b : Int) : Ev (fun k => impl_MoneyTimes.f k a b) (mtimesF a b) := by
  simp only [impl_MoneyTimes.f, right_same, right_is, Option.bind_some, mtimesF]
  by_cases ha : mr a = true
  · rw [if_pos ha]
    simp only [if_pos ha]
    by_cases h0 : a = 0
    · simp only [if_pos h0, if_pos (Or.inl h0 : a = 0 ∨ b = 0)]
      refine ev_succ ?_
      simp only [impl_MoneyTimes.j0, if_true]; exact Ev.now _
    · simp only [if_neg h0]
      refine ev_succ ?_
      simp only [impl_MoneyTimes.j0]
      by_cases hb0 : b = 0
      · simp only [hb0, beq_self_eq_true, if_true, or_true]; exact Ev.now _
      · have hbb : (b == 0) = false := by simpa using hb0
        rw [if_neg (show ¬ (a = 0 ∨ b = 0) by omega)]
        simp only [hbb, Bool.false_eq_true, if_false, right_same, right_is, Option.bind_some]
        by_cases hb : mr b = true
        · have ka := abs_bd ha
          have kb := abs_bd hb
          have kp := mul_bd ka.1 ka.2 kb.1 kb.2
          simp only [if_pos hb, mx_abs ha, mx_abs hb, mul64_is _ _ ka.1 (by omega) kb.1 (by omega), Option.bind_some]
          by_cases hg : absF a * absF b ≤ 1000000000000
          · have h2 := (in_range a b).mpr hg
            have h3 := (prod_small ha hb).resolve_right (fun h => h hg)
            simp only [if_neg (show ¬ absF a * absF b / 18446744073709551616 > 0 by omega), if_neg (show ¬ absF a * absF b % 18446744073709551616 > 1000000000000 by omega), h3, if_pos h2]; exact Ev.now _
          · have h2 : ¬ _ := fun h => hg ((in_range a b).mp h)
            rw [if_neg h2]
            by_cases h4 : absF a * absF b / 18446744073709551616 > 0
            · simp only [if_pos h4]; exact Ev.now _
            · simp only [if_neg h4, if_pos (show absF a * absF b % 18446744073709551616 > 1000000000000 by omega)]; exact Ev.now _
        · simp only [if_neg hb]; exact Ev.now _
  · rw [if_neg ha]
    simp only [if_neg ha]; exact Ev.now _

theorem told_is (n : Int) : impl_toldMoney.f n = spec_l02Out.f n := by
  simp only [impl_toldMoney.f, spec_l02Out.f, right_same]
theorem truth_is (b : Bool) : impl_truth.f b = spec_l09If.f b := rfl
/-- Both OpValues are one. -/
theorem opvalue_both (s : ByteArray) (a b : Int) : ∃ r : Int × Int, Ev (fun k => spec_OpValue.f k s a b) r ∧ Ev (fun k => impl_OpValue.f k s a b) r := by
  simp only [spec_OpValue.f, impl_OpValue.f]
  by_cases h0 : (s.size : Int) > 20000
  · simp only [if_pos h0]; exact ⟨_, Ev.now _, Ev.now _⟩
  · simp only [if_neg h0, right_same, right_is, Option.bind_some]
    have hj : Ev (fun k => spec_OpValue.j0 k s a b true) (0, 1) := ev_succ (by simp only [spec_OpValue.j0, if_true]; exact Ev.now _)
    by_cases ha : mr a = true
    · simp only [if_pos ha]
      by_cases hb : mr b = true
      · simp only [hb, Bool.not_true, if_true]
        have two : ∀ (g : Nat → Option (Int × Int)) (r : Int × Int), Ev g r → ∃ r, Ev g r ∧ Ev g r := fun g r h => ⟨r, h, h⟩
        have red : ∀ r, Ev (fun k => spec_OpValue.j0 (k + 1) s a b false) r → Ev (fun k => spec_OpValue.j0 k s a b false) r := fun r h => ev_succ h
        have ifs : ∀ x : Bool, ∃ r, spec_l09If.f x = some r := fun x => by unfold spec_l09If.f; split <;> exact ⟨_, rfl⟩
        simp only [told_is, truth_is, out_is, Option.bind_some]
        by_cases e1 : s.toList = ([43] : List UInt8)
        · refine ⟨((if mr (wrap64 (a + b)) = true then (wrap64 (a + b), 0) else (0, 13) : Int × Int).1, (if mr (wrap64 (a + b)) = true then (wrap64 (a + b), 0) else (0, 13) : Int × Int).2), red _ ?_, ?_⟩
          · simp only [spec_OpValue.j0, Bool.false_eq_true, if_false, if_pos e1, out_is, Option.bind_some]; exact Ev.now _
          · simp only [if_pos e1]; exact Ev.now _
        · simp only [if_neg e1]
          by_cases e2 : s.toList = ([45] : List UInt8)
          · refine ⟨((if mr (wrap64 (a - b)) = true then (wrap64 (a - b), 0) else (0, 13) : Int × Int).1, (if mr (wrap64 (a - b)) = true then (wrap64 (a - b), 0) else (0, 13) : Int × Int).2), red _ ?_, ?_⟩
            · simp only [spec_OpValue.j0, Bool.false_eq_true, if_false, if_neg e1, if_pos e2, out_is, Option.bind_some]; exact Ev.now _
            · simp only [if_pos e2]; exact Ev.now _
          · simp only [if_neg e2]
            by_cases e3 : s.toList = ([42] : List UInt8)
            · refine ⟨((mtimesF a b).1, (mtimesF a b).2), red _ ?_, ?_⟩
              · simp only [spec_OpValue.j0, Bool.false_eq_true, if_false, if_neg e1, if_neg e2, if_pos e3]
                exact Ev.bind (spec_mtimes_ev a b) (Ev.now _)
              · simp only [if_pos e3]
                exact Ev.bind (impl_mtimes_ev a b) (Ev.now _)
            · simp only [if_neg e3]
              have fin : ∃ r, Ev (fun k => spec_OpValue.j0 (k + 1) s a b false) r ∧ Ev (fun _ => if s.toList = ([60] : List UInt8) then ((spec_l09If.f (decide (a < b))).bind fun bt154 => (some (bt154.1, bt154.2))) else (if s.toList = ([60, 61] : List UInt8) then ((spec_l09If.f (decide (a ≤ b))).bind fun bt156 => (some (bt156.1, bt156.2))) else (if s.toList = ([61] : List UInt8) then ((spec_l09If.f (a == b)).bind fun bt158 => (some (bt158.1, bt158.2))) else (if s.toList = ([97, 110, 100] : List UInt8) then (if a = 1 then ((spec_l09If.f (b == 1)).bind fun bt160 => (some (bt160.1, bt160.2))) else ((spec_l09If.f false).bind fun bt162 => (some (bt162.1, bt162.2)))) else (if s.toList = ([111, 114] : List UInt8) then (if a = 1 then ((spec_l09If.f true).bind fun bt164 => (some (bt164.1, bt164.2))) else ((spec_l09If.f (b == 1)).bind fun bt166 => (some (bt166.1, bt166.2)))) else (some (0, 6))))))) r := by
                simp only [spec_OpValue.j0, Bool.false_eq_true, if_false, if_neg e1, if_neg e2, if_neg e3]
                have alls : ∀ (o : Option (Int × Int)), (∃ r, o = some r) → ∃ r, Ev (fun _ => o) r ∧ Ev (fun _ => o) r := fun o ⟨r, h⟩ => ⟨r, ev_const h, ev_const h⟩
                apply alls
                have one : ∀ x : Bool, ∃ r, ((spec_l09If.f x).bind fun bt154 => (some (bt154.1, bt154.2))) = some r := fun x => by obtain ⟨r, h⟩ := ifs x; exact ⟨_, by rw [h]; rfl⟩
                split
                · exact one _
                · split
                  · exact one _
                  · split
                    · exact one _
                    · split
                      · split <;> exact one _
                      · split
                        · split <;> exact one _
                        · exact ⟨_, rfl⟩
              obtain ⟨r, q1, q2⟩ := fin
              exact ⟨r, red _ q1, q2⟩
      · simp only [hb, Bool.not_false, Bool.false_eq_true, if_false]; exact ⟨_, hj, Ev.now _⟩
    · simp only [if_neg ha]; exact ⟨_, hj, Ev.now _⟩

theorem FnExactOpValue : laws_FnExactOpValue.Pure := by
  intro s a b _ _ _
  refine Ev.rounds (g := fun k => laws_FnExactOpValue.f k s a b) ?_
  simp only [laws_FnExactOpValue.f]
  by_cases h1 : (s.size : Int) > 1048576
  · simp only [if_pos h1]; exact Ev.now _
  · simp only [if_neg h1]
    obtain ⟨r, e1, e2⟩ := opvalue_both s a b
    refine Ev.bind e1 ?_
    refine Ev.bind e2 ?_
    simp only [laws_eqMoneyOut.f, if_true, Option.bind_some]; exact Ev.now _

end Go.Proofs.Ytkffeaggiegfkaa.Pure
