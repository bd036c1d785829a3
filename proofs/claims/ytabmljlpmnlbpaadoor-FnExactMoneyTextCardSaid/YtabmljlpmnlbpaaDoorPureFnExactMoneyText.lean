/- At every number the program's MoneyText is the reference's MoneyText. The row lists tables of Go's library; the card ties them. -/
import Derived.Test.YtabmljlpmnlbpaaDoorPFnExactMoneyTextx1
import Derived.Test.YtabmljlpmnlbpaaDoorQLib
namespace Go.Proofs.YtabmljlpmnlbpaaDoor.Pure
set_option linter.unusedSimpArgs false
set_option linter.unusedVariables false
open Go.RowKit Go.Proofs.YtabmljlpmnlbpaaDoor.PFnExactMoneyText Go.Proofs.YtabmljlpmnlbpaaDoorW.PrintWords Go.Proofs.YtabmljlpmnlbpaaDoorW.PrintLast Go.Proofs.YtabmljlpmnlbpaaDoorW.PrintMore
open Go.Proofs.YtabmljlpmnlbpaaDoor.Q
def decB (u : Nat) : ByteArray := ⟨(Lib.decDigits u).toArray⟩
theorem dec_small {u : Nat} (h : u < 10) : Lib.decDigits u = [UInt8.ofNat (48 + u)] := by rw [Lib.decDigits, dif_pos h]
theorem dec_step {u : Nat} (h : ¬ u < 10) : Lib.decDigits u = Lib.decDigits (u / 10) ++ [UInt8.ofNat (48 + u % 10)] := by rw [Lib.decDigits, dif_neg h]
theorem dec_len : ∀ (d u : Nat), 1 ≤ d → u < 10 ^ d → (Lib.decDigits u).length ≤ d ∧ 1 ≤ (Lib.decDigits u).length := by
  intro d
  induction d with
  | zero => intro u h; omega
  | succ d ih =>
    intro u h hu
    by_cases h1 : u < 10
    · rw [dec_small h1]; simp
    · rw [dec_step h1, List.length_append, List.length_singleton]
      have hd : 1 ≤ d := by
        rcases Nat.eq_zero_or_pos d with q | q
        · subst q; simp at hu; omega
        · exact q
      have := ih (u / 10) hd (by rw [Nat.pow_succ] at hu; omega)
      omega
theorem decB_size (u : Nat) (h : u < 10 ^ 19) : (decB u).size ≤ 19 ∧ 1 ≤ (decB u).size := by
  have e : (decB u).size = (Lib.decDigits u).length := by simp [decB, ByteArray.size]
  rw [e]; exact dec_len 19 u (by omega) h
theorem ba_ext {a b : ByteArray} (h : a.data.toList = b.data.toList) : a = b := ByteArray.ext (Array.toList_inj.1 h)
theorem implDec (u : Nat) (h : u ≤ 4611686018427387904) : impl_dec.f (u : Int) = some (decB u) := by
  unfold impl_dec.f strconv_FormatInt.f
  rw [if_pos ⟨rfl, by omega, by omega⟩, Option.bind_some, Lib.itoa_nonneg]; rfl
theorem dig_str (u : Nat) : (strOfNums [(wrap64 (48 + (Int.tmod (u : Int) 10))) % 256]).data.toList = [UInt8.ofNat (48 + u % 10)] := by
  rw [tmod_pos (show (0 : Int) ≤ (u : Int) by omega), w64 (by omega) (by omega), strOfNums_data]
  simp only [List.map_cons, List.map_nil]
  congr 2
  omega
theorem sdec_l0 : ∀ (d u : Nat) (x : ByteArray), u < 10 ^ d → u ≤ 4611686018427387904 → x.size + d ≤ 1000 → Ev (fun k => spec_l01Dec.l0 k (u : Int) false x) (if u = 0 then x else decB u ++ x) := by
  intro d
  induction d with
  | zero =>
    intro u x h hb hs
    have hu : u = 0 := by simp at h; omega
    subst hu
    refine ev_succ ?_
    simp only [spec_l01Dec.l0, if_pos (show ((0 : Nat) : Int) = 0 from rfl), Bool.false_eq_true, if_false, if_true]
    exact Ev.now _
  | succ d ih =>
    intro u x h hb hs
    by_cases h0 : u = 0
    · subst h0
      refine ev_succ ?_
      simp only [spec_l01Dec.l0, if_pos (show ((0 : Nat) : Int) = 0 from rfl), Bool.false_eq_true, if_false, if_true]
      exact Ev.now _
    · rw [if_neg h0]
      refine ev_succ ?_
      have ht : Int.tmod (u : Int) 10 = (u : Int) % 10 := tmod_pos (by omega)
      have hq : wrap64 (Int.tdiv (u : Int) 10) = ((u / 10 : Nat) : Int) := by rw [tdiv_pos (by omega), w64 (by omega) (by omega)]; omega
      have ds := dig_str u
      have hsz : (strOfNums [(wrap64 (48 + (Int.tmod (u : Int) 10))) % 256]).size = 1 := by rw [strOfNums_size]; rfl
      simp only [spec_l01Dec.l0, if_neg (show ¬ (u : Int) = 0 by omega), if_neg (show ¬ Int.tmod (u : Int) 10 < 0 by rw [ht]; omega), Option.bind_some, hq]
      generalize strOfNums [(wrap64 (48 + (Int.tmod (u : Int) 10))) % 256] = S at ds hsz
      refine ev_pos (by omega) ?_
      have e := ih (u / 10) (S ++ x) (by rw [Nat.pow_succ] at h; omega) (by omega) (by rw [ByteArray.size_append]; omega)
      have fin : (if u / 10 = 0 then S ++ x else decB (u / 10) ++ (S ++ x)) = decB u ++ x := by
        by_cases h1 : u < 10
        · rw [if_pos (by omega)]
          apply ba_ext
          simp only [ByteArray.data_append, Array.toList_append, ds]
          rw [show (decB u).data.toList = [UInt8.ofNat (48 + u)] by simp [decB, dec_small h1], Nat.mod_eq_of_lt h1]
        · rw [if_neg (by omega)]
          apply ba_ext
          simp only [ByteArray.data_append, Array.toList_append, ds]
          rw [show (decB u).data.toList = (decB (u / 10)).data.toList ++ [UInt8.ofNat (48 + u % 10)] by simp [decB, dec_step h1], List.append_assoc]
      rw [fin] at e
      exact e
theorem sdec_ev (u : Nat) (h : u ≤ 4611686018427387904) : Ev (fun k => spec_l01Dec.f k (u : Int)) (decB u) := by
  by_cases h0 : u = 0
  · subst h0
    simp only [spec_l01Dec.f, if_pos (show ((0 : Nat) : Int) = 0 from rfl)]
    have : (⟨#[48]⟩ : ByteArray) = decB 0 := ba_ext (by simp [decB, dec_small])
    rw [this]; exact Ev.now _
  · have e := sdec_l0 19 u ⟨#[]⟩ (by omega) h (by simp [ByteArray.size])
    rw [if_neg h0] at e
    have e2 : decB u ++ (⟨#[]⟩ : ByteArray) = decB u := ba_ext (by simp)
    rw [e2] at e
    simp only [spec_l01Dec.f, if_neg (show ¬ (u : Int) = 0 by omega), decide_eq_false (show ¬ (u : Int) < 0 by omega)]
    exact e
/-- A text with noughts ahead of it, so that it has so many signs. -/
def padT (m : Nat) (x : ByteArray) : ByteArray := (⟨(List.replicate (m - x.size) (48 : UInt8)).toArray⟩ : ByteArray) ++ x
theorem repB_size (n : Nat) : (⟨(List.replicate n (48 : UInt8)).toArray⟩ : ByteArray).size = n := by
  show (List.replicate n (48 : UInt8)).toArray.size = n
  rw [List.size_toArray, List.length_replicate]
theorem padT_size (m : Nat) (x : ByteArray) : (padT m x).size = (m - x.size) + x.size := by
  unfold padT
  rw [ByteArray.size_append, repB_size]
theorem sdig_l0 (m : Nat) (hm : m ≤ 100) : ∀ (d : Nat) (x : ByteArray), m - x.size = d → x.size ≤ 1000 → Ev (fun k => spec_l02Digits.l0 k (m : Int) x) (padT m x) := by
  intro d
  induction d with
  | zero =>
    intro x hd hx
    refine ev_succ ?_
    simp only [spec_l02Digits.l0]
    refine ev_neg (show ¬ (x.size : Int) < (m : Int) by omega) ?_
    have : padT m x = x := by unfold padT; rw [hd]; exact ba_ext (by simp)
    rw [this]; exact Ev.now _
  | succ d ih =>
    intro x hd hx
    refine ev_succ ?_
    simp only [spec_l02Digits.l0]
    refine ev_pos (show (x.size : Int) < (m : Int) by omega) (ev_pos (by omega) ?_)
    have hs : ((⟨#[48]⟩ : ByteArray) ++ x).size = 1 + x.size := by rw [ByteArray.size_append]; rfl
    have e := ih ((⟨#[48]⟩ : ByteArray) ++ x) (by omega) (by omega)
    have e2 : padT m ((⟨#[48]⟩ : ByteArray) ++ x) = padT m x := by
      unfold padT
      rw [hs, show m - (1 + x.size) = d by omega, hd]
      apply ba_ext
      simp only [ByteArray.data_append, Array.toList_append, List.replicate_succ', List.append_assoc]
    rw [e2] at e
    exact e
theorem sdig_ev (u m : Nat) (h : u ≤ 4611686018427387904) (hm : m ≤ 100) : Ev (fun k => spec_l02Digits.f k (u : Int) (m : Int)) (padT m (decB u)) := by
  have hs := decB_size u (by omega)
  simp only [spec_l02Digits.f]
  exact Ev.bind (sdec_ev u h) (sdig_l0 m hm _ _ rfl (by omega))
theorem rep48 : ∀ c, Lib.repeatL [48] c = List.replicate c (48 : UInt8)
  | 0 => rfl
  | c + 1 => by rw [Lib.repeatL, rep48 c, List.replicate_succ]; rfl
theorem implPad (u m : Nat) (h : u ≤ 4611686018427387904) (hm : m ≤ 100) : impl_padded.f (u : Int) (m : Int) = some (padT m (decB u)) := by
  have hs := decB_size u (by omega)
  unfold impl_padded.f strings_Repeat.f
  rw [implDec u h, Option.bind_some, w64 (by omega) (by omega)]
  have hmx : mx ((m : Int) - ((decB u).size : Int)) 0 = ((m - (decB u).size : Nat) : Int) := by unfold mx; split <;> omega
  have hz : (⟨#[48]⟩ : ByteArray).size = 1 := rfl
  rw [hmx, if_pos ⟨by omega, by omega, by rw [hz, Int.toNat_natCast]; omega⟩, Option.bind_some, Int.toNat_natCast]
  have e : (⟨(Lib.repeatL (⟨#[48]⟩ : ByteArray).data.toList (m - (decB u).size)).toArray⟩ : ByteArray) = (⟨(List.replicate (m - (decB u).size) (48 : UInt8)).toArray⟩ : ByteArray) := by
    rw [← rep48]
  rw [e, if_pos (by rw [repB_size]; omega)]
  rfl

theorem right_same (a : Int) : impl_MoneyRight.f a = spec_MoneyRight.f a := by
  simp only [spec_MoneyRight.f, impl_MoneyRight.f, impl_in.f, ge_iff_le]
  by_cases h1 : (-1000000000000 : Int) ≤ a
  · simp only [if_pos h1, Option.bind_some]
  · simp only [if_neg h1, Option.bind_some]
/-- Is it money? -/
def mr (a : Int) : Bool := decide (-1000000000000 ≤ a ∧ a ≤ 1000000000000)
theorem right_is (a : Int) : spec_MoneyRight.f a = some (mr a) := by
  simp only [spec_MoneyRight.f, ge_iff_le, mr]
  by_cases h1 : (-1000000000000 : Int) ≤ a
  · simp [h1]
  · simp [h1]

/-- A sum as it is written, without its sign. -/
def sumB (u : Nat) : ByteArray := (decB (u / 100) ++ (⟨#[46]⟩ : ByteArray)) ++ padT 2 (decB (u % 100))
theorem one_size2 (c : UInt8) : (⟨#[c]⟩ : ByteArray).size = 1 := rfl
/-- A sum as it is written. -/
def moneyB (n : Int) : ByteArray := if n < 0 then (⟨#[45]⟩ : ByteArray) ++ sumB n.natAbs else sumB n.natAbs
theorem abs_is (n : Int) (h : -1000000000000 ≤ n) (h2 : n ≤ 1000000000000) : spec_l02Abs.f n = some (n.natAbs : Int) := by
  unfold spec_l02Abs.f
  by_cases h0 : n < 0
  · rw [if_pos h0, w64 (by omega) (by omega)]; congr 1; omega
  · rw [if_neg h0]; congr 1; omega
theorem sumB_size (u : Nat) (h : u ≤ 1000000000000) : (sumB u).size ≤ 200 := by
  have s1 := decB_size (u / 100) (by omega)
  have s2 := decB_size (u % 100) (by omega)
  have s3 := padT_size 2 (decB (u % 100))
  unfold sumB
  rw [ByteArray.size_append, ByteArray.size_append, one_size2]; omega
theorem smoney_ev (n : Int) (h : -1000000000000 ≤ n) (h2 : n ≤ 1000000000000) : Ev (fun k => spec_MoneyText.f k n) (moneyB n) := by
  have hu : n.natAbs ≤ 1000000000000 := by omega
  have s1 := decB_size (n.natAbs / 100) (by omega)
  have s2 := decB_size (n.natAbs % 100) (by omega)
  have s3 := padT_size 2 (decB (n.natAbs % 100))
  have hd : wrap64 (Int.tdiv (n.natAbs : Int) 100) = ((n.natAbs / 100 : Nat) : Int) := by rw [tdiv_pos (by omega), w64 (by omega) (by omega)]; omega
  have hr : Int.tmod (n.natAbs : Int) 100 = ((n.natAbs % 100 : Nat) : Int) := by rw [tmod_pos (by omega)]; omega
  have hm : mr n = true := decide_eq_true ⟨h, h2⟩
  unfold spec_MoneyText.f
  refine ev_cbind (right_is n) (ev_pos hm (ev_cbind (abs_is n h h2) ?_))
  rw [hd]
  refine Ev.bind (sdec_ev (n.natAbs / 100) (by omega)) (ev_pos (by omega) (ev_cbind (abs_is n h h2) ?_))
  rw [hr]
  refine Ev.bind (sdig_ev (n.natAbs % 100) 2 (by omega) (by omega)) (ev_pos (by rw [ByteArray.size_append, one_size2]; omega) ?_)
  have hz := sumB_size n.natAbs hu
  unfold moneyB
  unfold sumB at hz ⊢
  by_cases h0 : n < 0
  · simp only [if_pos h0]
    refine ev_pos ?_ (Ev.now _)
    exact Nat.le_trans (Nat.add_le_add_left hz 1) (by decide)
  · simp only [if_neg h0]; exact Ev.now _
theorem mx_abs (n : Int) (h : -1000000000000 ≤ n) (h2 : n ≤ 1000000000000) : mx n (wrap64 (-n)) = (n.natAbs : Int) := by
  rw [w64 (by omega) (by omega)]
  unfold mx; split <;> omega
theorem imoney (n : Int) (h : -1000000000000 ≤ n) (h2 : n ≤ 1000000000000) : impl_MoneyText.f n = some (moneyB n) := by
  have hu : n.natAbs ≤ 1000000000000 := by omega
  have s1 := decB_size (n.natAbs / 100) (by omega)
  have s2 := decB_size (n.natAbs % 100) (by omega)
  have s3 := padT_size 2 (decB (n.natAbs % 100))
  have hd : wrap64 (Int.tdiv (n.natAbs : Int) 100) = ((n.natAbs / 100 : Nat) : Int) := by rw [tdiv_pos (by omega), w64 (by omega) (by omega)]; omega
  have hr : Int.tmod (n.natAbs : Int) 100 = ((n.natAbs % 100 : Nat) : Int) := by rw [tmod_pos (by omega)]; omega
  have hm : mr n = true := decide_eq_true ⟨h, h2⟩
  have hi : impl_MoneyRight.f n = some true := by rw [right_same, right_is, hm]
  have e0 : (⟨#[]⟩ : ByteArray).size = 0 := rfl
  have i1 := implDec (n.natAbs / 100) (by omega)
  have i2 := implPad (n.natAbs % 100) 2 (by omega) (by omega)
  have e2 : ((2 : Nat) : Int) = 2 := rfl
  rw [e2] at i2
  unfold impl_MoneyText.f moneyB sumB
  simp only [hi, Option.bind_some, if_true, mx_abs n h h2, hd, hr, i1, i2]
  by_cases h0 : n < 0
  · simp only [if_pos h0]
    rw [if_pos (by omega), if_pos (by rw [ByteArray.size_append, one_size2]; omega), if_pos (by rw [ByteArray.size_append, ByteArray.size_append, one_size2, one_size2]; omega)]
    refine congrArg some (ba_ext ?_)
    simp only [ByteArray.data_append, Array.toList_append, List.append_assoc]
  · simp only [if_neg h0]
    rw [if_pos (by omega), if_pos (by rw [ByteArray.size_append, e0]; omega), if_pos (by rw [ByteArray.size_append, ByteArray.size_append, e0, one_size2]; omega)]
    refine congrArg some (ba_ext ?_)
    simp only [ByteArray.data_append, Array.toList_append, List.append_assoc, List.nil_append]
theorem money_out (n : Int) (h : ¬ (-1000000000000 ≤ n ∧ n ≤ 1000000000000)) (k : Nat) : spec_MoneyText.f k n = some ⟨#[]⟩ ∧ impl_MoneyText.f n = some ⟨#[]⟩ := by
  have hm : mr n = false := decide_eq_false h
  constructor
  · simp only [spec_MoneyText.f, right_is, hm, Option.bind_some, Bool.false_eq_true, if_false]
  · simp only [impl_MoneyText.f, right_same, right_is, hm, Option.bind_some, Bool.false_eq_true, if_false]

theorem FnExactMoneyText : laws_FnExactMoneyText.Pure := by
  intro n hn
  refine Ev.rounds (g := fun k => laws_FnExactMoneyText.f k n) ?_
  simp only [laws_FnExactMoneyText.f]
  by_cases h : -1000000000000 ≤ n ∧ n ≤ 1000000000000
  · refine Ev.bind (smoney_ev n h.1 h.2) ?_
    simp only [imoney n h.1 h.2, Option.bind_some, if_true]; exact Ev.now _
  · refine Ev.bind (a := ⟨#[]⟩) ⟨0, fun k _ => (money_out n h k).1⟩ ?_
    simp only [(money_out n h 0).2, Option.bind_some, if_true]; exact Ev.now _

end Go.Proofs.YtabmljlpmnlbpaaDoor.Pure
