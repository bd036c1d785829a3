/- FnMoney: what is drawn is added, told and read again alike. The row lists variables of Go's library; the card ties them. -/
import Derived.Test.YtabmljlpmnlbpaaDoorPFnMoneyx7
import Derived.Test.YtabmljlpmnlbpaaDoorQLib
namespace Go.Proofs.YtabmljlpmnlbpaaDoor.Pure
set_option linter.unusedSimpArgs false
set_option linter.unusedVariables false
open Go.RowKit Go.Proofs.YtabmljlpmnlbpaaDoor.PFnMoney Go.Proofs.YtabmljlpmnlbpaaDoorW.PrintWords Go.Proofs.YtabmljlpmnlbpaaDoorW.PrintLast Go.Proofs.YtabmljlpmnlbpaaDoorW.PrintMore
open Go.Proofs.YtabmljlpmnlbpaaDoor.Q
def decB (u : Nat) : ByteArray := ⟨(Lib.decDigits u).toArray⟩
theorem dec_small {u : Nat} (h : u < 10) : Lib.decDigits u = [UInt8.ofNat (48 + u)] := by rw [Lib.decDigits, dif_pos h]
theorem dec_step {u : Nat} (h : ¬ u < 10) : Lib.decDigits u = Lib.decDigits (u / 10) ++ [UInt8.ofNat (48 + u % 10)] := by rw [Lib.decDigits, dif_neg h]
theorem dec_len : ∀ (d u : Nat), 1 ≤ d → u < 10 ^ d → (Lib.decDigits u).length ≤ d ∧ 1 ≤ (Lib.decDigits u).length := by
  intro d
  induction d with
  | zero => intro u h; omega
  | succ d ih =>
    intro u h hu
    by_cases h1 : u < 10
    · rw [dec_small h1]; simp
    · rw [dec_step h1, List.length_append, List.length_singleton]
      have hd : 1 ≤ d := by
        rcases Nat.eq_zero_or_pos d with q | q
        · subst q; simp at hu; omega
        · exact q
      have := ih (u / 10) hd (by rw [Nat.pow_succ] at hu; omega)
      omega
theorem decB_size (u : Nat) (h : u < 10 ^ 19) : (decB u).size ≤ 19 ∧ 1 ≤ (decB u).size := by
  have e : (decB u).size = (Lib.decDigits u).length := by simp [decB, ByteArray.size]
  rw [e]; exact dec_len 19 u (by omega) h
theorem ba_ext {a b : ByteArray} (h : a.data.toList = b.data.toList) : a = b := ByteArray.ext (Array.toList_inj.1 h)
theorem implDec (u : Nat) (h : u ≤ 4611686018427387904) : impl_dec.f (u : Int) = some (decB u) := by
  unfold impl_dec.f strconv_FormatInt.f
  rw [if_pos ⟨rfl, by omega, by omega⟩, Option.bind_some, Lib.itoa_nonneg]; rfl
theorem dig_str (u : Nat) : (strOfNums [(wrap64 (48 + (Int.tmod (u : Int) 10))) % 256]).data.toList = [UInt8.ofNat (48 + u % 10)] := by
  rw [tmod_pos (show (0 : Int) ≤ (u : Int) by omega), w64 (by omega) (by omega), strOfNums_data]
  simp only [List.map_cons, List.map_nil]
  congr 2
  omega
theorem sdec_l0 : ∀ (d u : Nat) (x : ByteArray), u < 10 ^ d → u ≤ 4611686018427387904 → x.size + d ≤ 1000 → Ev (fun k => spec_l01Dec.l0 k (u : Int) false x) (if u = 0 then x else decB u ++ x) := by
  intro d
  induction d with
  | zero =>
    intro u x h hb hs
    have hu : u = 0 := by simp at h; omega
    subst hu
    refine ev_succ ?_
    simp only [spec_l01Dec.l0, if_pos (show ((0 : Nat) : Int) = 0 from rfl), Bool.false_eq_true, if_false, if_true]
    exact Ev.now _
  | succ d ih =>
    intro u x h hb hs
    by_cases h0 : u = 0
    · subst h0
      refine ev_succ ?_
      simp only [spec_l01Dec.l0, if_pos (show ((0 : Nat) : Int) = 0 from rfl), Bool.false_eq_true, if_false, if_true]
      exact Ev.now _
    · rw [if_neg h0]
      refine ev_succ ?_
      have ht : Int.tmod (u : Int) 10 = (u : Int) % 10 := tmod_pos (by omega)
      have hq : wrap64 (Int.tdiv (u : Int) 10) = ((u / 10 : Nat) : Int) := by rw [tdiv_pos (by omega), w64 (by omega) (by omega)]; omega
      have ds := dig_str u
      have hsz : (strOfNums [(wrap64 (48 + (Int.tmod (u : Int) 10))) % 256]).size = 1 := by rw [strOfNums_size]; rfl
      simp only [spec_l01Dec.l0, if_neg (show ¬ (u : Int) = 0 by omega), if_neg (show ¬ Int.tmod (u : Int) 10 < 0 by rw [ht]; omega), Option.bind_some, hq]
      generalize strOfNums [(wrap64 (48 + (Int.tmod (u : Int) 10))) % 256] = S at ds hsz
      refine ev_pos (by omega) ?_
      have e := ih (u / 10) (S ++ x) (by rw [Nat.pow_succ] at h; omega) (by omega) (by rw [ByteArray.size_append]; omega)
      have fin : (if u / 10 = 0 then S ++ x else decB (u / 10) ++ (S ++ x)) = decB u ++ x := by
        by_cases h1 : u < 10
        · rw [if_pos (by omega)]
          apply ba_ext
          simp only [ByteArray.data_append, Array.toList_append, ds]
          rw [show (decB u).data.toList = [UInt8.ofNat (48 + u)] by simp [decB, dec_small h1], Nat.mod_eq_of_lt h1]
        · rw [if_neg (by omega)]
          apply ba_ext
          simp only [ByteArray.data_append, Array.toList_append, ds]
          rw [show (decB u).data.toList = (decB (u / 10)).data.toList ++ [UInt8.ofNat (48 + u % 10)] by simp [decB, dec_step h1], List.append_assoc]
      rw [fin] at e
      exact e
theorem sdec_ev (u : Nat) (h : u ≤ 4611686018427387904) : Ev (fun k => spec_l01Dec.f k (u : Int)) (decB u) := by
  by_cases h0 : u = 0
  · subst h0
    simp only [spec_l01Dec.f, if_pos (show ((0 : Nat) : Int) = 0 from rfl)]
    have : (⟨#[48]⟩ : ByteArray) = decB 0 := ba_ext (by simp [decB, dec_small])
    rw [this]; exact Ev.now _
  · have e := sdec_l0 19 u ⟨#[]⟩ (by omega) h (by simp [ByteArray.size])
    rw [if_neg h0] at e
    have e2 : decB u ++ (⟨#[]⟩ : ByteArray) = decB u := ba_ext (by simp)
    rw [e2] at e
    simp only [spec_l01Dec.f, if_neg (show ¬ (u : Int) = 0 by omega), decide_eq_false (show ¬ (u : Int) < 0 by omega)]
    exact e
/-- A text with noughts ahead of it, so that it has so many signs. -/
def padT (m : Nat) (x : ByteArray) : ByteArray := (⟨(List.replicate (m - x.size) (48 : UInt8)).toArray⟩ : ByteArray) ++ x
theorem repB_size (n : Nat) : (⟨(List.replicate n (48 : UInt8)).toArray⟩ : ByteArray).size = n := by
  show (List.replicate n (48 : UInt8)).toArray.size = n
  rw [List.size_toArray, List.length_replicate]
theorem padT_size (m : Nat) (x : ByteArray) : (padT m x).size = (m - x.size) + x.size := by
  unfold padT
  rw [ByteArray.size_append, repB_size]
theorem sdig_l0 (m : Nat) (hm : m ≤ 100) : ∀ (d : Nat) (x : ByteArray), m - x.size = d → x.size ≤ 1000 → Ev (fun k => spec_l02Digits.l0 k (m : Int) x) (padT m x) := by
  intro d
  induction d with
  | zero =>
    intro x hd hx
    refine ev_succ ?_
    simp only [spec_l02Digits.l0]
    refine ev_neg (show ¬ (x.size : Int) < (m : Int) by omega) ?_
    have : padT m x = x := by unfold padT; rw [hd]; exact ba_ext (by simp)
    rw [this]; exact Ev.now _
  | succ d ih =>
    intro x hd hx
    refine ev_succ ?_
    simp only [spec_l02Digits.l0]
    refine ev_pos (show (x.size : Int) < (m : Int) by omega) (ev_pos (by omega) ?_)
    have hs : ((⟨#[48]⟩ : ByteArray) ++ x).size = 1 + x.size := by rw [ByteArray.size_append]; rfl
    have e := ih ((⟨#[48]⟩ : ByteArray) ++ x) (by omega) (by omega)
    have e2 : padT m ((⟨#[48]⟩ : ByteArray) ++ x) = padT m x := by
      unfold padT
      rw [hs, show m - (1 + x.size) = d by omega, hd]
      apply ba_ext
      simp only [ByteArray.data_append, Array.toList_append, List.replicate_succ', List.append_assoc]
    rw [e2] at e
    exact e
theorem sdig_ev (u m : Nat) (h : u ≤ 4611686018427387904) (hm : m ≤ 100) : Ev (fun k => spec_l02Digits.f k (u : Int) (m : Int)) (padT m (decB u)) := by
  have hs := decB_size u (by omega)
  simp only [spec_l02Digits.f]
  exact Ev.bind (sdec_ev u h) (sdig_l0 m hm _ _ rfl (by omega))
theorem rep48 : ∀ c, Lib.repeatL [48] c = List.replicate c (48 : UInt8)
  | 0 => rfl
  | c + 1 => by rw [Lib.repeatL, rep48 c, List.replicate_succ]; rfl
theorem implPad (u m : Nat) (h : u ≤ 4611686018427387904) (hm : m ≤ 100) : impl_padded.f (u : Int) (m : Int) = some (padT m (decB u)) := by
  have hs := decB_size u (by omega)
  unfold impl_padded.f strings_Repeat.f
  rw [implDec u h, Option.bind_some, w64 (by omega) (by omega)]
  have hmx : mx ((m : Int) - ((decB u).size : Int)) 0 = ((m - (decB u).size : Nat) : Int) := by unfold mx; split <;> omega
  have hz : (⟨#[48]⟩ : ByteArray).size = 1 := rfl
  rw [hmx, if_pos ⟨by omega, by omega, by rw [hz, Int.toNat_natCast]; omega⟩, Option.bind_some, Int.toNat_natCast]
  have e : (⟨(Lib.repeatL (⟨#[48]⟩ : ByteArray).data.toList (m - (decB u).size)).toArray⟩ : ByteArray) = (⟨(List.replicate (m - (decB u).size) (48 : UInt8)).toArray⟩ : ByteArray) := by
    rw [← rep48]
  rw [e, if_pos (by rw [repB_size]; omega)]
  rfl

theorem right_same (a : Int) : impl_MoneyRight.f a = spec_MoneyRight.f a := by
  simp only [spec_MoneyRight.f, impl_MoneyRight.f, impl_in.f, ge_iff_le]
  by_cases h1 : (-1000000000000 : Int) ≤ a
  · simp only [if_pos h1, Option.bind_some]
  · simp only [if_neg h1, Option.bind_some]
/-- Is it money? -/
def mr (a : Int) : Bool := decide (-1000000000000 ≤ a ∧ a ≤ 1000000000000)
theorem right_is (a : Int) : spec_MoneyRight.f a = some (mr a) := by
  simp only [spec_MoneyRight.f, ge_iff_le, mr]
  by_cases h1 : (-1000000000000 : Int) ≤ a
  · simp [h1]
  · simp [h1]

/-- A sum as it is written, without its sign. -/
def sumB (u : Nat) : ByteArray := (decB (u / 100) ++ (⟨#[46]⟩ : ByteArray)) ++ padT 2 (decB (u % 100))
theorem one_size2 (c : UInt8) : (⟨#[c]⟩ : ByteArray).size = 1 := rfl
/-- A sum as it is written. -/
def moneyB (n : Int) : ByteArray := if n < 0 then (⟨#[45]⟩ : ByteArray) ++ sumB n.natAbs else sumB n.natAbs
theorem abs_is (n : Int) (h : -1000000000000 ≤ n) (h2 : n ≤ 1000000000000) : spec_l02Abs.f n = some (n.natAbs : Int) := by
  unfold spec_l02Abs.f
  by_cases h0 : n < 0
  · rw [if_pos h0, w64 (by omega) (by omega)]; congr 1; omega
  · rw [if_neg h0]; congr 1; omega
theorem sumB_size (u : Nat) (h : u ≤ 1000000000000) : (sumB u).size ≤ 200 := by
  have s1 := decB_size (u / 100) (by omega)
  have s2 := decB_size (u % 100) (by omega)
  have s3 := padT_size 2 (decB (u % 100))
  unfold sumB
  rw [ByteArray.size_append, ByteArray.size_append, one_size2]; omega
theorem smoney_ev (n : Int) (h : -1000000000000 ≤ n) (h2 : n ≤ 1000000000000) : Ev (fun k => spec_MoneyText.f k n) (moneyB n) := by
  have hu : n.natAbs ≤ 1000000000000 := by omega
  have s1 := decB_size (n.natAbs / 100) (by omega)
  have s2 := decB_size (n.natAbs % 100) (by omega)
  have s3 := padT_size 2 (decB (n.natAbs % 100))
  have hd : wrap64 (Int.tdiv (n.natAbs : Int) 100) = ((n.natAbs / 100 : Nat) : Int) := by rw [tdiv_pos (by omega), w64 (by omega) (by omega)]; omega
  have hr : Int.tmod (n.natAbs : Int) 100 = ((n.natAbs % 100 : Nat) : Int) := by rw [tmod_pos (by omega)]; omega
  have hm : mr n = true := decide_eq_true ⟨h, h2⟩
  unfold spec_MoneyText.f
  refine ev_cbind (right_is n) (ev_pos hm (ev_cbind (abs_is n h h2) ?_))
  rw [hd]
  refine Ev.bind (sdec_ev (n.natAbs / 100) (by omega)) (ev_pos (by omega) (ev_cbind (abs_is n h h2) ?_))
  rw [hr]
  refine Ev.bind (sdig_ev (n.natAbs % 100) 2 (by omega) (by omega)) (ev_pos (by rw [ByteArray.size_append, one_size2]; omega) ?_)
  have hz := sumB_size n.natAbs hu
  unfold moneyB
  unfold sumB at hz ⊢
  by_cases h0 : n < 0
  · simp only [if_pos h0]
    refine ev_pos ?_ (Ev.now _)
    exact Nat.le_trans (Nat.add_le_add_left hz 1) (by decide)
  · simp only [if_neg h0]; exact Ev.now _
theorem mx_abs (n : Int) (h : -1000000000000 ≤ n) (h2 : n ≤ 1000000000000) : mx n (wrap64 (-n)) = (n.natAbs : Int) := by
  rw [w64 (by omega) (by omega)]
  unfold mx; split <;> omega
theorem imoney (n : Int) (h : -1000000000000 ≤ n) (h2 : n ≤ 1000000000000) : impl_MoneyText.f n = some (moneyB n) := by
  have hu : n.natAbs ≤ 1000000000000 := by omega
  have s1 := decB_size (n.natAbs / 100) (by omega)
  have s2 := decB_size (n.natAbs % 100) (by omega)
  have s3 := padT_size 2 (decB (n.natAbs % 100))
  have hd : wrap64 (Int.tdiv (n.natAbs : Int) 100) = ((n.natAbs / 100 : Nat) : Int) := by rw [tdiv_pos (by omega), w64 (by omega) (by omega)]; omega
  have hr : Int.tmod (n.natAbs : Int) 100 = ((n.natAbs % 100 : Nat) : Int) := by rw [tmod_pos (by omega)]; omega
  have hm : mr n = true := decide_eq_true ⟨h, h2⟩
  have hi : impl_MoneyRight.f n = some true := by rw [right_same, right_is, hm]
  have e0 : (⟨#[]⟩ : ByteArray).size = 0 := rfl
  have i1 := implDec (n.natAbs / 100) (by omega)
  have i2 := implPad (n.natAbs % 100) 2 (by omega) (by omega)
  have e2 : ((2 : Nat) : Int) = 2 := rfl
  rw [e2] at i2
  unfold impl_MoneyText.f moneyB sumB
  simp only [hi, Option.bind_some, if_true, mx_abs n h h2, hd, hr, i1, i2]
  by_cases h0 : n < 0
  · simp only [if_pos h0]
    rw [if_pos (by omega), if_pos (by rw [ByteArray.size_append, one_size2]; omega), if_pos (by rw [ByteArray.size_append, ByteArray.size_append, one_size2, one_size2]; omega)]
    refine congrArg some (ba_ext ?_)
    simp only [ByteArray.data_append, Array.toList_append, List.append_assoc]
  · simp only [if_neg h0]
    rw [if_pos (by omega), if_pos (by rw [ByteArray.size_append, e0]; omega), if_pos (by rw [ByteArray.size_append, ByteArray.size_append, e0, one_size2]; omega)]
    refine congrArg some (ba_ext ?_)
    simp only [ByteArray.data_append, Array.toList_append, List.append_assoc, List.nil_append]
theorem money_out (n : Int) (h : ¬ (-1000000000000 ≤ n ∧ n ≤ 1000000000000)) (k : Nat) : spec_MoneyText.f k n = some ⟨#[]⟩ ∧ impl_MoneyText.f n = some ⟨#[]⟩ := by
  have hm : mr n = false := decide_eq_false h
  constructor
  · simp only [spec_MoneyText.f, right_is, hm, Option.bind_some, Bool.false_eq_true, if_false]
  · simp only [impl_MoneyText.f, right_same, right_is, hm, Option.bind_some, Bool.false_eq_true, if_false]


/-- Is a byte a digit? -/
abbrev isD (c : UInt8) : Prop := 48 ≤ c.toNat ∧ c.toNat ≤ 57
/-- The number that digits tell behind a number. -/
def valL (a : Nat) (l : List UInt8) : Nat := l.foldl (fun a c => 10 * a + (c.toNat - 48)) a
theorem valL_cons (a : Nat) (c : UInt8) (l : List UInt8) : valL a (c :: l) = valL (10 * a + (c.toNat - 48)) l := by simp only [valL, List.foldl_cons]
theorem valL_append (a : Nat) (x y : List UInt8) : valL a (x ++ y) = valL (valL a x) y := List.foldl_append ..
theorem mul_shift (a d P : Nat) : (10 * a + d) * P = a * (P * 10) + d * P := by
  rw [Nat.add_mul, Nat.mul_comm 10 a, Nat.mul_assoc, Nat.mul_comm 10 P]
theorem valL_shift (l : List UInt8) : ∀ a : Nat, valL a l = a * 10 ^ l.length + valL 0 l := by
  induction l with
  | nil => intro a; simp [valL]
  | cons c l ih =>
    intro a
    rw [valL_cons, valL_cons, ih, ih (10 * 0 + _), List.length_cons, Nat.pow_succ, mul_shift, mul_shift, Nat.zero_mul, Nat.zero_add, Nat.add_assoc]
theorem valL_ge (l : List UInt8) (a : Nat) : a ≤ valL a l := by
  rw [valL_shift]
  have : a * 1 ≤ a * 10 ^ l.length := Nat.mul_le_mul_left a (Nat.pow_pos (by omega))
  omega
theorem ofNat_dig {d : Nat} (h : d < 10) : (UInt8.ofNat (48 + d)).toNat = 48 + d := by
  rw [UInt8.toNat_ofNat']; omega
theorem dec_isD : ∀ u : Nat, ∀ c ∈ Lib.decDigits u, isD c := by
  intro u
  induction u using Nat.strongRecOn with
  | _ u ih =>
    intro c hc
    by_cases h : u < 10
    · rw [dec_small h] at hc
      have := List.mem_singleton.1 hc
      subst this
      unfold isD; rw [ofNat_dig h]; omega
    · rw [dec_step h] at hc
      rcases List.mem_append.1 hc with q | q
      · exact ih (u / 10) (by omega) c q
      · have := List.mem_singleton.1 q
        subst this
        unfold isD; rw [ofNat_dig (Nat.mod_lt _ (by omega))]; omega
theorem valL_dec : ∀ u : Nat, valL 0 (Lib.decDigits u) = u := by
  intro u
  induction u using Nat.strongRecOn with
  | _ u ih =>
    by_cases h : u < 10
    · rw [dec_small h, valL_cons, ofNat_dig h]; simp [valL]
    · rw [dec_step h, valL_append, ih (u / 10) (by omega), valL_cons, ofNat_dig (Nat.mod_lt _ (by omega))]
      show 10 * (u / 10) + (48 + u % 10 - 48) = u
      omega
/-- A number's digits with noughts ahead. -/
def padL (m r : Nat) : List UInt8 := List.replicate (m - (Lib.decDigits r).length) 48 ++ Lib.decDigits r
theorem rep_isD (n : Nat) : ∀ c ∈ List.replicate n (48 : UInt8), isD c := by
  intro c hc
  rw [(List.mem_replicate.1 hc).2]; unfold isD; decide
theorem padL_isD (m r : Nat) : ∀ c ∈ padL m r, isD c := by
  intro c hc
  rcases List.mem_append.1 hc with q | q
  · exact rep_isD _ c q
  · exact dec_isD r c q
theorem padL_len (m r : Nat) (h1 : 1 ≤ m) (h : r < 10 ^ m) : (padL m r).length = m := by
  have := dec_len m r h1 h
  unfold padL
  rw [List.length_append, List.length_replicate]; omega
theorem valL_rep : ∀ n : Nat, valL 0 (List.replicate n (48 : UInt8)) = 0
  | 0 => rfl
  | n + 1 => by rw [List.replicate_succ, valL_cons]; exact valL_rep n
theorem valL_padL (a m r : Nat) (h1 : 1 ≤ m) (h : r < 10 ^ m) : valL a (padL m r) = a * 10 ^ m + r := by
  rw [valL_shift, padL_len m r h1 h]
  congr 1
  unfold padL
  rw [valL_append, valL_rep, valL_dec]
theorem padT_data (m r : Nat) : (padT m (decB r)).data.toList = padL m r := by
  have e : (decB r).size = (Lib.decDigits r).length := by
    show (Lib.decDigits r).toArray.size = _; rw [List.size_toArray]
  unfold padT padL
  rw [e, ByteArray.data_append, Array.toList_append]
  rfl
theorem decB_data (u : Nat) : (decB u).data.toList = Lib.decDigits u := rfl
/-- What 'l02Plain' makes of a text. -/
def plainF : List UInt8 → Nat → Nat → Int × Bool
  | [], n, _ => ((n : Int), true)
  | c :: r, n, m => if 48 ≤ c.toNat ∧ c.toNat ≤ 57 then (if 17 < m + 1 then (0, false) else plainF r (10 * n + (c.toNat - 48)) (m + 1)) else plainF r n m
theorem plainF_digits : ∀ (ds rest : List UInt8) (n m : Nat), (∀ c ∈ ds, isD c) → m + ds.length ≤ 17 → plainF (ds ++ rest) n m = plainF rest (valL n ds) (m + ds.length)
  | [], rest, n, m, _, _ => rfl
  | c :: ds, rest, n, m, h, hm => by
    have hc : isD c := h c (by simp)
    rw [List.length_cons] at hm
    show plainF (c :: (ds ++ rest)) n m = _
    rw [plainF, if_pos hc, if_neg (by omega), plainF_digits ds rest _ _ (fun x hx => h x (by simp [hx])) (by omega), valL_cons, List.length_cons]
    congr 1; omega
theorem plainF_skip (c : UInt8) (r : List UInt8) (n m : Nat) (h : ¬ isD c) : plainF (c :: r) n m = plainF r n m := by
  rw [plainF, if_neg h]
theorem plainF_range : ∀ (l : List UInt8) (n m : Nat), n < 10 ^ m → m ≤ 17 → 0 ≤ (plainF l n m).1 ∧ (plainF l n m).1 < 100000000000000000
  | [], n, m, hn, hm => by
    have : 10 ^ m ≤ 10 ^ 17 := Nat.pow_le_pow_right (by omega) hm
    show 0 ≤ (n : Int) ∧ (n : Int) < _
    omega
  | c :: r, n, m, hn, hm => by
    rw [plainF]
    by_cases hc : 48 ≤ c.toNat ∧ c.toNat ≤ 57
    · rw [if_pos hc]
      by_cases h : 17 < m + 1
      · rw [if_pos h]; exact ⟨by decide, by decide⟩
      · rw [if_neg h]
        exact plainF_range r _ _ (by rw [Nat.pow_succ]; omega) (by omega)
    · rw [if_neg hc]; exact plainF_range r n m hn hm
theorem bt_drop {t : ByteArray} {i : Nat} {c : UInt8} {r : List UInt8} (h : t.data.toList.drop i = c :: r) : i < t.size ∧ bt t (i : Int) = (c.toNat : Int) ∧ t.data.toList.drop (i + 1) = r := by
  have hl : i < t.data.toList.length := by
    rcases Nat.lt_or_ge i t.data.toList.length with q | q
    · exact q
    · rw [List.drop_eq_nil_of_le q] at h; cases h
  have hi : i < t.size := hl
  have hd := List.drop_eq_getElem_cons hl
  rw [hd] at h
  have h1 := (List.cons.inj h).1
  have h2 := (List.cons.inj h).2
  refine ⟨hi, ?_, h2⟩
  unfold bt
  have e : ((i : Nat) : Int).toNat = i := Int.toNat_natCast i
  rw [dif_pos (by rw [e]; exact hi)]
  rw [← h1]
  have : t[((i : Nat) : Int).toNat]'(by rw [e]; exact hi) = t.data.toList[i] := by
    simp only [e]; rfl
  rw [this]
theorem plain_ev : ∀ (l : List UInt8) (t : ByteArray) (i n m : Nat), t.data.toList.drop i = l → n < 10 ^ m → m ≤ 17 → t.size ≤ 20000 → Ev (fun k => spec_l02Plain.l0 k t (n : Int) (m : Int) (i : Int)) (plainF l n m)
  | [], t, i, n, m, hl, hn, hm, ht => by
    have hi : t.size ≤ i := by
      have := List.drop_eq_nil_iff.1 hl
      exact this
    refine ev_succ ?_
    simp only [spec_l02Plain.l0]
    exact ev_neg (by omega) (Ev.now _)
  | c :: r, t, i, n, m, hl, hn, hm, ht => by
    obtain ⟨hi, hb, hr⟩ := bt_drop hl
    have hP : 10 ^ m ≤ 10 ^ 17 := Nat.pow_le_pow_right (by omega) hm
    have w1 : wrap64 ((m : Int) + 1) = ((m + 1 : Nat) : Int) := by rw [w64 (by omega) (by omega)]; rfl
    have w2 : wrap64 ((i : Int) + 1) = ((i + 1 : Nat) : Int) := by rw [w64 (by omega) (by omega)]; rfl
    have hc255 : c.toNat ≤ 255 := by have := c.toNat_lt; omega
    refine ev_succ ?_
    simp only [spec_l02Plain.l0, hb]
    refine ev_pos (by omega) (ev_pos (by omega) ?_)
    rw [plainF]
    by_cases h1 : (c.toNat : Int) ≥ 48
    · refine ev_pos h1 (ev_succ ?_)
      by_cases h2 : (c.toNat : Int) ≤ 57
      · have hD : 48 ≤ c.toNat ∧ c.toNat ≤ 57 := by omega
        rw [if_pos hD]
        simp only [spec_l02Plain.j1, decide_eq_true h2, if_true, hb, w1, w2]
        refine ev_pos (by omega) (ev_pos (by omega) ?_)
        by_cases h3 : 17 < m + 1
        · rw [if_pos h3]; exact ev_pos (by omega) (Ev.now _)
        · rw [if_neg h3]
          refine ev_neg (by omega) ?_
          have w3 : wrap64 (wrap64 (10 * (n : Int)) + ((c.toNat : Int) - 48) % 256) = ((10 * n + (c.toNat - 48) : Nat) : Int) := by
            rw [w64 (a := 10 * (n : Int)) (by omega) (by omega), w64 (by omega) (by omega)]; omega
          rw [w3]
          exact plain_ev r t (i + 1) _ (m + 1) hr (by rw [Nat.pow_succ]; omega) (by omega) ht
      · rw [if_neg (by omega)]
        simp only [spec_l02Plain.j1, decide_eq_false h2, Bool.false_eq_true, if_false, w2]
        exact ev_neg (by omega) (plain_ev r t (i + 1) n m hr hn hm ht)
    · rw [if_neg (by omega)]
      refine ev_neg h1 (ev_succ ?_)
      simp only [spec_l02Plain.j1, Bool.false_eq_true, if_false, w2]
      exact ev_neg (by omega) (plain_ev r t (i + 1) n m hr hn hm ht)
theorem plain_f (t : ByteArray) (ht : t.size ≤ 20000) : Ev (fun k => spec_l02Plain.f k t) (plainF t.data.toList 0 0) := by
  have := plain_ev t.data.toList t 0 0 0 (by simp) (by decide) (by omega) ht
  exact this
/-! parsing -/
theorem parseM : ∀ (ds : List UInt8) (acc : Nat), (∀ c ∈ ds, isD c) → valL acc ds < 1000000000000000000 → Lib.parseUintM (2 ^ 64 - 1) acc ds = .ok (valL acc ds)
  | [], acc, _, _ => rfl
  | c :: ds, acc, h, hv => by
    have hc : isD c := h c (by simp)
    rw [valL_cons] at hv
    have hg := valL_ge ds (10 * acc + (c.toNat - 48))
    rw [Lib.parseUintM, if_pos hc, if_neg (by omega), if_neg (by omega), valL_cons, show acc * 10 + (c.toNat - 48) = 10 * acc + (c.toNat - 48) by omega]
    exact parseM ds _ (fun x hx => h x (by simp [hx])) hv
theorem parseB (ds : List UInt8) (h0 : ds ≠ []) (h : ∀ c ∈ ds, isD c) (hv : valL 0 ds < 1000000000000000000) : Lib.parseUintB 64 ds = .ok (valL 0 ds) := by
  unfold Lib.parseUintB
  rw [if_neg h0]; exact parseM ds 0 h hv
theorem parsePos (ds : List UInt8) (h0 : ds ≠ []) (h : ∀ c ∈ ds, isD c) (hv : valL 0 ds < 1000000000000000000) : Lib.parseIntB 64 ds = .ok (valL 0 ds : Int) := by
  cases ds with
  | nil => exact absurd rfl h0
  | cons c r =>
    have hc : isD c := h c (by simp)
    unfold isD at hc
    rw [Lib.parseIntB_plain 64 c r (by omega) (by omega), parseB (c :: r) h0 h hv]
    show (if 2 ^ (64 - 1) ≤ valL 0 (c :: r) then _ else _) = _
    rw [if_neg (by omega)]
theorem parseNeg (ds : List UInt8) (h0 : ds ≠ []) (h : ∀ c ∈ ds, isD c) (hv : valL 0 ds < 1000000000000000000) : Lib.parseIntB 64 (45 :: ds) = .ok (-(valL 0 ds : Int)) := by
  rw [Lib.parseIntB_minus, parseB ds h0 h hv]
  show (if 2 ^ (64 - 1) < valL 0 ds then _ else _) = _
  rw [if_neg (by omega)]
theorem index_point : ∀ (x y : List UInt8), (∀ c ∈ x, c ≠ 46) → Lib.index (x ++ 46 :: y) [46] = (x.length : Int)
  | [], y, _ => by simp [Lib.index, List.isPrefixOf]
  | c :: x, y, h => by
    have hc : c ≠ 46 := h c (by simp)
    have ih := index_point x y (fun z hz => h z (by simp [hz]))
    have hp : ([46] : List UInt8).isPrefixOf (c :: (x ++ 46 :: y)) = false := by
      simp [List.isPrefixOf, hc.symm]
    show Lib.index (c :: (x ++ 46 :: y)) [46] = _
    rw [Lib.index, hp, ih]
    have h1 : ((x.length : Int) == -1) = false := by rw [beq_eq_false_iff_ne]; omega
    rw [h1]
    simp
theorem cut_point (x y : List UInt8) (h : ∀ c ∈ x, c ≠ 46) : Lib.cut (x ++ 46 :: y) [46] = (x, y, true) := by
  unfold Lib.cut
  rw [index_point x y h, if_pos (by omega), Int.toNat_natCast]
  have h1 : (x ++ 46 :: y).take x.length = x := by simp
  have h2 : (x ++ 46 :: y).drop (x.length + ([46] : List UInt8).length) = y := by
    rw [show x ++ 46 :: y = (x ++ [46]) ++ y by simp]
    rw [List.drop_left' (by simp)]
  rw [h1, h2]
theorem trim_end (x : List UInt8) (c : UInt8) : Lib.trimSuffix (x ++ [c]) [c] = x := by
  unfold Lib.trimSuffix Lib.hasSuffix
  have : ([c] : List UInt8).isSuffixOf (x ++ [c]) = true := List.isSuffixOf_iff_suffix.2 (List.suffix_append x [c])
  rw [if_pos this]
  simp
theorem dig_ne {c : UInt8} (h : isD c) : c ≠ 46 := by
  rintro rfl
  unfold isD at h
  exact absurd h (by decide)
/-- 'readPoint' at a text of digits, a point and digits. -/
theorem readPoint_is (t : ByteArray) (x y : List UInt8) (ht : t.data.toList = x ++ 46 :: y) (hs : t.size ≤ 1048576) (hx : ∀ c ∈ x, c ≠ 46) {v : Int} (hv : Lib.parseIntB 64 (x ++ y) = .ok v) : impl_readPoint.f t = some v := by
  have hc : Lib.cut t.data.toList (⟨#[46]⟩ : ByteArray).data.toList = (x, y, true) := by rw [ht]; exact cut_point x y hx
  unfold impl_readPoint.f
  rw [if_pos hs]
  have e : (impl_readPoint.A t ++ impl_readPoint.B t).data.toList = x ++ y := by
    rw [ByteArray.data_append, Array.toList_append]
    unfold impl_readPoint.A impl_readPoint.B
    rw [hc]
  rw [e, hv]; rfl
theorem readPoint_some (t : ByteArray) (hs : t.size ≤ 1048576) : ∃ v : Int, impl_readPoint.f t = some v := ⟨_, by unfold impl_readPoint.f; rw [if_pos hs]⟩
theorem readPoint_nil : impl_readPoint.f ⟨#[]⟩ = some 0 := by
  unfold impl_readPoint.f
  rw [if_pos (by decide)]
  have hc : Lib.cut (⟨#[]⟩ : ByteArray).data.toList (⟨#[46]⟩ : ByteArray).data.toList = ([], [], false) := by decide
  have e : (impl_readPoint.A ⟨#[]⟩ ++ impl_readPoint.B ⟨#[]⟩).data.toList = [] := by
    rw [ByteArray.data_append, Array.toList_append]
    unfold impl_readPoint.A impl_readPoint.B
    rw [hc]; rfl
  rw [e]; rfl
theorem tl_inj {a b : ByteArray} (h : a.toList = b.toList) : a = b := by
  rw [Lib.toList_data, Lib.toList_data] at h
  exact ba_ext h
theorem nil_toList (a : ByteArray) : a.toList = ([] : List UInt8) ↔ a = ⟨#[]⟩ := by
  constructor
  · intro h
    rw [Lib.toList_data] at h
    exact ba_ext h
  · rintro rfl; rw [Lib.toList_data]

/-- The text of money, or none. -/
def moneyF (n : Int) : ByteArray := if -1000000000000 ≤ n ∧ n ≤ 1000000000000 then moneyB n else ⟨#[]⟩
theorem sMoney (n : Int) : Ev (fun k => spec_MoneyText.f k n) (moneyF n) := by
  unfold moneyF
  by_cases h : -1000000000000 ≤ n ∧ n ≤ 1000000000000
  · rw [if_pos h]; exact smoney_ev n h.1 h.2
  · rw [if_neg h]; exact ⟨0, fun k _ => (money_out n h k).1⟩
theorem iMoney (n : Int) : impl_MoneyText.f n = some (moneyF n) := by
  unfold moneyF
  by_cases h : -1000000000000 ≤ n ∧ n ≤ 1000000000000
  · rw [if_pos h]; exact imoney n h.1 h.2
  · rw [if_neg h]; exact (money_out n h 0).2
theorem sum_data (u : Nat) : (sumB u).data.toList = Lib.decDigits (u / 100) ++ 46 :: padL 2 (u % 100) := by
  unfold sumB
  simp only [ByteArray.data_append, Array.toList_append, padT_data, decB_data]
  simp
theorem money_data (n : Int) : (moneyB n).data.toList = (if n < 0 then [45] else []) ++ (Lib.decDigits (n.natAbs / 100) ++ 46 :: padL 2 (n.natAbs % 100)) := by
  unfold moneyB
  by_cases h : n < 0
  · rw [if_pos h, if_pos h, ByteArray.data_append, Array.toList_append, sum_data]
  · rw [if_neg h, if_neg h, sum_data]; rfl
theorem sum_val (u : Nat) : valL 0 (Lib.decDigits (u / 100) ++ padL 2 (u % 100)) = u := by
  rw [valL_append, valL_dec, valL_padL _ 2 _ (by omega) (by omega)]; omega
theorem sum_plain (u : Nat) (h : u ≤ 1000000000000) : plainF (Lib.decDigits (u / 100) ++ 46 :: padL 2 (u % 100)) 0 0 = ((u : Int), true) := by
  have h1 := dec_len 11 (u / 100) (by omega) (by omega)
  have h2 := padL_len 2 (u % 100) (by omega) (by omega)
  have n46 : ¬ isD 46 := by decide
  have e : padL 2 (u % 100) = padL 2 (u % 100) ++ [] := (List.append_nil _).symm
  rw [plainF_digits _ _ _ _ (dec_isD _) (by omega), plainF_skip _ _ _ _ n46, e, plainF_digits _ _ _ _ (padL_isD _ _) (by omega), valL_dec, valL_padL _ 2 _ (by omega) (by omega)]
  show (((u / 100 * 10 ^ 2 + u % 100 : Nat) : Int), true) = _
  congr 2
  omega
theorem money_plain (n : Int) (h : -1000000000000 ≤ n ∧ n ≤ 1000000000000) : plainF (moneyB n).data.toList 0 0 = ((n.natAbs : Int), true) := by
  have n45 : ¬ isD 45 := by decide
  rw [money_data]
  by_cases h0 : n < 0
  · rw [if_pos h0, List.singleton_append, plainF_skip _ _ _ _ n45, sum_plain _ (by omega)]
  · rw [if_neg h0, List.nil_append, sum_plain _ (by omega)]
theorem money_point (n : Int) (h : -1000000000000 ≤ n ∧ n ≤ 1000000000000) : impl_readPoint.f (moneyB n) = some n := by
  have h1 := dec_len 11 (n.natAbs / 100) (by omega) (by omega)
  have h2 := padL_len 2 (n.natAbs % 100) (by omega) (by omega)
  have hs : (moneyB n).size ≤ 1048576 := by
    show (moneyB n).data.toList.length ≤ _
    rw [money_data, List.length_append, List.length_append, List.length_cons]
    have : (if n < 0 then ([45] : List UInt8) else []).length ≤ 1 := by split <;> simp
    omega
  have hd : ∀ c ∈ Lib.decDigits (n.natAbs / 100) ++ padL 2 (n.natAbs % 100), isD c := fun c hc => by
    rcases List.mem_append.1 hc with q | q
    · exact dec_isD _ c q
    · exact padL_isD _ _ c q
  have hne : Lib.decDigits (n.natAbs / 100) ++ padL 2 (n.natAbs % 100) ≠ [] := by intro q; have := congrArg List.length q; rw [List.length_append, List.length_nil] at this; omega
  have hv := sum_val n.natAbs
  have hm := money_data n
  by_cases h0 : n < 0
  · rw [if_pos h0] at hm
    refine readPoint_is _ (45 :: Lib.decDigits (n.natAbs / 100)) (padL 2 (n.natAbs % 100)) (by rw [hm]; rfl) hs (fun c hc => ?_) ?_
    · rcases List.mem_cons.1 hc with q | q
      · subst q; decide
      · exact dig_ne (dec_isD _ c q)
    · have := parseNeg _ hne hd (by rw [hv]; omega)
      rw [hv] at this
      rw [List.cons_append, this]
      congr 1; omega
  · rw [if_neg h0] at hm
    refine readPoint_is _ (Lib.decDigits (n.natAbs / 100)) (padL 2 (n.natAbs % 100)) (by rw [hm]; rfl) hs (fun c hc => dig_ne (dec_isD _ c hc)) ?_
    have := parsePos _ hne hd (by rw [hv]; omega)
    rw [hv] at this
    rw [this]
    congr 1; omega
/-- The number that a text tells, its sign with it. -/
def mNum (t : ByteArray) : Int := if bt t 0 = 45 then -(plainF t.data.toList 0 0).1 else (plainF t.data.toList 0 0).1
theorem money_num (n : Int) (h : -1000000000000 ≤ n ∧ n ≤ 1000000000000) : mNum (moneyB n) = n := by
  unfold mNum
  rw [money_plain n h]
  have hm := money_data n
  have h1 := dec_len 11 (n.natAbs / 100) (by omega) (by omega)
  by_cases h0 : n < 0
  · rw [if_pos h0] at hm
    have := (bt_drop (t := moneyB n) (i := 0) (by rw [hm]; rfl)).2.1
    rw [if_pos (by exact this)]
    show -((n.natAbs : Nat) : Int) = n
    omega
  · rw [if_neg h0, List.nil_append] at hm
    cases hq : Lib.decDigits (n.natAbs / 100) with
    | nil => rw [hq, List.length_nil] at h1; omega
    | cons c r =>
      have hc : isD c := dec_isD (n.natAbs / 100) c (by rw [hq]; simp)
      rw [hq] at hm
      have := (bt_drop (t := moneyB n) (i := 0) (by rw [hm]; rfl)).2.1
      have h45 : ¬ bt (moneyB n) 0 = 45 := by
        have e : bt (moneyB n) 0 = (c.toNat : Int) := this
        rw [e]
        have := hc.1
        omega
      rw [if_neg h45]
      show ((n.natAbs : Nat) : Int) = n
      omega
theorem size_pos (t : ByteArray) : (t.size : Int) > 0 ↔ t ≠ ⟨#[]⟩ := by
  constructor
  · rintro h rfl
    have : (⟨#[]⟩ : ByteArray).size = 0 := rfl
    omega
  · intro h
    rcases Nat.eq_zero_or_pos t.size with q | q
    · exfalso; apply h
      apply ba_ext
      exact List.length_eq_zero_iff.1 q
    · omega
theorem s_money_read (t : ByteArray) (ht : t.size ≤ 20000) : Ev (fun k => spec_MoneyRead.f k t) (if t ≠ ⟨#[]⟩ ∧ (plainF t.data.toList 0 0).2 = true ∧ moneyF (mNum t) = t then (mNum t, 0) else (0, 3)) := by
  simp only [spec_MoneyRead.f]
  refine ev_neg (by omega) (Ev.bind (plain_f t ht) ?_)
  have hr := plainF_range t.data.toList 0 0 (by decide) (by omega)
  unfold mNum
  generalize plainF t.data.toList 0 0 = P at hr ⊢
  obtain ⟨n, ok⟩ := P
  have hr : 0 ≤ n ∧ n < 100000000000000000 := hr
  have hw : wrap64 (-n) = -n := w64 (by omega) (by omega)
  by_cases h : t = ⟨#[]⟩
  · have e : (if t ≠ ⟨#[]⟩ ∧ (n, ok).2 = true ∧ moneyF (if bt t 0 = 45 then -(n, ok).1 else (n, ok).1) = t then ((if bt t 0 = 45 then -(n, ok).1 else (n, ok).1), (0 : Int)) else (0, 3)) = (0, 3) := if_neg (fun q => q.1 h)
    rw [e]
    refine ev_neg (fun q => (size_pos t).1 q h) (ev_succ ?_)
    simp only [spec_MoneyRead.j0, Bool.false_eq_true, if_false, nil_toList]
    cases ok with
    | false => simp only [Bool.false_eq_true, if_false]; exact Ev.now _
    | true => simp only [if_true]; exact ev_pos h (Ev.now _)
  · refine ev_pos ((size_pos t).2 h) (ev_pos ((size_pos t).2 h) (ev_succ ?_))
    cases ok with
    | false =>
      have e : (if t ≠ ⟨#[]⟩ ∧ (n, false).2 = true ∧ moneyF (if bt t 0 = 45 then -(n, false).1 else (n, false).1) = t then ((if bt t 0 = 45 then -(n, false).1 else (n, false).1), (0 : Int)) else (0, 3)) = (0, 3) := if_neg (fun q => by cases q.2.1)
      rw [e]
      simp only [spec_MoneyRead.j0, Bool.false_eq_true, if_false]
      split <;> exact Ev.now _
    | true =>
      by_cases hb : bt t 0 = 45
      · rw [if_pos hb]
        simp only [spec_MoneyRead.j0, hb, beq_self_eq_true, if_true, nil_toList, hw]
        refine ev_neg h (Ev.bind (sMoney (-n)) ?_)
        by_cases h2 : moneyF (-n) = t
        · have e : (if t ≠ ⟨#[]⟩ ∧ True ∧ moneyF (-n) = t then (-n, (0 : Int)) else (0, 3)) = (-n, 0) := if_pos ⟨h, trivial, h2⟩
          rw [e]; exact ev_pos (by rw [h2]) (Ev.now _)
        · have e : (if t ≠ ⟨#[]⟩ ∧ True ∧ moneyF (-n) = t then (-n, (0 : Int)) else (0, 3)) = (0, 3) := if_neg (fun q => h2 q.2.2)
          rw [e]; exact ev_neg (fun q => h2 (tl_inj q)) (Ev.now _)
      · rw [if_neg hb]
        simp only [spec_MoneyRead.j0, beq_eq_false_iff_ne.mpr hb, Bool.false_eq_true, if_false, if_true, nil_toList]
        refine ev_neg h (Ev.bind (sMoney n) ?_)
        by_cases h2 : moneyF n = t
        · have e : (if t ≠ ⟨#[]⟩ ∧ True ∧ moneyF n = t then (n, (0 : Int)) else (0, 3)) = (n, 0) := if_pos ⟨h, trivial, h2⟩
          rw [e]; exact ev_pos (by rw [h2]) (Ev.now _)
        · have e : (if t ≠ ⟨#[]⟩ ∧ True ∧ moneyF n = t then (n, (0 : Int)) else (0, 3)) = (0, 3) := if_neg (fun q => h2 q.2.2)
          rw [e]; exact ev_neg (fun q => h2 (tl_inj q)) (Ev.now _)
theorem i_money_read (t : ByteArray) (ht : t.size ≤ 20000) : impl_MoneyRead.f t = some (if t ≠ ⟨#[]⟩ ∧ (plainF t.data.toList 0 0).2 = true ∧ moneyF (mNum t) = t then (mNum t, 0) else (0, 3)) := by
  obtain ⟨v, hv⟩ := readPoint_some t (by omega)
  simp only [impl_MoneyRead.f]
  rw [if_neg (by omega), hv, Option.bind_some, iMoney, Option.bind_some]
  by_cases h0 : t = ⟨#[]⟩
  · have e : (if t ≠ ⟨#[]⟩ ∧ (plainF t.data.toList 0 0).2 = true ∧ moneyF (mNum t) = t then (mNum t, (0 : Int)) else (0, 3)) = (0, 3) := if_neg (fun q => q.1 h0)
    rw [e]
    clear e
    subst h0
    rw [readPoint_nil] at hv
    obtain rfl := Option.some.inj hv
    rw [if_neg]
    intro q
    have hz := congrArg ByteArray.size (tl_inj q)
    have hl : (moneyB 0).data.toList.length = 4 := by
      rw [money_data, if_neg (by omega), List.nil_append, List.length_append, List.length_cons, padL_len 2 _ (by omega) (by omega), show (0 : Int).natAbs / 100 = 0 from rfl, dec_small (by omega)]
      rfl
    unfold moneyF at hz
    rw [if_pos (by omega)] at hz
    have : (moneyB 0).data.toList.length = 0 := hz
    omega
  · by_cases h : moneyF v = t
    · have hr : -1000000000000 ≤ v ∧ v ≤ 1000000000000 := by
        by_cases q : -1000000000000 ≤ v ∧ v ≤ 1000000000000
        · exact q
        · exfalso; apply h0; rw [← h]; unfold moneyF; rw [if_neg q]
      have hb : t = moneyB v := by rw [← h]; unfold moneyF; rw [if_pos hr]
      have hp : (plainF t.data.toList 0 0).2 = true := by rw [hb, money_plain v hr]
      have hn : mNum t = v := by rw [hb, money_num v hr]
      have e : (if t ≠ ⟨#[]⟩ ∧ (plainF t.data.toList 0 0).2 = true ∧ moneyF (mNum t) = t then (mNum t, (0 : Int)) else (0, 3)) = (v, 0) := by rw [hn]; exact if_pos ⟨h0, hp, h⟩
      rw [e, if_pos (by rw [h])]
    · rw [if_neg (fun q => h (tl_inj q))]
      refine congrArg some (Eq.symm (if_neg ?_))
      rintro ⟨_, hok, hq⟩
      generalize mNum t = n at hq
      have hr : -1000000000000 ≤ n ∧ n ≤ 1000000000000 := by
        by_cases q : -1000000000000 ≤ n ∧ n ≤ 1000000000000
        · exact q
        · exfalso; apply h0; rw [← hq]; unfold moneyF; rw [if_neg q]
      have hb : t = moneyB n := by rw [← hq]; unfold moneyF; rw [if_pos hr]
      have hpt := money_point n hr
      rw [← hb, hv] at hpt
      have := Option.some.inj hpt
      apply h
      rw [this]; exact hq


/-- A rate as it is written. -/
def rateB (u : Nat) : ByteArray := ((decB (u / 10000) ++ (⟨#[46]⟩ : ByteArray)) ++ padT 4 (decB (u % 10000))) ++ (⟨#[37]⟩ : ByteArray)
theorem one_size (c : UInt8) : (⟨#[c]⟩ : ByteArray).size = 1 := rfl
theorem srate_ev (u : Nat) (h : u ≤ 1000000) : Ev (fun k => spec_RateText.f k (u : Int)) (rateB u) := by
  have s1 := decB_size (u / 10000) (by omega)
  have s2 := decB_size (u % 10000) (by omega)
  have s3 := padT_size 4 (decB (u % 10000))
  simp only [spec_RateText.f, if_neg (show ¬ (u : Int) < 0 by omega), decide_eq_false (show ¬ (u : Int) > 1000000 by omega)]
  refine ev_succ ?_
  have hd : wrap64 (Int.tdiv (u : Int) 10000) = ((u / 10000 : Nat) : Int) := by rw [tdiv_pos (by omega), w64 (by omega) (by omega)]; omega
  have hr : Int.tmod (u : Int) 10000 = ((u % 10000 : Nat) : Int) := by rw [tmod_pos (by omega)]; omega
  simp only [spec_RateText.j0, Bool.false_eq_true, if_false, hd, hr]
  refine Ev.bind (sdec_ev (u / 10000) (by omega)) ?_
  refine ev_pos (by omega) ?_
  refine Ev.bind (sdig_ev (u % 10000) 4 (by omega) (by omega)) ?_
  refine ev_pos (by rw [ByteArray.size_append, one_size]; omega) (ev_pos (by rw [ByteArray.size_append, ByteArray.size_append, one_size]; omega) (Ev.now _))
theorem irate (u : Nat) (h : u ≤ 1000000) : impl_RateText.f (u : Int) = some (rateB u) := by
  have s1 := decB_size (u / 10000) (by omega)
  have s2 := decB_size (u % 10000) (by omega)
  have s3 := padT_size 4 (decB (u % 10000))
  have hd : wrap64 (Int.tdiv (u : Int) 10000) = ((u / 10000 : Nat) : Int) := by rw [tdiv_pos (by omega), w64 (by omega) (by omega)]; omega
  have hr : Int.tmod (u : Int) 10000 = ((u % 10000 : Nat) : Int) := by rw [tmod_pos (by omega)]; omega
  have hi : impl_isRate.f (u : Int) = some true := by unfold impl_isRate.f impl_in.f; simp; omega
  unfold impl_RateText.f
  rw [hi, Option.bind_some, if_pos rfl, hd, hr, implDec _ (by omega), Option.bind_some, if_pos (by omega), show ((4 : Int)) = ((4 : Nat) : Int) from rfl, implPad _ 4 (by omega) (by omega), Option.bind_some]
  rw [if_pos (by rw [ByteArray.size_append, one_size]; omega), if_pos (by rw [ByteArray.size_append, ByteArray.size_append, one_size]; omega)]
  rfl
theorem srate_out (n : Int) (h : n < 0 ∨ 1000000 < n) : Ev (fun k => spec_RateText.f k n) ⟨#[]⟩ := by
  by_cases h0 : n < 0
  · simp only [spec_RateText.f, if_pos h0]
    refine ev_succ ?_
    simp only [spec_RateText.j0, if_true]; exact Ev.now _
  · simp only [spec_RateText.f, if_neg h0, decide_eq_true (show n > 1000000 by omega)]
    refine ev_succ ?_
    simp only [spec_RateText.j0, if_true]; exact Ev.now _
theorem irate_out (n : Int) (h : n < 0 ∨ 1000000 < n) : impl_RateText.f n = some ⟨#[]⟩ := by
  have hi : impl_isRate.f n = some false := by
    unfold impl_isRate.f impl_in.f
    by_cases h0 : 0 ≤ n
    · simp [h0]; omega
    · simp [h0]
  unfold impl_RateText.f
  rw [hi, Option.bind_some, if_neg (by simp)]

/-- The rate's text, or none. -/
def rateF (n : Int) : ByteArray := if 0 ≤ n ∧ n ≤ 1000000 then rateB n.toNat else ⟨#[]⟩
theorem sRate (n : Int) : Ev (fun k => spec_RateText.f k n) (rateF n) := by
  unfold rateF
  by_cases h : 0 ≤ n ∧ n ≤ 1000000
  · rw [if_pos h]
    have := srate_ev n.toNat (by omega)
    rw [Int.toNat_of_nonneg h.1] at this; exact this
  · rw [if_neg h]; exact srate_out n (by omega)
theorem iRate (n : Int) : impl_RateText.f n = some (rateF n) := by
  unfold rateF
  by_cases h : 0 ≤ n ∧ n ≤ 1000000
  · rw [if_pos h]
    have := irate n.toNat (by omega)
    rw [Int.toNat_of_nonneg h.1] at this; exact this
  · rw [if_neg h]; exact irate_out n (by omega)
theorem rate_data (u : Nat) : (rateB u).data.toList = (Lib.decDigits (u / 10000) ++ 46 :: padL 4 (u % 10000)) ++ [37] := by
  unfold rateB
  simp only [ByteArray.data_append, Array.toList_append, padT_data, decB_data]
  simp
theorem rate_val (u : Nat) (h : u ≤ 1000000) : valL 0 (Lib.decDigits (u / 10000) ++ padL 4 (u % 10000)) = u := by
  rw [valL_append, valL_dec, valL_padL _ 4 _ (by omega) (by omega)]; omega
theorem rate_plain (u : Nat) (h : u ≤ 1000000) : plainF (rateB u).data.toList 0 0 = ((u : Int), true) := by
  have h1 := dec_len 3 (u / 10000) (by omega) (by omega)
  have h2 := padL_len 4 (u % 10000) (by omega) (by omega)
  have n46 : ¬ isD 46 := by unfold isD; decide
  have n37 : ¬ isD 37 := by unfold isD; decide
  rw [rate_data, List.append_assoc, plainF_digits _ _ _ _ (dec_isD _) (by omega), List.cons_append, plainF_skip _ _ _ _ n46, plainF_digits _ _ _ _ (padL_isD _ _) (by omega), plainF_skip _ _ _ _ n37, valL_dec, valL_padL _ 4 _ (by omega) (by omega)]
  show (((u / 10000 * 10 ^ 4 + u % 10000 : Nat) : Int), true) = _
  congr 2
  omega
theorem rate_point (u : Nat) (h : u ≤ 1000000) : impl_readPoint.f ⟨(Lib.trimSuffix (rateB u).data.toList (⟨#[37]⟩ : ByteArray).data.toList).toArray⟩ = some (u : Int) := by
  have h1 := dec_len 3 (u / 10000) (by omega) (by omega)
  have h2 := padL_len 4 (u % 10000) (by omega) (by omega)
  have e : Lib.trimSuffix (rateB u).data.toList (⟨#[37]⟩ : ByteArray).data.toList = Lib.decDigits (u / 10000) ++ 46 :: padL 4 (u % 10000) := by
    rw [rate_data]; exact trim_end _ 37
  rw [e]
  refine readPoint_is _ (Lib.decDigits (u / 10000)) (padL 4 (u % 10000)) rfl ?_ (fun c hc => dig_ne (dec_isD _ c hc)) ?_
  · show (Lib.decDigits (u / 10000) ++ 46 :: padL 4 (u % 10000)).toArray.size ≤ _
    rw [List.size_toArray, List.length_append, List.length_cons]; omega
  · have := parsePos (Lib.decDigits (u / 10000) ++ padL 4 (u % 10000)) (by intro q; have := congrArg List.length q; rw [List.length_append, List.length_nil] at this; omega) (fun c hc => by
      rcases List.mem_append.1 hc with q | q
      · exact dec_isD _ c q
      · exact padL_isD _ _ c q) (by rw [rate_val u h]; omega)
    rw [rate_val u h] at this; exact this
theorem s_rate_read (t : ByteArray) (ht : t.size ≤ 20000) : Ev (fun k => spec_RateRead.f k t) (if t ≠ ⟨#[]⟩ ∧ (plainF t.data.toList 0 0).2 = true ∧ rateF (plainF t.data.toList 0 0).1 = t then ((plainF t.data.toList 0 0).1, 0) else (0, 3)) := by
  simp only [spec_RateRead.f]
  refine ev_neg (by omega) (Ev.bind (plain_f t ht) ?_)
  generalize plainF t.data.toList 0 0 = P
  obtain ⟨n, ok⟩ := P
  cases ok with
  | false => simp only [Bool.false_eq_true, if_false, false_and, and_false]; exact Ev.now _
  | true =>
    simp only [if_true, true_and, nil_toList]
    by_cases h : t = ⟨#[]⟩
    · have e : (if t ≠ ⟨#[]⟩ ∧ rateF n = t then (n, (0 : Int)) else (0, 3)) = (0, 3) := if_neg (fun q => q.1 h)
      rw [e]; exact ev_pos h (Ev.now _)
    · refine ev_neg h (Ev.bind (sRate n) ?_)
      by_cases h2 : rateF n = t
      · have e : (if t ≠ ⟨#[]⟩ ∧ rateF n = t then (n, (0 : Int)) else (0, 3)) = (n, 0) := if_pos ⟨h, h2⟩
        rw [e]; exact ev_pos (by rw [h2]) (Ev.now _)
      · have e : (if t ≠ ⟨#[]⟩ ∧ rateF n = t then (n, (0 : Int)) else (0, 3)) = (0, 3) := if_neg (fun q => h2 q.2)
        rw [e]; exact ev_neg (fun q => h2 (tl_inj q)) (Ev.now _)
theorem trim_size (t : ByteArray) (p : List UInt8) : (⟨(Lib.trimSuffix t.data.toList p).toArray⟩ : ByteArray).size ≤ t.size := by
  show (Lib.trimSuffix t.data.toList p).toArray.size ≤ t.data.toList.length
  rw [List.size_toArray]
  unfold Lib.trimSuffix
  split
  · rw [List.length_take]; omega
  · exact Nat.le_refl _
theorem i_rate_read (t : ByteArray) (ht : t.size ≤ 20000) : impl_RateRead.f t = some (if t ≠ ⟨#[]⟩ ∧ (plainF t.data.toList 0 0).2 = true ∧ rateF (plainF t.data.toList 0 0).1 = t then ((plainF t.data.toList 0 0).1, 0) else (0, 3)) := by
  have hts := trim_size t (⟨#[37]⟩ : ByteArray).data.toList
  obtain ⟨v, hv⟩ := readPoint_some _ (show (⟨(Lib.trimSuffix t.data.toList (⟨#[37]⟩ : ByteArray).data.toList).toArray⟩ : ByteArray).size ≤ 1048576 by omega)
  simp only [impl_RateRead.f, strings_TrimSuffix.f]
  rw [if_neg (by omega), if_pos (by omega), Option.bind_some, hv, Option.bind_some, iRate, Option.bind_some]
  by_cases h0 : t = ⟨#[]⟩
  · have e : (if t ≠ ⟨#[]⟩ ∧ (plainF t.data.toList 0 0).2 = true ∧ rateF (plainF t.data.toList 0 0).1 = t then ((plainF t.data.toList 0 0).1, (0 : Int)) else (0, 3)) = (0, 3) := if_neg (fun q => q.1 h0)
    rw [e]
    clear e
    subst h0
    have e : (⟨(Lib.trimSuffix (⟨#[]⟩ : ByteArray).data.toList (⟨#[37]⟩ : ByteArray).data.toList).toArray⟩ : ByteArray) = ⟨#[]⟩ := by decide
    rw [e, readPoint_nil] at hv
    obtain rfl := Option.some.inj hv
    rw [if_neg]
    intro q
    have := congrArg ByteArray.size (tl_inj q)
    have hz := decB_size (0 / 10000) (by omega)
    have : (rateF 0).size = 0 := this
    unfold rateF rateB at this
    rw [if_pos (by omega)] at this
    simp only [ByteArray.size_append] at this
    have h37 : (⟨#[37]⟩ : ByteArray).size = 1 := rfl
    omega
  · by_cases h : rateF v = t
    · have hr : 0 ≤ v ∧ v ≤ 1000000 := by
        by_cases q : 0 ≤ v ∧ v ≤ 1000000
        · exact q
        · exfalso; apply h0; rw [← h]; unfold rateF; rw [if_neg q]
      have hb : t = rateB v.toNat := by rw [← h]; unfold rateF; rw [if_pos hr]
      have hp : plainF t.data.toList 0 0 = (v, true) := by
        rw [hb, rate_plain _ (by omega), Int.toNat_of_nonneg hr.1]
      have e : (if t ≠ ⟨#[]⟩ ∧ (plainF t.data.toList 0 0).2 = true ∧ rateF (plainF t.data.toList 0 0).1 = t then ((plainF t.data.toList 0 0).1, (0 : Int)) else (0, 3)) = (v, 0) := by rw [hp]; exact if_pos ⟨h0, rfl, h⟩
      rw [e, if_pos (by rw [h])]
    · rw [if_neg (fun q => h (tl_inj q))]
      refine congrArg some (Eq.symm (if_neg ?_))
      rintro ⟨_, hok, hq⟩
      have hn := hq
      generalize (plainF t.data.toList 0 0).1 = n at hq hn
      have hr : 0 ≤ n ∧ n ≤ 1000000 := by
        by_cases q : 0 ≤ n ∧ n ≤ 1000000
        · exact q
        · exfalso; apply h0; rw [← hq]; unfold rateF; rw [if_neg q]
      have hb : t = rateB n.toNat := by rw [← hq]; unfold rateF; rw [if_pos hr]
      have hpt := rate_point n.toNat (by omega)
      rw [← hb, hv] at hpt
      have := Option.some.inj hpt
      apply h
      rw [this, Int.toNat_of_nonneg hr.1]; exact hq

/-- The place that a source has come to lies in its bytes. -/
def StOk (l : List Int) (a : Int) : Prop := 0 ≤ a ∧ a ≤ l.length
theorem told_range (v m most : Int) (h0 : 1 < most) (h1 : most ≤ 9223372036854775807) : 0 ≤ spec_l01Src_n.toldF v m most ∧ spec_l01Src_n.toldF v m most < most := by
  unfold spec_l01Src_n.toldF
  rw [u64w, tmod_pos (by omega)]
  have a := Int.emod_nonneg ((v + m / 1048576) % 18446744073709551616) (show most ≠ 0 by omega)
  have b := Int.emod_lt_of_pos ((v + m / 1048576) % 18446744073709551616) (show 0 < most by omega)
  rw [w64 (by omega) (by omega)]
  exact ⟨a, b⟩
/-- A number below most is drawn. -/
theorem n_ok (l : List Int) (a m s most : Int) (hst : StOk l a) (h1 : most ≤ 9223372036854775807) :
    ∃ r a' m', spec_l01Src_n.f l a m s most = some (r, a', m', s) ∧ StOk l a' ∧ 0 ≤ r ∧ (r < most ∨ r = 0) := by
  unfold spec_l01Src_n.f StOk at *
  by_cases c1 : most ≤ 1
  · rw [if_pos c1]; exact ⟨_, _, _, rfl, hst, by omega, Or.inr rfl⟩
  · rw [if_neg c1, if_pos h1]
    by_cases c2 : a < (l.length : Int)
    · rw [if_pos c2, if_pos hst.1]
      have := told_range (IntKind.u64.wrap (rd l a)) (spec_l01Src_n.mixF m) most (by omega) h1
      exact ⟨_, _, _, rfl, by omega, this.1, Or.inl this.2⟩
    · rw [if_neg c2]
      have := told_range 0 (spec_l01Src_n.mixF m) most (by omega) h1
      exact ⟨_, _, _, rfl, hst, this.1, Or.inl this.2⟩
theorem src_l0 (l : List Int) (hl : l.length ≤ 140737488351232) : ∀ (d i : Nat) (m : Int), 64 - i = d → ∃ m' s, Ev (fun k => spec_l01Source.l0 k l i l 0 m 0) (l, 0, m', s) ∧ 0 ≤ s ∧ s ≤ 12 := by
  have fin : ∀ (i : Nat) (m : Int), ¬ ((i : Int) < (l.length : Int) ∧ (i : Int) < 64) → ∃ m' s, Ev (fun k => spec_l01Source.l0 k l i l 0 m 0) (l, 0, m', s) ∧ 0 ≤ s ∧ s ≤ 12 := by
    intro i m hi
    have ew : wrap64 ((l.length : Int) / 20) = (l.length : Int) / 20 := w64 (by omega) (by omega)
    by_cases h12 : (l.length : Int) / 20 > 12
    · refine ⟨m, 12, ev_succ ?_, by omega, by omega⟩
      simp only [spec_l01Source.l0, ew, if_pos h12]
      by_cases h1 : (i : Int) < (l.length : Int)
      · simp only [if_pos h1, if_neg (show ¬ (i : Int) < 64 from fun h => hi ⟨h1, h⟩)]; exact Ev.now _
      · simp only [if_neg h1]; exact Ev.now _
    · refine ⟨m, (l.length : Int) / 20, ev_succ ?_, by omega, by omega⟩
      simp only [spec_l01Source.l0, ew, if_neg h12]
      by_cases h1 : (i : Int) < (l.length : Int)
      · simp only [if_pos h1, if_neg (show ¬ (i : Int) < 64 from fun h => hi ⟨h1, h⟩)]; exact Ev.now _
      · simp only [if_neg h1]; exact Ev.now _
  intro d
  induction d with
  | zero => intro i m hd; exact fin i m (by omega)
  | succ d ih =>
    intro i m hd
    by_cases h : (i : Int) < (l.length : Int) ∧ (i : Int) < 64
    · obtain ⟨m', s, e, h0⟩ := ih (i + 1) (IntKind.u64.wrap ((Go.bits .xor .u64 m (IntKind.u64.wrap (rd l i))) * 1099511628211)) (by omega)
      refine ⟨m', s, ev_succ ?_, h0⟩
      simp only [spec_l01Source.l0, if_pos h.1, if_pos h.2, if_pos (nat0 i), wsucc (show i < l.length by omega) hl]
      exact e
    · exact fin i m h
theorem src_ok (l : List Int) (hl : l.length ≤ 140737488351232) : ∃ m s, Ev (fun k => spec_l01Source.f k l) (l, 0, m, s) ∧ 0 ≤ s ∧ s ≤ 12 := by
  simp only [spec_l01Source.f]
  exact src_l0 l hl 64 0 _ rfl
theorem st0 (l : List Int) : StOk l 0 := ⟨by omega, by omega⟩

theorem rd_all {p : Int → Prop} (l : List Int) (h : ∀ x ∈ l, p x) (i : Int) (h0 : 0 ≤ i) (h1 : i < (l.length : Int)) : p (rd l i) := by
  unfold rd
  rw [List.getD_eq_getElem?_getD, List.getElem?_eq_getElem (by omega)]
  exact h _ (List.getElem_mem _)
/-- An edge is a number of int64. -/
theorem edge_ok (l : List Int) (a m s : Int) (hst : StOk l a) : ∃ r a' m', spec_l01Src_edge.f l a m s = some (r, a', m', s) ∧ StOk l a' ∧ -9223372036854775808 ≤ r ∧ r ≤ 9223372036854775807 := by
  obtain ⟨r, a', m', e, hs, h0, h1⟩ := n_ok l a m s 14 hst (by omega)
  simp only [spec_l01Src_edge.f, Option.bind_some, e]
  rw [if_pos h0, if_pos (by simp; omega)]
  refine ⟨_, _, _, rfl, hs, ?_⟩
  exact rd_all (p := fun x => -9223372036854775808 ≤ x ∧ x ≤ 9223372036854775807) _ (by simp) _ h0 (by simp; omega)

/-- Drawn money is a number of int64. -/
theorem money_ok (l : List Int) (a m s : Int) (hst : StOk l a) : ∃ r a' m', spec_l01Src_l02Money.f l a m s = some (r, a', m', s) ∧ StOk l a' ∧ -9223372036854775808 ≤ r ∧ r ≤ 9223372036854775807 := by
  obtain ⟨r, a1, m1, e, hs, h0, h1⟩ := n_ok l a m s 8 hst (by omega)
  simp only [spec_l01Src_l02Money.f, e, Option.bind_some]
  by_cases c0 : r = 0
  · rw [if_pos c0]
    obtain ⟨r2, a2, m2, e2, hs2, h2⟩ := edge_ok l a1 m1 s hs
    simp only [e2, Option.bind_some]
    exact ⟨_, _, _, rfl, hs2, h2⟩
  · rw [if_neg c0]
    by_cases c1 : r = 1
    · rw [if_pos c1]
      obtain ⟨r2, a2, m2, e2, hs2, h2, h3⟩ := n_ok l a1 m1 s 5 hs (by omega)
      simp only [e2, Option.bind_some]
      rw [if_pos h2, if_pos (by simp; omega)]
      refine ⟨_, _, _, rfl, hs2, ?_⟩
      exact rd_all (p := fun x => -9223372036854775808 ≤ x ∧ x ≤ 9223372036854775807) _ (by simp) _ h2 (by simp; omega)
    · rw [if_neg c1]
      by_cases c2 : r = 2
      · rw [if_pos c2]
        obtain ⟨r2, a2, m2, e2, hs2, h2, h3⟩ := n_ok l a1 m1 s 9 hs (by omega)
        simp only [e2, Option.bind_some, w64 (a := r2 - 4) (by omega) (by omega)]
        exact ⟨_, _, _, rfl, hs2, by omega, by omega⟩
      · rw [if_neg c2]
        by_cases c3 : r = 3
        · rw [if_pos c3]
          obtain ⟨r2, a2, m2, e2, hs2, h2, h3⟩ := n_ok l a1 m1 s 1000000000000 hs (by omega)
          simp only [e2, Option.bind_some]
          exact ⟨_, _, _, rfl, hs2, by omega, by omega⟩
        · rw [if_neg c3]
          obtain ⟨r2, a2, m2, e2, hs2, h2, h3⟩ := n_ok l a1 m1 s 1000000 hs (by omega)
          simp only [e2, Option.bind_some, w64 (a := r2 - 100000) (by omega) (by omega)]
          exact ⟨_, _, _, rfl, hs2, by omega, by omega⟩

theorem told_same (a : Int) : impl_toldMoney.f a = spec_l02Out.f a := by
  simp only [impl_toldMoney.f, spec_l02Out.f, right_same]
theorem told_is (a : Int) : spec_l02Out.f a = some (if mr a = true then (a, 0) else (0, 13)) := by
  simp only [spec_l02Out.f, right_is, Option.bind_some]; split <;> rfl
theorem add_is (a b : Int) : spec_MoneyAdd.f a b = some (if mr a = true then (if mr b = true then (if mr (wrap64 (a + b)) = true then (wrap64 (a + b), 0) else (0, 13)) else (0, 1)) else (0, 1)) := by
  simp only [spec_MoneyAdd.f, right_is, told_is, Option.bind_some]
  split
  · split
    · split <;> rfl
    · rfl
  · rfl
theorem add_same (a b : Int) : impl_MoneyAdd.f a b = spec_MoneyAdd.f a b := by
  simp only [impl_MoneyAdd.f, spec_MoneyAdd.f, right_same, told_same]
theorem mr_iff (a : Int) : mr a = true ↔ -1000000000000 ≤ a ∧ a ≤ 1000000000000 := by unfold mr; rw [decide_eq_true_eq]
theorem money_ne (n : Int) : moneyB n ≠ ⟨#[]⟩ := by
  intro q
  have h := congrArg (fun x : ByteArray => x.data.toList.length) q
  have h : (moneyB n).data.toList.length = 0 := h
  rw [money_data, List.length_append, List.length_append, List.length_cons] at h
  omega
theorem moneyF_size (n : Int) : (moneyF n).size ≤ 300 := by
  unfold moneyF
  by_cases h : -1000000000000 ≤ n ∧ n ≤ 1000000000000
  · rw [if_pos h]
    unfold moneyB
    have := sumB_size n.natAbs (by omega)
    split
    · rw [ByteArray.size_append, one_size2]; omega
    · omega
  · rw [if_neg h]; decide
theorem money_rt (n : Int) (h : -1000000000000 ≤ n ∧ n ≤ 1000000000000) : impl_MoneyRead.f (moneyB n) = some (n, 0) := by
  have hF : moneyF n = moneyB n := by unfold moneyF; rw [if_pos h]
  have hs := moneyF_size n
  rw [hF] at hs
  rw [i_money_read _ (by omega)]
  refine congrArg some ?_
  rw [money_num n h]
  exact if_pos ⟨money_ne n, by rw [money_plain n h], hF⟩
theorem money_rd (t : ByteArray) : ∃ r : Int × Int, Ev (fun k => spec_MoneyRead.f k t) r ∧ impl_MoneyRead.f t = some r ∧ (r.2 = 0 → moneyF r.1 = t) := by
  by_cases h2 : t.size ≤ 20000
  · refine ⟨_, s_money_read t h2, i_money_read t h2, ?_⟩
    by_cases c : t ≠ ⟨#[]⟩ ∧ (plainF t.data.toList 0 0).2 = true ∧ moneyF (mNum t) = t
    · rw [if_pos c]; exact fun _ => c.2.2
    · rw [if_neg c]; intro q; exact absurd q (by decide)
  · refine ⟨(0, 2), ⟨0, fun k _ => by simp only [spec_MoneyRead.f]; rw [if_pos (by omega)]⟩, by simp only [impl_MoneyRead.f]; rw [if_pos (by omega)], fun q => absurd q (by decide)⟩
theorem rateF_size (n : Int) : (rateF n).size ≤ 300 := by
  unfold rateF
  by_cases h : 0 ≤ n ∧ n ≤ 1000000
  · rw [if_pos h]
    have h1 := dec_len 3 (n.toNat / 10000) (by omega) (by omega)
    have h2 := padL_len 4 (n.toNat % 10000) (by omega) (by omega)
    show (rateB n.toNat).data.toList.length ≤ 300
    rw [rate_data, List.length_append, List.length_append, List.length_cons, List.length_singleton]; omega
  · rw [if_neg h]; decide
theorem rate_rt (n : Int) (h : rateF n ≠ ⟨#[]⟩) : impl_RateRead.f (rateF n) = some (n, 0) := by
  have hr : 0 ≤ n ∧ n ≤ 1000000 := by
    by_cases q : 0 ≤ n ∧ n ≤ 1000000
    · exact q
    · exfalso; apply h; unfold rateF; rw [if_neg q]
  have hF : rateF n = rateB n.toNat := by unfold rateF; rw [if_pos hr]
  have hs := rateF_size n
  rw [i_rate_read _ (by omega)]
  refine congrArg some ?_
  have hp : plainF (rateF n).data.toList 0 0 = (n, true) := by
    rw [hF, rate_plain _ (by omega), Int.toNat_of_nonneg hr.1]
  rw [hp]
  exact if_pos ⟨h, rfl, rfl⟩
theorem rate_rd (t : ByteArray) : ∃ r : Int × Int, Ev (fun k => spec_RateRead.f k t) r ∧ impl_RateRead.f t = some r ∧ (r.2 = 0 → rateF r.1 = t) := by
  by_cases h2 : t.size ≤ 20000
  · refine ⟨_, s_rate_read t h2, i_rate_read t h2, ?_⟩
    by_cases c : t ≠ ⟨#[]⟩ ∧ (plainF t.data.toList 0 0).2 = true ∧ rateF (plainF t.data.toList 0 0).1 = t
    · rw [if_pos c]; exact fun _ => c.2.2
    · rw [if_neg c]; intro q; exact absurd q (by decide)
  · refine ⟨(0, 2), ⟨0, fun k _ => by simp only [spec_RateRead.f]; rw [if_pos (by omega)]⟩, by simp only [impl_RateRead.f]; rw [if_pos (by omega)], fun q => absurd q (by decide)⟩
theorem rate_ok (l : List Int) (a m s : Int) (hst : StOk l a) : ∃ r a' m', spec_l01Src_l02Rate.f l a m s = some (r, a', m', s) ∧ StOk l a' := by
  obtain ⟨r, a1, m1, e, hs, h0, h1⟩ := n_ok l a m s 6 hst (by omega)
  simp only [spec_l01Src_l02Rate.f, e, Option.bind_some]
  by_cases c0 : r = 0
  · rw [if_pos c0]
    obtain ⟨r2, a2, m2, e2, hs2, h2⟩ := edge_ok l a1 m1 s hs
    simp only [e2, Option.bind_some]
    exact ⟨_, _, _, rfl, hs2⟩
  · rw [if_neg c0]
    by_cases c1 : r = 1
    · rw [if_pos c1]
      obtain ⟨r2, a2, m2, e2, hs2, h2, h3⟩ := n_ok l a1 m1 s 6 hs (by omega)
      simp only [e2, Option.bind_some]
      rw [if_pos h2, if_pos (by simp; omega)]
      exact ⟨_, _, _, rfl, hs2⟩
    · rw [if_neg c1]
      obtain ⟨r2, a2, m2, e2, hs2, h2, h3⟩ := n_ok l a1 m1 s 120000 hs (by omega)
      simp only [e2, Option.bind_some]
      exact ⟨_, _, _, rfl, hs2⟩
theorem one_ok (l : List Int) (a m s most : Int) (hst : StOk l a) (h1 : most ≤ 9223372036854775807) : ∃ b a' m', spec_l01Src_one.f l a m s most = some (b, a', m', s) ∧ StOk l a' := by
  obtain ⟨r, a1, m1, e, hs, _⟩ := n_ok l a m s most hst h1
  exact ⟨r == 0, a1, m1, by simp only [spec_l01Src_one.f, e, Option.bind_some], hs⟩
theorem spoil_j0 (t x : ByteArray) (p : Nat) (b : Bool) (l : List Int) (a m s : Int) (hst : StOk l a) (ht : t.size ≤ 300) (hx : x.size ≤ 10) (hp : p ≤ t.size) (hb : b = false → p < t.size) :
    ∃ r a' m', Ev (fun k => spec_l01Src_spoil.j0 k t (p : Int) x b l a m s) (r, a', m', s) := by
  have s1 : (t.extract 0 p).size ≤ 300 := by rw [ByteArray.size_extract]; omega
  have s2 : (t.extract p t.size).size ≤ 300 := by rw [ByteArray.size_extract]; omega
  have s3 : (t.extract (p + 1) t.size).size ≤ 300 := by rw [ByteArray.size_extract]; omega
  have e1 : ((p : Nat) : Int).toNat = p := Int.toNat_natCast p
  have w1 : wrap64 ((p : Int) + 1) = ((p + 1 : Nat) : Int) := by rw [w64 (by omega) (by omega)]; rfl
  have e2 : ((p + 1 : Nat) : Int).toNat = p + 1 := Int.toNat_natCast (p + 1)
  cases b with
  | true =>
    refine ⟨((t.extract 0 p) ++ x) ++ (t.extract p t.size), a, m, ev_succ ?_⟩
    simp only [spec_l01Src_spoil.j0, if_true, e1]
    exact ev_pos (by omega) (ev_pos (by omega) (ev_pos (by omega) (ev_pos (by rw [ByteArray.size_append]; omega) (Ev.now _))))
  | false =>
    have hlt := hb rfl
    obtain ⟨c, a1, m1, e, hs⟩ := one_ok l a m s 2 hst (by omega)
    cases c with
    | true =>
      refine ⟨(t.extract 0 p) ++ (t.extract (p + 1) t.size), a1, m1, ev_succ ?_⟩
      simp only [spec_l01Src_spoil.j0, Bool.false_eq_true, if_false, e, Option.bind_some, if_true, e1, w1, e2]
      exact ev_pos (by omega) (ev_pos (by omega) (ev_pos (by omega) (ev_pos (by omega) (ev_pos (by omega) (Ev.now _)))))
    | false =>
      refine ⟨((t.extract 0 p) ++ x) ++ (t.extract (p + 1) t.size), a1, m1, ev_succ ?_⟩
      simp only [spec_l01Src_spoil.j0, Bool.false_eq_true, if_false, e, Option.bind_some, e1, w1, e2]
      exact ev_pos (by omega) (ev_pos (by omega) (ev_pos (by omega) (ev_pos (by omega) (ev_pos (by omega) (ev_pos (by rw [ByteArray.size_append]; omega) (Ev.now _))))))
theorem spoil_ok (t : ByteArray) (l : List Int) (a m s : Int) (hst : StOk l a) (ht : t.size ≤ 300) : ∃ r a' m', Ev (fun k => spec_l01Src_spoil.f k l a m s t) (r, a', m', s) := by
  have w0 : wrap64 ((t.size : Int) + 1) = (t.size : Int) + 1 := w64 (by omega) (by omega)
  obtain ⟨r, a1, m1, e, hs, h0, h1⟩ := n_ok l a m s ((t.size : Int) + 1) hst (by omega)
  obtain ⟨r2, a2, m2, e2, hs2, h2, h3⟩ := n_ok l a1 m1 s 17 hs (by omega)
  obtain ⟨p, rfl⟩ := Int.eq_ofNat_of_zero_le h0
  have hx : (strOfNums [bt (⟨#[32, 10, 48, 97, 45, 110, 44, 58, 93, 255, 40, 120, 126, 49, 128, 225, 59]⟩ : ByteArray) r2]).size ≤ 10 := by rw [strOfNums_size, List.length_singleton]; omega
  simp only [spec_l01Src_spoil.f, w0, e, e2, Option.bind_some]
  by_cases c : (p : Int) = (t.size : Int)
  · obtain ⟨q, a3, m3, ev⟩ := spoil_j0 t _ p true l a2 m2 s hs2 ht hx (by omega) (fun z => by cases z)
    exact ⟨q, a3, m3, ev_pos h2 (ev_pos (by omega) (ev_pos c ev))⟩
  · obtain ⟨b, a4, m4, e4, hs4⟩ := one_ok l a2 m2 s 3 hs2 (by omega)
    obtain ⟨q, a3, m3, ev⟩ := spoil_j0 t _ p b l a4 m4 s hs4 ht hx (by omega) (fun _ => by omega)
    refine ⟨q, a3, m3, ev_pos h2 (ev_pos (by omega) (ev_neg c ?_))⟩
    simp only [e4, Option.bind_some]
    exact ev
theorem draw_add (l : List Int) (hl : l.length ≤ 140737488351232) : ∃ a b : Int, Ev (fun k => spec_DrawMoneyAdd.f k l) (a, b) := by
  obtain ⟨m, s, e, _⟩ := src_ok l hl
  obtain ⟨a, a1, m1, e1, h1, _⟩ := money_ok l 0 m s (st0 l)
  obtain ⟨b, a2, m2, e2, h2, _⟩ := money_ok l a1 m1 s h1
  refine ⟨a, b, ?_⟩
  simp only [spec_DrawMoneyAdd.f]
  refine Ev.bind e ?_
  simp only [e1, e2, Option.bind_some]; exact Ev.now _
theorem draw_rt (l : List Int) (hl : l.length ≤ 140737488351232) : ∃ r : Int, Ev (fun k => spec_DrawRateText.f k l) r := by
  obtain ⟨m, s, e, _⟩ := src_ok l hl
  obtain ⟨a, a1, m1, e1, h1⟩ := rate_ok l 0 m s (st0 l)
  refine ⟨a, ?_⟩
  simp only [spec_DrawRateText.f]
  refine Ev.bind e ?_
  simp only [e1, Option.bind_some]; exact Ev.now _
theorem draw_mr (l : List Int) (hl : l.length ≤ 140737488351232) : ∃ t : ByteArray, Ev (fun k => spec_DrawMoneyRead.f k l) t := by
  obtain ⟨m, s, e, _⟩ := src_ok l hl
  obtain ⟨n, a1, m1, e1, h1, _⟩ := money_ok l 0 m s (st0 l)
  obtain ⟨b, a2, m2, e2, h2⟩ := one_ok l a1 m1 s 3 h1 (by omega)
  obtain ⟨q, a3, m3, ev⟩ := spoil_ok (moneyF n) l a2 m2 s h2 (moneyF_size n)
  unfold spec_DrawMoneyRead.f
  cases b with
  | true => exact ⟨q, Ev.bind e (ev_cbind e1 (Ev.bind (sMoney n) (ev_cbind e2 (ev_pos rfl (Ev.bind ev (Ev.now _))))))⟩
  | false => exact ⟨moneyF n, Ev.bind e (ev_cbind e1 (Ev.bind (sMoney n) (ev_cbind e2 (ev_neg (by simp) (Ev.now _)))))⟩
theorem draw_rr (l : List Int) (hl : l.length ≤ 140737488351232) : ∃ t : ByteArray, Ev (fun k => spec_DrawRateRead.f k l) t := by
  obtain ⟨m, s, e, _⟩ := src_ok l hl
  obtain ⟨n, a1, m1, e1, h1⟩ := rate_ok l 0 m s (st0 l)
  obtain ⟨b, a2, m2, e2, h2⟩ := one_ok l a1 m1 s 3 h1 (by omega)
  obtain ⟨q, a3, m3, ev⟩ := spoil_ok (rateF n) l a2 m2 s h2 (rateF_size n)
  unfold spec_DrawRateRead.f
  cases b with
  | true => exact ⟨q, Ev.bind e (ev_cbind e1 (Ev.bind (sRate n) (ev_cbind e2 (ev_pos rfl (Ev.bind ev (Ev.now _))))))⟩
  | false => exact ⟨rateF n, Ev.bind e (ev_cbind e1 (Ev.bind (sRate n) (ev_cbind e2 (ev_neg (by simp) (Ev.now _)))))⟩
theorem j5_ev (t u : ByteArray) (y z : Int × Int) (hy : y.2 = 0 → moneyF y.1 = t) (hz : z.2 = 0 → rateF z.1 = u) : Ev (fun k => laws_FnMoney.j5 k t u false y.1 y.2 z.1 z.2) true := by
  refine ev_succ ?_
  simp only [laws_FnMoney.j5, Bool.false_eq_true, if_false, iMoney, iRate, Option.bind_some]
  have last : Ev (fun _ : Nat => if z.2 = 0 then some ((rateF z.1).toList == u.toList) else some true) true := by
    by_cases c : z.2 = 0
    · refine ev_pos c ?_
      rw [hz c, beq_self_eq_true]; exact Ev.now _
    · exact ev_neg c (Ev.now _)
  by_cases c : y.2 = 0
  · refine ev_pos c (ev_pos (by rw [hy c]) last)
  · exact ev_neg c last
theorem j4_ev (l : List Int) (hl : l.length ≤ 140737488351232) : Ev (fun k => laws_FnMoney.j4 k l false) true := by
  obtain ⟨t, et⟩ := draw_mr l hl
  obtain ⟨u, eu⟩ := draw_rr l hl
  obtain ⟨y, ey, iy, hy⟩ := money_rd t
  obtain ⟨z, ez, iz, hz⟩ := rate_rd u
  refine ev_succ ?_
  simp only [laws_FnMoney.j4, Bool.false_eq_true, if_false]
  refine Ev.bind et (Ev.bind eu ?_)
  simp only [iy, iz, Option.bind_some]
  refine Ev.bind ey ?_
  simp only [beq_self_eq_true, Bool.not_true, Bool.or_self, Bool.false_eq_true, if_false]
  refine Ev.bind ez ?_
  simp only [beq_self_eq_true, Bool.not_true, Bool.or_self]
  exact j5_ev t u y z hy hz
theorem j3_ev (l0 l : List Int) (hl0 : l0.length ≤ 140737488351232) (hl : l.length ≤ 140737488351232) : Ev (fun k => laws_FnMoney.j3 k l0 l false) true := by
  obtain ⟨r, er⟩ := draw_rt l0 hl0
  refine ev_succ ?_
  simp only [laws_FnMoney.j3, Bool.false_eq_true, if_false]
  refine Ev.bind er (Ev.bind (sRate r) ?_)
  by_cases c : rateF r = ⟨#[]⟩
  · exact ev_pos ((nil_toList _).2 c) (j4_ev l hl)
  · refine ev_neg (fun q => c ((nil_toList _).1 q)) ?_
    simp only [iRate, rate_rt r c, Option.bind_some, beq_self_eq_true, Bool.not_true, Bool.or_self]
    exact j4_ev l hl
theorem j2_ev (l0 l : List Int) (a : Int) (hl0 : l0.length ≤ 140737488351232) (hl : l.length ≤ 140737488351232) : Ev (fun k => laws_FnMoney.j2 k l0 l a false) true := by
  refine ev_succ ?_
  simp only [laws_FnMoney.j2, Bool.false_eq_true, if_false, right_is, Option.bind_some]
  by_cases c : mr a = true
  · refine ev_pos c ?_
    have hr := (mr_iff a).1 c
    have hF : moneyF a = moneyB a := by unfold moneyF; rw [if_pos hr]
    simp only [iMoney, hF, money_rt a hr, Option.bind_some, beq_self_eq_true, Bool.not_true, Bool.or_self]
    exact j3_ev l0 l hl0 hl
  · exact ev_neg c (j3_ev l0 l hl0 hl)
theorem j1_ev (l0 l : List Int) (a b : Int) (hl0 : l0.length ≤ 140737488351232) (hl : l.length ≤ 140737488351232) (x : Int × Int) (hx : spec_MoneyAdd.f a b = some x) : Ev (fun k => laws_FnMoney.j1 k l0 l a b false x.1 x.2) true := by
  refine ev_succ ?_
  simp only [laws_FnMoney.j1, Bool.false_eq_true, if_false]
  by_cases c : x.2 = 0
  · refine ev_pos c ?_
    by_cases c0 : b = 0
    · refine ev_pos c0 ?_
      rw [c0]; exact j2_ev l0 l a hl0 hl
    · refine ev_neg c0 ?_
      rw [add_is] at hx
      have hx := Option.some.inj hx
      have ha : mr a = true := by
        by_cases q : mr a = true
        · exact q
        · rw [if_neg q] at hx; rw [← hx] at c; exact absurd c (by decide)
      rw [if_pos ha] at hx
      have hb : mr b = true := by
        by_cases q : mr b = true
        · exact q
        · rw [if_neg q] at hx; rw [← hx] at c; exact absurd c (by decide)
      rw [if_pos hb] at hx
      have ra := (mr_iff a).1 ha
      have rb := (mr_iff b).1 hb
      have w : wrap64 (a + b) = a + b := w64 (by omega) (by omega)
      rw [w] at hx
      have hs : mr (a + b) = true := by
        by_cases q : mr (a + b) = true
        · exact q
        · rw [if_neg q] at hx; rw [← hx] at c; exact absurd c (by decide)
      rw [if_pos hs] at hx
      have hx1 : x.1 = a + b := by rw [← hx]
      have wn : wrap64 (-b) = -b := w64 (by omega) (by omega)
      have hn : mr (-b) = true := (mr_iff _).2 (by omega)
      have w2 : wrap64 (a + b + -b) = a := by rw [w64 (by omega) (by omega)]; omega
      have fin : impl_MoneyAdd.f x.1 (wrap64 (-b)) = some (a, 0) := by
        rw [add_same, add_is, hx1, wn, if_pos hs, if_pos hn, w2, if_pos ha]
      simp only [fin, Option.bind_some, if_true]
      exact j2_ev l0 l a hl0 hl
  · exact ev_neg c (j2_ev l0 l a hl0 hl)
theorem FnMoney : laws_FnMoney.Pure := by
  intro l0 l hl0 hl
  refine Ev.rounds (g := fun k => laws_FnMoney.f k l0 l) ?_
  simp only [laws_FnMoney.f]
  by_cases c : (l0.length : Int) > 1048576
  · refine ev_pos c (ev_succ ?_)
    simp only [laws_FnMoney.j0, if_true]; exact Ev.now _
  · refine ev_neg c ?_
    by_cases c2 : (l.length : Int) > 1048576
    · refine ev_succ ?_
      simp only [laws_FnMoney.j0, decide_eq_true c2, if_true]; exact Ev.now _
    · refine ev_succ ?_
      obtain ⟨a, b, e⟩ := draw_add l0 (by omega)
      simp only [laws_FnMoney.j0, decide_eq_false c2, Bool.false_eq_true, if_false]
      refine Ev.bind e ?_
      simp only [add_same]
      obtain ⟨x, hx⟩ : ∃ x, spec_MoneyAdd.f a b = some x := ⟨_, add_is a b⟩
      simp only [hx, Option.bind_some, beq_self_eq_true, Bool.not_true, Bool.or_self, Bool.false_eq_true, if_false, right_same, right_is, bne_self_eq_false]
      exact j1_ev l0 l a b (by omega) (by omega) x hx

end Go.Proofs.YtabmljlpmnlbpaaDoor.Pure
