/- At every text the program's RateRead is the reference's RateRead. The row lists variables of Go's library; the card ties them. -/
import Derived.Test.YtabmljlpmnlbpaaDoorPFnExactRateReadx2
import Derived.Test.YtabmljlpmnlbpaaDoorQLib
namespace Go.Proofs.YtabmljlpmnlbpaaDoor.Pure
set_option linter.unusedSimpArgs false
set_option linter.unusedVariables false
open Go.RowKit Go.Proofs.YtabmljlpmnlbpaaDoor.PFnExactRateRead Go.Proofs.YtabmljlpmnlbpaaDoorW.PrintWords Go.Proofs.YtabmljlpmnlbpaaDoorW.PrintLast Go.Proofs.YtabmljlpmnlbpaaDoorW.PrintMore
open Go.Proofs.YtabmljlpmnlbpaaDoor.Q
def decB (u : Nat) : ByteArray := ⟨(Lib.decDigits u).toArray⟩
theorem dec_small {u : Nat} (h : u < 10) : Lib.decDigits u = [UInt8.ofNat (48 + u)] := by rw [Lib.decDigits, dif_pos h]
theorem dec_step {u : Nat} (h : ¬ u < 10) : Lib.decDigits u = Lib.decDigits (u / 10) ++ [UInt8.ofNat (48 + u % 10)] := by rw [Lib.decDigits, dif_neg h]
theorem dec_len : ∀ (d u : Nat), 1 ≤ d → u < 10 ^ d → (Lib.decDigits u).length ≤ d ∧ 1 ≤ (Lib.decDigits u).length := by
  intro d
  induction d with
  | zero => intro u h; omega
  | succ d ih =>
    intro u h hu
    by_cases h1 : u < 10
    · rw [dec_small h1]; simp
    · rw [dec_step h1, List.length_append, List.length_singleton]
      have hd : 1 ≤ d := by
        rcases Nat.eq_zero_or_pos d with q | q
        · subst q; simp at hu; omega
        · exact q
      have := ih (u / 10) hd (by rw [Nat.pow_succ] at hu; omega)
      omega
theorem decB_size (u : Nat) (h : u < 10 ^ 19) : (decB u).size ≤ 19 ∧ 1 ≤ (decB u).size := by
  have e : (decB u).size = (Lib.decDigits u).length := by simp [decB, ByteArray.size]
  rw [e]; exact dec_len 19 u (by omega) h
theorem ba_ext {a b : ByteArray} (h : a.data.toList = b.data.toList) : a = b := ByteArray.ext (Array.toList_inj.1 h)
theorem implDec (u : Nat) (h : u ≤ 4611686018427387904) : impl_dec.f (u : Int) = some (decB u) := by
  unfold impl_dec.f strconv_FormatInt.f
  rw [if_pos ⟨rfl, by omega, by omega⟩, Option.bind_some, Lib.itoa_nonneg]; rfl
theorem dig_str (u : Nat) : (strOfNums [(wrap64 (48 + (Int.tmod (u : Int) 10))) % 256]).data.toList = [UInt8.ofNat (48 + u % 10)] := by
  rw [tmod_pos (show (0 : Int) ≤ (u : Int) by omega), w64 (by omega) (by omega), strOfNums_data]
  simp only [List.map_cons, List.map_nil]
  congr 2
  omega
theorem sdec_l0 : ∀ (d u : Nat) (x : ByteArray), u < 10 ^ d → u ≤ 4611686018427387904 → x.size + d ≤ 1000 → Ev (fun k => spec_l01Dec.l0 k (u : Int) false x) (if u = 0 then x else decB u ++ x) := by
  intro d
  induction d with
  | zero =>
    intro u x h hb hs
    have hu : u = 0 := by simp at h; omega
    subst hu
    refine ev_succ ?_
    simp only [spec_l01Dec.l0, if_pos (show ((0 : Nat) : Int) = 0 from rfl), Bool.false_eq_true, if_false, if_true]
    exact Ev.now _
  | succ d ih =>
    intro u x h hb hs
    by_cases h0 : u = 0
    · subst h0
      refine ev_succ ?_
      simp only [spec_l01Dec.l0, if_pos (show ((0 : Nat) : Int) = 0 from rfl), Bool.false_eq_true, if_false, if_true]
      exact Ev.now _
    · rw [if_neg h0]
      refine ev_succ ?_
      have ht : Int.tmod (u : Int) 10 = (u : Int) % 10 := tmod_pos (by omega)
      have hq : wrap64 (Int.tdiv (u : Int) 10) = ((u / 10 : Nat) : Int) := by rw [tdiv_pos (by omega), w64 (by omega) (by omega)]; omega
      have ds := dig_str u
      have hsz : (strOfNums [(wrap64 (48 + (Int.tmod (u : Int) 10))) % 256]).size = 1 := by rw [strOfNums_size]; rfl
      simp only [spec_l01Dec.l0, if_neg (show ¬ (u : Int) = 0 by omega), if_neg (show ¬ Int.tmod (u : Int) 10 < 0 by rw [ht]; omega), Option.bind_some, hq]
      generalize strOfNums [(wrap64 (48 + (Int.tmod (u : Int) 10))) % 256] = S at ds hsz
      refine ev_pos (by omega) ?_
      have e := ih (u / 10) (S ++ x) (by rw [Nat.pow_succ] at h; omega) (by omega) (by rw [ByteArray.size_append]; omega)
      have fin : (if u / 10 = 0 then S ++ x else decB (u / 10) ++ (S ++ x)) = decB u ++ x := by
        by_cases h1 : u < 10
        · rw [if_pos (by omega)]
          apply ba_ext
          simp only [ByteArray.data_append, Array.toList_append, ds]
          rw [show (decB u).data.toList = [UInt8.ofNat (48 + u)] by simp [decB, dec_small h1], Nat.mod_eq_of_lt h1]
        · rw [if_neg (by omega)]
          apply ba_ext
          simp only [ByteArray.data_append, Array.toList_append, ds]
          rw [show (decB u).data.toList = (decB (u / 10)).data.toList ++ [UInt8.ofNat (48 + u % 10)] by simp [decB, dec_step h1], List.append_assoc]
      rw [fin] at e
      exact e
theorem sdec_ev (u : Nat) (h : u ≤ 4611686018427387904) : Ev (fun k => spec_l01Dec.f k (u : Int)) (decB u) := by
  by_cases h0 : u = 0
  · subst h0
    simp only [spec_l01Dec.f, if_pos (show ((0 : Nat) : Int) = 0 from rfl)]
    have : (⟨#[48]⟩ : ByteArray) = decB 0 := ba_ext (by simp [decB, dec_small])
    rw [this]; exact Ev.now _
  · have e := sdec_l0 19 u ⟨#[]⟩ (by omega) h (by simp [ByteArray.size])
    rw [if_neg h0] at e
    have e2 : decB u ++ (⟨#[]⟩ : ByteArray) = decB u := ba_ext (by simp)
    rw [e2] at e
    simp only [spec_l01Dec.f, if_neg (show ¬ (u : Int) = 0 by omega), decide_eq_false (show ¬ (u : Int) < 0 by omega)]
    exact e
/-- A text with noughts ahead of it, so that it has so many signs. -/
def padT (m : Nat) (x : ByteArray) : ByteArray := (⟨(List.replicate (m - x.size) (48 : UInt8)).toArray⟩ : ByteArray) ++ x
theorem repB_size (n : Nat) : (⟨(List.replicate n (48 : UInt8)).toArray⟩ : ByteArray).size = n := by
  show (List.replicate n (48 : UInt8)).toArray.size = n
  rw [List.size_toArray, List.length_replicate]
theorem padT_size (m : Nat) (x : ByteArray) : (padT m x).size = (m - x.size) + x.size := by
  unfold padT
  rw [ByteArray.size_append, repB_size]
theorem sdig_l0 (m : Nat) (hm : m ≤ 100) : ∀ (d : Nat) (x : ByteArray), m - x.size = d → x.size ≤ 1000 → Ev (fun k => spec_l02Digits.l0 k (m : Int) x) (padT m x) := by
  intro d
  induction d with
  | zero =>
    intro x hd hx
    refine ev_succ ?_
    simp only [spec_l02Digits.l0]
    refine ev_neg (show ¬ (x.size : Int) < (m : Int) by omega) ?_
    have : padT m x = x := by unfold padT; rw [hd]; exact ba_ext (by simp)
    rw [this]; exact Ev.now _
  | succ d ih =>
    intro x hd hx
    refine ev_succ ?_
    simp only [spec_l02Digits.l0]
    refine ev_pos (show (x.size : Int) < (m : Int) by omega) (ev_pos (by omega) ?_)
    have hs : ((⟨#[48]⟩ : ByteArray) ++ x).size = 1 + x.size := by rw [ByteArray.size_append]; rfl
    have e := ih ((⟨#[48]⟩ : ByteArray) ++ x) (by omega) (by omega)
    have e2 : padT m ((⟨#[48]⟩ : ByteArray) ++ x) = padT m x := by
      unfold padT
      rw [hs, show m - (1 + x.size) = d by omega, hd]
      apply ba_ext
      simp only [ByteArray.data_append, Array.toList_append, List.replicate_succ', List.append_assoc]
    rw [e2] at e
    exact e
theorem sdig_ev (u m : Nat) (h : u ≤ 4611686018427387904) (hm : m ≤ 100) : Ev (fun k => spec_l02Digits.f k (u : Int) (m : Int)) (padT m (decB u)) := by
  have hs := decB_size u (by omega)
  simp only [spec_l02Digits.f]
  exact Ev.bind (sdec_ev u h) (sdig_l0 m hm _ _ rfl (by omega))
theorem rep48 : ∀ c, Lib.repeatL [48] c = List.replicate c (48 : UInt8)
  | 0 => rfl
  | c + 1 => by rw [Lib.repeatL, rep48 c, List.replicate_succ]; rfl
theorem implPad (u m : Nat) (h : u ≤ 4611686018427387904) (hm : m ≤ 100) : impl_padded.f (u : Int) (m : Int) = some (padT m (decB u)) := by
  have hs := decB_size u (by omega)
  unfold impl_padded.f strings_Repeat.f
  rw [implDec u h, Option.bind_some, w64 (by omega) (by omega)]
  have hmx : mx ((m : Int) - ((decB u).size : Int)) 0 = ((m - (decB u).size : Nat) : Int) := by unfold mx; split <;> omega
  have hz : (⟨#[48]⟩ : ByteArray).size = 1 := rfl
  rw [hmx, if_pos ⟨by omega, by omega, by rw [hz, Int.toNat_natCast]; omega⟩, Option.bind_some, Int.toNat_natCast]
  have e : (⟨(Lib.repeatL (⟨#[48]⟩ : ByteArray).data.toList (m - (decB u).size)).toArray⟩ : ByteArray) = (⟨(List.replicate (m - (decB u).size) (48 : UInt8)).toArray⟩ : ByteArray) := by
    rw [← rep48]
  rw [e, if_pos (by rw [repB_size]; omega)]
  rfl

/-- A rate as it is written. -/
def rateB (u : Nat) : ByteArray := ((decB (u / 10000) ++ (⟨#[46]⟩ : ByteArray)) ++ padT 4 (decB (u % 10000))) ++ (⟨#[37]⟩ : ByteArray)
theorem one_size (c : UInt8) : (⟨#[c]⟩ : ByteArray).size = 1 := rfl
theorem srate_ev (u : Nat) (h : u ≤ 1000000) : Ev (fun k => spec_RateText.f k (u : Int)) (rateB u) := by
  have s1 := decB_size (u / 10000) (by omega)
  have s2 := decB_size (u % 10000) (by omega)
  have s3 := padT_size 4 (decB (u % 10000))
  simp only [spec_RateText.f, if_neg (show ¬ (u : Int) < 0 by omega), decide_eq_false (show ¬ (u : Int) > 1000000 by omega)]
  refine ev_succ ?_
  have hd : wrap64 (Int.tdiv (u : Int) 10000) = ((u / 10000 : Nat) : Int) := by rw [tdiv_pos (by omega), w64 (by omega) (by omega)]; omega
  have hr : Int.tmod (u : Int) 10000 = ((u % 10000 : Nat) : Int) := by rw [tmod_pos (by omega)]; omega
  simp only [spec_RateText.j0, Bool.false_eq_true, if_false, hd, hr]
  refine Ev.bind (sdec_ev (u / 10000) (by omega)) ?_
  refine ev_pos (by omega) ?_
  refine Ev.bind (sdig_ev (u % 10000) 4 (by omega) (by omega)) ?_
  refine ev_pos (by rw [ByteArray.size_append, one_size]; omega) (ev_pos (by rw [ByteArray.size_append, ByteArray.size_append, one_size]; omega) (Ev.now _))
theorem irate (u : Nat) (h : u ≤ 1000000) : impl_RateText.f (u : Int) = some (rateB u) := by
  have s1 := decB_size (u / 10000) (by omega)
  have s2 := decB_size (u % 10000) (by omega)
  have s3 := padT_size 4 (decB (u % 10000))
  have hd : wrap64 (Int.tdiv (u : Int) 10000) = ((u / 10000 : Nat) : Int) := by rw [tdiv_pos (by omega), w64 (by omega) (by omega)]; omega
  have hr : Int.tmod (u : Int) 10000 = ((u % 10000 : Nat) : Int) := by rw [tmod_pos (by omega)]; omega
  have hi : impl_isRate.f (u : Int) = some true := by unfold impl_isRate.f impl_in.f; simp; omega
  unfold impl_RateText.f
  rw [hi, Option.bind_some, if_pos rfl, hd, hr, implDec _ (by omega), Option.bind_some, if_pos (by omega), show ((4 : Int)) = ((4 : Nat) : Int) from rfl, implPad _ 4 (by omega) (by omega), Option.bind_some]
  rw [if_pos (by rw [ByteArray.size_append, one_size]; omega), if_pos (by rw [ByteArray.size_append, ByteArray.size_append, one_size]; omega)]
  rfl
theorem srate_out (n : Int) (h : n < 0 ∨ 1000000 < n) : Ev (fun k => spec_RateText.f k n) ⟨#[]⟩ := by
  by_cases h0 : n < 0
  · simp only [spec_RateText.f, if_pos h0]
    refine ev_succ ?_
    simp only [spec_RateText.j0, if_true]; exact Ev.now _
  · simp only [spec_RateText.f, if_neg h0, decide_eq_true (show n > 1000000 by omega)]
    refine ev_succ ?_
    simp only [spec_RateText.j0, if_true]; exact Ev.now _
theorem irate_out (n : Int) (h : n < 0 ∨ 1000000 < n) : impl_RateText.f n = some ⟨#[]⟩ := by
  have hi : impl_isRate.f n = some false := by
    unfold impl_isRate.f impl_in.f
    by_cases h0 : 0 ≤ n
    · simp [h0]; omega
    · simp [h0]
  unfold impl_RateText.f
  rw [hi, Option.bind_some, if_neg (by simp)]


/-- Is a byte a digit? -/
abbrev isD (c : UInt8) : Prop := 48 ≤ c.toNat ∧ c.toNat ≤ 57
/-- The number that digits tell behind a number. -/
def valL (a : Nat) (l : List UInt8) : Nat := l.foldl (fun a c => 10 * a + (c.toNat - 48)) a
theorem valL_cons (a : Nat) (c : UInt8) (l : List UInt8) : valL a (c :: l) = valL (10 * a + (c.toNat - 48)) l := by simp only [valL, List.foldl_cons]
theorem valL_append (a : Nat) (x y : List UInt8) : valL a (x ++ y) = valL (valL a x) y := List.foldl_append ..
theorem mul_shift (a d P : Nat) : (10 * a + d) * P = a * (P * 10) + d * P := by
  rw [Nat.add_mul, Nat.mul_comm 10 a, Nat.mul_assoc, Nat.mul_comm 10 P]
theorem valL_shift (l : List UInt8) : ∀ a : Nat, valL a l = a * 10 ^ l.length + valL 0 l := by
  induction l with
  | nil => intro a; simp [valL]
  | cons c l ih =>
    intro a
    rw [valL_cons, valL_cons, ih, ih (10 * 0 + _), List.length_cons, Nat.pow_succ, mul_shift, mul_shift, Nat.zero_mul, Nat.zero_add, Nat.add_assoc]
theorem valL_ge (l : List UInt8) (a : Nat) : a ≤ valL a l := by
  rw [valL_shift]
  have : a * 1 ≤ a * 10 ^ l.length := Nat.mul_le_mul_left a (Nat.pow_pos (by omega))
  omega
theorem ofNat_dig {d : Nat} (h : d < 10) : (UInt8.ofNat (48 + d)).toNat = 48 + d := by
  rw [UInt8.toNat_ofNat']; omega
theorem dec_isD : ∀ u : Nat, ∀ c ∈ Lib.decDigits u, isD c := by
  intro u
  induction u using Nat.strongRecOn with
  | _ u ih =>
    intro c hc
    by_cases h : u < 10
    · rw [dec_small h] at hc
      have := List.mem_singleton.1 hc
      subst this
      unfold isD; rw [ofNat_dig h]; omega
    · rw [dec_step h] at hc
      rcases List.mem_append.1 hc with q | q
      · exact ih (u / 10) (by omega) c q
      · have := List.mem_singleton.1 q
        subst this
        unfold isD; rw [ofNat_dig (Nat.mod_lt _ (by omega))]; omega
theorem valL_dec : ∀ u : Nat, valL 0 (Lib.decDigits u) = u := by
  intro u
  induction u using Nat.strongRecOn with
  | _ u ih =>
    by_cases h : u < 10
    · rw [dec_small h, valL_cons, ofNat_dig h]; simp [valL]
    · rw [dec_step h, valL_append, ih (u / 10) (by omega), valL_cons, ofNat_dig (Nat.mod_lt _ (by omega))]
      show 10 * (u / 10) + (48 + u % 10 - 48) = u
      omega
/-- A number's digits with noughts ahead. -/
def padL (m r : Nat) : List UInt8 := List.replicate (m - (Lib.decDigits r).length) 48 ++ Lib.decDigits r
theorem rep_isD (n : Nat) : ∀ c ∈ List.replicate n (48 : UInt8), isD c := by
  intro c hc
  rw [(List.mem_replicate.1 hc).2]; unfold isD; decide
theorem padL_isD (m r : Nat) : ∀ c ∈ padL m r, isD c := by
  intro c hc
  rcases List.mem_append.1 hc with q | q
  · exact rep_isD _ c q
  · exact dec_isD r c q
theorem padL_len (m r : Nat) (h1 : 1 ≤ m) (h : r < 10 ^ m) : (padL m r).length = m := by
  have := dec_len m r h1 h
  unfold padL
  rw [List.length_append, List.length_replicate]; omega
theorem valL_rep : ∀ n : Nat, valL 0 (List.replicate n (48 : UInt8)) = 0
  | 0 => rfl
  | n + 1 => by rw [List.replicate_succ, valL_cons]; exact valL_rep n
theorem valL_padL (a m r : Nat) (h1 : 1 ≤ m) (h : r < 10 ^ m) : valL a (padL m r) = a * 10 ^ m + r := by
  rw [valL_shift, padL_len m r h1 h]
  congr 1
  unfold padL
  rw [valL_append, valL_rep, valL_dec]
theorem padT_data (m r : Nat) : (padT m (decB r)).data.toList = padL m r := by
  have e : (decB r).size = (Lib.decDigits r).length := by
    show (Lib.decDigits r).toArray.size = _; rw [List.size_toArray]
  unfold padT padL
  rw [e, ByteArray.data_append, Array.toList_append]
  rfl
theorem decB_data (u : Nat) : (decB u).data.toList = Lib.decDigits u := rfl
/-- What 'l02Plain' makes of a text. -/
def plainF : List UInt8 → Nat → Nat → Int × Bool
  | [], n, _ => ((n : Int), true)
  | c :: r, n, m => if 48 ≤ c.toNat ∧ c.toNat ≤ 57 then (if 17 < m + 1 then (0, false) else plainF r (10 * n + (c.toNat - 48)) (m + 1)) else plainF r n m
theorem plainF_digits : ∀ (ds rest : List UInt8) (n m : Nat), (∀ c ∈ ds, isD c) → m + ds.length ≤ 17 → plainF (ds ++ rest) n m = plainF rest (valL n ds) (m + ds.length)
  | [], rest, n, m, _, _ => rfl
  | c :: ds, rest, n, m, h, hm => by
    have hc : isD c := h c (by simp)
    rw [List.length_cons] at hm
    show plainF (c :: (ds ++ rest)) n m = _
    rw [plainF, if_pos hc, if_neg (by omega), plainF_digits ds rest _ _ (fun x hx => h x (by simp [hx])) (by omega), valL_cons, List.length_cons]
    congr 1; omega
theorem plainF_skip (c : UInt8) (r : List UInt8) (n m : Nat) (h : ¬ isD c) : plainF (c :: r) n m = plainF r n m := by
  rw [plainF, if_neg h]
theorem plainF_range : ∀ (l : List UInt8) (n m : Nat), n < 10 ^ m → m ≤ 17 → 0 ≤ (plainF l n m).1 ∧ (plainF l n m).1 < 100000000000000000
  | [], n, m, hn, hm => by
    have : 10 ^ m ≤ 10 ^ 17 := Nat.pow_le_pow_right (by omega) hm
    show 0 ≤ (n : Int) ∧ (n : Int) < _
    omega
  | c :: r, n, m, hn, hm => by
    rw [plainF]
    by_cases hc : 48 ≤ c.toNat ∧ c.toNat ≤ 57
    · rw [if_pos hc]
      by_cases h : 17 < m + 1
      · rw [if_pos h]; exact ⟨by decide, by decide⟩
      · rw [if_neg h]
        exact plainF_range r _ _ (by rw [Nat.pow_succ]; omega) (by omega)
    · rw [if_neg hc]; exact plainF_range r n m hn hm
theorem bt_drop {t : ByteArray} {i : Nat} {c : UInt8} {r : List UInt8} (h : t.data.toList.drop i = c :: r) : i < t.size ∧ bt t (i : Int) = (c.toNat : Int) ∧ t.data.toList.drop (i + 1) = r := by
  have hl : i < t.data.toList.length := by
    rcases Nat.lt_or_ge i t.data.toList.length with q | q
    · exact q
    · rw [List.drop_eq_nil_of_le q] at h; cases h
  have hi : i < t.size := hl
  have hd := List.drop_eq_getElem_cons hl
  rw [hd] at h
  have h1 := (List.cons.inj h).1
  have h2 := (List.cons.inj h).2
  refine ⟨hi, ?_, h2⟩
  unfold bt
  have e : ((i : Nat) : Int).toNat = i := Int.toNat_natCast i
  rw [dif_pos (by rw [e]; exact hi)]
  rw [← h1]
  have : t[((i : Nat) : Int).toNat]'(by rw [e]; exact hi) = t.data.toList[i] := by
    simp only [e]; rfl
  rw [this]
theorem plain_ev : ∀ (l : List UInt8) (t : ByteArray) (i n m : Nat), t.data.toList.drop i = l → n < 10 ^ m → m ≤ 17 → t.size ≤ 20000 → Ev (fun k => spec_l02Plain.l0 k t (n : Int) (m : Int) (i : Int)) (plainF l n m)
  | [], t, i, n, m, hl, hn, hm, ht => by
    have hi : t.size ≤ i := by
      have := List.drop_eq_nil_iff.1 hl
      exact this
    refine ev_succ ?_
    simp only [spec_l02Plain.l0]
    exact ev_neg (by omega) (Ev.now _)
  | c :: r, t, i, n, m, hl, hn, hm, ht => by
    obtain ⟨hi, hb, hr⟩ := bt_drop hl
    have hP : 10 ^ m ≤ 10 ^ 17 := Nat.pow_le_pow_right (by omega) hm
    have w1 : wrap64 ((m : Int) + 1) = ((m + 1 : Nat) : Int) := by rw [w64 (by omega) (by omega)]; rfl
    have w2 : wrap64 ((i : Int) + 1) = ((i + 1 : Nat) : Int) := by rw [w64 (by omega) (by omega)]; rfl
    have hc255 : c.toNat ≤ 255 := by have := c.toNat_lt; omega
    refine ev_succ ?_
    simp only [spec_l02Plain.l0, hb]
    refine ev_pos (by omega) (ev_pos (by omega) ?_)
    rw [plainF]
    by_cases h1 : (c.toNat : Int) ≥ 48
    · refine ev_pos h1 (ev_succ ?_)
      by_cases h2 : (c.toNat : Int) ≤ 57
      · have hD : 48 ≤ c.toNat ∧ c.toNat ≤ 57 := by omega
        rw [if_pos hD]
        simp only [spec_l02Plain.j1, decide_eq_true h2, if_true, hb, w1, w2]
        refine ev_pos (by omega) (ev_pos (by omega) ?_)
        by_cases h3 : 17 < m + 1
        · rw [if_pos h3]; exact ev_pos (by omega) (Ev.now _)
        · rw [if_neg h3]
          refine ev_neg (by omega) ?_
          have w3 : wrap64 (wrap64 (10 * (n : Int)) + ((c.toNat : Int) - 48) % 256) = ((10 * n + (c.toNat - 48) : Nat) : Int) := by
            rw [w64 (a := 10 * (n : Int)) (by omega) (by omega), w64 (by omega) (by omega)]; omega
          rw [w3]
          exact plain_ev r t (i + 1) _ (m + 1) hr (by rw [Nat.pow_succ]; omega) (by omega) ht
      · rw [if_neg (by omega)]
        simp only [spec_l02Plain.j1, decide_eq_false h2, Bool.false_eq_true, if_false, w2]
        exact ev_neg (by omega) (plain_ev r t (i + 1) n m hr hn hm ht)
    · rw [if_neg (by omega)]
      refine ev_neg h1 (ev_succ ?_)
      simp only [spec_l02Plain.j1, Bool.false_eq_true, if_false, w2]
      exact ev_neg (by omega) (plain_ev r t (i + 1) n m hr hn hm ht)
theorem plain_f (t : ByteArray) (ht : t.size ≤ 20000) : Ev (fun k => spec_l02Plain.f k t) (plainF t.data.toList 0 0) := by
  have := plain_ev t.data.toList t 0 0 0 (by simp) (by decide) (by omega) ht
  exact this
/-! parsing -/
theorem parseM : ∀ (ds : List UInt8) (acc : Nat), (∀ c ∈ ds, isD c) → valL acc ds < 1000000000000000000 → Lib.parseUintM (2 ^ 64 - 1) acc ds = .ok (valL acc ds)
  | [], acc, _, _ => rfl
  | c :: ds, acc, h, hv => by
    have hc : isD c := h c (by simp)
    rw [valL_cons] at hv
    have hg := valL_ge ds (10 * acc + (c.toNat - 48))
    rw [Lib.parseUintM, if_pos hc, if_neg (by omega), if_neg (by omega), valL_cons, show acc * 10 + (c.toNat - 48) = 10 * acc + (c.toNat - 48) by omega]
    exact parseM ds _ (fun x hx => h x (by simp [hx])) hv
theorem parseB (ds : List UInt8) (h0 : ds ≠ []) (h : ∀ c ∈ ds, isD c) (hv : valL 0 ds < 1000000000000000000) : Lib.parseUintB 64 ds = .ok (valL 0 ds) := by
  unfold Lib.parseUintB
  rw [if_neg h0]; exact parseM ds 0 h hv
theorem parsePos (ds : List UInt8) (h0 : ds ≠ []) (h : ∀ c ∈ ds, isD c) (hv : valL 0 ds < 1000000000000000000) : Lib.parseIntB 64 ds = .ok (valL 0 ds : Int) := by
  cases ds with
  | nil => exact absurd rfl h0
  | cons c r =>
    have hc : isD c := h c (by simp)
    unfold isD at hc
    rw [Lib.parseIntB_plain 64 c r (by omega) (by omega), parseB (c :: r) h0 h hv]
    show (if 2 ^ (64 - 1) ≤ valL 0 (c :: r) then _ else _) = _
    rw [if_neg (by omega)]
theorem parseNeg (ds : List UInt8) (h0 : ds ≠ []) (h : ∀ c ∈ ds, isD c) (hv : valL 0 ds < 1000000000000000000) : Lib.parseIntB 64 (45 :: ds) = .ok (-(valL 0 ds : Int)) := by
  rw [Lib.parseIntB_minus, parseB ds h0 h hv]
  show (if 2 ^ (64 - 1) < valL 0 ds then _ else _) = _
  rw [if_neg (by omega)]
theorem index_point : ∀ (x y : List UInt8), (∀ c ∈ x, c ≠ 46) → Lib.index (x ++ 46 :: y) [46] = (x.length : Int)
  | [], y, _ => by simp [Lib.index, List.isPrefixOf]
  | c :: x, y, h => by
    have hc : c ≠ 46 := h c (by simp)
    have ih := index_point x y (fun z hz => h z (by simp [hz]))
    have hp : ([46] : List UInt8).isPrefixOf (c :: (x ++ 46 :: y)) = false := by
      simp [List.isPrefixOf, hc.symm]
    show Lib.index (c :: (x ++ 46 :: y)) [46] = _
    rw [Lib.index, hp, ih]
    have h1 : ((x.length : Int) == -1) = false := by rw [beq_eq_false_iff_ne]; omega
    rw [h1]
    simp
theorem cut_point (x y : List UInt8) (h : ∀ c ∈ x, c ≠ 46) : Lib.cut (x ++ 46 :: y) [46] = (x, y, true) := by
  unfold Lib.cut
  rw [index_point x y h, if_pos (by omega), Int.toNat_natCast]
  have h1 : (x ++ 46 :: y).take x.length = x := by simp
  have h2 : (x ++ 46 :: y).drop (x.length + ([46] : List UInt8).length) = y := by
    rw [show x ++ 46 :: y = (x ++ [46]) ++ y by simp]
    rw [List.drop_left' (by simp)]
  rw [h1, h2]
theorem trim_end (x : List UInt8) (c : UInt8) : Lib.trimSuffix (x ++ [c]) [c] = x := by
  unfold Lib.trimSuffix Lib.hasSuffix
  have : ([c] : List UInt8).isSuffixOf (x ++ [c]) = true := List.isSuffixOf_iff_suffix.2 (List.suffix_append x [c])
  rw [if_pos this]
  simp
theorem dig_ne {c : UInt8} (h : isD c) : c ≠ 46 := by
  rintro rfl
  unfold isD at h
  exact absurd h (by decide)
/-- 'readPoint' at a text of digits, a point and digits. -/
theorem readPoint_is (t : ByteArray) (x y : List UInt8) (ht : t.data.toList = x ++ 46 :: y) (hs : t.size ≤ 1048576) (hx : ∀ c ∈ x, c ≠ 46) {v : Int} (hv : Lib.parseIntB 64 (x ++ y) = .ok v) : impl_readPoint.f t = some v := by
  have hc : Lib.cut t.data.toList (⟨#[46]⟩ : ByteArray).data.toList = (x, y, true) := by rw [ht]; exact cut_point x y hx
  unfold impl_readPoint.f
  rw [if_pos hs]
  have e : (impl_readPoint.A t ++ impl_readPoint.B t).data.toList = x ++ y := by
    rw [ByteArray.data_append, Array.toList_append]
    unfold impl_readPoint.A impl_readPoint.B
    rw [hc]
  rw [e, hv]; rfl
theorem readPoint_some (t : ByteArray) (hs : t.size ≤ 1048576) : ∃ v : Int, impl_readPoint.f t = some v := ⟨_, by unfold impl_readPoint.f; rw [if_pos hs]⟩
theorem readPoint_nil : impl_readPoint.f ⟨#[]⟩ = some 0 := by
  unfold impl_readPoint.f
  rw [if_pos (by decide)]
  have hc : Lib.cut (⟨#[]⟩ : ByteArray).data.toList (⟨#[46]⟩ : ByteArray).data.toList = ([], [], false) := by decide
  have e : (impl_readPoint.A ⟨#[]⟩ ++ impl_readPoint.B ⟨#[]⟩).data.toList = [] := by
    rw [ByteArray.data_append, Array.toList_append]
    unfold impl_readPoint.A impl_readPoint.B
    rw [hc]; rfl
  rw [e]; rfl
theorem eqOut (a b c d : Int) (h1 : a = c) (h2 : b = d) : laws_eqMoneyOut.f a b c d = some true := by
  subst h1; subst h2
  simp only [laws_eqMoneyOut.f, if_true]
theorem tl_inj {a b : ByteArray} (h : a.toList = b.toList) : a = b := by
  rw [Lib.toList_data, Lib.toList_data] at h
  exact ba_ext h

/-- The rate's text, or none. -/
def rateF (n : Int) : ByteArray := if 0 ≤ n ∧ n ≤ 1000000 then rateB n.toNat else ⟨#[]⟩
theorem sRate (n : Int) : Ev (fun k => spec_RateText.f k n) (rateF n) := by
  unfold rateF
  by_cases h : 0 ≤ n ∧ n ≤ 1000000
  · rw [if_pos h]
    have := srate_ev n.toNat (by omega)
    rw [Int.toNat_of_nonneg h.1] at this; exact this
  · rw [if_neg h]; exact srate_out n (by omega)
theorem iRate (n : Int) : impl_RateText.f n = some (rateF n) := by
  unfold rateF
  by_cases h : 0 ≤ n ∧ n ≤ 1000000
  · rw [if_pos h]
    have := irate n.toNat (by omega)
    rw [Int.toNat_of_nonneg h.1] at this; exact this
  · rw [if_neg h]; exact irate_out n (by omega)
theorem rate_data (u : Nat) : (rateB u).data.toList = (Lib.decDigits (u / 10000) ++ 46 :: padL 4 (u % 10000)) ++ [37] := by
  unfold rateB
  simp only [ByteArray.data_append, Array.toList_append, padT_data, decB_data]
  simp
theorem rate_val (u : Nat) (h : u ≤ 1000000) : valL 0 (Lib.decDigits (u / 10000) ++ padL 4 (u % 10000)) = u := by
  rw [valL_append, valL_dec, valL_padL _ 4 _ (by omega) (by omega)]; omega
theorem rate_plain (u : Nat) (h : u ≤ 1000000) : plainF (rateB u).data.toList 0 0 = ((u : Int), true) := by
  have h1 := dec_len 3 (u / 10000) (by omega) (by omega)
  have h2 := padL_len 4 (u % 10000) (by omega) (by omega)
  have n46 : ¬ isD 46 := by unfold isD; decide
  have n37 : ¬ isD 37 := by unfold isD; decide
  rw [rate_data, List.append_assoc, plainF_digits _ _ _ _ (dec_isD _) (by omega), List.cons_append, plainF_skip _ _ _ _ n46, plainF_digits _ _ _ _ (padL_isD _ _) (by omega), plainF_skip _ _ _ _ n37, valL_dec, valL_padL _ 4 _ (by omega) (by omega)]
  show (((u / 10000 * 10 ^ 4 + u % 10000 : Nat) : Int), true) = _
  congr 2
  omega
theorem rate_point (u : Nat) (h : u ≤ 1000000) : impl_readPoint.f ⟨(Lib.trimSuffix (rateB u).data.toList (⟨#[37]⟩ : ByteArray).data.toList).toArray⟩ = some (u : Int) := by
  have h1 := dec_len 3 (u / 10000) (by omega) (by omega)
  have h2 := padL_len 4 (u % 10000) (by omega) (by omega)
  have e : Lib.trimSuffix (rateB u).data.toList (⟨#[37]⟩ : ByteArray).data.toList = Lib.decDigits (u / 10000) ++ 46 :: padL 4 (u % 10000) := by
    rw [rate_data]; exact trim_end _ 37
  rw [e]
  refine readPoint_is _ (Lib.decDigits (u / 10000)) (padL 4 (u % 10000)) rfl ?_ (fun c hc => dig_ne (dec_isD _ c hc)) ?_
  · show (Lib.decDigits (u / 10000) ++ 46 :: padL 4 (u % 10000)).toArray.size ≤ _
    rw [List.size_toArray, List.length_append, List.length_cons]; omega
  · have := parsePos (Lib.decDigits (u / 10000) ++ padL 4 (u % 10000)) (by intro q; have := congrArg List.length q; rw [List.length_append, List.length_nil] at this; omega) (fun c hc => by
      rcases List.mem_append.1 hc with q | q
      · exact dec_isD _ c q
      · exact padL_isD _ _ c q) (by rw [rate_val u h]; omega)
    rw [rate_val u h] at this; exact this
theorem nil_toList (a : ByteArray) : a.toList = ([] : List UInt8) ↔ a = ⟨#[]⟩ := by
  constructor
  · intro h
    rw [Lib.toList_data] at h
    exact ba_ext h
  · rintro rfl; rw [Lib.toList_data]
theorem s_rate_read (t : ByteArray) (ht : t.size ≤ 20000) : Ev (fun k => spec_RateRead.f k t) (if t ≠ ⟨#[]⟩ ∧ (plainF t.data.toList 0 0).2 = true ∧ rateF (plainF t.data.toList 0 0).1 = t then ((plainF t.data.toList 0 0).1, 0) else (0, 3)) := by
  simp only [spec_RateRead.f]
  refine ev_neg (by omega) (Ev.bind (plain_f t ht) ?_)
  generalize plainF t.data.toList 0 0 = P
  obtain ⟨n, ok⟩ := P
  cases ok with
  | false => simp only [Bool.false_eq_true, if_false, false_and, and_false]; exact Ev.now _
  | true =>
    simp only [if_true, true_and, nil_toList]
    by_cases h : t = ⟨#[]⟩
    · have e : (if t ≠ ⟨#[]⟩ ∧ rateF n = t then (n, (0 : Int)) else (0, 3)) = (0, 3) := if_neg (fun q => q.1 h)
      rw [e]; exact ev_pos h (Ev.now _)
    · refine ev_neg h (Ev.bind (sRate n) ?_)
      by_cases h2 : rateF n = t
      · have e : (if t ≠ ⟨#[]⟩ ∧ rateF n = t then (n, (0 : Int)) else (0, 3)) = (n, 0) := if_pos ⟨h, h2⟩
        rw [e]; exact ev_pos (by rw [h2]) (Ev.now _)
      · have e : (if t ≠ ⟨#[]⟩ ∧ rateF n = t then (n, (0 : Int)) else (0, 3)) = (0, 3) := if_neg (fun q => h2 q.2)
        rw [e]; exact ev_neg (fun q => h2 (tl_inj q)) (Ev.now _)
theorem trim_size (t : ByteArray) (p : List UInt8) : (⟨(Lib.trimSuffix t.data.toList p).toArray⟩ : ByteArray).size ≤ t.size := by
  show (Lib.trimSuffix t.data.toList p).toArray.size ≤ t.data.toList.length
  rw [List.size_toArray]
  unfold Lib.trimSuffix
  split
  · rw [List.length_take]; omega
  · exact Nat.le_refl _
theorem i_rate_read (t : ByteArray) (ht : t.size ≤ 20000) : impl_RateRead.f t = some (if t ≠ ⟨#[]⟩ ∧ (plainF t.data.toList 0 0).2 = true ∧ rateF (plainF t.data.toList 0 0).1 = t then ((plainF t.data.toList 0 0).1, 0) else (0, 3)) := by
  have hts := trim_size t (⟨#[37]⟩ : ByteArray).data.toList
  obtain ⟨v, hv⟩ := readPoint_some _ (show (⟨(Lib.trimSuffix t.data.toList (⟨#[37]⟩ : ByteArray).data.toList).toArray⟩ : ByteArray).size ≤ 1048576 by omega)
  simp only [impl_RateRead.f, strings_TrimSuffix.f]
  rw [if_neg (by omega), if_pos (by omega), Option.bind_some, hv, Option.bind_some, iRate, Option.bind_some]
  by_cases h0 : t = ⟨#[]⟩
  · have e : (if t ≠ ⟨#[]⟩ ∧ (plainF t.data.toList 0 0).2 = true ∧ rateF (plainF t.data.toList 0 0).1 = t then ((plainF t.data.toList 0 0).1, (0 : Int)) else (0, 3)) = (0, 3) := if_neg (fun q => q.1 h0)
    rw [e]
    clear e
    subst h0
    have e : (⟨(Lib.trimSuffix (⟨#[]⟩ : ByteArray).data.toList (⟨#[37]⟩ : ByteArray).data.toList).toArray⟩ : ByteArray) = ⟨#[]⟩ := by decide
    rw [e, readPoint_nil] at hv
    obtain rfl := Option.some.inj hv
    rw [if_neg]
    intro q
    have := congrArg ByteArray.size (tl_inj q)
    have hz := decB_size (0 / 10000) (by omega)
    have : (rateF 0).size = 0 := this
    unfold rateF rateB at this
    rw [if_pos (by omega)] at this
    simp only [ByteArray.size_append] at this
    have h37 : (⟨#[37]⟩ : ByteArray).size = 1 := rfl
    omega
  · by_cases h : rateF v = t
    · have hr : 0 ≤ v ∧ v ≤ 1000000 := by
        by_cases q : 0 ≤ v ∧ v ≤ 1000000
        · exact q
        · exfalso; apply h0; rw [← h]; unfold rateF; rw [if_neg q]
      have hb : t = rateB v.toNat := by rw [← h]; unfold rateF; rw [if_pos hr]
      have hp : plainF t.data.toList 0 0 = (v, true) := by
        rw [hb, rate_plain _ (by omega), Int.toNat_of_nonneg hr.1]
      have e : (if t ≠ ⟨#[]⟩ ∧ (plainF t.data.toList 0 0).2 = true ∧ rateF (plainF t.data.toList 0 0).1 = t then ((plainF t.data.toList 0 0).1, (0 : Int)) else (0, 3)) = (v, 0) := by rw [hp]; exact if_pos ⟨h0, rfl, h⟩
      rw [e, if_pos (by rw [h])]
    · rw [if_neg (fun q => h (tl_inj q))]
      refine congrArg some (Eq.symm (if_neg ?_))
      rintro ⟨_, hok, hq⟩
      have hn := hq
      generalize (plainF t.data.toList 0 0).1 = n at hq hn
      have hr : 0 ≤ n ∧ n ≤ 1000000 := by
        by_cases q : 0 ≤ n ∧ n ≤ 1000000
        · exact q
        · exfalso; apply h0; rw [← hq]; unfold rateF; rw [if_neg q]
      have hb : t = rateB n.toNat := by rw [← hq]; unfold rateF; rw [if_pos hr]
      have hpt := rate_point n.toNat (by omega)
      rw [← hb, hv] at hpt
      have := Option.some.inj hpt
      apply h
      rw [this, Int.toNat_of_nonneg hr.1]; exact hq
theorem FnExactRateRead : laws_FnExactRateRead.Pure := by
  intro t _
  refine Ev.rounds (g := fun k => laws_FnExactRateRead.f k t) ?_
  simp only [laws_FnExactRateRead.f]
  by_cases h : (t.size : Int) > 1048576
  · exact ev_pos h (Ev.now _)
  · refine ev_neg h ?_
    by_cases h2 : t.size ≤ 20000
    · refine Ev.bind (s_rate_read t h2) (ev_cbind (i_rate_read t h2) ?_)
      simp only [eqOut _ _ _ _ rfl rfl, Option.bind_some, if_true]
      exact Ev.now _
    · refine Ev.bind (a := (0, 2)) ⟨0, fun k _ => by simp only [spec_RateRead.f]; rw [if_pos (by omega)]⟩ (ev_cbind (a := (0, 2)) (by simp only [impl_RateRead.f]; rw [if_pos (by omega)]) ?_)
      simp only [eqOut _ _ _ _ rfl rfl, Option.bind_some, if_true]
      exact Ev.now _

end Go.Proofs.YtabmljlpmnlbpaaDoor.Pure
