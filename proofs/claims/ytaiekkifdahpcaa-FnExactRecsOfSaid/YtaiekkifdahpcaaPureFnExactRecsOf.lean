/- At every text the program's RecsOf is the reference's RecsOf, and its list is the call's own. No condition beyond the row's own. -/
import Derived.Test.YtaiekkifdahpcaaPFnExactRecsOfx4
import Derived.Test.YtaiekkifdahpcaaQLib
namespace Go.Proofs.Ytaiekkifdahpcaa.Pure
set_option linter.unusedSimpArgs false
set_option linter.unusedVariables false
open Go.RowKit Go.Proofs.Ytaiekkifdahpcaa.PFnExactRecsOf Go.Proofs.YtaiekkifdahpcaaW.PrintWords Go.Proofs.YtaiekkifdahpcaaW.PrintLast Go.Proofs.YtaiekkifdahpcaaW.PrintMore
open Go.Proofs.Ytaiekkifdahpcaa.Q
/-- The sum of the bytes of s from place i on, n being the sum of those ahead. -/
def sumF (s : ByteArray) (i : Nat) (n : Int) : Int :=
  if i < s.size then sumF s (i + 1) ((257 * n + bt s i) % 4294967291) else n
termination_by s.size - i

theorem sumF_range (s : ByteArray) : ∀ (d i : Nat) (n : Int), s.size - i = d → 0 ≤ n → n < 4294967291 → 0 ≤ sumF s i n ∧ sumF s i n < 4294967291 := by
  intro d
  induction d with
  | zero => intro i n hd h0 h1; rw [sumF, if_neg (by omega)]; exact ⟨h0, h1⟩
  | succ d ih => intro i n hd h0 h1; rw [sumF, if_pos (by omega)]; exact ih _ _ (by omega) (by omega) (by omega)

theorem sum_round (s : ByteArray) (i : Nat) (n : Int) (h0 : 0 ≤ n) (h1 : n < 4294967291) :
    Int.tmod (wrap64 ((wrap64 (257 * n)) + (wrap64 (bt s i)))) 4294967291 = (257 * n + bt s i) % 4294967291 := by
  have hb := bt_range s i
  rw [w64 (a := 257 * n) (by omega) (by omega), w64 (a := bt s i) (by omega) (by omega), w64 (by omega) (by omega), tmod_pos (by omega)]

theorem spec_sum_l0 (s : ByteArray) (hs : s.size ≤ 140737488351232) : ∀ (d i : Nat) (n : Int), s.size - i = d → 0 ≤ n → n < 4294967291 → Ev (fun k => spec_Sum.l0 k s n i) (sumF s i n) := by
  intro d
  induction d with
  | zero =>
    intro i n hd h0 h1
    refine ev_succ ?_
    rw [sumF, if_neg (by omega)]
    simp only [spec_Sum.l0, if_neg (natNotLt (show ¬ i < s.size by omega))]
    exact Ev.now _
  | succ d ih =>
    intro i n hd h0 h1
    refine ev_succ ?_
    have hi : i < s.size := by omega
    rw [sumF, if_pos hi]
    simp only [spec_Sum.l0, if_pos (natLt hi), if_pos (nat0 i), sum_round s i n h0 h1, wsucc hi hs]
    exact ih _ _ (by omega) (by omega) (by omega)

theorem impl_sum_l0 (s : ByteArray) (hs : s.size ≤ 140737488351232) : ∀ (d i : Nat) (n : Int), s.size - i = d → 0 ≤ n → n < 4294967291 → Ev (fun k => impl_sum.l0 k s n s.size i) (sumF s i n) := by
  intro d
  induction d with
  | zero =>
    intro i n hd h0 h1
    refine ev_succ ?_
    rw [sumF, if_neg (by omega)]
    simp only [impl_sum.l0, if_neg (natNotLt (show ¬ i < s.size by omega))]
    exact Ev.now _
  | succ d ih =>
    intro i n hd h0 h1
    refine ev_succ ?_
    have hi : i < s.size := by omega
    rw [sumF, if_pos hi]
    simp only [impl_sum.l0, if_pos (natLt hi), if_pos (nat0 i), sum_round s i n h0 h1, wsucc hi hs]
    exact ih _ _ (by omega) (by omega) (by omega)

theorem impl_sum_ev (s : ByteArray) (hs : s.size ≤ 140737488351232) : Ev (fun k => impl_sum.f k s) (sumF s 0 7) := by
  simp only [impl_sum.f]
  exact impl_sum_l0 s hs _ 0 7 rfl (by omega) (by omega)
theorem spec_Sum_ev (s : ByteArray) (hs : s.size ≤ 20000) : Ev (fun k => spec_Sum.f k s) (sumF s 0 7) := by
  simp only [spec_Sum.f, if_neg (show ¬ (s.size : Int) > 20000 by omega)]
  exact spec_sum_l0 s (by omega) _ 0 7 rfl (by omega) (by omega)

/-- Slices of texts: told alike, marked, and held as marked. -/
theorem mt_l0 : ∀ (d : Nat) (n : Int) (x : ByteArray), 0 ≤ n → n ≤ 4611686018427387904 → n < 10 ^ d → x.size + d ≤ 1000 → ∃ t, Ev (fun k => laws_markText.l0 k n x) t := by
  intro d
  induction d with
  | zero =>
    intro n x h0 hb h1 h2
    have : n = 0 := by simp at h1; omega
    subst this
    refine ⟨(⟨#[109]⟩ : ByteArray) ++ x, ev_succ ?_⟩
    simp only [laws_markText.l0, if_neg (show ¬ (0 : Int) > 0 by omega)]
    exact ev_pos (show 1 + x.size ≤ 9223372036854775807 by omega) (Ev.now _)
  | succ d ih =>
    intro n x h0 hb h1 h2
    by_cases hn : n > 0
    · have hs : (strOfNums [(wrap64 (48 + (Int.tmod n 10))) % 256]).size = 1 := by simp [strOfNums, ByteArray.size]
      have hq : Int.tdiv n 10 = n / 10 := tdiv_pos h0
      have hw : wrap64 (n / 10) = n / 10 := w64 (by omega) (by omega)
      have h1' : n < 10 ^ d * 10 := by rw [← Int.pow_succ]; exact h1
      obtain ⟨t, e⟩ := ih (n / 10) (strOfNums [(wrap64 (48 + (Int.tmod n 10))) % 256] ++ x) (by omega) (by omega) (by omega) (by rw [ByteArray.size_append, hs]; omega)
      refine ⟨t, ev_succ ?_⟩
      simp only [laws_markText.l0, if_pos hn, Option.bind_some, hq, hw]
      exact ev_pos (show (strOfNums [(wrap64 (48 + (Int.tmod n 10))) % 256]).size + x.size ≤ 9223372036854775807 by omega) e
    · refine ⟨(⟨#[109]⟩ : ByteArray) ++ x, ev_succ ?_⟩
      simp only [laws_markText.l0, if_neg hn]
      exact ev_pos (show 1 + x.size ≤ 9223372036854775807 by omega) (Ev.now _)
theorem mt_ex (n : Int) (h0 : 0 ≤ n) (h1 : n ≤ 4611686018427387904) : ∃ t, Ev (fun k => laws_markText.f k n) t := by
  by_cases h : n ≤ 0
  · refine ⟨⟨#[109, 48]⟩, ?_⟩
    simp only [laws_markText.f, if_pos h]; exact Ev.now _
  · obtain ⟨t, e⟩ := mt_l0 19 n ⟨#[]⟩ h0 h1 (by omega) (by simp [ByteArray.size])
    refine ⟨t, ?_⟩
    simp only [laws_markText.f, if_neg h]; exact e
open Classical in
/-- The text of a mark. -/
noncomputable def mtF (n : Int) : ByteArray := if h : ∃ t, Ev (fun k => laws_markText.f k n) t then Classical.choose h else ByteArray.empty
theorem mt_ev (n : Int) (h0 : 0 ≤ n) (h1 : n ≤ 4611686018427387904) : Ev (fun k => laws_markText.f k n) (mtF n) := by
  have h := mt_ex n h0 h1
  unfold mtF
  rw [dif_pos h]
  exact Classical.choose_spec h
theorem eqS_l0 (l : List ByteArray) (hl : l.length ≤ 140737488351232) : ∀ (d i : Nat), l.length - i = d → Ev (fun k => laws_eqStringS.l0 k l l i) true := by
  intro d
  induction d with
  | zero =>
    intro i hd
    refine ev_succ ?_
    simp only [laws_eqStringS.l0, if_neg (natNotLt (show ¬ i < l.length by omega))]; exact Ev.now _
  | succ d ih =>
    intro i hd
    refine ev_succ ?_
    have hi : i < l.length := by omega
    simp only [laws_eqStringS.l0, if_pos (natLt hi), if_pos (nat0 i), if_true, wsucc hi hl]
    exact ih _ (by omega)
theorem eqS_ev (l : List ByteArray) (hl : l.length ≤ 140737488351232) : Ev (fun k => laws_eqStringS.f k l l) true := by
  simp only [laws_eqStringS.f, if_true]; exact eqS_l0 l hl _ 0 rfl
theorem rdOf_set (l : List ByteArray) (i j : Nat) (v : ByteArray) (hj : j < l.length) : rdOf ByteArray.empty (l.set i v) j = if i = j then v else rdOf ByteArray.empty l j := by
  unfold rdOf
  rw [List.getD_eq_getElem?_getD, List.getD_eq_getElem?_getD, Int.toNat_natCast, List.getElem?_set]
  by_cases h : i = j
  · subst h; simp [hj]
  · simp [h]
theorem markS_l0 : ∀ (d i : Nat) (l : List ByteArray) (v : Int), l.length - i = d → i ≤ l.length → l.length ≤ 140737488351232 → 0 ≤ v → v + d ≤ 4611686018427387904 →
    ∃ l' : List ByteArray, Ev (fun k => laws_markStringS.l0 k l v i) (v + d, l') ∧ l'.length = l.length ∧ (∀ j : Nat, j < i → rdOf ByteArray.empty l' j = rdOf ByteArray.empty l j) ∧ (∀ j : Nat, i ≤ j → j < l.length → rdOf ByteArray.empty l' j = mtF (v + (j - i : Nat))) := by
  intro d
  induction d with
  | zero =>
    intro i l v hd hi hl h0 h1
    refine ⟨l, ev_succ ?_, rfl, fun _ _ => rfl, fun j h2 h3 => by omega⟩
    simp only [laws_markStringS.l0, if_neg (natNotLt (show ¬ i < l.length by omega))]
    rw [show v + ((0 : Nat) : Int) = v by omega]; exact Ev.now _
  | succ d ih =>
    intro i l v hd hi hl h0 h1
    have hi' : i < l.length := by omega
    obtain ⟨l', e, hlen, hlo, hhi⟩ := ih (i + 1) (l.set i (mtF v)) (v + 1) (by simp; omega) (by simp; omega) (by simpa using hl) (by omega) (by omega)
    rw [List.length_set] at hlen hhi
    refine ⟨l', ev_succ ?_, hlen, fun j hj => ?_, fun j h2 h3 => ?_⟩
    · simp only [laws_markStringS.l0, if_pos (natLt hi')]
      refine Ev.bind (mt_ev v h0 (by omega)) ?_
      simp only [if_pos (nat0 i), w64 (a := v + 1) (by omega) (by omega), wsucc hi' hl, Int.toNat_natCast]
      rw [show v + ((d + 1 : Nat) : Int) = v + 1 + (d : Nat) by omega]
      exact e
    · rw [hlo j (by omega), rdOf_set _ _ _ _ (by omega), if_neg (by omega)]
    · by_cases hj : j = i
      · subst hj; rw [hlo j (by omega), rdOf_set _ _ _ _ h3, if_pos rfl, Nat.sub_self, show v + ((0 : Nat) : Int) = v by omega]
      · rw [hhi j (by omega) h3, show v + 1 + ((j - (i + 1) : Nat) : Int) = v + ((j - i : Nat) : Int) by omega]
theorem heldS_l0 (l : List ByteArray) (hl : l.length ≤ 140737488351232) : ∀ (d i : Nat) (v : Int), l.length - i = d → 0 ≤ v → v + d ≤ 4611686018427387904 → (∀ j : Nat, i ≤ j → j < l.length → rdOf ByteArray.empty l j = mtF (v + (j - i : Nat))) →
    Ev (fun k => laws_heldStringS.l0 k l v i) (v + d) := by
  intro d
  induction d with
  | zero =>
    intro i v hd h0 h1 h
    refine ev_succ ?_
    simp only [laws_heldStringS.l0, if_neg (natNotLt (show ¬ i < l.length by omega))]
    rw [show v + ((0 : Nat) : Int) = v by omega]; exact Ev.now _
  | succ d ih =>
    intro i v hd h0 h1 h
    refine ev_succ ?_
    have hi : i < l.length := by omega
    have e := h i (Nat.le_refl _) hi
    rw [Nat.sub_self, show v + ((0 : Nat) : Int) = v by omega] at e
    simp only [laws_heldStringS.l0, if_pos (natLt hi), if_pos (nat0 i)]
    refine Ev.bind (mt_ev v h0 (by omega)) ?_
    simp only [e, if_true, w64 (a := v + 1) (by omega) (by omega), wsucc hi hl]
    rw [show v + ((d + 1 : Nat) : Int) = v + 1 + (d : Nat) by omega]
    exact ih (i + 1) (v + 1) (by omega) (by omega) (by omega) (fun j h2 h3 => by rw [h j (by omega) h3, show v + ((j - i : Nat) : Int) = v + 1 + ((j - (i + 1) : Nat) : Int) by omega])
/-- A row of texts of the call's own, marked from 1 on, is held so. -/
theorem marksS (l : List ByteArray) (hl : l.length ≤ 140737488351232) : ∃ l' : List ByteArray, Ev (fun k => laws_markStringS.f k l 1) (1 + l.length, l') ∧ Ev (fun k => laws_heldStringS.f k l' 1) (1 + l.length) := by
  obtain ⟨l', e, hlen, _, hhi⟩ := markS_l0 l.length 0 l 1 (by omega) (by omega) hl (by omega) (by omega)
  refine ⟨l', e, ?_⟩
  simp only [laws_heldStringS.f]
  exact heldS_l0 l' (by omega) l.length 0 1 (by omega) (by omega) (by omega) (fun j h2 h3 => hhi j h2 (by omega))

/-- A number of int64 made one of uint64. -/
def fold64 (a : Int) : Nat := if a < 0 then (-2 * a - 1).toNat else (2 * a).toNat
theorem fold64_lt {a : Int} (h0 : -9223372036854775808 ≤ a) (h1 : a ≤ 9223372036854775807) : fold64 a < 18446744073709551616 := by
  unfold fold64; split <;> omega
theorem bits_low (c : Nat) (h : c < 256) : Go.bits .and .u8 (c : Int) 127 = ((c % 128 : Nat) : Int) := by
  have h' : ∀ n : Fin 256, (n.val &&& 127) = n.val % 128 := by decide +kernel
  have := h' ⟨c, h⟩
  simp only at this
  have e := u8_and_nat c 127 h (by omega)
  rw [this] at e
  exact e
theorem pow7 (j : Nat) : 128 ^ j = 2 ^ (7 * j) := by rw [show (128 : Nat) = 2 ^ 7 from rfl, ← Nat.pow_mul]
theorem bits_add (acc b j : Nat) (hacc : acc < 128 ^ j) (hs : acc + 128 ^ j * b < 18446744073709551616) : Go.bits .or .u64 (acc : Int) ((128 ^ j * b : Nat) : Int) = ((acc + 128 ^ j * b : Nat) : Int) := by
  rw [u64_or_nat _ _ (by omega) (by omega)]
  rw [pow7] at hacc ⊢
  have := Nat.two_pow_add_eq_or_of_lt hacc b
  rw [Nat.or_comm, ← this, Nat.add_comm]
theorem shl_is (b j : Nat) (hj : j ≤ 9) (hb : 128 ^ j * b < 18446744073709551616) : shl .u64 (b : Int) ((7 * j : Nat) : Int) = ((128 ^ j * b : Nat) : Int) := by
  unfold shl
  rw [show min (((7 * j : Nat)) : Int).toNat IntKind.u64.bits = 7 * j from by simp only [IntKind.bits]; omega]
  have e : (b : Int) * 2 ^ (7 * j) = ((128 ^ j * b : Nat) : Int) := by
    rw [pow7, Int.natCast_mul, Int.natCast_pow, Int.mul_comm]; rfl
  rw [e, u64in (by omega) (by omega)]
/-- What getNum makes of the bits that it has gathered. -/
def unF (u : Nat) : Int := Go.bits .xor .i64 (wrap64 ((u : Int) / 2)) (wrap64 (-(wrap64 (Go.bits .and .u64 (u : Int) 1))))
theorem xor_i64 (x y : Int) : Go.bits .xor .i64 x y = wrap64 (((BitVec.ofInt 64 x ^^^ BitVec.ofInt 64 y).toNat : Nat) : Int) := i64_w _
theorem unF_fold (a : Int) (h0 : -9223372036854775808 ≤ a) (h1 : a ≤ 9223372036854775807) : unF (fold64 a) = a := by
  have hl := fold64_lt h0 h1
  have ea : Go.bits .and .u64 (fold64 a : Int) 1 = ((fold64 a % 2 : Nat) : Int) := by
    have := u64_and_nat (fold64 a) 1 hl (by omega)
    rw [Nat.and_one_is_mod] at this
    exact this
  unfold unF
  rw [ea]
  unfold fold64
  by_cases h : a < 0
  · rw [if_pos h]
    rw [w64 (a := ((-2 * a - 1).toNat : Int) / 2) (by omega) (by omega), w64 (a := (((-2 * a - 1).toNat % 2 : Nat) : Int)) (by omega) (by omega), w64 (by omega) (by omega), show -(((-2 * a - 1).toNat % 2 : Nat) : Int) = -1 by omega, show ((-2 * a - 1).toNat : Int) / 2 = (((-a - 1).toNat : Nat) : Int) by omega]
    rw [xor_i64, show BitVec.ofInt 64 (-1) = BitVec.allOnes 64 from by decide, BitVec.xor_allOnes, BitVec.toNat_not, ofInt_u64 _ (by omega)]
    unfold wrap64; omega
  · rw [if_neg h]
    rw [w64 (a := ((2 * a).toNat : Int) / 2) (by omega) (by omega), w64 (a := (((2 * a).toNat % 2 : Nat) : Int)) (by omega) (by omega), w64 (by omega) (by omega), show -(((2 * a).toNat % 2 : Nat) : Int) = 0 by omega, show ((2 * a).toNat : Int) / 2 = ((a.toNat : Nat) : Int) by omega]
    rw [xor_i64, show BitVec.ofInt 64 0 = 0#64 from by decide, BitVec.xor_zero, ofInt_u64 _ (by omega)]
    unfold wrap64; omega
theorem get_round (x : ByteArray) (p j c : Nat) (acc : Int) (R : Int × Int × Int) (hx : x.size ≤ 100000) (hp : p + j < x.size) (hj : j ≤ 9) (hb : bt x ((p + j : Nat) : Int) = (c : Int)) (h9 : j = 9 → c ≤ 1) (h0 : 0 < j → c ≠ 0)
    (e : Ev (fun k => impl_getNum.j1 k x (p : Int) acc (j : Int) (c : Int) false) R) : Ev (fun k => impl_getNum.l0 k x (p : Int) acc (j : Int)) R := by
  refine ev_succ ?_
  have e1 : wrap64 ((x.size : Int) - j) = (x.size : Int) - j := w64 (by omega) (by omega)
  have e2 : wrap64 ((p : Int) + j) = ((p + j : Nat) : Int) := by rw [w64 (by omega) (by omega)]; omega
  simp only [impl_getNum.l0, e1, e2, if_pos (show (j : Int) < 10 by omega), if_neg (show ¬ (p : Int) ≥ (x.size : Int) - j by omega), if_pos (show (0 : Int) ≤ ((p + j : Nat) : Int) by omega), if_pos (show ((p + j : Nat) : Int) < (x.size : Int) by omega), hb]
  by_cases q9 : (j : Int) = 9
  · have := h9 (by omega)
    have hc : ((c : Int) == 0) = false := by have := h0 (by omega); simp; omega
    simp only [if_pos q9, if_neg (show ¬ (c : Int) > 1 by omega), if_pos (show (j : Int) > 0 by omega), hc]
    exact e
  · simp only [if_neg q9]
    by_cases q0 : (j : Int) > 0
    · have hc : ((c : Int) == 0) = false := by have := h0 (by omega); simp; omega
      simp only [if_pos q0, hc]
      exact e
    · simp only [if_neg q0]
      exact e
theorem get_low (c j : Nat) (hc : c < 256) (hj : j ≤ 9) (hb : 128 ^ j * (c % 128) < 18446744073709551616) : shl .u64 (IntKind.u64.wrap (Go.bits .and .u8 (c : Int) 127)) (wrap64 (7 * (j : Int))) = ((128 ^ j * (c % 128) : Nat) : Int) := by
  rw [bits_low c hc, u64in (by omega) (by omega), w64 (by omega) (by omega), show 7 * (j : Int) = ((7 * j : Nat) : Int) by omega, shl_is _ j hj hb]
theorem get_more (x : ByteArray) (p j c acc : Nat) (R : Int × Int × Int) (hj : j ≤ 9) (hc : 128 ≤ c) (hc2 : c < 256) (ha : acc < 128 ^ j) (hs : acc + 128 ^ j * (c % 128) < 18446744073709551616)
    (e : Ev (fun k => impl_getNum.l0 k x (p : Int) ((acc + 128 ^ j * (c % 128) : Nat) : Int) ((j + 1 : Nat) : Int)) R) : Ev (fun k => impl_getNum.j1 k x (p : Int) (acc : Int) (j : Int) (c : Int) false) R := by
  refine ev_succ ?_
  simp only [impl_getNum.j1, Bool.false_eq_true, if_false, get_low c j hc2 hj (by omega), bits_add acc (c % 128) j ha hs, if_neg (show ¬ (c : Int) < 128 by omega)]
  rw [w64 (a := 7 * (j : Int)) (by omega) (by omega), w64 (a := (j : Int) + 1) (by omega) (by omega), show (j : Int) + 1 = ((j + 1 : Nat) : Int) by omega]
  simp only [if_pos (show (0 : Int) ≤ 7 * (j : Int) by omega)]
  exact e
theorem get_last (x : ByteArray) (p j c acc : Nat) (hx : p ≤ 100000) (hj : j ≤ 9) (hc : c < 128) (ha : acc < 128 ^ j) (hs : acc + 128 ^ j * c < 18446744073709551616) :
    Ev (fun k => impl_getNum.j1 k x (p : Int) (acc : Int) (j : Int) (c : Int) false) (unF (acc + 128 ^ j * c), ((p + j + 1 : Nat) : Int), 0) := by
  refine ev_succ ?_
  have em : c % 128 = c := Nat.mod_eq_of_lt hc
  have gl := get_low c j (by omega) hj (by rw [em]; omega)
  rw [em] at gl
  simp only [impl_getNum.j1, Bool.false_eq_true, if_false, gl, bits_add acc c j ha hs, if_pos (show (c : Int) < 128 by omega)]
  rw [w64 (a := 7 * (j : Int)) (by omega) (by omega), w64 (a := (p : Int) + j) (by omega) (by omega), w64 (a := (p : Int) + j + 1) (by omega) (by omega), show (p : Int) + j + 1 = ((p + j + 1 : Nat) : Int) by omega]
  simp only [if_pos (show (0 : Int) ≤ 7 * (j : Int) by omega)]
  exact Ev.now _

theorem in_is (a b c : Int) : impl_in.f a b c = some (decide (b ≤ a ∧ a ≤ c)) := by
  unfold impl_in.f
  by_cases h : b ≤ a
  · rw [if_pos h]; congr 1; simp [h]
  · rw [if_neg h]; simp [h]
/-- What the bits of a number tell. -/
def valF (u : Nat) : Int := if u % 2 = 1 then -((u / 2 : Nat) : Int) - 1 else ((u / 2 : Nat) : Int)
theorem val_fold (u : Nat) (hu : u < 18446744073709551616) : unF u = valF u := by
  have hv : -9223372036854775808 ≤ valF u ∧ valF u ≤ 9223372036854775807 := by unfold valF; split <;> omega
  have e : fold64 (valF u) = u := by
    unfold fold64 valF
    split <;> split <;> omega
  have := unF_fold (valF u) hv.1 hv.2
  rw [e] at this
  exact this
theorem spec_j2 (p j u : Nat) (hp : p ≤ 20000) (hj : j ≤ 9) (hu : u < 18446744073709551616) : Ev (fun k => spec_GetNum.j2 k (p : Int) (u : Int) (j : Int) false) (valF u, ((p + j + 1 : Nat) : Int), 0) := by
  refine ev_succ ?_
  simp only [spec_GetNum.j2, Bool.false_eq_true, if_false]
  rw [tmod_pos (show (0 : Int) ≤ (u : Int) by omega), tdiv_pos (show (0 : Int) ≤ (u : Int) by omega), u64in (n := (u : Int) / 2) (by omega) (by omega), w64 (a := (u : Int) / 2) (by omega) (by omega), w64 (a := -((u : Int) / 2)) (by omega) (by omega), w64 (a := -((u : Int) / 2) - 1) (by omega) (by omega), w64 (a := (p : Int) + j) (by omega) (by omega), w64 (a := (p : Int) + j + 1) (by omega) (by omega), show (p : Int) + j + 1 = ((p + j + 1 : Nat) : Int) by omega]
  unfold valF
  by_cases h : u % 2 = 1
  · rw [if_pos h, show ((u / 2 : Nat) : Int) = (u : Int) / 2 by omega]
    exact ev_pos (show (u : Int) % 2 = 1 by omega) (Ev.now _)
  · rw [if_neg h, show ((u / 2 : Nat) : Int) = (u : Int) / 2 by omega]
    exact ev_neg (show ¬ (u : Int) % 2 = 1 by omega) (Ev.now _)
/-- What a reading of a number tells where it tells no fault. -/
def GoodN (x : ByteArray) (p : Nat) (R : Int × Int × Int) : Prop := R.2.2 = 0 → ∃ q : Nat, R.2.1 = (q : Int) ∧ p < q ∧ q ≤ x.size
theorem pair_l0 (x : ByteArray) (p : Nat) (hx : x.size ≤ 20000) (hp : p ≤ 20000) : ∀ d j acc : Nat, j + d = 10 → acc < 128 ^ j →
    ∃ R : Int × Int × Int, Ev (fun k => spec_GetNum.l0 k x (p : Int) (acc : Int) (j : Int)) R ∧ Ev (fun k => impl_getNum.l0 k x (p : Int) (acc : Int) (j : Int)) R ∧ GoodN x p R := by
  intro d
  induction d with
  | zero =>
    intro j acc hd ha
    refine ⟨(0, 0, 3), ev_succ ?_, ev_succ ?_, fun h => absurd h (by simp)⟩
    · simp only [spec_GetNum.l0]; exact ev_neg (show ¬ (j : Int) < 10 by omega) (Ev.now _)
    · simp only [impl_getNum.l0]; exact ev_neg (show ¬ (j : Int) < 10 by omega) (Ev.now _)
  | succ d ih =>
    intro j acc hd ha
    have e1 : wrap64 ((x.size : Int) - j) = (x.size : Int) - j := w64 (by omega) (by omega)
    have e2 : wrap64 ((p : Int) + j) = ((p + j : Nat) : Int) := by rw [w64 (by omega) (by omega)]; omega
    by_cases hs : p + j < x.size
    case neg =>
      refine ⟨(0, 0, 4), ev_succ ?_, ev_succ ?_, fun h => absurd h (by simp)⟩
      · simp only [spec_GetNum.l0, e1]; exact ev_pos (show (j : Int) < 10 by omega) (ev_pos (show (p : Int) ≥ (x.size : Int) - j by omega) (Ev.now _))
      · simp only [impl_getNum.l0, e1]; exact ev_pos (show (j : Int) < 10 by omega) (ev_pos (show (p : Int) ≥ (x.size : Int) - j by omega) (Ev.now _))
    have hr := bt_range x ((p + j : Nat) : Int)
    obtain ⟨c, hc⟩ : ∃ c : Nat, bt x ((p + j : Nat) : Int) = (c : Int) := ⟨(bt x ((p + j : Nat) : Int)).toNat, by omega⟩
    have hc2 : c < 256 := by omega
    have uc : IntKind.u64.wrap (c : Int) = (c : Int) := u64in (by omega) (by omega)
    have p7 : (128 : Nat) ^ j ≤ 128 ^ 9 := Nat.pow_le_pow_right (by omega) (by omega)
    -- the reference's way to its j1
    have sp : ∀ (b : Bool) (R : Int × Int × Int), b = decide (j = 9 ∧ 1 < c) → Ev (fun k => spec_GetNum.j1 k x (p : Int) (acc : Int) (j : Int) (c : Int) b) R → Ev (fun k => spec_GetNum.l0 k x (p : Int) (acc : Int) (j : Int)) R := by
      intro b R hb e
      refine ev_succ ?_
      simp only [spec_GetNum.l0, e1, e2, hc, uc]
      refine ev_pos (show (j : Int) < 10 by omega) (ev_neg (show ¬ (p : Int) ≥ (x.size : Int) - j by omega) (ev_pos (show (0 : Int) ≤ ((p + j : Nat) : Int) by omega) (ev_pos (show ((p + j : Nat) : Int) < (x.size : Int) by omega) ?_)))
      by_cases h9 : j = 9
      · refine ev_pos (show (j : Int) = 9 by omega) ?_
        rw [show decide ((c : Int) > 1) = b by rw [hb]; congr 1; simp [h9]; omega]
        exact e
      · refine ev_neg (show ¬ (j : Int) = 9 by omega) ?_
        rw [show b = false by rw [hb]; simp [h9]] at e
        exact e
    by_cases h9 : j = 9 ∧ 1 < c
    · refine ⟨(0, 0, 3), sp true _ (by simp [h9.1, h9.2]) (ev_succ ?_), ev_succ ?_, fun h => absurd h (by simp)⟩
      · simp only [spec_GetNum.j1, if_true]; exact Ev.now _
      · simp only [impl_getNum.l0, e1, e2, hc]
        refine ev_pos (show (j : Int) < 10 by omega) (ev_neg (show ¬ (p : Int) ≥ (x.size : Int) - j by omega) (ev_pos (show (0 : Int) ≤ ((p + j : Nat) : Int) by omega) (ev_pos (show ((p + j : Nat) : Int) < (x.size : Int) by omega) (ev_pos (show (j : Int) = 9 by omega) (ev_pos (show (c : Int) > 1 by omega) (ev_succ ?_))))))
        simp only [impl_getNum.j1, if_true]; exact Ev.now _
    have hacc : acc + 128 ^ j * (c % 128) < 18446744073709551616 := by
      by_cases q9 : j = 9
      · subst q9; omega
      · have : (128 : Nat) ^ j ≤ 128 ^ 8 := Nat.pow_le_pow_right (by omega) (by omega)
        have : 128 ^ j * (c % 128) ≤ 128 ^ 8 * 127 := Nat.mul_le_mul this (by omega)
        omega
    have sb : decide (j = 9 ∧ 1 < c) = false := decide_eq_false h9
    have sl : shl .u64 (Int.tmod (c : Int) 128) (IntKind.u64.wrap (wrap64 (7 * (j : Int)))) = ((128 ^ j * (c % 128) : Nat) : Int) := by
      rw [tmod_pos (by omega), w64 (by omega) (by omega), u64in (by omega) (by omega), show (c : Int) % 128 = ((c % 128 : Nat) : Int) by omega, show 7 * (j : Int) = ((7 * j : Nat) : Int) by omega, shl_is _ j (by omega) (by omega)]
    have sw : (0 : Int) ≤ IntKind.u64.wrap (wrap64 (7 * (j : Int))) := by rw [w64 (by omega) (by omega), u64in (by omega) (by omega)]; omega
    have sa : IntKind.u64.wrap ((acc : Int) + ((128 ^ j * (c % 128) : Nat) : Int)) = ((acc + 128 ^ j * (c % 128) : Nat) : Int) := by
      rw [u64in (by omega) (by omega)]; omega
    by_cases h0 : 0 < j ∧ c = 0
    · refine ⟨(0, 0, 3), sp false _ sb.symm (ev_succ ?_), ev_succ ?_, fun h => absurd h (by simp)⟩
      · simp only [spec_GetNum.j1, Bool.false_eq_true, if_false, sl, sa]
        refine ev_pos sw (ev_pos (show (c : Int) < 128 by omega) (ev_pos (show (c : Int) = 0 by omega) ?_))
        rw [decide_eq_true (show (j : Int) > 0 by omega)]
        refine ev_succ ?_
        simp only [spec_GetNum.j2, if_true]; exact Ev.now _
      · simp only [impl_getNum.l0, e1, e2, hc]
        refine ev_pos (show (j : Int) < 10 by omega) (ev_neg (show ¬ (p : Int) ≥ (x.size : Int) - j by omega) (ev_pos (show (0 : Int) ≤ ((p + j : Nat) : Int) by omega) (ev_pos (show ((p + j : Nat) : Int) < (x.size : Int) by omega) ?_)))
        have ez : ((c : Int) == 0) = true := by rw [beq_iff_eq]; omega
        have en : Ev (fun k => impl_getNum.j1 k x (p : Int) (acc : Int) (j : Int) (c : Int) true) (0, 0, 3) := ev_succ (by simp only [impl_getNum.j1, if_true]; exact Ev.now _)
        rw [ez]
        by_cases q9 : (j : Int) = 9
        · exact ev_pos q9 (ev_neg (show ¬ (c : Int) > 1 by omega) (ev_pos (show (j : Int) > 0 by omega) en))
        · exact ev_neg q9 (ev_pos (show (j : Int) > 0 by omega) en)
    have g9 : j = 9 → c ≤ 1 := fun h => by
      by_cases hq : 1 < c
      · exact absurd ⟨h, hq⟩ h9
      · omega
    have g0 : 0 < j → c ≠ 0 := fun h hq => h0 ⟨h, hq⟩
    by_cases hl : c < 128
    · have em : c % 128 = c := Nat.mod_eq_of_lt hl
      rw [em] at hacc sl sa
      refine ⟨(valF (acc + 128 ^ j * c), ((p + j + 1 : Nat) : Int), 0), sp false _ sb.symm (ev_succ ?_), get_round x p j c _ _ (by omega) hs (by omega) hc g9 g0 ?_, fun _ => ⟨p + j + 1, rfl, by omega, by omega⟩⟩
      · simp only [spec_GetNum.j1, Bool.false_eq_true, if_false, sl, sa]
        refine ev_pos sw (ev_pos (show (c : Int) < 128 by omega) ?_)
        have fin := spec_j2 p j (acc + 128 ^ j * c) hp (by omega) hacc
        by_cases hz : (c : Int) = 0
        · refine ev_pos hz ?_
          have hj : ¬ (j : Int) > 0 := fun h => h0 ⟨by omega, by omega⟩
          rw [decide_eq_false hj]; exact fin
        · exact ev_neg hz fin
      · rw [← val_fold _ hacc]
        exact get_last x p j c acc (by omega) (by omega) hl ha hacc
    · have j8 : j ≤ 8 := by
        by_cases q9 : j = 9
        · have := g9 q9; omega
        · omega
      have hn : acc + 128 ^ j * (c % 128) < 128 ^ (j + 1) := by
        have : 128 ^ j * (c % 128) ≤ 128 ^ j * 127 := Nat.mul_le_mul_left _ (by omega)
        rw [Nat.pow_succ]; omega
      obtain ⟨R, r1, r2, r3⟩ := ih (j + 1) (acc + 128 ^ j * (c % 128)) (by omega) hn
      refine ⟨R, sp false _ sb.symm (ev_succ ?_), get_round x p j c _ _ (by omega) hs (by omega) hc g9 g0 ?_, r3⟩
      · simp only [spec_GetNum.j1, Bool.false_eq_true, if_false, sl, sa, w64 (a := (j : Int) + 1) (by omega) (by omega)]
        refine ev_pos sw (ev_neg (show ¬ (c : Int) < 128 by omega) ?_)
        rw [show (j : Int) + 1 = ((j + 1 : Nat) : Int) by omega]
        exact r1
      · exact get_more x p j c acc R (by omega) (by omega) hc2 ha hacc r2
/-- Both readings of a number are one. -/
theorem pair (x : ByteArray) (p : Nat) (hx : x.size ≤ 20000) (hp : p ≤ 20000) : ∃ R : Int × Int × Int, Ev (fun k => spec_GetNum.f k x (p : Int)) R ∧ Ev (fun k => impl_getNum.f k x (p : Int)) R ∧ GoodN x p R := by
  obtain ⟨R, r1, r2, r3⟩ := pair_l0 x p hx hp 10 0 0 (by omega) (by simp)
  refine ⟨R, ?_, ?_, r3⟩
  · simp only [spec_GetNum.f]
    exact ev_neg (show ¬ (x.size : Int) > 20000 by omega) (ev_neg (show ¬ (p : Int) < 0 by omega) r1)
  · simp only [impl_getNum.f]
    exact ev_neg (show ¬ (p : Int) < 0 by omega) r2
theorem wa_is (r N : Nat) (h : r + N ≤ 100000) : wrap64 ((r : Int) + (N : Int)) = ((r + N : Nat) : Int) := by rw [w64 (by omega) (by omega)]; omega
theorem wb_is (s N : Nat) (h1 : s ≤ 20000) (h2 : N ≤ 10000) : wrap64 ((s : Int) - (N : Int)) = (s : Int) - (N : Int) := w64 (by omega) (by omega)
theorem recs_l0 (x : ByteArray) (hx : x.size ≤ 20000) : ∀ (d p : Nat) (L : List ByteArray), x.size - p ≤ d → p ≤ x.size → L.length ≤ p →
    ∃ R : List ByteArray × Int × Int, Ev (fun k => spec_RecsOf.l0 k x L (p : Int) 0) R ∧ Ev (fun k => impl_RecsOf.l0 k x L (p : Int) 0) R ∧ R.1.length ≤ 20000 := by
  intro d
  induction d with
  | zero =>
    intro p L hd hp hL
    refine ⟨(L, (p : Int), 0), ev_succ ?_, ev_succ ?_, by simp only; omega⟩
    · simp only [spec_RecsOf.l0]; exact ev_neg (show ¬ (p : Int) < (x.size : Int) by omega) (Ev.now _)
    · simp only [impl_RecsOf.l0]; exact ev_neg (show ¬ (p : Int) < (x.size : Int) by omega) (Ev.now _)
  | succ d ih =>
    intro p L hd hp hL
    by_cases hlt : p < x.size
    case neg =>
      refine ⟨(L, (p : Int), 0), ev_succ ?_, ev_succ ?_, by simp only; omega⟩
      · simp only [spec_RecsOf.l0]; exact ev_neg (show ¬ (p : Int) < (x.size : Int) by omega) (Ev.now _)
      · simp only [impl_RecsOf.l0]; exact ev_neg (show ¬ (p : Int) < (x.size : Int) by omega) (Ev.now _)
    obtain ⟨⟨n, q', c1⟩, s1, i1, g1⟩ := pair x p hx (by omega)
    -- the two ways through one record: what 'record' tells, and what becomes of it
    have ir : ∀ (b : ByteArray) (e c : Int) (R : List ByteArray × Int × Int), Ev (fun k => impl_record.f k x (p : Int)) (b, e, c) →
        Ev (fun k => if c = 0 then (if L.length < 8796093022208 then (impl_RecsOf.l0 k x (L ++ [b]) e 0) else none) else some (L, (p : Int), c)) R → Ev (fun k => impl_RecsOf.l0 k x L (p : Int) 0) R := by
      intro b e c R h1 h2
      refine ev_succ ?_
      simp only [impl_RecsOf.l0]
      exact ev_pos (show (p : Int) < (x.size : Int) by omega) (Ev.bind h1 h2)
    have sr : ∀ R : List ByteArray × Int × Int, Ev (fun k => if c1 = 0 then (if n < 1 then (spec_RecsOf.j1 k x true L (p : Int) 0 n q' c1) else (spec_RecsOf.j1 k x (decide (n > 10000)) L (p : Int) 0 n q' c1)) else some (L, (p : Int), c1)) R → Ev (fun k => spec_RecsOf.l0 k x L (p : Int) 0) R := by
      intro R h
      refine ev_succ ?_
      simp only [spec_RecsOf.l0]
      exact ev_pos (show (p : Int) < (x.size : Int) by omega) (Ev.bind s1 h)
    by_cases hc1 : c1 = 0
    case neg =>
      refine ⟨(L, (p : Int), c1), sr _ (ev_neg hc1 (Ev.now _)), ir ⟨#[]⟩ 0 c1 _ ?_ (ev_neg hc1 (Ev.now _)), by simp only; omega⟩
      simp only [impl_record.f]
      exact Ev.bind i1 (ev_neg hc1 (Ev.now _))
    obtain ⟨q, hq, q1, q2⟩ := g1 hc1
    simp only at hq
    subst hq
    by_cases hn : 1 ≤ n ∧ n ≤ 10000
    case neg =>
      refine ⟨(L, (p : Int), 3), sr _ (ev_pos hc1 ?_), ir ⟨#[]⟩ 0 3 _ ?_ (ev_neg (by omega) (Ev.now _)), by simp only; omega⟩
      · have e : Ev (fun k => spec_RecsOf.j1 k x true L (p : Int) 0 n (q : Int) c1) (L, (p : Int), 3) := ev_succ (by simp only [spec_RecsOf.j1, if_true]; exact Ev.now _)
        by_cases h1 : n < 1
        · exact ev_pos h1 e
        · refine ev_neg h1 ?_
          rw [decide_eq_true (show n > 10000 by omega)]; exact e
      · simp only [impl_record.f, in_is, Option.bind_some]
        exact Ev.bind i1 (ev_pos hc1 (ev_neg (fun h => hn (of_decide_eq_true h)) (Ev.now _)))
    obtain ⟨⟨cs, r', c2⟩, s2, i2, g2⟩ := pair x q hx (by omega)
    have sj : ∀ R : List ByteArray × Int × Int, Ev (fun k => spec_RecsOf.j1 k x false L (p : Int) 0 n (q : Int) c1) R → Ev (fun k => spec_RecsOf.l0 k x L (p : Int) 0) R := by
      intro R h
      refine sr R (ev_pos hc1 (ev_neg (show ¬ n < 1 by omega) ?_))
      rw [decide_eq_false (show ¬ n > 10000 by omega)]; exact h
    by_cases hc2 : c2 = 0
    case neg =>
      refine ⟨(L, (p : Int), c2), sj _ (ev_succ ?_), ir ⟨#[]⟩ 0 c2 _ ?_ (ev_neg hc2 (Ev.now _)), by simp only; omega⟩
      · simp only [spec_RecsOf.j1, Bool.false_eq_true, if_false]
        exact Ev.bind s2 (ev_neg hc2 (Ev.now _))
      · simp only [impl_record.f, in_is, Option.bind_some]
        exact Ev.bind i1 (ev_pos hc1 (ev_pos (decide_eq_true hn) (Ev.bind i2 (ev_neg hc2 (Ev.now _)))))
    obtain ⟨r, hr, r1, r2⟩ := g2 hc2
    simp only at hr
    subst hr
    obtain ⟨N, rfl⟩ : ∃ N : Nat, n = (N : Int) := ⟨n.toNat, by omega⟩
    have hL2 : L.length ≤ 20000 := by omega
    have hN1 : N ≤ 10000 := by omega
    have hrN : r + N ≤ 100000 := by omega
    by_cases hfit : r + N ≤ x.size
    case neg =>
      have k1 : (r : Int) > (x.size : Int) - (N : Int) := by omega
      have k2 : ((r + N : Nat) : Int) > (x.size : Int) := by omega
      have wa : wrap64 ((r : Int) + (N : Int)) = ((r + N : Nat) : Int) := wa_is r N hrN
      have wb : wrap64 ((x.size : Int) - (N : Int)) = (x.size : Int) - (N : Int) := wb_is x.size N hx hN1
      refine ⟨(L, (p : Int), 4), sj _ (ev_succ ?_), ir ⟨#[]⟩ 0 4 _ ?_ (ev_neg (show ¬ (4 : Int) = 0 by decide) (Ev.now _)), hL2⟩
      · simp only [spec_RecsOf.j1, Bool.false_eq_true, if_false, wb]
        exact Ev.bind s2 (ev_pos hc2 (ev_pos k1 (Ev.now _)))
      · simp only [impl_record.f, in_is, Option.bind_some]
        refine Ev.bind i1 (ev_pos hc1 (ev_pos (decide_eq_true hn) (Ev.bind i2 (ev_pos hc2 ?_))))
        simp only [wa]
        exact ev_pos k2 (Ev.now _)
    have z1 : (x.extract (p : Int).toNat (q : Int).toNat).size ≤ 20000 := by rw [ByteArray.size_extract]; omega
    have z2 : (x.extract (r : Int).toNat (((r + N : Nat) : Int)).toNat).size + (x.extract (p : Int).toNat (q : Int).toNat).size ≤ 20000 := by rw [ByteArray.size_extract, ByteArray.size_extract]; omega
    have z3 := ByteArray.size_append (a := x.extract (p : Int).toNat (q : Int).toNat) (b := x.extract (r : Int).toNat (((r + N : Nat) : Int)).toNat)
    have m1 := spec_Sum_ev (x.extract (p : Int).toNat (q : Int).toNat ++ x.extract (r : Int).toNat (((r + N : Nat) : Int)).toNat) (by omega)
    have m2 := impl_sum_ev (x.extract (p : Int).toNat (q : Int).toNat ++ x.extract (r : Int).toNat (((r + N : Nat) : Int)).toNat) (by omega)
    generalize hH : x.extract (p : Int).toNat (q : Int).toNat = H at *
    generalize hB : x.extract (r : Int).toNat (((r + N : Nat) : Int)).toNat = B at *
    have k0 : H.size + B.size ≤ 9223372036854775807 := by omega
    have k1 : ¬ (r : Int) > (x.size : Int) - (N : Int) := by omega
    have k2 : ¬ ((r + N : Nat) : Int) > (x.size : Int) := by omega
    have k3 : (0 : Int) ≤ (r : Int) := by omega
    have k4 : (r : Int) ≤ ((r + N : Nat) : Int) := by omega
    have k5 : ((r + N : Nat) : Int) ≤ (x.size : Int) := by omega
    have k6 : (0 : Int) ≤ (p : Int) := by omega
    have k7 : (p : Int) ≤ (q : Int) := by omega
    have k8 : (q : Int) ≤ (x.size : Int) := by omega
    have hL3 : L.length < 8796093022208 := by omega
    have ih' := ih (r + N) (L ++ [B]) (by omega) hfit (by rw [List.length_append]; simp only [List.length_cons, List.length_nil]; omega)
    have wa : wrap64 ((r : Int) + (N : Int)) = ((r + N : Nat) : Int) := wa_is r N hrN
    have wb : wrap64 ((x.size : Int) - (N : Int)) = (x.size : Int) - (N : Int) := wb_is x.size N hx hN1
    have sk : ∀ R : List ByteArray × Int × Int, Ev (fun k => if cs = sumF (H ++ B) 0 7 then (if L.length < 8796093022208 then (spec_RecsOf.l0 k x (L ++ [B]) ((r + N : Nat) : Int) 0) else none) else some (L, (p : Int), 5)) R → Ev (fun k => spec_RecsOf.l0 k x L (p : Int) 0) R := by
      intro R h
      refine sj R (ev_succ ?_)
      simp only [spec_RecsOf.j1, Bool.false_eq_true, if_false, wb]
      refine Ev.bind s2 (ev_pos hc2 ?_)
      simp only [wa, hH, hB]
      refine ev_neg k1 (ev_pos k3 (ev_pos k4 (ev_pos k5 (ev_pos k6 (ev_pos k7 (ev_pos k8 (ev_pos k0 ?_)))))))
      exact Ev.bind m1 h
    have ik : Ev (fun k => impl_record.f k x (p : Int)) (if sumF (H ++ B) 0 7 = cs then (B, ((r + N : Nat) : Int), 0) else (⟨#[]⟩, 0, 5)) := by
      simp only [impl_record.f, in_is, Option.bind_some]
      refine Ev.bind i1 (ev_pos hc1 (ev_pos (decide_eq_true hn) (Ev.bind i2 (ev_pos hc2 ?_))))
      simp only [wa, hH, hB]
      refine ev_neg k2 (ev_pos k3 (ev_pos k4 (ev_pos k5 (ev_pos k6 (ev_pos k7 (ev_pos k8 (ev_pos k0 (Ev.bind m2 ?_))))))))
      by_cases he : sumF (H ++ B) 0 7 = cs
      · simp only [if_pos he]; exact Ev.now _
      · simp only [if_neg he]; exact Ev.now _
    by_cases he : cs = sumF (H ++ B) 0 7
    · obtain ⟨R, t1, t2, t3⟩ := ih'
      rw [if_pos he.symm] at ik
      exact ⟨R, sk R (ev_pos he (ev_pos hL3 t1)), ir _ _ _ R ik (ev_pos rfl (ev_pos hL3 t2)), t3⟩
    · rw [if_neg (fun h => he h.symm)] at ik
      exact ⟨(L, (p : Int), 5), sk _ (ev_neg he (Ev.now _)), ir _ _ _ _ ik (ev_neg (show ¬ (5 : Int) = 0 by decide) (Ev.now _)), hL2⟩
theorem FnExactRecsOf : laws_FnExactRecsOf.Pure := by
  intro a
  intros
  refine Ev.rounds (g := fun k => laws_FnExactRecsOf.f k a) ?_
  simp only [laws_FnExactRecsOf.f]
  by_cases h0 : (a.size : Int) > 1048576
  · exact ev_pos h0 (Ev.now _)
  refine ev_neg h0 ?_
  have key : ∃ R : List ByteArray × Int × Int, Ev (fun k => spec_RecsOf.f k a) R ∧ Ev (fun k => impl_RecsOf.f k a) R ∧ R.1.length ≤ 20000 := by
    simp only [spec_RecsOf.f, impl_RecsOf.f]
    by_cases hs : (a.size : Int) > 20000
    · exact ⟨([], 0, 2), ev_pos hs (Ev.now _), ev_pos hs (Ev.now _), by simp⟩
    · obtain ⟨R, t1, t2, t3⟩ := recs_l0 a (by omega) a.size 0 [] (by omega) (by omega) (by simp)
      exact ⟨R, ev_neg hs t1, ev_neg hs t2, t3⟩
  obtain ⟨⟨L, u, c⟩, t1, t2, t3⟩ := key
  simp only at t3
  have q1 : Ev (fun k => laws_eqRecsOut.f k L u c L u c) true := by
    simp only [laws_eqRecsOut.f, if_true]
    exact Ev.bind (eqS_ev L (by omega)) (ev_pos rfl (Ev.now _))
  obtain ⟨L', m1, m2⟩ := marksS L (by omega)
  have q2 : Ev (fun k => laws_markRecsOut.f k L u c 1) (1 + L.length, L') := by
    simp only [laws_markRecsOut.f]; exact Ev.bind m1 (Ev.now _)
  have q3 : Ev (fun k => laws_heldRecsOut.f k L' u c 1) (1 + L.length) := by
    simp only [laws_heldRecsOut.f]; exact Ev.bind m2 (ev_neg (show ¬ (1 + (L.length : Int)) < 0 by omega) (Ev.now _))
  have n0 : ¬ (1 + (L.length : Int)) < 0 := by omega
  exact Ev.bind t1 (Ev.bind t2 (Ev.bind q1 (ev_pos rfl (Ev.bind q2 (Ev.bind q3 (ev_neg n0 (ev_pos rfl (Ev.bind t2 (Ev.bind q1 (ev_pos rfl (Ev.bind q3 (ev_neg n0 (ev_pos rfl (Ev.now _))))))))))))))

end Go.Proofs.Ytaiekkifdahpcaa.Pure
