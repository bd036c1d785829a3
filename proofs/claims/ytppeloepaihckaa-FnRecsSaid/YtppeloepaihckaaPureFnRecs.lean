/- Drawn bodies put as records, one behind the other, are read as they are; of a text that breaks off within the last one the first; with one byte of the last body turned its sum is wrong. No condition beyond the row's own. -/
import Derived.Test.YtppeloepaihckaaPFnRecsx4
import Derived.Test.YtppeloepaihckaaQLib
namespace Go.Proofs.Ytppeloepaihckaa.Pure
set_option linter.unusedSimpArgs false
set_option linter.unusedVariables false
open Go.RowKit Go.Proofs.Ytppeloepaihckaa.PFnRecs Go.Proofs.YtppeloepaihckaaW.PrintWords Go.Proofs.YtppeloepaihckaaW.PrintLast Go.Proofs.YtppeloepaihckaaW.PrintMore
open Go.Proofs.Ytppeloepaihckaa.Q
/-- The place that a source has come to lies in its bytes. -/
def StOk (l : List Int) (a : Int) : Prop := 0 ≤ a ∧ a ≤ l.length
theorem told_range (v m most : Int) (h0 : 1 < most) (h1 : most ≤ 9223372036854775807) : 0 ≤ spec_l01Src_n.toldF v m most ∧ spec_l01Src_n.toldF v m most < most := by
  unfold spec_l01Src_n.toldF
  rw [u64w, tmod_pos (by omega)]
  have a := Int.emod_nonneg ((v + m / 1048576) % 18446744073709551616) (show most ≠ 0 by omega)
  have b := Int.emod_lt_of_pos ((v + m / 1048576) % 18446744073709551616) (show 0 < most by omega)
  rw [w64 (by omega) (by omega)]
  exact ⟨a, b⟩
/-- A number below most is drawn. -/
theorem n_ok (l : List Int) (a m s most : Int) (hst : StOk l a) (h1 : most ≤ 9223372036854775807) :
    ∃ r a' m', spec_l01Src_n.f l a m s most = some (r, a', m', s) ∧ StOk l a' ∧ 0 ≤ r ∧ (r < most ∨ r = 0) := by
  unfold spec_l01Src_n.f StOk at *
  by_cases c1 : most ≤ 1
  · rw [if_pos c1]; exact ⟨_, _, _, rfl, hst, by omega, Or.inr rfl⟩
  · rw [if_neg c1, if_pos h1]
    by_cases c2 : a < (l.length : Int)
    · rw [if_pos c2, if_pos hst.1]
      have := told_range (IntKind.u64.wrap (rd l a)) (spec_l01Src_n.mixF m) most (by omega) h1
      exact ⟨_, _, _, rfl, by omega, this.1, Or.inl this.2⟩
    · rw [if_neg c2]
      have := told_range 0 (spec_l01Src_n.mixF m) most (by omega) h1
      exact ⟨_, _, _, rfl, hst, this.1, Or.inl this.2⟩
theorem src_l0 (l : List Int) (hl : l.length ≤ 140737488351232) : ∀ (d i : Nat) (m : Int), 64 - i = d → ∃ m' s, Ev (fun k => spec_l01Source.l0 k l i l 0 m 0) (l, 0, m', s) ∧ 0 ≤ s ∧ s ≤ 12 := by
  have fin : ∀ (i : Nat) (m : Int), ¬ ((i : Int) < (l.length : Int) ∧ (i : Int) < 64) → ∃ m' s, Ev (fun k => spec_l01Source.l0 k l i l 0 m 0) (l, 0, m', s) ∧ 0 ≤ s ∧ s ≤ 12 := by
    intro i m hi
    have ew : wrap64 ((l.length : Int) / 20) = (l.length : Int) / 20 := w64 (by omega) (by omega)
    by_cases h12 : (l.length : Int) / 20 > 12
    · refine ⟨m, 12, ev_succ ?_, by omega, by omega⟩
      simp only [spec_l01Source.l0, ew, if_pos h12]
      by_cases h1 : (i : Int) < (l.length : Int)
      · simp only [if_pos h1, if_neg (show ¬ (i : Int) < 64 from fun h => hi ⟨h1, h⟩)]; exact Ev.now _
      · simp only [if_neg h1]; exact Ev.now _
    · refine ⟨m, (l.length : Int) / 20, ev_succ ?_, by omega, by omega⟩
      simp only [spec_l01Source.l0, ew, if_neg h12]
      by_cases h1 : (i : Int) < (l.length : Int)
      · simp only [if_pos h1, if_neg (show ¬ (i : Int) < 64 from fun h => hi ⟨h1, h⟩)]; exact Ev.now _
      · simp only [if_neg h1]; exact Ev.now _
  intro d
  induction d with
  | zero => intro i m hd; exact fin i m (by omega)
  | succ d ih =>
    intro i m hd
    by_cases h : (i : Int) < (l.length : Int) ∧ (i : Int) < 64
    · obtain ⟨m', s, e, h0⟩ := ih (i + 1) (IntKind.u64.wrap ((Go.bits .xor .u64 m (IntKind.u64.wrap (rd l i))) * 1099511628211)) (by omega)
      refine ⟨m', s, ev_succ ?_, h0⟩
      simp only [spec_l01Source.l0, if_pos h.1, if_pos h.2, if_pos (nat0 i), wsucc (show i < l.length by omega) hl]
      exact e
    · exact fin i m h
theorem src_ok (l : List Int) (hl : l.length ≤ 140737488351232) : ∃ m s, Ev (fun k => spec_l01Source.f k l) (l, 0, m, s) ∧ 0 ≤ s ∧ s ≤ 12 := by
  simp only [spec_l01Source.f]
  exact src_l0 l hl 64 0 _ rfl
theorem st0 (l : List Int) : StOk l 0 := ⟨by omega, by omega⟩

/-- The bytes of a number from 0 on, seven bits each. -/
def enc7 (u : Nat) : List Int := if u < 128 then [(u : Int)] else ((u % 128 + 128 : Nat) : Int) :: enc7 (u / 128)
termination_by u
/-- A number of int64 made one of uint64. -/
def fold64 (a : Int) : Nat := if a < 0 then (-2 * a - 1).toNat else (2 * a).toNat
theorem fold64_lt {a : Int} (h0 : -9223372036854775808 ≤ a) (h1 : a ≤ 9223372036854775807) : fold64 a < 18446744073709551616 := by
  unfold fold64; split <;> omega

theorem spec_putnum_l0 : ∀ (d u : Nat) (acc : List Int), u < 128 ^ (d + 1) → u < 18446744073709551616 → acc.length + d ≤ 100 → Ev (fun k => spec_PutNum.l0 k (u : Int) acc) (strOfNums (acc ++ enc7 u)) := by
  intro d
  induction d with
  | zero =>
    intro u acc hu _ ha
    refine ev_succ ?_
    have hu' : u < 128 := by simpa using hu
    rw [enc7, if_pos hu']
    simp only [spec_PutNum.l0, if_neg (show ¬ (u : Int) ≥ 128 by omega), if_pos (show acc.length < 140737488355328 by omega), show (u : Int) % 256 = u by omega]
    exact Ev.now _
  | succ d ih =>
    intro u acc hu hu2 ha
    refine ev_succ ?_
    by_cases hs : u < 128
    · rw [enc7, if_pos hs]
      simp only [spec_PutNum.l0, if_neg (show ¬ (u : Int) ≥ 128 by omega), if_pos (show acc.length < 140737488355328 by omega), show (u : Int) % 256 = u by omega]
      exact Ev.now _
    · rw [enc7, if_neg hs]
      have e1 : IntKind.u64.wrap (Int.tdiv (u : Int) 128) = ((u / 128 : Nat) : Int) := by
        rw [tdiv_pos (by omega), u64in (by omega) (by omega)]; omega
      have e2 : IntKind.u64.wrap ((Int.tmod (u : Int) 128) + 128) % 256 = ((u % 128 + 128 : Nat) : Int) := by
        rw [tmod_pos (by omega), u64in (by omega) (by omega)]; omega
      simp only [spec_PutNum.l0, if_pos (show (u : Int) ≥ 128 by omega), if_pos (show acc.length < 140737488355328 by omega), e1, e2]
      have := ih (u / 128) (acc ++ [((u % 128 + 128 : Nat) : Int)]) (by rw [Nat.pow_succ] at hu; omega) (by omega) (by simp; omega)
      simpa [List.append_assoc] using this

theorem spec_PutNum_ev (a : Int) (h0 : -9223372036854775808 ≤ a) (h1 : a ≤ 9223372036854775807) : Ev (fun k => spec_PutNum.f k a) (strOfNums (enc7 (fold64 a))) := by
  have hf : spec_l01Fold.f a = some (fold64 a : Int) := by
    unfold spec_l01Fold.f fold64
    by_cases h : a < 0
    · rw [if_pos h, if_pos h, w64 (a := a + 1) (by omega) (by omega), w64 (by omega) (by omega), u64in (n := -(a + 1)) (by omega) (by omega), u64in (n := 2 * -(a + 1)) (by omega) (by omega), u64in (by omega) (by omega)]
      congr 1; omega
    · rw [if_neg h, if_neg h, u64in (n := a) (by omega) (by omega), u64in (by omega) (by omega)]
      congr 1; omega
  simp only [spec_PutNum.f, hf, Option.bind_some]
  have hl := fold64_lt h0 h1
  have := spec_putnum_l0 9 (fold64 a) [] (by omega) hl (by simp)
  simpa using this

theorem or128 (x : Int) : Go.bits .or .u8 (x % 256) 128 = x % 128 + 128 := by
  rw [u8_or _ _ (by omega) (by omega) (by omega) (by omega)]
  have h : ∀ n : Fin 256, (n.val ||| 128) = n.val % 128 + 128 := by decide +kernel
  have := h ⟨(x % 256).toNat, by omega⟩
  simp only at this
  rw [show (128 : Int).toNat = 128 from rfl, this]; omega

theorem impl_numBytes_l0 : ∀ (d u : Nat) (acc : List Int), u < 128 ^ (d + 1) → acc.length + d ≤ 100 → Ev (fun k => impl_numBytes.l0 k (u : Int) acc) (acc ++ enc7 u) := by
  intro d
  induction d with
  | zero =>
    intro u acc hu ha
    refine ev_succ ?_
    have hu' : u < 128 := by simpa using hu
    rw [enc7, if_pos hu']
    simp only [impl_numBytes.l0, if_neg (show ¬ (u : Int) > 127 by omega), if_pos (show acc.length < 140737488355328 by omega), show (u : Int) % 256 = u by omega]
    exact Ev.now _
  | succ d ih =>
    intro u acc hu ha
    refine ev_succ ?_
    by_cases hs : u < 128
    · rw [enc7, if_pos hs]
      simp only [impl_numBytes.l0, if_neg (show ¬ (u : Int) > 127 by omega), if_pos (show acc.length < 140737488355328 by omega), show (u : Int) % 256 = u by omega]
      exact Ev.now _
    · rw [enc7, if_neg hs]
      simp only [impl_numBytes.l0, if_pos (show (u : Int) > 127 by omega), if_pos (show acc.length < 140737488355328 by omega), or128, show (u : Int) % 128 + 128 = ((u % 128 + 128 : Nat) : Int) by omega, show (u : Int) / 128 = ((u / 128 : Nat) : Int) by omega]
      have := ih (u / 128) (acc ++ [((u % 128 + 128 : Nat) : Int)]) (by rw [Nat.pow_succ] at hu; omega) (by simp; omega)
      simpa [List.append_assoc] using this

theorem xor_ones (x : Nat) (h : x < 18446744073709551616) : x ^^^ 18446744073709551615 = 18446744073709551615 - x := by
  have h1 : (BitVec.ofNat 64 x ^^^ BitVec.allOnes 64).toNat = (~~~ (BitVec.ofNat 64 x)).toNat := by rw [BitVec.xor_allOnes]
  rw [BitVec.toNat_xor, BitVec.toNat_not, BitVec.toNat_ofNat, BitVec.toNat_allOnes, Nat.mod_eq_of_lt (by simpa using h)] at h1
  simpa using h1

theorem impl_fold (a : Int) (h0 : -9223372036854775808 ≤ a) (h1 : a ≤ 9223372036854775807) :
    Go.bits .xor .u64 (IntKind.u64.wrap ((IntKind.u64.wrap (a)) * 2)) (IntKind.u64.wrap (a / 9223372036854775808)) = (fold64 a : Int) := by
  rw [u64w, u64w, u64w, u64_xor _ _ (by omega) (by omega) (by omega) (by omega)]
  unfold fold64
  by_cases h : a < 0
  · rw [if_pos h, show (a / 9223372036854775808 % 18446744073709551616).toNat = 18446744073709551615 by omega, xor_ones _ (by omega)]
    omega
  · rw [if_neg h, show (a / 9223372036854775808 % 18446744073709551616).toNat = 0 by omega, Nat.xor_zero]
    omega

theorem impl_numBytes_ev (a : Int) (h0 : -9223372036854775808 ≤ a) (h1 : a ≤ 9223372036854775807) : Ev (fun k => impl_numBytes.f k a) (enc7 (fold64 a)) := by
  simp only [impl_numBytes.f, impl_fold a h0 h1]
  have hl := fold64_lt h0 h1
  have := impl_numBytes_l0 9 (fold64 a) [] (by omega) (by simp)
  simpa using this
theorem enc7_len : ∀ (d u : Nat), u < 128 ^ (d + 1) → (enc7 u).length ≤ d + 1 := by
  intro d
  induction d with
  | zero => intro u hu; rw [enc7, if_pos (by simpa using hu)]; simp
  | succ d ih =>
    intro u hu
    rw [enc7]; split
    · simp
    · have := ih (u / 128) (by rw [Nat.pow_succ] at hu; omega)
      simp; omega
theorem enc7_len10 {u : Nat} (hu : u < 18446744073709551616) : (enc7 u).length ≤ 10 := enc7_len 9 u (by omega)

theorem impl_PutNum_ev (a : Int) (h0 : -9223372036854775808 ≤ a) (h1 : a ≤ 9223372036854775807) : Ev (fun k => impl_PutNum.f k a) (strOfNums (enc7 (fold64 a))) := by
  simp only [impl_PutNum.f]
  exact Ev.bind (impl_numBytes_ev a h0 h1) (Ev.now _)
theorem nums_size (xs : List Int) : (strOfNums xs).size = xs.length := by simp [strOfNums, ByteArray.size]
theorem put_size {a : Int} (h0 : -9223372036854775808 ≤ a) (h1 : a ≤ 9223372036854775807) : (strOfNums (enc7 (fold64 a))).size ≤ 10 := by
  rw [nums_size]; exact enc7_len10 (fold64_lt h0 h1)

/-- The sum of the bytes of s from place i on, n being the sum of those ahead. -/
def sumF (s : ByteArray) (i : Nat) (n : Int) : Int :=
  if i < s.size then sumF s (i + 1) ((257 * n + bt s i) % 4294967291) else n
termination_by s.size - i

theorem sumF_range (s : ByteArray) : ∀ (d i : Nat) (n : Int), s.size - i = d → 0 ≤ n → n < 4294967291 → 0 ≤ sumF s i n ∧ sumF s i n < 4294967291 := by
  intro d
  induction d with
  | zero => intro i n hd h0 h1; rw [sumF, if_neg (by omega)]; exact ⟨h0, h1⟩
  | succ d ih => intro i n hd h0 h1; rw [sumF, if_pos (by omega)]; exact ih _ _ (by omega) (by omega) (by omega)

theorem sum_round (s : ByteArray) (i : Nat) (n : Int) (h0 : 0 ≤ n) (h1 : n < 4294967291) :
    Int.tmod (wrap64 ((wrap64 (257 * n)) + (wrap64 (bt s i)))) 4294967291 = (257 * n + bt s i) % 4294967291 := by
  have hb := bt_range s i
  rw [w64 (a := 257 * n) (by omega) (by omega), w64 (a := bt s i) (by omega) (by omega), w64 (by omega) (by omega), tmod_pos (by omega)]

theorem spec_sum_l0 (s : ByteArray) (hs : s.size ≤ 140737488351232) : ∀ (d i : Nat) (n : Int), s.size - i = d → 0 ≤ n → n < 4294967291 → Ev (fun k => spec_Sum.l0 k s n i) (sumF s i n) := by
  intro d
  induction d with
  | zero =>
    intro i n hd h0 h1
    refine ev_succ ?_
    rw [sumF, if_neg (by omega)]
    simp only [spec_Sum.l0, if_neg (natNotLt (show ¬ i < s.size by omega))]
    exact Ev.now _
  | succ d ih =>
    intro i n hd h0 h1
    refine ev_succ ?_
    have hi : i < s.size := by omega
    rw [sumF, if_pos hi]
    simp only [spec_Sum.l0, if_pos (natLt hi), if_pos (nat0 i), sum_round s i n h0 h1, wsucc hi hs]
    exact ih _ _ (by omega) (by omega) (by omega)

theorem impl_sum_l0 (s : ByteArray) (hs : s.size ≤ 140737488351232) : ∀ (d i : Nat) (n : Int), s.size - i = d → 0 ≤ n → n < 4294967291 → Ev (fun k => impl_sum.l0 k s n s.size i) (sumF s i n) := by
  intro d
  induction d with
  | zero =>
    intro i n hd h0 h1
    refine ev_succ ?_
    rw [sumF, if_neg (by omega)]
    simp only [impl_sum.l0, if_neg (natNotLt (show ¬ i < s.size by omega))]
    exact Ev.now _
  | succ d ih =>
    intro i n hd h0 h1
    refine ev_succ ?_
    have hi : i < s.size := by omega
    rw [sumF, if_pos hi]
    simp only [impl_sum.l0, if_pos (natLt hi), if_pos (nat0 i), sum_round s i n h0 h1, wsucc hi hs]
    exact ih _ _ (by omega) (by omega) (by omega)

theorem impl_sum_ev (s : ByteArray) (hs : s.size ≤ 140737488351232) : Ev (fun k => impl_sum.f k s) (sumF s 0 7) := by
  simp only [impl_sum.f]
  exact impl_sum_l0 s hs _ 0 7 rfl (by omega) (by omega)
theorem spec_Sum_ev (s : ByteArray) (hs : s.size ≤ 20000) : Ev (fun k => spec_Sum.f k s) (sumF s 0 7) := by
  simp only [spec_Sum.f, if_neg (show ¬ (s.size : Int) > 20000 by omega)]
  exact spec_sum_l0 s (by omega) _ 0 7 rfl (by omega) (by omega)

def putB (n : Int) : ByteArray := strOfNums (enc7 (fold64 n))
def recB (s : ByteArray) : ByteArray := (putB s.size ++ putB (sumF (putB s.size ++ s) 0 7)) ++ s
theorem append_size (a b : ByteArray) : (a ++ b).size = a.size + b.size := ByteArray.size_append
theorem putB_size {a : Int} (h0 : -9223372036854775808 ≤ a) (h1 : a ≤ 9223372036854775807) : (putB a).size ≤ 10 := put_size h0 h1
theorem spec_rec_ev (s : ByteArray) (h0 : 1 ≤ s.size) (h1 : s.size ≤ 10000) : Ev (fun k => spec_RecBytes.f k s) (recB s) := by
  have b0 : -9223372036854775808 ≤ (s.size : Int) := by omega
  have b1 : (s.size : Int) ≤ 9223372036854775807 := by omega
  have hz := putB_size b0 b1
  have hy := append_size (putB s.size) s
  have hr := sumF_range (putB s.size ++ s) _ 0 7 rfl (by omega) (by omega)
  have hq := putB_size (a := sumF (putB s.size ++ s) 0 7) (by omega) (by omega)
  have hx := append_size (putB s.size) (putB (sumF (putB s.size ++ s) 0 7))
  simp only [spec_RecBytes.f, if_neg (show ¬ (s.size : Int) < 1 by omega), decide_eq_false (show ¬ (s.size : Int) > 10000 by omega)]
  refine ev_succ ?_
  simp only [spec_RecBytes.j0, Bool.false_eq_true, if_false]
  refine Ev.bind (spec_PutNum_ev _ b0 b1) ?_
  simp only [if_pos (show (strOfNums (enc7 (fold64 s.size))).size + s.size ≤ 9223372036854775807 from by have : (strOfNums (enc7 (fold64 s.size))).size ≤ 10 := hz; omega)]
  refine Ev.bind (spec_Sum_ev (putB s.size ++ s) (by omega)) ?_
  refine Ev.bind (spec_PutNum_ev _ (by omega) (by omega)) ?_
  refine ev_pos (show (putB s.size).size + (putB (sumF (putB s.size ++ s) 0 7)).size ≤ 9223372036854775807 by omega) ?_
  refine ev_pos (show (putB s.size ++ putB (sumF (putB s.size ++ s) 0 7)).size + s.size ≤ 9223372036854775807 by omega) ?_
  exact Ev.now _
theorem impl_rec_ev (s : ByteArray) (h0 : 1 ≤ s.size) (h1 : s.size ≤ 10000) : Ev (fun k => impl_RecBytes.f k s) (recB s) := by
  have b0 : -9223372036854775808 ≤ (s.size : Int) := by omega
  have b1 : (s.size : Int) ≤ 9223372036854775807 := by omega
  have hz := putB_size b0 b1
  have hy := append_size (putB s.size) s
  have hr := sumF_range (putB s.size ++ s) _ 0 7 rfl (by omega) (by omega)
  have hq := putB_size (a := sumF (putB s.size ++ s) 0 7) (by omega) (by omega)
  have hx := append_size (putB s.size) (putB (sumF (putB s.size ++ s) 0 7))
  simp only [impl_RecBytes.f, impl_in.f, if_pos (show (1 : Int) ≤ s.size by omega), decide_eq_true (show (s.size : Int) ≤ 10000 by omega), Option.bind_some, if_true]
  refine Ev.bind (impl_PutNum_ev _ b0 b1) ?_
  simp only [if_pos (show (strOfNums (enc7 (fold64 s.size))).size + s.size ≤ 9223372036854775807 from by have : (strOfNums (enc7 (fold64 s.size))).size ≤ 10 := hz; omega)]
  refine Ev.bind (impl_sum_ev (putB s.size ++ s) (by omega)) ?_
  refine Ev.bind (impl_PutNum_ev _ (by omega) (by omega)) ?_
  refine ev_pos (show (putB s.size).size + (putB (sumF (putB s.size ++ s) 0 7)).size ≤ 9223372036854775807 by omega) ?_
  refine ev_pos (show (putB s.size ++ putB (sumF (putB s.size ++ s) 0 7)).size + s.size ≤ 9223372036854775807 by omega) ?_
  exact Ev.now _


theorem bt_nat (s : ByteArray) (i : Nat) (h : i < s.size) : bt s ((i : Nat) : Int) = ((s[i]'h).toNat : Int) := by
  unfold bt
  rw [dif_pos (show ((i : Nat) : Int).toNat < s.size by omega)]
  simp
theorem bt_left (a b : ByteArray) (i : Nat) (h : i < a.size) : bt (a ++ b) (i : Int) = bt a (i : Int) := by
  rw [bt_nat _ i (by rw [ByteArray.size_append]; omega), bt_nat _ i h, ByteArray.getElem_append_left h]
theorem bt_right (a b : ByteArray) (i : Nat) (h : i < b.size) : bt (a ++ b) ((a.size + i : Nat) : Int) = bt b (i : Int) := by
  rw [bt_nat _ _ (by rw [ByteArray.size_append]; omega), bt_nat _ i h, ByteArray.getElem_append_right (by omega)]
  simp
theorem bt_extract (a : ByteArray) (n i : Nat) (h : i < n) (h2 : n ≤ a.size) : bt (a.extract 0 n) (i : Int) = bt a (i : Int) := by
  rw [bt_nat _ i (by rw [ByteArray.size_extract]; omega), bt_nat _ i (by omega), ByteArray.getElem_extract]
  simp
theorem bt_nums (L : List Int) (hL : ∀ c ∈ L, 0 ≤ c ∧ c < 256) (i : Nat) (h : i < L.length) : bt (strOfNums L) (i : Int) = L.getD i 0 := by
  rw [bt_nat _ i (by rw [nums_size]; exact h)]
  have hc := hL L[i] (List.getElem_mem h)
  have e : (strOfNums L)[i]'(by rw [nums_size]; exact h) = UInt8.ofNat (L[i]).toNat := by
    have q : (strOfNums L)[i]'(by rw [nums_size]; exact h) = ((L.map fun n => UInt8.ofNat n.toNat).toArray)[i]'(by rw [List.size_toArray, List.length_map]; exact h) := rfl
    rw [q, List.getElem_toArray, List.getElem_map]
  rw [e, List.getD_eq_getElem?_getD, List.getElem?_eq_getElem h, Option.getD_some]
  rw [UInt8.toNat_ofNat']
  omega
theorem enc7_bytes : ∀ (d u : Nat), u < 128 ^ (d + 1) → ∀ c ∈ enc7 u, 0 ≤ c ∧ c < 256 := by
  intro d
  induction d with
  | zero => intro u hu c hc; have hu' : u < 128 := by simpa using hu
            rw [enc7, if_pos hu'] at hc; simp at hc; omega
  | succ d ih =>
    intro u hu c hc
    rw [enc7] at hc
    split at hc
    · simp at hc; omega
    · rcases List.mem_cons.mp hc with h | h
      · omega
      · exact ih (u / 128) (by rw [Nat.pow_succ] at hu; omega) c h
/-- The first n bytes of a text from p on are a list's. -/
def AtB (x : ByteArray) (p n : Nat) (L : List Int) : Prop := ∀ i : Nat, i < n → bt x ((p + i : Nat) : Int) = L.getD i 0
theorem atB_cons {x : ByteArray} {p n : Nat} {a : Int} {L : List Int} (h : AtB x p (n + 1) (a :: L)) : bt x ((p : Nat) : Int) = a ∧ AtB x (p + 1) n L := by
  refine ⟨by simpa using h 0 (by omega), fun i hi => ?_⟩
  have := h (i + 1) (by omega)
  rw [show p + (i + 1) = p + 1 + i by omega] at this
  simpa using this
theorem bits_low (c : Nat) (h : c < 256) : Go.bits .and .u8 (c : Int) 127 = ((c % 128 : Nat) : Int) := by
  have h' : ∀ n : Fin 256, (n.val &&& 127) = n.val % 128 := by decide +kernel
  have := h' ⟨c, h⟩
  simp only at this
  have e := u8_and_nat c 127 h (by omega)
  rw [this] at e
  exact e
theorem pow7 (j : Nat) : 128 ^ j = 2 ^ (7 * j) := by rw [show (128 : Nat) = 2 ^ 7 from rfl, ← Nat.pow_mul]
theorem bits_add (acc b j : Nat) (hacc : acc < 128 ^ j) (hs : acc + 128 ^ j * b < 18446744073709551616) : Go.bits .or .u64 (acc : Int) ((128 ^ j * b : Nat) : Int) = ((acc + 128 ^ j * b : Nat) : Int) := by
  rw [u64_or_nat _ _ (by omega) (by omega)]
  rw [pow7] at hacc ⊢
  have := Nat.two_pow_add_eq_or_of_lt hacc b
  rw [Nat.or_comm, ← this, Nat.add_comm]
theorem shl_is (b j : Nat) (hj : j ≤ 9) (hb : 128 ^ j * b < 18446744073709551616) : shl .u64 (b : Int) ((7 * j : Nat) : Int) = ((128 ^ j * b : Nat) : Int) := by
  unfold shl
  rw [show min (((7 * j : Nat)) : Int).toNat IntKind.u64.bits = 7 * j from by simp only [IntKind.bits]; omega]
  have e : (b : Int) * 2 ^ (7 * j) = ((128 ^ j * b : Nat) : Int) := by
    rw [pow7, Int.natCast_mul, Int.natCast_pow, Int.mul_comm]; rfl
  rw [e, u64in (by omega) (by omega)]
/-- What getNum makes of the bits that it has gathered. -/
def unF (u : Nat) : Int := Go.bits .xor .i64 (wrap64 ((u : Int) / 2)) (wrap64 (-(wrap64 (Go.bits .and .u64 (u : Int) 1))))
theorem xor_i64 (x y : Int) : Go.bits .xor .i64 x y = wrap64 (((BitVec.ofInt 64 x ^^^ BitVec.ofInt 64 y).toNat : Nat) : Int) := i64_w _
theorem unF_fold (a : Int) (h0 : -9223372036854775808 ≤ a) (h1 : a ≤ 9223372036854775807) : unF (fold64 a) = a := by
  have hl := fold64_lt h0 h1
  have ea : Go.bits .and .u64 (fold64 a : Int) 1 = ((fold64 a % 2 : Nat) : Int) := by
    have := u64_and_nat (fold64 a) 1 hl (by omega)
    rw [Nat.and_one_is_mod] at this
    exact this
  unfold unF
  rw [ea]
  unfold fold64
  by_cases h : a < 0
  · rw [if_pos h]
    rw [w64 (a := ((-2 * a - 1).toNat : Int) / 2) (by omega) (by omega), w64 (a := (((-2 * a - 1).toNat % 2 : Nat) : Int)) (by omega) (by omega), w64 (by omega) (by omega), show -(((-2 * a - 1).toNat % 2 : Nat) : Int) = -1 by omega, show ((-2 * a - 1).toNat : Int) / 2 = (((-a - 1).toNat : Nat) : Int) by omega]
    rw [xor_i64, show BitVec.ofInt 64 (-1) = BitVec.allOnes 64 from by decide, BitVec.xor_allOnes, BitVec.toNat_not, ofInt_u64 _ (by omega)]
    unfold wrap64; omega
  · rw [if_neg h]
    rw [w64 (a := ((2 * a).toNat : Int) / 2) (by omega) (by omega), w64 (a := (((2 * a).toNat % 2 : Nat) : Int)) (by omega) (by omega), w64 (by omega) (by omega), show -(((2 * a).toNat % 2 : Nat) : Int) = 0 by omega, show ((2 * a).toNat : Int) / 2 = ((a.toNat : Nat) : Int) by omega]
    rw [xor_i64, show BitVec.ofInt 64 0 = 0#64 from by decide, BitVec.xor_zero, ofInt_u64 _ (by omega)]
    unfold wrap64; omega
theorem get_round (x : ByteArray) (p j c : Nat) (acc : Int) (R : Int × Int × Int) (hx : x.size ≤ 100000) (hp : p + j < x.size) (hj : j ≤ 9) (hb : bt x ((p + j : Nat) : Int) = (c : Int)) (h9 : j = 9 → c ≤ 1) (h0 : 0 < j → c ≠ 0)
    (e : Ev (fun k => impl_getNum.j1 k x (p : Int) acc (j : Int) (c : Int) false) R) : Ev (fun k => impl_getNum.l0 k x (p : Int) acc (j : Int)) R := by
  refine ev_succ ?_
  have e1 : wrap64 ((x.size : Int) - j) = (x.size : Int) - j := w64 (by omega) (by omega)
  have e2 : wrap64 ((p : Int) + j) = ((p + j : Nat) : Int) := by rw [w64 (by omega) (by omega)]; omega
  simp only [impl_getNum.l0, e1, e2, if_pos (show (j : Int) < 10 by omega), if_neg (show ¬ (p : Int) ≥ (x.size : Int) - j by omega), if_pos (show (0 : Int) ≤ ((p + j : Nat) : Int) by omega), if_pos (show ((p + j : Nat) : Int) < (x.size : Int) by omega), hb]
  by_cases q9 : (j : Int) = 9
  · have := h9 (by omega)
    have hc : ((c : Int) == 0) = false := by have := h0 (by omega); simp; omega
    simp only [if_pos q9, if_neg (show ¬ (c : Int) > 1 by omega), if_pos (show (j : Int) > 0 by omega), hc]
    exact e
  · simp only [if_neg q9]
    by_cases q0 : (j : Int) > 0
    · have hc : ((c : Int) == 0) = false := by have := h0 (by omega); simp; omega
      simp only [if_pos q0, hc]
      exact e
    · simp only [if_neg q0]
      exact e
theorem get_low (c j : Nat) (hc : c < 256) (hj : j ≤ 9) (hb : 128 ^ j * (c % 128) < 18446744073709551616) : shl .u64 (IntKind.u64.wrap (Go.bits .and .u8 (c : Int) 127)) (wrap64 (7 * (j : Int))) = ((128 ^ j * (c % 128) : Nat) : Int) := by
  rw [bits_low c hc, u64in (by omega) (by omega), w64 (by omega) (by omega), show 7 * (j : Int) = ((7 * j : Nat) : Int) by omega, shl_is _ j hj hb]
theorem get_more (x : ByteArray) (p j c acc : Nat) (R : Int × Int × Int) (hj : j ≤ 9) (hc : 128 ≤ c) (hc2 : c < 256) (ha : acc < 128 ^ j) (hs : acc + 128 ^ j * (c % 128) < 18446744073709551616)
    (e : Ev (fun k => impl_getNum.l0 k x (p : Int) ((acc + 128 ^ j * (c % 128) : Nat) : Int) ((j + 1 : Nat) : Int)) R) : Ev (fun k => impl_getNum.j1 k x (p : Int) (acc : Int) (j : Int) (c : Int) false) R := by
  refine ev_succ ?_
  simp only [impl_getNum.j1, Bool.false_eq_true, if_false, get_low c j hc2 hj (by omega), bits_add acc (c % 128) j ha hs, if_neg (show ¬ (c : Int) < 128 by omega)]
  rw [w64 (a := 7 * (j : Int)) (by omega) (by omega), w64 (a := (j : Int) + 1) (by omega) (by omega), show (j : Int) + 1 = ((j + 1 : Nat) : Int) by omega]
  simp only [if_pos (show (0 : Int) ≤ 7 * (j : Int) by omega)]
  exact e
theorem get_last (x : ByteArray) (p j c acc : Nat) (hx : p ≤ 100000) (hj : j ≤ 9) (hc : c < 128) (ha : acc < 128 ^ j) (hs : acc + 128 ^ j * c < 18446744073709551616) :
    Ev (fun k => impl_getNum.j1 k x (p : Int) (acc : Int) (j : Int) (c : Int) false) (unF (acc + 128 ^ j * c), ((p + j + 1 : Nat) : Int), 0) := by
  refine ev_succ ?_
  have em : c % 128 = c := Nat.mod_eq_of_lt hc
  have gl := get_low c j (by omega) hj (by rw [em]; omega)
  rw [em] at gl
  simp only [impl_getNum.j1, Bool.false_eq_true, if_false, gl, bits_add acc c j ha hs, if_pos (show (c : Int) < 128 by omega)]
  rw [w64 (a := 7 * (j : Int)) (by omega) (by omega), w64 (a := (p : Int) + j) (by omega) (by omega), w64 (a := (p : Int) + j + 1) (by omega) (by omega), show (p : Int) + j + 1 = ((p + j + 1 : Nat) : Int) by omega]
  simp only [if_pos (show (0 : Int) ≤ 7 * (j : Int) by omega)]
  exact Ev.now _
theorem enc7_pos (v : Nat) : 1 ≤ (enc7 v).length := by rw [enc7]; split <;> simp
theorem nine (u : Nat) (hu : u < 18446744073709551616) : u / 128 ^ 9 ≤ 1 := by
  have : u / 128 ^ 9 < 2 := Nat.div_lt_of_lt_mul (by omega)
  omega
theorem step_div (u j : Nat) : u / 128 ^ (j + 1) = u / 128 ^ j / 128 := by rw [Nat.pow_succ, ← Nat.div_div_eq_div_mul]
/-- A number's bytes are read back. -/
theorem get_ok (x : ByteArray) (p u : Nat) (hu : u < 18446744073709551616) (hx : x.size ≤ 100000) : ∀ d j, j + d = 9 → (j = 0 ∨ 1 ≤ u / 128 ^ j) → p + j + (enc7 (u / 128 ^ j)).length ≤ x.size → AtB x (p + j) (enc7 (u / 128 ^ j)).length (enc7 (u / 128 ^ j)) →
    Ev (fun k => impl_getNum.l0 k x (p : Int) ((u % 128 ^ j : Nat) : Int) (j : Int)) (unF u, ((p + j + (enc7 (u / 128 ^ j)).length : Nat) : Int), 0) := by
  have last : ∀ j, j ≤ 9 → u / 128 ^ j < 128 → (j = 9 → u / 128 ^ j ≤ 1) → (j = 0 ∨ 1 ≤ u / 128 ^ j) → p + j + (enc7 (u / 128 ^ j)).length ≤ x.size → AtB x (p + j) (enc7 (u / 128 ^ j)).length (enc7 (u / 128 ^ j)) →
      Ev (fun k => impl_getNum.l0 k x (p : Int) ((u % 128 ^ j : Nat) : Int) (j : Int)) (unF u, ((p + j + (enc7 (u / 128 ^ j)).length : Nat) : Int), 0) := by
    intro j hj hv h9 hz hp hb
    have hm : u % 128 ^ j + 128 ^ j * (u / 128 ^ j) = u := Nat.mod_add_div u (128 ^ j)
    have hlt : u % 128 ^ j < 128 ^ j := Nat.mod_lt _ (Nat.pow_pos (by omega))
    have en : enc7 (u / 128 ^ j) = [((u / 128 ^ j : Nat) : Int)] := by rw [enc7, if_pos hv]
    rw [en] at hp hb ⊢
    have hb0 := (atB_cons hb).1
    simp only [List.length_cons, List.length_nil] at hp ⊢
    refine get_round x p j (u / 128 ^ j) _ _ hx (by omega) hj hb0 h9 (by omega) ?_
    have := get_last x p j (u / 128 ^ j) (u % 128 ^ j) (by omega) hj hv hlt (by rw [hm]; exact hu)
    rw [hm] at this
    exact this
  intro d
  induction d with
  | zero =>
    intro j hd hz hp hb
    obtain rfl : j = 9 := by omega
    have := nine u hu
    exact last 9 (by omega) (by omega) (fun _ => this) hz hp hb
  | succ d ih =>
    intro j hd hz hp hb
    by_cases hv : u / 128 ^ j < 128
    · exact last j (by omega) hv (by omega) hz hp hb
    · have hlt : u % 128 ^ j < 128 ^ j := Nat.mod_lt _ (Nat.pow_pos (by omega))
      have en : enc7 (u / 128 ^ j) = ((u / 128 ^ j % 128 + 128 : Nat) : Int) :: enc7 (u / 128 ^ (j + 1)) := by rw [enc7, if_neg hv, step_div]
      rw [en] at hp hb ⊢
      simp only [List.length_cons] at hp hb ⊢
      obtain ⟨hb0, hb1⟩ := atB_cons hb
      have em : (u / 128 ^ j % 128 + 128) % 128 = u / 128 ^ j % 128 := by omega
      have es : u % 128 ^ j + 128 ^ j * ((u / 128 ^ j % 128 + 128) % 128) = u % 128 ^ (j + 1) := by rw [em, Nat.mod_pow_succ]
      have hle : u % 128 ^ (j + 1) ≤ u := Nat.mod_le _ _
      refine get_round x p j (u / 128 ^ j % 128 + 128) _ _ hx (by omega) (by omega) hb0 (by omega) (by omega) ?_
      refine get_more x p j _ _ _ (by omega) (by omega) (by omega) hlt (by rw [es]; omega) ?_
      rw [es]
      have := ih (j + 1) (by omega) (Or.inr (by rw [step_div]; omega)) (by omega) (by rw [← Nat.add_assoc]; exact hb1)
      rw [show p + (j + 1) + (enc7 (u / 128 ^ (j + 1))).length = p + j + ((enc7 (u / 128 ^ (j + 1))).length + 1) by omega] at this
      exact this
/-- Without its last byte it is too short. -/
theorem get_short (x : ByteArray) (u : Nat) (hu : u < 18446744073709551616) (hx : x.size ≤ 100000) : ∀ d j, j + d = 9 → (j = 0 ∨ 1 ≤ u / 128 ^ j) → j + (enc7 (u / 128 ^ j)).length = x.size + 1 → AtB x j ((enc7 (u / 128 ^ j)).length - 1) (enc7 (u / 128 ^ j)) →
    Ev (fun k => impl_getNum.l0 k x ((0 : Nat) : Int) ((u % 128 ^ j : Nat) : Int) (j : Int)) (0, 0, 4) := by
  have last : ∀ j, j ≤ 9 → u / 128 ^ j < 128 → j + (enc7 (u / 128 ^ j)).length = x.size + 1 →
      Ev (fun k => impl_getNum.l0 k x ((0 : Nat) : Int) ((u % 128 ^ j : Nat) : Int) (j : Int)) (0, 0, 4) := by
    intro j hj hv hp
    have en : enc7 (u / 128 ^ j) = [((u / 128 ^ j : Nat) : Int)] := by rw [enc7, if_pos hv]
    rw [en] at hp
    simp only [List.length_cons, List.length_nil] at hp
    refine ev_succ ?_
    have e1 : wrap64 ((x.size : Int) - j) = (x.size : Int) - j := w64 (by omega) (by omega)
    simp only [impl_getNum.l0, e1, if_pos (show (j : Int) < 10 by omega), if_pos (show ((0 : Nat) : Int) ≥ (x.size : Int) - j by omega)]
    exact Ev.now _
  intro d
  induction d with
  | zero =>
    intro j hd hz hp hb
    obtain rfl : j = 9 := by omega
    have := nine u hu
    exact last 9 (by omega) (by omega) hp
  | succ d ih =>
    intro j hd hz hp hb
    by_cases hv : u / 128 ^ j < 128
    · exact last j (by omega) hv hp
    · have hlt : u % 128 ^ j < 128 ^ j := Nat.mod_lt _ (Nat.pow_pos (by omega))
      have en : enc7 (u / 128 ^ j) = ((u / 128 ^ j % 128 + 128 : Nat) : Int) :: enc7 (u / 128 ^ (j + 1)) := by rw [enc7, if_neg hv, step_div]
      have hq := enc7_pos (u / 128 ^ (j + 1))
      rw [en] at hp hb
      simp only [List.length_cons] at hp hb
      rw [show (enc7 (u / 128 ^ (j + 1))).length + 1 - 1 = ((enc7 (u / 128 ^ (j + 1))).length - 1) + 1 by omega] at hb
      obtain ⟨hb0, hb1⟩ := atB_cons hb
      have em : (u / 128 ^ j % 128 + 128) % 128 = u / 128 ^ j % 128 := by omega
      have es : u % 128 ^ j + 128 ^ j * ((u / 128 ^ j % 128 + 128) % 128) = u % 128 ^ (j + 1) := by rw [em, Nat.mod_pow_succ]
      have hle : u % 128 ^ (j + 1) ≤ u := Nat.mod_le _ _
      refine get_round x 0 j (u / 128 ^ j % 128 + 128) _ _ hx (by omega) (by omega) (by rw [Nat.zero_add]; exact hb0) (by omega) (by omega) ?_
      refine get_more x 0 j _ _ _ (by omega) (by omega) (by omega) hlt (by rw [es]; omega) ?_
      rw [es]
      exact ih (j + 1) (by omega) (Or.inr (by rw [step_div]; omega)) (by omega) hb1

theorem getN_ok (x : ByteArray) (p u : Nat) (hu : u < 18446744073709551616) (hx : x.size ≤ 20000) (hp : p + (enc7 u).length ≤ x.size) (hb : AtB x p (enc7 u).length (enc7 u)) : Ev (fun k => impl_getNum.f k x (p : Int)) (unF u, ((p + (enc7 u).length : Nat) : Int), 0) := by
  have g := get_ok x p u hu (by omega) 9 0 (by omega) (Or.inl rfl) (by rw [Nat.pow_zero, Nat.div_one]; omega) (by rw [Nat.pow_zero, Nat.div_one, Nat.add_zero]; exact hb)
  rw [Nat.pow_zero, Nat.div_one, Nat.mod_one, Nat.add_zero] at g
  simp only [impl_getNum.f, if_neg (show ¬ (p : Int) < 0 by omega)]
  exact g
/-- Of bytes that end within a number nothing is got. -/
theorem get_sh (x : ByteArray) (p u : Nat) (hu : u < 18446744073709551616) (hx : x.size ≤ 100000) : ∀ d j, j + d = 9 → (j = 0 ∨ 1 ≤ u / 128 ^ j) → p + j ≤ x.size → x.size < p + j + (enc7 (u / 128 ^ j)).length → AtB x (p + j) (x.size - (p + j)) (enc7 (u / 128 ^ j)) →
    Ev (fun k => impl_getNum.l0 k x (p : Int) ((u % 128 ^ j : Nat) : Int) (j : Int)) (0, 0, 4) := by
  have now : ∀ (j : Nat) (acc : Int), j ≤ 9 → x.size = p + j → Ev (fun k => impl_getNum.l0 k x (p : Int) acc (j : Int)) (0, 0, 4) := by
    intro j acc hj hs
    refine ev_succ ?_
    have e1 : wrap64 ((x.size : Int) - j) = (x.size : Int) - j := w64 (by omega) (by omega)
    simp only [impl_getNum.l0, e1, if_pos (show (j : Int) < 10 by omega), if_pos (show (p : Int) ≥ (x.size : Int) - j by omega)]
    exact Ev.now _
  intro d
  induction d with
  | zero =>
    intro j hd hz hp hl hb
    obtain rfl : j = 9 := by omega
    have := nine u hu
    have en : enc7 (u / 128 ^ 9) = [((u / 128 ^ 9 : Nat) : Int)] := by rw [enc7, if_pos (by omega)]
    rw [en] at hl
    simp only [List.length_cons, List.length_nil] at hl
    exact now 9 _ (by omega) (by omega)
  | succ d ih =>
    intro j hd hz hp hl hb
    by_cases hs : x.size = p + j
    · exact now j _ (by omega) hs
    by_cases hv : u / 128 ^ j < 128
    · have en : enc7 (u / 128 ^ j) = [((u / 128 ^ j : Nat) : Int)] := by rw [enc7, if_pos hv]
      rw [en] at hl
      simp only [List.length_cons, List.length_nil] at hl
      omega
    · have hlt : u % 128 ^ j < 128 ^ j := Nat.mod_lt _ (Nat.pow_pos (by omega))
      have en : enc7 (u / 128 ^ j) = ((u / 128 ^ j % 128 + 128 : Nat) : Int) :: enc7 (u / 128 ^ (j + 1)) := by rw [enc7, if_neg hv, step_div]
      rw [en] at hl hb
      simp only [List.length_cons] at hl
      rw [show x.size - (p + j) = (x.size - (p + (j + 1))) + 1 by omega] at hb
      obtain ⟨hb0, hb1⟩ := atB_cons hb
      have em : (u / 128 ^ j % 128 + 128) % 128 = u / 128 ^ j % 128 := by omega
      have es : u % 128 ^ j + 128 ^ j * ((u / 128 ^ j % 128 + 128) % 128) = u % 128 ^ (j + 1) := by rw [em, Nat.mod_pow_succ]
      have hle : u % 128 ^ (j + 1) ≤ u := Nat.mod_le _ _
      refine get_round x p j (u / 128 ^ j % 128 + 128) _ _ hx (by omega) (by omega) hb0 (by omega) (by omega) ?_
      refine get_more x p j _ _ _ (by omega) (by omega) (by omega) hlt (by rw [es]; omega) ?_
      rw [es]
      exact ih (j + 1) (by omega) (Or.inr (by rw [step_div]; omega)) (by omega) (by omega) (by rw [← Nat.add_assoc]; exact hb1)
theorem getN_short (x : ByteArray) (p u : Nat) (hu : u < 18446744073709551616) (hx : x.size ≤ 20000) (hp : p ≤ x.size) (hl : x.size < p + (enc7 u).length) (hb : AtB x p (x.size - p) (enc7 u)) : Ev (fun k => impl_getNum.f k x (p : Int)) (0, 0, 4) := by
  have g := get_sh x p u hu (by omega) 9 0 (by omega) (Or.inl rfl) (by omega) (by rw [Nat.pow_zero, Nat.div_one]; omega) (by rw [Nat.pow_zero, Nat.div_one, Nat.add_zero]; exact hb)
  rw [Nat.pow_zero, Nat.mod_one] at g
  simp only [impl_getNum.f, if_neg (show ¬ (p : Int) < 0 by omega)]
  exact g
theorem ext_bt {x y : ByteArray} (hs : x.size = y.size) (h : ∀ i : Nat, i < x.size → bt x (i : Int) = bt y (i : Int)) : x = y := by
  apply ByteArray.ext
  refine Array.ext hs (fun i h1 h2 => ?_)
  have e := h i h1
  rw [bt_nat x i h1, bt_nat y i h2] at e
  exact UInt8.toNat_inj.mp (Int.ofNat.inj e)
theorem bt_ext (a : ByteArray) (p e i : Nat) (h : p + i < e) (h2 : e ≤ a.size) : bt (a.extract p e) (i : Int) = bt a ((p + i : Nat) : Int) := by
  rw [bt_nat _ i (by rw [ByteArray.size_extract]; omega), bt_nat _ (p + i) (by omega), ByteArray.getElem_extract]
/-- The bytes of a record. -/
def nB (s : ByteArray) : List Int := enc7 (fold64 (s.size : Int))
def sB (s : ByteArray) : Int := sumF (putB s.size ++ s) 0 7
def cB (s : ByteArray) : List Int := enc7 (fold64 (sB s))
def hB (s : ByteArray) : Nat := (nB s).length + (cB s).length
section
variable (s : ByteArray) (h1 : s.size ≤ 10000)
theorem sB_range : 0 ≤ sB s ∧ sB s < 4294967291 := sumF_range _ _ 0 7 rfl (by omega) (by omega)
include h1
theorem nB_ok : fold64 (s.size : Int) < 18446744073709551616 := fold64_lt (by omega) (by omega)
theorem nB_len : (nB s).length ≤ 10 := enc7_len10 (nB_ok s h1)
omit h1 in
theorem cB_ok : fold64 (sB s) < 18446744073709551616 := fold64_lt (by have := sB_range s; omega) (by have := sB_range s; omega)
omit h1 in
theorem cB_len : (cB s).length ≤ 10 := enc7_len10 (cB_ok s)
omit h1 in
theorem recB_is : recB s = (strOfNums (nB s) ++ strOfNums (cB s)) ++ s := rfl
omit h1 in
theorem recB_size : (recB s).size = hB s + s.size := by
  rw [recB_is, ByteArray.size_append, ByteArray.size_append, nums_size, nums_size]; rfl
theorem recB_n (i : Nat) (h : i < (nB s).length) : bt (recB s) (i : Int) = (nB s).getD i 0 := by
  have z : (strOfNums (nB s)).size = (nB s).length := nums_size _
  rw [recB_is, bt_left _ _ i (by rw [ByteArray.size_append]; omega), bt_left _ _ i (by omega)]
  exact bt_nums _ (enc7_bytes 9 _ (by have := nB_ok s h1; omega)) i h
omit h1 in
theorem recB_c (i : Nat) (h : i < (cB s).length) : bt (recB s) (((nB s).length + i : Nat) : Int) = (cB s).getD i 0 := by
  have z : (strOfNums (nB s)).size = (nB s).length := nums_size _
  have z2 : (strOfNums (cB s)).size = (cB s).length := nums_size _
  rw [recB_is, bt_left _ _ _ (by rw [ByteArray.size_append]; omega)]
  have := bt_right (strOfNums (nB s)) (strOfNums (cB s)) i (by omega)
  rw [z] at this
  rw [this]
  exact bt_nums _ (enc7_bytes 9 _ (by have := cB_ok s; omega)) i h
omit h1 in
theorem recB_b (i : Nat) (h : i < s.size) : bt (recB s) ((hB s + i : Nat) : Int) = bt s (i : Int) := by
  have z : (strOfNums (nB s) ++ strOfNums (cB s)).size = hB s := by rw [ByteArray.size_append, nums_size, nums_size]; rfl
  have := bt_right (strOfNums (nB s) ++ strOfNums (cB s)) s i h
  rw [z] at this
  rw [recB_is]; exact this
end
theorem in_is (a b c : Int) : impl_in.f a b c = some (decide (b ≤ a ∧ a ≤ c)) := by
  unfold impl_in.f
  by_cases h : b ≤ a
  · rw [if_pos h]; congr 1; simp [h]
  · rw [if_neg h]; simp [h]
/-- So many bytes of a text from p on are those of a record. -/
def RecAt (X : ByteArray) (p : Nat) (s : ByteArray) (m : Nat) : Prop := ∀ i : Nat, i < m → bt X ((p + i : Nat) : Int) = bt (recB s) (i : Int)
section
variable (X : ByteArray) (p : Nat) (s : ByteArray) (m : Nat) (hX : X.size ≤ 20000) (h0 : 1 ≤ s.size) (h1 : s.size ≤ 10000) (hr : RecAt X p s m)
include h1 hr
theorem at_n (q : Nat) (hq : q ≤ m) (hq2 : q ≤ (nB s).length) : AtB X p q (nB s) := fun i hi => by
  rw [hr i (by omega), recB_n s h1 i (by omega)]
omit h1 in
theorem at_c (q : Nat) (hq : (nB s).length + q ≤ m) (hq2 : q ≤ (cB s).length) : AtB X (p + (nB s).length) q (cB s) := fun i hi => by
  rw [Nat.add_assoc, hr ((nB s).length + i) (by omega), recB_c s i (by omega)]
include hX
theorem first_ok (hm : (nB s).length ≤ m) (hp : p + (nB s).length ≤ X.size) : Ev (fun k => impl_getNum.f k X (p : Int)) ((s.size : Int), ((p + (nB s).length : Nat) : Int), 0) := by
  have g := getN_ok X p (fold64 (s.size : Int)) (nB_ok s h1) hX hp (at_n X p s m h1 hr _ hm (Nat.le_refl _))
  rw [unF_fold _ (by omega) (by omega)] at g
  exact g
omit h1 in
theorem second_ok (hm : hB s ≤ m) (hp : p + hB s ≤ X.size) : Ev (fun k => impl_getNum.f k X ((p + (nB s).length : Nat) : Int)) (sB s, ((p + hB s : Nat) : Int), 0) := by
  have hr0 := sB_range s
  unfold hB at hm hp ⊢
  have g := getN_ok X (p + (nB s).length) (fold64 (sB s)) (cB_ok s) hX (by have : (enc7 (fold64 (sB s))).length = (cB s).length := rfl; omega) (at_c X p s m hr _ hm (Nat.le_refl _))
  rw [unF_fold _ (by omega) (by omega), Nat.add_assoc] at g
  exact g
include h0
/-- A text that ends within a record. -/
theorem rec_short (hm : X.size = p + m) (hm2 : m < (recB s).size) : Ev (fun k => impl_record.f k X (p : Int)) (⟨#[]⟩, 0, 4) := by
  have hz := recB_size s
  simp only [impl_record.f, in_is]
  by_cases c1 : m < (nB s).length
  · have g := getN_short X p (fold64 (s.size : Int)) (nB_ok s h1) hX (by omega) (by have : (enc7 (fold64 (s.size : Int))).length = (nB s).length := rfl; omega) (at_n X p s m h1 hr _ (by omega) (by omega))
    exact Ev.bind g (ev_neg (by decide) (Ev.now _))
  refine Ev.bind (first_ok X p s m hX h1 hr (by omega) (by omega)) (ev_pos rfl ?_)
  simp only [Option.bind_some]
  refine ev_pos (decide_eq_true (by omega)) ?_
  by_cases c2 : m < hB s
  · have hh : hB s = (nB s).length + (cB s).length := rfl
    have g := getN_short X (p + (nB s).length) (fold64 (sB s)) (cB_ok s) hX (by omega) (by have : (enc7 (fold64 (sB s))).length = (cB s).length := rfl; omega) (at_c X p s m hr _ (by omega) (by omega))
    exact Ev.bind g (ev_neg (by decide) (Ev.now _))
  refine Ev.bind (second_ok X p s m hX hr (by omega) (by omega)) (ev_pos rfl ?_)
  simp only [w64 (a := ((p + hB s : Nat) : Int) + (s.size : Int)) (by omega) (by omega)]
  exact ev_pos (show ((p + hB s : Nat) : Int) + (s.size : Int) > (X.size : Int) by omega) (Ev.now _)
/-- A record of which the head is as it was put: its body's sum tells. -/
theorem rec_head (hm : hB s ≤ m) (hp : p + (recB s).size ≤ X.size) (B : ByteArray) (hB2 : X.extract (p + hB s) (p + (recB s).size) = B) (R : ByteArray × Int × Int)
    (hR : R = if sumF (putB s.size ++ B) 0 7 = sB s then (B, ((p + (recB s).size : Nat) : Int), 0) else (⟨#[]⟩, 0, 5)) : Ev (fun k => impl_record.f k X (p : Int)) R := by
  have hz := recB_size s
  have hh : hB s = (nB s).length + (cB s).length := rfl
  have hN : X.extract p (p + (nB s).length) = putB s.size := by
    refine ext_bt ?_ (fun i hi => ?_)
    · rw [ByteArray.size_extract]; show _ = (strOfNums (nB s)).size; rw [nums_size]; omega
    · rw [ByteArray.size_extract] at hi
      rw [bt_ext X p _ i (by omega) (by omega), hr i (by omega), recB_n s h1 i (by omega)]
      exact (bt_nums _ (enc7_bytes 9 _ (by have := nB_ok s h1; omega)) i (show i < (nB s).length by omega)).symm
  have hBs : B.size = s.size := by rw [← hB2, ByteArray.size_extract]; omega
  have hPs : (putB (s.size : Int)).size = (nB s).length := nums_size _
  have hnl := nB_len s h1
  simp only [impl_record.f, in_is]
  refine Ev.bind (first_ok X p s m hX h1 hr (by omega) (by omega)) (ev_pos rfl ?_)
  simp only [Option.bind_some]
  refine ev_pos (decide_eq_true (by omega)) (Ev.bind (second_ok X p s m hX hr (by omega) (by omega)) (ev_pos rfl ?_))
  have ew : wrap64 (((p + hB s : Nat) : Int) + (s.size : Int)) = ((p + (recB s).size : Nat) : Int) := by rw [w64 (by omega) (by omega)]; omega
  simp only [ew, Int.toNat_natCast, hN, hB2]
  clear ew   -- omega goes astray over it
  have k1 : ¬ ((p + (recB s).size : Nat) : Int) > (X.size : Int) := by omega
  have k2 : (0 : Int) ≤ ((p + hB s : Nat) : Int) := by omega
  have k3 : ((p + hB s : Nat) : Int) ≤ ((p + (recB s).size : Nat) : Int) := by omega
  have k4 : ((p + (recB s).size : Nat) : Int) ≤ (X.size : Int) := by omega
  have k5 : (0 : Int) ≤ (p : Int) := by omega
  have k6 : (p : Int) ≤ ((p + (nB s).length : Nat) : Int) := by omega
  have k7 : ((p + (nB s).length : Nat) : Int) ≤ (X.size : Int) := by omega
  have k8 : (putB (s.size : Int)).size + B.size ≤ 9223372036854775807 := by omega
  refine ev_neg k1 ?_
  refine ev_pos k2 ?_
  refine ev_pos k3 (ev_pos k4 (ev_pos k5 (ev_pos k6 (ev_pos k7 ?_))))
  refine ev_pos k8 ?_
  refine Ev.bind (impl_sum_ev _ (by rw [ByteArray.size_append]; omega)) ?_
  by_cases c : sumF (putB s.size ++ B) 0 7 = sB s
  · rw [if_pos c] at hR; rw [hR]; exact ev_pos c (Ev.now _)
  · rw [if_neg c] at hR; rw [hR]; exact ev_neg c (Ev.now _)
theorem rec_ok (hm : (recB s).size ≤ m) (hp : p + (recB s).size ≤ X.size) : Ev (fun k => impl_record.f k X (p : Int)) (s, ((p + (recB s).size : Nat) : Int), 0) := by
  have hz := recB_size s
  have e : X.extract (p + hB s) (p + (recB s).size) = s := by
    refine ext_bt ?_ (fun i hi => ?_)
    · rw [ByteArray.size_extract]; omega
    · rw [ByteArray.size_extract] at hi
      rw [bt_ext X _ _ i (by omega) (by omega), Nat.add_assoc, hr _ (by omega), recB_b s i (by omega)]
  exact rec_head X p s m hX h0 h1 hr (by omega) hp s e _ (if_pos (show sumF (putB s.size ++ s) 0 7 = sB s from rfl)).symm
end
/-- A right record, and what comes of the text behind it. -/
theorem recs_two (a Y : ByteArray) (a0 : 1 ≤ a.size) (a1 : a.size ≤ 10000) (hs : (recB a).size + Y.size ≤ 20000) (hY : 1 ≤ Y.size) (b : ByteArray) (e c : Int)
    (h : Ev (fun k => impl_record.f k (recB a ++ Y) ((recB a).size : Int)) (b, e, c)) (he : c = 0 → e = (((recB a).size + Y.size : Nat) : Int)) :
    Ev (fun k => impl_RecsOf.f k (recB a ++ Y)) (if c = 0 then ([a, b], (((recB a).size + Y.size : Nat) : Int), 0) else ([a], ((recB a).size : Int), c)) := by
  have hz : (recB a ++ Y).size = (recB a).size + Y.size := ByteArray.size_append
  have r1 : 1 ≤ (recB a).size := by rw [recB_size]; omega
  simp only [impl_RecsOf.f]
  refine ev_neg (by omega) (ev_succ ?_)
  simp only [impl_RecsOf.l0]
  have g := rec_ok (recB a ++ Y) 0 a (recB a).size (by omega) a0 a1 (fun i hi => by rw [Nat.zero_add]; exact bt_left _ _ i hi) (Nat.le_refl _) (by omega)
  rw [Nat.zero_add] at g
  refine ev_pos (show (0 : Int) < ((recB a ++ Y).size : Int) by omega) (Ev.bind g (ev_pos rfl (ev_pos (by decide) (ev_succ ?_))))
  simp only [impl_RecsOf.l0, List.nil_append]
  refine ev_pos (show ((recB a).size : Int) < ((recB a ++ Y).size : Int) by omega) (Ev.bind h ?_)
  by_cases hc : c = 0
  · rw [if_pos hc]
    refine ev_pos hc (ev_pos (by simp) (ev_succ ?_))
    simp only [impl_RecsOf.l0, he hc]
    refine ev_neg (by omega) ?_
    exact Ev.now _
  · rw [if_neg hc]; exact ev_neg hc (Ev.now _)
theorem sum_inj (a b c : Int) (a0 : 0 ≤ a) (a1 : a < 4294967291) (b0 : 0 ≤ b) (b1 : b < 4294967291) (h : (257 * a + c) % 4294967291 = (257 * b + c) % 4294967291) : a = b := by omega
theorem suf_ne (s s' : ByteArray) (hz : s.size = s'.size) : ∀ (d i : Nat) (n n' : Int), s.size - i = d → 0 ≤ n → n < 4294967291 → 0 ≤ n' → n' < 4294967291 → n ≠ n' → (∀ q : Nat, i ≤ q → bt s q = bt s' q) → sumF s i n ≠ sumF s' i n' := by
  intro d
  induction d with
  | zero => 
    intro i n n' hd _ _ _ _ hne _
    rw [sumF, if_neg (by omega)]
    conv => rhs; rw [sumF, if_neg (by omega)]
    exact hne
  | succ d ih =>
    intro i n n' hd h0 h1 h0' h1' hne hq
    rw [sumF, if_pos (by omega)]
    conv => rhs; rw [sumF, if_pos (by omega)]
    refine ih (i + 1) _ _ (by omega) (by omega) (by omega) (by omega) (by omega) (fun e => hne ?_) (fun q hl => hq q (by omega))
    rw [hq i (Nat.le_refl _)] at e
    exact sum_inj n n' _ h0 h1 h0' h1' e
theorem pre_ne (s s' : ByteArray) (hz : s.size = s'.size) (j : Nat) (hj : j < s.size) (hb : bt s j ≠ bt s' j) (hq : ∀ q : Nat, q ≠ j → bt s q = bt s' q) :
    ∀ (d i : Nat) (n : Int), j - i = d → i ≤ j → 0 ≤ n → n < 4294967291 → sumF s i n ≠ sumF s' i n := by
  intro d
  induction d with
  | zero =>
    intro i n hd hi h0 h1
    have hi' : i = j := by omega
    subst hi'
    rw [sumF, if_pos (by omega)]
    conv => rhs; rw [sumF, if_pos (by omega)]
    have r1 := bt_range s i
    have r2 := bt_range s' i
    exact suf_ne s s' hz _ (i + 1) _ _ rfl (by omega) (by omega) (by omega) (by omega) (by omega) (fun q hl => hq q (by omega))
  | succ d ih =>
    intro i n hd hi h0 h1
    rw [sumF, if_pos (by omega)]
    conv => rhs; rw [sumF, if_pos (by omega)]
    rw [← hq i (by omega)]
    exact ih (i + 1) _ (by omega) (by omega) (by omega) (by omega)
theorem put_len (t : ByteArray) (i x : Int) : (laws_FnRecs.put t i x).size = t.size := by
  unfold laws_FnRecs.put
  show ((t.data.toList.set _ _).toArray).size = t.data.size
  simp
theorem put_bt (t : ByteArray) (j : Nat) (hj : j < t.size) (x : Int) (x0 : 0 ≤ x) (q : Nat) : bt (laws_FnRecs.put t (j : Int) x) q = if q = j then (bt t j + (1 + x)) % 256 else bt t q := by
  have hl := laws_FnRecs.put_list t j x
  have r := bt_range t j
  by_cases hq : q < t.size
  · have h1 : q < (laws_FnRecs.put t (j : Int) x).size := by rw [put_len]; exact hq
    have e1 : bt (laws_FnRecs.put t (j : Int) x) q = (((laws_FnRecs.put t (j : Int) x).data.toList[q]'(by simpa using h1)).toNat : Int) := by
      unfold bt
      rw [Int.toNat_natCast, dif_pos h1]
      rfl
    have e2 : bt t q = ((t.data.toList[q]'(by simpa using hq)).toNat : Int) := by
      unfold bt
      rw [Int.toNat_natCast, dif_pos hq]
      rfl
    rw [e1]
    simp only [hl, List.getElem_set]
    by_cases e : j = q
    · rw [if_pos e, if_pos e.symm, UInt8.toNat_ofNat']
      omega
    · rw [if_neg e, if_neg (fun z => e z.symm), e2]
  · have h1 : ¬ q < (laws_FnRecs.put t (j : Int) x).size := by rw [put_len]; exact hq
    rw [if_neg (by omega)]
    unfold bt
    rw [Int.toNat_natCast, dif_neg h1, dif_neg hq]
theorem bytes_l0 (l : List Int) (n : Int) (hn : n ≤ 60) : ∀ (d : Nat) (i : Nat) (x5 : List Int) (a m s : Int), n.toNat - i = d → x5.length = i → i ≤ 60 → StOk l a →
    ∃ t a' m' s', Ev (fun k => spec_l01Src_bytes.l0 k n x5 i l a m s) (t, a', m', s') ∧ t.size ≤ 60 := by
  intro d
  induction d with
  | zero =>
    intro i x5 a m s hd hx hi hst
    refine ⟨strOfNums x5, a, m, s, ev_succ ?_, ?_⟩
    · simp only [spec_l01Src_bytes.l0, if_neg (show ¬ (i : Int) < n by omega)]; exact Ev.now _
    · rw [nums_size]; omega
  | succ d ih =>
    intro i x5 a m s hd hx hi hst
    obtain ⟨q, a1, m1, e1, h1, _, _⟩ := n_ok l a m s 256 hst (by omega)
    obtain ⟨t, a', m', s', e, ht⟩ := ih (i + 1) (x5 ++ [q % 256]) a1 m1 s (by omega) (by rw [List.length_append, hx]; rfl) (by omega) h1
    refine ⟨t, a', m', s', ev_succ ?_, ht⟩
    simp only [spec_l01Src_bytes.l0, if_pos (show (i : Int) < n by omega), e1, Option.bind_some, if_pos (show x5.length < 140737488355328 by omega), w64 (a := (i : Int) + 1) (by omega) (by omega)]
    exact e
theorem draw_ev (l : List Int) (hl : l.length ≤ 140737488351232) : ∃ t, Ev (fun k => spec_DrawRecBytes.f k l) t ∧ t.size ≤ 20000 := by
  obtain ⟨m, z, e, _⟩ := src_ok l hl
  obtain ⟨q, p1, m1, e1, h1, q0, q1⟩ := n_ok l 0 m z 10 (st0 l) (by omega)
  have eo : spec_l01Src_one.f l 0 m z 10 = some (q == 0, p1, m1, z) := by simp only [spec_l01Src_one.f, e1, Option.bind_some]
  by_cases hq : (q == 0) = true
  · obtain ⟨r, p2, m2, e2, h2, r0, r1⟩ := n_ok l p1 m1 z 3 h1 (by omega)
    refine ⟨strOfNums (List.replicate (9999 + r).toNat 0), ?_, by rw [nums_size, List.length_replicate]; omega⟩
    simp only [spec_DrawRecBytes.f]
    refine Ev.bind e ?_
    simp only [eo, Option.bind_some, if_pos hq, e2, w64 (a := 9999 + r) (by omega) (by omega), if_pos (show (0 : Int) ≤ 9999 + r by omega), if_pos (show (9999 + r).toNat ≤ 281474976710656 by omega)]
    exact Ev.now _
  · obtain ⟨r, p2, m2, e2, h2, r0, r1⟩ := n_ok l p1 m1 z 30 h1 (by omega)
    obtain ⟨t, a', m', s', e3, ht⟩ := bytes_l0 l r (by omega) _ 0 [] p2 m2 z rfl rfl (by omega) h2
    refine ⟨t, ?_, by omega⟩
    simp only [spec_DrawRecBytes.f, spec_l01Src_bytes.f]
    refine Ev.bind e ?_
    simp only [eo, Option.bind_some, if_neg hq, e2]
    exact Ev.bind e3 (Ev.now _)
theorem rd_byte (l : List Int) (hw : ∀ x ∈ l, (Lit.int .u8 x).wf = true) (i : Int) : 0 ≤ rd l i ∧ rd l i ≤ 255 := by
  unfold rd
  by_cases h : i.toNat < l.length
  · have hm : l.getD i.toNat 0 ∈ l := by
      rw [List.getD_eq_getElem?_getD, List.getElem?_eq_getElem h]; exact List.getElem_mem h
    have := hw _ hm
    simp only [Lit.wf, IntKind.min, IntKind.max, IntKind.signed, IntKind.bits, Bool.and_eq_true, decide_eq_true_eq, Bool.false_eq_true, if_false] at this
    omega
  · rw [List.getD_eq_getElem?_getD, List.getElem?_eq_none (by omega)]; simp
theorem lwAt_ok (l : List Int) (hw : ∀ x ∈ l, (Lit.int .u8 x).wf = true) (i n : Int) (i0 : 0 ≤ i) (n1 : n ≤ 4294967296) : ∃ r, laws_lwAt.f l i n = some r ∧ 0 ≤ r ∧ (1 ≤ n → r < n) := by
  unfold laws_lwAt.f
  by_cases c : n ≤ 1
  · rw [if_pos c]; exact ⟨0, rfl, by omega, by omega⟩
  rw [if_neg c]
  by_cases c0 : (l.length : Int) = 0
  · rw [if_pos c0]; exact ⟨0, rfl, by omega, by omega⟩
  rw [if_neg c0]
  have t0 : 0 ≤ Int.tmod i (l.length : Int) := Int.tmod_nonneg _ i0
  have t1 : Int.tmod i (l.length : Int) < (l.length : Int) := by rw [tmod_pos i0]; exact Int.emod_lt_of_pos _ (by omega)
  rw [if_pos t0, if_pos t1, if_neg (show ¬ n = 0 by omega)]
  have hr := rd_byte l hw (Int.tmod i (l.length : Int))
  rw [w64 (by omega) (by omega), tmod_pos hr.1]
  exact ⟨_, rfl, Int.emod_nonneg _ (by omega), fun _ => Int.emod_lt_of_pos _ (by omega)⟩
def recF (s : ByteArray) : ByteArray := if 1 ≤ s.size ∧ s.size ≤ 10000 then recB s else ⟨#[]⟩
theorem recF_ne {s : ByteArray} (h : ¬ (recF s).toList = ([] : List UInt8)) : (1 ≤ s.size ∧ s.size ≤ 10000) ∧ recF s = recB s := by
  unfold recF at h ⊢
  by_cases c : 1 ≤ s.size ∧ s.size ≤ 10000
  · rw [if_pos c]; exact ⟨c, rfl⟩
  · rw [if_neg c] at h; exact absurd (by rw [ByteArray.toList_eq]) h
theorem spec_any (s : ByteArray) : Ev (fun k => spec_RecBytes.f k s) (recF s) := by
  unfold recF
  by_cases c : 1 ≤ s.size ∧ s.size ≤ 10000
  · rw [if_pos c]; exact spec_rec_ev s c.1 c.2
  rw [if_neg c]
  by_cases h3 : (s.size : Int) < 1
  · simp only [spec_RecBytes.f, if_pos h3]
    refine ev_succ ?_
    simp only [spec_RecBytes.j0, if_true]; exact Ev.now _
  · simp only [spec_RecBytes.f, if_neg h3, decide_eq_true (show (s.size : Int) > 10000 by omega)]
    refine ev_succ ?_
    simp only [spec_RecBytes.j0, if_true]; exact Ev.now _
theorem impl_any (s : ByteArray) : Ev (fun k => impl_RecBytes.f k s) (recF s) := by
  unfold recF
  by_cases c : 1 ≤ s.size ∧ s.size ≤ 10000
  · rw [if_pos c]; exact impl_rec_ev s c.1 c.2
  rw [if_neg c]
  simp only [impl_RecBytes.f, in_is, Option.bind_some, decide_eq_false (show ¬ ((1 : Int) ≤ (s.size : Int) ∧ (s.size : Int) ≤ 10000) by omega), Bool.false_eq_true, if_false]
  exact Ev.now _
section
variable (a b : ByteArray) (a0 : 1 ≤ a.size) (a1 : a.size ≤ 10000) (b0 : 1 ≤ b.size) (b1 : b.size ≤ 10000) (hab : a.size + b.size ≤ 15000)
include a0 a1 b0 b1 hab
theorem two_size : (recB a).size + (recB b).size ≤ 15040 ∧ 1 ≤ (recB a).size ∧ hB b < (recB b).size ∧ b.size ≤ (recB b).size := by
  have ha := recB_size a
  have hb := recB_size b
  have h1 := nB_len a a1
  have h2 := nB_len b b1
  have h3 := cB_len a
  have h4 := cB_len b
  have h5 : hB a = (nB a).length + (cB a).length := rfl
  have h6 : hB b = (nB b).length + (cB b).length := rfl
  omega
theorem recs_both : Ev (fun k => impl_RecsOf.f k (recB a ++ recB b)) ([a, b], (((recB a).size + (recB b).size : Nat) : Int), 0) := by
  have hs := two_size a b a0 a1 b0 b1 hab
  have hz : (recB a ++ recB b).size = (recB a).size + (recB b).size := ByteArray.size_append
  have g := recs_two a (recB b) a0 a1 (by omega) (by omega) b _ 0 (rec_ok (recB a ++ recB b) (recB a).size b (recB b).size (by omega) b0 b1 (fun i hi => bt_right _ _ i hi) (Nat.le_refl _) (by omega)) (fun _ => rfl)
  rw [if_pos rfl] at g
  exact g
theorem recs_short (m : Nat) (m0 : 1 ≤ m) (m1 : m < (recB b).size) : Ev (fun k => impl_RecsOf.f k (recB a ++ (recB b).extract 0 m)) ([a], ((recB a).size : Int), 4) := by
  have hs := two_size a b a0 a1 b0 b1 hab
  have hy : ((recB b).extract 0 m).size = m := by rw [ByteArray.size_extract]; omega
  have hz : (recB a ++ (recB b).extract 0 m).size = (recB a).size + m := by rw [ByteArray.size_append, hy]
  have g := recs_two a ((recB b).extract 0 m) a0 a1 (by omega) (by omega) ⟨#[]⟩ 0 4 (rec_short _ (recB a).size b m (by omega) b0 b1 (fun i hi => by
    rw [bt_right _ _ i (by omega)]; exact bt_extract _ m i hi (by omega)) hz m1) (fun h => absurd h (by decide))
  rw [if_neg (by decide)] at g
  exact g
theorem recs_bad (j : Nat) (x : Int) (hj : hB b ≤ j) (hj2 : j < (recB b).size) (x0 : 0 ≤ x) (x1 : x < 255) : Ev (fun k => impl_RecsOf.f k (recB a ++ laws_FnRecs.put (recB b) (j : Int) x)) ([a], ((recB a).size : Int), 5) := by
  have hs := two_size a b a0 a1 b0 b1 hab
  have hrb := recB_size b
  have hy := put_len (recB b) (j : Int) x
  have hpb := put_bt (recB b) j hj2 x x0
  generalize hY : laws_FnRecs.put (recB b) (j : Int) x = Y at hy hpb ⊢
  have hz : (recB a ++ Y).size = (recB a).size + Y.size := ByteArray.size_append
  have g := rec_head (recB a ++ Y) (recB a).size b (hB b) (by omega) b0 b1 (fun i hi => by
    rw [bt_right _ _ i (by omega), hpb i, if_neg (by omega)]) (Nat.le_refl _) (by omega) _ rfl _ rfl
  have hB' : ∀ i : Nat, i < b.size → bt ((recB a ++ Y).extract ((recB a).size + hB b) ((recB a).size + (recB b).size)) (i : Int) = bt Y ((hB b + i : Nat) : Int) := fun i hi => by
    rw [bt_ext _ _ _ i (by omega) (by omega), Nat.add_assoc, bt_right _ _ _ (by omega)]
  have hBz : ((recB a ++ Y).extract ((recB a).size + hB b) ((recB a).size + (recB b).size)).size = b.size := by rw [ByteArray.size_extract]; omega
  generalize (recB a ++ Y).extract ((recB a).size + hB b) ((recB a).size + (recB b).size) = B at g hB' hBz
  have hP : (putB (b.size : Int)).size = (nB b).length := nums_size _
  have hne : sumF (putB b.size ++ B) 0 7 ≠ sB b := by
    have z1 : (putB (b.size : Int) ++ B).size = (nB b).length + b.size := by rw [ByteArray.size_append]; omega
    have z2 : (putB (b.size : Int) ++ b).size = (nB b).length + b.size := by rw [ByteArray.size_append]; omega
    have rb := bt_range (recB b) (j : Int)
    obtain ⟨t, rfl⟩ : ∃ t, j = hB b + t := ⟨j - hB b, by omega⟩
    have hr : ∀ q : Nat, q < b.size → bt (putB (b.size : Int) ++ B) (((nB b).length + q : Nat) : Int) = bt Y ((hB b + q : Nat) : Int) := fun q hq => by
      have := bt_right (putB (b.size : Int)) B q (by omega)
      rw [hP] at this
      rw [this, hB' q hq]
    have hr2 : ∀ q : Nat, q < b.size → bt (putB (b.size : Int) ++ b) (((nB b).length + q : Nat) : Int) = bt (recB b) ((hB b + q : Nat) : Int) := fun q hq => by
      have := bt_right (putB (b.size : Int)) b q hq
      rw [hP] at this
      rw [this, recB_b b q hq]
    refine pre_ne _ _ (by omega) ((nB b).length + t) (by omega) ?_ ?_ _ 0 7 rfl (by omega) (by omega) (by omega)
    · rw [hr t (by omega), hr2 t (by omega), hpb, if_pos rfl]; omega
    · intro q hq
      by_cases c : q < (nB b).length
      · rw [bt_left _ _ q (by omega), bt_left _ _ q (by omega)]
      · obtain ⟨u, rfl⟩ : ∃ u, q = (nB b).length + u := ⟨q - (nB b).length, by omega⟩
        by_cases c2 : u < b.size
        · rw [hr u c2, hr2 u c2, hpb, if_neg (by omega)]
        · unfold bt
          rw [Int.toNat_natCast, dif_neg (by omega), dif_neg (by omega)]
  rw [if_neg hne] at g
  have g2 := recs_two a Y a0 a1 (by omega) (by omega) ⟨#[]⟩ 0 5 g (fun h => absurd h (by decide))
  rw [if_neg (by decide)] at g2
  exact g2
theorem tail_ok (l0 : List Int) (hw : ∀ x ∈ l0, (Lit.int .u8 x).wf = true) : Ev (fun k => laws_FnRecs.tl k l0 a b (recB a) (recB b)) true := by
  have hs := two_size a b a0 a1 b0 b1 hab
  have hrb := recB_size b
  obtain ⟨i, ei, i0, i1⟩ := lwAt_ok l0 hw 0 (b.size : Int) (by omega) (by omega)
  obtain ⟨x, ex, x0, x1⟩ := lwAt_ok l0 hw 1 255 (by omega) (by omega)
  have i2 := i1 (by omega)
  have x2 := x1 (by omega)
  simp only [laws_FnRecs.tl, ei, ex, Option.bind_some]
  refine ev_pos ⟨i0, by omega, x0, by omega, by omega⟩ ?_
  obtain ⟨j, hj⟩ : ∃ j : Nat, ((recB b).size : Int) - 1 - i = (j : Int) := ⟨(((recB b).size : Int) - 1 - i).toNat, by omega⟩
  rw [hj]
  refine Ev.bind (recs_bad a b a0 a1 b0 b1 hab j x (by omega) (by omega) x0 x2) ?_
  exact ev_pos ⟨rfl, rfl⟩ (Ev.now _)
end
theorem FnRecs : laws_FnRecs.Pure := by
  intro l0 l1 h0 h1
  have a3 := h0.2
  have b3 := h1.2
  refine Ev.rounds (g := fun k => laws_FnRecs.f k l0 l1) ?_
  have jt : Ev (fun k => laws_FnRecs.j0 k l0 l1 true) true := ev_succ (by simp only [laws_FnRecs.j0, if_true]; exact Ev.now _)
  simp only [laws_FnRecs.f]
  by_cases c0 : (l0.length : Int) > 1048576
  · exact ev_pos c0 jt
  refine ev_neg c0 ?_
  by_cases c1 : (l1.length : Int) > 1048576
  · rw [decide_eq_true c1]; exact jt
  rw [decide_eq_false c1]
  obtain ⟨a, ea, ha⟩ := draw_ev l0 (by omega)
  obtain ⟨b, eb, hb⟩ := draw_ev l1 (by omega)
  have j1t : Ev (fun k => laws_FnRecs.j1 k l0 l1 a b true) true := ev_succ (by
    simp only [laws_FnRecs.j1, if_true]
    refine Ev.bind (impl_any a) (Ev.bind (spec_any a) ?_)
    simp only [beq_self_eq_true]
    exact Ev.now _)
  refine ev_succ ?_
  simp only [laws_FnRecs.j0, Bool.false_eq_true, if_false]
  refine Ev.bind ea (Ev.bind eb (Ev.bind (spec_any a) ?_))
  by_cases na : (recF a).toList = ([] : List UInt8)
  · exact ev_pos na j1t
  refine ev_neg na (Ev.bind (spec_any b) ?_)
  by_cases nb : (recF b).toList = ([] : List UInt8)
  · exact ev_pos nb j1t
  refine ev_neg nb ?_
  rw [w64 (a := (a.size : Int) + (b.size : Int)) (by omega) (by omega)]
  by_cases cs : (a.size : Int) + (b.size : Int) > 15000
  · rw [decide_eq_true cs]; exact j1t
  rw [decide_eq_false cs]
  obtain ⟨ka, ra⟩ := recF_ne na
  obtain ⟨kb, rb⟩ := recF_ne nb
  have hs := two_size a b ka.1 ka.2 kb.1 kb.2 (by omega)
  have tl := tail_ok a b ka.1 ka.2 kb.1 kb.2 (by omega) l0 a3
  have ia := impl_rec_ev a ka.1 ka.2
  have ib := impl_rec_ev b kb.1 kb.2
  have both := recs_both a b ka.1 ka.2 kb.1 kb.2 (by omega)
  refine ev_succ ?_
  simp only [laws_FnRecs.j1, Bool.false_eq_true, if_false]
  refine Ev.bind ia (Ev.bind ib (ev_pos (by omega) (Ev.bind both ?_)))
  have wt : wrap64 (((recB a).size : Int) + ((recB b).size : Int)) = (((recB a).size + (recB b).size : Nat) : Int) := by rw [w64 (by omega) (by omega)]; omega
  refine ev_pos rfl (ev_pos rfl (ev_pos (by simp) (ev_pos rfl (ev_pos (by simp) (ev_pos rfl ?_)))))
  simp only [wt, bne_self_eq_false]
  clear wt
  refine ev_succ ?_
  simp only [laws_FnRecs.j2, Bool.false_eq_true, if_false]
  obtain ⟨p0, e0, u0, v0⟩ := lwAt_ok l1 b3 0 256 (by omega) (by omega)
  obtain ⟨p1, e1, u1, v1⟩ := lwAt_ok l1 b3 1 256 (by omega) (by omega)
  have v0' := v0 (by omega)
  have v1' := v1 (by omega)
  simp only [e0, e1, Option.bind_some]
  refine ev_neg (show ¬ ((recB b).size : Int) = 0 by omega) ?_
  obtain ⟨m, hm, m0, m1⟩ : ∃ m : Nat, wrap64 (1 + Int.tmod (wrap64 (wrap64 (p0 * 256) + p1)) ((recB b).size : Int)) = (m : Int) ∧ 1 ≤ m ∧ m ≤ (recB b).size := by
    have d0 := Int.emod_nonneg (p0 * 256 + p1) (show ((recB b).size : Int) ≠ 0 by omega)
    have d1 := Int.emod_lt_of_pos (p0 * 256 + p1) (show (0 : Int) < ((recB b).size : Int) by omega)
    refine ⟨(1 + (p0 * 256 + p1) % ((recB b).size : Int)).toNat, ?_, by omega, by omega⟩
    rw [w64 (a := p0 * 256) (by omega) (by omega), w64 (a := p0 * 256 + p1) (by omega) (by omega), tmod_pos (by omega), w64 (by omega) (by omega)]
    omega
  simp only [hm, Int.toNat_natCast]
  clear hm
  by_cases cm : (m : Int) < ((recB b).size : Int)
  · have hx : ((recB b).extract 0 m).size = m := by rw [ByteArray.size_extract]; omega
    refine ev_pos cm (ev_pos (by omega) (ev_pos (by omega) (ev_pos (by omega) (Ev.bind (recs_short a b ka.1 ka.2 kb.1 kb.2 (by omega) m m0 (by omega)) ?_))))
    refine ev_pos rfl (ev_pos rfl ?_)
    simp only [bne_self_eq_false]
    refine ev_succ ?_
    simp only [laws_FnRecs.j3, Bool.false_eq_true, if_false]
    exact tl
  · exact ev_neg cm tl

end Go.Proofs.Ytppeloepaihckaa.Pure
