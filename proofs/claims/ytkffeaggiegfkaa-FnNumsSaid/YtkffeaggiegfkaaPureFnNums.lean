/- A drawn number, put, is the reference's bytes, from one byte to ten; amid other bytes it is got back; without its last byte it is too short. No condition beyond the row's own. -/
import Derived.Test.YtkffeaggiegfkaaPFnNumsx3
import Derived.Test.YtkffeaggiegfkaaQLib
namespace Go.Proofs.Ytkffeaggiegfkaa.Pure
set_option linter.unusedSimpArgs false
set_option linter.unusedVariables false
open Go.RowKit Go.Proofs.Ytkffeaggiegfkaa.PFnNums Go.Proofs.YtkffeaggiegfkaaW.PrintWords Go.Proofs.YtkffeaggiegfkaaW.PrintLast Go.Proofs.YtkffeaggiegfkaaW.PrintMore
open Go.Proofs.Ytkffeaggiegfkaa.Q
/-- The place that a source has come to lies in its bytes. -/
def StOk (l : List Int) (a : Int) : Prop := 0 ≤ a ∧ a ≤ l.length
theorem told_range (v m most : Int) (h0 : 1 < most) (h1 : most ≤ 9223372036854775807) : 0 ≤ spec_l01Src_n.toldF v m most ∧ spec_l01Src_n.toldF v m most < most := by
  unfold spec_l01Src_n.toldF
  rw [u64w, tmod_pos (by omega)]
  have a := Int.emod_nonneg ((v + m / 1048576) % 18446744073709551616) (show most ≠ 0 by omega)
  have b := Int.emod_lt_of_pos ((v + m / 1048576) % 18446744073709551616) (show 0 < most by omega)
  rw [w64 (by omega) (by omega)]
  exact ⟨a, b⟩
/-- A number below most is drawn. -/
theorem n_ok (l : List Int) (a m s most : Int) (hst : StOk l a) (h1 : most ≤ 9223372036854775807) :
    ∃ r a' m', spec_l01Src_n.f l a m s most = some (r, a', m', s) ∧ StOk l a' ∧ 0 ≤ r ∧ (r < most ∨ r = 0) := by
  unfold spec_l01Src_n.f StOk at *
  by_cases c1 : most ≤ 1
  · rw [if_pos c1]; exact ⟨_, _, _, rfl, hst, by omega, Or.inr rfl⟩
  · rw [if_neg c1, if_pos h1]
    by_cases c2 : a < (l.length : Int)
    · rw [if_pos c2, if_pos hst.1]
      have := told_range (IntKind.u64.wrap (rd l a)) (spec_l01Src_n.mixF m) most (by omega) h1
      exact ⟨_, _, _, rfl, by omega, this.1, Or.inl this.2⟩
    · rw [if_neg c2]
      have := told_range 0 (spec_l01Src_n.mixF m) most (by omega) h1
      exact ⟨_, _, _, rfl, hst, this.1, Or.inl this.2⟩
theorem src_l0 (l : List Int) (hl : l.length ≤ 140737488351232) : ∀ (d i : Nat) (m : Int), 64 - i = d → ∃ m' s, Ev (fun k => spec_l01Source.l0 k l i l 0 m 0) (l, 0, m', s) ∧ 0 ≤ s ∧ s ≤ 12 := by
  have fin : ∀ (i : Nat) (m : Int), ¬ ((i : Int) < (l.length : Int) ∧ (i : Int) < 64) → ∃ m' s, Ev (fun k => spec_l01Source.l0 k l i l 0 m 0) (l, 0, m', s) ∧ 0 ≤ s ∧ s ≤ 12 := by
    intro i m hi
    have ew : wrap64 ((l.length : Int) / 20) = (l.length : Int) / 20 := w64 (by omega) (by omega)
    by_cases h12 : (l.length : Int) / 20 > 12
    · refine ⟨m, 12, ev_succ ?_, by omega, by omega⟩
      simp only [spec_l01Source.l0, ew, if_pos h12]
      by_cases h1 : (i : Int) < (l.length : Int)
      · simp only [if_pos h1, if_neg (show ¬ (i : Int) < 64 from fun h => hi ⟨h1, h⟩)]; exact Ev.now _
      · simp only [if_neg h1]; exact Ev.now _
    · refine ⟨m, (l.length : Int) / 20, ev_succ ?_, by omega, by omega⟩
      simp only [spec_l01Source.l0, ew, if_neg h12]
      by_cases h1 : (i : Int) < (l.length : Int)
      · simp only [if_pos h1, if_neg (show ¬ (i : Int) < 64 from fun h => hi ⟨h1, h⟩)]; exact Ev.now _
      · simp only [if_neg h1]; exact Ev.now _
  intro d
  induction d with
  | zero => intro i m hd; exact fin i m (by omega)
  | succ d ih =>
    intro i m hd
    by_cases h : (i : Int) < (l.length : Int) ∧ (i : Int) < 64
    · obtain ⟨m', s, e, h0⟩ := ih (i + 1) (IntKind.u64.wrap ((Go.bits .xor .u64 m (IntKind.u64.wrap (rd l i))) * 1099511628211)) (by omega)
      refine ⟨m', s, ev_succ ?_, h0⟩
      simp only [spec_l01Source.l0, if_pos h.1, if_pos h.2, if_pos (nat0 i), wsucc (show i < l.length by omega) hl]
      exact e
    · exact fin i m h
theorem src_ok (l : List Int) (hl : l.length ≤ 140737488351232) : ∃ m s, Ev (fun k => spec_l01Source.f k l) (l, 0, m, s) ∧ 0 ≤ s ∧ s ≤ 12 := by
  simp only [spec_l01Source.f]
  exact src_l0 l hl 64 0 _ rfl
theorem st0 (l : List Int) : StOk l 0 := ⟨by omega, by omega⟩

theorem rd_all {p : Int → Prop} (l : List Int) (h : ∀ x ∈ l, p x) (i : Int) (h0 : 0 ≤ i) (h1 : i < (l.length : Int)) : p (rd l i) := by
  unfold rd
  rw [List.getD_eq_getElem?_getD, List.getElem?_eq_getElem (by omega)]
  exact h _ (List.getElem_mem _)
/-- An edge is a number of int64. -/
theorem edge_ok (l : List Int) (a m s : Int) (hst : StOk l a) : ∃ r a' m', spec_l01Src_edge.f l a m s = some (r, a', m', s) ∧ StOk l a' ∧ -9223372036854775808 ≤ r ∧ r ≤ 9223372036854775807 := by
  obtain ⟨r, a', m', e, hs, h0, h1⟩ := n_ok l a m s 14 hst (by omega)
  simp only [spec_l01Src_edge.f, Option.bind_some, e]
  rw [if_pos h0, if_pos (by simp; omega)]
  refine ⟨_, _, _, rfl, hs, ?_⟩
  exact rd_all (p := fun x => -9223372036854775808 ≤ x ∧ x ≤ 9223372036854775807) _ (by simp) _ h0 (by simp; omega)

/-- The bytes of a number from 0 on, seven bits each. -/
def enc7 (u : Nat) : List Int := if u < 128 then [(u : Int)] else ((u % 128 + 128 : Nat) : Int) :: enc7 (u / 128)
termination_by u
/-- A number of int64 made one of uint64. -/
def fold64 (a : Int) : Nat := if a < 0 then (-2 * a - 1).toNat else (2 * a).toNat
theorem fold64_lt {a : Int} (h0 : -9223372036854775808 ≤ a) (h1 : a ≤ 9223372036854775807) : fold64 a < 18446744073709551616 := by
  unfold fold64; split <;> omega

theorem spec_putnum_l0 : ∀ (d u : Nat) (acc : List Int), u < 128 ^ (d + 1) → u < 18446744073709551616 → acc.length + d ≤ 100 → Ev (fun k => spec_PutNum.l0 k (u : Int) acc) (strOfNums (acc ++ enc7 u)) := by
  intro d
  induction d with
  | zero =>
    intro u acc hu _ ha
    refine ev_succ ?_
    have hu' : u < 128 := by simpa using hu
    rw [enc7, if_pos hu']
    simp only [spec_PutNum.l0, if_neg (show ¬ (u : Int) ≥ 128 by omega), if_pos (show acc.length < 140737488355328 by omega), show (u : Int) % 256 = u by omega]
    exact Ev.now _
  | succ d ih =>
    intro u acc hu hu2 ha
    refine ev_succ ?_
    by_cases hs : u < 128
    · rw [enc7, if_pos hs]
      simp only [spec_PutNum.l0, if_neg (show ¬ (u : Int) ≥ 128 by omega), if_pos (show acc.length < 140737488355328 by omega), show (u : Int) % 256 = u by omega]
      exact Ev.now _
    · rw [enc7, if_neg hs]
      have e1 : IntKind.u64.wrap (Int.tdiv (u : Int) 128) = ((u / 128 : Nat) : Int) := by
        rw [tdiv_pos (by omega), u64in (by omega) (by omega)]; omega
      have e2 : IntKind.u64.wrap ((Int.tmod (u : Int) 128) + 128) % 256 = ((u % 128 + 128 : Nat) : Int) := by
        rw [tmod_pos (by omega), u64in (by omega) (by omega)]; omega
      simp only [spec_PutNum.l0, if_pos (show (u : Int) ≥ 128 by omega), if_pos (show acc.length < 140737488355328 by omega), e1, e2]
      have := ih (u / 128) (acc ++ [((u % 128 + 128 : Nat) : Int)]) (by rw [Nat.pow_succ] at hu; omega) (by omega) (by simp; omega)
      simpa [List.append_assoc] using this

theorem spec_PutNum_ev (a : Int) (h0 : -9223372036854775808 ≤ a) (h1 : a ≤ 9223372036854775807) : Ev (fun k => spec_PutNum.f k a) (strOfNums (enc7 (fold64 a))) := by
  have hf : spec_l01Fold.f a = some (fold64 a : Int) := by
    unfold spec_l01Fold.f fold64
    by_cases h : a < 0
    · rw [if_pos h, if_pos h, w64 (a := a + 1) (by omega) (by omega), w64 (by omega) (by omega), u64in (n := -(a + 1)) (by omega) (by omega), u64in (n := 2 * -(a + 1)) (by omega) (by omega), u64in (by omega) (by omega)]
      congr 1; omega
    · rw [if_neg h, if_neg h, u64in (n := a) (by omega) (by omega), u64in (by omega) (by omega)]
      congr 1; omega
  simp only [spec_PutNum.f, hf, Option.bind_some]
  have hl := fold64_lt h0 h1
  have := spec_putnum_l0 9 (fold64 a) [] (by omega) hl (by simp)
  simpa using this

theorem or128 (x : Int) : Go.bits .or .u8 (x % 256) 128 = x % 128 + 128 := by
  rw [u8_or _ _ (by omega) (by omega) (by omega) (by omega)]
  have h : ∀ n : Fin 256, (n.val ||| 128) = n.val % 128 + 128 := by decide +kernel
  have := h ⟨(x % 256).toNat, by omega⟩
  simp only at this
  rw [show (128 : Int).toNat = 128 from rfl, this]; omega

theorem impl_numBytes_l0 : ∀ (d u : Nat) (acc : List Int), u < 128 ^ (d + 1) → acc.length + d ≤ 100 → Ev (fun k => impl_numBytes.l0 k (u : Int) acc) (acc ++ enc7 u) := by
  intro d
  induction d with
  | zero =>
    intro u acc hu ha
    refine ev_succ ?_
    have hu' : u < 128 := by simpa using hu
    rw [enc7, if_pos hu']
    simp only [impl_numBytes.l0, if_neg (show ¬ (u : Int) > 127 by omega), if_pos (show acc.length < 140737488355328 by omega), show (u : Int) % 256 = u by omega]
    exact Ev.now _
  | succ d ih =>
    intro u acc hu ha
    refine ev_succ ?_
    by_cases hs : u < 128
    · rw [enc7, if_pos hs]
      simp only [impl_numBytes.l0, if_neg (show ¬ (u : Int) > 127 by omega), if_pos (show acc.length < 140737488355328 by omega), show (u : Int) % 256 = u by omega]
      exact Ev.now _
    · rw [enc7, if_neg hs]
      simp only [impl_numBytes.l0, if_pos (show (u : Int) > 127 by omega), if_pos (show acc.length < 140737488355328 by omega), or128, show (u : Int) % 128 + 128 = ((u % 128 + 128 : Nat) : Int) by omega, show (u : Int) / 128 = ((u / 128 : Nat) : Int) by omega]
      have := ih (u / 128) (acc ++ [((u % 128 + 128 : Nat) : Int)]) (by rw [Nat.pow_succ] at hu; omega) (by simp; omega)
      simpa [List.append_assoc] using this

theorem xor_ones (x : Nat) (h : x < 18446744073709551616) : x ^^^ 18446744073709551615 = 18446744073709551615 - x := by
  have h1 : (BitVec.ofNat 64 x ^^^ BitVec.allOnes 64).toNat = (~~~ (BitVec.ofNat 64 x)).toNat := by rw [BitVec.xor_allOnes]
  rw [BitVec.toNat_xor, BitVec.toNat_not, BitVec.toNat_ofNat, BitVec.toNat_allOnes, Nat.mod_eq_of_lt (by simpa using h)] at h1
  simpa using h1

theorem impl_fold (a : Int) (h0 : -9223372036854775808 ≤ a) (h1 : a ≤ 9223372036854775807) :
    Go.bits .xor .u64 (IntKind.u64.wrap ((IntKind.u64.wrap (a)) * 2)) (IntKind.u64.wrap (a / 9223372036854775808)) = (fold64 a : Int) := by
  rw [u64w, u64w, u64w, u64_xor _ _ (by omega) (by omega) (by omega) (by omega)]
  unfold fold64
  by_cases h : a < 0
  · rw [if_pos h, show (a / 9223372036854775808 % 18446744073709551616).toNat = 18446744073709551615 by omega, xor_ones _ (by omega)]
    omega
  · rw [if_neg h, show (a / 9223372036854775808 % 18446744073709551616).toNat = 0 by omega, Nat.xor_zero]
    omega

theorem impl_numBytes_ev (a : Int) (h0 : -9223372036854775808 ≤ a) (h1 : a ≤ 9223372036854775807) : Ev (fun k => impl_numBytes.f k a) (enc7 (fold64 a)) := by
  simp only [impl_numBytes.f, impl_fold a h0 h1]
  have hl := fold64_lt h0 h1
  have := impl_numBytes_l0 9 (fold64 a) [] (by omega) (by simp)
  simpa using this
theorem enc7_len : ∀ (d u : Nat), u < 128 ^ (d + 1) → (enc7 u).length ≤ d + 1 := by
  intro d
  induction d with
  | zero => intro u hu; rw [enc7, if_pos (by simpa using hu)]; simp
  | succ d ih =>
    intro u hu
    rw [enc7]; split
    · simp
    · have := ih (u / 128) (by rw [Nat.pow_succ] at hu; omega)
      simp; omega
theorem enc7_len10 {u : Nat} (hu : u < 18446744073709551616) : (enc7 u).length ≤ 10 := enc7_len 9 u (by omega)

theorem impl_PutNum_ev (a : Int) (h0 : -9223372036854775808 ≤ a) (h1 : a ≤ 9223372036854775807) : Ev (fun k => impl_PutNum.f k a) (strOfNums (enc7 (fold64 a))) := by
  simp only [impl_PutNum.f]
  exact Ev.bind (impl_numBytes_ev a h0 h1) (Ev.now _)
theorem nums_size (xs : List Int) : (strOfNums xs).size = xs.length := by simp [strOfNums, ByteArray.size]
theorem put_size {a : Int} (h0 : -9223372036854775808 ≤ a) (h1 : a ≤ 9223372036854775807) : (strOfNums (enc7 (fold64 a))).size ≤ 10 := by
  rw [nums_size]; exact enc7_len10 (fold64_lt h0 h1)

theorem bt_nat (s : ByteArray) (i : Nat) (h : i < s.size) : bt s ((i : Nat) : Int) = ((s[i]'h).toNat : Int) := by
  unfold bt
  rw [dif_pos (show ((i : Nat) : Int).toNat < s.size by omega)]
  simp
theorem bt_left (a b : ByteArray) (i : Nat) (h : i < a.size) : bt (a ++ b) (i : Int) = bt a (i : Int) := by
  rw [bt_nat _ i (by rw [ByteArray.size_append]; omega), bt_nat _ i h, ByteArray.getElem_append_left h]
theorem bt_right (a b : ByteArray) (i : Nat) (h : i < b.size) : bt (a ++ b) ((a.size + i : Nat) : Int) = bt b (i : Int) := by
  rw [bt_nat _ _ (by rw [ByteArray.size_append]; omega), bt_nat _ i h, ByteArray.getElem_append_right (by omega)]
  simp
theorem bt_extract (a : ByteArray) (n i : Nat) (h : i < n) (h2 : n ≤ a.size) : bt (a.extract 0 n) (i : Int) = bt a (i : Int) := by
  rw [bt_nat _ i (by rw [ByteArray.size_extract]; omega), bt_nat _ i (by omega), ByteArray.getElem_extract]
  simp
theorem bt_nums (L : List Int) (hL : ∀ c ∈ L, 0 ≤ c ∧ c < 256) (i : Nat) (h : i < L.length) : bt (strOfNums L) (i : Int) = L.getD i 0 := by
  rw [bt_nat _ i (by rw [nums_size]; exact h)]
  have hc := hL L[i] (List.getElem_mem h)
  have e : (strOfNums L)[i]'(by rw [nums_size]; exact h) = UInt8.ofNat (L[i]).toNat := by
    have q : (strOfNums L)[i]'(by rw [nums_size]; exact h) = ((L.map fun n => UInt8.ofNat n.toNat).toArray)[i]'(by rw [List.size_toArray, List.length_map]; exact h) := rfl
    rw [q, List.getElem_toArray, List.getElem_map]
  rw [e, List.getD_eq_getElem?_getD, List.getElem?_eq_getElem h, Option.getD_some]
  rw [UInt8.toNat_ofNat']
  omega
theorem enc7_bytes : ∀ (d u : Nat), u < 128 ^ (d + 1) → ∀ c ∈ enc7 u, 0 ≤ c ∧ c < 256 := by
  intro d
  induction d with
  | zero => intro u hu c hc; have hu' : u < 128 := by simpa using hu
            rw [enc7, if_pos hu'] at hc; simp at hc; omega
  | succ d ih =>
    intro u hu c hc
    rw [enc7] at hc
    split at hc
    · simp at hc; omega
    · rcases List.mem_cons.mp hc with h | h
      · omega
      · exact ih (u / 128) (by rw [Nat.pow_succ] at hu; omega) c h
/-- The first n bytes of a text from p on are a list's. -/
def AtB (x : ByteArray) (p n : Nat) (L : List Int) : Prop := ∀ i : Nat, i < n → bt x ((p + i : Nat) : Int) = L.getD i 0
theorem atB_cons {x : ByteArray} {p n : Nat} {a : Int} {L : List Int} (h : AtB x p (n + 1) (a :: L)) : bt x ((p : Nat) : Int) = a ∧ AtB x (p + 1) n L := by
  refine ⟨by simpa using h 0 (by omega), fun i hi => ?_⟩
  have := h (i + 1) (by omega)
  rw [show p + (i + 1) = p + 1 + i by omega] at this
  simpa using this
theorem bits_low (c : Nat) (h : c < 256) : Go.bits .and .u8 (c : Int) 127 = ((c % 128 : Nat) : Int) := by
  have h' : ∀ n : Fin 256, (n.val &&& 127) = n.val % 128 := by decide +kernel
  have := h' ⟨c, h⟩
  simp only at this
  have e := u8_and_nat c 127 h (by omega)
  rw [this] at e
  exact e
theorem pow7 (j : Nat) : 128 ^ j = 2 ^ (7 * j) := by rw [show (128 : Nat) = 2 ^ 7 from rfl, ← Nat.pow_mul]
theorem bits_add (acc b j : Nat) (hacc : acc < 128 ^ j) (hs : acc + 128 ^ j * b < 18446744073709551616) : Go.bits .or .u64 (acc : Int) ((128 ^ j * b : Nat) : Int) = ((acc + 128 ^ j * b : Nat) : Int) := by
  rw [u64_or_nat _ _ (by omega) (by omega)]
  rw [pow7] at hacc ⊢
  have := Nat.two_pow_add_eq_or_of_lt hacc b
  rw [Nat.or_comm, ← this, Nat.add_comm]
theorem shl_is (b j : Nat) (hj : j ≤ 9) (hb : 128 ^ j * b < 18446744073709551616) : shl .u64 (b : Int) ((7 * j : Nat) : Int) = ((128 ^ j * b : Nat) : Int) := by
  unfold shl
  rw [show min (((7 * j : Nat)) : Int).toNat IntKind.u64.bits = 7 * j from by simp only [IntKind.bits]; omega]
  have e : (b : Int) * 2 ^ (7 * j) = ((128 ^ j * b : Nat) : Int) := by
    rw [pow7, Int.natCast_mul, Int.natCast_pow, Int.mul_comm]; rfl
  rw [e, u64in (by omega) (by omega)]
/-- What getNum makes of the bits that it has gathered. -/
def unF (u : Nat) : Int := Go.bits .xor .i64 (wrap64 ((u : Int) / 2)) (wrap64 (-(wrap64 (Go.bits .and .u64 (u : Int) 1))))
theorem xor_i64 (x y : Int) : Go.bits .xor .i64 x y = wrap64 (((BitVec.ofInt 64 x ^^^ BitVec.ofInt 64 y).toNat : Nat) : Int) := i64_w _
theorem unF_fold (a : Int) (h0 : -9223372036854775808 ≤ a) (h1 : a ≤ 9223372036854775807) : unF (fold64 a) = a := by
  have hl := fold64_lt h0 h1
  have ea : Go.bits .and .u64 (fold64 a : Int) 1 = ((fold64 a % 2 : Nat) : Int) := by
    have := u64_and_nat (fold64 a) 1 hl (by omega)
    rw [Nat.and_one_is_mod] at this
    exact this
  unfold unF
  rw [ea]
  unfold fold64
  by_cases h : a < 0
  · rw [if_pos h]
    rw [w64 (a := ((-2 * a - 1).toNat : Int) / 2) (by omega) (by omega), w64 (a := (((-2 * a - 1).toNat % 2 : Nat) : Int)) (by omega) (by omega), w64 (by omega) (by omega), show -(((-2 * a - 1).toNat % 2 : Nat) : Int) = -1 by omega, show ((-2 * a - 1).toNat : Int) / 2 = (((-a - 1).toNat : Nat) : Int) by omega]
    rw [xor_i64, show BitVec.ofInt 64 (-1) = BitVec.allOnes 64 from by decide, BitVec.xor_allOnes, BitVec.toNat_not, ofInt_u64 _ (by omega)]
    unfold wrap64; omega
  · rw [if_neg h]
    rw [w64 (a := ((2 * a).toNat : Int) / 2) (by omega) (by omega), w64 (a := (((2 * a).toNat % 2 : Nat) : Int)) (by omega) (by omega), w64 (by omega) (by omega), show -(((2 * a).toNat % 2 : Nat) : Int) = 0 by omega, show ((2 * a).toNat : Int) / 2 = ((a.toNat : Nat) : Int) by omega]
    rw [xor_i64, show BitVec.ofInt 64 0 = 0#64 from by decide, BitVec.xor_zero, ofInt_u64 _ (by omega)]
    unfold wrap64; omega
theorem get_round (x : ByteArray) (p j c : Nat) (acc : Int) (R : Int × Int × Int) (hx : x.size ≤ 100000) (hp : p + j < x.size) (hj : j ≤ 9) (hb : bt x ((p + j : Nat) : Int) = (c : Int)) (h9 : j = 9 → c ≤ 1) (h0 : 0 < j → c ≠ 0)
    (e : Ev (fun k => impl_getNum.j1 k x (p : Int) acc (j : Int) (c : Int) false) R) : Ev (fun k => impl_getNum.l0 k x (p : Int) acc (j : Int)) R := by
  refine ev_succ ?_
  have e1 : wrap64 ((x.size : Int) - j) = (x.size : Int) - j := w64 (by omega) (by omega)
  have e2 : wrap64 ((p : Int) + j) = ((p + j : Nat) : Int) := by rw [w64 (by omega) (by omega)]; omega
  simp only [impl_getNum.l0, e1, e2, if_pos (show (j : Int) < 10 by omega), if_neg (show ¬ (p : Int) ≥ (x.size : Int) - j by omega), if_pos (show (0 : Int) ≤ ((p + j : Nat) : Int) by omega), if_pos (show ((p + j : Nat) : Int) < (x.size : Int) by omega), hb]
  by_cases q9 : (j : Int) = 9
  · have := h9 (by omega)
    have hc : ((c : Int) == 0) = false := by have := h0 (by omega); simp; omega
    simp only [if_pos q9, if_neg (show ¬ (c : Int) > 1 by omega), if_pos (show (j : Int) > 0 by omega), hc]
    exact e
  · simp only [if_neg q9]
    by_cases q0 : (j : Int) > 0
    · have hc : ((c : Int) == 0) = false := by have := h0 (by omega); simp; omega
      simp only [if_pos q0, hc]
      exact e
    · simp only [if_neg q0]
      exact e
theorem get_low (c j : Nat) (hc : c < 256) (hj : j ≤ 9) (hb : 128 ^ j * (c % 128) < 18446744073709551616) : shl .u64 (IntKind.u64.wrap (Go.bits .and .u8 (c : Int) 127)) (wrap64 (7 * (j : Int))) = ((128 ^ j * (c % 128) : Nat) : Int) := by
  rw [bits_low c hc, u64in (by omega) (by omega), w64 (by omega) (by omega), show 7 * (j : Int) = ((7 * j : Nat) : Int) by omega, shl_is _ j hj hb]
theorem get_more (x : ByteArray) (p j c acc : Nat) (R : Int × Int × Int) (hj : j ≤ 9) (hc : 128 ≤ c) (hc2 : c < 256) (ha : acc < 128 ^ j) (hs : acc + 128 ^ j * (c % 128) < 18446744073709551616)
    (e : Ev (fun k => impl_getNum.l0 k x (p : Int) ((acc + 128 ^ j * (c % 128) : Nat) : Int) ((j + 1 : Nat) : Int)) R) : Ev (fun k => impl_getNum.j1 k x (p : Int) (acc : Int) (j : Int) (c : Int) false) R := by
  refine ev_succ ?_
  simp only [impl_getNum.j1, Bool.false_eq_true, if_false, get_low c j hc2 hj (by omega), bits_add acc (c % 128) j ha hs, if_neg (show ¬ (c : Int) < 128 by omega)]
  rw [w64 (a := 7 * (j : Int)) (by omega) (by omega), w64 (a := (j : Int) + 1) (by omega) (by omega), show (j : Int) + 1 = ((j + 1 : Nat) : Int) by omega]
  simp only [if_pos (show (0 : Int) ≤ 7 * (j : Int) by omega)]
  exact e
theorem get_last (x : ByteArray) (p j c acc : Nat) (hx : p ≤ 100000) (hj : j ≤ 9) (hc : c < 128) (ha : acc < 128 ^ j) (hs : acc + 128 ^ j * c < 18446744073709551616) :
    Ev (fun k => impl_getNum.j1 k x (p : Int) (acc : Int) (j : Int) (c : Int) false) (unF (acc + 128 ^ j * c), ((p + j + 1 : Nat) : Int), 0) := by
  refine ev_succ ?_
  have em : c % 128 = c := Nat.mod_eq_of_lt hc
  have gl := get_low c j (by omega) hj (by rw [em]; omega)
  rw [em] at gl
  simp only [impl_getNum.j1, Bool.false_eq_true, if_false, gl, bits_add acc c j ha hs, if_pos (show (c : Int) < 128 by omega)]
  rw [w64 (a := 7 * (j : Int)) (by omega) (by omega), w64 (a := (p : Int) + j) (by omega) (by omega), w64 (a := (p : Int) + j + 1) (by omega) (by omega), show (p : Int) + j + 1 = ((p + j + 1 : Nat) : Int) by omega]
  simp only [if_pos (show (0 : Int) ≤ 7 * (j : Int) by omega)]
  exact Ev.now _
theorem enc7_pos (v : Nat) : 1 ≤ (enc7 v).length := by rw [enc7]; split <;> simp
theorem nine (u : Nat) (hu : u < 18446744073709551616) : u / 128 ^ 9 ≤ 1 := by
  have : u / 128 ^ 9 < 2 := Nat.div_lt_of_lt_mul (by omega)
  omega
theorem step_div (u j : Nat) : u / 128 ^ (j + 1) = u / 128 ^ j / 128 := by rw [Nat.pow_succ, ← Nat.div_div_eq_div_mul]
/-- A number's bytes are read back. -/
theorem get_ok (x : ByteArray) (p u : Nat) (hu : u < 18446744073709551616) (hx : x.size ≤ 100000) : ∀ d j, j + d = 9 → (j = 0 ∨ 1 ≤ u / 128 ^ j) → p + j + (enc7 (u / 128 ^ j)).length ≤ x.size → AtB x (p + j) (enc7 (u / 128 ^ j)).length (enc7 (u / 128 ^ j)) →
    Ev (fun k => impl_getNum.l0 k x (p : Int) ((u % 128 ^ j : Nat) : Int) (j : Int)) (unF u, ((p + j + (enc7 (u / 128 ^ j)).length : Nat) : Int), 0) := by
  have last : ∀ j, j ≤ 9 → u / 128 ^ j < 128 → (j = 9 → u / 128 ^ j ≤ 1) → (j = 0 ∨ 1 ≤ u / 128 ^ j) → p + j + (enc7 (u / 128 ^ j)).length ≤ x.size → AtB x (p + j) (enc7 (u / 128 ^ j)).length (enc7 (u / 128 ^ j)) →
      Ev (fun k => impl_getNum.l0 k x (p : Int) ((u % 128 ^ j : Nat) : Int) (j : Int)) (unF u, ((p + j + (enc7 (u / 128 ^ j)).length : Nat) : Int), 0) := by
    intro j hj hv h9 hz hp hb
    have hm : u % 128 ^ j + 128 ^ j * (u / 128 ^ j) = u := Nat.mod_add_div u (128 ^ j)
    have hlt : u % 128 ^ j < 128 ^ j := Nat.mod_lt _ (Nat.pow_pos (by omega))
    have en : enc7 (u / 128 ^ j) = [((u / 128 ^ j : Nat) : Int)] := by rw [enc7, if_pos hv]
    rw [en] at hp hb ⊢
    have hb0 := (atB_cons hb).1
    simp only [List.length_cons, List.length_nil] at hp ⊢
    refine get_round x p j (u / 128 ^ j) _ _ hx (by omega) hj hb0 h9 (by omega) ?_
    have := get_last x p j (u / 128 ^ j) (u % 128 ^ j) (by omega) hj hv hlt (by rw [hm]; exact hu)
    rw [hm] at this
    exact this
  intro d
  induction d with
  | zero =>
    intro j hd hz hp hb
    obtain rfl : j = 9 := by omega
    have := nine u hu
    exact last 9 (by omega) (by omega) (fun _ => this) hz hp hb
  | succ d ih =>
    intro j hd hz hp hb
    by_cases hv : u / 128 ^ j < 128
    · exact last j (by omega) hv (by omega) hz hp hb
    · have hlt : u % 128 ^ j < 128 ^ j := Nat.mod_lt _ (Nat.pow_pos (by omega))
      have en : enc7 (u / 128 ^ j) = ((u / 128 ^ j % 128 + 128 : Nat) : Int) :: enc7 (u / 128 ^ (j + 1)) := by rw [enc7, if_neg hv, step_div]
      rw [en] at hp hb ⊢
      simp only [List.length_cons] at hp hb ⊢
      obtain ⟨hb0, hb1⟩ := atB_cons hb
      have em : (u / 128 ^ j % 128 + 128) % 128 = u / 128 ^ j % 128 := by omega
      have es : u % 128 ^ j + 128 ^ j * ((u / 128 ^ j % 128 + 128) % 128) = u % 128 ^ (j + 1) := by rw [em, Nat.mod_pow_succ]
      have hle : u % 128 ^ (j + 1) ≤ u := Nat.mod_le _ _
      refine get_round x p j (u / 128 ^ j % 128 + 128) _ _ hx (by omega) (by omega) hb0 (by omega) (by omega) ?_
      refine get_more x p j _ _ _ (by omega) (by omega) (by omega) hlt (by rw [es]; omega) ?_
      rw [es]
      have := ih (j + 1) (by omega) (Or.inr (by rw [step_div]; omega)) (by omega) (by rw [← Nat.add_assoc]; exact hb1)
      rw [show p + (j + 1) + (enc7 (u / 128 ^ (j + 1))).length = p + j + ((enc7 (u / 128 ^ (j + 1))).length + 1) by omega] at this
      exact this
/-- Without its last byte it is too short. -/
theorem get_short (x : ByteArray) (u : Nat) (hu : u < 18446744073709551616) (hx : x.size ≤ 100000) : ∀ d j, j + d = 9 → (j = 0 ∨ 1 ≤ u / 128 ^ j) → j + (enc7 (u / 128 ^ j)).length = x.size + 1 → AtB x j ((enc7 (u / 128 ^ j)).length - 1) (enc7 (u / 128 ^ j)) →
    Ev (fun k => impl_getNum.l0 k x ((0 : Nat) : Int) ((u % 128 ^ j : Nat) : Int) (j : Int)) (0, 0, 4) := by
  have last : ∀ j, j ≤ 9 → u / 128 ^ j < 128 → j + (enc7 (u / 128 ^ j)).length = x.size + 1 →
      Ev (fun k => impl_getNum.l0 k x ((0 : Nat) : Int) ((u % 128 ^ j : Nat) : Int) (j : Int)) (0, 0, 4) := by
    intro j hj hv hp
    have en : enc7 (u / 128 ^ j) = [((u / 128 ^ j : Nat) : Int)] := by rw [enc7, if_pos hv]
    rw [en] at hp
    simp only [List.length_cons, List.length_nil] at hp
    refine ev_succ ?_
    have e1 : wrap64 ((x.size : Int) - j) = (x.size : Int) - j := w64 (by omega) (by omega)
    simp only [impl_getNum.l0, e1, if_pos (show (j : Int) < 10 by omega), if_pos (show ((0 : Nat) : Int) ≥ (x.size : Int) - j by omega)]
    exact Ev.now _
  intro d
  induction d with
  | zero =>
    intro j hd hz hp hb
    obtain rfl : j = 9 := by omega
    have := nine u hu
    exact last 9 (by omega) (by omega) hp
  | succ d ih =>
    intro j hd hz hp hb
    by_cases hv : u / 128 ^ j < 128
    · exact last j (by omega) hv hp
    · have hlt : u % 128 ^ j < 128 ^ j := Nat.mod_lt _ (Nat.pow_pos (by omega))
      have en : enc7 (u / 128 ^ j) = ((u / 128 ^ j % 128 + 128 : Nat) : Int) :: enc7 (u / 128 ^ (j + 1)) := by rw [enc7, if_neg hv, step_div]
      have hq := enc7_pos (u / 128 ^ (j + 1))
      rw [en] at hp hb
      simp only [List.length_cons] at hp hb
      rw [show (enc7 (u / 128 ^ (j + 1))).length + 1 - 1 = ((enc7 (u / 128 ^ (j + 1))).length - 1) + 1 by omega] at hb
      obtain ⟨hb0, hb1⟩ := atB_cons hb
      have em : (u / 128 ^ j % 128 + 128) % 128 = u / 128 ^ j % 128 := by omega
      have es : u % 128 ^ j + 128 ^ j * ((u / 128 ^ j % 128 + 128) % 128) = u % 128 ^ (j + 1) := by rw [em, Nat.mod_pow_succ]
      have hle : u % 128 ^ (j + 1) ≤ u := Nat.mod_le _ _
      refine get_round x 0 j (u / 128 ^ j % 128 + 128) _ _ hx (by omega) (by omega) (by rw [Nat.zero_add]; exact hb0) (by omega) (by omega) ?_
      refine get_more x 0 j _ _ _ (by omega) (by omega) (by omega) hlt (by rw [es]; omega) ?_
      rw [es]
      exact ih (j + 1) (by omega) (Or.inr (by rw [step_div]; omega)) (by omega) hb1

theorem any_draw (l : List Int) (hl : l.length ≤ 140737488351232) : ∃ n, Ev (fun k => spec_DrawPutNum.f k l) n ∧ -9223372036854775808 ≤ n ∧ n ≤ 9223372036854775807 := by
  obtain ⟨m, z, e, _⟩ := src_ok l hl
  obtain ⟨q, p1, m1, e1, h1, _, _⟩ := n_ok l 0 m z 4 (st0 l) (by omega)
  have eo : spec_l01Src_one.f l 0 m z 4 = some (q == 0, p1, m1, z) := by simp only [spec_l01Src_one.f, e1, Option.bind_some]
  by_cases hq : (q == 0) = true
  · obtain ⟨n, p2, m2, e2, h2, n0, n1⟩ := edge_ok l p1 m1 z h1
    refine ⟨n, ?_, n0, n1⟩
    simp only [spec_DrawPutNum.f]
    refine Ev.bind e ?_
    simp only [spec_l01Src_l01Any.f, eo, Option.bind_some, if_pos hq, e2]
    exact Ev.now _
  · obtain ⟨n, p2, m2, e2, h2, n0, n1⟩ := n_ok l p1 m1 z 1099511627776 h1 (by omega)
    refine ⟨n - 1048576, ?_, by omega, by omega⟩
    simp only [spec_DrawPutNum.f]
    refine Ev.bind e ?_
    simp only [spec_l01Src_l01Any.f, eo, Option.bind_some, if_neg hq, e2, w64 (a := n - 1048576) (by omega) (by omega)]
    exact Ev.now _
theorem getNum_ev (x : ByteArray) (p : Nat) (R : Int × Int × Int) (hx : x.size ≤ 20000) (e : Ev (fun k => impl_getNum.l0 k x (p : Int) 0 0) R) : Ev (fun k => impl_GetNum.f k x (p : Int)) R := by
  simp only [impl_GetNum.f, if_neg (show ¬ (x.size : Int) > 20000 by omega), impl_getNum.f, if_neg (show ¬ (p : Int) < 0 by omega)]
  exact Ev.bind e (Ev.now _)
theorem get_first (B : ByteArray) (u : Nat) (hu : u < 18446744073709551616) (hlen : (enc7 u).length ≤ 10) (hsz : B.size = (enc7 u).length) (hbt : ∀ i : Nat, i < (enc7 u).length → bt B (i : Int) = (enc7 u).getD i 0) :
    Ev (fun k => impl_GetNum.f k (((⟨#[120, 121]⟩ : ByteArray) ++ B) ++ (⟨#[122]⟩ : ByteArray)) 2) (unF u, ((2 + (enc7 u).length : Nat) : Int), 0) := by
  have z1 : (⟨#[120, 121]⟩ : ByteArray).size = 2 := rfl
  have z2 : (⟨#[122]⟩ : ByteArray).size = 1 := rfl
  generalize (⟨#[120, 121]⟩ : ByteArray) = xy at *
  generalize (⟨#[122]⟩ : ByteArray) = z at *
  have s1 : (xy ++ B).size = 2 + B.size := by rw [ByteArray.size_append, z1]
  have s2 : ((xy ++ B) ++ z).size = 2 + B.size + 1 := by rw [ByteArray.size_append, s1, z2]
  have hb : AtB ((xy ++ B) ++ z) (2 + 0) (enc7 (u / 128 ^ 0)).length (enc7 (u / 128 ^ 0)) := by
    rw [Nat.pow_zero, Nat.div_one]
    intro i hi
    have q1 := bt_left (xy ++ B) z (2 + 0 + i) (by omega)
    have q2 := bt_right xy B i (by omega)
    rw [z1] at q2
    rw [q1, show 2 + 0 + i = 2 + i by omega, q2]
    exact hbt i hi
  have g := get_ok ((xy ++ B) ++ z) 2 u hu (by omega) 9 0 (by omega) (Or.inl rfl) (by rw [Nat.pow_zero, Nat.div_one]; omega) hb
  rw [Nat.pow_zero, Nat.div_one, Nat.mod_one, Nat.add_zero] at g
  exact getNum_ev _ 2 _ (by omega) g
theorem get_second (B : ByteArray) (u m : Nat) (hu : u < 18446744073709551616) (hlen : (enc7 u).length ≤ 10) (hsz : B.size = (enc7 u).length) (hm : m + 1 = B.size) (hbt : ∀ i : Nat, i < (enc7 u).length → bt B (i : Int) = (enc7 u).getD i 0) :
    Ev (fun k => impl_GetNum.f k (B.extract 0 m) 0) (0, 0, 4) := by
  have s3 : (B.extract 0 m).size = m := by rw [ByteArray.size_extract]; omega
  have hb : AtB (B.extract 0 m) 0 ((enc7 (u / 128 ^ 0)).length - 1) (enc7 (u / 128 ^ 0)) := by
    rw [Nat.pow_zero, Nat.div_one]
    intro i hi
    rw [Nat.zero_add, bt_extract B m i (by omega) (by omega)]
    exact hbt i (by omega)
  have g := get_short (B.extract 0 m) u hu (by omega) 9 0 (by omega) (Or.inl rfl) (by rw [Nat.pow_zero, Nat.div_one]; omega) hb
  rw [Nat.pow_zero, Nat.mod_one] at g
  exact getNum_ev _ 0 _ (by omega) g
theorem tail_ev (B : ByteArray) (n : Int) (h1 : 1 ≤ B.size) (h2 : B.size ≤ 10)
    (e1 : Ev (fun k => impl_GetNum.f k (((⟨#[120, 121]⟩ : ByteArray) ++ B) ++ (⟨#[122]⟩ : ByteArray)) 2) (n, (B.size : Int) + 2, 0))
    (e2 : Ev (fun k => impl_GetNum.f k (B.extract 0 ((B.size : Int) - 1).toNat) 0) (0, 0, 4)) : Ev (fun k => laws_FnNums.j0 k n B false) true := by
  have z1 : (⟨#[120, 121]⟩ : ByteArray).size = 2 := rfl
  have s1 : ((⟨#[120, 121]⟩ : ByteArray) ++ B).size = 2 + B.size := by rw [ByteArray.size_append, z1]
  have k1 : wrap64 ((B.size : Int) + 2) = (B.size : Int) + 2 := w64 (by omega) (by omega)
  have k2 : wrap64 ((B.size : Int) - 1) = (B.size : Int) - 1 := w64 (by omega) (by omega)
  have p1 : 2 + B.size ≤ 9223372036854775807 := by omega
  have p2 : ((⟨#[120, 121]⟩ : ByteArray) ++ B).size + 1 ≤ 9223372036854775807 := by omega
  refine ev_succ ?_
  simp only [laws_FnNums.j0, Bool.false_eq_true, if_false, k1, k2]
  refine ev_pos p1 ?_
  refine ev_pos p2 ?_
  refine Ev.bind e1 ?_
  refine ev_pos (by simp) ?_
  refine ev_pos (by omega) ?_
  refine ev_pos (by omega) ?_
  refine Ev.bind e2 ?_
  exact ev_const (by simp)
theorem FnNums : laws_FnNums.Pure := by
  intro l hl1 hl hlw
  refine Ev.rounds (g := fun k => laws_FnNums.f k l) ?_
  simp only [laws_FnNums.f]
  by_cases h0 : (l.length : Int) > 1048576
  · simp only [if_pos h0]; exact Ev.now _
  simp only [if_neg h0]
  obtain ⟨n, e, n0, n1⟩ := any_draw l (by omega)
  refine Ev.bind e ?_
  refine Ev.bind (impl_PutNum_ev n n0 n1) ?_
  refine Ev.bind (spec_PutNum_ev n n0 n1) ?_
  have hu := fold64_lt n0 n1
  have hlen := enc7_len10 hu
  have hpos := enc7_pos (fold64 n)
  have hbt := bt_nums (enc7 (fold64 n)) (enc7_bytes 9 (fold64 n) (by omega))
  have hsz : (strOfNums (enc7 (fold64 n))).size = (enc7 (fold64 n)).length := nums_size _
  have e1 := get_first (strOfNums (enc7 (fold64 n))) (fold64 n) hu hlen hsz hbt
  rw [unF_fold n n0 n1] at e1
  generalize strOfNums (enc7 (fold64 n)) = B at *
  have e2 := get_second B (fold64 n) ((B.size : Int) - 1).toNat hu hlen hsz (by omega) hbt
  rw [show ((2 + (enc7 (fold64 n)).length : Nat) : Int) = (B.size : Int) + 2 by omega] at e1
  have key := tail_ev B n (by omega) (by omega) e1 e2
  refine ev_pos rfl ?_
  refine ev_neg (show ¬ (B.size : Int) < 1 by omega) ?_
  rw [decide_eq_false (show ¬ (B.size : Int) > 10 by omega)]
  exact key

end Go.Proofs.Ytkffeaggiegfkaa.Pure
