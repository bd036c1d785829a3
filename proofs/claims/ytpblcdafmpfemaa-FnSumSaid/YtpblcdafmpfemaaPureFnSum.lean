/- A drawn text's sum is the reference's; of no text it is 7; with one byte another one it is another sum. No condition beyond the row's own. -/
import Derived.Test.YtpblcdafmpfemaaPFnSumx2
import Derived.Test.YtpblcdafmpfemaaQLib
namespace Go.Proofs.Ytpblcdafmpfemaa.Pure
set_option linter.unusedSimpArgs false
set_option linter.unusedVariables false
open Go.RowKit Go.Proofs.Ytpblcdafmpfemaa.PFnSum Go.Proofs.YtpblcdafmpfemaaW.PrintWords Go.Proofs.YtpblcdafmpfemaaW.PrintLast Go.Proofs.YtpblcdafmpfemaaW.PrintMore
open Go.Proofs.Ytpblcdafmpfemaa.Q
/-- The place that a source has come to lies in its bytes. -/
def StOk (l : List Int) (a : Int) : Prop := 0 ≤ a ∧ a ≤ l.length
theorem told_range (v m most : Int) (h0 : 1 < most) (h1 : most ≤ 9223372036854775807) : 0 ≤ spec_l01Src_n.toldF v m most ∧ spec_l01Src_n.toldF v m most < most := by
  unfold spec_l01Src_n.toldF
  rw [u64w, tmod_pos (by omega)]
  have a := Int.emod_nonneg ((v + m / 1048576) % 18446744073709551616) (show most ≠ 0 by omega)
  have b := Int.emod_lt_of_pos ((v + m / 1048576) % 18446744073709551616) (show 0 < most by omega)
  rw [w64 (by omega) (by omega)]
  exact ⟨a, b⟩
/-- A number below most is drawn. -/
theorem n_ok (l : List Int) (a m s most : Int) (hst : StOk l a) (h1 : most ≤ 9223372036854775807) :
    ∃ r a' m', spec_l01Src_n.f l a m s most = some (r, a', m', s) ∧ StOk l a' ∧ 0 ≤ r ∧ (r < most ∨ r = 0) := by
  unfold spec_l01Src_n.f StOk at *
  by_cases c1 : most ≤ 1
  · rw [if_pos c1]; exact ⟨_, _, _, rfl, hst, by omega, Or.inr rfl⟩
  · rw [if_neg c1, if_pos h1]
    by_cases c2 : a < (l.length : Int)
    · rw [if_pos c2, if_pos hst.1]
      have := told_range (IntKind.u64.wrap (rd l a)) (spec_l01Src_n.mixF m) most (by omega) h1
      exact ⟨_, _, _, rfl, by omega, this.1, Or.inl this.2⟩
    · rw [if_neg c2]
      have := told_range 0 (spec_l01Src_n.mixF m) most (by omega) h1
      exact ⟨_, _, _, rfl, hst, this.1, Or.inl this.2⟩
theorem src_l0 (l : List Int) (hl : l.length ≤ 140737488351232) : ∀ (d i : Nat) (m : Int), 64 - i = d → ∃ m' s, Ev (fun k => spec_l01Source.l0 k l i l 0 m 0) (l, 0, m', s) ∧ 0 ≤ s ∧ s ≤ 12 := by
  have fin : ∀ (i : Nat) (m : Int), ¬ ((i : Int) < (l.length : Int) ∧ (i : Int) < 64) → ∃ m' s, Ev (fun k => spec_l01Source.l0 k l i l 0 m 0) (l, 0, m', s) ∧ 0 ≤ s ∧ s ≤ 12 := by
    intro i m hi
    have ew : wrap64 ((l.length : Int) / 20) = (l.length : Int) / 20 := w64 (by omega) (by omega)
    by_cases h12 : (l.length : Int) / 20 > 12
    · refine ⟨m, 12, ev_succ ?_, by omega, by omega⟩
      simp only [spec_l01Source.l0, ew, if_pos h12]
      by_cases h1 : (i : Int) < (l.length : Int)
      · simp only [if_pos h1, if_neg (show ¬ (i : Int) < 64 from fun h => hi ⟨h1, h⟩)]; exact Ev.now _
      · simp only [if_neg h1]; exact Ev.now _
    · refine ⟨m, (l.length : Int) / 20, ev_succ ?_, by omega, by omega⟩
      simp only [spec_l01Source.l0, ew, if_neg h12]
      by_cases h1 : (i : Int) < (l.length : Int)
      · simp only [if_pos h1, if_neg (show ¬ (i : Int) < 64 from fun h => hi ⟨h1, h⟩)]; exact Ev.now _
      · simp only [if_neg h1]; exact Ev.now _
  intro d
  induction d with
  | zero => intro i m hd; exact fin i m (by omega)
  | succ d ih =>
    intro i m hd
    by_cases h : (i : Int) < (l.length : Int) ∧ (i : Int) < 64
    · obtain ⟨m', s, e, h0⟩ := ih (i + 1) (IntKind.u64.wrap ((Go.bits .xor .u64 m (IntKind.u64.wrap (rd l i))) * 1099511628211)) (by omega)
      refine ⟨m', s, ev_succ ?_, h0⟩
      simp only [spec_l01Source.l0, if_pos h.1, if_pos h.2, if_pos (nat0 i), wsucc (show i < l.length by omega) hl]
      exact e
    · exact fin i m h
theorem src_ok (l : List Int) (hl : l.length ≤ 140737488351232) : ∃ m s, Ev (fun k => spec_l01Source.f k l) (l, 0, m, s) ∧ 0 ≤ s ∧ s ≤ 12 := by
  simp only [spec_l01Source.f]
  exact src_l0 l hl 64 0 _ rfl
theorem st0 (l : List Int) : StOk l 0 := ⟨by omega, by omega⟩

/-- The sum of the bytes of s from place i on, n being the sum of those ahead. -/
def sumF (s : ByteArray) (i : Nat) (n : Int) : Int :=
  if i < s.size then sumF s (i + 1) ((257 * n + bt s i) % 4294967291) else n
termination_by s.size - i

theorem sumF_range (s : ByteArray) : ∀ (d i : Nat) (n : Int), s.size - i = d → 0 ≤ n → n < 4294967291 → 0 ≤ sumF s i n ∧ sumF s i n < 4294967291 := by
  intro d
  induction d with
  | zero => intro i n hd h0 h1; rw [sumF, if_neg (by omega)]; exact ⟨h0, h1⟩
  | succ d ih => intro i n hd h0 h1; rw [sumF, if_pos (by omega)]; exact ih _ _ (by omega) (by omega) (by omega)

theorem sum_round (s : ByteArray) (i : Nat) (n : Int) (h0 : 0 ≤ n) (h1 : n < 4294967291) :
    Int.tmod (wrap64 ((wrap64 (257 * n)) + (wrap64 (bt s i)))) 4294967291 = (257 * n + bt s i) % 4294967291 := by
  have hb := bt_range s i
  rw [w64 (a := 257 * n) (by omega) (by omega), w64 (a := bt s i) (by omega) (by omega), w64 (by omega) (by omega), tmod_pos (by omega)]

theorem spec_sum_l0 (s : ByteArray) (hs : s.size ≤ 140737488351232) : ∀ (d i : Nat) (n : Int), s.size - i = d → 0 ≤ n → n < 4294967291 → Ev (fun k => spec_Sum.l0 k s n i) (sumF s i n) := by
  intro d
  induction d with
  | zero =>
    intro i n hd h0 h1
    refine ev_succ ?_
    rw [sumF, if_neg (by omega)]
    simp only [spec_Sum.l0, if_neg (natNotLt (show ¬ i < s.size by omega))]
    exact Ev.now _
  | succ d ih =>
    intro i n hd h0 h1
    refine ev_succ ?_
    have hi : i < s.size := by omega
    rw [sumF, if_pos hi]
    simp only [spec_Sum.l0, if_pos (natLt hi), if_pos (nat0 i), sum_round s i n h0 h1, wsucc hi hs]
    exact ih _ _ (by omega) (by omega) (by omega)

theorem impl_sum_l0 (s : ByteArray) (hs : s.size ≤ 140737488351232) : ∀ (d i : Nat) (n : Int), s.size - i = d → 0 ≤ n → n < 4294967291 → Ev (fun k => impl_sum.l0 k s n s.size i) (sumF s i n) := by
  intro d
  induction d with
  | zero =>
    intro i n hd h0 h1
    refine ev_succ ?_
    rw [sumF, if_neg (by omega)]
    simp only [impl_sum.l0, if_neg (natNotLt (show ¬ i < s.size by omega))]
    exact Ev.now _
  | succ d ih =>
    intro i n hd h0 h1
    refine ev_succ ?_
    have hi : i < s.size := by omega
    rw [sumF, if_pos hi]
    simp only [impl_sum.l0, if_pos (natLt hi), if_pos (nat0 i), sum_round s i n h0 h1, wsucc hi hs]
    exact ih _ _ (by omega) (by omega) (by omega)

theorem impl_sum_ev (s : ByteArray) (hs : s.size ≤ 140737488351232) : Ev (fun k => impl_sum.f k s) (sumF s 0 7) := by
  simp only [impl_sum.f]
  exact impl_sum_l0 s hs _ 0 7 rfl (by omega) (by omega)
theorem spec_Sum_ev (s : ByteArray) (hs : s.size ≤ 20000) : Ev (fun k => spec_Sum.f k s) (sumF s 0 7) := by
  simp only [spec_Sum.f, if_neg (show ¬ (s.size : Int) > 20000 by omega)]
  exact spec_sum_l0 s (by omega) _ 0 7 rfl (by omega) (by omega)

theorem sum_inj (a b c : Int) (a0 : 0 ≤ a) (a1 : a < 4294967291) (b0 : 0 ≤ b) (b1 : b < 4294967291) (h : (257 * a + c) % 4294967291 = (257 * b + c) % 4294967291) : a = b := by omega
theorem suf_ne (s s' : ByteArray) (hz : s.size = s'.size) : ∀ (d i : Nat) (n n' : Int), s.size - i = d → 0 ≤ n → n < 4294967291 → 0 ≤ n' → n' < 4294967291 → n ≠ n' → (∀ q : Nat, i ≤ q → bt s q = bt s' q) → sumF s i n ≠ sumF s' i n' := by
  intro d
  induction d with
  | zero => 
    intro i n n' hd _ _ _ _ hne _
    rw [sumF, if_neg (by omega)]
    conv => rhs; rw [sumF, if_neg (by omega)]
    exact hne
  | succ d ih =>
    intro i n n' hd h0 h1 h0' h1' hne hq
    rw [sumF, if_pos (by omega)]
    conv => rhs; rw [sumF, if_pos (by omega)]
    refine ih (i + 1) _ _ (by omega) (by omega) (by omega) (by omega) (by omega) (fun e => hne ?_) (fun q hl => hq q (by omega))
    rw [hq i (Nat.le_refl _)] at e
    exact sum_inj n n' _ h0 h1 h0' h1' e
theorem pre_ne (s s' : ByteArray) (hz : s.size = s'.size) (j : Nat) (hj : j < s.size) (hb : bt s j ≠ bt s' j) (hq : ∀ q : Nat, q ≠ j → bt s q = bt s' q) :
    ∀ (d i : Nat) (n : Int), j - i = d → i ≤ j → 0 ≤ n → n < 4294967291 → sumF s i n ≠ sumF s' i n := by
  intro d
  induction d with
  | zero =>
    intro i n hd hi h0 h1
    have hi' : i = j := by omega
    subst hi'
    rw [sumF, if_pos (by omega)]
    conv => rhs; rw [sumF, if_pos (by omega)]
    have r1 := bt_range s i
    have r2 := bt_range s' i
    exact suf_ne s s' hz _ (i + 1) _ _ rfl (by omega) (by omega) (by omega) (by omega) (by omega) (fun q hl => hq q (by omega))
  | succ d ih =>
    intro i n hd hi h0 h1
    rw [sumF, if_pos (by omega)]
    conv => rhs; rw [sumF, if_pos (by omega)]
    rw [← hq i (by omega)]
    exact ih (i + 1) _ (by omega) (by omega) (by omega) (by omega)
theorem put_size (t : ByteArray) (i x : Int) : (laws_FnSum.put t i x).size = t.size := by
  unfold laws_FnSum.put
  show ((t.data.toList.set _ _).toArray).size = t.data.size
  simp
theorem put_bt (t : ByteArray) (j : Nat) (hj : j < t.size) (x : Int) (x0 : 0 ≤ x) (q : Nat) : bt (laws_FnSum.put t (j : Int) x) q = if q = j then (bt t j + (1 + x)) % 256 else bt t q := by
  have hl := laws_FnSum.put_list t j x
  have r := bt_range t j
  by_cases hq : q < t.size
  · have h1 : q < (laws_FnSum.put t (j : Int) x).size := by rw [put_size]; exact hq
    have e1 : bt (laws_FnSum.put t (j : Int) x) q = (((laws_FnSum.put t (j : Int) x).data.toList[q]'(by simpa using h1)).toNat : Int) := by
      unfold bt
      rw [Int.toNat_natCast, dif_pos h1]
      rfl
    have e2 : bt t q = ((t.data.toList[q]'(by simpa using hq)).toNat : Int) := by
      unfold bt
      rw [Int.toNat_natCast, dif_pos hq]
      rfl
    rw [e1]
    simp only [hl, List.getElem_set]
    by_cases e : j = q
    · rw [if_pos e, if_pos e.symm, UInt8.toNat_ofNat']
      omega
    · rw [if_neg e, if_neg (fun z => e z.symm), e2]
  · have h1 : ¬ q < (laws_FnSum.put t (j : Int) x).size := by rw [put_size]; exact hq
    rw [if_neg (by omega)]
    unfold bt
    rw [Int.toNat_natCast, dif_neg h1, dif_neg hq]
theorem bytes_l0 (l : List Int) (n : Int) (hn : n ≤ 60) : ∀ (d : Nat) (i : Nat) (x5 : List Int) (a m s : Int), n.toNat - i = d → x5.length = i → i ≤ 60 → StOk l a →
    ∃ t a' m' s', Ev (fun k => spec_l01Src_bytes.l0 k n x5 i l a m s) (t, a', m', s') ∧ t.size ≤ 60 := by
  intro d
  induction d with
  | zero =>
    intro i x5 a m s hd hx hi hst
    refine ⟨strOfNums x5, a, m, s, ev_succ ?_, ?_⟩
    · simp only [spec_l01Src_bytes.l0, if_neg (show ¬ (i : Int) < n by omega)]; exact Ev.now _
    · rw [strOfNums_size]; omega
  | succ d ih =>
    intro i x5 a m s hd hx hi hst
    obtain ⟨q, a1, m1, e1, h1, _, _⟩ := n_ok l a m s 256 hst (by omega)
    obtain ⟨t, a', m', s', e, ht⟩ := ih (i + 1) (x5 ++ [q % 256]) a1 m1 s (by omega) (by rw [List.length_append, hx]; rfl) (by omega) h1
    refine ⟨t, a', m', s', ev_succ ?_, ht⟩
    simp only [spec_l01Src_bytes.l0, if_pos (show (i : Int) < n by omega), e1, Option.bind_some, if_pos (show x5.length < 140737488355328 by omega), w64 (a := (i : Int) + 1) (by omega) (by omega)]
    exact e
theorem draw_ev (l : List Int) (hl : l.length ≤ 140737488351232) : ∃ t, Ev (fun k => spec_DrawSum.f k l) t ∧ t.size ≤ 60 := by
  obtain ⟨m, z, e, _⟩ := src_ok l hl
  obtain ⟨q, p1, m1, e1, h1, q0, q1⟩ := n_ok l 0 m z 60 (st0 l) (by omega)
  obtain ⟨t, a', m', s', e2, ht⟩ := bytes_l0 l q (by omega) _ 0 [] p1 m1 z rfl rfl (by omega) h1
  refine ⟨t, ?_, ht⟩
  simp only [spec_DrawSum.f, spec_l01Src_bytes.f]
  refine Ev.bind e ?_
  simp only [e1, Option.bind_some]
  exact Ev.bind e2 (Ev.now _)
theorem rd_byte (l : List Int) (hw : ∀ x ∈ l, (Lit.int .u8 x).wf = true) (i : Int) : 0 ≤ rd l i ∧ rd l i ≤ 255 := by
  unfold rd
  by_cases h : i.toNat < l.length
  · have hm : l.getD i.toNat 0 ∈ l := by
      rw [List.getD_eq_getElem?_getD, List.getElem?_eq_getElem h]; exact List.getElem_mem h
    have := hw _ hm
    simp only [Lit.wf, IntKind.min, IntKind.max, IntKind.signed, IntKind.bits, Bool.and_eq_true, decide_eq_true_eq, Bool.false_eq_true, if_false] at this
    omega
  · rw [List.getD_eq_getElem?_getD, List.getElem?_eq_none (by omega)]; simp
theorem lwAt_ok (l : List Int) (hw : ∀ x ∈ l, (Lit.int .u8 x).wf = true) (i n : Int) (i0 : 0 ≤ i) (n1 : n ≤ 4294967296) : ∃ r, laws_lwAt.f l i n = some r ∧ 0 ≤ r ∧ (1 ≤ n → r < n) := by
  unfold laws_lwAt.f
  by_cases c : n ≤ 1
  · rw [if_pos c]; exact ⟨0, rfl, by omega, by omega⟩
  rw [if_neg c]
  by_cases c0 : (l.length : Int) = 0
  · rw [if_pos c0]; exact ⟨0, rfl, by omega, by omega⟩
  rw [if_neg c0]
  have t0 : 0 ≤ Int.tmod i (l.length : Int) := Int.tmod_nonneg _ i0
  have t1 : Int.tmod i (l.length : Int) < (l.length : Int) := by rw [tmod_pos i0]; exact Int.emod_lt_of_pos _ (by omega)
  rw [if_pos t0, if_pos t1, if_neg (show ¬ n = 0 by omega)]
  have hr := rd_byte l hw (Int.tmod i (l.length : Int))
  rw [w64 (by omega) (by omega), tmod_pos hr.1]
  exact ⟨_, rfl, Int.emod_nonneg _ (by omega), fun _ => Int.emod_lt_of_pos _ (by omega)⟩
theorem sums (s : ByteArray) (hs : s.size ≤ 20000) : Ev (fun k => impl_Sum.f k s) (sumF s 0 7) := by
  simp only [impl_Sum.f, if_neg (show ¬ (s.size : Int) > 20000 by omega)]
  exact Ev.bind (impl_sum_ev s (by omega)) (Ev.now _)
theorem FnSum : laws_FnSum.Pure := by
  intro l0 l1 h0 h1
  refine Ev.rounds (g := fun k => laws_FnSum.f k l0 l1) ?_
  simp only [laws_FnSum.f]
  by_cases c0 : (l0.length : Int) > 1048576
  · simp only [if_pos c0]; exact Ev.now _
  simp only [if_neg c0]
  by_cases c1 : (l1.length : Int) > 1048576
  · simp only [if_pos c1]; exact Ev.now _
  simp only [if_neg c1]
  obtain ⟨t, et, ht⟩ := draw_ev l0 (by omega)
  refine Ev.bind et (Ev.bind (sums t (by omega)) (Ev.bind (spec_Sum_ev t (by omega)) ?_))
  simp only [if_true]
  by_cases e0 : t.size = 0
  · have e7 : sumF t 0 7 = 7 := by rw [sumF, if_neg (by omega)]
    simp only [if_pos e0, if_pos e7]; exact Ev.now _
  simp only [if_neg e0]
  obtain ⟨i, ei, i0, i1⟩ := lwAt_ok l1 h1.2 0 (t.size : Int) (by omega) (by omega)
  obtain ⟨x, ex, x0, x1⟩ := lwAt_ok l1 h1.2 1 255 (by omega) (by omega)
  have i2 := i1 (by omega)
  have x2 := x1 (by omega)
  simp only [ei, ex, Option.bind_some, if_pos (show 0 ≤ i ∧ i < (t.size : Int) ∧ 0 ≤ x ∧ x ≤ 255 from ⟨i0, i2, x0, by omega⟩)]
  obtain ⟨j, rfl⟩ := Int.eq_ofNat_of_zero_le i0
  have hj : j < t.size := by omega
  have hp := put_size t (j : Int) x
  refine Ev.bind (sums _ (by rw [hp]; omega)) ?_
  have hr := bt_range t j
  have hne : sumF (laws_FnSum.put t (j : Int) x) 0 7 ≠ sumF t 0 7 := by
    refine pre_ne _ t hp j (by rw [hp]; exact hj) ?_ ?_ _ 0 7 rfl (by omega) (by omega) (by omega)
    · rw [put_bt t j hj x x0 j, if_pos rfl]; omega
    · intro q hq; rw [put_bt t j hj x x0 q, if_neg hq]
  simp only [if_neg hne]
  exact Ev.now _

end Go.Proofs.Ytpblcdafmpfemaa.Pure
