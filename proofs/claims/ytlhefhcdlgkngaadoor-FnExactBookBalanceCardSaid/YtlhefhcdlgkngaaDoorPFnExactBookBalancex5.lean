-- laid by seedprint.py, a program of this session, over contracts that it gives by hand; Lean checks it
-- dented
import Derived.Test.YtlhefhcdlgkngaaDoorQMin
import Derived.Test.YtlhefhcdlgkngaaDoorQAut
import Derived.Test.YtlhefhcdlgkngaaDoorQBlk
import Derived.Test.YtlhefhcdlgkngaaDoorPFnExactBookBalancex0
import Derived.Test.YtlhefhcdlgkngaaDoorPFnExactBookBalancex1
import Derived.Test.YtlhefhcdlgkngaaDoorPFnExactBookBalancex4
namespace Go.Proofs.YtlhefhcdlgkngaaDoor.PFnExactBookBalance
open Go.RowKit Go.Proofs.YtlhefhcdlgkngaaDoorW.PrintWords Go.Proofs.YtlhefhcdlgkngaaDoorW.PrintLast Go.Proofs.YtlhefhcdlgkngaaDoorW.PrintMore
attribute [local go_sem] max2_int min2_int max_two min_two max_three min_three max_four min_four   -- for this text's walks alone
set_option maxHeartbeats 8000000
set_option maxRecDepth 100000
set_option linter.unusedVariables false
set_option linter.unusedSimpArgs false

attribute [local go_sem high] eqA45
/-! ### spec_l05Find: function 30 -/
def spec_l05Find.l0 : Nat → Int → List (S67) → List ByteArray → ByteArray → ByteArray → Option (Int)
 | 0, _, _, _, _, _ => none
 | k + 1, x5, x128000, x128001, x129000, x129001 => if x5 < (x128000.length : Int) then (if 0 ≤ x5 then (if ((((rd_T67 x128000 x5).f0.f0).toList) == x129000.toList && ((((rd_T67 x128000 x5).f0.f1).toList) == x129001.toList)) = true then (some x5) else (spec_l05Find.l0 k (wrap64 (x5 + 1)) x128000 x128001 x129000 x129001)) else (none)) else (some (-1))
def spec_l05Find.f (k : Nat) (l0_0 : List (S67)) (l0_1 : List ByteArray) (a1_0 : ByteArray) (a1_1 : ByteArray) : Option (Int) := spec_l05Find.l0 k 0 l0_0 l0_1 a1_0 a1_1
theorem spec_l05Find.mono_l : ∀ k, (∀ y0 y1 y2 y3 y4, LeO (spec_l05Find.l0 k y0 y1 y2 y3 y4) (spec_l05Find.l0 (k + 1) y0 y1 y2 y3 y4))
 | 0 => fun _ _ _ _ _ r h => by simp [spec_l05Find.l0] at h
 | k + 1 => by
  have ih0 := spec_l05Find.mono_l k
  ·intro y0 y1 y2 y3 y4
   unfold spec_l05Find.l0
   exact mo
theorem spec_l05Find.mono : ∀ a0 a1 a2 a3 k, LeO (spec_l05Find.f k a0 a1 a2 a3) (spec_l05Find.f (k + 1) a0 a1 a2 a3) := by
 intro a0 a1 a2 a3 k
 have ih0 := spec_l05Find.mono_l k
 unfold spec_l05Find.f
 exact mo
theorem spec_l05Find.calls (k : Nat) (A0_0 : Option Addr) (c0_0 : Nat) (l0_0 : List (S67)) (A0_1 : Option Addr) (c0_1 : Nat) (l0_1 : List ByteArray) (a1_0 : ByteArray) (a1_1 : ByteArray) (r : Int) (w : World) (hr0_0 : Kd.C k67 w A0_0 l0_0.length l0_0) (hc0_0 : l0_0.length ≤ c0_0) (hr0_1 : Kd.C Kd.string w A0_1 l0_1.length l0_1) (hc0_1 : l0_1.length ≤ c0_1) (h : spec_l05Find.f k l0_0 l0_1 a1_0 a1_1 = some r) :
  Calls Tryd.prog 30 #[.agg #[.slice A0_0 l0_0.length c0_0, .slice A0_1 l0_1.length c0_1], .agg #[.string a1_0, .string a1_1]] w fun e w' => e = .returned (.int .i64 r) ∧ Below w.heap.size w w' := by
 have hu43 := Tryd.underlying43
 have hu45 := Tryd.underlying45
 have HR0_0 := am hr0_0
 have HC0_0 := am hc0_0
 clear hr0_0 hc0_0
 have HR0_1 := am hr0_1
 have HC0_1 := am hc0_1
 clear hr0_1 hc0_1
 have HB := am (Below.refl w.heap.size w)
 have H := h
 clear h
 unfold spec_l05Find.f at H
 have H' := am H; clear H
 go_enter Tryd.func30, Tryd.ntmps30
 go_wp2_with (first | ((with_reducible refine g_ 2 ?_); refine bx 2 #[.slice A0_0 l0_0.length c0_0, .slice A0_1 l0_1.length c0_1] 43 ?_; intro gb127 hg w3 hbox hb; have BK127 := am (hbox); have GW127 := am (bsz hg : w.heap.size ≤ gb127); have GE127 := GW127; replace HB := am (below_step bl hb); clear hb hbox hg) | ((with_reducible refine g_ 3 ?_); refine bx 3 #[.string a1_0, .string a1_1] 45 ?_; intro gb128 hg w4 hbox hb; have BK128 := am (hbox); have GW128 := am (bsz hg : w.heap.size ≤ gb128); have GE128 := GW128; have NB127_128 := am (ne1 hg BK127.out); have NB128_127 := am NB127_128.out.symm; replace BK127 := am (bkb BK127.out hb); replace HB := am (below_step bl hb); clear hb hbox hg))
 repeat (go_quiet (first | ((with_reducible refine g_ 2 ?_); refine bx 2 #[.slice A0_0 l0_0.length c0_0, .slice A0_1 l0_1.length c0_1] 43 ?_; intro gb127 hg w3 hbox hb; have BK127 := am (hbox); have GW127 := am (bsz hg : w.heap.size ≤ gb127); have GE127 := GW127; replace HB := am (below_step bl hb); clear hb hbox hg) | ((with_reducible refine g_ 3 ?_); refine bx 3 #[.string a1_0, .string a1_1] 45 ?_; intro gb128 hg w4 hbox hb; have BK128 := am (hbox); have GW128 := am (bsz hg : w.heap.size ≤ gb128); have GE128 := GW128; have NB127_128 := am (ne1 hg BK127.out); have NB128_127 := am NB127_128.out.symm; replace BK127 := am (bkb BK127.out hb); replace HB := am (below_step bl hb); clear hb hbox hg)); try go_wp2_with (first | ((with_reducible refine g_ 2 ?_); refine bx 2 #[.slice A0_0 l0_0.length c0_0, .slice A0_1 l0_1.length c0_1] 43 ?_; intro gb127 hg w3 hbox hb; have BK127 := am (hbox); have GW127 := am (bsz hg : w.heap.size ≤ gb127); have GE127 := GW127; replace HB := am (below_step bl hb); clear hb hbox hg) | ((with_reducible refine g_ 3 ?_); refine bx 3 #[.string a1_0, .string a1_1] 45 ?_; intro gb128 hg w4 hbox hb; have BK128 := am (hbox); have GW128 := am (bsz hg : w.heap.size ≤ gb128); have GE128 := GW128; have NB127_128 := am (ne1 hg BK127.out); have NB128_127 := am NB127_128.out.symm; replace BK127 := am (bkb BK127.out hb); replace HB := am (below_step bl hb); clear hb hbox hg)))
 go_loopg [5] k (fun kq v5 w' => ∃ (x5_1 : Int), v5 = .int .i64 x5_1 ∧ Aside0 (spec_l05Find.l0 kq x5_1 l0_0 l0_1 a1_0 a1_1 = some r) ∧ Aside0 (kq ≤ k) ∧ Aside0 (w'.heap[gb127]? = some (.cells #[(.slice A0_0 l0_0.length c0_0), (.slice A0_1 l0_1.length c0_1)] 43 (0, 0))) ∧ Aside0 (w'.heap[gb128]? = some (.cells #[.string a1_0, .string a1_1] 45 (0, 0))) ∧ Aside0 (Below w.heap.size w w'))
 case atStart => exact ⟨(0), rs, H', ⟨Nat.le_refl _⟩, ⟨bk BK127.out⟩, ⟨bk BK128.out⟩, ⟨bl⟩⟩
 case round =>
  clear H'
  obtain ⟨x5_1, rfl, HA, HK1, BK127, BK128, HB⟩ := hrel
  cases gk with
  | zero => exact absurd HA.out (by simp [spec_l05Find.l0])
  | succ k1 =>
   have H := HA.out
   clear HA
   simp only [spec_l05Find.l0] at H
   revert H; refine iDb (fun c5b0 H => ?_) fun c5b0 H => ?_
   ·revert H; refine i1 fun c6b0 H => ?_
    revert H; refine iB (fun c7 H => ?_) fun c7 H => ?_
    ·have c7b0 : ((((rd_T67 l0_0 x5_1).f0.f0).toList) == a1_0.toList && ((((rd_T67 l0_0 x5_1).f0.f1).toList) == a1_1.toList)) = true := c7
     (try (have c7b1 : decide ((((rd_T67 l0_0 x5_1).f0.f0).toList) = a1_0.toList && ((((rd_T67 l0_0 x5_1).f0.f1).toList) == a1_1.toList)) = true := by simpa using c7))
     (try (have c7b2 : ((((rd_T67 l0_0 x5_1).f0.f0).toList) == a1_0.toList && ((((rd_T67 l0_0 x5_1).f0.f1).toList) == a1_1.toList)) = true := by simpa using c7))
     clear c7
     obtain rfl := Option.some.inj H
     have hnb8 := NB127_128.out
     have hnc8 := NB128_127.out
     obtain ⟨z9_0, z9_1, y9_0, y9_1⟩ := blk2 BK127.out
     have p129 : 0 ≤ (x5_1 : Int) := ode
     have q129 : x5_1 < (l0_0.length : Int) := ode
     obtain ⟨ad129, e129, hx129_0, hx129_1, hx129_2⟩ := at_T67 HR0_0.out x5_1 p129 q129
     cases e129
     obtain ⟨hx129_0, hx129_1, hx129_2⟩ := hb3 HB.out hx129_0 hx129_1 hx129_2
     replace p129 := eq_true p129
     replace q129 := eq_true q129
     obtain ⟨z10_0, z10_1, y10_0, y10_1⟩ := blk2 BK128.out
     go_wp2
     repeat (go_quiet (fail); try go_wp2)
     go_ret
     exact ⟨er, bl⟩
    have c7b0 : ((((rd_T67 l0_0 x5_1).f0.f0).toList) == a1_0.toList && ((((rd_T67 l0_0 x5_1).f0.f1).toList) == a1_1.toList)) = false := by simpa using c7
    (try (have c7b1 : decide ((((rd_T67 l0_0 x5_1).f0.f0).toList) = a1_0.toList && ((((rd_T67 l0_0 x5_1).f0.f1).toList) == a1_1.toList)) = false := by simpa using c7))
    (try (have c7b2 : ((((rd_T67 l0_0 x5_1).f0.f0).toList) == a1_0.toList && ((((rd_T67 l0_0 x5_1).f0.f1).toList) == a1_1.toList)) = false := by simpa using c7))
    (try (have c7b3 : ¬ ((((rd_T67 l0_0 x5_1).f0.f0).toList) = a1_0.toList && ((((rd_T67 l0_0 x5_1).f0.f1).toList) == a1_1.toList)) := by simpa using c7))
    clear c7
    have H' := am H; clear H
    have hnb11 := NB127_128.out
    have hnc11 := NB128_127.out
    obtain ⟨z12_0, z12_1, y12_0, y12_1⟩ := blk2 BK127.out
    have p129 : 0 ≤ (x5_1 : Int) := ode
    have q129 : x5_1 < (l0_0.length : Int) := ode
    obtain ⟨ad129, e129, hx129_0, hx129_1, hx129_2⟩ := at_T67 HR0_0.out x5_1 p129 q129
    cases e129
    obtain ⟨hx129_0, hx129_1, hx129_2⟩ := hb3 HB.out hx129_0 hx129_1 hx129_2
    replace p129 := eq_true p129
    replace q129 := eq_true q129
    obtain ⟨z13_0, z13_1, y13_0, y13_1⟩ := blk2 BK128.out
    go_wp2
    repeat (go_quiet (fail); try go_wp2)
    go_roundg k1
    case measure => have := HK1.out; omega
    case rel => exact ⟨(wrap64 (x5_1 + 1)), rs, H', ⟨by have := HK1.out; omega⟩, ⟨bk BK127.out⟩, ⟨bk BK128.out⟩, ⟨bl⟩⟩
   obtain rfl := Option.some.inj H
   have hnb14 := NB127_128.out
   have hnc14 := NB128_127.out
   obtain ⟨z15_0, z15_1, y15_0, y15_1⟩ := blk2 BK127.out
   go_wp2
   repeat (go_quiet (fail); try go_wp2)
   go_ret
   exact ⟨er, bl⟩

/-! ### spec_BookBalance: function 14 -/
def spec_BookBalance.f (k : Nat) (l0_0 : List (S67)) (l0_1 : List ByteArray) (a1_0 : ByteArray) (a1_1 : ByteArray) : Option (Int × Int) := (spec_BookRight.f k l0_0 l0_1).bind fun t133 => (if t133 = true then ((spec_l05Find.f k l0_0 l0_1 a1_0 a1_1).bind fun t134 => (if t134 < 0 then (some (0, 8)) else (if 0 ≤ t134 then (if t134 < (l0_0.length : Int) then (some ((rd_T67 l0_0 t134).f1, 0)) else (none)) else (none)))) else (some (0, 1)))
theorem spec_BookBalance.mono : ∀ a0 a1 a2 a3 k, LeO (spec_BookBalance.f k a0 a1 a2 a3) (spec_BookBalance.f (k + 1) a0 a1 a2 a3) := by
 intro a0 a1 a2 a3 k
 unfold spec_BookBalance.f
 repeat' (with_reducible first | exact spec_BookRight.mono .. | exact spec_l05Find.mono .. | exact LeO.refl _ | exact LeO.none _ | refine LeO.ite ?_ ?_ | refine LeO.bind ?_ (fun _ => ?_))
theorem spec_BookBalance.calls (k : Nat) (A0_0 : Option Addr) (c0_0 : Nat) (l0_0 : List (S67)) (A0_1 : Option Addr) (c0_1 : Nat) (l0_1 : List ByteArray) (a1_0 : ByteArray) (a1_1 : ByteArray) (r1 : Int) (r2 : Int) (w : World) (hr0_0 : Kd.C k67 w A0_0 l0_0.length l0_0) (hc0_0 : l0_0.length ≤ c0_0) (hr0_1 : Kd.C Kd.string w A0_1 l0_1.length l0_1) (hc0_1 : l0_1.length ≤ c0_1) (h : spec_BookBalance.f k l0_0 l0_1 a1_0 a1_1 = some (r1, r2)) :
  Calls Tryd.prog 14 #[.agg #[.slice A0_0 l0_0.length c0_0, .slice A0_1 l0_1.length c0_1], .agg #[.string a1_0, .string a1_1]] w fun e w' => e = .returned (.agg #[.int .i64 r1, .int .i64 r2]) ∧ Below w.heap.size w w' := by
 have hu43 := Tryd.underlying43
 have hu45 := Tryd.underlying45
 have hu39 := Tryd.underlying39
 have HR0_0 := am hr0_0
 have HC0_0 := am hc0_0
 clear hr0_0 hc0_0
 have HR0_1 := am hr0_1
 have HC0_1 := am hc0_1
 clear hr0_1 hc0_1
 have HB := am (Below.refl w.heap.size w)
 have H : ((spec_BookRight.f k l0_0 l0_1).bind fun t133 => (if t133 = true then ((spec_l05Find.f k l0_0 l0_1 a1_0 a1_1).bind fun t134 => (if t134 < 0 then (some (0, 8)) else (if 0 ≤ t134 then (if t134 < (l0_0.length : Int) then (some ((rd_T67 l0_0 t134).f1, 0)) else (none)) else (none)))) else (some (0, 1)))) = some (r1, r2) := h
 clear h
 replace H := Option.bind_eq_some_iff.mp H
 obtain ⟨t133, A30, H⟩ := H
 replace H : (if t133 = true then ((spec_l05Find.f k l0_0 l0_1 a1_0 a1_1).bind fun t134 => (if t134 < 0 then (some (0, 8)) else (if 0 ≤ t134 then (if t134 < (l0_0.length : Int) then (some ((rd_T67 l0_0 t134).f1, 0)) else (none)) else (none)))) else (some (0, 1))) = some (r1, r2) := H
 have A3 := am A30; clear A30
 by_cases c4 : t133 = true
 ·subst c4
  have H1 : ((spec_l05Find.f k l0_0 l0_1 a1_0 a1_1).bind fun t134 => (if t134 < 0 then (some (0, 8)) else (if 0 ≤ t134 then (if t134 < (l0_0.length : Int) then (some ((rd_T67 l0_0 t134).f1, 0)) else (none)) else (none)))) = some (r1, r2) := by rw [if_pos rfl] at H; exact H
  clear H
  have H := H1
  clear H1
  replace H := Option.bind_eq_some_iff.mp H
  obtain ⟨t134, A50, H⟩ := H
  replace H : (if t134 < 0 then (some (0, 8)) else (if 0 ≤ t134 then (if t134 < (l0_0.length : Int) then (some ((rd_T67 l0_0 t134).f1, 0)) else (none)) else (none))) = some (r1, r2) := H
  have A5 := am A50; clear A50
  revert H; refine iDb (fun c6b0 H => ?_) fun c6b0 H => ?_
  ·simp only [Option.some.injEq, Prod.mk.injEq] at H
   obtain ⟨rfl, rfl⟩ := H
   go_enter Tryd.func14, Tryd.ntmps14
   go_wp2_with (first | ((with_reducible refine g_ 2 ?_); refine bx 2 #[.slice A0_0 l0_0.length c0_0, .slice A0_1 l0_1.length c0_1] 43 ?_; intro gb130 hg w7 hbox hb; have BK130 := am (hbox); have GW130 := am (bsz hg : w.heap.size ≤ gb130); have GE130 := GW130; replace HB := am (below_step bl hb); clear hb hbox hg) | ((with_reducible refine g_ 3 ?_); refine bx 3 #[.string a1_0, .string a1_1] 45 ?_; intro gb131 hg w8 hbox hb; have BK131 := am (hbox); have GW131 := am (bsz hg : w.heap.size ≤ gb131); have GE131 := GW131; have NB130_131 := am (ne1 hg BK130.out); have NB131_130 := am NB130_131.out.symm; replace BK130 := am (bkb BK130.out hb); replace HB := am (below_step bl hb); clear hb hbox hg) | ((with_reducible refine g_ 4 ?_); refine bx 4 #[.int .i64 0, .int .i64 0] 39 ?_; intro gb132 hg w9 hbox hb; have BK132 := am (hbox); have GW132 := am (bsz hg : w.heap.size ≤ gb132); have GE132 := GW132; have NB130_132 := am (ne1 hg BK130.out); have NB132_130 := am NB130_132.out.symm; replace BK130 := am (bkb BK130.out hb); have NB131_132 := am (ne1 hg BK131.out); have NB132_131 := am NB131_132.out.symm; replace BK131 := am (bkb BK131.out hb); replace HB := am (below_step bl hb); clear hb hbox hg; have hnb10 := NB130_131.out; have hnc10 := NB131_130.out; have hnb11 := NB130_132.out; have hnc11 := NB132_130.out; obtain ⟨z12_0, z12_1, y12_0, y12_1⟩ := blk2 BK130.out) | ((with_reducible refine c_ 29 ?_); refine gc 29 (some 7) Tryd.func29 (spec_BookRight.calls _ _ _ _ _ _ _ _ _ ?side1 ?side2 ?side3 ?side4 A3.out) ?_; (case side1 => exact cb HR0_0.out); (case side2 => exact HC0_0.out); (case side3 => exact cb HR0_1.out); (case side4 => exact HC0_1.out); rintro e w13 ⟨rfl, hb⟩; refine ⟨_, rfl, ?_⟩; replace BK130 := am (bkb BK130.out hb); replace BK131 := am (bkb BK131.out hb); replace BK132 := am (bkb BK132.out hb); replace HB := am (below_step bl hb); clear hb; obtain ⟨z14_0, z14_1, y14_0, y14_1⟩ := blk2 BK130.out; have hnb15 := NB131_132.out; have hnc15 := NB132_131.out; obtain ⟨z16_0, z16_1, y16_0, y16_1⟩ := blk2 BK131.out) | ((with_reducible refine c_ 30 ?_); refine gc 30 (some 12) Tryd.func30 (spec_l05Find.calls _ _ _ _ _ _ _ _ _ _ _ ?side1 ?side2 ?side3 ?side4 A5.out) ?_; (case side1 => exact cb HR0_0.out); (case side2 => exact HC0_0.out); (case side3 => exact cb HR0_1.out); (case side4 => exact HC0_1.out); rintro e w17 ⟨rfl, hb⟩; refine ⟨_, rfl, ?_⟩; replace BK130 := am (bkb BK130.out hb); replace BK131 := am (bkb BK131.out hb); replace BK132 := am (bkb BK132.out hb); replace HB := am (below_step bl hb); clear hb; obtain ⟨z18_0, z18_1, y18_0, y18_1⟩ := blk2 BK132.out))
   refine bodyPost_ret (results_cell_row rfl _ _ gb132 39 #[.int .i64 0, .int .i64 8] (0, 0) _ rfl (bp BK132.out) Tryd.underlying39 rfl (by kernel_rfl)) rfl ?_
   exact ⟨er, bl⟩
  revert H; refine i1 fun c19b0 H => ?_
  revert H; refine i1 fun c20b0 H => ?_
  simp only [Option.some.injEq, Prod.mk.injEq] at H
  obtain ⟨rfl, rfl⟩ := H
  go_enter Tryd.func14, Tryd.ntmps14
  go_wp2_with (first | ((with_reducible refine g_ 2 ?_); refine bx 2 #[.slice A0_0 l0_0.length c0_0, .slice A0_1 l0_1.length c0_1] 43 ?_; intro gb130 hg w21 hbox hb; have BK130 := am (hbox); have GW130 := am (bsz hg : w.heap.size ≤ gb130); have GE130 := GW130; replace HB := am (below_step bl hb); clear hb hbox hg) | ((with_reducible refine g_ 3 ?_); refine bx 3 #[.string a1_0, .string a1_1] 45 ?_; intro gb131 hg w22 hbox hb; have BK131 := am (hbox); have GW131 := am (bsz hg : w.heap.size ≤ gb131); have GE131 := GW131; have NB130_131 := am (ne1 hg BK130.out); have NB131_130 := am NB130_131.out.symm; replace BK130 := am (bkb BK130.out hb); replace HB := am (below_step bl hb); clear hb hbox hg) | ((with_reducible refine g_ 4 ?_); refine bx 4 #[.int .i64 0, .int .i64 0] 39 ?_; intro gb132 hg w23 hbox hb; have BK132 := am (hbox); have GW132 := am (bsz hg : w.heap.size ≤ gb132); have GE132 := GW132; have NB130_132 := am (ne1 hg BK130.out); have NB132_130 := am NB130_132.out.symm; replace BK130 := am (bkb BK130.out hb); have NB131_132 := am (ne1 hg BK131.out); have NB132_131 := am NB131_132.out.symm; replace BK131 := am (bkb BK131.out hb); replace HB := am (below_step bl hb); clear hb hbox hg; have hnb24 := NB130_131.out; have hnc24 := NB131_130.out; have hnb25 := NB130_132.out; have hnc25 := NB132_130.out; obtain ⟨z26_0, z26_1, y26_0, y26_1⟩ := blk2 BK130.out) | ((with_reducible refine c_ 29 ?_); refine gc 29 (some 7) Tryd.func29 (spec_BookRight.calls _ _ _ _ _ _ _ _ _ ?side1 ?side2 ?side3 ?side4 A3.out) ?_; (case side1 => exact cb HR0_0.out); (case side2 => exact HC0_0.out); (case side3 => exact cb HR0_1.out); (case side4 => exact HC0_1.out); rintro e w27 ⟨rfl, hb⟩; refine ⟨_, rfl, ?_⟩; replace BK130 := am (bkb BK130.out hb); replace BK131 := am (bkb BK131.out hb); replace BK132 := am (bkb BK132.out hb); replace HB := am (below_step bl hb); clear hb; obtain ⟨z28_0, z28_1, y28_0, y28_1⟩ := blk2 BK130.out; have hnb29 := NB131_132.out; have hnc29 := NB132_131.out; obtain ⟨z30_0, z30_1, y30_0, y30_1⟩ := blk2 BK131.out) | ((with_reducible refine c_ 30 ?_); refine gc 30 (some 12) Tryd.func30 (spec_l05Find.calls _ _ _ _ _ _ _ _ _ _ _ ?side1 ?side2 ?side3 ?side4 A5.out) ?_; (case side1 => exact cb HR0_0.out); (case side2 => exact HC0_0.out); (case side3 => exact cb HR0_1.out); (case side4 => exact HC0_1.out); rintro e w31 ⟨rfl, hb⟩; refine ⟨_, rfl, ?_⟩; replace BK130 := am (bkb BK130.out hb); replace BK131 := am (bkb BK131.out hb); replace BK132 := am (bkb BK132.out hb); replace HB := am (below_step bl hb); clear hb; obtain ⟨z32_0, z32_1, y32_0, y32_1⟩ := blk2 BK130.out; have p135 : 0 ≤ (t134 : Int) := ode; have q135 : t134 < (l0_0.length : Int) := ode; obtain ⟨ad135, e135, hx135_0, hx135_1, hx135_2⟩ := at_T67 HR0_0.out t134 p135 q135; cases e135; replace hx135_0 := hbc HB.out hx135_0; replace hx135_1 := hbc HB.out hx135_1; replace hx135_2 := hbc HB.out hx135_2; replace p135 := eq_true p135; replace q135 := eq_true q135; obtain ⟨z33_0, z33_1, y33_0, y33_1⟩ := blk2 BK132.out))
  refine bodyPost_ret (results_cell_row rfl _ _ gb132 39 #[.int .i64 ((rd_T67 l0_0 t134).f1), .int .i64 0] (0, 0) _ rfl (bp BK132.out) Tryd.underlying39 rfl (by kernel_rfl)) rfl ?_
  exact ⟨er, bl⟩
 replace c4 := Bool.eq_false_iff.mpr c4
 subst c4
 have H1 : (some (0, 1)) = some (r1, r2) := by rw [if_neg (show ¬ (false = true) by decide)] at H; exact H
 clear H
 have H := H1
 clear H1
 simp only [Option.some.injEq, Prod.mk.injEq] at H
 obtain ⟨rfl, rfl⟩ := H
 go_enter Tryd.func14, Tryd.ntmps14
 go_wp2_with (first | ((with_reducible refine g_ 2 ?_); refine bx 2 #[.slice A0_0 l0_0.length c0_0, .slice A0_1 l0_1.length c0_1] 43 ?_; intro gb130 hg w34 hbox hb; have BK130 := am (hbox); have GW130 := am (bsz hg : w.heap.size ≤ gb130); have GE130 := GW130; replace HB := am (below_step bl hb); clear hb hbox hg) | ((with_reducible refine g_ 3 ?_); refine bx 3 #[.string a1_0, .string a1_1] 45 ?_; intro gb131 hg w35 hbox hb; have BK131 := am (hbox); have GW131 := am (bsz hg : w.heap.size ≤ gb131); have GE131 := GW131; have NB130_131 := am (ne1 hg BK130.out); have NB131_130 := am NB130_131.out.symm; replace BK130 := am (bkb BK130.out hb); replace HB := am (below_step bl hb); clear hb hbox hg) | ((with_reducible refine g_ 4 ?_); refine bx 4 #[.int .i64 0, .int .i64 0] 39 ?_; intro gb132 hg w36 hbox hb; have BK132 := am (hbox); have GW132 := am (bsz hg : w.heap.size ≤ gb132); have GE132 := GW132; have NB130_132 := am (ne1 hg BK130.out); have NB132_130 := am NB130_132.out.symm; replace BK130 := am (bkb BK130.out hb); have NB131_132 := am (ne1 hg BK131.out); have NB132_131 := am NB131_132.out.symm; replace BK131 := am (bkb BK131.out hb); replace HB := am (below_step bl hb); clear hb hbox hg; have hnb37 := NB130_131.out; have hnc37 := NB131_130.out; have hnb38 := NB130_132.out; have hnc38 := NB132_130.out; obtain ⟨z39_0, z39_1, y39_0, y39_1⟩ := blk2 BK130.out) | ((with_reducible refine c_ 29 ?_); refine gc 29 (some 7) Tryd.func29 (spec_BookRight.calls _ _ _ _ _ _ _ _ _ ?side1 ?side2 ?side3 ?side4 A3.out) ?_; (case side1 => exact cb HR0_0.out); (case side2 => exact HC0_0.out); (case side3 => exact cb HR0_1.out); (case side4 => exact HC0_1.out); rintro e w40 ⟨rfl, hb⟩; refine ⟨_, rfl, ?_⟩; replace BK130 := am (bkb BK130.out hb); replace BK131 := am (bkb BK131.out hb); replace BK132 := am (bkb BK132.out hb); replace HB := am (below_step bl hb); clear hb; have hnb41 := NB132_131.out; have hnc41 := NB131_132.out; obtain ⟨z42_0, z42_1, y42_0, y42_1⟩ := blk2 BK132.out))
 refine bodyPost_ret (results_cell_row rfl _ _ gb132 39 #[.int .i64 0, .int .i64 1] (0, 0) _ rfl (bp BK132.out) Tryd.underlying39 rfl (by kernel_rfl)) rfl ?_
 exact ⟨er, bl⟩

/-! ### laws_toSpot: function 16 -/
def laws_toSpot.f (a0_0 : ByteArray) (a0_1 : ByteArray) : Option (ByteArray × ByteArray) := some (a0_0, a0_1)
theorem laws_toSpot.calls (a0_0 : ByteArray) (a0_1 : ByteArray) (r1 : ByteArray) (r2 : ByteArray) (w : World) (h : laws_toSpot.f a0_0 a0_1 = some (r1, r2)) :
  Calls Tryd.prog 16 #[.agg #[.string a0_0, .string a0_1]] w fun e w' => e = .returned (.agg #[.string r1, .string r2]) ∧ Below w.heap.size w w' := by
 have hu35 := Tryd.underlying35
 have hu45 := Tryd.underlying45
 have HB := am (Below.refl w.heap.size w)
 have H : (some (a0_0, a0_1)) = some (r1, r2) := h
 clear h
 simp only [Option.some.injEq, Prod.mk.injEq] at H
 obtain ⟨rfl, rfl⟩ := H
 go_enter Tryd.func16, Tryd.ntmps16
 go_wp2_with (first | ((with_reducible refine g_ 1 ?_); refine bx 1 #[.string a0_0, .string a0_1] 35 ?_; intro gb136 hg w2 hbox hb; have BK136 := am (hbox); have GW136 := am (bsz hg : w.heap.size ≤ gb136); have GE136 := GW136; replace HB := am (below_step bl hb); clear hb hbox hg) | ((with_reducible refine g_ 2 ?_); refine bx 2 #[.string (⟨#[]⟩ : ByteArray), .string (⟨#[]⟩ : ByteArray)] 45 ?_; intro gb137 hg w3 hbox hb; have BK137 := am (hbox); have GW137 := am (bsz hg : w.heap.size ≤ gb137); have GE137 := GW137; have NB136_137 := am (ne1 hg BK136.out); have NB137_136 := am NB136_137.out.symm; replace BK136 := am (bkb BK136.out hb); replace HB := am (below_step bl hb); clear hb hbox hg) | ((with_reducible refine g_ 3 ?_); refine bx 3 #[.string (⟨#[]⟩ : ByteArray), .string (⟨#[]⟩ : ByteArray)] 45 ?_; intro gb138 hg w4 hbox hb; have BK138 := am (hbox); have GW138 := am (bsz hg : w.heap.size ≤ gb138); have GE138 := GW138; have NB136_138 := am (ne1 hg BK136.out); have NB138_136 := am NB136_138.out.symm; replace BK136 := am (bkb BK136.out hb); have NB137_138 := am (ne1 hg BK137.out); have NB138_137 := am NB137_138.out.symm; replace BK137 := am (bkb BK137.out hb); replace HB := am (below_step bl hb); clear hb hbox hg; have hnb5 := NB136_137.out; have hnc5 := NB137_136.out; have hnb6 := NB136_138.out; have hnc6 := NB138_136.out; obtain ⟨z7_0, z7_1, y7_0, y7_1⟩ := blk2 BK136.out; have hnb8 := NB138_137.out; have hnc8 := NB137_138.out; obtain ⟨z9_0, z9_1, y9_0, y9_1⟩ := blk2 BK138.out; obtain ⟨z10_0, z10_1, y10_0, y10_1⟩ := blk2 BK137.out))
 refine bodyPost_ret (results_cell_row rfl _ _ gb137 45 #[.string a0_0, .string a0_1] (0, 0) _ rfl (bpf BK137.out NB137_138.out) Tryd.underlying45 rfl (by kernel_rfl)) rfl ?_
 exact ⟨er, bl⟩

/-! ### laws_toLine: function 49 -/
def laws_toLine.f (a0_0 : ByteArray) (a0_1 : ByteArray) (a0_2 : Int) : Option (ByteArray × ByteArray × Int) := (laws_toSpot.f a0_0 a0_1).bind fun bt142 => (some (bt142.1, bt142.2, a0_2))
theorem laws_toLine.calls (a0_0 : ByteArray) (a0_1 : ByteArray) (a0_2 : Int) (r1 : ByteArray) (r2 : ByteArray) (r3 : Int) (w : World) (h : laws_toLine.f a0_0 a0_1 a0_2 = some (r1, r2, r3)) :
  Calls Tryd.prog 49 #[.agg #[.string a0_0, .string a0_1, .int .i64 a0_2]] w fun e w' => e = .returned (.agg #[.string r1, .string r2, .int .i64 r3]) ∧ Below w.heap.size w w' := by
 have hu85 := Tryd.underlying85
 have hu67 := Tryd.underlying67
 have hu35 := Tryd.underlying35
 have hu45 := Tryd.underlying45
 have HB := am (Below.refl w.heap.size w)
 have H : ((laws_toSpot.f a0_0 a0_1).bind fun bt142 => (some (bt142.1, bt142.2, a0_2))) = some (r1, r2, r3) := h
 clear h
 replace H := Option.bind_eq_some_iff.mp H
 obtain ⟨⟨t142, t143⟩, A20, H⟩ := H
 replace H : (some (t142, t143, a0_2)) = some (r1, r2, r3) := H
 have A2 := am A20; clear A20
 simp only [Option.some.injEq, Prod.mk.injEq] at H
 obtain ⟨rfl, rfl, rfl⟩ := H
 go_enter Tryd.func49, Tryd.ntmps49
 go_wp2_with (first | ((with_reducible refine g_ 1 ?_); refine bx 1 #[.string a0_0, .string a0_1, .int .i64 a0_2] 85 ?_; intro gb139 hg w3 hbox hb; have BK139 := am (hbox); have GW139 := am (bsz hg : w.heap.size ≤ gb139); have GE139 := GW139; replace HB := am (below_step bl hb); clear hb hbox hg) | ((with_reducible refine g_ 2 ?_); refine bx 2 #[.string (⟨#[]⟩ : ByteArray), .string (⟨#[]⟩ : ByteArray), .int .i64 0] 67 ?_; intro gb140 hg w4 hbox hb; have BK140 := am (hbox); have GW140 := am (bsz hg : w.heap.size ≤ gb140); have GE140 := GW140; have NB139_140 := am (ne1 hg BK139.out); have NB140_139 := am NB139_140.out.symm; replace BK139 := am (bkb BK139.out hb); replace HB := am (below_step bl hb); clear hb hbox hg) | ((with_reducible refine g_ 3 ?_); refine bx 3 #[.string (⟨#[]⟩ : ByteArray), .string (⟨#[]⟩ : ByteArray), .int .i64 0] 67 ?_; intro gb141 hg w5 hbox hb; have BK141 := am (hbox); have GW141 := am (bsz hg : w.heap.size ≤ gb141); have GE141 := GW141; have NB139_141 := am (ne1 hg BK139.out); have NB141_139 := am NB139_141.out.symm; replace BK139 := am (bkb BK139.out hb); have NB140_141 := am (ne1 hg BK140.out); have NB141_140 := am NB140_141.out.symm; replace BK140 := am (bkb BK140.out hb); replace HB := am (below_step bl hb); clear hb hbox hg; have hnb6 := NB139_140.out; have hnc6 := NB140_139.out; have hnb7 := NB139_141.out; have hnc7 := NB141_139.out; obtain ⟨z8_0, z8_1, z8_2, y8_0, y8_1, y8_2⟩ := blk3 BK139.out) | ((with_reducible refine c_ 16 ?_); refine gc 16 (some 6) Tryd.func16 (laws_toSpot.calls _ _ _ _ _ A2.out) ?_; rintro e w9 ⟨rfl, hb⟩; refine ⟨_, rfl, ?_⟩; replace BK139 := am (bkb BK139.out hb); replace BK140 := am (bkb BK140.out hb); replace BK141 := am (bkb BK141.out hb); replace HB := am (below_step bl hb); clear hb; have hnb10 := NB141_140.out; have hnc10 := NB140_141.out; obtain ⟨z11_0, z11_1, z11_2, y11_0, y11_1, y11_2⟩ := blk3 BK141.out; obtain ⟨z12_0, z12_1, z12_2, y12_0, y12_1, y12_2⟩ := blk3 BK139.out; obtain ⟨z13_0, z13_1, z13_2, y13_0, y13_1, y13_2⟩ := blk3 BK140.out))
 refine bodyPost_ret (results_cell_row rfl _ _ gb140 67 #[.string t142, .string t143, .int .i64 a0_2] (0, 0) _ rfl (bpf BK140.out NB140_141.out) Tryd.underlying67 rfl (by kernel_rfl)) rfl ?_
 exact ⟨er, bl⟩

/-! ### laws_toLineS: function 31 -/
def laws_toLineS.l0 : Nat → List (S85) → List (S67) → Int → Option ((List (S67)))
 | 0, _, _, _ => none
 | k + 1, x0, x3, x4 => if x4 < (x0.length : Int) then (if 0 ≤ x4 then ((laws_toLine.f ((rd_T85 x0 x4).f0.f0) ((rd_T85 x0 x4).f0.f1) ((rd_T85 x0 x4).f1)).bind fun bt148 => (if x4 < (x3.length : Int) then (laws_toLineS.l0 k x0 (x3.set (x4 : Int).toNat (⟨(⟨bt148.1, bt148.2.1⟩ : S45), bt148.2.2⟩ : S67)) (wrap64 (x4 + 1))) else (none))) else (none)) else (some x3)
def laws_toLineS.f (k : Nat) (l0 : List (S85)) : Option ((List (S67))) := if 0 ≤ (l0.length : Int) then (if ((l0.length : Int) : Int).toNat ≤ 7036874417766 then (laws_toLineS.l0 k l0 (List.replicate ((l0.length : Int) : Int).toNat z67) 0) else (none)) else (none)
theorem laws_toLineS.mono_l : ∀ k, (∀ y0 y1 y2, LeO (laws_toLineS.l0 k y0 y1 y2) (laws_toLineS.l0 (k + 1) y0 y1 y2))
 | 0 => fun _ _ _ r h => by simp [laws_toLineS.l0] at h
 | k + 1 => by
  have ih0 := laws_toLineS.mono_l k
  ·intro y0 y1 y2
   unfold laws_toLineS.l0
   exact mo
theorem laws_toLineS.mono : ∀ a0 k, LeO (laws_toLineS.f k a0) (laws_toLineS.f (k + 1) a0) := by
 intro a0 k
 have ih0 := laws_toLineS.mono_l k
 unfold laws_toLineS.f
 exact mo
theorem laws_toLineS.calls (k : Nat) (A0 : Option Addr) (c0 : Nat) (l0 : List (S85)) (r : List (S67)) (w : World) (hr0 : Kd.C k85 w A0 l0.length l0) (hc0 : l0.length ≤ c0) (h : laws_toLineS.f k l0 = some r) :
  Calls Tryd.prog 31 #[.slice A0 l0.length c0] w fun e w' => ∃ v0_ : Value, e = .returned (v0_) ∧ Kd.R k67 67 w' w.heap.size (fun _ => True) v0_ r ∧ Below w.heap.size w w' := by
 have hu85 := Tryd.underlying85
 have hu67 := Tryd.underlying67
 have HR0 := am hr0
 have HC0 := am hc0
 clear hr0 hc0
 have HB := am (Below.refl w.heap.size w)
 have H := h
 clear h
 unfold laws_toLineS.f at H
 revert H; refine i2 fun c2b0 c2b1 H => ?_
 revert H; refine i2 fun c3b0 c3b1 H => ?_
 generalize h_ : ((List.replicate ((l0.length : Int) : Int).toNat z67) : List (S67)) = y144 at H
 have Ny144 := am h_.symm; clear h_
 have H' := am H; clear H
 go_enter Tryd.func31, Tryd.ntmps31
 go_wp2_with (first | ((with_reducible refine gate_dst (N := 7) rfl ?_); refine Kd.R_make k67 _ 67 rfl (N := 7) rfl 41 _ _ rfl (l0.length : Int) rfl rfl Tryd.underlying41 (.agg #[(.string ⟨#[]⟩), (.string ⟨#[]⟩), (.int .i64 0)]) 40 info67 rfl (by decide) (by omega) z67 (ok := fun _ => True) (okp := fun _ => True) (k67_mkM _ _ _ z67 ) (fun _ hk => hk) trivial (ode) (Nat.le_trans (Nat.mul_le_mul_right _ (ode : (l0.length : Int).toNat ≤ 7036874417766)) (by omega)) (Below.refl _ _) (Nat.le_refl _) ?_; intro v145 w4 ho5 hb hg_ hnew_; clear hg_ hnew_; (first | rw [← Ny144.out] at ho5 | (simp only [Int.reduceToNat] at ho5; rw [← Ny144.out] at ho5)); have HO146 := am (Kd.R_lower ho5 (below_size bl)); replace HB := am (below_step bl hb); clear hb ho5))
 go_loopg [4] k (fun kq v4 w' => ∃ (x3_1 : List (S67)) (x4_1 : Int), v4 = .int .i64 x4_1 ∧ Aside0 (laws_toLineS.l0 kq l0 x3_1 x4_1 = some r) ∧ Aside0 (kq ≤ k) ∧ Aside0 (Kd.R k67 67 w' w.heap.size (fun _ => True) v145 x3_1) ∧ Aside0 (Below w.heap.size w w'))
 case atStart => exact ⟨(y144), (0), rs, H', ⟨Nat.le_refl _⟩, ⟨kr HO146.out⟩, ⟨bl⟩⟩
 case round =>
  clear H'
  try clear c2b0; try clear c2b1; try clear c3b0; try clear c3b1
  obtain ⟨x3_1, x4_1, rfl, HA, HK1, HO_3, HB⟩ := hrel
  cases gk with
  | zero => exact absurd HA.out (by simp [laws_toLineS.l0])
  | succ k1 =>
   have H := HA.out
   clear HA
   simp only [laws_toLineS.l0] at H
   revert H; refine iDb (fun c6b0 H => ?_) fun c6b0 H => ?_
   ·revert H; refine i1 fun c7b0 H => ?_
    replace H := bi H; obtain ⟨⟨t148, t149, t150⟩, A8, H⟩ := H; dsimp only at H
    revert H; refine i1 fun c9b0 H => ?_
    generalize h_ : ((x3_1.set (x4_1 : Int).toNat (⟨(⟨t148, t149⟩ : S45), t150⟩ : S67)) : List (S67)) = y151 at H
    have Ny151 := am h_.symm; clear h_
    have H' := am H; clear H
    have p147 : 0 ≤ (x4_1 : Int) := ode
    have q147 : x4_1 < (l0.length : Int) := ode
    obtain ⟨ad147, e147, hx147_0, hx147_1, hx147_2⟩ := at_T85 HR0.out x4_1 p147 q147
    cases e147
    obtain ⟨hx147_0, hx147_1, hx147_2⟩ := hb3 HB.out hx147_0 hx147_1 hx147_2
    replace p147 := eq_true p147
    replace q147 := eq_true q147
    go_wp2_with (first | ((with_reducible refine c_ 49 ?_); refine gc 49 (some 20) Tryd.func49 (laws_toLine.calls _ _ _ _ _ _ _ A8.out) ?_; rintro e w11 ⟨rfl, hb⟩; refine ⟨_, rfl, ?_⟩; replace HO_3 := am (rb HO_3.out hb); replace HB := am (below_step bl hb); clear hb; have p10 : 0 ≤ (x4_1 : Int) := ode; have q10 : (x4_1 : Int) < ((x3_1.length : Int) : Int) := ode; obtain ⟨go10, co10, eo10, gb10, gl10, cl10, HG10⟩ := Kd.R_form HO_3.out (by omega); (first | cases eo10 | (injection eo10 with ea_ en_ ec_; (first | subst ea_ | (injection ea_ with ea_; subst ea_)); subst ec_; clear en_)); have GB10 := Aside0.mk gb10; have GG10 := Aside0.mk HG10; clear gb10 gl10 HG10; obtain ⟨ce10, hcl10, hM10, hcc10, hfr10⟩ := Kd.R_elem HO_3.out z67 (x4_1 : Int) p10 q10; obtain rfl := k67_openM hM10; have hx10_0 : w11.cell? ⟨go10, (x4_1 : Int).toNat * 3, none⟩ = some (.string ((rd_T67 x3_1 x4_1).f0.f0)) := hcc10 0 _ rfl; have hx10_1 : w11.cell? ⟨go10, (x4_1 : Int).toNat * 3 + 1, none⟩ = some (.string ((rd_T67 x3_1 x4_1).f0.f1)) := hcc10 1 _ rfl; have hx10_2 : w11.cell? ⟨go10, (x4_1 : Int).toNat * 3 + 2, none⟩ = some (.int .i64 ((rd_T67 x3_1 x4_1).f1)) := hcc10 2 _ rfl; have hf10_0 : w11.frozen? ⟨go10, (x4_1 : Int).toNat * 3, none⟩ = false := hfr10 0; have hf10_1 : w11.frozen? ⟨go10, (x4_1 : Int).toNat * 3 + 1, none⟩ = false := hfr10 1; have hf10_2 : w11.frozen? ⟨go10, (x4_1 : Int).toNat * 3 + 2, none⟩ = false := hfr10 2; clear hcl10 hcc10 hfr10 hM10; replace p10 := eq_true p10; replace q10 := eq_true q10; have HX12 := am (show Kd.R k67 67 w11 w.heap.size (fun _ => True) (.slice (some ⟨go10, 0, none⟩) x3_1.length co10) x3_1 from (kr HO_3.out)); obtain ⟨ce12, hcl12, hM12, hcc12, hfr12⟩ := Kd.R_elem HX12.out z67 (x4_1 : Int) (ode) (by have h_ : (x4_1 : Int) < ((x3_1.length : Int) : Int) := ode; first | exact h_ | (have e_ := (Kd.R_reads' HO_3.out).1; omega) | simpa using h_); obtain rfl := k67_openM hM12; have HP12 := Kd.R_seg HX12.out (x4_1 : Int) (ode) (by have h_ : (x4_1 : Int) < ((x3_1.length : Int) : Int) := ode; first | exact h_ | (have e_ := (Kd.R_reads' HO_3.out).1; omega) | simpa using h_) (seg := [.string t148, .string t149, .int .i64 t150]) (j := 0) hcl12 hcc12 (show 3 ≤ 3 from by decide) (x' := (⟨(⟨t148, t149⟩ : S45), t150⟩ : S67)) (k67_mkM _ _ _ (⟨(⟨t148, t149⟩ : S45), t150⟩ : S67) ) (fun _ hk => hk); have hx12_0 := hcc12 0 _ rfl; (try simp only [show (k67).sz = 3 from rfl, Nat.mul_one, Nat.add_zero] at hx12_0); have hf12_0 := hfr12 0; (try simp only [show (k67).sz = 3 from rfl, Nat.mul_one, Nat.add_zero] at hf12_0); have hx12_1 := hcc12 1 _ rfl; (try simp only [show (k67).sz = 3 from rfl, Nat.mul_one, Nat.add_zero] at hx12_1); have hf12_1 := hfr12 1; (try simp only [show (k67).sz = 3 from rfl, Nat.mul_one, Nat.add_zero] at hf12_1); have hx12_2 := hcc12 2 _ rfl; (try simp only [show (k67).sz = 3 from rfl, Nat.mul_one, Nat.add_zero] at hx12_2); have hf12_2 := hfr12 2; (try simp only [show (k67).sz = 3 from rfl, Nat.mul_one, Nat.add_zero] at hf12_2); clear hcl12 hcc12 hfr12 hM12) | ((with_reducible refine gate_store (t := 67) (p := 21) rfl ?_); refine store_event (t := 67) (p := 21) (v := ?vo_w13) (w1 := (((w11.setCell ⟨go10, (x4_1 : Int).toNat * 3, none⟩ (.string t148)).setCell ⟨go10, (x4_1 : Int).toNat * 3 + 1, none⟩ (.string t149)).setCell ⟨go10, (x4_1 : Int).toNat * 3 + 2, none⟩ (.int .i64 t150))) ?hg ?ho ?hn ?hr ?_; (case ho => rfl); (case hg => rfl); (case hn => rfl); (case hr => first | (go_simp; done) | (go_simp; rfl)); intro w13 hw; have hg : w11.grownBy w13 (some go10) := (by rw [hw]; exact HP12.2); have hp_ : Kd.R k67 67 w13 w.heap.size (fun _ => True) (.slice (some ⟨go10, 0, none⟩) x3_1.length co10) y151 := (by rw [hw, Ny151.out]; exact HP12.1); clear HP12; replace HO_3 := am (hp_); replace HB := am ((by rw [hw]; exact below_set (below_set (below_set (HB.out) GB10.out) GB10.out) GB10.out : Below w.heap.size w w13)); clear hg hw hp_))
    go_roundg k1
    case measure => have := HK1.out; omega
    case rel => exact ⟨(y151), (wrap64 (x4_1 + 1)), rs, H', ⟨by have := HK1.out; omega⟩, ⟨kr HO_3.out⟩, ⟨bl⟩⟩
   obtain rfl := Option.some.inj H
   go_wp2
   go_ret
   exact ⟨_, er, kr HO_3.out, bl⟩

/-! ### laws_toStringS: function 32 -/
def laws_toStringS.l0 : Nat → List ByteArray → List ByteArray → Int → Option (List ByteArray)
 | 0, _, _, _ => none
 | k + 1, x0, x3, x4 => if x4 < (x0.length : Int) then (if 0 ≤ x4 then (if x4 < (x3.length : Int) then (laws_toStringS.l0 k x0 (x3.set (x4 : Int).toNat (rdOf ByteArray.empty x0 x4)) (wrap64 (x4 + 1))) else (none)) else (none)) else (some x3)
def laws_toStringS.f (k : Nat) (l0 : List ByteArray) : Option (List ByteArray) := if 0 ≤ (l0.length : Int) then (if ((l0.length : Int) : Int).toNat ≤ 17592186044416 then (laws_toStringS.l0 k l0 (List.replicate ((l0.length : Int) : Int).toNat (⟨#[]⟩ : ByteArray)) 0) else (none)) else (none)
theorem laws_toStringS.mono_l : ∀ k, (∀ y0 y1 y2, LeO (laws_toStringS.l0 k y0 y1 y2) (laws_toStringS.l0 (k + 1) y0 y1 y2))
 | 0 => fun _ _ _ r h => by simp [laws_toStringS.l0] at h
 | k + 1 => by
  have ih0 := laws_toStringS.mono_l k
  ·intro y0 y1 y2
   unfold laws_toStringS.l0
   exact mo
theorem laws_toStringS.mono : ∀ a0 k, LeO (laws_toStringS.f k a0) (laws_toStringS.f (k + 1) a0) := by
 intro a0 k
 have ih0 := laws_toStringS.mono_l k
 unfold laws_toStringS.f
 exact mo
theorem laws_toStringS.calls (k : Nat) (A0 : Option Addr) (c0 : Nat) (l0 : List ByteArray) (r : List ByteArray) (w : World) (hr0 : Kd.C Kd.string w A0 l0.length l0) (hc0 : l0.length ≤ c0) (h : laws_toStringS.f k l0 = some r) :
  Calls Tryd.prog 32 #[.slice A0 l0.length c0] w fun e w' => ∃ v0_ : Value, e = .returned (v0_) ∧ Kd.R Kd.string 9 w' w.heap.size (fun _ => True) v0_ r ∧ Below w.heap.size w w' := by
 have HR0 := am hr0
 have HC0 := am hc0
 clear hr0 hc0
 have HB := am (Below.refl w.heap.size w)
 have H := h
 clear h
 unfold laws_toStringS.f at H
 revert H; refine i2 fun c2b0 c2b1 H => ?_
 revert H; refine i2 fun c3b0 c3b1 H => ?_
 generalize h_ : ((List.replicate ((l0.length : Int) : Int).toNat (⟨#[]⟩ : ByteArray)) : List ByteArray) = y152 at H
 have Ny152 := am h_.symm; clear h_
 have H' := am H; clear H
 go_enter Tryd.func32, Tryd.ntmps32
 go_wp2_with (first | ((with_reducible refine gate_dst (N := 7) rfl ?_); refine Kd.R_make Kd.string _ 9 rfl (N := 7) rfl 31 _ _ rfl (l0.length : Int) rfl rfl Tryd.underlying31 (.string ⟨#[]⟩) 16 info9 rfl (by decide) (by omega) (⟨#[]⟩ : ByteArray) (ok := fun _ => True) (okp := fun _ => True) rfl (fun _ hk => hk) trivial (ode) (Nat.le_trans (Nat.mul_le_mul_right _ (ode : (l0.length : Int).toNat ≤ 17592186044416)) (by omega)) (Below.refl _ _) (Nat.le_refl _) ?_; intro v153 w4 ho5 hb hg_ hnew_; clear hg_ hnew_; (first | rw [← Ny152.out] at ho5 | (simp only [Int.reduceToNat] at ho5; rw [← Ny152.out] at ho5)); have HO154 := am (Kd.R_lower ho5 (below_size bl)); replace HB := am (below_step bl hb); clear hb ho5))
 go_loopg [4] k (fun kq v4 w' => ∃ (x3_1 : List ByteArray) (x4_1 : Int), v4 = .int .i64 x4_1 ∧ Aside0 (laws_toStringS.l0 kq l0 x3_1 x4_1 = some r) ∧ Aside0 (kq ≤ k) ∧ Aside0 (Kd.R Kd.string 9 w' w.heap.size (fun _ => True) v153 x3_1) ∧ Aside0 (Below w.heap.size w w'))
 case atStart => exact ⟨(y152), (0), rs, H', ⟨Nat.le_refl _⟩, ⟨kr HO154.out⟩, ⟨bl⟩⟩
 case round =>
  clear H'
  try clear c2b0; try clear c2b1; try clear c3b0; try clear c3b1
  obtain ⟨x3_1, x4_1, rfl, HA, HK1, HO_3, HB⟩ := hrel
  cases gk with
  | zero => exact absurd HA.out (by simp [laws_toStringS.l0])
  | succ k1 =>
   have H := HA.out
   clear HA
   simp only [laws_toStringS.l0] at H
   revert H; refine iDb (fun c6b0 H => ?_) fun c6b0 H => ?_
   ·revert H; refine i1 fun c7b0 H => ?_
    revert H; refine i1 fun c8b0 H => ?_
    generalize h_ : ((x3_1.set (x4_1 : Int).toNat (rdOf ByteArray.empty l0 x4_1)) : List ByteArray) = y156 at H
    have Ny156 := am h_.symm; clear h_
    have H' := am H; clear H
    have p155 : 0 ≤ (x4_1 : Int) := ode
    have q155 : x4_1 < (l0.length : Int) := ode
    obtain ⟨ad155, e155, hx155_0⟩ := Kd.at_string HR0.out x4_1 p155 q155
    cases e155
    replace hx155_0 := hbc HB.out hx155_0
    replace p155 := eq_true p155
    replace q155 := eq_true q155
    have p9 : 0 ≤ (x4_1 : Int) := ode
    have q9 : (x4_1 : Int) < ((x3_1.length : Int) : Int) := ode
    obtain ⟨go9, co9, eo9, gb9, gl9, cl9, HG9⟩ := Kd.R_form HO_3.out (by omega)
    (first | cases eo9 | (injection eo9 with ea_ en_ ec_; (first | subst ea_ | (injection ea_ with ea_; subst ea_)); subst ec_; clear en_))
    have GB9 := am gb9
    have GG9 := am HG9
    clear gb9 gl9 HG9
    obtain ⟨hx9_0, hf9_0⟩ := Kd.R_celln (⟨#[]⟩ : ByteArray) HO_3.out (x4_1 : Int) p9 q9
    replace p9 := eq_true p9
    replace q9 := eq_true q9
    have HP10 := Kd.R_putg HO_3.out (x4_1 : Int) (rdOf ByteArray.empty l0 x4_1)
    go_wp2_with (first | ((with_reducible refine gate_store (t := 9) (p := 20) rfl ?_); refine store_event (t := 9) (p := 20) (v := ?vo_w11) (w1 := (wr.setCell ⟨go9, (x4_1 : Int).toNat, none⟩ (.string (rdOf ByteArray.empty l0 x4_1)))) ?hg ?ho ?hn ?hr ?_; (case ho => rfl); (case hg => rfl); (case hn => rfl); (case hr => first | (go_simp; done) | (go_simp; rfl)); intro w11 hw; have hg : wr.grownBy w11 (some go9) := (by rw [hw]; exact HP10.2); have hp_ : Kd.R Kd.string 9 w11 w.heap.size (fun _ => True) (.slice (some ⟨go9, 0, none⟩) x3_1.length co9) y156 := (by rw [hw, Ny156.out]; exact HP10.1); clear HP10; replace HO_3 := am (hp_); replace HB := am ((by rw [hw]; exact below_set (HB.out) GB9.out : Below w.heap.size w w11)); clear hg hw hp_))
    go_roundg k1
    case measure => have := HK1.out; omega
    case rel => exact ⟨(y156), (wrap64 (x4_1 + 1)), rs, H', ⟨by have := HK1.out; omega⟩, ⟨kr HO_3.out⟩, ⟨bl⟩⟩
   obtain rfl := Option.some.inj H
   go_wp2
   go_ret
   exact ⟨_, er, kr HO_3.out, bl⟩

/-! ### laws_toBook: function 15 -/
def laws_toBook.f (k : Nat) (l0_0 : List (S85)) (l0_1 : List ByteArray) : Option ((List (S67)) × List ByteArray) := (laws_toLineS.f k l0_0).bind fun t160 => ((laws_toStringS.f k l0_1).bind fun t163 => (some (t160, t163)))
theorem laws_toBook.mono : ∀ a0 a1 k, LeO (laws_toBook.f k a0 a1) (laws_toBook.f (k + 1) a0 a1) := by
 intro a0 a1 k
 unfold laws_toBook.f
 repeat' (with_reducible first | exact laws_toLineS.mono .. | exact laws_toStringS.mono .. | exact LeO.refl _ | exact LeO.none _ | refine LeO.ite ?_ ?_ | refine LeO.bind ?_ (fun _ => ?_))
theorem laws_toBook.calls (k : Nat) (A0_0 : Option Addr) (c0_0 : Nat) (l0_0 : List (S85)) (A0_1 : Option Addr) (c0_1 : Nat) (l0_1 : List ByteArray) (r1 : List (S67)) (r2 : List ByteArray) (w : World) (hr0_0 : Kd.C k85 w A0_0 l0_0.length l0_0) (hc0_0 : l0_0.length ≤ c0_0) (hr0_1 : Kd.C Kd.string w A0_1 l0_1.length l0_1) (hc0_1 : l0_1.length ≤ c0_1) (h : laws_toBook.f k l0_0 l0_1 = some (r1, r2)) :
  Calls Tryd.prog 15 #[.agg #[.slice A0_0 l0_0.length c0_0, .slice A0_1 l0_1.length c0_1]] w fun e w' => ∃ v0_ v1_ : Value, e = .returned (.agg #[v0_, v1_]) ∧ Kd.R k67 67 w' w.heap.size (fun _ => True) v0_ r1 ∧ Kd.R Kd.string 9 w' w.heap.size (fun _ => True) v1_ r2 ∧ Below w.heap.size w w' := by
 have hu33 := Tryd.underlying33
 have hu43 := Tryd.underlying43
 have HR0_0 := am hr0_0
 have HC0_0 := am hc0_0
 clear hr0_0 hc0_0
 have HR0_1 := am hr0_1
 have HC0_1 := am hc0_1
 clear hr0_1 hc0_1
 have HB := am (Below.refl w.heap.size w)
 have H : ((laws_toLineS.f k l0_0).bind fun t160 => ((laws_toStringS.f k l0_1).bind fun t163 => (some (t160, t163)))) = some (r1, r2) := h
 clear h
 replace H := Option.bind_eq_some_iff.mp H
 obtain ⟨t160, A20, H⟩ := H
 replace H : ((laws_toStringS.f k l0_1).bind fun t163 => (some (t160, t163))) = some (r1, r2) := H
 have A2 := am A20; clear A20
 replace H := Option.bind_eq_some_iff.mp H
 obtain ⟨t163, A30, H⟩ := H
 replace H : (some (t160, t163)) = some (r1, r2) := H
 have A3 := am A30; clear A30
 simp only [Option.some.injEq, Prod.mk.injEq] at H
 obtain ⟨rfl, rfl⟩ := H
 go_enter Tryd.func15, Tryd.ntmps15
 go_wp2_with (first | ((with_reducible refine g_ 1 ?_); refine bx 1 #[.slice A0_0 l0_0.length c0_0, .slice A0_1 l0_1.length c0_1] 33 ?_; intro gb157 hg w4 hbox hb; have BK157 := am (hbox); have GW157 := am (bsz hg : w.heap.size ≤ gb157); have GE157 := GW157; replace HB := am (below_step bl hb); clear hb hbox hg) | ((with_reducible refine g_ 2 ?_); refine bx 2 #[.slice none 0 0, .slice none 0 0] 43 ?_; intro gb158 hg w5 hbox hb; have BK158 := am (hbox); have GW158 := am (bsz hg : w.heap.size ≤ gb158); have GE158 := GW158; have NB157_158 := am (ne1 hg BK157.out); have NB158_157 := am NB157_158.out.symm; replace BK157 := am (bkb BK157.out hb); replace HB := am (below_step bl hb); clear hb hbox hg) | ((with_reducible refine g_ 3 ?_); refine bx 3 #[.slice none 0 0, .slice none 0 0] 43 ?_; intro gb159 hg w6 hbox hb; have BK159 := am (hbox); have GW159 := am (bsz hg : w.heap.size ≤ gb159); have GE159 := GW159; have NB157_159 := am (ne1 hg BK157.out); have NB159_157 := am NB157_159.out.symm; replace BK157 := am (bkb BK157.out hb); have NB158_159 := am (ne1 hg BK158.out); have NB159_158 := am NB158_159.out.symm; replace BK158 := am (bkb BK158.out hb); replace HB := am (below_step bl hb); clear hb hbox hg; have hnb7 := NB157_158.out; have hnc7 := NB158_157.out; have hnb8 := NB157_159.out; have hnc8 := NB159_157.out; obtain ⟨z9_0, z9_1, y9_0, y9_1⟩ := blk2 BK157.out) | ((with_reducible refine c_ 31 ?_); refine gc 31 (some 6) Tryd.func31 (laws_toLineS.calls _ _ _ _ _ _ ?side1 ?side2 A2.out) ?_; (case side1 => exact cb HR0_0.out); (case side2 => exact HC0_0.out); rintro e w10 ⟨v161, rfl, ho0, hb⟩; refine ⟨_, rfl, ?_⟩; have HO162 := am (Kd.R_lower ho0 (below_size bl)); replace BK157 := am (bkb BK157.out hb); replace BK158 := am (bkb BK158.out hb); replace BK159 := am (bkb BK159.out hb); replace HB := am (below_step bl hb); clear hb ho0; obtain ⟨Ao11, co11, eo11⟩ := Kd.R_slice HO162.out; subst eo11; have hnb12 := NB159_158.out; have hnc12 := NB158_159.out; obtain ⟨z13_0, z13_1, y13_0, y13_1⟩ := blk2 BK159.out; obtain ⟨z14_0, z14_1, y14_0, y14_1⟩ := blk2 BK157.out) | ((with_reducible refine c_ 32 ?_); refine gc 32 (some 10) Tryd.func32 (laws_toStringS.calls _ _ _ _ _ _ ?side1 ?side2 A3.out) ?_; (case side1 => exact Kd.C_below HR0_1.out bl); (case side2 => exact HC0_1.out); rintro e w15 ⟨v164, rfl, ho0, hb⟩; refine ⟨_, rfl, ?_⟩; replace HO162 := am (Kd.R_below (by (with_reducible repeat (first | apply Kd.R_alloc | apply Kd.R_drewN | apply Kd.R_drew)); exact (Kd.R_mono (Kd.R_far (p := ⟨gb159, 0, none⟩) (Kd.R_types HO162.out BK159.out (by decide)) (fun _ hk => hk.2) (.slice Ao11 t160.length co11)) (fun _ h_ => h_.1))) hb); have HO165 := am (Kd.R_lower ho0 (below_size bl)); replace BK157 := am (blk_below (g := gb157) (o := .cells #[.slice A0_0 l0_0.length c0_0, .slice A0_1 l0_1.length c0_1] 33 (0, 0)) (bf BK157.out NB157_159.out) hb); replace BK158 := am (blk_below (g := gb158) (o := .cells #[.slice none 0 0, .slice none 0 0] 43 (0, 0)) (bf BK158.out NB158_159.out) hb); replace BK159 := am (blk_below (g := gb159) (o := .cells #[.slice Ao11 t160.length co11, .slice none 0 0] 43 (0, 0)) (bp BK159.out) hb); replace HB := am (below_step bl hb); clear hb ho0; obtain ⟨Ao16, co16, eo16⟩ := Kd.R_slice HO165.out; subst eo16; obtain ⟨z17_0, z17_1, y17_0, y17_1⟩ := blk2 BK159.out; obtain ⟨z18_0, z18_1, y18_0, y18_1⟩ := blk2 BK158.out))
 refine bodyPost_ret (results_cell_row rfl _ _ gb158 43 #[.slice Ao11 t160.length co11, .slice Ao16 t163.length co16] (0, 0) _ rfl (bpf BK158.out NB158_159.out) Tryd.underlying43 rfl (by kernel_rfl)) rfl ?_
 exact ⟨_, _, er, by (with_reducible repeat (first | apply Kd.R_alloc | apply Kd.R_drewN | apply Kd.R_drew)); exact Kd.R_mono (Kd.R_far (p := ⟨gb158, 1, none⟩) (Kd.R_far (p := ⟨gb158, 0, none⟩) (Kd.R_far (p := ⟨gb159, 1, none⟩) (Kd.R_types (Kd.R_types HO162.out BK159.out (by decide)) BK158.out (by decide)) (fun _ hk => hk.1.2) (.slice Ao16 t163.length co16)) (fun _ hk => hk.2) (.slice Ao11 t160.length co11)) (fun _ hk => hk.2) (.slice Ao16 t163.length co16)) (fun _ hk => trivial), by (with_reducible repeat (first | apply Kd.R_alloc | apply Kd.R_drewN | apply Kd.R_drew)); exact Kd.R_mono (Kd.R_far (p := ⟨gb158, 1, none⟩) (Kd.R_far (p := ⟨gb158, 0, none⟩) (Kd.R_far (p := ⟨gb159, 1, none⟩) (Kd.R_types (Kd.R_types HO165.out BK159.out (by decide)) BK158.out (by decide)) (fun _ hk => hk.1.2) (.slice Ao16 t163.length co16)) (fun _ hk => hk.2) (.slice Ao11 t160.length co11)) (fun _ hk => hk.2) (.slice Ao16 t163.length co16)) (fun _ hk => trivial), bl⟩

/-! ### strings_Trim: function 62 -/
def strings_Trim.f (a0 a1 : ByteArray) : Option ByteArray := if a0.size ≤ 9223372036854775807 ∧ a1.size < 4294967281 ∧ a1.data.toList.all (fun b => decide (b.toNat < 128)) = true then some ⟨(Lib.trimS a0.data.toList a1.data.toList).toArray⟩ else none
theorem strings_Trim.calls (a0 : ByteArray) (a1 : ByteArray) (r : ByteArray) (w : World) (h : strings_Trim.f a0 a1 = some r) :
  Calls Tryd.prog 62 #[.string a0, .string a1] w fun e w' => e = .returned (.string r) ∧ Below w.heap.size w w' := by
 unfold strings_Trim.f at h
 by_cases hd : a0.size ≤ 9223372036854775807 ∧ a1.size < 4294967281 ∧ a1.data.toList.all (fun b => decide (b.toNat < 128)) = true
 ·rw [if_pos hd] at h
  cases h
  exact Any.strings_Trim_laid Tryd.trim160 (by kernel_rfl) a0 a1 w hd.1 hd.2.1 (ascii_of_all hd.2.2)
 rw [if_neg hd] at h; cases h

/-! ### impl_isWord: function 60 -/
def impl_isWord.f (a0 : ByteArray) : Option (Bool) := if a0.toList = ([] : List UInt8) then (some false) else (if 0 ≤ 1 then (if 1 ≤ (a0.size : Int) then ((strings_Trim.f (a0.extract 0 1) (⟨#[97, 98, 99, 100, 101, 102, 103, 104, 105, 106, 107, 108, 109, 110, 111, 112, 113, 114, 115, 116, 117, 118, 119, 120, 121, 122]⟩ : ByteArray)).bind fun t166 => (if t166.toList = ([] : List UInt8) then ((strings_Trim.f a0 (⟨#[97, 98, 99, 100, 101, 102, 103, 104, 105, 106, 107, 108, 109, 110, 111, 112, 113, 114, 115, 116, 117, 118, 119, 120, 121, 122, 48, 49, 50, 51, 52, 53, 54, 55, 56, 57, 95]⟩ : ByteArray)).bind fun t167 => (some (t167.toList == ([] : List UInt8)))) else (some false))) else (none)) else (none))
theorem impl_isWord.calls (a0 : ByteArray) (r : Bool) (w : World) (h : impl_isWord.f a0 = some r) :
  Calls Tryd.prog 60 #[.string a0] w fun e w' => e = .returned (.bool r) ∧ Below w.heap.size w w' := by
 have HB := am (Below.refl w.heap.size w)
 have H := h
 clear h
 unfold impl_isWord.f at H
 revert H; refine iL (fun c2b0 c2b3 c2b1 H => ?_) fun c2 c2b0 c2b3 c2b1 H => ?_
 ·obtain rfl := Option.some.inj H
  go_enter Tryd.func60, Tryd.ntmps60
  go_wp2
  go_ret
  exact ⟨er, bl⟩
 revert H; refine i2 fun c3b0 c3b1 H => ?_
 revert H; refine i2 fun c4b0 c4b1 H => ?_
 revert H; refine bj fun t166 A5 H => ?_
 revert H; refine iL (fun c6b0 c6b3 c6b1 H => ?_) fun c6 c6b0 c6b3 c6b1 H => ?_
 ·revert H; refine bj fun t167 A7 H => ?_
  obtain rfl := Option.some.inj H
  go_enter Tryd.func60, Tryd.ntmps60
  go_wp2_with (first | (go_at_call 62; (with_reducible refine (strings_Trim.calls _ _ _ _ A5.out).mono ?_); rintro e w8 ⟨rfl, hb⟩; replace HB := am (below_step bl hb); clear hb) | (go_at_call 62; (with_reducible refine (strings_Trim.calls _ _ _ _ A7.out).mono ?_); rintro e w9 ⟨rfl, hb⟩; replace HB := am (below_step bl hb); clear hb))
  go_ret
  exact ⟨er, bl⟩
 obtain rfl := Option.some.inj H
 go_enter Tryd.func60, Tryd.ntmps60
 go_wp2_with (first | (go_at_call 62; (with_reducible refine (strings_Trim.calls _ _ _ _ A5.out).mono ?_); rintro e w10 ⟨rfl, hb⟩; replace HB := am (below_step bl hb); clear hb))
 go_ret
 exact ⟨er, bl⟩

/-! ### impl_NameRight: function 52 -/
def impl_NameRight.f (a0 : ByteArray) : Option (Bool) := if (a0.size : Int) ≤ 20 then ((impl_isWord.f a0).bind fun t168 => (some t168)) else (some false)
theorem impl_NameRight.calls (a0 : ByteArray) (r : Bool) (w : World) (h : impl_NameRight.f a0 = some r) :
  Calls Tryd.prog 52 #[.string a0] w fun e w' => e = .returned (.bool r) ∧ Below w.heap.size w w' := by
 have HB := am (Below.refl w.heap.size w)
 have H := h
 clear h
 unfold impl_NameRight.f at H
 revert H; refine iDn (fun c2 c2b0 H => ?_) fun c2 c2b0 H => ?_
 ·have c2b1 : decide (a0.size ≤ 20) = true := decide_eq_true (by omega)
  clear c2
  revert H; refine bj fun t168 A3 H => ?_
  obtain rfl := Option.some.inj H
  go_enter Tryd.func52, Tryd.ntmps52
  go_wp2_with (first | (go_at_call 60; (with_reducible refine (impl_isWord.calls _ _ _ A3.out).mono ?_); rintro e w4 ⟨rfl, hb⟩; replace HB := am (below_step bl hb); clear hb))
  go_ret
  exact ⟨er, bl⟩
 have c2b1 : decide (a0.size ≤ 20) = false := decide_eq_false (by omega)
 clear c2
 obtain rfl := Option.some.inj H
 go_enter Tryd.func52, Tryd.ntmps52
 go_wp2
 go_ret
 exact ⟨er, bl⟩

/-! ### impl_Spot_isRight: function 41 -/
def impl_Spot_isRight.f (a0_0 : ByteArray) (a0_1 : ByteArray) : Option (Bool) := (impl_NameRight.f a0_0).bind fun t170 => (if t170 = true then ((impl_NameRight.f a0_1).bind fun t171 => (some t171)) else (some false))
theorem impl_Spot_isRight.calls (a0_0 : ByteArray) (a0_1 : ByteArray) (r : Bool) (w : World) (h : impl_Spot_isRight.f a0_0 a0_1 = some r) :
  Calls Tryd.prog 41 #[.agg #[.string a0_0, .string a0_1]] w fun e w' => e = .returned (.bool r) ∧ Below w.heap.size w w' := by
 have hu45 := Tryd.underlying45
 have HB := am (Below.refl w.heap.size w)
 have H := h
 clear h
 unfold impl_Spot_isRight.f at H
 revert H; refine bj fun t170 A2 H => ?_
 replace H := iT H; rcases H with ⟨rfl, H⟩ | ⟨rfl, H⟩
 ·revert H; refine bj fun t171 A4 H => ?_
  obtain rfl := Option.some.inj H
  go_enter Tryd.func41, Tryd.ntmps41
  go_wp2_with (first | ((with_reducible refine g_ 1 ?_); refine bx 1 #[.string a0_0, .string a0_1] 45 ?_; intro gb169 hg w5 hbox hb; have BK169 := am (hbox); have GW169 := am (bsz hg : w.heap.size ≤ gb169); have GE169 := GW169; replace HB := am (below_step bl hb); clear hb hbox hg; obtain ⟨z6_0, z6_1, y6_0, y6_1⟩ := blk2 BK169.out) | ((with_reducible refine c_ 52 ?_); refine gc 52 (some 5) Tryd.func52 (impl_NameRight.calls _ _ _ A2.out) ?_; rintro e w7 ⟨rfl, hb⟩; refine ⟨_, rfl, ?_⟩; replace BK169 := am (bkb BK169.out hb); replace HB := am (below_step bl hb); clear hb; obtain ⟨z8_0, z8_1, y8_0, y8_1⟩ := blk2 BK169.out) | (go_at_call 52; (with_reducible refine (impl_NameRight.calls _ _ _ A4.out).mono ?_); rintro e w9 ⟨rfl, hb⟩; replace BK169 := am (bkb BK169.out hb); replace HB := am (below_step bl hb); clear hb))
  go_ret
  exact ⟨er, bl⟩
 obtain rfl := Option.some.inj H
 go_enter Tryd.func41, Tryd.ntmps41
 go_wp2_with (first | ((with_reducible refine g_ 1 ?_); refine bx 1 #[.string a0_0, .string a0_1] 45 ?_; intro gb169 hg w10 hbox hb; have BK169 := am (hbox); have GW169 := am (bsz hg : w.heap.size ≤ gb169); have GE169 := GW169; replace HB := am (below_step bl hb); clear hb hbox hg; obtain ⟨z11_0, z11_1, y11_0, y11_1⟩ := blk2 BK169.out) | ((with_reducible refine c_ 52 ?_); refine gc 52 (some 5) Tryd.func52 (impl_NameRight.calls _ _ _ A2.out) ?_; rintro e w12 ⟨rfl, hb⟩; refine ⟨_, rfl, ?_⟩; replace BK169 := am (bkb BK169.out hb); replace HB := am (below_step bl hb); clear hb))
 go_ret
 exact ⟨er, bl⟩

/-! ### impl_in: function 42 -/
def impl_in.f (a0 : Int) (a1 : Int) (a2 : Int) : Option (Bool) := if a1 ≤ a0 then (some (decide (a0 ≤ a2))) else (some false)
theorem impl_in.calls (a0 : Int) (a1 : Int) (a2 : Int) (r : Bool) (w : World) (h : impl_in.f a0 a1 a2 = some r) :
  Calls Tryd.prog 42 #[.int .i64 a0, .int .i64 a1, .int .i64 a2] w fun e w' => e = .returned (.bool r) ∧ Drawn0 w w' := by
 have H := h
 clear h
 unfold impl_in.f at H
 revert H; refine iDb (fun c4b0 H => ?_) fun c4b0 H => ?_
 ·obtain rfl := Option.some.inj H
  go_enter Tryd.func42, Tryd.ntmps42
  go_wp2
  go_ret
  exact ⟨by first | rfl | (simp; done) | (simp [*]; done) | (simp [isE_bne]; done), by repeat (first | exact Drawn0.refl _ | apply Drawn0.step)⟩
 obtain rfl := Option.some.inj H
 go_enter Tryd.func42, Tryd.ntmps42
 go_wp2
 go_ret
 exact ⟨by first | rfl | (simp; done) | (simp [*]; done) | (simp [isE_bne]; done), by repeat (first | exact Drawn0.refl _ | apply Drawn0.step)⟩

/-! ### impl_MoneyRight: function 50 -/
def impl_MoneyRight.f (a0 : Int) : Option (Bool) := (impl_in.f a0 (-1000000000000) 1000000000000).bind fun t172 => (some t172)
theorem impl_MoneyRight.calls (a0 : Int) (r : Bool) (w : World) (h : impl_MoneyRight.f a0 = some r) :
  Calls Tryd.prog 50 #[.int .i64 a0] w fun e w' => e = .returned (.bool r) ∧ Drawn0 w w' := by
 have H := h
 clear h
 unfold impl_MoneyRight.f at H
 revert H; refine bj fun t172 A2 H => ?_
 obtain rfl := Option.some.inj H
 go_enter Tryd.func50, Tryd.ntmps50
 go_wp2_with (first | ((with_reducible refine c_ 42 ?_); refine gc 42 (some 4) Tryd.func42 (impl_in.calls _ _ _ _ _ A2.out) ?_; rintro e w' ⟨rfl, ⟨nd, rfl⟩⟩; refine ⟨_, rfl, ?_⟩))
 go_ret
 exact ⟨by first | rfl | (simp; done) | (simp [*]; done) | (simp [isE_bne]; done), by repeat (first | exact Drawn0.refl _ | apply Drawn0.step)⟩

end Go.Proofs.YtlhefhcdlgkngaaDoor.PFnExactBookBalance
