-- laid by seedprint.py, a program of this session, over contracts that it gives by hand; Lean checks it
-- dented
import Derived.Test.YtodokfmmnihecaaGreatDoorQMin
import Derived.Test.YtodokfmmnihecaaGreatDoorQAut
import Derived.Test.YtodokfmmnihecaaGreatDoorQBlk
import Derived.Test.YtodokfmmnihecaaGreatDoorPFnExactEnvRightx0
import Derived.Test.YtodokfmmnihecaaGreatDoorPFnExactEnvRightx4
namespace Go.Proofs.YtodokfmmnihecaaGreatDoor.PFnExactEnvRight
open Go.RowKit Go.Proofs.YtodokfmmnihecaaGreatDoorW.PrintWords Go.Proofs.YtodokfmmnihecaaGreatDoorW.PrintLast Go.Proofs.YtodokfmmnihecaaGreatDoorW.PrintMore
attribute [local go_sem] max2_int min2_int max_two min_two max_three min_three max_four min_four   -- for this text's walks alone
set_option linter.unusedVariables false
set_option linter.unusedSimpArgs false

/-! ### spec_l09Rest: function 75 -/
def spec_l09Rest.l0 : Nat → Int → List Int → List Int → Int → Int → Int → Int → Int → Option (Bool)
 | 0, _, _, _, _, _, _, _, _ => none
 | k + 1, x3, x244000, x244001, x244002, x244003, x244004, x244005, x244006 => if x3 < (x244001.length : Int) then (if 0 ≤ x3 then ((spec_MoneyRight.f (rd x244001 x3)).bind fun t245 => (if t245 = true then (spec_l09Rest.l0 k (wrap64 (x3 + 1)) x244000 x244001 x244002 x244003 x244004 x244005 x244006) else (some false))) else (none)) else ((spec_l03Right.f x244002).bind fun t246 => (if t246 = true then ((spec_l03Right.f x244003).bind fun t247 => (if t247 = true then (if x244003 ≤ x244002 then (if x244004 ≥ 0 then (if x244004 ≤ 1000 then ((spec_MoneyRight.f x244005).bind fun t248 => (if t248 = true then (if x244005 ≥ 0 then (if x244006 ≥ 0 then (some (decide (x244006 ≤ 2000))) else (some false)) else (some false)) else (some false))) else (some false)) else (some false)) else (some false)) else (some false))) else (some false)))
def spec_l09Rest.f (k : Nat) (l0_0 : List Int) (l0_1 : List Int) (a0_2 : Int) (a0_3 : Int) (a0_4 : Int) (a0_5 : Int) (a0_6 : Int) : Option (Bool) := spec_l09Rest.l0 k 0 l0_0 l0_1 a0_2 a0_3 a0_4 a0_5 a0_6
theorem spec_l09Rest.mono_l : ∀ k, (∀ y0 y1 y2 y3 y4 y5 y6 y7, LeO (spec_l09Rest.l0 k y0 y1 y2 y3 y4 y5 y6 y7) (spec_l09Rest.l0 (k + 1) y0 y1 y2 y3 y4 y5 y6 y7))
 | 0 => fun _ _ _ _ _ _ _ _ r h => by simp [spec_l09Rest.l0] at h
 | k + 1 => by
  have ih0 := spec_l09Rest.mono_l k
  ·intro y0 y1 y2 y3 y4 y5 y6 y7
   unfold spec_l09Rest.l0
   exact mo
theorem spec_l09Rest.mono : ∀ a0 a1 a2 a3 a4 a5 a6 k, LeO (spec_l09Rest.f k a0 a1 a2 a3 a4 a5 a6) (spec_l09Rest.f (k + 1) a0 a1 a2 a3 a4 a5 a6) := by
 intro a0 a1 a2 a3 a4 a5 a6 k
 have ih0 := spec_l09Rest.mono_l k
 unfold spec_l09Rest.f
 exact mo
set_option maxHeartbeats 8000000 in
set_option maxRecDepth 100000 in
theorem spec_l09Rest.calls (k : Nat) (A0_0 : Option Addr) (c0_0 : Nat) (l0_0 : List Int) (A0_1 : Option Addr) (c0_1 : Nat) (l0_1 : List Int) (a0_2 : Int) (a0_3 : Int) (a0_4 : Int) (a0_5 : Int) (a0_6 : Int) (r : Bool) (w : World) (hr0_0 : Kd.C (Kd.int .i64) w A0_0 l0_0.length l0_0) (hc0_0 : l0_0.length ≤ c0_0) (hr0_1 : Kd.C (Kd.int .i64) w A0_1 l0_1.length l0_1) (hc0_1 : l0_1.length ≤ c0_1) (h : spec_l09Rest.f k l0_0 l0_1 a0_2 a0_3 a0_4 a0_5 a0_6 = some r) :
  Calls Tryz.prog 75 #[.agg #[.slice A0_0 l0_0.length c0_0, .slice A0_1 l0_1.length c0_1, .int .i64 a0_2, .int .i64 a0_3, .int .i64 a0_4, .int .i64 a0_5, .int .i64 a0_6]] w fun e w' => e = .returned (.bool r) ∧ Below w.heap.size w w' := by
 have hu41 := Tryz.underlying41
 have HR0_0 := am hr0_0
 have HC0_0 := am hc0_0
 clear hr0_0 hc0_0
 have HR0_1 := am hr0_1
 have HC0_1 := am hc0_1
 clear hr0_1 hc0_1
 have HB := am (Below.refl w.heap.size w)
 have H := h
 clear h
 unfold spec_l09Rest.f at H
 have H' := am H; clear H
 go_enter Tryz.func75, Tryz.ntmps75
 go_wp2_with (first | (refine bx 1 #[.slice A0_0 l0_0.length c0_0, .slice A0_1 l0_1.length c0_1, .int .i64 a0_2, .int .i64 a0_3, .int .i64 a0_4, .int .i64 a0_5, .int .i64 a0_6] 41 ?_; intro gb243 hg w2 hbox hb; have BK243 := am (hbox); have GW243 := am (bsz hg : w.heap.size ≤ gb243); have GE243 := GW243; replace HB := am (below_step bl hb); clear hb hbox hg))
 go_loopg [3] k (fun kq v3 w' => ∃ (x3_1 : Int), v3 = .int .i64 x3_1 ∧ Aside0 (spec_l09Rest.l0 kq x3_1 l0_0 l0_1 a0_2 a0_3 a0_4 a0_5 a0_6 = some r) ∧ Aside0 (kq ≤ k) ∧ Aside0 (w'.heap[gb243]? = some (.cells #[(.slice A0_0 l0_0.length c0_0), (.slice A0_1 l0_1.length c0_1), .int .i64 a0_2, .int .i64 a0_3, .int .i64 a0_4, .int .i64 a0_5, .int .i64 a0_6] 41 (0, 0))) ∧ Aside0 (Below w.heap.size w w'))
 case atStart => exact ⟨(0), rs, H', ⟨Nat.le_refl _⟩, ⟨bk BK243.out⟩, ⟨bl⟩⟩
 case round =>
  clear H'
  obtain ⟨x3_1, rfl, HA, HK1, BK243, HB⟩ := hrel
  cases gk with
  | zero => exact absurd HA.out (by simp [spec_l09Rest.l0])
  | succ k1 =>
   have H := HA.out
   clear HA
   simp only [spec_l09Rest.l0] at H
   revert H; refine iDb (fun c3b0 H => ?_) fun c3b0 H => ?_
   ·revert H; refine i1 fun c4b0 H => ?_
    revert H; refine bj fun t245 A5 H => ?_
    replace H := iT H; rcases H with ⟨rfl, H⟩ | ⟨rfl, H⟩
    ·have H' := am H; clear H
     obtain ⟨z7_0, z7_1, z7_2, z7_3, z7_4, z7_5, z7_6, y7_0, y7_1, y7_2, y7_3, y7_4, y7_5, y7_6⟩ := blk7 BK243.out
     have p244 : 0 ≤ (x3_1 : Int) := ode
     have q244 : x3_1 < (l0_1.length : Int) := ode
     obtain ⟨ad244, e244, hx244_0⟩ := Kd.at_int HR0_1.out x3_1 p244 q244
     cases e244
     replace hx244_0 := hbc HB.out hx244_0
     replace p244 := eq_true p244
     replace q244 := eq_true q244
     go_wp2_with (first | (refine gc 140 (some 16) Tryz.func140 (spec_MoneyRight.calls _ _ _ A5.out) ?_; rintro e w' ⟨rfl, ⟨nd, rfl⟩⟩; refine ⟨_, rfl, ?_⟩))
     go_roundg k1
     case measure => have := HK1.out; omega
     case rel => exact ⟨(wrap64 (x3_1 + 1)), rs, H', ⟨by have := HK1.out; omega⟩, ⟨bk BK243.out⟩, ⟨bl⟩⟩
    obtain rfl := Option.some.inj H
    obtain ⟨z8_0, z8_1, z8_2, z8_3, z8_4, z8_5, z8_6, y8_0, y8_1, y8_2, y8_3, y8_4, y8_5, y8_6⟩ := blk7 BK243.out
    have p244 : 0 ≤ (x3_1 : Int) := ode
    have q244 : x3_1 < (l0_1.length : Int) := ode
    obtain ⟨ad244, e244, hx244_0⟩ := Kd.at_int HR0_1.out x3_1 p244 q244
    cases e244
    replace hx244_0 := hbc HB.out hx244_0
    replace p244 := eq_true p244
    replace q244 := eq_true q244
    go_wp2_with (first | (refine gc 140 (some 16) Tryz.func140 (spec_MoneyRight.calls _ _ _ A5.out) ?_; rintro e w' ⟨rfl, ⟨nd, rfl⟩⟩; refine ⟨_, rfl, ?_⟩))
    go_ret
    exact ⟨er, bl⟩
   revert H; refine bj fun t246 A9 H => ?_
   replace H := iT H; rcases H with ⟨rfl, H⟩ | ⟨rfl, H⟩
   ·revert H; refine bj fun t247 A11 H => ?_
    replace H := iT H; rcases H with ⟨rfl, H⟩ | ⟨rfl, H⟩
    ·revert H; refine iDb (fun c13b0 H => ?_) fun c13b0 H => ?_
     ·revert H; refine iDb (fun c14b0 H => ?_) fun c14b0 H => ?_
      ·revert H; refine iDb (fun c15b0 H => ?_) fun c15b0 H => ?_
       ·revert H; refine bj fun t248 A16 H => ?_
        replace H := iT H; rcases H with ⟨rfl, H⟩ | ⟨rfl, H⟩
        ·revert H; refine iDb (fun c18b0 H => ?_) fun c18b0 H => ?_
         ·revert H; refine iDb (fun c19b0 H => ?_) fun c19b0 H => ?_
          ·obtain rfl := Option.some.inj H
           obtain ⟨z20_0, z20_1, z20_2, z20_3, z20_4, z20_5, z20_6, y20_0, y20_1, y20_2, y20_3, y20_4, y20_5, y20_6⟩ := blk7 BK243.out
           go_wp2_with (first | (refine gc 141 (some 20) Tryz.func141 (spec_l03Right.calls _ _ _ A9.out) ?_; rintro e w' ⟨rfl, ⟨nd, rfl⟩⟩; refine ⟨_, rfl, ?_⟩) | (go_at_call 141; (with_reducible refine (spec_l03Right.calls _ _ _ A11.out).mono ?_); rintro e w' ⟨rfl, ⟨nd, rfl⟩⟩) | (go_at_call 140; (with_reducible refine (spec_MoneyRight.calls _ _ _ A16.out).mono ?_); rintro e w' ⟨rfl, ⟨nd, rfl⟩⟩))
           go_ret
           exact ⟨er, bl⟩
          obtain rfl := Option.some.inj H
          obtain ⟨z21_0, z21_1, z21_2, z21_3, z21_4, z21_5, z21_6, y21_0, y21_1, y21_2, y21_3, y21_4, y21_5, y21_6⟩ := blk7 BK243.out
          go_wp2_with (first | (refine gc 141 (some 20) Tryz.func141 (spec_l03Right.calls _ _ _ A9.out) ?_; rintro e w' ⟨rfl, ⟨nd, rfl⟩⟩; refine ⟨_, rfl, ?_⟩) | (go_at_call 141; (with_reducible refine (spec_l03Right.calls _ _ _ A11.out).mono ?_); rintro e w' ⟨rfl, ⟨nd, rfl⟩⟩) | (go_at_call 140; (with_reducible refine (spec_MoneyRight.calls _ _ _ A16.out).mono ?_); rintro e w' ⟨rfl, ⟨nd, rfl⟩⟩))
          go_ret
          exact ⟨er, bl⟩
         obtain rfl := Option.some.inj H
         obtain ⟨z22_0, z22_1, z22_2, z22_3, z22_4, z22_5, z22_6, y22_0, y22_1, y22_2, y22_3, y22_4, y22_5, y22_6⟩ := blk7 BK243.out
         go_wp2_with (first | (refine gc 141 (some 20) Tryz.func141 (spec_l03Right.calls _ _ _ A9.out) ?_; rintro e w' ⟨rfl, ⟨nd, rfl⟩⟩; refine ⟨_, rfl, ?_⟩) | (go_at_call 141; (with_reducible refine (spec_l03Right.calls _ _ _ A11.out).mono ?_); rintro e w' ⟨rfl, ⟨nd, rfl⟩⟩) | (go_at_call 140; (with_reducible refine (spec_MoneyRight.calls _ _ _ A16.out).mono ?_); rintro e w' ⟨rfl, ⟨nd, rfl⟩⟩))
         go_ret
         exact ⟨er, bl⟩
        obtain rfl := Option.some.inj H
        obtain ⟨z23_0, z23_1, z23_2, z23_3, z23_4, z23_5, z23_6, y23_0, y23_1, y23_2, y23_3, y23_4, y23_5, y23_6⟩ := blk7 BK243.out
        go_wp2_with (first | (refine gc 141 (some 20) Tryz.func141 (spec_l03Right.calls _ _ _ A9.out) ?_; rintro e w' ⟨rfl, ⟨nd, rfl⟩⟩; refine ⟨_, rfl, ?_⟩) | (go_at_call 141; (with_reducible refine (spec_l03Right.calls _ _ _ A11.out).mono ?_); rintro e w' ⟨rfl, ⟨nd, rfl⟩⟩) | (go_at_call 140; (with_reducible refine (spec_MoneyRight.calls _ _ _ A16.out).mono ?_); rintro e w' ⟨rfl, ⟨nd, rfl⟩⟩))
        go_ret
        exact ⟨er, bl⟩
       obtain rfl := Option.some.inj H
       obtain ⟨z24_0, z24_1, z24_2, z24_3, z24_4, z24_5, z24_6, y24_0, y24_1, y24_2, y24_3, y24_4, y24_5, y24_6⟩ := blk7 BK243.out
       go_wp2_with (first | (refine gc 141 (some 20) Tryz.func141 (spec_l03Right.calls _ _ _ A9.out) ?_; rintro e w' ⟨rfl, ⟨nd, rfl⟩⟩; refine ⟨_, rfl, ?_⟩) | (go_at_call 141; (with_reducible refine (spec_l03Right.calls _ _ _ A11.out).mono ?_); rintro e w' ⟨rfl, ⟨nd, rfl⟩⟩))
       go_ret
       exact ⟨er, bl⟩
      obtain rfl := Option.some.inj H
      obtain ⟨z25_0, z25_1, z25_2, z25_3, z25_4, z25_5, z25_6, y25_0, y25_1, y25_2, y25_3, y25_4, y25_5, y25_6⟩ := blk7 BK243.out
      go_wp2_with (first | (refine gc 141 (some 20) Tryz.func141 (spec_l03Right.calls _ _ _ A9.out) ?_; rintro e w' ⟨rfl, ⟨nd, rfl⟩⟩; refine ⟨_, rfl, ?_⟩) | (go_at_call 141; (with_reducible refine (spec_l03Right.calls _ _ _ A11.out).mono ?_); rintro e w' ⟨rfl, ⟨nd, rfl⟩⟩))
      go_ret
      exact ⟨er, bl⟩
     obtain rfl := Option.some.inj H
     obtain ⟨z26_0, z26_1, z26_2, z26_3, z26_4, z26_5, z26_6, y26_0, y26_1, y26_2, y26_3, y26_4, y26_5, y26_6⟩ := blk7 BK243.out
     go_wp2_with (first | (refine gc 141 (some 20) Tryz.func141 (spec_l03Right.calls _ _ _ A9.out) ?_; rintro e w' ⟨rfl, ⟨nd, rfl⟩⟩; refine ⟨_, rfl, ?_⟩) | (go_at_call 141; (with_reducible refine (spec_l03Right.calls _ _ _ A11.out).mono ?_); rintro e w' ⟨rfl, ⟨nd, rfl⟩⟩))
     go_ret
     exact ⟨er, bl⟩
    obtain rfl := Option.some.inj H
    obtain ⟨z27_0, z27_1, z27_2, z27_3, z27_4, z27_5, z27_6, y27_0, y27_1, y27_2, y27_3, y27_4, y27_5, y27_6⟩ := blk7 BK243.out
    go_wp2_with (first | (refine gc 141 (some 20) Tryz.func141 (spec_l03Right.calls _ _ _ A9.out) ?_; rintro e w' ⟨rfl, ⟨nd, rfl⟩⟩; refine ⟨_, rfl, ?_⟩) | (go_at_call 141; (with_reducible refine (spec_l03Right.calls _ _ _ A11.out).mono ?_); rintro e w' ⟨rfl, ⟨nd, rfl⟩⟩))
    go_ret
    exact ⟨er, bl⟩
   obtain rfl := Option.some.inj H
   obtain ⟨z28_0, z28_1, z28_2, z28_3, z28_4, z28_5, z28_6, y28_0, y28_1, y28_2, y28_3, y28_4, y28_5, y28_6⟩ := blk7 BK243.out
   go_wp2_with (first | (refine gc 141 (some 20) Tryz.func141 (spec_l03Right.calls _ _ _ A9.out) ?_; rintro e w' ⟨rfl, ⟨nd, rfl⟩⟩; refine ⟨_, rfl, ?_⟩))
   go_ret
   exact ⟨er, bl⟩

end Go.Proofs.YtodokfmmnihecaaGreatDoor.PFnExactEnvRight
