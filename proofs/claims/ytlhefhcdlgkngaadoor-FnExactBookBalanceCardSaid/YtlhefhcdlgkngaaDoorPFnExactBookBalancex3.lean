-- laid by seedprint.py, a program of this session, over contracts that it gives by hand; Lean checks it
-- dented
import Derived.Test.YtlhefhcdlgkngaaDoorQMin
import Derived.Test.YtlhefhcdlgkngaaDoorQAut
import Derived.Test.YtlhefhcdlgkngaaDoorQBlk
import Derived.Test.YtlhefhcdlgkngaaDoorPFnExactBookBalancex0
import Derived.Test.YtlhefhcdlgkngaaDoorPFnExactBookBalancex2
namespace Go.Proofs.YtlhefhcdlgkngaaDoor.PFnExactBookBalance
open Go.RowKit Go.Proofs.YtlhefhcdlgkngaaDoorW.PrintWords Go.Proofs.YtlhefhcdlgkngaaDoorW.PrintLast Go.Proofs.YtlhefhcdlgkngaaDoorW.PrintMore
attribute [local go_sem] max2_int min2_int max_two min_two max_three min_three max_four min_four   -- for this text's walks alone
set_option maxHeartbeats 8000000
set_option maxRecDepth 100000
set_option linter.unusedVariables false
set_option linter.unusedSimpArgs false

/-! ### spec_l05Ids: function 46 -/
def spec_l05Ids.l0 : Nat → List ByteArray → Int → Option (Bool)
 | 0, _, _ => none
 | k + 1, x0, x3 => if x3 < (x0.length : Int) then (if 0 ≤ x3 then ((spec_NameRight.f k (rdOf ByteArray.empty x0 x3)).bind fun t114 => (if t114 = true then (if x3 > 0 then (if 0 ≤ (wrap64 (x3 - 1)) then (if (wrap64 (x3 - 1)) < (x0.length : Int) then (if ((Op.bytesLess ((rdOf ByteArray.empty x0 (wrap64 (x3 - 1))).toList) ((rdOf ByteArray.empty x0 x3).toList)) = true) then (spec_l05Ids.l0 k x0 (wrap64 (x3 + 1))) else (some false)) else (none)) else (none)) else (spec_l05Ids.l0 k x0 (wrap64 (x3 + 1)))) else (some false))) else (none)) else (some true)
def spec_l05Ids.f (k : Nat) (l0 : List ByteArray) : Option (Bool) := spec_l05Ids.l0 k l0 0
theorem spec_l05Ids.mono_l : ∀ k, (∀ y0 y1, LeO (spec_l05Ids.l0 k y0 y1) (spec_l05Ids.l0 (k + 1) y0 y1))
 | 0 => fun _ _ r h => by simp [spec_l05Ids.l0] at h
 | k + 1 => by
  have ih0 := spec_l05Ids.mono_l k
  ·intro y0 y1
   unfold spec_l05Ids.l0
   repeat' (with_reducible first | exact ih0 .. | exact spec_NameRight.mono .. | exact LeO.refl _ | exact LeO.none _ | refine LeO.ite ?_ ?_ | refine LeO.bind ?_ (fun _ => ?_))
theorem spec_l05Ids.mono : ∀ a0 k, LeO (spec_l05Ids.f k a0) (spec_l05Ids.f (k + 1) a0) := by
 intro a0 k
 have ih0 := spec_l05Ids.mono_l k
 unfold spec_l05Ids.f
 repeat' (with_reducible first | exact ih0 .. | exact spec_NameRight.mono .. | exact LeO.refl _ | exact LeO.none _ | refine LeO.ite ?_ ?_ | refine LeO.bind ?_ (fun _ => ?_))
theorem spec_l05Ids.calls (k : Nat) (A0 : Option Addr) (c0 : Nat) (l0 : List ByteArray) (r : Bool) (w : World) (hr0 : Kd.C Kd.string w A0 l0.length l0) (hc0 : l0.length ≤ c0) (h : spec_l05Ids.f k l0 = some r) :
  Calls Tryd.prog 46 #[.slice A0 l0.length c0] w fun e w' => e = .returned (.bool r) ∧ Drawn0 w w' := by
 have HR0 := am hr0
 have HC0 := am hc0
 clear hr0 hc0
 have H := h
 clear h
 unfold spec_l05Ids.f at H
 have H' := am H; clear H
 go_enter Tryd.func46, Tryd.ntmps46
 go_wp2
 repeat (go_quiet (fail); try go_wp2)
 go_loopg [3] k (fun kq v3 w' => ∃ (x3_1 : Int), v3 = .int .i64 x3_1 ∧ Aside0 (spec_l05Ids.l0 kq l0 x3_1 = some r) ∧ Aside0 (kq ≤ k) ∧ Drawn0 w w')
 case atStart => exact ⟨(0), rs, H', ⟨Nat.le_refl _⟩, by repeat (first | exact Drawn0.refl _ | apply Drawn0.step)⟩
 case round =>
  clear H'
  obtain ⟨x3_1, rfl, HA, HK1, ⟨m1, rfl⟩⟩ := hrel
  cases gk with
  | zero => exact absurd HA.out (by simp [spec_l05Ids.l0])
  | succ k1 =>
   have H := HA.out
   clear HA
   simp only [spec_l05Ids.l0] at H
   revert H; refine iDb (fun c2b0 H => ?_) fun c2b0 H => ?_
   ·revert H; refine i1 fun c3b0 H => ?_
    revert H; refine bj fun t114 A4 H => ?_
    replace H := iT H; rcases H with ⟨rfl, H⟩ | ⟨rfl, H⟩
    ·revert H; refine iDb (fun c6b0 H => ?_) fun c6b0 H => ?_
     ·obtain ⟨ji7, hji7⟩ : ∃ j_ : Int, (wrap64 (x3_1 - 1)) = j_ := ⟨_, rfl⟩
      replace H : (if 0 ≤ (ji7) then (if (ji7) < (l0.length : Int) then (if ((Op.bytesLess ((rdOf ByteArray.empty l0 (ji7)).toList) ((rdOf ByteArray.empty l0 x3_1).toList)) = true) then (spec_l05Ids.l0 k1 l0 (wrap64 (x3_1 + 1))) else (some false)) else (none)) else (none)) = some r := by first | (rw [hji7] at H; exact H) | (simp only [hji7] at H ⊢; exact H)
      (try rw [hji7] at A4)
      have hji7w : (IntKind.i64.wrap (x3_1 - 1)) = ji7 := (i64_w _).trans hji7
      revert H; refine i1 fun c8b0 H => ?_
      revert H; refine i1 fun c9b0 H => ?_
      revert H; refine iB (fun c10 H => ?_) fun c10 H => ?_
      ·have c10b0 : (Op.bytesLess ((rdOf ByteArray.empty l0 (ji7)).toList) ((rdOf ByteArray.empty l0 x3_1).toList)) = true := c10
       clear c10
       have H' := am H; clear H
       have p113 : 0 ≤ (x3_1 : Int) := ode
       have q113 : x3_1 < (l0.length : Int) := ode
       obtain ⟨ad113, e113, hx113_0⟩ := Kd.at_string HR0.out x3_1 p113 q113
       cases e113
       replace p113 := eq_true p113
       replace q113 := eq_true q113
       go_wp2_with (first | (go_at_call 56; (with_reducible refine (spec_NameRight.calls _ _ _ _ A4.out).mono ?_); rintro e w' ⟨rfl, ⟨nd, rfl⟩⟩; (try first | exact ⟨rfl, _, dd1 _ _ _⟩ | exact ⟨rfl, _, dd2 _ _ _ _⟩); have p115 : 0 ≤ ((ji7) : Int) := ode; have q115 : (ji7) < (l0.length : Int) := ode; obtain ⟨ad115, e115, hx115_0⟩ := Kd.at_string HR0.out (ji7) p115 q115; obtain rfl : ad113 = ad115 := (by injection e115); replace p115 := eq_true p115; replace q115 := eq_true q115; have p116 : 0 ≤ (x3_1 : Int) := ode; have q116 : x3_1 < (l0.length : Int) := ode; obtain ⟨ad116, e116, hx116_0⟩ := Kd.at_string HR0.out x3_1 p116 q116; obtain rfl : ad113 = ad116 := (by injection e116); replace p116 := eq_true p116; replace q116 := eq_true q116))
       repeat (go_quiet (first | (go_at_call 56; (with_reducible refine (spec_NameRight.calls _ _ _ _ A4.out).mono ?_); rintro e w' ⟨rfl, ⟨nd, rfl⟩⟩; (try first | exact ⟨rfl, _, dd1 _ _ _⟩ | exact ⟨rfl, _, dd2 _ _ _ _⟩); have p115 : 0 ≤ ((ji7) : Int) := ode; have q115 : (ji7) < (l0.length : Int) := ode; obtain ⟨ad115, e115, hx115_0⟩ := Kd.at_string HR0.out (ji7) p115 q115; obtain rfl : ad113 = ad115 := (by injection e115); replace p115 := eq_true p115; replace q115 := eq_true q115; have p116 : 0 ≤ (x3_1 : Int) := ode; have q116 : x3_1 < (l0.length : Int) := ode; obtain ⟨ad116, e116, hx116_0⟩ := Kd.at_string HR0.out x3_1 p116 q116; obtain rfl : ad113 = ad116 := (by injection e116); replace p116 := eq_true p116; replace q116 := eq_true q116)); try go_wp2_with (first | (go_at_call 56; (with_reducible refine (spec_NameRight.calls _ _ _ _ A4.out).mono ?_); rintro e w' ⟨rfl, ⟨nd, rfl⟩⟩; (try first | exact ⟨rfl, _, dd1 _ _ _⟩ | exact ⟨rfl, _, dd2 _ _ _ _⟩); have p115 : 0 ≤ ((ji7) : Int) := ode; have q115 : (ji7) < (l0.length : Int) := ode; obtain ⟨ad115, e115, hx115_0⟩ := Kd.at_string HR0.out (ji7) p115 q115; obtain rfl : ad113 = ad115 := (by injection e115); replace p115 := eq_true p115; replace q115 := eq_true q115; have p116 : 0 ≤ (x3_1 : Int) := ode; have q116 : x3_1 < (l0.length : Int) := ode; obtain ⟨ad116, e116, hx116_0⟩ := Kd.at_string HR0.out x3_1 p116 q116; obtain rfl : ad113 = ad116 := (by injection e116); replace p116 := eq_true p116; replace q116 := eq_true q116)))
       go_roundg k1
       case measure => have := HK1.out; omega
       case rel => exact ⟨(wrap64 (x3_1 + 1)), rs, H', ⟨by have := HK1.out; omega⟩, by repeat (first | exact Drawn0.refl _ | apply Drawn0.step)⟩
      have c10b0 : (Op.bytesLess ((rdOf ByteArray.empty l0 (ji7)).toList) ((rdOf ByteArray.empty l0 x3_1).toList)) = false := by simpa using c10
      clear c10
      obtain rfl := Option.some.inj H
      have p113 : 0 ≤ (x3_1 : Int) := ode
      have q113 : x3_1 < (l0.length : Int) := ode
      obtain ⟨ad113, e113, hx113_0⟩ := Kd.at_string HR0.out x3_1 p113 q113
      cases e113
      replace p113 := eq_true p113
      replace q113 := eq_true q113
      go_wp2_with (first | (go_at_call 56; (with_reducible refine (spec_NameRight.calls _ _ _ _ A4.out).mono ?_); rintro e w' ⟨rfl, ⟨nd, rfl⟩⟩; (try first | exact ⟨rfl, _, dd1 _ _ _⟩ | exact ⟨rfl, _, dd2 _ _ _ _⟩); have p115 : 0 ≤ ((ji7) : Int) := ode; have q115 : (ji7) < (l0.length : Int) := ode; obtain ⟨ad115, e115, hx115_0⟩ := Kd.at_string HR0.out (ji7) p115 q115; obtain rfl : ad113 = ad115 := (by injection e115); replace p115 := eq_true p115; replace q115 := eq_true q115; have p116 : 0 ≤ (x3_1 : Int) := ode; have q116 : x3_1 < (l0.length : Int) := ode; obtain ⟨ad116, e116, hx116_0⟩ := Kd.at_string HR0.out x3_1 p116 q116; obtain rfl : ad113 = ad116 := (by injection e116); replace p116 := eq_true p116; replace q116 := eq_true q116))
      repeat (go_quiet (first | (go_at_call 56; (with_reducible refine (spec_NameRight.calls _ _ _ _ A4.out).mono ?_); rintro e w' ⟨rfl, ⟨nd, rfl⟩⟩; (try first | exact ⟨rfl, _, dd1 _ _ _⟩ | exact ⟨rfl, _, dd2 _ _ _ _⟩); have p115 : 0 ≤ ((ji7) : Int) := ode; have q115 : (ji7) < (l0.length : Int) := ode; obtain ⟨ad115, e115, hx115_0⟩ := Kd.at_string HR0.out (ji7) p115 q115; obtain rfl : ad113 = ad115 := (by injection e115); replace p115 := eq_true p115; replace q115 := eq_true q115; have p116 : 0 ≤ (x3_1 : Int) := ode; have q116 : x3_1 < (l0.length : Int) := ode; obtain ⟨ad116, e116, hx116_0⟩ := Kd.at_string HR0.out x3_1 p116 q116; obtain rfl : ad113 = ad116 := (by injection e116); replace p116 := eq_true p116; replace q116 := eq_true q116)); try go_wp2_with (first | (go_at_call 56; (with_reducible refine (spec_NameRight.calls _ _ _ _ A4.out).mono ?_); rintro e w' ⟨rfl, ⟨nd, rfl⟩⟩; (try first | exact ⟨rfl, _, dd1 _ _ _⟩ | exact ⟨rfl, _, dd2 _ _ _ _⟩); have p115 : 0 ≤ ((ji7) : Int) := ode; have q115 : (ji7) < (l0.length : Int) := ode; obtain ⟨ad115, e115, hx115_0⟩ := Kd.at_string HR0.out (ji7) p115 q115; obtain rfl : ad113 = ad115 := (by injection e115); replace p115 := eq_true p115; replace q115 := eq_true q115; have p116 : 0 ≤ (x3_1 : Int) := ode; have q116 : x3_1 < (l0.length : Int) := ode; obtain ⟨ad116, e116, hx116_0⟩ := Kd.at_string HR0.out x3_1 p116 q116; obtain rfl : ad113 = ad116 := (by injection e116); replace p116 := eq_true p116; replace q116 := eq_true q116)))
      go_ret
      exact ⟨by first | rfl | (simp; done) | (simp only [← hji7] <;> (first | rfl | simp)) | (simp [*]; done), by repeat (first | exact Drawn0.refl _ | apply Drawn0.step)⟩
     have H' := am H; clear H
     have p113 : 0 ≤ (x3_1 : Int) := ode
     have q113 : x3_1 < (l0.length : Int) := ode
     obtain ⟨ad113, e113, hx113_0⟩ := Kd.at_string HR0.out x3_1 p113 q113
     cases e113
     replace p113 := eq_true p113
     replace q113 := eq_true q113
     go_wp2_with (first | (go_at_call 56; (with_reducible refine (spec_NameRight.calls _ _ _ _ A4.out).mono ?_); rintro e w' ⟨rfl, ⟨nd, rfl⟩⟩; (try first | exact ⟨rfl, _, dd1 _ _ _⟩ | exact ⟨rfl, _, dd2 _ _ _ _⟩)))
     repeat (go_quiet (first | (go_at_call 56; (with_reducible refine (spec_NameRight.calls _ _ _ _ A4.out).mono ?_); rintro e w' ⟨rfl, ⟨nd, rfl⟩⟩; (try first | exact ⟨rfl, _, dd1 _ _ _⟩ | exact ⟨rfl, _, dd2 _ _ _ _⟩))); try go_wp2_with (first | (go_at_call 56; (with_reducible refine (spec_NameRight.calls _ _ _ _ A4.out).mono ?_); rintro e w' ⟨rfl, ⟨nd, rfl⟩⟩; (try first | exact ⟨rfl, _, dd1 _ _ _⟩ | exact ⟨rfl, _, dd2 _ _ _ _⟩))))
     go_roundg k1
     case measure => have := HK1.out; omega
     case rel => exact ⟨(wrap64 (x3_1 + 1)), rs, H', ⟨by have := HK1.out; omega⟩, by repeat (first | exact Drawn0.refl _ | apply Drawn0.step)⟩
    obtain rfl := Option.some.inj H
    have p113 : 0 ≤ (x3_1 : Int) := ode
    have q113 : x3_1 < (l0.length : Int) := ode
    obtain ⟨ad113, e113, hx113_0⟩ := Kd.at_string HR0.out x3_1 p113 q113
    cases e113
    replace p113 := eq_true p113
    replace q113 := eq_true q113
    go_wp2_with (first | (go_at_call 56; (with_reducible refine (spec_NameRight.calls _ _ _ _ A4.out).mono ?_); rintro e w' ⟨rfl, ⟨nd, rfl⟩⟩; (try first | exact ⟨rfl, _, dd1 _ _ _⟩ | exact ⟨rfl, _, dd2 _ _ _ _⟩)))
    repeat (go_quiet (first | (go_at_call 56; (with_reducible refine (spec_NameRight.calls _ _ _ _ A4.out).mono ?_); rintro e w' ⟨rfl, ⟨nd, rfl⟩⟩; (try first | exact ⟨rfl, _, dd1 _ _ _⟩ | exact ⟨rfl, _, dd2 _ _ _ _⟩))); try go_wp2_with (first | (go_at_call 56; (with_reducible refine (spec_NameRight.calls _ _ _ _ A4.out).mono ?_); rintro e w' ⟨rfl, ⟨nd, rfl⟩⟩; (try first | exact ⟨rfl, _, dd1 _ _ _⟩ | exact ⟨rfl, _, dd2 _ _ _ _⟩))))
    go_ret
    exact ⟨by first | rfl | (simp; done) | (simp [*]; done) | (simp [isE_bne]; done), by repeat (first | exact Drawn0.refl _ | apply Drawn0.step)⟩
   obtain rfl := Option.some.inj H
   go_wp2
   repeat (go_quiet (fail); try go_wp2)
   go_ret
   exact ⟨by first | rfl | (simp; done) | (simp [*]; done) | (simp [isE_bne]; done), by repeat (first | exact Drawn0.refl _ | apply Drawn0.step)⟩

/-! ### spec_MoneyRight: function 47 -/
def spec_MoneyRight.f (a0 : Int) : Option (Bool) := if a0 ≥ (-1000000000000) then (some (decide (a0 ≤ 1000000000000))) else (some false)
theorem spec_MoneyRight.calls (a0 : Int) (r : Bool) (w : World) (h : spec_MoneyRight.f a0 = some r) :
  Calls Tryd.prog 47 #[.int .i64 a0] w fun e w' => e = .returned (.bool r) ∧ Drawn0 w w' := by
 have H := h
 clear h
 unfold spec_MoneyRight.f at H
 revert H; refine iDb (fun c2b0 H => ?_) fun c2b0 H => ?_
 ·obtain rfl := Option.some.inj H
  go_enter Tryd.func47, Tryd.ntmps47
  go_wp2
  go_ret
  exact ⟨by first | rfl | (simp; done) | (simp [*]; done) | (simp [isE_bne]; done), by repeat (first | exact Drawn0.refl _ | apply Drawn0.step)⟩
 obtain rfl := Option.some.inj H
 go_enter Tryd.func47, Tryd.ntmps47
 go_wp2
 go_ret
 exact ⟨by first | rfl | (simp; done) | (simp [*]; done) | (simp [isE_bne]; done), by repeat (first | exact Drawn0.refl _ | apply Drawn0.step)⟩

/-! ### spec_l05Less: function 48 -/
def spec_l05Less.f (a0_0 : ByteArray) (a0_1 : ByteArray) (a1_0 : ByteArray) (a1_1 : ByteArray) : Option (Bool) := if (Op.bytesLess a0_0.toList a1_0.toList) = true then (some true) else (if a0_0.toList = a1_0.toList then (some (Op.bytesLess a0_1.toList a1_1.toList)) else (some false))
theorem spec_l05Less.calls (a0_0 : ByteArray) (a0_1 : ByteArray) (a1_0 : ByteArray) (a1_1 : ByteArray) (r : Bool) (w : World) (h : spec_l05Less.f a0_0 a0_1 a1_0 a1_1 = some r) :
  Calls Tryd.prog 48 #[.agg #[.string a0_0, .string a0_1], .agg #[.string a1_0, .string a1_1]] w fun e w' => e = .returned (.bool r) ∧ Below w.heap.size w w' := by
 have hu45 := Tryd.underlying45
 have HB := am (Below.refl w.heap.size w)
 have H := h
 clear h
 unfold spec_l05Less.f at H
 revert H; refine iB (fun c3 H => ?_) fun c3 H => ?_
 ·have c3b0 : (Op.bytesLess a0_0.toList a1_0.toList) = true := c3
  clear c3
  obtain rfl := Option.some.inj H
  go_enter Tryd.func48, Tryd.ntmps48
  go_wp2_with (first | ((with_reducible refine g_ 2 ?_); refine bx 2 #[.string a0_0, .string a0_1] 45 ?_; intro gb117 hg w4 hbox hb; have BK117 := am (hbox); have GW117 := am (bsz hg : w.heap.size ≤ gb117); have GE117 := GW117; replace HB := am (below_step bl hb); clear hb hbox hg) | ((with_reducible refine g_ 3 ?_); refine bx 3 #[.string a1_0, .string a1_1] 45 ?_; intro gb118 hg w5 hbox hb; have BK118 := am (hbox); have GW118 := am (bsz hg : w.heap.size ≤ gb118); have GE118 := GW118; have NB117_118 := am (ne1 hg BK117.out); have NB118_117 := am NB117_118.out.symm; replace BK117 := am (bkb BK117.out hb); replace HB := am (below_step bl hb); clear hb hbox hg; have hnb6 := NB117_118.out; have hnc6 := NB118_117.out; obtain ⟨z7_0, z7_1, y7_0, y7_1⟩ := blk2 BK117.out; obtain ⟨z8_0, z8_1, y8_0, y8_1⟩ := blk2 BK118.out))
  go_ret
  exact ⟨er, bl⟩
 have c3b0 : (Op.bytesLess a0_0.toList a1_0.toList) = false := by simpa using c3
 clear c3
 revert H; refine iQ (fun c9b0 c9b1 H => ?_) fun c9 c9b0 c9b1 H => ?_
 ·obtain rfl := Option.some.inj H
  go_enter Tryd.func48, Tryd.ntmps48
  go_wp2_with (first | ((with_reducible refine g_ 2 ?_); refine bx 2 #[.string a0_0, .string a0_1] 45 ?_; intro gb117 hg w10 hbox hb; have BK117 := am (hbox); have GW117 := am (bsz hg : w.heap.size ≤ gb117); have GE117 := GW117; replace HB := am (below_step bl hb); clear hb hbox hg) | ((with_reducible refine g_ 3 ?_); refine bx 3 #[.string a1_0, .string a1_1] 45 ?_; intro gb118 hg w11 hbox hb; have BK118 := am (hbox); have GW118 := am (bsz hg : w.heap.size ≤ gb118); have GE118 := GW118; have NB117_118 := am (ne1 hg BK117.out); have NB118_117 := am NB117_118.out.symm; replace BK117 := am (bkb BK117.out hb); replace HB := am (below_step bl hb); clear hb hbox hg; have hnb12 := NB117_118.out; have hnc12 := NB118_117.out; obtain ⟨z13_0, z13_1, y13_0, y13_1⟩ := blk2 BK117.out; obtain ⟨z14_0, z14_1, y14_0, y14_1⟩ := blk2 BK118.out))
  go_ret
  exact ⟨er, bl⟩
 obtain rfl := Option.some.inj H
 go_enter Tryd.func48, Tryd.ntmps48
 go_wp2_with (first | ((with_reducible refine g_ 2 ?_); refine bx 2 #[.string a0_0, .string a0_1] 45 ?_; intro gb117 hg w15 hbox hb; have BK117 := am (hbox); have GW117 := am (bsz hg : w.heap.size ≤ gb117); have GE117 := GW117; replace HB := am (below_step bl hb); clear hb hbox hg) | ((with_reducible refine g_ 3 ?_); refine bx 3 #[.string a1_0, .string a1_1] 45 ?_; intro gb118 hg w16 hbox hb; have BK118 := am (hbox); have GW118 := am (bsz hg : w.heap.size ≤ gb118); have GE118 := GW118; have NB117_118 := am (ne1 hg BK117.out); have NB118_117 := am NB117_118.out.symm; replace BK117 := am (bkb BK117.out hb); replace HB := am (below_step bl hb); clear hb hbox hg; have hnb17 := NB117_118.out; have hnc17 := NB118_117.out; obtain ⟨z18_0, z18_1, y18_0, y18_1⟩ := blk2 BK117.out; obtain ⟨z19_0, z19_1, y19_0, y19_1⟩ := blk2 BK118.out))
 go_ret
 exact ⟨er, bl⟩

end Go.Proofs.YtlhefhcdlgkngaaDoor.PFnExactBookBalance
