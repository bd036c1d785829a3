-- laid by seedprint.py, a program of this session, over contracts that it gives by hand; Lean checks it
-- dented
import Derived.Test.YtpblcdafmpfemaaQMin
import Derived.Test.YtpblcdafmpfemaaQAut
import Derived.Test.YtpblcdafmpfemaaQBlk
import Derived.Test.YtpblcdafmpfemaaPFnExactProductSamex0
import Derived.Test.YtpblcdafmpfemaaPFnExactProductSamex2
namespace Go.Proofs.Ytpblcdafmpfemaa.PFnExactProductSame
open Go.RowKit Go.Proofs.YtpblcdafmpfemaaW.PrintWords Go.Proofs.YtpblcdafmpfemaaW.PrintLast Go.Proofs.YtpblcdafmpfemaaW.PrintMore
attribute [local go_sem] max2_int min2_int max_two min_two max_three min_three max_four min_four   -- for this text's walks alone
set_option maxHeartbeats 8000000
set_option maxRecDepth 100000
set_option linter.unusedVariables false
set_option linter.unusedSimpArgs false

attribute [local go_sem high] eqA88
/-! ### laws_szStringS: function 50 -/
def laws_szStringS.l0 : Nat → List ByteArray → Int → Int → Option (Int)
 | 0, _, _, _ => none
 | k + 1, x0, x1, x5 => if x5 < (x0.length : Int) then (if 0 ≤ x5 then (if (wrap64 (x1 - ((rdOf ByteArray.empty x0 x5).size : Int))) < 0 then (some (-1)) else (laws_szStringS.l0 k x0 (wrap64 (x1 - ((rdOf ByteArray.empty x0 x5).size : Int))) (wrap64 (x5 + 1)))) else (none)) else (some x1)
def laws_szStringS.f (k : Nat) (l0 : List ByteArray) (a1 : Int) : Option (Int) := if (wrap64 (a1 - (l0.length : Int))) < 0 then (some (-1)) else (laws_szStringS.l0 k l0 (wrap64 (a1 - (l0.length : Int))) 0)
theorem laws_szStringS.mono_l : ∀ k, (∀ y0 y1 y2, LeO (laws_szStringS.l0 k y0 y1 y2) (laws_szStringS.l0 (k + 1) y0 y1 y2))
 | 0 => fun _ _ _ r h => by simp [laws_szStringS.l0] at h
 | k + 1 => by
  have ih0 := laws_szStringS.mono_l k
  ·intro y0 y1 y2
   unfold laws_szStringS.l0
   exact mo
theorem laws_szStringS.mono : ∀ a0 a1 k, LeO (laws_szStringS.f k a0 a1) (laws_szStringS.f (k + 1) a0 a1) := by
 intro a0 a1 k
 have ih0 := laws_szStringS.mono_l k
 unfold laws_szStringS.f
 exact mo
theorem laws_szStringS.calls (k : Nat) (A0 : Option Addr) (c0 : Nat) (l0 : List ByteArray) (a1 : Int) (r : Int) (w : World) (hr0 : Kd.C Kd.string w A0 l0.length l0) (hc0 : l0.length ≤ c0) (h : laws_szStringS.f k l0 a1 = some r) :
  Calls Try.prog 50 #[.slice A0 l0.length c0, .int .i64 a1] w fun e w' => e = .returned (.int .i64 r) ∧ Drawn0 w w' := by
 have HR0 := am hr0
 have HC0 := am hc0
 clear hr0 hc0
 have H := h
 clear h
 unfold laws_szStringS.f at H
 revert H; refine iDb (fun c3b0 H => ?_) fun c3b0 H => ?_
 ·obtain rfl := Option.some.inj H
  go_enter Try.func50, Try.ntmps50
  go_wp2
  go_ret
  exact ⟨by first | rfl | (simp; done) | (simp [*]; done), by repeat (first | exact Drawn0.refl _ | apply Drawn0.step)⟩
 have H' := am H; clear H
 go_enter Try.func50, Try.ntmps50
 go_wp2
 go_loopg [1, 5] k (fun kq v1 v5 w' => ∃ (x1_1 : Int) (x5_1 : Int), v1 = .int .i64 x1_1 ∧ v5 = .int .i64 x5_1 ∧ Aside0 (laws_szStringS.l0 kq l0 x1_1 x5_1 = some r) ∧ Aside0 (kq ≤ k) ∧ Drawn0 w w')
 case atStart => exact ⟨(wrap64 (a1 - (l0.length : Int))), (0), (by first | rfl | (simp; done) | (simp [*]; done)), (by first | rfl | (simp; done) | (simp [*]; done)), H', ⟨Nat.le_refl _⟩, by repeat (first | exact Drawn0.refl _ | apply Drawn0.step)⟩
 case round =>
  clear H'
  try clear c3b0
  obtain ⟨x1_1, x5_1, rfl, rfl, HA, HK1, ⟨m1, rfl⟩⟩ := hrel
  cases gk with
  | zero => exact absurd HA.out (by simp [laws_szStringS.l0])
  | succ k1 =>
   have H := HA.out
   clear HA
   simp only [laws_szStringS.l0] at H
   revert H; refine iDb (fun c4b0 H => ?_) fun c4b0 H => ?_
   ·revert H; refine i1 fun c5b0 H => ?_
    revert H; refine iDb (fun c6b0 H => ?_) fun c6b0 H => ?_
    ·obtain rfl := Option.some.inj H
     have p101 : 0 ≤ (x5_1 : Int) := ode
     have q101 : x5_1 < (l0.length : Int) := ode
     obtain ⟨ad101, e101, hx101_0⟩ := Kd.at_string HR0.out x5_1 p101 q101
     cases e101
     replace p101 := eq_true p101
     replace q101 := eq_true q101
     go_wp2
     go_ret
     exact ⟨by first | rfl | (simp; done) | (simp [*]; done), by repeat (first | exact Drawn0.refl _ | apply Drawn0.step)⟩
    have H' := am H; clear H
    have p101 : 0 ≤ (x5_1 : Int) := ode
    have q101 : x5_1 < (l0.length : Int) := ode
    obtain ⟨ad101, e101, hx101_0⟩ := Kd.at_string HR0.out x5_1 p101 q101
    cases e101
    replace p101 := eq_true p101
    replace q101 := eq_true q101
    go_wp2
    go_roundg k1
    case measure => have := HK1.out; omega
    case rel => exact ⟨(wrap64 (x1_1 - ((rdOf ByteArray.empty l0 x5_1).size : Int))), (wrap64 (x5_1 + 1)), (by first | rfl | (simp; done) | (simp [*]; done)), (by first | rfl | (simp; done) | (simp [*]; done)), H', ⟨by have := HK1.out; omega⟩, by repeat (first | exact Drawn0.refl _ | apply Drawn0.step)⟩
   obtain rfl := Option.some.inj H
   go_wp2
   go_ret
   exact ⟨by first | rfl | (simp; done) | (simp [*]; done), by repeat (first | exact Drawn0.refl _ | apply Drawn0.step)⟩

/-! ### laws_szParam: function 86 -/
def laws_szParam.f (a0_0 : ByteArray) (a0_1 : Int) (a0_2 : Int) (a0_3 : Int) (a1 : Int) : Option (Int) := if (wrap64 (a1 - (a0_0.size : Int))) < 0 then (some (-1)) else (some (wrap64 (a1 - (a0_0.size : Int))))
theorem laws_szParam.calls (a0_0 : ByteArray) (a0_1 : Int) (a0_2 : Int) (a0_3 : Int) (a1 : Int) (r : Int) (w : World) (h : laws_szParam.f a0_0 a0_1 a0_2 a0_3 a1 = some r) :
  Calls Try.prog 86 #[.agg #[.string a0_0, .int .i64 a0_1, .int .i64 a0_2, .int .i64 a0_3], .int .i64 a1] w fun e w' => e = .returned (.int .i64 r) ∧ Below w.heap.size w w' := by
 have hu115 := Try.underlying115
 have HB := am (Below.refl w.heap.size w)
 have H := h
 clear h
 unfold laws_szParam.f at H
 revert H; refine iDb (fun c3b0 H => ?_) fun c3b0 H => ?_
 ·obtain rfl := Option.some.inj H
  go_enter Try.func86, Try.ntmps86
  go_wp2_with (first | (refine bx 2 #[.string a0_0, .int .i64 a0_1, .int .i64 a0_2, .int .i64 a0_3] 115 ?_; intro gb102 hg w4 hbox hb; have BK102 := am (hbox); have GW102 := am (bsz hg : w.heap.size ≤ gb102); have GE102 := GW102; replace HB := am (below_step bl hb); clear hb hbox hg; obtain ⟨z5_0, z5_1, z5_2, z5_3, y5_0, y5_1, y5_2, y5_3⟩ := blk4 BK102.out))
  go_ret
  exact ⟨er, bl⟩
 obtain rfl := Option.some.inj H
 go_enter Try.func86, Try.ntmps86
 go_wp2_with (first | (refine bx 2 #[.string a0_0, .int .i64 a0_1, .int .i64 a0_2, .int .i64 a0_3] 115 ?_; intro gb102 hg w6 hbox hb; have BK102 := am (hbox); have GW102 := am (bsz hg : w.heap.size ≤ gb102); have GE102 := GW102; replace HB := am (below_step bl hb); clear hb hbox hg; obtain ⟨z7_0, z7_1, z7_2, z7_3, y7_0, y7_1, y7_2, y7_3⟩ := blk4 BK102.out))
 go_ret
 exact ⟨er, bl⟩

/-! ### laws_szParamS: function 51 -/
def laws_szParamS.l0 : Nat → List (S115) → Int → Int → Option (Int)
 | 0, _, _, _ => none
 | k + 1, x0, x1, x5 => if x5 < (x0.length : Int) then (if 0 ≤ x5 then ((laws_szParam.f ((rd_T115 x0 x5).f0) ((rd_T115 x0 x5).f1) ((rd_T115 x0 x5).f2) ((rd_T115 x0 x5).f3) x1).bind fun t104 => (if t104 < 0 then (some (-1)) else (laws_szParamS.l0 k x0 t104 (wrap64 (x5 + 1))))) else (none)) else (some x1)
def laws_szParamS.f (k : Nat) (l0 : List (S115)) (a1 : Int) : Option (Int) := if (wrap64 (a1 - (l0.length : Int))) < 0 then (some (-1)) else (laws_szParamS.l0 k l0 (wrap64 (a1 - (l0.length : Int))) 0)
theorem laws_szParamS.mono_l : ∀ k, (∀ y0 y1 y2, LeO (laws_szParamS.l0 k y0 y1 y2) (laws_szParamS.l0 (k + 1) y0 y1 y2))
 | 0 => fun _ _ _ r h => by simp [laws_szParamS.l0] at h
 | k + 1 => by
  have ih0 := laws_szParamS.mono_l k
  ·intro y0 y1 y2
   unfold laws_szParamS.l0
   exact mo
theorem laws_szParamS.mono : ∀ a0 a1 k, LeO (laws_szParamS.f k a0 a1) (laws_szParamS.f (k + 1) a0 a1) := by
 intro a0 a1 k
 have ih0 := laws_szParamS.mono_l k
 unfold laws_szParamS.f
 exact mo
theorem laws_szParamS.calls (k : Nat) (A0 : Option Addr) (c0 : Nat) (l0 : List (S115)) (a1 : Int) (r : Int) (w : World) (hr0 : Kd.C k115 w A0 l0.length l0) (hc0 : l0.length ≤ c0) (h : laws_szParamS.f k l0 a1 = some r) :
  Calls Try.prog 51 #[.slice A0 l0.length c0, .int .i64 a1] w fun e w' => e = .returned (.int .i64 r) ∧ Below w.heap.size w w' := by
 have hu115 := Try.underlying115
 have HR0 := am hr0
 have HC0 := am hc0
 clear hr0 hc0
 have HB := am (Below.refl w.heap.size w)
 have H := h
 clear h
 unfold laws_szParamS.f at H
 revert H; refine iDb (fun c3b0 H => ?_) fun c3b0 H => ?_
 ·obtain rfl := Option.some.inj H
  go_enter Try.func51, Try.ntmps51
  go_wp2
  go_ret
  exact ⟨er, bl⟩
 have H' := am H; clear H
 go_enter Try.func51, Try.ntmps51
 go_wp2
 go_loopg [1, 5] k (fun kq v1 v5 w' => ∃ (x1_1 : Int) (x5_1 : Int), v1 = .int .i64 x1_1 ∧ v5 = .int .i64 x5_1 ∧ Aside0 (laws_szParamS.l0 kq l0 x1_1 x5_1 = some r) ∧ Aside0 (kq ≤ k) ∧ Aside0 (Below w.heap.size w w'))
 case atStart => exact ⟨(wrap64 (a1 - (l0.length : Int))), (0), (by first | rfl | (simp; done) | (simp [*]; done)), (by first | rfl | (simp; done) | (simp [*]; done)), H', ⟨Nat.le_refl _⟩, ⟨bl⟩⟩
 case round =>
  clear H'
  try clear c3b0
  obtain ⟨x1_1, x5_1, rfl, rfl, HA, HK1, HB⟩ := hrel
  cases gk with
  | zero => exact absurd HA.out (by simp [laws_szParamS.l0])
  | succ k1 =>
   have H := HA.out
   clear HA
   simp only [laws_szParamS.l0] at H
   revert H; refine iDb (fun c4b0 H => ?_) fun c4b0 H => ?_
   ·revert H; refine i1 fun c5b0 H => ?_
    revert H; refine bj fun t104 A6 H => ?_
    revert H; refine iDb (fun c7b0 H => ?_) fun c7b0 H => ?_
    ·obtain rfl := Option.some.inj H
     have p103 : 0 ≤ (x5_1 : Int) := ode
     have q103 : x5_1 < (l0.length : Int) := ode
     obtain ⟨ad103, e103, hx103_0, hx103_1, hx103_2, hx103_3⟩ := at_T115 HR0.out x5_1 p103 q103
     cases e103
     obtain ⟨hx103_0, hx103_1, hx103_2, hx103_3⟩ := hb4 HB.out hx103_0 hx103_1 hx103_2 hx103_3
     replace p103 := eq_true p103
     replace q103 := eq_true q103
     go_wp2_with (first | (refine gc 86 (some 23) Try.func86 (laws_szParam.calls _ _ _ _ _ _ _ A6.out) ?_; rintro e w8 ⟨rfl, hb⟩; refine ⟨_, rfl, ?_⟩; replace HB := am (below_step bl hb); clear hb))
     go_ret
     exact ⟨er, bl⟩
    have H' := am H; clear H
    have p103 : 0 ≤ (x5_1 : Int) := ode
    have q103 : x5_1 < (l0.length : Int) := ode
    obtain ⟨ad103, e103, hx103_0, hx103_1, hx103_2, hx103_3⟩ := at_T115 HR0.out x5_1 p103 q103
    cases e103
    obtain ⟨hx103_0, hx103_1, hx103_2, hx103_3⟩ := hb4 HB.out hx103_0 hx103_1 hx103_2 hx103_3
    replace p103 := eq_true p103
    replace q103 := eq_true q103
    go_wp2_with (first | (refine gc 86 (some 23) Try.func86 (laws_szParam.calls _ _ _ _ _ _ _ A6.out) ?_; rintro e w9 ⟨rfl, hb⟩; refine ⟨_, rfl, ?_⟩; replace HB := am (below_step bl hb); clear hb))
    go_roundg k1
    case measure => have := HK1.out; omega
    case rel => exact ⟨(t104), (wrap64 (x5_1 + 1)), (by first | rfl | (simp; done) | (simp [*]; done)), (by first | rfl | (simp; done) | (simp [*]; done)), H', ⟨by have := HK1.out; omega⟩, ⟨bl⟩⟩
   obtain rfl := Option.some.inj H
   go_wp2
   go_ret
   exact ⟨er, bl⟩

/-! ### laws_szNode: function 87 -/
def laws_szNode.f (a0_0 : Int) (a0_1 : ByteArray) (a0_2 : ByteArray) (a0_3 : Int) (a0_4 : Int) (a1 : Int) : Option (Int) := if (wrap64 (a1 - (a0_1.size : Int))) < 0 then (some (-1)) else (if (wrap64 ((wrap64 (a1 - (a0_1.size : Int))) - (a0_2.size : Int))) < 0 then (some (-1)) else (some (wrap64 ((wrap64 (a1 - (a0_1.size : Int))) - (a0_2.size : Int)))))
theorem laws_szNode.calls (a0_0 : Int) (a0_1 : ByteArray) (a0_2 : ByteArray) (a0_3 : Int) (a0_4 : Int) (a1 : Int) (r : Int) (w : World) (h : laws_szNode.f a0_0 a0_1 a0_2 a0_3 a0_4 a1 = some r) :
  Calls Try.prog 87 #[.agg #[.int .i64 a0_0, .string a0_1, .string a0_2, .int .i64 a0_3, .int .i64 a0_4], .int .i64 a1] w fun e w' => e = .returned (.int .i64 r) ∧ Below w.heap.size w w' := by
 have hu117 := Try.underlying117
 have HB := am (Below.refl w.heap.size w)
 have H := h
 clear h
 unfold laws_szNode.f at H
 revert H; refine iDb (fun c3b0 H => ?_) fun c3b0 H => ?_
 ·obtain rfl := Option.some.inj H
  go_enter Try.func87, Try.ntmps87
  go_wp2_with (first | (refine bx 2 #[.int .i64 a0_0, .string a0_1, .string a0_2, .int .i64 a0_3, .int .i64 a0_4] 117 ?_; intro gb105 hg w4 hbox hb; have BK105 := am (hbox); have GW105 := am (bsz hg : w.heap.size ≤ gb105); have GE105 := GW105; replace HB := am (below_step bl hb); clear hb hbox hg; obtain ⟨z5_0, z5_1, z5_2, z5_3, z5_4, y5_0, y5_1, y5_2, y5_3, y5_4⟩ := blk5 BK105.out))
  go_ret
  exact ⟨er, bl⟩
 revert H; refine iDb (fun c6b0 H => ?_) fun c6b0 H => ?_
 ·obtain rfl := Option.some.inj H
  go_enter Try.func87, Try.ntmps87
  go_wp2_with (first | (refine bx 2 #[.int .i64 a0_0, .string a0_1, .string a0_2, .int .i64 a0_3, .int .i64 a0_4] 117 ?_; intro gb105 hg w7 hbox hb; have BK105 := am (hbox); have GW105 := am (bsz hg : w.heap.size ≤ gb105); have GE105 := GW105; replace HB := am (below_step bl hb); clear hb hbox hg; obtain ⟨z8_0, z8_1, z8_2, z8_3, z8_4, y8_0, y8_1, y8_2, y8_3, y8_4⟩ := blk5 BK105.out))
  go_ret
  exact ⟨er, bl⟩
 obtain rfl := Option.some.inj H
 go_enter Try.func87, Try.ntmps87
 go_wp2_with (first | (refine bx 2 #[.int .i64 a0_0, .string a0_1, .string a0_2, .int .i64 a0_3, .int .i64 a0_4] 117 ?_; intro gb105 hg w9 hbox hb; have BK105 := am (hbox); have GW105 := am (bsz hg : w.heap.size ≤ gb105); have GE105 := GW105; replace HB := am (below_step bl hb); clear hb hbox hg; obtain ⟨z10_0, z10_1, z10_2, z10_3, z10_4, y10_0, y10_1, y10_2, y10_3, y10_4⟩ := blk5 BK105.out))
 go_ret
 exact ⟨er, bl⟩

/-! ### laws_szNodeS: function 52 -/
def laws_szNodeS.l0 : Nat → List (S117) → Int → Int → Option (Int)
 | 0, _, _, _ => none
 | k + 1, x0, x1, x5 => if x5 < (x0.length : Int) then (if 0 ≤ x5 then ((laws_szNode.f ((rd_T117 x0 x5).f0) ((rd_T117 x0 x5).f1) ((rd_T117 x0 x5).f2) ((rd_T117 x0 x5).f3) ((rd_T117 x0 x5).f4) x1).bind fun t107 => (if t107 < 0 then (some (-1)) else (laws_szNodeS.l0 k x0 t107 (wrap64 (x5 + 1))))) else (none)) else (some x1)
def laws_szNodeS.f (k : Nat) (l0 : List (S117)) (a1 : Int) : Option (Int) := if (wrap64 (a1 - (l0.length : Int))) < 0 then (some (-1)) else (laws_szNodeS.l0 k l0 (wrap64 (a1 - (l0.length : Int))) 0)
theorem laws_szNodeS.mono_l : ∀ k, (∀ y0 y1 y2, LeO (laws_szNodeS.l0 k y0 y1 y2) (laws_szNodeS.l0 (k + 1) y0 y1 y2))
 | 0 => fun _ _ _ r h => by simp [laws_szNodeS.l0] at h
 | k + 1 => by
  have ih0 := laws_szNodeS.mono_l k
  ·intro y0 y1 y2
   unfold laws_szNodeS.l0
   exact mo
theorem laws_szNodeS.mono : ∀ a0 a1 k, LeO (laws_szNodeS.f k a0 a1) (laws_szNodeS.f (k + 1) a0 a1) := by
 intro a0 a1 k
 have ih0 := laws_szNodeS.mono_l k
 unfold laws_szNodeS.f
 exact mo
theorem laws_szNodeS.calls (k : Nat) (A0 : Option Addr) (c0 : Nat) (l0 : List (S117)) (a1 : Int) (r : Int) (w : World) (hr0 : Kd.C k117 w A0 l0.length l0) (hc0 : l0.length ≤ c0) (h : laws_szNodeS.f k l0 a1 = some r) :
  Calls Try.prog 52 #[.slice A0 l0.length c0, .int .i64 a1] w fun e w' => e = .returned (.int .i64 r) ∧ Below w.heap.size w w' := by
 have hu117 := Try.underlying117
 have HR0 := am hr0
 have HC0 := am hc0
 clear hr0 hc0
 have HB := am (Below.refl w.heap.size w)
 have H := h
 clear h
 unfold laws_szNodeS.f at H
 revert H; refine iDb (fun c3b0 H => ?_) fun c3b0 H => ?_
 ·obtain rfl := Option.some.inj H
  go_enter Try.func52, Try.ntmps52
  go_wp2
  go_ret
  exact ⟨er, bl⟩
 have H' := am H; clear H
 go_enter Try.func52, Try.ntmps52
 go_wp2
 go_loopg [1, 5] k (fun kq v1 v5 w' => ∃ (x1_1 : Int) (x5_1 : Int), v1 = .int .i64 x1_1 ∧ v5 = .int .i64 x5_1 ∧ Aside0 (laws_szNodeS.l0 kq l0 x1_1 x5_1 = some r) ∧ Aside0 (kq ≤ k) ∧ Aside0 (Below w.heap.size w w'))
 case atStart => exact ⟨(wrap64 (a1 - (l0.length : Int))), (0), (by first | rfl | (simp; done) | (simp [*]; done)), (by first | rfl | (simp; done) | (simp [*]; done)), H', ⟨Nat.le_refl _⟩, ⟨bl⟩⟩
 case round =>
  clear H'
  try clear c3b0
  obtain ⟨x1_1, x5_1, rfl, rfl, HA, HK1, HB⟩ := hrel
  cases gk with
  | zero => exact absurd HA.out (by simp [laws_szNodeS.l0])
  | succ k1 =>
   have H := HA.out
   clear HA
   simp only [laws_szNodeS.l0] at H
   revert H; refine iDb (fun c4b0 H => ?_) fun c4b0 H => ?_
   ·revert H; refine i1 fun c5b0 H => ?_
    revert H; refine bj fun t107 A6 H => ?_
    revert H; refine iDb (fun c7b0 H => ?_) fun c7b0 H => ?_
    ·obtain rfl := Option.some.inj H
     have p106 : 0 ≤ (x5_1 : Int) := ode
     have q106 : x5_1 < (l0.length : Int) := ode
     obtain ⟨ad106, e106, hx106_0, hx106_1, hx106_2, hx106_3, hx106_4⟩ := at_T117 HR0.out x5_1 p106 q106
     cases e106
     obtain ⟨hx106_0, hx106_1, hx106_2, hx106_3, hx106_4⟩ := hb5 HB.out hx106_0 hx106_1 hx106_2 hx106_3 hx106_4
     replace p106 := eq_true p106
     replace q106 := eq_true q106
     go_wp2_with (first | (refine gc 87 (some 23) Try.func87 (laws_szNode.calls _ _ _ _ _ _ _ _ A6.out) ?_; rintro e w8 ⟨rfl, hb⟩; refine ⟨_, rfl, ?_⟩; replace HB := am (below_step bl hb); clear hb))
     go_ret
     exact ⟨er, bl⟩
    have H' := am H; clear H
    have p106 : 0 ≤ (x5_1 : Int) := ode
    have q106 : x5_1 < (l0.length : Int) := ode
    obtain ⟨ad106, e106, hx106_0, hx106_1, hx106_2, hx106_3, hx106_4⟩ := at_T117 HR0.out x5_1 p106 q106
    cases e106
    obtain ⟨hx106_0, hx106_1, hx106_2, hx106_3, hx106_4⟩ := hb5 HB.out hx106_0 hx106_1 hx106_2 hx106_3 hx106_4
    replace p106 := eq_true p106
    replace q106 := eq_true q106
    go_wp2_with (first | (refine gc 87 (some 23) Try.func87 (laws_szNode.calls _ _ _ _ _ _ _ _ A6.out) ?_; rintro e w9 ⟨rfl, hb⟩; refine ⟨_, rfl, ?_⟩; replace HB := am (below_step bl hb); clear hb))
    go_roundg k1
    case measure => have := HK1.out; omega
    case rel => exact ⟨(t107), (wrap64 (x5_1 + 1)), (by first | rfl | (simp; done) | (simp [*]; done)), (by first | rfl | (simp; done) | (simp [*]; done)), H', ⟨by have := HK1.out; omega⟩, ⟨bl⟩⟩
   obtain rfl := Option.some.inj H
   go_wp2
   go_ret
   exact ⟨er, bl⟩

/-! ### laws_szProduct: function 18 -/
def laws_szProduct.f (k : Nat) (a0_0 : ByteArray) (a0_1 : Int) (l0_2 : List ByteArray) (l0_3 : List ByteArray) (l0_4 : List (S115)) (l0_5 : List (S117)) (l0_6 : List (S117)) (l0_7 : List (S117)) (a1 : Int) : Option Int := if (wrap64 (a1 - (a0_0.size : Int))) < 0 then (some (-1)) else ((laws_szStringS.f k l0_2 (wrap64 (a1 - (a0_0.size : Int)))).bind fun t2 => (if t2 < 0 then (some (-1)) else ((laws_szStringS.f k l0_3 t2).bind fun t3 => (if t3 < 0 then (some (-1)) else ((laws_szParamS.f k l0_4 t3).bind fun t4 => (if t4 < 0 then (some (-1)) else ((laws_szNodeS.f k l0_5 t4).bind fun t5 => (if t5 < 0 then (some (-1)) else ((laws_szNodeS.f k l0_6 t5).bind fun t6 => (if t6 < 0 then (some (-1)) else ((laws_szNodeS.f k l0_7 t6).bind fun t7 => (if t7 < 0 then (some (-1)) else (some t7)))))))))))))
theorem laws_szProduct.mono : ∀ x0 x1 x2 x3 x4 x5 x6 x7 x8 k, LeO (laws_szProduct.f k x0 x1 x2 x3 x4 x5 x6 x7 x8) (laws_szProduct.f (k + 1) x0 x1 x2 x3 x4 x5 x6 x7 x8) := by
 intro x0 x1 x2 x3 x4 x5 x6 x7 x8 k
 unfold laws_szProduct.f
 repeat' (with_reducible first | exact laws_szStringS.mono .. | exact laws_szParamS.mono .. | exact laws_szNodeS.mono .. | exact LeO.refl _ | refine LeO.ite ?_ ?_ | refine LeO.bind ?_ (fun _ => ?_))
theorem laws_szProduct.fst (w : World) (o : Obj) : (w.alloc o).heap[w.heap.size]? = some o := by
 show (w.heap.push _)[w.heap.size]? = _
 simp
theorem laws_szProduct.cells {w : World} {g : Nat} {t : TypeId} {v0 v1 v2 v3 v4 v5 v6 v7 : Value} (h : w.heap[g]? = some (.cells #[v0, v1, v2, v3, v4, v5, v6, v7] t (0, 0))) : w.cell? ⟨g, 0, none⟩ = some v0 ∧ w.cell? ⟨g, 1, none⟩ = some v1 ∧ w.cell? ⟨g, 2, none⟩ = some v2 ∧ w.cell? ⟨g, 3, none⟩ = some v3 ∧ w.cell? ⟨g, 4, none⟩ = some v4 ∧ w.cell? ⟨g, 5, none⟩ = some v5 ∧ w.cell? ⟨g, 6, none⟩ = some v6 ∧ w.cell? ⟨g, 7, none⟩ = some v7 := ⟨(blk_cell h 0).trans rfl, (blk_cell h 1).trans rfl, (blk_cell h 2).trans rfl, (blk_cell h 3).trans rfl, (blk_cell h 4).trans rfl, (blk_cell h 5).trans rfl, (blk_cell h 6).trans rfl, (blk_cell h 7).trans rfl⟩
theorem laws_szProduct.calls (k : Nat) (a0_0 : ByteArray) (a0_1 : Int) (A0_2 : Option Addr) (c0_2 : Nat) (l0_2 : List ByteArray) (A0_3 : Option Addr) (c0_3 : Nat) (l0_3 : List ByteArray) (A0_4 : Option Addr) (c0_4 : Nat) (l0_4 : List (S115)) (A0_5 : Option Addr) (c0_5 : Nat) (l0_5 : List (S117)) (A0_6 : Option Addr) (c0_6 : Nat) (l0_6 : List (S117)) (A0_7 : Option Addr) (c0_7 : Nat) (l0_7 : List (S117)) (a1 : Int) (r : Int) (w : World) (hr0_2 : Kd.C Kd.string w A0_2 l0_2.length l0_2) (hc0_2 : l0_2.length ≤ c0_2) (hr0_3 : Kd.C Kd.string w A0_3 l0_3.length l0_3) (hc0_3 : l0_3.length ≤ c0_3) (hr0_4 : Kd.C k115 w A0_4 l0_4.length l0_4) (hc0_4 : l0_4.length ≤ c0_4) (hr0_5 : Kd.C k117 w A0_5 l0_5.length l0_5) (hc0_5 : l0_5.length ≤ c0_5) (hr0_6 : Kd.C k117 w A0_6 l0_6.length l0_6) (hc0_6 : l0_6.length ≤ c0_6) (hr0_7 : Kd.C k117 w A0_7 l0_7.length l0_7) (hc0_7 : l0_7.length ≤ c0_7) (h : laws_szProduct.f k a0_0 a0_1 l0_2 l0_3 l0_4 l0_5 l0_6 l0_7 a1 = some r) :
  Calls Try.prog 18 #[.agg #[.string a0_0, .int .i64 a0_1, .slice A0_2 l0_2.length c0_2, .slice A0_3 l0_3.length c0_3, .slice A0_4 l0_4.length c0_4, .slice A0_5 l0_5.length c0_5, .slice A0_6 l0_6.length c0_6, .slice A0_7 l0_7.length c0_7], .int .i64 a1] w fun e w' => e = .returned (.int .i64 r) ∧ Below w.heap.size w w' := by
 obtain ⟨v, hv⟩ : ∃ v, IntKind.i64.wrap (a1 - (a0_0.size : Int)) = v := ⟨_, rfl⟩
 have hv' : wrap64 (a1 - (a0_0.size : Int)) = v := (i64_w _).symm.trans hv
 unfold laws_szProduct.f at h
 rw [hv'] at h
 clear hv'
 have hu := Try.underlying35
 have Q1 : ∀ {X W : World}, Below X.heap.size X W → Below w.heap.size w X → Below w.heap.size w W := fun a b => b.trans (a.mono (below_size b))
 by_cases n1 : v < 0
 ·rw [if_pos n1] at h
  obtain rfl := Option.some.inj h
  replace n1 := decide_eq_true n1
  clear h
  go_enter Try.func18, Try.ntmps18
  go_wp2
  go_ret
  exact ⟨rfl, by repeat (first | exact Below.refl _ _ | apply below_alloc)⟩
 rw [if_neg n1] at h
 replace n1 := decide_eq_false n1
 obtain ⟨t2, e2, h⟩ := Option.bind_eq_some_iff.mp h
 have q2 := fun W (hb : Below w.heap.size w W) => laws_szStringS.calls k A0_2 c0_2 l0_2 v t2 W (Kd.C_below hr0_2 hb) hc0_2 e2
 clear hr0_2 hc0_2 e2
 by_cases m2 : t2 < 0
 ·rw [if_pos m2] at h
  obtain rfl := Option.some.inj h
  replace m2 := decide_eq_true m2
  clear h
  clear hr0_3 hc0_3 hr0_4 hc0_4 hr0_5 hc0_5 hr0_6 hc0_6 hr0_7 hc0_7
  go_enter Try.func18, Try.ntmps18
  go_wp2_with (first | (go_at_call 50; (with_reducible first | refine (q2 _ ?hbl).mono ?_); (case hbl => (repeat (first | exact HB.out | exact Below.refl _ _ | apply below_alloc | apply pw_below_drewN | apply below_drew))); rintro e w1 ⟨rfl, hd⟩; obtain ⟨nd, rfl⟩ := hd.out))
  go_ret
  exact ⟨rfl, by repeat (first | exact HB.out | exact Below.refl _ _ | apply below_alloc | apply pw_below_drewN | apply below_drew)⟩
 rw [if_neg m2] at h
 replace m2 := decide_eq_false m2
 obtain ⟨t3, e3, h⟩ := Option.bind_eq_some_iff.mp h
 have q3 := fun W (hb : Below w.heap.size w W) => laws_szStringS.calls k A0_3 c0_3 l0_3 t2 t3 W (Kd.C_below hr0_3 hb) hc0_3 e3
 clear hr0_3 hc0_3 e3
 by_cases m3 : t3 < 0
 ·rw [if_pos m3] at h
  obtain rfl := Option.some.inj h
  replace m3 := decide_eq_true m3
  clear h
  clear hr0_4 hc0_4 hr0_5 hc0_5 hr0_6 hc0_6 hr0_7 hc0_7
  go_enter Try.func18, Try.ntmps18
  go_wp2_with (first | (go_at_call 50; (with_reducible first | refine (q2 _ ?hbl).mono ?_ | refine (q3 _ ?hbl).mono ?_); (case hbl => (repeat (first | exact HB.out | exact Below.refl _ _ | apply below_alloc | apply pw_below_drewN | apply below_drew))); rintro e w1 ⟨rfl, hd⟩; obtain ⟨nd, rfl⟩ := hd.out))
  go_ret
  exact ⟨rfl, by repeat (first | exact HB.out | exact Below.refl _ _ | apply below_alloc | apply pw_below_drewN | apply below_drew)⟩
 rw [if_neg m3] at h
 replace m3 := decide_eq_false m3
 obtain ⟨t4, e4, h⟩ := Option.bind_eq_some_iff.mp h
 have q4 := fun W (hb : Below w.heap.size w W) => laws_szParamS.calls k A0_4 c0_4 l0_4 t3 t4 W (Kd.C_below hr0_4 hb) hc0_4 e4
 clear hr0_4 hc0_4 e4
 by_cases m4 : t4 < 0
 ·rw [if_pos m4] at h
  obtain rfl := Option.some.inj h
  replace m4 := decide_eq_true m4
  clear h
  clear hr0_5 hc0_5 hr0_6 hc0_6 hr0_7 hc0_7
  go_enter Try.func18, Try.ntmps18
  go_wp2_with (first | (go_at_call 50; (with_reducible first | refine (q2 _ ?hbl).mono ?_ | refine (q3 _ ?hbl).mono ?_); (case hbl => (repeat (first | exact HB.out | exact Below.refl _ _ | apply below_alloc | apply pw_below_drewN | apply below_drew))); rintro e w1 ⟨rfl, hd⟩; obtain ⟨nd, rfl⟩ := hd.out) | (go_at_call 51; (with_reducible refine (q4 _ ?hbl).mono ?_); (case hbl => (repeat (first | exact HB.out | exact Below.refl _ _ | apply below_alloc | apply pw_below_drewN | apply below_drew))); rintro e w1 ⟨rfl, hb⟩; have n1_ := blk_below (g := w.heap.size) (by (with_reducible repeat (first | refine blk_drewN ?_ _ | refine blk_drew ?_)); first | exact B1.out | exact laws_szProduct.fst _ _) hb; have n3_ := am (Q1 hb (by repeat (first | exact HB.out | exact Below.refl _ _ | apply below_alloc | apply pw_below_drewN | apply below_drew))); (try clear B1 HB); (try clear z0 z1 z2 z3 z4 z5 z6 z7); obtain ⟨z0, z1, z2, z3, z4, z5, z6, z7⟩ := laws_szProduct.cells n1_; have B1 := Aside0.mk n1_; have HB := n3_; clear n1_ n3_ hb))
  go_ret
  exact ⟨rfl, by repeat (first | exact HB.out | exact Below.refl _ _ | apply below_alloc | apply pw_below_drewN | apply below_drew)⟩
 rw [if_neg m4] at h
 replace m4 := decide_eq_false m4
 obtain ⟨t5, e5, h⟩ := Option.bind_eq_some_iff.mp h
 have q5 := fun W (hb : Below w.heap.size w W) => laws_szNodeS.calls k A0_5 c0_5 l0_5 t4 t5 W (Kd.C_below hr0_5 hb) hc0_5 e5
 clear hr0_5 hc0_5 e5
 by_cases m5 : t5 < 0
 ·rw [if_pos m5] at h
  obtain rfl := Option.some.inj h
  replace m5 := decide_eq_true m5
  clear h
  clear hr0_6 hc0_6 hr0_7 hc0_7
  go_enter Try.func18, Try.ntmps18
  go_wp2_with (first | (go_at_call 50; (with_reducible first | refine (q2 _ ?hbl).mono ?_ | refine (q3 _ ?hbl).mono ?_); (case hbl => (repeat (first | exact HB.out | exact Below.refl _ _ | apply below_alloc | apply pw_below_drewN | apply below_drew))); rintro e w1 ⟨rfl, hd⟩; obtain ⟨nd, rfl⟩ := hd.out) | (go_at_call 51; (with_reducible refine (q4 _ ?hbl).mono ?_); (case hbl => (repeat (first | exact HB.out | exact Below.refl _ _ | apply below_alloc | apply pw_below_drewN | apply below_drew))); rintro e w1 ⟨rfl, hb⟩; have n1_ := blk_below (g := w.heap.size) (by (with_reducible repeat (first | refine blk_drewN ?_ _ | refine blk_drew ?_)); first | exact B1.out | exact laws_szProduct.fst _ _) hb; have n3_ := am (Q1 hb (by repeat (first | exact HB.out | exact Below.refl _ _ | apply below_alloc | apply pw_below_drewN | apply below_drew))); (try clear B1 HB); (try clear z0 z1 z2 z3 z4 z5 z6 z7); obtain ⟨z0, z1, z2, z3, z4, z5, z6, z7⟩ := laws_szProduct.cells n1_; have B1 := Aside0.mk n1_; have HB := n3_; clear n1_ n3_ hb) | (go_at_call 52; (with_reducible first | refine (q5 _ ?hbl).mono ?_); (case hbl => (repeat (first | exact HB.out | exact Below.refl _ _ | apply below_alloc | apply pw_below_drewN | apply below_drew))); rintro e w1 ⟨rfl, hb⟩; have n1_ := blk_below (g := w.heap.size) (by (with_reducible repeat (first | refine blk_drewN ?_ _ | refine blk_drew ?_)); first | exact B1.out | exact laws_szProduct.fst _ _) hb; have n3_ := am (Q1 hb (by repeat (first | exact HB.out | exact Below.refl _ _ | apply below_alloc | apply pw_below_drewN | apply below_drew))); (try clear B1 HB); (try clear z0 z1 z2 z3 z4 z5 z6 z7); obtain ⟨z0, z1, z2, z3, z4, z5, z6, z7⟩ := laws_szProduct.cells n1_; have B1 := Aside0.mk n1_; have HB := n3_; clear n1_ n3_ hb))
  go_ret
  exact ⟨rfl, by repeat (first | exact HB.out | exact Below.refl _ _ | apply below_alloc | apply pw_below_drewN | apply below_drew)⟩
 rw [if_neg m5] at h
 replace m5 := decide_eq_false m5
 obtain ⟨t6, e6, h⟩ := Option.bind_eq_some_iff.mp h
 have q6 := fun W (hb : Below w.heap.size w W) => laws_szNodeS.calls k A0_6 c0_6 l0_6 t5 t6 W (Kd.C_below hr0_6 hb) hc0_6 e6
 clear hr0_6 hc0_6 e6
 by_cases m6 : t6 < 0
 ·rw [if_pos m6] at h
  obtain rfl := Option.some.inj h
  replace m6 := decide_eq_true m6
  clear h
  clear hr0_7 hc0_7
  go_enter Try.func18, Try.ntmps18
  go_wp2_with (first | (go_at_call 50; (with_reducible first | refine (q2 _ ?hbl).mono ?_ | refine (q3 _ ?hbl).mono ?_); (case hbl => (repeat (first | exact HB.out | exact Below.refl _ _ | apply below_alloc | apply pw_below_drewN | apply below_drew))); rintro e w1 ⟨rfl, hd⟩; obtain ⟨nd, rfl⟩ := hd.out) | (go_at_call 51; (with_reducible refine (q4 _ ?hbl).mono ?_); (case hbl => (repeat (first | exact HB.out | exact Below.refl _ _ | apply below_alloc | apply pw_below_drewN | apply below_drew))); rintro e w1 ⟨rfl, hb⟩; have n1_ := blk_below (g := w.heap.size) (by (with_reducible repeat (first | refine blk_drewN ?_ _ | refine blk_drew ?_)); first | exact B1.out | exact laws_szProduct.fst _ _) hb; have n3_ := am (Q1 hb (by repeat (first | exact HB.out | exact Below.refl _ _ | apply below_alloc | apply pw_below_drewN | apply below_drew))); (try clear B1 HB); (try clear z0 z1 z2 z3 z4 z5 z6 z7); obtain ⟨z0, z1, z2, z3, z4, z5, z6, z7⟩ := laws_szProduct.cells n1_; have B1 := Aside0.mk n1_; have HB := n3_; clear n1_ n3_ hb) | (go_at_call 52; (with_reducible first | refine (q5 _ ?hbl).mono ?_ | refine (q6 _ ?hbl).mono ?_); (case hbl => (repeat (first | exact HB.out | exact Below.refl _ _ | apply below_alloc | apply pw_below_drewN | apply below_drew))); rintro e w1 ⟨rfl, hb⟩; have n1_ := blk_below (g := w.heap.size) (by (with_reducible repeat (first | refine blk_drewN ?_ _ | refine blk_drew ?_)); first | exact B1.out | exact laws_szProduct.fst _ _) hb; have n3_ := am (Q1 hb (by repeat (first | exact HB.out | exact Below.refl _ _ | apply below_alloc | apply pw_below_drewN | apply below_drew))); (try clear B1 HB); (try clear z0 z1 z2 z3 z4 z5 z6 z7); obtain ⟨z0, z1, z2, z3, z4, z5, z6, z7⟩ := laws_szProduct.cells n1_; have B1 := Aside0.mk n1_; have HB := n3_; clear n1_ n3_ hb))
  go_ret
  exact ⟨rfl, by repeat (first | exact HB.out | exact Below.refl _ _ | apply below_alloc | apply pw_below_drewN | apply below_drew)⟩
 rw [if_neg m6] at h
 replace m6 := decide_eq_false m6
 obtain ⟨t7, e7, h⟩ := Option.bind_eq_some_iff.mp h
 have q7 := fun W (hb : Below w.heap.size w W) => laws_szNodeS.calls k A0_7 c0_7 l0_7 t6 t7 W (Kd.C_below hr0_7 hb) hc0_7 e7
 clear hr0_7 hc0_7 e7
 by_cases m7 : t7 < 0
 ·rw [if_pos m7] at h
  obtain rfl := Option.some.inj h
  replace m7 := decide_eq_true m7
  clear h
  go_enter Try.func18, Try.ntmps18
  go_wp2_with (first | (go_at_call 50; (with_reducible first | refine (q2 _ ?hbl).mono ?_ | refine (q3 _ ?hbl).mono ?_); (case hbl => (repeat (first | exact HB.out | exact Below.refl _ _ | apply below_alloc | apply pw_below_drewN | apply below_drew))); rintro e w1 ⟨rfl, hd⟩; obtain ⟨nd, rfl⟩ := hd.out) | (go_at_call 51; (with_reducible refine (q4 _ ?hbl).mono ?_); (case hbl => (repeat (first | exact HB.out | exact Below.refl _ _ | apply below_alloc | apply pw_below_drewN | apply below_drew))); rintro e w1 ⟨rfl, hb⟩; have n1_ := blk_below (g := w.heap.size) (by (with_reducible repeat (first | refine blk_drewN ?_ _ | refine blk_drew ?_)); first | exact B1.out | exact laws_szProduct.fst _ _) hb; have n3_ := am (Q1 hb (by repeat (first | exact HB.out | exact Below.refl _ _ | apply below_alloc | apply pw_below_drewN | apply below_drew))); (try clear B1 HB); (try clear z0 z1 z2 z3 z4 z5 z6 z7); obtain ⟨z0, z1, z2, z3, z4, z5, z6, z7⟩ := laws_szProduct.cells n1_; have B1 := Aside0.mk n1_; have HB := n3_; clear n1_ n3_ hb) | (go_at_call 52; (with_reducible first | refine (q5 _ ?hbl).mono ?_ | refine (q6 _ ?hbl).mono ?_ | refine (q7 _ ?hbl).mono ?_); (case hbl => (repeat (first | exact HB.out | exact Below.refl _ _ | apply below_alloc | apply pw_below_drewN | apply below_drew))); rintro e w1 ⟨rfl, hb⟩; have n1_ := blk_below (g := w.heap.size) (by (with_reducible repeat (first | refine blk_drewN ?_ _ | refine blk_drew ?_)); first | exact B1.out | exact laws_szProduct.fst _ _) hb; have n3_ := am (Q1 hb (by repeat (first | exact HB.out | exact Below.refl _ _ | apply below_alloc | apply pw_below_drewN | apply below_drew))); (try clear B1 HB); (try clear z0 z1 z2 z3 z4 z5 z6 z7); obtain ⟨z0, z1, z2, z3, z4, z5, z6, z7⟩ := laws_szProduct.cells n1_; have B1 := Aside0.mk n1_; have HB := n3_; clear n1_ n3_ hb))
  go_ret
  exact ⟨rfl, by repeat (first | exact HB.out | exact Below.refl _ _ | apply below_alloc | apply pw_below_drewN | apply below_drew)⟩
 rw [if_neg m7] at h
 replace m7 := decide_eq_false m7
 obtain rfl := Option.some.inj h
 clear h
 go_enter Try.func18, Try.ntmps18
 go_wp2_with (first | (go_at_call 50; (with_reducible first | refine (q2 _ ?hbl).mono ?_ | refine (q3 _ ?hbl).mono ?_); (case hbl => (repeat (first | exact HB.out | exact Below.refl _ _ | apply below_alloc | apply pw_below_drewN | apply below_drew))); rintro e w1 ⟨rfl, hd⟩; obtain ⟨nd, rfl⟩ := hd.out) | (go_at_call 51; (with_reducible refine (q4 _ ?hbl).mono ?_); (case hbl => (repeat (first | exact HB.out | exact Below.refl _ _ | apply below_alloc | apply pw_below_drewN | apply below_drew))); rintro e w1 ⟨rfl, hb⟩; have n1_ := blk_below (g := w.heap.size) (by (with_reducible repeat (first | refine blk_drewN ?_ _ | refine blk_drew ?_)); first | exact B1.out | exact laws_szProduct.fst _ _) hb; have n3_ := am (Q1 hb (by repeat (first | exact HB.out | exact Below.refl _ _ | apply below_alloc | apply pw_below_drewN | apply below_drew))); (try clear B1 HB); (try clear z0 z1 z2 z3 z4 z5 z6 z7); obtain ⟨z0, z1, z2, z3, z4, z5, z6, z7⟩ := laws_szProduct.cells n1_; have B1 := Aside0.mk n1_; have HB := n3_; clear n1_ n3_ hb) | (go_at_call 52; (with_reducible first | refine (q5 _ ?hbl).mono ?_ | refine (q6 _ ?hbl).mono ?_ | refine (q7 _ ?hbl).mono ?_); (case hbl => (repeat (first | exact HB.out | exact Below.refl _ _ | apply below_alloc | apply pw_below_drewN | apply below_drew))); rintro e w1 ⟨rfl, hb⟩; have n1_ := blk_below (g := w.heap.size) (by (with_reducible repeat (first | refine blk_drewN ?_ _ | refine blk_drew ?_)); first | exact B1.out | exact laws_szProduct.fst _ _) hb; have n3_ := am (Q1 hb (by repeat (first | exact HB.out | exact Below.refl _ _ | apply below_alloc | apply pw_below_drewN | apply below_drew))); (try clear B1 HB); (try clear z0 z1 z2 z3 z4 z5 z6 z7); obtain ⟨z0, z1, z2, z3, z4, z5, z6, z7⟩ := laws_szProduct.cells n1_; have B1 := Aside0.mk n1_; have HB := n3_; clear n1_ n3_ hb))
 go_ret
 exact ⟨rfl, by repeat (first | exact HB.out | exact Below.refl _ _ | apply below_alloc | apply pw_below_drewN | apply below_drew)⟩

/-! ### spec_l07SameTexts: function 53 -/
def spec_l07SameTexts.l0 : Nat → List ByteArray → List ByteArray → Int → Option (Bool)
 | 0, _, _, _ => none
 | k + 1, x0, x1, x5 => if x5 < (x0.length : Int) then (if 0 ≤ x5 then (if x5 < (x1.length : Int) then (if (rdOf ByteArray.empty x0 x5).toList = (rdOf ByteArray.empty x1 x5).toList then (spec_l07SameTexts.l0 k x0 x1 (wrap64 (x5 + 1))) else (some false)) else (none)) else (none)) else (some true)
def spec_l07SameTexts.f (k : Nat) (l0 : List ByteArray) (l1 : List ByteArray) : Option (Bool) := if (l0.length : Int) = (l1.length : Int) then (spec_l07SameTexts.l0 k l0 l1 0) else (some false)
theorem spec_l07SameTexts.mono_l : ∀ k, (∀ y0 y1 y2, LeO (spec_l07SameTexts.l0 k y0 y1 y2) (spec_l07SameTexts.l0 (k + 1) y0 y1 y2))
 | 0 => fun _ _ _ r h => by simp [spec_l07SameTexts.l0] at h
 | k + 1 => by
  have ih0 := spec_l07SameTexts.mono_l k
  ·intro y0 y1 y2
   unfold spec_l07SameTexts.l0
   exact mo
theorem spec_l07SameTexts.mono : ∀ a0 a1 k, LeO (spec_l07SameTexts.f k a0 a1) (spec_l07SameTexts.f (k + 1) a0 a1) := by
 intro a0 a1 k
 have ih0 := spec_l07SameTexts.mono_l k
 unfold spec_l07SameTexts.f
 exact mo
theorem spec_l07SameTexts.calls (k : Nat) (A0 : Option Addr) (c0 : Nat) (l0 : List ByteArray) (A1 : Option Addr) (c1 : Nat) (l1 : List ByteArray) (r : Bool) (w : World) (hr0 : Kd.C Kd.string w A0 l0.length l0) (hc0 : l0.length ≤ c0) (hr1 : Kd.C Kd.string w A1 l1.length l1) (hc1 : l1.length ≤ c1) (h : spec_l07SameTexts.f k l0 l1 = some r) :
  Calls Try.prog 53 #[.slice A0 l0.length c0, .slice A1 l1.length c1] w fun e w' => e = .returned (.bool r) ∧ Drawn0 w w' := by
 have HR0 := am hr0
 have HC0 := am hc0
 clear hr0 hc0
 have HR1 := am hr1
 have HC1 := am hc1
 clear hr1 hc1
 have H := h
 clear h
 unfold spec_l07SameTexts.f at H
 revert H; refine iQn (fun c3 c3b0 c3b1 H => ?_) fun c3 c3b0 c3b1 H => ?_
 ·have c3b2 : (l0.length == l1.length) = true := by first | simpa using c3 | (simp at c3 ⊢; omega)
  clear c3
  have H' := am H; clear H
  go_enter Try.func53, Try.ntmps53
  go_wp2
  repeat (go_quiet (fail); try go_wp2)
  go_loopg [5] k (fun kq v5 w' => ∃ (x5_1 : Int), v5 = .int .i64 x5_1 ∧ Aside0 (spec_l07SameTexts.l0 kq l0 l1 x5_1 = some r) ∧ Aside0 (kq ≤ k) ∧ Drawn0 w w')
  case atStart => exact ⟨(0), (by first | rfl | (simp; done) | (simp [*]; done)), H', ⟨Nat.le_refl _⟩, by repeat (first | exact Drawn0.refl _ | apply Drawn0.step)⟩
  case round =>
   clear H'
   try clear c1; try clear c3; try clear c3b0; try clear c3b1; try clear c3b2
   obtain ⟨x5_1, rfl, HA, HK1, ⟨m1, rfl⟩⟩ := hrel
   cases gk with
   | zero => exact absurd HA.out (by simp [spec_l07SameTexts.l0])
   | succ k1 =>
    have H := HA.out
    clear HA
    simp only [spec_l07SameTexts.l0] at H
    revert H; refine iDb (fun c4b0 H => ?_) fun c4b0 H => ?_
    ·revert H; refine i1 fun c5b0 H => ?_
     revert H; refine i1 fun c6b0 H => ?_
     revert H; refine iQ (fun c7b0 c7b1 H => ?_) fun c7 c7b0 c7b1 H => ?_
     ·have H' := am H; clear H
      have p108 : 0 ≤ (x5_1 : Int) := ode
      have q108 : x5_1 < (l0.length : Int) := ode
      obtain ⟨ad108, e108, hx108_0⟩ := Kd.at_string HR0.out x5_1 p108 q108
      cases e108
      replace p108 := eq_true p108
      replace q108 := eq_true q108
      have p109 : 0 ≤ (x5_1 : Int) := ode
      have q109 : x5_1 < (l1.length : Int) := ode
      obtain ⟨ad109, e109, hx109_0⟩ := Kd.at_string HR1.out x5_1 p109 q109
      cases e109
      replace p109 := eq_true p109
      replace q109 := eq_true q109
      go_wp2
      repeat (go_quiet (fail); try go_wp2)
      go_roundg k1
      case measure => have := HK1.out; omega
      case rel => exact ⟨(wrap64 (x5_1 + 1)), (by first | rfl | (simp; done) | (simp [*]; done)), H', ⟨by have := HK1.out; omega⟩, by repeat (first | exact Drawn0.refl _ | apply Drawn0.step)⟩
     obtain rfl := Option.some.inj H
     have p108 : 0 ≤ (x5_1 : Int) := ode
     have q108 : x5_1 < (l0.length : Int) := ode
     obtain ⟨ad108, e108, hx108_0⟩ := Kd.at_string HR0.out x5_1 p108 q108
     cases e108
     replace p108 := eq_true p108
     replace q108 := eq_true q108
     have p109 : 0 ≤ (x5_1 : Int) := ode
     have q109 : x5_1 < (l1.length : Int) := ode
     obtain ⟨ad109, e109, hx109_0⟩ := Kd.at_string HR1.out x5_1 p109 q109
     cases e109
     replace p109 := eq_true p109
     replace q109 := eq_true q109
     go_wp2
     repeat (go_quiet (fail); try go_wp2)
     go_ret
     exact ⟨by first | rfl | (simp; done) | (simp [*]; done), by repeat (first | exact Drawn0.refl _ | apply Drawn0.step)⟩
    obtain rfl := Option.some.inj H
    go_wp2
    repeat (go_quiet (fail); try go_wp2)
    go_ret
    exact ⟨by first | rfl | (simp; done) | (simp [*]; done), by repeat (first | exact Drawn0.refl _ | apply Drawn0.step)⟩
 have c3b2 : (l0.length == l1.length) = false := by first | simpa using c3 | (simp at c3 ⊢; omega)
 obtain rfl := Option.some.inj H
 go_enter Try.func53, Try.ntmps53
 go_wp2
 repeat (go_quiet (fail); try go_wp2)
 go_ret
 exact ⟨by first | rfl | (simp; done) | (simp [*]; done), by repeat (first | exact Drawn0.refl _ | apply Drawn0.step)⟩

/-! ### spec_l07SameNodes: function 54 -/
def spec_l07SameNodes.l0 : Nat → List (S88) → List (S88) → Int → Option (Bool)
 | 0, _, _, _ => none
 | k + 1, x0, x1, x5 => if x5 < (x0.length : Int) then (if 0 ≤ x5 then (if x5 < (x1.length : Int) then (if (!(((rd_T88 x0 x5).f0) == ((rd_T88 x1 x5).f0)) || (!((((rd_T88 x0 x5).f1).toList) == (((rd_T88 x1 x5).f1).toList)) || (!((((rd_T88 x0 x5).f2).toList) == (((rd_T88 x1 x5).f2).toList)) || (!(((rd_T88 x0 x5).f3) == ((rd_T88 x1 x5).f3)) || (!(((rd_T88 x0 x5).f4) == ((rd_T88 x1 x5).f4))))))) = true then (some false) else (spec_l07SameNodes.l0 k x0 x1 (wrap64 (x5 + 1)))) else (none)) else (none)) else (some true)
def spec_l07SameNodes.f (k : Nat) (l0 : List (S88)) (l1 : List (S88)) : Option (Bool) := if (l0.length : Int) = (l1.length : Int) then (spec_l07SameNodes.l0 k l0 l1 0) else (some false)
theorem spec_l07SameNodes.mono_l : ∀ k, (∀ y0 y1 y2, LeO (spec_l07SameNodes.l0 k y0 y1 y2) (spec_l07SameNodes.l0 (k + 1) y0 y1 y2))
 | 0 => fun _ _ _ r h => by simp [spec_l07SameNodes.l0] at h
 | k + 1 => by
  have ih0 := spec_l07SameNodes.mono_l k
  ·intro y0 y1 y2
   unfold spec_l07SameNodes.l0
   exact mo
theorem spec_l07SameNodes.mono : ∀ a0 a1 k, LeO (spec_l07SameNodes.f k a0 a1) (spec_l07SameNodes.f (k + 1) a0 a1) := by
 intro a0 a1 k
 have ih0 := spec_l07SameNodes.mono_l k
 unfold spec_l07SameNodes.f
 exact mo
theorem spec_l07SameNodes.calls (k : Nat) (A0 : Option Addr) (c0 : Nat) (l0 : List (S88)) (A1 : Option Addr) (c1 : Nat) (l1 : List (S88)) (r : Bool) (w : World) (hr0 : Kd.C k88 w A0 l0.length l0) (hc0 : l0.length ≤ c0) (hr1 : Kd.C k88 w A1 l1.length l1) (hc1 : l1.length ≤ c1) (h : spec_l07SameNodes.f k l0 l1 = some r) :
  Calls Try.prog 54 #[.slice A0 l0.length c0, .slice A1 l1.length c1] w fun e w' => e = .returned (.bool r) ∧ Drawn0 w w' := by
 have hu88 := Try.underlying88
 have HR0 := am hr0
 have HC0 := am hc0
 clear hr0 hc0
 have HR1 := am hr1
 have HC1 := am hc1
 clear hr1 hc1
 have H := h
 clear h
 unfold spec_l07SameNodes.f at H
 revert H; refine iQn (fun c3 c3b0 c3b1 H => ?_) fun c3 c3b0 c3b1 H => ?_
 ·have c3b2 : (l0.length == l1.length) = true := by first | simpa using c3 | (simp at c3 ⊢; omega)
  clear c3
  have H' := am H; clear H
  go_enter Try.func54, Try.ntmps54
  go_wp2
  repeat (go_quiet (fail); try go_wp2)
  go_loopg [5] k (fun kq v5 w' => ∃ (x5_1 : Int), v5 = .int .i64 x5_1 ∧ Aside0 (spec_l07SameNodes.l0 kq l0 l1 x5_1 = some r) ∧ Aside0 (kq ≤ k) ∧ Drawn0 w w')
  case atStart => exact ⟨(0), (by first | rfl | (simp; done) | (simp [*]; done)), H', ⟨Nat.le_refl _⟩, by repeat (first | exact Drawn0.refl _ | apply Drawn0.step)⟩
  case round =>
   clear H'
   try clear c1; try clear c3; try clear c3b0; try clear c3b1; try clear c3b2
   obtain ⟨x5_1, rfl, HA, HK1, ⟨m1, rfl⟩⟩ := hrel
   cases gk with
   | zero => exact absurd HA.out (by simp [spec_l07SameNodes.l0])
   | succ k1 =>
    have H := HA.out
    clear HA
    simp only [spec_l07SameNodes.l0] at H
    revert H; refine iDb (fun c4b0 H => ?_) fun c4b0 H => ?_
    ·revert H; refine i1 fun c5b0 H => ?_
     revert H; refine i1 fun c6b0 H => ?_
     revert H; refine iB (fun c7 H => ?_) fun c7 H => ?_
     ·have c7b0 : (!(((rd_T88 l0 x5_1).f0) == ((rd_T88 l1 x5_1).f0)) || (!((((rd_T88 l0 x5_1).f1).toList) == (((rd_T88 l1 x5_1).f1).toList)) || (!((((rd_T88 l0 x5_1).f2).toList) == (((rd_T88 l1 x5_1).f2).toList)) || (!(((rd_T88 l0 x5_1).f3) == ((rd_T88 l1 x5_1).f3)) || (!(((rd_T88 l0 x5_1).f4) == ((rd_T88 l1 x5_1).f4))))))) = true := c7
      clear c7
      obtain rfl := Option.some.inj H
      have p110 : 0 ≤ (x5_1 : Int) := ode
      have q110 : x5_1 < (l0.length : Int) := ode
      obtain ⟨ad110, e110, hx110_0, hx110_1, hx110_2, hx110_3, hx110_4⟩ := at_T88 HR0.out x5_1 p110 q110
      cases e110
      replace p110 := eq_true p110
      replace q110 := eq_true q110
      have p111 : 0 ≤ (x5_1 : Int) := ode
      have q111 : x5_1 < (l1.length : Int) := ode
      obtain ⟨ad111, e111, hx111_0, hx111_1, hx111_2, hx111_3, hx111_4⟩ := at_T88 HR1.out x5_1 p111 q111
      cases e111
      replace p111 := eq_true p111
      replace q111 := eq_true q111
      go_wp2
      repeat (go_quiet (fail); try go_wp2)
      go_ret
      exact ⟨by first | rfl | (simp; done) | (simp [*]; done), by repeat (first | exact Drawn0.refl _ | apply Drawn0.step)⟩
     have c7b0 : (!(((rd_T88 l0 x5_1).f0) == ((rd_T88 l1 x5_1).f0)) || (!((((rd_T88 l0 x5_1).f1).toList) == (((rd_T88 l1 x5_1).f1).toList)) || (!((((rd_T88 l0 x5_1).f2).toList) == (((rd_T88 l1 x5_1).f2).toList)) || (!(((rd_T88 l0 x5_1).f3) == ((rd_T88 l1 x5_1).f3)) || (!(((rd_T88 l0 x5_1).f4) == ((rd_T88 l1 x5_1).f4))))))) = false := by simpa using c7
     clear c7
     have H' := am H; clear H
     have p110 : 0 ≤ (x5_1 : Int) := ode
     have q110 : x5_1 < (l0.length : Int) := ode
     obtain ⟨ad110, e110, hx110_0, hx110_1, hx110_2, hx110_3, hx110_4⟩ := at_T88 HR0.out x5_1 p110 q110
     cases e110
     replace p110 := eq_true p110
     replace q110 := eq_true q110
     have p111 : 0 ≤ (x5_1 : Int) := ode
     have q111 : x5_1 < (l1.length : Int) := ode
     obtain ⟨ad111, e111, hx111_0, hx111_1, hx111_2, hx111_3, hx111_4⟩ := at_T88 HR1.out x5_1 p111 q111
     cases e111
     replace p111 := eq_true p111
     replace q111 := eq_true q111
     go_wp2
     repeat (go_quiet (fail); try go_wp2)
     go_roundg k1
     case measure => have := HK1.out; omega
     case rel => exact ⟨(wrap64 (x5_1 + 1)), (by first | rfl | (simp; done) | (simp [*]; done)), H', ⟨by have := HK1.out; omega⟩, by repeat (first | exact Drawn0.refl _ | apply Drawn0.step)⟩
    obtain rfl := Option.some.inj H
    go_wp2
    repeat (go_quiet (fail); try go_wp2)
    go_ret
    exact ⟨by first | rfl | (simp; done) | (simp [*]; done), by repeat (first | exact Drawn0.refl _ | apply Drawn0.step)⟩
 have c3b2 : (l0.length == l1.length) = false := by first | simpa using c3 | (simp at c3 ⊢; omega)
 obtain rfl := Option.some.inj H
 go_enter Try.func54, Try.ntmps54
 go_wp2
 repeat (go_quiet (fail); try go_wp2)
 go_ret
 exact ⟨by first | rfl | (simp; done) | (simp [*]; done), by repeat (first | exact Drawn0.refl _ | apply Drawn0.step)⟩

end Go.Proofs.Ytpblcdafmpfemaa.PFnExactProductSame
