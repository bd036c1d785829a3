-- laid by seedprint.py, a program of this session, over contracts that it gives by hand; Lean checks it
-- dented
import Derived.Test.YtodokfmmnihecaaGreatDoorQMin
import Derived.Test.YtodokfmmnihecaaGreatDoorQAut
import Derived.Test.YtodokfmmnihecaaGreatDoorQBlk
import Derived.Test.YtodokfmmnihecaaGreatDoorPFnExactEnvRightx0
namespace Go.Proofs.YtodokfmmnihecaaGreatDoor.PFnExactEnvRight
open Go.RowKit Go.Proofs.YtodokfmmnihecaaGreatDoorW.PrintWords Go.Proofs.YtodokfmmnihecaaGreatDoorW.PrintLast Go.Proofs.YtodokfmmnihecaaGreatDoorW.PrintMore
attribute [local go_sem] max2_int min2_int max_two min_two max_three min_three max_four min_four   -- for this text's walks alone
set_option maxHeartbeats 8000000
set_option maxRecDepth 100000
set_option linter.unusedVariables false
set_option linter.unusedSimpArgs false

/-! ### laws_szStringS: function 54 -/
def laws_szStringS.l0 : Nat → List ByteArray → Int → Int → Option (Int)
 | 0, _, _, _ => none
 | k + 1, x0, x1, x5 => if x5 < (x0.length : Int) then (if 0 ≤ x5 then (if (wrap64 (x1 - ((rdOf ByteArray.empty x0 x5).size : Int))) < 0 then (some (-1)) else (laws_szStringS.l0 k x0 (wrap64 (x1 - ((rdOf ByteArray.empty x0 x5).size : Int))) (wrap64 (x5 + 1)))) else (none)) else (some x1)
def laws_szStringS.f (k : Nat) (l0 : List ByteArray) (a1 : Int) : Option (Int) := if (wrap64 (a1 - (l0.length : Int))) < 0 then (some (-1)) else (laws_szStringS.l0 k l0 (wrap64 (a1 - (l0.length : Int))) 0)
theorem laws_szStringS.mono_l : ∀ k, (∀ y0 y1 y2, LeO (laws_szStringS.l0 k y0 y1 y2) (laws_szStringS.l0 (k + 1) y0 y1 y2))
 | 0 => fun _ _ _ r h => by simp [laws_szStringS.l0] at h
 | k + 1 => by
  have ih0 := laws_szStringS.mono_l k
  ·intro y0 y1 y2
   unfold laws_szStringS.l0
   exact mo
theorem laws_szStringS.mono : ∀ a0 a1 k, LeO (laws_szStringS.f k a0 a1) (laws_szStringS.f (k + 1) a0 a1) := by
 intro a0 a1 k
 have ih0 := laws_szStringS.mono_l k
 unfold laws_szStringS.f
 exact mo
theorem laws_szStringS.calls (k : Nat) (A0 : Option Addr) (c0 : Nat) (l0 : List ByteArray) (a1 : Int) (r : Int) (w : World) (hr0 : Kd.C Kd.string w A0 l0.length l0) (hc0 : l0.length ≤ c0) (h : laws_szStringS.f k l0 a1 = some r) :
  Calls Tryz.prog 54 #[.slice A0 l0.length c0, .int .i64 a1] w fun e w' => e = .returned (.int .i64 r) ∧ Drawn0 w w' := by
 have HR0 := am hr0
 have HC0 := am hc0
 clear hr0 hc0
 have H := h
 clear h
 unfold laws_szStringS.f at H
 revert H; refine iDb (fun c3b0 H => ?_) fun c3b0 H => ?_
 ·obtain rfl := Option.some.inj H
  go_enter Tryz.func54, Tryz.ntmps54
  go_wp2
  go_ret
  exact ⟨by first | rfl | (simp; done) | (simp [*]; done) | (simp [isE_bne]; done), by repeat (first | exact Drawn0.refl _ | apply Drawn0.step)⟩
 have H' := am H; clear H
 go_enter Tryz.func54, Tryz.ntmps54
 go_wp2
 go_loopg [1, 5] k (fun kq v1 v5 w' => ∃ (x1_1 : Int) (x5_1 : Int), v1 = .int .i64 x1_1 ∧ v5 = .int .i64 x5_1 ∧ Aside0 (laws_szStringS.l0 kq l0 x1_1 x5_1 = some r) ∧ Aside0 (kq ≤ k) ∧ Drawn0 w w')
 case atStart => exact ⟨(wrap64 (a1 - (l0.length : Int))), (0), rs, rs, H', ⟨Nat.le_refl _⟩, by repeat (first | exact Drawn0.refl _ | apply Drawn0.step)⟩
 case round =>
  clear H'
  try clear c3b0
  obtain ⟨x1_1, x5_1, rfl, rfl, HA, HK1, ⟨m1, rfl⟩⟩ := hrel
  cases gk with
  | zero => exact absurd HA.out (by simp [laws_szStringS.l0])
  | succ k1 =>
   have H := HA.out
   clear HA
   simp only [laws_szStringS.l0] at H
   revert H; refine iDb (fun c4b0 H => ?_) fun c4b0 H => ?_
   ·revert H; refine i1 fun c5b0 H => ?_
    revert H; refine iDb (fun c6b0 H => ?_) fun c6b0 H => ?_
    ·obtain rfl := Option.some.inj H
     have p101 : 0 ≤ (x5_1 : Int) := ode
     have q101 : x5_1 < (l0.length : Int) := ode
     obtain ⟨ad101, e101, hx101_0⟩ := Kd.at_string HR0.out x5_1 p101 q101
     cases e101
     replace p101 := eq_true p101
     replace q101 := eq_true q101
     go_wp2
     go_ret
     exact ⟨by first | rfl | (simp; done) | (simp [*]; done) | (simp [isE_bne]; done), by repeat (first | exact Drawn0.refl _ | apply Drawn0.step)⟩
    have H' := am H; clear H
    have p101 : 0 ≤ (x5_1 : Int) := ode
    have q101 : x5_1 < (l0.length : Int) := ode
    obtain ⟨ad101, e101, hx101_0⟩ := Kd.at_string HR0.out x5_1 p101 q101
    cases e101
    replace p101 := eq_true p101
    replace q101 := eq_true q101
    go_wp2
    go_roundg k1
    case measure => have := HK1.out; omega
    case rel => exact ⟨(wrap64 (x1_1 - ((rdOf ByteArray.empty l0 x5_1).size : Int))), (wrap64 (x5_1 + 1)), rs, rs, H', ⟨by have := HK1.out; omega⟩, by repeat (first | exact Drawn0.refl _ | apply Drawn0.step)⟩
   obtain rfl := Option.some.inj H
   go_wp2
   go_ret
   exact ⟨by first | rfl | (simp; done) | (simp [*]; done) | (simp [isE_bne]; done), by repeat (first | exact Drawn0.refl _ | apply Drawn0.step)⟩

/-! ### laws_szParam: function 122 -/
def laws_szParam.f (a0_0 : ByteArray) (a0_1 : Int) (a0_2 : Int) (a0_3 : Int) (a1 : Int) : Option (Int) := if (wrap64 (a1 - (a0_0.size : Int))) < 0 then (some (-1)) else (some (wrap64 (a1 - (a0_0.size : Int))))
theorem laws_szParam.calls (a0_0 : ByteArray) (a0_1 : Int) (a0_2 : Int) (a0_3 : Int) (a1 : Int) (r : Int) (w : World) (h : laws_szParam.f a0_0 a0_1 a0_2 a0_3 a1 = some r) :
  Calls Tryz.prog 122 #[.agg #[.string a0_0, .int .i64 a0_1, .int .i64 a0_2, .int .i64 a0_3], .int .i64 a1] w fun e w' => e = .returned (.int .i64 r) ∧ Below w.heap.size w w' := by
 have hu174 := Tryz.underlying174
 have HB := am (Below.refl w.heap.size w)
 have H := h
 clear h
 unfold laws_szParam.f at H
 revert H; refine iDb (fun c3b0 H => ?_) fun c3b0 H => ?_
 ·obtain rfl := Option.some.inj H
  go_enter Tryz.func122, Tryz.ntmps122
  go_wp2_with (first | (refine bx 2 #[.string a0_0, .int .i64 a0_1, .int .i64 a0_2, .int .i64 a0_3] 174 ?_; intro gb102 hg w4 hbox hb; have BK102 := am (hbox); have GW102 := am (bsz hg : w.heap.size ≤ gb102); have GE102 := GW102; replace HB := am (below_step bl hb); clear hb hbox hg; obtain ⟨z5_0, z5_1, z5_2, z5_3, y5_0, y5_1, y5_2, y5_3⟩ := blk4 BK102.out))
  go_ret
  exact ⟨er, bl⟩
 obtain rfl := Option.some.inj H
 go_enter Tryz.func122, Tryz.ntmps122
 go_wp2_with (first | (refine bx 2 #[.string a0_0, .int .i64 a0_1, .int .i64 a0_2, .int .i64 a0_3] 174 ?_; intro gb102 hg w6 hbox hb; have BK102 := am (hbox); have GW102 := am (bsz hg : w.heap.size ≤ gb102); have GE102 := GW102; replace HB := am (below_step bl hb); clear hb hbox hg; obtain ⟨z7_0, z7_1, z7_2, z7_3, y7_0, y7_1, y7_2, y7_3⟩ := blk4 BK102.out))
 go_ret
 exact ⟨er, bl⟩

/-! ### laws_szParamS: function 55 -/
def laws_szParamS.l0 : Nat → List (S174) → Int → Int → Option (Int)
 | 0, _, _, _ => none
 | k + 1, x0, x1, x5 => if x5 < (x0.length : Int) then (if 0 ≤ x5 then ((laws_szParam.f ((rd_T174 x0 x5).f0) ((rd_T174 x0 x5).f1) ((rd_T174 x0 x5).f2) ((rd_T174 x0 x5).f3) x1).bind fun t104 => (if t104 < 0 then (some (-1)) else (laws_szParamS.l0 k x0 t104 (wrap64 (x5 + 1))))) else (none)) else (some x1)
def laws_szParamS.f (k : Nat) (l0 : List (S174)) (a1 : Int) : Option (Int) := if (wrap64 (a1 - (l0.length : Int))) < 0 then (some (-1)) else (laws_szParamS.l0 k l0 (wrap64 (a1 - (l0.length : Int))) 0)
theorem laws_szParamS.mono_l : ∀ k, (∀ y0 y1 y2, LeO (laws_szParamS.l0 k y0 y1 y2) (laws_szParamS.l0 (k + 1) y0 y1 y2))
 | 0 => fun _ _ _ r h => by simp [laws_szParamS.l0] at h
 | k + 1 => by
  have ih0 := laws_szParamS.mono_l k
  ·intro y0 y1 y2
   unfold laws_szParamS.l0
   exact mo
theorem laws_szParamS.mono : ∀ a0 a1 k, LeO (laws_szParamS.f k a0 a1) (laws_szParamS.f (k + 1) a0 a1) := by
 intro a0 a1 k
 have ih0 := laws_szParamS.mono_l k
 unfold laws_szParamS.f
 exact mo
theorem laws_szParamS.calls (k : Nat) (A0 : Option Addr) (c0 : Nat) (l0 : List (S174)) (a1 : Int) (r : Int) (w : World) (hr0 : Kd.C k174 w A0 l0.length l0) (hc0 : l0.length ≤ c0) (h : laws_szParamS.f k l0 a1 = some r) :
  Calls Tryz.prog 55 #[.slice A0 l0.length c0, .int .i64 a1] w fun e w' => e = .returned (.int .i64 r) ∧ Below w.heap.size w w' := by
 have hu174 := Tryz.underlying174
 have HR0 := am hr0
 have HC0 := am hc0
 clear hr0 hc0
 have HB := am (Below.refl w.heap.size w)
 have H := h
 clear h
 unfold laws_szParamS.f at H
 revert H; refine iDb (fun c3b0 H => ?_) fun c3b0 H => ?_
 ·obtain rfl := Option.some.inj H
  go_enter Tryz.func55, Tryz.ntmps55
  go_wp2
  go_ret
  exact ⟨er, bl⟩
 have H' := am H; clear H
 go_enter Tryz.func55, Tryz.ntmps55
 go_wp2
 go_loopg [1, 5] k (fun kq v1 v5 w' => ∃ (x1_1 : Int) (x5_1 : Int), v1 = .int .i64 x1_1 ∧ v5 = .int .i64 x5_1 ∧ Aside0 (laws_szParamS.l0 kq l0 x1_1 x5_1 = some r) ∧ Aside0 (kq ≤ k) ∧ Aside0 (Below w.heap.size w w'))
 case atStart => exact ⟨(wrap64 (a1 - (l0.length : Int))), (0), rs, rs, H', ⟨Nat.le_refl _⟩, ⟨bl⟩⟩
 case round =>
  clear H'
  try clear c3b0
  obtain ⟨x1_1, x5_1, rfl, rfl, HA, HK1, HB⟩ := hrel
  cases gk with
  | zero => exact absurd HA.out (by simp [laws_szParamS.l0])
  | succ k1 =>
   have H := HA.out
   clear HA
   simp only [laws_szParamS.l0] at H
   revert H; refine iDb (fun c4b0 H => ?_) fun c4b0 H => ?_
   ·revert H; refine i1 fun c5b0 H => ?_
    revert H; refine bj fun t104 A6 H => ?_
    revert H; refine iDb (fun c7b0 H => ?_) fun c7b0 H => ?_
    ·obtain rfl := Option.some.inj H
     have p103 : 0 ≤ (x5_1 : Int) := ode
     have q103 : x5_1 < (l0.length : Int) := ode
     obtain ⟨ad103, e103, hx103_0, hx103_1, hx103_2, hx103_3⟩ := at_T174 HR0.out x5_1 p103 q103
     cases e103
     obtain ⟨hx103_0, hx103_1, hx103_2, hx103_3⟩ := hb4 HB.out hx103_0 hx103_1 hx103_2 hx103_3
     replace p103 := eq_true p103
     replace q103 := eq_true q103
     go_wp2_with (first | (refine gc 122 (some 23) Tryz.func122 (laws_szParam.calls _ _ _ _ _ _ _ A6.out) ?_; rintro e w8 ⟨rfl, hb⟩; refine ⟨_, rfl, ?_⟩; replace HB := am (below_step bl hb); clear hb))
     go_ret
     exact ⟨er, bl⟩
    have H' := am H; clear H
    have p103 : 0 ≤ (x5_1 : Int) := ode
    have q103 : x5_1 < (l0.length : Int) := ode
    obtain ⟨ad103, e103, hx103_0, hx103_1, hx103_2, hx103_3⟩ := at_T174 HR0.out x5_1 p103 q103
    cases e103
    obtain ⟨hx103_0, hx103_1, hx103_2, hx103_3⟩ := hb4 HB.out hx103_0 hx103_1 hx103_2 hx103_3
    replace p103 := eq_true p103
    replace q103 := eq_true q103
    go_wp2_with (first | (refine gc 122 (some 23) Tryz.func122 (laws_szParam.calls _ _ _ _ _ _ _ A6.out) ?_; rintro e w9 ⟨rfl, hb⟩; refine ⟨_, rfl, ?_⟩; replace HB := am (below_step bl hb); clear hb))
    go_roundg k1
    case measure => have := HK1.out; omega
    case rel => exact ⟨(t104), (wrap64 (x5_1 + 1)), rs, rs, H', ⟨by have := HK1.out; omega⟩, ⟨bl⟩⟩
   obtain rfl := Option.some.inj H
   go_wp2
   go_ret
   exact ⟨er, bl⟩

/-! ### laws_szNode: function 123 -/
def laws_szNode.f (a0_0 : Int) (a0_1 : ByteArray) (a0_2 : ByteArray) (a0_3 : Int) (a0_4 : Int) (a1 : Int) : Option (Int) := if (wrap64 (a1 - (a0_1.size : Int))) < 0 then (some (-1)) else (if (wrap64 ((wrap64 (a1 - (a0_1.size : Int))) - (a0_2.size : Int))) < 0 then (some (-1)) else (some (wrap64 ((wrap64 (a1 - (a0_1.size : Int))) - (a0_2.size : Int)))))
theorem laws_szNode.calls (a0_0 : Int) (a0_1 : ByteArray) (a0_2 : ByteArray) (a0_3 : Int) (a0_4 : Int) (a1 : Int) (r : Int) (w : World) (h : laws_szNode.f a0_0 a0_1 a0_2 a0_3 a0_4 a1 = some r) :
  Calls Tryz.prog 123 #[.agg #[.int .i64 a0_0, .string a0_1, .string a0_2, .int .i64 a0_3, .int .i64 a0_4], .int .i64 a1] w fun e w' => e = .returned (.int .i64 r) ∧ Below w.heap.size w w' := by
 have hu176 := Tryz.underlying176
 have HB := am (Below.refl w.heap.size w)
 have H := h
 clear h
 unfold laws_szNode.f at H
 revert H; refine iDb (fun c3b0 H => ?_) fun c3b0 H => ?_
 ·obtain rfl := Option.some.inj H
  go_enter Tryz.func123, Tryz.ntmps123
  go_wp2_with (first | (refine bx 2 #[.int .i64 a0_0, .string a0_1, .string a0_2, .int .i64 a0_3, .int .i64 a0_4] 176 ?_; intro gb105 hg w4 hbox hb; have BK105 := am (hbox); have GW105 := am (bsz hg : w.heap.size ≤ gb105); have GE105 := GW105; replace HB := am (below_step bl hb); clear hb hbox hg; obtain ⟨z5_0, z5_1, z5_2, z5_3, z5_4, y5_0, y5_1, y5_2, y5_3, y5_4⟩ := blk5 BK105.out))
  go_ret
  exact ⟨er, bl⟩
 revert H; refine iDb (fun c6b0 H => ?_) fun c6b0 H => ?_
 ·obtain rfl := Option.some.inj H
  go_enter Tryz.func123, Tryz.ntmps123
  go_wp2_with (first | (refine bx 2 #[.int .i64 a0_0, .string a0_1, .string a0_2, .int .i64 a0_3, .int .i64 a0_4] 176 ?_; intro gb105 hg w7 hbox hb; have BK105 := am (hbox); have GW105 := am (bsz hg : w.heap.size ≤ gb105); have GE105 := GW105; replace HB := am (below_step bl hb); clear hb hbox hg; obtain ⟨z8_0, z8_1, z8_2, z8_3, z8_4, y8_0, y8_1, y8_2, y8_3, y8_4⟩ := blk5 BK105.out))
  go_ret
  exact ⟨er, bl⟩
 obtain rfl := Option.some.inj H
 go_enter Tryz.func123, Tryz.ntmps123
 go_wp2_with (first | (refine bx 2 #[.int .i64 a0_0, .string a0_1, .string a0_2, .int .i64 a0_3, .int .i64 a0_4] 176 ?_; intro gb105 hg w9 hbox hb; have BK105 := am (hbox); have GW105 := am (bsz hg : w.heap.size ≤ gb105); have GE105 := GW105; replace HB := am (below_step bl hb); clear hb hbox hg; obtain ⟨z10_0, z10_1, z10_2, z10_3, z10_4, y10_0, y10_1, y10_2, y10_3, y10_4⟩ := blk5 BK105.out))
 go_ret
 exact ⟨er, bl⟩

/-! ### laws_szNodeS: function 56 -/
def laws_szNodeS.l0 : Nat → List (S176) → Int → Int → Option (Int)
 | 0, _, _, _ => none
 | k + 1, x0, x1, x5 => if x5 < (x0.length : Int) then (if 0 ≤ x5 then ((laws_szNode.f ((rd_T176 x0 x5).f0) ((rd_T176 x0 x5).f1) ((rd_T176 x0 x5).f2) ((rd_T176 x0 x5).f3) ((rd_T176 x0 x5).f4) x1).bind fun t107 => (if t107 < 0 then (some (-1)) else (laws_szNodeS.l0 k x0 t107 (wrap64 (x5 + 1))))) else (none)) else (some x1)
def laws_szNodeS.f (k : Nat) (l0 : List (S176)) (a1 : Int) : Option (Int) := if (wrap64 (a1 - (l0.length : Int))) < 0 then (some (-1)) else (laws_szNodeS.l0 k l0 (wrap64 (a1 - (l0.length : Int))) 0)
theorem laws_szNodeS.mono_l : ∀ k, (∀ y0 y1 y2, LeO (laws_szNodeS.l0 k y0 y1 y2) (laws_szNodeS.l0 (k + 1) y0 y1 y2))
 | 0 => fun _ _ _ r h => by simp [laws_szNodeS.l0] at h
 | k + 1 => by
  have ih0 := laws_szNodeS.mono_l k
  ·intro y0 y1 y2
   unfold laws_szNodeS.l0
   exact mo
theorem laws_szNodeS.mono : ∀ a0 a1 k, LeO (laws_szNodeS.f k a0 a1) (laws_szNodeS.f (k + 1) a0 a1) := by
 intro a0 a1 k
 have ih0 := laws_szNodeS.mono_l k
 unfold laws_szNodeS.f
 exact mo
theorem laws_szNodeS.calls (k : Nat) (A0 : Option Addr) (c0 : Nat) (l0 : List (S176)) (a1 : Int) (r : Int) (w : World) (hr0 : Kd.C k176 w A0 l0.length l0) (hc0 : l0.length ≤ c0) (h : laws_szNodeS.f k l0 a1 = some r) :
  Calls Tryz.prog 56 #[.slice A0 l0.length c0, .int .i64 a1] w fun e w' => e = .returned (.int .i64 r) ∧ Below w.heap.size w w' := by
 have hu176 := Tryz.underlying176
 have HR0 := am hr0
 have HC0 := am hc0
 clear hr0 hc0
 have HB := am (Below.refl w.heap.size w)
 have H := h
 clear h
 unfold laws_szNodeS.f at H
 revert H; refine iDb (fun c3b0 H => ?_) fun c3b0 H => ?_
 ·obtain rfl := Option.some.inj H
  go_enter Tryz.func56, Tryz.ntmps56
  go_wp2
  go_ret
  exact ⟨er, bl⟩
 have H' := am H; clear H
 go_enter Tryz.func56, Tryz.ntmps56
 go_wp2
 go_loopg [1, 5] k (fun kq v1 v5 w' => ∃ (x1_1 : Int) (x5_1 : Int), v1 = .int .i64 x1_1 ∧ v5 = .int .i64 x5_1 ∧ Aside0 (laws_szNodeS.l0 kq l0 x1_1 x5_1 = some r) ∧ Aside0 (kq ≤ k) ∧ Aside0 (Below w.heap.size w w'))
 case atStart => exact ⟨(wrap64 (a1 - (l0.length : Int))), (0), rs, rs, H', ⟨Nat.le_refl _⟩, ⟨bl⟩⟩
 case round =>
  clear H'
  try clear c3b0
  obtain ⟨x1_1, x5_1, rfl, rfl, HA, HK1, HB⟩ := hrel
  cases gk with
  | zero => exact absurd HA.out (by simp [laws_szNodeS.l0])
  | succ k1 =>
   have H := HA.out
   clear HA
   simp only [laws_szNodeS.l0] at H
   revert H; refine iDb (fun c4b0 H => ?_) fun c4b0 H => ?_
   ·revert H; refine i1 fun c5b0 H => ?_
    revert H; refine bj fun t107 A6 H => ?_
    revert H; refine iDb (fun c7b0 H => ?_) fun c7b0 H => ?_
    ·obtain rfl := Option.some.inj H
     have p106 : 0 ≤ (x5_1 : Int) := ode
     have q106 : x5_1 < (l0.length : Int) := ode
     obtain ⟨ad106, e106, hx106_0, hx106_1, hx106_2, hx106_3, hx106_4⟩ := at_T176 HR0.out x5_1 p106 q106
     cases e106
     obtain ⟨hx106_0, hx106_1, hx106_2, hx106_3, hx106_4⟩ := hb5 HB.out hx106_0 hx106_1 hx106_2 hx106_3 hx106_4
     replace p106 := eq_true p106
     replace q106 := eq_true q106
     go_wp2_with (first | (refine gc 123 (some 23) Tryz.func123 (laws_szNode.calls _ _ _ _ _ _ _ _ A6.out) ?_; rintro e w8 ⟨rfl, hb⟩; refine ⟨_, rfl, ?_⟩; replace HB := am (below_step bl hb); clear hb))
     go_ret
     exact ⟨er, bl⟩
    have H' := am H; clear H
    have p106 : 0 ≤ (x5_1 : Int) := ode
    have q106 : x5_1 < (l0.length : Int) := ode
    obtain ⟨ad106, e106, hx106_0, hx106_1, hx106_2, hx106_3, hx106_4⟩ := at_T176 HR0.out x5_1 p106 q106
    cases e106
    obtain ⟨hx106_0, hx106_1, hx106_2, hx106_3, hx106_4⟩ := hb5 HB.out hx106_0 hx106_1 hx106_2 hx106_3 hx106_4
    replace p106 := eq_true p106
    replace q106 := eq_true q106
    go_wp2_with (first | (refine gc 123 (some 23) Tryz.func123 (laws_szNode.calls _ _ _ _ _ _ _ _ A6.out) ?_; rintro e w9 ⟨rfl, hb⟩; refine ⟨_, rfl, ?_⟩; replace HB := am (below_step bl hb); clear hb))
    go_roundg k1
    case measure => have := HK1.out; omega
    case rel => exact ⟨(t107), (wrap64 (x5_1 + 1)), rs, rs, H', ⟨by have := HK1.out; omega⟩, ⟨bl⟩⟩
   obtain rfl := Option.some.inj H
   go_wp2
   go_ret
   exact ⟨er, bl⟩

/-! ### laws_szProduct: function 13 -/
def laws_szProduct.f (k : Nat) (a0_0 : ByteArray) (a0_1 : Int) (l0_2 : List ByteArray) (l0_3 : List ByteArray) (l0_4 : List (S174)) (l0_5 : List (S176)) (l0_6 : List (S176)) (l0_7 : List (S176)) (a1 : Int) : Option Int := if (wrap64 (a1 - (a0_0.size : Int))) < 0 then (some (-1)) else ((laws_szStringS.f k l0_2 (wrap64 (a1 - (a0_0.size : Int)))).bind fun t2 => (if t2 < 0 then (some (-1)) else ((laws_szStringS.f k l0_3 t2).bind fun t3 => (if t3 < 0 then (some (-1)) else ((laws_szParamS.f k l0_4 t3).bind fun t4 => (if t4 < 0 then (some (-1)) else ((laws_szNodeS.f k l0_5 t4).bind fun t5 => (if t5 < 0 then (some (-1)) else ((laws_szNodeS.f k l0_6 t5).bind fun t6 => (if t6 < 0 then (some (-1)) else ((laws_szNodeS.f k l0_7 t6).bind fun t7 => (if t7 < 0 then (some (-1)) else (some t7)))))))))))))
theorem laws_szProduct.mono : ∀ x0 x1 x2 x3 x4 x5 x6 x7 x8 k, LeO (laws_szProduct.f k x0 x1 x2 x3 x4 x5 x6 x7 x8) (laws_szProduct.f (k + 1) x0 x1 x2 x3 x4 x5 x6 x7 x8) := by
 intro x0 x1 x2 x3 x4 x5 x6 x7 x8 k
 unfold laws_szProduct.f
 repeat' (with_reducible first | exact laws_szStringS.mono .. | exact laws_szParamS.mono .. | exact laws_szNodeS.mono .. | exact LeO.refl _ | refine LeO.ite ?_ ?_ | refine LeO.bind ?_ (fun _ => ?_))
theorem laws_szProduct.fst (w : World) (o : Obj) : (w.alloc o).heap[w.heap.size]? = some o := by
 show (w.heap.push _)[w.heap.size]? = _
 simp
theorem laws_szProduct.cells {w : World} {g : Nat} {t : TypeId} {v0 v1 v2 v3 v4 v5 v6 v7 : Value} (h : w.heap[g]? = some (.cells #[v0, v1, v2, v3, v4, v5, v6, v7] t (0, 0))) : w.cell? ⟨g, 0, none⟩ = some v0 ∧ w.cell? ⟨g, 1, none⟩ = some v1 ∧ w.cell? ⟨g, 2, none⟩ = some v2 ∧ w.cell? ⟨g, 3, none⟩ = some v3 ∧ w.cell? ⟨g, 4, none⟩ = some v4 ∧ w.cell? ⟨g, 5, none⟩ = some v5 ∧ w.cell? ⟨g, 6, none⟩ = some v6 ∧ w.cell? ⟨g, 7, none⟩ = some v7 := ⟨(blk_cell h 0).trans rfl, (blk_cell h 1).trans rfl, (blk_cell h 2).trans rfl, (blk_cell h 3).trans rfl, (blk_cell h 4).trans rfl, (blk_cell h 5).trans rfl, (blk_cell h 6).trans rfl, (blk_cell h 7).trans rfl⟩
theorem laws_szProduct.calls (k : Nat) (a0_0 : ByteArray) (a0_1 : Int) (A0_2 : Option Addr) (c0_2 : Nat) (l0_2 : List ByteArray) (A0_3 : Option Addr) (c0_3 : Nat) (l0_3 : List ByteArray) (A0_4 : Option Addr) (c0_4 : Nat) (l0_4 : List (S174)) (A0_5 : Option Addr) (c0_5 : Nat) (l0_5 : List (S176)) (A0_6 : Option Addr) (c0_6 : Nat) (l0_6 : List (S176)) (A0_7 : Option Addr) (c0_7 : Nat) (l0_7 : List (S176)) (a1 : Int) (r : Int) (w : World) (hr0_2 : Kd.C Kd.string w A0_2 l0_2.length l0_2) (hc0_2 : l0_2.length ≤ c0_2) (hr0_3 : Kd.C Kd.string w A0_3 l0_3.length l0_3) (hc0_3 : l0_3.length ≤ c0_3) (hr0_4 : Kd.C k174 w A0_4 l0_4.length l0_4) (hc0_4 : l0_4.length ≤ c0_4) (hr0_5 : Kd.C k176 w A0_5 l0_5.length l0_5) (hc0_5 : l0_5.length ≤ c0_5) (hr0_6 : Kd.C k176 w A0_6 l0_6.length l0_6) (hc0_6 : l0_6.length ≤ c0_6) (hr0_7 : Kd.C k176 w A0_7 l0_7.length l0_7) (hc0_7 : l0_7.length ≤ c0_7) (h : laws_szProduct.f k a0_0 a0_1 l0_2 l0_3 l0_4 l0_5 l0_6 l0_7 a1 = some r) :
  Calls Tryz.prog 13 #[.agg #[.string a0_0, .int .i64 a0_1, .slice A0_2 l0_2.length c0_2, .slice A0_3 l0_3.length c0_3, .slice A0_4 l0_4.length c0_4, .slice A0_5 l0_5.length c0_5, .slice A0_6 l0_6.length c0_6, .slice A0_7 l0_7.length c0_7], .int .i64 a1] w fun e w' => e = .returned (.int .i64 r) ∧ Below w.heap.size w w' := by
 obtain ⟨v, hv⟩ : ∃ v, IntKind.i64.wrap (a1 - (a0_0.size : Int)) = v := ⟨_, rfl⟩
 have hv' : wrap64 (a1 - (a0_0.size : Int)) = v := (i64_w _).symm.trans hv
 unfold laws_szProduct.f at h
 rw [hv'] at h
 clear hv'
 have hu := Tryz.underlying26
 have Q1 : ∀ {X W : World}, Below X.heap.size X W → Below w.heap.size w X → Below w.heap.size w W := fun a b => b.trans (a.mono (below_size b))
 by_cases n1 : v < 0
 ·rw [if_pos n1] at h
  obtain rfl := Option.some.inj h
  replace n1 := decide_eq_true n1
  clear h
  go_enter Tryz.func13, Tryz.ntmps13
  go_wp2
  go_ret
  exact ⟨rfl, by repeat (first | exact Below.refl _ _ | apply below_alloc)⟩
 rw [if_neg n1] at h
 replace n1 := decide_eq_false n1
 obtain ⟨t2, e2, h⟩ := Option.bind_eq_some_iff.mp h
 have q2 := fun W (hb : Below w.heap.size w W) => laws_szStringS.calls k A0_2 c0_2 l0_2 v t2 W (Kd.C_below hr0_2 hb) hc0_2 e2
 clear hr0_2 hc0_2 e2
 by_cases m2 : t2 < 0
 ·rw [if_pos m2] at h
  obtain rfl := Option.some.inj h
  replace m2 := decide_eq_true m2
  clear h
  clear hr0_3 hc0_3 hr0_4 hc0_4 hr0_5 hc0_5 hr0_6 hc0_6 hr0_7 hc0_7
  go_enter Tryz.func13, Tryz.ntmps13
  go_wp2_with (first | (go_at_call 54; (with_reducible first | refine (q2 _ ?hbl).mono ?_); (case hbl => (repeat (first | exact HB.out | exact Below.refl _ _ | apply below_alloc | apply pw_below_drewN | apply below_drew))); rintro e w1 ⟨rfl, hd⟩; obtain ⟨nd, rfl⟩ := hd.out))
  go_ret
  exact ⟨rfl, by repeat (first | exact HB.out | exact Below.refl _ _ | apply below_alloc | apply pw_below_drewN | apply below_drew)⟩
 rw [if_neg m2] at h
 replace m2 := decide_eq_false m2
 obtain ⟨t3, e3, h⟩ := Option.bind_eq_some_iff.mp h
 have q3 := fun W (hb : Below w.heap.size w W) => laws_szStringS.calls k A0_3 c0_3 l0_3 t2 t3 W (Kd.C_below hr0_3 hb) hc0_3 e3
 clear hr0_3 hc0_3 e3
 by_cases m3 : t3 < 0
 ·rw [if_pos m3] at h
  obtain rfl := Option.some.inj h
  replace m3 := decide_eq_true m3
  clear h
  clear hr0_4 hc0_4 hr0_5 hc0_5 hr0_6 hc0_6 hr0_7 hc0_7
  go_enter Tryz.func13, Tryz.ntmps13
  go_wp2_with (first | (go_at_call 54; (with_reducible first | refine (q2 _ ?hbl).mono ?_ | refine (q3 _ ?hbl).mono ?_); (case hbl => (repeat (first | exact HB.out | exact Below.refl _ _ | apply below_alloc | apply pw_below_drewN | apply below_drew))); rintro e w1 ⟨rfl, hd⟩; obtain ⟨nd, rfl⟩ := hd.out))
  go_ret
  exact ⟨rfl, by repeat (first | exact HB.out | exact Below.refl _ _ | apply below_alloc | apply pw_below_drewN | apply below_drew)⟩
 rw [if_neg m3] at h
 replace m3 := decide_eq_false m3
 obtain ⟨t4, e4, h⟩ := Option.bind_eq_some_iff.mp h
 have q4 := fun W (hb : Below w.heap.size w W) => laws_szParamS.calls k A0_4 c0_4 l0_4 t3 t4 W (Kd.C_below hr0_4 hb) hc0_4 e4
 clear hr0_4 hc0_4 e4
 by_cases m4 : t4 < 0
 ·rw [if_pos m4] at h
  obtain rfl := Option.some.inj h
  replace m4 := decide_eq_true m4
  clear h
  clear hr0_5 hc0_5 hr0_6 hc0_6 hr0_7 hc0_7
  go_enter Tryz.func13, Tryz.ntmps13
  go_wp2_with (first | (go_at_call 54; (with_reducible first | refine (q2 _ ?hbl).mono ?_ | refine (q3 _ ?hbl).mono ?_); (case hbl => (repeat (first | exact HB.out | exact Below.refl _ _ | apply below_alloc | apply pw_below_drewN | apply below_drew))); rintro e w1 ⟨rfl, hd⟩; obtain ⟨nd, rfl⟩ := hd.out) | (go_at_call 55; (with_reducible refine (q4 _ ?hbl).mono ?_); (case hbl => (repeat (first | exact HB.out | exact Below.refl _ _ | apply below_alloc | apply pw_below_drewN | apply below_drew))); rintro e w1 ⟨rfl, hb⟩; have n1_ := blk_below (g := w.heap.size) (by (with_reducible repeat (first | refine blk_drewN ?_ _ | refine blk_drew ?_)); first | exact B1.out | exact laws_szProduct.fst _ _) hb; have n3_ := am (Q1 hb (by repeat (first | exact HB.out | exact Below.refl _ _ | apply below_alloc | apply pw_below_drewN | apply below_drew))); (try clear B1 HB); (try clear z0 z1 z2 z3 z4 z5 z6 z7); obtain ⟨z0, z1, z2, z3, z4, z5, z6, z7⟩ := laws_szProduct.cells n1_; have B1 := Aside0.mk n1_; have HB := n3_; clear n1_ n3_ hb))
  go_ret
  exact ⟨rfl, by repeat (first | exact HB.out | exact Below.refl _ _ | apply below_alloc | apply pw_below_drewN | apply below_drew)⟩
 rw [if_neg m4] at h
 replace m4 := decide_eq_false m4
 obtain ⟨t5, e5, h⟩ := Option.bind_eq_some_iff.mp h
 have q5 := fun W (hb : Below w.heap.size w W) => laws_szNodeS.calls k A0_5 c0_5 l0_5 t4 t5 W (Kd.C_below hr0_5 hb) hc0_5 e5
 clear hr0_5 hc0_5 e5
 by_cases m5 : t5 < 0
 ·rw [if_pos m5] at h
  obtain rfl := Option.some.inj h
  replace m5 := decide_eq_true m5
  clear h
  clear hr0_6 hc0_6 hr0_7 hc0_7
  go_enter Tryz.func13, Tryz.ntmps13
  go_wp2_with (first | (go_at_call 54; (with_reducible first | refine (q2 _ ?hbl).mono ?_ | refine (q3 _ ?hbl).mono ?_); (case hbl => (repeat (first | exact HB.out | exact Below.refl _ _ | apply below_alloc | apply pw_below_drewN | apply below_drew))); rintro e w1 ⟨rfl, hd⟩; obtain ⟨nd, rfl⟩ := hd.out) | (go_at_call 55; (with_reducible refine (q4 _ ?hbl).mono ?_); (case hbl => (repeat (first | exact HB.out | exact Below.refl _ _ | apply below_alloc | apply pw_below_drewN | apply below_drew))); rintro e w1 ⟨rfl, hb⟩; have n1_ := blk_below (g := w.heap.size) (by (with_reducible repeat (first | refine blk_drewN ?_ _ | refine blk_drew ?_)); first | exact B1.out | exact laws_szProduct.fst _ _) hb; have n3_ := am (Q1 hb (by repeat (first | exact HB.out | exact Below.refl _ _ | apply below_alloc | apply pw_below_drewN | apply below_drew))); (try clear B1 HB); (try clear z0 z1 z2 z3 z4 z5 z6 z7); obtain ⟨z0, z1, z2, z3, z4, z5, z6, z7⟩ := laws_szProduct.cells n1_; have B1 := Aside0.mk n1_; have HB := n3_; clear n1_ n3_ hb) | (go_at_call 56; (with_reducible first | refine (q5 _ ?hbl).mono ?_); (case hbl => (repeat (first | exact HB.out | exact Below.refl _ _ | apply below_alloc | apply pw_below_drewN | apply below_drew))); rintro e w1 ⟨rfl, hb⟩; have n1_ := blk_below (g := w.heap.size) (by (with_reducible repeat (first | refine blk_drewN ?_ _ | refine blk_drew ?_)); first | exact B1.out | exact laws_szProduct.fst _ _) hb; have n3_ := am (Q1 hb (by repeat (first | exact HB.out | exact Below.refl _ _ | apply below_alloc | apply pw_below_drewN | apply below_drew))); (try clear B1 HB); (try clear z0 z1 z2 z3 z4 z5 z6 z7); obtain ⟨z0, z1, z2, z3, z4, z5, z6, z7⟩ := laws_szProduct.cells n1_; have B1 := Aside0.mk n1_; have HB := n3_; clear n1_ n3_ hb))
  go_ret
  exact ⟨rfl, by repeat (first | exact HB.out | exact Below.refl _ _ | apply below_alloc | apply pw_below_drewN | apply below_drew)⟩
 rw [if_neg m5] at h
 replace m5 := decide_eq_false m5
 obtain ⟨t6, e6, h⟩ := Option.bind_eq_some_iff.mp h
 have q6 := fun W (hb : Below w.heap.size w W) => laws_szNodeS.calls k A0_6 c0_6 l0_6 t5 t6 W (Kd.C_below hr0_6 hb) hc0_6 e6
 clear hr0_6 hc0_6 e6
 by_cases m6 : t6 < 0
 ·rw [if_pos m6] at h
  obtain rfl := Option.some.inj h
  replace m6 := decide_eq_true m6
  clear h
  clear hr0_7 hc0_7
  go_enter Tryz.func13, Tryz.ntmps13
  go_wp2_with (first | (go_at_call 54; (with_reducible first | refine (q2 _ ?hbl).mono ?_ | refine (q3 _ ?hbl).mono ?_); (case hbl => (repeat (first | exact HB.out | exact Below.refl _ _ | apply below_alloc | apply pw_below_drewN | apply below_drew))); rintro e w1 ⟨rfl, hd⟩; obtain ⟨nd, rfl⟩ := hd.out) | (go_at_call 55; (with_reducible refine (q4 _ ?hbl).mono ?_); (case hbl => (repeat (first | exact HB.out | exact Below.refl _ _ | apply below_alloc | apply pw_below_drewN | apply below_drew))); rintro e w1 ⟨rfl, hb⟩; have n1_ := blk_below (g := w.heap.size) (by (with_reducible repeat (first | refine blk_drewN ?_ _ | refine blk_drew ?_)); first | exact B1.out | exact laws_szProduct.fst _ _) hb; have n3_ := am (Q1 hb (by repeat (first | exact HB.out | exact Below.refl _ _ | apply below_alloc | apply pw_below_drewN | apply below_drew))); (try clear B1 HB); (try clear z0 z1 z2 z3 z4 z5 z6 z7); obtain ⟨z0, z1, z2, z3, z4, z5, z6, z7⟩ := laws_szProduct.cells n1_; have B1 := Aside0.mk n1_; have HB := n3_; clear n1_ n3_ hb) | (go_at_call 56; (with_reducible first | refine (q5 _ ?hbl).mono ?_ | refine (q6 _ ?hbl).mono ?_); (case hbl => (repeat (first | exact HB.out | exact Below.refl _ _ | apply below_alloc | apply pw_below_drewN | apply below_drew))); rintro e w1 ⟨rfl, hb⟩; have n1_ := blk_below (g := w.heap.size) (by (with_reducible repeat (first | refine blk_drewN ?_ _ | refine blk_drew ?_)); first | exact B1.out | exact laws_szProduct.fst _ _) hb; have n3_ := am (Q1 hb (by repeat (first | exact HB.out | exact Below.refl _ _ | apply below_alloc | apply pw_below_drewN | apply below_drew))); (try clear B1 HB); (try clear z0 z1 z2 z3 z4 z5 z6 z7); obtain ⟨z0, z1, z2, z3, z4, z5, z6, z7⟩ := laws_szProduct.cells n1_; have B1 := Aside0.mk n1_; have HB := n3_; clear n1_ n3_ hb))
  go_ret
  exact ⟨rfl, by repeat (first | exact HB.out | exact Below.refl _ _ | apply below_alloc | apply pw_below_drewN | apply below_drew)⟩
 rw [if_neg m6] at h
 replace m6 := decide_eq_false m6
 obtain ⟨t7, e7, h⟩ := Option.bind_eq_some_iff.mp h
 have q7 := fun W (hb : Below w.heap.size w W) => laws_szNodeS.calls k A0_7 c0_7 l0_7 t6 t7 W (Kd.C_below hr0_7 hb) hc0_7 e7
 clear hr0_7 hc0_7 e7
 by_cases m7 : t7 < 0
 ·rw [if_pos m7] at h
  obtain rfl := Option.some.inj h
  replace m7 := decide_eq_true m7
  clear h
  go_enter Tryz.func13, Tryz.ntmps13
  go_wp2_with (first | (go_at_call 54; (with_reducible first | refine (q2 _ ?hbl).mono ?_ | refine (q3 _ ?hbl).mono ?_); (case hbl => (repeat (first | exact HB.out | exact Below.refl _ _ | apply below_alloc | apply pw_below_drewN | apply below_drew))); rintro e w1 ⟨rfl, hd⟩; obtain ⟨nd, rfl⟩ := hd.out) | (go_at_call 55; (with_reducible refine (q4 _ ?hbl).mono ?_); (case hbl => (repeat (first | exact HB.out | exact Below.refl _ _ | apply below_alloc | apply pw_below_drewN | apply below_drew))); rintro e w1 ⟨rfl, hb⟩; have n1_ := blk_below (g := w.heap.size) (by (with_reducible repeat (first | refine blk_drewN ?_ _ | refine blk_drew ?_)); first | exact B1.out | exact laws_szProduct.fst _ _) hb; have n3_ := am (Q1 hb (by repeat (first | exact HB.out | exact Below.refl _ _ | apply below_alloc | apply pw_below_drewN | apply below_drew))); (try clear B1 HB); (try clear z0 z1 z2 z3 z4 z5 z6 z7); obtain ⟨z0, z1, z2, z3, z4, z5, z6, z7⟩ := laws_szProduct.cells n1_; have B1 := Aside0.mk n1_; have HB := n3_; clear n1_ n3_ hb) | (go_at_call 56; (with_reducible first | refine (q5 _ ?hbl).mono ?_ | refine (q6 _ ?hbl).mono ?_ | refine (q7 _ ?hbl).mono ?_); (case hbl => (repeat (first | exact HB.out | exact Below.refl _ _ | apply below_alloc | apply pw_below_drewN | apply below_drew))); rintro e w1 ⟨rfl, hb⟩; have n1_ := blk_below (g := w.heap.size) (by (with_reducible repeat (first | refine blk_drewN ?_ _ | refine blk_drew ?_)); first | exact B1.out | exact laws_szProduct.fst _ _) hb; have n3_ := am (Q1 hb (by repeat (first | exact HB.out | exact Below.refl _ _ | apply below_alloc | apply pw_below_drewN | apply below_drew))); (try clear B1 HB); (try clear z0 z1 z2 z3 z4 z5 z6 z7); obtain ⟨z0, z1, z2, z3, z4, z5, z6, z7⟩ := laws_szProduct.cells n1_; have B1 := Aside0.mk n1_; have HB := n3_; clear n1_ n3_ hb))
  go_ret
  exact ⟨rfl, by repeat (first | exact HB.out | exact Below.refl _ _ | apply below_alloc | apply pw_below_drewN | apply below_drew)⟩
 rw [if_neg m7] at h
 replace m7 := decide_eq_false m7
 obtain rfl := Option.some.inj h
 clear h
 go_enter Tryz.func13, Tryz.ntmps13
 go_wp2_with (first | (go_at_call 54; (with_reducible first | refine (q2 _ ?hbl).mono ?_ | refine (q3 _ ?hbl).mono ?_); (case hbl => (repeat (first | exact HB.out | exact Below.refl _ _ | apply below_alloc | apply pw_below_drewN | apply below_drew))); rintro e w1 ⟨rfl, hd⟩; obtain ⟨nd, rfl⟩ := hd.out) | (go_at_call 55; (with_reducible refine (q4 _ ?hbl).mono ?_); (case hbl => (repeat (first | exact HB.out | exact Below.refl _ _ | apply below_alloc | apply pw_below_drewN | apply below_drew))); rintro e w1 ⟨rfl, hb⟩; have n1_ := blk_below (g := w.heap.size) (by (with_reducible repeat (first | refine blk_drewN ?_ _ | refine blk_drew ?_)); first | exact B1.out | exact laws_szProduct.fst _ _) hb; have n3_ := am (Q1 hb (by repeat (first | exact HB.out | exact Below.refl _ _ | apply below_alloc | apply pw_below_drewN | apply below_drew))); (try clear B1 HB); (try clear z0 z1 z2 z3 z4 z5 z6 z7); obtain ⟨z0, z1, z2, z3, z4, z5, z6, z7⟩ := laws_szProduct.cells n1_; have B1 := Aside0.mk n1_; have HB := n3_; clear n1_ n3_ hb) | (go_at_call 56; (with_reducible first | refine (q5 _ ?hbl).mono ?_ | refine (q6 _ ?hbl).mono ?_ | refine (q7 _ ?hbl).mono ?_); (case hbl => (repeat (first | exact HB.out | exact Below.refl _ _ | apply below_alloc | apply pw_below_drewN | apply below_drew))); rintro e w1 ⟨rfl, hb⟩; have n1_ := blk_below (g := w.heap.size) (by (with_reducible repeat (first | refine blk_drewN ?_ _ | refine blk_drew ?_)); first | exact B1.out | exact laws_szProduct.fst _ _) hb; have n3_ := am (Q1 hb (by repeat (first | exact HB.out | exact Below.refl _ _ | apply below_alloc | apply pw_below_drewN | apply below_drew))); (try clear B1 HB); (try clear z0 z1 z2 z3 z4 z5 z6 z7); obtain ⟨z0, z1, z2, z3, z4, z5, z6, z7⟩ := laws_szProduct.cells n1_; have B1 := Aside0.mk n1_; have HB := n3_; clear n1_ n3_ hb))
 go_ret
 exact ⟨rfl, by repeat (first | exact HB.out | exact Below.refl _ _ | apply below_alloc | apply pw_below_drewN | apply below_drew)⟩

/-! ### laws_toStringS: function 61 -/
def laws_toStringS.l0 : Nat → List ByteArray → List ByteArray → Int → Option (List ByteArray)
 | 0, _, _, _ => none
 | k + 1, x0, x3, x4 => if x4 < (x0.length : Int) then (if 0 ≤ x4 then (if x4 < (x3.length : Int) then (laws_toStringS.l0 k x0 (x3.set (x4 : Int).toNat (rdOf ByteArray.empty x0 x4)) (wrap64 (x4 + 1))) else (none)) else (none)) else (some x3)
def laws_toStringS.f (k : Nat) (l0 : List ByteArray) : Option (List ByteArray) := if 0 ≤ (l0.length : Int) then (if ((l0.length : Int) : Int).toNat ≤ 17592186044416 then (laws_toStringS.l0 k l0 (List.replicate ((l0.length : Int) : Int).toNat (⟨#[]⟩ : ByteArray)) 0) else (none)) else (none)
theorem laws_toStringS.mono_l : ∀ k, (∀ y0 y1 y2, LeO (laws_toStringS.l0 k y0 y1 y2) (laws_toStringS.l0 (k + 1) y0 y1 y2))
 | 0 => fun _ _ _ r h => by simp [laws_toStringS.l0] at h
 | k + 1 => by
  have ih0 := laws_toStringS.mono_l k
  ·intro y0 y1 y2
   unfold laws_toStringS.l0
   exact mo
theorem laws_toStringS.mono : ∀ a0 k, LeO (laws_toStringS.f k a0) (laws_toStringS.f (k + 1) a0) := by
 intro a0 k
 have ih0 := laws_toStringS.mono_l k
 unfold laws_toStringS.f
 exact mo
theorem laws_toStringS.calls (k : Nat) (A0 : Option Addr) (c0 : Nat) (l0 : List ByteArray) (r : List ByteArray) (w : World) (hr0 : Kd.C Kd.string w A0 l0.length l0) (hc0 : l0.length ≤ c0) (h : laws_toStringS.f k l0 = some r) :
  Calls Tryz.prog 61 #[.slice A0 l0.length c0] w fun e w' => ∃ v0_ : Value, e = .returned (v0_) ∧ Kd.R Kd.string 9 w' w.heap.size (fun _ => True) v0_ r ∧ Below w.heap.size w w' := by
 have HR0 := am hr0
 have HC0 := am hc0
 clear hr0 hc0
 have HB := am (Below.refl w.heap.size w)
 have H := h
 clear h
 unfold laws_toStringS.f at H
 revert H; refine i2 fun c2b0 c2b1 H => ?_
 revert H; refine i2 fun c3b0 c3b1 H => ?_
 generalize h_ : (List.replicate ((l0.length : Int) : Int).toNat (⟨#[]⟩ : ByteArray)) = y108 at H
 have Ny108 := am h_.symm; clear h_
 have H' := am H; clear H
 go_enter Tryz.func61, Tryz.ntmps61
 go_wp2_with (first | ((with_reducible refine gate_dst (N := 7) rfl ?_); refine Kd.R_make Kd.string _ 9 rfl (N := 7) rfl 22 _ _ rfl (l0.length : Int) rfl rfl Tryz.underlying22 (.string ⟨#[]⟩) 16 info9 rfl (by decide) (by omega) (⟨#[]⟩ : ByteArray) (ok := fun _ => True) (okp := fun _ => True) rfl (fun _ hk => hk) trivial (ode) (Nat.le_trans (Nat.mul_le_mul_right _ (ode : (l0.length : Int).toNat ≤ 17592186044416)) (by omega)) (Below.refl _ _) (Nat.le_refl _) ?_; intro v109 w4 ho5 hb hg_ hnew_; clear hg_ hnew_; (first | rw [← Ny108.out] at ho5 | (simp only [Int.reduceToNat] at ho5; rw [← Ny108.out] at ho5)); have HO110 := am (Kd.R_lower ho5 (below_size bl)); replace HB := am (below_step bl hb); clear hb ho5))
 go_loopg [4] k (fun kq v4 w' => ∃ (x3_1 : List ByteArray) (x4_1 : Int), v4 = .int .i64 x4_1 ∧ Aside0 (laws_toStringS.l0 kq l0 x3_1 x4_1 = some r) ∧ Aside0 (kq ≤ k) ∧ Aside0 (Kd.R Kd.string 9 w' w.heap.size (fun _ => True) v109 x3_1) ∧ Aside0 (Below w.heap.size w w'))
 case atStart => exact ⟨(y108), (0), rs, H', ⟨Nat.le_refl _⟩, ⟨kr HO110.out⟩, ⟨bl⟩⟩
 case round =>
  clear H'
  try clear c2b0; try clear c2b1; try clear c3b0; try clear c3b1
  obtain ⟨x3_1, x4_1, rfl, HA, HK1, HO_3, HB⟩ := hrel
  cases gk with
  | zero => exact absurd HA.out (by simp [laws_toStringS.l0])
  | succ k1 =>
   have H := HA.out
   clear HA
   simp only [laws_toStringS.l0] at H
   revert H; refine iDb (fun c6b0 H => ?_) fun c6b0 H => ?_
   ·revert H; refine i1 fun c7b0 H => ?_
    revert H; refine i1 fun c8b0 H => ?_
    generalize h_ : (x3_1.set (x4_1 : Int).toNat (rdOf ByteArray.empty l0 x4_1)) = y112 at H
    have Ny112 := am h_.symm; clear h_
    have H' := am H; clear H
    have p111 : 0 ≤ (x4_1 : Int) := ode
    have q111 : x4_1 < (l0.length : Int) := ode
    obtain ⟨ad111, e111, hx111_0⟩ := Kd.at_string HR0.out x4_1 p111 q111
    cases e111
    replace hx111_0 := hbc HB.out hx111_0
    replace p111 := eq_true p111
    replace q111 := eq_true q111
    have p9 : 0 ≤ (x4_1 : Int) := ode
    have q9 : (x4_1 : Int) < ((x3_1.length : Int) : Int) := ode
    obtain ⟨go9, co9, eo9, gb9, gl9, cl9, HG9⟩ := Kd.R_form HO_3.out (by omega)
    (first | cases eo9 | (injection eo9 with ea_ en_ ec_; (first | subst ea_ | (injection ea_ with ea_; subst ea_)); subst ec_; clear en_))
    have GB9 := am gb9
    have GG9 := am HG9
    clear gb9 gl9 HG9
    obtain ⟨hx9_0, hf9_0⟩ := Kd.R_celln (⟨#[]⟩ : ByteArray) HO_3.out (x4_1 : Int) p9 q9
    replace p9 := eq_true p9
    replace q9 := eq_true q9
    have HP10 := Kd.R_putg HO_3.out (x4_1 : Int) (rdOf ByteArray.empty l0 x4_1)
    go_wp2_with (first | ((with_reducible refine gate_store (t := 9) (p := 20) rfl ?_); refine store_event (t := 9) (p := 20) (v := ?vo_w11) (w1 := (wr.setCell ⟨go9, (x4_1 : Int).toNat, none⟩ (.string (rdOf ByteArray.empty l0 x4_1)))) ?hg ?ho ?hn ?hr ?_; (case ho => rfl); (case hg => rfl); (case hn => rfl); (case hr => first | (go_simp; done) | (go_simp; rfl)); intro w11 hw; have hg : wr.grownBy w11 (some go9) := (by rw [hw]; exact HP10.2); have hp_ : Kd.R Kd.string 9 w11 w.heap.size (fun _ => True) (.slice (some ⟨go9, 0, none⟩) x3_1.length co9) y112 := (by rw [hw, Ny112.out]; exact HP10.1); clear HP10; replace HO_3 := am (hp_); replace HB := am ((by rw [hw]; exact below_set (HB.out) GB9.out : Below w.heap.size w w11)); clear hg hw hp_))
    go_roundg k1
    case measure => have := HK1.out; omega
    case rel => exact ⟨(y112), (wrap64 (x4_1 + 1)), rs, H', ⟨by have := HK1.out; omega⟩, ⟨kr HO_3.out⟩, ⟨bl⟩⟩
   obtain rfl := Option.some.inj H
   go_wp2
   go_ret
   exact ⟨_, er, kr HO_3.out, bl⟩

/-! ### laws_toParam: function 128 -/
def laws_toParam.f (a0_0 : ByteArray) (a0_1 : Int) (a0_2 : Int) (a0_3 : Int) : Option (ByteArray × Int × Int × Int) := some (a0_0, a0_1, a0_2, a0_3)
theorem laws_toParam.calls (a0_0 : ByteArray) (a0_1 : Int) (a0_2 : Int) (a0_3 : Int) (r1 : ByteArray) (r2 : Int) (r3 : Int) (r4 : Int) (w : World) (h : laws_toParam.f a0_0 a0_1 a0_2 a0_3 = some (r1, r2, r3, r4)) :
  Calls Tryz.prog 128 #[.agg #[.string a0_0, .int .i64 a0_1, .int .i64 a0_2, .int .i64 a0_3]] w fun e w' => e = .returned (.agg #[.string r1, .int .i64 r2, .int .i64 r3, .int .i64 r4]) ∧ Below w.heap.size w w' := by
 have hu174 := Tryz.underlying174
 have hu75 := Tryz.underlying75
 have HB := am (Below.refl w.heap.size w)
 have H : (some (a0_0, a0_1, a0_2, a0_3)) = some (r1, r2, r3, r4) := h
 clear h
 simp only [Option.some.injEq, Prod.mk.injEq] at H
 obtain ⟨rfl, rfl, rfl, rfl⟩ := H
 go_enter Tryz.func128, Tryz.ntmps128
 go_wp2_with (first | (refine bx 1 #[.string a0_0, .int .i64 a0_1, .int .i64 a0_2, .int .i64 a0_3] 174 ?_; intro gb113 hg w2 hbox hb; have BK113 := am (hbox); have GW113 := am (bsz hg : w.heap.size ≤ gb113); have GE113 := GW113; replace HB := am (below_step bl hb); clear hb hbox hg) | (refine bx 2 #[.string (⟨#[]⟩ : ByteArray), .int .i64 0, .int .i64 0, .int .i64 0] 75 ?_; intro gb114 hg w3 hbox hb; have BK114 := am (hbox); have GW114 := am (bsz hg : w.heap.size ≤ gb114); have GE114 := GW114; have NB113_114 := am (ne1 hg BK113.out); have NB114_113 := am NB113_114.out.symm; replace BK113 := am (bkb BK113.out hb); replace HB := am (below_step bl hb); clear hb hbox hg) | (refine bx 3 #[.string (⟨#[]⟩ : ByteArray), .int .i64 0, .int .i64 0, .int .i64 0] 75 ?_; intro gb115 hg w4 hbox hb; have BK115 := am (hbox); have GW115 := am (bsz hg : w.heap.size ≤ gb115); have GE115 := GW115; have NB113_115 := am (ne1 hg BK113.out); have NB115_113 := am NB113_115.out.symm; replace BK113 := am (bkb BK113.out hb); have NB114_115 := am (ne1 hg BK114.out); have NB115_114 := am NB114_115.out.symm; replace BK114 := am (bkb BK114.out hb); replace HB := am (below_step bl hb); clear hb hbox hg; have hnb5 := NB113_114.out; have hnc5 := NB114_113.out; have hnb6 := NB113_115.out; have hnc6 := NB115_113.out; obtain ⟨z7_0, z7_1, z7_2, z7_3, y7_0, y7_1, y7_2, y7_3⟩ := blk4 BK113.out; have hnb8 := NB115_114.out; have hnc8 := NB114_115.out; obtain ⟨z9_0, z9_1, z9_2, z9_3, y9_0, y9_1, y9_2, y9_3⟩ := blk4 BK115.out; obtain ⟨z10_0, z10_1, z10_2, z10_3, y10_0, y10_1, y10_2, y10_3⟩ := blk4 BK114.out))
 refine bodyPost_ret (results_cell_row rfl _ _ gb114 75 #[.string a0_0, .int .i64 a0_1, .int .i64 a0_2, .int .i64 a0_3] (0, 0) _ rfl (bpf BK114.out NB114_115.out) Tryz.underlying75 rfl (by kernel_rfl)) rfl ?_
 exact ⟨er, bl⟩

/-! ### laws_toParamS: function 62 -/
def laws_toParamS.l0 : Nat → List (S174) → List (S75) → Int → Option ((List (S75)))
 | 0, _, _, _ => none
 | k + 1, x0, x3, x4 => if x4 < (x0.length : Int) then (if 0 ≤ x4 then ((laws_toParam.f ((rd_T174 x0 x4).f0) ((rd_T174 x0 x4).f1) ((rd_T174 x0 x4).f2) ((rd_T174 x0 x4).f3)).bind fun bt120 => (if x4 < (x3.length : Int) then (laws_toParamS.l0 k x0 (x3.set (x4 : Int).toNat (⟨bt120.1, bt120.2.1, bt120.2.2.1, bt120.2.2.2⟩ : S75)) (wrap64 (x4 + 1))) else (none))) else (none)) else (some x3)
def laws_toParamS.f (k : Nat) (l0 : List (S174)) : Option ((List (S75))) := if 0 ≤ (l0.length : Int) then (if ((l0.length : Int) : Int).toNat ≤ 7036874417766 then (laws_toParamS.l0 k l0 (List.replicate ((l0.length : Int) : Int).toNat z75) 0) else (none)) else (none)
theorem laws_toParamS.mono_l : ∀ k, (∀ y0 y1 y2, LeO (laws_toParamS.l0 k y0 y1 y2) (laws_toParamS.l0 (k + 1) y0 y1 y2))
 | 0 => fun _ _ _ r h => by simp [laws_toParamS.l0] at h
 | k + 1 => by
  have ih0 := laws_toParamS.mono_l k
  ·intro y0 y1 y2
   unfold laws_toParamS.l0
   exact mo
theorem laws_toParamS.mono : ∀ a0 k, LeO (laws_toParamS.f k a0) (laws_toParamS.f (k + 1) a0) := by
 intro a0 k
 have ih0 := laws_toParamS.mono_l k
 unfold laws_toParamS.f
 exact mo
theorem laws_toParamS.calls (k : Nat) (A0 : Option Addr) (c0 : Nat) (l0 : List (S174)) (r : List (S75)) (w : World) (hr0 : Kd.C k174 w A0 l0.length l0) (hc0 : l0.length ≤ c0) (h : laws_toParamS.f k l0 = some r) :
  Calls Tryz.prog 62 #[.slice A0 l0.length c0] w fun e w' => ∃ v0_ : Value, e = .returned (v0_) ∧ Kd.R k75 75 w' w.heap.size (fun _ => True) v0_ r ∧ Below w.heap.size w w' := by
 have hu174 := Tryz.underlying174
 have hu75 := Tryz.underlying75
 have HR0 := am hr0
 have HC0 := am hc0
 clear hr0 hc0
 have HB := am (Below.refl w.heap.size w)
 have H := h
 clear h
 unfold laws_toParamS.f at H
 revert H; refine i2 fun c2b0 c2b1 H => ?_
 revert H; refine i2 fun c3b0 c3b1 H => ?_
 generalize h_ : (List.replicate ((l0.length : Int) : Int).toNat z75) = y116 at H
 have Ny116 := am h_.symm; clear h_
 have H' := am H; clear H
 go_enter Tryz.func62, Tryz.ntmps62
 go_wp2_with (first | ((with_reducible refine gate_dst (N := 7) rfl ?_); refine Kd.R_make k75 _ 75 rfl (N := 7) rfl 29 _ _ rfl (l0.length : Int) rfl rfl Tryz.underlying29 (.agg #[(.string ⟨#[]⟩), (.int .i64 0), (.int .i64 0), (.int .i64 0)]) 40 info75 rfl (by decide) (by omega) z75 (ok := fun _ => True) (okp := fun _ => True) (k75_mkM _ _ _ z75 ) (fun _ hk => hk) trivial (ode) (Nat.le_trans (Nat.mul_le_mul_right _ (ode : (l0.length : Int).toNat ≤ 7036874417766)) (by omega)) (Below.refl _ _) (Nat.le_refl _) ?_; intro v117 w4 ho5 hb hg_ hnew_; clear hg_ hnew_; (first | rw [← Ny116.out] at ho5 | (simp only [Int.reduceToNat] at ho5; rw [← Ny116.out] at ho5)); have HO118 := am (Kd.R_lower ho5 (below_size bl)); replace HB := am (below_step bl hb); clear hb ho5))
 go_loopg [4] k (fun kq v4 w' => ∃ (x3_1 : List (S75)) (x4_1 : Int), v4 = .int .i64 x4_1 ∧ Aside0 (laws_toParamS.l0 kq l0 x3_1 x4_1 = some r) ∧ Aside0 (kq ≤ k) ∧ Aside0 (Kd.R k75 75 w' w.heap.size (fun _ => True) v117 x3_1) ∧ Aside0 (Below w.heap.size w w'))
 case atStart => exact ⟨(y116), (0), rs, H', ⟨Nat.le_refl _⟩, ⟨kr HO118.out⟩, ⟨bl⟩⟩
 case round =>
  clear H'
  try clear c2b0; try clear c2b1; try clear c3b0; try clear c3b1
  obtain ⟨x3_1, x4_1, rfl, HA, HK1, HO_3, HB⟩ := hrel
  cases gk with
  | zero => exact absurd HA.out (by simp [laws_toParamS.l0])
  | succ k1 =>
   have H := HA.out
   clear HA
   simp only [laws_toParamS.l0] at H
   revert H; refine iDb (fun c6b0 H => ?_) fun c6b0 H => ?_
   ·revert H; refine i1 fun c7b0 H => ?_
    replace H := bi H; obtain ⟨⟨t120, t121, t122, t123⟩, A8, H⟩ := H; dsimp only at H
    revert H; refine i1 fun c9b0 H => ?_
    generalize h_ : (x3_1.set (x4_1 : Int).toNat (⟨t120, t121, t122, t123⟩ : S75)) = y124 at H
    have Ny124 := am h_.symm; clear h_
    have H' := am H; clear H
    have p119 : 0 ≤ (x4_1 : Int) := ode
    have q119 : x4_1 < (l0.length : Int) := ode
    obtain ⟨ad119, e119, hx119_0, hx119_1, hx119_2, hx119_3⟩ := at_T174 HR0.out x4_1 p119 q119
    cases e119
    obtain ⟨hx119_0, hx119_1, hx119_2, hx119_3⟩ := hb4 HB.out hx119_0 hx119_1 hx119_2 hx119_3
    replace p119 := eq_true p119
    replace q119 := eq_true q119
    go_wp2_with (first | (refine gc 128 (some 20) Tryz.func128 (laws_toParam.calls _ _ _ _ _ _ _ _ _ A8.out) ?_; rintro e w11 ⟨rfl, hb⟩; refine ⟨_, rfl, ?_⟩; replace HO_3 := am (rb HO_3.out hb); replace HB := am (below_step bl hb); clear hb; have p10 : 0 ≤ (x4_1 : Int) := ode; have q10 : (x4_1 : Int) < ((x3_1.length : Int) : Int) := ode; obtain ⟨go10, co10, eo10, gb10, gl10, cl10, HG10⟩ := Kd.R_form HO_3.out (by omega); (first | cases eo10 | (injection eo10 with ea_ en_ ec_; (first | subst ea_ | (injection ea_ with ea_; subst ea_)); subst ec_; clear en_)); have GB10 := Aside0.mk gb10; have GG10 := Aside0.mk HG10; clear gb10 gl10 HG10; obtain ⟨ce10, hcl10, hM10, hcc10, hfr10⟩ := Kd.R_elem HO_3.out z75 (x4_1 : Int) p10 q10; obtain rfl := k75_openM hM10; have hx10_0 : w11.cell? ⟨go10, (x4_1 : Int).toNat * 4, none⟩ = some (.string ((rd_T75 x3_1 x4_1).f0)) := hcc10 0 _ rfl; have hx10_1 : w11.cell? ⟨go10, (x4_1 : Int).toNat * 4 + 1, none⟩ = some (.int .i64 ((rd_T75 x3_1 x4_1).f1)) := hcc10 1 _ rfl; have hx10_2 : w11.cell? ⟨go10, (x4_1 : Int).toNat * 4 + 2, none⟩ = some (.int .i64 ((rd_T75 x3_1 x4_1).f2)) := hcc10 2 _ rfl; have hx10_3 : w11.cell? ⟨go10, (x4_1 : Int).toNat * 4 + 3, none⟩ = some (.int .i64 ((rd_T75 x3_1 x4_1).f3)) := hcc10 3 _ rfl; have hf10_0 : w11.frozen? ⟨go10, (x4_1 : Int).toNat * 4, none⟩ = false := hfr10 0; have hf10_1 : w11.frozen? ⟨go10, (x4_1 : Int).toNat * 4 + 1, none⟩ = false := hfr10 1; have hf10_2 : w11.frozen? ⟨go10, (x4_1 : Int).toNat * 4 + 2, none⟩ = false := hfr10 2; have hf10_3 : w11.frozen? ⟨go10, (x4_1 : Int).toNat * 4 + 3, none⟩ = false := hfr10 3; clear hcl10 hcc10 hfr10 hM10; replace p10 := eq_true p10; replace q10 := eq_true q10; have HX12 := am (show Kd.R k75 75 w11 w.heap.size (fun _ => True) (.slice (some ⟨go10, 0, none⟩) x3_1.length co10) x3_1 from (kr HO_3.out)); obtain ⟨ce12, hcl12, hM12, hcc12, hfr12⟩ := Kd.R_elem HX12.out z75 (x4_1 : Int) (ode) (by have h_ : (x4_1 : Int) < ((x3_1.length : Int) : Int) := ode; first | exact h_ | (have e_ := (Kd.R_reads' HO_3.out).1; omega) | simpa using h_); obtain rfl := k75_openM hM12; have HP12 := Kd.R_seg HX12.out (x4_1 : Int) (ode) (by have h_ : (x4_1 : Int) < ((x3_1.length : Int) : Int) := ode; first | exact h_ | (have e_ := (Kd.R_reads' HO_3.out).1; omega) | simpa using h_) (seg := [.string t120, .int .i64 t121, .int .i64 t122, .int .i64 t123]) (j := 0) hcl12 hcc12 (show 4 ≤ 4 from by decide) (x' := (⟨t120, t121, t122, t123⟩ : S75)) (k75_mkM _ _ _ (⟨t120, t121, t122, t123⟩ : S75) ) (fun _ hk => hk); have hx12_0 := hcc12 0 _ rfl; (try simp only [show (k75).sz = 4 from rfl, Nat.mul_one, Nat.add_zero] at hx12_0); have hf12_0 := hfr12 0; (try simp only [show (k75).sz = 4 from rfl, Nat.mul_one, Nat.add_zero] at hf12_0); have hx12_1 := hcc12 1 _ rfl; (try simp only [show (k75).sz = 4 from rfl, Nat.mul_one, Nat.add_zero] at hx12_1); have hf12_1 := hfr12 1; (try simp only [show (k75).sz = 4 from rfl, Nat.mul_one, Nat.add_zero] at hf12_1); have hx12_2 := hcc12 2 _ rfl; (try simp only [show (k75).sz = 4 from rfl, Nat.mul_one, Nat.add_zero] at hx12_2); have hf12_2 := hfr12 2; (try simp only [show (k75).sz = 4 from rfl, Nat.mul_one, Nat.add_zero] at hf12_2); have hx12_3 := hcc12 3 _ rfl; (try simp only [show (k75).sz = 4 from rfl, Nat.mul_one, Nat.add_zero] at hx12_3); have hf12_3 := hfr12 3; (try simp only [show (k75).sz = 4 from rfl, Nat.mul_one, Nat.add_zero] at hf12_3); clear hcl12 hcc12 hfr12 hM12) | ((with_reducible refine gate_store (t := 75) (p := 21) rfl ?_); refine store_event (t := 75) (p := 21) (v := ?vo_w13) (w1 := ((((w11.setCell ⟨go10, (x4_1 : Int).toNat * 4, none⟩ (.string t120)).setCell ⟨go10, (x4_1 : Int).toNat * 4 + 1, none⟩ (.int .i64 t121)).setCell ⟨go10, (x4_1 : Int).toNat * 4 + 2, none⟩ (.int .i64 t122)).setCell ⟨go10, (x4_1 : Int).toNat * 4 + 3, none⟩ (.int .i64 t123))) ?hg ?ho ?hn ?hr ?_; (case ho => rfl); (case hg => rfl); (case hn => rfl); (case hr => first | (go_simp; done) | (go_simp; rfl)); intro w13 hw; have hg : w11.grownBy w13 (some go10) := (by rw [hw]; exact HP12.2); have hp_ : Kd.R k75 75 w13 w.heap.size (fun _ => True) (.slice (some ⟨go10, 0, none⟩) x3_1.length co10) y124 := (by rw [hw, Ny124.out]; exact HP12.1); clear HP12; replace HO_3 := am (hp_); replace HB := am ((by rw [hw]; exact below_set (below_set (below_set (below_set (HB.out) GB10.out) GB10.out) GB10.out) GB10.out : Below w.heap.size w w13)); clear hg hw hp_))
    go_roundg k1
    case measure => have := HK1.out; omega
    case rel => exact ⟨(y124), (wrap64 (x4_1 + 1)), rs, H', ⟨by have := HK1.out; omega⟩, ⟨kr HO_3.out⟩, ⟨bl⟩⟩
   obtain rfl := Option.some.inj H
   go_wp2
   go_ret
   exact ⟨_, er, kr HO_3.out, bl⟩

/-! ### laws_toNode: function 129 -/
def laws_toNode.f (a0_0 : Int) (a0_1 : ByteArray) (a0_2 : ByteArray) (a0_3 : Int) (a0_4 : Int) : Option (Int × ByteArray × ByteArray × Int × Int) := some (a0_0, a0_1, a0_2, a0_3, a0_4)
theorem laws_toNode.calls (a0_0 : Int) (a0_1 : ByteArray) (a0_2 : ByteArray) (a0_3 : Int) (a0_4 : Int) (r1 : Int) (r2 : ByteArray) (r3 : ByteArray) (r4 : Int) (r5 : Int) (w : World) (h : laws_toNode.f a0_0 a0_1 a0_2 a0_3 a0_4 = some (r1, r2, r3, r4, r5)) :
  Calls Tryz.prog 129 #[.agg #[.int .i64 a0_0, .string a0_1, .string a0_2, .int .i64 a0_3, .int .i64 a0_4]] w fun e w' => e = .returned (.agg #[.int .i64 r1, .string r2, .string r3, .int .i64 r4, .int .i64 r5]) ∧ Below w.heap.size w w' := by
 have hu176 := Tryz.underlying176
 have hu73 := Tryz.underlying73
 have HB := am (Below.refl w.heap.size w)
 have H : (some (a0_0, a0_1, a0_2, a0_3, a0_4)) = some (r1, r2, r3, r4, r5) := h
 clear h
 simp only [Option.some.injEq, Prod.mk.injEq] at H
 obtain ⟨rfl, rfl, rfl, rfl, rfl⟩ := H
 go_enter Tryz.func129, Tryz.ntmps129
 go_wp2_with (first | (refine bx 1 #[.int .i64 a0_0, .string a0_1, .string a0_2, .int .i64 a0_3, .int .i64 a0_4] 176 ?_; intro gb125 hg w2 hbox hb; have BK125 := am (hbox); have GW125 := am (bsz hg : w.heap.size ≤ gb125); have GE125 := GW125; replace HB := am (below_step bl hb); clear hb hbox hg) | (refine bx 2 #[.int .i64 0, .string (⟨#[]⟩ : ByteArray), .string (⟨#[]⟩ : ByteArray), .int .i64 0, .int .i64 0] 73 ?_; intro gb126 hg w3 hbox hb; have BK126 := am (hbox); have GW126 := am (bsz hg : w.heap.size ≤ gb126); have GE126 := GW126; have NB125_126 := am (ne1 hg BK125.out); have NB126_125 := am NB125_126.out.symm; replace BK125 := am (bkb BK125.out hb); replace HB := am (below_step bl hb); clear hb hbox hg) | (refine bx 3 #[.int .i64 0, .string (⟨#[]⟩ : ByteArray), .string (⟨#[]⟩ : ByteArray), .int .i64 0, .int .i64 0] 73 ?_; intro gb127 hg w4 hbox hb; have BK127 := am (hbox); have GW127 := am (bsz hg : w.heap.size ≤ gb127); have GE127 := GW127; have NB125_127 := am (ne1 hg BK125.out); have NB127_125 := am NB125_127.out.symm; replace BK125 := am (bkb BK125.out hb); have NB126_127 := am (ne1 hg BK126.out); have NB127_126 := am NB126_127.out.symm; replace BK126 := am (bkb BK126.out hb); replace HB := am (below_step bl hb); clear hb hbox hg; have hnb5 := NB125_126.out; have hnc5 := NB126_125.out; have hnb6 := NB125_127.out; have hnc6 := NB127_125.out; obtain ⟨z7_0, z7_1, z7_2, z7_3, z7_4, y7_0, y7_1, y7_2, y7_3, y7_4⟩ := blk5 BK125.out; have hnb8 := NB127_126.out; have hnc8 := NB126_127.out; obtain ⟨z9_0, z9_1, z9_2, z9_3, z9_4, y9_0, y9_1, y9_2, y9_3, y9_4⟩ := blk5 BK127.out; obtain ⟨z10_0, z10_1, z10_2, z10_3, z10_4, y10_0, y10_1, y10_2, y10_3, y10_4⟩ := blk5 BK126.out))
 refine bodyPost_ret (results_cell_row rfl _ _ gb126 73 #[.int .i64 a0_0, .string a0_1, .string a0_2, .int .i64 a0_3, .int .i64 a0_4] (0, 0) _ rfl (bpf BK126.out NB126_127.out) Tryz.underlying73 rfl (by kernel_rfl)) rfl ?_
 exact ⟨er, bl⟩

end Go.Proofs.YtodokfmmnihecaaGreatDoor.PFnExactEnvRight
