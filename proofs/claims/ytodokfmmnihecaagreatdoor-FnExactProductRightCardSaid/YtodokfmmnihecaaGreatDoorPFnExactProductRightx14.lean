-- laid by seedprint.py, a program of this session, over contracts that it gives by hand; Lean checks it
-- dented
import Derived.Test.YtodokfmmnihecaaGreatDoorQMin
import Derived.Test.YtodokfmmnihecaaGreatDoorQAut
import Derived.Test.YtodokfmmnihecaaGreatDoorQBlk
import Derived.Test.YtodokfmmnihecaaGreatDoorPFnExactProductRightx0
namespace Go.Proofs.YtodokfmmnihecaaGreatDoor.PFnExactProductRight
open Go.RowKit Go.Proofs.YtodokfmmnihecaaGreatDoorW.PrintWords Go.Proofs.YtodokfmmnihecaaGreatDoorW.PrintLast Go.Proofs.YtodokfmmnihecaaGreatDoorW.PrintMore
attribute [local go_sem] max2_int min2_int max_two min_two max_three min_three max_four min_four   -- for this text's walks alone
set_option maxHeartbeats 8000000
set_option maxRecDepth 100000
set_option linter.unusedVariables false
set_option linter.unusedSimpArgs false

/-! ### laws_eqStringS: function 71 -/
def laws_eqStringS.l0 : Nat → List ByteArray → List ByteArray → Int → Option (Bool)
 | 0, _, _, _ => none
 | k + 1, x0, x1, x5 => if x5 < (x0.length : Int) then (if 0 ≤ x5 then (if x5 < (x1.length : Int) then (if (rdOf ByteArray.empty x0 x5).toList = (rdOf ByteArray.empty x1 x5).toList then (laws_eqStringS.l0 k x0 x1 (wrap64 (x5 + 1))) else (some false)) else (none)) else (none)) else (some true)
def laws_eqStringS.f (k : Nat) (l0 : List ByteArray) (l1 : List ByteArray) : Option (Bool) := if (l0.length : Int) = (l1.length : Int) then (laws_eqStringS.l0 k l0 l1 0) else (some false)
theorem laws_eqStringS.mono_l : ∀ k, (∀ y0 y1 y2, LeO (laws_eqStringS.l0 k y0 y1 y2) (laws_eqStringS.l0 (k + 1) y0 y1 y2))
 | 0 => fun _ _ _ r h => by simp [laws_eqStringS.l0] at h
 | k + 1 => by
  have ih0 := laws_eqStringS.mono_l k
  ·intro y0 y1 y2
   unfold laws_eqStringS.l0
   exact mo
theorem laws_eqStringS.mono : ∀ a0 a1 k, LeO (laws_eqStringS.f k a0 a1) (laws_eqStringS.f (k + 1) a0 a1) := by
 intro a0 a1 k
 have ih0 := laws_eqStringS.mono_l k
 unfold laws_eqStringS.f
 exact mo
theorem laws_eqStringS.calls (k : Nat) (A0 : Option Addr) (c0 : Nat) (l0 : List ByteArray) (A1 : Option Addr) (c1 : Nat) (l1 : List ByteArray) (r : Bool) (w : World) (hr0 : Kd.C Kd.string w A0 l0.length l0) (hc0 : l0.length ≤ c0) (hr1 : Kd.C Kd.string w A1 l1.length l1) (hc1 : l1.length ≤ c1) (h : laws_eqStringS.f k l0 l1 = some r) :
  Calls Tryz.prog 71 #[.slice A0 l0.length c0, .slice A1 l1.length c1] w fun e w' => e = .returned (.bool r) ∧ Drawn0 w w' := by
 have HR0 := am hr0
 have HC0 := am hc0
 clear hr0 hc0
 have HR1 := am hr1
 have HC1 := am hc1
 clear hr1 hc1
 have H := h
 clear h
 unfold laws_eqStringS.f at H
 revert H; refine iQn (fun c3 c3b0 c3b1 H => ?_) fun c3 c3b0 c3b1 H => ?_
 ·have c3b2 : (l0.length == l1.length) = true := by first | simpa using c3 | (simp at c3 ⊢; omega)
  clear c3
  have H' := am H; clear H
  go_enter Tryz.func71, Tryz.ntmps71
  go_wp2
  repeat (go_quiet (fail); try go_wp2)
  go_loopg [5] k (fun kq v5 w' => ∃ (x5_1 : Int), v5 = .int .i64 x5_1 ∧ Aside0 (laws_eqStringS.l0 kq l0 l1 x5_1 = some r) ∧ Aside0 (kq ≤ k) ∧ Drawn0 w w')
  case atStart => exact ⟨(0), rs, H', ⟨Nat.le_refl _⟩, by repeat (first | exact Drawn0.refl _ | apply Drawn0.step)⟩
  case round =>
   clear H'
   try clear c1; try clear c3; try clear c3b0; try clear c3b1; try clear c3b2
   obtain ⟨x5_1, rfl, HA, HK1, ⟨m1, rfl⟩⟩ := hrel
   cases gk with
   | zero => exact absurd HA.out (by simp [laws_eqStringS.l0])
   | succ k1 =>
    have H := HA.out
    clear HA
    simp only [laws_eqStringS.l0] at H
    revert H; refine iDb (fun c4b0 H => ?_) fun c4b0 H => ?_
    ·revert H; refine i1 fun c5b0 H => ?_
     revert H; refine i1 fun c6b0 H => ?_
     revert H; refine iQ (fun c7b0 c7b1 H => ?_) fun c7 c7b0 c7b1 H => ?_
     ·have H' := am H; clear H
      have p374 : 0 ≤ (x5_1 : Int) := ode
      have q374 : x5_1 < (l0.length : Int) := ode
      obtain ⟨ad374, e374, hx374_0⟩ := Kd.at_string HR0.out x5_1 p374 q374
      cases e374
      replace p374 := eq_true p374
      replace q374 := eq_true q374
      have p375 : 0 ≤ (x5_1 : Int) := ode
      have q375 : x5_1 < (l1.length : Int) := ode
      obtain ⟨ad375, e375, hx375_0⟩ := Kd.at_string HR1.out x5_1 p375 q375
      cases e375
      replace p375 := eq_true p375
      replace q375 := eq_true q375
      go_wp2
      repeat (go_quiet (fail); try go_wp2)
      go_roundg k1
      case measure => have := HK1.out; omega
      case rel => exact ⟨(wrap64 (x5_1 + 1)), rs, H', ⟨by have := HK1.out; omega⟩, by repeat (first | exact Drawn0.refl _ | apply Drawn0.step)⟩
     obtain rfl := Option.some.inj H
     have p374 : 0 ≤ (x5_1 : Int) := ode
     have q374 : x5_1 < (l0.length : Int) := ode
     obtain ⟨ad374, e374, hx374_0⟩ := Kd.at_string HR0.out x5_1 p374 q374
     cases e374
     replace p374 := eq_true p374
     replace q374 := eq_true q374
     have p375 : 0 ≤ (x5_1 : Int) := ode
     have q375 : x5_1 < (l1.length : Int) := ode
     obtain ⟨ad375, e375, hx375_0⟩ := Kd.at_string HR1.out x5_1 p375 q375
     cases e375
     replace p375 := eq_true p375
     replace q375 := eq_true q375
     go_wp2
     repeat (go_quiet (fail); try go_wp2)
     go_ret
     exact ⟨by first | rfl | (simp; done) | (simp [*]; done) | (simp [isE_bne]; done), by repeat (first | exact Drawn0.refl _ | apply Drawn0.step)⟩
    obtain rfl := Option.some.inj H
    go_wp2
    repeat (go_quiet (fail); try go_wp2)
    go_ret
    exact ⟨by first | rfl | (simp; done) | (simp [*]; done) | (simp [isE_bne]; done), by repeat (first | exact Drawn0.refl _ | apply Drawn0.step)⟩
 have c3b2 : (l0.length == l1.length) = false := by first | simpa using c3 | (simp at c3 ⊢; omega)
 obtain rfl := Option.some.inj H
 go_enter Tryz.func71, Tryz.ntmps71
 go_wp2
 repeat (go_quiet (fail); try go_wp2)
 go_ret
 exact ⟨by first | rfl | (simp; done) | (simp [*]; done) | (simp [isE_bne]; done), by repeat (first | exact Drawn0.refl _ | apply Drawn0.step)⟩

/-! ### laws_eqParam: function 138 -/
def laws_eqParam.f (a0_0 : ByteArray) (a0_1 : Int) (a0_2 : Int) (a0_3 : Int) (a1_0 : ByteArray) (a1_1 : Int) (a1_2 : Int) (a1_3 : Int) : Option (Bool) := if a0_0.toList = a1_0.toList then (if a0_1 = a1_1 then (if a0_2 = a1_2 then (if a0_3 = a1_3 then (some true) else (some false)) else (some false)) else (some false)) else (some false)
theorem laws_eqParam.calls (a0_0 : ByteArray) (a0_1 : Int) (a0_2 : Int) (a0_3 : Int) (a1_0 : ByteArray) (a1_1 : Int) (a1_2 : Int) (a1_3 : Int) (r : Bool) (w : World) (h : laws_eqParam.f a0_0 a0_1 a0_2 a0_3 a1_0 a1_1 a1_2 a1_3 = some r) :
  Calls Tryz.prog 138 #[.agg #[.string a0_0, .int .i64 a0_1, .int .i64 a0_2, .int .i64 a0_3], .agg #[.string a1_0, .int .i64 a1_1, .int .i64 a1_2, .int .i64 a1_3]] w fun e w' => e = .returned (.bool r) ∧ Below w.heap.size w w' := by
 have hu75 := Tryz.underlying75
 have HB := am (Below.refl w.heap.size w)
 have H := h
 clear h
 unfold laws_eqParam.f at H
 revert H; refine iQ (fun c3b0 c3b1 H => ?_) fun c3 c3b0 c3b1 H => ?_
 ·revert H; refine iQ (fun c4b0 c4b1 H => ?_) fun c4 c4b0 c4b1 H => ?_
  ·revert H; refine iQ (fun c5b0 c5b1 H => ?_) fun c5 c5b0 c5b1 H => ?_
   ·revert H; refine iQ (fun c6b0 c6b1 H => ?_) fun c6 c6b0 c6b1 H => ?_
    ·obtain rfl := Option.some.inj H
     go_enter Tryz.func138, Tryz.ntmps138
     go_wp2_with (first | (refine bx 2 #[.string a0_0, .int .i64 a0_1, .int .i64 a0_2, .int .i64 a0_3] 75 ?_; intro gb376 hg w7 hbox hb; have BK376 := am (hbox); have GW376 := am (bsz hg : w.heap.size ≤ gb376); have GE376 := GW376; replace HB := am (below_step bl hb); clear hb hbox hg) | (refine bx 3 #[.string a1_0, .int .i64 a1_1, .int .i64 a1_2, .int .i64 a1_3] 75 ?_; intro gb377 hg w8 hbox hb; have BK377 := am (hbox); have GW377 := am (bsz hg : w.heap.size ≤ gb377); have GE377 := GW377; have NB376_377 := am (ne1 hg BK376.out); have NB377_376 := am NB376_377.out.symm; replace BK376 := am (bkb BK376.out hb); replace HB := am (below_step bl hb); clear hb hbox hg; have hnb9 := NB376_377.out; have hnc9 := NB377_376.out; obtain ⟨z10_0, z10_1, z10_2, z10_3, y10_0, y10_1, y10_2, y10_3⟩ := blk4 BK376.out; obtain ⟨z11_0, z11_1, z11_2, z11_3, y11_0, y11_1, y11_2, y11_3⟩ := blk4 BK377.out))
     go_ret
     exact ⟨er, bl⟩
    obtain rfl := Option.some.inj H
    go_enter Tryz.func138, Tryz.ntmps138
    go_wp2_with (first | (refine bx 2 #[.string a0_0, .int .i64 a0_1, .int .i64 a0_2, .int .i64 a0_3] 75 ?_; intro gb376 hg w12 hbox hb; have BK376 := am (hbox); have GW376 := am (bsz hg : w.heap.size ≤ gb376); have GE376 := GW376; replace HB := am (below_step bl hb); clear hb hbox hg) | (refine bx 3 #[.string a1_0, .int .i64 a1_1, .int .i64 a1_2, .int .i64 a1_3] 75 ?_; intro gb377 hg w13 hbox hb; have BK377 := am (hbox); have GW377 := am (bsz hg : w.heap.size ≤ gb377); have GE377 := GW377; have NB376_377 := am (ne1 hg BK376.out); have NB377_376 := am NB376_377.out.symm; replace BK376 := am (bkb BK376.out hb); replace HB := am (below_step bl hb); clear hb hbox hg; have hnb14 := NB376_377.out; have hnc14 := NB377_376.out; obtain ⟨z15_0, z15_1, z15_2, z15_3, y15_0, y15_1, y15_2, y15_3⟩ := blk4 BK376.out; obtain ⟨z16_0, z16_1, z16_2, z16_3, y16_0, y16_1, y16_2, y16_3⟩ := blk4 BK377.out))
    go_ret
    exact ⟨er, bl⟩
   obtain rfl := Option.some.inj H
   go_enter Tryz.func138, Tryz.ntmps138
   go_wp2_with (first | (refine bx 2 #[.string a0_0, .int .i64 a0_1, .int .i64 a0_2, .int .i64 a0_3] 75 ?_; intro gb376 hg w17 hbox hb; have BK376 := am (hbox); have GW376 := am (bsz hg : w.heap.size ≤ gb376); have GE376 := GW376; replace HB := am (below_step bl hb); clear hb hbox hg) | (refine bx 3 #[.string a1_0, .int .i64 a1_1, .int .i64 a1_2, .int .i64 a1_3] 75 ?_; intro gb377 hg w18 hbox hb; have BK377 := am (hbox); have GW377 := am (bsz hg : w.heap.size ≤ gb377); have GE377 := GW377; have NB376_377 := am (ne1 hg BK376.out); have NB377_376 := am NB376_377.out.symm; replace BK376 := am (bkb BK376.out hb); replace HB := am (below_step bl hb); clear hb hbox hg; have hnb19 := NB376_377.out; have hnc19 := NB377_376.out; obtain ⟨z20_0, z20_1, z20_2, z20_3, y20_0, y20_1, y20_2, y20_3⟩ := blk4 BK376.out; obtain ⟨z21_0, z21_1, z21_2, z21_3, y21_0, y21_1, y21_2, y21_3⟩ := blk4 BK377.out))
   go_ret
   exact ⟨er, bl⟩
  obtain rfl := Option.some.inj H
  go_enter Tryz.func138, Tryz.ntmps138
  go_wp2_with (first | (refine bx 2 #[.string a0_0, .int .i64 a0_1, .int .i64 a0_2, .int .i64 a0_3] 75 ?_; intro gb376 hg w22 hbox hb; have BK376 := am (hbox); have GW376 := am (bsz hg : w.heap.size ≤ gb376); have GE376 := GW376; replace HB := am (below_step bl hb); clear hb hbox hg) | (refine bx 3 #[.string a1_0, .int .i64 a1_1, .int .i64 a1_2, .int .i64 a1_3] 75 ?_; intro gb377 hg w23 hbox hb; have BK377 := am (hbox); have GW377 := am (bsz hg : w.heap.size ≤ gb377); have GE377 := GW377; have NB376_377 := am (ne1 hg BK376.out); have NB377_376 := am NB376_377.out.symm; replace BK376 := am (bkb BK376.out hb); replace HB := am (below_step bl hb); clear hb hbox hg; have hnb24 := NB376_377.out; have hnc24 := NB377_376.out; obtain ⟨z25_0, z25_1, z25_2, z25_3, y25_0, y25_1, y25_2, y25_3⟩ := blk4 BK376.out; obtain ⟨z26_0, z26_1, z26_2, z26_3, y26_0, y26_1, y26_2, y26_3⟩ := blk4 BK377.out))
  go_ret
  exact ⟨er, bl⟩
 obtain rfl := Option.some.inj H
 go_enter Tryz.func138, Tryz.ntmps138
 go_wp2_with (first | (refine bx 2 #[.string a0_0, .int .i64 a0_1, .int .i64 a0_2, .int .i64 a0_3] 75 ?_; intro gb376 hg w27 hbox hb; have BK376 := am (hbox); have GW376 := am (bsz hg : w.heap.size ≤ gb376); have GE376 := GW376; replace HB := am (below_step bl hb); clear hb hbox hg) | (refine bx 3 #[.string a1_0, .int .i64 a1_1, .int .i64 a1_2, .int .i64 a1_3] 75 ?_; intro gb377 hg w28 hbox hb; have BK377 := am (hbox); have GW377 := am (bsz hg : w.heap.size ≤ gb377); have GE377 := GW377; have NB376_377 := am (ne1 hg BK376.out); have NB377_376 := am NB376_377.out.symm; replace BK376 := am (bkb BK376.out hb); replace HB := am (below_step bl hb); clear hb hbox hg; have hnb29 := NB376_377.out; have hnc29 := NB377_376.out; obtain ⟨z30_0, z30_1, z30_2, z30_3, y30_0, y30_1, y30_2, y30_3⟩ := blk4 BK376.out; obtain ⟨z31_0, z31_1, z31_2, z31_3, y31_0, y31_1, y31_2, y31_3⟩ := blk4 BK377.out))
 go_ret
 exact ⟨er, bl⟩

/-! ### laws_eqParamS: function 72 -/
def laws_eqParamS.l0 : Nat → List (S75) → List (S75) → Int → Option (Bool)
 | 0, _, _, _ => none
 | k + 1, x0, x1, x5 => if x5 < (x0.length : Int) then (if 0 ≤ x5 then (if x5 < (x1.length : Int) then ((laws_eqParam.f ((rd_T75 x0 x5).f0) ((rd_T75 x0 x5).f1) ((rd_T75 x0 x5).f2) ((rd_T75 x0 x5).f3) ((rd_T75 x1 x5).f0) ((rd_T75 x1 x5).f1) ((rd_T75 x1 x5).f2) ((rd_T75 x1 x5).f3)).bind fun t380 => (if t380 = true then (laws_eqParamS.l0 k x0 x1 (wrap64 (x5 + 1))) else (some false))) else (none)) else (none)) else (some true)
def laws_eqParamS.f (k : Nat) (l0 : List (S75)) (l1 : List (S75)) : Option (Bool) := if (l0.length : Int) = (l1.length : Int) then (laws_eqParamS.l0 k l0 l1 0) else (some false)
theorem laws_eqParamS.mono_l : ∀ k, (∀ y0 y1 y2, LeO (laws_eqParamS.l0 k y0 y1 y2) (laws_eqParamS.l0 (k + 1) y0 y1 y2))
 | 0 => fun _ _ _ r h => by simp [laws_eqParamS.l0] at h
 | k + 1 => by
  have ih0 := laws_eqParamS.mono_l k
  ·intro y0 y1 y2
   unfold laws_eqParamS.l0
   exact mo
theorem laws_eqParamS.mono : ∀ a0 a1 k, LeO (laws_eqParamS.f k a0 a1) (laws_eqParamS.f (k + 1) a0 a1) := by
 intro a0 a1 k
 have ih0 := laws_eqParamS.mono_l k
 unfold laws_eqParamS.f
 exact mo
def laws_eqParamS.T6 : Bool × List (List Nat × List Nat) := (true, [([], []), ([], []), ([0, 1], [0, 1]), ([2], [2]), ([], []), ([], []), ([4, 5], [4, 5]), ([6], [6]), ([3, 7], [3, 7]), ([8], [8])])
def laws_eqParamS.B6 : List Nat := [0, 0, 3, 7, 0, 0, 48, 112, 255, 511]
theorem laws_eqParamS.tab6 : rtab .any (opsOf Tryz.f72 6) = laws_eqParamS.T6 := by kernel_rfl
theorem laws_eqParamS.bits6 : waitsOk laws_eqParamS.T6.2 laws_eqParamS.B6 = true := by kernel_rfl
theorem laws_eqParamS.calls (k : Nat) (A0 : Option Addr) (c0 : Nat) (l0 : List (S75)) (A1 : Option Addr) (c1 : Nat) (l1 : List (S75)) (r : Bool) (w : World) (hr0 : Kd.C k75 w A0 l0.length l0) (hc0 : l0.length ≤ c0) (hr1 : Kd.C k75 w A1 l1.length l1) (hc1 : l1.length ≤ c1) (h : laws_eqParamS.f k l0 l1 = some r) :
  Calls Tryz.prog 72 #[.slice A0 l0.length c0, .slice A1 l1.length c1] w fun e w' => e = .returned (.bool r) ∧ Below w.heap.size w w' := by
 have hu75 := Tryz.underlying75
 have HR0 := am hr0
 have HC0 := am hc0
 clear hr0 hc0
 have HR1 := am hr1
 have HC1 := am hc1
 clear hr1 hc1
 have HB := am (Below.refl w.heap.size w)
 have H := h
 clear h
 unfold laws_eqParamS.f at H
 revert H; refine iQn (fun c3 c3b0 c3b1 H => ?_) fun c3 c3b0 c3b1 H => ?_
 ·have c3b2 : (l0.length == l1.length) = true := by first | simpa using c3 | (simp at c3 ⊢; omega)
  clear c3
  have H' := am H; clear H
  go_enter Tryz.func72, Tryz.ntmps72
  go_wp2
  go_loopg [5] k (fun kq v5 w' => ∃ (x5_1 : Int), v5 = .int .i64 x5_1 ∧ Aside0 (laws_eqParamS.l0 kq l0 l1 x5_1 = some r) ∧ Aside0 (kq ≤ k) ∧ Aside0 (Below w.heap.size w w'))
  case atStart => exact ⟨(0), rs, H', ⟨Nat.le_refl _⟩, ⟨bl⟩⟩
  case round =>
   clear H'
   try clear c1; try clear c3; try clear c3b0; try clear c3b1; try clear c3b2
   obtain ⟨x5_1, rfl, HA, HK1, HB⟩ := hrel
   cases gk with
   | zero => exact absurd HA.out (by simp [laws_eqParamS.l0])
   | succ k1 =>
    have H := HA.out
    clear HA
    simp only [laws_eqParamS.l0] at H
    revert H; refine iDb (fun c4b0 H => ?_) fun c4b0 H => ?_
    ·revert H; refine i1 fun c5b0 H => ?_
     revert H; refine i1 fun c6b0 H => ?_
     revert H; refine bj fun t380 A7 H => ?_
     replace H := iT H; rcases H with ⟨rfl, H⟩ | ⟨rfl, H⟩
     ·have H' := am H; clear H
      try go_wp2
      have n0_ := am (below_drew1 HB.out)
      clear HB
      have HB := n0_
      clear n0_
      have p378 : 0 ≤ (x5_1 : Int) := ode
      have q378 : x5_1 < (l0.length : Int) := ode
      obtain ⟨ad378, e378, hx378_0, hx378_1, hx378_2, hx378_3⟩ := at_T75 HR0.out x5_1 p378 q378
      have hw378_3 := hx378_3
      have hw378_2 := hx378_2
      have hw378_1 := hx378_1
      have hw378_0 := hx378_0
      cases e378
      obtain ⟨hx378_0, hx378_1, hx378_2, hx378_3⟩ := hb4 HB.out hx378_0 hx378_1 hx378_2 hx378_3
      replace p378 := eq_true p378
      replace q378 := eq_true q378
      have p379 : 0 ≤ (x5_1 : Int) := ode
      have q379 : x5_1 < (l1.length : Int) := ode
      obtain ⟨ad379, e379, hx379_0, hx379_1, hx379_2, hx379_3⟩ := at_T75 HR1.out x5_1 p379 q379
      have hw379_3 := hx379_3
      have hw379_2 := hx379_2
      have hw379_1 := hx379_1
      have hw379_0 := hx379_0
      cases e379
      obtain ⟨hx379_0, hx379_1, hx379_2, hx379_3⟩ := hb4 HB.out hx379_0 hx379_1 hx379_2 hx379_3
      replace p379 := eq_true p379
      replace q379 := eq_true q379
      refine start_ (n := 10) (S := fun w' => w'.cell? (ad378.add ((x5_1).toNat * 4)) = some (.string ((rd_T75 l0 x5_1).f0)) ∧ w'.cell? ⟨(ad378.add ((x5_1).toNat * 4)).block, (ad378.add ((x5_1).toNat * 4)).off + 1, none⟩ = some (.int .i64 ((rd_T75 l0 x5_1).f1)) ∧ w'.cell? ⟨(ad378.add ((x5_1).toNat * 4)).block, (ad378.add ((x5_1).toNat * 4)).off + 2, none⟩ = some (.int .i64 ((rd_T75 l0 x5_1).f2)) ∧ w'.cell? ⟨(ad378.add ((x5_1).toNat * 4)).block, (ad378.add ((x5_1).toNat * 4)).off + 3, none⟩ = some (.int .i64 ((rd_T75 l0 x5_1).f3)) ∧ w'.cell? (ad379.add ((x5_1).toNat * 4)) = some (.string ((rd_T75 l1 x5_1).f0)) ∧ w'.cell? ⟨(ad379.add ((x5_1).toNat * 4)).block, (ad379.add ((x5_1).toNat * 4)).off + 1, none⟩ = some (.int .i64 ((rd_T75 l1 x5_1).f1)) ∧ w'.cell? ⟨(ad379.add ((x5_1).toNat * 4)).block, (ad379.add ((x5_1).toNat * 4)).off + 2, none⟩ = some (.int .i64 ((rd_T75 l1 x5_1).f2)) ∧ w'.cell? ⟨(ad379.add ((x5_1).toNat * 4)).block, (ad379.add ((x5_1).toNat * 4)).off + 3, none⟩ = some (.int .i64 ((rd_T75 l1 x5_1).f3))) (ds := []) #[F_, F_, F_, F_, F_, F_, F_, F_, F_, F_] (by kernel_rfl) rfl rfl ⟨(hbc HB.out hw378_0), (hbc HB.out hw378_1), (hbc HB.out hw378_2), (hbc HB.out hw378_3), (hbc HB.out hw379_0), (hbc HB.out hw379_1), (hbc HB.out hw379_2), (hbc HB.out hw379_3)⟩ (fun hHeld => ?_); refine with_tabW laws_eqParamS.tab6 laws_eqParamS.bits6 (fun HT_ HW_ => ?_)
      generalize wr.drew = w9 at HB hx378_0 hx378_1 hx378_2 hx378_3 hx379_0 hx379_1 hx379_2 hx379_3 hHeld ⊢
      refine pv 0 17 ?_
      refine pv 1 18 ?_
      refine pv 2 19 ?_
      refine pv 4 21 ?_
      refine pv 5 22 ?_
      refine pv 6 23 ?_
      refine tv8 3 20 hHeld ?_
      refine tv8 7 24 hHeld ?_
      refine ov 8 25 (fun K hK => ?_)
      refine gk Tryz.func138 (laws_eqParam.calls _ _ _ _ _ _ _ _ _ _ A7.out) ?_
      rintro e w10 ⟨rfl, hb⟩
      refine ⟨_, rfl, ?_⟩
      have n0_ := am (below_step bl hb)
      clear HB
      have HB := n0_
      clear n0_
      skip
      skip
      skip
      skip
      refine hK.out _ _ ⟨(hbc HB.out hw378_0), (hbc HB.out hw378_1), (hbc HB.out hw378_2), (hbc HB.out hw378_3), (hbc HB.out hw379_0), (hbc HB.out hw379_1), (hbc HB.out hw379_2), (hbc HB.out hw379_3)⟩ (fun hHeld => ?_)
      clear hK K
      refine norm_ (a' := ?_) ?_ ?_
      rotate_left
      ·show Act.put _ (some 25) _ = _
       simp only [Act.put, z1, z2, z3, i64_w, i32_w]
       rfl
      refine pv 9 26 ?_
      refine done_ (done_of HT_.out (by kernel_rfl)) ?_
      try go_wp2
      go_roundg k1
      case measure => have := HK1.out; omega
      case rel => exact ⟨(wrap64 (x5_1 + 1)), rs, H', ⟨by have := HK1.out; omega⟩, ⟨bl⟩⟩
     obtain rfl := Option.some.inj H
     try go_wp2
     have n0_ := am (below_drew1 HB.out)
     clear HB
     have HB := n0_
     clear n0_
     have p378 : 0 ≤ (x5_1 : Int) := ode
     have q378 : x5_1 < (l0.length : Int) := ode
     obtain ⟨ad378, e378, hx378_0, hx378_1, hx378_2, hx378_3⟩ := at_T75 HR0.out x5_1 p378 q378
     have hw378_3 := hx378_3
     have hw378_2 := hx378_2
     have hw378_1 := hx378_1
     have hw378_0 := hx378_0
     cases e378
     obtain ⟨hx378_0, hx378_1, hx378_2, hx378_3⟩ := hb4 HB.out hx378_0 hx378_1 hx378_2 hx378_3
     replace p378 := eq_true p378
     replace q378 := eq_true q378
     have p379 : 0 ≤ (x5_1 : Int) := ode
     have q379 : x5_1 < (l1.length : Int) := ode
     obtain ⟨ad379, e379, hx379_0, hx379_1, hx379_2, hx379_3⟩ := at_T75 HR1.out x5_1 p379 q379
     have hw379_3 := hx379_3
     have hw379_2 := hx379_2
     have hw379_1 := hx379_1
     have hw379_0 := hx379_0
     cases e379
     obtain ⟨hx379_0, hx379_1, hx379_2, hx379_3⟩ := hb4 HB.out hx379_0 hx379_1 hx379_2 hx379_3
     replace p379 := eq_true p379
     replace q379 := eq_true q379
     refine start_ (n := 10) (S := fun w' => w'.cell? (ad378.add ((x5_1).toNat * 4)) = some (.string ((rd_T75 l0 x5_1).f0)) ∧ w'.cell? ⟨(ad378.add ((x5_1).toNat * 4)).block, (ad378.add ((x5_1).toNat * 4)).off + 1, none⟩ = some (.int .i64 ((rd_T75 l0 x5_1).f1)) ∧ w'.cell? ⟨(ad378.add ((x5_1).toNat * 4)).block, (ad378.add ((x5_1).toNat * 4)).off + 2, none⟩ = some (.int .i64 ((rd_T75 l0 x5_1).f2)) ∧ w'.cell? ⟨(ad378.add ((x5_1).toNat * 4)).block, (ad378.add ((x5_1).toNat * 4)).off + 3, none⟩ = some (.int .i64 ((rd_T75 l0 x5_1).f3)) ∧ w'.cell? (ad379.add ((x5_1).toNat * 4)) = some (.string ((rd_T75 l1 x5_1).f0)) ∧ w'.cell? ⟨(ad379.add ((x5_1).toNat * 4)).block, (ad379.add ((x5_1).toNat * 4)).off + 1, none⟩ = some (.int .i64 ((rd_T75 l1 x5_1).f1)) ∧ w'.cell? ⟨(ad379.add ((x5_1).toNat * 4)).block, (ad379.add ((x5_1).toNat * 4)).off + 2, none⟩ = some (.int .i64 ((rd_T75 l1 x5_1).f2)) ∧ w'.cell? ⟨(ad379.add ((x5_1).toNat * 4)).block, (ad379.add ((x5_1).toNat * 4)).off + 3, none⟩ = some (.int .i64 ((rd_T75 l1 x5_1).f3))) (ds := []) #[F_, F_, F_, F_, F_, F_, F_, F_, F_, F_] (by kernel_rfl) rfl rfl ⟨(hbc HB.out hw378_0), (hbc HB.out hw378_1), (hbc HB.out hw378_2), (hbc HB.out hw378_3), (hbc HB.out hw379_0), (hbc HB.out hw379_1), (hbc HB.out hw379_2), (hbc HB.out hw379_3)⟩ (fun hHeld => ?_); refine with_tabW laws_eqParamS.tab6 laws_eqParamS.bits6 (fun HT_ HW_ => ?_)
     generalize wr.drew = w11 at HB hx378_0 hx378_1 hx378_2 hx378_3 hx379_0 hx379_1 hx379_2 hx379_3 hHeld ⊢
     refine pv 0 17 ?_
     refine pv 1 18 ?_
     refine pv 2 19 ?_
     refine pv 4 21 ?_
     refine pv 5 22 ?_
     refine pv 6 23 ?_
     refine tv8 3 20 hHeld ?_
     refine tv8 7 24 hHeld ?_
     refine ov 8 25 (fun K hK => ?_)
     refine gk Tryz.func138 (laws_eqParam.calls _ _ _ _ _ _ _ _ _ _ A7.out) ?_
     rintro e w12 ⟨rfl, hb⟩
     refine ⟨_, rfl, ?_⟩
     have n0_ := am (below_step bl hb)
     clear HB
     have HB := n0_
     clear n0_
     skip
     skip
     skip
     skip
     refine hK.out _ _ ⟨(hbc HB.out hw378_0), (hbc HB.out hw378_1), (hbc HB.out hw378_2), (hbc HB.out hw378_3), (hbc HB.out hw379_0), (hbc HB.out hw379_1), (hbc HB.out hw379_2), (hbc HB.out hw379_3)⟩ (fun hHeld => ?_)
     clear hK K
     refine norm_ (a' := ?_) ?_ ?_
     rotate_left
     ·show Act.put _ (some 25) _ = _
      simp only [Act.put, z1, z2, z3, i64_w, i32_w]
      rfl
     refine pv 9 26 ?_
     refine done_ (done_of HT_.out (by kernel_rfl)) ?_
     try go_wp2
     go_ret
     exact ⟨er, bl⟩
    obtain rfl := Option.some.inj H
    go_wp2
    go_ret
    exact ⟨er, bl⟩
 have c3b2 : (l0.length == l1.length) = false := by first | simpa using c3 | (simp at c3 ⊢; omega)
 obtain rfl := Option.some.inj H
 go_enter Tryz.func72, Tryz.ntmps72
 go_wp2
 go_ret
 exact ⟨er, bl⟩

/-! ### laws_eqNode: function 139 -/
def laws_eqNode.f (a0_0 : Int) (a0_1 : ByteArray) (a0_2 : ByteArray) (a0_3 : Int) (a0_4 : Int) (a1_0 : Int) (a1_1 : ByteArray) (a1_2 : ByteArray) (a1_3 : Int) (a1_4 : Int) : Option (Bool) := if a0_0 = a1_0 then (if a0_1.toList = a1_1.toList then (if a0_2.toList = a1_2.toList then (if a0_3 = a1_3 then (if a0_4 = a1_4 then (some true) else (some false)) else (some false)) else (some false)) else (some false)) else (some false)
theorem laws_eqNode.calls (a0_0 : Int) (a0_1 : ByteArray) (a0_2 : ByteArray) (a0_3 : Int) (a0_4 : Int) (a1_0 : Int) (a1_1 : ByteArray) (a1_2 : ByteArray) (a1_3 : Int) (a1_4 : Int) (r : Bool) (w : World) (h : laws_eqNode.f a0_0 a0_1 a0_2 a0_3 a0_4 a1_0 a1_1 a1_2 a1_3 a1_4 = some r) :
  Calls Tryz.prog 139 #[.agg #[.int .i64 a0_0, .string a0_1, .string a0_2, .int .i64 a0_3, .int .i64 a0_4], .agg #[.int .i64 a1_0, .string a1_1, .string a1_2, .int .i64 a1_3, .int .i64 a1_4]] w fun e w' => e = .returned (.bool r) ∧ Below w.heap.size w w' := by
 have hu73 := Tryz.underlying73
 have HB := am (Below.refl w.heap.size w)
 have H := h
 clear h
 unfold laws_eqNode.f at H
 revert H; refine iQ (fun c3b0 c3b1 H => ?_) fun c3 c3b0 c3b1 H => ?_
 ·revert H; refine iQ (fun c4b0 c4b1 H => ?_) fun c4 c4b0 c4b1 H => ?_
  ·revert H; refine iQ (fun c5b0 c5b1 H => ?_) fun c5 c5b0 c5b1 H => ?_
   ·revert H; refine iQ (fun c6b0 c6b1 H => ?_) fun c6 c6b0 c6b1 H => ?_
    ·revert H; refine iQ (fun c7b0 c7b1 H => ?_) fun c7 c7b0 c7b1 H => ?_
     ·obtain rfl := Option.some.inj H
      go_enter Tryz.func139, Tryz.ntmps139
      go_wp2_with (first | (refine bx 2 #[.int .i64 a0_0, .string a0_1, .string a0_2, .int .i64 a0_3, .int .i64 a0_4] 73 ?_; intro gb381 hg w8 hbox hb; have BK381 := am (hbox); have GW381 := am (bsz hg : w.heap.size ≤ gb381); have GE381 := GW381; replace HB := am (below_step bl hb); clear hb hbox hg) | (refine bx 3 #[.int .i64 a1_0, .string a1_1, .string a1_2, .int .i64 a1_3, .int .i64 a1_4] 73 ?_; intro gb382 hg w9 hbox hb; have BK382 := am (hbox); have GW382 := am (bsz hg : w.heap.size ≤ gb382); have GE382 := GW382; have NB381_382 := am (ne1 hg BK381.out); have NB382_381 := am NB381_382.out.symm; replace BK381 := am (bkb BK381.out hb); replace HB := am (below_step bl hb); clear hb hbox hg; have hnb10 := NB381_382.out; have hnc10 := NB382_381.out; obtain ⟨z11_0, z11_1, z11_2, z11_3, z11_4, y11_0, y11_1, y11_2, y11_3, y11_4⟩ := blk5 BK381.out; obtain ⟨z12_0, z12_1, z12_2, z12_3, z12_4, y12_0, y12_1, y12_2, y12_3, y12_4⟩ := blk5 BK382.out))
      go_ret
      exact ⟨er, bl⟩
     obtain rfl := Option.some.inj H
     go_enter Tryz.func139, Tryz.ntmps139
     go_wp2_with (first | (refine bx 2 #[.int .i64 a0_0, .string a0_1, .string a0_2, .int .i64 a0_3, .int .i64 a0_4] 73 ?_; intro gb381 hg w13 hbox hb; have BK381 := am (hbox); have GW381 := am (bsz hg : w.heap.size ≤ gb381); have GE381 := GW381; replace HB := am (below_step bl hb); clear hb hbox hg) | (refine bx 3 #[.int .i64 a1_0, .string a1_1, .string a1_2, .int .i64 a1_3, .int .i64 a1_4] 73 ?_; intro gb382 hg w14 hbox hb; have BK382 := am (hbox); have GW382 := am (bsz hg : w.heap.size ≤ gb382); have GE382 := GW382; have NB381_382 := am (ne1 hg BK381.out); have NB382_381 := am NB381_382.out.symm; replace BK381 := am (bkb BK381.out hb); replace HB := am (below_step bl hb); clear hb hbox hg; have hnb15 := NB381_382.out; have hnc15 := NB382_381.out; obtain ⟨z16_0, z16_1, z16_2, z16_3, z16_4, y16_0, y16_1, y16_2, y16_3, y16_4⟩ := blk5 BK381.out; obtain ⟨z17_0, z17_1, z17_2, z17_3, z17_4, y17_0, y17_1, y17_2, y17_3, y17_4⟩ := blk5 BK382.out))
     go_ret
     exact ⟨er, bl⟩
    obtain rfl := Option.some.inj H
    go_enter Tryz.func139, Tryz.ntmps139
    go_wp2_with (first | (refine bx 2 #[.int .i64 a0_0, .string a0_1, .string a0_2, .int .i64 a0_3, .int .i64 a0_4] 73 ?_; intro gb381 hg w18 hbox hb; have BK381 := am (hbox); have GW381 := am (bsz hg : w.heap.size ≤ gb381); have GE381 := GW381; replace HB := am (below_step bl hb); clear hb hbox hg) | (refine bx 3 #[.int .i64 a1_0, .string a1_1, .string a1_2, .int .i64 a1_3, .int .i64 a1_4] 73 ?_; intro gb382 hg w19 hbox hb; have BK382 := am (hbox); have GW382 := am (bsz hg : w.heap.size ≤ gb382); have GE382 := GW382; have NB381_382 := am (ne1 hg BK381.out); have NB382_381 := am NB381_382.out.symm; replace BK381 := am (bkb BK381.out hb); replace HB := am (below_step bl hb); clear hb hbox hg; have hnb20 := NB381_382.out; have hnc20 := NB382_381.out; obtain ⟨z21_0, z21_1, z21_2, z21_3, z21_4, y21_0, y21_1, y21_2, y21_3, y21_4⟩ := blk5 BK381.out; obtain ⟨z22_0, z22_1, z22_2, z22_3, z22_4, y22_0, y22_1, y22_2, y22_3, y22_4⟩ := blk5 BK382.out))
    go_ret
    exact ⟨er, bl⟩
   obtain rfl := Option.some.inj H
   go_enter Tryz.func139, Tryz.ntmps139
   go_wp2_with (first | (refine bx 2 #[.int .i64 a0_0, .string a0_1, .string a0_2, .int .i64 a0_3, .int .i64 a0_4] 73 ?_; intro gb381 hg w23 hbox hb; have BK381 := am (hbox); have GW381 := am (bsz hg : w.heap.size ≤ gb381); have GE381 := GW381; replace HB := am (below_step bl hb); clear hb hbox hg) | (refine bx 3 #[.int .i64 a1_0, .string a1_1, .string a1_2, .int .i64 a1_3, .int .i64 a1_4] 73 ?_; intro gb382 hg w24 hbox hb; have BK382 := am (hbox); have GW382 := am (bsz hg : w.heap.size ≤ gb382); have GE382 := GW382; have NB381_382 := am (ne1 hg BK381.out); have NB382_381 := am NB381_382.out.symm; replace BK381 := am (bkb BK381.out hb); replace HB := am (below_step bl hb); clear hb hbox hg; have hnb25 := NB381_382.out; have hnc25 := NB382_381.out; obtain ⟨z26_0, z26_1, z26_2, z26_3, z26_4, y26_0, y26_1, y26_2, y26_3, y26_4⟩ := blk5 BK381.out; obtain ⟨z27_0, z27_1, z27_2, z27_3, z27_4, y27_0, y27_1, y27_2, y27_3, y27_4⟩ := blk5 BK382.out))
   go_ret
   exact ⟨er, bl⟩
  obtain rfl := Option.some.inj H
  go_enter Tryz.func139, Tryz.ntmps139
  go_wp2_with (first | (refine bx 2 #[.int .i64 a0_0, .string a0_1, .string a0_2, .int .i64 a0_3, .int .i64 a0_4] 73 ?_; intro gb381 hg w28 hbox hb; have BK381 := am (hbox); have GW381 := am (bsz hg : w.heap.size ≤ gb381); have GE381 := GW381; replace HB := am (below_step bl hb); clear hb hbox hg) | (refine bx 3 #[.int .i64 a1_0, .string a1_1, .string a1_2, .int .i64 a1_3, .int .i64 a1_4] 73 ?_; intro gb382 hg w29 hbox hb; have BK382 := am (hbox); have GW382 := am (bsz hg : w.heap.size ≤ gb382); have GE382 := GW382; have NB381_382 := am (ne1 hg BK381.out); have NB382_381 := am NB381_382.out.symm; replace BK381 := am (bkb BK381.out hb); replace HB := am (below_step bl hb); clear hb hbox hg; have hnb30 := NB381_382.out; have hnc30 := NB382_381.out; obtain ⟨z31_0, z31_1, z31_2, z31_3, z31_4, y31_0, y31_1, y31_2, y31_3, y31_4⟩ := blk5 BK381.out; obtain ⟨z32_0, z32_1, z32_2, z32_3, z32_4, y32_0, y32_1, y32_2, y32_3, y32_4⟩ := blk5 BK382.out))
  go_ret
  exact ⟨er, bl⟩
 obtain rfl := Option.some.inj H
 go_enter Tryz.func139, Tryz.ntmps139
 go_wp2_with (first | (refine bx 2 #[.int .i64 a0_0, .string a0_1, .string a0_2, .int .i64 a0_3, .int .i64 a0_4] 73 ?_; intro gb381 hg w33 hbox hb; have BK381 := am (hbox); have GW381 := am (bsz hg : w.heap.size ≤ gb381); have GE381 := GW381; replace HB := am (below_step bl hb); clear hb hbox hg) | (refine bx 3 #[.int .i64 a1_0, .string a1_1, .string a1_2, .int .i64 a1_3, .int .i64 a1_4] 73 ?_; intro gb382 hg w34 hbox hb; have BK382 := am (hbox); have GW382 := am (bsz hg : w.heap.size ≤ gb382); have GE382 := GW382; have NB381_382 := am (ne1 hg BK381.out); have NB382_381 := am NB381_382.out.symm; replace BK381 := am (bkb BK381.out hb); replace HB := am (below_step bl hb); clear hb hbox hg; have hnb35 := NB381_382.out; have hnc35 := NB382_381.out; obtain ⟨z36_0, z36_1, z36_2, z36_3, z36_4, y36_0, y36_1, y36_2, y36_3, y36_4⟩ := blk5 BK381.out; obtain ⟨z37_0, z37_1, z37_2, z37_3, z37_4, y37_0, y37_1, y37_2, y37_3, y37_4⟩ := blk5 BK382.out))
 go_ret
 exact ⟨er, bl⟩

end Go.Proofs.YtodokfmmnihecaaGreatDoor.PFnExactProductRight
