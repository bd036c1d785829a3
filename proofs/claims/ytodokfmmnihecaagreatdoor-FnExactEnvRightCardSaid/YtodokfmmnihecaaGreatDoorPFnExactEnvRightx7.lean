-- laid by seedprint.py, a program of this session, over contracts that it gives by hand; Lean checks it
-- dented
import Derived.Test.YtodokfmmnihecaaGreatDoorQMin
import Derived.Test.YtodokfmmnihecaaGreatDoorQAut
import Derived.Test.YtodokfmmnihecaaGreatDoorQBlk
import Derived.Test.YtodokfmmnihecaaGreatDoorPFnExactEnvRightx0
import Derived.Test.YtodokfmmnihecaaGreatDoorPFnExactEnvRightx6
namespace Go.Proofs.YtodokfmmnihecaaGreatDoor.PFnExactEnvRight
open Go.RowKit Go.Proofs.YtodokfmmnihecaaGreatDoorW.PrintWords Go.Proofs.YtodokfmmnihecaaGreatDoorW.PrintLast Go.Proofs.YtodokfmmnihecaaGreatDoorW.PrintMore
attribute [local go_sem] max2_int min2_int max_two min_two max_three min_three max_four min_four   -- for this text's walks alone
set_option maxHeartbeats 8000000
set_option maxRecDepth 100000
set_option linter.unusedVariables false
set_option linter.unusedSimpArgs false

/-! ### spec_l07Is: function 180 -/
def spec_l07Is.f (a0 : Int) (a1 : Int) : Option (Bool) := if a1 = 1 then (some (decide (a0 < 20))) else (if a1 = 2 then (if a0 ≥ 20 then (if a0 < 27 then (some true) else (some (a0 == 27))) else (some (a0 == 27))) else (some (a0 == 27)))
theorem spec_l07Is.calls (a0 : Int) (a1 : Int) (r : Bool) (w : World) (h : spec_l07Is.f a0 a1 = some r) :
  Calls Tryz.prog 180 #[.int .i64 a0, .int .i64 a1] w fun e w' => e = .returned (.bool r) ∧ Drawn0 w w' := by
 have H := h
 clear h
 unfold spec_l07Is.f at H
 revert H; refine iQ (fun c3b0 c3b1 H => ?_) fun c3 c3b0 c3b1 H => ?_
 ·obtain rfl := Option.some.inj H
  go_enter Tryz.func180, Tryz.ntmps180
  go_wp2
  go_ret
  exact ⟨by first | rfl | (simp; done) | (simp [*]; done) | (simp [isE_bne]; done), by repeat (first | exact Drawn0.refl _ | apply Drawn0.step)⟩
 revert H; refine iQ (fun c4b0 c4b1 H => ?_) fun c4 c4b0 c4b1 H => ?_
 ·revert H; refine iDb (fun c5b0 H => ?_) fun c5b0 H => ?_
  ·revert H; refine iDb (fun c6b0 H => ?_) fun c6b0 H => ?_
   ·obtain rfl := Option.some.inj H
    go_enter Tryz.func180, Tryz.ntmps180
    go_wp2
    go_ret
    exact ⟨by first | rfl | (simp; done) | (simp [*]; done) | (simp [isE_bne]; done), by repeat (first | exact Drawn0.refl _ | apply Drawn0.step)⟩
   obtain rfl := Option.some.inj H
   go_enter Tryz.func180, Tryz.ntmps180
   go_wp2
   go_ret
   exact ⟨by first | rfl | (simp; done) | (simp [*]; done) | (simp [isE_bne]; done), by repeat (first | exact Drawn0.refl _ | apply Drawn0.step)⟩
  obtain rfl := Option.some.inj H
  go_enter Tryz.func180, Tryz.ntmps180
  go_wp2
  go_ret
  exact ⟨by first | rfl | (simp; done) | (simp [*]; done) | (simp [isE_bne]; done), by repeat (first | exact Drawn0.refl _ | apply Drawn0.step)⟩
 obtain rfl := Option.some.inj H
 go_enter Tryz.func180, Tryz.ntmps180
 go_wp2
 go_ret
 exact ⟨by first | rfl | (simp; done) | (simp [*]; done) | (simp [isE_bne]; done), by repeat (first | exact Drawn0.refl _ | apply Drawn0.step)⟩

/-! ### spec_l07Sort: function 181 -/
def spec_l07Sort.f (a0 : Int) (a1 : Int) : Option (Int) := if a0 = 27 then (some 2) else (if a0 = 22 then (if a1 > 0 then (some 3) else (if a0 = 26 then (some 1) else (some 1))) else (if a0 = 26 then (if a1 > 0 then (some 3) else (some 1)) else (some 1)))
theorem spec_l07Sort.calls (a0 : Int) (a1 : Int) (r : Int) (w : World) (h : spec_l07Sort.f a0 a1 = some r) :
  Calls Tryz.prog 181 #[.int .i64 a0, .int .i64 a1] w fun e w' => e = .returned (.int .i64 r) ∧ Drawn0 w w' := by
 have H := h
 clear h
 unfold spec_l07Sort.f at H
 revert H; refine iQ (fun c3b0 c3b1 H => ?_) fun c3 c3b0 c3b1 H => ?_
 ·obtain rfl := Option.some.inj H
  go_enter Tryz.func181, Tryz.ntmps181
  go_wp2
  go_ret
  exact ⟨by first | rfl | (simp; done) | (simp [*]; done) | (simp [isE_bne]; done), by repeat (first | exact Drawn0.refl _ | apply Drawn0.step)⟩
 revert H; refine iQ (fun c4b0 c4b1 H => ?_) fun c4 c4b0 c4b1 H => ?_
 ·revert H; refine iDb (fun c5b0 H => ?_) fun c5b0 H => ?_
  ·obtain rfl := Option.some.inj H
   go_enter Tryz.func181, Tryz.ntmps181
   go_wp2
   go_ret
   exact ⟨by first | rfl | (simp; done) | (simp [*]; done) | (simp [isE_bne]; done), by repeat (first | exact Drawn0.refl _ | apply Drawn0.step)⟩
  revert H; refine iQ (fun c6b0 c6b1 H => ?_) fun c6 c6b0 c6b1 H => ?_
  ·obtain rfl := Option.some.inj H
   go_enter Tryz.func181, Tryz.ntmps181
   go_wp2
   go_ret
   exact ⟨by first | rfl | (simp; done) | (simp [*]; done) | (simp [isE_bne]; done), by repeat (first | exact Drawn0.refl _ | apply Drawn0.step)⟩
  obtain rfl := Option.some.inj H
  go_enter Tryz.func181, Tryz.ntmps181
  go_wp2
  go_ret
  exact ⟨by first | rfl | (simp; done) | (simp [*]; done) | (simp [isE_bne]; done), by repeat (first | exact Drawn0.refl _ | apply Drawn0.step)⟩
 revert H; refine iQ (fun c7b0 c7b1 H => ?_) fun c7 c7b0 c7b1 H => ?_
 ·revert H; refine iDb (fun c8b0 H => ?_) fun c8b0 H => ?_
  ·obtain rfl := Option.some.inj H
   go_enter Tryz.func181, Tryz.ntmps181
   go_wp2
   go_ret
   exact ⟨by first | rfl | (simp; done) | (simp [*]; done) | (simp [isE_bne]; done), by repeat (first | exact Drawn0.refl _ | apply Drawn0.step)⟩
  obtain rfl := Option.some.inj H
  go_enter Tryz.func181, Tryz.ntmps181
  go_wp2
  go_ret
  exact ⟨by first | rfl | (simp; done) | (simp [*]; done) | (simp [isE_bne]; done), by repeat (first | exact Drawn0.refl _ | apply Drawn0.step)⟩
 obtain rfl := Option.some.inj H
 go_enter Tryz.func181, Tryz.ntmps181
 go_wp2
 go_ret
 exact ⟨by first | rfl | (simp; done) | (simp [*]; done) | (simp [isE_bne]; done), by repeat (first | exact Drawn0.refl _ | apply Drawn0.step)⟩

/-! ### spec_l07Tree: function 127 -/
mutual
def spec_l07Tree.j0 : Nat → List (S73) → Int → Int → Bool → Option (Int)
 | 0, _, _, _, _ => none
 | k + 1, x0, x1, x3, x36 => if x36 = true then (some (-1)) else (if 0 ≤ x1 then (if x1 < (x0.length : Int) then (spec_l07Tree.l0 k x0 (wrap64 (x1 + 1)) x3 0 ((rd_T73 x0 x1).f0) ((rd_T73 x0 x1).f1) ((rd_T73 x0 x1).f2) ((rd_T73 x0 x1).f3) ((rd_T73 x0 x1).f4)) else (none)) else (none))
def spec_l07Tree.l0 : Nat → List (S73) → Int → Int → Int → Int → ByteArray → ByteArray → Int → Int → Option (Int)
 | 0, _, _, _, _, _, _, _, _, _ => none
 | k + 1, x0, x1, x3, x10, x212000, x212001, x212002, x212003, x212004 => if x10 < x212004 then (spec_l07Tree.j2 k x0 x1 x3 x10 (decide (x1 ≥ 0)) x212000 x212001 x212002 x212003 x212004) else (spec_l07Tree.j2 k x0 x1 x3 x10 false x212000 x212001 x212002 x212003 x212004)
def spec_l07Tree.j2 : Nat → List (S73) → Int → Int → Int → Bool → Int → ByteArray → ByteArray → Int → Int → Option (Int)
 | 0, _, _, _, _, _, _, _, _, _, _ => none
 | k + 1, x0, x1, x3, x10, x50, x212000, x212001, x212002, x212003, x212004 => if x50 = true then ((spec_l07Sort.f x212000 x10).bind fun t212 => ((spec_l07Tree.f k x0 x1 t212 (wrap64 (x3 + 1))).bind fun t213 => (spec_l07Tree.l0 k x0 t213 x3 (wrap64 (x10 + 1)) x212000 x212001 x212002 x212003 x212004))) else (some x1)
def spec_l07Tree.f : Nat → List (S73) → Int → Int → Int → Option (Int)
 | 0, _, _, _, _ => none
 | k + 1, l0, a1, a2, a3 => if a1 ≥ (l0.length : Int) then (spec_l07Tree.j0 k l0 a1 a3 true) else (if a3 > 20 then (spec_l07Tree.j0 k l0 a1 a3 true) else (if 0 ≤ a1 then (if a1 < (l0.length : Int) then ((spec_l07Shape.f k ((rd_T73 l0 a1).f0) ((rd_T73 l0 a1).f1) ((rd_T73 l0 a1).f2) ((rd_T73 l0 a1).f3) ((rd_T73 l0 a1).f4)).bind fun t207 => (if t207 = true then ((spec_l07Is.f ((rd_T73 l0 a1).f0) a2).bind fun t209 => (spec_l07Tree.j0 k l0 a1 a3 (!t209))) else (spec_l07Tree.j0 k l0 a1 a3 true))) else (none)) else (none)))
end
theorem spec_l07Tree.mono_l : ∀ k, (∀ y0 y1 y2 y3, LeO (spec_l07Tree.f k y0 y1 y2 y3) (spec_l07Tree.f (k + 1) y0 y1 y2 y3)) ∧ (∀ y0 y1 y2 y3, LeO (spec_l07Tree.j0 k y0 y1 y2 y3) (spec_l07Tree.j0 (k + 1) y0 y1 y2 y3)) ∧ (∀ y0 y1 y2 y3 y4 y5 y6 y7 y8, LeO (spec_l07Tree.l0 k y0 y1 y2 y3 y4 y5 y6 y7 y8) (spec_l07Tree.l0 (k + 1) y0 y1 y2 y3 y4 y5 y6 y7 y8)) ∧ (∀ y0 y1 y2 y3 y4 y5 y6 y7 y8 y9, LeO (spec_l07Tree.j2 k y0 y1 y2 y3 y4 y5 y6 y7 y8 y9) (spec_l07Tree.j2 (k + 1) y0 y1 y2 y3 y4 y5 y6 y7 y8 y9))
 | 0 => ⟨fun _ _ _ _ r h => by simp [spec_l07Tree.f] at h, fun _ _ _ _ r h => by simp [spec_l07Tree.j0] at h, fun _ _ _ _ _ _ _ _ _ r h => by simp [spec_l07Tree.l0] at h, fun _ _ _ _ _ _ _ _ _ _ r h => by simp [spec_l07Tree.j2] at h⟩
 | k + 1 => by
  obtain ⟨ih0, ih1, ih2, ih3⟩ := spec_l07Tree.mono_l k
  refine ⟨?_, ?_, ?_, ?_⟩
  ·intro y0 y1 y2 y3
   unfold spec_l07Tree.f
   repeat' (with_reducible first | exact ih0 .. | exact ih1 .. | exact ih2 .. | exact ih3 .. | exact spec_l07Shape.mono .. | exact LeO.refl _ | exact LeO.none _ | refine LeO.ite ?_ ?_ | refine LeO.bind ?_ (fun _ => ?_))
  ·intro y0 y1 y2 y3
   unfold spec_l07Tree.j0
   repeat' (with_reducible first | exact ih0 .. | exact ih1 .. | exact ih2 .. | exact ih3 .. | exact spec_l07Shape.mono .. | exact LeO.refl _ | exact LeO.none _ | refine LeO.ite ?_ ?_ | refine LeO.bind ?_ (fun _ => ?_))
  ·intro y0 y1 y2 y3 y4 y5 y6 y7 y8
   unfold spec_l07Tree.l0
   repeat' (with_reducible first | exact ih0 .. | exact ih1 .. | exact ih2 .. | exact ih3 .. | exact spec_l07Shape.mono .. | exact LeO.refl _ | exact LeO.none _ | refine LeO.ite ?_ ?_ | refine LeO.bind ?_ (fun _ => ?_))
  intro y0 y1 y2 y3 y4 y5 y6 y7 y8 y9
  unfold spec_l07Tree.j2
  repeat' (with_reducible first | exact ih0 .. | exact ih1 .. | exact ih2 .. | exact ih3 .. | exact spec_l07Shape.mono .. | exact LeO.refl _ | exact LeO.none _ | refine LeO.ite ?_ ?_ | refine LeO.bind ?_ (fun _ => ?_))
theorem spec_l07Tree.mono : ∀ a0 a1 a2 a3 k, LeO (spec_l07Tree.f k a0 a1 a2 a3) (spec_l07Tree.f (k + 1) a0 a1 a2 a3) := by
 intro a0 a1 a2 a3 k
 obtain ⟨ih0, ih1, ih2, ih3⟩ := spec_l07Tree.mono_l k
 exact ih0 a0 a1 a2 a3
theorem spec_l07Tree.calls (k : Nat) : ∀ (A0 : Option Addr) (c0 : Nat) (l0 : List (S73)) (a1 : Int) (a2 : Int) (a3 : Int) (r : Int) (w : World) (hr0 : Kd.C k73 w A0 l0.length l0) (hc0 : l0.length ≤ c0) (h : spec_l07Tree.f k l0 a1 a2 a3 = some r),
  Calls Tryz.prog 127 #[.slice A0 l0.length c0, .int .i64 a1, .int .i64 a2, .int .i64 a3] w fun e w' => e = .returned (.int .i64 r) ∧ Below w.heap.size w w' := by
 induction k using Nat.strongRecOn with
 | _ k ih =>
 intro A0 c0 l0 a1 a2 a3 r w hr0 hc0 h
 cases k with
 | zero => exact absurd h (by simp [spec_l07Tree.f])
 | succ k =>
 simp only [spec_l07Tree.f] at h
 have hu73 := Tryz.underlying73
 have HR0 := am hr0
 have HC0 := am hc0
 clear hr0 hc0
 have HB := am (Below.refl w.heap.size w)
 have H := h
 clear h
 have HC5 := am H; clear H
 go_enter Tryz.func127, Tryz.ntmps127
 go_upto_region 1 with (fail)
 go_cut [36] (fun v36 wc => ∃ (kq : Nat) (x36_4 : Bool), v36 = .bool x36_4 ∧ Aside0 (spec_l07Tree.j0 kq l0 a1 a3 x36_4 = some r) ∧ Aside0 (kq ≤ k) ∧ Aside0 (Below w.heap.size w wc))
 case first =>
  have H := HC5.out
  clear HC5
  revert H; refine iDb (fun c6b0 H => ?_) fun c6b0 H => ?_
  ·(first | rw [c6b0] | (simp only [i64_w, i32_w]; rw [c6b0]) | skip)
   have H' := am H; clear H
   go_wp2
   go_meet
   case rel => exact ⟨_, (true), rs, H', ⟨by first | omega | exact Nat.le_refl _⟩, ⟨bl⟩⟩
  (first | rw [c6b0] | (simp only [i64_w, i32_w]; rw [c6b0]) | skip)
  revert H; refine iDb (fun c7b0 H => ?_) fun c7b0 H => ?_
  ·have H' := am H; clear H
   go_wp2
   go_meet
   case rel => exact ⟨_, (true), rs, H', ⟨by first | omega | exact Nat.le_refl _⟩, ⟨bl⟩⟩
  revert H; refine i1 fun c8b0 H => ?_
  revert H; refine i1 fun c9b0 H => ?_
  revert H; refine bj fun t207 A10 H => ?_
  replace H := iT H; rcases H with ⟨rfl, H⟩ | ⟨rfl, H⟩
  ·revert H; refine bj fun t209 A12 H => ?_
   have H' := am H; clear H
   have p206 : 0 ≤ (a1 : Int) := ode
   have q206 : a1 < (l0.length : Int) := ode
   obtain ⟨ad206, e206, hx206_0, hx206_1, hx206_2, hx206_3, hx206_4⟩ := at_T73 HR0.out a1 p206 q206
   cases e206
   obtain ⟨hx206_0, hx206_1, hx206_2, hx206_3, hx206_4⟩ := hb5 HB.out hx206_0 hx206_1 hx206_2 hx206_3 hx206_4
   replace p206 := eq_true p206
   replace q206 := eq_true q206
   go_wp2_with (first | (go_at_call 179; (with_reducible refine (spec_l07Shape.calls _ _ _ _ _ _ _ _ A10.out).mono ?_); rintro e w13 ⟨rfl, hb⟩; replace HB := am (below_step bl hb); clear hb; have p208 : 0 ≤ (a1 : Int) := ode; have q208 : a1 < (l0.length : Int) := ode; obtain ⟨ad208, e208, hx208_0, hx208_1, hx208_2, hx208_3, hx208_4⟩ := at_T73 HR0.out a1 p208 q208; obtain rfl : ad206 = ad208 := (by injection e208); replace hx208_0 := hbc HB.out hx208_0; replace hx208_1 := hbc HB.out hx208_1; replace hx208_2 := hbc HB.out hx208_2; replace hx208_3 := hbc HB.out hx208_3; replace hx208_4 := hbc HB.out hx208_4; replace p208 := eq_true p208; replace q208 := eq_true q208) | (go_at_call 180; (with_reducible refine (spec_l07Is.calls _ _ _ _ A12.out).mono ?_); rintro e w' ⟨rfl, ⟨nd, rfl⟩⟩))
   go_meet
   case rel => exact ⟨_, (!t209), rs, H', ⟨by first | omega | exact Nat.le_refl _⟩, ⟨bl⟩⟩
  have H' := am H; clear H
  have p206 : 0 ≤ (a1 : Int) := ode
  have q206 : a1 < (l0.length : Int) := ode
  obtain ⟨ad206, e206, hx206_0, hx206_1, hx206_2, hx206_3, hx206_4⟩ := at_T73 HR0.out a1 p206 q206
  cases e206
  obtain ⟨hx206_0, hx206_1, hx206_2, hx206_3, hx206_4⟩ := hb5 HB.out hx206_0 hx206_1 hx206_2 hx206_3 hx206_4
  replace p206 := eq_true p206
  replace q206 := eq_true q206
  go_wp2_with (first | (go_at_call 179; (with_reducible refine (spec_l07Shape.calls _ _ _ _ _ _ _ _ A10.out).mono ?_); rintro e w14 ⟨rfl, hb⟩; replace HB := am (below_step bl hb); clear hb))
  go_meet
  case rel => exact ⟨_, (true), rs, H', ⟨by first | omega | exact Nat.le_refl _⟩, ⟨bl⟩⟩
 case rest =>
  clear HC5
  obtain ⟨kq, x36_4, rfl, HA, HJ4, HB⟩ := hcut
  cases kq with
  | zero => exact absurd HA.out (by simp [spec_l07Tree.j0])
  | succ kj4 =>
   have H := HA.out
   clear HA
   simp only [spec_l07Tree.j0] at H
   replace H := iT H; rcases H with ⟨rfl, H⟩ | ⟨rfl, H⟩
   ·obtain rfl := Option.some.inj H
    go_wp2
    go_ret
    exact ⟨er, bl⟩
   revert H; refine i1 fun c16b0 H => ?_
   revert H; refine i1 fun c17b0 H => ?_
   have H' := am H; clear H
   have p210 : 0 ≤ (a1 : Int) := ode
   have q210 : a1 < (l0.length : Int) := ode
   obtain ⟨ad210, e210, hx210_0, hx210_1, hx210_2, hx210_3, hx210_4⟩ := at_T73 HR0.out a1 p210 q210
   cases e210
   obtain ⟨hx210_0, hx210_1, hx210_2, hx210_3, hx210_4⟩ := hb5 HB.out hx210_0 hx210_1 hx210_2 hx210_3 hx210_4
   replace p210 := eq_true p210
   replace q210 := eq_true q210
   go_wp2_with (first | (refine bx 9 #[.int .i64 0, .string (⟨#[]⟩ : ByteArray), .string (⟨#[]⟩ : ByteArray), .int .i64 0, .int .i64 0] 73 ?_; intro gb211 hg w18 hbox hb; have BK211 := am (hbox); have GW211 := am (bsz hg : w.heap.size ≤ gb211); have GE211 := GW211; replace HB := am (below_step bl hb); clear hb hbox hg; obtain ⟨z19_0, z19_1, z19_2, z19_3, z19_4, y19_0, y19_1, y19_2, y19_3, y19_4⟩ := blk5 BK211.out))
   go_loopg [1, 10] kj4 (fun kq v1 v10 w' => ∃ (x1_2 : Int) (x10_2 : Int), v1 = .int .i64 x1_2 ∧ v10 = .int .i64 x10_2 ∧ Aside0 (spec_l07Tree.l0 kq l0 x1_2 a3 x10_2 ((rd_T73 l0 a1).f0) ((rd_T73 l0 a1).f1) ((rd_T73 l0 a1).f2) ((rd_T73 l0 a1).f3) ((rd_T73 l0 a1).f4) = some r) ∧ Aside0 (kq ≤ kj4) ∧ Aside0 (w'.heap[gb211]? = some (.cells #[.int .i64 ((rd_T73 l0 a1).f0), .string ((rd_T73 l0 a1).f1), .string ((rd_T73 l0 a1).f2), .int .i64 ((rd_T73 l0 a1).f3), .int .i64 ((rd_T73 l0 a1).f4)] 73 (0, 0))) ∧ Aside0 (Below w.heap.size w w'))
   case atStart => exact ⟨(wrap64 (a1 + 1)), (0), rs, rs, H', ⟨Nat.le_refl _⟩, ⟨bp BK211.out⟩, ⟨bl⟩⟩
   case round =>
    clear H'
    try clear c16b0; try clear c17b0; try clear z19_0 z19_1 z19_2 z19_3 z19_4; try clear y19_0 y19_1 y19_2 y19_3 y19_4; try clear hx210_0; try clear hx210_1; try clear hx210_2; try clear hx210_3; try clear hx210_4; try clear p210; try clear q210
    obtain ⟨x1_2, x10_2, rfl, rfl, HA, HK2, BK211, HB⟩ := hrel
    cases gk with
    | zero => exact absurd HA.out (by simp [spec_l07Tree.l0])
    | succ k2 =>
     have H := HA.out
     clear HA
     simp only [spec_l07Tree.l0] at H
     have HC20 := am H; clear H
     go_upto_region 6 with (fail)
     go_cut [50] (fun v50 wc => ∃ (kq : Nat) (x50_19 : Bool), v50 = .bool x50_19 ∧ Aside0 (spec_l07Tree.j2 kq l0 x1_2 a3 x10_2 x50_19 ((rd_T73 l0 a1).f0) ((rd_T73 l0 a1).f1) ((rd_T73 l0 a1).f2) ((rd_T73 l0 a1).f3) ((rd_T73 l0 a1).f4) = some r) ∧ Aside0 (kq ≤ k2) ∧ Aside0 (wc.heap[gb211]? = some (.cells #[.int .i64 ((rd_T73 l0 a1).f0), .string ((rd_T73 l0 a1).f1), .string ((rd_T73 l0 a1).f2), .int .i64 ((rd_T73 l0 a1).f3), .int .i64 ((rd_T73 l0 a1).f4)] 73 (0, 0))) ∧ Aside0 (Below w.heap.size w wc))
     case first =>
      have H := HC20.out
      clear HC20
      revert H; refine iDb (fun c21b0 H => ?_) fun c21b0 H => ?_
      ·(first | rw [c21b0] | (simp only [i64_w, i32_w]; rw [c21b0]) | skip)
       have H' := am H; clear H
       obtain ⟨z22_0, z22_1, z22_2, z22_3, z22_4, y22_0, y22_1, y22_2, y22_3, y22_4⟩ := blk5 BK211.out
       go_wp2
       go_meet
       case rel => exact ⟨_, (decide (x1_2 ≥ 0)), rs, H', ⟨by have := HJ4.out; have := HK2.out; first | omega | exact Nat.le_refl _⟩, ⟨bk BK211.out⟩, ⟨bl⟩⟩
      (first | rw [c21b0] | (simp only [i64_w, i32_w]; rw [c21b0]) | skip)
      have H' := am H; clear H
      obtain ⟨z23_0, z23_1, z23_2, z23_3, z23_4, y23_0, y23_1, y23_2, y23_3, y23_4⟩ := blk5 BK211.out
      go_wp2
      go_meet
      case rel => exact ⟨_, (false), rs, H', ⟨by have := HJ4.out; have := HK2.out; first | omega | exact Nat.le_refl _⟩, ⟨bk BK211.out⟩, ⟨bl⟩⟩
     case rest =>
      clear HC20
      try clear c16b0; try clear c17b0; try clear z19_0 z19_1 z19_2 z19_3 z19_4; try clear y19_0 y19_1 y19_2 y19_3 y19_4; try clear hx210_0; try clear hx210_1; try clear hx210_2; try clear hx210_3; try clear hx210_4; try clear p210; try clear q210
      obtain ⟨kq, x50_19, rfl, HA, HJ19, BK211, HB⟩ := hcut
      cases kq with
      | zero => exact absurd HA.out (by simp [spec_l07Tree.j2])
      | succ kj19 =>
       have H := HA.out
       clear HA
       simp only [spec_l07Tree.j2] at H
       replace H := iT H; rcases H with ⟨rfl, H⟩ | ⟨rfl, H⟩
       ·revert H; refine bj fun t212 A25 H => ?_
        revert H; refine bj fun t213 A26 H => ?_
        have H' := am H; clear H
        obtain ⟨z27_0, z27_1, z27_2, z27_3, z27_4, y27_0, y27_1, y27_2, y27_3, y27_4⟩ := blk5 BK211.out
        go_wp2_with (first | (refine gc 181 (some 58) Tryz.func181 (spec_l07Sort.calls _ _ _ _ A25.out) ?_; rintro e w' ⟨rfl, ⟨nd, rfl⟩⟩; refine ⟨_, rfl, ?_⟩) | (refine gc 127 (some 61) Tryz.func127 (ih kj19 (by have := HJ4.out; have := HK2.out; have := HJ19.out; omega) _ _ l0 x1_2 t212 (wrap64 (a3 + 1)) t213 _ ?side1 ?side2 A26.out) ?_; (case side1 => exact Kd.C_below HR0.out bl); (case side2 => exact HC0.out); rintro e w28 ⟨rfl, hb⟩; refine ⟨_, rfl, ?_⟩; replace BK211 := am (bkb BK211.out hb); replace HB := am (below_step bl hb); clear hb))
        go_roundg kj19
        case measure => have := HJ4.out; have := HK2.out; have := HJ19.out; omega
        case rel => exact ⟨(t213), (wrap64 (x10_2 + 1)), rs, rs, H', ⟨by have := HJ4.out; have := HK2.out; have := HJ19.out; omega⟩, ⟨bk BK211.out⟩, ⟨bl⟩⟩
       obtain rfl := Option.some.inj H
       go_wp2
       go_ret
       exact ⟨er, bl⟩

/-! ### spec_NodesRight: function 60 -/
def spec_NodesRight.f (k : Nat) (l0 : List (S73)) : Option (Bool) := if (l0.length : Int) ≤ 150 then ((spec_l07Tree.f k l0 0 3 1).bind fun t214 => (some (t214 == (l0.length : Int)))) else (some false)
theorem spec_NodesRight.mono : ∀ a0 k, LeO (spec_NodesRight.f k a0) (spec_NodesRight.f (k + 1) a0) := by
 intro a0 k
 unfold spec_NodesRight.f
 repeat' (with_reducible first | exact spec_l07Tree.mono .. | exact LeO.refl _ | exact LeO.none _ | refine LeO.ite ?_ ?_ | refine LeO.bind ?_ (fun _ => ?_))
theorem spec_NodesRight.calls (k : Nat) (A0 : Option Addr) (c0 : Nat) (l0 : List (S73)) (r : Bool) (w : World) (hr0 : Kd.C k73 w A0 l0.length l0) (hc0 : l0.length ≤ c0) (h : spec_NodesRight.f k l0 = some r) :
  Calls Tryz.prog 60 #[.slice A0 l0.length c0] w fun e w' => e = .returned (.bool r) ∧ Below w.heap.size w w' := by
 have HR0 := am hr0
 have HC0 := am hc0
 clear hr0 hc0
 have HB := am (Below.refl w.heap.size w)
 have H := h
 clear h
 unfold spec_NodesRight.f at H
 revert H; refine iDn (fun c2 c2b0 H => ?_) fun c2 c2b0 H => ?_
 ·have c2b1 : decide (l0.length ≤ 150) = true := decide_eq_true (by omega)
  clear c2
  revert H; refine bj fun t214 A3 H => ?_
  obtain rfl := Option.some.inj H
  go_enter Tryz.func60, Tryz.ntmps60
  go_wp2_with (first | (go_at_call 127; (with_reducible refine (spec_l07Tree.calls _ _ _ _ _ _ _ _ _ ?side1 ?side2 A3.out).mono ?_); (case side1 => repeat (first | exact HR0.out | (with_reducible refine Kd.C_alloc ?_ _) | (with_reducible refine Kd.C_drewN ?_ _) | (with_reducible refine Kd.C_drew ?_))); (case side2 => exact HC0.out); rintro e w4 ⟨rfl, hb⟩; replace HB := am (below_step bl hb); clear hb))
  go_ret
  exact ⟨er, bl⟩
 have c2b1 : decide (l0.length ≤ 150) = false := decide_eq_false (by omega)
 clear c2
 obtain rfl := Option.some.inj H
 go_enter Tryz.func60, Tryz.ntmps60
 go_wp2
 go_ret
 exact ⟨er, bl⟩

end Go.Proofs.YtodokfmmnihecaaGreatDoor.PFnExactEnvRight
