-- laid by seedprint.py, a program of this session, over contracts that it gives by hand; Lean checks it
-- dented
import Derived.Test.YtodokfmmnihecaaGreatDoorQMin
import Derived.Test.YtodokfmmnihecaaGreatDoorQAut
import Derived.Test.YtodokfmmnihecaaGreatDoorQBlk
import Derived.Test.YtodokfmmnihecaaGreatDoorPFnExactEnvRightx0
import Derived.Test.YtodokfmmnihecaaGreatDoorPFnExactEnvRightx4
import Derived.Test.YtodokfmmnihecaaGreatDoorPFnExactEnvRightx5
namespace Go.Proofs.YtodokfmmnihecaaGreatDoor.PFnExactEnvRight
open Go.RowKit Go.Proofs.YtodokfmmnihecaaGreatDoorW.PrintWords Go.Proofs.YtodokfmmnihecaaGreatDoorW.PrintLast Go.Proofs.YtodokfmmnihecaaGreatDoorW.PrintMore
attribute [local go_sem] max2_int min2_int max_two min_two max_three min_three max_four min_four   -- for this text's walks alone
set_option linter.unusedVariables false
set_option linter.unusedSimpArgs false

/-! ### spec_l07Shape: function 179 -/
mutual
def spec_l07Shape.j0 : Nat → ByteArray → Int → Int → Bool → Int → ByteArray → ByteArray → Int → Int → Option (Bool)
 | 0, _, _, _, _, _, _, _, _, _ => none
 | k + 1, x3, x4, x5, x19, x199000, x199001, x199002, x199003, x199004 => if x19 = true then (some false) else (if x199000 = 1 then (spec_l07Shape.j1 k x3 x4 x5 x199000 (x199000 == 1) x199000 x199001 x199002 x199003 x199004) else (if x199000 = 2 then (spec_l07Shape.j1 k x3 x4 x5 x199000 (x199000 == 2) x199000 x199001 x199002 x199003 x199004) else (if x199000 = 3 then (spec_l07Shape.j1 k x3 x4 x5 x199000 (x199000 == 3) x199000 x199001 x199002 x199003 x199004) else (if x199000 = 4 then (spec_l07Shape.j1 k x3 x4 x5 x199000 (x199000 == 4) x199000 x199001 x199002 x199003 x199004) else (spec_l07Shape.j1 k x3 x4 x5 x199000 (x199000 == 5) x199000 x199001 x199002 x199003 x199004)))))
def spec_l07Shape.j1 : Nat → ByteArray → Int → Int → Int → Bool → Int → ByteArray → ByteArray → Int → Int → Option (Bool)
 | 0, _, _, _, _, _, _, _, _, _, _ => none
 | k + 1, x3, x4, x5, x21, x22, x199000, x199001, x199002, x199003, x199004 => if x22 = true then (if x3.toList = ([] : List UInt8) then (if x5 = 0 then ((spec_l07Bound.f k x199000 x4).bind fun t199 => (some t199)) else (some false)) else (some false)) else (if x21 = 6 then (spec_l07Shape.j2 k x3 x4 x5 x21 (x21 == 6) x199000 x199001 x199002 x199003 x199004) else (spec_l07Shape.j2 k x3 x4 x5 x21 (x21 == 7) x199000 x199001 x199002 x199003 x199004))
def spec_l07Shape.j2 : Nat → ByteArray → Int → Int → Int → Bool → Int → ByteArray → ByteArray → Int → Int → Option (Bool)
 | 0, _, _, _, _, _, _, _, _, _, _ => none
 | k + 1, x3, x4, x5, x21, x40, x199000, x199001, x199002, x199003, x199004 => if x40 = true then ((spec_l07Name.f k x3).bind fun t200 => (if t200 = true then (if x4 = 0 then (some (x5 == 0)) else (some false)) else (some false))) else (if x21 = 8 then (spec_l07Shape.j3 k x3 x4 x5 x21 (x21 == 8) x199000 x199001 x199002 x199003 x199004) else (if x21 = 9 then (spec_l07Shape.j3 k x3 x4 x5 x21 (x21 == 9) x199000 x199001 x199002 x199003 x199004) else (if x21 = 10 then (spec_l07Shape.j3 k x3 x4 x5 x21 (x21 == 10) x199000 x199001 x199002 x199003 x199004) else (spec_l07Shape.j3 k x3 x4 x5 x21 (x21 == 11) x199000 x199001 x199002 x199003 x199004))))
def spec_l07Shape.j3 : Nat → ByteArray → Int → Int → Int → Bool → Int → ByteArray → ByteArray → Int → Int → Option (Bool)
 | 0, _, _, _, _, _, _, _, _, _, _ => none
 | k + 1, x3, x4, x5, x21, x53, x199000, x199001, x199002, x199003, x199004 => if x53 = true then (if x3.toList = ([] : List UInt8) then (if x4 = 0 then (some (x5 == 0)) else (some false)) else (some false)) else (if x21 = 12 then ((spec_l07Op.f k x3).bind fun t201 => (if t201 = true then (if x4 = 0 then (some (x5 == 2)) else (some false)) else (some false))) else (if x21 = 13 then (spec_l07Shape.j4 k x3 x4 x5 x21 (x21 == 13) x199000 x199001 x199002 x199003 x199004) else (spec_l07Shape.j4 k x3 x4 x5 x21 (x21 == 25) x199000 x199001 x199002 x199003 x199004)))
def spec_l07Shape.j4 : Nat → ByteArray → Int → Int → Int → Bool → Int → ByteArray → ByteArray → Int → Int → Option (Bool)
 | 0, _, _, _, _, _, _, _, _, _, _ => none
 | k + 1, x3, x4, x5, x21, x80, x199000, x199001, x199002, x199003, x199004 => if x80 = true then (if x3.toList = ([] : List UInt8) then (if x4 = 0 then (some (x5 == 1)) else (some false)) else (some false)) else (if x21 = 14 then ((spec_l07Call.f k x3).bind fun t202 => (if t202 = true then (if x4 = 0 then (if x5 ≥ 1 then (some (decide (x5 ≤ 4))) else (some false)) else (some false)) else (some false))) else (if x21 = 20 then (spec_l07Shape.j5 k x3 x4 x5 x21 (x21 == 20) x199000 x199001 x199002 x199003 x199004) else (spec_l07Shape.j5 k x3 x4 x5 x21 (x21 == 21) x199000 x199001 x199002 x199003 x199004)))
def spec_l07Shape.j5 : Nat → ByteArray → Int → Int → Int → Bool → Int → ByteArray → ByteArray → Int → Int → Option (Bool)
 | 0, _, _, _, _, _, _, _, _, _, _ => none
 | k + 1, x3, x4, x5, x21, x109, x199000, x199001, x199002, x199003, x199004 => if x109 = true then ((spec_l07Name.f k x3).bind fun t203 => (if t203 = true then (if x4 = 0 then (some (x5 == 1)) else (some false)) else (some false))) else (if x21 = 22 then (if x3.toList = ([] : List UInt8) then (if x4 = 0 then (some (x5 == 3)) else (some false)) else (some false)) else (if x21 = 23 then ((spec_l07Name.f k x3).bind fun t204 => (if t204 = true then ((spec_l07Name.f k x199002).bind fun t205 => (if t205 = true then (if x4 = 0 then (some (x5 == 1)) else (some false)) else (some false))) else (some false))) else (if x21 = 24 then (if x3.toList = ([] : List UInt8) then (if x4 ≥ 1 then (if x4 ≤ 99 then (some (x5 == 0)) else (some false)) else (some false)) else (some false)) else (if x21 = 26 then (if x3.toList = ([] : List UInt8) then (if x4 = 0 then (some (x5 == 2)) else (some false)) else (some false)) else (if x199000 = 27 then (if x3.toList = ([] : List UInt8) then (if x4 = 0 then (if x5 ≥ 0 then (some (decide (x5 ≤ 40))) else (some false)) else (some false)) else (some false)) else (some false))))))
end
def spec_l07Shape.f (k : Nat) (a0_0 : Int) (a0_1 : ByteArray) (a0_2 : ByteArray) (a0_3 : Int) (a0_4 : Int) : Option (Bool) := if a0_0 = 23 then (spec_l07Shape.j0 k a0_1 a0_3 a0_4 false a0_0 a0_1 a0_2 a0_3 a0_4) else (spec_l07Shape.j0 k a0_1 a0_3 a0_4 (a0_2.toList != ([] : List UInt8)) a0_0 a0_1 a0_2 a0_3 a0_4)
theorem spec_l07Shape.mono_l : ∀ k, (∀ y0 y1 y2 y3 y4 y5 y6 y7 y8, LeO (spec_l07Shape.j0 k y0 y1 y2 y3 y4 y5 y6 y7 y8) (spec_l07Shape.j0 (k + 1) y0 y1 y2 y3 y4 y5 y6 y7 y8)) ∧ (∀ y0 y1 y2 y3 y4 y5 y6 y7 y8 y9, LeO (spec_l07Shape.j1 k y0 y1 y2 y3 y4 y5 y6 y7 y8 y9) (spec_l07Shape.j1 (k + 1) y0 y1 y2 y3 y4 y5 y6 y7 y8 y9)) ∧ (∀ y0 y1 y2 y3 y4 y5 y6 y7 y8 y9, LeO (spec_l07Shape.j2 k y0 y1 y2 y3 y4 y5 y6 y7 y8 y9) (spec_l07Shape.j2 (k + 1) y0 y1 y2 y3 y4 y5 y6 y7 y8 y9)) ∧ (∀ y0 y1 y2 y3 y4 y5 y6 y7 y8 y9, LeO (spec_l07Shape.j3 k y0 y1 y2 y3 y4 y5 y6 y7 y8 y9) (spec_l07Shape.j3 (k + 1) y0 y1 y2 y3 y4 y5 y6 y7 y8 y9)) ∧ (∀ y0 y1 y2 y3 y4 y5 y6 y7 y8 y9, LeO (spec_l07Shape.j4 k y0 y1 y2 y3 y4 y5 y6 y7 y8 y9) (spec_l07Shape.j4 (k + 1) y0 y1 y2 y3 y4 y5 y6 y7 y8 y9)) ∧ (∀ y0 y1 y2 y3 y4 y5 y6 y7 y8 y9, LeO (spec_l07Shape.j5 k y0 y1 y2 y3 y4 y5 y6 y7 y8 y9) (spec_l07Shape.j5 (k + 1) y0 y1 y2 y3 y4 y5 y6 y7 y8 y9))
 | 0 => ⟨fun _ _ _ _ _ _ _ _ _ r h => by simp [spec_l07Shape.j0] at h, fun _ _ _ _ _ _ _ _ _ _ r h => by simp [spec_l07Shape.j1] at h, fun _ _ _ _ _ _ _ _ _ _ r h => by simp [spec_l07Shape.j2] at h, fun _ _ _ _ _ _ _ _ _ _ r h => by simp [spec_l07Shape.j3] at h, fun _ _ _ _ _ _ _ _ _ _ r h => by simp [spec_l07Shape.j4] at h, fun _ _ _ _ _ _ _ _ _ _ r h => by simp [spec_l07Shape.j5] at h⟩
 | k + 1 => by
  obtain ⟨ih0, ih1, ih2, ih3, ih4, ih5⟩ := spec_l07Shape.mono_l k
  refine ⟨?_, ?_, ?_, ?_, ?_, ?_⟩
  ·intro y0 y1 y2 y3 y4 y5 y6 y7 y8
   unfold spec_l07Shape.j0
   repeat' (with_reducible first | exact ih0 .. | exact ih1 .. | exact ih2 .. | exact ih3 .. | exact ih4 .. | exact ih5 .. | exact spec_l07Bound.mono .. | exact spec_l07Call.mono .. | exact spec_l07Name.mono .. | exact spec_l07Op.mono .. | exact LeO.refl _ | exact LeO.none _ | refine LeO.ite ?_ ?_ | refine LeO.bind ?_ (fun _ => ?_))
  ·intro y0 y1 y2 y3 y4 y5 y6 y7 y8 y9
   unfold spec_l07Shape.j1
   repeat' (with_reducible first | exact ih0 .. | exact ih1 .. | exact ih2 .. | exact ih3 .. | exact ih4 .. | exact ih5 .. | exact spec_l07Bound.mono .. | exact spec_l07Call.mono .. | exact spec_l07Name.mono .. | exact spec_l07Op.mono .. | exact LeO.refl _ | exact LeO.none _ | refine LeO.ite ?_ ?_ | refine LeO.bind ?_ (fun _ => ?_))
  ·intro y0 y1 y2 y3 y4 y5 y6 y7 y8 y9
   unfold spec_l07Shape.j2
   repeat' (with_reducible first | exact ih0 .. | exact ih1 .. | exact ih2 .. | exact ih3 .. | exact ih4 .. | exact ih5 .. | exact spec_l07Bound.mono .. | exact spec_l07Call.mono .. | exact spec_l07Name.mono .. | exact spec_l07Op.mono .. | exact LeO.refl _ | exact LeO.none _ | refine LeO.ite ?_ ?_ | refine LeO.bind ?_ (fun _ => ?_))
  ·intro y0 y1 y2 y3 y4 y5 y6 y7 y8 y9
   unfold spec_l07Shape.j3
   repeat' (with_reducible first | exact ih0 .. | exact ih1 .. | exact ih2 .. | exact ih3 .. | exact ih4 .. | exact ih5 .. | exact spec_l07Bound.mono .. | exact spec_l07Call.mono .. | exact spec_l07Name.mono .. | exact spec_l07Op.mono .. | exact LeO.refl _ | exact LeO.none _ | refine LeO.ite ?_ ?_ | refine LeO.bind ?_ (fun _ => ?_))
  ·intro y0 y1 y2 y3 y4 y5 y6 y7 y8 y9
   unfold spec_l07Shape.j4
   repeat' (with_reducible first | exact ih0 .. | exact ih1 .. | exact ih2 .. | exact ih3 .. | exact ih4 .. | exact ih5 .. | exact spec_l07Bound.mono .. | exact spec_l07Call.mono .. | exact spec_l07Name.mono .. | exact spec_l07Op.mono .. | exact LeO.refl _ | exact LeO.none _ | refine LeO.ite ?_ ?_ | refine LeO.bind ?_ (fun _ => ?_))
  intro y0 y1 y2 y3 y4 y5 y6 y7 y8 y9
  unfold spec_l07Shape.j5
  repeat' (with_reducible first | exact ih0 .. | exact ih1 .. | exact ih2 .. | exact ih3 .. | exact ih4 .. | exact ih5 .. | exact spec_l07Bound.mono .. | exact spec_l07Call.mono .. | exact spec_l07Name.mono .. | exact spec_l07Op.mono .. | exact LeO.refl _ | exact LeO.none _ | refine LeO.ite ?_ ?_ | refine LeO.bind ?_ (fun _ => ?_))
theorem spec_l07Shape.mono : ∀ a0 a1 a2 a3 a4 k, LeO (spec_l07Shape.f k a0 a1 a2 a3 a4) (spec_l07Shape.f (k + 1) a0 a1 a2 a3 a4) := by
 intro a0 a1 a2 a3 a4 k
 obtain ⟨ih0, ih1, ih2, ih3, ih4, ih5⟩ := spec_l07Shape.mono_l k
 unfold spec_l07Shape.f
 repeat' (with_reducible first | exact ih0 .. | exact ih1 .. | exact ih2 .. | exact ih3 .. | exact ih4 .. | exact ih5 .. | exact spec_l07Bound.mono .. | exact spec_l07Call.mono .. | exact spec_l07Name.mono .. | exact spec_l07Op.mono .. | exact LeO.refl _ | exact LeO.none _ | refine LeO.ite ?_ ?_ | refine LeO.bind ?_ (fun _ => ?_))
set_option maxHeartbeats 8000000 in
set_option maxRecDepth 100000 in
theorem spec_l07Shape.calls (k : Nat) (a0_0 : Int) (a0_1 : ByteArray) (a0_2 : ByteArray) (a0_3 : Int) (a0_4 : Int) (r : Bool) (w : World) (h : spec_l07Shape.f k a0_0 a0_1 a0_2 a0_3 a0_4 = some r) :
  Calls Tryz.prog 179 #[.agg #[.int .i64 a0_0, .string a0_1, .string a0_2, .int .i64 a0_3, .int .i64 a0_4]] w fun e w' => e = .returned (.bool r) ∧ Below w.heap.size w w' := by
 have hu73 := Tryz.underlying73
 have HB := am (Below.refl w.heap.size w)
 have H := h
 clear h
 unfold spec_l07Shape.f at H
 have HC2 := am H; clear H
 go_enter Tryz.func179, Tryz.ntmps179
 go_upto_region 4 with (first | (refine bx 1 #[.int .i64 a0_0, .string a0_1, .string a0_2, .int .i64 a0_3, .int .i64 a0_4] 73 ?_; intro gb198 hg w3 hbox hb; have BK198 := am (hbox); have GW198 := am (bsz hg : w.heap.size ≤ gb198); have GE198 := GW198; replace HB := am (below_step bl hb); clear hb hbox hg; obtain ⟨z4_0, z4_1, z4_2, z4_3, z4_4, y4_0, y4_1, y4_2, y4_3, y4_4⟩ := blk5 BK198.out))
 (try simp only [Act.put, z1, z2, z3])
 go_cut [19] (fun v19 wc => ∃ (kq : Nat) (x19_1 : Bool), v19 = .bool x19_1 ∧ Aside0 (spec_l07Shape.j0 kq a0_1 a0_3 a0_4 x19_1 a0_0 a0_1 a0_2 a0_3 a0_4 = some r) ∧ Aside0 (kq ≤ k) ∧ Aside0 (wc.heap[gb198]? = some (.cells #[.int .i64 a0_0, .string a0_1, .string a0_2, .int .i64 a0_3, .int .i64 a0_4] 73 (0, 0))) ∧ Aside0 (Below w.heap.size w wc))
 case first =>
  have H := HC2.out
  clear HC2
  revert H; refine iQ (fun c5b0 c5b1 H => ?_) fun c5 c5b0 c5b1 H => ?_
  ·(first | rw [c5b0] | (simp only [i64_w, i32_w]; rw [c5b0]) | skip)
   have H' := am H; clear H
   obtain ⟨z6_0, z6_1, z6_2, z6_3, z6_4, y6_0, y6_1, y6_2, y6_3, y6_4⟩ := blk5 BK198.out
   go_wp2
   go_meet
   case rel => exact ⟨_, (false), rs, H', ⟨by first | omega | exact Nat.le_refl _⟩, ⟨bk BK198.out⟩, ⟨bl⟩⟩
  (first | rw [c5b0] | (simp only [i64_w, i32_w]; rw [c5b0]) | skip)
  have H' := am H; clear H
  obtain ⟨z7_0, z7_1, z7_2, z7_3, z7_4, y7_0, y7_1, y7_2, y7_3, y7_4⟩ := blk5 BK198.out
  go_wp2
  go_meet
  case rel => exact ⟨_, ((a0_2.toList != ([] : List UInt8))), rs, H', ⟨by first | omega | exact Nat.le_refl _⟩, ⟨bk BK198.out⟩, ⟨bl⟩⟩
 case rest => as_aux_lemma =>
  clear HC2
  try clear z4_0 z4_1 z4_2 z4_3 z4_4; try clear y4_0 y4_1 y4_2 y4_3 y4_4
  obtain ⟨kq, x19_1, rfl, HA, HJ1, BK198, HB⟩ := hcut
  cases kq with
  | zero => exact absurd HA.out (by simp [spec_l07Shape.j0])
  | succ kj1 =>
   have H := HA.out
   clear HA
   simp only [spec_l07Shape.j0] at H
   replace H := iT H; rcases H with ⟨rfl, H⟩ | ⟨rfl, H⟩
   ·obtain rfl := Option.some.inj H
    go_wp2
    go_ret
    exact ⟨er, bl⟩
   have HC9 := am H; clear H
   obtain ⟨z10_0, z10_1, z10_2, z10_3, z10_4, y10_0, y10_1, y10_2, y10_3, y10_4⟩ := blk5 BK198.out
   go_upto_if 22 with (fail)
   go_cut [22] (fun v22 wc => ∃ (kq : Nat) (x22_8 : Bool), v22 = .bool x22_8 ∧ Aside0 (spec_l07Shape.j1 kq a0_1 a0_3 a0_4 a0_0 x22_8 a0_0 a0_1 a0_2 a0_3 a0_4 = some r) ∧ Aside0 (kq ≤ kj1) ∧ Aside0 (wc.heap[gb198]? = some (.cells #[.int .i64 a0_0, .string a0_1, .string a0_2, .int .i64 a0_3, .int .i64 a0_4] 73 (0, 0))) ∧ Aside0 (Below w.heap.size w wc))
   case first =>
    have H := HC9.out
    clear HC9
    revert H; refine iQ (fun c11b0 c11b1 H => ?_) fun c11 c11b0 c11b1 H => ?_
    ·(first | rw [c11b0] | (simp only [i64_w, i32_w]; rw [c11b0]) | skip)
     have H' := am H; clear H
     go_wp2
     go_meet
     case rel => exact ⟨_, ((a0_0 == 1)), rs, H', ⟨by have := HJ1.out; first | omega | exact Nat.le_refl _⟩, ⟨bk BK198.out⟩, ⟨bl⟩⟩
    (first | rw [c11b0] | (simp only [i64_w, i32_w]; rw [c11b0]) | skip)
    revert H; refine iQ (fun c12b0 c12b1 H => ?_) fun c12 c12b0 c12b1 H => ?_
    ·have H' := am H; clear H
     go_wp2
     go_meet
     case rel => exact ⟨_, ((a0_0 == 2)), rs, H', ⟨by have := HJ1.out; first | omega | exact Nat.le_refl _⟩, ⟨bk BK198.out⟩, ⟨bl⟩⟩
    revert H; refine iQ (fun c13b0 c13b1 H => ?_) fun c13 c13b0 c13b1 H => ?_
    ·have H' := am H; clear H
     go_wp2
     go_meet
     case rel => exact ⟨_, ((a0_0 == 3)), rs, H', ⟨by have := HJ1.out; first | omega | exact Nat.le_refl _⟩, ⟨bk BK198.out⟩, ⟨bl⟩⟩
    revert H; refine iQ (fun c14b0 c14b1 H => ?_) fun c14 c14b0 c14b1 H => ?_
    ·have H' := am H; clear H
     go_wp2
     go_meet
     case rel => exact ⟨_, ((a0_0 == 4)), rs, H', ⟨by have := HJ1.out; first | omega | exact Nat.le_refl _⟩, ⟨bk BK198.out⟩, ⟨bl⟩⟩
    have H' := am H; clear H
    go_wp2
    go_meet
    case rel => exact ⟨_, ((a0_0 == 5)), rs, H', ⟨by have := HJ1.out; first | omega | exact Nat.le_refl _⟩, ⟨bk BK198.out⟩, ⟨bl⟩⟩
   case rest => as_aux_lemma =>
    clear HC9
    try clear z10_0 z10_1 z10_2 z10_3 z10_4; try clear z4_0 z4_1 z4_2 z4_3 z4_4; try clear y10_0 y10_1 y10_2 y10_3 y10_4; try clear y4_0 y4_1 y4_2 y4_3 y4_4
    obtain ⟨kq, x22_8, rfl, HA, HJ8, BK198, HB⟩ := hcut
    cases kq with
    | zero => exact absurd HA.out (by simp [spec_l07Shape.j1])
    | succ kj8 =>
     have H := HA.out
     clear HA
     simp only [spec_l07Shape.j1] at H
     replace H := iT H; rcases H with ⟨rfl, H⟩ | ⟨rfl, H⟩
     ·revert H; refine iL (fun c16b0 c16b3 c16b1 H => ?_) fun c16 c16b0 c16b3 c16b1 H => ?_
      ·revert H; refine iQ (fun c17b0 c17b1 H => ?_) fun c17 c17b0 c17b1 H => ?_
       ·revert H; refine bj fun t199 A18 H => ?_
        obtain rfl := Option.some.inj H
        obtain ⟨z19_0, z19_1, z19_2, z19_3, z19_4, y19_0, y19_1, y19_2, y19_3, y19_4⟩ := blk5 BK198.out
        go_wp2_with (first | (go_at_call 126; (with_reducible refine (spec_l07Bound.calls _ _ _ _ _ A18.out).mono ?_); rintro e w' ⟨rfl, ⟨nd, rfl⟩⟩))
        go_ret
        exact ⟨er, bl⟩
       obtain rfl := Option.some.inj H
       go_wp2
       go_ret
       exact ⟨er, bl⟩
      obtain rfl := Option.some.inj H
      go_wp2
      go_ret
      exact ⟨er, bl⟩
     have HC20 := am H; clear H
     go_upto_if 40 with (fail)
     go_cut [40] (fun v40 wc => ∃ (kq : Nat) (x40_19 : Bool), v40 = .bool x40_19 ∧ Aside0 (spec_l07Shape.j2 kq a0_1 a0_3 a0_4 a0_0 x40_19 a0_0 a0_1 a0_2 a0_3 a0_4 = some r) ∧ Aside0 (kq ≤ kj8) ∧ Aside0 (wc.heap[gb198]? = some (.cells #[.int .i64 a0_0, .string a0_1, .string a0_2, .int .i64 a0_3, .int .i64 a0_4] 73 (0, 0))) ∧ Aside0 (Below w.heap.size w wc))
     case first =>
      have H := HC20.out
      clear HC20
      revert H; refine iQ (fun c21b0 c21b1 H => ?_) fun c21 c21b0 c21b1 H => ?_
      ·(first | rw [c21b0] | (simp only [i64_w, i32_w]; rw [c21b0]) | skip)
       have H' := am H; clear H
       go_wp2
       go_meet
       case rel => exact ⟨_, ((a0_0 == 6)), rs, H', ⟨by have := HJ1.out; have := HJ8.out; first | omega | exact Nat.le_refl _⟩, ⟨bk BK198.out⟩, ⟨bl⟩⟩
      (first | rw [c21b0] | (simp only [i64_w, i32_w]; rw [c21b0]) | skip)
      have H' := am H; clear H
      go_wp2
      go_meet
      case rel => exact ⟨_, ((a0_0 == 7)), rs, H', ⟨by have := HJ1.out; have := HJ8.out; first | omega | exact Nat.le_refl _⟩, ⟨bk BK198.out⟩, ⟨bl⟩⟩
     case rest => as_aux_lemma =>
      clear HC20
      try clear z10_0 z10_1 z10_2 z10_3 z10_4; try clear z4_0 z4_1 z4_2 z4_3 z4_4; try clear y10_0 y10_1 y10_2 y10_3 y10_4; try clear y4_0 y4_1 y4_2 y4_3 y4_4
      obtain ⟨kq, x40_19, rfl, HA, HJ19, BK198, HB⟩ := hcut
      cases kq with
      | zero => exact absurd HA.out (by simp [spec_l07Shape.j2])
      | succ kj19 =>
       have H := HA.out
       clear HA
       simp only [spec_l07Shape.j2] at H
       replace H := iT H; rcases H with ⟨rfl, H⟩ | ⟨rfl, H⟩
       ·revert H; refine bj fun t200 A23 H => ?_
        replace H := iT H; rcases H with ⟨rfl, H⟩ | ⟨rfl, H⟩
        ·revert H; refine iQ (fun c25b0 c25b1 H => ?_) fun c25 c25b0 c25b1 H => ?_
         ·obtain rfl := Option.some.inj H
          go_wp2_with (first | (refine gc 57 (some 44) Tryz.func57 (spec_l07Name.calls _ _ _ _ A23.out) ?_; rintro e w26 ⟨rfl, hb⟩; refine ⟨_, rfl, ?_⟩; replace BK198 := am (bkb BK198.out hb); replace HB := am (below_step bl hb); clear hb))
          go_ret
          exact ⟨er, bl⟩
         obtain rfl := Option.some.inj H
         go_wp2_with (first | (refine gc 57 (some 44) Tryz.func57 (spec_l07Name.calls _ _ _ _ A23.out) ?_; rintro e w27 ⟨rfl, hb⟩; refine ⟨_, rfl, ?_⟩; replace BK198 := am (bkb BK198.out hb); replace HB := am (below_step bl hb); clear hb))
         go_ret
         exact ⟨er, bl⟩
        obtain rfl := Option.some.inj H
        go_wp2_with (first | (refine gc 57 (some 44) Tryz.func57 (spec_l07Name.calls _ _ _ _ A23.out) ?_; rintro e w28 ⟨rfl, hb⟩; refine ⟨_, rfl, ?_⟩; replace BK198 := am (bkb BK198.out hb); replace HB := am (below_step bl hb); clear hb))
        go_ret
        exact ⟨er, bl⟩
       have HC29 := am H; clear H
       go_upto_if 53 with (fail)
       go_cut [53] (fun v53 wc => ∃ (kq : Nat) (x53_28 : Bool), v53 = .bool x53_28 ∧ Aside0 (spec_l07Shape.j3 kq a0_1 a0_3 a0_4 a0_0 x53_28 a0_0 a0_1 a0_2 a0_3 a0_4 = some r) ∧ Aside0 (kq ≤ kj19) ∧ Aside0 (wc.heap[gb198]? = some (.cells #[.int .i64 a0_0, .string a0_1, .string a0_2, .int .i64 a0_3, .int .i64 a0_4] 73 (0, 0))) ∧ Aside0 (Below w.heap.size w wc))
       case first =>
        have H := HC29.out
        clear HC29
        revert H; refine iQ (fun c30b0 c30b1 H => ?_) fun c30 c30b0 c30b1 H => ?_
        ·(first | rw [c30b0] | (simp only [i64_w, i32_w]; rw [c30b0]) | skip)
         have H' := am H; clear H
         go_wp2
         go_meet
         case rel => exact ⟨_, ((a0_0 == 8)), rs, H', ⟨by have := HJ1.out; have := HJ8.out; have := HJ19.out; first | omega | exact Nat.le_refl _⟩, ⟨bk BK198.out⟩, ⟨bl⟩⟩
        (first | rw [c30b0] | (simp only [i64_w, i32_w]; rw [c30b0]) | skip)
        revert H; refine iQ (fun c31b0 c31b1 H => ?_) fun c31 c31b0 c31b1 H => ?_
        ·have H' := am H; clear H
         go_wp2
         go_meet
         case rel => exact ⟨_, ((a0_0 == 9)), rs, H', ⟨by have := HJ1.out; have := HJ8.out; have := HJ19.out; first | omega | exact Nat.le_refl _⟩, ⟨bk BK198.out⟩, ⟨bl⟩⟩
        revert H; refine iQ (fun c32b0 c32b1 H => ?_) fun c32 c32b0 c32b1 H => ?_
        ·have H' := am H; clear H
         go_wp2
         go_meet
         case rel => exact ⟨_, ((a0_0 == 10)), rs, H', ⟨by have := HJ1.out; have := HJ8.out; have := HJ19.out; first | omega | exact Nat.le_refl _⟩, ⟨bk BK198.out⟩, ⟨bl⟩⟩
        have H' := am H; clear H
        go_wp2
        go_meet
        case rel => exact ⟨_, ((a0_0 == 11)), rs, H', ⟨by have := HJ1.out; have := HJ8.out; have := HJ19.out; first | omega | exact Nat.le_refl _⟩, ⟨bk BK198.out⟩, ⟨bl⟩⟩
       case rest => as_aux_lemma =>
        clear HC29
        try clear z10_0 z10_1 z10_2 z10_3 z10_4; try clear z4_0 z4_1 z4_2 z4_3 z4_4; try clear y10_0 y10_1 y10_2 y10_3 y10_4; try clear y4_0 y4_1 y4_2 y4_3 y4_4
        obtain ⟨kq, x53_28, rfl, HA, HJ28, BK198, HB⟩ := hcut
        cases kq with
        | zero => exact absurd HA.out (by simp [spec_l07Shape.j3])
        | succ kj28 =>
         have H := HA.out
         clear HA
         simp only [spec_l07Shape.j3] at H
         replace H := iT H; rcases H with ⟨rfl, H⟩ | ⟨rfl, H⟩
         ·revert H; refine iL (fun c34b0 c34b3 c34b1 H => ?_) fun c34 c34b0 c34b3 c34b1 H => ?_
          ·revert H; refine iQ (fun c35b0 c35b1 H => ?_) fun c35 c35b0 c35b1 H => ?_
           ·obtain rfl := Option.some.inj H
            go_wp2
            go_ret
            exact ⟨er, bl⟩
           obtain rfl := Option.some.inj H
           go_wp2
           go_ret
           exact ⟨er, bl⟩
          obtain rfl := Option.some.inj H
          go_wp2
          go_ret
          exact ⟨er, bl⟩
         revert H; refine iQ (fun c36b0 c36b1 H => ?_) fun c36 c36b0 c36b1 H => ?_
         ·revert H; refine bj fun t201 A37 H => ?_
          replace H := iT H; rcases H with ⟨rfl, H⟩ | ⟨rfl, H⟩
          ·revert H; refine iQ (fun c39b0 c39b1 H => ?_) fun c39 c39b0 c39b1 H => ?_
           ·obtain rfl := Option.some.inj H
            go_wp2_with (first | (refine gc 214 (some 71) Tryz.func214 (spec_l07Op.calls _ _ _ _ A37.out) ?_; rintro e w40 ⟨rfl, hb⟩; refine ⟨_, rfl, ?_⟩; replace BK198 := am (bkb BK198.out hb); replace HB := am (below_step bl hb); clear hb))
            go_ret
            exact ⟨er, bl⟩
           obtain rfl := Option.some.inj H
           go_wp2_with (first | (refine gc 214 (some 71) Tryz.func214 (spec_l07Op.calls _ _ _ _ A37.out) ?_; rintro e w41 ⟨rfl, hb⟩; refine ⟨_, rfl, ?_⟩; replace BK198 := am (bkb BK198.out hb); replace HB := am (below_step bl hb); clear hb))
           go_ret
           exact ⟨er, bl⟩
          obtain rfl := Option.some.inj H
          go_wp2_with (first | (refine gc 214 (some 71) Tryz.func214 (spec_l07Op.calls _ _ _ _ A37.out) ?_; rintro e w42 ⟨rfl, hb⟩; refine ⟨_, rfl, ?_⟩; replace BK198 := am (bkb BK198.out hb); replace HB := am (below_step bl hb); clear hb))
          go_ret
          exact ⟨er, bl⟩
         have HC43 := am H; clear H
         go_upto_if 80 with (fail)
         go_cut [80] (fun v80 wc => ∃ (kq : Nat) (x80_42 : Bool), v80 = .bool x80_42 ∧ Aside0 (spec_l07Shape.j4 kq a0_1 a0_3 a0_4 a0_0 x80_42 a0_0 a0_1 a0_2 a0_3 a0_4 = some r) ∧ Aside0 (kq ≤ kj28) ∧ Aside0 (wc.heap[gb198]? = some (.cells #[.int .i64 a0_0, .string a0_1, .string a0_2, .int .i64 a0_3, .int .i64 a0_4] 73 (0, 0))) ∧ Aside0 (Below w.heap.size w wc))
         case first =>
          have H := HC43.out
          clear HC43
          revert H; refine iQ (fun c44b0 c44b1 H => ?_) fun c44 c44b0 c44b1 H => ?_
          ·(first | rw [c44b0] | (simp only [i64_w, i32_w]; rw [c44b0]) | skip)
           have H' := am H; clear H
           go_wp2
           go_meet
           case rel => exact ⟨_, ((a0_0 == 13)), rs, H', ⟨by have := HJ1.out; have := HJ8.out; have := HJ19.out; have := HJ28.out; first | omega | exact Nat.le_refl _⟩, ⟨bk BK198.out⟩, ⟨bl⟩⟩
          (first | rw [c44b0] | (simp only [i64_w, i32_w]; rw [c44b0]) | skip)
          have H' := am H; clear H
          go_wp2
          go_meet
          case rel => exact ⟨_, ((a0_0 == 25)), rs, H', ⟨by have := HJ1.out; have := HJ8.out; have := HJ19.out; have := HJ28.out; first | omega | exact Nat.le_refl _⟩, ⟨bk BK198.out⟩, ⟨bl⟩⟩
         case rest => as_aux_lemma =>
          clear HC43
          try clear c36; try clear c36b0; try clear c36b1; try clear z10_0 z10_1 z10_2 z10_3 z10_4; try clear z4_0 z4_1 z4_2 z4_3 z4_4; try clear y10_0 y10_1 y10_2 y10_3 y10_4; try clear y4_0 y4_1 y4_2 y4_3 y4_4
          obtain ⟨kq, x80_42, rfl, HA, HJ42, BK198, HB⟩ := hcut
          cases kq with
          | zero => exact absurd HA.out (by simp [spec_l07Shape.j4])
          | succ kj42 =>
           have H := HA.out
           clear HA
           simp only [spec_l07Shape.j4] at H
           replace H := iT H; rcases H with ⟨rfl, H⟩ | ⟨rfl, H⟩
           ·revert H; refine iL (fun c46b0 c46b3 c46b1 H => ?_) fun c46 c46b0 c46b3 c46b1 H => ?_
            ·revert H; refine iQ (fun c47b0 c47b1 H => ?_) fun c47 c47b0 c47b1 H => ?_
             ·obtain rfl := Option.some.inj H
              go_wp2
              go_ret
              exact ⟨er, bl⟩
             obtain rfl := Option.some.inj H
             go_wp2
             go_ret
             exact ⟨er, bl⟩
            obtain rfl := Option.some.inj H
            go_wp2
            go_ret
            exact ⟨er, bl⟩
           revert H; refine iQ (fun c48b0 c48b1 H => ?_) fun c48 c48b0 c48b1 H => ?_
           ·revert H; refine bj fun t202 A49 H => ?_
            replace H := iT H; rcases H with ⟨rfl, H⟩ | ⟨rfl, H⟩
            ·revert H; refine iQ (fun c51b0 c51b1 H => ?_) fun c51 c51b0 c51b1 H => ?_
             ·revert H; refine iDb (fun c52b0 H => ?_) fun c52b0 H => ?_
              ·obtain rfl := Option.some.inj H
               go_wp2_with (first | (refine gc 215 (some 96) Tryz.func215 (spec_l07Call.calls _ _ _ _ A49.out) ?_; rintro e w53 ⟨rfl, hb⟩; refine ⟨_, rfl, ?_⟩; replace BK198 := am (bkb BK198.out hb); replace HB := am (below_step bl hb); clear hb))
               go_ret
               exact ⟨er, bl⟩
              obtain rfl := Option.some.inj H
              go_wp2_with (first | (refine gc 215 (some 96) Tryz.func215 (spec_l07Call.calls _ _ _ _ A49.out) ?_; rintro e w54 ⟨rfl, hb⟩; refine ⟨_, rfl, ?_⟩; replace BK198 := am (bkb BK198.out hb); replace HB := am (below_step bl hb); clear hb))
              go_ret
              exact ⟨er, bl⟩
             obtain rfl := Option.some.inj H
             go_wp2_with (first | (refine gc 215 (some 96) Tryz.func215 (spec_l07Call.calls _ _ _ _ A49.out) ?_; rintro e w55 ⟨rfl, hb⟩; refine ⟨_, rfl, ?_⟩; replace BK198 := am (bkb BK198.out hb); replace HB := am (below_step bl hb); clear hb))
             go_ret
             exact ⟨er, bl⟩
            obtain rfl := Option.some.inj H
            go_wp2_with (first | (refine gc 215 (some 96) Tryz.func215 (spec_l07Call.calls _ _ _ _ A49.out) ?_; rintro e w56 ⟨rfl, hb⟩; refine ⟨_, rfl, ?_⟩; replace BK198 := am (bkb BK198.out hb); replace HB := am (below_step bl hb); clear hb))
            go_ret
            exact ⟨er, bl⟩
           have HC57 := am H; clear H
           go_upto_if 109 with (fail)
           go_cut [109] (fun v109 wc => ∃ (kq : Nat) (x109_56 : Bool), v109 = .bool x109_56 ∧ Aside0 (spec_l07Shape.j5 kq a0_1 a0_3 a0_4 a0_0 x109_56 a0_0 a0_1 a0_2 a0_3 a0_4 = some r) ∧ Aside0 (kq ≤ kj42) ∧ Aside0 (wc.heap[gb198]? = some (.cells #[.int .i64 a0_0, .string a0_1, .string a0_2, .int .i64 a0_3, .int .i64 a0_4] 73 (0, 0))) ∧ Aside0 (Below w.heap.size w wc))
           case first =>
            have H := HC57.out
            clear HC57
            revert H; refine iQ (fun c58b0 c58b1 H => ?_) fun c58 c58b0 c58b1 H => ?_
            ·(first | rw [c58b0] | (simp only [i64_w, i32_w]; rw [c58b0]) | skip)
             have H' := am H; clear H
             go_wp2
             go_meet
             case rel => exact ⟨_, ((a0_0 == 20)), rs, H', ⟨by have := HJ1.out; have := HJ8.out; have := HJ19.out; have := HJ28.out; have := HJ42.out; first | omega | exact Nat.le_refl _⟩, ⟨bk BK198.out⟩, ⟨bl⟩⟩
            (first | rw [c58b0] | (simp only [i64_w, i32_w]; rw [c58b0]) | skip)
            have H' := am H; clear H
            go_wp2
            go_meet
            case rel => exact ⟨_, ((a0_0 == 21)), rs, H', ⟨by have := HJ1.out; have := HJ8.out; have := HJ19.out; have := HJ28.out; have := HJ42.out; first | omega | exact Nat.le_refl _⟩, ⟨bk BK198.out⟩, ⟨bl⟩⟩
           case rest => as_aux_lemma =>
            clear HC57
            try clear c36; try clear c36b0; try clear c36b1; try clear c48; try clear c48b0; try clear c48b1; try clear z10_0 z10_1 z10_2 z10_3 z10_4; try clear z4_0 z4_1 z4_2 z4_3 z4_4; try clear y10_0 y10_1 y10_2 y10_3 y10_4; try clear y4_0 y4_1 y4_2 y4_3 y4_4
            obtain ⟨kq, x109_56, rfl, HA, HJ56, BK198, HB⟩ := hcut
            cases kq with
            | zero => exact absurd HA.out (by simp [spec_l07Shape.j5])
            | succ kj56 =>
             have H := HA.out
             clear HA
             simp only [spec_l07Shape.j5] at H
             replace H := iT H; rcases H with ⟨rfl, H⟩ | ⟨rfl, H⟩
             ·revert H; refine bj fun t203 A60 H => ?_
              replace H := iT H; rcases H with ⟨rfl, H⟩ | ⟨rfl, H⟩
              ·revert H; refine iQ (fun c62b0 c62b1 H => ?_) fun c62 c62b0 c62b1 H => ?_
               ·obtain rfl := Option.some.inj H
                go_wp2_with (first | (refine gc 57 (some 113) Tryz.func57 (spec_l07Name.calls _ _ _ _ A60.out) ?_; rintro e w63 ⟨rfl, hb⟩; refine ⟨_, rfl, ?_⟩; replace BK198 := am (bkb BK198.out hb); replace HB := am (below_step bl hb); clear hb))
                go_ret
                exact ⟨er, bl⟩
               obtain rfl := Option.some.inj H
               go_wp2_with (first | (refine gc 57 (some 113) Tryz.func57 (spec_l07Name.calls _ _ _ _ A60.out) ?_; rintro e w64 ⟨rfl, hb⟩; refine ⟨_, rfl, ?_⟩; replace BK198 := am (bkb BK198.out hb); replace HB := am (below_step bl hb); clear hb))
               go_ret
               exact ⟨er, bl⟩
              obtain rfl := Option.some.inj H
              go_wp2_with (first | (refine gc 57 (some 113) Tryz.func57 (spec_l07Name.calls _ _ _ _ A60.out) ?_; rintro e w65 ⟨rfl, hb⟩; refine ⟨_, rfl, ?_⟩; replace BK198 := am (bkb BK198.out hb); replace HB := am (below_step bl hb); clear hb))
              go_ret
              exact ⟨er, bl⟩
             revert H; refine iQ (fun c66b0 c66b1 H => ?_) fun c66 c66b0 c66b1 H => ?_
             ·revert H; refine iL (fun c67b0 c67b3 c67b1 H => ?_) fun c67 c67b0 c67b3 c67b1 H => ?_
              ·revert H; refine iQ (fun c68b0 c68b1 H => ?_) fun c68 c68b0 c68b1 H => ?_
               ·obtain rfl := Option.some.inj H
                go_wp2
                go_ret
                exact ⟨er, bl⟩
               obtain rfl := Option.some.inj H
               go_wp2
               go_ret
               exact ⟨er, bl⟩
              obtain rfl := Option.some.inj H
              go_wp2
              go_ret
              exact ⟨er, bl⟩
             revert H; refine iQ (fun c69b0 c69b1 H => ?_) fun c69 c69b0 c69b1 H => ?_
             ·revert H; refine bj fun t204 A70 H => ?_
              replace H := iT H; rcases H with ⟨rfl, H⟩ | ⟨rfl, H⟩
              ·revert H; refine bj fun t205 A72 H => ?_
               replace H := iT H; rcases H with ⟨rfl, H⟩ | ⟨rfl, H⟩
               ·revert H; refine iQ (fun c74b0 c74b1 H => ?_) fun c74 c74b0 c74b1 H => ?_
                ·obtain rfl := Option.some.inj H
                 go_wp2_with (first | (refine gc 57 (some 137) Tryz.func57 (spec_l07Name.calls _ _ _ _ A70.out) ?_; rintro e w75 ⟨rfl, hb⟩; refine ⟨_, rfl, ?_⟩; replace BK198 := am (bkb BK198.out hb); replace HB := am (below_step bl hb); clear hb; obtain ⟨z76_0, z76_1, z76_2, z76_3, z76_4, y76_0, y76_1, y76_2, y76_3, y76_4⟩ := blk5 BK198.out) | (go_at_call 57; (with_reducible refine (spec_l07Name.calls _ _ _ _ A72.out).mono ?_); rintro e w77 ⟨rfl, hb⟩; replace BK198 := am (bkb BK198.out hb); replace HB := am (below_step bl hb); clear hb))
                 go_ret
                 exact ⟨er, bl⟩
                obtain rfl := Option.some.inj H
                go_wp2_with (first | (refine gc 57 (some 137) Tryz.func57 (spec_l07Name.calls _ _ _ _ A70.out) ?_; rintro e w78 ⟨rfl, hb⟩; refine ⟨_, rfl, ?_⟩; replace BK198 := am (bkb BK198.out hb); replace HB := am (below_step bl hb); clear hb; obtain ⟨z79_0, z79_1, z79_2, z79_3, z79_4, y79_0, y79_1, y79_2, y79_3, y79_4⟩ := blk5 BK198.out) | (go_at_call 57; (with_reducible refine (spec_l07Name.calls _ _ _ _ A72.out).mono ?_); rintro e w80 ⟨rfl, hb⟩; replace BK198 := am (bkb BK198.out hb); replace HB := am (below_step bl hb); clear hb))
                go_ret
                exact ⟨er, bl⟩
               obtain rfl := Option.some.inj H
               go_wp2_with (first | (refine gc 57 (some 137) Tryz.func57 (spec_l07Name.calls _ _ _ _ A70.out) ?_; rintro e w81 ⟨rfl, hb⟩; refine ⟨_, rfl, ?_⟩; replace BK198 := am (bkb BK198.out hb); replace HB := am (below_step bl hb); clear hb; obtain ⟨z82_0, z82_1, z82_2, z82_3, z82_4, y82_0, y82_1, y82_2, y82_3, y82_4⟩ := blk5 BK198.out) | (go_at_call 57; (with_reducible refine (spec_l07Name.calls _ _ _ _ A72.out).mono ?_); rintro e w83 ⟨rfl, hb⟩; replace BK198 := am (bkb BK198.out hb); replace HB := am (below_step bl hb); clear hb))
               go_ret
               exact ⟨er, bl⟩
              obtain rfl := Option.some.inj H
              go_wp2_with (first | (refine gc 57 (some 137) Tryz.func57 (spec_l07Name.calls _ _ _ _ A70.out) ?_; rintro e w84 ⟨rfl, hb⟩; refine ⟨_, rfl, ?_⟩; replace BK198 := am (bkb BK198.out hb); replace HB := am (below_step bl hb); clear hb))
              go_ret
              exact ⟨er, bl⟩
             revert H; refine iQ (fun c85b0 c85b1 H => ?_) fun c85 c85b0 c85b1 H => ?_
             ·revert H; refine iL (fun c86b0 c86b3 c86b1 H => ?_) fun c86 c86b0 c86b3 c86b1 H => ?_
              ·revert H; refine iDb (fun c87b0 H => ?_) fun c87b0 H => ?_
               ·revert H; refine iDb (fun c88b0 H => ?_) fun c88b0 H => ?_
                ·obtain rfl := Option.some.inj H
                 go_wp2
                 go_ret
                 exact ⟨er, bl⟩
                obtain rfl := Option.some.inj H
                go_wp2
                go_ret
                exact ⟨er, bl⟩
               obtain rfl := Option.some.inj H
               go_wp2
               go_ret
               exact ⟨er, bl⟩
              obtain rfl := Option.some.inj H
              go_wp2
              go_ret
              exact ⟨er, bl⟩
             revert H; refine iQ (fun c89b0 c89b1 H => ?_) fun c89 c89b0 c89b1 H => ?_
             ·revert H; refine iL (fun c90b0 c90b3 c90b1 H => ?_) fun c90 c90b0 c90b3 c90b1 H => ?_
              ·revert H; refine iQ (fun c91b0 c91b1 H => ?_) fun c91 c91b0 c91b1 H => ?_
               ·obtain rfl := Option.some.inj H
                go_wp2
                go_ret
                exact ⟨er, bl⟩
               obtain rfl := Option.some.inj H
               go_wp2
               go_ret
               exact ⟨er, bl⟩
              obtain rfl := Option.some.inj H
              go_wp2
              go_ret
              exact ⟨er, bl⟩
             revert H; refine iQ (fun c92b0 c92b1 H => ?_) fun c92 c92b0 c92b1 H => ?_
             ·revert H; refine iL (fun c93b0 c93b3 c93b1 H => ?_) fun c93 c93b0 c93b3 c93b1 H => ?_
              ·revert H; refine iQ (fun c94b0 c94b1 H => ?_) fun c94 c94b0 c94b1 H => ?_
               ·revert H; refine iDb (fun c95b0 H => ?_) fun c95b0 H => ?_
                ·obtain rfl := Option.some.inj H
                 obtain ⟨z96_0, z96_1, z96_2, z96_3, z96_4, y96_0, y96_1, y96_2, y96_3, y96_4⟩ := blk5 BK198.out
                 go_wp2
                 go_ret
                 exact ⟨er, bl⟩
                obtain rfl := Option.some.inj H
                obtain ⟨z97_0, z97_1, z97_2, z97_3, z97_4, y97_0, y97_1, y97_2, y97_3, y97_4⟩ := blk5 BK198.out
                go_wp2
                go_ret
                exact ⟨er, bl⟩
               obtain rfl := Option.some.inj H
               obtain ⟨z98_0, z98_1, z98_2, z98_3, z98_4, y98_0, y98_1, y98_2, y98_3, y98_4⟩ := blk5 BK198.out
               go_wp2
               go_ret
               exact ⟨er, bl⟩
              obtain rfl := Option.some.inj H
              obtain ⟨z99_0, z99_1, z99_2, z99_3, z99_4, y99_0, y99_1, y99_2, y99_3, y99_4⟩ := blk5 BK198.out
              go_wp2
              go_ret
              exact ⟨er, bl⟩
             obtain rfl := Option.some.inj H
             obtain ⟨z100_0, z100_1, z100_2, z100_3, z100_4, y100_0, y100_1, y100_2, y100_3, y100_4⟩ := blk5 BK198.out
             go_wp2
             go_ret
             exact ⟨er, bl⟩

end Go.Proofs.YtodokfmmnihecaaGreatDoor.PFnExactEnvRight
