-- laid by seedprint.py, a program of this session, over contracts that it gives by hand; Lean checks it
-- dented
import Derived.Test.YtopeaemfnlcecaaDoorQMin
import Derived.Test.YtopeaemfnlcecaaDoorQAut
import Derived.Test.YtopeaemfnlcecaaDoorQBlk
import Derived.Test.YtopeaemfnlcecaaDoorPFnExactLegsBackx0
namespace Go.Proofs.YtopeaemfnlcecaaDoor.PFnExactLegsBack
open Go.RowKit Go.Proofs.YtopeaemfnlcecaaDoorW.PrintWords Go.Proofs.YtopeaemfnlcecaaDoorW.PrintLast Go.Proofs.YtopeaemfnlcecaaDoorW.PrintMore
attribute [local go_sem] max2_int min2_int max_two min_two max_three min_three max_four min_four   -- for this text's walks alone
set_option maxHeartbeats 8000000
set_option maxRecDepth 100000
set_option linter.unusedVariables false
set_option linter.unusedSimpArgs false

/-! ### laws_szSpot: function 18 -/
def laws_szSpot.f (a0_0 : ByteArray) (a0_1 : ByteArray) (a1 : Int) : Option (Int) := if (wrap64 (a1 - (a0_0.size : Int))) < 0 then (some (-1)) else (if (wrap64 ((wrap64 (a1 - (a0_0.size : Int))) - (a0_1.size : Int))) < 0 then (some (-1)) else (some (wrap64 ((wrap64 (a1 - (a0_0.size : Int))) - (a0_1.size : Int)))))
theorem laws_szSpot.calls (a0_0 : ByteArray) (a0_1 : ByteArray) (a1 : Int) (r : Int) (w : World) (h : laws_szSpot.f a0_0 a0_1 a1 = some r) :
  Calls Tryd.prog 18 #[.agg #[.string a0_0, .string a0_1], .int .i64 a1] w fun e w' => e = .returned (.int .i64 r) ∧ Below w.heap.size w w' := by
 have hu32 := Tryd.underlying32
 have HB := am (Below.refl w.heap.size w)
 have H := h
 clear h
 unfold laws_szSpot.f at H
 revert H; refine iDb (fun c3b0 H => ?_) fun c3b0 H => ?_
 ·obtain rfl := Option.some.inj H
  go_enter Tryd.func18, Tryd.ntmps18
  go_wp2_with (first | ((with_reducible refine g_ 2 ?_); refine bx 2 #[.string a0_0, .string a0_1] 32 ?_; intro gb101 hg w4 hbox hb; have BK101 := am hbox; have GW101 := am (bsz hg : w.heap.size ≤ gb101); have GE101 := GW101; replace HB := ho hb; clear hb hbox hg; have Z5 := blk2 BK101.out))
  go_ret
  exact ⟨er, bl⟩
 revert H; refine iDb (fun c6b0 H => ?_) fun c6b0 H => ?_
 ·obtain rfl := Option.some.inj H
  go_enter Tryd.func18, Tryd.ntmps18
  go_wp2_with (first | ((with_reducible refine g_ 2 ?_); refine bx 2 #[.string a0_0, .string a0_1] 32 ?_; intro gb101 hg w7 hbox hb; have BK101 := am hbox; have GW101 := am (bsz hg : w.heap.size ≤ gb101); have GE101 := GW101; replace HB := ho hb; clear hb hbox hg; have Z8 := blk2 BK101.out))
  go_ret
  exact ⟨er, bl⟩
 obtain rfl := Option.some.inj H
 go_enter Tryd.func18, Tryd.ntmps18
 go_wp2_with (first | ((with_reducible refine g_ 2 ?_); refine bx 2 #[.string a0_0, .string a0_1] 32 ?_; intro gb101 hg w9 hbox hb; have BK101 := am hbox; have GW101 := am (bsz hg : w.heap.size ≤ gb101); have GE101 := GW101; replace HB := ho hb; clear hb hbox hg; have Z10 := blk2 BK101.out))
 go_ret
 exact ⟨er, bl⟩

/-! ### laws_szLeg: function 11 -/
def laws_szLeg.f (a0_0 : ByteArray) (a0_1 : ByteArray) (a0_2 : ByteArray) (a0_3 : ByteArray) (a0_4 : Int) (a1 : Int) : Option (Int) := (laws_szSpot.f a0_0 a0_1 a1).bind fun t103 => (if t103 < 0 then (some (-1)) else ((laws_szSpot.f a0_2 a0_3 t103).bind fun t104 => (if t104 < 0 then (some (-1)) else (some t104))))
theorem laws_szLeg.calls (a0_0 : ByteArray) (a0_1 : ByteArray) (a0_2 : ByteArray) (a0_3 : ByteArray) (a0_4 : Int) (a1 : Int) (r : Int) (w : World) (h : laws_szLeg.f a0_0 a0_1 a0_2 a0_3 a0_4 a1 = some r) :
  Calls Tryd.prog 11 #[.agg #[.string a0_0, .string a0_1, .string a0_2, .string a0_3, .int .i64 a0_4], .int .i64 a1] w fun e w' => e = .returned (.int .i64 r) ∧ Below w.heap.size w w' := by
 have hu34 := Tryd.underlying34
 have hu32 := Tryd.underlying32
 have HB := am (Below.refl w.heap.size w)
 have H := h
 clear h
 unfold laws_szLeg.f at H
 revert H; refine bj fun t103 A3 H => ?_
 revert H; refine iDb (fun c4b0 H => ?_) fun c4b0 H => ?_
 ·obtain rfl := Option.some.inj H
  go_enter Tryd.func11, Tryd.ntmps11
  go_wp2_with (first | ((with_reducible refine g_ 2 ?_); refine bx 2 #[.string a0_0, .string a0_1, .string a0_2, .string a0_3, .int .i64 a0_4] 34 ?_; intro gb102 hg w5 hbox hb; have BK102 := am hbox; have GW102 := am (bsz hg : w.heap.size ≤ gb102); have GE102 := GW102; replace HB := ho hb; clear hb hbox hg; have Z6 := blk5 BK102.out) | ((with_reducible refine c_ 18 ?_); refine gc 18 (some 8) Tryd.func18 (laws_szSpot.calls _ _ _ _ _ A3.out) ?_; rintro e w7 ⟨rfl, hb⟩; refine ⟨_, rfl, ?_⟩; replace BK102 := bo BK102 hb; replace HB := ho hb; clear hb))
  go_ret
  exact ⟨er, bl⟩
 revert H; refine bj fun t104 A8 H => ?_
 revert H; refine iDb (fun c9b0 H => ?_) fun c9b0 H => ?_
 ·obtain rfl := Option.some.inj H
  go_enter Tryd.func11, Tryd.ntmps11
  go_wp2_with (first | ((with_reducible refine g_ 2 ?_); refine bx 2 #[.string a0_0, .string a0_1, .string a0_2, .string a0_3, .int .i64 a0_4] 34 ?_; intro gb102 hg w10 hbox hb; have BK102 := am hbox; have GW102 := am (bsz hg : w.heap.size ≤ gb102); have GE102 := GW102; replace HB := ho hb; clear hb hbox hg; have Z11 := blk5 BK102.out) | ((with_reducible refine c_ 18 ?_); refine gc 18 (some 8) Tryd.func18 (laws_szSpot.calls _ _ _ _ _ A3.out) ?_; rintro e w12 ⟨rfl, hb⟩; refine ⟨_, rfl, ?_⟩; replace BK102 := bo BK102 hb; replace HB := ho hb; clear hb; have Z13 := blk5 BK102.out) | ((with_reducible refine c_ 18 ?_); refine gc 18 (some 14) Tryd.func18 (laws_szSpot.calls _ _ _ _ _ A8.out) ?_; rintro e w14 ⟨rfl, hb⟩; refine ⟨_, rfl, ?_⟩; replace BK102 := bo BK102 hb; replace HB := ho hb; clear hb))
  go_ret
  exact ⟨er, bl⟩
 obtain rfl := Option.some.inj H
 go_enter Tryd.func11, Tryd.ntmps11
 go_wp2_with (first | ((with_reducible refine g_ 2 ?_); refine bx 2 #[.string a0_0, .string a0_1, .string a0_2, .string a0_3, .int .i64 a0_4] 34 ?_; intro gb102 hg w15 hbox hb; have BK102 := am hbox; have GW102 := am (bsz hg : w.heap.size ≤ gb102); have GE102 := GW102; replace HB := ho hb; clear hb hbox hg; have Z16 := blk5 BK102.out) | ((with_reducible refine c_ 18 ?_); refine gc 18 (some 8) Tryd.func18 (laws_szSpot.calls _ _ _ _ _ A3.out) ?_; rintro e w17 ⟨rfl, hb⟩; refine ⟨_, rfl, ?_⟩; replace BK102 := bo BK102 hb; replace HB := ho hb; clear hb; have Z18 := blk5 BK102.out) | ((with_reducible refine c_ 18 ?_); refine gc 18 (some 14) Tryd.func18 (laws_szSpot.calls _ _ _ _ _ A8.out) ?_; rintro e w19 ⟨rfl, hb⟩; refine ⟨_, rfl, ?_⟩; replace BK102 := bo BK102 hb; replace HB := ho hb; clear hb))
 go_ret
 exact ⟨er, bl⟩

/-! ### laws_szLegS: function 4 -/
def laws_szLegS.l0 : Nat → List (S34) → Int → Int → Option (Int)
 | 0, _, _, _ => none
 | k + 1, x0, x1, x5 => if x5 < (x0.length : Int) then (if 0 ≤ x5 then ((laws_szLeg.f ((rd_T34 x0 x5).f0.f0) ((rd_T34 x0 x5).f0.f1) ((rd_T34 x0 x5).f1.f0) ((rd_T34 x0 x5).f1.f1) ((rd_T34 x0 x5).f2) x1).bind fun t106 => (if t106 < 0 then (some (-1)) else (laws_szLegS.l0 k x0 t106 (wrap64 (x5 + 1))))) else (none)) else (some x1)
def laws_szLegS.f (k : Nat) (l0 : List (S34)) (a1 : Int) : Option (Int) := if (wrap64 (a1 - (l0.length : Int))) < 0 then (some (-1)) else (laws_szLegS.l0 k l0 (wrap64 (a1 - (l0.length : Int))) 0)
theorem laws_szLegS.mono_l : ∀ k, (∀ y0 y1 y2, LeO (laws_szLegS.l0 k y0 y1 y2) (laws_szLegS.l0 (k + 1) y0 y1 y2))
 | 0 => fun _ _ _ r h => by simp [laws_szLegS.l0] at h
 | k + 1 => by
  have ih0 := laws_szLegS.mono_l k
  ·intro y0 y1 y2
   unfold laws_szLegS.l0
   exact mo
theorem laws_szLegS.mono : ∀ a0 a1 k, LeO (laws_szLegS.f k a0 a1) (laws_szLegS.f (k + 1) a0 a1) := by
 intro a0 a1 k
 have ih0 := laws_szLegS.mono_l k
 unfold laws_szLegS.f
 exact mo
theorem laws_szLegS.calls (k : Nat) (A0 : Option Addr) (c0 : Nat) (l0 : List (S34)) (a1 : Int) (r : Int) (w : World) (hr0 : Kd.C k34 w A0 l0.length l0) (hc0 : l0.length ≤ c0) (h : laws_szLegS.f k l0 a1 = some r) :
  Calls Tryd.prog 4 #[.slice A0 l0.length c0, .int .i64 a1] w fun e w' => e = .returned (.int .i64 r) ∧ Below w.heap.size w w' := by
 have hu34 := Tryd.underlying34
 have HR0 := am hr0
 have HC0 := am hc0
 clear hr0 hc0
 have HB := am (Below.refl w.heap.size w)
 have H := h
 clear h
 unfold laws_szLegS.f at H
 revert H; refine iDb (fun c3b0 H => ?_) fun c3b0 H => ?_
 ·obtain rfl := Option.some.inj H
  go_enter Tryd.func4, Tryd.ntmps4
  go_wp2
  go_ret
  exact ⟨er, bl⟩
 have H' := am H; clear H
 go_enter Tryd.func4, Tryd.ntmps4
 go_wp2
 go_loopg [1, 5] k (fun kq v1 v5 w' => ∃ (x1_1 : Int) (x5_1 : Int), v1 = .int .i64 x1_1 ∧ v5 = .int .i64 x5_1 ∧ Aside0 (laws_szLegS.l0 kq l0 x1_1 x5_1 = some r) ∧ Aside0 (kq ≤ k) ∧ Aside0 (Below w.heap.size w w'))
 case atStart => exact ⟨(wrap64 (a1 - (l0.length : Int))), (0), rs, rs, H', ⟨Nat.le_refl _⟩, ⟨bl⟩⟩
 case round =>
  clear H'
  try clear c3b0
  obtain ⟨x1_1, x5_1, rfl, rfl, HA, HK1, HB⟩ := hrel
  cases gk with
  | zero => exact absurd HA.out (by simp [laws_szLegS.l0])
  | succ k1 =>
   have H := HA.out
   clear HA
   simp only [laws_szLegS.l0] at H
   revert H; refine iDb (fun c4b0 H => ?_) fun c4b0 H => ?_
   ·revert H; refine i1 fun c5b0 H => ?_
    revert H; refine bj fun t106 A6 H => ?_
    revert H; refine iDb (fun c7b0 H => ?_) fun c7b0 H => ?_
    ·obtain rfl := Option.some.inj H
     have p105 : 0 ≤ (x5_1 : Int) := ode
     have q105 : x5_1 < (l0.length : Int) := ode
     obtain ⟨ad105, e105, hx105_0, hx105_1, hx105_2, hx105_3, hx105_4⟩ := at_T34 HR0.out x5_1 p105 q105
     cases e105
     obtain ⟨hx105_0, hx105_1, hx105_2, hx105_3, hx105_4⟩ := hb5 HB.out hx105_0 hx105_1 hx105_2 hx105_3 hx105_4
     replace p105 := eq_true p105
     replace q105 := eq_true q105
     go_wp2_with (first | ((with_reducible refine c_ 11 ?_); refine gc 11 (some 23) Tryd.func11 (laws_szLeg.calls _ _ _ _ _ _ _ _ A6.out) ?_; rintro e w8 ⟨rfl, hb⟩; refine ⟨_, rfl, ?_⟩; replace HB := ho hb; clear hb))
     go_ret
     exact ⟨er, bl⟩
    have H' := am H; clear H
    have p105 : 0 ≤ (x5_1 : Int) := ode
    have q105 : x5_1 < (l0.length : Int) := ode
    obtain ⟨ad105, e105, hx105_0, hx105_1, hx105_2, hx105_3, hx105_4⟩ := at_T34 HR0.out x5_1 p105 q105
    cases e105
    obtain ⟨hx105_0, hx105_1, hx105_2, hx105_3, hx105_4⟩ := hb5 HB.out hx105_0 hx105_1 hx105_2 hx105_3 hx105_4
    replace p105 := eq_true p105
    replace q105 := eq_true q105
    go_wp2_with (first | ((with_reducible refine c_ 11 ?_); refine gc 11 (some 23) Tryd.func11 (laws_szLeg.calls _ _ _ _ _ _ _ _ A6.out) ?_; rintro e w9 ⟨rfl, hb⟩; refine ⟨_, rfl, ?_⟩; replace HB := ho hb; clear hb))
    go_roundg k1
    case measure => have := HK1.out; omega
    case rel => exact ⟨(t106), (wrap64 (x5_1 + 1)), rs, rs, H', ⟨by have := HK1.out; omega⟩, ⟨bl⟩⟩
   obtain rfl := Option.some.inj H
   go_wp2
   go_ret
   exact ⟨er, bl⟩

/-! ### spec_NameRight: function 27 -/
mutual
def spec_NameRight.j0 : Nat → ByteArray → Bool → Option (Bool)
 | 0, _, _ => none
 | k + 1, x0, x12 => if x12 = true then (some false) else (spec_NameRight.l0 k x0 0)
def spec_NameRight.l0 : Nat → ByteArray → Int → Option (Bool)
 | 0, _, _ => none
 | k + 1, x0, x3 => if x3 < (x0.size : Int) then (if 0 ≤ x3 then (if (bt x0 x3) ≥ 97 then (if ((bt x0 x3) ≤ 122) then (spec_NameRight.l0 k x0 (wrap64 (x3 + 1))) else (if x3 = 0 then (some false) else (if (bt x0 x3) ≥ 48 then (if ((bt x0 x3) ≤ 57) then (spec_NameRight.l0 k x0 (wrap64 (x3 + 1))) else (if (bt x0 x3) = 95 then (spec_NameRight.l0 k x0 (wrap64 (x3 + 1))) else (some false))) else (if (bt x0 x3) = 95 then (spec_NameRight.l0 k x0 (wrap64 (x3 + 1))) else (some false))))) else (if x3 = 0 then (some false) else (if (bt x0 x3) ≥ 48 then (if ((bt x0 x3) ≤ 57) then (spec_NameRight.l0 k x0 (wrap64 (x3 + 1))) else (if (bt x0 x3) = 95 then (spec_NameRight.l0 k x0 (wrap64 (x3 + 1))) else (some false))) else (if (bt x0 x3) = 95 then (spec_NameRight.l0 k x0 (wrap64 (x3 + 1))) else (some false))))) else (none)) else (some true)
end
def spec_NameRight.f (k : Nat) (a0 : ByteArray) : Option (Bool) := if (a0.size : Int) < 1 then (spec_NameRight.j0 k a0 true) else (spec_NameRight.j0 k a0 (decide ((a0.size : Int) > 20)))
theorem spec_NameRight.mono_l : ∀ k, (∀ y0 y1, LeO (spec_NameRight.j0 k y0 y1) (spec_NameRight.j0 (k + 1) y0 y1)) ∧ (∀ y0 y1, LeO (spec_NameRight.l0 k y0 y1) (spec_NameRight.l0 (k + 1) y0 y1))
 | 0 => ⟨fun _ _ r h => by simp [spec_NameRight.j0] at h, fun _ _ r h => by simp [spec_NameRight.l0] at h⟩
 | k + 1 => by
  obtain ⟨ih0, ih1⟩ := spec_NameRight.mono_l k
  refine ⟨?_, ?_⟩
  ·intro y0 y1
   unfold spec_NameRight.j0
   repeat' (with_reducible first | exact ih0 .. | exact ih1 .. | exact LeO.refl _ | exact LeO.none _ | refine LeO.ite ?_ ?_ | refine LeO.bind ?_ (fun _ => ?_))
  intro y0 y1
  unfold spec_NameRight.l0
  repeat' (with_reducible first | exact ih0 .. | exact ih1 .. | exact LeO.refl _ | exact LeO.none _ | refine LeO.ite ?_ ?_ | refine LeO.bind ?_ (fun _ => ?_))
theorem spec_NameRight.mono : ∀ a0 k, LeO (spec_NameRight.f k a0) (spec_NameRight.f (k + 1) a0) := by
 intro a0 k
 obtain ⟨ih0, ih1⟩ := spec_NameRight.mono_l k
 unfold spec_NameRight.f
 repeat' (with_reducible first | exact ih0 .. | exact ih1 .. | exact LeO.refl _ | exact LeO.none _ | refine LeO.ite ?_ ?_ | refine LeO.bind ?_ (fun _ => ?_))
theorem spec_NameRight.calls (k : Nat) (a0 : ByteArray) (r : Bool) (w : World) (h : spec_NameRight.f k a0 = some r) :
  Calls Tryd.prog 27 #[.string a0] w fun e w' => e = .returned (.bool r) ∧ Drawn0 w w' := by
 have H := h
 clear h
 unfold spec_NameRight.f at H
 have HC2 := am H; clear H
 go_enter Tryd.func27, Tryd.ntmps27
 go_upto_region 1 with (fail)
 go_cut [12] (fun v12 wc => ∃ (kq : Nat) (x12_1 : Bool), v12 = .bool x12_1 ∧ Aside0 (spec_NameRight.j0 kq a0 x12_1 = some r) ∧ Aside0 (kq ≤ k) ∧ Drawn0 w wc)
 case first =>
  have H := HC2.out
  clear HC2
  revert H; refine iDn (fun c3 c3b0 H => ?_) fun c3 c3b0 H => ?_
  ·have c3b1 : decide (a0.size < 1) = true := decide_eq_true (by omega)
   clear c3
   (first | rw [c3b0] | (simp only [i64_w, i32_w]; rw [c3b0]) | skip)
   have H' := am H; clear H
   go_wp2
   go_meet
   case rel => exact ⟨_, (true), rs, H', ⟨by first | omega | exact Nat.le_refl _⟩, dr⟩
  have c3b1 : decide (a0.size < 1) = false := decide_eq_false (by omega)
  clear c3
  (first | rw [c3b0] | (simp only [i64_w, i32_w]; rw [c3b0]) | skip)
  have H' := am H; clear H
  go_wp2
  go_meet
  case rel => exact ⟨_, (decide ((a0.size : Int) > 20)), rs, H', ⟨by first | omega | exact Nat.le_refl _⟩, dr⟩
 case rest =>
  clear HC2
  obtain ⟨kq, x12_1, rfl, HA, HJ1, ⟨mc1, rfl⟩⟩ := hcut
  cases kq with
  | zero => exact absurd HA.out (by simp [spec_NameRight.j0])
  | succ kj1 =>
   have H := HA.out
   clear HA
   simp only [spec_NameRight.j0] at H
   replace H := iT H; rcases H with ⟨rfl, H⟩ | ⟨rfl, H⟩
   ·obtain rfl := Option.some.inj H
    go_wp2
    go_ret
    exact ⟨rs, dr⟩
   have H' := am H; clear H
   go_wp2
   go_loopg [3] kj1 (fun kq v3 w' => ∃ (x3_2 : Int), v3 = .int .i64 x3_2 ∧ Aside0 (spec_NameRight.l0 kq a0 x3_2 = some r) ∧ Aside0 (kq ≤ kj1) ∧ Drawn0 w w')
   case atStart => exact ⟨(0), rs, H', ⟨Nat.le_refl _⟩, dr⟩
   case round =>
    clear H'
    obtain ⟨x3_2, rfl, HA, HK2, ⟨m2, rfl⟩⟩ := hrel
    cases gk with
    | zero => exact absurd HA.out (by simp [spec_NameRight.l0])
    | succ k2 =>
     have H := HA.out
     clear HA
     simp only [spec_NameRight.l0] at H
     revert H; refine iDb (fun c5b0 H => ?_) fun c5b0 H => ?_
     ·revert H; refine i1 fun c6b0 H => ?_
      revert H; refine iDb (fun c8b0 H => ?_) fun c8b0 H => ?_
      ·revert H; refine iDb (fun c9b0 H => ?_) fun c9b0 H => ?_
       ·have H' := am H; clear H
        have p7 : 0 ≤ (x3_2 : Int) := ode
        have q7 : x3_2 < (a0.size : Int) := ode
        have hx7 := bt_at a0 x3_2
        replace p7 := eq_true p7
        replace q7 := eq_true q7
        go_wp2
        go_roundg k2
        case measure => have := HJ1.out; have := HK2.out; omega
        case rel => exact ⟨(wrap64 (x3_2 + 1)), rs, H', ⟨by have := HJ1.out; have := HK2.out; omega⟩, dr⟩
       revert H; refine iQ (fun c10b0 c10b1 H => ?_) fun c10 c10b0 c10b1 H => ?_
       ·obtain rfl := Option.some.inj H
        have p7 : 0 ≤ (x3_2 : Int) := ode
        have q7 : x3_2 < (a0.size : Int) := ode
        have hx7 := bt_at a0 x3_2
        replace p7 := eq_true p7
        replace q7 := eq_true q7
        go_wp2
        go_ret
        exact ⟨rs, dr⟩
       revert H; refine iDb (fun c11b0 H => ?_) fun c11b0 H => ?_
       ·revert H; refine iDb (fun c12b0 H => ?_) fun c12b0 H => ?_
        ·have H' := am H; clear H
         have p7 : 0 ≤ (x3_2 : Int) := ode
         have q7 : x3_2 < (a0.size : Int) := ode
         have hx7 := bt_at a0 x3_2
         replace p7 := eq_true p7
         replace q7 := eq_true q7
         go_wp2
         go_roundg k2
         case measure => have := HJ1.out; have := HK2.out; omega
         case rel => exact ⟨(wrap64 (x3_2 + 1)), rs, H', ⟨by have := HJ1.out; have := HK2.out; omega⟩, dr⟩
        revert H; refine iQ (fun c13b0 c13b1 H => ?_) fun c13 c13b0 c13b1 H => ?_
        ·have H' := am H; clear H
         have p7 : 0 ≤ (x3_2 : Int) := ode
         have q7 : x3_2 < (a0.size : Int) := ode
         have hx7 := bt_at a0 x3_2
         replace p7 := eq_true p7
         replace q7 := eq_true q7
         go_wp2
         go_roundg k2
         case measure => have := HJ1.out; have := HK2.out; omega
         case rel => exact ⟨(wrap64 (x3_2 + 1)), rs, H', ⟨by have := HJ1.out; have := HK2.out; omega⟩, dr⟩
        obtain rfl := Option.some.inj H
        have p7 : 0 ≤ (x3_2 : Int) := ode
        have q7 : x3_2 < (a0.size : Int) := ode
        have hx7 := bt_at a0 x3_2
        replace p7 := eq_true p7
        replace q7 := eq_true q7
        go_wp2
        go_ret
        exact ⟨rs, dr⟩
       revert H; refine iQ (fun c14b0 c14b1 H => ?_) fun c14 c14b0 c14b1 H => ?_
       ·have H' := am H; clear H
        have p7 : 0 ≤ (x3_2 : Int) := ode
        have q7 : x3_2 < (a0.size : Int) := ode
        have hx7 := bt_at a0 x3_2
        replace p7 := eq_true p7
        replace q7 := eq_true q7
        go_wp2
        go_roundg k2
        case measure => have := HJ1.out; have := HK2.out; omega
        case rel => exact ⟨(wrap64 (x3_2 + 1)), rs, H', ⟨by have := HJ1.out; have := HK2.out; omega⟩, dr⟩
       obtain rfl := Option.some.inj H
       have p7 : 0 ≤ (x3_2 : Int) := ode
       have q7 : x3_2 < (a0.size : Int) := ode
       have hx7 := bt_at a0 x3_2
       replace p7 := eq_true p7
       replace q7 := eq_true q7
       go_wp2
       go_ret
       exact ⟨rs, dr⟩
      revert H; refine iQ (fun c15b0 c15b1 H => ?_) fun c15 c15b0 c15b1 H => ?_
      ·obtain rfl := Option.some.inj H
       have p7 : 0 ≤ (x3_2 : Int) := ode
       have q7 : x3_2 < (a0.size : Int) := ode
       have hx7 := bt_at a0 x3_2
       replace p7 := eq_true p7
       replace q7 := eq_true q7
       go_wp2
       go_ret
       exact ⟨rs, dr⟩
      revert H; refine iDb (fun c16b0 H => ?_) fun c16b0 H => ?_
      ·revert H; refine iDb (fun c17b0 H => ?_) fun c17b0 H => ?_
       ·have H' := am H; clear H
        have p7 : 0 ≤ (x3_2 : Int) := ode
        have q7 : x3_2 < (a0.size : Int) := ode
        have hx7 := bt_at a0 x3_2
        replace p7 := eq_true p7
        replace q7 := eq_true q7
        go_wp2
        go_roundg k2
        case measure => have := HJ1.out; have := HK2.out; omega
        case rel => exact ⟨(wrap64 (x3_2 + 1)), rs, H', ⟨by have := HJ1.out; have := HK2.out; omega⟩, dr⟩
       revert H; refine iQ (fun c18b0 c18b1 H => ?_) fun c18 c18b0 c18b1 H => ?_
       ·have H' := am H; clear H
        have p7 : 0 ≤ (x3_2 : Int) := ode
        have q7 : x3_2 < (a0.size : Int) := ode
        have hx7 := bt_at a0 x3_2
        replace p7 := eq_true p7
        replace q7 := eq_true q7
        go_wp2
        go_roundg k2
        case measure => have := HJ1.out; have := HK2.out; omega
        case rel => exact ⟨(wrap64 (x3_2 + 1)), rs, H', ⟨by have := HJ1.out; have := HK2.out; omega⟩, dr⟩
       obtain rfl := Option.some.inj H
       have p7 : 0 ≤ (x3_2 : Int) := ode
       have q7 : x3_2 < (a0.size : Int) := ode
       have hx7 := bt_at a0 x3_2
       replace p7 := eq_true p7
       replace q7 := eq_true q7
       go_wp2
       go_ret
       exact ⟨rs, dr⟩
      revert H; refine iQ (fun c19b0 c19b1 H => ?_) fun c19 c19b0 c19b1 H => ?_
      ·have H' := am H; clear H
       have p7 : 0 ≤ (x3_2 : Int) := ode
       have q7 : x3_2 < (a0.size : Int) := ode
       have hx7 := bt_at a0 x3_2
       replace p7 := eq_true p7
       replace q7 := eq_true q7
       go_wp2
       go_roundg k2
       case measure => have := HJ1.out; have := HK2.out; omega
       case rel => exact ⟨(wrap64 (x3_2 + 1)), rs, H', ⟨by have := HJ1.out; have := HK2.out; omega⟩, dr⟩
      obtain rfl := Option.some.inj H
      have p7 : 0 ≤ (x3_2 : Int) := ode
      have q7 : x3_2 < (a0.size : Int) := ode
      have hx7 := bt_at a0 x3_2
      replace p7 := eq_true p7
      replace q7 := eq_true q7
      go_wp2
      go_ret
      exact ⟨rs, dr⟩
     obtain rfl := Option.some.inj H
     go_wp2
     go_ret
     exact ⟨rs, dr⟩

/-! ### spec_l05Names: function 19 -/
def spec_l05Names.f (k : Nat) (a0_0 : ByteArray) (a0_1 : ByteArray) : Option (Bool) := (spec_NameRight.f k a0_0).bind fun t108 => (if t108 = true then ((spec_NameRight.f k a0_1).bind fun t109 => (some t109)) else (some false))
theorem spec_l05Names.mono : ∀ a0 a1 k, LeO (spec_l05Names.f k a0 a1) (spec_l05Names.f (k + 1) a0 a1) := by
 intro a0 a1 k
 unfold spec_l05Names.f
 repeat' (with_reducible first | exact spec_NameRight.mono .. | exact LeO.refl _ | exact LeO.none _ | refine LeO.ite ?_ ?_ | refine LeO.bind ?_ (fun _ => ?_))
theorem spec_l05Names.calls (k : Nat) (a0_0 : ByteArray) (a0_1 : ByteArray) (r : Bool) (w : World) (h : spec_l05Names.f k a0_0 a0_1 = some r) :
  Calls Tryd.prog 19 #[.agg #[.string a0_0, .string a0_1]] w fun e w' => e = .returned (.bool r) ∧ Below w.heap.size w w' := by
 have hu36 := Tryd.underlying36
 have HB := am (Below.refl w.heap.size w)
 have H := h
 clear h
 unfold spec_l05Names.f at H
 revert H; refine bj fun t108 A2 H => ?_
 replace H := iT H; rcases H with ⟨rfl, H⟩ | ⟨rfl, H⟩
 ·revert H; refine bj fun t109 A4 H => ?_
  obtain rfl := Option.some.inj H
  go_enter Tryd.func19, Tryd.ntmps19
  go_wp2_with (first | ((with_reducible refine g_ 1 ?_); refine bx 1 #[.string a0_0, .string a0_1] 36 ?_; intro gb107 hg w5 hbox hb; have BK107 := am hbox; have GW107 := am (bsz hg : w.heap.size ≤ gb107); have GE107 := GW107; replace HB := ho hb; clear hb hbox hg; have Z6 := blk2 BK107.out) | ((with_reducible refine c_ 27 ?_); refine gc 27 (some 5) Tryd.func27 (spec_NameRight.calls _ _ _ _ A2.out) ?_; rintro e w' ⟨rfl, ⟨nd, rfl⟩⟩; refine ⟨_, rfl, ?_⟩) | (go_at_call 27; (with_reducible refine (spec_NameRight.calls _ _ _ _ A4.out).mono ?_); rintro e w' ⟨rfl, ⟨nd, rfl⟩⟩))
  go_ret
  exact ⟨er, bl⟩
 obtain rfl := Option.some.inj H
 go_enter Tryd.func19, Tryd.ntmps19
 go_wp2_with (first | ((with_reducible refine g_ 1 ?_); refine bx 1 #[.string a0_0, .string a0_1] 36 ?_; intro gb107 hg w7 hbox hb; have BK107 := am hbox; have GW107 := am (bsz hg : w.heap.size ≤ gb107); have GE107 := GW107; replace HB := ho hb; clear hb hbox hg; have Z8 := blk2 BK107.out) | ((with_reducible refine c_ 27 ?_); refine gc 27 (some 5) Tryd.func27 (spec_NameRight.calls _ _ _ _ A2.out) ?_; rintro e w' ⟨rfl, ⟨nd, rfl⟩⟩; refine ⟨_, rfl, ?_⟩))
 go_ret
 exact ⟨er, bl⟩

/-! ### spec_LegsRight: function 12 -/
def spec_LegsRight.l0 : Nat → List (S38) → Int → Option (Bool)
 | 0, _, _ => none
 | k + 1, x0, x3 => if x3 < (x0.length : Int) then (if 0 ≤ x3 then ((spec_l05Names.f k ((rd_T38 x0 x3).f0.f0) ((rd_T38 x0 x3).f0.f1)).bind fun t111 => (if t111 = true then ((spec_l05Names.f k ((rd_T38 x0 x3).f1.f0) ((rd_T38 x0 x3).f1.f1)).bind fun t113 => (if t113 = true then (if ((rd_T38 x0 x3).f2) < 0 then (some false) else (if ((rd_T38 x0 x3).f2) > 1000000000000 then (some false) else (spec_LegsRight.l0 k x0 (wrap64 (x3 + 1))))) else (some false))) else (some false))) else (none)) else (some true)
def spec_LegsRight.f (k : Nat) (l0 : List (S38)) : Option (Bool) := if (l0.length : Int) > 20 then (some false) else (spec_LegsRight.l0 k l0 0)
theorem spec_LegsRight.mono_l : ∀ k, (∀ y0 y1, LeO (spec_LegsRight.l0 k y0 y1) (spec_LegsRight.l0 (k + 1) y0 y1))
 | 0 => fun _ _ r h => by simp [spec_LegsRight.l0] at h
 | k + 1 => by
  have ih0 := spec_LegsRight.mono_l k
  ·intro y0 y1
   unfold spec_LegsRight.l0
   repeat' (with_reducible first | exact ih0 .. | exact spec_l05Names.mono .. | exact LeO.refl _ | exact LeO.none _ | refine LeO.ite ?_ ?_ | refine LeO.bind ?_ (fun _ => ?_))
theorem spec_LegsRight.mono : ∀ a0 k, LeO (spec_LegsRight.f k a0) (spec_LegsRight.f (k + 1) a0) := by
 intro a0 k
 have ih0 := spec_LegsRight.mono_l k
 unfold spec_LegsRight.f
 repeat' (with_reducible first | exact ih0 .. | exact spec_l05Names.mono .. | exact LeO.refl _ | exact LeO.none _ | refine LeO.ite ?_ ?_ | refine LeO.bind ?_ (fun _ => ?_))
theorem spec_LegsRight.calls (k : Nat) (A0 : Option Addr) (c0 : Nat) (l0 : List (S38)) (r : Bool) (w : World) (hr0 : Kd.C k38 w A0 l0.length l0) (hc0 : l0.length ≤ c0) (h : spec_LegsRight.f k l0 = some r) :
  Calls Tryd.prog 12 #[.slice A0 l0.length c0] w fun e w' => e = .returned (.bool r) ∧ Below w.heap.size w w' := by
 have hu36 := Tryd.underlying36
 have HR0 := am hr0
 have HC0 := am hc0
 clear hr0 hc0
 have HB := am (Below.refl w.heap.size w)
 have H := h
 clear h
 unfold spec_LegsRight.f at H
 revert H; refine iDn (fun c2 c2b0 H => ?_) fun c2 c2b0 H => ?_
 ·have c2b1 : decide (20 < l0.length) = true := decide_eq_true (by omega)
  clear c2
  obtain rfl := Option.some.inj H
  go_enter Tryd.func12, Tryd.ntmps12
  go_wp2
  go_ret
  exact ⟨er, bl⟩
 have c2b1 : decide (20 < l0.length) = false := decide_eq_false (by omega)
 clear c2
 have H' := am H; clear H
 go_enter Tryd.func12, Tryd.ntmps12
 go_wp2
 go_loopg [3] k (fun kq v3 w' => ∃ (x3_1 : Int), v3 = .int .i64 x3_1 ∧ Aside0 (spec_LegsRight.l0 kq l0 x3_1 = some r) ∧ Aside0 (kq ≤ k) ∧ Aside0 (Below w.heap.size w w'))
 case atStart => exact ⟨(0), rs, H', ⟨Nat.le_refl _⟩, ⟨bl⟩⟩
 case round =>
  clear H'
  try clear c2; try clear c2b0; try clear c2b1
  obtain ⟨x3_1, rfl, HA, HK1, HB⟩ := hrel
  cases gk with
  | zero => exact absurd HA.out (by simp [spec_LegsRight.l0])
  | succ k1 =>
   have H := HA.out
   clear HA
   simp only [spec_LegsRight.l0] at H
   revert H; refine iDb (fun c3b0 H => ?_) fun c3b0 H => ?_
   ·revert H; refine i1 fun c4b0 H => ?_
    revert H; refine bj fun t111 A5 H => ?_
    replace H := iT H; rcases H with ⟨rfl, H⟩ | ⟨rfl, H⟩
    ·revert H; refine bj fun t113 A7 H => ?_
     replace H := iT H; rcases H with ⟨rfl, H⟩ | ⟨rfl, H⟩
     ·revert H; refine iDb (fun c9b0 H => ?_) fun c9b0 H => ?_
      ·obtain rfl := Option.some.inj H
       have p110 : 0 ≤ (x3_1 : Int) := ode
       have q110 : x3_1 < (l0.length : Int) := ode
       obtain ⟨ad110, e110, hx110_0, hx110_1, hx110_2, hx110_3, hx110_4⟩ := at_T38 HR0.out x3_1 p110 q110
       cases e110
       obtain ⟨hx110_0, hx110_1, hx110_2, hx110_3, hx110_4⟩ := hb5 HB.out hx110_0 hx110_1 hx110_2 hx110_3 hx110_4
       replace p110 := eq_true p110
       replace q110 := eq_true q110
       go_wp2_with (first | ((with_reducible refine c_ 19 ?_); refine gc 19 (some 18) Tryd.func19 (spec_l05Names.calls _ _ _ _ _ A5.out) ?_; rintro e w10 ⟨rfl, hb⟩; refine ⟨_, rfl, ?_⟩; replace HB := ho hb; clear hb; have p112 : 0 ≤ (x3_1 : Int) := ode; have q112 : x3_1 < (l0.length : Int) := ode; obtain ⟨ad112, e112, hx112_0, hx112_1, hx112_2, hx112_3, hx112_4⟩ := at_T38 HR0.out x3_1 p112 q112; obtain rfl : ad110 = ad112 := (by injection e112); replace hx112_0 := hbc HB.out hx112_0; replace hx112_1 := hbc HB.out hx112_1; replace hx112_2 := hbc HB.out hx112_2; replace hx112_3 := hbc HB.out hx112_3; replace hx112_4 := hbc HB.out hx112_4; replace p112 := eq_true p112; replace q112 := eq_true q112) | (go_at_call 19; (with_reducible refine (spec_l05Names.calls _ _ _ _ _ A7.out).mono ?_); rintro e w11 ⟨rfl, hb⟩; replace HB := ho hb; clear hb; have p114 : 0 ≤ (x3_1 : Int) := ode; have q114 : x3_1 < (l0.length : Int) := ode; obtain ⟨ad114, e114, hx114_0, hx114_1, hx114_2, hx114_3, hx114_4⟩ := at_T38 HR0.out x3_1 p114 q114; obtain rfl : ad110 = ad114 := (by injection e114); replace hx114_0 := hbc HB.out hx114_0; replace hx114_1 := hbc HB.out hx114_1; replace hx114_2 := hbc HB.out hx114_2; replace hx114_3 := hbc HB.out hx114_3; replace hx114_4 := hbc HB.out hx114_4; replace p114 := eq_true p114; replace q114 := eq_true q114))
       go_ret
       exact ⟨er, bl⟩
      revert H; refine iDb (fun c12b0 H => ?_) fun c12b0 H => ?_
      ·obtain rfl := Option.some.inj H
       have p110 : 0 ≤ (x3_1 : Int) := ode
       have q110 : x3_1 < (l0.length : Int) := ode
       obtain ⟨ad110, e110, hx110_0, hx110_1, hx110_2, hx110_3, hx110_4⟩ := at_T38 HR0.out x3_1 p110 q110
       cases e110
       obtain ⟨hx110_0, hx110_1, hx110_2, hx110_3, hx110_4⟩ := hb5 HB.out hx110_0 hx110_1 hx110_2 hx110_3 hx110_4
       replace p110 := eq_true p110
       replace q110 := eq_true q110
       go_wp2_with (first | ((with_reducible refine c_ 19 ?_); refine gc 19 (some 18) Tryd.func19 (spec_l05Names.calls _ _ _ _ _ A5.out) ?_; rintro e w13 ⟨rfl, hb⟩; refine ⟨_, rfl, ?_⟩; replace HB := ho hb; clear hb; have p112 : 0 ≤ (x3_1 : Int) := ode; have q112 : x3_1 < (l0.length : Int) := ode; obtain ⟨ad112, e112, hx112_0, hx112_1, hx112_2, hx112_3, hx112_4⟩ := at_T38 HR0.out x3_1 p112 q112; obtain rfl : ad110 = ad112 := (by injection e112); replace hx112_0 := hbc HB.out hx112_0; replace hx112_1 := hbc HB.out hx112_1; replace hx112_2 := hbc HB.out hx112_2; replace hx112_3 := hbc HB.out hx112_3; replace hx112_4 := hbc HB.out hx112_4; replace p112 := eq_true p112; replace q112 := eq_true q112) | (go_at_call 19; (with_reducible refine (spec_l05Names.calls _ _ _ _ _ A7.out).mono ?_); rintro e w14 ⟨rfl, hb⟩; replace HB := ho hb; clear hb; have p114 : 0 ≤ (x3_1 : Int) := ode; have q114 : x3_1 < (l0.length : Int) := ode; obtain ⟨ad114, e114, hx114_0, hx114_1, hx114_2, hx114_3, hx114_4⟩ := at_T38 HR0.out x3_1 p114 q114; obtain rfl : ad110 = ad114 := (by injection e114); replace hx114_0 := hbc HB.out hx114_0; replace hx114_1 := hbc HB.out hx114_1; replace hx114_2 := hbc HB.out hx114_2; replace hx114_3 := hbc HB.out hx114_3; replace hx114_4 := hbc HB.out hx114_4; replace p114 := eq_true p114; replace q114 := eq_true q114; have p115 : 0 ≤ (x3_1 : Int) := ode; have q115 : x3_1 < (l0.length : Int) := ode; obtain ⟨ad115, e115, hx115_0, hx115_1, hx115_2, hx115_3, hx115_4⟩ := at_T38 HR0.out x3_1 p115 q115; obtain rfl : ad110 = ad115 := (by injection e115); replace hx115_0 := hbc HB.out hx115_0; replace hx115_1 := hbc HB.out hx115_1; replace hx115_2 := hbc HB.out hx115_2; replace hx115_3 := hbc HB.out hx115_3; replace hx115_4 := hbc HB.out hx115_4; replace p115 := eq_true p115; replace q115 := eq_true q115))
       go_ret
       exact ⟨er, bl⟩
      have H' := am H; clear H
      have p110 : 0 ≤ (x3_1 : Int) := ode
      have q110 : x3_1 < (l0.length : Int) := ode
      obtain ⟨ad110, e110, hx110_0, hx110_1, hx110_2, hx110_3, hx110_4⟩ := at_T38 HR0.out x3_1 p110 q110
      cases e110
      obtain ⟨hx110_0, hx110_1, hx110_2, hx110_3, hx110_4⟩ := hb5 HB.out hx110_0 hx110_1 hx110_2 hx110_3 hx110_4
      replace p110 := eq_true p110
      replace q110 := eq_true q110
      go_wp2_with (first | ((with_reducible refine c_ 19 ?_); refine gc 19 (some 18) Tryd.func19 (spec_l05Names.calls _ _ _ _ _ A5.out) ?_; rintro e w15 ⟨rfl, hb⟩; refine ⟨_, rfl, ?_⟩; replace HB := ho hb; clear hb; have p112 : 0 ≤ (x3_1 : Int) := ode; have q112 : x3_1 < (l0.length : Int) := ode; obtain ⟨ad112, e112, hx112_0, hx112_1, hx112_2, hx112_3, hx112_4⟩ := at_T38 HR0.out x3_1 p112 q112; obtain rfl : ad110 = ad112 := (by injection e112); replace hx112_0 := hbc HB.out hx112_0; replace hx112_1 := hbc HB.out hx112_1; replace hx112_2 := hbc HB.out hx112_2; replace hx112_3 := hbc HB.out hx112_3; replace hx112_4 := hbc HB.out hx112_4; replace p112 := eq_true p112; replace q112 := eq_true q112) | (go_at_call 19; (with_reducible refine (spec_l05Names.calls _ _ _ _ _ A7.out).mono ?_); rintro e w16 ⟨rfl, hb⟩; replace HB := ho hb; clear hb; have p114 : 0 ≤ (x3_1 : Int) := ode; have q114 : x3_1 < (l0.length : Int) := ode; obtain ⟨ad114, e114, hx114_0, hx114_1, hx114_2, hx114_3, hx114_4⟩ := at_T38 HR0.out x3_1 p114 q114; obtain rfl : ad110 = ad114 := (by injection e114); replace hx114_0 := hbc HB.out hx114_0; replace hx114_1 := hbc HB.out hx114_1; replace hx114_2 := hbc HB.out hx114_2; replace hx114_3 := hbc HB.out hx114_3; replace hx114_4 := hbc HB.out hx114_4; replace p114 := eq_true p114; replace q114 := eq_true q114; have p115 : 0 ≤ (x3_1 : Int) := ode; have q115 : x3_1 < (l0.length : Int) := ode; obtain ⟨ad115, e115, hx115_0, hx115_1, hx115_2, hx115_3, hx115_4⟩ := at_T38 HR0.out x3_1 p115 q115; obtain rfl : ad110 = ad115 := (by injection e115); replace hx115_0 := hbc HB.out hx115_0; replace hx115_1 := hbc HB.out hx115_1; replace hx115_2 := hbc HB.out hx115_2; replace hx115_3 := hbc HB.out hx115_3; replace hx115_4 := hbc HB.out hx115_4; replace p115 := eq_true p115; replace q115 := eq_true q115))
      go_roundg k1
      case measure => have := HK1.out; omega
      case rel => exact ⟨(wrap64 (x3_1 + 1)), rs, H', ⟨by have := HK1.out; omega⟩, ⟨bl⟩⟩
     obtain rfl := Option.some.inj H
     have p110 : 0 ≤ (x3_1 : Int) := ode
     have q110 : x3_1 < (l0.length : Int) := ode
     obtain ⟨ad110, e110, hx110_0, hx110_1, hx110_2, hx110_3, hx110_4⟩ := at_T38 HR0.out x3_1 p110 q110
     cases e110
     obtain ⟨hx110_0, hx110_1, hx110_2, hx110_3, hx110_4⟩ := hb5 HB.out hx110_0 hx110_1 hx110_2 hx110_3 hx110_4
     replace p110 := eq_true p110
     replace q110 := eq_true q110
     go_wp2_with (first | ((with_reducible refine c_ 19 ?_); refine gc 19 (some 18) Tryd.func19 (spec_l05Names.calls _ _ _ _ _ A5.out) ?_; rintro e w17 ⟨rfl, hb⟩; refine ⟨_, rfl, ?_⟩; replace HB := ho hb; clear hb; have p112 : 0 ≤ (x3_1 : Int) := ode; have q112 : x3_1 < (l0.length : Int) := ode; obtain ⟨ad112, e112, hx112_0, hx112_1, hx112_2, hx112_3, hx112_4⟩ := at_T38 HR0.out x3_1 p112 q112; obtain rfl : ad110 = ad112 := (by injection e112); replace hx112_0 := hbc HB.out hx112_0; replace hx112_1 := hbc HB.out hx112_1; replace hx112_2 := hbc HB.out hx112_2; replace hx112_3 := hbc HB.out hx112_3; replace hx112_4 := hbc HB.out hx112_4; replace p112 := eq_true p112; replace q112 := eq_true q112) | (go_at_call 19; (with_reducible refine (spec_l05Names.calls _ _ _ _ _ A7.out).mono ?_); rintro e w18 ⟨rfl, hb⟩; replace HB := ho hb; clear hb))
     go_ret
     exact ⟨er, bl⟩
    obtain rfl := Option.some.inj H
    have p110 : 0 ≤ (x3_1 : Int) := ode
    have q110 : x3_1 < (l0.length : Int) := ode
    obtain ⟨ad110, e110, hx110_0, hx110_1, hx110_2, hx110_3, hx110_4⟩ := at_T38 HR0.out x3_1 p110 q110
    cases e110
    obtain ⟨hx110_0, hx110_1, hx110_2, hx110_3, hx110_4⟩ := hb5 HB.out hx110_0 hx110_1 hx110_2 hx110_3 hx110_4
    replace p110 := eq_true p110
    replace q110 := eq_true q110
    go_wp2_with (first | ((with_reducible refine c_ 19 ?_); refine gc 19 (some 18) Tryd.func19 (spec_l05Names.calls _ _ _ _ _ A5.out) ?_; rintro e w19 ⟨rfl, hb⟩; refine ⟨_, rfl, ?_⟩; replace HB := ho hb; clear hb))
    go_ret
    exact ⟨er, bl⟩
   obtain rfl := Option.some.inj H
   go_wp2
   go_ret
   exact ⟨er, bl⟩

end Go.Proofs.YtopeaemfnlcecaaDoor.PFnExactLegsBack
