-- laid by seedprint.py, a program of this session, over contracts that it gives by hand; Lean checks it
-- dented
import Derived.Test.YtodokfmmnihecaaGreatDoorQMin
import Derived.Test.YtodokfmmnihecaaGreatDoorQAut
import Derived.Test.YtodokfmmnihecaaGreatDoorQBlk
import Derived.Test.YtodokfmmnihecaaGreatDoorPFnExactProductRightx0
import Derived.Test.YtodokfmmnihecaaGreatDoorPFnExactProductRightx1
import Derived.Test.YtodokfmmnihecaaGreatDoorPFnExactProductRightx6
import Derived.Test.YtodokfmmnihecaaGreatDoorPFnExactProductRightx7
import Derived.Test.YtodokfmmnihecaaGreatDoorPFnExactProductRightx13
import Derived.Test.YtodokfmmnihecaaGreatDoorPFnExactProductRightx14
namespace Go.Proofs.YtodokfmmnihecaaGreatDoor.PFnExactProductRight
open Go.RowKit Go.Proofs.YtodokfmmnihecaaGreatDoorW.PrintWords Go.Proofs.YtodokfmmnihecaaGreatDoorW.PrintLast Go.Proofs.YtodokfmmnihecaaGreatDoorW.PrintMore
attribute [local go_sem] max2_int min2_int max_two min_two max_three min_three max_four min_four   -- for this text's walks alone
set_option maxHeartbeats 8000000
set_option maxRecDepth 100000
set_option linter.unusedVariables false
set_option linter.unusedSimpArgs false

/-! ### laws_eqNodeS: function 73 -/
def laws_eqNodeS.l0 : Nat → List (S73) → List (S73) → Int → Option (Bool)
 | 0, _, _, _ => none
 | k + 1, x0, x1, x5 => if x5 < (x0.length : Int) then (if 0 ≤ x5 then (if x5 < (x1.length : Int) then ((laws_eqNode.f ((rd_T73 x0 x5).f0) ((rd_T73 x0 x5).f1) ((rd_T73 x0 x5).f2) ((rd_T73 x0 x5).f3) ((rd_T73 x0 x5).f4) ((rd_T73 x1 x5).f0) ((rd_T73 x1 x5).f1) ((rd_T73 x1 x5).f2) ((rd_T73 x1 x5).f3) ((rd_T73 x1 x5).f4)).bind fun t385 => (if t385 = true then (laws_eqNodeS.l0 k x0 x1 (wrap64 (x5 + 1))) else (some false))) else (none)) else (none)) else (some true)
def laws_eqNodeS.f (k : Nat) (l0 : List (S73)) (l1 : List (S73)) : Option (Bool) := if (l0.length : Int) = (l1.length : Int) then (laws_eqNodeS.l0 k l0 l1 0) else (some false)
theorem laws_eqNodeS.mono_l : ∀ k, (∀ y0 y1 y2, LeO (laws_eqNodeS.l0 k y0 y1 y2) (laws_eqNodeS.l0 (k + 1) y0 y1 y2))
 | 0 => fun _ _ _ r h => by simp [laws_eqNodeS.l0] at h
 | k + 1 => by
  have ih0 := laws_eqNodeS.mono_l k
  ·intro y0 y1 y2
   unfold laws_eqNodeS.l0
   exact mo
theorem laws_eqNodeS.mono : ∀ a0 a1 k, LeO (laws_eqNodeS.f k a0 a1) (laws_eqNodeS.f (k + 1) a0 a1) := by
 intro a0 a1 k
 have ih0 := laws_eqNodeS.mono_l k
 unfold laws_eqNodeS.f
 exact mo
def laws_eqNodeS.T6 : Bool × List (List Nat × List Nat) := (true, [([], []), ([], []), ([0, 1], [0, 1]), ([2], [2]), ([], []), ([], []), ([4, 5], [4, 5]), ([6], [6]), ([3, 7], [3, 7]), ([8], [8])])
def laws_eqNodeS.B6 : List Nat := [0, 0, 3, 7, 0, 0, 48, 112, 255, 511]
theorem laws_eqNodeS.tab6 : rtab .any (opsOf Tryz.f73 6) = laws_eqNodeS.T6 := by kernel_rfl
theorem laws_eqNodeS.bits6 : waitsOk laws_eqNodeS.T6.2 laws_eqNodeS.B6 = true := by kernel_rfl
theorem laws_eqNodeS.calls (k : Nat) (A0 : Option Addr) (c0 : Nat) (l0 : List (S73)) (A1 : Option Addr) (c1 : Nat) (l1 : List (S73)) (r : Bool) (w : World) (hr0 : Kd.C k73 w A0 l0.length l0) (hc0 : l0.length ≤ c0) (hr1 : Kd.C k73 w A1 l1.length l1) (hc1 : l1.length ≤ c1) (h : laws_eqNodeS.f k l0 l1 = some r) :
  Calls Tryz.prog 73 #[.slice A0 l0.length c0, .slice A1 l1.length c1] w fun e w' => e = .returned (.bool r) ∧ Below w.heap.size w w' := by
 have hu73 := Tryz.underlying73
 have HR0 := am hr0
 have HC0 := am hc0
 clear hr0 hc0
 have HR1 := am hr1
 have HC1 := am hc1
 clear hr1 hc1
 have HB := am (Below.refl w.heap.size w)
 have H := h
 clear h
 unfold laws_eqNodeS.f at H
 revert H; refine iQn (fun c3 c3b0 c3b1 H => ?_) fun c3 c3b0 c3b1 H => ?_
 ·have c3b2 : (l0.length == l1.length) = true := by first | simpa using c3 | (simp at c3 ⊢; omega)
  clear c3
  have H' := am H; clear H
  go_enter Tryz.func73, Tryz.ntmps73
  go_wp2
  go_loopg [5] k (fun kq v5 w' => ∃ (x5_1 : Int), v5 = .int .i64 x5_1 ∧ Aside0 (laws_eqNodeS.l0 kq l0 l1 x5_1 = some r) ∧ Aside0 (kq ≤ k) ∧ Aside0 (Below w.heap.size w w'))
  case atStart => exact ⟨(0), rs, H', ⟨Nat.le_refl _⟩, ⟨bl⟩⟩
  case round =>
   clear H'
   try clear c1; try clear c3; try clear c3b0; try clear c3b1; try clear c3b2
   obtain ⟨x5_1, rfl, HA, HK1, HB⟩ := hrel
   cases gk with
   | zero => exact absurd HA.out (by simp [laws_eqNodeS.l0])
   | succ k1 =>
    have H := HA.out
    clear HA
    simp only [laws_eqNodeS.l0] at H
    revert H; refine iDb (fun c4b0 H => ?_) fun c4b0 H => ?_
    ·revert H; refine i1 fun c5b0 H => ?_
     revert H; refine i1 fun c6b0 H => ?_
     revert H; refine bj fun t385 A7 H => ?_
     replace H := iT H; rcases H with ⟨rfl, H⟩ | ⟨rfl, H⟩
     ·have H' := am H; clear H
      try go_wp2
      have n0_ := am (below_drew1 HB.out)
      clear HB
      have HB := n0_
      clear n0_
      have p383 : 0 ≤ (x5_1 : Int) := ode
      have q383 : x5_1 < (l0.length : Int) := ode
      obtain ⟨ad383, e383, hx383_0, hx383_1, hx383_2, hx383_3, hx383_4⟩ := at_T73 HR0.out x5_1 p383 q383
      have hw383_4 := hx383_4
      have hw383_3 := hx383_3
      have hw383_2 := hx383_2
      have hw383_1 := hx383_1
      have hw383_0 := hx383_0
      cases e383
      obtain ⟨hx383_0, hx383_1, hx383_2, hx383_3, hx383_4⟩ := hb5 HB.out hx383_0 hx383_1 hx383_2 hx383_3 hx383_4
      replace p383 := eq_true p383
      replace q383 := eq_true q383
      have p384 : 0 ≤ (x5_1 : Int) := ode
      have q384 : x5_1 < (l1.length : Int) := ode
      obtain ⟨ad384, e384, hx384_0, hx384_1, hx384_2, hx384_3, hx384_4⟩ := at_T73 HR1.out x5_1 p384 q384
      have hw384_4 := hx384_4
      have hw384_3 := hx384_3
      have hw384_2 := hx384_2
      have hw384_1 := hx384_1
      have hw384_0 := hx384_0
      cases e384
      obtain ⟨hx384_0, hx384_1, hx384_2, hx384_3, hx384_4⟩ := hb5 HB.out hx384_0 hx384_1 hx384_2 hx384_3 hx384_4
      replace p384 := eq_true p384
      replace q384 := eq_true q384
      refine start_ (n := 10) (S := fun w' => w'.cell? (ad383.add ((x5_1).toNat * 5)) = some (.int .i64 ((rd_T73 l0 x5_1).f0)) ∧ w'.cell? ⟨(ad383.add ((x5_1).toNat * 5)).block, (ad383.add ((x5_1).toNat * 5)).off + 1, none⟩ = some (.string ((rd_T73 l0 x5_1).f1)) ∧ w'.cell? ⟨(ad383.add ((x5_1).toNat * 5)).block, (ad383.add ((x5_1).toNat * 5)).off + 2, none⟩ = some (.string ((rd_T73 l0 x5_1).f2)) ∧ w'.cell? ⟨(ad383.add ((x5_1).toNat * 5)).block, (ad383.add ((x5_1).toNat * 5)).off + 3, none⟩ = some (.int .i64 ((rd_T73 l0 x5_1).f3)) ∧ w'.cell? ⟨(ad383.add ((x5_1).toNat * 5)).block, (ad383.add ((x5_1).toNat * 5)).off + 4, none⟩ = some (.int .i64 ((rd_T73 l0 x5_1).f4)) ∧ w'.cell? (ad384.add ((x5_1).toNat * 5)) = some (.int .i64 ((rd_T73 l1 x5_1).f0)) ∧ w'.cell? ⟨(ad384.add ((x5_1).toNat * 5)).block, (ad384.add ((x5_1).toNat * 5)).off + 1, none⟩ = some (.string ((rd_T73 l1 x5_1).f1)) ∧ w'.cell? ⟨(ad384.add ((x5_1).toNat * 5)).block, (ad384.add ((x5_1).toNat * 5)).off + 2, none⟩ = some (.string ((rd_T73 l1 x5_1).f2)) ∧ w'.cell? ⟨(ad384.add ((x5_1).toNat * 5)).block, (ad384.add ((x5_1).toNat * 5)).off + 3, none⟩ = some (.int .i64 ((rd_T73 l1 x5_1).f3)) ∧ w'.cell? ⟨(ad384.add ((x5_1).toNat * 5)).block, (ad384.add ((x5_1).toNat * 5)).off + 4, none⟩ = some (.int .i64 ((rd_T73 l1 x5_1).f4))) (ds := []) #[F_, F_, F_, F_, F_, F_, F_, F_, F_, F_] (by kernel_rfl) rfl rfl ⟨(hbc HB.out hw383_0), (hbc HB.out hw383_1), (hbc HB.out hw383_2), (hbc HB.out hw383_3), (hbc HB.out hw383_4), (hbc HB.out hw384_0), (hbc HB.out hw384_1), (hbc HB.out hw384_2), (hbc HB.out hw384_3), (hbc HB.out hw384_4)⟩ (fun hHeld => ?_); refine with_tabW laws_eqNodeS.tab6 laws_eqNodeS.bits6 (fun HT_ HW_ => ?_)
      generalize wr.drew = w9 at HB hx383_0 hx383_1 hx383_2 hx383_3 hx383_4 hx384_0 hx384_1 hx384_2 hx384_3 hx384_4 hHeld ⊢
      refine pv 0 17 ?_
      refine pv 1 18 ?_
      refine pv 2 19 ?_
      refine pv 4 21 ?_
      refine pv 5 22 ?_
      refine pv 6 23 ?_
      refine tv10 3 20 hHeld ?_
      refine tv10 7 24 hHeld ?_
      refine ov 8 25 (fun K hK => ?_)
      refine gk Tryz.func139 (laws_eqNode.calls _ _ _ _ _ _ _ _ _ _ _ _ A7.out) ?_
      rintro e w10 ⟨rfl, hb⟩
      refine ⟨_, rfl, ?_⟩
      have n0_ := am (below_step bl hb)
      clear HB
      have HB := n0_
      clear n0_
      skip
      skip
      skip
      skip
      refine hK.out _ _ ⟨(hbc HB.out hw383_0), (hbc HB.out hw383_1), (hbc HB.out hw383_2), (hbc HB.out hw383_3), (hbc HB.out hw383_4), (hbc HB.out hw384_0), (hbc HB.out hw384_1), (hbc HB.out hw384_2), (hbc HB.out hw384_3), (hbc HB.out hw384_4)⟩ (fun hHeld => ?_)
      clear hK K
      refine norm_ (a' := ?_) ?_ ?_
      rotate_left
      ·show Act.put _ (some 25) _ = _
       simp only [Act.put, z1, z2, z3, i64_w, i32_w]
       rfl
      refine pv 9 26 ?_
      refine done_ (done_of HT_.out (by kernel_rfl)) ?_
      try go_wp2
      go_roundg k1
      case measure => have := HK1.out; omega
      case rel => exact ⟨(wrap64 (x5_1 + 1)), rs, H', ⟨by have := HK1.out; omega⟩, ⟨bl⟩⟩
     obtain rfl := Option.some.inj H
     try go_wp2
     have n0_ := am (below_drew1 HB.out)
     clear HB
     have HB := n0_
     clear n0_
     have p383 : 0 ≤ (x5_1 : Int) := ode
     have q383 : x5_1 < (l0.length : Int) := ode
     obtain ⟨ad383, e383, hx383_0, hx383_1, hx383_2, hx383_3, hx383_4⟩ := at_T73 HR0.out x5_1 p383 q383
     have hw383_4 := hx383_4
     have hw383_3 := hx383_3
     have hw383_2 := hx383_2
     have hw383_1 := hx383_1
     have hw383_0 := hx383_0
     cases e383
     obtain ⟨hx383_0, hx383_1, hx383_2, hx383_3, hx383_4⟩ := hb5 HB.out hx383_0 hx383_1 hx383_2 hx383_3 hx383_4
     replace p383 := eq_true p383
     replace q383 := eq_true q383
     have p384 : 0 ≤ (x5_1 : Int) := ode
     have q384 : x5_1 < (l1.length : Int) := ode
     obtain ⟨ad384, e384, hx384_0, hx384_1, hx384_2, hx384_3, hx384_4⟩ := at_T73 HR1.out x5_1 p384 q384
     have hw384_4 := hx384_4
     have hw384_3 := hx384_3
     have hw384_2 := hx384_2
     have hw384_1 := hx384_1
     have hw384_0 := hx384_0
     cases e384
     obtain ⟨hx384_0, hx384_1, hx384_2, hx384_3, hx384_4⟩ := hb5 HB.out hx384_0 hx384_1 hx384_2 hx384_3 hx384_4
     replace p384 := eq_true p384
     replace q384 := eq_true q384
     refine start_ (n := 10) (S := fun w' => w'.cell? (ad383.add ((x5_1).toNat * 5)) = some (.int .i64 ((rd_T73 l0 x5_1).f0)) ∧ w'.cell? ⟨(ad383.add ((x5_1).toNat * 5)).block, (ad383.add ((x5_1).toNat * 5)).off + 1, none⟩ = some (.string ((rd_T73 l0 x5_1).f1)) ∧ w'.cell? ⟨(ad383.add ((x5_1).toNat * 5)).block, (ad383.add ((x5_1).toNat * 5)).off + 2, none⟩ = some (.string ((rd_T73 l0 x5_1).f2)) ∧ w'.cell? ⟨(ad383.add ((x5_1).toNat * 5)).block, (ad383.add ((x5_1).toNat * 5)).off + 3, none⟩ = some (.int .i64 ((rd_T73 l0 x5_1).f3)) ∧ w'.cell? ⟨(ad383.add ((x5_1).toNat * 5)).block, (ad383.add ((x5_1).toNat * 5)).off + 4, none⟩ = some (.int .i64 ((rd_T73 l0 x5_1).f4)) ∧ w'.cell? (ad384.add ((x5_1).toNat * 5)) = some (.int .i64 ((rd_T73 l1 x5_1).f0)) ∧ w'.cell? ⟨(ad384.add ((x5_1).toNat * 5)).block, (ad384.add ((x5_1).toNat * 5)).off + 1, none⟩ = some (.string ((rd_T73 l1 x5_1).f1)) ∧ w'.cell? ⟨(ad384.add ((x5_1).toNat * 5)).block, (ad384.add ((x5_1).toNat * 5)).off + 2, none⟩ = some (.string ((rd_T73 l1 x5_1).f2)) ∧ w'.cell? ⟨(ad384.add ((x5_1).toNat * 5)).block, (ad384.add ((x5_1).toNat * 5)).off + 3, none⟩ = some (.int .i64 ((rd_T73 l1 x5_1).f3)) ∧ w'.cell? ⟨(ad384.add ((x5_1).toNat * 5)).block, (ad384.add ((x5_1).toNat * 5)).off + 4, none⟩ = some (.int .i64 ((rd_T73 l1 x5_1).f4))) (ds := []) #[F_, F_, F_, F_, F_, F_, F_, F_, F_, F_] (by kernel_rfl) rfl rfl ⟨(hbc HB.out hw383_0), (hbc HB.out hw383_1), (hbc HB.out hw383_2), (hbc HB.out hw383_3), (hbc HB.out hw383_4), (hbc HB.out hw384_0), (hbc HB.out hw384_1), (hbc HB.out hw384_2), (hbc HB.out hw384_3), (hbc HB.out hw384_4)⟩ (fun hHeld => ?_); refine with_tabW laws_eqNodeS.tab6 laws_eqNodeS.bits6 (fun HT_ HW_ => ?_)
     generalize wr.drew = w11 at HB hx383_0 hx383_1 hx383_2 hx383_3 hx383_4 hx384_0 hx384_1 hx384_2 hx384_3 hx384_4 hHeld ⊢
     refine pv 0 17 ?_
     refine pv 1 18 ?_
     refine pv 2 19 ?_
     refine pv 4 21 ?_
     refine pv 5 22 ?_
     refine pv 6 23 ?_
     refine tv10 3 20 hHeld ?_
     refine tv10 7 24 hHeld ?_
     refine ov 8 25 (fun K hK => ?_)
     refine gk Tryz.func139 (laws_eqNode.calls _ _ _ _ _ _ _ _ _ _ _ _ A7.out) ?_
     rintro e w12 ⟨rfl, hb⟩
     refine ⟨_, rfl, ?_⟩
     have n0_ := am (below_step bl hb)
     clear HB
     have HB := n0_
     clear n0_
     skip
     skip
     skip
     skip
     refine hK.out _ _ ⟨(hbc HB.out hw383_0), (hbc HB.out hw383_1), (hbc HB.out hw383_2), (hbc HB.out hw383_3), (hbc HB.out hw383_4), (hbc HB.out hw384_0), (hbc HB.out hw384_1), (hbc HB.out hw384_2), (hbc HB.out hw384_3), (hbc HB.out hw384_4)⟩ (fun hHeld => ?_)
     clear hK K
     refine norm_ (a' := ?_) ?_ ?_
     rotate_left
     ·show Act.put _ (some 25) _ = _
      simp only [Act.put, z1, z2, z3, i64_w, i32_w]
      rfl
     refine pv 9 26 ?_
     refine done_ (done_of HT_.out (by kernel_rfl)) ?_
     try go_wp2
     go_ret
     exact ⟨er, bl⟩
    obtain rfl := Option.some.inj H
    go_wp2
    go_ret
    exact ⟨er, bl⟩
 have c3b2 : (l0.length == l1.length) = false := by first | simpa using c3 | (simp at c3 ⊢; omega)
 obtain rfl := Option.some.inj H
 go_enter Tryz.func73, Tryz.ntmps73
 go_wp2
 go_ret
 exact ⟨er, bl⟩

/-! ### laws_eqProduct: function 17 -/
/-- Two products that are alike (another answer is not served). -/
def laws_eqProduct.f (k : Nat) (a0_0 : ByteArray) (a0_1 : Int) (l0_2 : List ByteArray) (l0_3 : List ByteArray) (l0_4 : List (S75)) (l0_5 : List (S73)) (l0_6 : List (S73)) (l0_7 : List (S73)) (a1_0 : ByteArray) (a1_1 : Int) (l1_2 : List ByteArray) (l1_3 : List ByteArray) (l1_4 : List (S75)) (l1_5 : List (S73)) (l1_6 : List (S73)) (l1_7 : List (S73)) : Option Bool := if a0_0.toList = a1_0.toList then (if a0_1 = a1_1 then ((laws_eqStringS.f k l0_2 l1_2).bind fun t0 => (if t0 = true then ((laws_eqStringS.f k l0_3 l1_3).bind fun t1 => (if t1 = true then ((laws_eqParamS.f k l0_4 l1_4).bind fun t2 => (if t2 = true then ((laws_eqNodeS.f k l0_5 l1_5).bind fun t3 => (if t3 = true then ((laws_eqNodeS.f k l0_6 l1_6).bind fun t4 => (if t4 = true then ((laws_eqNodeS.f k l0_7 l1_7).bind fun t5 => (if t5 = true then (some true) else none)) else none)) else none)) else none)) else none)) else none)) else none) else none
theorem laws_eqProduct.mono : ∀ x0 x1 x2 x3 x4 x5 x6 x7 x8 x9 x10 x11 x12 x13 x14 x15 k, LeO (laws_eqProduct.f k x0 x1 x2 x3 x4 x5 x6 x7 x8 x9 x10 x11 x12 x13 x14 x15) (laws_eqProduct.f (k + 1) x0 x1 x2 x3 x4 x5 x6 x7 x8 x9 x10 x11 x12 x13 x14 x15) := by
 intro x0 x1 x2 x3 x4 x5 x6 x7 x8 x9 x10 x11 x12 x13 x14 x15 k
 unfold laws_eqProduct.f
 repeat' (with_reducible first | exact laws_eqNodeS.mono .. | exact laws_eqParamS.mono .. | exact laws_eqStringS.mono .. | exact LeO.refl _ | exact LeO.none _ | refine LeO.ite ?_ ?_ | refine LeO.bind ?_ (fun _ => ?_))
theorem laws_eqProduct.told {k : Nat} {a0_0 : ByteArray} {a0_1 : Int} {l0_2 : List ByteArray} {l0_3 : List ByteArray} {l0_4 : List (S75)} {l0_5 : List (S73)} {l0_6 : List (S73)} {l0_7 : List (S73)} {a1_0 : ByteArray} {a1_1 : Int} {l1_2 : List ByteArray} {l1_3 : List ByteArray} {l1_4 : List (S75)} {l1_5 : List (S73)} {l1_6 : List (S73)} {l1_7 : List (S73)} {r : Bool} (h : laws_eqProduct.f k a0_0 a0_1 l0_2 l0_3 l0_4 l0_5 l0_6 l0_7 a1_0 a1_1 l1_2 l1_3 l1_4 l1_5 l1_6 l1_7 = some r) : r = true ∧ a0_0 = a1_0 ∧ a0_1 = a1_1 ∧ laws_eqStringS.f k l0_2 l1_2 = some true ∧ laws_eqStringS.f k l0_3 l1_3 = some true ∧ laws_eqParamS.f k l0_4 l1_4 = some true ∧ laws_eqNodeS.f k l0_5 l1_5 = some true ∧ laws_eqNodeS.f k l0_6 l1_6 = some true ∧ laws_eqNodeS.f k l0_7 l1_7 = some true := by
 unfold laws_eqProduct.f at h
 by_cases c0 : a0_0.toList = a1_0.toList
 ·rw [if_pos c0] at h
  by_cases c1 : a0_1 = a1_1
  ·rw [if_pos c1] at h
   obtain ⟨t0, e0, h⟩ := Option.bind_eq_some_iff.mp h
   cases t0 with
   | false => rw [if_neg (by decide)] at h; cases h
   | true =>
   rw [if_pos rfl] at h
   obtain ⟨t1, e1, h⟩ := Option.bind_eq_some_iff.mp h
   cases t1 with
   | false => rw [if_neg (by decide)] at h; cases h
   | true =>
   rw [if_pos rfl] at h
   obtain ⟨t2, e2, h⟩ := Option.bind_eq_some_iff.mp h
   cases t2 with
   | false => rw [if_neg (by decide)] at h; cases h
   | true =>
   rw [if_pos rfl] at h
   obtain ⟨t3, e3, h⟩ := Option.bind_eq_some_iff.mp h
   cases t3 with
   | false => rw [if_neg (by decide)] at h; cases h
   | true =>
   rw [if_pos rfl] at h
   obtain ⟨t4, e4, h⟩ := Option.bind_eq_some_iff.mp h
   cases t4 with
   | false => rw [if_neg (by decide)] at h; cases h
   | true =>
   rw [if_pos rfl] at h
   obtain ⟨t5, e5, h⟩ := Option.bind_eq_some_iff.mp h
   cases t5 with
   | false => rw [if_neg (by decide)] at h; cases h
   | true =>
   rw [if_pos rfl] at h
   refine ⟨(Option.some.inj h).symm, ?_, c1, e0, e1, e2, e3, e4, e5⟩
   rw [Lib.toList_data, Lib.toList_data] at c0
   cases a0_0; cases a1_0
   simp only at c0
   rw [Array.toList_inj.1 c0]
  rw [if_neg c1] at h; cases h
 rw [if_neg c0] at h; cases h
theorem laws_eqProduct.fst (w : World) (o o' : Obj) : ((w.alloc o).alloc o').heap[w.heap.size]? = some o := by
 rw [Below.heap_alloc _ _ _ (by show _ < (w.heap.push _).size; simp)]
 show (w.heap.push _)[w.heap.size]? = _
 simp
theorem laws_eqProduct.snd (w : World) (o o' : Obj) : ((w.alloc o).alloc o').heap[w.heap.size + 1]? = some o' := by
 show ((w.heap.push o).push o')[w.heap.size + 1]? = _
 rw [show w.heap.size + 1 = (w.heap.push o).size by simp, Array.getElem?_push, if_pos rfl]
theorem laws_eqProduct.cells {w : World} {g : Nat} {t : TypeId} {v0 v1 v2 v3 v4 v5 v6 v7 : Value} (h : w.heap[g]? = some (.cells #[v0, v1, v2, v3, v4, v5, v6, v7] t (0, 0))) : w.cell? ⟨g, 0, none⟩ = some v0 ∧ w.cell? ⟨g, 1, none⟩ = some v1 ∧ w.cell? ⟨g, 2, none⟩ = some v2 ∧ w.cell? ⟨g, 3, none⟩ = some v3 ∧ w.cell? ⟨g, 4, none⟩ = some v4 ∧ w.cell? ⟨g, 5, none⟩ = some v5 ∧ w.cell? ⟨g, 6, none⟩ = some v6 ∧ w.cell? ⟨g, 7, none⟩ = some v7 := ⟨(blk_cell h 0).trans rfl, (blk_cell h 1).trans rfl, (blk_cell h 2).trans rfl, (blk_cell h 3).trans rfl, (blk_cell h 4).trans rfl, (blk_cell h 5).trans rfl, (blk_cell h 6).trans rfl, (blk_cell h 7).trans rfl⟩
theorem laws_eqProduct.calls (k : Nat) (a0_0 : ByteArray) (a0_1 : Int) (A0_2 : Option Addr) (c0_2 : Nat) (l0_2 : List ByteArray) (A0_3 : Option Addr) (c0_3 : Nat) (l0_3 : List ByteArray) (A0_4 : Option Addr) (c0_4 : Nat) (l0_4 : List (S75)) (A0_5 : Option Addr) (c0_5 : Nat) (l0_5 : List (S73)) (A0_6 : Option Addr) (c0_6 : Nat) (l0_6 : List (S73)) (A0_7 : Option Addr) (c0_7 : Nat) (l0_7 : List (S73)) (a1_0 : ByteArray) (a1_1 : Int) (A1_2 : Option Addr) (c1_2 : Nat) (l1_2 : List ByteArray) (A1_3 : Option Addr) (c1_3 : Nat) (l1_3 : List ByteArray) (A1_4 : Option Addr) (c1_4 : Nat) (l1_4 : List (S75)) (A1_5 : Option Addr) (c1_5 : Nat) (l1_5 : List (S73)) (A1_6 : Option Addr) (c1_6 : Nat) (l1_6 : List (S73)) (A1_7 : Option Addr) (c1_7 : Nat) (l1_7 : List (S73)) (r : Bool) (w : World) (hr0_2 : Kd.C Kd.string w A0_2 l0_2.length l0_2) (hc0_2 : l0_2.length ≤ c0_2) (hr0_3 : Kd.C Kd.string w A0_3 l0_3.length l0_3) (hc0_3 : l0_3.length ≤ c0_3) (hr0_4 : Kd.C k75 w A0_4 l0_4.length l0_4) (hc0_4 : l0_4.length ≤ c0_4) (hr0_5 : Kd.C k73 w A0_5 l0_5.length l0_5) (hc0_5 : l0_5.length ≤ c0_5) (hr0_6 : Kd.C k73 w A0_6 l0_6.length l0_6) (hc0_6 : l0_6.length ≤ c0_6) (hr0_7 : Kd.C k73 w A0_7 l0_7.length l0_7) (hc0_7 : l0_7.length ≤ c0_7) (hr1_2 : Kd.C Kd.string w A1_2 l1_2.length l1_2) (hc1_2 : l1_2.length ≤ c1_2) (hr1_3 : Kd.C Kd.string w A1_3 l1_3.length l1_3) (hc1_3 : l1_3.length ≤ c1_3) (hr1_4 : Kd.C k75 w A1_4 l1_4.length l1_4) (hc1_4 : l1_4.length ≤ c1_4) (hr1_5 : Kd.C k73 w A1_5 l1_5.length l1_5) (hc1_5 : l1_5.length ≤ c1_5) (hr1_6 : Kd.C k73 w A1_6 l1_6.length l1_6) (hc1_6 : l1_6.length ≤ c1_6) (hr1_7 : Kd.C k73 w A1_7 l1_7.length l1_7) (hc1_7 : l1_7.length ≤ c1_7) (h : laws_eqProduct.f k a0_0 a0_1 l0_2 l0_3 l0_4 l0_5 l0_6 l0_7 a1_0 a1_1 l1_2 l1_3 l1_4 l1_5 l1_6 l1_7 = some r) :
  Calls Tryz.prog 17 #[.agg #[.string a0_0, .int .i64 a0_1, .slice A0_2 l0_2.length c0_2, .slice A0_3 l0_3.length c0_3, .slice A0_4 l0_4.length c0_4, .slice A0_5 l0_5.length c0_5, .slice A0_6 l0_6.length c0_6, .slice A0_7 l0_7.length c0_7], .agg #[.string a1_0, .int .i64 a1_1, .slice A1_2 l1_2.length c1_2, .slice A1_3 l1_3.length c1_3, .slice A1_4 l1_4.length c1_4, .slice A1_5 l1_5.length c1_5, .slice A1_6 l1_6.length c1_6, .slice A1_7 l1_7.length c1_7]] w fun e w' => e = .returned (.bool r) ∧ Below w.heap.size w w' := by
 obtain ⟨rfl, rfl, rfl, e0, e1, e2, e3, e4, e5⟩ := laws_eqProduct.told h
 clear h
 have q0 := fun W (hb : Below w.heap.size w W) => laws_eqStringS.calls k A0_2 c0_2 l0_2 A1_2 c1_2 l1_2 true W (Kd.C_below hr0_2 hb) hc0_2 (Kd.C_below hr1_2 hb) hc1_2 e0
 have q1 := fun W (hb : Below w.heap.size w W) => laws_eqStringS.calls k A0_3 c0_3 l0_3 A1_3 c1_3 l1_3 true W (Kd.C_below hr0_3 hb) hc0_3 (Kd.C_below hr1_3 hb) hc1_3 e1
 have q2 := fun W (hb : Below w.heap.size w W) => laws_eqParamS.calls k A0_4 c0_4 l0_4 A1_4 c1_4 l1_4 true W (Kd.C_below hr0_4 hb) hc0_4 (Kd.C_below hr1_4 hb) hc1_4 e2
 have q3 := fun W (hb : Below w.heap.size w W) => laws_eqNodeS.calls k A0_5 c0_5 l0_5 A1_5 c1_5 l1_5 true W (Kd.C_below hr0_5 hb) hc0_5 (Kd.C_below hr1_5 hb) hc1_5 e3
 have q4 := fun W (hb : Below w.heap.size w W) => laws_eqNodeS.calls k A0_6 c0_6 l0_6 A1_6 c1_6 l1_6 true W (Kd.C_below hr0_6 hb) hc0_6 (Kd.C_below hr1_6 hb) hc1_6 e4
 have q5 := fun W (hb : Below w.heap.size w W) => laws_eqNodeS.calls k A0_7 c0_7 l0_7 A1_7 c1_7 l1_7 true W (Kd.C_below hr0_7 hb) hc0_7 (Kd.C_below hr1_7 hb) hc1_7 e5
 have hu := Tryz.underlying32
 have Q1 : ∀ {X W : World}, Below X.heap.size X W → Below w.heap.size w X → Below w.heap.size w W := fun a b => b.trans (a.mono (below_size b))
 clear hr0_2 hc0_2 hr0_3 hc0_3 hr0_4 hc0_4 hr0_5 hc0_5 hr0_6 hc0_6 hr0_7 hc0_7 hr1_2 hc1_2 hr1_3 hc1_3 hr1_4 hc1_4 hr1_5 hc1_5 hr1_6 hc1_6 hr1_7 hc1_7 e0 e1 e2 e3 e4 e5
 go_enter Tryz.func17, Tryz.ntmps17
 go_wp2_with (first | (go_at_call 71; (with_reducible first | refine (q0 _ ?hbl).mono ?_ | refine (q1 _ ?hbl).mono ?_); (case hbl => (repeat (first | exact HB.out | exact Below.refl _ _ | apply below_alloc | apply pw_below_drewN | apply below_drew))); rintro e w1 ⟨rfl, hd⟩; obtain ⟨nd, rfl⟩ := hd.out) | (go_at_call 72; (with_reducible refine (q2 _ ?hbl).mono ?_); (case hbl => (repeat (first | exact HB.out | exact Below.refl _ _ | apply below_alloc | apply pw_below_drewN | apply below_drew))); rintro e w1 ⟨rfl, hb⟩; have n1 := blk_below (g := w.heap.size) (by (with_reducible repeat (first | refine blk_drewN ?_ _ | refine blk_drew ?_)); first | exact B1.out | exact laws_eqProduct.fst _ _ _) hb; have n2 := blk_below (g := w.heap.size + 1) (by (with_reducible repeat (first | refine blk_drewN ?_ _ | refine blk_drew ?_)); first | exact B2.out | exact laws_eqProduct.snd _ _ _) hb; have n3 := am (Q1 hb (by repeat (first | exact HB.out | exact Below.refl _ _ | apply below_alloc | apply pw_below_drewN | apply below_drew))); (try clear B1 B2 HB); (try clear z0 z1 z2 z3 z4 z5 z6 z7); (try clear y0 y1 y2 y3 y4 y5 y6 y7); obtain ⟨z0, z1, z2, z3, z4, z5, z6, z7⟩ := laws_eqProduct.cells n1; obtain ⟨y0, y1, y2, y3, y4, y5, y6, y7⟩ := laws_eqProduct.cells n2; have B1 := Aside0.mk n1; have B2 := Aside0.mk n2; have HB := n3; clear n1 n2 n3 hb) | (go_at_call 73; (with_reducible first | refine (q3 _ ?hbl).mono ?_ | refine (q4 _ ?hbl).mono ?_ | refine (q5 _ ?hbl).mono ?_); (case hbl => (repeat (first | exact HB.out | exact Below.refl _ _ | apply below_alloc | apply pw_below_drewN | apply below_drew))); rintro e w1 ⟨rfl, hb⟩; have n1 := blk_below (g := w.heap.size) (by (with_reducible repeat (first | refine blk_drewN ?_ _ | refine blk_drew ?_)); first | exact B1.out | exact laws_eqProduct.fst _ _ _) hb; have n2 := blk_below (g := w.heap.size + 1) (by (with_reducible repeat (first | refine blk_drewN ?_ _ | refine blk_drew ?_)); first | exact B2.out | exact laws_eqProduct.snd _ _ _) hb; have n3 := am (Q1 hb (by repeat (first | exact HB.out | exact Below.refl _ _ | apply below_alloc | apply pw_below_drewN | apply below_drew))); (try clear B1 B2 HB); (try clear z0 z1 z2 z3 z4 z5 z6 z7); (try clear y0 y1 y2 y3 y4 y5 y6 y7); obtain ⟨z0, z1, z2, z3, z4, z5, z6, z7⟩ := laws_eqProduct.cells n1; obtain ⟨y0, y1, y2, y3, y4, y5, y6, y7⟩ := laws_eqProduct.cells n2; have B1 := Aside0.mk n1; have B2 := Aside0.mk n2; have HB := n3; clear n1 n2 n3 hb))
 go_ret
 exact ⟨rfl, by repeat (first | exact HB.out | apply pw_below_drewN | apply below_drew)⟩

/-! ### laws_FnExactProductRight: function 3 -/
def laws_FnExactProductRight.f (k : Nat) (a0_0 : ByteArray) (a0_1 : Int) (l0_2 : List ByteArray) (l0_3 : List ByteArray) (l0_4 : List (S174)) (l0_5 : List (S176)) (l0_6 : List (S176)) (l0_7 : List (S176)) : Option (Bool) := (laws_szProduct.f k a0_0 a0_1 l0_2 l0_3 l0_4 l0_5 l0_6 l0_7 1048576).bind fun t387 => (if t387 < 0 then (some true) else ((laws_toProduct.f k a0_0 a0_1 l0_2 l0_3 l0_4 l0_5 l0_6 l0_7).bind fun bt388 => ((spec_ProductRight.f k bt388.1 bt388.2.1 bt388.2.2.1 bt388.2.2.2.1 bt388.2.2.2.2.1 bt388.2.2.2.2.2.1 bt388.2.2.2.2.2.2.1 bt388.2.2.2.2.2.2.2).bind fun t408 => ((laws_toProduct.f k a0_0 a0_1 l0_2 l0_3 l0_4 l0_5 l0_6 l0_7).bind fun bt409 => ((impl_ProductRight.f k bt409.1 bt409.2.1 bt409.2.2.1 bt409.2.2.2.1 bt409.2.2.2.2.1 bt409.2.2.2.2.2.1 bt409.2.2.2.2.2.2.1 bt409.2.2.2.2.2.2.2).bind fun t430 => (if (t430 != t408) = true then (none) else ((laws_toProduct.f k a0_0 a0_1 l0_2 l0_3 l0_4 l0_5 l0_6 l0_7).bind fun bt431 => ((laws_eqProduct.f k bt409.1 bt409.2.1 bt409.2.2.1 bt409.2.2.2.1 bt409.2.2.2.2.1 bt409.2.2.2.2.2.1 bt409.2.2.2.2.2.2.1 bt409.2.2.2.2.2.2.2 bt431.1 bt431.2.1 bt431.2.2.1 bt431.2.2.2.1 bt431.2.2.2.2.1 bt431.2.2.2.2.2.1 bt431.2.2.2.2.2.2.1 bt431.2.2.2.2.2.2.2).bind fun t451 => (if t451 = true then (some true) else (none))))))))))
theorem laws_FnExactProductRight.mono : ∀ a0 a1 a2 a3 a4 a5 a6 a7 k, LeO (laws_FnExactProductRight.f k a0 a1 a2 a3 a4 a5 a6 a7) (laws_FnExactProductRight.f (k + 1) a0 a1 a2 a3 a4 a5 a6 a7) := by
 intro a0 a1 a2 a3 a4 a5 a6 a7 k
 unfold laws_FnExactProductRight.f
 repeat' (with_reducible first | exact impl_ProductRight.mono .. | exact laws_eqProduct.mono .. | exact laws_szProduct.mono .. | exact laws_toProduct.mono .. | exact spec_ProductRight.mono .. | exact LeO.refl _ | exact LeO.none _ | refine LeO.ite ?_ ?_ | refine LeO.bind ?_ (fun _ => ?_))
theorem laws_FnExactProductRight.calls (k : Nat) (a0_0 : ByteArray) (a0_1 : Int) (A0_2 : Option Addr) (c0_2 : Nat) (l0_2 : List ByteArray) (A0_3 : Option Addr) (c0_3 : Nat) (l0_3 : List ByteArray) (A0_4 : Option Addr) (c0_4 : Nat) (l0_4 : List (S174)) (A0_5 : Option Addr) (c0_5 : Nat) (l0_5 : List (S176)) (A0_6 : Option Addr) (c0_6 : Nat) (l0_6 : List (S176)) (A0_7 : Option Addr) (c0_7 : Nat) (l0_7 : List (S176)) (r : Bool) (w : World) (hr0_2 : Kd.C Kd.string w A0_2 l0_2.length l0_2) (hc0_2 : l0_2.length ≤ c0_2) (hr0_3 : Kd.C Kd.string w A0_3 l0_3.length l0_3) (hc0_3 : l0_3.length ≤ c0_3) (hr0_4 : Kd.C k174 w A0_4 l0_4.length l0_4) (hc0_4 : l0_4.length ≤ c0_4) (hr0_5 : Kd.C k176 w A0_5 l0_5.length l0_5) (hc0_5 : l0_5.length ≤ c0_5) (hr0_6 : Kd.C k176 w A0_6 l0_6.length l0_6) (hc0_6 : l0_6.length ≤ c0_6) (hr0_7 : Kd.C k176 w A0_7 l0_7.length l0_7) (hc0_7 : l0_7.length ≤ c0_7) (hsh : Sh w) (h : laws_FnExactProductRight.f k a0_0 a0_1 l0_2 l0_3 l0_4 l0_5 l0_6 l0_7 = some r) :
  Calls Tryz.prog 3 #[.agg #[.string a0_0, .int .i64 a0_1, .slice A0_2 l0_2.length c0_2, .slice A0_3 l0_3.length c0_3, .slice A0_4 l0_4.length c0_4, .slice A0_5 l0_5.length c0_5, .slice A0_6 l0_6.length c0_6, .slice A0_7 l0_7.length c0_7]] w fun e w' => e = .returned (.bool r) ∧ Below w.heap.size w w' := by
 have hu26 := Tryz.underlying26
 have hu32 := Tryz.underlying32
 have HR0_2 := am hr0_2
 have HC0_2 := am hc0_2
 clear hr0_2 hc0_2
 have HR0_3 := am hr0_3
 have HC0_3 := am hc0_3
 clear hr0_3 hc0_3
 have HR0_4 := am hr0_4
 have HC0_4 := am hc0_4
 clear hr0_4 hc0_4
 have HR0_5 := am hr0_5
 have HC0_5 := am hc0_5
 clear hr0_5 hc0_5
 have HR0_6 := am hr0_6
 have HC0_6 := am hc0_6
 clear hr0_6 hc0_6
 have HR0_7 := am hr0_7
 have HC0_7 := am hc0_7
 clear hr0_7 hc0_7
 have HSH := am hsh; clear hsh
 have HB := am (Below.refl w.heap.size w)
 have H := h
 clear h
 unfold laws_FnExactProductRight.f at H
 revert H; refine bj fun t387 A2 H => ?_
 revert H; refine iDb (fun c3b0 H => ?_) fun c3b0 H => ?_
 ·obtain rfl := Option.some.inj H
  go_enter Tryz.func3, Tryz.ntmps3
  go_wp2_with (first | (refine bx 1 #[.string a0_0, .int .i64 a0_1, .slice A0_2 l0_2.length c0_2, .slice A0_3 l0_3.length c0_3, .slice A0_4 l0_4.length c0_4, .slice A0_5 l0_5.length c0_5, .slice A0_6 l0_6.length c0_6, .slice A0_7 l0_7.length c0_7] 26 ?_; intro gb386 hg w4 hbox hb; have BK386 := am (hbox); have GW386 := am (bsz hg : w.heap.size ≤ gb386); have GE386 := GW386; replace HB := am (below_step bl hb); clear hb hbox hg; obtain ⟨z5_0, z5_1, z5_2, z5_3, z5_4, z5_5, z5_6, z5_7, y5_0, y5_1, y5_2, y5_3, y5_4, y5_5, y5_6, y5_7⟩ := blk8 BK386.out) | (refine gc 13 (some 9) Tryz.func13 (laws_szProduct.calls _ _ _ _ _ _ _ _ _ _ _ _ _ _ _ _ _ _ _ _ _ _ _ _ ?side1 ?side2 ?side3 ?side4 ?side5 ?side6 ?side7 ?side8 ?side9 ?side10 ?side11 ?side12 A2.out) ?_; (case side1 => exact cb HR0_2.out); (case side2 => exact HC0_2.out); (case side3 => exact cb HR0_3.out); (case side4 => exact HC0_3.out); (case side5 => exact cb HR0_4.out); (case side6 => exact HC0_4.out); (case side7 => exact cb HR0_5.out); (case side8 => exact HC0_5.out); (case side9 => exact cb HR0_6.out); (case side10 => exact HC0_6.out); (case side11 => exact cb HR0_7.out); (case side12 => exact HC0_7.out); rintro e w6 ⟨rfl, hb⟩; refine ⟨_, rfl, ?_⟩; replace BK386 := am (bkb BK386.out hb); replace HB := am (below_step bl hb); clear hb))
  go_ret
  exact ⟨er, bl⟩
 replace H := bi H; obtain ⟨⟨t388, t389, t390, t393, t396, t399, t402, t405⟩, A7, H⟩ := H; dsimp only at H
 revert H; refine bj fun t408 A8 H => ?_
 replace H := bi H; obtain ⟨⟨t409, t410, t411, t414, t417, t420, t423, t426⟩, A9, H⟩ := H; dsimp only at H
 revert H; refine bj fun t430 A10 H => ?_
 revert H; refine i9 fun c11 H => ?_
 have c11b0 : (t430 != t408) = false := by simpa using c11
 (try (have c11b1 : decide (t430 = t408) = true := by simpa using c11))
 (try (have c11b2 : (t430 == t408) = true := by simpa using c11))
 clear c11
 replace H := bi H; obtain ⟨⟨t431, t432, t433, t436, t439, t442, t445, t448⟩, A12, H⟩ := H; dsimp only at H
 revert H; refine bj fun t451 A13 H => ?_
 replace H := j0 H; obtain ⟨rfl, H⟩ := H
 obtain rfl := Option.some.inj H
 go_enter Tryz.func3, Tryz.ntmps3
 try go_wp2_with (first | (refine bx 1 #[.string a0_0, .int .i64 a0_1, .slice A0_2 l0_2.length c0_2, .slice A0_3 l0_3.length c0_3, .slice A0_4 l0_4.length c0_4, .slice A0_5 l0_5.length c0_5, .slice A0_6 l0_6.length c0_6, .slice A0_7 l0_7.length c0_7] 26 ?_; intro gb386 hg w15 hbox hb; have BK386 := am (hbox); have GW386 := am (bsz hg : w.heap.size ≤ gb386); have GE386 := GW386; replace HB := am (below_step bl hb); clear hb hbox hg; obtain ⟨z16_0, z16_1, z16_2, z16_3, z16_4, z16_5, z16_6, z16_7, y16_0, y16_1, y16_2, y16_3, y16_4, y16_5, y16_6, y16_7⟩ := blk8 BK386.out) | (refine gc 13 (some 9) Tryz.func13 (laws_szProduct.calls _ _ _ _ _ _ _ _ _ _ _ _ _ _ _ _ _ _ _ _ _ _ _ _ ?side1 ?side2 ?side3 ?side4 ?side5 ?side6 ?side7 ?side8 ?side9 ?side10 ?side11 ?side12 A2.out) ?_; (case side1 => exact cb HR0_2.out); (case side2 => exact HC0_2.out); (case side3 => exact cb HR0_3.out); (case side4 => exact HC0_3.out); (case side5 => exact cb HR0_4.out); (case side6 => exact HC0_4.out); (case side7 => exact cb HR0_5.out); (case side8 => exact HC0_5.out); (case side9 => exact cb HR0_6.out); (case side10 => exact HC0_6.out); (case side11 => exact cb HR0_7.out); (case side12 => exact HC0_7.out); rintro e w17 ⟨rfl, hb⟩; refine ⟨_, rfl, ?_⟩; replace BK386 := am (bkb BK386.out hb); replace HB := am (below_step bl hb); clear hb; obtain ⟨z18_0, z18_1, z18_2, z18_3, z18_4, z18_5, z18_6, z18_7, y18_0, y18_1, y18_2, y18_3, y18_4, y18_5, y18_6, y18_7⟩ := blk8 BK386.out) | (refine gc 15 (some 13) Tryz.func15 (laws_toProduct.calls _ _ _ _ _ _ _ _ _ _ _ _ _ _ _ _ _ _ _ _ _ _ _ _ _ _ _ _ _ _ ?side1 ?side2 ?side3 ?side4 ?side5 ?side6 ?side7 ?side8 ?side9 ?side10 ?side11 ?side12 A7.out) ?_; (case side1 => exact cb HR0_2.out); (case side2 => exact HC0_2.out); (case side3 => exact cb HR0_3.out); (case side4 => exact HC0_3.out); (case side5 => exact cb HR0_4.out); (case side6 => exact HC0_4.out); (case side7 => exact cb HR0_5.out); (case side8 => exact HC0_5.out); (case side9 => exact cb HR0_6.out); (case side10 => exact HC0_6.out); (case side11 => exact cb HR0_7.out); (case side12 => exact HC0_7.out); rintro e w19 ⟨v391, v394, v397, v400, v403, v406, rfl, ho0, ho1, ho2, ho3, ho4, ho5, hb⟩; refine ⟨_, rfl, ?_⟩; have HO392 := am (Kd.R_lower ho0 (below_size bl)); have HO395 := am (Kd.R_lower ho1 (below_size bl)); have HO398 := am (Kd.R_lower ho2 (below_size bl)); have HO401 := am (Kd.R_lower ho3 (below_size bl)); have HO404 := am (Kd.R_lower ho4 (below_size bl)); have HO407 := am (Kd.R_lower ho5 (below_size bl)); replace BK386 := am (bkb BK386.out hb); replace HB := am (below_step bl hb); clear hb ho0 ho1 ho2 ho3 ho4 ho5; obtain ⟨Ao20, co20, eo20⟩ := Kd.R_slice HO392.out; subst eo20; obtain ⟨Ao21, co21, eo21⟩ := Kd.R_slice HO395.out; subst eo21; obtain ⟨Ao22, co22, eo22⟩ := Kd.R_slice HO398.out; subst eo22; obtain ⟨Ao23, co23, eo23⟩ := Kd.R_slice HO401.out; subst eo23; obtain ⟨Ao24, co24, eo24⟩ := Kd.R_slice HO404.out; subst eo24; obtain ⟨Ao25, co25, eo25⟩ := Kd.R_slice HO407.out; subst eo25) | (refine gc 14 (some 14) Tryz.func14 (spec_ProductRight.calls _ _ _ _ _ _ _ _ _ _ _ _ _ _ _ _ _ _ _ _ _ _ _ ?side1 ?side2 ?side3 ?side4 ?side5 ?side6 ?side7 ?side8 ?side9 ?side10 ?side11 ?side12 A8.out) ?_; (case side1 => exact cc (Kd.R_reads' HO392.out).2.2); (case side2 => exact (Kd.R_reads' HO392.out).2.1); (case side3 => exact cc (Kd.R_reads' HO395.out).2.2); (case side4 => exact (Kd.R_reads' HO395.out).2.1); (case side5 => exact cc (Kd.R_reads' HO398.out).2.2); (case side6 => exact (Kd.R_reads' HO398.out).2.1); (case side7 => exact cc (Kd.R_reads' HO401.out).2.2); (case side8 => exact (Kd.R_reads' HO401.out).2.1); (case side9 => exact cc (Kd.R_reads' HO404.out).2.2); (case side10 => exact (Kd.R_reads' HO404.out).2.1); (case side11 => exact cc (Kd.R_reads' HO407.out).2.2); (case side12 => exact (Kd.R_reads' HO407.out).2.1); rintro e w26 ⟨rfl, hb⟩; refine ⟨_, rfl, ?_⟩; replace HO392 := am (rb HO392.out hb); replace HO395 := am (rb HO395.out hb); replace HO398 := am (rb HO398.out hb); replace HO401 := am (rb HO401.out hb); replace HO404 := am (rb HO404.out hb); replace HO407 := am (rb HO407.out hb); replace BK386 := am (bkb BK386.out hb); replace HB := am (below_step bl hb); clear hb; obtain ⟨z27_0, z27_1, z27_2, z27_3, z27_4, z27_5, z27_6, z27_7, y27_0, y27_1, y27_2, y27_3, y27_4, y27_5, y27_6, y27_7⟩ := blk8 BK386.out) | (refine gc 15 (some 16) Tryz.func15 (laws_toProduct.calls _ _ _ _ _ _ _ _ _ _ _ _ _ _ _ _ _ _ _ _ _ _ _ _ _ _ _ _ _ _ ?side1 ?side2 ?side3 ?side4 ?side5 ?side6 ?side7 ?side8 ?side9 ?side10 ?side11 ?side12 A9.out) ?_; (case side1 => exact cb HR0_2.out); (case side2 => exact HC0_2.out); (case side3 => exact cb HR0_3.out); (case side4 => exact HC0_3.out); (case side5 => exact cb HR0_4.out); (case side6 => exact HC0_4.out); (case side7 => exact cb HR0_5.out); (case side8 => exact HC0_5.out); (case side9 => exact cb HR0_6.out); (case side10 => exact HC0_6.out); (case side11 => exact cb HR0_7.out); (case side12 => exact HC0_7.out); rintro e w28 ⟨v412, v415, v418, v421, v424, v427, rfl, ho0, ho1, ho2, ho3, ho4, ho5, hb⟩; refine ⟨_, rfl, ?_⟩; have HO413 := am (Kd.R_lower (Kd.R_new' (Kd.R_new' ho0 (Kd.R_lt (kr HO392.out))) (Kd.R_lt (kr HO395.out))) (below_size bl)); have HO416 := am (Kd.R_lower (Kd.R_new' (Kd.R_new' ho1 (Kd.R_lt (kr HO392.out))) (Kd.R_lt (kr HO395.out))) (below_size bl)); replace HO392 := am (Kd.R_mono (Kd.R_told (Kd.R_told (Kd.R_old (kr HO392.out) hb) (Kd.R_base ho0)) (Kd.R_base ho1)) (fun _ h_ => h_.1)); replace HO395 := am (Kd.R_mono (Kd.R_told (Kd.R_told (Kd.R_old (kr HO395.out) hb) (Kd.R_base ho0)) (Kd.R_base ho1)) (fun _ h_ => h_.1)); have HO419 := am (Kd.R_lower (Kd.R_new' ho2 (Kd.R_lt (kr HO398.out))) (below_size bl)); replace HO398 := am (Kd.R_elder' (kr HO398.out) (Kd.R_base ho2) hb); have HO422 := am (Kd.R_lower (Kd.R_new' (Kd.R_new' (Kd.R_new' ho3 (Kd.R_lt (kr HO401.out))) (Kd.R_lt (kr HO404.out))) (Kd.R_lt (kr HO407.out))) (below_size bl)); have HO425 := am (Kd.R_lower (Kd.R_new' (Kd.R_new' (Kd.R_new' ho4 (Kd.R_lt (kr HO401.out))) (Kd.R_lt (kr HO404.out))) (Kd.R_lt (kr HO407.out))) (below_size bl)); have HO428 := am (Kd.R_lower (Kd.R_new' (Kd.R_new' (Kd.R_new' ho5 (Kd.R_lt (kr HO401.out))) (Kd.R_lt (kr HO404.out))) (Kd.R_lt (kr HO407.out))) (below_size bl)); replace HO401 := am (Kd.R_mono (Kd.R_told (Kd.R_told (Kd.R_told (Kd.R_old (kr HO401.out) hb) (Kd.R_base ho3)) (Kd.R_base ho4)) (Kd.R_base ho5)) (fun _ h_ => h_.1)); replace HO404 := am (Kd.R_mono (Kd.R_told (Kd.R_told (Kd.R_told (Kd.R_old (kr HO404.out) hb) (Kd.R_base ho3)) (Kd.R_base ho4)) (Kd.R_base ho5)) (fun _ h_ => h_.1)); replace HO407 := am (Kd.R_mono (Kd.R_told (Kd.R_told (Kd.R_told (Kd.R_old (kr HO407.out) hb) (Kd.R_base ho3)) (Kd.R_base ho4)) (Kd.R_base ho5)) (fun _ h_ => h_.1)); replace BK386 := am (bkb BK386.out hb); replace HB := am (below_step bl hb); clear hb ho0 ho1 ho2 ho3 ho4 ho5) | (refine bx 5 #[.string (⟨#[]⟩ : ByteArray), .int .i64 0, .slice none 0 0, .slice none 0 0, .slice none 0 0, .slice none 0 0, .slice none 0 0, .slice none 0 0] 32 ?_; intro gb429 hg w29 hbox hb; replace HO392 := am (rb HO392.out hb); replace HO395 := am (rb HO395.out hb); replace HO398 := am (rb HO398.out hb); replace HO401 := am (rb HO401.out hb); replace HO404 := am (rb HO404.out hb); replace HO407 := am (rb HO407.out hb); replace HO413 := am (rb HO413.out hb); replace HO416 := am (rb HO416.out hb); replace HO419 := am (rb HO419.out hb); replace HO422 := am (rb HO422.out hb); replace HO425 := am (rb HO425.out hb); replace HO428 := am (rb HO428.out hb); have BK429 := am (hbox); have GW429 := am (bsz hg : w.heap.size ≤ gb429); have GE429 := GW429; have NB386_429 := am (ne1 hg BK386.out); have NB429_386 := am NB386_429.out.symm; replace BK386 := am (bkb BK386.out hb); replace HB := am (below_step bl hb); clear hb hbox hg; have hnb30 := NB429_386.out; have hnc30 := NB386_429.out; obtain ⟨z31_0, z31_1, z31_2, z31_3, z31_4, z31_5, z31_6, z31_7, y31_0, y31_1, y31_2, y31_3, y31_4, y31_5, y31_6, y31_7⟩ := blk8 BK429.out; obtain ⟨Ao32, co32, eo32⟩ := Kd.R_slice HO413.out; subst eo32; obtain ⟨Ao33, co33, eo33⟩ := Kd.R_slice HO416.out; subst eo33; obtain ⟨Ao34, co34, eo34⟩ := Kd.R_slice HO419.out; subst eo34; obtain ⟨Ao35, co35, eo35⟩ := Kd.R_slice HO422.out; subst eo35; obtain ⟨Ao36, co36, eo36⟩ := Kd.R_slice HO425.out; subst eo36; obtain ⟨Ao37, co37, eo37⟩ := Kd.R_slice HO428.out; subst eo37) | ((with_reducible refine gate_store (t := 32) (p := 5) rfl ?_); refine store_event (t := 32) (p := 5) (v := ?vo_w38) (w1 := ((((((((w29.setCell ⟨gb429, 0, none⟩ (.string t409)).setCell ⟨gb429, 1, none⟩ (.int .i64 t410)).setCell ⟨gb429, 2, none⟩ (.slice Ao32 t411.length co32)).setCell ⟨gb429, 3, none⟩ (.slice Ao33 t414.length co33)).setCell ⟨gb429, 4, none⟩ (.slice Ao34 t417.length co34)).setCell ⟨gb429, 5, none⟩ (.slice Ao35 t420.length co35)).setCell ⟨gb429, 6, none⟩ (.slice Ao36 t423.length co36)).setCell ⟨gb429, 7, none⟩ (.slice Ao37 t426.length co37))) ?hg ?ho ?hn ?hr ?_; (case ho => rfl); (case hg => rfl); (case hn => rfl); (case hr => first | (go_simp; done) | (go_simp; rfl)); intro w38 hw; have n0_ : Aside0 (Kd.R Kd.string 9 w38 w.heap.size (fun k_ => some k_ ≠ (.slice Ao21 t393.length co21 : Value).ownBlock ∧ some k_ ≠ (.slice Ao32 t411.length co32 : Value).ownBlock ∧ some k_ ≠ (.slice Ao33 t414.length co33 : Value).ownBlock) (.slice Ao20 t390.length co20) t390) := ⟨(by rw [hw]; exact (by (with_reducible repeat (first | apply Kd.R_alloc | apply Kd.R_drewN | apply Kd.R_drew)); exact Kd.R_mono (Kd.R_far (p := ⟨gb429, 7, none⟩) (Kd.R_far (p := ⟨gb429, 6, none⟩) (Kd.R_far (p := ⟨gb429, 5, none⟩) (Kd.R_far (p := ⟨gb429, 4, none⟩) (Kd.R_far (p := ⟨gb429, 3, none⟩) (Kd.R_far (p := ⟨gb429, 2, none⟩) (Kd.R_far (p := ⟨gb429, 1, none⟩) (Kd.R_far (p := ⟨gb429, 0, none⟩) (Kd.R_types HO392.out BK429.out (by decide)) (fun _ hk => hk.2) (.string t409)) (fun _ hk => hk.2) (.int .i64 t410)) (fun _ hk => hk.2) (.slice Ao32 t411.length co32)) (fun _ hk => hk.2) (.slice Ao33 t414.length co33)) (fun _ hk => hk.2) (.slice Ao34 t417.length co34)) (fun _ hk => hk.2) (.slice Ao35 t420.length co35)) (fun _ hk => hk.2) (.slice Ao36 t423.length co36)) (fun _ hk => hk.2) (.slice Ao37 t426.length co37)) (fun _ hk => ⟨hk.1.1.1, ⟨hk.1.1.2, hk.1.2⟩⟩)))⟩; have n1_ : Aside0 (Kd.R Kd.string 9 w38 w.heap.size (fun k_ => some k_ ≠ (.slice Ao20 t390.length co20 : Value).ownBlock ∧ some k_ ≠ (.slice Ao32 t411.length co32 : Value).ownBlock ∧ some k_ ≠ (.slice Ao33 t414.length co33 : Value).ownBlock) (.slice Ao21 t393.length co21) t393) := ⟨(by rw [hw]; exact (by (with_reducible repeat (first | apply Kd.R_alloc | apply Kd.R_drewN | apply Kd.R_drew)); exact Kd.R_mono (Kd.R_far (p := ⟨gb429, 7, none⟩) (Kd.R_far (p := ⟨gb429, 6, none⟩) (Kd.R_far (p := ⟨gb429, 5, none⟩) (Kd.R_far (p := ⟨gb429, 4, none⟩) (Kd.R_far (p := ⟨gb429, 3, none⟩) (Kd.R_far (p := ⟨gb429, 2, none⟩) (Kd.R_far (p := ⟨gb429, 1, none⟩) (Kd.R_far (p := ⟨gb429, 0, none⟩) (Kd.R_types HO395.out BK429.out (by decide)) (fun _ hk => hk.2) (.string t409)) (fun _ hk => hk.2) (.int .i64 t410)) (fun _ hk => hk.2) (.slice Ao32 t411.length co32)) (fun _ hk => hk.2) (.slice Ao33 t414.length co33)) (fun _ hk => hk.2) (.slice Ao34 t417.length co34)) (fun _ hk => hk.2) (.slice Ao35 t420.length co35)) (fun _ hk => hk.2) (.slice Ao36 t423.length co36)) (fun _ hk => hk.2) (.slice Ao37 t426.length co37)) (fun _ hk => ⟨hk.1.1.1, ⟨hk.1.1.2, hk.1.2⟩⟩)))⟩; have n2_ : Aside0 (Kd.R k75 75 w38 w.heap.size (fun k_ => some k_ ≠ (.slice Ao34 t417.length co34 : Value).ownBlock) (.slice Ao22 t396.length co22) t396) := ⟨(by rw [hw]; exact (by (with_reducible repeat (first | apply Kd.R_alloc | apply Kd.R_drewN | apply Kd.R_drew)); exact Kd.R_mono (Kd.R_far (p := ⟨gb429, 7, none⟩) (Kd.R_far (p := ⟨gb429, 6, none⟩) (Kd.R_far (p := ⟨gb429, 5, none⟩) (Kd.R_far (p := ⟨gb429, 4, none⟩) (Kd.R_far (p := ⟨gb429, 3, none⟩) (Kd.R_far (p := ⟨gb429, 2, none⟩) (Kd.R_far (p := ⟨gb429, 1, none⟩) (Kd.R_far (p := ⟨gb429, 0, none⟩) (Kd.R_types HO398.out BK429.out (by decide)) (fun _ hk => hk.2) (.string t409)) (fun _ hk => hk.2) (.int .i64 t410)) (fun _ hk => hk.2) (.slice Ao32 t411.length co32)) (fun _ hk => hk.2) (.slice Ao33 t414.length co33)) (fun _ hk => hk.2) (.slice Ao34 t417.length co34)) (fun _ hk => hk.2) (.slice Ao35 t420.length co35)) (fun _ hk => hk.2) (.slice Ao36 t423.length co36)) (fun _ hk => hk.2) (.slice Ao37 t426.length co37)) (fun _ hk => hk.1.2)))⟩; have n3_ : Aside0 (Kd.R k73 73 w38 w.heap.size (fun k_ => some k_ ≠ (.slice Ao24 t402.length co24 : Value).ownBlock ∧ some k_ ≠ (.slice Ao25 t405.length co25 : Value).ownBlock ∧ some k_ ≠ (.slice Ao35 t420.length co35 : Value).ownBlock ∧ some k_ ≠ (.slice Ao36 t423.length co36 : Value).ownBlock ∧ some k_ ≠ (.slice Ao37 t426.length co37 : Value).ownBlock) (.slice Ao23 t399.length co23) t399) := ⟨(by rw [hw]; exact (by (with_reducible repeat (first | apply Kd.R_alloc | apply Kd.R_drewN | apply Kd.R_drew)); exact Kd.R_mono (Kd.R_far (p := ⟨gb429, 7, none⟩) (Kd.R_far (p := ⟨gb429, 6, none⟩) (Kd.R_far (p := ⟨gb429, 5, none⟩) (Kd.R_far (p := ⟨gb429, 4, none⟩) (Kd.R_far (p := ⟨gb429, 3, none⟩) (Kd.R_far (p := ⟨gb429, 2, none⟩) (Kd.R_far (p := ⟨gb429, 1, none⟩) (Kd.R_far (p := ⟨gb429, 0, none⟩) (Kd.R_types HO401.out BK429.out (by decide)) (fun _ hk => hk.2) (.string t409)) (fun _ hk => hk.2) (.int .i64 t410)) (fun _ hk => hk.2) (.slice Ao32 t411.length co32)) (fun _ hk => hk.2) (.slice Ao33 t414.length co33)) (fun _ hk => hk.2) (.slice Ao34 t417.length co34)) (fun _ hk => hk.2) (.slice Ao35 t420.length co35)) (fun _ hk => hk.2) (.slice Ao36 t423.length co36)) (fun _ hk => hk.2) (.slice Ao37 t426.length co37)) (fun _ hk => ⟨hk.1.1.1.1.1, ⟨hk.1.1.1.1.2, ⟨hk.1.1.1.2, ⟨hk.1.1.2, hk.1.2⟩⟩⟩⟩)))⟩; have n4_ : Aside0 (Kd.R k73 73 w38 w.heap.size (fun k_ => some k_ ≠ (.slice Ao23 t399.length co23 : Value).ownBlock ∧ some k_ ≠ (.slice Ao25 t405.length co25 : Value).ownBlock ∧ some k_ ≠ (.slice Ao35 t420.length co35 : Value).ownBlock ∧ some k_ ≠ (.slice Ao36 t423.length co36 : Value).ownBlock ∧ some k_ ≠ (.slice Ao37 t426.length co37 : Value).ownBlock) (.slice Ao24 t402.length co24) t402) := ⟨(by rw [hw]; exact (by (with_reducible repeat (first | apply Kd.R_alloc | apply Kd.R_drewN | apply Kd.R_drew)); exact Kd.R_mono (Kd.R_far (p := ⟨gb429, 7, none⟩) (Kd.R_far (p := ⟨gb429, 6, none⟩) (Kd.R_far (p := ⟨gb429, 5, none⟩) (Kd.R_far (p := ⟨gb429, 4, none⟩) (Kd.R_far (p := ⟨gb429, 3, none⟩) (Kd.R_far (p := ⟨gb429, 2, none⟩) (Kd.R_far (p := ⟨gb429, 1, none⟩) (Kd.R_far (p := ⟨gb429, 0, none⟩) (Kd.R_types HO404.out BK429.out (by decide)) (fun _ hk => hk.2) (.string t409)) (fun _ hk => hk.2) (.int .i64 t410)) (fun _ hk => hk.2) (.slice Ao32 t411.length co32)) (fun _ hk => hk.2) (.slice Ao33 t414.length co33)) (fun _ hk => hk.2) (.slice Ao34 t417.length co34)) (fun _ hk => hk.2) (.slice Ao35 t420.length co35)) (fun _ hk => hk.2) (.slice Ao36 t423.length co36)) (fun _ hk => hk.2) (.slice Ao37 t426.length co37)) (fun _ hk => ⟨hk.1.1.1.1.1, ⟨hk.1.1.1.1.2, ⟨hk.1.1.1.2, ⟨hk.1.1.2, hk.1.2⟩⟩⟩⟩)))⟩; have n5_ : Aside0 (Kd.R k73 73 w38 w.heap.size (fun k_ => some k_ ≠ (.slice Ao23 t399.length co23 : Value).ownBlock ∧ some k_ ≠ (.slice Ao24 t402.length co24 : Value).ownBlock ∧ some k_ ≠ (.slice Ao35 t420.length co35 : Value).ownBlock ∧ some k_ ≠ (.slice Ao36 t423.length co36 : Value).ownBlock ∧ some k_ ≠ (.slice Ao37 t426.length co37 : Value).ownBlock) (.slice Ao25 t405.length co25) t405) := ⟨(by rw [hw]; exact (by (with_reducible repeat (first | apply Kd.R_alloc | apply Kd.R_drewN | apply Kd.R_drew)); exact Kd.R_mono (Kd.R_far (p := ⟨gb429, 7, none⟩) (Kd.R_far (p := ⟨gb429, 6, none⟩) (Kd.R_far (p := ⟨gb429, 5, none⟩) (Kd.R_far (p := ⟨gb429, 4, none⟩) (Kd.R_far (p := ⟨gb429, 3, none⟩) (Kd.R_far (p := ⟨gb429, 2, none⟩) (Kd.R_far (p := ⟨gb429, 1, none⟩) (Kd.R_far (p := ⟨gb429, 0, none⟩) (Kd.R_types HO407.out BK429.out (by decide)) (fun _ hk => hk.2) (.string t409)) (fun _ hk => hk.2) (.int .i64 t410)) (fun _ hk => hk.2) (.slice Ao32 t411.length co32)) (fun _ hk => hk.2) (.slice Ao33 t414.length co33)) (fun _ hk => hk.2) (.slice Ao34 t417.length co34)) (fun _ hk => hk.2) (.slice Ao35 t420.length co35)) (fun _ hk => hk.2) (.slice Ao36 t423.length co36)) (fun _ hk => hk.2) (.slice Ao37 t426.length co37)) (fun _ hk => ⟨hk.1.1.1.1.1, ⟨hk.1.1.1.1.2, ⟨hk.1.1.1.2, ⟨hk.1.1.2, hk.1.2⟩⟩⟩⟩)))⟩; have n6_ : Aside0 (Kd.R Kd.string 9 w38 w.heap.size (fun k_ => some k_ ≠ (.slice Ao20 t390.length co20 : Value).ownBlock ∧ some k_ ≠ (.slice Ao21 t393.length co21 : Value).ownBlock ∧ some k_ ≠ (.slice Ao33 t414.length co33 : Value).ownBlock) (.slice Ao32 t411.length co32) t411) := ⟨(by rw [hw]; exact (by (with_reducible repeat (first | apply Kd.R_alloc | apply Kd.R_drewN | apply Kd.R_drew)); exact Kd.R_mono (Kd.R_far (p := ⟨gb429, 7, none⟩) (Kd.R_far (p := ⟨gb429, 6, none⟩) (Kd.R_far (p := ⟨gb429, 5, none⟩) (Kd.R_far (p := ⟨gb429, 4, none⟩) (Kd.R_far (p := ⟨gb429, 3, none⟩) (Kd.R_far (p := ⟨gb429, 2, none⟩) (Kd.R_far (p := ⟨gb429, 1, none⟩) (Kd.R_far (p := ⟨gb429, 0, none⟩) (Kd.R_types HO413.out BK429.out (by decide)) (fun _ hk => hk.2) (.string t409)) (fun _ hk => hk.2) (.int .i64 t410)) (fun _ hk => hk.2) (.slice Ao32 t411.length co32)) (fun _ hk => hk.2) (.slice Ao33 t414.length co33)) (fun _ hk => hk.2) (.slice Ao34 t417.length co34)) (fun _ hk => hk.2) (.slice Ao35 t420.length co35)) (fun _ hk => hk.2) (.slice Ao36 t423.length co36)) (fun _ hk => hk.2) (.slice Ao37 t426.length co37)) (fun _ hk => ⟨hk.1.1.2, ⟨hk.1.2, hk.1.1.1⟩⟩)))⟩; have n7_ : Aside0 (Kd.R Kd.string 9 w38 w.heap.size (fun k_ => some k_ ≠ (.slice Ao20 t390.length co20 : Value).ownBlock ∧ some k_ ≠ (.slice Ao21 t393.length co21 : Value).ownBlock ∧ some k_ ≠ (.slice Ao32 t411.length co32 : Value).ownBlock) (.slice Ao33 t414.length co33) t414) := ⟨(by rw [hw]; exact (by (with_reducible repeat (first | apply Kd.R_alloc | apply Kd.R_drewN | apply Kd.R_drew)); exact Kd.R_mono (Kd.R_far (p := ⟨gb429, 7, none⟩) (Kd.R_far (p := ⟨gb429, 6, none⟩) (Kd.R_far (p := ⟨gb429, 5, none⟩) (Kd.R_far (p := ⟨gb429, 4, none⟩) (Kd.R_far (p := ⟨gb429, 3, none⟩) (Kd.R_far (p := ⟨gb429, 2, none⟩) (Kd.R_far (p := ⟨gb429, 1, none⟩) (Kd.R_far (p := ⟨gb429, 0, none⟩) (Kd.R_types HO416.out BK429.out (by decide)) (fun _ hk => hk.2) (.string t409)) (fun _ hk => hk.2) (.int .i64 t410)) (fun _ hk => hk.2) (.slice Ao32 t411.length co32)) (fun _ hk => hk.2) (.slice Ao33 t414.length co33)) (fun _ hk => hk.2) (.slice Ao34 t417.length co34)) (fun _ hk => hk.2) (.slice Ao35 t420.length co35)) (fun _ hk => hk.2) (.slice Ao36 t423.length co36)) (fun _ hk => hk.2) (.slice Ao37 t426.length co37)) (fun _ hk => ⟨hk.1.1.2, ⟨hk.1.2, hk.1.1.1⟩⟩)))⟩; have n8_ : Aside0 (Kd.R k75 75 w38 w.heap.size (fun k_ => some k_ ≠ (.slice Ao22 t396.length co22 : Value).ownBlock) (.slice Ao34 t417.length co34) t417) := ⟨(by rw [hw]; exact (by (with_reducible repeat (first | apply Kd.R_alloc | apply Kd.R_drewN | apply Kd.R_drew)); exact Kd.R_mono (Kd.R_far (p := ⟨gb429, 7, none⟩) (Kd.R_far (p := ⟨gb429, 6, none⟩) (Kd.R_far (p := ⟨gb429, 5, none⟩) (Kd.R_far (p := ⟨gb429, 4, none⟩) (Kd.R_far (p := ⟨gb429, 3, none⟩) (Kd.R_far (p := ⟨gb429, 2, none⟩) (Kd.R_far (p := ⟨gb429, 1, none⟩) (Kd.R_far (p := ⟨gb429, 0, none⟩) (Kd.R_types HO419.out BK429.out (by decide)) (fun _ hk => hk.2) (.string t409)) (fun _ hk => hk.2) (.int .i64 t410)) (fun _ hk => hk.2) (.slice Ao32 t411.length co32)) (fun _ hk => hk.2) (.slice Ao33 t414.length co33)) (fun _ hk => hk.2) (.slice Ao34 t417.length co34)) (fun _ hk => hk.2) (.slice Ao35 t420.length co35)) (fun _ hk => hk.2) (.slice Ao36 t423.length co36)) (fun _ hk => hk.2) (.slice Ao37 t426.length co37)) (fun _ hk => hk.1.2)))⟩; have n9_ : Aside0 (Kd.R k73 73 w38 w.heap.size (fun k_ => some k_ ≠ (.slice Ao23 t399.length co23 : Value).ownBlock ∧ some k_ ≠ (.slice Ao24 t402.length co24 : Value).ownBlock ∧ some k_ ≠ (.slice Ao25 t405.length co25 : Value).ownBlock ∧ some k_ ≠ (.slice Ao36 t423.length co36 : Value).ownBlock ∧ some k_ ≠ (.slice Ao37 t426.length co37 : Value).ownBlock) (.slice Ao35 t420.length co35) t420) := ⟨(by rw [hw]; exact (by (with_reducible repeat (first | apply Kd.R_alloc | apply Kd.R_drewN | apply Kd.R_drew)); exact Kd.R_mono (Kd.R_far (p := ⟨gb429, 7, none⟩) (Kd.R_far (p := ⟨gb429, 6, none⟩) (Kd.R_far (p := ⟨gb429, 5, none⟩) (Kd.R_far (p := ⟨gb429, 4, none⟩) (Kd.R_far (p := ⟨gb429, 3, none⟩) (Kd.R_far (p := ⟨gb429, 2, none⟩) (Kd.R_far (p := ⟨gb429, 1, none⟩) (Kd.R_far (p := ⟨gb429, 0, none⟩) (Kd.R_types HO422.out BK429.out (by decide)) (fun _ hk => hk.2) (.string t409)) (fun _ hk => hk.2) (.int .i64 t410)) (fun _ hk => hk.2) (.slice Ao32 t411.length co32)) (fun _ hk => hk.2) (.slice Ao33 t414.length co33)) (fun _ hk => hk.2) (.slice Ao34 t417.length co34)) (fun _ hk => hk.2) (.slice Ao35 t420.length co35)) (fun _ hk => hk.2) (.slice Ao36 t423.length co36)) (fun _ hk => hk.2) (.slice Ao37 t426.length co37)) (fun _ hk => ⟨hk.1.1.1.2, ⟨hk.1.1.2, ⟨hk.1.2, ⟨hk.1.1.1.1.1, hk.1.1.1.1.2⟩⟩⟩⟩)))⟩; have n10_ : Aside0 (Kd.R k73 73 w38 w.heap.size (fun k_ => some k_ ≠ (.slice Ao23 t399.length co23 : Value).ownBlock ∧ some k_ ≠ (.slice Ao24 t402.length co24 : Value).ownBlock ∧ some k_ ≠ (.slice Ao25 t405.length co25 : Value).ownBlock ∧ some k_ ≠ (.slice Ao35 t420.length co35 : Value).ownBlock ∧ some k_ ≠ (.slice Ao37 t426.length co37 : Value).ownBlock) (.slice Ao36 t423.length co36) t423) := ⟨(by rw [hw]; exact (by (with_reducible repeat (first | apply Kd.R_alloc | apply Kd.R_drewN | apply Kd.R_drew)); exact Kd.R_mono (Kd.R_far (p := ⟨gb429, 7, none⟩) (Kd.R_far (p := ⟨gb429, 6, none⟩) (Kd.R_far (p := ⟨gb429, 5, none⟩) (Kd.R_far (p := ⟨gb429, 4, none⟩) (Kd.R_far (p := ⟨gb429, 3, none⟩) (Kd.R_far (p := ⟨gb429, 2, none⟩) (Kd.R_far (p := ⟨gb429, 1, none⟩) (Kd.R_far (p := ⟨gb429, 0, none⟩) (Kd.R_types HO425.out BK429.out (by decide)) (fun _ hk => hk.2) (.string t409)) (fun _ hk => hk.2) (.int .i64 t410)) (fun _ hk => hk.2) (.slice Ao32 t411.length co32)) (fun _ hk => hk.2) (.slice Ao33 t414.length co33)) (fun _ hk => hk.2) (.slice Ao34 t417.length co34)) (fun _ hk => hk.2) (.slice Ao35 t420.length co35)) (fun _ hk => hk.2) (.slice Ao36 t423.length co36)) (fun _ hk => hk.2) (.slice Ao37 t426.length co37)) (fun _ hk => ⟨hk.1.1.1.2, ⟨hk.1.1.2, ⟨hk.1.2, ⟨hk.1.1.1.1.1, hk.1.1.1.1.2⟩⟩⟩⟩)))⟩; have n11_ : Aside0 (Kd.R k73 73 w38 w.heap.size (fun k_ => some k_ ≠ (.slice Ao23 t399.length co23 : Value).ownBlock ∧ some k_ ≠ (.slice Ao24 t402.length co24 : Value).ownBlock ∧ some k_ ≠ (.slice Ao25 t405.length co25 : Value).ownBlock ∧ some k_ ≠ (.slice Ao35 t420.length co35 : Value).ownBlock ∧ some k_ ≠ (.slice Ao36 t423.length co36 : Value).ownBlock) (.slice Ao37 t426.length co37) t426) := ⟨(by rw [hw]; exact (by (with_reducible repeat (first | apply Kd.R_alloc | apply Kd.R_drewN | apply Kd.R_drew)); exact Kd.R_mono (Kd.R_far (p := ⟨gb429, 7, none⟩) (Kd.R_far (p := ⟨gb429, 6, none⟩) (Kd.R_far (p := ⟨gb429, 5, none⟩) (Kd.R_far (p := ⟨gb429, 4, none⟩) (Kd.R_far (p := ⟨gb429, 3, none⟩) (Kd.R_far (p := ⟨gb429, 2, none⟩) (Kd.R_far (p := ⟨gb429, 1, none⟩) (Kd.R_far (p := ⟨gb429, 0, none⟩) (Kd.R_types HO428.out BK429.out (by decide)) (fun _ hk => hk.2) (.string t409)) (fun _ hk => hk.2) (.int .i64 t410)) (fun _ hk => hk.2) (.slice Ao32 t411.length co32)) (fun _ hk => hk.2) (.slice Ao33 t414.length co33)) (fun _ hk => hk.2) (.slice Ao34 t417.length co34)) (fun _ hk => hk.2) (.slice Ao35 t420.length co35)) (fun _ hk => hk.2) (.slice Ao36 t423.length co36)) (fun _ hk => hk.2) (.slice Ao37 t426.length co37)) (fun _ hk => ⟨hk.1.1.1.2, ⟨hk.1.1.2, ⟨hk.1.2, ⟨hk.1.1.1.1.1, hk.1.1.1.1.2⟩⟩⟩⟩)))⟩; have n12_ : Aside0 (w38.heap[gb386]? = some (.cells #[.string a0_0, .int .i64 a0_1, .slice A0_2 l0_2.length c0_2, .slice A0_3 l0_3.length c0_3, .slice A0_4 l0_4.length c0_4, .slice A0_5 l0_5.length c0_5, .slice A0_6 l0_6.length c0_6, .slice A0_7 l0_7.length c0_7] 26 (0, 0))) := ⟨(by rw [hw]; exact (bf BK386.out NB386_429.out))⟩; have n13_ : Aside0 (w38.heap[gb429]? = some (.cells #[.string t409, .int .i64 t410, .slice Ao32 t411.length co32, .slice Ao33 t414.length co33, .slice Ao34 t417.length co34, .slice Ao35 t420.length co35, .slice Ao36 t423.length co36, .slice Ao37 t426.length co37] 32 (0, 0))) := ⟨(by rw [hw]; exact (bp BK429.out))⟩; have n14_ : Aside0 (Below w.heap.size w w38) := ⟨(by rw [hw]; exact bl)⟩; clear hw; clear HO392; clear HO395; clear HO398; clear HO401; clear HO404; clear HO407; clear HO413; clear HO416; clear HO419; clear HO422; clear HO425; clear HO428; clear BK386; clear BK429; clear HB; have HO392 := n0_; have HO395 := n1_; have HO398 := n2_; have HO401 := n3_; have HO404 := n4_; have HO407 := n5_; have HO413 := n6_; have HO416 := n7_; have HO419 := n8_; have HO422 := n9_; have HO425 := n10_; have HO428 := n11_; have BK386 := n12_; have BK429 := n13_; have HB := n14_; clear n0_ n1_ n2_ n3_ n4_ n5_ n6_ n7_ n8_ n9_ n10_ n11_ n12_ n13_ n14_; obtain ⟨z39_0, z39_1, z39_2, z39_3, z39_4, z39_5, z39_6, z39_7, y39_0, y39_1, y39_2, y39_3, y39_4, y39_5, y39_6, y39_7⟩ := blk8 BK429.out) | (refine gc 16 (some 18) Tryz.func16 (impl_ProductRight.calls _ _ _ (fun k_ => some k_ = (.slice Ao32 t411.length co32 : Value).ownBlock) _ _ _ (fun k_ => some k_ = (.slice Ao33 t414.length co33 : Value).ownBlock) _ _ _ _ _ _ _ _ _ _ _ _ _ _ _ _ _ ?side1 ?side2 ?side3 ?side4 ?side5 ?side6 ?side7 ?side8 ?side9 ?side10 ?side11 A10.out) ?_; (case side1 => exact Kd.R_V (Kd.R_tight rfl (Kd.R_types (Kd.R_types (Kd.R_apart' (Kd.R_apart' (Kd.R_apart' (Kd.R_apart' (Kd.R_apart' (Kd.R_apart' (Kd.R_apart' (Kd.R_apart' (HO413.out) (Kd.R_typed HO398.out) (by decide)) (Kd.R_typed HO401.out) (by decide)) (Kd.R_typed HO404.out) (by decide)) (Kd.R_typed HO407.out) (by decide)) (Kd.R_typed HO419.out) (by decide)) (Kd.R_typed HO422.out) (by decide)) (Kd.R_typed HO425.out) (by decide)) (Kd.R_typed HO428.out) (by decide)) BK386.out (by decide)) BK429.out (by decide)))); (case side2 => exact Kd.R_V (Kd.R_tight rfl (Kd.R_types (Kd.R_types (Kd.R_apart' (Kd.R_apart' (Kd.R_apart' (Kd.R_apart' (Kd.R_apart' (Kd.R_apart' (Kd.R_apart' (Kd.R_apart' (HO416.out) (Kd.R_typed HO398.out) (by decide)) (Kd.R_typed HO401.out) (by decide)) (Kd.R_typed HO404.out) (by decide)) (Kd.R_typed HO407.out) (by decide)) (Kd.R_typed HO419.out) (by decide)) (Kd.R_typed HO422.out) (by decide)) (Kd.R_typed HO425.out) (by decide)) (Kd.R_typed HO428.out) (by decide)) BK386.out (by decide)) BK429.out (by decide)))); (case side3 => exact cc (Kd.R_reads' HO419.out).2.2); (case side4 => exact (Kd.R_reads' HO419.out).2.1); (case side5 => exact cc (Kd.R_reads' HO422.out).2.2); (case side6 => exact (Kd.R_reads' HO422.out).2.1); (case side7 => exact cc (Kd.R_reads' HO425.out).2.2); (case side8 => exact (Kd.R_reads' HO425.out).2.1); (case side9 => exact cc (Kd.R_reads' HO428.out).2.2); (case side10 => exact (Kd.R_reads' HO428.out).2.1); (case side11 => exact Sh.below HSH.out bl); rintro e w40 ⟨rfl, hb⟩; refine ⟨_, rfl, ?_⟩; replace HO392 := am (rb HO392.out hb); replace HO395 := am (rb HO395.out hb); replace HO398 := am (rb HO398.out hb); replace HO401 := am (rb HO401.out hb); replace HO404 := am (rb HO404.out hb); replace HO407 := am (rb HO407.out hb); replace HO413 := am (rb HO413.out hb); replace HO416 := am (rb HO416.out hb); replace HO419 := am (rb HO419.out hb); replace HO422 := am (rb HO422.out hb); replace HO425 := am (rb HO425.out hb); replace HO428 := am (rb HO428.out hb); replace BK386 := am (bkb BK386.out hb); replace BK429 := am (bkb BK429.out hb); replace HB := am (below_step bl hb); clear hb))
 have n0_ := am (Kd.R_drew HO392.out)
 have n1_ := am (Kd.R_drew HO395.out)
 have n2_ := am (Kd.R_drew HO398.out)
 have n3_ := am (Kd.R_drew HO401.out)
 have n4_ := am (Kd.R_drew HO404.out)
 have n5_ := am (Kd.R_drew HO407.out)
 have n6_ := am (Kd.R_drew HO413.out)
 have n7_ := am (Kd.R_drew HO416.out)
 have n8_ := am (Kd.R_drew HO419.out)
 have n9_ := am (Kd.R_drew HO422.out)
 have n10_ := am (Kd.R_drew HO425.out)
 have n11_ := am (Kd.R_drew HO428.out)
 have n12_ := am (blk_drew BK386.out)
 have n13_ := am (blk_drew BK429.out)
 have n14_ := am (below_drew1 HB.out)
 clear HO392
 clear HO395
 clear HO398
 clear HO401
 clear HO404
 clear HO407
 clear HO413
 clear HO416
 clear HO419
 clear HO422
 clear HO425
 clear HO428
 clear BK386
 clear BK429
 clear HB
 have HO392 := n0_
 have HO395 := n1_
 have HO398 := n2_
 have HO401 := n3_
 have HO404 := n4_
 have HO407 := n5_
 have HO413 := n6_
 have HO416 := n7_
 have HO419 := n8_
 have HO422 := n9_
 have HO425 := n10_
 have HO428 := n11_
 have BK386 := n12_
 have BK429 := n13_
 have HB := n14_
 clear n0_ n1_ n2_ n3_ n4_ n5_ n6_ n7_ n8_ n9_ n10_ n11_ n12_ n13_ n14_
 refine start_ (n := 5) (S := fun w' => w'.cell? ⟨gb429, 0, none⟩ = some (.string t409) ∧ w'.cell? ⟨gb429, 1, none⟩ = some (.int .i64 t410) ∧ w'.cell? ⟨gb429, 2, none⟩ = some (.slice Ao32 t411.length co32) ∧ w'.cell? ⟨gb429, 3, none⟩ = some (.slice Ao33 t414.length co33) ∧ w'.cell? ⟨gb429, 4, none⟩ = some (.slice Ao34 t417.length co34) ∧ w'.cell? ⟨gb429, 5, none⟩ = some (.slice Ao35 t420.length co35) ∧ w'.cell? ⟨gb429, 6, none⟩ = some (.slice Ao36 t423.length co36) ∧ w'.cell? ⟨gb429, 7, none⟩ = some (.slice Ao37 t426.length co37) ∧ w'.cell? ⟨gb386, 0, none⟩ = some (.string a0_0) ∧ w'.cell? ⟨gb386, 1, none⟩ = some (.int .i64 a0_1) ∧ w'.cell? ⟨gb386, 2, none⟩ = some (.slice A0_2 l0_2.length c0_2) ∧ w'.cell? ⟨gb386, 3, none⟩ = some (.slice A0_3 l0_3.length c0_3) ∧ w'.cell? ⟨gb386, 4, none⟩ = some (.slice A0_4 l0_4.length c0_4) ∧ w'.cell? ⟨gb386, 5, none⟩ = some (.slice A0_5 l0_5.length c0_5) ∧ w'.cell? ⟨gb386, 6, none⟩ = some (.slice A0_6 l0_6.length c0_6) ∧ w'.cell? ⟨gb386, 7, none⟩ = some (.slice A0_7 l0_7.length c0_7)) (ds := []) #[F_, F_, F_, F_, F_] (by kernel_rfl) rfl rfl ⟨(blk_cell BK429.out 0).trans rfl, (blk_cell BK429.out 1).trans rfl, (blk_cell BK429.out 2).trans rfl, (blk_cell BK429.out 3).trans rfl, (blk_cell BK429.out 4).trans rfl, (blk_cell BK429.out 5).trans rfl, (blk_cell BK429.out 6).trans rfl, (blk_cell BK429.out 7).trans rfl, (blk_cell BK386.out 0).trans rfl, (blk_cell BK386.out 1).trans rfl, (blk_cell BK386.out 2).trans rfl, (blk_cell BK386.out 3).trans rfl, (blk_cell BK386.out 4).trans rfl, (blk_cell BK386.out 5).trans rfl, (blk_cell BK386.out 6).trans rfl, (blk_cell BK386.out 7).trans rfl⟩ (fun hHeld => ?_)
 generalize w40.drew = w41 at HO392 HO395 HO398 HO401 HO404 HO407 HO413 HO416 HO419 HO422 HO425 HO428 BK386 BK429 HB hHeld ⊢
 refine tv16 0 22 hHeld ?_
 refine tv16 1 23 hHeld ?_
 refine ov 2 24 (fun K hK => ?_)
 refine gk Tryz.func15 (laws_toProduct.calls _ _ _ _ _ _ _ _ _ _ _ _ _ _ _ _ _ _ _ _ _ _ _ _ _ _ _ _ _ _ ?side1 ?side2 ?side3 ?side4 ?side5 ?side6 ?side7 ?side8 ?side9 ?side10 ?side11 ?side12 A12.out) ?_
 (case side1 => exact cb HR0_2.out)
 (case side2 => exact HC0_2.out)
 (case side3 => exact cb HR0_3.out)
 (case side4 => exact HC0_3.out)
 (case side5 => exact cb HR0_4.out)
 (case side6 => exact HC0_4.out)
 (case side7 => exact cb HR0_5.out)
 (case side8 => exact HC0_5.out)
 (case side9 => exact cb HR0_6.out)
 (case side10 => exact HC0_6.out)
 (case side11 => exact cb HR0_7.out)
 (case side12 => exact HC0_7.out)
 rintro e w42 ⟨v434, v437, v440, v443, v446, v449, rfl, ho0, ho1, ho2, ho3, ho4, ho5, hb⟩
 refine ⟨_, rfl, ?_⟩
 have n0_ := am (Kd.R_mono (Kd.R_told (Kd.R_told (Kd.R_old (kr HO392.out) hb) (Kd.R_base ho0)) (Kd.R_base ho1)) (fun _ h_ => h_.1))
 have n1_ := am (Kd.R_mono (Kd.R_told (Kd.R_told (Kd.R_old (kr HO395.out) hb) (Kd.R_base ho0)) (Kd.R_base ho1)) (fun _ h_ => h_.1))
 have n2_ := am (Kd.R_elder' (kr HO398.out) (Kd.R_base ho2) hb)
 have n3_ := am (Kd.R_mono (Kd.R_told (Kd.R_told (Kd.R_told (Kd.R_old (kr HO401.out) hb) (Kd.R_base ho3)) (Kd.R_base ho4)) (Kd.R_base ho5)) (fun _ h_ => h_.1))
 have n4_ := am (Kd.R_mono (Kd.R_told (Kd.R_told (Kd.R_told (Kd.R_old (kr HO404.out) hb) (Kd.R_base ho3)) (Kd.R_base ho4)) (Kd.R_base ho5)) (fun _ h_ => h_.1))
 have n5_ := am (Kd.R_mono (Kd.R_told (Kd.R_told (Kd.R_told (Kd.R_old (kr HO407.out) hb) (Kd.R_base ho3)) (Kd.R_base ho4)) (Kd.R_base ho5)) (fun _ h_ => h_.1))
 have n6_ := am (Kd.R_mono (Kd.R_told (Kd.R_told (Kd.R_old (kr HO413.out) hb) (Kd.R_base ho0)) (Kd.R_base ho1)) (fun _ h_ => h_.1))
 have n7_ := am (Kd.R_mono (Kd.R_told (Kd.R_told (Kd.R_old (kr HO416.out) hb) (Kd.R_base ho0)) (Kd.R_base ho1)) (fun _ h_ => h_.1))
 have n8_ := am (Kd.R_elder' (kr HO419.out) (Kd.R_base ho2) hb)
 have n9_ := am (Kd.R_mono (Kd.R_told (Kd.R_told (Kd.R_told (Kd.R_old (kr HO422.out) hb) (Kd.R_base ho3)) (Kd.R_base ho4)) (Kd.R_base ho5)) (fun _ h_ => h_.1))
 have n10_ := am (Kd.R_mono (Kd.R_told (Kd.R_told (Kd.R_told (Kd.R_old (kr HO425.out) hb) (Kd.R_base ho3)) (Kd.R_base ho4)) (Kd.R_base ho5)) (fun _ h_ => h_.1))
 have n11_ := am (Kd.R_mono (Kd.R_told (Kd.R_told (Kd.R_told (Kd.R_old (kr HO428.out) hb) (Kd.R_base ho3)) (Kd.R_base ho4)) (Kd.R_base ho5)) (fun _ h_ => h_.1))
 have n12_ := am (Kd.R_lower (Kd.R_new' (Kd.R_new' (Kd.R_new' (Kd.R_new' ho0 (Kd.R_lt (kr HO392.out))) (Kd.R_lt (kr HO395.out))) (Kd.R_lt (kr HO413.out))) (Kd.R_lt (kr HO416.out))) (below_size bl))
 have n13_ := am (Kd.R_lower (Kd.R_new' (Kd.R_new' (Kd.R_new' (Kd.R_new' ho1 (Kd.R_lt (kr HO392.out))) (Kd.R_lt (kr HO395.out))) (Kd.R_lt (kr HO413.out))) (Kd.R_lt (kr HO416.out))) (below_size bl))
 have n14_ := am (Kd.R_lower (Kd.R_new' (Kd.R_new' ho2 (Kd.R_lt (kr HO398.out))) (Kd.R_lt (kr HO419.out))) (below_size bl))
 have n15_ := am (Kd.R_lower (Kd.R_new' (Kd.R_new' (Kd.R_new' (Kd.R_new' (Kd.R_new' (Kd.R_new' ho3 (Kd.R_lt (kr HO401.out))) (Kd.R_lt (kr HO404.out))) (Kd.R_lt (kr HO407.out))) (Kd.R_lt (kr HO422.out))) (Kd.R_lt (kr HO425.out))) (Kd.R_lt (kr HO428.out))) (below_size bl))
 have n16_ := am (Kd.R_lower (Kd.R_new' (Kd.R_new' (Kd.R_new' (Kd.R_new' (Kd.R_new' (Kd.R_new' ho4 (Kd.R_lt (kr HO401.out))) (Kd.R_lt (kr HO404.out))) (Kd.R_lt (kr HO407.out))) (Kd.R_lt (kr HO422.out))) (Kd.R_lt (kr HO425.out))) (Kd.R_lt (kr HO428.out))) (below_size bl))
 have n17_ := am (Kd.R_lower (Kd.R_new' (Kd.R_new' (Kd.R_new' (Kd.R_new' (Kd.R_new' (Kd.R_new' ho5 (Kd.R_lt (kr HO401.out))) (Kd.R_lt (kr HO404.out))) (Kd.R_lt (kr HO407.out))) (Kd.R_lt (kr HO422.out))) (Kd.R_lt (kr HO425.out))) (Kd.R_lt (kr HO428.out))) (below_size bl))
 have n18_ := am (bkb BK386.out hb)
 have n19_ := am (bkb BK429.out hb)
 have n20_ := am (below_step bl hb)
 clear HO392
 clear HO395
 clear HO398
 clear HO401
 clear HO404
 clear HO407
 clear HO413
 clear HO416
 clear HO419
 clear HO422
 clear HO425
 clear HO428
 clear BK386
 clear BK429
 clear HB
 have HO392 := n0_
 have HO395 := n1_
 have HO398 := n2_
 have HO401 := n3_
 have HO404 := n4_
 have HO407 := n5_
 have HO413 := n6_
 have HO416 := n7_
 have HO419 := n8_
 have HO422 := n9_
 have HO425 := n10_
 have HO428 := n11_
 have HO435 := n12_
 have HO438 := n13_
 have HO441 := n14_
 have HO444 := n15_
 have HO447 := n16_
 have HO450 := n17_
 have BK386 := n18_
 have BK429 := n19_
 have HB := n20_
 clear n0_ n1_ n2_ n3_ n4_ n5_ n6_ n7_ n8_ n9_ n10_ n11_ n12_ n13_ n14_ n15_ n16_ n17_ n18_ n19_ n20_
 skip
 skip
 skip
 skip
 skip
 skip
 skip
 skip
 skip
 skip
 obtain ⟨Ao43, co43, eo43⟩ := Kd.R_slice HO435.out
 (first | subst eo43 | (injection eo43 with f1_ f2_ f3_; have f4_ := f1_.symm; have f5_ := f3_.symm; clear f1_ f2_ f3_; subst f4_; subst f5_))
 obtain ⟨Ao44, co44, eo44⟩ := Kd.R_slice HO438.out
 (first | subst eo44 | (injection eo44 with f1_ f2_ f3_; have f4_ := f1_.symm; have f5_ := f3_.symm; clear f1_ f2_ f3_; subst f4_; subst f5_))
 obtain ⟨Ao45, co45, eo45⟩ := Kd.R_slice HO441.out
 (first | subst eo45 | (injection eo45 with f1_ f2_ f3_; have f4_ := f1_.symm; have f5_ := f3_.symm; clear f1_ f2_ f3_; subst f4_; subst f5_))
 obtain ⟨Ao46, co46, eo46⟩ := Kd.R_slice HO444.out
 (first | subst eo46 | (injection eo46 with f1_ f2_ f3_; have f4_ := f1_.symm; have f5_ := f3_.symm; clear f1_ f2_ f3_; subst f4_; subst f5_))
 obtain ⟨Ao47, co47, eo47⟩ := Kd.R_slice HO447.out
 (first | subst eo47 | (injection eo47 with f1_ f2_ f3_; have f4_ := f1_.symm; have f5_ := f3_.symm; clear f1_ f2_ f3_; subst f4_; subst f5_))
 obtain ⟨Ao48, co48, eo48⟩ := Kd.R_slice HO450.out
 (first | subst eo48 | (injection eo48 with f1_ f2_ f3_; have f4_ := f1_.symm; have f5_ := f3_.symm; clear f1_ f2_ f3_; subst f4_; subst f5_))
 refine hK.out _ _ ⟨(blk_cell BK429.out 0).trans rfl, (blk_cell BK429.out 1).trans rfl, (blk_cell BK429.out 2).trans rfl, (blk_cell BK429.out 3).trans rfl, (blk_cell BK429.out 4).trans rfl, (blk_cell BK429.out 5).trans rfl, (blk_cell BK429.out 6).trans rfl, (blk_cell BK429.out 7).trans rfl, (blk_cell BK386.out 0).trans rfl, (blk_cell BK386.out 1).trans rfl, (blk_cell BK386.out 2).trans rfl, (blk_cell BK386.out 3).trans rfl, (blk_cell BK386.out 4).trans rfl, (blk_cell BK386.out 5).trans rfl, (blk_cell BK386.out 6).trans rfl, (blk_cell BK386.out 7).trans rfl⟩ (fun hHeld => ?_)
 clear hK K
 refine norm_ (a' := ?_) ?_ ?_
 rotate_left
 ·show Act.put _ (some 24) _ = _
  simp only [Act.put, z1, z2, z3, i64_w, i32_w]
  rfl
 refine ov 3 25 (fun K hK => ?_)
 refine gk Tryz.func17 (laws_eqProduct.calls _ _ _ _ _ _ _ _ _ _ _ _ _ _ _ _ _ _ _ _ _ _ _ _ _ _ _ _ _ _ _ _ _ _ _ _ _ _ _ _ _ _ _ ?side1 ?side2 ?side3 ?side4 ?side5 ?side6 ?side7 ?side8 ?side9 ?side10 ?side11 ?side12 ?side13 ?side14 ?side15 ?side16 ?side17 ?side18 ?side19 ?side20 ?side21 ?side22 ?side23 ?side24 A13.out) ?_
 (case side1 => exact cc (Kd.R_reads' HO413.out).2.2)
 (case side2 => exact (Kd.R_reads' HO413.out).2.1)
 (case side3 => exact cc (Kd.R_reads' HO416.out).2.2)
 (case side4 => exact (Kd.R_reads' HO416.out).2.1)
 (case side5 => exact cc (Kd.R_reads' HO419.out).2.2)
 (case side6 => exact (Kd.R_reads' HO419.out).2.1)
 (case side7 => exact cc (Kd.R_reads' HO422.out).2.2)
 (case side8 => exact (Kd.R_reads' HO422.out).2.1)
 (case side9 => exact cc (Kd.R_reads' HO425.out).2.2)
 (case side10 => exact (Kd.R_reads' HO425.out).2.1)
 (case side11 => exact cc (Kd.R_reads' HO428.out).2.2)
 (case side12 => exact (Kd.R_reads' HO428.out).2.1)
 (case side13 => exact cc (Kd.R_reads' HO435.out).2.2)
 (case side14 => exact (Kd.R_reads' HO435.out).2.1)
 (case side15 => exact cc (Kd.R_reads' HO438.out).2.2)
 (case side16 => exact (Kd.R_reads' HO438.out).2.1)
 (case side17 => exact cc (Kd.R_reads' HO441.out).2.2)
 (case side18 => exact (Kd.R_reads' HO441.out).2.1)
 (case side19 => exact cc (Kd.R_reads' HO444.out).2.2)
 (case side20 => exact (Kd.R_reads' HO444.out).2.1)
 (case side21 => exact cc (Kd.R_reads' HO447.out).2.2)
 (case side22 => exact (Kd.R_reads' HO447.out).2.1)
 (case side23 => exact cc (Kd.R_reads' HO450.out).2.2)
 (case side24 => exact (Kd.R_reads' HO450.out).2.1)
 rintro e w49 ⟨rfl, hb⟩
 refine ⟨_, rfl, ?_⟩
 have n0_ := am (rb HO392.out hb)
 have n1_ := am (rb HO395.out hb)
 have n2_ := am (rb HO398.out hb)
 have n3_ := am (rb HO401.out hb)
 have n4_ := am (rb HO404.out hb)
 have n5_ := am (rb HO407.out hb)
 have n6_ := am (rb HO413.out hb)
 have n7_ := am (rb HO416.out hb)
 have n8_ := am (rb HO419.out hb)
 have n9_ := am (rb HO422.out hb)
 have n10_ := am (rb HO425.out hb)
 have n11_ := am (rb HO428.out hb)
 have n12_ := am (rb HO435.out hb)
 have n13_ := am (rb HO438.out hb)
 have n14_ := am (rb HO441.out hb)
 have n15_ := am (rb HO444.out hb)
 have n16_ := am (rb HO447.out hb)
 have n17_ := am (rb HO450.out hb)
 have n18_ := am (bkb BK386.out hb)
 have n19_ := am (bkb BK429.out hb)
 have n20_ := am (below_step bl hb)
 clear HO392
 clear HO395
 clear HO398
 clear HO401
 clear HO404
 clear HO407
 clear HO413
 clear HO416
 clear HO419
 clear HO422
 clear HO425
 clear HO428
 clear HO435
 clear HO438
 clear HO441
 clear HO444
 clear HO447
 clear HO450
 clear BK386
 clear BK429
 clear HB
 have HO392 := n0_
 have HO395 := n1_
 have HO398 := n2_
 have HO401 := n3_
 have HO404 := n4_
 have HO407 := n5_
 have HO413 := n6_
 have HO416 := n7_
 have HO419 := n8_
 have HO422 := n9_
 have HO425 := n10_
 have HO428 := n11_
 have HO435 := n12_
 have HO438 := n13_
 have HO441 := n14_
 have HO444 := n15_
 have HO447 := n16_
 have HO450 := n17_
 have BK386 := n18_
 have BK429 := n19_
 have HB := n20_
 clear n0_ n1_ n2_ n3_ n4_ n5_ n6_ n7_ n8_ n9_ n10_ n11_ n12_ n13_ n14_ n15_ n16_ n17_ n18_ n19_ n20_
 skip
 skip
 skip
 skip
 refine hK.out _ _ ⟨(blk_cell BK429.out 0).trans rfl, (blk_cell BK429.out 1).trans rfl, (blk_cell BK429.out 2).trans rfl, (blk_cell BK429.out 3).trans rfl, (blk_cell BK429.out 4).trans rfl, (blk_cell BK429.out 5).trans rfl, (blk_cell BK429.out 6).trans rfl, (blk_cell BK429.out 7).trans rfl, (blk_cell BK386.out 0).trans rfl, (blk_cell BK386.out 1).trans rfl, (blk_cell BK386.out 2).trans rfl, (blk_cell BK386.out 3).trans rfl, (blk_cell BK386.out 4).trans rfl, (blk_cell BK386.out 5).trans rfl, (blk_cell BK386.out 6).trans rfl, (blk_cell BK386.out 7).trans rfl⟩ (fun hHeld => ?_)
 clear hK K
 refine norm_ (a' := ?_) ?_ ?_
 rotate_left
 ·show Act.put _ (some 25) _ = _
  simp only [Act.put, z1, z2, z3, i64_w, i32_w]
  rfl
 refine pv 4 26 ?_
 refine done_ (by kernel_rfl) ?_
 try go_wp2
 go_ret
 exact ⟨er, bl⟩

def laws_FnExactProductRight.Pure : Prop := ∀ (a0_0 : ByteArray) (a0_1 : Int) (l0_2 : List ByteArray) (l0_3 : List ByteArray) (l0_4 : List (S174)) (l0_5 : List (S176)) (l0_6 : List (S176)) (l0_7 : List (S176)), a0_0.size ≤ maxLen → (Lit.int .i64 a0_1).wf = true → (l0_2.length ≤ maxLen ∧ ∀ x ∈ l0_2, x.size ≤ maxLen) → (l0_3.length ≤ maxLen ∧ ∀ x ∈ l0_3, x.size ≤ maxLen) → (l0_4.length ≤ maxLen ∧ ∀ x ∈ l0_4, (x.f0.size ≤ maxLen ∧ (Lit.int .i64 x.f1).wf = true ∧ (Lit.int .i64 x.f2).wf = true ∧ (Lit.int .i64 x.f3).wf = true)) → (l0_5.length ≤ maxLen ∧ ∀ x ∈ l0_5, ((Lit.int .i64 x.f0).wf = true ∧ x.f1.size ≤ maxLen ∧ x.f2.size ≤ maxLen ∧ (Lit.int .i64 x.f3).wf = true ∧ (Lit.int .i64 x.f4).wf = true)) → (l0_6.length ≤ maxLen ∧ ∀ x ∈ l0_6, ((Lit.int .i64 x.f0).wf = true ∧ x.f1.size ≤ maxLen ∧ x.f2.size ≤ maxLen ∧ (Lit.int .i64 x.f3).wf = true ∧ (Lit.int .i64 x.f4).wf = true)) → (l0_7.length ≤ maxLen ∧ ∀ x ∈ l0_7, ((Lit.int .i64 x.f0).wf = true ∧ x.f1.size ≤ maxLen ∧ x.f2.size ≤ maxLen ∧ (Lit.int .i64 x.f3).wf = true ∧ (Lit.int .i64 x.f4).wf = true)) → ∃ k, laws_FnExactProductRight.f k a0_0 a0_1 l0_2 l0_3 l0_4 l0_5 l0_6 l0_7 = some true

end Go.Proofs.YtodokfmmnihecaaGreatDoor.PFnExactProductRight
