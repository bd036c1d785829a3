-- laid by seedprint.py, a program of this session, over contracts that it gives by hand; Lean checks it
-- dented
import Derived.Test.YtopeaemfnlcecaaDoorQMin
import Derived.Test.YtopeaemfnlcecaaDoorQAut
import Derived.Test.YtopeaemfnlcecaaDoorPFnExactLegsBackx0
import Derived.Test.YtopeaemfnlcecaaDoorPFnExactLegsBackx4
namespace Go.Proofs.YtopeaemfnlcecaaDoor.PFnExactLegsBack
open Go.RowKit Go.Proofs.YtopeaemfnlcecaaDoorW.PrintWords Go.Proofs.YtopeaemfnlcecaaDoorW.PrintLast Go.Proofs.YtopeaemfnlcecaaDoorW.PrintMore
attribute [local go_sem] max2_int min2_int max_two min_two max_three min_three max_four min_four   -- for this text's walks alone
set_option linter.unusedVariables false
set_option linter.unusedSimpArgs false

/-! ### laws_heldLegS: function 10 -/
def laws_heldLegS.l0 : Nat → List (S38) → Int → Int → Option (Int)
 | 0, _, _, _ => none
 | k + 1, x0, x1, x5 => if x5 < (x0.length : Int) then (if 0 ≤ x5 then ((laws_markText.f k x1).bind fun t169 => (if ((rd_T38 x0 x5).f0.f0).toList = t169.toList then ((laws_markText.f k (wrap64 (x1 + 1))).bind fun t171 => (if ((rd_T38 x0 x5).f0.f1).toList = t171.toList then ((laws_markText.f k (wrap64 ((wrap64 (x1 + 1)) + 1))).bind fun t173 => (if ((rd_T38 x0 x5).f1.f0).toList = t173.toList then ((laws_markText.f k (wrap64 ((wrap64 ((wrap64 (x1 + 1)) + 1)) + 1))).bind fun t175 => (if ((rd_T38 x0 x5).f1.f1).toList = t175.toList then (if ((rd_T38 x0 x5).f2) = (wrap64 ((wrap64 ((wrap64 ((wrap64 (x1 + 1)) + 1)) + 1)) + 1)) then (laws_heldLegS.l0 k x0 (wrap64 ((wrap64 ((wrap64 ((wrap64 ((wrap64 (x1 + 1)) + 1)) + 1)) + 1)) + 1)) (wrap64 (x5 + 1))) else (some (-1))) else (some (-1)))) else (some (-1)))) else (some (-1)))) else (some (-1)))) else (none)) else (some x1)
def laws_heldLegS.f (k : Nat) (l0 : List (S38)) (a1 : Int) : Option (Int) := laws_heldLegS.l0 k l0 a1 0
theorem laws_heldLegS.mono_l : ∀ k, (∀ y0 y1 y2, LeO (laws_heldLegS.l0 k y0 y1 y2) (laws_heldLegS.l0 (k + 1) y0 y1 y2))
 | 0 => fun _ _ _ r h => by simp [laws_heldLegS.l0] at h
 | k + 1 => by
  have ih0 := laws_heldLegS.mono_l k
  ·intro y0 y1 y2
   unfold laws_heldLegS.l0
   repeat' (with_reducible first | exact ih0 .. | exact laws_markText.mono .. | exact LeO.refl _ | exact LeO.none _ | refine LeO.ite ?_ ?_ | refine LeO.bind ?_ (fun _ => ?_))
theorem laws_heldLegS.mono : ∀ a0 a1 k, LeO (laws_heldLegS.f k a0 a1) (laws_heldLegS.f (k + 1) a0 a1) := by
 intro a0 a1 k
 have ih0 := laws_heldLegS.mono_l k
 unfold laws_heldLegS.f
 repeat' (with_reducible first | exact ih0 .. | exact laws_markText.mono .. | exact LeO.refl _ | exact LeO.none _ | refine LeO.ite ?_ ?_ | refine LeO.bind ?_ (fun _ => ?_))
def laws_heldLegS.T4 : Bool × List (List Nat × List Nat) := (true, [([], []), ([], []), ([0, 1], [0, 1]), ([2], [2]), ([3], [3]), ([4], [4]), ([], []), ([6], [6]), ([5, 7], [5, 7])])
def laws_heldLegS.B4 : List Nat := [0, 0, 3, 7, 15, 31, 0, 64, 255]
theorem laws_heldLegS.tab4 : rtab .any (opsOf Tryd.f10 4) = laws_heldLegS.T4 := by kernel_rfl
theorem laws_heldLegS.bits4 : waitsOk laws_heldLegS.T4.2 laws_heldLegS.B4 = true := by kernel_rfl
def laws_heldLegS.T7 : Bool × List (List Nat × List Nat) := (true, [([], []), ([], []), ([0, 1], [0, 1]), ([2], [2]), ([3], [3]), ([4], [4]), ([], []), ([6], [6]), ([5, 7], [5, 7])])
def laws_heldLegS.B7 : List Nat := [0, 0, 3, 7, 15, 31, 0, 64, 255]
theorem laws_heldLegS.tab7 : rtab .any (opsOf Tryd.f10 7) = laws_heldLegS.T7 := by kernel_rfl
theorem laws_heldLegS.bits7 : waitsOk laws_heldLegS.T7.2 laws_heldLegS.B7 = true := by kernel_rfl
def laws_heldLegS.T10 : Bool × List (List Nat × List Nat) := (true, [([], []), ([], []), ([0, 1], [0, 1]), ([2], [2]), ([3], [3]), ([4], [4]), ([], []), ([6], [6]), ([5, 7], [5, 7])])
def laws_heldLegS.B10 : List Nat := [0, 0, 3, 7, 15, 31, 0, 64, 255]
theorem laws_heldLegS.tab10 : rtab .any (opsOf Tryd.f10 10) = laws_heldLegS.T10 := by kernel_rfl
theorem laws_heldLegS.bits10 : waitsOk laws_heldLegS.T10.2 laws_heldLegS.B10 = true := by kernel_rfl
def laws_heldLegS.T13 : Bool × List (List Nat × List Nat) := (true, [([], []), ([], []), ([0, 1], [0, 1]), ([2], [2]), ([3], [3]), ([4], [4]), ([], []), ([6], [6]), ([5, 7], [5, 7])])
def laws_heldLegS.B13 : List Nat := [0, 0, 3, 7, 15, 31, 0, 64, 255]
theorem laws_heldLegS.tab13 : rtab .any (opsOf Tryd.f10 13) = laws_heldLegS.T13 := by kernel_rfl
theorem laws_heldLegS.bits13 : waitsOk laws_heldLegS.T13.2 laws_heldLegS.B13 = true := by kernel_rfl
set_option maxHeartbeats 8000000 in
set_option maxRecDepth 100000 in
theorem laws_heldLegS.calls (k : Nat) (A0 : Option Addr) (c0 : Nat) (l0 : List (S38)) (a1 : Int) (r : Int) (w : World) (hr0 : Kd.C k38 w A0 l0.length l0) (hc0 : l0.length ≤ c0) (h : laws_heldLegS.f k l0 a1 = some r) :
  Calls Tryd.prog 10 #[.slice A0 l0.length c0, .int .i64 a1] w fun e w' => e = .returned (.int .i64 r) ∧ Below w.heap.size w w' := by
 have HR0 := am hr0
 have HC0 := am hc0
 clear hr0 hc0
 have HB := am (Below.refl w.heap.size w)
 have H := h
 clear h
 unfold laws_heldLegS.f at H
 have H' := am H; clear H
 go_enter Tryd.func10, Tryd.ntmps10
 go_wp2
 go_loopg [1, 5] k (fun kq v1 v5 w' => ∃ (x1_1 : Int) (x5_1 : Int), v1 = .int .i64 x1_1 ∧ v5 = .int .i64 x5_1 ∧ Aside0 (laws_heldLegS.l0 kq l0 x1_1 x5_1 = some r) ∧ Aside0 (kq ≤ k) ∧ Aside0 (Below w.heap.size w w'))
 case atStart => exact ⟨(a1), (0), rs, rs, H', ⟨Nat.le_refl _⟩, ⟨bl⟩⟩
 case round =>
  clear H'
  obtain ⟨x1_1, x5_1, rfl, rfl, HA, HK1, HB⟩ := hrel
  cases gk with
  | zero => exact absurd HA.out (by simp [laws_heldLegS.l0])
  | succ k1 =>
   have H := HA.out
   clear HA
   simp only [laws_heldLegS.l0] at H
   revert H; refine iDb (fun c3b0 H => ?_) fun c3b0 H => ?_
   ·revert H; refine i1 fun c4b0 H => ?_
    revert H; refine bj fun t169 A5 H => ?_
    revert H; refine iQ (fun c6b0 c6b1 H => ?_) fun c6 c6b0 c6b1 H => ?_
    ·revert H; refine bj fun t171 A7 H => ?_
     revert H; refine iQ (fun c8b0 c8b1 H => ?_) fun c8 c8b0 c8b1 H => ?_
     ·revert H; refine bj fun t173 A9 H => ?_
      revert H; refine iQ (fun c10b0 c10b1 H => ?_) fun c10 c10b0 c10b1 H => ?_
      ·revert H; refine bj fun t175 A11 H => ?_
       revert H; refine iQ (fun c12b0 c12b1 H => ?_) fun c12 c12b0 c12b1 H => ?_
       ·revert H; refine iQ (fun c13b0 c13b1 H => ?_) fun c13 c13b0 c13b1 H => ?_
        ·have H' := am H; clear H
         try go_wp2
         replace HB := am (below_drew1 HB.out)
         have p168 : 0 ≤ (x5_1 : Int) := ode
         have q168 : x5_1 < (l0.length : Int) := ode
         obtain ⟨ad168, e168, hx168_0, hx168_1, hx168_2, hx168_3, hx168_4⟩ := at_T38 HR0.out x5_1 p168 q168
         have hw168_4 := hx168_4
         have hw168_3 := hx168_3
         have hw168_2 := hx168_2
         have hw168_1 := hx168_1
         have hw168_0 := hx168_0
         cases e168
         obtain ⟨hx168_0, hx168_1, hx168_2, hx168_3, hx168_4⟩ := hb5 HB.out hx168_0 hx168_1 hx168_2 hx168_3 hx168_4
         replace p168 := eq_true p168
         replace q168 := eq_true q168
         refine start_ (n := 9) (S := Sa5 (ad168.add ((x5_1).toNat * 5)) (.string ((rd_T38 l0 x5_1).f0.f0)) (.string ((rd_T38 l0 x5_1).f0.f1)) (.string ((rd_T38 l0 x5_1).f1.f0)) (.string ((rd_T38 l0 x5_1).f1.f1)) (.int .i64 ((rd_T38 l0 x5_1).f2))) (ds := []) #[F_, F_, F_, F_, F_, F_, F_, F_, F_] (by kernel_rfl) rfl rfl ⟨(hbc HB.out hw168_0), (hbc HB.out hw168_1), (hbc HB.out hw168_2), (hbc HB.out hw168_3), (hbc HB.out hw168_4)⟩ (fun hHeld => ?_); refine with_tabW laws_heldLegS.tab4 laws_heldLegS.bits4 (fun HT_ HW_ => ?_)
         generalize wr.drew = w14 at HB hx168_0 hx168_1 hx168_2 hx168_3 hx168_4 hHeld ⊢
         refine pv 0 12 ?_
         refine pv 1 13 ?_
         refine pv 2 14 ?_
         refine pv 3 15 ?_
         refine pv 4 16 ?_
         refine pv 6 18 ?_
         refine tv5 5 17 hHeld ?_
         refine ov 7 19 (fun K hK => ?_)
         refine gk Tryd.func17 (laws_markText.calls _ _ _ _ A5.out) ?_
         rintro e w15 ⟨rfl, hb⟩
         refine ⟨_, rfl, ?_⟩
         replace HB := ho hb
         refine hK.out _ _ ⟨(hbc HB.out hw168_0), (hbc HB.out hw168_1), (hbc HB.out hw168_2), (hbc HB.out hw168_3), (hbc HB.out hw168_4)⟩ (fun hHeld => ?_)
         clear hK K
         refine norm_ (a' := ?_) ?_ ?_
         rotate_left
         ·show Act.put _ (some 19) _ = _
          simp only [Act.put, z1, z2, z3, i64_w, i32_w]
          rfl
         refine pv 8 20 ?_
         refine done_ (done_of HT_.out (by kernel_rfl)) ?_
         try go_wp2
         replace HB := am (below_drew1 HB.out)
         have p170 : 0 ≤ (x5_1 : Int) := ode
         have q170 : x5_1 < (l0.length : Int) := ode
         obtain ⟨ad170, e170, hx170_0, hx170_1, hx170_2, hx170_3, hx170_4⟩ := at_T38 HR0.out x5_1 p170 q170
         have hw170_4 := hx170_4
         have hw170_3 := hx170_3
         have hw170_2 := hx170_2
         have hw170_1 := hx170_1
         have hw170_0 := hx170_0
         obtain rfl : ad168 = ad170 := (by injection e170)
         obtain ⟨hx170_0, hx170_1, hx170_2, hx170_3, hx170_4⟩ := hb5 HB.out hx170_0 hx170_1 hx170_2 hx170_3 hx170_4
         replace p170 := eq_true p170
         replace q170 := eq_true q170
         refine start_ (n := 9) (S := Sa5 (ad168.add ((x5_1).toNat * 5)) (.string ((rd_T38 l0 x5_1).f0.f0)) (.string ((rd_T38 l0 x5_1).f0.f1)) (.string ((rd_T38 l0 x5_1).f1.f0)) (.string ((rd_T38 l0 x5_1).f1.f1)) (.int .i64 ((rd_T38 l0 x5_1).f2))) (ds := []) #[F_, F_, F_, F_, F_, F_, F_, F_, F_] (by kernel_rfl) rfl rfl ⟨(hbc HB.out hw170_0), (hbc HB.out hw170_1), (hbc HB.out hw170_2), (hbc HB.out hw170_3), (hbc HB.out hw170_4)⟩ (fun hHeld => ?_); refine with_tabW laws_heldLegS.tab7 laws_heldLegS.bits7 (fun HT_ HW_ => ?_)
         generalize w15.drew = w16 at HB hx170_0 hx170_1 hx170_2 hx170_3 hx170_4 hHeld ⊢
         refine pv 0 23 ?_
         refine pv 1 24 ?_
         refine pv 2 25 ?_
         refine pv 3 26 ?_
         refine pv 4 27 ?_
         refine pv 6 29 ?_
         refine tv5 5 28 hHeld ?_
         refine ov 7 30 (fun K hK => ?_)
         refine gk Tryd.func17 (laws_markText.calls _ _ _ _ A7.out) ?_
         rintro e w17 ⟨rfl, hb⟩
         refine ⟨_, rfl, ?_⟩
         replace HB := ho hb
         refine hK.out _ _ ⟨(hbc HB.out hw170_0), (hbc HB.out hw170_1), (hbc HB.out hw170_2), (hbc HB.out hw170_3), (hbc HB.out hw170_4)⟩ (fun hHeld => ?_)
         clear hK K
         refine norm_ (a' := ?_) ?_ ?_
         rotate_left
         ·show Act.put _ (some 30) _ = _
          simp only [Act.put, z1, z2, z3, i64_w, i32_w]
          rfl
         refine pv 8 31 ?_
         refine done_ (done_of HT_.out (by kernel_rfl)) ?_
         try go_wp2
         replace HB := am (below_drew1 HB.out)
         have p172 : 0 ≤ (x5_1 : Int) := ode
         have q172 : x5_1 < (l0.length : Int) := ode
         obtain ⟨ad172, e172, hx172_0, hx172_1, hx172_2, hx172_3, hx172_4⟩ := at_T38 HR0.out x5_1 p172 q172
         have hw172_4 := hx172_4
         have hw172_3 := hx172_3
         have hw172_2 := hx172_2
         have hw172_1 := hx172_1
         have hw172_0 := hx172_0
         obtain rfl : ad168 = ad172 := (by injection e172)
         obtain ⟨hx172_0, hx172_1, hx172_2, hx172_3, hx172_4⟩ := hb5 HB.out hx172_0 hx172_1 hx172_2 hx172_3 hx172_4
         replace p172 := eq_true p172
         replace q172 := eq_true q172
         refine start_ (n := 9) (S := Sa5 (ad168.add ((x5_1).toNat * 5)) (.string ((rd_T38 l0 x5_1).f0.f0)) (.string ((rd_T38 l0 x5_1).f0.f1)) (.string ((rd_T38 l0 x5_1).f1.f0)) (.string ((rd_T38 l0 x5_1).f1.f1)) (.int .i64 ((rd_T38 l0 x5_1).f2))) (ds := []) #[F_, F_, F_, F_, F_, F_, F_, F_, F_] (by kernel_rfl) rfl rfl ⟨(hbc HB.out hw172_0), (hbc HB.out hw172_1), (hbc HB.out hw172_2), (hbc HB.out hw172_3), (hbc HB.out hw172_4)⟩ (fun hHeld => ?_); refine with_tabW laws_heldLegS.tab10 laws_heldLegS.bits10 (fun HT_ HW_ => ?_)
         generalize w17.drew = w18 at HB hx172_0 hx172_1 hx172_2 hx172_3 hx172_4 hHeld ⊢
         refine pv 0 34 ?_
         refine pv 1 35 ?_
         refine pv 2 36 ?_
         refine pv 3 37 ?_
         refine pv 4 38 ?_
         refine pv 6 40 ?_
         refine tv5 5 39 hHeld ?_
         refine ov 7 41 (fun K hK => ?_)
         refine gk Tryd.func17 (laws_markText.calls _ _ _ _ A9.out) ?_
         rintro e w19 ⟨rfl, hb⟩
         refine ⟨_, rfl, ?_⟩
         replace HB := ho hb
         refine hK.out _ _ ⟨(hbc HB.out hw172_0), (hbc HB.out hw172_1), (hbc HB.out hw172_2), (hbc HB.out hw172_3), (hbc HB.out hw172_4)⟩ (fun hHeld => ?_)
         clear hK K
         refine norm_ (a' := ?_) ?_ ?_
         rotate_left
         ·show Act.put _ (some 41) _ = _
          simp only [Act.put, z1, z2, z3, i64_w, i32_w]
          rfl
         refine pv 8 42 ?_
         refine done_ (done_of HT_.out (by kernel_rfl)) ?_
         try go_wp2
         replace HB := am (below_drew1 HB.out)
         have p174 : 0 ≤ (x5_1 : Int) := ode
         have q174 : x5_1 < (l0.length : Int) := ode
         obtain ⟨ad174, e174, hx174_0, hx174_1, hx174_2, hx174_3, hx174_4⟩ := at_T38 HR0.out x5_1 p174 q174
         have hw174_4 := hx174_4
         have hw174_3 := hx174_3
         have hw174_2 := hx174_2
         have hw174_1 := hx174_1
         have hw174_0 := hx174_0
         obtain rfl : ad168 = ad174 := (by injection e174)
         obtain ⟨hx174_0, hx174_1, hx174_2, hx174_3, hx174_4⟩ := hb5 HB.out hx174_0 hx174_1 hx174_2 hx174_3 hx174_4
         replace p174 := eq_true p174
         replace q174 := eq_true q174
         refine start_ (n := 9) (S := Sa5 (ad168.add ((x5_1).toNat * 5)) (.string ((rd_T38 l0 x5_1).f0.f0)) (.string ((rd_T38 l0 x5_1).f0.f1)) (.string ((rd_T38 l0 x5_1).f1.f0)) (.string ((rd_T38 l0 x5_1).f1.f1)) (.int .i64 ((rd_T38 l0 x5_1).f2))) (ds := []) #[F_, F_, F_, F_, F_, F_, F_, F_, F_] (by kernel_rfl) rfl rfl ⟨(hbc HB.out hw174_0), (hbc HB.out hw174_1), (hbc HB.out hw174_2), (hbc HB.out hw174_3), (hbc HB.out hw174_4)⟩ (fun hHeld => ?_); refine with_tabW laws_heldLegS.tab13 laws_heldLegS.bits13 (fun HT_ HW_ => ?_)
         generalize w19.drew = w20 at HB hx174_0 hx174_1 hx174_2 hx174_3 hx174_4 hHeld ⊢
         refine pv 0 45 ?_
         refine pv 1 46 ?_
         refine pv 2 47 ?_
         refine pv 3 48 ?_
         refine pv 4 49 ?_
         refine pv 6 51 ?_
         refine tv5 5 50 hHeld ?_
         refine ov 7 52 (fun K hK => ?_)
         refine gk Tryd.func17 (laws_markText.calls _ _ _ _ A11.out) ?_
         rintro e w21 ⟨rfl, hb⟩
         refine ⟨_, rfl, ?_⟩
         replace HB := ho hb
         refine hK.out _ _ ⟨(hbc HB.out hw174_0), (hbc HB.out hw174_1), (hbc HB.out hw174_2), (hbc HB.out hw174_3), (hbc HB.out hw174_4)⟩ (fun hHeld => ?_)
         clear hK K
         refine norm_ (a' := ?_) ?_ ?_
         rotate_left
         ·show Act.put _ (some 52) _ = _
          simp only [Act.put, z1, z2, z3, i64_w, i32_w]
          rfl
         refine pv 8 53 ?_
         refine done_ (done_of HT_.out (by kernel_rfl)) ?_
         have p176 : 0 ≤ (x5_1 : Int) := ode
         have q176 : x5_1 < (l0.length : Int) := ode
         obtain ⟨ad176, e176, hx176_0, hx176_1, hx176_2, hx176_3, hx176_4⟩ := at_T38 HR0.out x5_1 p176 q176
         obtain rfl : ad168 = ad176 := (by injection e176)
         obtain ⟨hx176_0, hx176_1, hx176_2, hx176_3, hx176_4⟩ := hb5 HB.out hx176_0 hx176_1 hx176_2 hx176_3 hx176_4
         replace p176 := eq_true p176
         replace q176 := eq_true q176
         try go_wp2
         go_roundg k1
         case measure => have := HK1.out; omega
         case rel => exact ⟨(wrap64 ((wrap64 ((wrap64 ((wrap64 ((wrap64 (x1_1 + 1)) + 1)) + 1)) + 1)) + 1)), (wrap64 (x5_1 + 1)), rs, rs, H', ⟨by have := HK1.out; omega⟩, ⟨bl⟩⟩
        obtain rfl := Option.some.inj H
        try go_wp2
        replace HB := am (below_drew1 HB.out)
        have p168 : 0 ≤ (x5_1 : Int) := ode
        have q168 : x5_1 < (l0.length : Int) := ode
        obtain ⟨ad168, e168, hx168_0, hx168_1, hx168_2, hx168_3, hx168_4⟩ := at_T38 HR0.out x5_1 p168 q168
        have hw168_4 := hx168_4
        have hw168_3 := hx168_3
        have hw168_2 := hx168_2
        have hw168_1 := hx168_1
        have hw168_0 := hx168_0
        cases e168
        obtain ⟨hx168_0, hx168_1, hx168_2, hx168_3, hx168_4⟩ := hb5 HB.out hx168_0 hx168_1 hx168_2 hx168_3 hx168_4
        replace p168 := eq_true p168
        replace q168 := eq_true q168
        refine start_ (n := 9) (S := Sa5 (ad168.add ((x5_1).toNat * 5)) (.string ((rd_T38 l0 x5_1).f0.f0)) (.string ((rd_T38 l0 x5_1).f0.f1)) (.string ((rd_T38 l0 x5_1).f1.f0)) (.string ((rd_T38 l0 x5_1).f1.f1)) (.int .i64 ((rd_T38 l0 x5_1).f2))) (ds := []) #[F_, F_, F_, F_, F_, F_, F_, F_, F_] (by kernel_rfl) rfl rfl ⟨(hbc HB.out hw168_0), (hbc HB.out hw168_1), (hbc HB.out hw168_2), (hbc HB.out hw168_3), (hbc HB.out hw168_4)⟩ (fun hHeld => ?_); refine with_tabW laws_heldLegS.tab4 laws_heldLegS.bits4 (fun HT_ HW_ => ?_)
        generalize wr.drew = w22 at HB hx168_0 hx168_1 hx168_2 hx168_3 hx168_4 hHeld ⊢
        refine pv 0 12 ?_
        refine pv 1 13 ?_
        refine pv 2 14 ?_
        refine pv 3 15 ?_
        refine pv 4 16 ?_
        refine pv 6 18 ?_
        refine tv5 5 17 hHeld ?_
        refine ov 7 19 (fun K hK => ?_)
        refine gk Tryd.func17 (laws_markText.calls _ _ _ _ A5.out) ?_
        rintro e w23 ⟨rfl, hb⟩
        refine ⟨_, rfl, ?_⟩
        replace HB := ho hb
        refine hK.out _ _ ⟨(hbc HB.out hw168_0), (hbc HB.out hw168_1), (hbc HB.out hw168_2), (hbc HB.out hw168_3), (hbc HB.out hw168_4)⟩ (fun hHeld => ?_)
        clear hK K
        refine norm_ (a' := ?_) ?_ ?_
        rotate_left
        ·show Act.put _ (some 19) _ = _
         simp only [Act.put, z1, z2, z3, i64_w, i32_w]
         rfl
        refine pv 8 20 ?_
        refine done_ (done_of HT_.out (by kernel_rfl)) ?_
        try go_wp2
        replace HB := am (below_drew1 HB.out)
        have p170 : 0 ≤ (x5_1 : Int) := ode
        have q170 : x5_1 < (l0.length : Int) := ode
        obtain ⟨ad170, e170, hx170_0, hx170_1, hx170_2, hx170_3, hx170_4⟩ := at_T38 HR0.out x5_1 p170 q170
        have hw170_4 := hx170_4
        have hw170_3 := hx170_3
        have hw170_2 := hx170_2
        have hw170_1 := hx170_1
        have hw170_0 := hx170_0
        obtain rfl : ad168 = ad170 := (by injection e170)
        obtain ⟨hx170_0, hx170_1, hx170_2, hx170_3, hx170_4⟩ := hb5 HB.out hx170_0 hx170_1 hx170_2 hx170_3 hx170_4
        replace p170 := eq_true p170
        replace q170 := eq_true q170
        refine start_ (n := 9) (S := Sa5 (ad168.add ((x5_1).toNat * 5)) (.string ((rd_T38 l0 x5_1).f0.f0)) (.string ((rd_T38 l0 x5_1).f0.f1)) (.string ((rd_T38 l0 x5_1).f1.f0)) (.string ((rd_T38 l0 x5_1).f1.f1)) (.int .i64 ((rd_T38 l0 x5_1).f2))) (ds := []) #[F_, F_, F_, F_, F_, F_, F_, F_, F_] (by kernel_rfl) rfl rfl ⟨(hbc HB.out hw170_0), (hbc HB.out hw170_1), (hbc HB.out hw170_2), (hbc HB.out hw170_3), (hbc HB.out hw170_4)⟩ (fun hHeld => ?_); refine with_tabW laws_heldLegS.tab7 laws_heldLegS.bits7 (fun HT_ HW_ => ?_)
        generalize w23.drew = w24 at HB hx170_0 hx170_1 hx170_2 hx170_3 hx170_4 hHeld ⊢
        refine pv 0 23 ?_
        refine pv 1 24 ?_
        refine pv 2 25 ?_
        refine pv 3 26 ?_
        refine pv 4 27 ?_
        refine pv 6 29 ?_
        refine tv5 5 28 hHeld ?_
        refine ov 7 30 (fun K hK => ?_)
        refine gk Tryd.func17 (laws_markText.calls _ _ _ _ A7.out) ?_
        rintro e w25 ⟨rfl, hb⟩
        refine ⟨_, rfl, ?_⟩
        replace HB := ho hb
        refine hK.out _ _ ⟨(hbc HB.out hw170_0), (hbc HB.out hw170_1), (hbc HB.out hw170_2), (hbc HB.out hw170_3), (hbc HB.out hw170_4)⟩ (fun hHeld => ?_)
        clear hK K
        refine norm_ (a' := ?_) ?_ ?_
        rotate_left
        ·show Act.put _ (some 30) _ = _
         simp only [Act.put, z1, z2, z3, i64_w, i32_w]
         rfl
        refine pv 8 31 ?_
        refine done_ (done_of HT_.out (by kernel_rfl)) ?_
        try go_wp2
        replace HB := am (below_drew1 HB.out)
        have p172 : 0 ≤ (x5_1 : Int) := ode
        have q172 : x5_1 < (l0.length : Int) := ode
        obtain ⟨ad172, e172, hx172_0, hx172_1, hx172_2, hx172_3, hx172_4⟩ := at_T38 HR0.out x5_1 p172 q172
        have hw172_4 := hx172_4
        have hw172_3 := hx172_3
        have hw172_2 := hx172_2
        have hw172_1 := hx172_1
        have hw172_0 := hx172_0
        obtain rfl : ad168 = ad172 := (by injection e172)
        obtain ⟨hx172_0, hx172_1, hx172_2, hx172_3, hx172_4⟩ := hb5 HB.out hx172_0 hx172_1 hx172_2 hx172_3 hx172_4
        replace p172 := eq_true p172
        replace q172 := eq_true q172
        refine start_ (n := 9) (S := Sa5 (ad168.add ((x5_1).toNat * 5)) (.string ((rd_T38 l0 x5_1).f0.f0)) (.string ((rd_T38 l0 x5_1).f0.f1)) (.string ((rd_T38 l0 x5_1).f1.f0)) (.string ((rd_T38 l0 x5_1).f1.f1)) (.int .i64 ((rd_T38 l0 x5_1).f2))) (ds := []) #[F_, F_, F_, F_, F_, F_, F_, F_, F_] (by kernel_rfl) rfl rfl ⟨(hbc HB.out hw172_0), (hbc HB.out hw172_1), (hbc HB.out hw172_2), (hbc HB.out hw172_3), (hbc HB.out hw172_4)⟩ (fun hHeld => ?_); refine with_tabW laws_heldLegS.tab10 laws_heldLegS.bits10 (fun HT_ HW_ => ?_)
        generalize w25.drew = w26 at HB hx172_0 hx172_1 hx172_2 hx172_3 hx172_4 hHeld ⊢
        refine pv 0 34 ?_
        refine pv 1 35 ?_
        refine pv 2 36 ?_
        refine pv 3 37 ?_
        refine pv 4 38 ?_
        refine pv 6 40 ?_
        refine tv5 5 39 hHeld ?_
        refine ov 7 41 (fun K hK => ?_)
        refine gk Tryd.func17 (laws_markText.calls _ _ _ _ A9.out) ?_
        rintro e w27 ⟨rfl, hb⟩
        refine ⟨_, rfl, ?_⟩
        replace HB := ho hb
        refine hK.out _ _ ⟨(hbc HB.out hw172_0), (hbc HB.out hw172_1), (hbc HB.out hw172_2), (hbc HB.out hw172_3), (hbc HB.out hw172_4)⟩ (fun hHeld => ?_)
        clear hK K
        refine norm_ (a' := ?_) ?_ ?_
        rotate_left
        ·show Act.put _ (some 41) _ = _
         simp only [Act.put, z1, z2, z3, i64_w, i32_w]
         rfl
        refine pv 8 42 ?_
        refine done_ (done_of HT_.out (by kernel_rfl)) ?_
        try go_wp2
        replace HB := am (below_drew1 HB.out)
        have p174 : 0 ≤ (x5_1 : Int) := ode
        have q174 : x5_1 < (l0.length : Int) := ode
        obtain ⟨ad174, e174, hx174_0, hx174_1, hx174_2, hx174_3, hx174_4⟩ := at_T38 HR0.out x5_1 p174 q174
        have hw174_4 := hx174_4
        have hw174_3 := hx174_3
        have hw174_2 := hx174_2
        have hw174_1 := hx174_1
        have hw174_0 := hx174_0
        obtain rfl : ad168 = ad174 := (by injection e174)
        obtain ⟨hx174_0, hx174_1, hx174_2, hx174_3, hx174_4⟩ := hb5 HB.out hx174_0 hx174_1 hx174_2 hx174_3 hx174_4
        replace p174 := eq_true p174
        replace q174 := eq_true q174
        refine start_ (n := 9) (S := Sa5 (ad168.add ((x5_1).toNat * 5)) (.string ((rd_T38 l0 x5_1).f0.f0)) (.string ((rd_T38 l0 x5_1).f0.f1)) (.string ((rd_T38 l0 x5_1).f1.f0)) (.string ((rd_T38 l0 x5_1).f1.f1)) (.int .i64 ((rd_T38 l0 x5_1).f2))) (ds := []) #[F_, F_, F_, F_, F_, F_, F_, F_, F_] (by kernel_rfl) rfl rfl ⟨(hbc HB.out hw174_0), (hbc HB.out hw174_1), (hbc HB.out hw174_2), (hbc HB.out hw174_3), (hbc HB.out hw174_4)⟩ (fun hHeld => ?_); refine with_tabW laws_heldLegS.tab13 laws_heldLegS.bits13 (fun HT_ HW_ => ?_)
        generalize w27.drew = w28 at HB hx174_0 hx174_1 hx174_2 hx174_3 hx174_4 hHeld ⊢
        refine pv 0 45 ?_
        refine pv 1 46 ?_
        refine pv 2 47 ?_
        refine pv 3 48 ?_
        refine pv 4 49 ?_
        refine pv 6 51 ?_
        refine tv5 5 50 hHeld ?_
        refine ov 7 52 (fun K hK => ?_)
        refine gk Tryd.func17 (laws_markText.calls _ _ _ _ A11.out) ?_
        rintro e w29 ⟨rfl, hb⟩
        refine ⟨_, rfl, ?_⟩
        replace HB := ho hb
        refine hK.out _ _ ⟨(hbc HB.out hw174_0), (hbc HB.out hw174_1), (hbc HB.out hw174_2), (hbc HB.out hw174_3), (hbc HB.out hw174_4)⟩ (fun hHeld => ?_)
        clear hK K
        refine norm_ (a' := ?_) ?_ ?_
        rotate_left
        ·show Act.put _ (some 52) _ = _
         simp only [Act.put, z1, z2, z3, i64_w, i32_w]
         rfl
        refine pv 8 53 ?_
        refine done_ (done_of HT_.out (by kernel_rfl)) ?_
        have p176 : 0 ≤ (x5_1 : Int) := ode
        have q176 : x5_1 < (l0.length : Int) := ode
        obtain ⟨ad176, e176, hx176_0, hx176_1, hx176_2, hx176_3, hx176_4⟩ := at_T38 HR0.out x5_1 p176 q176
        obtain rfl : ad168 = ad176 := (by injection e176)
        obtain ⟨hx176_0, hx176_1, hx176_2, hx176_3, hx176_4⟩ := hb5 HB.out hx176_0 hx176_1 hx176_2 hx176_3 hx176_4
        replace p176 := eq_true p176
        replace q176 := eq_true q176
        try go_wp2
        go_ret
        exact ⟨er, bl⟩
       obtain rfl := Option.some.inj H
       try go_wp2
       replace HB := am (below_drew1 HB.out)
       have p168 : 0 ≤ (x5_1 : Int) := ode
       have q168 : x5_1 < (l0.length : Int) := ode
       obtain ⟨ad168, e168, hx168_0, hx168_1, hx168_2, hx168_3, hx168_4⟩ := at_T38 HR0.out x5_1 p168 q168
       have hw168_4 := hx168_4
       have hw168_3 := hx168_3
       have hw168_2 := hx168_2
       have hw168_1 := hx168_1
       have hw168_0 := hx168_0
       cases e168
       obtain ⟨hx168_0, hx168_1, hx168_2, hx168_3, hx168_4⟩ := hb5 HB.out hx168_0 hx168_1 hx168_2 hx168_3 hx168_4
       replace p168 := eq_true p168
       replace q168 := eq_true q168
       refine start_ (n := 9) (S := Sa5 (ad168.add ((x5_1).toNat * 5)) (.string ((rd_T38 l0 x5_1).f0.f0)) (.string ((rd_T38 l0 x5_1).f0.f1)) (.string ((rd_T38 l0 x5_1).f1.f0)) (.string ((rd_T38 l0 x5_1).f1.f1)) (.int .i64 ((rd_T38 l0 x5_1).f2))) (ds := []) #[F_, F_, F_, F_, F_, F_, F_, F_, F_] (by kernel_rfl) rfl rfl ⟨(hbc HB.out hw168_0), (hbc HB.out hw168_1), (hbc HB.out hw168_2), (hbc HB.out hw168_3), (hbc HB.out hw168_4)⟩ (fun hHeld => ?_); refine with_tabW laws_heldLegS.tab4 laws_heldLegS.bits4 (fun HT_ HW_ => ?_)
       generalize wr.drew = w30 at HB hx168_0 hx168_1 hx168_2 hx168_3 hx168_4 hHeld ⊢
       refine pv 0 12 ?_
       refine pv 1 13 ?_
       refine pv 2 14 ?_
       refine pv 3 15 ?_
       refine pv 4 16 ?_
       refine pv 6 18 ?_
       refine tv5 5 17 hHeld ?_
       refine ov 7 19 (fun K hK => ?_)
       refine gk Tryd.func17 (laws_markText.calls _ _ _ _ A5.out) ?_
       rintro e w31 ⟨rfl, hb⟩
       refine ⟨_, rfl, ?_⟩
       replace HB := ho hb
       refine hK.out _ _ ⟨(hbc HB.out hw168_0), (hbc HB.out hw168_1), (hbc HB.out hw168_2), (hbc HB.out hw168_3), (hbc HB.out hw168_4)⟩ (fun hHeld => ?_)
       clear hK K
       refine norm_ (a' := ?_) ?_ ?_
       rotate_left
       ·show Act.put _ (some 19) _ = _
        simp only [Act.put, z1, z2, z3, i64_w, i32_w]
        rfl
       refine pv 8 20 ?_
       refine done_ (done_of HT_.out (by kernel_rfl)) ?_
       try go_wp2
       replace HB := am (below_drew1 HB.out)
       have p170 : 0 ≤ (x5_1 : Int) := ode
       have q170 : x5_1 < (l0.length : Int) := ode
       obtain ⟨ad170, e170, hx170_0, hx170_1, hx170_2, hx170_3, hx170_4⟩ := at_T38 HR0.out x5_1 p170 q170
       have hw170_4 := hx170_4
       have hw170_3 := hx170_3
       have hw170_2 := hx170_2
       have hw170_1 := hx170_1
       have hw170_0 := hx170_0
       obtain rfl : ad168 = ad170 := (by injection e170)
       obtain ⟨hx170_0, hx170_1, hx170_2, hx170_3, hx170_4⟩ := hb5 HB.out hx170_0 hx170_1 hx170_2 hx170_3 hx170_4
       replace p170 := eq_true p170
       replace q170 := eq_true q170
       refine start_ (n := 9) (S := Sa5 (ad168.add ((x5_1).toNat * 5)) (.string ((rd_T38 l0 x5_1).f0.f0)) (.string ((rd_T38 l0 x5_1).f0.f1)) (.string ((rd_T38 l0 x5_1).f1.f0)) (.string ((rd_T38 l0 x5_1).f1.f1)) (.int .i64 ((rd_T38 l0 x5_1).f2))) (ds := []) #[F_, F_, F_, F_, F_, F_, F_, F_, F_] (by kernel_rfl) rfl rfl ⟨(hbc HB.out hw170_0), (hbc HB.out hw170_1), (hbc HB.out hw170_2), (hbc HB.out hw170_3), (hbc HB.out hw170_4)⟩ (fun hHeld => ?_); refine with_tabW laws_heldLegS.tab7 laws_heldLegS.bits7 (fun HT_ HW_ => ?_)
       generalize w31.drew = w32 at HB hx170_0 hx170_1 hx170_2 hx170_3 hx170_4 hHeld ⊢
       refine pv 0 23 ?_
       refine pv 1 24 ?_
       refine pv 2 25 ?_
       refine pv 3 26 ?_
       refine pv 4 27 ?_
       refine pv 6 29 ?_
       refine tv5 5 28 hHeld ?_
       refine ov 7 30 (fun K hK => ?_)
       refine gk Tryd.func17 (laws_markText.calls _ _ _ _ A7.out) ?_
       rintro e w33 ⟨rfl, hb⟩
       refine ⟨_, rfl, ?_⟩
       replace HB := ho hb
       refine hK.out _ _ ⟨(hbc HB.out hw170_0), (hbc HB.out hw170_1), (hbc HB.out hw170_2), (hbc HB.out hw170_3), (hbc HB.out hw170_4)⟩ (fun hHeld => ?_)
       clear hK K
       refine norm_ (a' := ?_) ?_ ?_
       rotate_left
       ·show Act.put _ (some 30) _ = _
        simp only [Act.put, z1, z2, z3, i64_w, i32_w]
        rfl
       refine pv 8 31 ?_
       refine done_ (done_of HT_.out (by kernel_rfl)) ?_
       try go_wp2
       replace HB := am (below_drew1 HB.out)
       have p172 : 0 ≤ (x5_1 : Int) := ode
       have q172 : x5_1 < (l0.length : Int) := ode
       obtain ⟨ad172, e172, hx172_0, hx172_1, hx172_2, hx172_3, hx172_4⟩ := at_T38 HR0.out x5_1 p172 q172
       have hw172_4 := hx172_4
       have hw172_3 := hx172_3
       have hw172_2 := hx172_2
       have hw172_1 := hx172_1
       have hw172_0 := hx172_0
       obtain rfl : ad168 = ad172 := (by injection e172)
       obtain ⟨hx172_0, hx172_1, hx172_2, hx172_3, hx172_4⟩ := hb5 HB.out hx172_0 hx172_1 hx172_2 hx172_3 hx172_4
       replace p172 := eq_true p172
       replace q172 := eq_true q172
       refine start_ (n := 9) (S := Sa5 (ad168.add ((x5_1).toNat * 5)) (.string ((rd_T38 l0 x5_1).f0.f0)) (.string ((rd_T38 l0 x5_1).f0.f1)) (.string ((rd_T38 l0 x5_1).f1.f0)) (.string ((rd_T38 l0 x5_1).f1.f1)) (.int .i64 ((rd_T38 l0 x5_1).f2))) (ds := []) #[F_, F_, F_, F_, F_, F_, F_, F_, F_] (by kernel_rfl) rfl rfl ⟨(hbc HB.out hw172_0), (hbc HB.out hw172_1), (hbc HB.out hw172_2), (hbc HB.out hw172_3), (hbc HB.out hw172_4)⟩ (fun hHeld => ?_); refine with_tabW laws_heldLegS.tab10 laws_heldLegS.bits10 (fun HT_ HW_ => ?_)
       generalize w33.drew = w34 at HB hx172_0 hx172_1 hx172_2 hx172_3 hx172_4 hHeld ⊢
       refine pv 0 34 ?_
       refine pv 1 35 ?_
       refine pv 2 36 ?_
       refine pv 3 37 ?_
       refine pv 4 38 ?_
       refine pv 6 40 ?_
       refine tv5 5 39 hHeld ?_
       refine ov 7 41 (fun K hK => ?_)
       refine gk Tryd.func17 (laws_markText.calls _ _ _ _ A9.out) ?_
       rintro e w35 ⟨rfl, hb⟩
       refine ⟨_, rfl, ?_⟩
       replace HB := ho hb
       refine hK.out _ _ ⟨(hbc HB.out hw172_0), (hbc HB.out hw172_1), (hbc HB.out hw172_2), (hbc HB.out hw172_3), (hbc HB.out hw172_4)⟩ (fun hHeld => ?_)
       clear hK K
       refine norm_ (a' := ?_) ?_ ?_
       rotate_left
       ·show Act.put _ (some 41) _ = _
        simp only [Act.put, z1, z2, z3, i64_w, i32_w]
        rfl
       refine pv 8 42 ?_
       refine done_ (done_of HT_.out (by kernel_rfl)) ?_
       try go_wp2
       replace HB := am (below_drew1 HB.out)
       have p174 : 0 ≤ (x5_1 : Int) := ode
       have q174 : x5_1 < (l0.length : Int) := ode
       obtain ⟨ad174, e174, hx174_0, hx174_1, hx174_2, hx174_3, hx174_4⟩ := at_T38 HR0.out x5_1 p174 q174
       have hw174_4 := hx174_4
       have hw174_3 := hx174_3
       have hw174_2 := hx174_2
       have hw174_1 := hx174_1
       have hw174_0 := hx174_0
       obtain rfl : ad168 = ad174 := (by injection e174)
       obtain ⟨hx174_0, hx174_1, hx174_2, hx174_3, hx174_4⟩ := hb5 HB.out hx174_0 hx174_1 hx174_2 hx174_3 hx174_4
       replace p174 := eq_true p174
       replace q174 := eq_true q174
       refine start_ (n := 9) (S := Sa5 (ad168.add ((x5_1).toNat * 5)) (.string ((rd_T38 l0 x5_1).f0.f0)) (.string ((rd_T38 l0 x5_1).f0.f1)) (.string ((rd_T38 l0 x5_1).f1.f0)) (.string ((rd_T38 l0 x5_1).f1.f1)) (.int .i64 ((rd_T38 l0 x5_1).f2))) (ds := []) #[F_, F_, F_, F_, F_, F_, F_, F_, F_] (by kernel_rfl) rfl rfl ⟨(hbc HB.out hw174_0), (hbc HB.out hw174_1), (hbc HB.out hw174_2), (hbc HB.out hw174_3), (hbc HB.out hw174_4)⟩ (fun hHeld => ?_); refine with_tabW laws_heldLegS.tab13 laws_heldLegS.bits13 (fun HT_ HW_ => ?_)
       generalize w35.drew = w36 at HB hx174_0 hx174_1 hx174_2 hx174_3 hx174_4 hHeld ⊢
       refine pv 0 45 ?_
       refine pv 1 46 ?_
       refine pv 2 47 ?_
       refine pv 3 48 ?_
       refine pv 4 49 ?_
       refine pv 6 51 ?_
       refine tv5 5 50 hHeld ?_
       refine ov 7 52 (fun K hK => ?_)
       refine gk Tryd.func17 (laws_markText.calls _ _ _ _ A11.out) ?_
       rintro e w37 ⟨rfl, hb⟩
       refine ⟨_, rfl, ?_⟩
       replace HB := ho hb
       refine hK.out _ _ ⟨(hbc HB.out hw174_0), (hbc HB.out hw174_1), (hbc HB.out hw174_2), (hbc HB.out hw174_3), (hbc HB.out hw174_4)⟩ (fun hHeld => ?_)
       clear hK K
       refine norm_ (a' := ?_) ?_ ?_
       rotate_left
       ·show Act.put _ (some 52) _ = _
        simp only [Act.put, z1, z2, z3, i64_w, i32_w]
        rfl
       refine pv 8 53 ?_
       refine done_ (done_of HT_.out (by kernel_rfl)) ?_
       try go_wp2
       go_ret
       exact ⟨er, bl⟩
      obtain rfl := Option.some.inj H
      try go_wp2
      replace HB := am (below_drew1 HB.out)
      have p168 : 0 ≤ (x5_1 : Int) := ode
      have q168 : x5_1 < (l0.length : Int) := ode
      obtain ⟨ad168, e168, hx168_0, hx168_1, hx168_2, hx168_3, hx168_4⟩ := at_T38 HR0.out x5_1 p168 q168
      have hw168_4 := hx168_4
      have hw168_3 := hx168_3
      have hw168_2 := hx168_2
      have hw168_1 := hx168_1
      have hw168_0 := hx168_0
      cases e168
      obtain ⟨hx168_0, hx168_1, hx168_2, hx168_3, hx168_4⟩ := hb5 HB.out hx168_0 hx168_1 hx168_2 hx168_3 hx168_4
      replace p168 := eq_true p168
      replace q168 := eq_true q168
      refine start_ (n := 9) (S := Sa5 (ad168.add ((x5_1).toNat * 5)) (.string ((rd_T38 l0 x5_1).f0.f0)) (.string ((rd_T38 l0 x5_1).f0.f1)) (.string ((rd_T38 l0 x5_1).f1.f0)) (.string ((rd_T38 l0 x5_1).f1.f1)) (.int .i64 ((rd_T38 l0 x5_1).f2))) (ds := []) #[F_, F_, F_, F_, F_, F_, F_, F_, F_] (by kernel_rfl) rfl rfl ⟨(hbc HB.out hw168_0), (hbc HB.out hw168_1), (hbc HB.out hw168_2), (hbc HB.out hw168_3), (hbc HB.out hw168_4)⟩ (fun hHeld => ?_); refine with_tabW laws_heldLegS.tab4 laws_heldLegS.bits4 (fun HT_ HW_ => ?_)
      generalize wr.drew = w38 at HB hx168_0 hx168_1 hx168_2 hx168_3 hx168_4 hHeld ⊢
      refine pv 0 12 ?_
      refine pv 1 13 ?_
      refine pv 2 14 ?_
      refine pv 3 15 ?_
      refine pv 4 16 ?_
      refine pv 6 18 ?_
      refine tv5 5 17 hHeld ?_
      refine ov 7 19 (fun K hK => ?_)
      refine gk Tryd.func17 (laws_markText.calls _ _ _ _ A5.out) ?_
      rintro e w39 ⟨rfl, hb⟩
      refine ⟨_, rfl, ?_⟩
      replace HB := ho hb
      refine hK.out _ _ ⟨(hbc HB.out hw168_0), (hbc HB.out hw168_1), (hbc HB.out hw168_2), (hbc HB.out hw168_3), (hbc HB.out hw168_4)⟩ (fun hHeld => ?_)
      clear hK K
      refine norm_ (a' := ?_) ?_ ?_
      rotate_left
      ·show Act.put _ (some 19) _ = _
       simp only [Act.put, z1, z2, z3, i64_w, i32_w]
       rfl
      refine pv 8 20 ?_
      refine done_ (done_of HT_.out (by kernel_rfl)) ?_
      try go_wp2
      replace HB := am (below_drew1 HB.out)
      have p170 : 0 ≤ (x5_1 : Int) := ode
      have q170 : x5_1 < (l0.length : Int) := ode
      obtain ⟨ad170, e170, hx170_0, hx170_1, hx170_2, hx170_3, hx170_4⟩ := at_T38 HR0.out x5_1 p170 q170
      have hw170_4 := hx170_4
      have hw170_3 := hx170_3
      have hw170_2 := hx170_2
      have hw170_1 := hx170_1
      have hw170_0 := hx170_0
      obtain rfl : ad168 = ad170 := (by injection e170)
      obtain ⟨hx170_0, hx170_1, hx170_2, hx170_3, hx170_4⟩ := hb5 HB.out hx170_0 hx170_1 hx170_2 hx170_3 hx170_4
      replace p170 := eq_true p170
      replace q170 := eq_true q170
      refine start_ (n := 9) (S := Sa5 (ad168.add ((x5_1).toNat * 5)) (.string ((rd_T38 l0 x5_1).f0.f0)) (.string ((rd_T38 l0 x5_1).f0.f1)) (.string ((rd_T38 l0 x5_1).f1.f0)) (.string ((rd_T38 l0 x5_1).f1.f1)) (.int .i64 ((rd_T38 l0 x5_1).f2))) (ds := []) #[F_, F_, F_, F_, F_, F_, F_, F_, F_] (by kernel_rfl) rfl rfl ⟨(hbc HB.out hw170_0), (hbc HB.out hw170_1), (hbc HB.out hw170_2), (hbc HB.out hw170_3), (hbc HB.out hw170_4)⟩ (fun hHeld => ?_); refine with_tabW laws_heldLegS.tab7 laws_heldLegS.bits7 (fun HT_ HW_ => ?_)
      generalize w39.drew = w40 at HB hx170_0 hx170_1 hx170_2 hx170_3 hx170_4 hHeld ⊢
      refine pv 0 23 ?_
      refine pv 1 24 ?_
      refine pv 2 25 ?_
      refine pv 3 26 ?_
      refine pv 4 27 ?_
      refine pv 6 29 ?_
      refine tv5 5 28 hHeld ?_
      refine ov 7 30 (fun K hK => ?_)
      refine gk Tryd.func17 (laws_markText.calls _ _ _ _ A7.out) ?_
      rintro e w41 ⟨rfl, hb⟩
      refine ⟨_, rfl, ?_⟩
      replace HB := ho hb
      refine hK.out _ _ ⟨(hbc HB.out hw170_0), (hbc HB.out hw170_1), (hbc HB.out hw170_2), (hbc HB.out hw170_3), (hbc HB.out hw170_4)⟩ (fun hHeld => ?_)
      clear hK K
      refine norm_ (a' := ?_) ?_ ?_
      rotate_left
      ·show Act.put _ (some 30) _ = _
       simp only [Act.put, z1, z2, z3, i64_w, i32_w]
       rfl
      refine pv 8 31 ?_
      refine done_ (done_of HT_.out (by kernel_rfl)) ?_
      try go_wp2
      replace HB := am (below_drew1 HB.out)
      have p172 : 0 ≤ (x5_1 : Int) := ode
      have q172 : x5_1 < (l0.length : Int) := ode
      obtain ⟨ad172, e172, hx172_0, hx172_1, hx172_2, hx172_3, hx172_4⟩ := at_T38 HR0.out x5_1 p172 q172
      have hw172_4 := hx172_4
      have hw172_3 := hx172_3
      have hw172_2 := hx172_2
      have hw172_1 := hx172_1
      have hw172_0 := hx172_0
      obtain rfl : ad168 = ad172 := (by injection e172)
      obtain ⟨hx172_0, hx172_1, hx172_2, hx172_3, hx172_4⟩ := hb5 HB.out hx172_0 hx172_1 hx172_2 hx172_3 hx172_4
      replace p172 := eq_true p172
      replace q172 := eq_true q172
      refine start_ (n := 9) (S := Sa5 (ad168.add ((x5_1).toNat * 5)) (.string ((rd_T38 l0 x5_1).f0.f0)) (.string ((rd_T38 l0 x5_1).f0.f1)) (.string ((rd_T38 l0 x5_1).f1.f0)) (.string ((rd_T38 l0 x5_1).f1.f1)) (.int .i64 ((rd_T38 l0 x5_1).f2))) (ds := []) #[F_, F_, F_, F_, F_, F_, F_, F_, F_] (by kernel_rfl) rfl rfl ⟨(hbc HB.out hw172_0), (hbc HB.out hw172_1), (hbc HB.out hw172_2), (hbc HB.out hw172_3), (hbc HB.out hw172_4)⟩ (fun hHeld => ?_); refine with_tabW laws_heldLegS.tab10 laws_heldLegS.bits10 (fun HT_ HW_ => ?_)
      generalize w41.drew = w42 at HB hx172_0 hx172_1 hx172_2 hx172_3 hx172_4 hHeld ⊢
      refine pv 0 34 ?_
      refine pv 1 35 ?_
      refine pv 2 36 ?_
      refine pv 3 37 ?_
      refine pv 4 38 ?_
      refine pv 6 40 ?_
      refine tv5 5 39 hHeld ?_
      refine ov 7 41 (fun K hK => ?_)
      refine gk Tryd.func17 (laws_markText.calls _ _ _ _ A9.out) ?_
      rintro e w43 ⟨rfl, hb⟩
      refine ⟨_, rfl, ?_⟩
      replace HB := ho hb
      refine hK.out _ _ ⟨(hbc HB.out hw172_0), (hbc HB.out hw172_1), (hbc HB.out hw172_2), (hbc HB.out hw172_3), (hbc HB.out hw172_4)⟩ (fun hHeld => ?_)
      clear hK K
      refine norm_ (a' := ?_) ?_ ?_
      rotate_left
      ·show Act.put _ (some 41) _ = _
       simp only [Act.put, z1, z2, z3, i64_w, i32_w]
       rfl
      refine pv 8 42 ?_
      refine done_ (done_of HT_.out (by kernel_rfl)) ?_
      try go_wp2
      go_ret
      exact ⟨er, bl⟩
     obtain rfl := Option.some.inj H
     try go_wp2
     replace HB := am (below_drew1 HB.out)
     have p168 : 0 ≤ (x5_1 : Int) := ode
     have q168 : x5_1 < (l0.length : Int) := ode
     obtain ⟨ad168, e168, hx168_0, hx168_1, hx168_2, hx168_3, hx168_4⟩ := at_T38 HR0.out x5_1 p168 q168
     have hw168_4 := hx168_4
     have hw168_3 := hx168_3
     have hw168_2 := hx168_2
     have hw168_1 := hx168_1
     have hw168_0 := hx168_0
     cases e168
     obtain ⟨hx168_0, hx168_1, hx168_2, hx168_3, hx168_4⟩ := hb5 HB.out hx168_0 hx168_1 hx168_2 hx168_3 hx168_4
     replace p168 := eq_true p168
     replace q168 := eq_true q168
     refine start_ (n := 9) (S := Sa5 (ad168.add ((x5_1).toNat * 5)) (.string ((rd_T38 l0 x5_1).f0.f0)) (.string ((rd_T38 l0 x5_1).f0.f1)) (.string ((rd_T38 l0 x5_1).f1.f0)) (.string ((rd_T38 l0 x5_1).f1.f1)) (.int .i64 ((rd_T38 l0 x5_1).f2))) (ds := []) #[F_, F_, F_, F_, F_, F_, F_, F_, F_] (by kernel_rfl) rfl rfl ⟨(hbc HB.out hw168_0), (hbc HB.out hw168_1), (hbc HB.out hw168_2), (hbc HB.out hw168_3), (hbc HB.out hw168_4)⟩ (fun hHeld => ?_); refine with_tabW laws_heldLegS.tab4 laws_heldLegS.bits4 (fun HT_ HW_ => ?_)
     generalize wr.drew = w44 at HB hx168_0 hx168_1 hx168_2 hx168_3 hx168_4 hHeld ⊢
     refine pv 0 12 ?_
     refine pv 1 13 ?_
     refine pv 2 14 ?_
     refine pv 3 15 ?_
     refine pv 4 16 ?_
     refine pv 6 18 ?_
     refine tv5 5 17 hHeld ?_
     refine ov 7 19 (fun K hK => ?_)
     refine gk Tryd.func17 (laws_markText.calls _ _ _ _ A5.out) ?_
     rintro e w45 ⟨rfl, hb⟩
     refine ⟨_, rfl, ?_⟩
     replace HB := ho hb
     refine hK.out _ _ ⟨(hbc HB.out hw168_0), (hbc HB.out hw168_1), (hbc HB.out hw168_2), (hbc HB.out hw168_3), (hbc HB.out hw168_4)⟩ (fun hHeld => ?_)
     clear hK K
     refine norm_ (a' := ?_) ?_ ?_
     rotate_left
     ·show Act.put _ (some 19) _ = _
      simp only [Act.put, z1, z2, z3, i64_w, i32_w]
      rfl
     refine pv 8 20 ?_
     refine done_ (done_of HT_.out (by kernel_rfl)) ?_
     try go_wp2
     replace HB := am (below_drew1 HB.out)
     have p170 : 0 ≤ (x5_1 : Int) := ode
     have q170 : x5_1 < (l0.length : Int) := ode
     obtain ⟨ad170, e170, hx170_0, hx170_1, hx170_2, hx170_3, hx170_4⟩ := at_T38 HR0.out x5_1 p170 q170
     have hw170_4 := hx170_4
     have hw170_3 := hx170_3
     have hw170_2 := hx170_2
     have hw170_1 := hx170_1
     have hw170_0 := hx170_0
     obtain rfl : ad168 = ad170 := (by injection e170)
     obtain ⟨hx170_0, hx170_1, hx170_2, hx170_3, hx170_4⟩ := hb5 HB.out hx170_0 hx170_1 hx170_2 hx170_3 hx170_4
     replace p170 := eq_true p170
     replace q170 := eq_true q170
     refine start_ (n := 9) (S := Sa5 (ad168.add ((x5_1).toNat * 5)) (.string ((rd_T38 l0 x5_1).f0.f0)) (.string ((rd_T38 l0 x5_1).f0.f1)) (.string ((rd_T38 l0 x5_1).f1.f0)) (.string ((rd_T38 l0 x5_1).f1.f1)) (.int .i64 ((rd_T38 l0 x5_1).f2))) (ds := []) #[F_, F_, F_, F_, F_, F_, F_, F_, F_] (by kernel_rfl) rfl rfl ⟨(hbc HB.out hw170_0), (hbc HB.out hw170_1), (hbc HB.out hw170_2), (hbc HB.out hw170_3), (hbc HB.out hw170_4)⟩ (fun hHeld => ?_); refine with_tabW laws_heldLegS.tab7 laws_heldLegS.bits7 (fun HT_ HW_ => ?_)
     generalize w45.drew = w46 at HB hx170_0 hx170_1 hx170_2 hx170_3 hx170_4 hHeld ⊢
     refine pv 0 23 ?_
     refine pv 1 24 ?_
     refine pv 2 25 ?_
     refine pv 3 26 ?_
     refine pv 4 27 ?_
     refine pv 6 29 ?_
     refine tv5 5 28 hHeld ?_
     refine ov 7 30 (fun K hK => ?_)
     refine gk Tryd.func17 (laws_markText.calls _ _ _ _ A7.out) ?_
     rintro e w47 ⟨rfl, hb⟩
     refine ⟨_, rfl, ?_⟩
     replace HB := ho hb
     refine hK.out _ _ ⟨(hbc HB.out hw170_0), (hbc HB.out hw170_1), (hbc HB.out hw170_2), (hbc HB.out hw170_3), (hbc HB.out hw170_4)⟩ (fun hHeld => ?_)
     clear hK K
     refine norm_ (a' := ?_) ?_ ?_
     rotate_left
     ·show Act.put _ (some 30) _ = _
      simp only [Act.put, z1, z2, z3, i64_w, i32_w]
      rfl
     refine pv 8 31 ?_
     refine done_ (done_of HT_.out (by kernel_rfl)) ?_
     try go_wp2
     go_ret
     exact ⟨er, bl⟩
    obtain rfl := Option.some.inj H
    try go_wp2
    replace HB := am (below_drew1 HB.out)
    have p168 : 0 ≤ (x5_1 : Int) := ode
    have q168 : x5_1 < (l0.length : Int) := ode
    obtain ⟨ad168, e168, hx168_0, hx168_1, hx168_2, hx168_3, hx168_4⟩ := at_T38 HR0.out x5_1 p168 q168
    have hw168_4 := hx168_4
    have hw168_3 := hx168_3
    have hw168_2 := hx168_2
    have hw168_1 := hx168_1
    have hw168_0 := hx168_0
    cases e168
    obtain ⟨hx168_0, hx168_1, hx168_2, hx168_3, hx168_4⟩ := hb5 HB.out hx168_0 hx168_1 hx168_2 hx168_3 hx168_4
    replace p168 := eq_true p168
    replace q168 := eq_true q168
    refine start_ (n := 9) (S := Sa5 (ad168.add ((x5_1).toNat * 5)) (.string ((rd_T38 l0 x5_1).f0.f0)) (.string ((rd_T38 l0 x5_1).f0.f1)) (.string ((rd_T38 l0 x5_1).f1.f0)) (.string ((rd_T38 l0 x5_1).f1.f1)) (.int .i64 ((rd_T38 l0 x5_1).f2))) (ds := []) #[F_, F_, F_, F_, F_, F_, F_, F_, F_] (by kernel_rfl) rfl rfl ⟨(hbc HB.out hw168_0), (hbc HB.out hw168_1), (hbc HB.out hw168_2), (hbc HB.out hw168_3), (hbc HB.out hw168_4)⟩ (fun hHeld => ?_); refine with_tabW laws_heldLegS.tab4 laws_heldLegS.bits4 (fun HT_ HW_ => ?_)
    generalize wr.drew = w48 at HB hx168_0 hx168_1 hx168_2 hx168_3 hx168_4 hHeld ⊢
    refine pv 0 12 ?_
    refine pv 1 13 ?_
    refine pv 2 14 ?_
    refine pv 3 15 ?_
    refine pv 4 16 ?_
    refine pv 6 18 ?_
    refine tv5 5 17 hHeld ?_
    refine ov 7 19 (fun K hK => ?_)
    refine gk Tryd.func17 (laws_markText.calls _ _ _ _ A5.out) ?_
    rintro e w49 ⟨rfl, hb⟩
    refine ⟨_, rfl, ?_⟩
    replace HB := ho hb
    refine hK.out _ _ ⟨(hbc HB.out hw168_0), (hbc HB.out hw168_1), (hbc HB.out hw168_2), (hbc HB.out hw168_3), (hbc HB.out hw168_4)⟩ (fun hHeld => ?_)
    clear hK K
    refine norm_ (a' := ?_) ?_ ?_
    rotate_left
    ·show Act.put _ (some 19) _ = _
     simp only [Act.put, z1, z2, z3, i64_w, i32_w]
     rfl
    refine pv 8 20 ?_
    refine done_ (done_of HT_.out (by kernel_rfl)) ?_
    try go_wp2
    go_ret
    exact ⟨er, bl⟩
   obtain rfl := Option.some.inj H
   go_wp2
   go_ret
   exact ⟨er, bl⟩

end Go.Proofs.YtopeaemfnlcecaaDoor.PFnExactLegsBack
