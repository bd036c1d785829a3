-- laid by seedprint.py, a program of this session, over contracts that it gives by hand; Lean checks it
-- dented
import Derived.Test.YtlhefhcdlgkngaaDoorQMin
import Derived.Test.YtlhefhcdlgkngaaDoorQAut
import Derived.Test.YtlhefhcdlgkngaaDoorQBlk
import Derived.Test.YtlhefhcdlgkngaaDoorPFnExactBookBalancex0
import Derived.Test.YtlhefhcdlgkngaaDoorPFnExactBookBalancex8
namespace Go.Proofs.YtlhefhcdlgkngaaDoor.PFnExactBookBalance
open Go.RowKit Go.Proofs.YtlhefhcdlgkngaaDoorW.PrintWords Go.Proofs.YtlhefhcdlgkngaaDoorW.PrintLast Go.Proofs.YtlhefhcdlgkngaaDoorW.PrintMore
attribute [local go_sem] max2_int min2_int max_two min_two max_three min_three max_four min_four   -- for this text's walks alone
set_option maxHeartbeats 8000000
set_option maxRecDepth 100000
set_option linter.unusedVariables false
set_option linter.unusedSimpArgs false

/-! ### laws_eqLineS: function 36 -/
def laws_eqLineS.l0 : Nat → List (S67) → List (S67) → Int → Option (Bool)
 | 0, _, _, _ => none
 | k + 1, x0, x1, x5 => if x5 < (x0.length : Int) then (if 0 ≤ x5 then (if x5 < (x1.length : Int) then ((laws_eqLine.f ((rd_T67 x0 x5).f0.f0) ((rd_T67 x0 x5).f0.f1) ((rd_T67 x0 x5).f1) ((rd_T67 x1 x5).f0.f0) ((rd_T67 x1 x5).f0.f1) ((rd_T67 x1 x5).f1)).bind fun t216 => (if t216 = true then (laws_eqLineS.l0 k x0 x1 (wrap64 (x5 + 1))) else (some false))) else (none)) else (none)) else (some true)
def laws_eqLineS.f (k : Nat) (l0 : List (S67)) (l1 : List (S67)) : Option (Bool) := if (l0.length : Int) = (l1.length : Int) then (laws_eqLineS.l0 k l0 l1 0) else (some false)
theorem laws_eqLineS.mono_l : ∀ k, (∀ y0 y1 y2, LeO (laws_eqLineS.l0 k y0 y1 y2) (laws_eqLineS.l0 (k + 1) y0 y1 y2))
 | 0 => fun _ _ _ r h => by simp [laws_eqLineS.l0] at h
 | k + 1 => by
  have ih0 := laws_eqLineS.mono_l k
  ·intro y0 y1 y2
   unfold laws_eqLineS.l0
   exact mo
theorem laws_eqLineS.mono : ∀ a0 a1 k, LeO (laws_eqLineS.f k a0 a1) (laws_eqLineS.f (k + 1) a0 a1) := by
 intro a0 a1 k
 have ih0 := laws_eqLineS.mono_l k
 unfold laws_eqLineS.f
 exact mo
def laws_eqLineS.T6 : Bool × List (List Nat × List Nat) := (true, [([], []), ([], []), ([0, 1], [0, 1]), ([2], [2]), ([], []), ([], []), ([4, 5], [4, 5]), ([6], [6]), ([3, 7], [3, 7]), ([8], [8])])
def laws_eqLineS.B6 : List Nat := [0, 0, 3, 7, 0, 0, 48, 112, 255, 511]
theorem laws_eqLineS.tab6 : rtab .any (opsOf Tryd.f36 6) = laws_eqLineS.T6 := by kernel_rfl
theorem laws_eqLineS.bits6 : waitsOk laws_eqLineS.T6.2 laws_eqLineS.B6 = true := by kernel_rfl
theorem laws_eqLineS.calls (k : Nat) (A0 : Option Addr) (c0 : Nat) (l0 : List (S67)) (A1 : Option Addr) (c1 : Nat) (l1 : List (S67)) (r : Bool) (w : World) (hr0 : Kd.C k67 w A0 l0.length l0) (hc0 : l0.length ≤ c0) (hr1 : Kd.C k67 w A1 l1.length l1) (hc1 : l1.length ≤ c1) (h : laws_eqLineS.f k l0 l1 = some r) :
  Calls Tryd.prog 36 #[.slice A0 l0.length c0, .slice A1 l1.length c1] w fun e w' => e = .returned (.bool r) ∧ Below w.heap.size w w' := by
 have hu67 := Tryd.underlying67
 have HR0 := am hr0
 have HC0 := am hc0
 clear hr0 hc0
 have HR1 := am hr1
 have HC1 := am hc1
 clear hr1 hc1
 have HB := am (Below.refl w.heap.size w)
 have H := h
 clear h
 unfold laws_eqLineS.f at H
 revert H; refine iQn (fun c3 c3b0 c3b1 H => ?_) fun c3 c3b0 c3b1 H => ?_
 ·have c3b2 : (l0.length == l1.length) = true := by first | simpa using c3 | (simp at c3 ⊢; omega)
  clear c3
  have H' := am H; clear H
  go_enter Tryd.func36, Tryd.ntmps36
  go_wp2
  go_loopg [5] k (fun kq v5 w' => ∃ (x5_1 : Int), v5 = .int .i64 x5_1 ∧ Aside0 (laws_eqLineS.l0 kq l0 l1 x5_1 = some r) ∧ Aside0 (kq ≤ k) ∧ Aside0 (Below w.heap.size w w'))
  case atStart => exact ⟨(0), rs, H', ⟨Nat.le_refl _⟩, ⟨bl⟩⟩
  case round =>
   clear H'
   try clear c1; try clear c3; try clear c3b0; try clear c3b1; try clear c3b2
   obtain ⟨x5_1, rfl, HA, HK1, HB⟩ := hrel
   cases gk with
   | zero => exact absurd HA.out (by simp [laws_eqLineS.l0])
   | succ k1 =>
    have H := HA.out
    clear HA
    simp only [laws_eqLineS.l0] at H
    revert H; refine iDb (fun c4b0 H => ?_) fun c4b0 H => ?_
    ·revert H; refine i1 fun c5b0 H => ?_
     revert H; refine i1 fun c6b0 H => ?_
     revert H; refine bj fun t216 A7 H => ?_
     replace H := iT H; rcases H with ⟨rfl, H⟩ | ⟨rfl, H⟩
     ·have H' := am H; clear H
      try go_wp2
      have n0_ := am (below_drew1 HB.out)
      clear HB
      have HB := n0_
      clear n0_
      have p214 : 0 ≤ (x5_1 : Int) := ode
      have q214 : x5_1 < (l0.length : Int) := ode
      obtain ⟨ad214, e214, hx214_0, hx214_1, hx214_2⟩ := at_T67 HR0.out x5_1 p214 q214
      have hw214_2 := hx214_2
      have hw214_1 := hx214_1
      have hw214_0 := hx214_0
      cases e214
      obtain ⟨hx214_0, hx214_1, hx214_2⟩ := hb3 HB.out hx214_0 hx214_1 hx214_2
      replace p214 := eq_true p214
      replace q214 := eq_true q214
      have p215 : 0 ≤ (x5_1 : Int) := ode
      have q215 : x5_1 < (l1.length : Int) := ode
      obtain ⟨ad215, e215, hx215_0, hx215_1, hx215_2⟩ := at_T67 HR1.out x5_1 p215 q215
      have hw215_2 := hx215_2
      have hw215_1 := hx215_1
      have hw215_0 := hx215_0
      cases e215
      obtain ⟨hx215_0, hx215_1, hx215_2⟩ := hb3 HB.out hx215_0 hx215_1 hx215_2
      replace p215 := eq_true p215
      replace q215 := eq_true q215
      refine start_ (n := 10) (S := fun w' => w'.cell? (ad214.add ((x5_1).toNat * 3)) = some (.string ((rd_T67 l0 x5_1).f0.f0)) ∧ w'.cell? ⟨(ad214.add ((x5_1).toNat * 3)).block, (ad214.add ((x5_1).toNat * 3)).off + 1, none⟩ = some (.string ((rd_T67 l0 x5_1).f0.f1)) ∧ w'.cell? ⟨(ad214.add ((x5_1).toNat * 3)).block, (ad214.add ((x5_1).toNat * 3)).off + 2, none⟩ = some (.int .i64 ((rd_T67 l0 x5_1).f1)) ∧ w'.cell? (ad215.add ((x5_1).toNat * 3)) = some (.string ((rd_T67 l1 x5_1).f0.f0)) ∧ w'.cell? ⟨(ad215.add ((x5_1).toNat * 3)).block, (ad215.add ((x5_1).toNat * 3)).off + 1, none⟩ = some (.string ((rd_T67 l1 x5_1).f0.f1)) ∧ w'.cell? ⟨(ad215.add ((x5_1).toNat * 3)).block, (ad215.add ((x5_1).toNat * 3)).off + 2, none⟩ = some (.int .i64 ((rd_T67 l1 x5_1).f1))) (ds := []) #[F_, F_, F_, F_, F_, F_, F_, F_, F_, F_] (by kernel_rfl) rfl rfl ⟨(hbc HB.out hw214_0), (hbc HB.out hw214_1), (hbc HB.out hw214_2), (hbc HB.out hw215_0), (hbc HB.out hw215_1), (hbc HB.out hw215_2)⟩ (fun hHeld => ?_); refine with_tabW laws_eqLineS.tab6 laws_eqLineS.bits6 (fun HT_ HW_ => ?_)
      generalize wr.drew = w9 at HB hx214_0 hx214_1 hx214_2 hx215_0 hx215_1 hx215_2 hHeld ⊢
      refine pv 0 17 ?_
      refine pv 1 18 ?_
      refine pv 2 19 ?_
      refine pv 4 21 ?_
      refine pv 5 22 ?_
      refine pv 6 23 ?_
      refine tv6 3 20 hHeld ?_
      refine tv6 7 24 hHeld ?_
      refine ov 8 25 (fun K hK => ?_)
      refine gk Tryd.func55 (laws_eqLine.calls _ _ _ _ _ _ _ _ A7.out) ?_
      rintro e w10 ⟨rfl, hb⟩
      refine ⟨_, rfl, ?_⟩
      have n0_ := am (below_step bl hb)
      clear HB
      have HB := n0_
      clear n0_
      skip
      skip
      skip
      skip
      refine hK.out _ _ ⟨(hbc HB.out hw214_0), (hbc HB.out hw214_1), (hbc HB.out hw214_2), (hbc HB.out hw215_0), (hbc HB.out hw215_1), (hbc HB.out hw215_2)⟩ (fun hHeld => ?_)
      clear hK K
      refine norm_ (a' := ?_) ?_ ?_
      rotate_left
      ·show Act.put _ (some 25) _ = _
       simp only [Act.put, z1, z2, z3, i64_w, i32_w]
       rfl
      refine pv 9 26 ?_
      refine done_ (done_of HT_.out (by kernel_rfl)) ?_
      try go_wp2
      go_roundg k1
      case measure => have := HK1.out; omega
      case rel => exact ⟨(wrap64 (x5_1 + 1)), rs, H', ⟨by have := HK1.out; omega⟩, ⟨bl⟩⟩
     obtain rfl := Option.some.inj H
     try go_wp2
     have n0_ := am (below_drew1 HB.out)
     clear HB
     have HB := n0_
     clear n0_
     have p214 : 0 ≤ (x5_1 : Int) := ode
     have q214 : x5_1 < (l0.length : Int) := ode
     obtain ⟨ad214, e214, hx214_0, hx214_1, hx214_2⟩ := at_T67 HR0.out x5_1 p214 q214
     have hw214_2 := hx214_2
     have hw214_1 := hx214_1
     have hw214_0 := hx214_0
     cases e214
     obtain ⟨hx214_0, hx214_1, hx214_2⟩ := hb3 HB.out hx214_0 hx214_1 hx214_2
     replace p214 := eq_true p214
     replace q214 := eq_true q214
     have p215 : 0 ≤ (x5_1 : Int) := ode
     have q215 : x5_1 < (l1.length : Int) := ode
     obtain ⟨ad215, e215, hx215_0, hx215_1, hx215_2⟩ := at_T67 HR1.out x5_1 p215 q215
     have hw215_2 := hx215_2
     have hw215_1 := hx215_1
     have hw215_0 := hx215_0
     cases e215
     obtain ⟨hx215_0, hx215_1, hx215_2⟩ := hb3 HB.out hx215_0 hx215_1 hx215_2
     replace p215 := eq_true p215
     replace q215 := eq_true q215
     refine start_ (n := 10) (S := fun w' => w'.cell? (ad214.add ((x5_1).toNat * 3)) = some (.string ((rd_T67 l0 x5_1).f0.f0)) ∧ w'.cell? ⟨(ad214.add ((x5_1).toNat * 3)).block, (ad214.add ((x5_1).toNat * 3)).off + 1, none⟩ = some (.string ((rd_T67 l0 x5_1).f0.f1)) ∧ w'.cell? ⟨(ad214.add ((x5_1).toNat * 3)).block, (ad214.add ((x5_1).toNat * 3)).off + 2, none⟩ = some (.int .i64 ((rd_T67 l0 x5_1).f1)) ∧ w'.cell? (ad215.add ((x5_1).toNat * 3)) = some (.string ((rd_T67 l1 x5_1).f0.f0)) ∧ w'.cell? ⟨(ad215.add ((x5_1).toNat * 3)).block, (ad215.add ((x5_1).toNat * 3)).off + 1, none⟩ = some (.string ((rd_T67 l1 x5_1).f0.f1)) ∧ w'.cell? ⟨(ad215.add ((x5_1).toNat * 3)).block, (ad215.add ((x5_1).toNat * 3)).off + 2, none⟩ = some (.int .i64 ((rd_T67 l1 x5_1).f1))) (ds := []) #[F_, F_, F_, F_, F_, F_, F_, F_, F_, F_] (by kernel_rfl) rfl rfl ⟨(hbc HB.out hw214_0), (hbc HB.out hw214_1), (hbc HB.out hw214_2), (hbc HB.out hw215_0), (hbc HB.out hw215_1), (hbc HB.out hw215_2)⟩ (fun hHeld => ?_); refine with_tabW laws_eqLineS.tab6 laws_eqLineS.bits6 (fun HT_ HW_ => ?_)
     generalize wr.drew = w11 at HB hx214_0 hx214_1 hx214_2 hx215_0 hx215_1 hx215_2 hHeld ⊢
     refine pv 0 17 ?_
     refine pv 1 18 ?_
     refine pv 2 19 ?_
     refine pv 4 21 ?_
     refine pv 5 22 ?_
     refine pv 6 23 ?_
     refine tv6 3 20 hHeld ?_
     refine tv6 7 24 hHeld ?_
     refine ov 8 25 (fun K hK => ?_)
     refine gk Tryd.func55 (laws_eqLine.calls _ _ _ _ _ _ _ _ A7.out) ?_
     rintro e w12 ⟨rfl, hb⟩
     refine ⟨_, rfl, ?_⟩
     have n0_ := am (below_step bl hb)
     clear HB
     have HB := n0_
     clear n0_
     skip
     skip
     skip
     skip
     refine hK.out _ _ ⟨(hbc HB.out hw214_0), (hbc HB.out hw214_1), (hbc HB.out hw214_2), (hbc HB.out hw215_0), (hbc HB.out hw215_1), (hbc HB.out hw215_2)⟩ (fun hHeld => ?_)
     clear hK K
     refine norm_ (a' := ?_) ?_ ?_
     rotate_left
     ·show Act.put _ (some 25) _ = _
      simp only [Act.put, z1, z2, z3, i64_w, i32_w]
      rfl
     refine pv 9 26 ?_
     refine done_ (done_of HT_.out (by kernel_rfl)) ?_
     try go_wp2
     go_ret
     exact ⟨er, bl⟩
    obtain rfl := Option.some.inj H
    go_wp2
    go_ret
    exact ⟨er, bl⟩
 have c3b2 : (l0.length == l1.length) = false := by first | simpa using c3 | (simp at c3 ⊢; omega)
 obtain rfl := Option.some.inj H
 go_enter Tryd.func36, Tryd.ntmps36
 go_wp2
 go_ret
 exact ⟨er, bl⟩

/-! ### laws_eqStringS: function 37 -/
def laws_eqStringS.l0 : Nat → List ByteArray → List ByteArray → Int → Option (Bool)
 | 0, _, _, _ => none
 | k + 1, x0, x1, x5 => if x5 < (x0.length : Int) then (if 0 ≤ x5 then (if x5 < (x1.length : Int) then (if (rdOf ByteArray.empty x0 x5).toList = (rdOf ByteArray.empty x1 x5).toList then (laws_eqStringS.l0 k x0 x1 (wrap64 (x5 + 1))) else (some false)) else (none)) else (none)) else (some true)
def laws_eqStringS.f (k : Nat) (l0 : List ByteArray) (l1 : List ByteArray) : Option (Bool) := if (l0.length : Int) = (l1.length : Int) then (laws_eqStringS.l0 k l0 l1 0) else (some false)
theorem laws_eqStringS.mono_l : ∀ k, (∀ y0 y1 y2, LeO (laws_eqStringS.l0 k y0 y1 y2) (laws_eqStringS.l0 (k + 1) y0 y1 y2))
 | 0 => fun _ _ _ r h => by simp [laws_eqStringS.l0] at h
 | k + 1 => by
  have ih0 := laws_eqStringS.mono_l k
  ·intro y0 y1 y2
   unfold laws_eqStringS.l0
   exact mo
theorem laws_eqStringS.mono : ∀ a0 a1 k, LeO (laws_eqStringS.f k a0 a1) (laws_eqStringS.f (k + 1) a0 a1) := by
 intro a0 a1 k
 have ih0 := laws_eqStringS.mono_l k
 unfold laws_eqStringS.f
 exact mo
theorem laws_eqStringS.calls (k : Nat) (A0 : Option Addr) (c0 : Nat) (l0 : List ByteArray) (A1 : Option Addr) (c1 : Nat) (l1 : List ByteArray) (r : Bool) (w : World) (hr0 : Kd.C Kd.string w A0 l0.length l0) (hc0 : l0.length ≤ c0) (hr1 : Kd.C Kd.string w A1 l1.length l1) (hc1 : l1.length ≤ c1) (h : laws_eqStringS.f k l0 l1 = some r) :
  Calls Tryd.prog 37 #[.slice A0 l0.length c0, .slice A1 l1.length c1] w fun e w' => e = .returned (.bool r) ∧ Drawn0 w w' := by
 have HR0 := am hr0
 have HC0 := am hc0
 clear hr0 hc0
 have HR1 := am hr1
 have HC1 := am hc1
 clear hr1 hc1
 have H := h
 clear h
 unfold laws_eqStringS.f at H
 revert H; refine iQn (fun c3 c3b0 c3b1 H => ?_) fun c3 c3b0 c3b1 H => ?_
 ·have c3b2 : (l0.length == l1.length) = true := by first | simpa using c3 | (simp at c3 ⊢; omega)
  clear c3
  have H' := am H; clear H
  go_enter Tryd.func37, Tryd.ntmps37
  go_wp2
  repeat (go_quiet (fail); try go_wp2)
  go_loopg [5] k (fun kq v5 w' => ∃ (x5_1 : Int), v5 = .int .i64 x5_1 ∧ Aside0 (laws_eqStringS.l0 kq l0 l1 x5_1 = some r) ∧ Aside0 (kq ≤ k) ∧ Drawn0 w w')
  case atStart => exact ⟨(0), rs, H', ⟨Nat.le_refl _⟩, by repeat (first | exact Drawn0.refl _ | apply Drawn0.step)⟩
  case round =>
   clear H'
   try clear c1; try clear c3; try clear c3b0; try clear c3b1; try clear c3b2
   obtain ⟨x5_1, rfl, HA, HK1, ⟨m1, rfl⟩⟩ := hrel
   cases gk with
   | zero => exact absurd HA.out (by simp [laws_eqStringS.l0])
   | succ k1 =>
    have H := HA.out
    clear HA
    simp only [laws_eqStringS.l0] at H
    revert H; refine iDb (fun c4b0 H => ?_) fun c4b0 H => ?_
    ·revert H; refine i1 fun c5b0 H => ?_
     revert H; refine i1 fun c6b0 H => ?_
     revert H; refine iQ (fun c7b0 c7b1 H => ?_) fun c7 c7b0 c7b1 H => ?_
     ·have H' := am H; clear H
      have p217 : 0 ≤ (x5_1 : Int) := ode
      have q217 : x5_1 < (l0.length : Int) := ode
      obtain ⟨ad217, e217, hx217_0⟩ := Kd.at_string HR0.out x5_1 p217 q217
      cases e217
      replace p217 := eq_true p217
      replace q217 := eq_true q217
      have p218 : 0 ≤ (x5_1 : Int) := ode
      have q218 : x5_1 < (l1.length : Int) := ode
      obtain ⟨ad218, e218, hx218_0⟩ := Kd.at_string HR1.out x5_1 p218 q218
      cases e218
      replace p218 := eq_true p218
      replace q218 := eq_true q218
      go_wp2
      repeat (go_quiet (fail); try go_wp2)
      go_roundg k1
      case measure => have := HK1.out; omega
      case rel => exact ⟨(wrap64 (x5_1 + 1)), rs, H', ⟨by have := HK1.out; omega⟩, by repeat (first | exact Drawn0.refl _ | apply Drawn0.step)⟩
     obtain rfl := Option.some.inj H
     have p217 : 0 ≤ (x5_1 : Int) := ode
     have q217 : x5_1 < (l0.length : Int) := ode
     obtain ⟨ad217, e217, hx217_0⟩ := Kd.at_string HR0.out x5_1 p217 q217
     cases e217
     replace p217 := eq_true p217
     replace q217 := eq_true q217
     have p218 : 0 ≤ (x5_1 : Int) := ode
     have q218 : x5_1 < (l1.length : Int) := ode
     obtain ⟨ad218, e218, hx218_0⟩ := Kd.at_string HR1.out x5_1 p218 q218
     cases e218
     replace p218 := eq_true p218
     replace q218 := eq_true q218
     go_wp2
     repeat (go_quiet (fail); try go_wp2)
     go_ret
     exact ⟨by first | rfl | (simp; done) | (simp [*]; done) | (simp [isE_bne]; done), by repeat (first | exact Drawn0.refl _ | apply Drawn0.step)⟩
    obtain rfl := Option.some.inj H
    go_wp2
    repeat (go_quiet (fail); try go_wp2)
    go_ret
    exact ⟨by first | rfl | (simp; done) | (simp [*]; done) | (simp [isE_bne]; done), by repeat (first | exact Drawn0.refl _ | apply Drawn0.step)⟩
 have c3b2 : (l0.length == l1.length) = false := by first | simpa using c3 | (simp at c3 ⊢; omega)
 obtain rfl := Option.some.inj H
 go_enter Tryd.func37, Tryd.ntmps37
 go_wp2
 repeat (go_quiet (fail); try go_wp2)
 go_ret
 exact ⟨by first | rfl | (simp; done) | (simp [*]; done) | (simp [isE_bne]; done), by repeat (first | exact Drawn0.refl _ | apply Drawn0.step)⟩

/-! ### laws_eqBook: function 19 -/
def laws_eqBook.f (k : Nat) (l0_0 : List (S67)) (l0_1 : List ByteArray) (l1_0 : List (S67)) (l1_1 : List ByteArray) : Option (Bool) := (laws_eqLineS.f k l0_0 l1_0).bind fun t221 => (if t221 = true then ((laws_eqStringS.f k l0_1 l1_1).bind fun t222 => (if t222 = true then (some true) else (some false))) else (some false))
theorem laws_eqBook.mono : ∀ a0 a1 a2 a3 k, LeO (laws_eqBook.f k a0 a1 a2 a3) (laws_eqBook.f (k + 1) a0 a1 a2 a3) := by
 intro a0 a1 a2 a3 k
 unfold laws_eqBook.f
 repeat' (with_reducible first | exact laws_eqLineS.mono .. | exact laws_eqStringS.mono .. | exact LeO.refl _ | exact LeO.none _ | refine LeO.ite ?_ ?_ | refine LeO.bind ?_ (fun _ => ?_))
theorem laws_eqBook.calls (k : Nat) (A0_0 : Option Addr) (c0_0 : Nat) (l0_0 : List (S67)) (A0_1 : Option Addr) (c0_1 : Nat) (l0_1 : List ByteArray) (A1_0 : Option Addr) (c1_0 : Nat) (l1_0 : List (S67)) (A1_1 : Option Addr) (c1_1 : Nat) (l1_1 : List ByteArray) (r : Bool) (w : World) (hr0_0 : Kd.C k67 w A0_0 l0_0.length l0_0) (hc0_0 : l0_0.length ≤ c0_0) (hr0_1 : Kd.C Kd.string w A0_1 l0_1.length l0_1) (hc0_1 : l0_1.length ≤ c0_1) (hr1_0 : Kd.C k67 w A1_0 l1_0.length l1_0) (hc1_0 : l1_0.length ≤ c1_0) (hr1_1 : Kd.C Kd.string w A1_1 l1_1.length l1_1) (hc1_1 : l1_1.length ≤ c1_1) (h : laws_eqBook.f k l0_0 l0_1 l1_0 l1_1 = some r) :
  Calls Tryd.prog 19 #[.agg #[.slice A0_0 l0_0.length c0_0, .slice A0_1 l0_1.length c0_1], .agg #[.slice A1_0 l1_0.length c1_0, .slice A1_1 l1_1.length c1_1]] w fun e w' => e = .returned (.bool r) ∧ Below w.heap.size w w' := by
 have hu43 := Tryd.underlying43
 have HR0_0 := am hr0_0
 have HC0_0 := am hc0_0
 clear hr0_0 hc0_0
 have HR0_1 := am hr0_1
 have HC0_1 := am hc0_1
 clear hr0_1 hc0_1
 have HR1_0 := am hr1_0
 have HC1_0 := am hc1_0
 clear hr1_0 hc1_0
 have HR1_1 := am hr1_1
 have HC1_1 := am hc1_1
 clear hr1_1 hc1_1
 have HB := am (Below.refl w.heap.size w)
 have H := h
 clear h
 unfold laws_eqBook.f at H
 revert H; refine bj fun t221 A3 H => ?_
 replace H := iT H; rcases H with ⟨rfl, H⟩ | ⟨rfl, H⟩
 ·revert H; refine bj fun t222 A5 H => ?_
  replace H := iT H; rcases H with ⟨rfl, H⟩ | ⟨rfl, H⟩
  ·obtain rfl := Option.some.inj H
   go_enter Tryd.func19, Tryd.ntmps19
   go_wp2_with (first | ((with_reducible refine g_ 2 ?_); refine bx 2 #[.slice A0_0 l0_0.length c0_0, .slice A0_1 l0_1.length c0_1] 43 ?_; intro gb219 hg w7 hbox hb; have BK219 := am (hbox); have GW219 := am (bsz hg : w.heap.size ≤ gb219); have GE219 := GW219; replace HB := am (below_step bl hb); clear hb hbox hg) | ((with_reducible refine g_ 3 ?_); refine bx 3 #[.slice A1_0 l1_0.length c1_0, .slice A1_1 l1_1.length c1_1] 43 ?_; intro gb220 hg w8 hbox hb; have BK220 := am (hbox); have GW220 := am (bsz hg : w.heap.size ≤ gb220); have GE220 := GW220; have NB219_220 := am (ne1 hg BK219.out); have NB220_219 := am NB219_220.out.symm; replace BK219 := am (bkb BK219.out hb); replace HB := am (below_step bl hb); clear hb hbox hg; have hnb9 := NB219_220.out; have hnc9 := NB220_219.out; obtain ⟨z10_0, z10_1, y10_0, y10_1⟩ := blk2 BK219.out; obtain ⟨z11_0, z11_1, y11_0, y11_1⟩ := blk2 BK220.out) | ((with_reducible refine c_ 36 ?_); refine gc 36 (some 9) Tryd.func36 (laws_eqLineS.calls _ _ _ _ _ _ _ _ _ ?side1 ?side2 ?side3 ?side4 A3.out) ?_; (case side1 => exact cb HR0_0.out); (case side2 => exact HC0_0.out); (case side3 => exact cb HR1_0.out); (case side4 => exact HC1_0.out); rintro e w12 ⟨rfl, hb⟩; refine ⟨_, rfl, ?_⟩; replace BK219 := am (bkb BK219.out hb); replace BK220 := am (bkb BK220.out hb); replace HB := am (below_step bl hb); clear hb; obtain ⟨z13_0, z13_1, y13_0, y13_1⟩ := blk2 BK219.out; obtain ⟨z14_0, z14_1, y14_0, y14_1⟩ := blk2 BK220.out) | ((with_reducible refine c_ 37 ?_); refine gc 37 (some 15) Tryd.func37 (laws_eqStringS.calls _ _ _ _ _ _ _ _ _ ?side1 ?side2 ?side3 ?side4 A5.out) ?_; (case side1 => exact cb HR0_1.out); (case side2 => exact HC0_1.out); (case side3 => exact cb HR1_1.out); (case side4 => exact HC1_1.out); rintro e w' ⟨rfl, ⟨nd, rfl⟩⟩; refine ⟨_, rfl, ?_⟩))
   go_ret
   exact ⟨er, bl⟩
  obtain rfl := Option.some.inj H
  go_enter Tryd.func19, Tryd.ntmps19
  go_wp2_with (first | ((with_reducible refine g_ 2 ?_); refine bx 2 #[.slice A0_0 l0_0.length c0_0, .slice A0_1 l0_1.length c0_1] 43 ?_; intro gb219 hg w15 hbox hb; have BK219 := am (hbox); have GW219 := am (bsz hg : w.heap.size ≤ gb219); have GE219 := GW219; replace HB := am (below_step bl hb); clear hb hbox hg) | ((with_reducible refine g_ 3 ?_); refine bx 3 #[.slice A1_0 l1_0.length c1_0, .slice A1_1 l1_1.length c1_1] 43 ?_; intro gb220 hg w16 hbox hb; have BK220 := am (hbox); have GW220 := am (bsz hg : w.heap.size ≤ gb220); have GE220 := GW220; have NB219_220 := am (ne1 hg BK219.out); have NB220_219 := am NB219_220.out.symm; replace BK219 := am (bkb BK219.out hb); replace HB := am (below_step bl hb); clear hb hbox hg; have hnb17 := NB219_220.out; have hnc17 := NB220_219.out; obtain ⟨z18_0, z18_1, y18_0, y18_1⟩ := blk2 BK219.out; obtain ⟨z19_0, z19_1, y19_0, y19_1⟩ := blk2 BK220.out) | ((with_reducible refine c_ 36 ?_); refine gc 36 (some 9) Tryd.func36 (laws_eqLineS.calls _ _ _ _ _ _ _ _ _ ?side1 ?side2 ?side3 ?side4 A3.out) ?_; (case side1 => exact cb HR0_0.out); (case side2 => exact HC0_0.out); (case side3 => exact cb HR1_0.out); (case side4 => exact HC1_0.out); rintro e w20 ⟨rfl, hb⟩; refine ⟨_, rfl, ?_⟩; replace BK219 := am (bkb BK219.out hb); replace BK220 := am (bkb BK220.out hb); replace HB := am (below_step bl hb); clear hb; obtain ⟨z21_0, z21_1, y21_0, y21_1⟩ := blk2 BK219.out; obtain ⟨z22_0, z22_1, y22_0, y22_1⟩ := blk2 BK220.out) | ((with_reducible refine c_ 37 ?_); refine gc 37 (some 15) Tryd.func37 (laws_eqStringS.calls _ _ _ _ _ _ _ _ _ ?side1 ?side2 ?side3 ?side4 A5.out) ?_; (case side1 => exact cb HR0_1.out); (case side2 => exact HC0_1.out); (case side3 => exact cb HR1_1.out); (case side4 => exact HC1_1.out); rintro e w' ⟨rfl, ⟨nd, rfl⟩⟩; refine ⟨_, rfl, ?_⟩))
  go_ret
  exact ⟨er, bl⟩
 obtain rfl := Option.some.inj H
 go_enter Tryd.func19, Tryd.ntmps19
 go_wp2_with (first | ((with_reducible refine g_ 2 ?_); refine bx 2 #[.slice A0_0 l0_0.length c0_0, .slice A0_1 l0_1.length c0_1] 43 ?_; intro gb219 hg w23 hbox hb; have BK219 := am (hbox); have GW219 := am (bsz hg : w.heap.size ≤ gb219); have GE219 := GW219; replace HB := am (below_step bl hb); clear hb hbox hg) | ((with_reducible refine g_ 3 ?_); refine bx 3 #[.slice A1_0 l1_0.length c1_0, .slice A1_1 l1_1.length c1_1] 43 ?_; intro gb220 hg w24 hbox hb; have BK220 := am (hbox); have GW220 := am (bsz hg : w.heap.size ≤ gb220); have GE220 := GW220; have NB219_220 := am (ne1 hg BK219.out); have NB220_219 := am NB219_220.out.symm; replace BK219 := am (bkb BK219.out hb); replace HB := am (below_step bl hb); clear hb hbox hg; have hnb25 := NB219_220.out; have hnc25 := NB220_219.out; obtain ⟨z26_0, z26_1, y26_0, y26_1⟩ := blk2 BK219.out; obtain ⟨z27_0, z27_1, y27_0, y27_1⟩ := blk2 BK220.out) | ((with_reducible refine c_ 36 ?_); refine gc 36 (some 9) Tryd.func36 (laws_eqLineS.calls _ _ _ _ _ _ _ _ _ ?side1 ?side2 ?side3 ?side4 A3.out) ?_; (case side1 => exact cb HR0_0.out); (case side2 => exact HC0_0.out); (case side3 => exact cb HR1_0.out); (case side4 => exact HC1_0.out); rintro e w28 ⟨rfl, hb⟩; refine ⟨_, rfl, ?_⟩; replace BK219 := am (bkb BK219.out hb); replace BK220 := am (bkb BK220.out hb); replace HB := am (below_step bl hb); clear hb))
 go_ret
 exact ⟨er, bl⟩

end Go.Proofs.YtlhefhcdlgkngaaDoor.PFnExactBookBalance
