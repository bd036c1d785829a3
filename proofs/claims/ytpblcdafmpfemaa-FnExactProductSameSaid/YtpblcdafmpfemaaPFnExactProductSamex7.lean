-- laid by seedprint.py, a program of this session, over contracts that it gives by hand; Lean checks it
-- dented
import Derived.Test.YtpblcdafmpfemaaQMin
import Derived.Test.YtpblcdafmpfemaaQAut
import Derived.Test.YtpblcdafmpfemaaQBlk
import Derived.Test.YtpblcdafmpfemaaPFnExactProductSamex0
import Derived.Test.YtpblcdafmpfemaaPFnExactProductSamex6
namespace Go.Proofs.Ytpblcdafmpfemaa.PFnExactProductSame
open Go.RowKit Go.Proofs.YtpblcdafmpfemaaW.PrintWords Go.Proofs.YtpblcdafmpfemaaW.PrintLast Go.Proofs.YtpblcdafmpfemaaW.PrintMore
attribute [local go_sem] max2_int min2_int max_two min_two max_three min_three max_four min_four   -- for this text's walks alone
set_option maxHeartbeats 8000000
set_option maxRecDepth 100000
set_option linter.unusedVariables false
set_option linter.unusedSimpArgs false

/-! ### laws_eqParamS: function 61 -/
def laws_eqParamS.l0 : Nat → List (S82) → List (S82) → Int → Option (Bool)
 | 0, _, _, _ => none
 | k + 1, x0, x1, x5 => if x5 < (x0.length : Int) then (if 0 ≤ x5 then (if x5 < (x1.length : Int) then ((laws_eqParam.f ((rd_T82 x0 x5).f0) ((rd_T82 x0 x5).f1) ((rd_T82 x0 x5).f2) ((rd_T82 x0 x5).f3) ((rd_T82 x1 x5).f0) ((rd_T82 x1 x5).f1) ((rd_T82 x1 x5).f2) ((rd_T82 x1 x5).f3)).bind fun t195 => (if t195 = true then (laws_eqParamS.l0 k x0 x1 (wrap64 (x5 + 1))) else (some false))) else (none)) else (none)) else (some true)
def laws_eqParamS.f (k : Nat) (l0 : List (S82)) (l1 : List (S82)) : Option (Bool) := if (l0.length : Int) = (l1.length : Int) then (laws_eqParamS.l0 k l0 l1 0) else (some false)
theorem laws_eqParamS.mono_l : ∀ k, (∀ y0 y1 y2, LeO (laws_eqParamS.l0 k y0 y1 y2) (laws_eqParamS.l0 (k + 1) y0 y1 y2))
 | 0 => fun _ _ _ r h => by simp [laws_eqParamS.l0] at h
 | k + 1 => by
  have ih0 := laws_eqParamS.mono_l k
  ·intro y0 y1 y2
   unfold laws_eqParamS.l0
   exact mo
theorem laws_eqParamS.mono : ∀ a0 a1 k, LeO (laws_eqParamS.f k a0 a1) (laws_eqParamS.f (k + 1) a0 a1) := by
 intro a0 a1 k
 have ih0 := laws_eqParamS.mono_l k
 unfold laws_eqParamS.f
 exact mo
def laws_eqParamS.T6 : Bool × List (List Nat × List Nat) := (true, [([], []), ([], []), ([0, 1], [0, 1]), ([2], [2]), ([], []), ([], []), ([4, 5], [4, 5]), ([6], [6]), ([3, 7], [3, 7]), ([8], [8])])
def laws_eqParamS.B6 : List Nat := [0, 0, 3, 7, 0, 0, 48, 112, 255, 511]
theorem laws_eqParamS.tab6 : rtab .any (opsOf Try.f61 6) = laws_eqParamS.T6 := by kernel_rfl
theorem laws_eqParamS.bits6 : waitsOk laws_eqParamS.T6.2 laws_eqParamS.B6 = true := by kernel_rfl
theorem laws_eqParamS.calls (k : Nat) (A0 : Option Addr) (c0 : Nat) (l0 : List (S82)) (A1 : Option Addr) (c1 : Nat) (l1 : List (S82)) (r : Bool) (w : World) (hr0 : Kd.C k82 w A0 l0.length l0) (hc0 : l0.length ≤ c0) (hr1 : Kd.C k82 w A1 l1.length l1) (hc1 : l1.length ≤ c1) (h : laws_eqParamS.f k l0 l1 = some r) :
  Calls Try.prog 61 #[.slice A0 l0.length c0, .slice A1 l1.length c1] w fun e w' => e = .returned (.bool r) ∧ Below w.heap.size w w' := by
 have hu82 := Try.underlying82
 have HR0 := am hr0
 have HC0 := am hc0
 clear hr0 hc0
 have HR1 := am hr1
 have HC1 := am hc1
 clear hr1 hc1
 have HB := am (Below.refl w.heap.size w)
 have H := h
 clear h
 unfold laws_eqParamS.f at H
 revert H; refine iQn (fun c3 c3b0 c3b1 H => ?_) fun c3 c3b0 c3b1 H => ?_
 ·have c3b2 : (l0.length == l1.length) = true := by first | simpa using c3 | (simp at c3 ⊢; omega)
  clear c3
  have H' := am H; clear H
  go_enter Try.func61, Try.ntmps61
  go_wp2
  go_loopg [5] k (fun kq v5 w' => ∃ (x5_1 : Int), v5 = .int .i64 x5_1 ∧ Aside0 (laws_eqParamS.l0 kq l0 l1 x5_1 = some r) ∧ Aside0 (kq ≤ k) ∧ Aside0 (Below w.heap.size w w'))
  case atStart => exact ⟨(0), (by first | rfl | (simp; done) | (simp [*]; done)), H', ⟨Nat.le_refl _⟩, ⟨bl⟩⟩
  case round =>
   clear H'
   try clear c1; try clear c3; try clear c3b0; try clear c3b1; try clear c3b2
   obtain ⟨x5_1, rfl, HA, HK1, HB⟩ := hrel
   cases gk with
   | zero => exact absurd HA.out (by simp [laws_eqParamS.l0])
   | succ k1 =>
    have H := HA.out
    clear HA
    simp only [laws_eqParamS.l0] at H
    revert H; refine iDb (fun c4b0 H => ?_) fun c4b0 H => ?_
    ·revert H; refine i1 fun c5b0 H => ?_
     revert H; refine i1 fun c6b0 H => ?_
     revert H; refine bj fun t195 A7 H => ?_
     replace H := iT H; rcases H with ⟨rfl, H⟩ | ⟨rfl, H⟩
     ·have H' := am H; clear H
      try go_wp2
      have n0_ := am (below_drew1 HB.out)
      clear HB
      have HB := n0_
      clear n0_
      have p193 : 0 ≤ (x5_1 : Int) := ode
      have q193 : x5_1 < (l0.length : Int) := ode
      obtain ⟨ad193, e193, hx193_0, hx193_1, hx193_2, hx193_3⟩ := at_T82 HR0.out x5_1 p193 q193
      have hw193_3 := hx193_3
      have hw193_2 := hx193_2
      have hw193_1 := hx193_1
      have hw193_0 := hx193_0
      cases e193
      obtain ⟨hx193_0, hx193_1, hx193_2, hx193_3⟩ := hb4 HB.out hx193_0 hx193_1 hx193_2 hx193_3
      replace p193 := eq_true p193
      replace q193 := eq_true q193
      have p194 : 0 ≤ (x5_1 : Int) := ode
      have q194 : x5_1 < (l1.length : Int) := ode
      obtain ⟨ad194, e194, hx194_0, hx194_1, hx194_2, hx194_3⟩ := at_T82 HR1.out x5_1 p194 q194
      have hw194_3 := hx194_3
      have hw194_2 := hx194_2
      have hw194_1 := hx194_1
      have hw194_0 := hx194_0
      cases e194
      obtain ⟨hx194_0, hx194_1, hx194_2, hx194_3⟩ := hb4 HB.out hx194_0 hx194_1 hx194_2 hx194_3
      replace p194 := eq_true p194
      replace q194 := eq_true q194
      refine start_ (n := 10) (S := fun w' => w'.cell? (ad193.add ((x5_1).toNat * 4)) = some (.string ((rd_T82 l0 x5_1).f0)) ∧ w'.cell? ⟨(ad193.add ((x5_1).toNat * 4)).block, (ad193.add ((x5_1).toNat * 4)).off + 1, none⟩ = some (.int .i64 ((rd_T82 l0 x5_1).f1)) ∧ w'.cell? ⟨(ad193.add ((x5_1).toNat * 4)).block, (ad193.add ((x5_1).toNat * 4)).off + 2, none⟩ = some (.int .i64 ((rd_T82 l0 x5_1).f2)) ∧ w'.cell? ⟨(ad193.add ((x5_1).toNat * 4)).block, (ad193.add ((x5_1).toNat * 4)).off + 3, none⟩ = some (.int .i64 ((rd_T82 l0 x5_1).f3)) ∧ w'.cell? (ad194.add ((x5_1).toNat * 4)) = some (.string ((rd_T82 l1 x5_1).f0)) ∧ w'.cell? ⟨(ad194.add ((x5_1).toNat * 4)).block, (ad194.add ((x5_1).toNat * 4)).off + 1, none⟩ = some (.int .i64 ((rd_T82 l1 x5_1).f1)) ∧ w'.cell? ⟨(ad194.add ((x5_1).toNat * 4)).block, (ad194.add ((x5_1).toNat * 4)).off + 2, none⟩ = some (.int .i64 ((rd_T82 l1 x5_1).f2)) ∧ w'.cell? ⟨(ad194.add ((x5_1).toNat * 4)).block, (ad194.add ((x5_1).toNat * 4)).off + 3, none⟩ = some (.int .i64 ((rd_T82 l1 x5_1).f3))) (ds := []) #[F_, F_, F_, F_, F_, F_, F_, F_, F_, F_] (by kernel_rfl) rfl rfl ⟨(hbc HB.out hw193_0), (hbc HB.out hw193_1), (hbc HB.out hw193_2), (hbc HB.out hw193_3), (hbc HB.out hw194_0), (hbc HB.out hw194_1), (hbc HB.out hw194_2), (hbc HB.out hw194_3)⟩ (fun hHeld => ?_); refine with_tabW laws_eqParamS.tab6 laws_eqParamS.bits6 (fun HT_ HW_ => ?_)
      generalize wr.drew = w9 at HB hx193_0 hx193_1 hx193_2 hx193_3 hx194_0 hx194_1 hx194_2 hx194_3 hHeld ⊢
      refine pv 0 17 ?_
      refine pv 1 18 ?_
      refine pv 2 19 ?_
      refine pv 4 21 ?_
      refine pv 5 22 ?_
      refine pv 6 23 ?_
      refine tv8 3 20 hHeld ?_
      refine tv8 7 24 hHeld ?_
      refine ov 8 25 (fun K hK => ?_)
      refine gk Try.func92 (laws_eqParam.calls _ _ _ _ _ _ _ _ _ _ A7.out) ?_
      rintro e w10 ⟨rfl, hb⟩
      refine ⟨_, rfl, ?_⟩
      have n0_ := am (below_step bl hb)
      clear HB
      have HB := n0_
      clear n0_
      skip
      skip
      skip
      skip
      refine hK.out _ _ ⟨(hbc HB.out hw193_0), (hbc HB.out hw193_1), (hbc HB.out hw193_2), (hbc HB.out hw193_3), (hbc HB.out hw194_0), (hbc HB.out hw194_1), (hbc HB.out hw194_2), (hbc HB.out hw194_3)⟩ (fun hHeld => ?_)
      clear hK K
      refine norm_ (a' := ?_) ?_ ?_
      rotate_left
      ·show Act.put _ (some 25) _ = _
       simp only [Act.put, z1, z2, z3, i64_w, i32_w]
       rfl
      refine pv 9 26 ?_
      refine done_ (done_of HT_.out (by kernel_rfl)) ?_
      try go_wp2
      go_roundg k1
      case measure => have := HK1.out; omega
      case rel => exact ⟨(wrap64 (x5_1 + 1)), (by first | rfl | (simp; done) | (simp [*]; done)), H', ⟨by have := HK1.out; omega⟩, ⟨bl⟩⟩
     obtain rfl := Option.some.inj H
     try go_wp2
     have n0_ := am (below_drew1 HB.out)
     clear HB
     have HB := n0_
     clear n0_
     have p193 : 0 ≤ (x5_1 : Int) := ode
     have q193 : x5_1 < (l0.length : Int) := ode
     obtain ⟨ad193, e193, hx193_0, hx193_1, hx193_2, hx193_3⟩ := at_T82 HR0.out x5_1 p193 q193
     have hw193_3 := hx193_3
     have hw193_2 := hx193_2
     have hw193_1 := hx193_1
     have hw193_0 := hx193_0
     cases e193
     obtain ⟨hx193_0, hx193_1, hx193_2, hx193_3⟩ := hb4 HB.out hx193_0 hx193_1 hx193_2 hx193_3
     replace p193 := eq_true p193
     replace q193 := eq_true q193
     have p194 : 0 ≤ (x5_1 : Int) := ode
     have q194 : x5_1 < (l1.length : Int) := ode
     obtain ⟨ad194, e194, hx194_0, hx194_1, hx194_2, hx194_3⟩ := at_T82 HR1.out x5_1 p194 q194
     have hw194_3 := hx194_3
     have hw194_2 := hx194_2
     have hw194_1 := hx194_1
     have hw194_0 := hx194_0
     cases e194
     obtain ⟨hx194_0, hx194_1, hx194_2, hx194_3⟩ := hb4 HB.out hx194_0 hx194_1 hx194_2 hx194_3
     replace p194 := eq_true p194
     replace q194 := eq_true q194
     refine start_ (n := 10) (S := fun w' => w'.cell? (ad193.add ((x5_1).toNat * 4)) = some (.string ((rd_T82 l0 x5_1).f0)) ∧ w'.cell? ⟨(ad193.add ((x5_1).toNat * 4)).block, (ad193.add ((x5_1).toNat * 4)).off + 1, none⟩ = some (.int .i64 ((rd_T82 l0 x5_1).f1)) ∧ w'.cell? ⟨(ad193.add ((x5_1).toNat * 4)).block, (ad193.add ((x5_1).toNat * 4)).off + 2, none⟩ = some (.int .i64 ((rd_T82 l0 x5_1).f2)) ∧ w'.cell? ⟨(ad193.add ((x5_1).toNat * 4)).block, (ad193.add ((x5_1).toNat * 4)).off + 3, none⟩ = some (.int .i64 ((rd_T82 l0 x5_1).f3)) ∧ w'.cell? (ad194.add ((x5_1).toNat * 4)) = some (.string ((rd_T82 l1 x5_1).f0)) ∧ w'.cell? ⟨(ad194.add ((x5_1).toNat * 4)).block, (ad194.add ((x5_1).toNat * 4)).off + 1, none⟩ = some (.int .i64 ((rd_T82 l1 x5_1).f1)) ∧ w'.cell? ⟨(ad194.add ((x5_1).toNat * 4)).block, (ad194.add ((x5_1).toNat * 4)).off + 2, none⟩ = some (.int .i64 ((rd_T82 l1 x5_1).f2)) ∧ w'.cell? ⟨(ad194.add ((x5_1).toNat * 4)).block, (ad194.add ((x5_1).toNat * 4)).off + 3, none⟩ = some (.int .i64 ((rd_T82 l1 x5_1).f3))) (ds := []) #[F_, F_, F_, F_, F_, F_, F_, F_, F_, F_] (by kernel_rfl) rfl rfl ⟨(hbc HB.out hw193_0), (hbc HB.out hw193_1), (hbc HB.out hw193_2), (hbc HB.out hw193_3), (hbc HB.out hw194_0), (hbc HB.out hw194_1), (hbc HB.out hw194_2), (hbc HB.out hw194_3)⟩ (fun hHeld => ?_); refine with_tabW laws_eqParamS.tab6 laws_eqParamS.bits6 (fun HT_ HW_ => ?_)
     generalize wr.drew = w11 at HB hx193_0 hx193_1 hx193_2 hx193_3 hx194_0 hx194_1 hx194_2 hx194_3 hHeld ⊢
     refine pv 0 17 ?_
     refine pv 1 18 ?_
     refine pv 2 19 ?_
     refine pv 4 21 ?_
     refine pv 5 22 ?_
     refine pv 6 23 ?_
     refine tv8 3 20 hHeld ?_
     refine tv8 7 24 hHeld ?_
     refine ov 8 25 (fun K hK => ?_)
     refine gk Try.func92 (laws_eqParam.calls _ _ _ _ _ _ _ _ _ _ A7.out) ?_
     rintro e w12 ⟨rfl, hb⟩
     refine ⟨_, rfl, ?_⟩
     have n0_ := am (below_step bl hb)
     clear HB
     have HB := n0_
     clear n0_
     skip
     skip
     skip
     skip
     refine hK.out _ _ ⟨(hbc HB.out hw193_0), (hbc HB.out hw193_1), (hbc HB.out hw193_2), (hbc HB.out hw193_3), (hbc HB.out hw194_0), (hbc HB.out hw194_1), (hbc HB.out hw194_2), (hbc HB.out hw194_3)⟩ (fun hHeld => ?_)
     clear hK K
     refine norm_ (a' := ?_) ?_ ?_
     rotate_left
     ·show Act.put _ (some 25) _ = _
      simp only [Act.put, z1, z2, z3, i64_w, i32_w]
      rfl
     refine pv 9 26 ?_
     refine done_ (done_of HT_.out (by kernel_rfl)) ?_
     try go_wp2
     go_ret
     exact ⟨er, bl⟩
    obtain rfl := Option.some.inj H
    go_wp2
    go_ret
    exact ⟨er, bl⟩
 have c3b2 : (l0.length == l1.length) = false := by first | simpa using c3 | (simp at c3 ⊢; omega)
 obtain rfl := Option.some.inj H
 go_enter Try.func61, Try.ntmps61
 go_wp2
 go_ret
 exact ⟨er, bl⟩

/-! ### laws_eqNode: function 93 -/
def laws_eqNode.f (a0_0 : Int) (a0_1 : ByteArray) (a0_2 : ByteArray) (a0_3 : Int) (a0_4 : Int) (a1_0 : Int) (a1_1 : ByteArray) (a1_2 : ByteArray) (a1_3 : Int) (a1_4 : Int) : Option (Bool) := if a0_0 = a1_0 then (if a0_1.toList = a1_1.toList then (if a0_2.toList = a1_2.toList then (if a0_3 = a1_3 then (if a0_4 = a1_4 then (some true) else (some false)) else (some false)) else (some false)) else (some false)) else (some false)
theorem laws_eqNode.calls (a0_0 : Int) (a0_1 : ByteArray) (a0_2 : ByteArray) (a0_3 : Int) (a0_4 : Int) (a1_0 : Int) (a1_1 : ByteArray) (a1_2 : ByteArray) (a1_3 : Int) (a1_4 : Int) (r : Bool) (w : World) (h : laws_eqNode.f a0_0 a0_1 a0_2 a0_3 a0_4 a1_0 a1_1 a1_2 a1_3 a1_4 = some r) :
  Calls Try.prog 93 #[.agg #[.int .i64 a0_0, .string a0_1, .string a0_2, .int .i64 a0_3, .int .i64 a0_4], .agg #[.int .i64 a1_0, .string a1_1, .string a1_2, .int .i64 a1_3, .int .i64 a1_4]] w fun e w' => e = .returned (.bool r) ∧ Below w.heap.size w w' := by
 have hu88 := Try.underlying88
 have HB := am (Below.refl w.heap.size w)
 have H := h
 clear h
 unfold laws_eqNode.f at H
 revert H; refine iQ (fun c3b0 c3b1 H => ?_) fun c3 c3b0 c3b1 H => ?_
 ·revert H; refine iQ (fun c4b0 c4b1 H => ?_) fun c4 c4b0 c4b1 H => ?_
  ·revert H; refine iQ (fun c5b0 c5b1 H => ?_) fun c5 c5b0 c5b1 H => ?_
   ·revert H; refine iQ (fun c6b0 c6b1 H => ?_) fun c6 c6b0 c6b1 H => ?_
    ·revert H; refine iQ (fun c7b0 c7b1 H => ?_) fun c7 c7b0 c7b1 H => ?_
     ·obtain rfl := Option.some.inj H
      go_enter Try.func93, Try.ntmps93
      go_wp2_with (first | (refine bx 2 #[.int .i64 a0_0, .string a0_1, .string a0_2, .int .i64 a0_3, .int .i64 a0_4] 88 ?_; intro gb196 hg w8 hbox hb; have BK196 := am (hbox); have GW196 := am (bsz hg : w.heap.size ≤ gb196); have GE196 := GW196; replace HB := am (below_step bl hb); clear hb hbox hg) | (refine bx 3 #[.int .i64 a1_0, .string a1_1, .string a1_2, .int .i64 a1_3, .int .i64 a1_4] 88 ?_; intro gb197 hg w9 hbox hb; have BK197 := am (hbox); have GW197 := am (bsz hg : w.heap.size ≤ gb197); have GE197 := GW197; have NB196_197 := am (ne1 hg BK196.out); have NB197_196 := am NB196_197.out.symm; replace BK196 := am (bkb BK196.out hb); replace HB := am (below_step bl hb); clear hb hbox hg; have hnb10 := NB196_197.out; have hnc10 := NB197_196.out; obtain ⟨z11_0, z11_1, z11_2, z11_3, z11_4, y11_0, y11_1, y11_2, y11_3, y11_4⟩ := blk5 BK196.out; obtain ⟨z12_0, z12_1, z12_2, z12_3, z12_4, y12_0, y12_1, y12_2, y12_3, y12_4⟩ := blk5 BK197.out))
      go_ret
      exact ⟨er, bl⟩
     obtain rfl := Option.some.inj H
     go_enter Try.func93, Try.ntmps93
     go_wp2_with (first | (refine bx 2 #[.int .i64 a0_0, .string a0_1, .string a0_2, .int .i64 a0_3, .int .i64 a0_4] 88 ?_; intro gb196 hg w13 hbox hb; have BK196 := am (hbox); have GW196 := am (bsz hg : w.heap.size ≤ gb196); have GE196 := GW196; replace HB := am (below_step bl hb); clear hb hbox hg) | (refine bx 3 #[.int .i64 a1_0, .string a1_1, .string a1_2, .int .i64 a1_3, .int .i64 a1_4] 88 ?_; intro gb197 hg w14 hbox hb; have BK197 := am (hbox); have GW197 := am (bsz hg : w.heap.size ≤ gb197); have GE197 := GW197; have NB196_197 := am (ne1 hg BK196.out); have NB197_196 := am NB196_197.out.symm; replace BK196 := am (bkb BK196.out hb); replace HB := am (below_step bl hb); clear hb hbox hg; have hnb15 := NB196_197.out; have hnc15 := NB197_196.out; obtain ⟨z16_0, z16_1, z16_2, z16_3, z16_4, y16_0, y16_1, y16_2, y16_3, y16_4⟩ := blk5 BK196.out; obtain ⟨z17_0, z17_1, z17_2, z17_3, z17_4, y17_0, y17_1, y17_2, y17_3, y17_4⟩ := blk5 BK197.out))
     go_ret
     exact ⟨er, bl⟩
    obtain rfl := Option.some.inj H
    go_enter Try.func93, Try.ntmps93
    go_wp2_with (first | (refine bx 2 #[.int .i64 a0_0, .string a0_1, .string a0_2, .int .i64 a0_3, .int .i64 a0_4] 88 ?_; intro gb196 hg w18 hbox hb; have BK196 := am (hbox); have GW196 := am (bsz hg : w.heap.size ≤ gb196); have GE196 := GW196; replace HB := am (below_step bl hb); clear hb hbox hg) | (refine bx 3 #[.int .i64 a1_0, .string a1_1, .string a1_2, .int .i64 a1_3, .int .i64 a1_4] 88 ?_; intro gb197 hg w19 hbox hb; have BK197 := am (hbox); have GW197 := am (bsz hg : w.heap.size ≤ gb197); have GE197 := GW197; have NB196_197 := am (ne1 hg BK196.out); have NB197_196 := am NB196_197.out.symm; replace BK196 := am (bkb BK196.out hb); replace HB := am (below_step bl hb); clear hb hbox hg; have hnb20 := NB196_197.out; have hnc20 := NB197_196.out; obtain ⟨z21_0, z21_1, z21_2, z21_3, z21_4, y21_0, y21_1, y21_2, y21_3, y21_4⟩ := blk5 BK196.out; obtain ⟨z22_0, z22_1, z22_2, z22_3, z22_4, y22_0, y22_1, y22_2, y22_3, y22_4⟩ := blk5 BK197.out))
    go_ret
    exact ⟨er, bl⟩
   obtain rfl := Option.some.inj H
   go_enter Try.func93, Try.ntmps93
   go_wp2_with (first | (refine bx 2 #[.int .i64 a0_0, .string a0_1, .string a0_2, .int .i64 a0_3, .int .i64 a0_4] 88 ?_; intro gb196 hg w23 hbox hb; have BK196 := am (hbox); have GW196 := am (bsz hg : w.heap.size ≤ gb196); have GE196 := GW196; replace HB := am (below_step bl hb); clear hb hbox hg) | (refine bx 3 #[.int .i64 a1_0, .string a1_1, .string a1_2, .int .i64 a1_3, .int .i64 a1_4] 88 ?_; intro gb197 hg w24 hbox hb; have BK197 := am (hbox); have GW197 := am (bsz hg : w.heap.size ≤ gb197); have GE197 := GW197; have NB196_197 := am (ne1 hg BK196.out); have NB197_196 := am NB196_197.out.symm; replace BK196 := am (bkb BK196.out hb); replace HB := am (below_step bl hb); clear hb hbox hg; have hnb25 := NB196_197.out; have hnc25 := NB197_196.out; obtain ⟨z26_0, z26_1, z26_2, z26_3, z26_4, y26_0, y26_1, y26_2, y26_3, y26_4⟩ := blk5 BK196.out; obtain ⟨z27_0, z27_1, z27_2, z27_3, z27_4, y27_0, y27_1, y27_2, y27_3, y27_4⟩ := blk5 BK197.out))
   go_ret
   exact ⟨er, bl⟩
  obtain rfl := Option.some.inj H
  go_enter Try.func93, Try.ntmps93
  go_wp2_with (first | (refine bx 2 #[.int .i64 a0_0, .string a0_1, .string a0_2, .int .i64 a0_3, .int .i64 a0_4] 88 ?_; intro gb196 hg w28 hbox hb; have BK196 := am (hbox); have GW196 := am (bsz hg : w.heap.size ≤ gb196); have GE196 := GW196; replace HB := am (below_step bl hb); clear hb hbox hg) | (refine bx 3 #[.int .i64 a1_0, .string a1_1, .string a1_2, .int .i64 a1_3, .int .i64 a1_4] 88 ?_; intro gb197 hg w29 hbox hb; have BK197 := am (hbox); have GW197 := am (bsz hg : w.heap.size ≤ gb197); have GE197 := GW197; have NB196_197 := am (ne1 hg BK196.out); have NB197_196 := am NB196_197.out.symm; replace BK196 := am (bkb BK196.out hb); replace HB := am (below_step bl hb); clear hb hbox hg; have hnb30 := NB196_197.out; have hnc30 := NB197_196.out; obtain ⟨z31_0, z31_1, z31_2, z31_3, z31_4, y31_0, y31_1, y31_2, y31_3, y31_4⟩ := blk5 BK196.out; obtain ⟨z32_0, z32_1, z32_2, z32_3, z32_4, y32_0, y32_1, y32_2, y32_3, y32_4⟩ := blk5 BK197.out))
  go_ret
  exact ⟨er, bl⟩
 obtain rfl := Option.some.inj H
 go_enter Try.func93, Try.ntmps93
 go_wp2_with (first | (refine bx 2 #[.int .i64 a0_0, .string a0_1, .string a0_2, .int .i64 a0_3, .int .i64 a0_4] 88 ?_; intro gb196 hg w33 hbox hb; have BK196 := am (hbox); have GW196 := am (bsz hg : w.heap.size ≤ gb196); have GE196 := GW196; replace HB := am (below_step bl hb); clear hb hbox hg) | (refine bx 3 #[.int .i64 a1_0, .string a1_1, .string a1_2, .int .i64 a1_3, .int .i64 a1_4] 88 ?_; intro gb197 hg w34 hbox hb; have BK197 := am (hbox); have GW197 := am (bsz hg : w.heap.size ≤ gb197); have GE197 := GW197; have NB196_197 := am (ne1 hg BK196.out); have NB197_196 := am NB196_197.out.symm; replace BK196 := am (bkb BK196.out hb); replace HB := am (below_step bl hb); clear hb hbox hg; have hnb35 := NB196_197.out; have hnc35 := NB197_196.out; obtain ⟨z36_0, z36_1, z36_2, z36_3, z36_4, y36_0, y36_1, y36_2, y36_3, y36_4⟩ := blk5 BK196.out; obtain ⟨z37_0, z37_1, z37_2, z37_3, z37_4, y37_0, y37_1, y37_2, y37_3, y37_4⟩ := blk5 BK197.out))
 go_ret
 exact ⟨er, bl⟩

/-! ### laws_eqNodeS: function 62 -/
def laws_eqNodeS.l0 : Nat → List (S88) → List (S88) → Int → Option (Bool)
 | 0, _, _, _ => none
 | k + 1, x0, x1, x5 => if x5 < (x0.length : Int) then (if 0 ≤ x5 then (if x5 < (x1.length : Int) then ((laws_eqNode.f ((rd_T88 x0 x5).f0) ((rd_T88 x0 x5).f1) ((rd_T88 x0 x5).f2) ((rd_T88 x0 x5).f3) ((rd_T88 x0 x5).f4) ((rd_T88 x1 x5).f0) ((rd_T88 x1 x5).f1) ((rd_T88 x1 x5).f2) ((rd_T88 x1 x5).f3) ((rd_T88 x1 x5).f4)).bind fun t200 => (if t200 = true then (laws_eqNodeS.l0 k x0 x1 (wrap64 (x5 + 1))) else (some false))) else (none)) else (none)) else (some true)
def laws_eqNodeS.f (k : Nat) (l0 : List (S88)) (l1 : List (S88)) : Option (Bool) := if (l0.length : Int) = (l1.length : Int) then (laws_eqNodeS.l0 k l0 l1 0) else (some false)
theorem laws_eqNodeS.mono_l : ∀ k, (∀ y0 y1 y2, LeO (laws_eqNodeS.l0 k y0 y1 y2) (laws_eqNodeS.l0 (k + 1) y0 y1 y2))
 | 0 => fun _ _ _ r h => by simp [laws_eqNodeS.l0] at h
 | k + 1 => by
  have ih0 := laws_eqNodeS.mono_l k
  ·intro y0 y1 y2
   unfold laws_eqNodeS.l0
   exact mo
theorem laws_eqNodeS.mono : ∀ a0 a1 k, LeO (laws_eqNodeS.f k a0 a1) (laws_eqNodeS.f (k + 1) a0 a1) := by
 intro a0 a1 k
 have ih0 := laws_eqNodeS.mono_l k
 unfold laws_eqNodeS.f
 exact mo
def laws_eqNodeS.T6 : Bool × List (List Nat × List Nat) := (true, [([], []), ([], []), ([0, 1], [0, 1]), ([2], [2]), ([], []), ([], []), ([4, 5], [4, 5]), ([6], [6]), ([3, 7], [3, 7]), ([8], [8])])
def laws_eqNodeS.B6 : List Nat := [0, 0, 3, 7, 0, 0, 48, 112, 255, 511]
theorem laws_eqNodeS.tab6 : rtab .any (opsOf Try.f62 6) = laws_eqNodeS.T6 := by kernel_rfl
theorem laws_eqNodeS.bits6 : waitsOk laws_eqNodeS.T6.2 laws_eqNodeS.B6 = true := by kernel_rfl
theorem laws_eqNodeS.calls (k : Nat) (A0 : Option Addr) (c0 : Nat) (l0 : List (S88)) (A1 : Option Addr) (c1 : Nat) (l1 : List (S88)) (r : Bool) (w : World) (hr0 : Kd.C k88 w A0 l0.length l0) (hc0 : l0.length ≤ c0) (hr1 : Kd.C k88 w A1 l1.length l1) (hc1 : l1.length ≤ c1) (h : laws_eqNodeS.f k l0 l1 = some r) :
  Calls Try.prog 62 #[.slice A0 l0.length c0, .slice A1 l1.length c1] w fun e w' => e = .returned (.bool r) ∧ Below w.heap.size w w' := by
 have hu88 := Try.underlying88
 have HR0 := am hr0
 have HC0 := am hc0
 clear hr0 hc0
 have HR1 := am hr1
 have HC1 := am hc1
 clear hr1 hc1
 have HB := am (Below.refl w.heap.size w)
 have H := h
 clear h
 unfold laws_eqNodeS.f at H
 revert H; refine iQn (fun c3 c3b0 c3b1 H => ?_) fun c3 c3b0 c3b1 H => ?_
 ·have c3b2 : (l0.length == l1.length) = true := by first | simpa using c3 | (simp at c3 ⊢; omega)
  clear c3
  have H' := am H; clear H
  go_enter Try.func62, Try.ntmps62
  go_wp2
  go_loopg [5] k (fun kq v5 w' => ∃ (x5_1 : Int), v5 = .int .i64 x5_1 ∧ Aside0 (laws_eqNodeS.l0 kq l0 l1 x5_1 = some r) ∧ Aside0 (kq ≤ k) ∧ Aside0 (Below w.heap.size w w'))
  case atStart => exact ⟨(0), (by first | rfl | (simp; done) | (simp [*]; done)), H', ⟨Nat.le_refl _⟩, ⟨bl⟩⟩
  case round =>
   clear H'
   try clear c1; try clear c3; try clear c3b0; try clear c3b1; try clear c3b2
   obtain ⟨x5_1, rfl, HA, HK1, HB⟩ := hrel
   cases gk with
   | zero => exact absurd HA.out (by simp [laws_eqNodeS.l0])
   | succ k1 =>
    have H := HA.out
    clear HA
    simp only [laws_eqNodeS.l0] at H
    revert H; refine iDb (fun c4b0 H => ?_) fun c4b0 H => ?_
    ·revert H; refine i1 fun c5b0 H => ?_
     revert H; refine i1 fun c6b0 H => ?_
     revert H; refine bj fun t200 A7 H => ?_
     replace H := iT H; rcases H with ⟨rfl, H⟩ | ⟨rfl, H⟩
     ·have H' := am H; clear H
      try go_wp2
      have n0_ := am (below_drew1 HB.out)
      clear HB
      have HB := n0_
      clear n0_
      have p198 : 0 ≤ (x5_1 : Int) := ode
      have q198 : x5_1 < (l0.length : Int) := ode
      obtain ⟨ad198, e198, hx198_0, hx198_1, hx198_2, hx198_3, hx198_4⟩ := at_T88 HR0.out x5_1 p198 q198
      have hw198_4 := hx198_4
      have hw198_3 := hx198_3
      have hw198_2 := hx198_2
      have hw198_1 := hx198_1
      have hw198_0 := hx198_0
      cases e198
      obtain ⟨hx198_0, hx198_1, hx198_2, hx198_3, hx198_4⟩ := hb5 HB.out hx198_0 hx198_1 hx198_2 hx198_3 hx198_4
      replace p198 := eq_true p198
      replace q198 := eq_true q198
      have p199 : 0 ≤ (x5_1 : Int) := ode
      have q199 : x5_1 < (l1.length : Int) := ode
      obtain ⟨ad199, e199, hx199_0, hx199_1, hx199_2, hx199_3, hx199_4⟩ := at_T88 HR1.out x5_1 p199 q199
      have hw199_4 := hx199_4
      have hw199_3 := hx199_3
      have hw199_2 := hx199_2
      have hw199_1 := hx199_1
      have hw199_0 := hx199_0
      cases e199
      obtain ⟨hx199_0, hx199_1, hx199_2, hx199_3, hx199_4⟩ := hb5 HB.out hx199_0 hx199_1 hx199_2 hx199_3 hx199_4
      replace p199 := eq_true p199
      replace q199 := eq_true q199
      refine start_ (n := 10) (S := fun w' => w'.cell? (ad198.add ((x5_1).toNat * 5)) = some (.int .i64 ((rd_T88 l0 x5_1).f0)) ∧ w'.cell? ⟨(ad198.add ((x5_1).toNat * 5)).block, (ad198.add ((x5_1).toNat * 5)).off + 1, none⟩ = some (.string ((rd_T88 l0 x5_1).f1)) ∧ w'.cell? ⟨(ad198.add ((x5_1).toNat * 5)).block, (ad198.add ((x5_1).toNat * 5)).off + 2, none⟩ = some (.string ((rd_T88 l0 x5_1).f2)) ∧ w'.cell? ⟨(ad198.add ((x5_1).toNat * 5)).block, (ad198.add ((x5_1).toNat * 5)).off + 3, none⟩ = some (.int .i64 ((rd_T88 l0 x5_1).f3)) ∧ w'.cell? ⟨(ad198.add ((x5_1).toNat * 5)).block, (ad198.add ((x5_1).toNat * 5)).off + 4, none⟩ = some (.int .i64 ((rd_T88 l0 x5_1).f4)) ∧ w'.cell? (ad199.add ((x5_1).toNat * 5)) = some (.int .i64 ((rd_T88 l1 x5_1).f0)) ∧ w'.cell? ⟨(ad199.add ((x5_1).toNat * 5)).block, (ad199.add ((x5_1).toNat * 5)).off + 1, none⟩ = some (.string ((rd_T88 l1 x5_1).f1)) ∧ w'.cell? ⟨(ad199.add ((x5_1).toNat * 5)).block, (ad199.add ((x5_1).toNat * 5)).off + 2, none⟩ = some (.string ((rd_T88 l1 x5_1).f2)) ∧ w'.cell? ⟨(ad199.add ((x5_1).toNat * 5)).block, (ad199.add ((x5_1).toNat * 5)).off + 3, none⟩ = some (.int .i64 ((rd_T88 l1 x5_1).f3)) ∧ w'.cell? ⟨(ad199.add ((x5_1).toNat * 5)).block, (ad199.add ((x5_1).toNat * 5)).off + 4, none⟩ = some (.int .i64 ((rd_T88 l1 x5_1).f4))) (ds := []) #[F_, F_, F_, F_, F_, F_, F_, F_, F_, F_] (by kernel_rfl) rfl rfl ⟨(hbc HB.out hw198_0), (hbc HB.out hw198_1), (hbc HB.out hw198_2), (hbc HB.out hw198_3), (hbc HB.out hw198_4), (hbc HB.out hw199_0), (hbc HB.out hw199_1), (hbc HB.out hw199_2), (hbc HB.out hw199_3), (hbc HB.out hw199_4)⟩ (fun hHeld => ?_); refine with_tabW laws_eqNodeS.tab6 laws_eqNodeS.bits6 (fun HT_ HW_ => ?_)
      generalize wr.drew = w9 at HB hx198_0 hx198_1 hx198_2 hx198_3 hx198_4 hx199_0 hx199_1 hx199_2 hx199_3 hx199_4 hHeld ⊢
      refine pv 0 17 ?_
      refine pv 1 18 ?_
      refine pv 2 19 ?_
      refine pv 4 21 ?_
      refine pv 5 22 ?_
      refine pv 6 23 ?_
      refine tv10 3 20 hHeld ?_
      refine tv10 7 24 hHeld ?_
      refine ov 8 25 (fun K hK => ?_)
      refine gk Try.func93 (laws_eqNode.calls _ _ _ _ _ _ _ _ _ _ _ _ A7.out) ?_
      rintro e w10 ⟨rfl, hb⟩
      refine ⟨_, rfl, ?_⟩
      have n0_ := am (below_step bl hb)
      clear HB
      have HB := n0_
      clear n0_
      skip
      skip
      skip
      skip
      refine hK.out _ _ ⟨(hbc HB.out hw198_0), (hbc HB.out hw198_1), (hbc HB.out hw198_2), (hbc HB.out hw198_3), (hbc HB.out hw198_4), (hbc HB.out hw199_0), (hbc HB.out hw199_1), (hbc HB.out hw199_2), (hbc HB.out hw199_3), (hbc HB.out hw199_4)⟩ (fun hHeld => ?_)
      clear hK K
      refine norm_ (a' := ?_) ?_ ?_
      rotate_left
      ·show Act.put _ (some 25) _ = _
       simp only [Act.put, z1, z2, z3, i64_w, i32_w]
       rfl
      refine pv 9 26 ?_
      refine done_ (done_of HT_.out (by kernel_rfl)) ?_
      try go_wp2
      go_roundg k1
      case measure => have := HK1.out; omega
      case rel => exact ⟨(wrap64 (x5_1 + 1)), (by first | rfl | (simp; done) | (simp [*]; done)), H', ⟨by have := HK1.out; omega⟩, ⟨bl⟩⟩
     obtain rfl := Option.some.inj H
     try go_wp2
     have n0_ := am (below_drew1 HB.out)
     clear HB
     have HB := n0_
     clear n0_
     have p198 : 0 ≤ (x5_1 : Int) := ode
     have q198 : x5_1 < (l0.length : Int) := ode
     obtain ⟨ad198, e198, hx198_0, hx198_1, hx198_2, hx198_3, hx198_4⟩ := at_T88 HR0.out x5_1 p198 q198
     have hw198_4 := hx198_4
     have hw198_3 := hx198_3
     have hw198_2 := hx198_2
     have hw198_1 := hx198_1
     have hw198_0 := hx198_0
     cases e198
     obtain ⟨hx198_0, hx198_1, hx198_2, hx198_3, hx198_4⟩ := hb5 HB.out hx198_0 hx198_1 hx198_2 hx198_3 hx198_4
     replace p198 := eq_true p198
     replace q198 := eq_true q198
     have p199 : 0 ≤ (x5_1 : Int) := ode
     have q199 : x5_1 < (l1.length : Int) := ode
     obtain ⟨ad199, e199, hx199_0, hx199_1, hx199_2, hx199_3, hx199_4⟩ := at_T88 HR1.out x5_1 p199 q199
     have hw199_4 := hx199_4
     have hw199_3 := hx199_3
     have hw199_2 := hx199_2
     have hw199_1 := hx199_1
     have hw199_0 := hx199_0
     cases e199
     obtain ⟨hx199_0, hx199_1, hx199_2, hx199_3, hx199_4⟩ := hb5 HB.out hx199_0 hx199_1 hx199_2 hx199_3 hx199_4
     replace p199 := eq_true p199
     replace q199 := eq_true q199
     refine start_ (n := 10) (S := fun w' => w'.cell? (ad198.add ((x5_1).toNat * 5)) = some (.int .i64 ((rd_T88 l0 x5_1).f0)) ∧ w'.cell? ⟨(ad198.add ((x5_1).toNat * 5)).block, (ad198.add ((x5_1).toNat * 5)).off + 1, none⟩ = some (.string ((rd_T88 l0 x5_1).f1)) ∧ w'.cell? ⟨(ad198.add ((x5_1).toNat * 5)).block, (ad198.add ((x5_1).toNat * 5)).off + 2, none⟩ = some (.string ((rd_T88 l0 x5_1).f2)) ∧ w'.cell? ⟨(ad198.add ((x5_1).toNat * 5)).block, (ad198.add ((x5_1).toNat * 5)).off + 3, none⟩ = some (.int .i64 ((rd_T88 l0 x5_1).f3)) ∧ w'.cell? ⟨(ad198.add ((x5_1).toNat * 5)).block, (ad198.add ((x5_1).toNat * 5)).off + 4, none⟩ = some (.int .i64 ((rd_T88 l0 x5_1).f4)) ∧ w'.cell? (ad199.add ((x5_1).toNat * 5)) = some (.int .i64 ((rd_T88 l1 x5_1).f0)) ∧ w'.cell? ⟨(ad199.add ((x5_1).toNat * 5)).block, (ad199.add ((x5_1).toNat * 5)).off + 1, none⟩ = some (.string ((rd_T88 l1 x5_1).f1)) ∧ w'.cell? ⟨(ad199.add ((x5_1).toNat * 5)).block, (ad199.add ((x5_1).toNat * 5)).off + 2, none⟩ = some (.string ((rd_T88 l1 x5_1).f2)) ∧ w'.cell? ⟨(ad199.add ((x5_1).toNat * 5)).block, (ad199.add ((x5_1).toNat * 5)).off + 3, none⟩ = some (.int .i64 ((rd_T88 l1 x5_1).f3)) ∧ w'.cell? ⟨(ad199.add ((x5_1).toNat * 5)).block, (ad199.add ((x5_1).toNat * 5)).off + 4, none⟩ = some (.int .i64 ((rd_T88 l1 x5_1).f4))) (ds := []) #[F_, F_, F_, F_, F_, F_, F_, F_, F_, F_] (by kernel_rfl) rfl rfl ⟨(hbc HB.out hw198_0), (hbc HB.out hw198_1), (hbc HB.out hw198_2), (hbc HB.out hw198_3), (hbc HB.out hw198_4), (hbc HB.out hw199_0), (hbc HB.out hw199_1), (hbc HB.out hw199_2), (hbc HB.out hw199_3), (hbc HB.out hw199_4)⟩ (fun hHeld => ?_); refine with_tabW laws_eqNodeS.tab6 laws_eqNodeS.bits6 (fun HT_ HW_ => ?_)
     generalize wr.drew = w11 at HB hx198_0 hx198_1 hx198_2 hx198_3 hx198_4 hx199_0 hx199_1 hx199_2 hx199_3 hx199_4 hHeld ⊢
     refine pv 0 17 ?_
     refine pv 1 18 ?_
     refine pv 2 19 ?_
     refine pv 4 21 ?_
     refine pv 5 22 ?_
     refine pv 6 23 ?_
     refine tv10 3 20 hHeld ?_
     refine tv10 7 24 hHeld ?_
     refine ov 8 25 (fun K hK => ?_)
     refine gk Try.func93 (laws_eqNode.calls _ _ _ _ _ _ _ _ _ _ _ _ A7.out) ?_
     rintro e w12 ⟨rfl, hb⟩
     refine ⟨_, rfl, ?_⟩
     have n0_ := am (below_step bl hb)
     clear HB
     have HB := n0_
     clear n0_
     skip
     skip
     skip
     skip
     refine hK.out _ _ ⟨(hbc HB.out hw198_0), (hbc HB.out hw198_1), (hbc HB.out hw198_2), (hbc HB.out hw198_3), (hbc HB.out hw198_4), (hbc HB.out hw199_0), (hbc HB.out hw199_1), (hbc HB.out hw199_2), (hbc HB.out hw199_3), (hbc HB.out hw199_4)⟩ (fun hHeld => ?_)
     clear hK K
     refine norm_ (a' := ?_) ?_ ?_
     rotate_left
     ·show Act.put _ (some 25) _ = _
      simp only [Act.put, z1, z2, z3, i64_w, i32_w]
      rfl
     refine pv 9 26 ?_
     refine done_ (done_of HT_.out (by kernel_rfl)) ?_
     try go_wp2
     go_ret
     exact ⟨er, bl⟩
    obtain rfl := Option.some.inj H
    go_wp2
    go_ret
    exact ⟨er, bl⟩
 have c3b2 : (l0.length == l1.length) = false := by first | simpa using c3 | (simp at c3 ⊢; omega)
 obtain rfl := Option.some.inj H
 go_enter Try.func62, Try.ntmps62
 go_wp2
 go_ret
 exact ⟨er, bl⟩

end Go.Proofs.Ytpblcdafmpfemaa.PFnExactProductSame
