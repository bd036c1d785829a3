-- laid by seedprint.py, a program of this session, over contracts that it gives by hand; Lean checks it
-- dented
import Derived.Test.YtodokfmmnihecaaGreatDoorQMin
import Derived.Test.YtodokfmmnihecaaGreatDoorQAut
import Derived.Test.YtodokfmmnihecaaGreatDoorQBlk
import Derived.Test.YtodokfmmnihecaaGreatDoorPFnExactEnvRightx0
import Derived.Test.YtodokfmmnihecaaGreatDoorPFnExactEnvRightx2
namespace Go.Proofs.YtodokfmmnihecaaGreatDoor.PFnExactEnvRight
open Go.RowKit Go.Proofs.YtodokfmmnihecaaGreatDoorW.PrintWords Go.Proofs.YtodokfmmnihecaaGreatDoorW.PrintLast Go.Proofs.YtodokfmmnihecaaGreatDoorW.PrintMore
attribute [local go_sem] max2_int min2_int max_two min_two max_three min_three max_four min_four   -- for this text's walks alone
set_option maxHeartbeats 8000000
set_option maxRecDepth 100000
set_option linter.unusedVariables false
set_option linter.unusedSimpArgs false

/-! ### laws_eqNode: function 139 -/
def laws_eqNode.f (a0_0 : Int) (a0_1 : ByteArray) (a0_2 : ByteArray) (a0_3 : Int) (a0_4 : Int) (a1_0 : Int) (a1_1 : ByteArray) (a1_2 : ByteArray) (a1_3 : Int) (a1_4 : Int) : Option (Bool) := if a0_0 = a1_0 then (if a0_1.toList = a1_1.toList then (if a0_2.toList = a1_2.toList then (if a0_3 = a1_3 then (if a0_4 = a1_4 then (some true) else (some false)) else (some false)) else (some false)) else (some false)) else (some false)
theorem laws_eqNode.calls (a0_0 : Int) (a0_1 : ByteArray) (a0_2 : ByteArray) (a0_3 : Int) (a0_4 : Int) (a1_0 : Int) (a1_1 : ByteArray) (a1_2 : ByteArray) (a1_3 : Int) (a1_4 : Int) (r : Bool) (w : World) (h : laws_eqNode.f a0_0 a0_1 a0_2 a0_3 a0_4 a1_0 a1_1 a1_2 a1_3 a1_4 = some r) :
  Calls Tryz.prog 139 #[.agg #[.int .i64 a0_0, .string a0_1, .string a0_2, .int .i64 a0_3, .int .i64 a0_4], .agg #[.int .i64 a1_0, .string a1_1, .string a1_2, .int .i64 a1_3, .int .i64 a1_4]] w fun e w' => e = .returned (.bool r) ∧ Below w.heap.size w w' := by
 have hu73 := Tryz.underlying73
 have HB := am (Below.refl w.heap.size w)
 have H := h
 clear h
 unfold laws_eqNode.f at H
 revert H; refine iQ (fun c3b0 c3b1 H => ?_) fun c3 c3b0 c3b1 H => ?_
 ·revert H; refine iQ (fun c4b0 c4b1 H => ?_) fun c4 c4b0 c4b1 H => ?_
  ·revert H; refine iQ (fun c5b0 c5b1 H => ?_) fun c5 c5b0 c5b1 H => ?_
   ·revert H; refine iQ (fun c6b0 c6b1 H => ?_) fun c6 c6b0 c6b1 H => ?_
    ·revert H; refine iQ (fun c7b0 c7b1 H => ?_) fun c7 c7b0 c7b1 H => ?_
     ·obtain rfl := Option.some.inj H
      go_enter Tryz.func139, Tryz.ntmps139
      go_wp2_with (first | (refine bx 2 #[.int .i64 a0_0, .string a0_1, .string a0_2, .int .i64 a0_3, .int .i64 a0_4] 73 ?_; intro gb166 hg w8 hbox hb; have BK166 := am (hbox); have GW166 := am (bsz hg : w.heap.size ≤ gb166); have GE166 := GW166; replace HB := am (below_step bl hb); clear hb hbox hg) | (refine bx 3 #[.int .i64 a1_0, .string a1_1, .string a1_2, .int .i64 a1_3, .int .i64 a1_4] 73 ?_; intro gb167 hg w9 hbox hb; have BK167 := am (hbox); have GW167 := am (bsz hg : w.heap.size ≤ gb167); have GE167 := GW167; have NB166_167 := am (ne1 hg BK166.out); have NB167_166 := am NB166_167.out.symm; replace BK166 := am (bkb BK166.out hb); replace HB := am (below_step bl hb); clear hb hbox hg; have hnb10 := NB166_167.out; have hnc10 := NB167_166.out; obtain ⟨z11_0, z11_1, z11_2, z11_3, z11_4, y11_0, y11_1, y11_2, y11_3, y11_4⟩ := blk5 BK166.out; obtain ⟨z12_0, z12_1, z12_2, z12_3, z12_4, y12_0, y12_1, y12_2, y12_3, y12_4⟩ := blk5 BK167.out))
      go_ret
      exact ⟨er, bl⟩
     obtain rfl := Option.some.inj H
     go_enter Tryz.func139, Tryz.ntmps139
     go_wp2_with (first | (refine bx 2 #[.int .i64 a0_0, .string a0_1, .string a0_2, .int .i64 a0_3, .int .i64 a0_4] 73 ?_; intro gb166 hg w13 hbox hb; have BK166 := am (hbox); have GW166 := am (bsz hg : w.heap.size ≤ gb166); have GE166 := GW166; replace HB := am (below_step bl hb); clear hb hbox hg) | (refine bx 3 #[.int .i64 a1_0, .string a1_1, .string a1_2, .int .i64 a1_3, .int .i64 a1_4] 73 ?_; intro gb167 hg w14 hbox hb; have BK167 := am (hbox); have GW167 := am (bsz hg : w.heap.size ≤ gb167); have GE167 := GW167; have NB166_167 := am (ne1 hg BK166.out); have NB167_166 := am NB166_167.out.symm; replace BK166 := am (bkb BK166.out hb); replace HB := am (below_step bl hb); clear hb hbox hg; have hnb15 := NB166_167.out; have hnc15 := NB167_166.out; obtain ⟨z16_0, z16_1, z16_2, z16_3, z16_4, y16_0, y16_1, y16_2, y16_3, y16_4⟩ := blk5 BK166.out; obtain ⟨z17_0, z17_1, z17_2, z17_3, z17_4, y17_0, y17_1, y17_2, y17_3, y17_4⟩ := blk5 BK167.out))
     go_ret
     exact ⟨er, bl⟩
    obtain rfl := Option.some.inj H
    go_enter Tryz.func139, Tryz.ntmps139
    go_wp2_with (first | (refine bx 2 #[.int .i64 a0_0, .string a0_1, .string a0_2, .int .i64 a0_3, .int .i64 a0_4] 73 ?_; intro gb166 hg w18 hbox hb; have BK166 := am (hbox); have GW166 := am (bsz hg : w.heap.size ≤ gb166); have GE166 := GW166; replace HB := am (below_step bl hb); clear hb hbox hg) | (refine bx 3 #[.int .i64 a1_0, .string a1_1, .string a1_2, .int .i64 a1_3, .int .i64 a1_4] 73 ?_; intro gb167 hg w19 hbox hb; have BK167 := am (hbox); have GW167 := am (bsz hg : w.heap.size ≤ gb167); have GE167 := GW167; have NB166_167 := am (ne1 hg BK166.out); have NB167_166 := am NB166_167.out.symm; replace BK166 := am (bkb BK166.out hb); replace HB := am (below_step bl hb); clear hb hbox hg; have hnb20 := NB166_167.out; have hnc20 := NB167_166.out; obtain ⟨z21_0, z21_1, z21_2, z21_3, z21_4, y21_0, y21_1, y21_2, y21_3, y21_4⟩ := blk5 BK166.out; obtain ⟨z22_0, z22_1, z22_2, z22_3, z22_4, y22_0, y22_1, y22_2, y22_3, y22_4⟩ := blk5 BK167.out))
    go_ret
    exact ⟨er, bl⟩
   obtain rfl := Option.some.inj H
   go_enter Tryz.func139, Tryz.ntmps139
   go_wp2_with (first | (refine bx 2 #[.int .i64 a0_0, .string a0_1, .string a0_2, .int .i64 a0_3, .int .i64 a0_4] 73 ?_; intro gb166 hg w23 hbox hb; have BK166 := am (hbox); have GW166 := am (bsz hg : w.heap.size ≤ gb166); have GE166 := GW166; replace HB := am (below_step bl hb); clear hb hbox hg) | (refine bx 3 #[.int .i64 a1_0, .string a1_1, .string a1_2, .int .i64 a1_3, .int .i64 a1_4] 73 ?_; intro gb167 hg w24 hbox hb; have BK167 := am (hbox); have GW167 := am (bsz hg : w.heap.size ≤ gb167); have GE167 := GW167; have NB166_167 := am (ne1 hg BK166.out); have NB167_166 := am NB166_167.out.symm; replace BK166 := am (bkb BK166.out hb); replace HB := am (below_step bl hb); clear hb hbox hg; have hnb25 := NB166_167.out; have hnc25 := NB167_166.out; obtain ⟨z26_0, z26_1, z26_2, z26_3, z26_4, y26_0, y26_1, y26_2, y26_3, y26_4⟩ := blk5 BK166.out; obtain ⟨z27_0, z27_1, z27_2, z27_3, z27_4, y27_0, y27_1, y27_2, y27_3, y27_4⟩ := blk5 BK167.out))
   go_ret
   exact ⟨er, bl⟩
  obtain rfl := Option.some.inj H
  go_enter Tryz.func139, Tryz.ntmps139
  go_wp2_with (first | (refine bx 2 #[.int .i64 a0_0, .string a0_1, .string a0_2, .int .i64 a0_3, .int .i64 a0_4] 73 ?_; intro gb166 hg w28 hbox hb; have BK166 := am (hbox); have GW166 := am (bsz hg : w.heap.size ≤ gb166); have GE166 := GW166; replace HB := am (below_step bl hb); clear hb hbox hg) | (refine bx 3 #[.int .i64 a1_0, .string a1_1, .string a1_2, .int .i64 a1_3, .int .i64 a1_4] 73 ?_; intro gb167 hg w29 hbox hb; have BK167 := am (hbox); have GW167 := am (bsz hg : w.heap.size ≤ gb167); have GE167 := GW167; have NB166_167 := am (ne1 hg BK166.out); have NB167_166 := am NB166_167.out.symm; replace BK166 := am (bkb BK166.out hb); replace HB := am (below_step bl hb); clear hb hbox hg; have hnb30 := NB166_167.out; have hnc30 := NB167_166.out; obtain ⟨z31_0, z31_1, z31_2, z31_3, z31_4, y31_0, y31_1, y31_2, y31_3, y31_4⟩ := blk5 BK166.out; obtain ⟨z32_0, z32_1, z32_2, z32_3, z32_4, y32_0, y32_1, y32_2, y32_3, y32_4⟩ := blk5 BK167.out))
  go_ret
  exact ⟨er, bl⟩
 obtain rfl := Option.some.inj H
 go_enter Tryz.func139, Tryz.ntmps139
 go_wp2_with (first | (refine bx 2 #[.int .i64 a0_0, .string a0_1, .string a0_2, .int .i64 a0_3, .int .i64 a0_4] 73 ?_; intro gb166 hg w33 hbox hb; have BK166 := am (hbox); have GW166 := am (bsz hg : w.heap.size ≤ gb166); have GE166 := GW166; replace HB := am (below_step bl hb); clear hb hbox hg) | (refine bx 3 #[.int .i64 a1_0, .string a1_1, .string a1_2, .int .i64 a1_3, .int .i64 a1_4] 73 ?_; intro gb167 hg w34 hbox hb; have BK167 := am (hbox); have GW167 := am (bsz hg : w.heap.size ≤ gb167); have GE167 := GW167; have NB166_167 := am (ne1 hg BK166.out); have NB167_166 := am NB166_167.out.symm; replace BK166 := am (bkb BK166.out hb); replace HB := am (below_step bl hb); clear hb hbox hg; have hnb35 := NB166_167.out; have hnc35 := NB167_166.out; obtain ⟨z36_0, z36_1, z36_2, z36_3, z36_4, y36_0, y36_1, y36_2, y36_3, y36_4⟩ := blk5 BK166.out; obtain ⟨z37_0, z37_1, z37_2, z37_3, z37_4, y37_0, y37_1, y37_2, y37_3, y37_4⟩ := blk5 BK167.out))
 go_ret
 exact ⟨er, bl⟩

/-! ### laws_eqNodeS: function 73 -/
def laws_eqNodeS.l0 : Nat → List (S73) → List (S73) → Int → Option (Bool)
 | 0, _, _, _ => none
 | k + 1, x0, x1, x5 => if x5 < (x0.length : Int) then (if 0 ≤ x5 then (if x5 < (x1.length : Int) then ((laws_eqNode.f ((rd_T73 x0 x5).f0) ((rd_T73 x0 x5).f1) ((rd_T73 x0 x5).f2) ((rd_T73 x0 x5).f3) ((rd_T73 x0 x5).f4) ((rd_T73 x1 x5).f0) ((rd_T73 x1 x5).f1) ((rd_T73 x1 x5).f2) ((rd_T73 x1 x5).f3) ((rd_T73 x1 x5).f4)).bind fun t170 => (if t170 = true then (laws_eqNodeS.l0 k x0 x1 (wrap64 (x5 + 1))) else (some false))) else (none)) else (none)) else (some true)
def laws_eqNodeS.f (k : Nat) (l0 : List (S73)) (l1 : List (S73)) : Option (Bool) := if (l0.length : Int) = (l1.length : Int) then (laws_eqNodeS.l0 k l0 l1 0) else (some false)
theorem laws_eqNodeS.mono_l : ∀ k, (∀ y0 y1 y2, LeO (laws_eqNodeS.l0 k y0 y1 y2) (laws_eqNodeS.l0 (k + 1) y0 y1 y2))
 | 0 => fun _ _ _ r h => by simp [laws_eqNodeS.l0] at h
 | k + 1 => by
  have ih0 := laws_eqNodeS.mono_l k
  ·intro y0 y1 y2
   unfold laws_eqNodeS.l0
   exact mo
theorem laws_eqNodeS.mono : ∀ a0 a1 k, LeO (laws_eqNodeS.f k a0 a1) (laws_eqNodeS.f (k + 1) a0 a1) := by
 intro a0 a1 k
 have ih0 := laws_eqNodeS.mono_l k
 unfold laws_eqNodeS.f
 exact mo
def laws_eqNodeS.T6 : Bool × List (List Nat × List Nat) := (true, [([], []), ([], []), ([0, 1], [0, 1]), ([2], [2]), ([], []), ([], []), ([4, 5], [4, 5]), ([6], [6]), ([3, 7], [3, 7]), ([8], [8])])
def laws_eqNodeS.B6 : List Nat := [0, 0, 3, 7, 0, 0, 48, 112, 255, 511]
theorem laws_eqNodeS.tab6 : rtab .any (opsOf Tryz.f73 6) = laws_eqNodeS.T6 := by kernel_rfl
theorem laws_eqNodeS.bits6 : waitsOk laws_eqNodeS.T6.2 laws_eqNodeS.B6 = true := by kernel_rfl
theorem laws_eqNodeS.calls (k : Nat) (A0 : Option Addr) (c0 : Nat) (l0 : List (S73)) (A1 : Option Addr) (c1 : Nat) (l1 : List (S73)) (r : Bool) (w : World) (hr0 : Kd.C k73 w A0 l0.length l0) (hc0 : l0.length ≤ c0) (hr1 : Kd.C k73 w A1 l1.length l1) (hc1 : l1.length ≤ c1) (h : laws_eqNodeS.f k l0 l1 = some r) :
  Calls Tryz.prog 73 #[.slice A0 l0.length c0, .slice A1 l1.length c1] w fun e w' => e = .returned (.bool r) ∧ Below w.heap.size w w' := by
 have hu73 := Tryz.underlying73
 have HR0 := am hr0
 have HC0 := am hc0
 clear hr0 hc0
 have HR1 := am hr1
 have HC1 := am hc1
 clear hr1 hc1
 have HB := am (Below.refl w.heap.size w)
 have H := h
 clear h
 unfold laws_eqNodeS.f at H
 revert H; refine iQn (fun c3 c3b0 c3b1 H => ?_) fun c3 c3b0 c3b1 H => ?_
 ·have c3b2 : (l0.length == l1.length) = true := by first | simpa using c3 | (simp at c3 ⊢; omega)
  clear c3
  have H' := am H; clear H
  go_enter Tryz.func73, Tryz.ntmps73
  go_wp2
  go_loopg [5] k (fun kq v5 w' => ∃ (x5_1 : Int), v5 = .int .i64 x5_1 ∧ Aside0 (laws_eqNodeS.l0 kq l0 l1 x5_1 = some r) ∧ Aside0 (kq ≤ k) ∧ Aside0 (Below w.heap.size w w'))
  case atStart => exact ⟨(0), rs, H', ⟨Nat.le_refl _⟩, ⟨bl⟩⟩
  case round =>
   clear H'
   try clear c1; try clear c3; try clear c3b0; try clear c3b1; try clear c3b2
   obtain ⟨x5_1, rfl, HA, HK1, HB⟩ := hrel
   cases gk with
   | zero => exact absurd HA.out (by simp [laws_eqNodeS.l0])
   | succ k1 =>
    have H := HA.out
    clear HA
    simp only [laws_eqNodeS.l0] at H
    revert H; refine iDb (fun c4b0 H => ?_) fun c4b0 H => ?_
    ·revert H; refine i1 fun c5b0 H => ?_
     revert H; refine i1 fun c6b0 H => ?_
     revert H; refine bj fun t170 A7 H => ?_
     replace H := iT H; rcases H with ⟨rfl, H⟩ | ⟨rfl, H⟩
     ·have H' := am H; clear H
      try go_wp2
      have n0_ := am (below_drew1 HB.out)
      clear HB
      have HB := n0_
      clear n0_
      have p168 : 0 ≤ (x5_1 : Int) := ode
      have q168 : x5_1 < (l0.length : Int) := ode
      obtain ⟨ad168, e168, hx168_0, hx168_1, hx168_2, hx168_3, hx168_4⟩ := at_T73 HR0.out x5_1 p168 q168
      have hw168_4 := hx168_4
      have hw168_3 := hx168_3
      have hw168_2 := hx168_2
      have hw168_1 := hx168_1
      have hw168_0 := hx168_0
      cases e168
      obtain ⟨hx168_0, hx168_1, hx168_2, hx168_3, hx168_4⟩ := hb5 HB.out hx168_0 hx168_1 hx168_2 hx168_3 hx168_4
      replace p168 := eq_true p168
      replace q168 := eq_true q168
      have p169 : 0 ≤ (x5_1 : Int) := ode
      have q169 : x5_1 < (l1.length : Int) := ode
      obtain ⟨ad169, e169, hx169_0, hx169_1, hx169_2, hx169_3, hx169_4⟩ := at_T73 HR1.out x5_1 p169 q169
      have hw169_4 := hx169_4
      have hw169_3 := hx169_3
      have hw169_2 := hx169_2
      have hw169_1 := hx169_1
      have hw169_0 := hx169_0
      cases e169
      obtain ⟨hx169_0, hx169_1, hx169_2, hx169_3, hx169_4⟩ := hb5 HB.out hx169_0 hx169_1 hx169_2 hx169_3 hx169_4
      replace p169 := eq_true p169
      replace q169 := eq_true q169
      refine start_ (n := 10) (S := fun w' => w'.cell? (ad168.add ((x5_1).toNat * 5)) = some (.int .i64 ((rd_T73 l0 x5_1).f0)) ∧ w'.cell? ⟨(ad168.add ((x5_1).toNat * 5)).block, (ad168.add ((x5_1).toNat * 5)).off + 1, none⟩ = some (.string ((rd_T73 l0 x5_1).f1)) ∧ w'.cell? ⟨(ad168.add ((x5_1).toNat * 5)).block, (ad168.add ((x5_1).toNat * 5)).off + 2, none⟩ = some (.string ((rd_T73 l0 x5_1).f2)) ∧ w'.cell? ⟨(ad168.add ((x5_1).toNat * 5)).block, (ad168.add ((x5_1).toNat * 5)).off + 3, none⟩ = some (.int .i64 ((rd_T73 l0 x5_1).f3)) ∧ w'.cell? ⟨(ad168.add ((x5_1).toNat * 5)).block, (ad168.add ((x5_1).toNat * 5)).off + 4, none⟩ = some (.int .i64 ((rd_T73 l0 x5_1).f4)) ∧ w'.cell? (ad169.add ((x5_1).toNat * 5)) = some (.int .i64 ((rd_T73 l1 x5_1).f0)) ∧ w'.cell? ⟨(ad169.add ((x5_1).toNat * 5)).block, (ad169.add ((x5_1).toNat * 5)).off + 1, none⟩ = some (.string ((rd_T73 l1 x5_1).f1)) ∧ w'.cell? ⟨(ad169.add ((x5_1).toNat * 5)).block, (ad169.add ((x5_1).toNat * 5)).off + 2, none⟩ = some (.string ((rd_T73 l1 x5_1).f2)) ∧ w'.cell? ⟨(ad169.add ((x5_1).toNat * 5)).block, (ad169.add ((x5_1).toNat * 5)).off + 3, none⟩ = some (.int .i64 ((rd_T73 l1 x5_1).f3)) ∧ w'.cell? ⟨(ad169.add ((x5_1).toNat * 5)).block, (ad169.add ((x5_1).toNat * 5)).off + 4, none⟩ = some (.int .i64 ((rd_T73 l1 x5_1).f4))) (ds := []) #[F_, F_, F_, F_, F_, F_, F_, F_, F_, F_] (by kernel_rfl) rfl rfl ⟨(hbc HB.out hw168_0), (hbc HB.out hw168_1), (hbc HB.out hw168_2), (hbc HB.out hw168_3), (hbc HB.out hw168_4), (hbc HB.out hw169_0), (hbc HB.out hw169_1), (hbc HB.out hw169_2), (hbc HB.out hw169_3), (hbc HB.out hw169_4)⟩ (fun hHeld => ?_); refine with_tabW laws_eqNodeS.tab6 laws_eqNodeS.bits6 (fun HT_ HW_ => ?_)
      generalize wr.drew = w9 at HB hx168_0 hx168_1 hx168_2 hx168_3 hx168_4 hx169_0 hx169_1 hx169_2 hx169_3 hx169_4 hHeld ⊢
      refine pv 0 17 ?_
      refine pv 1 18 ?_
      refine pv 2 19 ?_
      refine pv 4 21 ?_
      refine pv 5 22 ?_
      refine pv 6 23 ?_
      refine tv10 3 20 hHeld ?_
      refine tv10 7 24 hHeld ?_
      refine ov 8 25 (fun K hK => ?_)
      refine gk Tryz.func139 (laws_eqNode.calls _ _ _ _ _ _ _ _ _ _ _ _ A7.out) ?_
      rintro e w10 ⟨rfl, hb⟩
      refine ⟨_, rfl, ?_⟩
      have n0_ := am (below_step bl hb)
      clear HB
      have HB := n0_
      clear n0_
      skip
      skip
      skip
      skip
      refine hK.out _ _ ⟨(hbc HB.out hw168_0), (hbc HB.out hw168_1), (hbc HB.out hw168_2), (hbc HB.out hw168_3), (hbc HB.out hw168_4), (hbc HB.out hw169_0), (hbc HB.out hw169_1), (hbc HB.out hw169_2), (hbc HB.out hw169_3), (hbc HB.out hw169_4)⟩ (fun hHeld => ?_)
      clear hK K
      refine norm_ (a' := ?_) ?_ ?_
      rotate_left
      ·show Act.put _ (some 25) _ = _
       simp only [Act.put, z1, z2, z3, i64_w, i32_w]
       rfl
      refine pv 9 26 ?_
      refine done_ (done_of HT_.out (by kernel_rfl)) ?_
      try go_wp2
      go_roundg k1
      case measure => have := HK1.out; omega
      case rel => exact ⟨(wrap64 (x5_1 + 1)), rs, H', ⟨by have := HK1.out; omega⟩, ⟨bl⟩⟩
     obtain rfl := Option.some.inj H
     try go_wp2
     have n0_ := am (below_drew1 HB.out)
     clear HB
     have HB := n0_
     clear n0_
     have p168 : 0 ≤ (x5_1 : Int) := ode
     have q168 : x5_1 < (l0.length : Int) := ode
     obtain ⟨ad168, e168, hx168_0, hx168_1, hx168_2, hx168_3, hx168_4⟩ := at_T73 HR0.out x5_1 p168 q168
     have hw168_4 := hx168_4
     have hw168_3 := hx168_3
     have hw168_2 := hx168_2
     have hw168_1 := hx168_1
     have hw168_0 := hx168_0
     cases e168
     obtain ⟨hx168_0, hx168_1, hx168_2, hx168_3, hx168_4⟩ := hb5 HB.out hx168_0 hx168_1 hx168_2 hx168_3 hx168_4
     replace p168 := eq_true p168
     replace q168 := eq_true q168
     have p169 : 0 ≤ (x5_1 : Int) := ode
     have q169 : x5_1 < (l1.length : Int) := ode
     obtain ⟨ad169, e169, hx169_0, hx169_1, hx169_2, hx169_3, hx169_4⟩ := at_T73 HR1.out x5_1 p169 q169
     have hw169_4 := hx169_4
     have hw169_3 := hx169_3
     have hw169_2 := hx169_2
     have hw169_1 := hx169_1
     have hw169_0 := hx169_0
     cases e169
     obtain ⟨hx169_0, hx169_1, hx169_2, hx169_3, hx169_4⟩ := hb5 HB.out hx169_0 hx169_1 hx169_2 hx169_3 hx169_4
     replace p169 := eq_true p169
     replace q169 := eq_true q169
     refine start_ (n := 10) (S := fun w' => w'.cell? (ad168.add ((x5_1).toNat * 5)) = some (.int .i64 ((rd_T73 l0 x5_1).f0)) ∧ w'.cell? ⟨(ad168.add ((x5_1).toNat * 5)).block, (ad168.add ((x5_1).toNat * 5)).off + 1, none⟩ = some (.string ((rd_T73 l0 x5_1).f1)) ∧ w'.cell? ⟨(ad168.add ((x5_1).toNat * 5)).block, (ad168.add ((x5_1).toNat * 5)).off + 2, none⟩ = some (.string ((rd_T73 l0 x5_1).f2)) ∧ w'.cell? ⟨(ad168.add ((x5_1).toNat * 5)).block, (ad168.add ((x5_1).toNat * 5)).off + 3, none⟩ = some (.int .i64 ((rd_T73 l0 x5_1).f3)) ∧ w'.cell? ⟨(ad168.add ((x5_1).toNat * 5)).block, (ad168.add ((x5_1).toNat * 5)).off + 4, none⟩ = some (.int .i64 ((rd_T73 l0 x5_1).f4)) ∧ w'.cell? (ad169.add ((x5_1).toNat * 5)) = some (.int .i64 ((rd_T73 l1 x5_1).f0)) ∧ w'.cell? ⟨(ad169.add ((x5_1).toNat * 5)).block, (ad169.add ((x5_1).toNat * 5)).off + 1, none⟩ = some (.string ((rd_T73 l1 x5_1).f1)) ∧ w'.cell? ⟨(ad169.add ((x5_1).toNat * 5)).block, (ad169.add ((x5_1).toNat * 5)).off + 2, none⟩ = some (.string ((rd_T73 l1 x5_1).f2)) ∧ w'.cell? ⟨(ad169.add ((x5_1).toNat * 5)).block, (ad169.add ((x5_1).toNat * 5)).off + 3, none⟩ = some (.int .i64 ((rd_T73 l1 x5_1).f3)) ∧ w'.cell? ⟨(ad169.add ((x5_1).toNat * 5)).block, (ad169.add ((x5_1).toNat * 5)).off + 4, none⟩ = some (.int .i64 ((rd_T73 l1 x5_1).f4))) (ds := []) #[F_, F_, F_, F_, F_, F_, F_, F_, F_, F_] (by kernel_rfl) rfl rfl ⟨(hbc HB.out hw168_0), (hbc HB.out hw168_1), (hbc HB.out hw168_2), (hbc HB.out hw168_3), (hbc HB.out hw168_4), (hbc HB.out hw169_0), (hbc HB.out hw169_1), (hbc HB.out hw169_2), (hbc HB.out hw169_3), (hbc HB.out hw169_4)⟩ (fun hHeld => ?_); refine with_tabW laws_eqNodeS.tab6 laws_eqNodeS.bits6 (fun HT_ HW_ => ?_)
     generalize wr.drew = w11 at HB hx168_0 hx168_1 hx168_2 hx168_3 hx168_4 hx169_0 hx169_1 hx169_2 hx169_3 hx169_4 hHeld ⊢
     refine pv 0 17 ?_
     refine pv 1 18 ?_
     refine pv 2 19 ?_
     refine pv 4 21 ?_
     refine pv 5 22 ?_
     refine pv 6 23 ?_
     refine tv10 3 20 hHeld ?_
     refine tv10 7 24 hHeld ?_
     refine ov 8 25 (fun K hK => ?_)
     refine gk Tryz.func139 (laws_eqNode.calls _ _ _ _ _ _ _ _ _ _ _ _ A7.out) ?_
     rintro e w12 ⟨rfl, hb⟩
     refine ⟨_, rfl, ?_⟩
     have n0_ := am (below_step bl hb)
     clear HB
     have HB := n0_
     clear n0_
     skip
     skip
     skip
     skip
     refine hK.out _ _ ⟨(hbc HB.out hw168_0), (hbc HB.out hw168_1), (hbc HB.out hw168_2), (hbc HB.out hw168_3), (hbc HB.out hw168_4), (hbc HB.out hw169_0), (hbc HB.out hw169_1), (hbc HB.out hw169_2), (hbc HB.out hw169_3), (hbc HB.out hw169_4)⟩ (fun hHeld => ?_)
     clear hK K
     refine norm_ (a' := ?_) ?_ ?_
     rotate_left
     ·show Act.put _ (some 25) _ = _
      simp only [Act.put, z1, z2, z3, i64_w, i32_w]
      rfl
     refine pv 9 26 ?_
     refine done_ (done_of HT_.out (by kernel_rfl)) ?_
     try go_wp2
     go_ret
     exact ⟨er, bl⟩
    obtain rfl := Option.some.inj H
    go_wp2
    go_ret
    exact ⟨er, bl⟩
 have c3b2 : (l0.length == l1.length) = false := by first | simpa using c3 | (simp at c3 ⊢; omega)
 obtain rfl := Option.some.inj H
 go_enter Tryz.func73, Tryz.ntmps73
 go_wp2
 go_ret
 exact ⟨er, bl⟩

/-! ### laws_eqProduct: function 17 -/
/-- Two products that are alike (another answer is not served). -/
def laws_eqProduct.f (k : Nat) (a0_0 : ByteArray) (a0_1 : Int) (l0_2 : List ByteArray) (l0_3 : List ByteArray) (l0_4 : List (S75)) (l0_5 : List (S73)) (l0_6 : List (S73)) (l0_7 : List (S73)) (a1_0 : ByteArray) (a1_1 : Int) (l1_2 : List ByteArray) (l1_3 : List ByteArray) (l1_4 : List (S75)) (l1_5 : List (S73)) (l1_6 : List (S73)) (l1_7 : List (S73)) : Option Bool := if a0_0.toList = a1_0.toList then (if a0_1 = a1_1 then ((laws_eqStringS.f k l0_2 l1_2).bind fun t0 => (if t0 = true then ((laws_eqStringS.f k l0_3 l1_3).bind fun t1 => (if t1 = true then ((laws_eqParamS.f k l0_4 l1_4).bind fun t2 => (if t2 = true then ((laws_eqNodeS.f k l0_5 l1_5).bind fun t3 => (if t3 = true then ((laws_eqNodeS.f k l0_6 l1_6).bind fun t4 => (if t4 = true then ((laws_eqNodeS.f k l0_7 l1_7).bind fun t5 => (if t5 = true then (some true) else none)) else none)) else none)) else none)) else none)) else none)) else none) else none
theorem laws_eqProduct.mono : ∀ x0 x1 x2 x3 x4 x5 x6 x7 x8 x9 x10 x11 x12 x13 x14 x15 k, LeO (laws_eqProduct.f k x0 x1 x2 x3 x4 x5 x6 x7 x8 x9 x10 x11 x12 x13 x14 x15) (laws_eqProduct.f (k + 1) x0 x1 x2 x3 x4 x5 x6 x7 x8 x9 x10 x11 x12 x13 x14 x15) := by
 intro x0 x1 x2 x3 x4 x5 x6 x7 x8 x9 x10 x11 x12 x13 x14 x15 k
 unfold laws_eqProduct.f
 repeat' (with_reducible first | exact laws_eqNodeS.mono .. | exact laws_eqParamS.mono .. | exact laws_eqStringS.mono .. | exact LeO.refl _ | exact LeO.none _ | refine LeO.ite ?_ ?_ | refine LeO.bind ?_ (fun _ => ?_))
theorem laws_eqProduct.told {k : Nat} {a0_0 : ByteArray} {a0_1 : Int} {l0_2 : List ByteArray} {l0_3 : List ByteArray} {l0_4 : List (S75)} {l0_5 : List (S73)} {l0_6 : List (S73)} {l0_7 : List (S73)} {a1_0 : ByteArray} {a1_1 : Int} {l1_2 : List ByteArray} {l1_3 : List ByteArray} {l1_4 : List (S75)} {l1_5 : List (S73)} {l1_6 : List (S73)} {l1_7 : List (S73)} {r : Bool} (h : laws_eqProduct.f k a0_0 a0_1 l0_2 l0_3 l0_4 l0_5 l0_6 l0_7 a1_0 a1_1 l1_2 l1_3 l1_4 l1_5 l1_6 l1_7 = some r) : r = true ∧ a0_0 = a1_0 ∧ a0_1 = a1_1 ∧ laws_eqStringS.f k l0_2 l1_2 = some true ∧ laws_eqStringS.f k l0_3 l1_3 = some true ∧ laws_eqParamS.f k l0_4 l1_4 = some true ∧ laws_eqNodeS.f k l0_5 l1_5 = some true ∧ laws_eqNodeS.f k l0_6 l1_6 = some true ∧ laws_eqNodeS.f k l0_7 l1_7 = some true := by
 unfold laws_eqProduct.f at h
 by_cases c0 : a0_0.toList = a1_0.toList
 ·rw [if_pos c0] at h
  by_cases c1 : a0_1 = a1_1
  ·rw [if_pos c1] at h
   obtain ⟨t0, e0, h⟩ := Option.bind_eq_some_iff.mp h
   cases t0 with
   | false => rw [if_neg (by decide)] at h; cases h
   | true =>
   rw [if_pos rfl] at h
   obtain ⟨t1, e1, h⟩ := Option.bind_eq_some_iff.mp h
   cases t1 with
   | false => rw [if_neg (by decide)] at h; cases h
   | true =>
   rw [if_pos rfl] at h
   obtain ⟨t2, e2, h⟩ := Option.bind_eq_some_iff.mp h
   cases t2 with
   | false => rw [if_neg (by decide)] at h; cases h
   | true =>
   rw [if_pos rfl] at h
   obtain ⟨t3, e3, h⟩ := Option.bind_eq_some_iff.mp h
   cases t3 with
   | false => rw [if_neg (by decide)] at h; cases h
   | true =>
   rw [if_pos rfl] at h
   obtain ⟨t4, e4, h⟩ := Option.bind_eq_some_iff.mp h
   cases t4 with
   | false => rw [if_neg (by decide)] at h; cases h
   | true =>
   rw [if_pos rfl] at h
   obtain ⟨t5, e5, h⟩ := Option.bind_eq_some_iff.mp h
   cases t5 with
   | false => rw [if_neg (by decide)] at h; cases h
   | true =>
   rw [if_pos rfl] at h
   refine ⟨(Option.some.inj h).symm, ?_, c1, e0, e1, e2, e3, e4, e5⟩
   rw [Lib.toList_data, Lib.toList_data] at c0
   cases a0_0; cases a1_0
   simp only at c0
   rw [Array.toList_inj.1 c0]
  rw [if_neg c1] at h; cases h
 rw [if_neg c0] at h; cases h
theorem laws_eqProduct.fst (w : World) (o o' : Obj) : ((w.alloc o).alloc o').heap[w.heap.size]? = some o := by
 rw [Below.heap_alloc _ _ _ (by show _ < (w.heap.push _).size; simp)]
 show (w.heap.push _)[w.heap.size]? = _
 simp
theorem laws_eqProduct.snd (w : World) (o o' : Obj) : ((w.alloc o).alloc o').heap[w.heap.size + 1]? = some o' := by
 show ((w.heap.push o).push o')[w.heap.size + 1]? = _
 rw [show w.heap.size + 1 = (w.heap.push o).size by simp, Array.getElem?_push, if_pos rfl]
theorem laws_eqProduct.cells {w : World} {g : Nat} {t : TypeId} {v0 v1 v2 v3 v4 v5 v6 v7 : Value} (h : w.heap[g]? = some (.cells #[v0, v1, v2, v3, v4, v5, v6, v7] t (0, 0))) : w.cell? ⟨g, 0, none⟩ = some v0 ∧ w.cell? ⟨g, 1, none⟩ = some v1 ∧ w.cell? ⟨g, 2, none⟩ = some v2 ∧ w.cell? ⟨g, 3, none⟩ = some v3 ∧ w.cell? ⟨g, 4, none⟩ = some v4 ∧ w.cell? ⟨g, 5, none⟩ = some v5 ∧ w.cell? ⟨g, 6, none⟩ = some v6 ∧ w.cell? ⟨g, 7, none⟩ = some v7 := ⟨(blk_cell h 0).trans rfl, (blk_cell h 1).trans rfl, (blk_cell h 2).trans rfl, (blk_cell h 3).trans rfl, (blk_cell h 4).trans rfl, (blk_cell h 5).trans rfl, (blk_cell h 6).trans rfl, (blk_cell h 7).trans rfl⟩
theorem laws_eqProduct.calls (k : Nat) (a0_0 : ByteArray) (a0_1 : Int) (A0_2 : Option Addr) (c0_2 : Nat) (l0_2 : List ByteArray) (A0_3 : Option Addr) (c0_3 : Nat) (l0_3 : List ByteArray) (A0_4 : Option Addr) (c0_4 : Nat) (l0_4 : List (S75)) (A0_5 : Option Addr) (c0_5 : Nat) (l0_5 : List (S73)) (A0_6 : Option Addr) (c0_6 : Nat) (l0_6 : List (S73)) (A0_7 : Option Addr) (c0_7 : Nat) (l0_7 : List (S73)) (a1_0 : ByteArray) (a1_1 : Int) (A1_2 : Option Addr) (c1_2 : Nat) (l1_2 : List ByteArray) (A1_3 : Option Addr) (c1_3 : Nat) (l1_3 : List ByteArray) (A1_4 : Option Addr) (c1_4 : Nat) (l1_4 : List (S75)) (A1_5 : Option Addr) (c1_5 : Nat) (l1_5 : List (S73)) (A1_6 : Option Addr) (c1_6 : Nat) (l1_6 : List (S73)) (A1_7 : Option Addr) (c1_7 : Nat) (l1_7 : List (S73)) (r : Bool) (w : World) (hr0_2 : Kd.C Kd.string w A0_2 l0_2.length l0_2) (hc0_2 : l0_2.length ≤ c0_2) (hr0_3 : Kd.C Kd.string w A0_3 l0_3.length l0_3) (hc0_3 : l0_3.length ≤ c0_3) (hr0_4 : Kd.C k75 w A0_4 l0_4.length l0_4) (hc0_4 : l0_4.length ≤ c0_4) (hr0_5 : Kd.C k73 w A0_5 l0_5.length l0_5) (hc0_5 : l0_5.length ≤ c0_5) (hr0_6 : Kd.C k73 w A0_6 l0_6.length l0_6) (hc0_6 : l0_6.length ≤ c0_6) (hr0_7 : Kd.C k73 w A0_7 l0_7.length l0_7) (hc0_7 : l0_7.length ≤ c0_7) (hr1_2 : Kd.C Kd.string w A1_2 l1_2.length l1_2) (hc1_2 : l1_2.length ≤ c1_2) (hr1_3 : Kd.C Kd.string w A1_3 l1_3.length l1_3) (hc1_3 : l1_3.length ≤ c1_3) (hr1_4 : Kd.C k75 w A1_4 l1_4.length l1_4) (hc1_4 : l1_4.length ≤ c1_4) (hr1_5 : Kd.C k73 w A1_5 l1_5.length l1_5) (hc1_5 : l1_5.length ≤ c1_5) (hr1_6 : Kd.C k73 w A1_6 l1_6.length l1_6) (hc1_6 : l1_6.length ≤ c1_6) (hr1_7 : Kd.C k73 w A1_7 l1_7.length l1_7) (hc1_7 : l1_7.length ≤ c1_7) (h : laws_eqProduct.f k a0_0 a0_1 l0_2 l0_3 l0_4 l0_5 l0_6 l0_7 a1_0 a1_1 l1_2 l1_3 l1_4 l1_5 l1_6 l1_7 = some r) :
  Calls Tryz.prog 17 #[.agg #[.string a0_0, .int .i64 a0_1, .slice A0_2 l0_2.length c0_2, .slice A0_3 l0_3.length c0_3, .slice A0_4 l0_4.length c0_4, .slice A0_5 l0_5.length c0_5, .slice A0_6 l0_6.length c0_6, .slice A0_7 l0_7.length c0_7], .agg #[.string a1_0, .int .i64 a1_1, .slice A1_2 l1_2.length c1_2, .slice A1_3 l1_3.length c1_3, .slice A1_4 l1_4.length c1_4, .slice A1_5 l1_5.length c1_5, .slice A1_6 l1_6.length c1_6, .slice A1_7 l1_7.length c1_7]] w fun e w' => e = .returned (.bool r) ∧ Below w.heap.size w w' := by
 obtain ⟨rfl, rfl, rfl, e0, e1, e2, e3, e4, e5⟩ := laws_eqProduct.told h
 clear h
 have q0 := fun W (hb : Below w.heap.size w W) => laws_eqStringS.calls k A0_2 c0_2 l0_2 A1_2 c1_2 l1_2 true W (Kd.C_below hr0_2 hb) hc0_2 (Kd.C_below hr1_2 hb) hc1_2 e0
 have q1 := fun W (hb : Below w.heap.size w W) => laws_eqStringS.calls k A0_3 c0_3 l0_3 A1_3 c1_3 l1_3 true W (Kd.C_below hr0_3 hb) hc0_3 (Kd.C_below hr1_3 hb) hc1_3 e1
 have q2 := fun W (hb : Below w.heap.size w W) => laws_eqParamS.calls k A0_4 c0_4 l0_4 A1_4 c1_4 l1_4 true W (Kd.C_below hr0_4 hb) hc0_4 (Kd.C_below hr1_4 hb) hc1_4 e2
 have q3 := fun W (hb : Below w.heap.size w W) => laws_eqNodeS.calls k A0_5 c0_5 l0_5 A1_5 c1_5 l1_5 true W (Kd.C_below hr0_5 hb) hc0_5 (Kd.C_below hr1_5 hb) hc1_5 e3
 have q4 := fun W (hb : Below w.heap.size w W) => laws_eqNodeS.calls k A0_6 c0_6 l0_6 A1_6 c1_6 l1_6 true W (Kd.C_below hr0_6 hb) hc0_6 (Kd.C_below hr1_6 hb) hc1_6 e4
 have q5 := fun W (hb : Below w.heap.size w W) => laws_eqNodeS.calls k A0_7 c0_7 l0_7 A1_7 c1_7 l1_7 true W (Kd.C_below hr0_7 hb) hc0_7 (Kd.C_below hr1_7 hb) hc1_7 e5
 have hu := Tryz.underlying32
 have Q1 : ∀ {X W : World}, Below X.heap.size X W → Below w.heap.size w X → Below w.heap.size w W := fun a b => b.trans (a.mono (below_size b))
 clear hr0_2 hc0_2 hr0_3 hc0_3 hr0_4 hc0_4 hr0_5 hc0_5 hr0_6 hc0_6 hr0_7 hc0_7 hr1_2 hc1_2 hr1_3 hc1_3 hr1_4 hc1_4 hr1_5 hc1_5 hr1_6 hc1_6 hr1_7 hc1_7 e0 e1 e2 e3 e4 e5
 go_enter Tryz.func17, Tryz.ntmps17
 go_wp2_with (first | (go_at_call 71; (with_reducible first | refine (q0 _ ?hbl).mono ?_ | refine (q1 _ ?hbl).mono ?_); (case hbl => (repeat (first | exact HB.out | exact Below.refl _ _ | apply below_alloc | apply pw_below_drewN | apply below_drew))); rintro e w1 ⟨rfl, hd⟩; obtain ⟨nd, rfl⟩ := hd.out) | (go_at_call 72; (with_reducible refine (q2 _ ?hbl).mono ?_); (case hbl => (repeat (first | exact HB.out | exact Below.refl _ _ | apply below_alloc | apply pw_below_drewN | apply below_drew))); rintro e w1 ⟨rfl, hb⟩; have n1 := blk_below (g := w.heap.size) (by (with_reducible repeat (first | refine blk_drewN ?_ _ | refine blk_drew ?_)); first | exact B1.out | exact laws_eqProduct.fst _ _ _) hb; have n2 := blk_below (g := w.heap.size + 1) (by (with_reducible repeat (first | refine blk_drewN ?_ _ | refine blk_drew ?_)); first | exact B2.out | exact laws_eqProduct.snd _ _ _) hb; have n3 := am (Q1 hb (by repeat (first | exact HB.out | exact Below.refl _ _ | apply below_alloc | apply pw_below_drewN | apply below_drew))); (try clear B1 B2 HB); (try clear z0 z1 z2 z3 z4 z5 z6 z7); (try clear y0 y1 y2 y3 y4 y5 y6 y7); obtain ⟨z0, z1, z2, z3, z4, z5, z6, z7⟩ := laws_eqProduct.cells n1; obtain ⟨y0, y1, y2, y3, y4, y5, y6, y7⟩ := laws_eqProduct.cells n2; have B1 := Aside0.mk n1; have B2 := Aside0.mk n2; have HB := n3; clear n1 n2 n3 hb) | (go_at_call 73; (with_reducible first | refine (q3 _ ?hbl).mono ?_ | refine (q4 _ ?hbl).mono ?_ | refine (q5 _ ?hbl).mono ?_); (case hbl => (repeat (first | exact HB.out | exact Below.refl _ _ | apply below_alloc | apply pw_below_drewN | apply below_drew))); rintro e w1 ⟨rfl, hb⟩; have n1 := blk_below (g := w.heap.size) (by (with_reducible repeat (first | refine blk_drewN ?_ _ | refine blk_drew ?_)); first | exact B1.out | exact laws_eqProduct.fst _ _ _) hb; have n2 := blk_below (g := w.heap.size + 1) (by (with_reducible repeat (first | refine blk_drewN ?_ _ | refine blk_drew ?_)); first | exact B2.out | exact laws_eqProduct.snd _ _ _) hb; have n3 := am (Q1 hb (by repeat (first | exact HB.out | exact Below.refl _ _ | apply below_alloc | apply pw_below_drewN | apply below_drew))); (try clear B1 B2 HB); (try clear z0 z1 z2 z3 z4 z5 z6 z7); (try clear y0 y1 y2 y3 y4 y5 y6 y7); obtain ⟨z0, z1, z2, z3, z4, z5, z6, z7⟩ := laws_eqProduct.cells n1; obtain ⟨y0, y1, y2, y3, y4, y5, y6, y7⟩ := laws_eqProduct.cells n2; have B1 := Aside0.mk n1; have B2 := Aside0.mk n2; have HB := n3; clear n1 n2 n3 hb))
 go_ret
 exact ⟨rfl, by repeat (first | exact HB.out | apply pw_below_drewN | apply below_drew)⟩

/-! ### laws_szInt64S: function 74 -/
def laws_szInt64S.f (l0 : List Int) (a1 : Int) : Option (Int) := if (wrap64 (a1 - (l0.length : Int))) < 0 then (some (-1)) else (some (wrap64 (a1 - (l0.length : Int))))
theorem laws_szInt64S.calls (A0 : Option Addr) (c0 : Nat) (l0 : List Int) (a1 : Int) (r : Int) (w : World) (hr0 : Kd.C (Kd.int .i64) w A0 l0.length l0) (hc0 : l0.length ≤ c0) (h : laws_szInt64S.f l0 a1 = some r) :
  Calls Tryz.prog 74 #[.slice A0 l0.length c0, .int .i64 a1] w fun e w' => e = .returned (.int .i64 r) ∧ Drawn0 w w' := by
 have HR0 := am hr0
 have HC0 := am hc0
 clear hr0 hc0
 have H := h
 clear h
 unfold laws_szInt64S.f at H
 revert H; refine iDb (fun c3b0 H => ?_) fun c3b0 H => ?_
 ·obtain rfl := Option.some.inj H
  go_enter Tryz.func74, Tryz.ntmps74
  go_wp2
  go_ret
  exact ⟨by first | rfl | (simp; done) | (simp [*]; done) | (simp [isE_bne]; done), by repeat (first | exact Drawn0.refl _ | apply Drawn0.step)⟩
 obtain rfl := Option.some.inj H
 go_enter Tryz.func74, Tryz.ntmps74
 go_wp2
 go_ret
 exact ⟨by first | rfl | (simp; done) | (simp [*]; done) | (simp [isE_bne]; done), by repeat (first | exact Drawn0.refl _ | apply Drawn0.step)⟩

/-! ### laws_szEnv: function 18 -/
def laws_szEnv.f (l0_0 : List Int) (l0_1 : List Int) (a0_2 : Int) (a0_3 : Int) (a0_4 : Int) (a0_5 : Int) (a0_6 : Int) (a1 : Int) : Option (Int) := (laws_szInt64S.f l0_0 a1).bind fun t172 => (if t172 < 0 then (some (-1)) else ((laws_szInt64S.f l0_1 t172).bind fun t173 => (if t173 < 0 then (some (-1)) else (some t173))))
theorem laws_szEnv.calls (A0_0 : Option Addr) (c0_0 : Nat) (l0_0 : List Int) (A0_1 : Option Addr) (c0_1 : Nat) (l0_1 : List Int) (a0_2 : Int) (a0_3 : Int) (a0_4 : Int) (a0_5 : Int) (a0_6 : Int) (a1 : Int) (r : Int) (w : World) (hr0_0 : Kd.C (Kd.int .i64) w A0_0 l0_0.length l0_0) (hc0_0 : l0_0.length ≤ c0_0) (hr0_1 : Kd.C (Kd.int .i64) w A0_1 l0_1.length l0_1) (hc0_1 : l0_1.length ≤ c0_1) (h : laws_szEnv.f l0_0 l0_1 a0_2 a0_3 a0_4 a0_5 a0_6 a1 = some r) :
  Calls Tryz.prog 18 #[.agg #[.slice A0_0 l0_0.length c0_0, .slice A0_1 l0_1.length c0_1, .int .i64 a0_2, .int .i64 a0_3, .int .i64 a0_4, .int .i64 a0_5, .int .i64 a0_6], .int .i64 a1] w fun e w' => e = .returned (.int .i64 r) ∧ Below w.heap.size w w' := by
 have hu38 := Tryz.underlying38
 have HR0_0 := am hr0_0
 have HC0_0 := am hc0_0
 clear hr0_0 hc0_0
 have HR0_1 := am hr0_1
 have HC0_1 := am hc0_1
 clear hr0_1 hc0_1
 have HB := am (Below.refl w.heap.size w)
 have H := h
 clear h
 unfold laws_szEnv.f at H
 revert H; refine bj fun t172 A3 H => ?_
 revert H; refine iDb (fun c4b0 H => ?_) fun c4b0 H => ?_
 ·obtain rfl := Option.some.inj H
  go_enter Tryz.func18, Tryz.ntmps18
  go_wp2_with (first | (refine bx 2 #[.slice A0_0 l0_0.length c0_0, .slice A0_1 l0_1.length c0_1, .int .i64 a0_2, .int .i64 a0_3, .int .i64 a0_4, .int .i64 a0_5, .int .i64 a0_6] 38 ?_; intro gb171 hg w5 hbox hb; have BK171 := am (hbox); have GW171 := am (bsz hg : w.heap.size ≤ gb171); have GE171 := GW171; replace HB := am (below_step bl hb); clear hb hbox hg; obtain ⟨z6_0, z6_1, z6_2, z6_3, z6_4, z6_5, z6_6, y6_0, y6_1, y6_2, y6_3, y6_4, y6_5, y6_6⟩ := blk7 BK171.out) | (refine gc 74 (some 8) Tryz.func74 (laws_szInt64S.calls _ _ _ _ _ _ ?side1 ?side2 A3.out) ?_; (case side1 => exact cb HR0_0.out); (case side2 => exact HC0_0.out); rintro e w' ⟨rfl, ⟨nd, rfl⟩⟩; refine ⟨_, rfl, ?_⟩))
  go_ret
  exact ⟨er, bl⟩
 revert H; refine bj fun t173 A7 H => ?_
 revert H; refine iDb (fun c8b0 H => ?_) fun c8b0 H => ?_
 ·obtain rfl := Option.some.inj H
  go_enter Tryz.func18, Tryz.ntmps18
  go_wp2_with (first | (refine bx 2 #[.slice A0_0 l0_0.length c0_0, .slice A0_1 l0_1.length c0_1, .int .i64 a0_2, .int .i64 a0_3, .int .i64 a0_4, .int .i64 a0_5, .int .i64 a0_6] 38 ?_; intro gb171 hg w9 hbox hb; have BK171 := am (hbox); have GW171 := am (bsz hg : w.heap.size ≤ gb171); have GE171 := GW171; replace HB := am (below_step bl hb); clear hb hbox hg; obtain ⟨z10_0, z10_1, z10_2, z10_3, z10_4, z10_5, z10_6, y10_0, y10_1, y10_2, y10_3, y10_4, y10_5, y10_6⟩ := blk7 BK171.out) | (refine gc 74 (some 8) Tryz.func74 (laws_szInt64S.calls _ _ _ _ _ _ ?side1 ?side2 A3.out) ?_; (case side1 => exact cb HR0_0.out); (case side2 => exact HC0_0.out); rintro e w' ⟨rfl, ⟨nd, rfl⟩⟩; refine ⟨_, rfl, ?_⟩) | (refine gc 74 (some 14) Tryz.func74 (laws_szInt64S.calls _ _ _ _ _ _ ?side1 ?side2 A7.out) ?_; (case side1 => exact Kd.C_below HR0_1.out bl); (case side2 => exact HC0_1.out); rintro e w' ⟨rfl, ⟨nd, rfl⟩⟩; refine ⟨_, rfl, ?_⟩))
  go_ret
  exact ⟨er, bl⟩
 obtain rfl := Option.some.inj H
 go_enter Tryz.func18, Tryz.ntmps18
 go_wp2_with (first | (refine bx 2 #[.slice A0_0 l0_0.length c0_0, .slice A0_1 l0_1.length c0_1, .int .i64 a0_2, .int .i64 a0_3, .int .i64 a0_4, .int .i64 a0_5, .int .i64 a0_6] 38 ?_; intro gb171 hg w11 hbox hb; have BK171 := am (hbox); have GW171 := am (bsz hg : w.heap.size ≤ gb171); have GE171 := GW171; replace HB := am (below_step bl hb); clear hb hbox hg; obtain ⟨z12_0, z12_1, z12_2, z12_3, z12_4, z12_5, z12_6, y12_0, y12_1, y12_2, y12_3, y12_4, y12_5, y12_6⟩ := blk7 BK171.out) | (refine gc 74 (some 8) Tryz.func74 (laws_szInt64S.calls _ _ _ _ _ _ ?side1 ?side2 A3.out) ?_; (case side1 => exact cb HR0_0.out); (case side2 => exact HC0_0.out); rintro e w' ⟨rfl, ⟨nd, rfl⟩⟩; refine ⟨_, rfl, ?_⟩) | (refine gc 74 (some 14) Tryz.func74 (laws_szInt64S.calls _ _ _ _ _ _ ?side1 ?side2 A7.out) ?_; (case side1 => exact Kd.C_below HR0_1.out bl); (case side2 => exact HC0_1.out); rintro e w' ⟨rfl, ⟨nd, rfl⟩⟩; refine ⟨_, rfl, ?_⟩))
 go_ret
 exact ⟨er, bl⟩

end Go.Proofs.YtodokfmmnihecaaGreatDoor.PFnExactEnvRight
