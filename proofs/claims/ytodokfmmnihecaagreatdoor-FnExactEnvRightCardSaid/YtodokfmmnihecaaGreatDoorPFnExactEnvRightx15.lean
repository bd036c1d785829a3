-- laid by seedprint.py, a program of this session, over contracts that it gives by hand; Lean checks it
-- dented
import Derived.Test.YtodokfmmnihecaaGreatDoorQMin
import Derived.Test.YtodokfmmnihecaaGreatDoorQAut
import Derived.Test.YtodokfmmnihecaaGreatDoorQBlk
import Derived.Test.YtodokfmmnihecaaGreatDoorPFnExactEnvRightx0
import Derived.Test.YtodokfmmnihecaaGreatDoorPFnExactEnvRightx11
import Derived.Test.YtodokfmmnihecaaGreatDoorPFnExactEnvRightx13
namespace Go.Proofs.YtodokfmmnihecaaGreatDoor.PFnExactEnvRight
open Go.RowKit Go.Proofs.YtodokfmmnihecaaGreatDoorW.PrintWords Go.Proofs.YtodokfmmnihecaaGreatDoorW.PrintLast Go.Proofs.YtodokfmmnihecaaGreatDoorW.PrintMore
attribute [local go_sem] max2_int min2_int max_two min_two max_three min_three max_four min_four   -- for this text's walks alone
set_option linter.unusedVariables false
set_option linter.unusedSimpArgs false

/-! ### impl_tree_isStatement: function 137 -/
def impl_tree_isStatement.j0 (KF : Int → ByteArray → ByteArray → Int → Int → Int → List (S161) → Int → ByteArray → Option (Bool)) : Nat → Bool → Bool → Bool → ByteArray → Int → Bool → Int → ByteArray → ByteArray → Int → Int → Int → List (S161) → Int → Option (Bool)
 | 0, _, _, _, _, _, _, _, _, _, _, _, _, _, _ => none
 | k + 1, x3, x4, x5, x6, x21, x22, x358000, x358001, x358002, x358003, x358004, x358005, x358006, x358007 => if x22 = true then ((impl_isFree.f x358001).bind fun t358 => (if t358 = true then (if x4 = true then (if x5 = true then ((KF x358000 x358001 x358002 x358003 x358004 x358005 x358006 x358007 x6).bind fun t359 => (some t359)) else (some false)) else (some false)) else (some false))) else (if x21 = 22 then (if x3 = true then (if x4 = true then (if x5 = true then ((KF x358000 x358001 x358002 x358003 x358004 x358005 x358006 x358007 (⟨#[101, 98, 98]⟩ : ByteArray)).bind fun t360 => (some t360)) else (some false)) else (some false)) else (some false)) else (if x21 = 23 then ((impl_isFree.f x358001).bind fun t361 => ((impl_isFree.f x358002).bind fun t362 => (if t361 = true then (if t362 = true then (if x5 = true then ((KF x358000 x358001 x358002 x358003 x358004 x358005 x358006 x358007 x6).bind fun t363 => (some t363)) else (some false)) else (some false)) else (some false)))) else (if x21 = 24 then ((impl_in.f x358003 1 99).bind fun t364 => (if x3 = true then (if x4 = true then (if t364 = true then ((KF x358000 x358001 x358002 x358003 x358004 x358005 x358006 x358007 (⟨#[]⟩ : ByteArray)).bind fun t365 => (some t365)) else (some false)) else (some false)) else (some false))) else (if x21 = 25 then (if x3 = true then (if x4 = true then (if x5 = true then ((KF x358000 x358001 x358002 x358003 x358004 x358005 x358006 x358007 x6).bind fun t366 => (some t366)) else (some false)) else (some false)) else (some false)) else (if x21 = 26 then (if x3 = true then (if x4 = true then (if x5 = true then ((KF x358000 x358001 x358002 x358003 x358004 x358005 x358006 x358007 (⟨#[101, 98]⟩ : ByteArray)).bind fun t367 => (some t367)) else (some false)) else (some false)) else (some false)) else (if x21 = 27 then (if (x358006.length : Int) > 40 then (some false) else ((strings_Repeat.f (⟨#[115]⟩ : ByteArray) (x358006.length : Int)).bind fun t368 => (if x3 = true then (if x4 = true then (if x5 = true then ((KF x358000 x358001 x358002 x358003 x358004 x358005 x358006 x358007 t368).bind fun t369 => (some t369)) else (some false)) else (some false)) else (some false)))) else (some false)))))))
def impl_tree_isStatement.f (KF : Int → ByteArray → ByteArray → Int → Int → Int → List (S161) → Int → ByteArray → Option (Bool)) (k : Nat) (a0_0 : Int) (a0_1 : ByteArray) (a0_2 : ByteArray) (a0_3 : Int) (a0_4 : Int) (a0_5 : Int) (l0_6 : List (S161)) (a0_7 : Int) : Option (Bool) := if a0_0 = 20 then (impl_tree_isStatement.j0 KF k (a0_1.toList == ([] : List UInt8)) (a0_2.toList == ([] : List UInt8)) (a0_3 == 0) (⟨#[101]⟩ : ByteArray) a0_0 (a0_0 == 20) a0_0 a0_1 a0_2 a0_3 a0_4 a0_5 l0_6 a0_7) else (impl_tree_isStatement.j0 KF k (a0_1.toList == ([] : List UInt8)) (a0_2.toList == ([] : List UInt8)) (a0_3 == 0) (⟨#[101]⟩ : ByteArray) a0_0 (a0_0 == 21) a0_0 a0_1 a0_2 a0_3 a0_4 a0_5 l0_6 a0_7)
theorem impl_tree_isStatement.mono_l (KF KF' : Int → ByteArray → ByteArray → Int → Int → Int → List (S161) → Int → ByteArray → Option (Bool)) (hK : ∀ y0 y1 y2 y3 y4 y5 y6 y7 y8, LeO (KF y0 y1 y2 y3 y4 y5 y6 y7 y8) (KF' y0 y1 y2 y3 y4 y5 y6 y7 y8)) : ∀ k, (∀ y0 y1 y2 y3 y4 y5 y6 y7 y8 y9 y10 y11 y12 y13, LeO (impl_tree_isStatement.j0 KF k y0 y1 y2 y3 y4 y5 y6 y7 y8 y9 y10 y11 y12 y13) (impl_tree_isStatement.j0 KF' (k + 1) y0 y1 y2 y3 y4 y5 y6 y7 y8 y9 y10 y11 y12 y13))
 | 0 => fun _ _ _ _ _ _ _ _ _ _ _ _ _ _ r h => by simp [impl_tree_isStatement.j0] at h
 | k + 1 => by
  have ih0 := impl_tree_isStatement.mono_l KF KF' hK k
  ·intro y0 y1 y2 y3 y4 y5 y6 y7 y8 y9 y10 y11 y12 y13
   unfold impl_tree_isStatement.j0
   repeat' first
   | (with_reducible exact ih0 _ _ _ _ _ _ _ _ _ _ _ _ _ _)
   | (with_reducible exact hK _ _ _ _ _ _ _ _ _)
   | (with_reducible exact LeO.refl _)
   | (with_reducible exact LeO.none _)
   | (with_reducible refine LeO.ite ?_ ?_)
   | (with_reducible refine LeO.bind ?_ (fun _ => ?_))
   | exact ih0 _ _ _ _ _ _ _ _ _ _ _ _ _ _
   | exact hK _ _ _ _ _ _ _ _ _
   | exact LeO.none _
   | refine LeO.ite ?_ ?_
   | refine LeO.bind ?_ (fun _ => ?_)
theorem impl_tree_isStatement.mono (KF KF' : Int → ByteArray → ByteArray → Int → Int → Int → List (S161) → Int → ByteArray → Option (Bool)) (hK : ∀ y0 y1 y2 y3 y4 y5 y6 y7 y8, LeO (KF y0 y1 y2 y3 y4 y5 y6 y7 y8) (KF' y0 y1 y2 y3 y4 y5 y6 y7 y8)) : ∀ a0 a1 a2 a3 a4 a5 a6 a7 k, LeO (impl_tree_isStatement.f KF k a0 a1 a2 a3 a4 a5 a6 a7) (impl_tree_isStatement.f KF' (k + 1) a0 a1 a2 a3 a4 a5 a6 a7) := by
 intro a0 a1 a2 a3 a4 a5 a6 a7 k
 have ih0 := impl_tree_isStatement.mono_l KF KF' hK k
 unfold impl_tree_isStatement.f
 repeat' first
   | (with_reducible exact ih0 _ _ _ _ _ _ _ _ _ _ _ _ _ _)
   | (with_reducible exact hK _ _ _ _ _ _ _ _ _)
   | (with_reducible exact LeO.refl _)
   | (with_reducible exact LeO.none _)
   | (with_reducible refine LeO.ite ?_ ?_)
   | (with_reducible refine LeO.bind ?_ (fun _ => ?_))
   | exact ih0 _ _ _ _ _ _ _ _ _ _ _ _ _ _
   | exact hK _ _ _ _ _ _ _ _ _
   | exact LeO.none _
   | refine LeO.ite ?_ ?_
   | refine LeO.bind ?_ (fun _ => ?_)
def impl_tree_isStatement.T1 : Bool × List (List Nat × List Nat) := (true, [([], []), ([0], [0]), ([1], [1]), ([2], [2]), ([], []), ([4], [4]), ([5], [5]), ([6], [6]), ([], []), ([8], [8]), ([9], [9]), ([10], [10]), ([3, 0, 1, 2, 3], [3]), ([7, 12, 0, 1, 2, 3, 4, 5, 6, 7, 12], [7]), ([11, 13, 0, 1, 2, 3, 4, 5, 6, 7, 8, 9, 10, 11, 12, 13], [11])])
def impl_tree_isStatement.B1 : List Nat := [0, 1, 3, 7, 0, 16, 48, 112, 0, 256, 768, 1792, 15, 4351, 16383]
theorem impl_tree_isStatement.tab1 : rtab .any (opsOf Tryz.f137 1) = impl_tree_isStatement.T1 := by kernel_rfl
theorem impl_tree_isStatement.bits1 : waitsOk impl_tree_isStatement.T1.2 impl_tree_isStatement.B1 = true := by kernel_rfl
def impl_tree_isStatement.T11 : Bool × List (List Nat × List Nat) := (true, [([], []), ([0], [0]), ([1], [1]), ([2], [2]), ([], []), ([4], [4]), ([5], [5]), ([6, 3], [6]), ([3, 7, 0, 1, 2, 3], [3]), ([7, 8, 0, 1, 2, 3, 4, 5, 6, 7, 8], [7])])
def impl_tree_isStatement.B11 : List Nat := [0, 1, 3, 7, 0, 16, 48, 127, 255, 511]
theorem impl_tree_isStatement.tab11 : rtab .any (opsOf Tryz.f137 11) = impl_tree_isStatement.T11 := by kernel_rfl
theorem impl_tree_isStatement.bits11 : waitsOk impl_tree_isStatement.T11.2 impl_tree_isStatement.B11 = true := by kernel_rfl
set_option maxHeartbeats 8000000 in
set_option maxRecDepth 100000 in
theorem impl_tree_isStatement.calls (KK : impl_tree_kidsAre.HK) (k : Nat) (a0_0 : Int) (a0_1 : ByteArray) (a0_2 : ByteArray) (a0_3 : Int) (a0_4 : Int) (a0_5 : Int) (A0_6 : Option Addr) (c0_6 : Nat) (l0_6 : List (S161)) (a0_7 : Int) (r : Bool) (w : World) (hr0_6 : Kd.C k161 w A0_6 l0_6.length l0_6) (hc0_6 : l0_6.length ≤ c0_6) (hsh : Sh w) (h : impl_tree_isStatement.f KK.f k a0_0 a0_1 a0_2 a0_3 a0_4 a0_5 l0_6 a0_7 = some r) :
  Calls Tryz.prog 137 #[.agg #[.int .i64 a0_0, .string a0_1, .string a0_2, .int .i64 a0_3, .int .i64 a0_4, .int .i64 a0_5, .slice A0_6 l0_6.length c0_6, .int .i64 a0_7]] w fun e w' => e = .returned (.bool r) ∧ Below w.heap.size w w' := by
 have hu161 := Tryz.underlying161
 have HR0_6 := am hr0_6
 have HC0_6 := am hc0_6
 clear hr0_6 hc0_6
 have HSH := am hsh; clear hsh
 have HB := am (Below.refl w.heap.size w)
 have H := h
 clear h
 unfold impl_tree_isStatement.f at H
 have HC2 := am H; clear H
 go_enter Tryz.func137, Tryz.ntmps137
 try go_wp2_with (first | (refine bx 1 #[.int .i64 a0_0, .string a0_1, .string a0_2, .int .i64 a0_3, .int .i64 a0_4, .int .i64 a0_5, .slice A0_6 l0_6.length c0_6, .int .i64 a0_7] 161 ?_; intro gb357 hg w3 hbox hb; have BK357 := am (hbox); have GW357 := am (bsz hg : w.heap.size ≤ gb357); have GE357 := GW357; replace HB := am (below_step bl hb); clear hb hbox hg))
 have n0_ := am (blk_drew BK357.out)
 have n1_ := am (below_drew1 HB.out)
 clear BK357
 clear HB
 have BK357 := n0_
 have HB := n1_
 clear n0_ n1_
 refine start_ (n := 15) (S := fun w' => w'.cell? ⟨gb357, 0, none⟩ = some (.int .i64 a0_0) ∧ w'.cell? ⟨gb357, 1, none⟩ = some (.string a0_1) ∧ w'.cell? ⟨gb357, 2, none⟩ = some (.string a0_2) ∧ w'.cell? ⟨gb357, 3, none⟩ = some (.int .i64 a0_3) ∧ w'.cell? ⟨gb357, 4, none⟩ = some (.int .i64 a0_4) ∧ w'.cell? ⟨gb357, 5, none⟩ = some (.int .i64 a0_5) ∧ w'.cell? ⟨gb357, 6, none⟩ = some (.slice A0_6 l0_6.length c0_6) ∧ w'.cell? ⟨gb357, 7, none⟩ = some (.int .i64 a0_7)) (ds := []) #[F_, F_, F_, F_, F_, F_, F_, F_, F_, F_, F_, F_, F_, F_, F_] (by kernel_rfl) rfl rfl ⟨(blk_cell BK357.out 0).trans rfl, (blk_cell BK357.out 1).trans rfl, (blk_cell BK357.out 2).trans rfl, (blk_cell BK357.out 3).trans rfl, (blk_cell BK357.out 4).trans rfl, (blk_cell BK357.out 5).trans rfl, (blk_cell BK357.out 6).trans rfl, (blk_cell BK357.out 7).trans rfl⟩ (fun hHeld => ?_); refine with_tabW impl_tree_isStatement.tab1 impl_tree_isStatement.bits1 (fun HT_ HW_ => ?_)
 generalize w3.drew = w4 at BK357 HB hHeld ⊢
 refine pv 0 7 ?_
 refine pv 1 8 ?_
 refine pv 4 11 ?_
 refine pv 5 12 ?_
 refine pv 8 15 ?_
 refine pv 9 16 ?_
 refine tv8 2 9 hHeld ?_
 refine pv 3 10 ?_
 refine pv 12 3 ?_
 refine tv8 6 13 hHeld ?_
 refine pv 7 14 ?_
 refine pv 13 4 ?_
 refine tv8 10 17 hHeld ?_
 refine pv 11 18 ?_
 refine pv 14 5 ?_
 refine done_ (done_of HT_.out (by kernel_rfl)) ?_
 obtain ⟨z5_0, z5_1, z5_2, z5_3, z5_4, z5_5, z5_6, z5_7, y5_0, y5_1, y5_2, y5_3, y5_4, y5_5, y5_6, y5_7⟩ := blk8 BK357.out
 go_upto_if 22 with (fail)
 go_cut [22] (fun v22 wc => ∃ (kq : Nat) (x22_1 : Bool), v22 = .bool x22_1 ∧ Aside0 (impl_tree_isStatement.j0 KK.f kq (a0_1.toList == ([] : List UInt8)) (a0_2.toList == ([] : List UInt8)) (a0_3 == 0) (⟨#[101]⟩ : ByteArray) a0_0 x22_1 a0_0 a0_1 a0_2 a0_3 a0_4 a0_5 l0_6 a0_7 = some r) ∧ Aside0 (kq ≤ k) ∧ Aside0 (wc.heap[gb357]? = some (.cells #[.int .i64 a0_0, .string a0_1, .string a0_2, .int .i64 a0_3, .int .i64 a0_4, .int .i64 a0_5, (.slice A0_6 l0_6.length c0_6), .int .i64 a0_7] 161 (0, 0))) ∧ Aside0 (Below w.heap.size w wc))
 case first =>
  have H := HC2.out
  clear HC2
  revert H; refine iQ (fun c6b0 c6b1 H => ?_) fun c6 c6b0 c6b1 H => ?_
  ·(first | rw [c6b0] | (simp only [i64_w, i32_w]; rw [c6b0]) | skip)
   have H' := am H; clear H
   go_wp2
   go_meet
   case rel => exact ⟨_, ((a0_0 == 20)), rs, H', ⟨by first | omega | exact Nat.le_refl _⟩, ⟨bk BK357.out⟩, ⟨bl⟩⟩
  (first | rw [c6b0] | (simp only [i64_w, i32_w]; rw [c6b0]) | skip)
  have H' := am H; clear H
  go_wp2
  go_meet
  case rel => exact ⟨_, ((a0_0 == 21)), rs, H', ⟨by first | omega | exact Nat.le_refl _⟩, ⟨bk BK357.out⟩, ⟨bl⟩⟩
 case rest => as_aux_lemma =>
  clear HC2
  try clear z5_0 z5_1 z5_2 z5_3 z5_4 z5_5 z5_6 z5_7; try clear y5_0 y5_1 y5_2 y5_3 y5_4 y5_5 y5_6 y5_7
  obtain ⟨kq, x22_1, rfl, HA, HJ1, BK357, HB⟩ := hcut
  cases kq with
  | zero => exact absurd HA.out (by simp [impl_tree_isStatement.j0])
  | succ kj1 =>
   have H := HA.out
   clear HA
   simp only [impl_tree_isStatement.j0] at H
   replace H := iT H; rcases H with ⟨rfl, H⟩ | ⟨rfl, H⟩
   ·revert H; refine bj fun t358 A8 H => ?_
    replace H := iT H; rcases H with ⟨rfl, H⟩ | ⟨rfl, H⟩
    ·revert H; refine iK (fun c10b0 c10b1 c10b3 H => ?_) fun c10b0 c10b1 c10b3 c10b3' H => ?_
     ·revert H; refine iR (fun c11b0 c11b1 H => ?_) fun c11b0 c11b1 c11b3 H => ?_
      ·revert H; refine bj fun t359 A12 H => ?_
       obtain rfl := Option.some.inj H
       obtain ⟨z13_0, z13_1, z13_2, z13_3, z13_4, z13_5, z13_6, z13_7, y13_0, y13_1, y13_2, y13_3, y13_4, y13_5, y13_6, y13_7⟩ := blk8 BK357.out
       go_wp2_with (first | (refine gc 64 (some 28) Tryz.func64 (impl_isFree.calls _ _ _ ?side1 A8.out) ?_; (case side1 => exact Sh.below HSH.out bl); rintro e w14 ⟨rfl, hb⟩; refine ⟨_, rfl, ?_⟩; replace BK357 := am (bkb BK357.out hb); replace HB := am (below_step bl hb); clear hb; obtain ⟨z15_0, z15_1, z15_2, z15_3, z15_4, z15_5, z15_6, z15_7, y15_0, y15_1, y15_2, y15_3, y15_4, y15_5, y15_6, y15_7⟩ := blk8 BK357.out) | (go_at_call 185; (with_reducible refine (KK.calls _ _ _ _ _ _ _ _ _ _ _ _ _ ?side1 ?side2 ?side3 A12.out).mono ?_); (case side1 => exact cb HR0_6.out); (case side2 => exact HC0_6.out); (case side3 => exact Sh.below HSH.out bl); rintro e w16 ⟨rfl, hb⟩; replace BK357 := am (bkb BK357.out hb); replace HB := am (below_step bl hb); clear hb))
       go_ret
       exact ⟨er, bl⟩
      obtain rfl := Option.some.inj H
      obtain ⟨z17_0, z17_1, z17_2, z17_3, z17_4, z17_5, z17_6, z17_7, y17_0, y17_1, y17_2, y17_3, y17_4, y17_5, y17_6, y17_7⟩ := blk8 BK357.out
      go_wp2_with (first | (refine gc 64 (some 28) Tryz.func64 (impl_isFree.calls _ _ _ ?side1 A8.out) ?_; (case side1 => exact Sh.below HSH.out bl); rintro e w18 ⟨rfl, hb⟩; refine ⟨_, rfl, ?_⟩; replace BK357 := am (bkb BK357.out hb); replace HB := am (below_step bl hb); clear hb))
      go_ret
      exact ⟨er, bl⟩
     obtain rfl := Option.some.inj H
     obtain ⟨z19_0, z19_1, z19_2, z19_3, z19_4, z19_5, z19_6, z19_7, y19_0, y19_1, y19_2, y19_3, y19_4, y19_5, y19_6, y19_7⟩ := blk8 BK357.out
     go_wp2_with (first | (refine gc 64 (some 28) Tryz.func64 (impl_isFree.calls _ _ _ ?side1 A8.out) ?_; (case side1 => exact Sh.below HSH.out bl); rintro e w20 ⟨rfl, hb⟩; refine ⟨_, rfl, ?_⟩; replace BK357 := am (bkb BK357.out hb); replace HB := am (below_step bl hb); clear hb))
     go_ret
     exact ⟨er, bl⟩
    obtain rfl := Option.some.inj H
    obtain ⟨z21_0, z21_1, z21_2, z21_3, z21_4, z21_5, z21_6, z21_7, y21_0, y21_1, y21_2, y21_3, y21_4, y21_5, y21_6, y21_7⟩ := blk8 BK357.out
    go_wp2_with (first | (refine gc 64 (some 28) Tryz.func64 (impl_isFree.calls _ _ _ ?side1 A8.out) ?_; (case side1 => exact Sh.below HSH.out bl); rintro e w22 ⟨rfl, hb⟩; refine ⟨_, rfl, ?_⟩; replace BK357 := am (bkb BK357.out hb); replace HB := am (below_step bl hb); clear hb))
    go_ret
    exact ⟨er, bl⟩
   revert H; refine iQ (fun c23b0 c23b1 H => ?_) fun c23 c23b0 c23b1 H => ?_
   ·revert H; refine iK (fun c24b0 c24b1 c24b3 H => ?_) fun c24b0 c24b1 c24b3 c24b3' H => ?_
    ·revert H; refine iK (fun c25b0 c25b1 c25b3 H => ?_) fun c25b0 c25b1 c25b3 c25b3' H => ?_
     ·revert H; refine iR (fun c26b0 c26b1 H => ?_) fun c26b0 c26b1 c26b3 H => ?_
      ·revert H; refine bj fun t360 A27 H => ?_
       obtain rfl := Option.some.inj H
       obtain ⟨z28_0, z28_1, z28_2, z28_3, z28_4, z28_5, z28_6, z28_7, y28_0, y28_1, y28_2, y28_3, y28_4, y28_5, y28_6, y28_7⟩ := blk8 BK357.out
       go_wp2_with (first | (go_at_call 185; (with_reducible refine (KK.calls _ _ _ _ _ _ _ _ _ _ _ _ _ ?side1 ?side2 ?side3 A27.out).mono ?_); (case side1 => exact cb HR0_6.out); (case side2 => exact HC0_6.out); (case side3 => exact Sh.below HSH.out bl); rintro e w29 ⟨rfl, hb⟩; replace BK357 := am (bkb BK357.out hb); replace HB := am (below_step bl hb); clear hb))
       go_ret
       exact ⟨er, bl⟩
      obtain rfl := Option.some.inj H
      go_wp2
      go_ret
      exact ⟨er, bl⟩
     obtain rfl := Option.some.inj H
     go_wp2
     go_ret
     exact ⟨er, bl⟩
    obtain rfl := Option.some.inj H
    go_wp2
    go_ret
    exact ⟨er, bl⟩
   revert H; refine iQ (fun c30b0 c30b1 H => ?_) fun c30 c30b0 c30b1 H => ?_
   ·revert H; refine bj fun t361 A31 H => ?_
    revert H; refine bj fun t362 A32 H => ?_
    replace H := iT H; rcases H with ⟨rfl, H⟩ | ⟨rfl, H⟩
    ·replace H := iT H; rcases H with ⟨rfl, H⟩ | ⟨rfl, H⟩
     ·revert H; refine iR (fun c35b0 c35b1 H => ?_) fun c35b0 c35b1 c35b3 H => ?_
      ·revert H; refine bj fun t363 A36 H => ?_
       obtain rfl := Option.some.inj H
       try go_wp2
       have n0_ := am (blk_drew BK357.out)
       have n1_ := am (below_drew1 HB.out)
       clear BK357
       clear HB
       have BK357 := n0_
       have HB := n1_
       clear n0_ n1_
       refine start_ (n := 10) (S := fun w' => w'.cell? ⟨gb357, 0, none⟩ = some (.int .i64 a0_0) ∧ w'.cell? ⟨gb357, 1, none⟩ = some (.string a0_1) ∧ w'.cell? ⟨gb357, 2, none⟩ = some (.string a0_2) ∧ w'.cell? ⟨gb357, 3, none⟩ = some (.int .i64 a0_3) ∧ w'.cell? ⟨gb357, 4, none⟩ = some (.int .i64 a0_4) ∧ w'.cell? ⟨gb357, 5, none⟩ = some (.int .i64 a0_5) ∧ w'.cell? ⟨gb357, 6, none⟩ = some (.slice A0_6 l0_6.length c0_6) ∧ w'.cell? ⟨gb357, 7, none⟩ = some (.int .i64 a0_7)) (ds := []) #[F_, F_, F_, F_, F_, F_, F_, F_, F_, F_] (by kernel_rfl) rfl rfl ⟨(blk_cell BK357.out 0).trans rfl, (blk_cell BK357.out 1).trans rfl, (blk_cell BK357.out 2).trans rfl, (blk_cell BK357.out 3).trans rfl, (blk_cell BK357.out 4).trans rfl, (blk_cell BK357.out 5).trans rfl, (blk_cell BK357.out 6).trans rfl, (blk_cell BK357.out 7).trans rfl⟩ (fun hHeld => ?_); refine with_tabW impl_tree_isStatement.tab11 impl_tree_isStatement.bits11 (fun HT_ HW_ => ?_)
       generalize wc.drew = w37 at BK357 HB hHeld ⊢
       refine pv 0 33 ?_
       refine pv 1 34 ?_
       refine pv 4 37 ?_
       refine pv 5 38 ?_
       refine tv8 2 35 hHeld ?_
       refine tv8 6 39 hHeld ?_
       refine ov 3 36 (fun K hK => ?_)
       refine gk Tryz.func64 (impl_isFree.calls _ _ _ ?side1 A31.out) ?_
       (case side1 => exact Sh.below HSH.out bl)
       rintro e w38 ⟨rfl, hb⟩
       refine ⟨_, rfl, ?_⟩
       have n0_ := am (bkb BK357.out hb)
       have n1_ := am (below_step bl hb)
       clear BK357
       clear HB
       have BK357 := n0_
       have HB := n1_
       clear n0_ n1_
       skip
       skip
       skip
       skip
       refine hK.out _ _ (cel8 BK357.out) (fun hHeld => ?_)
       clear hK K
       refine norm_ (a' := ?_) ?_ ?_
       rotate_left
       ·show Act.put _ (some 36) _ = _
        simp only [Act.put, z1, z2, z3, i64_w, i32_w]
        rfl
       refine ov 7 40 (fun K hK => ?_)
       refine gk Tryz.func64 (impl_isFree.calls _ _ _ ?side1 A32.out) ?_
       (case side1 => exact Sh.below HSH.out bl)
       rintro e w39 ⟨rfl, hb⟩
       refine ⟨_, rfl, ?_⟩
       have n0_ := am (bkb BK357.out hb)
       have n1_ := am (below_step bl hb)
       clear BK357
       clear HB
       have BK357 := n0_
       have HB := n1_
       clear n0_ n1_
       skip
       skip
       skip
       skip
       refine hK.out _ _ (cel8 BK357.out) (fun hHeld => ?_)
       clear hK K
       refine norm_ (a' := ?_) ?_ ?_
       rotate_left
       ·show Act.put _ (some 40) _ = _
        simp only [Act.put, z1, z2, z3, i64_w, i32_w]
        rfl
       refine pv 8 3 ?_
       refine pv 9 4 ?_
       refine done_ (done_of HT_.out (by kernel_rfl)) ?_
       obtain ⟨z40_0, z40_1, z40_2, z40_3, z40_4, z40_5, z40_6, z40_7, y40_0, y40_1, y40_2, y40_3, y40_4, y40_5, y40_6, y40_7⟩ := blk8 BK357.out
       try go_wp2_with (first | (go_at_call 185; (with_reducible refine (KK.calls _ _ _ _ _ _ _ _ _ _ _ _ _ ?side1 ?side2 ?side3 A36.out).mono ?_); (case side1 => exact cb HR0_6.out); (case side2 => exact HC0_6.out); (case side3 => exact Sh.below HSH.out bl); rintro e w41 ⟨rfl, hb⟩; replace BK357 := am (bkb BK357.out hb); replace HB := am (below_step bl hb); clear hb))
       go_ret
       exact ⟨er, bl⟩
      obtain rfl := Option.some.inj H
      try go_wp2
      have n0_ := am (blk_drew BK357.out)
      have n1_ := am (below_drew1 HB.out)
      clear BK357
      clear HB
      have BK357 := n0_
      have HB := n1_
      clear n0_ n1_
      refine start_ (n := 10) (S := fun w' => w'.cell? ⟨gb357, 0, none⟩ = some (.int .i64 a0_0) ∧ w'.cell? ⟨gb357, 1, none⟩ = some (.string a0_1) ∧ w'.cell? ⟨gb357, 2, none⟩ = some (.string a0_2) ∧ w'.cell? ⟨gb357, 3, none⟩ = some (.int .i64 a0_3) ∧ w'.cell? ⟨gb357, 4, none⟩ = some (.int .i64 a0_4) ∧ w'.cell? ⟨gb357, 5, none⟩ = some (.int .i64 a0_5) ∧ w'.cell? ⟨gb357, 6, none⟩ = some (.slice A0_6 l0_6.length c0_6) ∧ w'.cell? ⟨gb357, 7, none⟩ = some (.int .i64 a0_7)) (ds := []) #[F_, F_, F_, F_, F_, F_, F_, F_, F_, F_] (by kernel_rfl) rfl rfl ⟨(blk_cell BK357.out 0).trans rfl, (blk_cell BK357.out 1).trans rfl, (blk_cell BK357.out 2).trans rfl, (blk_cell BK357.out 3).trans rfl, (blk_cell BK357.out 4).trans rfl, (blk_cell BK357.out 5).trans rfl, (blk_cell BK357.out 6).trans rfl, (blk_cell BK357.out 7).trans rfl⟩ (fun hHeld => ?_); refine with_tabW impl_tree_isStatement.tab11 impl_tree_isStatement.bits11 (fun HT_ HW_ => ?_)
      generalize wc.drew = w42 at BK357 HB hHeld ⊢
      refine pv 0 33 ?_
      refine pv 1 34 ?_
      refine pv 4 37 ?_
      refine pv 5 38 ?_
      refine tv8 2 35 hHeld ?_
      refine tv8 6 39 hHeld ?_
      refine ov 3 36 (fun K hK => ?_)
      refine gk Tryz.func64 (impl_isFree.calls _ _ _ ?side1 A31.out) ?_
      (case side1 => exact Sh.below HSH.out bl)
      rintro e w43 ⟨rfl, hb⟩
      refine ⟨_, rfl, ?_⟩
      have n0_ := am (bkb BK357.out hb)
      have n1_ := am (below_step bl hb)
      clear BK357
      clear HB
      have BK357 := n0_
      have HB := n1_
      clear n0_ n1_
      skip
      skip
      skip
      skip
      refine hK.out _ _ (cel8 BK357.out) (fun hHeld => ?_)
      clear hK K
      refine norm_ (a' := ?_) ?_ ?_
      rotate_left
      ·show Act.put _ (some 36) _ = _
       simp only [Act.put, z1, z2, z3, i64_w, i32_w]
       rfl
      refine ov 7 40 (fun K hK => ?_)
      refine gk Tryz.func64 (impl_isFree.calls _ _ _ ?side1 A32.out) ?_
      (case side1 => exact Sh.below HSH.out bl)
      rintro e w44 ⟨rfl, hb⟩
      refine ⟨_, rfl, ?_⟩
      have n0_ := am (bkb BK357.out hb)
      have n1_ := am (below_step bl hb)
      clear BK357
      clear HB
      have BK357 := n0_
      have HB := n1_
      clear n0_ n1_
      skip
      skip
      skip
      skip
      refine hK.out _ _ (cel8 BK357.out) (fun hHeld => ?_)
      clear hK K
      refine norm_ (a' := ?_) ?_ ?_
      rotate_left
      ·show Act.put _ (some 40) _ = _
       simp only [Act.put, z1, z2, z3, i64_w, i32_w]
       rfl
      refine pv 8 3 ?_
      refine pv 9 4 ?_
      refine done_ (done_of HT_.out (by kernel_rfl)) ?_
      try go_wp2
      go_ret
      exact ⟨er, bl⟩
     obtain rfl := Option.some.inj H
     try go_wp2
     have n0_ := am (blk_drew BK357.out)
     have n1_ := am (below_drew1 HB.out)
     clear BK357
     clear HB
     have BK357 := n0_
     have HB := n1_
     clear n0_ n1_
     refine start_ (n := 10) (S := fun w' => w'.cell? ⟨gb357, 0, none⟩ = some (.int .i64 a0_0) ∧ w'.cell? ⟨gb357, 1, none⟩ = some (.string a0_1) ∧ w'.cell? ⟨gb357, 2, none⟩ = some (.string a0_2) ∧ w'.cell? ⟨gb357, 3, none⟩ = some (.int .i64 a0_3) ∧ w'.cell? ⟨gb357, 4, none⟩ = some (.int .i64 a0_4) ∧ w'.cell? ⟨gb357, 5, none⟩ = some (.int .i64 a0_5) ∧ w'.cell? ⟨gb357, 6, none⟩ = some (.slice A0_6 l0_6.length c0_6) ∧ w'.cell? ⟨gb357, 7, none⟩ = some (.int .i64 a0_7)) (ds := []) #[F_, F_, F_, F_, F_, F_, F_, F_, F_, F_] (by kernel_rfl) rfl rfl ⟨(blk_cell BK357.out 0).trans rfl, (blk_cell BK357.out 1).trans rfl, (blk_cell BK357.out 2).trans rfl, (blk_cell BK357.out 3).trans rfl, (blk_cell BK357.out 4).trans rfl, (blk_cell BK357.out 5).trans rfl, (blk_cell BK357.out 6).trans rfl, (blk_cell BK357.out 7).trans rfl⟩ (fun hHeld => ?_); refine with_tabW impl_tree_isStatement.tab11 impl_tree_isStatement.bits11 (fun HT_ HW_ => ?_)
     generalize wc.drew = w45 at BK357 HB hHeld ⊢
     refine pv 0 33 ?_
     refine pv 1 34 ?_
     refine pv 4 37 ?_
     refine pv 5 38 ?_
     refine tv8 2 35 hHeld ?_
     refine tv8 6 39 hHeld ?_
     refine ov 3 36 (fun K hK => ?_)
     refine gk Tryz.func64 (impl_isFree.calls _ _ _ ?side1 A31.out) ?_
     (case side1 => exact Sh.below HSH.out bl)
     rintro e w46 ⟨rfl, hb⟩
     refine ⟨_, rfl, ?_⟩
     have n0_ := am (bkb BK357.out hb)
     have n1_ := am (below_step bl hb)
     clear BK357
     clear HB
     have BK357 := n0_
     have HB := n1_
     clear n0_ n1_
     skip
     skip
     skip
     skip
     refine hK.out _ _ (cel8 BK357.out) (fun hHeld => ?_)
     clear hK K
     refine norm_ (a' := ?_) ?_ ?_
     rotate_left
     ·show Act.put _ (some 36) _ = _
      simp only [Act.put, z1, z2, z3, i64_w, i32_w]
      rfl
     refine ov 7 40 (fun K hK => ?_)
     refine gk Tryz.func64 (impl_isFree.calls _ _ _ ?side1 A32.out) ?_
     (case side1 => exact Sh.below HSH.out bl)
     rintro e w47 ⟨rfl, hb⟩
     refine ⟨_, rfl, ?_⟩
     have n0_ := am (bkb BK357.out hb)
     have n1_ := am (below_step bl hb)
     clear BK357
     clear HB
     have BK357 := n0_
     have HB := n1_
     clear n0_ n1_
     skip
     skip
     skip
     skip
     refine hK.out _ _ (cel8 BK357.out) (fun hHeld => ?_)
     clear hK K
     refine norm_ (a' := ?_) ?_ ?_
     rotate_left
     ·show Act.put _ (some 40) _ = _
      simp only [Act.put, z1, z2, z3, i64_w, i32_w]
      rfl
     refine pv 8 3 ?_
     refine pv 9 4 ?_
     refine done_ (done_of HT_.out (by kernel_rfl)) ?_
     try go_wp2
     go_ret
     exact ⟨er, bl⟩
    obtain rfl := Option.some.inj H
    try go_wp2
    have n0_ := am (blk_drew BK357.out)
    have n1_ := am (below_drew1 HB.out)
    clear BK357
    clear HB
    have BK357 := n0_
    have HB := n1_
    clear n0_ n1_
    refine start_ (n := 10) (S := fun w' => w'.cell? ⟨gb357, 0, none⟩ = some (.int .i64 a0_0) ∧ w'.cell? ⟨gb357, 1, none⟩ = some (.string a0_1) ∧ w'.cell? ⟨gb357, 2, none⟩ = some (.string a0_2) ∧ w'.cell? ⟨gb357, 3, none⟩ = some (.int .i64 a0_3) ∧ w'.cell? ⟨gb357, 4, none⟩ = some (.int .i64 a0_4) ∧ w'.cell? ⟨gb357, 5, none⟩ = some (.int .i64 a0_5) ∧ w'.cell? ⟨gb357, 6, none⟩ = some (.slice A0_6 l0_6.length c0_6) ∧ w'.cell? ⟨gb357, 7, none⟩ = some (.int .i64 a0_7)) (ds := []) #[F_, F_, F_, F_, F_, F_, F_, F_, F_, F_] (by kernel_rfl) rfl rfl ⟨(blk_cell BK357.out 0).trans rfl, (blk_cell BK357.out 1).trans rfl, (blk_cell BK357.out 2).trans rfl, (blk_cell BK357.out 3).trans rfl, (blk_cell BK357.out 4).trans rfl, (blk_cell BK357.out 5).trans rfl, (blk_cell BK357.out 6).trans rfl, (blk_cell BK357.out 7).trans rfl⟩ (fun hHeld => ?_); refine with_tabW impl_tree_isStatement.tab11 impl_tree_isStatement.bits11 (fun HT_ HW_ => ?_)
    generalize wc.drew = w48 at BK357 HB hHeld ⊢
    refine pv 0 33 ?_
    refine pv 1 34 ?_
    refine pv 4 37 ?_
    refine pv 5 38 ?_
    refine tv8 2 35 hHeld ?_
    refine tv8 6 39 hHeld ?_
    refine ov 3 36 (fun K hK => ?_)
    refine gk Tryz.func64 (impl_isFree.calls _ _ _ ?side1 A31.out) ?_
    (case side1 => exact Sh.below HSH.out bl)
    rintro e w49 ⟨rfl, hb⟩
    refine ⟨_, rfl, ?_⟩
    have n0_ := am (bkb BK357.out hb)
    have n1_ := am (below_step bl hb)
    clear BK357
    clear HB
    have BK357 := n0_
    have HB := n1_
    clear n0_ n1_
    skip
    skip
    skip
    skip
    refine hK.out _ _ (cel8 BK357.out) (fun hHeld => ?_)
    clear hK K
    refine norm_ (a' := ?_) ?_ ?_
    rotate_left
    ·show Act.put _ (some 36) _ = _
     simp only [Act.put, z1, z2, z3, i64_w, i32_w]
     rfl
    refine ov 7 40 (fun K hK => ?_)
    refine gk Tryz.func64 (impl_isFree.calls _ _ _ ?side1 A32.out) ?_
    (case side1 => exact Sh.below HSH.out bl)
    rintro e w50 ⟨rfl, hb⟩
    refine ⟨_, rfl, ?_⟩
    have n0_ := am (bkb BK357.out hb)
    have n1_ := am (below_step bl hb)
    clear BK357
    clear HB
    have BK357 := n0_
    have HB := n1_
    clear n0_ n1_
    skip
    skip
    skip
    skip
    refine hK.out _ _ (cel8 BK357.out) (fun hHeld => ?_)
    clear hK K
    refine norm_ (a' := ?_) ?_ ?_
    rotate_left
    ·show Act.put _ (some 40) _ = _
     simp only [Act.put, z1, z2, z3, i64_w, i32_w]
     rfl
    refine pv 8 3 ?_
    refine pv 9 4 ?_
    refine done_ (done_of HT_.out (by kernel_rfl)) ?_
    try go_wp2
    go_ret
    exact ⟨er, bl⟩
   revert H; refine iQ (fun c51b0 c51b1 H => ?_) fun c51 c51b0 c51b1 H => ?_
   ·revert H; refine bj fun t364 A52 H => ?_
    revert H; refine iK (fun c53b0 c53b1 c53b3 H => ?_) fun c53b0 c53b1 c53b3 c53b3' H => ?_
    ·revert H; refine iK (fun c54b0 c54b1 c54b3 H => ?_) fun c54b0 c54b1 c54b3 c54b3' H => ?_
     ·replace H := iT H; rcases H with ⟨rfl, H⟩ | ⟨rfl, H⟩
      ·revert H; refine bj fun t365 A56 H => ?_
       obtain rfl := Option.some.inj H
       obtain ⟨z57_0, z57_1, z57_2, z57_3, z57_4, z57_5, z57_6, z57_7, y57_0, y57_1, y57_2, y57_3, y57_4, y57_5, y57_6, y57_7⟩ := blk8 BK357.out
       go_wp2_with (first | (refine gc 66 (some 46) Tryz.func66 (impl_in.calls _ _ _ _ _ A52.out) ?_; rintro e w' ⟨rfl, ⟨nd, rfl⟩⟩; refine ⟨_, rfl, ?_⟩) | (go_at_call 185; (with_reducible refine (KK.calls _ _ _ _ _ _ _ _ _ _ _ _ _ ?side1 ?side2 ?side3 A56.out).mono ?_); (case side1 => exact Kd.C_below HR0_6.out bl); (case side2 => exact HC0_6.out); (case side3 => exact Sh.below HSH.out bl); rintro e w58 ⟨rfl, hb⟩; replace BK357 := am (bkb BK357.out hb); replace HB := am (below_step bl hb); clear hb))
       go_ret
       exact ⟨er, bl⟩
      obtain rfl := Option.some.inj H
      obtain ⟨z59_0, z59_1, z59_2, z59_3, z59_4, z59_5, z59_6, z59_7, y59_0, y59_1, y59_2, y59_3, y59_4, y59_5, y59_6, y59_7⟩ := blk8 BK357.out
      go_wp2_with (first | (refine gc 66 (some 46) Tryz.func66 (impl_in.calls _ _ _ _ _ A52.out) ?_; rintro e w' ⟨rfl, ⟨nd, rfl⟩⟩; refine ⟨_, rfl, ?_⟩))
      go_ret
      exact ⟨er, bl⟩
     obtain rfl := Option.some.inj H
     obtain ⟨z60_0, z60_1, z60_2, z60_3, z60_4, z60_5, z60_6, z60_7, y60_0, y60_1, y60_2, y60_3, y60_4, y60_5, y60_6, y60_7⟩ := blk8 BK357.out
     go_wp2_with (first | (refine gc 66 (some 46) Tryz.func66 (impl_in.calls _ _ _ _ _ A52.out) ?_; rintro e w' ⟨rfl, ⟨nd, rfl⟩⟩; refine ⟨_, rfl, ?_⟩))
     go_ret
     exact ⟨er, bl⟩
    obtain rfl := Option.some.inj H
    obtain ⟨z61_0, z61_1, z61_2, z61_3, z61_4, z61_5, z61_6, z61_7, y61_0, y61_1, y61_2, y61_3, y61_4, y61_5, y61_6, y61_7⟩ := blk8 BK357.out
    go_wp2_with (first | (refine gc 66 (some 46) Tryz.func66 (impl_in.calls _ _ _ _ _ A52.out) ?_; rintro e w' ⟨rfl, ⟨nd, rfl⟩⟩; refine ⟨_, rfl, ?_⟩))
    go_ret
    exact ⟨er, bl⟩
   revert H; refine iQ (fun c62b0 c62b1 H => ?_) fun c62 c62b0 c62b1 H => ?_
   ·revert H; refine iK (fun c63b0 c63b1 c63b3 H => ?_) fun c63b0 c63b1 c63b3 c63b3' H => ?_
    ·revert H; refine iK (fun c64b0 c64b1 c64b3 H => ?_) fun c64b0 c64b1 c64b3 c64b3' H => ?_
     ·revert H; refine iR (fun c65b0 c65b1 H => ?_) fun c65b0 c65b1 c65b3 H => ?_
      ·revert H; refine bj fun t366 A66 H => ?_
       obtain rfl := Option.some.inj H
       obtain ⟨z67_0, z67_1, z67_2, z67_3, z67_4, z67_5, z67_6, z67_7, y67_0, y67_1, y67_2, y67_3, y67_4, y67_5, y67_6, y67_7⟩ := blk8 BK357.out
       go_wp2_with (first | (go_at_call 185; (with_reducible refine (KK.calls _ _ _ _ _ _ _ _ _ _ _ _ _ ?side1 ?side2 ?side3 A66.out).mono ?_); (case side1 => exact cb HR0_6.out); (case side2 => exact HC0_6.out); (case side3 => exact Sh.below HSH.out bl); rintro e w68 ⟨rfl, hb⟩; replace BK357 := am (bkb BK357.out hb); replace HB := am (below_step bl hb); clear hb))
       go_ret
       exact ⟨er, bl⟩
      obtain rfl := Option.some.inj H
      go_wp2
      go_ret
      exact ⟨er, bl⟩
     obtain rfl := Option.some.inj H
     go_wp2
     go_ret
     exact ⟨er, bl⟩
    obtain rfl := Option.some.inj H
    go_wp2
    go_ret
    exact ⟨er, bl⟩
   revert H; refine iQ (fun c69b0 c69b1 H => ?_) fun c69 c69b0 c69b1 H => ?_
   ·revert H; refine iK (fun c70b0 c70b1 c70b3 H => ?_) fun c70b0 c70b1 c70b3 c70b3' H => ?_
    ·revert H; refine iK (fun c71b0 c71b1 c71b3 H => ?_) fun c71b0 c71b1 c71b3 c71b3' H => ?_
     ·revert H; refine iR (fun c72b0 c72b1 H => ?_) fun c72b0 c72b1 c72b3 H => ?_
      ·revert H; refine bj fun t367 A73 H => ?_
       obtain rfl := Option.some.inj H
       obtain ⟨z74_0, z74_1, z74_2, z74_3, z74_4, z74_5, z74_6, z74_7, y74_0, y74_1, y74_2, y74_3, y74_4, y74_5, y74_6, y74_7⟩ := blk8 BK357.out
       go_wp2_with (first | (go_at_call 185; (with_reducible refine (KK.calls _ _ _ _ _ _ _ _ _ _ _ _ _ ?side1 ?side2 ?side3 A73.out).mono ?_); (case side1 => exact cb HR0_6.out); (case side2 => exact HC0_6.out); (case side3 => exact Sh.below HSH.out bl); rintro e w75 ⟨rfl, hb⟩; replace BK357 := am (bkb BK357.out hb); replace HB := am (below_step bl hb); clear hb))
       go_ret
       exact ⟨er, bl⟩
      obtain rfl := Option.some.inj H
      go_wp2
      go_ret
      exact ⟨er, bl⟩
     obtain rfl := Option.some.inj H
     go_wp2
     go_ret
     exact ⟨er, bl⟩
    obtain rfl := Option.some.inj H
    go_wp2
    go_ret
    exact ⟨er, bl⟩
   revert H; refine iQ (fun c76b0 c76b1 H => ?_) fun c76 c76b0 c76b1 H => ?_
   ·revert H; refine iDn (fun c77 c77b0 H => ?_) fun c77 c77b0 H => ?_
    ·have c77b1 : decide (40 < l0_6.length) = true := decide_eq_true (by omega)
     clear c77
     obtain rfl := Option.some.inj H
     obtain ⟨z78_0, z78_1, z78_2, z78_3, z78_4, z78_5, z78_6, z78_7, y78_0, y78_1, y78_2, y78_3, y78_4, y78_5, y78_6, y78_7⟩ := blk8 BK357.out
     go_wp2
     go_ret
     exact ⟨er, bl⟩
    have c77b1 : decide (40 < l0_6.length) = false := decide_eq_false (by omega)
    clear c77
    revert H; refine bj fun t368 A79 H => ?_
    revert H; refine iK (fun c80b0 c80b1 c80b3 H => ?_) fun c80b0 c80b1 c80b3 c80b3' H => ?_
    ·revert H; refine iK (fun c81b0 c81b1 c81b3 H => ?_) fun c81b0 c81b1 c81b3 c81b3' H => ?_
     ·revert H; refine iR (fun c82b0 c82b1 H => ?_) fun c82b0 c82b1 c82b3 H => ?_
      ·revert H; refine bj fun t369 A83 H => ?_
       obtain rfl := Option.some.inj H
       obtain ⟨z84_0, z84_1, z84_2, z84_3, z84_4, z84_5, z84_6, z84_7, y84_0, y84_1, y84_2, y84_3, y84_4, y84_5, y84_6, y84_7⟩ := blk8 BK357.out
       go_wp2_with (first | (refine gc 184 (some 60) Tryz.func184 (strings_Repeat.calls _ _ _ _ A79.out) ?_; rintro e w85 ⟨rfl, hb⟩; refine ⟨_, rfl, ?_⟩; replace BK357 := am (bkb BK357.out hb); replace HB := am (below_step bl hb); clear hb; obtain ⟨z86_0, z86_1, z86_2, z86_3, z86_4, z86_5, z86_6, z86_7, y86_0, y86_1, y86_2, y86_3, y86_4, y86_5, y86_6, y86_7⟩ := blk8 BK357.out) | (go_at_call 185; (with_reducible refine (KK.calls _ _ _ _ _ _ _ _ _ _ _ _ _ ?side1 ?side2 ?side3 A83.out).mono ?_); (case side1 => exact cb HR0_6.out); (case side2 => exact HC0_6.out); (case side3 => exact Sh.below HSH.out bl); rintro e w87 ⟨rfl, hb⟩; replace BK357 := am (bkb BK357.out hb); replace HB := am (below_step bl hb); clear hb))
       go_ret
       exact ⟨er, bl⟩
      obtain rfl := Option.some.inj H
      obtain ⟨z88_0, z88_1, z88_2, z88_3, z88_4, z88_5, z88_6, z88_7, y88_0, y88_1, y88_2, y88_3, y88_4, y88_5, y88_6, y88_7⟩ := blk8 BK357.out
      go_wp2_with (first | (refine gc 184 (some 60) Tryz.func184 (strings_Repeat.calls _ _ _ _ A79.out) ?_; rintro e w89 ⟨rfl, hb⟩; refine ⟨_, rfl, ?_⟩; replace BK357 := am (bkb BK357.out hb); replace HB := am (below_step bl hb); clear hb))
      go_ret
      exact ⟨er, bl⟩
     obtain rfl := Option.some.inj H
     obtain ⟨z90_0, z90_1, z90_2, z90_3, z90_4, z90_5, z90_6, z90_7, y90_0, y90_1, y90_2, y90_3, y90_4, y90_5, y90_6, y90_7⟩ := blk8 BK357.out
     go_wp2_with (first | (refine gc 184 (some 60) Tryz.func184 (strings_Repeat.calls _ _ _ _ A79.out) ?_; rintro e w91 ⟨rfl, hb⟩; refine ⟨_, rfl, ?_⟩; replace BK357 := am (bkb BK357.out hb); replace HB := am (below_step bl hb); clear hb))
     go_ret
     exact ⟨er, bl⟩
    obtain rfl := Option.some.inj H
    obtain ⟨z92_0, z92_1, z92_2, z92_3, z92_4, z92_5, z92_6, z92_7, y92_0, y92_1, y92_2, y92_3, y92_4, y92_5, y92_6, y92_7⟩ := blk8 BK357.out
    go_wp2_with (first | (refine gc 184 (some 60) Tryz.func184 (strings_Repeat.calls _ _ _ _ A79.out) ?_; rintro e w93 ⟨rfl, hb⟩; refine ⟨_, rfl, ?_⟩; replace BK357 := am (bkb BK357.out hb); replace HB := am (below_step bl hb); clear hb))
    go_ret
    exact ⟨er, bl⟩
   obtain rfl := Option.some.inj H
   go_wp2
   go_ret
   exact ⟨er, bl⟩

end Go.Proofs.YtodokfmmnihecaaGreatDoor.PFnExactEnvRight
