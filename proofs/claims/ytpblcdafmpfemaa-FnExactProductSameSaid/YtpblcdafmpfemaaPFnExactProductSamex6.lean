-- laid by seedprint.py, a program of this session, over contracts that it gives by hand; Lean checks it
-- dented
import Derived.Test.YtpblcdafmpfemaaQMin
import Derived.Test.YtpblcdafmpfemaaQAut
import Derived.Test.YtpblcdafmpfemaaQBlk
import Derived.Test.YtpblcdafmpfemaaPFnExactProductSamex0
import Derived.Test.YtpblcdafmpfemaaPFnExactProductSamex2
import Derived.Test.YtpblcdafmpfemaaPFnExactProductSamex5
namespace Go.Proofs.Ytpblcdafmpfemaa.PFnExactProductSame
open Go.RowKit Go.Proofs.YtpblcdafmpfemaaW.PrintWords Go.Proofs.YtpblcdafmpfemaaW.PrintLast Go.Proofs.YtpblcdafmpfemaaW.PrintMore
attribute [local go_sem] max2_int min2_int max_two min_two max_three min_three max_four min_four   -- for this text's walks alone
set_option maxHeartbeats 8000000
set_option maxRecDepth 100000
set_option linter.unusedVariables false
set_option linter.unusedSimpArgs false

attribute [local go_sem high] eqA88
/-! ### impl_sameFace: function 58 -/
def impl_sameFace.f (k : Nat) (a0_0 : ByteArray) (a0_1 : Int) (l0_2 : List ByteArray) (l0_3 : List ByteArray) (l0_4 : List (S82)) (l0_5 : List (S88)) (l0_6 : List (S88)) (l0_7 : List (S88)) (a1_0 : ByteArray) (a1_1 : Int) (l1_2 : List ByteArray) (l1_3 : List ByteArray) (l1_4 : List (S82)) (l1_5 : List (S88)) (l1_6 : List (S88)) (l1_7 : List (S88)) : Option (Bool) := if a0_1 = a1_1 then ((slices_Equal_string_string.f k l0_2 l1_2).bind fun t178 => (if t178 = true then ((slices_Equal_string_string.f k l0_3 l1_3).bind fun t179 => (if t179 = true then ((impl_Param.f k l0_4 l1_4).bind fun t180 => (some t180)) else (some false))) else (some false))) else (some false)
theorem impl_sameFace.mono : ∀ a0 a1 a2 a3 a4 a5 a6 a7 a8 a9 a10 a11 a12 a13 a14 a15 k, LeO (impl_sameFace.f k a0 a1 a2 a3 a4 a5 a6 a7 a8 a9 a10 a11 a12 a13 a14 a15) (impl_sameFace.f (k + 1) a0 a1 a2 a3 a4 a5 a6 a7 a8 a9 a10 a11 a12 a13 a14 a15) := by
 intro a0 a1 a2 a3 a4 a5 a6 a7 a8 a9 a10 a11 a12 a13 a14 a15 k
 unfold impl_sameFace.f
 repeat' (with_reducible first | exact impl_Param.mono .. | exact slices_Equal_string_string.mono .. | exact LeO.refl _ | exact LeO.none _ | refine LeO.ite ?_ ?_ | refine LeO.bind ?_ (fun _ => ?_))
theorem impl_sameFace.calls (k : Nat) (a0_0 : ByteArray) (a0_1 : Int) (A0_2 : Option Addr) (c0_2 : Nat) (l0_2 : List ByteArray) (A0_3 : Option Addr) (c0_3 : Nat) (l0_3 : List ByteArray) (A0_4 : Option Addr) (c0_4 : Nat) (l0_4 : List (S82)) (A0_5 : Option Addr) (c0_5 : Nat) (l0_5 : List (S88)) (A0_6 : Option Addr) (c0_6 : Nat) (l0_6 : List (S88)) (A0_7 : Option Addr) (c0_7 : Nat) (l0_7 : List (S88)) (a1_0 : ByteArray) (a1_1 : Int) (A1_2 : Option Addr) (c1_2 : Nat) (l1_2 : List ByteArray) (A1_3 : Option Addr) (c1_3 : Nat) (l1_3 : List ByteArray) (A1_4 : Option Addr) (c1_4 : Nat) (l1_4 : List (S82)) (A1_5 : Option Addr) (c1_5 : Nat) (l1_5 : List (S88)) (A1_6 : Option Addr) (c1_6 : Nat) (l1_6 : List (S88)) (A1_7 : Option Addr) (c1_7 : Nat) (l1_7 : List (S88)) (r : Bool) (w : World) (hr0_2 : Kd.C Kd.string w A0_2 l0_2.length l0_2) (hc0_2 : l0_2.length ≤ c0_2) (hr0_3 : Kd.C Kd.string w A0_3 l0_3.length l0_3) (hc0_3 : l0_3.length ≤ c0_3) (hr0_4 : Kd.C k82 w A0_4 l0_4.length l0_4) (hc0_4 : l0_4.length ≤ c0_4) (hr0_5 : Kd.C k88 w A0_5 l0_5.length l0_5) (hc0_5 : l0_5.length ≤ c0_5) (hr0_6 : Kd.C k88 w A0_6 l0_6.length l0_6) (hc0_6 : l0_6.length ≤ c0_6) (hr0_7 : Kd.C k88 w A0_7 l0_7.length l0_7) (hc0_7 : l0_7.length ≤ c0_7) (hr1_2 : Kd.C Kd.string w A1_2 l1_2.length l1_2) (hc1_2 : l1_2.length ≤ c1_2) (hr1_3 : Kd.C Kd.string w A1_3 l1_3.length l1_3) (hc1_3 : l1_3.length ≤ c1_3) (hr1_4 : Kd.C k82 w A1_4 l1_4.length l1_4) (hc1_4 : l1_4.length ≤ c1_4) (hr1_5 : Kd.C k88 w A1_5 l1_5.length l1_5) (hc1_5 : l1_5.length ≤ c1_5) (hr1_6 : Kd.C k88 w A1_6 l1_6.length l1_6) (hc1_6 : l1_6.length ≤ c1_6) (hr1_7 : Kd.C k88 w A1_7 l1_7.length l1_7) (hc1_7 : l1_7.length ≤ c1_7) (h : impl_sameFace.f k a0_0 a0_1 l0_2 l0_3 l0_4 l0_5 l0_6 l0_7 a1_0 a1_1 l1_2 l1_3 l1_4 l1_5 l1_6 l1_7 = some r) :
  Calls Try.prog 58 #[.agg #[.string a0_0, .int .i64 a0_1, .slice A0_2 l0_2.length c0_2, .slice A0_3 l0_3.length c0_3, .slice A0_4 l0_4.length c0_4, .slice A0_5 l0_5.length c0_5, .slice A0_6 l0_6.length c0_6, .slice A0_7 l0_7.length c0_7], .agg #[.string a1_0, .int .i64 a1_1, .slice A1_2 l1_2.length c1_2, .slice A1_3 l1_3.length c1_3, .slice A1_4 l1_4.length c1_4, .slice A1_5 l1_5.length c1_5, .slice A1_6 l1_6.length c1_6, .slice A1_7 l1_7.length c1_7]] w fun e w' => e = .returned (.bool r) ∧ Below w.heap.size w w' := by
 have hu41 := Try.underlying41
 have HR0_2 := am hr0_2
 have HC0_2 := am hc0_2
 clear hr0_2 hc0_2
 have HR0_3 := am hr0_3
 have HC0_3 := am hc0_3
 clear hr0_3 hc0_3
 have HR0_4 := am hr0_4
 have HC0_4 := am hc0_4
 clear hr0_4 hc0_4
 have HR0_5 := am hr0_5
 have HC0_5 := am hc0_5
 clear hr0_5 hc0_5
 have HR0_6 := am hr0_6
 have HC0_6 := am hc0_6
 clear hr0_6 hc0_6
 have HR0_7 := am hr0_7
 have HC0_7 := am hc0_7
 clear hr0_7 hc0_7
 have HR1_2 := am hr1_2
 have HC1_2 := am hc1_2
 clear hr1_2 hc1_2
 have HR1_3 := am hr1_3
 have HC1_3 := am hc1_3
 clear hr1_3 hc1_3
 have HR1_4 := am hr1_4
 have HC1_4 := am hc1_4
 clear hr1_4 hc1_4
 have HR1_5 := am hr1_5
 have HC1_5 := am hc1_5
 clear hr1_5 hc1_5
 have HR1_6 := am hr1_6
 have HC1_6 := am hc1_6
 clear hr1_6 hc1_6
 have HR1_7 := am hr1_7
 have HC1_7 := am hc1_7
 clear hr1_7 hc1_7
 have HB := am (Below.refl w.heap.size w)
 have H := h
 clear h
 unfold impl_sameFace.f at H
 revert H; refine iQ (fun c3b0 c3b1 H => ?_) fun c3 c3b0 c3b1 H => ?_
 ·revert H; refine bj fun t178 A4 H => ?_
  replace H := iT H; rcases H with ⟨rfl, H⟩ | ⟨rfl, H⟩
  ·revert H; refine bj fun t179 A6 H => ?_
   replace H := iT H; rcases H with ⟨rfl, H⟩ | ⟨rfl, H⟩
   ·revert H; refine bj fun t180 A8 H => ?_
    obtain rfl := Option.some.inj H
    go_enter Try.func58, Try.ntmps58
    go_wp2_with (first | (refine bx 2 #[.string a0_0, .int .i64 a0_1, .slice A0_2 l0_2.length c0_2, .slice A0_3 l0_3.length c0_3, .slice A0_4 l0_4.length c0_4, .slice A0_5 l0_5.length c0_5, .slice A0_6 l0_6.length c0_6, .slice A0_7 l0_7.length c0_7] 41 ?_; intro gb176 hg w9 hbox hb; have BK176 := am (hbox); have GW176 := am (bsz hg : w.heap.size ≤ gb176); have GE176 := GW176; replace HB := am (below_step bl hb); clear hb hbox hg) | (refine bx 3 #[.string a1_0, .int .i64 a1_1, .slice A1_2 l1_2.length c1_2, .slice A1_3 l1_3.length c1_3, .slice A1_4 l1_4.length c1_4, .slice A1_5 l1_5.length c1_5, .slice A1_6 l1_6.length c1_6, .slice A1_7 l1_7.length c1_7] 41 ?_; intro gb177 hg w10 hbox hb; have BK177 := am (hbox); have GW177 := am (bsz hg : w.heap.size ≤ gb177); have GE177 := GW177; have NB176_177 := am (ne1 hg BK176.out); have NB177_176 := am NB176_177.out.symm; replace BK176 := am (bkb BK176.out hb); replace HB := am (below_step bl hb); clear hb hbox hg; have hnb11 := NB176_177.out; have hnc11 := NB177_176.out; obtain ⟨z12_0, z12_1, z12_2, z12_3, z12_4, z12_5, z12_6, z12_7, y12_0, y12_1, y12_2, y12_3, y12_4, y12_5, y12_6, y12_7⟩ := blk8 BK176.out; obtain ⟨z13_0, z13_1, z13_2, z13_3, z13_4, z13_5, z13_6, z13_7, y13_0, y13_1, y13_2, y13_3, y13_4, y13_5, y13_6, y13_7⟩ := blk8 BK177.out) | (go_at_call 90; (with_reducible refine (slices_Equal_string_string.calls _ _ _ _ _ _ _ _ _ ?side1 ?side2 ?side3 ?side4 A4.out).mono ?_); (case side1 => exact cb HR0_2.out); (case side2 => exact HC0_2.out); (case side3 => exact cb HR1_2.out); (case side4 => exact HC1_2.out); rintro e w' ⟨rfl, ⟨nd, rfl⟩⟩) | (go_at_call 90; (with_reducible refine (slices_Equal_string_string.calls _ _ _ _ _ _ _ _ _ ?side1 ?side2 ?side3 ?side4 A6.out).mono ?_); (case side1 => exact Kd.C_below HR0_3.out bl); (case side2 => exact HC0_3.out); (case side3 => exact Kd.C_below HR1_3.out bl); (case side4 => exact HC1_3.out); rintro e w' ⟨rfl, ⟨nd, rfl⟩⟩) | (go_at_call 91; (with_reducible refine (impl_Param.calls _ _ _ _ _ _ _ _ _ ?side1 ?side2 ?side3 ?side4 A8.out).mono ?_); (case side1 => exact Kd.C_below HR0_4.out bl); (case side2 => exact HC0_4.out); (case side3 => exact Kd.C_below HR1_4.out bl); (case side4 => exact HC1_4.out); rintro e w' ⟨rfl, ⟨nd, rfl⟩⟩))
    go_ret
    exact ⟨er, bl⟩
   obtain rfl := Option.some.inj H
   go_enter Try.func58, Try.ntmps58
   go_wp2_with (first | (refine bx 2 #[.string a0_0, .int .i64 a0_1, .slice A0_2 l0_2.length c0_2, .slice A0_3 l0_3.length c0_3, .slice A0_4 l0_4.length c0_4, .slice A0_5 l0_5.length c0_5, .slice A0_6 l0_6.length c0_6, .slice A0_7 l0_7.length c0_7] 41 ?_; intro gb176 hg w14 hbox hb; have BK176 := am (hbox); have GW176 := am (bsz hg : w.heap.size ≤ gb176); have GE176 := GW176; replace HB := am (below_step bl hb); clear hb hbox hg) | (refine bx 3 #[.string a1_0, .int .i64 a1_1, .slice A1_2 l1_2.length c1_2, .slice A1_3 l1_3.length c1_3, .slice A1_4 l1_4.length c1_4, .slice A1_5 l1_5.length c1_5, .slice A1_6 l1_6.length c1_6, .slice A1_7 l1_7.length c1_7] 41 ?_; intro gb177 hg w15 hbox hb; have BK177 := am (hbox); have GW177 := am (bsz hg : w.heap.size ≤ gb177); have GE177 := GW177; have NB176_177 := am (ne1 hg BK176.out); have NB177_176 := am NB176_177.out.symm; replace BK176 := am (bkb BK176.out hb); replace HB := am (below_step bl hb); clear hb hbox hg; have hnb16 := NB176_177.out; have hnc16 := NB177_176.out; obtain ⟨z17_0, z17_1, z17_2, z17_3, z17_4, z17_5, z17_6, z17_7, y17_0, y17_1, y17_2, y17_3, y17_4, y17_5, y17_6, y17_7⟩ := blk8 BK176.out; obtain ⟨z18_0, z18_1, z18_2, z18_3, z18_4, z18_5, z18_6, z18_7, y18_0, y18_1, y18_2, y18_3, y18_4, y18_5, y18_6, y18_7⟩ := blk8 BK177.out) | (go_at_call 90; (with_reducible refine (slices_Equal_string_string.calls _ _ _ _ _ _ _ _ _ ?side1 ?side2 ?side3 ?side4 A4.out).mono ?_); (case side1 => exact cb HR0_2.out); (case side2 => exact HC0_2.out); (case side3 => exact cb HR1_2.out); (case side4 => exact HC1_2.out); rintro e w' ⟨rfl, ⟨nd, rfl⟩⟩) | (go_at_call 90; (with_reducible refine (slices_Equal_string_string.calls _ _ _ _ _ _ _ _ _ ?side1 ?side2 ?side3 ?side4 A6.out).mono ?_); (case side1 => exact Kd.C_below HR0_3.out bl); (case side2 => exact HC0_3.out); (case side3 => exact Kd.C_below HR1_3.out bl); (case side4 => exact HC1_3.out); rintro e w' ⟨rfl, ⟨nd, rfl⟩⟩))
   go_ret
   exact ⟨er, bl⟩
  obtain rfl := Option.some.inj H
  go_enter Try.func58, Try.ntmps58
  go_wp2_with (first | (refine bx 2 #[.string a0_0, .int .i64 a0_1, .slice A0_2 l0_2.length c0_2, .slice A0_3 l0_3.length c0_3, .slice A0_4 l0_4.length c0_4, .slice A0_5 l0_5.length c0_5, .slice A0_6 l0_6.length c0_6, .slice A0_7 l0_7.length c0_7] 41 ?_; intro gb176 hg w19 hbox hb; have BK176 := am (hbox); have GW176 := am (bsz hg : w.heap.size ≤ gb176); have GE176 := GW176; replace HB := am (below_step bl hb); clear hb hbox hg) | (refine bx 3 #[.string a1_0, .int .i64 a1_1, .slice A1_2 l1_2.length c1_2, .slice A1_3 l1_3.length c1_3, .slice A1_4 l1_4.length c1_4, .slice A1_5 l1_5.length c1_5, .slice A1_6 l1_6.length c1_6, .slice A1_7 l1_7.length c1_7] 41 ?_; intro gb177 hg w20 hbox hb; have BK177 := am (hbox); have GW177 := am (bsz hg : w.heap.size ≤ gb177); have GE177 := GW177; have NB176_177 := am (ne1 hg BK176.out); have NB177_176 := am NB176_177.out.symm; replace BK176 := am (bkb BK176.out hb); replace HB := am (below_step bl hb); clear hb hbox hg; have hnb21 := NB176_177.out; have hnc21 := NB177_176.out; obtain ⟨z22_0, z22_1, z22_2, z22_3, z22_4, z22_5, z22_6, z22_7, y22_0, y22_1, y22_2, y22_3, y22_4, y22_5, y22_6, y22_7⟩ := blk8 BK176.out; obtain ⟨z23_0, z23_1, z23_2, z23_3, z23_4, z23_5, z23_6, z23_7, y23_0, y23_1, y23_2, y23_3, y23_4, y23_5, y23_6, y23_7⟩ := blk8 BK177.out) | (go_at_call 90; (with_reducible refine (slices_Equal_string_string.calls _ _ _ _ _ _ _ _ _ ?side1 ?side2 ?side3 ?side4 A4.out).mono ?_); (case side1 => exact cb HR0_2.out); (case side2 => exact HC0_2.out); (case side3 => exact cb HR1_2.out); (case side4 => exact HC1_2.out); rintro e w' ⟨rfl, ⟨nd, rfl⟩⟩))
  go_ret
  exact ⟨er, bl⟩
 obtain rfl := Option.some.inj H
 go_enter Try.func58, Try.ntmps58
 go_wp2_with (first | (refine bx 2 #[.string a0_0, .int .i64 a0_1, .slice A0_2 l0_2.length c0_2, .slice A0_3 l0_3.length c0_3, .slice A0_4 l0_4.length c0_4, .slice A0_5 l0_5.length c0_5, .slice A0_6 l0_6.length c0_6, .slice A0_7 l0_7.length c0_7] 41 ?_; intro gb176 hg w24 hbox hb; have BK176 := am (hbox); have GW176 := am (bsz hg : w.heap.size ≤ gb176); have GE176 := GW176; replace HB := am (below_step bl hb); clear hb hbox hg) | (refine bx 3 #[.string a1_0, .int .i64 a1_1, .slice A1_2 l1_2.length c1_2, .slice A1_3 l1_3.length c1_3, .slice A1_4 l1_4.length c1_4, .slice A1_5 l1_5.length c1_5, .slice A1_6 l1_6.length c1_6, .slice A1_7 l1_7.length c1_7] 41 ?_; intro gb177 hg w25 hbox hb; have BK177 := am (hbox); have GW177 := am (bsz hg : w.heap.size ≤ gb177); have GE177 := GW177; have NB176_177 := am (ne1 hg BK176.out); have NB177_176 := am NB176_177.out.symm; replace BK176 := am (bkb BK176.out hb); replace HB := am (below_step bl hb); clear hb hbox hg; have hnb26 := NB176_177.out; have hnc26 := NB177_176.out; obtain ⟨z27_0, z27_1, z27_2, z27_3, z27_4, z27_5, z27_6, z27_7, y27_0, y27_1, y27_2, y27_3, y27_4, y27_5, y27_6, y27_7⟩ := blk8 BK176.out; obtain ⟨z28_0, z28_1, z28_2, z28_3, z28_4, z28_5, z28_6, z28_7, y28_0, y28_1, y28_2, y28_3, y28_4, y28_5, y28_6, y28_7⟩ := blk8 BK177.out))
 go_ret
 exact ⟨er, bl⟩

/-! ### impl_Node: function 59 -/
def impl_Node.l0 : Nat → List (S88) → List (S88) → Int → Int → Option (Bool)
 | 0, _, _, _, _ => none
 | k + 1, x0, x1, x12, x13 => if x13 < x12 then (if 0 ≤ x13 then (if x13 < (x0.length : Int) then (if x13 < (x1.length : Int) then (if (!(((rd_T88 x0 x13).f0) == ((rd_T88 x1 x13).f0)) || (!((((rd_T88 x0 x13).f1).toList) == (((rd_T88 x1 x13).f1).toList)) || (!((((rd_T88 x0 x13).f2).toList) == (((rd_T88 x1 x13).f2).toList)) || (!(((rd_T88 x0 x13).f3) == ((rd_T88 x1 x13).f3)) || (!(((rd_T88 x0 x13).f4) == ((rd_T88 x1 x13).f4))))))) = true then (some false) else (impl_Node.l0 k x0 x1 x12 (wrap64 (x13 + 1)))) else (none)) else (none)) else (none)) else (some true)
def impl_Node.f (k : Nat) (l0 : List (S88)) (l1 : List (S88)) : Option (Bool) := if (l0.length : Int) = (l1.length : Int) then (impl_Node.l0 k l0 l1 (l0.length : Int) 0) else (some false)
theorem impl_Node.mono_l : ∀ k, (∀ y0 y1 y2 y3, LeO (impl_Node.l0 k y0 y1 y2 y3) (impl_Node.l0 (k + 1) y0 y1 y2 y3))
 | 0 => fun _ _ _ _ r h => by simp [impl_Node.l0] at h
 | k + 1 => by
  have ih0 := impl_Node.mono_l k
  ·intro y0 y1 y2 y3
   unfold impl_Node.l0
   exact mo
theorem impl_Node.mono : ∀ a0 a1 k, LeO (impl_Node.f k a0 a1) (impl_Node.f (k + 1) a0 a1) := by
 intro a0 a1 k
 have ih0 := impl_Node.mono_l k
 unfold impl_Node.f
 exact mo
theorem impl_Node.calls (k : Nat) (A0 : Option Addr) (c0 : Nat) (l0 : List (S88)) (A1 : Option Addr) (c1 : Nat) (l1 : List (S88)) (r : Bool) (w : World) (hr0 : Kd.C k88 w A0 l0.length l0) (hc0 : l0.length ≤ c0) (hr1 : Kd.C k88 w A1 l1.length l1) (hc1 : l1.length ≤ c1) (h : impl_Node.f k l0 l1 = some r) :
  Calls Try.prog 59 #[.slice A0 l0.length c0, .slice A1 l1.length c1] w fun e w' => e = .returned (.bool r) ∧ Drawn0 w w' := by
 have hu88 := Try.underlying88
 have HR0 := am hr0
 have HC0 := am hc0
 clear hr0 hc0
 have HR1 := am hr1
 have HC1 := am hc1
 clear hr1 hc1
 have H := h
 clear h
 unfold impl_Node.f at H
 revert H; refine iQn (fun c3 c3b0 c3b1 H => ?_) fun c3 c3b0 c3b1 H => ?_
 ·have c3b2 : (l0.length == l1.length) = true := by first | simpa using c3 | (simp at c3 ⊢; omega)
  clear c3
  have H' := am H; clear H
  go_enter Try.func59, Try.ntmps59
  go_wp2
  repeat (go_quiet (fail); try go_wp2)
  go_loopg [13] k (fun kq v13 w' => ∃ (x13_1 : Int), v13 = .int .i64 x13_1 ∧ Aside0 (impl_Node.l0 kq l0 l1 (l0.length : Int) x13_1 = some r) ∧ Aside0 (kq ≤ k) ∧ Drawn0 w w')
  case atStart => exact ⟨(0), (by first | rfl | (simp; done) | (simp [*]; done)), H', ⟨Nat.le_refl _⟩, by repeat (first | exact Drawn0.refl _ | apply Drawn0.step)⟩
  case round =>
   clear H'
   try clear c1; try clear c3; try clear c3b0; try clear c3b1; try clear c3b2
   obtain ⟨x13_1, rfl, HA, HK1, ⟨m1, rfl⟩⟩ := hrel
   cases gk with
   | zero => exact absurd HA.out (by simp [impl_Node.l0])
   | succ k1 =>
    have H := HA.out
    clear HA
    simp only [impl_Node.l0] at H
    revert H; refine iDb (fun c4b0 H => ?_) fun c4b0 H => ?_
    ·revert H; refine i1 fun c5b0 H => ?_
     revert H; refine i1 fun c6b0 H => ?_
     revert H; refine i1 fun c7b0 H => ?_
     revert H; refine iB (fun c8 H => ?_) fun c8 H => ?_
     ·have c8b0 : (!(((rd_T88 l0 x13_1).f0) == ((rd_T88 l1 x13_1).f0)) || (!((((rd_T88 l0 x13_1).f1).toList) == (((rd_T88 l1 x13_1).f1).toList)) || (!((((rd_T88 l0 x13_1).f2).toList) == (((rd_T88 l1 x13_1).f2).toList)) || (!(((rd_T88 l0 x13_1).f3) == ((rd_T88 l1 x13_1).f3)) || (!(((rd_T88 l0 x13_1).f4) == ((rd_T88 l1 x13_1).f4))))))) = true := c8
      clear c8
      obtain rfl := Option.some.inj H
      have p181 : 0 ≤ (x13_1 : Int) := ode
      have q181 : x13_1 < (l0.length : Int) := ode
      obtain ⟨ad181, e181, hx181_0, hx181_1, hx181_2, hx181_3, hx181_4⟩ := at_T88 HR0.out x13_1 p181 q181
      cases e181
      replace p181 := eq_true p181
      replace q181 := eq_true q181
      have p182 : 0 ≤ (x13_1 : Int) := ode
      have q182 : x13_1 < (l1.length : Int) := ode
      obtain ⟨ad182, e182, hx182_0, hx182_1, hx182_2, hx182_3, hx182_4⟩ := at_T88 HR1.out x13_1 p182 q182
      cases e182
      replace p182 := eq_true p182
      replace q182 := eq_true q182
      go_wp2
      repeat (go_quiet (fail); try go_wp2)
      go_ret
      exact ⟨by first | rfl | (simp; done) | (simp [*]; done), by repeat (first | exact Drawn0.refl _ | apply Drawn0.step)⟩
     have c8b0 : (!(((rd_T88 l0 x13_1).f0) == ((rd_T88 l1 x13_1).f0)) || (!((((rd_T88 l0 x13_1).f1).toList) == (((rd_T88 l1 x13_1).f1).toList)) || (!((((rd_T88 l0 x13_1).f2).toList) == (((rd_T88 l1 x13_1).f2).toList)) || (!(((rd_T88 l0 x13_1).f3) == ((rd_T88 l1 x13_1).f3)) || (!(((rd_T88 l0 x13_1).f4) == ((rd_T88 l1 x13_1).f4))))))) = false := by simpa using c8
     clear c8
     have H' := am H; clear H
     have p181 : 0 ≤ (x13_1 : Int) := ode
     have q181 : x13_1 < (l0.length : Int) := ode
     obtain ⟨ad181, e181, hx181_0, hx181_1, hx181_2, hx181_3, hx181_4⟩ := at_T88 HR0.out x13_1 p181 q181
     cases e181
     replace p181 := eq_true p181
     replace q181 := eq_true q181
     have p182 : 0 ≤ (x13_1 : Int) := ode
     have q182 : x13_1 < (l1.length : Int) := ode
     obtain ⟨ad182, e182, hx182_0, hx182_1, hx182_2, hx182_3, hx182_4⟩ := at_T88 HR1.out x13_1 p182 q182
     cases e182
     replace p182 := eq_true p182
     replace q182 := eq_true q182
     go_wp2
     repeat (go_quiet (fail); try go_wp2)
     go_roundg k1
     case measure => have := HK1.out; omega
     case rel => exact ⟨(wrap64 (x13_1 + 1)), (by first | rfl | (simp; done) | (simp [*]; done)), H', ⟨by have := HK1.out; omega⟩, by repeat (first | exact Drawn0.refl _ | apply Drawn0.step)⟩
    obtain rfl := Option.some.inj H
    go_wp2
    repeat (go_quiet (fail); try go_wp2)
    go_ret
    exact ⟨by first | rfl | (simp; done) | (simp [*]; done), by repeat (first | exact Drawn0.refl _ | apply Drawn0.step)⟩
 have c3b2 : (l0.length == l1.length) = false := by first | simpa using c3 | (simp at c3 ⊢; omega)
 obtain rfl := Option.some.inj H
 go_enter Try.func59, Try.ntmps59
 go_wp2
 repeat (go_quiet (fail); try go_wp2)
 go_ret
 exact ⟨by first | rfl | (simp; done) | (simp [*]; done), by repeat (first | exact Drawn0.refl _ | apply Drawn0.step)⟩

/-! ### impl_ProductSame: function 21 -/
def impl_ProductSame.f (k : Nat) (a0_0 : ByteArray) (a0_1 : Int) (l0_2 : List ByteArray) (l0_3 : List ByteArray) (l0_4 : List (S82)) (l0_5 : List (S88)) (l0_6 : List (S88)) (l0_7 : List (S88)) (a1_0 : ByteArray) (a1_1 : Int) (l1_2 : List ByteArray) (l1_3 : List ByteArray) (l1_4 : List (S82)) (l1_5 : List (S88)) (l1_6 : List (S88)) (l1_7 : List (S88)) : Option (Bool) := if a0_0.toList = a1_0.toList then ((impl_sameFace.f k a0_0 a0_1 l0_2 l0_3 l0_4 l0_5 l0_6 l0_7 a1_0 a1_1 l1_2 l1_3 l1_4 l1_5 l1_6 l1_7).bind fun t185 => (if t185 = true then ((impl_Node.f k l0_5 l1_5).bind fun t186 => (if t186 = true then ((impl_Node.f k l0_6 l1_6).bind fun t187 => (if t187 = true then ((impl_Node.f k l0_7 l1_7).bind fun t188 => (some t188)) else (some false))) else (some false))) else (some false))) else (some false)
theorem impl_ProductSame.mono : ∀ a0 a1 a2 a3 a4 a5 a6 a7 a8 a9 a10 a11 a12 a13 a14 a15 k, LeO (impl_ProductSame.f k a0 a1 a2 a3 a4 a5 a6 a7 a8 a9 a10 a11 a12 a13 a14 a15) (impl_ProductSame.f (k + 1) a0 a1 a2 a3 a4 a5 a6 a7 a8 a9 a10 a11 a12 a13 a14 a15) := by
 intro a0 a1 a2 a3 a4 a5 a6 a7 a8 a9 a10 a11 a12 a13 a14 a15 k
 unfold impl_ProductSame.f
 repeat' (with_reducible first | exact impl_Node.mono .. | exact impl_sameFace.mono .. | exact LeO.refl _ | exact LeO.none _ | refine LeO.ite ?_ ?_ | refine LeO.bind ?_ (fun _ => ?_))
theorem impl_ProductSame.calls (k : Nat) (a0_0 : ByteArray) (a0_1 : Int) (A0_2 : Option Addr) (c0_2 : Nat) (l0_2 : List ByteArray) (A0_3 : Option Addr) (c0_3 : Nat) (l0_3 : List ByteArray) (A0_4 : Option Addr) (c0_4 : Nat) (l0_4 : List (S82)) (A0_5 : Option Addr) (c0_5 : Nat) (l0_5 : List (S88)) (A0_6 : Option Addr) (c0_6 : Nat) (l0_6 : List (S88)) (A0_7 : Option Addr) (c0_7 : Nat) (l0_7 : List (S88)) (a1_0 : ByteArray) (a1_1 : Int) (A1_2 : Option Addr) (c1_2 : Nat) (l1_2 : List ByteArray) (A1_3 : Option Addr) (c1_3 : Nat) (l1_3 : List ByteArray) (A1_4 : Option Addr) (c1_4 : Nat) (l1_4 : List (S82)) (A1_5 : Option Addr) (c1_5 : Nat) (l1_5 : List (S88)) (A1_6 : Option Addr) (c1_6 : Nat) (l1_6 : List (S88)) (A1_7 : Option Addr) (c1_7 : Nat) (l1_7 : List (S88)) (r : Bool) (w : World) (hr0_2 : Kd.C Kd.string w A0_2 l0_2.length l0_2) (hc0_2 : l0_2.length ≤ c0_2) (hr0_3 : Kd.C Kd.string w A0_3 l0_3.length l0_3) (hc0_3 : l0_3.length ≤ c0_3) (hr0_4 : Kd.C k82 w A0_4 l0_4.length l0_4) (hc0_4 : l0_4.length ≤ c0_4) (hr0_5 : Kd.C k88 w A0_5 l0_5.length l0_5) (hc0_5 : l0_5.length ≤ c0_5) (hr0_6 : Kd.C k88 w A0_6 l0_6.length l0_6) (hc0_6 : l0_6.length ≤ c0_6) (hr0_7 : Kd.C k88 w A0_7 l0_7.length l0_7) (hc0_7 : l0_7.length ≤ c0_7) (hr1_2 : Kd.C Kd.string w A1_2 l1_2.length l1_2) (hc1_2 : l1_2.length ≤ c1_2) (hr1_3 : Kd.C Kd.string w A1_3 l1_3.length l1_3) (hc1_3 : l1_3.length ≤ c1_3) (hr1_4 : Kd.C k82 w A1_4 l1_4.length l1_4) (hc1_4 : l1_4.length ≤ c1_4) (hr1_5 : Kd.C k88 w A1_5 l1_5.length l1_5) (hc1_5 : l1_5.length ≤ c1_5) (hr1_6 : Kd.C k88 w A1_6 l1_6.length l1_6) (hc1_6 : l1_6.length ≤ c1_6) (hr1_7 : Kd.C k88 w A1_7 l1_7.length l1_7) (hc1_7 : l1_7.length ≤ c1_7) (h : impl_ProductSame.f k a0_0 a0_1 l0_2 l0_3 l0_4 l0_5 l0_6 l0_7 a1_0 a1_1 l1_2 l1_3 l1_4 l1_5 l1_6 l1_7 = some r) :
  Calls Try.prog 21 #[.agg #[.string a0_0, .int .i64 a0_1, .slice A0_2 l0_2.length c0_2, .slice A0_3 l0_3.length c0_3, .slice A0_4 l0_4.length c0_4, .slice A0_5 l0_5.length c0_5, .slice A0_6 l0_6.length c0_6, .slice A0_7 l0_7.length c0_7], .agg #[.string a1_0, .int .i64 a1_1, .slice A1_2 l1_2.length c1_2, .slice A1_3 l1_3.length c1_3, .slice A1_4 l1_4.length c1_4, .slice A1_5 l1_5.length c1_5, .slice A1_6 l1_6.length c1_6, .slice A1_7 l1_7.length c1_7]] w fun e w' => e = .returned (.bool r) ∧ Below w.heap.size w w' := by
 have hu41 := Try.underlying41
 have HR0_2 := am hr0_2
 have HC0_2 := am hc0_2
 clear hr0_2 hc0_2
 have HR0_3 := am hr0_3
 have HC0_3 := am hc0_3
 clear hr0_3 hc0_3
 have HR0_4 := am hr0_4
 have HC0_4 := am hc0_4
 clear hr0_4 hc0_4
 have HR0_5 := am hr0_5
 have HC0_5 := am hc0_5
 clear hr0_5 hc0_5
 have HR0_6 := am hr0_6
 have HC0_6 := am hc0_6
 clear hr0_6 hc0_6
 have HR0_7 := am hr0_7
 have HC0_7 := am hc0_7
 clear hr0_7 hc0_7
 have HR1_2 := am hr1_2
 have HC1_2 := am hc1_2
 clear hr1_2 hc1_2
 have HR1_3 := am hr1_3
 have HC1_3 := am hc1_3
 clear hr1_3 hc1_3
 have HR1_4 := am hr1_4
 have HC1_4 := am hc1_4
 clear hr1_4 hc1_4
 have HR1_5 := am hr1_5
 have HC1_5 := am hc1_5
 clear hr1_5 hc1_5
 have HR1_6 := am hr1_6
 have HC1_6 := am hc1_6
 clear hr1_6 hc1_6
 have HR1_7 := am hr1_7
 have HC1_7 := am hc1_7
 clear hr1_7 hc1_7
 have HB := am (Below.refl w.heap.size w)
 have H := h
 clear h
 unfold impl_ProductSame.f at H
 revert H; refine iQ (fun c3b0 c3b1 H => ?_) fun c3 c3b0 c3b1 H => ?_
 ·revert H; refine bj fun t185 A4 H => ?_
  replace H := iT H; rcases H with ⟨rfl, H⟩ | ⟨rfl, H⟩
  ·revert H; refine bj fun t186 A6 H => ?_
   replace H := iT H; rcases H with ⟨rfl, H⟩ | ⟨rfl, H⟩
   ·revert H; refine bj fun t187 A8 H => ?_
    replace H := iT H; rcases H with ⟨rfl, H⟩ | ⟨rfl, H⟩
    ·revert H; refine bj fun t188 A10 H => ?_
     obtain rfl := Option.some.inj H
     go_enter Try.func21, Try.ntmps21
     go_wp2_with (first | (refine bx 2 #[.string a0_0, .int .i64 a0_1, .slice A0_2 l0_2.length c0_2, .slice A0_3 l0_3.length c0_3, .slice A0_4 l0_4.length c0_4, .slice A0_5 l0_5.length c0_5, .slice A0_6 l0_6.length c0_6, .slice A0_7 l0_7.length c0_7] 41 ?_; intro gb183 hg w11 hbox hb; have BK183 := am (hbox); have GW183 := am (bsz hg : w.heap.size ≤ gb183); have GE183 := GW183; replace HB := am (below_step bl hb); clear hb hbox hg) | (refine bx 3 #[.string a1_0, .int .i64 a1_1, .slice A1_2 l1_2.length c1_2, .slice A1_3 l1_3.length c1_3, .slice A1_4 l1_4.length c1_4, .slice A1_5 l1_5.length c1_5, .slice A1_6 l1_6.length c1_6, .slice A1_7 l1_7.length c1_7] 41 ?_; intro gb184 hg w12 hbox hb; have BK184 := am (hbox); have GW184 := am (bsz hg : w.heap.size ≤ gb184); have GE184 := GW184; have NB183_184 := am (ne1 hg BK183.out); have NB184_183 := am NB183_184.out.symm; replace BK183 := am (bkb BK183.out hb); replace HB := am (below_step bl hb); clear hb hbox hg; have hnb13 := NB183_184.out; have hnc13 := NB184_183.out; obtain ⟨z14_0, z14_1, z14_2, z14_3, z14_4, z14_5, z14_6, z14_7, y14_0, y14_1, y14_2, y14_3, y14_4, y14_5, y14_6, y14_7⟩ := blk8 BK183.out; obtain ⟨z15_0, z15_1, z15_2, z15_3, z15_4, z15_5, z15_6, z15_7, y15_0, y15_1, y15_2, y15_3, y15_4, y15_5, y15_6, y15_7⟩ := blk8 BK184.out) | (go_at_call 58; (with_reducible refine (impl_sameFace.calls _ _ _ _ _ _ _ _ _ _ _ _ _ _ _ _ _ _ _ _ _ _ _ _ _ _ _ _ _ _ _ _ _ _ _ _ _ _ _ _ _ _ _ ?side1 ?side2 ?side3 ?side4 ?side5 ?side6 ?side7 ?side8 ?side9 ?side10 ?side11 ?side12 ?side13 ?side14 ?side15 ?side16 ?side17 ?side18 ?side19 ?side20 ?side21 ?side22 ?side23 ?side24 A4.out).mono ?_); (case side1 => exact cb HR0_2.out); (case side2 => exact HC0_2.out); (case side3 => exact cb HR0_3.out); (case side4 => exact HC0_3.out); (case side5 => exact cb HR0_4.out); (case side6 => exact HC0_4.out); (case side7 => exact cb HR0_5.out); (case side8 => exact HC0_5.out); (case side9 => exact cb HR0_6.out); (case side10 => exact HC0_6.out); (case side11 => exact cb HR0_7.out); (case side12 => exact HC0_7.out); (case side13 => exact cb HR1_2.out); (case side14 => exact HC1_2.out); (case side15 => exact cb HR1_3.out); (case side16 => exact HC1_3.out); (case side17 => exact cb HR1_4.out); (case side18 => exact HC1_4.out); (case side19 => exact cb HR1_5.out); (case side20 => exact HC1_5.out); (case side21 => exact cb HR1_6.out); (case side22 => exact HC1_6.out); (case side23 => exact cb HR1_7.out); (case side24 => exact HC1_7.out); rintro e w16 ⟨rfl, hb⟩; replace BK183 := am (bkb BK183.out hb); replace BK184 := am (bkb BK184.out hb); replace HB := am (below_step bl hb); clear hb; obtain ⟨z17_0, z17_1, z17_2, z17_3, z17_4, z17_5, z17_6, z17_7, y17_0, y17_1, y17_2, y17_3, y17_4, y17_5, y17_6, y17_7⟩ := blk8 BK183.out; obtain ⟨z18_0, z18_1, z18_2, z18_3, z18_4, z18_5, z18_6, z18_7, y18_0, y18_1, y18_2, y18_3, y18_4, y18_5, y18_6, y18_7⟩ := blk8 BK184.out) | (go_at_call 59; (with_reducible refine (impl_Node.calls _ _ _ _ _ _ _ _ _ ?side1 ?side2 ?side3 ?side4 A6.out).mono ?_); (case side1 => exact cb HR0_5.out); (case side2 => exact HC0_5.out); (case side3 => exact cb HR1_5.out); (case side4 => exact HC1_5.out); rintro e w' ⟨rfl, ⟨nd, rfl⟩⟩) | (go_at_call 59; (with_reducible refine (impl_Node.calls _ _ _ _ _ _ _ _ _ ?side1 ?side2 ?side3 ?side4 A8.out).mono ?_); (case side1 => exact Kd.C_below HR0_6.out bl); (case side2 => exact HC0_6.out); (case side3 => exact Kd.C_below HR1_6.out bl); (case side4 => exact HC1_6.out); rintro e w' ⟨rfl, ⟨nd, rfl⟩⟩) | (go_at_call 59; (with_reducible refine (impl_Node.calls _ _ _ _ _ _ _ _ _ ?side1 ?side2 ?side3 ?side4 A10.out).mono ?_); (case side1 => exact Kd.C_below HR0_7.out bl); (case side2 => exact HC0_7.out); (case side3 => exact Kd.C_below HR1_7.out bl); (case side4 => exact HC1_7.out); rintro e w' ⟨rfl, ⟨nd, rfl⟩⟩))
     go_ret
     exact ⟨er, bl⟩
    obtain rfl := Option.some.inj H
    go_enter Try.func21, Try.ntmps21
    go_wp2_with (first | (refine bx 2 #[.string a0_0, .int .i64 a0_1, .slice A0_2 l0_2.length c0_2, .slice A0_3 l0_3.length c0_3, .slice A0_4 l0_4.length c0_4, .slice A0_5 l0_5.length c0_5, .slice A0_6 l0_6.length c0_6, .slice A0_7 l0_7.length c0_7] 41 ?_; intro gb183 hg w19 hbox hb; have BK183 := am (hbox); have GW183 := am (bsz hg : w.heap.size ≤ gb183); have GE183 := GW183; replace HB := am (below_step bl hb); clear hb hbox hg) | (refine bx 3 #[.string a1_0, .int .i64 a1_1, .slice A1_2 l1_2.length c1_2, .slice A1_3 l1_3.length c1_3, .slice A1_4 l1_4.length c1_4, .slice A1_5 l1_5.length c1_5, .slice A1_6 l1_6.length c1_6, .slice A1_7 l1_7.length c1_7] 41 ?_; intro gb184 hg w20 hbox hb; have BK184 := am (hbox); have GW184 := am (bsz hg : w.heap.size ≤ gb184); have GE184 := GW184; have NB183_184 := am (ne1 hg BK183.out); have NB184_183 := am NB183_184.out.symm; replace BK183 := am (bkb BK183.out hb); replace HB := am (below_step bl hb); clear hb hbox hg; have hnb21 := NB183_184.out; have hnc21 := NB184_183.out; obtain ⟨z22_0, z22_1, z22_2, z22_3, z22_4, z22_5, z22_6, z22_7, y22_0, y22_1, y22_2, y22_3, y22_4, y22_5, y22_6, y22_7⟩ := blk8 BK183.out; obtain ⟨z23_0, z23_1, z23_2, z23_3, z23_4, z23_5, z23_6, z23_7, y23_0, y23_1, y23_2, y23_3, y23_4, y23_5, y23_6, y23_7⟩ := blk8 BK184.out) | (go_at_call 58; (with_reducible refine (impl_sameFace.calls _ _ _ _ _ _ _ _ _ _ _ _ _ _ _ _ _ _ _ _ _ _ _ _ _ _ _ _ _ _ _ _ _ _ _ _ _ _ _ _ _ _ _ ?side1 ?side2 ?side3 ?side4 ?side5 ?side6 ?side7 ?side8 ?side9 ?side10 ?side11 ?side12 ?side13 ?side14 ?side15 ?side16 ?side17 ?side18 ?side19 ?side20 ?side21 ?side22 ?side23 ?side24 A4.out).mono ?_); (case side1 => exact cb HR0_2.out); (case side2 => exact HC0_2.out); (case side3 => exact cb HR0_3.out); (case side4 => exact HC0_3.out); (case side5 => exact cb HR0_4.out); (case side6 => exact HC0_4.out); (case side7 => exact cb HR0_5.out); (case side8 => exact HC0_5.out); (case side9 => exact cb HR0_6.out); (case side10 => exact HC0_6.out); (case side11 => exact cb HR0_7.out); (case side12 => exact HC0_7.out); (case side13 => exact cb HR1_2.out); (case side14 => exact HC1_2.out); (case side15 => exact cb HR1_3.out); (case side16 => exact HC1_3.out); (case side17 => exact cb HR1_4.out); (case side18 => exact HC1_4.out); (case side19 => exact cb HR1_5.out); (case side20 => exact HC1_5.out); (case side21 => exact cb HR1_6.out); (case side22 => exact HC1_6.out); (case side23 => exact cb HR1_7.out); (case side24 => exact HC1_7.out); rintro e w24 ⟨rfl, hb⟩; replace BK183 := am (bkb BK183.out hb); replace BK184 := am (bkb BK184.out hb); replace HB := am (below_step bl hb); clear hb; obtain ⟨z25_0, z25_1, z25_2, z25_3, z25_4, z25_5, z25_6, z25_7, y25_0, y25_1, y25_2, y25_3, y25_4, y25_5, y25_6, y25_7⟩ := blk8 BK183.out; obtain ⟨z26_0, z26_1, z26_2, z26_3, z26_4, z26_5, z26_6, z26_7, y26_0, y26_1, y26_2, y26_3, y26_4, y26_5, y26_6, y26_7⟩ := blk8 BK184.out) | (go_at_call 59; (with_reducible refine (impl_Node.calls _ _ _ _ _ _ _ _ _ ?side1 ?side2 ?side3 ?side4 A6.out).mono ?_); (case side1 => exact cb HR0_5.out); (case side2 => exact HC0_5.out); (case side3 => exact cb HR1_5.out); (case side4 => exact HC1_5.out); rintro e w' ⟨rfl, ⟨nd, rfl⟩⟩) | (go_at_call 59; (with_reducible refine (impl_Node.calls _ _ _ _ _ _ _ _ _ ?side1 ?side2 ?side3 ?side4 A8.out).mono ?_); (case side1 => exact Kd.C_below HR0_6.out bl); (case side2 => exact HC0_6.out); (case side3 => exact Kd.C_below HR1_6.out bl); (case side4 => exact HC1_6.out); rintro e w' ⟨rfl, ⟨nd, rfl⟩⟩))
    go_ret
    exact ⟨er, bl⟩
   obtain rfl := Option.some.inj H
   go_enter Try.func21, Try.ntmps21
   go_wp2_with (first | (refine bx 2 #[.string a0_0, .int .i64 a0_1, .slice A0_2 l0_2.length c0_2, .slice A0_3 l0_3.length c0_3, .slice A0_4 l0_4.length c0_4, .slice A0_5 l0_5.length c0_5, .slice A0_6 l0_6.length c0_6, .slice A0_7 l0_7.length c0_7] 41 ?_; intro gb183 hg w27 hbox hb; have BK183 := am (hbox); have GW183 := am (bsz hg : w.heap.size ≤ gb183); have GE183 := GW183; replace HB := am (below_step bl hb); clear hb hbox hg) | (refine bx 3 #[.string a1_0, .int .i64 a1_1, .slice A1_2 l1_2.length c1_2, .slice A1_3 l1_3.length c1_3, .slice A1_4 l1_4.length c1_4, .slice A1_5 l1_5.length c1_5, .slice A1_6 l1_6.length c1_6, .slice A1_7 l1_7.length c1_7] 41 ?_; intro gb184 hg w28 hbox hb; have BK184 := am (hbox); have GW184 := am (bsz hg : w.heap.size ≤ gb184); have GE184 := GW184; have NB183_184 := am (ne1 hg BK183.out); have NB184_183 := am NB183_184.out.symm; replace BK183 := am (bkb BK183.out hb); replace HB := am (below_step bl hb); clear hb hbox hg; have hnb29 := NB183_184.out; have hnc29 := NB184_183.out; obtain ⟨z30_0, z30_1, z30_2, z30_3, z30_4, z30_5, z30_6, z30_7, y30_0, y30_1, y30_2, y30_3, y30_4, y30_5, y30_6, y30_7⟩ := blk8 BK183.out; obtain ⟨z31_0, z31_1, z31_2, z31_3, z31_4, z31_5, z31_6, z31_7, y31_0, y31_1, y31_2, y31_3, y31_4, y31_5, y31_6, y31_7⟩ := blk8 BK184.out) | (go_at_call 58; (with_reducible refine (impl_sameFace.calls _ _ _ _ _ _ _ _ _ _ _ _ _ _ _ _ _ _ _ _ _ _ _ _ _ _ _ _ _ _ _ _ _ _ _ _ _ _ _ _ _ _ _ ?side1 ?side2 ?side3 ?side4 ?side5 ?side6 ?side7 ?side8 ?side9 ?side10 ?side11 ?side12 ?side13 ?side14 ?side15 ?side16 ?side17 ?side18 ?side19 ?side20 ?side21 ?side22 ?side23 ?side24 A4.out).mono ?_); (case side1 => exact cb HR0_2.out); (case side2 => exact HC0_2.out); (case side3 => exact cb HR0_3.out); (case side4 => exact HC0_3.out); (case side5 => exact cb HR0_4.out); (case side6 => exact HC0_4.out); (case side7 => exact cb HR0_5.out); (case side8 => exact HC0_5.out); (case side9 => exact cb HR0_6.out); (case side10 => exact HC0_6.out); (case side11 => exact cb HR0_7.out); (case side12 => exact HC0_7.out); (case side13 => exact cb HR1_2.out); (case side14 => exact HC1_2.out); (case side15 => exact cb HR1_3.out); (case side16 => exact HC1_3.out); (case side17 => exact cb HR1_4.out); (case side18 => exact HC1_4.out); (case side19 => exact cb HR1_5.out); (case side20 => exact HC1_5.out); (case side21 => exact cb HR1_6.out); (case side22 => exact HC1_6.out); (case side23 => exact cb HR1_7.out); (case side24 => exact HC1_7.out); rintro e w32 ⟨rfl, hb⟩; replace BK183 := am (bkb BK183.out hb); replace BK184 := am (bkb BK184.out hb); replace HB := am (below_step bl hb); clear hb; obtain ⟨z33_0, z33_1, z33_2, z33_3, z33_4, z33_5, z33_6, z33_7, y33_0, y33_1, y33_2, y33_3, y33_4, y33_5, y33_6, y33_7⟩ := blk8 BK183.out; obtain ⟨z34_0, z34_1, z34_2, z34_3, z34_4, z34_5, z34_6, z34_7, y34_0, y34_1, y34_2, y34_3, y34_4, y34_5, y34_6, y34_7⟩ := blk8 BK184.out) | (go_at_call 59; (with_reducible refine (impl_Node.calls _ _ _ _ _ _ _ _ _ ?side1 ?side2 ?side3 ?side4 A6.out).mono ?_); (case side1 => exact cb HR0_5.out); (case side2 => exact HC0_5.out); (case side3 => exact cb HR1_5.out); (case side4 => exact HC1_5.out); rintro e w' ⟨rfl, ⟨nd, rfl⟩⟩))
   go_ret
   exact ⟨er, bl⟩
  obtain rfl := Option.some.inj H
  go_enter Try.func21, Try.ntmps21
  go_wp2_with (first | (refine bx 2 #[.string a0_0, .int .i64 a0_1, .slice A0_2 l0_2.length c0_2, .slice A0_3 l0_3.length c0_3, .slice A0_4 l0_4.length c0_4, .slice A0_5 l0_5.length c0_5, .slice A0_6 l0_6.length c0_6, .slice A0_7 l0_7.length c0_7] 41 ?_; intro gb183 hg w35 hbox hb; have BK183 := am (hbox); have GW183 := am (bsz hg : w.heap.size ≤ gb183); have GE183 := GW183; replace HB := am (below_step bl hb); clear hb hbox hg) | (refine bx 3 #[.string a1_0, .int .i64 a1_1, .slice A1_2 l1_2.length c1_2, .slice A1_3 l1_3.length c1_3, .slice A1_4 l1_4.length c1_4, .slice A1_5 l1_5.length c1_5, .slice A1_6 l1_6.length c1_6, .slice A1_7 l1_7.length c1_7] 41 ?_; intro gb184 hg w36 hbox hb; have BK184 := am (hbox); have GW184 := am (bsz hg : w.heap.size ≤ gb184); have GE184 := GW184; have NB183_184 := am (ne1 hg BK183.out); have NB184_183 := am NB183_184.out.symm; replace BK183 := am (bkb BK183.out hb); replace HB := am (below_step bl hb); clear hb hbox hg; have hnb37 := NB183_184.out; have hnc37 := NB184_183.out; obtain ⟨z38_0, z38_1, z38_2, z38_3, z38_4, z38_5, z38_6, z38_7, y38_0, y38_1, y38_2, y38_3, y38_4, y38_5, y38_6, y38_7⟩ := blk8 BK183.out; obtain ⟨z39_0, z39_1, z39_2, z39_3, z39_4, z39_5, z39_6, z39_7, y39_0, y39_1, y39_2, y39_3, y39_4, y39_5, y39_6, y39_7⟩ := blk8 BK184.out) | (go_at_call 58; (with_reducible refine (impl_sameFace.calls _ _ _ _ _ _ _ _ _ _ _ _ _ _ _ _ _ _ _ _ _ _ _ _ _ _ _ _ _ _ _ _ _ _ _ _ _ _ _ _ _ _ _ ?side1 ?side2 ?side3 ?side4 ?side5 ?side6 ?side7 ?side8 ?side9 ?side10 ?side11 ?side12 ?side13 ?side14 ?side15 ?side16 ?side17 ?side18 ?side19 ?side20 ?side21 ?side22 ?side23 ?side24 A4.out).mono ?_); (case side1 => exact cb HR0_2.out); (case side2 => exact HC0_2.out); (case side3 => exact cb HR0_3.out); (case side4 => exact HC0_3.out); (case side5 => exact cb HR0_4.out); (case side6 => exact HC0_4.out); (case side7 => exact cb HR0_5.out); (case side8 => exact HC0_5.out); (case side9 => exact cb HR0_6.out); (case side10 => exact HC0_6.out); (case side11 => exact cb HR0_7.out); (case side12 => exact HC0_7.out); (case side13 => exact cb HR1_2.out); (case side14 => exact HC1_2.out); (case side15 => exact cb HR1_3.out); (case side16 => exact HC1_3.out); (case side17 => exact cb HR1_4.out); (case side18 => exact HC1_4.out); (case side19 => exact cb HR1_5.out); (case side20 => exact HC1_5.out); (case side21 => exact cb HR1_6.out); (case side22 => exact HC1_6.out); (case side23 => exact cb HR1_7.out); (case side24 => exact HC1_7.out); rintro e w40 ⟨rfl, hb⟩; replace BK183 := am (bkb BK183.out hb); replace BK184 := am (bkb BK184.out hb); replace HB := am (below_step bl hb); clear hb))
  go_ret
  exact ⟨er, bl⟩
 obtain rfl := Option.some.inj H
 go_enter Try.func21, Try.ntmps21
 go_wp2_with (first | (refine bx 2 #[.string a0_0, .int .i64 a0_1, .slice A0_2 l0_2.length c0_2, .slice A0_3 l0_3.length c0_3, .slice A0_4 l0_4.length c0_4, .slice A0_5 l0_5.length c0_5, .slice A0_6 l0_6.length c0_6, .slice A0_7 l0_7.length c0_7] 41 ?_; intro gb183 hg w41 hbox hb; have BK183 := am (hbox); have GW183 := am (bsz hg : w.heap.size ≤ gb183); have GE183 := GW183; replace HB := am (below_step bl hb); clear hb hbox hg) | (refine bx 3 #[.string a1_0, .int .i64 a1_1, .slice A1_2 l1_2.length c1_2, .slice A1_3 l1_3.length c1_3, .slice A1_4 l1_4.length c1_4, .slice A1_5 l1_5.length c1_5, .slice A1_6 l1_6.length c1_6, .slice A1_7 l1_7.length c1_7] 41 ?_; intro gb184 hg w42 hbox hb; have BK184 := am (hbox); have GW184 := am (bsz hg : w.heap.size ≤ gb184); have GE184 := GW184; have NB183_184 := am (ne1 hg BK183.out); have NB184_183 := am NB183_184.out.symm; replace BK183 := am (bkb BK183.out hb); replace HB := am (below_step bl hb); clear hb hbox hg; have hnb43 := NB183_184.out; have hnc43 := NB184_183.out; obtain ⟨z44_0, z44_1, z44_2, z44_3, z44_4, z44_5, z44_6, z44_7, y44_0, y44_1, y44_2, y44_3, y44_4, y44_5, y44_6, y44_7⟩ := blk8 BK183.out; obtain ⟨z45_0, z45_1, z45_2, z45_3, z45_4, z45_5, z45_6, z45_7, y45_0, y45_1, y45_2, y45_3, y45_4, y45_5, y45_6, y45_7⟩ := blk8 BK184.out))
 go_ret
 exact ⟨er, bl⟩

/-! ### laws_eqStringS: function 60 -/
def laws_eqStringS.l0 : Nat → List ByteArray → List ByteArray → Int → Option (Bool)
 | 0, _, _, _ => none
 | k + 1, x0, x1, x5 => if x5 < (x0.length : Int) then (if 0 ≤ x5 then (if x5 < (x1.length : Int) then (if (rdOf ByteArray.empty x0 x5).toList = (rdOf ByteArray.empty x1 x5).toList then (laws_eqStringS.l0 k x0 x1 (wrap64 (x5 + 1))) else (some false)) else (none)) else (none)) else (some true)
def laws_eqStringS.f (k : Nat) (l0 : List ByteArray) (l1 : List ByteArray) : Option (Bool) := if (l0.length : Int) = (l1.length : Int) then (laws_eqStringS.l0 k l0 l1 0) else (some false)
theorem laws_eqStringS.mono_l : ∀ k, (∀ y0 y1 y2, LeO (laws_eqStringS.l0 k y0 y1 y2) (laws_eqStringS.l0 (k + 1) y0 y1 y2))
 | 0 => fun _ _ _ r h => by simp [laws_eqStringS.l0] at h
 | k + 1 => by
  have ih0 := laws_eqStringS.mono_l k
  ·intro y0 y1 y2
   unfold laws_eqStringS.l0
   exact mo
theorem laws_eqStringS.mono : ∀ a0 a1 k, LeO (laws_eqStringS.f k a0 a1) (laws_eqStringS.f (k + 1) a0 a1) := by
 intro a0 a1 k
 have ih0 := laws_eqStringS.mono_l k
 unfold laws_eqStringS.f
 exact mo
theorem laws_eqStringS.calls (k : Nat) (A0 : Option Addr) (c0 : Nat) (l0 : List ByteArray) (A1 : Option Addr) (c1 : Nat) (l1 : List ByteArray) (r : Bool) (w : World) (hr0 : Kd.C Kd.string w A0 l0.length l0) (hc0 : l0.length ≤ c0) (hr1 : Kd.C Kd.string w A1 l1.length l1) (hc1 : l1.length ≤ c1) (h : laws_eqStringS.f k l0 l1 = some r) :
  Calls Try.prog 60 #[.slice A0 l0.length c0, .slice A1 l1.length c1] w fun e w' => e = .returned (.bool r) ∧ Drawn0 w w' := by
 have HR0 := am hr0
 have HC0 := am hc0
 clear hr0 hc0
 have HR1 := am hr1
 have HC1 := am hc1
 clear hr1 hc1
 have H := h
 clear h
 unfold laws_eqStringS.f at H
 revert H; refine iQn (fun c3 c3b0 c3b1 H => ?_) fun c3 c3b0 c3b1 H => ?_
 ·have c3b2 : (l0.length == l1.length) = true := by first | simpa using c3 | (simp at c3 ⊢; omega)
  clear c3
  have H' := am H; clear H
  go_enter Try.func60, Try.ntmps60
  go_wp2
  repeat (go_quiet (fail); try go_wp2)
  go_loopg [5] k (fun kq v5 w' => ∃ (x5_1 : Int), v5 = .int .i64 x5_1 ∧ Aside0 (laws_eqStringS.l0 kq l0 l1 x5_1 = some r) ∧ Aside0 (kq ≤ k) ∧ Drawn0 w w')
  case atStart => exact ⟨(0), (by first | rfl | (simp; done) | (simp [*]; done)), H', ⟨Nat.le_refl _⟩, by repeat (first | exact Drawn0.refl _ | apply Drawn0.step)⟩
  case round =>
   clear H'
   try clear c1; try clear c3; try clear c3b0; try clear c3b1; try clear c3b2
   obtain ⟨x5_1, rfl, HA, HK1, ⟨m1, rfl⟩⟩ := hrel
   cases gk with
   | zero => exact absurd HA.out (by simp [laws_eqStringS.l0])
   | succ k1 =>
    have H := HA.out
    clear HA
    simp only [laws_eqStringS.l0] at H
    revert H; refine iDb (fun c4b0 H => ?_) fun c4b0 H => ?_
    ·revert H; refine i1 fun c5b0 H => ?_
     revert H; refine i1 fun c6b0 H => ?_
     revert H; refine iQ (fun c7b0 c7b1 H => ?_) fun c7 c7b0 c7b1 H => ?_
     ·have H' := am H; clear H
      have p189 : 0 ≤ (x5_1 : Int) := ode
      have q189 : x5_1 < (l0.length : Int) := ode
      obtain ⟨ad189, e189, hx189_0⟩ := Kd.at_string HR0.out x5_1 p189 q189
      cases e189
      replace p189 := eq_true p189
      replace q189 := eq_true q189
      have p190 : 0 ≤ (x5_1 : Int) := ode
      have q190 : x5_1 < (l1.length : Int) := ode
      obtain ⟨ad190, e190, hx190_0⟩ := Kd.at_string HR1.out x5_1 p190 q190
      cases e190
      replace p190 := eq_true p190
      replace q190 := eq_true q190
      go_wp2
      repeat (go_quiet (fail); try go_wp2)
      go_roundg k1
      case measure => have := HK1.out; omega
      case rel => exact ⟨(wrap64 (x5_1 + 1)), (by first | rfl | (simp; done) | (simp [*]; done)), H', ⟨by have := HK1.out; omega⟩, by repeat (first | exact Drawn0.refl _ | apply Drawn0.step)⟩
     obtain rfl := Option.some.inj H
     have p189 : 0 ≤ (x5_1 : Int) := ode
     have q189 : x5_1 < (l0.length : Int) := ode
     obtain ⟨ad189, e189, hx189_0⟩ := Kd.at_string HR0.out x5_1 p189 q189
     cases e189
     replace p189 := eq_true p189
     replace q189 := eq_true q189
     have p190 : 0 ≤ (x5_1 : Int) := ode
     have q190 : x5_1 < (l1.length : Int) := ode
     obtain ⟨ad190, e190, hx190_0⟩ := Kd.at_string HR1.out x5_1 p190 q190
     cases e190
     replace p190 := eq_true p190
     replace q190 := eq_true q190
     go_wp2
     repeat (go_quiet (fail); try go_wp2)
     go_ret
     exact ⟨by first | rfl | (simp; done) | (simp [*]; done), by repeat (first | exact Drawn0.refl _ | apply Drawn0.step)⟩
    obtain rfl := Option.some.inj H
    go_wp2
    repeat (go_quiet (fail); try go_wp2)
    go_ret
    exact ⟨by first | rfl | (simp; done) | (simp [*]; done), by repeat (first | exact Drawn0.refl _ | apply Drawn0.step)⟩
 have c3b2 : (l0.length == l1.length) = false := by first | simpa using c3 | (simp at c3 ⊢; omega)
 obtain rfl := Option.some.inj H
 go_enter Try.func60, Try.ntmps60
 go_wp2
 repeat (go_quiet (fail); try go_wp2)
 go_ret
 exact ⟨by first | rfl | (simp; done) | (simp [*]; done), by repeat (first | exact Drawn0.refl _ | apply Drawn0.step)⟩

/-! ### laws_eqParam: function 92 -/
def laws_eqParam.f (a0_0 : ByteArray) (a0_1 : Int) (a0_2 : Int) (a0_3 : Int) (a1_0 : ByteArray) (a1_1 : Int) (a1_2 : Int) (a1_3 : Int) : Option (Bool) := if a0_0.toList = a1_0.toList then (if a0_1 = a1_1 then (if a0_2 = a1_2 then (if a0_3 = a1_3 then (some true) else (some false)) else (some false)) else (some false)) else (some false)
theorem laws_eqParam.calls (a0_0 : ByteArray) (a0_1 : Int) (a0_2 : Int) (a0_3 : Int) (a1_0 : ByteArray) (a1_1 : Int) (a1_2 : Int) (a1_3 : Int) (r : Bool) (w : World) (h : laws_eqParam.f a0_0 a0_1 a0_2 a0_3 a1_0 a1_1 a1_2 a1_3 = some r) :
  Calls Try.prog 92 #[.agg #[.string a0_0, .int .i64 a0_1, .int .i64 a0_2, .int .i64 a0_3], .agg #[.string a1_0, .int .i64 a1_1, .int .i64 a1_2, .int .i64 a1_3]] w fun e w' => e = .returned (.bool r) ∧ Below w.heap.size w w' := by
 have hu82 := Try.underlying82
 have HB := am (Below.refl w.heap.size w)
 have H := h
 clear h
 unfold laws_eqParam.f at H
 revert H; refine iQ (fun c3b0 c3b1 H => ?_) fun c3 c3b0 c3b1 H => ?_
 ·revert H; refine iQ (fun c4b0 c4b1 H => ?_) fun c4 c4b0 c4b1 H => ?_
  ·revert H; refine iQ (fun c5b0 c5b1 H => ?_) fun c5 c5b0 c5b1 H => ?_
   ·revert H; refine iQ (fun c6b0 c6b1 H => ?_) fun c6 c6b0 c6b1 H => ?_
    ·obtain rfl := Option.some.inj H
     go_enter Try.func92, Try.ntmps92
     go_wp2_with (first | (refine bx 2 #[.string a0_0, .int .i64 a0_1, .int .i64 a0_2, .int .i64 a0_3] 82 ?_; intro gb191 hg w7 hbox hb; have BK191 := am (hbox); have GW191 := am (bsz hg : w.heap.size ≤ gb191); have GE191 := GW191; replace HB := am (below_step bl hb); clear hb hbox hg) | (refine bx 3 #[.string a1_0, .int .i64 a1_1, .int .i64 a1_2, .int .i64 a1_3] 82 ?_; intro gb192 hg w8 hbox hb; have BK192 := am (hbox); have GW192 := am (bsz hg : w.heap.size ≤ gb192); have GE192 := GW192; have NB191_192 := am (ne1 hg BK191.out); have NB192_191 := am NB191_192.out.symm; replace BK191 := am (bkb BK191.out hb); replace HB := am (below_step bl hb); clear hb hbox hg; have hnb9 := NB191_192.out; have hnc9 := NB192_191.out; obtain ⟨z10_0, z10_1, z10_2, z10_3, y10_0, y10_1, y10_2, y10_3⟩ := blk4 BK191.out; obtain ⟨z11_0, z11_1, z11_2, z11_3, y11_0, y11_1, y11_2, y11_3⟩ := blk4 BK192.out))
     go_ret
     exact ⟨er, bl⟩
    obtain rfl := Option.some.inj H
    go_enter Try.func92, Try.ntmps92
    go_wp2_with (first | (refine bx 2 #[.string a0_0, .int .i64 a0_1, .int .i64 a0_2, .int .i64 a0_3] 82 ?_; intro gb191 hg w12 hbox hb; have BK191 := am (hbox); have GW191 := am (bsz hg : w.heap.size ≤ gb191); have GE191 := GW191; replace HB := am (below_step bl hb); clear hb hbox hg) | (refine bx 3 #[.string a1_0, .int .i64 a1_1, .int .i64 a1_2, .int .i64 a1_3] 82 ?_; intro gb192 hg w13 hbox hb; have BK192 := am (hbox); have GW192 := am (bsz hg : w.heap.size ≤ gb192); have GE192 := GW192; have NB191_192 := am (ne1 hg BK191.out); have NB192_191 := am NB191_192.out.symm; replace BK191 := am (bkb BK191.out hb); replace HB := am (below_step bl hb); clear hb hbox hg; have hnb14 := NB191_192.out; have hnc14 := NB192_191.out; obtain ⟨z15_0, z15_1, z15_2, z15_3, y15_0, y15_1, y15_2, y15_3⟩ := blk4 BK191.out; obtain ⟨z16_0, z16_1, z16_2, z16_3, y16_0, y16_1, y16_2, y16_3⟩ := blk4 BK192.out))
    go_ret
    exact ⟨er, bl⟩
   obtain rfl := Option.some.inj H
   go_enter Try.func92, Try.ntmps92
   go_wp2_with (first | (refine bx 2 #[.string a0_0, .int .i64 a0_1, .int .i64 a0_2, .int .i64 a0_3] 82 ?_; intro gb191 hg w17 hbox hb; have BK191 := am (hbox); have GW191 := am (bsz hg : w.heap.size ≤ gb191); have GE191 := GW191; replace HB := am (below_step bl hb); clear hb hbox hg) | (refine bx 3 #[.string a1_0, .int .i64 a1_1, .int .i64 a1_2, .int .i64 a1_3] 82 ?_; intro gb192 hg w18 hbox hb; have BK192 := am (hbox); have GW192 := am (bsz hg : w.heap.size ≤ gb192); have GE192 := GW192; have NB191_192 := am (ne1 hg BK191.out); have NB192_191 := am NB191_192.out.symm; replace BK191 := am (bkb BK191.out hb); replace HB := am (below_step bl hb); clear hb hbox hg; have hnb19 := NB191_192.out; have hnc19 := NB192_191.out; obtain ⟨z20_0, z20_1, z20_2, z20_3, y20_0, y20_1, y20_2, y20_3⟩ := blk4 BK191.out; obtain ⟨z21_0, z21_1, z21_2, z21_3, y21_0, y21_1, y21_2, y21_3⟩ := blk4 BK192.out))
   go_ret
   exact ⟨er, bl⟩
  obtain rfl := Option.some.inj H
  go_enter Try.func92, Try.ntmps92
  go_wp2_with (first | (refine bx 2 #[.string a0_0, .int .i64 a0_1, .int .i64 a0_2, .int .i64 a0_3] 82 ?_; intro gb191 hg w22 hbox hb; have BK191 := am (hbox); have GW191 := am (bsz hg : w.heap.size ≤ gb191); have GE191 := GW191; replace HB := am (below_step bl hb); clear hb hbox hg) | (refine bx 3 #[.string a1_0, .int .i64 a1_1, .int .i64 a1_2, .int .i64 a1_3] 82 ?_; intro gb192 hg w23 hbox hb; have BK192 := am (hbox); have GW192 := am (bsz hg : w.heap.size ≤ gb192); have GE192 := GW192; have NB191_192 := am (ne1 hg BK191.out); have NB192_191 := am NB191_192.out.symm; replace BK191 := am (bkb BK191.out hb); replace HB := am (below_step bl hb); clear hb hbox hg; have hnb24 := NB191_192.out; have hnc24 := NB192_191.out; obtain ⟨z25_0, z25_1, z25_2, z25_3, y25_0, y25_1, y25_2, y25_3⟩ := blk4 BK191.out; obtain ⟨z26_0, z26_1, z26_2, z26_3, y26_0, y26_1, y26_2, y26_3⟩ := blk4 BK192.out))
  go_ret
  exact ⟨er, bl⟩
 obtain rfl := Option.some.inj H
 go_enter Try.func92, Try.ntmps92
 go_wp2_with (first | (refine bx 2 #[.string a0_0, .int .i64 a0_1, .int .i64 a0_2, .int .i64 a0_3] 82 ?_; intro gb191 hg w27 hbox hb; have BK191 := am (hbox); have GW191 := am (bsz hg : w.heap.size ≤ gb191); have GE191 := GW191; replace HB := am (below_step bl hb); clear hb hbox hg) | (refine bx 3 #[.string a1_0, .int .i64 a1_1, .int .i64 a1_2, .int .i64 a1_3] 82 ?_; intro gb192 hg w28 hbox hb; have BK192 := am (hbox); have GW192 := am (bsz hg : w.heap.size ≤ gb192); have GE192 := GW192; have NB191_192 := am (ne1 hg BK191.out); have NB192_191 := am NB191_192.out.symm; replace BK191 := am (bkb BK191.out hb); replace HB := am (below_step bl hb); clear hb hbox hg; have hnb29 := NB191_192.out; have hnc29 := NB192_191.out; obtain ⟨z30_0, z30_1, z30_2, z30_3, y30_0, y30_1, y30_2, y30_3⟩ := blk4 BK191.out; obtain ⟨z31_0, z31_1, z31_2, z31_3, y31_0, y31_1, y31_2, y31_3⟩ := blk4 BK192.out))
 go_ret
 exact ⟨er, bl⟩

end Go.Proofs.Ytpblcdafmpfemaa.PFnExactProductSame
