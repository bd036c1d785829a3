-- laid by seedprint.py, a program of this session, over contracts that it gives by hand; Lean checks it
-- dented
import Derived.Test.YtpblcdafmpfemaaQMin
import Derived.Test.YtpblcdafmpfemaaQAut
import Derived.Test.YtpblcdafmpfemaaQBlk
import Derived.Test.YtpblcdafmpfemaaPFnExactProductSamex0
import Derived.Test.YtpblcdafmpfemaaPFnExactProductSamex3
import Derived.Test.YtpblcdafmpfemaaPFnExactProductSamex4
import Derived.Test.YtpblcdafmpfemaaPFnExactProductSamex5
import Derived.Test.YtpblcdafmpfemaaPFnExactProductSamex6
import Derived.Test.YtpblcdafmpfemaaPFnExactProductSamex8
namespace Go.Proofs.Ytpblcdafmpfemaa.PFnExactProductSame
open Go.RowKit Go.Proofs.YtpblcdafmpfemaaW.PrintWords Go.Proofs.YtpblcdafmpfemaaW.PrintLast Go.Proofs.YtpblcdafmpfemaaW.PrintMore
attribute [local go_sem] max2_int min2_int max_two min_two max_three min_three max_four min_four   -- for this text's walks alone
set_option linter.unusedVariables false
set_option linter.unusedSimpArgs false

/-! ### laws_FnExactProductSame: function 5 -/
def laws_FnExactProductSame.f (k : Nat) (a0_0 : ByteArray) (a0_1 : Int) (l0_2 : List ByteArray) (l0_3 : List ByteArray) (l0_4 : List (S115)) (l0_5 : List (S117)) (l0_6 : List (S117)) (l0_7 : List (S117)) (a1_0 : ByteArray) (a1_1 : Int) (l1_2 : List ByteArray) (l1_3 : List ByteArray) (l1_4 : List (S115)) (l1_5 : List (S117)) (l1_6 : List (S117)) (l1_7 : List (S117)) : Option (Bool) := (laws_szProduct.f k a0_0 a0_1 l0_2 l0_3 l0_4 l0_5 l0_6 l0_7 1048576).bind fun t203 => (if t203 < 0 then (some true) else ((laws_szProduct.f k a1_0 a1_1 l1_2 l1_3 l1_4 l1_5 l1_6 l1_7 t203).bind fun t204 => (if t204 < 0 then (some true) else ((laws_toProduct.f k a0_0 a0_1 l0_2 l0_3 l0_4 l0_5 l0_6 l0_7).bind fun bt205 => ((laws_toProduct.f k a1_0 a1_1 l1_2 l1_3 l1_4 l1_5 l1_6 l1_7).bind fun bt225 => ((spec_ProductSame.f k bt205.1 bt205.2.1 bt205.2.2.1 bt205.2.2.2.1 bt205.2.2.2.2.1 bt205.2.2.2.2.2.1 bt205.2.2.2.2.2.2.1 bt205.2.2.2.2.2.2.2 bt225.1 bt225.2.1 bt225.2.2.1 bt225.2.2.2.1 bt225.2.2.2.2.1 bt225.2.2.2.2.2.1 bt225.2.2.2.2.2.2.1 bt225.2.2.2.2.2.2.2).bind fun t245 => ((laws_toProduct.f k a0_0 a0_1 l0_2 l0_3 l0_4 l0_5 l0_6 l0_7).bind fun bt246 => ((laws_toProduct.f k a1_0 a1_1 l1_2 l1_3 l1_4 l1_5 l1_6 l1_7).bind fun bt267 => ((impl_ProductSame.f k bt246.1 bt246.2.1 bt246.2.2.1 bt246.2.2.2.1 bt246.2.2.2.2.1 bt246.2.2.2.2.2.1 bt246.2.2.2.2.2.2.1 bt246.2.2.2.2.2.2.2 bt267.1 bt267.2.1 bt267.2.2.1 bt267.2.2.2.1 bt267.2.2.2.2.1 bt267.2.2.2.2.2.1 bt267.2.2.2.2.2.2.1 bt267.2.2.2.2.2.2.2).bind fun t288 => (if (t288 != t245) = true then (none) else ((laws_toProduct.f k a0_0 a0_1 l0_2 l0_3 l0_4 l0_5 l0_6 l0_7).bind fun bt289 => ((laws_eqProduct.f k bt246.1 bt246.2.1 bt246.2.2.1 bt246.2.2.2.1 bt246.2.2.2.2.1 bt246.2.2.2.2.2.1 bt246.2.2.2.2.2.2.1 bt246.2.2.2.2.2.2.2 bt289.1 bt289.2.1 bt289.2.2.1 bt289.2.2.2.1 bt289.2.2.2.2.1 bt289.2.2.2.2.2.1 bt289.2.2.2.2.2.2.1 bt289.2.2.2.2.2.2.2).bind fun t309 => (if t309 = true then ((laws_toProduct.f k a1_0 a1_1 l1_2 l1_3 l1_4 l1_5 l1_6 l1_7).bind fun bt310 => ((laws_eqProduct.f k bt267.1 bt267.2.1 bt267.2.2.1 bt267.2.2.2.1 bt267.2.2.2.2.1 bt267.2.2.2.2.2.1 bt267.2.2.2.2.2.2.1 bt267.2.2.2.2.2.2.2 bt310.1 bt310.2.1 bt310.2.2.1 bt310.2.2.2.1 bt310.2.2.2.2.1 bt310.2.2.2.2.2.1 bt310.2.2.2.2.2.2.1 bt310.2.2.2.2.2.2.2).bind fun t330 => (if t330 = true then (some true) else (none)))) else (none))))))))))))))
theorem laws_FnExactProductSame.mono : ∀ a0 a1 a2 a3 a4 a5 a6 a7 a8 a9 a10 a11 a12 a13 a14 a15 k, LeO (laws_FnExactProductSame.f k a0 a1 a2 a3 a4 a5 a6 a7 a8 a9 a10 a11 a12 a13 a14 a15) (laws_FnExactProductSame.f (k + 1) a0 a1 a2 a3 a4 a5 a6 a7 a8 a9 a10 a11 a12 a13 a14 a15) := by
 intro a0 a1 a2 a3 a4 a5 a6 a7 a8 a9 a10 a11 a12 a13 a14 a15 k
 unfold laws_FnExactProductSame.f
 repeat' (with_reducible first | exact impl_ProductSame.mono .. | exact laws_eqProduct.mono .. | exact laws_szProduct.mono .. | exact laws_toProduct.mono .. | exact spec_ProductSame.mono .. | exact LeO.refl _ | exact LeO.none _ | refine LeO.ite ?_ ?_ | refine LeO.bind ?_ (fun _ => ?_))
set_option maxHeartbeats 8000000 in
set_option maxRecDepth 100000 in
theorem laws_FnExactProductSame.calls (k : Nat) (a0_0 : ByteArray) (a0_1 : Int) (A0_2 : Option Addr) (c0_2 : Nat) (l0_2 : List ByteArray) (A0_3 : Option Addr) (c0_3 : Nat) (l0_3 : List ByteArray) (A0_4 : Option Addr) (c0_4 : Nat) (l0_4 : List (S115)) (A0_5 : Option Addr) (c0_5 : Nat) (l0_5 : List (S117)) (A0_6 : Option Addr) (c0_6 : Nat) (l0_6 : List (S117)) (A0_7 : Option Addr) (c0_7 : Nat) (l0_7 : List (S117)) (a1_0 : ByteArray) (a1_1 : Int) (A1_2 : Option Addr) (c1_2 : Nat) (l1_2 : List ByteArray) (A1_3 : Option Addr) (c1_3 : Nat) (l1_3 : List ByteArray) (A1_4 : Option Addr) (c1_4 : Nat) (l1_4 : List (S115)) (A1_5 : Option Addr) (c1_5 : Nat) (l1_5 : List (S117)) (A1_6 : Option Addr) (c1_6 : Nat) (l1_6 : List (S117)) (A1_7 : Option Addr) (c1_7 : Nat) (l1_7 : List (S117)) (r : Bool) (w : World) (hr0_2 : Kd.C Kd.string w A0_2 l0_2.length l0_2) (hc0_2 : l0_2.length ≤ c0_2) (hr0_3 : Kd.C Kd.string w A0_3 l0_3.length l0_3) (hc0_3 : l0_3.length ≤ c0_3) (hr0_4 : Kd.C k115 w A0_4 l0_4.length l0_4) (hc0_4 : l0_4.length ≤ c0_4) (hr0_5 : Kd.C k117 w A0_5 l0_5.length l0_5) (hc0_5 : l0_5.length ≤ c0_5) (hr0_6 : Kd.C k117 w A0_6 l0_6.length l0_6) (hc0_6 : l0_6.length ≤ c0_6) (hr0_7 : Kd.C k117 w A0_7 l0_7.length l0_7) (hc0_7 : l0_7.length ≤ c0_7) (hr1_2 : Kd.C Kd.string w A1_2 l1_2.length l1_2) (hc1_2 : l1_2.length ≤ c1_2) (hr1_3 : Kd.C Kd.string w A1_3 l1_3.length l1_3) (hc1_3 : l1_3.length ≤ c1_3) (hr1_4 : Kd.C k115 w A1_4 l1_4.length l1_4) (hc1_4 : l1_4.length ≤ c1_4) (hr1_5 : Kd.C k117 w A1_5 l1_5.length l1_5) (hc1_5 : l1_5.length ≤ c1_5) (hr1_6 : Kd.C k117 w A1_6 l1_6.length l1_6) (hc1_6 : l1_6.length ≤ c1_6) (hr1_7 : Kd.C k117 w A1_7 l1_7.length l1_7) (hc1_7 : l1_7.length ≤ c1_7) (h : laws_FnExactProductSame.f k a0_0 a0_1 l0_2 l0_3 l0_4 l0_5 l0_6 l0_7 a1_0 a1_1 l1_2 l1_3 l1_4 l1_5 l1_6 l1_7 = some r) :
  Calls Try.prog 5 #[.agg #[.string a0_0, .int .i64 a0_1, .slice A0_2 l0_2.length c0_2, .slice A0_3 l0_3.length c0_3, .slice A0_4 l0_4.length c0_4, .slice A0_5 l0_5.length c0_5, .slice A0_6 l0_6.length c0_6, .slice A0_7 l0_7.length c0_7], .agg #[.string a1_0, .int .i64 a1_1, .slice A1_2 l1_2.length c1_2, .slice A1_3 l1_3.length c1_3, .slice A1_4 l1_4.length c1_4, .slice A1_5 l1_5.length c1_5, .slice A1_6 l1_6.length c1_6, .slice A1_7 l1_7.length c1_7]] w fun e w' => e = .returned (.bool r) ∧ Below w.heap.size w w' := by
 have hu35 := Try.underlying35
 have hu41 := Try.underlying41
 have HR0_2 := am hr0_2
 have HC0_2 := am hc0_2
 clear hr0_2 hc0_2
 have HR0_3 := am hr0_3
 have HC0_3 := am hc0_3
 clear hr0_3 hc0_3
 have HR0_4 := am hr0_4
 have HC0_4 := am hc0_4
 clear hr0_4 hc0_4
 have HR0_5 := am hr0_5
 have HC0_5 := am hc0_5
 clear hr0_5 hc0_5
 have HR0_6 := am hr0_6
 have HC0_6 := am hc0_6
 clear hr0_6 hc0_6
 have HR0_7 := am hr0_7
 have HC0_7 := am hc0_7
 clear hr0_7 hc0_7
 have HR1_2 := am hr1_2
 have HC1_2 := am hc1_2
 clear hr1_2 hc1_2
 have HR1_3 := am hr1_3
 have HC1_3 := am hc1_3
 clear hr1_3 hc1_3
 have HR1_4 := am hr1_4
 have HC1_4 := am hc1_4
 clear hr1_4 hc1_4
 have HR1_5 := am hr1_5
 have HC1_5 := am hc1_5
 clear hr1_5 hc1_5
 have HR1_6 := am hr1_6
 have HC1_6 := am hc1_6
 clear hr1_6 hc1_6
 have HR1_7 := am hr1_7
 have HC1_7 := am hc1_7
 clear hr1_7 hc1_7
 have HB := am (Below.refl w.heap.size w)
 have H := h
 clear h
 unfold laws_FnExactProductSame.f at H
 revert H; refine bj fun t203 A3 H => ?_
 revert H; refine iDb (fun c4b0 H => ?_) fun c4b0 H => ?_
 ·obtain rfl := Option.some.inj H
  go_enter Try.func5, Try.ntmps5
  go_wp2_with (first | (refine bx 2 #[.string a0_0, .int .i64 a0_1, .slice A0_2 l0_2.length c0_2, .slice A0_3 l0_3.length c0_3, .slice A0_4 l0_4.length c0_4, .slice A0_5 l0_5.length c0_5, .slice A0_6 l0_6.length c0_6, .slice A0_7 l0_7.length c0_7] 35 ?_; intro gb201 hg w5 hbox hb; have BK201 := am (hbox); have GW201 := am (bsz hg : w.heap.size ≤ gb201); have GE201 := GW201; replace HB := am (below_step bl hb); clear hb hbox hg) | (refine bx 3 #[.string a1_0, .int .i64 a1_1, .slice A1_2 l1_2.length c1_2, .slice A1_3 l1_3.length c1_3, .slice A1_4 l1_4.length c1_4, .slice A1_5 l1_5.length c1_5, .slice A1_6 l1_6.length c1_6, .slice A1_7 l1_7.length c1_7] 35 ?_; intro gb202 hg w6 hbox hb; have BK202 := am (hbox); have GW202 := am (bsz hg : w.heap.size ≤ gb202); have GE202 := GW202; have NB201_202 := am (ne1 hg BK201.out); have NB202_201 := am NB201_202.out.symm; replace BK201 := am (bkb BK201.out hb); replace HB := am (below_step bl hb); clear hb hbox hg; have hnb7 := NB201_202.out; have hnc7 := NB202_201.out; obtain ⟨z8_0, z8_1, z8_2, z8_3, z8_4, z8_5, z8_6, z8_7, y8_0, y8_1, y8_2, y8_3, y8_4, y8_5, y8_6, y8_7⟩ := blk8 BK201.out) | (refine gc 18 (some 12) Try.func18 (laws_szProduct.calls _ _ _ _ _ _ _ _ _ _ _ _ _ _ _ _ _ _ _ _ _ _ _ _ ?side1 ?side2 ?side3 ?side4 ?side5 ?side6 ?side7 ?side8 ?side9 ?side10 ?side11 ?side12 A3.out) ?_; (case side1 => exact cb HR0_2.out); (case side2 => exact HC0_2.out); (case side3 => exact cb HR0_3.out); (case side4 => exact HC0_3.out); (case side5 => exact cb HR0_4.out); (case side6 => exact HC0_4.out); (case side7 => exact cb HR0_5.out); (case side8 => exact HC0_5.out); (case side9 => exact cb HR0_6.out); (case side10 => exact HC0_6.out); (case side11 => exact cb HR0_7.out); (case side12 => exact HC0_7.out); rintro e w9 ⟨rfl, hb⟩; refine ⟨_, rfl, ?_⟩; replace BK201 := am (bkb BK201.out hb); replace BK202 := am (bkb BK202.out hb); replace HB := am (below_step bl hb); clear hb))
  go_ret
  exact ⟨er, bl⟩
 revert H; refine bj fun t204 A10 H => ?_
 revert H; refine iDb (fun c11b0 H => ?_) fun c11b0 H => ?_
 ·obtain rfl := Option.some.inj H
  go_enter Try.func5, Try.ntmps5
  go_wp2_with (first | (refine bx 2 #[.string a0_0, .int .i64 a0_1, .slice A0_2 l0_2.length c0_2, .slice A0_3 l0_3.length c0_3, .slice A0_4 l0_4.length c0_4, .slice A0_5 l0_5.length c0_5, .slice A0_6 l0_6.length c0_6, .slice A0_7 l0_7.length c0_7] 35 ?_; intro gb201 hg w12 hbox hb; have BK201 := am (hbox); have GW201 := am (bsz hg : w.heap.size ≤ gb201); have GE201 := GW201; replace HB := am (below_step bl hb); clear hb hbox hg) | (refine bx 3 #[.string a1_0, .int .i64 a1_1, .slice A1_2 l1_2.length c1_2, .slice A1_3 l1_3.length c1_3, .slice A1_4 l1_4.length c1_4, .slice A1_5 l1_5.length c1_5, .slice A1_6 l1_6.length c1_6, .slice A1_7 l1_7.length c1_7] 35 ?_; intro gb202 hg w13 hbox hb; have BK202 := am (hbox); have GW202 := am (bsz hg : w.heap.size ≤ gb202); have GE202 := GW202; have NB201_202 := am (ne1 hg BK201.out); have NB202_201 := am NB201_202.out.symm; replace BK201 := am (bkb BK201.out hb); replace HB := am (below_step bl hb); clear hb hbox hg; have hnb14 := NB201_202.out; have hnc14 := NB202_201.out; obtain ⟨z15_0, z15_1, z15_2, z15_3, z15_4, z15_5, z15_6, z15_7, y15_0, y15_1, y15_2, y15_3, y15_4, y15_5, y15_6, y15_7⟩ := blk8 BK201.out) | (refine gc 18 (some 12) Try.func18 (laws_szProduct.calls _ _ _ _ _ _ _ _ _ _ _ _ _ _ _ _ _ _ _ _ _ _ _ _ ?side1 ?side2 ?side3 ?side4 ?side5 ?side6 ?side7 ?side8 ?side9 ?side10 ?side11 ?side12 A3.out) ?_; (case side1 => exact cb HR0_2.out); (case side2 => exact HC0_2.out); (case side3 => exact cb HR0_3.out); (case side4 => exact HC0_3.out); (case side5 => exact cb HR0_4.out); (case side6 => exact HC0_4.out); (case side7 => exact cb HR0_5.out); (case side8 => exact HC0_5.out); (case side9 => exact cb HR0_6.out); (case side10 => exact HC0_6.out); (case side11 => exact cb HR0_7.out); (case side12 => exact HC0_7.out); rintro e w16 ⟨rfl, hb⟩; refine ⟨_, rfl, ?_⟩; replace BK201 := am (bkb BK201.out hb); replace BK202 := am (bkb BK202.out hb); replace HB := am (below_step bl hb); clear hb; obtain ⟨z17_0, z17_1, z17_2, z17_3, z17_4, z17_5, z17_6, z17_7, y17_0, y17_1, y17_2, y17_3, y17_4, y17_5, y17_6, y17_7⟩ := blk8 BK202.out) | (refine gc 18 (some 17) Try.func18 (laws_szProduct.calls _ _ _ _ _ _ _ _ _ _ _ _ _ _ _ _ _ _ _ _ _ _ _ _ ?side1 ?side2 ?side3 ?side4 ?side5 ?side6 ?side7 ?side8 ?side9 ?side10 ?side11 ?side12 A10.out) ?_; (case side1 => exact cb HR1_2.out); (case side2 => exact HC1_2.out); (case side3 => exact cb HR1_3.out); (case side4 => exact HC1_3.out); (case side5 => exact cb HR1_4.out); (case side6 => exact HC1_4.out); (case side7 => exact cb HR1_5.out); (case side8 => exact HC1_5.out); (case side9 => exact cb HR1_6.out); (case side10 => exact HC1_6.out); (case side11 => exact cb HR1_7.out); (case side12 => exact HC1_7.out); rintro e w18 ⟨rfl, hb⟩; refine ⟨_, rfl, ?_⟩; replace BK201 := am (bkb BK201.out hb); replace BK202 := am (bkb BK202.out hb); replace HB := am (below_step bl hb); clear hb))
  go_ret
  exact ⟨er, bl⟩
 replace H := bi H; obtain ⟨⟨t205, t206, t207, t210, t213, t216, t219, t222⟩, A19, H⟩ := H; dsimp only at H
 replace H := bi H; obtain ⟨⟨t225, t226, t227, t230, t233, t236, t239, t242⟩, A20, H⟩ := H; dsimp only at H
 revert H; refine bj fun t245 A21 H => ?_
 replace H := bi H; obtain ⟨⟨t246, t247, t248, t251, t254, t257, t260, t263⟩, A22, H⟩ := H; dsimp only at H
 replace H := bi H; obtain ⟨⟨t267, t268, t269, t272, t275, t278, t281, t284⟩, A23, H⟩ := H; dsimp only at H
 revert H; refine bj fun t288 A24 H => ?_
 revert H; refine i9 fun c25 H => ?_
 have c25b0 : (t288 != t245) = false := by simpa using c25
 (try (have c25b1 : decide (t288 = t245) = true := by simpa using c25))
 (try (have c25b2 : (t288 == t245) = true := by simpa using c25))
 clear c25
 replace H := bi H; obtain ⟨⟨t289, t290, t291, t294, t297, t300, t303, t306⟩, A26, H⟩ := H; dsimp only at H
 revert H; refine bj fun t309 A27 H => ?_
 replace H := j0 H; obtain ⟨rfl, H⟩ := H
 replace H := bi H; obtain ⟨⟨t310, t311, t312, t315, t318, t321, t324, t327⟩, A29, H⟩ := H; dsimp only at H
 revert H; refine bj fun t330 A30 H => ?_
 replace H := j0 H; obtain ⟨rfl, H⟩ := H
 obtain rfl := Option.some.inj H
 go_enter Try.func5, Try.ntmps5
 try go_wp2_with (first | (refine bx 2 #[.string a0_0, .int .i64 a0_1, .slice A0_2 l0_2.length c0_2, .slice A0_3 l0_3.length c0_3, .slice A0_4 l0_4.length c0_4, .slice A0_5 l0_5.length c0_5, .slice A0_6 l0_6.length c0_6, .slice A0_7 l0_7.length c0_7] 35 ?_; intro gb201 hg w32 hbox hb; have BK201 := am (hbox); have GW201 := am (bsz hg : w.heap.size ≤ gb201); have GE201 := GW201; replace HB := am (below_step bl hb); clear hb hbox hg) | (refine bx 3 #[.string a1_0, .int .i64 a1_1, .slice A1_2 l1_2.length c1_2, .slice A1_3 l1_3.length c1_3, .slice A1_4 l1_4.length c1_4, .slice A1_5 l1_5.length c1_5, .slice A1_6 l1_6.length c1_6, .slice A1_7 l1_7.length c1_7] 35 ?_; intro gb202 hg w33 hbox hb; have BK202 := am (hbox); have GW202 := am (bsz hg : w.heap.size ≤ gb202); have GE202 := GW202; have NB201_202 := am (ne1 hg BK201.out); have NB202_201 := am NB201_202.out.symm; replace BK201 := am (bkb BK201.out hb); replace HB := am (below_step bl hb); clear hb hbox hg; have hnb34 := NB201_202.out; have hnc34 := NB202_201.out; obtain ⟨z35_0, z35_1, z35_2, z35_3, z35_4, z35_5, z35_6, z35_7, y35_0, y35_1, y35_2, y35_3, y35_4, y35_5, y35_6, y35_7⟩ := blk8 BK201.out) | (refine gc 18 (some 12) Try.func18 (laws_szProduct.calls _ _ _ _ _ _ _ _ _ _ _ _ _ _ _ _ _ _ _ _ _ _ _ _ ?side1 ?side2 ?side3 ?side4 ?side5 ?side6 ?side7 ?side8 ?side9 ?side10 ?side11 ?side12 A3.out) ?_; (case side1 => exact cb HR0_2.out); (case side2 => exact HC0_2.out); (case side3 => exact cb HR0_3.out); (case side4 => exact HC0_3.out); (case side5 => exact cb HR0_4.out); (case side6 => exact HC0_4.out); (case side7 => exact cb HR0_5.out); (case side8 => exact HC0_5.out); (case side9 => exact cb HR0_6.out); (case side10 => exact HC0_6.out); (case side11 => exact cb HR0_7.out); (case side12 => exact HC0_7.out); rintro e w36 ⟨rfl, hb⟩; refine ⟨_, rfl, ?_⟩; replace BK201 := am (bkb BK201.out hb); replace BK202 := am (bkb BK202.out hb); replace HB := am (below_step bl hb); clear hb; obtain ⟨z37_0, z37_1, z37_2, z37_3, z37_4, z37_5, z37_6, z37_7, y37_0, y37_1, y37_2, y37_3, y37_4, y37_5, y37_6, y37_7⟩ := blk8 BK202.out) | (refine gc 18 (some 17) Try.func18 (laws_szProduct.calls _ _ _ _ _ _ _ _ _ _ _ _ _ _ _ _ _ _ _ _ _ _ _ _ ?side1 ?side2 ?side3 ?side4 ?side5 ?side6 ?side7 ?side8 ?side9 ?side10 ?side11 ?side12 A10.out) ?_; (case side1 => exact cb HR1_2.out); (case side2 => exact HC1_2.out); (case side3 => exact cb HR1_3.out); (case side4 => exact HC1_3.out); (case side5 => exact cb HR1_4.out); (case side6 => exact HC1_4.out); (case side7 => exact cb HR1_5.out); (case side8 => exact HC1_5.out); (case side9 => exact cb HR1_6.out); (case side10 => exact HC1_6.out); (case side11 => exact cb HR1_7.out); (case side12 => exact HC1_7.out); rintro e w38 ⟨rfl, hb⟩; refine ⟨_, rfl, ?_⟩; replace BK201 := am (bkb BK201.out hb); replace BK202 := am (bkb BK202.out hb); replace HB := am (below_step bl hb); clear hb))
 have n0_ := am (blk_drew BK201.out)
 have n1_ := am (blk_drew BK202.out)
 have n2_ := am (below_drew1 HB.out)
 clear BK201
 clear BK202
 clear HB
 have BK201 := n0_
 have BK202 := n1_
 have HB := n2_
 clear n0_ n1_ n2_
 refine start_ (n := 6) (S := fun w' => w'.cell? ⟨gb201, 0, none⟩ = some (.string a0_0) ∧ w'.cell? ⟨gb201, 1, none⟩ = some (.int .i64 a0_1) ∧ w'.cell? ⟨gb201, 2, none⟩ = some (.slice A0_2 l0_2.length c0_2) ∧ w'.cell? ⟨gb201, 3, none⟩ = some (.slice A0_3 l0_3.length c0_3) ∧ w'.cell? ⟨gb201, 4, none⟩ = some (.slice A0_4 l0_4.length c0_4) ∧ w'.cell? ⟨gb201, 5, none⟩ = some (.slice A0_5 l0_5.length c0_5) ∧ w'.cell? ⟨gb201, 6, none⟩ = some (.slice A0_6 l0_6.length c0_6) ∧ w'.cell? ⟨gb201, 7, none⟩ = some (.slice A0_7 l0_7.length c0_7) ∧ w'.cell? ⟨gb202, 0, none⟩ = some (.string a1_0) ∧ w'.cell? ⟨gb202, 1, none⟩ = some (.int .i64 a1_1) ∧ w'.cell? ⟨gb202, 2, none⟩ = some (.slice A1_2 l1_2.length c1_2) ∧ w'.cell? ⟨gb202, 3, none⟩ = some (.slice A1_3 l1_3.length c1_3) ∧ w'.cell? ⟨gb202, 4, none⟩ = some (.slice A1_4 l1_4.length c1_4) ∧ w'.cell? ⟨gb202, 5, none⟩ = some (.slice A1_5 l1_5.length c1_5) ∧ w'.cell? ⟨gb202, 6, none⟩ = some (.slice A1_6 l1_6.length c1_6) ∧ w'.cell? ⟨gb202, 7, none⟩ = some (.slice A1_7 l1_7.length c1_7)) (ds := []) #[F_, F_, F_, F_, F_, F_] (by kernel_rfl) rfl rfl ⟨(blk_cell BK201.out 0).trans rfl, (blk_cell BK201.out 1).trans rfl, (blk_cell BK201.out 2).trans rfl, (blk_cell BK201.out 3).trans rfl, (blk_cell BK201.out 4).trans rfl, (blk_cell BK201.out 5).trans rfl, (blk_cell BK201.out 6).trans rfl, (blk_cell BK201.out 7).trans rfl, (blk_cell BK202.out 0).trans rfl, (blk_cell BK202.out 1).trans rfl, (blk_cell BK202.out 2).trans rfl, (blk_cell BK202.out 3).trans rfl, (blk_cell BK202.out 4).trans rfl, (blk_cell BK202.out 5).trans rfl, (blk_cell BK202.out 6).trans rfl, (blk_cell BK202.out 7).trans rfl⟩ (fun hHeld => ?_)
 generalize w38.drew = w39 at BK201 BK202 HB hHeld ⊢
 refine tv16 0 20 hHeld ?_
 refine tv16 2 22 hHeld ?_
 refine ov 1 21 (fun K hK => ?_)
 refine gk Try.func20 (laws_toProduct.calls _ _ _ _ _ _ _ _ _ _ _ _ _ _ _ _ _ _ _ _ _ _ _ _ _ _ _ _ _ _ ?side1 ?side2 ?side3 ?side4 ?side5 ?side6 ?side7 ?side8 ?side9 ?side10 ?side11 ?side12 A19.out) ?_
 (case side1 => exact cb HR0_2.out)
 (case side2 => exact HC0_2.out)
 (case side3 => exact cb HR0_3.out)
 (case side4 => exact HC0_3.out)
 (case side5 => exact cb HR0_4.out)
 (case side6 => exact HC0_4.out)
 (case side7 => exact cb HR0_5.out)
 (case side8 => exact HC0_5.out)
 (case side9 => exact cb HR0_6.out)
 (case side10 => exact HC0_6.out)
 (case side11 => exact cb HR0_7.out)
 (case side12 => exact HC0_7.out)
 rintro e w40 ⟨v208, v211, v214, v217, v220, v223, rfl, ho0, ho1, ho2, ho3, ho4, ho5, hb⟩
 refine ⟨_, rfl, ?_⟩
 have n0_ := am (Kd.R_lower ho0 (below_size bl))
 have n1_ := am (Kd.R_lower ho1 (below_size bl))
 have n2_ := am (Kd.R_lower ho2 (below_size bl))
 have n3_ := am (Kd.R_lower ho3 (below_size bl))
 have n4_ := am (Kd.R_lower ho4 (below_size bl))
 have n5_ := am (Kd.R_lower ho5 (below_size bl))
 have n6_ := am (bkb BK201.out hb)
 have n7_ := am (bkb BK202.out hb)
 have n8_ := am (below_step bl hb)
 clear BK201
 clear BK202
 clear HB
 have HO209 := n0_
 have HO212 := n1_
 have HO215 := n2_
 have HO218 := n3_
 have HO221 := n4_
 have HO224 := n5_
 have BK201 := n6_
 have BK202 := n7_
 have HB := n8_
 clear n0_ n1_ n2_ n3_ n4_ n5_ n6_ n7_ n8_
 skip
 skip
 skip
 skip
 skip
 skip
 skip
 skip
 skip
 skip
 refine hK.out _ _ ⟨(blk_cell BK201.out 0).trans rfl, (blk_cell BK201.out 1).trans rfl, (blk_cell BK201.out 2).trans rfl, (blk_cell BK201.out 3).trans rfl, (blk_cell BK201.out 4).trans rfl, (blk_cell BK201.out 5).trans rfl, (blk_cell BK201.out 6).trans rfl, (blk_cell BK201.out 7).trans rfl, (blk_cell BK202.out 0).trans rfl, (blk_cell BK202.out 1).trans rfl, (blk_cell BK202.out 2).trans rfl, (blk_cell BK202.out 3).trans rfl, (blk_cell BK202.out 4).trans rfl, (blk_cell BK202.out 5).trans rfl, (blk_cell BK202.out 6).trans rfl, (blk_cell BK202.out 7).trans rfl⟩ (fun hHeld => ?_)
 clear hK K
 refine norm_ (a' := ?_) ?_ ?_
 rotate_left
 ·show Act.put _ (some 21) _ = _
  simp only [Act.put, z1, z2, z3, i64_w, i32_w]
  rfl
 refine ov 3 23 (fun K hK => ?_)
 refine gk Try.func20 (laws_toProduct.calls _ _ _ _ _ _ _ _ _ _ _ _ _ _ _ _ _ _ _ _ _ _ _ _ _ _ _ _ _ _ ?side1 ?side2 ?side3 ?side4 ?side5 ?side6 ?side7 ?side8 ?side9 ?side10 ?side11 ?side12 A20.out) ?_
 (case side1 => exact cb HR1_2.out)
 (case side2 => exact HC1_2.out)
 (case side3 => exact cb HR1_3.out)
 (case side4 => exact HC1_3.out)
 (case side5 => exact cb HR1_4.out)
 (case side6 => exact HC1_4.out)
 (case side7 => exact cb HR1_5.out)
 (case side8 => exact HC1_5.out)
 (case side9 => exact cb HR1_6.out)
 (case side10 => exact HC1_6.out)
 (case side11 => exact cb HR1_7.out)
 (case side12 => exact HC1_7.out)
 rintro e w41 ⟨v228, v231, v234, v237, v240, v243, rfl, ho0, ho1, ho2, ho3, ho4, ho5, hb⟩
 refine ⟨_, rfl, ?_⟩
 have n0_ := am (Kd.R_mono (Kd.R_told (Kd.R_told (Kd.R_old (kr HO209.out) hb) (Kd.R_base ho0)) (Kd.R_base ho1)) (fun _ h_ => h_.1))
 have n1_ := am (Kd.R_mono (Kd.R_told (Kd.R_told (Kd.R_old (kr HO212.out) hb) (Kd.R_base ho0)) (Kd.R_base ho1)) (fun _ h_ => h_.1))
 have n2_ := am (Kd.R_elder' (kr HO215.out) (Kd.R_base ho2) hb)
 have n3_ := am (Kd.R_mono (Kd.R_told (Kd.R_told (Kd.R_told (Kd.R_old (kr HO218.out) hb) (Kd.R_base ho3)) (Kd.R_base ho4)) (Kd.R_base ho5)) (fun _ h_ => h_.1))
 have n4_ := am (Kd.R_mono (Kd.R_told (Kd.R_told (Kd.R_told (Kd.R_old (kr HO221.out) hb) (Kd.R_base ho3)) (Kd.R_base ho4)) (Kd.R_base ho5)) (fun _ h_ => h_.1))
 have n5_ := am (Kd.R_mono (Kd.R_told (Kd.R_told (Kd.R_told (Kd.R_old (kr HO224.out) hb) (Kd.R_base ho3)) (Kd.R_base ho4)) (Kd.R_base ho5)) (fun _ h_ => h_.1))
 have n6_ := am (Kd.R_lower (Kd.R_new' (Kd.R_new' ho0 (Kd.R_lt (kr HO209.out))) (Kd.R_lt (kr HO212.out))) (below_size bl))
 have n7_ := am (Kd.R_lower (Kd.R_new' (Kd.R_new' ho1 (Kd.R_lt (kr HO209.out))) (Kd.R_lt (kr HO212.out))) (below_size bl))
 have n8_ := am (Kd.R_lower (Kd.R_new' ho2 (Kd.R_lt (kr HO215.out))) (below_size bl))
 have n9_ := am (Kd.R_lower (Kd.R_new' (Kd.R_new' (Kd.R_new' ho3 (Kd.R_lt (kr HO218.out))) (Kd.R_lt (kr HO221.out))) (Kd.R_lt (kr HO224.out))) (below_size bl))
 have n10_ := am (Kd.R_lower (Kd.R_new' (Kd.R_new' (Kd.R_new' ho4 (Kd.R_lt (kr HO218.out))) (Kd.R_lt (kr HO221.out))) (Kd.R_lt (kr HO224.out))) (below_size bl))
 have n11_ := am (Kd.R_lower (Kd.R_new' (Kd.R_new' (Kd.R_new' ho5 (Kd.R_lt (kr HO218.out))) (Kd.R_lt (kr HO221.out))) (Kd.R_lt (kr HO224.out))) (below_size bl))
 have n12_ := am (bkb BK201.out hb)
 have n13_ := am (bkb BK202.out hb)
 have n14_ := am (below_step bl hb)
 clear HO209
 clear HO212
 clear HO215
 clear HO218
 clear HO221
 clear HO224
 clear BK201
 clear BK202
 clear HB
 have HO209 := n0_
 have HO212 := n1_
 have HO215 := n2_
 have HO218 := n3_
 have HO221 := n4_
 have HO224 := n5_
 have HO229 := n6_
 have HO232 := n7_
 have HO235 := n8_
 have HO238 := n9_
 have HO241 := n10_
 have HO244 := n11_
 have BK201 := n12_
 have BK202 := n13_
 have HB := n14_
 clear n0_ n1_ n2_ n3_ n4_ n5_ n6_ n7_ n8_ n9_ n10_ n11_ n12_ n13_ n14_
 skip
 skip
 skip
 skip
 skip
 skip
 skip
 skip
 skip
 skip
 obtain ⟨Ao42, co42, eo42⟩ := Kd.R_slice HO209.out
 (first | subst eo42 | (injection eo42 with f1_ f2_ f3_; have f4_ := f1_.symm; have f5_ := f3_.symm; clear f1_ f2_ f3_; subst f4_; subst f5_))
 obtain ⟨Ao43, co43, eo43⟩ := Kd.R_slice HO212.out
 (first | subst eo43 | (injection eo43 with f1_ f2_ f3_; have f4_ := f1_.symm; have f5_ := f3_.symm; clear f1_ f2_ f3_; subst f4_; subst f5_))
 obtain ⟨Ao44, co44, eo44⟩ := Kd.R_slice HO215.out
 (first | subst eo44 | (injection eo44 with f1_ f2_ f3_; have f4_ := f1_.symm; have f5_ := f3_.symm; clear f1_ f2_ f3_; subst f4_; subst f5_))
 obtain ⟨Ao45, co45, eo45⟩ := Kd.R_slice HO218.out
 (first | subst eo45 | (injection eo45 with f1_ f2_ f3_; have f4_ := f1_.symm; have f5_ := f3_.symm; clear f1_ f2_ f3_; subst f4_; subst f5_))
 obtain ⟨Ao46, co46, eo46⟩ := Kd.R_slice HO221.out
 (first | subst eo46 | (injection eo46 with f1_ f2_ f3_; have f4_ := f1_.symm; have f5_ := f3_.symm; clear f1_ f2_ f3_; subst f4_; subst f5_))
 obtain ⟨Ao47, co47, eo47⟩ := Kd.R_slice HO224.out
 (first | subst eo47 | (injection eo47 with f1_ f2_ f3_; have f4_ := f1_.symm; have f5_ := f3_.symm; clear f1_ f2_ f3_; subst f4_; subst f5_))
 obtain ⟨Ao48, co48, eo48⟩ := Kd.R_slice HO229.out
 (first | subst eo48 | (injection eo48 with f1_ f2_ f3_; have f4_ := f1_.symm; have f5_ := f3_.symm; clear f1_ f2_ f3_; subst f4_; subst f5_))
 obtain ⟨Ao49, co49, eo49⟩ := Kd.R_slice HO232.out
 (first | subst eo49 | (injection eo49 with f1_ f2_ f3_; have f4_ := f1_.symm; have f5_ := f3_.symm; clear f1_ f2_ f3_; subst f4_; subst f5_))
 obtain ⟨Ao50, co50, eo50⟩ := Kd.R_slice HO235.out
 (first | subst eo50 | (injection eo50 with f1_ f2_ f3_; have f4_ := f1_.symm; have f5_ := f3_.symm; clear f1_ f2_ f3_; subst f4_; subst f5_))
 obtain ⟨Ao51, co51, eo51⟩ := Kd.R_slice HO238.out
 (first | subst eo51 | (injection eo51 with f1_ f2_ f3_; have f4_ := f1_.symm; have f5_ := f3_.symm; clear f1_ f2_ f3_; subst f4_; subst f5_))
 obtain ⟨Ao52, co52, eo52⟩ := Kd.R_slice HO241.out
 (first | subst eo52 | (injection eo52 with f1_ f2_ f3_; have f4_ := f1_.symm; have f5_ := f3_.symm; clear f1_ f2_ f3_; subst f4_; subst f5_))
 obtain ⟨Ao53, co53, eo53⟩ := Kd.R_slice HO244.out
 (first | subst eo53 | (injection eo53 with f1_ f2_ f3_; have f4_ := f1_.symm; have f5_ := f3_.symm; clear f1_ f2_ f3_; subst f4_; subst f5_))
 refine hK.out _ _ ⟨(blk_cell BK201.out 0).trans rfl, (blk_cell BK201.out 1).trans rfl, (blk_cell BK201.out 2).trans rfl, (blk_cell BK201.out 3).trans rfl, (blk_cell BK201.out 4).trans rfl, (blk_cell BK201.out 5).trans rfl, (blk_cell BK201.out 6).trans rfl, (blk_cell BK201.out 7).trans rfl, (blk_cell BK202.out 0).trans rfl, (blk_cell BK202.out 1).trans rfl, (blk_cell BK202.out 2).trans rfl, (blk_cell BK202.out 3).trans rfl, (blk_cell BK202.out 4).trans rfl, (blk_cell BK202.out 5).trans rfl, (blk_cell BK202.out 6).trans rfl, (blk_cell BK202.out 7).trans rfl⟩ (fun hHeld => ?_)
 clear hK K
 refine norm_ (a' := ?_) ?_ ?_
 rotate_left
 ·show Act.put _ (some 23) _ = _
  simp only [Act.put, z1, z2, z3, i64_w, i32_w]
  rfl
 refine ov 4 24 (fun K hK => ?_)
 refine gk Try.func19 (spec_ProductSame.calls _ _ _ _ _ _ _ _ _ _ _ _ _ _ _ _ _ _ _ _ _ _ _ _ _ _ _ _ _ _ _ _ _ _ _ _ _ _ _ _ _ _ _ ?side1 ?side2 ?side3 ?side4 ?side5 ?side6 ?side7 ?side8 ?side9 ?side10 ?side11 ?side12 ?side13 ?side14 ?side15 ?side16 ?side17 ?side18 ?side19 ?side20 ?side21 ?side22 ?side23 ?side24 A21.out) ?_
 (case side1 => exact cc (Kd.R_reads' HO209.out).2.2)
 (case side2 => exact (Kd.R_reads' HO209.out).2.1)
 (case side3 => exact cc (Kd.R_reads' HO212.out).2.2)
 (case side4 => exact (Kd.R_reads' HO212.out).2.1)
 (case side5 => exact cc (Kd.R_reads' HO215.out).2.2)
 (case side6 => exact (Kd.R_reads' HO215.out).2.1)
 (case side7 => exact cc (Kd.R_reads' HO218.out).2.2)
 (case side8 => exact (Kd.R_reads' HO218.out).2.1)
 (case side9 => exact cc (Kd.R_reads' HO221.out).2.2)
 (case side10 => exact (Kd.R_reads' HO221.out).2.1)
 (case side11 => exact cc (Kd.R_reads' HO224.out).2.2)
 (case side12 => exact (Kd.R_reads' HO224.out).2.1)
 (case side13 => exact cc (Kd.R_reads' HO229.out).2.2)
 (case side14 => exact (Kd.R_reads' HO229.out).2.1)
 (case side15 => exact cc (Kd.R_reads' HO232.out).2.2)
 (case side16 => exact (Kd.R_reads' HO232.out).2.1)
 (case side17 => exact cc (Kd.R_reads' HO235.out).2.2)
 (case side18 => exact (Kd.R_reads' HO235.out).2.1)
 (case side19 => exact cc (Kd.R_reads' HO238.out).2.2)
 (case side20 => exact (Kd.R_reads' HO238.out).2.1)
 (case side21 => exact cc (Kd.R_reads' HO241.out).2.2)
 (case side22 => exact (Kd.R_reads' HO241.out).2.1)
 (case side23 => exact cc (Kd.R_reads' HO244.out).2.2)
 (case side24 => exact (Kd.R_reads' HO244.out).2.1)
 rintro e w54 ⟨rfl, hb⟩
 refine ⟨_, rfl, ?_⟩
 have n0_ := am (rb HO209.out hb)
 have n1_ := am (rb HO212.out hb)
 have n2_ := am (rb HO215.out hb)
 have n3_ := am (rb HO218.out hb)
 have n4_ := am (rb HO221.out hb)
 have n5_ := am (rb HO224.out hb)
 have n6_ := am (rb HO229.out hb)
 have n7_ := am (rb HO232.out hb)
 have n8_ := am (rb HO235.out hb)
 have n9_ := am (rb HO238.out hb)
 have n10_ := am (rb HO241.out hb)
 have n11_ := am (rb HO244.out hb)
 have n12_ := am (bkb BK201.out hb)
 have n13_ := am (bkb BK202.out hb)
 have n14_ := am (below_step bl hb)
 clear HO209
 clear HO212
 clear HO215
 clear HO218
 clear HO221
 clear HO224
 clear HO229
 clear HO232
 clear HO235
 clear HO238
 clear HO241
 clear HO244
 clear BK201
 clear BK202
 clear HB
 have HO209 := n0_
 have HO212 := n1_
 have HO215 := n2_
 have HO218 := n3_
 have HO221 := n4_
 have HO224 := n5_
 have HO229 := n6_
 have HO232 := n7_
 have HO235 := n8_
 have HO238 := n9_
 have HO241 := n10_
 have HO244 := n11_
 have BK201 := n12_
 have BK202 := n13_
 have HB := n14_
 clear n0_ n1_ n2_ n3_ n4_ n5_ n6_ n7_ n8_ n9_ n10_ n11_ n12_ n13_ n14_
 skip
 skip
 skip
 skip
 refine hK.out _ _ ⟨(blk_cell BK201.out 0).trans rfl, (blk_cell BK201.out 1).trans rfl, (blk_cell BK201.out 2).trans rfl, (blk_cell BK201.out 3).trans rfl, (blk_cell BK201.out 4).trans rfl, (blk_cell BK201.out 5).trans rfl, (blk_cell BK201.out 6).trans rfl, (blk_cell BK201.out 7).trans rfl, (blk_cell BK202.out 0).trans rfl, (blk_cell BK202.out 1).trans rfl, (blk_cell BK202.out 2).trans rfl, (blk_cell BK202.out 3).trans rfl, (blk_cell BK202.out 4).trans rfl, (blk_cell BK202.out 5).trans rfl, (blk_cell BK202.out 6).trans rfl, (blk_cell BK202.out 7).trans rfl⟩ (fun hHeld => ?_)
 clear hK K
 refine norm_ (a' := ?_) ?_ ?_
 rotate_left
 ·show Act.put _ (some 24) _ = _
  simp only [Act.put, z1, z2, z3, i64_w, i32_w]
  rfl
 refine pv 5 6 ?_
 refine done_ (by kernel_rfl) ?_
 obtain ⟨z55_0, z55_1, z55_2, z55_3, z55_4, z55_5, z55_6, z55_7, y55_0, y55_1, y55_2, y55_3, y55_4, y55_5, y55_6, y55_7⟩ := blk8 BK201.out
 try go_wp2_with (first | (refine gc 20 (some 26) Try.func20 (laws_toProduct.calls _ _ _ _ _ _ _ _ _ _ _ _ _ _ _ _ _ _ _ _ _ _ _ _ _ _ _ _ _ _ ?side1 ?side2 ?side3 ?side4 ?side5 ?side6 ?side7 ?side8 ?side9 ?side10 ?side11 ?side12 A22.out) ?_; (case side1 => exact cb HR0_2.out); (case side2 => exact HC0_2.out); (case side3 => exact cb HR0_3.out); (case side4 => exact HC0_3.out); (case side5 => exact cb HR0_4.out); (case side6 => exact HC0_4.out); (case side7 => exact cb HR0_5.out); (case side8 => exact HC0_5.out); (case side9 => exact cb HR0_6.out); (case side10 => exact HC0_6.out); (case side11 => exact cb HR0_7.out); (case side12 => exact HC0_7.out); rintro e w56 ⟨v249, v252, v255, v258, v261, v264, rfl, ho0, ho1, ho2, ho3, ho4, ho5, hb⟩; refine ⟨_, rfl, ?_⟩; have HO250 := am (Kd.R_lower (Kd.R_new' (Kd.R_new' (Kd.R_new' (Kd.R_new' ho0 (Kd.R_lt (kr HO209.out))) (Kd.R_lt (kr HO212.out))) (Kd.R_lt (kr HO229.out))) (Kd.R_lt (kr HO232.out))) (below_size bl)); have HO253 := am (Kd.R_lower (Kd.R_new' (Kd.R_new' (Kd.R_new' (Kd.R_new' ho1 (Kd.R_lt (kr HO209.out))) (Kd.R_lt (kr HO212.out))) (Kd.R_lt (kr HO229.out))) (Kd.R_lt (kr HO232.out))) (below_size bl)); replace HO209 := am (Kd.R_mono (Kd.R_told (Kd.R_told (Kd.R_old (kr HO209.out) hb) (Kd.R_base ho0)) (Kd.R_base ho1)) (fun _ h_ => h_.1)); replace HO212 := am (Kd.R_mono (Kd.R_told (Kd.R_told (Kd.R_old (kr HO212.out) hb) (Kd.R_base ho0)) (Kd.R_base ho1)) (fun _ h_ => h_.1)); replace HO229 := am (Kd.R_mono (Kd.R_told (Kd.R_told (Kd.R_old (kr HO229.out) hb) (Kd.R_base ho0)) (Kd.R_base ho1)) (fun _ h_ => h_.1)); replace HO232 := am (Kd.R_mono (Kd.R_told (Kd.R_told (Kd.R_old (kr HO232.out) hb) (Kd.R_base ho0)) (Kd.R_base ho1)) (fun _ h_ => h_.1)); have HO256 := am (Kd.R_lower (Kd.R_new' (Kd.R_new' ho2 (Kd.R_lt (kr HO215.out))) (Kd.R_lt (kr HO235.out))) (below_size bl)); replace HO215 := am (Kd.R_elder' (kr HO215.out) (Kd.R_base ho2) hb); replace HO235 := am (Kd.R_elder' (kr HO235.out) (Kd.R_base ho2) hb); have HO259 := am (Kd.R_lower (Kd.R_new' (Kd.R_new' (Kd.R_new' (Kd.R_new' (Kd.R_new' (Kd.R_new' ho3 (Kd.R_lt (kr HO218.out))) (Kd.R_lt (kr HO221.out))) (Kd.R_lt (kr HO224.out))) (Kd.R_lt (kr HO238.out))) (Kd.R_lt (kr HO241.out))) (Kd.R_lt (kr HO244.out))) (below_size bl)); have HO262 := am (Kd.R_lower (Kd.R_new' (Kd.R_new' (Kd.R_new' (Kd.R_new' (Kd.R_new' (Kd.R_new' ho4 (Kd.R_lt (kr HO218.out))) (Kd.R_lt (kr HO221.out))) (Kd.R_lt (kr HO224.out))) (Kd.R_lt (kr HO238.out))) (Kd.R_lt (kr HO241.out))) (Kd.R_lt (kr HO244.out))) (below_size bl)); have HO265 := am (Kd.R_lower (Kd.R_new' (Kd.R_new' (Kd.R_new' (Kd.R_new' (Kd.R_new' (Kd.R_new' ho5 (Kd.R_lt (kr HO218.out))) (Kd.R_lt (kr HO221.out))) (Kd.R_lt (kr HO224.out))) (Kd.R_lt (kr HO238.out))) (Kd.R_lt (kr HO241.out))) (Kd.R_lt (kr HO244.out))) (below_size bl)); replace HO218 := am (Kd.R_mono (Kd.R_told (Kd.R_told (Kd.R_told (Kd.R_old (kr HO218.out) hb) (Kd.R_base ho3)) (Kd.R_base ho4)) (Kd.R_base ho5)) (fun _ h_ => h_.1)); replace HO221 := am (Kd.R_mono (Kd.R_told (Kd.R_told (Kd.R_told (Kd.R_old (kr HO221.out) hb) (Kd.R_base ho3)) (Kd.R_base ho4)) (Kd.R_base ho5)) (fun _ h_ => h_.1)); replace HO224 := am (Kd.R_mono (Kd.R_told (Kd.R_told (Kd.R_told (Kd.R_old (kr HO224.out) hb) (Kd.R_base ho3)) (Kd.R_base ho4)) (Kd.R_base ho5)) (fun _ h_ => h_.1)); replace HO238 := am (Kd.R_mono (Kd.R_told (Kd.R_told (Kd.R_told (Kd.R_old (kr HO238.out) hb) (Kd.R_base ho3)) (Kd.R_base ho4)) (Kd.R_base ho5)) (fun _ h_ => h_.1)); replace HO241 := am (Kd.R_mono (Kd.R_told (Kd.R_told (Kd.R_told (Kd.R_old (kr HO241.out) hb) (Kd.R_base ho3)) (Kd.R_base ho4)) (Kd.R_base ho5)) (fun _ h_ => h_.1)); replace HO244 := am (Kd.R_mono (Kd.R_told (Kd.R_told (Kd.R_told (Kd.R_old (kr HO244.out) hb) (Kd.R_base ho3)) (Kd.R_base ho4)) (Kd.R_base ho5)) (fun _ h_ => h_.1)); replace BK201 := am (bkb BK201.out hb); replace BK202 := am (bkb BK202.out hb); replace HB := am (below_step bl hb); clear hb ho0 ho1 ho2 ho3 ho4 ho5) | (refine bx 7 #[.string (⟨#[]⟩ : ByteArray), .int .i64 0, .slice none 0 0, .slice none 0 0, .slice none 0 0, .slice none 0 0, .slice none 0 0, .slice none 0 0] 41 ?_; intro gb266 hg w57 hbox hb; replace HO209 := am (rb HO209.out hb); replace HO212 := am (rb HO212.out hb); replace HO215 := am (rb HO215.out hb); replace HO218 := am (rb HO218.out hb); replace HO221 := am (rb HO221.out hb); replace HO224 := am (rb HO224.out hb); replace HO229 := am (rb HO229.out hb); replace HO232 := am (rb HO232.out hb); replace HO235 := am (rb HO235.out hb); replace HO238 := am (rb HO238.out hb); replace HO241 := am (rb HO241.out hb); replace HO244 := am (rb HO244.out hb); replace HO250 := am (rb HO250.out hb); replace HO253 := am (rb HO253.out hb); replace HO256 := am (rb HO256.out hb); replace HO259 := am (rb HO259.out hb); replace HO262 := am (rb HO262.out hb); replace HO265 := am (rb HO265.out hb); have BK266 := am (hbox); have GW266 := am (bsz hg : w.heap.size ≤ gb266); have GE266 := GW266; have NB201_266 := am (ne1 hg BK201.out); have NB266_201 := am NB201_266.out.symm; replace BK201 := am (bkb BK201.out hb); have NB202_266 := am (ne1 hg BK202.out); have NB266_202 := am NB202_266.out.symm; replace BK202 := am (bkb BK202.out hb); replace HB := am (below_step bl hb); clear hb hbox hg; have hnb58 := NB266_201.out; have hnc58 := NB201_266.out; have hnb59 := NB266_202.out; have hnc59 := NB202_266.out; obtain ⟨z60_0, z60_1, z60_2, z60_3, z60_4, z60_5, z60_6, z60_7, y60_0, y60_1, y60_2, y60_3, y60_4, y60_5, y60_6, y60_7⟩ := blk8 BK266.out; obtain ⟨Ao61, co61, eo61⟩ := Kd.R_slice HO250.out; subst eo61; obtain ⟨Ao62, co62, eo62⟩ := Kd.R_slice HO253.out; subst eo62; obtain ⟨Ao63, co63, eo63⟩ := Kd.R_slice HO256.out; subst eo63; obtain ⟨Ao64, co64, eo64⟩ := Kd.R_slice HO259.out; subst eo64; obtain ⟨Ao65, co65, eo65⟩ := Kd.R_slice HO262.out; subst eo65; obtain ⟨Ao66, co66, eo66⟩ := Kd.R_slice HO265.out; subst eo66; obtain ⟨z67_0, z67_1, z67_2, z67_3, z67_4, z67_5, z67_6, z67_7, y67_0, y67_1, y67_2, y67_3, y67_4, y67_5, y67_6, y67_7⟩ := blk8 BK202.out) | (refine gc 20 (some 28) Try.func20 (laws_toProduct.calls _ _ _ _ _ _ _ _ _ _ _ _ _ _ _ _ _ _ _ _ _ _ _ _ _ _ _ _ _ _ ?side1 ?side2 ?side3 ?side4 ?side5 ?side6 ?side7 ?side8 ?side9 ?side10 ?side11 ?side12 A23.out) ?_; (case side1 => exact Kd.C_below HR1_2.out bl); (case side2 => exact HC1_2.out); (case side3 => exact Kd.C_below HR1_3.out bl); (case side4 => exact HC1_3.out); (case side5 => exact Kd.C_below HR1_4.out bl); (case side6 => exact HC1_4.out); (case side7 => exact Kd.C_below HR1_5.out bl); (case side8 => exact HC1_5.out); (case side9 => exact Kd.C_below HR1_6.out bl); (case side10 => exact HC1_6.out); (case side11 => exact Kd.C_below HR1_7.out bl); (case side12 => exact HC1_7.out); rintro e w68 ⟨v270, v273, v276, v279, v282, v285, rfl, ho0, ho1, ho2, ho3, ho4, ho5, hb⟩; refine ⟨_, rfl, ?_⟩; have HO271 := am (Kd.R_lower (Kd.R_new' (Kd.R_new' (Kd.R_new' (Kd.R_new' (Kd.R_new' (Kd.R_new' ho0 (Kd.R_lt (by (with_reducible repeat (first | apply Kd.R_alloc | apply Kd.R_drewN | apply Kd.R_drew)); exact (Kd.R_mono (Kd.R_far (p := ⟨gb266, 7, none⟩) (Kd.R_far (p := ⟨gb266, 6, none⟩) (Kd.R_far (p := ⟨gb266, 5, none⟩) (Kd.R_far (p := ⟨gb266, 4, none⟩) (Kd.R_far (p := ⟨gb266, 3, none⟩) (Kd.R_far (p := ⟨gb266, 2, none⟩) (Kd.R_far (p := ⟨gb266, 1, none⟩) (Kd.R_far (p := ⟨gb266, 0, none⟩) (Kd.R_types HO209.out BK266.out (by decide)) (fun _ hk => hk.2) (.string t246)) (fun _ hk => hk.2) (.int .i64 t247)) (fun _ hk => hk.2) (.slice Ao61 t248.length co61)) (fun _ hk => hk.2) (.slice Ao62 t251.length co62)) (fun _ hk => hk.2) (.slice Ao63 t254.length co63)) (fun _ hk => hk.2) (.slice Ao64 t257.length co64)) (fun _ hk => hk.2) (.slice Ao65 t260.length co65)) (fun _ hk => hk.2) (.slice Ao66 t263.length co66)) (fun _ h_ => h_.1))))) (Kd.R_lt (by (with_reducible repeat (first | apply Kd.R_alloc | apply Kd.R_drewN | apply Kd.R_drew)); exact (Kd.R_mono (Kd.R_far (p := ⟨gb266, 7, none⟩) (Kd.R_far (p := ⟨gb266, 6, none⟩) (Kd.R_far (p := ⟨gb266, 5, none⟩) (Kd.R_far (p := ⟨gb266, 4, none⟩) (Kd.R_far (p := ⟨gb266, 3, none⟩) (Kd.R_far (p := ⟨gb266, 2, none⟩) (Kd.R_far (p := ⟨gb266, 1, none⟩) (Kd.R_far (p := ⟨gb266, 0, none⟩) (Kd.R_types HO212.out BK266.out (by decide)) (fun _ hk => hk.2) (.string t246)) (fun _ hk => hk.2) (.int .i64 t247)) (fun _ hk => hk.2) (.slice Ao61 t248.length co61)) (fun _ hk => hk.2) (.slice Ao62 t251.length co62)) (fun _ hk => hk.2) (.slice Ao63 t254.length co63)) (fun _ hk => hk.2) (.slice Ao64 t257.length co64)) (fun _ hk => hk.2) (.slice Ao65 t260.length co65)) (fun _ hk => hk.2) (.slice Ao66 t263.length co66)) (fun _ h_ => h_.1))))) (Kd.R_lt (by (with_reducible repeat (first | apply Kd.R_alloc | apply Kd.R_drewN | apply Kd.R_drew)); exact (Kd.R_mono (Kd.R_far (p := ⟨gb266, 7, none⟩) (Kd.R_far (p := ⟨gb266, 6, none⟩) (Kd.R_far (p := ⟨gb266, 5, none⟩) (Kd.R_far (p := ⟨gb266, 4, none⟩) (Kd.R_far (p := ⟨gb266, 3, none⟩) (Kd.R_far (p := ⟨gb266, 2, none⟩) (Kd.R_far (p := ⟨gb266, 1, none⟩) (Kd.R_far (p := ⟨gb266, 0, none⟩) (Kd.R_types HO229.out BK266.out (by decide)) (fun _ hk => hk.2) (.string t246)) (fun _ hk => hk.2) (.int .i64 t247)) (fun _ hk => hk.2) (.slice Ao61 t248.length co61)) (fun _ hk => hk.2) (.slice Ao62 t251.length co62)) (fun _ hk => hk.2) (.slice Ao63 t254.length co63)) (fun _ hk => hk.2) (.slice Ao64 t257.length co64)) (fun _ hk => hk.2) (.slice Ao65 t260.length co65)) (fun _ hk => hk.2) (.slice Ao66 t263.length co66)) (fun _ h_ => h_.1))))) (Kd.R_lt (by (with_reducible repeat (first | apply Kd.R_alloc | apply Kd.R_drewN | apply Kd.R_drew)); exact (Kd.R_mono (Kd.R_far (p := ⟨gb266, 7, none⟩) (Kd.R_far (p := ⟨gb266, 6, none⟩) (Kd.R_far (p := ⟨gb266, 5, none⟩) (Kd.R_far (p := ⟨gb266, 4, none⟩) (Kd.R_far (p := ⟨gb266, 3, none⟩) (Kd.R_far (p := ⟨gb266, 2, none⟩) (Kd.R_far (p := ⟨gb266, 1, none⟩) (Kd.R_far (p := ⟨gb266, 0, none⟩) (Kd.R_types HO232.out BK266.out (by decide)) (fun _ hk => hk.2) (.string t246)) (fun _ hk => hk.2) (.int .i64 t247)) (fun _ hk => hk.2) (.slice Ao61 t248.length co61)) (fun _ hk => hk.2) (.slice Ao62 t251.length co62)) (fun _ hk => hk.2) (.slice Ao63 t254.length co63)) (fun _ hk => hk.2) (.slice Ao64 t257.length co64)) (fun _ hk => hk.2) (.slice Ao65 t260.length co65)) (fun _ hk => hk.2) (.slice Ao66 t263.length co66)) (fun _ h_ => h_.1))))) (Kd.R_lt (by (with_reducible repeat (first | apply Kd.R_alloc | apply Kd.R_drewN | apply Kd.R_drew)); exact (Kd.R_mono (Kd.R_far (p := ⟨gb266, 7, none⟩) (Kd.R_far (p := ⟨gb266, 6, none⟩) (Kd.R_far (p := ⟨gb266, 5, none⟩) (Kd.R_far (p := ⟨gb266, 4, none⟩) (Kd.R_far (p := ⟨gb266, 3, none⟩) (Kd.R_far (p := ⟨gb266, 2, none⟩) (Kd.R_far (p := ⟨gb266, 1, none⟩) (Kd.R_far (p := ⟨gb266, 0, none⟩) (Kd.R_types HO250.out BK266.out (by decide)) (fun _ hk => hk.2) (.string t246)) (fun _ hk => hk.2) (.int .i64 t247)) (fun _ hk => hk.2) (.slice Ao61 t248.length co61)) (fun _ hk => hk.2) (.slice Ao62 t251.length co62)) (fun _ hk => hk.2) (.slice Ao63 t254.length co63)) (fun _ hk => hk.2) (.slice Ao64 t257.length co64)) (fun _ hk => hk.2) (.slice Ao65 t260.length co65)) (fun _ hk => hk.2) (.slice Ao66 t263.length co66)) (fun _ h_ => h_.1))))) (Kd.R_lt (by (with_reducible repeat (first | apply Kd.R_alloc | apply Kd.R_drewN | apply Kd.R_drew)); exact (Kd.R_mono (Kd.R_far (p := ⟨gb266, 7, none⟩) (Kd.R_far (p := ⟨gb266, 6, none⟩) (Kd.R_far (p := ⟨gb266, 5, none⟩) (Kd.R_far (p := ⟨gb266, 4, none⟩) (Kd.R_far (p := ⟨gb266, 3, none⟩) (Kd.R_far (p := ⟨gb266, 2, none⟩) (Kd.R_far (p := ⟨gb266, 1, none⟩) (Kd.R_far (p := ⟨gb266, 0, none⟩) (Kd.R_types HO253.out BK266.out (by decide)) (fun _ hk => hk.2) (.string t246)) (fun _ hk => hk.2) (.int .i64 t247)) (fun _ hk => hk.2) (.slice Ao61 t248.length co61)) (fun _ hk => hk.2) (.slice Ao62 t251.length co62)) (fun _ hk => hk.2) (.slice Ao63 t254.length co63)) (fun _ hk => hk.2) (.slice Ao64 t257.length co64)) (fun _ hk => hk.2) (.slice Ao65 t260.length co65)) (fun _ hk => hk.2) (.slice Ao66 t263.length co66)) (fun _ h_ => h_.1))))) (below_size bl)); have HO274 := am (Kd.R_lower (Kd.R_new' (Kd.R_new' (Kd.R_new' (Kd.R_new' (Kd.R_new' (Kd.R_new' ho1 (Kd.R_lt (by (with_reducible repeat (first | apply Kd.R_alloc | apply Kd.R_drewN | apply Kd.R_drew)); exact (Kd.R_mono (Kd.R_far (p := ⟨gb266, 7, none⟩) (Kd.R_far (p := ⟨gb266, 6, none⟩) (Kd.R_far (p := ⟨gb266, 5, none⟩) (Kd.R_far (p := ⟨gb266, 4, none⟩) (Kd.R_far (p := ⟨gb266, 3, none⟩) (Kd.R_far (p := ⟨gb266, 2, none⟩) (Kd.R_far (p := ⟨gb266, 1, none⟩) (Kd.R_far (p := ⟨gb266, 0, none⟩) (Kd.R_types HO209.out BK266.out (by decide)) (fun _ hk => hk.2) (.string t246)) (fun _ hk => hk.2) (.int .i64 t247)) (fun _ hk => hk.2) (.slice Ao61 t248.length co61)) (fun _ hk => hk.2) (.slice Ao62 t251.length co62)) (fun _ hk => hk.2) (.slice Ao63 t254.length co63)) (fun _ hk => hk.2) (.slice Ao64 t257.length co64)) (fun _ hk => hk.2) (.slice Ao65 t260.length co65)) (fun _ hk => hk.2) (.slice Ao66 t263.length co66)) (fun _ h_ => h_.1))))) (Kd.R_lt (by (with_reducible repeat (first | apply Kd.R_alloc | apply Kd.R_drewN | apply Kd.R_drew)); exact (Kd.R_mono (Kd.R_far (p := ⟨gb266, 7, none⟩) (Kd.R_far (p := ⟨gb266, 6, none⟩) (Kd.R_far (p := ⟨gb266, 5, none⟩) (Kd.R_far (p := ⟨gb266, 4, none⟩) (Kd.R_far (p := ⟨gb266, 3, none⟩) (Kd.R_far (p := ⟨gb266, 2, none⟩) (Kd.R_far (p := ⟨gb266, 1, none⟩) (Kd.R_far (p := ⟨gb266, 0, none⟩) (Kd.R_types HO212.out BK266.out (by decide)) (fun _ hk => hk.2) (.string t246)) (fun _ hk => hk.2) (.int .i64 t247)) (fun _ hk => hk.2) (.slice Ao61 t248.length co61)) (fun _ hk => hk.2) (.slice Ao62 t251.length co62)) (fun _ hk => hk.2) (.slice Ao63 t254.length co63)) (fun _ hk => hk.2) (.slice Ao64 t257.length co64)) (fun _ hk => hk.2) (.slice Ao65 t260.length co65)) (fun _ hk => hk.2) (.slice Ao66 t263.length co66)) (fun _ h_ => h_.1))))) (Kd.R_lt (by (with_reducible repeat (first | apply Kd.R_alloc | apply Kd.R_drewN | apply Kd.R_drew)); exact (Kd.R_mono (Kd.R_far (p := ⟨gb266, 7, none⟩) (Kd.R_far (p := ⟨gb266, 6, none⟩) (Kd.R_far (p := ⟨gb266, 5, none⟩) (Kd.R_far (p := ⟨gb266, 4, none⟩) (Kd.R_far (p := ⟨gb266, 3, none⟩) (Kd.R_far (p := ⟨gb266, 2, none⟩) (Kd.R_far (p := ⟨gb266, 1, none⟩) (Kd.R_far (p := ⟨gb266, 0, none⟩) (Kd.R_types HO229.out BK266.out (by decide)) (fun _ hk => hk.2) (.string t246)) (fun _ hk => hk.2) (.int .i64 t247)) (fun _ hk => hk.2) (.slice Ao61 t248.length co61)) (fun _ hk => hk.2) (.slice Ao62 t251.length co62)) (fun _ hk => hk.2) (.slice Ao63 t254.length co63)) (fun _ hk => hk.2) (.slice Ao64 t257.length co64)) (fun _ hk => hk.2) (.slice Ao65 t260.length co65)) (fun _ hk => hk.2) (.slice Ao66 t263.length co66)) (fun _ h_ => h_.1))))) (Kd.R_lt (by (with_reducible repeat (first | apply Kd.R_alloc | apply Kd.R_drewN | apply Kd.R_drew)); exact (Kd.R_mono (Kd.R_far (p := ⟨gb266, 7, none⟩) (Kd.R_far (p := ⟨gb266, 6, none⟩) (Kd.R_far (p := ⟨gb266, 5, none⟩) (Kd.R_far (p := ⟨gb266, 4, none⟩) (Kd.R_far (p := ⟨gb266, 3, none⟩) (Kd.R_far (p := ⟨gb266, 2, none⟩) (Kd.R_far (p := ⟨gb266, 1, none⟩) (Kd.R_far (p := ⟨gb266, 0, none⟩) (Kd.R_types HO232.out BK266.out (by decide)) (fun _ hk => hk.2) (.string t246)) (fun _ hk => hk.2) (.int .i64 t247)) (fun _ hk => hk.2) (.slice Ao61 t248.length co61)) (fun _ hk => hk.2) (.slice Ao62 t251.length co62)) (fun _ hk => hk.2) (.slice Ao63 t254.length co63)) (fun _ hk => hk.2) (.slice Ao64 t257.length co64)) (fun _ hk => hk.2) (.slice Ao65 t260.length co65)) (fun _ hk => hk.2) (.slice Ao66 t263.length co66)) (fun _ h_ => h_.1))))) (Kd.R_lt (by (with_reducible repeat (first | apply Kd.R_alloc | apply Kd.R_drewN | apply Kd.R_drew)); exact (Kd.R_mono (Kd.R_far (p := ⟨gb266, 7, none⟩) (Kd.R_far (p := ⟨gb266, 6, none⟩) (Kd.R_far (p := ⟨gb266, 5, none⟩) (Kd.R_far (p := ⟨gb266, 4, none⟩) (Kd.R_far (p := ⟨gb266, 3, none⟩) (Kd.R_far (p := ⟨gb266, 2, none⟩) (Kd.R_far (p := ⟨gb266, 1, none⟩) (Kd.R_far (p := ⟨gb266, 0, none⟩) (Kd.R_types HO250.out BK266.out (by decide)) (fun _ hk => hk.2) (.string t246)) (fun _ hk => hk.2) (.int .i64 t247)) (fun _ hk => hk.2) (.slice Ao61 t248.length co61)) (fun _ hk => hk.2) (.slice Ao62 t251.length co62)) (fun _ hk => hk.2) (.slice Ao63 t254.length co63)) (fun _ hk => hk.2) (.slice Ao64 t257.length co64)) (fun _ hk => hk.2) (.slice Ao65 t260.length co65)) (fun _ hk => hk.2) (.slice Ao66 t263.length co66)) (fun _ h_ => h_.1))))) (Kd.R_lt (by (with_reducible repeat (first | apply Kd.R_alloc | apply Kd.R_drewN | apply Kd.R_drew)); exact (Kd.R_mono (Kd.R_far (p := ⟨gb266, 7, none⟩) (Kd.R_far (p := ⟨gb266, 6, none⟩) (Kd.R_far (p := ⟨gb266, 5, none⟩) (Kd.R_far (p := ⟨gb266, 4, none⟩) (Kd.R_far (p := ⟨gb266, 3, none⟩) (Kd.R_far (p := ⟨gb266, 2, none⟩) (Kd.R_far (p := ⟨gb266, 1, none⟩) (Kd.R_far (p := ⟨gb266, 0, none⟩) (Kd.R_types HO253.out BK266.out (by decide)) (fun _ hk => hk.2) (.string t246)) (fun _ hk => hk.2) (.int .i64 t247)) (fun _ hk => hk.2) (.slice Ao61 t248.length co61)) (fun _ hk => hk.2) (.slice Ao62 t251.length co62)) (fun _ hk => hk.2) (.slice Ao63 t254.length co63)) (fun _ hk => hk.2) (.slice Ao64 t257.length co64)) (fun _ hk => hk.2) (.slice Ao65 t260.length co65)) (fun _ hk => hk.2) (.slice Ao66 t263.length co66)) (fun _ h_ => h_.1))))) (below_size bl)); replace HO209 := am (Kd.R_mono (Kd.R_told (Kd.R_told (Kd.R_old (by (with_reducible repeat (first | apply Kd.R_alloc | apply Kd.R_drewN | apply Kd.R_drew)); exact (Kd.R_mono (Kd.R_far (p := ⟨gb266, 7, none⟩) (Kd.R_far (p := ⟨gb266, 6, none⟩) (Kd.R_far (p := ⟨gb266, 5, none⟩) (Kd.R_far (p := ⟨gb266, 4, none⟩) (Kd.R_far (p := ⟨gb266, 3, none⟩) (Kd.R_far (p := ⟨gb266, 2, none⟩) (Kd.R_far (p := ⟨gb266, 1, none⟩) (Kd.R_far (p := ⟨gb266, 0, none⟩) (Kd.R_types HO209.out BK266.out (by decide)) (fun _ hk => hk.2) (.string t246)) (fun _ hk => hk.2) (.int .i64 t247)) (fun _ hk => hk.2) (.slice Ao61 t248.length co61)) (fun _ hk => hk.2) (.slice Ao62 t251.length co62)) (fun _ hk => hk.2) (.slice Ao63 t254.length co63)) (fun _ hk => hk.2) (.slice Ao64 t257.length co64)) (fun _ hk => hk.2) (.slice Ao65 t260.length co65)) (fun _ hk => hk.2) (.slice Ao66 t263.length co66)) (fun _ h_ => h_.1))) hb) (Kd.R_base ho0)) (Kd.R_base ho1)) (fun _ h_ => h_.1)); replace HO212 := am (Kd.R_mono (Kd.R_told (Kd.R_told (Kd.R_old (by (with_reducible repeat (first | apply Kd.R_alloc | apply Kd.R_drewN | apply Kd.R_drew)); exact (Kd.R_mono (Kd.R_far (p := ⟨gb266, 7, none⟩) (Kd.R_far (p := ⟨gb266, 6, none⟩) (Kd.R_far (p := ⟨gb266, 5, none⟩) (Kd.R_far (p := ⟨gb266, 4, none⟩) (Kd.R_far (p := ⟨gb266, 3, none⟩) (Kd.R_far (p := ⟨gb266, 2, none⟩) (Kd.R_far (p := ⟨gb266, 1, none⟩) (Kd.R_far (p := ⟨gb266, 0, none⟩) (Kd.R_types HO212.out BK266.out (by decide)) (fun _ hk => hk.2) (.string t246)) (fun _ hk => hk.2) (.int .i64 t247)) (fun _ hk => hk.2) (.slice Ao61 t248.length co61)) (fun _ hk => hk.2) (.slice Ao62 t251.length co62)) (fun _ hk => hk.2) (.slice Ao63 t254.length co63)) (fun _ hk => hk.2) (.slice Ao64 t257.length co64)) (fun _ hk => hk.2) (.slice Ao65 t260.length co65)) (fun _ hk => hk.2) (.slice Ao66 t263.length co66)) (fun _ h_ => h_.1))) hb) (Kd.R_base ho0)) (Kd.R_base ho1)) (fun _ h_ => h_.1)); replace HO229 := am (Kd.R_mono (Kd.R_told (Kd.R_told (Kd.R_old (by (with_reducible repeat (first | apply Kd.R_alloc | apply Kd.R_drewN | apply Kd.R_drew)); exact (Kd.R_mono (Kd.R_far (p := ⟨gb266, 7, none⟩) (Kd.R_far (p := ⟨gb266, 6, none⟩) (Kd.R_far (p := ⟨gb266, 5, none⟩) (Kd.R_far (p := ⟨gb266, 4, none⟩) (Kd.R_far (p := ⟨gb266, 3, none⟩) (Kd.R_far (p := ⟨gb266, 2, none⟩) (Kd.R_far (p := ⟨gb266, 1, none⟩) (Kd.R_far (p := ⟨gb266, 0, none⟩) (Kd.R_types HO229.out BK266.out (by decide)) (fun _ hk => hk.2) (.string t246)) (fun _ hk => hk.2) (.int .i64 t247)) (fun _ hk => hk.2) (.slice Ao61 t248.length co61)) (fun _ hk => hk.2) (.slice Ao62 t251.length co62)) (fun _ hk => hk.2) (.slice Ao63 t254.length co63)) (fun _ hk => hk.2) (.slice Ao64 t257.length co64)) (fun _ hk => hk.2) (.slice Ao65 t260.length co65)) (fun _ hk => hk.2) (.slice Ao66 t263.length co66)) (fun _ h_ => h_.1))) hb) (Kd.R_base ho0)) (Kd.R_base ho1)) (fun _ h_ => h_.1)); replace HO232 := am (Kd.R_mono (Kd.R_told (Kd.R_told (Kd.R_old (by (with_reducible repeat (first | apply Kd.R_alloc | apply Kd.R_drewN | apply Kd.R_drew)); exact (Kd.R_mono (Kd.R_far (p := ⟨gb266, 7, none⟩) (Kd.R_far (p := ⟨gb266, 6, none⟩) (Kd.R_far (p := ⟨gb266, 5, none⟩) (Kd.R_far (p := ⟨gb266, 4, none⟩) (Kd.R_far (p := ⟨gb266, 3, none⟩) (Kd.R_far (p := ⟨gb266, 2, none⟩) (Kd.R_far (p := ⟨gb266, 1, none⟩) (Kd.R_far (p := ⟨gb266, 0, none⟩) (Kd.R_types HO232.out BK266.out (by decide)) (fun _ hk => hk.2) (.string t246)) (fun _ hk => hk.2) (.int .i64 t247)) (fun _ hk => hk.2) (.slice Ao61 t248.length co61)) (fun _ hk => hk.2) (.slice Ao62 t251.length co62)) (fun _ hk => hk.2) (.slice Ao63 t254.length co63)) (fun _ hk => hk.2) (.slice Ao64 t257.length co64)) (fun _ hk => hk.2) (.slice Ao65 t260.length co65)) (fun _ hk => hk.2) (.slice Ao66 t263.length co66)) (fun _ h_ => h_.1))) hb) (Kd.R_base ho0)) (Kd.R_base ho1)) (fun _ h_ => h_.1)); replace HO250 := am (Kd.R_mono (Kd.R_told (Kd.R_told (Kd.R_old (by (with_reducible repeat (first | apply Kd.R_alloc | apply Kd.R_drewN | apply Kd.R_drew)); exact (Kd.R_mono (Kd.R_far (p := ⟨gb266, 7, none⟩) (Kd.R_far (p := ⟨gb266, 6, none⟩) (Kd.R_far (p := ⟨gb266, 5, none⟩) (Kd.R_far (p := ⟨gb266, 4, none⟩) (Kd.R_far (p := ⟨gb266, 3, none⟩) (Kd.R_far (p := ⟨gb266, 2, none⟩) (Kd.R_far (p := ⟨gb266, 1, none⟩) (Kd.R_far (p := ⟨gb266, 0, none⟩) (Kd.R_types HO250.out BK266.out (by decide)) (fun _ hk => hk.2) (.string t246)) (fun _ hk => hk.2) (.int .i64 t247)) (fun _ hk => hk.2) (.slice Ao61 t248.length co61)) (fun _ hk => hk.2) (.slice Ao62 t251.length co62)) (fun _ hk => hk.2) (.slice Ao63 t254.length co63)) (fun _ hk => hk.2) (.slice Ao64 t257.length co64)) (fun _ hk => hk.2) (.slice Ao65 t260.length co65)) (fun _ hk => hk.2) (.slice Ao66 t263.length co66)) (fun _ h_ => h_.1))) hb) (Kd.R_base ho0)) (Kd.R_base ho1)) (fun _ h_ => h_.1)); replace HO253 := am (Kd.R_mono (Kd.R_told (Kd.R_told (Kd.R_old (by (with_reducible repeat (first | apply Kd.R_alloc | apply Kd.R_drewN | apply Kd.R_drew)); exact (Kd.R_mono (Kd.R_far (p := ⟨gb266, 7, none⟩) (Kd.R_far (p := ⟨gb266, 6, none⟩) (Kd.R_far (p := ⟨gb266, 5, none⟩) (Kd.R_far (p := ⟨gb266, 4, none⟩) (Kd.R_far (p := ⟨gb266, 3, none⟩) (Kd.R_far (p := ⟨gb266, 2, none⟩) (Kd.R_far (p := ⟨gb266, 1, none⟩) (Kd.R_far (p := ⟨gb266, 0, none⟩) (Kd.R_types HO253.out BK266.out (by decide)) (fun _ hk => hk.2) (.string t246)) (fun _ hk => hk.2) (.int .i64 t247)) (fun _ hk => hk.2) (.slice Ao61 t248.length co61)) (fun _ hk => hk.2) (.slice Ao62 t251.length co62)) (fun _ hk => hk.2) (.slice Ao63 t254.length co63)) (fun _ hk => hk.2) (.slice Ao64 t257.length co64)) (fun _ hk => hk.2) (.slice Ao65 t260.length co65)) (fun _ hk => hk.2) (.slice Ao66 t263.length co66)) (fun _ h_ => h_.1))) hb) (Kd.R_base ho0)) (Kd.R_base ho1)) (fun _ h_ => h_.1)); have HO277 := am (Kd.R_lower (Kd.R_new' (Kd.R_new' (Kd.R_new' ho2 (Kd.R_lt (by (with_reducible repeat (first | apply Kd.R_alloc | apply Kd.R_drewN | apply Kd.R_drew)); exact (Kd.R_mono (Kd.R_far (p := ⟨gb266, 7, none⟩) (Kd.R_far (p := ⟨gb266, 6, none⟩) (Kd.R_far (p := ⟨gb266, 5, none⟩) (Kd.R_far (p := ⟨gb266, 4, none⟩) (Kd.R_far (p := ⟨gb266, 3, none⟩) (Kd.R_far (p := ⟨gb266, 2, none⟩) (Kd.R_far (p := ⟨gb266, 1, none⟩) (Kd.R_far (p := ⟨gb266, 0, none⟩) (Kd.R_types HO215.out BK266.out (by decide)) (fun _ hk => hk.2) (.string t246)) (fun _ hk => hk.2) (.int .i64 t247)) (fun _ hk => hk.2) (.slice Ao61 t248.length co61)) (fun _ hk => hk.2) (.slice Ao62 t251.length co62)) (fun _ hk => hk.2) (.slice Ao63 t254.length co63)) (fun _ hk => hk.2) (.slice Ao64 t257.length co64)) (fun _ hk => hk.2) (.slice Ao65 t260.length co65)) (fun _ hk => hk.2) (.slice Ao66 t263.length co66)) (fun _ h_ => h_.1))))) (Kd.R_lt (by (with_reducible repeat (first | apply Kd.R_alloc | apply Kd.R_drewN | apply Kd.R_drew)); exact (Kd.R_mono (Kd.R_far (p := ⟨gb266, 7, none⟩) (Kd.R_far (p := ⟨gb266, 6, none⟩) (Kd.R_far (p := ⟨gb266, 5, none⟩) (Kd.R_far (p := ⟨gb266, 4, none⟩) (Kd.R_far (p := ⟨gb266, 3, none⟩) (Kd.R_far (p := ⟨gb266, 2, none⟩) (Kd.R_far (p := ⟨gb266, 1, none⟩) (Kd.R_far (p := ⟨gb266, 0, none⟩) (Kd.R_types HO235.out BK266.out (by decide)) (fun _ hk => hk.2) (.string t246)) (fun _ hk => hk.2) (.int .i64 t247)) (fun _ hk => hk.2) (.slice Ao61 t248.length co61)) (fun _ hk => hk.2) (.slice Ao62 t251.length co62)) (fun _ hk => hk.2) (.slice Ao63 t254.length co63)) (fun _ hk => hk.2) (.slice Ao64 t257.length co64)) (fun _ hk => hk.2) (.slice Ao65 t260.length co65)) (fun _ hk => hk.2) (.slice Ao66 t263.length co66)) (fun _ h_ => h_.1))))) (Kd.R_lt (by (with_reducible repeat (first | apply Kd.R_alloc | apply Kd.R_drewN | apply Kd.R_drew)); exact (Kd.R_mono (Kd.R_far (p := ⟨gb266, 7, none⟩) (Kd.R_far (p := ⟨gb266, 6, none⟩) (Kd.R_far (p := ⟨gb266, 5, none⟩) (Kd.R_far (p := ⟨gb266, 4, none⟩) (Kd.R_far (p := ⟨gb266, 3, none⟩) (Kd.R_far (p := ⟨gb266, 2, none⟩) (Kd.R_far (p := ⟨gb266, 1, none⟩) (Kd.R_far (p := ⟨gb266, 0, none⟩) (Kd.R_types HO256.out BK266.out (by decide)) (fun _ hk => hk.2) (.string t246)) (fun _ hk => hk.2) (.int .i64 t247)) (fun _ hk => hk.2) (.slice Ao61 t248.length co61)) (fun _ hk => hk.2) (.slice Ao62 t251.length co62)) (fun _ hk => hk.2) (.slice Ao63 t254.length co63)) (fun _ hk => hk.2) (.slice Ao64 t257.length co64)) (fun _ hk => hk.2) (.slice Ao65 t260.length co65)) (fun _ hk => hk.2) (.slice Ao66 t263.length co66)) (fun _ h_ => h_.1))))) (below_size bl)); replace HO215 := am (Kd.R_elder' (by (with_reducible repeat (first | apply Kd.R_alloc | apply Kd.R_drewN | apply Kd.R_drew)); exact (Kd.R_mono (Kd.R_far (p := ⟨gb266, 7, none⟩) (Kd.R_far (p := ⟨gb266, 6, none⟩) (Kd.R_far (p := ⟨gb266, 5, none⟩) (Kd.R_far (p := ⟨gb266, 4, none⟩) (Kd.R_far (p := ⟨gb266, 3, none⟩) (Kd.R_far (p := ⟨gb266, 2, none⟩) (Kd.R_far (p := ⟨gb266, 1, none⟩) (Kd.R_far (p := ⟨gb266, 0, none⟩) (Kd.R_types HO215.out BK266.out (by decide)) (fun _ hk => hk.2) (.string t246)) (fun _ hk => hk.2) (.int .i64 t247)) (fun _ hk => hk.2) (.slice Ao61 t248.length co61)) (fun _ hk => hk.2) (.slice Ao62 t251.length co62)) (fun _ hk => hk.2) (.slice Ao63 t254.length co63)) (fun _ hk => hk.2) (.slice Ao64 t257.length co64)) (fun _ hk => hk.2) (.slice Ao65 t260.length co65)) (fun _ hk => hk.2) (.slice Ao66 t263.length co66)) (fun _ h_ => h_.1))) (Kd.R_base ho2) hb); replace HO235 := am (Kd.R_elder' (by (with_reducible repeat (first | apply Kd.R_alloc | apply Kd.R_drewN | apply Kd.R_drew)); exact (Kd.R_mono (Kd.R_far (p := ⟨gb266, 7, none⟩) (Kd.R_far (p := ⟨gb266, 6, none⟩) (Kd.R_far (p := ⟨gb266, 5, none⟩) (Kd.R_far (p := ⟨gb266, 4, none⟩) (Kd.R_far (p := ⟨gb266, 3, none⟩) (Kd.R_far (p := ⟨gb266, 2, none⟩) (Kd.R_far (p := ⟨gb266, 1, none⟩) (Kd.R_far (p := ⟨gb266, 0, none⟩) (Kd.R_types HO235.out BK266.out (by decide)) (fun _ hk => hk.2) (.string t246)) (fun _ hk => hk.2) (.int .i64 t247)) (fun _ hk => hk.2) (.slice Ao61 t248.length co61)) (fun _ hk => hk.2) (.slice Ao62 t251.length co62)) (fun _ hk => hk.2) (.slice Ao63 t254.length co63)) (fun _ hk => hk.2) (.slice Ao64 t257.length co64)) (fun _ hk => hk.2) (.slice Ao65 t260.length co65)) (fun _ hk => hk.2) (.slice Ao66 t263.length co66)) (fun _ h_ => h_.1))) (Kd.R_base ho2) hb); replace HO256 := am (Kd.R_elder' (by (with_reducible repeat (first | apply Kd.R_alloc | apply Kd.R_drewN | apply Kd.R_drew)); exact (Kd.R_mono (Kd.R_far (p := ⟨gb266, 7, none⟩) (Kd.R_far (p := ⟨gb266, 6, none⟩) (Kd.R_far (p := ⟨gb266, 5, none⟩) (Kd.R_far (p := ⟨gb266, 4, none⟩) (Kd.R_far (p := ⟨gb266, 3, none⟩) (Kd.R_far (p := ⟨gb266, 2, none⟩) (Kd.R_far (p := ⟨gb266, 1, none⟩) (Kd.R_far (p := ⟨gb266, 0, none⟩) (Kd.R_types HO256.out BK266.out (by decide)) (fun _ hk => hk.2) (.string t246)) (fun _ hk => hk.2) (.int .i64 t247)) (fun _ hk => hk.2) (.slice Ao61 t248.length co61)) (fun _ hk => hk.2) (.slice Ao62 t251.length co62)) (fun _ hk => hk.2) (.slice Ao63 t254.length co63)) (fun _ hk => hk.2) (.slice Ao64 t257.length co64)) (fun _ hk => hk.2) (.slice Ao65 t260.length co65)) (fun _ hk => hk.2) (.slice Ao66 t263.length co66)) (fun _ h_ => h_.1))) (Kd.R_base ho2) hb); have HO280 := am (Kd.R_lower (Kd.R_new' (Kd.R_new' (Kd.R_new' (Kd.R_new' (Kd.R_new' (Kd.R_new' (Kd.R_new' (Kd.R_new' (Kd.R_new' ho3 (Kd.R_lt (by (with_reducible repeat (first | apply Kd.R_alloc | apply Kd.R_drewN | apply Kd.R_drew)); exact (Kd.R_mono (Kd.R_far (p := ⟨gb266, 7, none⟩) (Kd.R_far (p := ⟨gb266, 6, none⟩) (Kd.R_far (p := ⟨gb266, 5, none⟩) (Kd.R_far (p := ⟨gb266, 4, none⟩) (Kd.R_far (p := ⟨gb266, 3, none⟩) (Kd.R_far (p := ⟨gb266, 2, none⟩) (Kd.R_far (p := ⟨gb266, 1, none⟩) (Kd.R_far (p := ⟨gb266, 0, none⟩) (Kd.R_types HO218.out BK266.out (by decide)) (fun _ hk => hk.2) (.string t246)) (fun _ hk => hk.2) (.int .i64 t247)) (fun _ hk => hk.2) (.slice Ao61 t248.length co61)) (fun _ hk => hk.2) (.slice Ao62 t251.length co62)) (fun _ hk => hk.2) (.slice Ao63 t254.length co63)) (fun _ hk => hk.2) (.slice Ao64 t257.length co64)) (fun _ hk => hk.2) (.slice Ao65 t260.length co65)) (fun _ hk => hk.2) (.slice Ao66 t263.length co66)) (fun _ h_ => h_.1))))) (Kd.R_lt (by (with_reducible repeat (first | apply Kd.R_alloc | apply Kd.R_drewN | apply Kd.R_drew)); exact (Kd.R_mono (Kd.R_far (p := ⟨gb266, 7, none⟩) (Kd.R_far (p := ⟨gb266, 6, none⟩) (Kd.R_far (p := ⟨gb266, 5, none⟩) (Kd.R_far (p := ⟨gb266, 4, none⟩) (Kd.R_far (p := ⟨gb266, 3, none⟩) (Kd.R_far (p := ⟨gb266, 2, none⟩) (Kd.R_far (p := ⟨gb266, 1, none⟩) (Kd.R_far (p := ⟨gb266, 0, none⟩) (Kd.R_types HO221.out BK266.out (by decide)) (fun _ hk => hk.2) (.string t246)) (fun _ hk => hk.2) (.int .i64 t247)) (fun _ hk => hk.2) (.slice Ao61 t248.length co61)) (fun _ hk => hk.2) (.slice Ao62 t251.length co62)) (fun _ hk => hk.2) (.slice Ao63 t254.length co63)) (fun _ hk => hk.2) (.slice Ao64 t257.length co64)) (fun _ hk => hk.2) (.slice Ao65 t260.length co65)) (fun _ hk => hk.2) (.slice Ao66 t263.length co66)) (fun _ h_ => h_.1))))) (Kd.R_lt (by (with_reducible repeat (first | apply Kd.R_alloc | apply Kd.R_drewN | apply Kd.R_drew)); exact (Kd.R_mono (Kd.R_far (p := ⟨gb266, 7, none⟩) (Kd.R_far (p := ⟨gb266, 6, none⟩) (Kd.R_far (p := ⟨gb266, 5, none⟩) (Kd.R_far (p := ⟨gb266, 4, none⟩) (Kd.R_far (p := ⟨gb266, 3, none⟩) (Kd.R_far (p := ⟨gb266, 2, none⟩) (Kd.R_far (p := ⟨gb266, 1, none⟩) (Kd.R_far (p := ⟨gb266, 0, none⟩) (Kd.R_types HO224.out BK266.out (by decide)) (fun _ hk => hk.2) (.string t246)) (fun _ hk => hk.2) (.int .i64 t247)) (fun _ hk => hk.2) (.slice Ao61 t248.length co61)) (fun _ hk => hk.2) (.slice Ao62 t251.length co62)) (fun _ hk => hk.2) (.slice Ao63 t254.length co63)) (fun _ hk => hk.2) (.slice Ao64 t257.length co64)) (fun _ hk => hk.2) (.slice Ao65 t260.length co65)) (fun _ hk => hk.2) (.slice Ao66 t263.length co66)) (fun _ h_ => h_.1))))) (Kd.R_lt (by (with_reducible repeat (first | apply Kd.R_alloc | apply Kd.R_drewN | apply Kd.R_drew)); exact (Kd.R_mono (Kd.R_far (p := ⟨gb266, 7, none⟩) (Kd.R_far (p := ⟨gb266, 6, none⟩) (Kd.R_far (p := ⟨gb266, 5, none⟩) (Kd.R_far (p := ⟨gb266, 4, none⟩) (Kd.R_far (p := ⟨gb266, 3, none⟩) (Kd.R_far (p := ⟨gb266, 2, none⟩) (Kd.R_far (p := ⟨gb266, 1, none⟩) (Kd.R_far (p := ⟨gb266, 0, none⟩) (Kd.R_types HO238.out BK266.out (by decide)) (fun _ hk => hk.2) (.string t246)) (fun _ hk => hk.2) (.int .i64 t247)) (fun _ hk => hk.2) (.slice Ao61 t248.length co61)) (fun _ hk => hk.2) (.slice Ao62 t251.length co62)) (fun _ hk => hk.2) (.slice Ao63 t254.length co63)) (fun _ hk => hk.2) (.slice Ao64 t257.length co64)) (fun _ hk => hk.2) (.slice Ao65 t260.length co65)) (fun _ hk => hk.2) (.slice Ao66 t263.length co66)) (fun _ h_ => h_.1))))) (Kd.R_lt (by (with_reducible repeat (first | apply Kd.R_alloc | apply Kd.R_drewN | apply Kd.R_drew)); exact (Kd.R_mono (Kd.R_far (p := ⟨gb266, 7, none⟩) (Kd.R_far (p := ⟨gb266, 6, none⟩) (Kd.R_far (p := ⟨gb266, 5, none⟩) (Kd.R_far (p := ⟨gb266, 4, none⟩) (Kd.R_far (p := ⟨gb266, 3, none⟩) (Kd.R_far (p := ⟨gb266, 2, none⟩) (Kd.R_far (p := ⟨gb266, 1, none⟩) (Kd.R_far (p := ⟨gb266, 0, none⟩) (Kd.R_types HO241.out BK266.out (by decide)) (fun _ hk => hk.2) (.string t246)) (fun _ hk => hk.2) (.int .i64 t247)) (fun _ hk => hk.2) (.slice Ao61 t248.length co61)) (fun _ hk => hk.2) (.slice Ao62 t251.length co62)) (fun _ hk => hk.2) (.slice Ao63 t254.length co63)) (fun _ hk => hk.2) (.slice Ao64 t257.length co64)) (fun _ hk => hk.2) (.slice Ao65 t260.length co65)) (fun _ hk => hk.2) (.slice Ao66 t263.length co66)) (fun _ h_ => h_.1))))) (Kd.R_lt (by (with_reducible repeat (first | apply Kd.R_alloc | apply Kd.R_drewN | apply Kd.R_drew)); exact (Kd.R_mono (Kd.R_far (p := ⟨gb266, 7, none⟩) (Kd.R_far (p := ⟨gb266, 6, none⟩) (Kd.R_far (p := ⟨gb266, 5, none⟩) (Kd.R_far (p := ⟨gb266, 4, none⟩) (Kd.R_far (p := ⟨gb266, 3, none⟩) (Kd.R_far (p := ⟨gb266, 2, none⟩) (Kd.R_far (p := ⟨gb266, 1, none⟩) (Kd.R_far (p := ⟨gb266, 0, none⟩) (Kd.R_types HO244.out BK266.out (by decide)) (fun _ hk => hk.2) (.string t246)) (fun _ hk => hk.2) (.int .i64 t247)) (fun _ hk => hk.2) (.slice Ao61 t248.length co61)) (fun _ hk => hk.2) (.slice Ao62 t251.length co62)) (fun _ hk => hk.2) (.slice Ao63 t254.length co63)) (fun _ hk => hk.2) (.slice Ao64 t257.length co64)) (fun _ hk => hk.2) (.slice Ao65 t260.length co65)) (fun _ hk => hk.2) (.slice Ao66 t263.length co66)) (fun _ h_ => h_.1))))) (Kd.R_lt (by (with_reducible repeat (first | apply Kd.R_alloc | apply Kd.R_drewN | apply Kd.R_drew)); exact (Kd.R_mono (Kd.R_far (p := ⟨gb266, 7, none⟩) (Kd.R_far (p := ⟨gb266, 6, none⟩) (Kd.R_far (p := ⟨gb266, 5, none⟩) (Kd.R_far (p := ⟨gb266, 4, none⟩) (Kd.R_far (p := ⟨gb266, 3, none⟩) (Kd.R_far (p := ⟨gb266, 2, none⟩) (Kd.R_far (p := ⟨gb266, 1, none⟩) (Kd.R_far (p := ⟨gb266, 0, none⟩) (Kd.R_types HO259.out BK266.out (by decide)) (fun _ hk => hk.2) (.string t246)) (fun _ hk => hk.2) (.int .i64 t247)) (fun _ hk => hk.2) (.slice Ao61 t248.length co61)) (fun _ hk => hk.2) (.slice Ao62 t251.length co62)) (fun _ hk => hk.2) (.slice Ao63 t254.length co63)) (fun _ hk => hk.2) (.slice Ao64 t257.length co64)) (fun _ hk => hk.2) (.slice Ao65 t260.length co65)) (fun _ hk => hk.2) (.slice Ao66 t263.length co66)) (fun _ h_ => h_.1))))) (Kd.R_lt (by (with_reducible repeat (first | apply Kd.R_alloc | apply Kd.R_drewN | apply Kd.R_drew)); exact (Kd.R_mono (Kd.R_far (p := ⟨gb266, 7, none⟩) (Kd.R_far (p := ⟨gb266, 6, none⟩) (Kd.R_far (p := ⟨gb266, 5, none⟩) (Kd.R_far (p := ⟨gb266, 4, none⟩) (Kd.R_far (p := ⟨gb266, 3, none⟩) (Kd.R_far (p := ⟨gb266, 2, none⟩) (Kd.R_far (p := ⟨gb266, 1, none⟩) (Kd.R_far (p := ⟨gb266, 0, none⟩) (Kd.R_types HO262.out BK266.out (by decide)) (fun _ hk => hk.2) (.string t246)) (fun _ hk => hk.2) (.int .i64 t247)) (fun _ hk => hk.2) (.slice Ao61 t248.length co61)) (fun _ hk => hk.2) (.slice Ao62 t251.length co62)) (fun _ hk => hk.2) (.slice Ao63 t254.length co63)) (fun _ hk => hk.2) (.slice Ao64 t257.length co64)) (fun _ hk => hk.2) (.slice Ao65 t260.length co65)) (fun _ hk => hk.2) (.slice Ao66 t263.length co66)) (fun _ h_ => h_.1))))) (Kd.R_lt (by (with_reducible repeat (first | apply Kd.R_alloc | apply Kd.R_drewN | apply Kd.R_drew)); exact (Kd.R_mono (Kd.R_far (p := ⟨gb266, 7, none⟩) (Kd.R_far (p := ⟨gb266, 6, none⟩) (Kd.R_far (p := ⟨gb266, 5, none⟩) (Kd.R_far (p := ⟨gb266, 4, none⟩) (Kd.R_far (p := ⟨gb266, 3, none⟩) (Kd.R_far (p := ⟨gb266, 2, none⟩) (Kd.R_far (p := ⟨gb266, 1, none⟩) (Kd.R_far (p := ⟨gb266, 0, none⟩) (Kd.R_types HO265.out BK266.out (by decide)) (fun _ hk => hk.2) (.string t246)) (fun _ hk => hk.2) (.int .i64 t247)) (fun _ hk => hk.2) (.slice Ao61 t248.length co61)) (fun _ hk => hk.2) (.slice Ao62 t251.length co62)) (fun _ hk => hk.2) (.slice Ao63 t254.length co63)) (fun _ hk => hk.2) (.slice Ao64 t257.length co64)) (fun _ hk => hk.2) (.slice Ao65 t260.length co65)) (fun _ hk => hk.2) (.slice Ao66 t263.length co66)) (fun _ h_ => h_.1))))) (below_size bl)); have HO283 := am (Kd.R_lower (Kd.R_new' (Kd.R_new' (Kd.R_new' (Kd.R_new' (Kd.R_new' (Kd.R_new' (Kd.R_new' (Kd.R_new' (Kd.R_new' ho4 (Kd.R_lt (by (with_reducible repeat (first | apply Kd.R_alloc | apply Kd.R_drewN | apply Kd.R_drew)); exact (Kd.R_mono (Kd.R_far (p := ⟨gb266, 7, none⟩) (Kd.R_far (p := ⟨gb266, 6, none⟩) (Kd.R_far (p := ⟨gb266, 5, none⟩) (Kd.R_far (p := ⟨gb266, 4, none⟩) (Kd.R_far (p := ⟨gb266, 3, none⟩) (Kd.R_far (p := ⟨gb266, 2, none⟩) (Kd.R_far (p := ⟨gb266, 1, none⟩) (Kd.R_far (p := ⟨gb266, 0, none⟩) (Kd.R_types HO218.out BK266.out (by decide)) (fun _ hk => hk.2) (.string t246)) (fun _ hk => hk.2) (.int .i64 t247)) (fun _ hk => hk.2) (.slice Ao61 t248.length co61)) (fun _ hk => hk.2) (.slice Ao62 t251.length co62)) (fun _ hk => hk.2) (.slice Ao63 t254.length co63)) (fun _ hk => hk.2) (.slice Ao64 t257.length co64)) (fun _ hk => hk.2) (.slice Ao65 t260.length co65)) (fun _ hk => hk.2) (.slice Ao66 t263.length co66)) (fun _ h_ => h_.1))))) (Kd.R_lt (by (with_reducible repeat (first | apply Kd.R_alloc | apply Kd.R_drewN | apply Kd.R_drew)); exact (Kd.R_mono (Kd.R_far (p := ⟨gb266, 7, none⟩) (Kd.R_far (p := ⟨gb266, 6, none⟩) (Kd.R_far (p := ⟨gb266, 5, none⟩) (Kd.R_far (p := ⟨gb266, 4, none⟩) (Kd.R_far (p := ⟨gb266, 3, none⟩) (Kd.R_far (p := ⟨gb266, 2, none⟩) (Kd.R_far (p := ⟨gb266, 1, none⟩) (Kd.R_far (p := ⟨gb266, 0, none⟩) (Kd.R_types HO221.out BK266.out (by decide)) (fun _ hk => hk.2) (.string t246)) (fun _ hk => hk.2) (.int .i64 t247)) (fun _ hk => hk.2) (.slice Ao61 t248.length co61)) (fun _ hk => hk.2) (.slice Ao62 t251.length co62)) (fun _ hk => hk.2) (.slice Ao63 t254.length co63)) (fun _ hk => hk.2) (.slice Ao64 t257.length co64)) (fun _ hk => hk.2) (.slice Ao65 t260.length co65)) (fun _ hk => hk.2) (.slice Ao66 t263.length co66)) (fun _ h_ => h_.1))))) (Kd.R_lt (by (with_reducible repeat (first | apply Kd.R_alloc | apply Kd.R_drewN | apply Kd.R_drew)); exact (Kd.R_mono (Kd.R_far (p := ⟨gb266, 7, none⟩) (Kd.R_far (p := ⟨gb266, 6, none⟩) (Kd.R_far (p := ⟨gb266, 5, none⟩) (Kd.R_far (p := ⟨gb266, 4, none⟩) (Kd.R_far (p := ⟨gb266, 3, none⟩) (Kd.R_far (p := ⟨gb266, 2, none⟩) (Kd.R_far (p := ⟨gb266, 1, none⟩) (Kd.R_far (p := ⟨gb266, 0, none⟩) (Kd.R_types HO224.out BK266.out (by decide)) (fun _ hk => hk.2) (.string t246)) (fun _ hk => hk.2) (.int .i64 t247)) (fun _ hk => hk.2) (.slice Ao61 t248.length co61)) (fun _ hk => hk.2) (.slice Ao62 t251.length co62)) (fun _ hk => hk.2) (.slice Ao63 t254.length co63)) (fun _ hk => hk.2) (.slice Ao64 t257.length co64)) (fun _ hk => hk.2) (.slice Ao65 t260.length co65)) (fun _ hk => hk.2) (.slice Ao66 t263.length co66)) (fun _ h_ => h_.1))))) (Kd.R_lt (by (with_reducible repeat (first | apply Kd.R_alloc | apply Kd.R_drewN | apply Kd.R_drew)); exact (Kd.R_mono (Kd.R_far (p := ⟨gb266, 7, none⟩) (Kd.R_far (p := ⟨gb266, 6, none⟩) (Kd.R_far (p := ⟨gb266, 5, none⟩) (Kd.R_far (p := ⟨gb266, 4, none⟩) (Kd.R_far (p := ⟨gb266, 3, none⟩) (Kd.R_far (p := ⟨gb266, 2, none⟩) (Kd.R_far (p := ⟨gb266, 1, none⟩) (Kd.R_far (p := ⟨gb266, 0, none⟩) (Kd.R_types HO238.out BK266.out (by decide)) (fun _ hk => hk.2) (.string t246)) (fun _ hk => hk.2) (.int .i64 t247)) (fun _ hk => hk.2) (.slice Ao61 t248.length co61)) (fun _ hk => hk.2) (.slice Ao62 t251.length co62)) (fun _ hk => hk.2) (.slice Ao63 t254.length co63)) (fun _ hk => hk.2) (.slice Ao64 t257.length co64)) (fun _ hk => hk.2) (.slice Ao65 t260.length co65)) (fun _ hk => hk.2) (.slice Ao66 t263.length co66)) (fun _ h_ => h_.1))))) (Kd.R_lt (by (with_reducible repeat (first | apply Kd.R_alloc | apply Kd.R_drewN | apply Kd.R_drew)); exact (Kd.R_mono (Kd.R_far (p := ⟨gb266, 7, none⟩) (Kd.R_far (p := ⟨gb266, 6, none⟩) (Kd.R_far (p := ⟨gb266, 5, none⟩) (Kd.R_far (p := ⟨gb266, 4, none⟩) (Kd.R_far (p := ⟨gb266, 3, none⟩) (Kd.R_far (p := ⟨gb266, 2, none⟩) (Kd.R_far (p := ⟨gb266, 1, none⟩) (Kd.R_far (p := ⟨gb266, 0, none⟩) (Kd.R_types HO241.out BK266.out (by decide)) (fun _ hk => hk.2) (.string t246)) (fun _ hk => hk.2) (.int .i64 t247)) (fun _ hk => hk.2) (.slice Ao61 t248.length co61)) (fun _ hk => hk.2) (.slice Ao62 t251.length co62)) (fun _ hk => hk.2) (.slice Ao63 t254.length co63)) (fun _ hk => hk.2) (.slice Ao64 t257.length co64)) (fun _ hk => hk.2) (.slice Ao65 t260.length co65)) (fun _ hk => hk.2) (.slice Ao66 t263.length co66)) (fun _ h_ => h_.1))))) (Kd.R_lt (by (with_reducible repeat (first | apply Kd.R_alloc | apply Kd.R_drewN | apply Kd.R_drew)); exact (Kd.R_mono (Kd.R_far (p := ⟨gb266, 7, none⟩) (Kd.R_far (p := ⟨gb266, 6, none⟩) (Kd.R_far (p := ⟨gb266, 5, none⟩) (Kd.R_far (p := ⟨gb266, 4, none⟩) (Kd.R_far (p := ⟨gb266, 3, none⟩) (Kd.R_far (p := ⟨gb266, 2, none⟩) (Kd.R_far (p := ⟨gb266, 1, none⟩) (Kd.R_far (p := ⟨gb266, 0, none⟩) (Kd.R_types HO244.out BK266.out (by decide)) (fun _ hk => hk.2) (.string t246)) (fun _ hk => hk.2) (.int .i64 t247)) (fun _ hk => hk.2) (.slice Ao61 t248.length co61)) (fun _ hk => hk.2) (.slice Ao62 t251.length co62)) (fun _ hk => hk.2) (.slice Ao63 t254.length co63)) (fun _ hk => hk.2) (.slice Ao64 t257.length co64)) (fun _ hk => hk.2) (.slice Ao65 t260.length co65)) (fun _ hk => hk.2) (.slice Ao66 t263.length co66)) (fun _ h_ => h_.1))))) (Kd.R_lt (by (with_reducible repeat (first | apply Kd.R_alloc | apply Kd.R_drewN | apply Kd.R_drew)); exact (Kd.R_mono (Kd.R_far (p := ⟨gb266, 7, none⟩) (Kd.R_far (p := ⟨gb266, 6, none⟩) (Kd.R_far (p := ⟨gb266, 5, none⟩) (Kd.R_far (p := ⟨gb266, 4, none⟩) (Kd.R_far (p := ⟨gb266, 3, none⟩) (Kd.R_far (p := ⟨gb266, 2, none⟩) (Kd.R_far (p := ⟨gb266, 1, none⟩) (Kd.R_far (p := ⟨gb266, 0, none⟩) (Kd.R_types HO259.out BK266.out (by decide)) (fun _ hk => hk.2) (.string t246)) (fun _ hk => hk.2) (.int .i64 t247)) (fun _ hk => hk.2) (.slice Ao61 t248.length co61)) (fun _ hk => hk.2) (.slice Ao62 t251.length co62)) (fun _ hk => hk.2) (.slice Ao63 t254.length co63)) (fun _ hk => hk.2) (.slice Ao64 t257.length co64)) (fun _ hk => hk.2) (.slice Ao65 t260.length co65)) (fun _ hk => hk.2) (.slice Ao66 t263.length co66)) (fun _ h_ => h_.1))))) (Kd.R_lt (by (with_reducible repeat (first | apply Kd.R_alloc | apply Kd.R_drewN | apply Kd.R_drew)); exact (Kd.R_mono (Kd.R_far (p := ⟨gb266, 7, none⟩) (Kd.R_far (p := ⟨gb266, 6, none⟩) (Kd.R_far (p := ⟨gb266, 5, none⟩) (Kd.R_far (p := ⟨gb266, 4, none⟩) (Kd.R_far (p := ⟨gb266, 3, none⟩) (Kd.R_far (p := ⟨gb266, 2, none⟩) (Kd.R_far (p := ⟨gb266, 1, none⟩) (Kd.R_far (p := ⟨gb266, 0, none⟩) (Kd.R_types HO262.out BK266.out (by decide)) (fun _ hk => hk.2) (.string t246)) (fun _ hk => hk.2) (.int .i64 t247)) (fun _ hk => hk.2) (.slice Ao61 t248.length co61)) (fun _ hk => hk.2) (.slice Ao62 t251.length co62)) (fun _ hk => hk.2) (.slice Ao63 t254.length co63)) (fun _ hk => hk.2) (.slice Ao64 t257.length co64)) (fun _ hk => hk.2) (.slice Ao65 t260.length co65)) (fun _ hk => hk.2) (.slice Ao66 t263.length co66)) (fun _ h_ => h_.1))))) (Kd.R_lt (by (with_reducible repeat (first | apply Kd.R_alloc | apply Kd.R_drewN | apply Kd.R_drew)); exact (Kd.R_mono (Kd.R_far (p := ⟨gb266, 7, none⟩) (Kd.R_far (p := ⟨gb266, 6, none⟩) (Kd.R_far (p := ⟨gb266, 5, none⟩) (Kd.R_far (p := ⟨gb266, 4, none⟩) (Kd.R_far (p := ⟨gb266, 3, none⟩) (Kd.R_far (p := ⟨gb266, 2, none⟩) (Kd.R_far (p := ⟨gb266, 1, none⟩) (Kd.R_far (p := ⟨gb266, 0, none⟩) (Kd.R_types HO265.out BK266.out (by decide)) (fun _ hk => hk.2) (.string t246)) (fun _ hk => hk.2) (.int .i64 t247)) (fun _ hk => hk.2) (.slice Ao61 t248.length co61)) (fun _ hk => hk.2) (.slice Ao62 t251.length co62)) (fun _ hk => hk.2) (.slice Ao63 t254.length co63)) (fun _ hk => hk.2) (.slice Ao64 t257.length co64)) (fun _ hk => hk.2) (.slice Ao65 t260.length co65)) (fun _ hk => hk.2) (.slice Ao66 t263.length co66)) (fun _ h_ => h_.1))))) (below_size bl)); have HO286 := am (Kd.R_lower (Kd.R_new' (Kd.R_new' (Kd.R_new' (Kd.R_new' (Kd.R_new' (Kd.R_new' (Kd.R_new' (Kd.R_new' (Kd.R_new' ho5 (Kd.R_lt (by (with_reducible repeat (first | apply Kd.R_alloc | apply Kd.R_drewN | apply Kd.R_drew)); exact (Kd.R_mono (Kd.R_far (p := ⟨gb266, 7, none⟩) (Kd.R_far (p := ⟨gb266, 6, none⟩) (Kd.R_far (p := ⟨gb266, 5, none⟩) (Kd.R_far (p := ⟨gb266, 4, none⟩) (Kd.R_far (p := ⟨gb266, 3, none⟩) (Kd.R_far (p := ⟨gb266, 2, none⟩) (Kd.R_far (p := ⟨gb266, 1, none⟩) (Kd.R_far (p := ⟨gb266, 0, none⟩) (Kd.R_types HO218.out BK266.out (by decide)) (fun _ hk => hk.2) (.string t246)) (fun _ hk => hk.2) (.int .i64 t247)) (fun _ hk => hk.2) (.slice Ao61 t248.length co61)) (fun _ hk => hk.2) (.slice Ao62 t251.length co62)) (fun _ hk => hk.2) (.slice Ao63 t254.length co63)) (fun _ hk => hk.2) (.slice Ao64 t257.length co64)) (fun _ hk => hk.2) (.slice Ao65 t260.length co65)) (fun _ hk => hk.2) (.slice Ao66 t263.length co66)) (fun _ h_ => h_.1))))) (Kd.R_lt (by (with_reducible repeat (first | apply Kd.R_alloc | apply Kd.R_drewN | apply Kd.R_drew)); exact (Kd.R_mono (Kd.R_far (p := ⟨gb266, 7, none⟩) (Kd.R_far (p := ⟨gb266, 6, none⟩) (Kd.R_far (p := ⟨gb266, 5, none⟩) (Kd.R_far (p := ⟨gb266, 4, none⟩) (Kd.R_far (p := ⟨gb266, 3, none⟩) (Kd.R_far (p := ⟨gb266, 2, none⟩) (Kd.R_far (p := ⟨gb266, 1, none⟩) (Kd.R_far (p := ⟨gb266, 0, none⟩) (Kd.R_types HO221.out BK266.out (by decide)) (fun _ hk => hk.2) (.string t246)) (fun _ hk => hk.2) (.int .i64 t247)) (fun _ hk => hk.2) (.slice Ao61 t248.length co61)) (fun _ hk => hk.2) (.slice Ao62 t251.length co62)) (fun _ hk => hk.2) (.slice Ao63 t254.length co63)) (fun _ hk => hk.2) (.slice Ao64 t257.length co64)) (fun _ hk => hk.2) (.slice Ao65 t260.length co65)) (fun _ hk => hk.2) (.slice Ao66 t263.length co66)) (fun _ h_ => h_.1))))) (Kd.R_lt (by (with_reducible repeat (first | apply Kd.R_alloc | apply Kd.R_drewN | apply Kd.R_drew)); exact (Kd.R_mono (Kd.R_far (p := ⟨gb266, 7, none⟩) (Kd.R_far (p := ⟨gb266, 6, none⟩) (Kd.R_far (p := ⟨gb266, 5, none⟩) (Kd.R_far (p := ⟨gb266, 4, none⟩) (Kd.R_far (p := ⟨gb266, 3, none⟩) (Kd.R_far (p := ⟨gb266, 2, none⟩) (Kd.R_far (p := ⟨gb266, 1, none⟩) (Kd.R_far (p := ⟨gb266, 0, none⟩) (Kd.R_types HO224.out BK266.out (by decide)) (fun _ hk => hk.2) (.string t246)) (fun _ hk => hk.2) (.int .i64 t247)) (fun _ hk => hk.2) (.slice Ao61 t248.length co61)) (fun _ hk => hk.2) (.slice Ao62 t251.length co62)) (fun _ hk => hk.2) (.slice Ao63 t254.length co63)) (fun _ hk => hk.2) (.slice Ao64 t257.length co64)) (fun _ hk => hk.2) (.slice Ao65 t260.length co65)) (fun _ hk => hk.2) (.slice Ao66 t263.length co66)) (fun _ h_ => h_.1))))) (Kd.R_lt (by (with_reducible repeat (first | apply Kd.R_alloc | apply Kd.R_drewN | apply Kd.R_drew)); exact (Kd.R_mono (Kd.R_far (p := ⟨gb266, 7, none⟩) (Kd.R_far (p := ⟨gb266, 6, none⟩) (Kd.R_far (p := ⟨gb266, 5, none⟩) (Kd.R_far (p := ⟨gb266, 4, none⟩) (Kd.R_far (p := ⟨gb266, 3, none⟩) (Kd.R_far (p := ⟨gb266, 2, none⟩) (Kd.R_far (p := ⟨gb266, 1, none⟩) (Kd.R_far (p := ⟨gb266, 0, none⟩) (Kd.R_types HO238.out BK266.out (by decide)) (fun _ hk => hk.2) (.string t246)) (fun _ hk => hk.2) (.int .i64 t247)) (fun _ hk => hk.2) (.slice Ao61 t248.length co61)) (fun _ hk => hk.2) (.slice Ao62 t251.length co62)) (fun _ hk => hk.2) (.slice Ao63 t254.length co63)) (fun _ hk => hk.2) (.slice Ao64 t257.length co64)) (fun _ hk => hk.2) (.slice Ao65 t260.length co65)) (fun _ hk => hk.2) (.slice Ao66 t263.length co66)) (fun _ h_ => h_.1))))) (Kd.R_lt (by (with_reducible repeat (first | apply Kd.R_alloc | apply Kd.R_drewN | apply Kd.R_drew)); exact (Kd.R_mono (Kd.R_far (p := ⟨gb266, 7, none⟩) (Kd.R_far (p := ⟨gb266, 6, none⟩) (Kd.R_far (p := ⟨gb266, 5, none⟩) (Kd.R_far (p := ⟨gb266, 4, none⟩) (Kd.R_far (p := ⟨gb266, 3, none⟩) (Kd.R_far (p := ⟨gb266, 2, none⟩) (Kd.R_far (p := ⟨gb266, 1, none⟩) (Kd.R_far (p := ⟨gb266, 0, none⟩) (Kd.R_types HO241.out BK266.out (by decide)) (fun _ hk => hk.2) (.string t246)) (fun _ hk => hk.2) (.int .i64 t247)) (fun _ hk => hk.2) (.slice Ao61 t248.length co61)) (fun _ hk => hk.2) (.slice Ao62 t251.length co62)) (fun _ hk => hk.2) (.slice Ao63 t254.length co63)) (fun _ hk => hk.2) (.slice Ao64 t257.length co64)) (fun _ hk => hk.2) (.slice Ao65 t260.length co65)) (fun _ hk => hk.2) (.slice Ao66 t263.length co66)) (fun _ h_ => h_.1))))) (Kd.R_lt (by (with_reducible repeat (first | apply Kd.R_alloc | apply Kd.R_drewN | apply Kd.R_drew)); exact (Kd.R_mono (Kd.R_far (p := ⟨gb266, 7, none⟩) (Kd.R_far (p := ⟨gb266, 6, none⟩) (Kd.R_far (p := ⟨gb266, 5, none⟩) (Kd.R_far (p := ⟨gb266, 4, none⟩) (Kd.R_far (p := ⟨gb266, 3, none⟩) (Kd.R_far (p := ⟨gb266, 2, none⟩) (Kd.R_far (p := ⟨gb266, 1, none⟩) (Kd.R_far (p := ⟨gb266, 0, none⟩) (Kd.R_types HO244.out BK266.out (by decide)) (fun _ hk => hk.2) (.string t246)) (fun _ hk => hk.2) (.int .i64 t247)) (fun _ hk => hk.2) (.slice Ao61 t248.length co61)) (fun _ hk => hk.2) (.slice Ao62 t251.length co62)) (fun _ hk => hk.2) (.slice Ao63 t254.length co63)) (fun _ hk => hk.2) (.slice Ao64 t257.length co64)) (fun _ hk => hk.2) (.slice Ao65 t260.length co65)) (fun _ hk => hk.2) (.slice Ao66 t263.length co66)) (fun _ h_ => h_.1))))) (Kd.R_lt (by (with_reducible repeat (first | apply Kd.R_alloc | apply Kd.R_drewN | apply Kd.R_drew)); exact (Kd.R_mono (Kd.R_far (p := ⟨gb266, 7, none⟩) (Kd.R_far (p := ⟨gb266, 6, none⟩) (Kd.R_far (p := ⟨gb266, 5, none⟩) (Kd.R_far (p := ⟨gb266, 4, none⟩) (Kd.R_far (p := ⟨gb266, 3, none⟩) (Kd.R_far (p := ⟨gb266, 2, none⟩) (Kd.R_far (p := ⟨gb266, 1, none⟩) (Kd.R_far (p := ⟨gb266, 0, none⟩) (Kd.R_types HO259.out BK266.out (by decide)) (fun _ hk => hk.2) (.string t246)) (fun _ hk => hk.2) (.int .i64 t247)) (fun _ hk => hk.2) (.slice Ao61 t248.length co61)) (fun _ hk => hk.2) (.slice Ao62 t251.length co62)) (fun _ hk => hk.2) (.slice Ao63 t254.length co63)) (fun _ hk => hk.2) (.slice Ao64 t257.length co64)) (fun _ hk => hk.2) (.slice Ao65 t260.length co65)) (fun _ hk => hk.2) (.slice Ao66 t263.length co66)) (fun _ h_ => h_.1))))) (Kd.R_lt (by (with_reducible repeat (first | apply Kd.R_alloc | apply Kd.R_drewN | apply Kd.R_drew)); exact (Kd.R_mono (Kd.R_far (p := ⟨gb266, 7, none⟩) (Kd.R_far (p := ⟨gb266, 6, none⟩) (Kd.R_far (p := ⟨gb266, 5, none⟩) (Kd.R_far (p := ⟨gb266, 4, none⟩) (Kd.R_far (p := ⟨gb266, 3, none⟩) (Kd.R_far (p := ⟨gb266, 2, none⟩) (Kd.R_far (p := ⟨gb266, 1, none⟩) (Kd.R_far (p := ⟨gb266, 0, none⟩) (Kd.R_types HO262.out BK266.out (by decide)) (fun _ hk => hk.2) (.string t246)) (fun _ hk => hk.2) (.int .i64 t247)) (fun _ hk => hk.2) (.slice Ao61 t248.length co61)) (fun _ hk => hk.2) (.slice Ao62 t251.length co62)) (fun _ hk => hk.2) (.slice Ao63 t254.length co63)) (fun _ hk => hk.2) (.slice Ao64 t257.length co64)) (fun _ hk => hk.2) (.slice Ao65 t260.length co65)) (fun _ hk => hk.2) (.slice Ao66 t263.length co66)) (fun _ h_ => h_.1))))) (Kd.R_lt (by (with_reducible repeat (first | apply Kd.R_alloc | apply Kd.R_drewN | apply Kd.R_drew)); exact (Kd.R_mono (Kd.R_far (p := ⟨gb266, 7, none⟩) (Kd.R_far (p := ⟨gb266, 6, none⟩) (Kd.R_far (p := ⟨gb266, 5, none⟩) (Kd.R_far (p := ⟨gb266, 4, none⟩) (Kd.R_far (p := ⟨gb266, 3, none⟩) (Kd.R_far (p := ⟨gb266, 2, none⟩) (Kd.R_far (p := ⟨gb266, 1, none⟩) (Kd.R_far (p := ⟨gb266, 0, none⟩) (Kd.R_types HO265.out BK266.out (by decide)) (fun _ hk => hk.2) (.string t246)) (fun _ hk => hk.2) (.int .i64 t247)) (fun _ hk => hk.2) (.slice Ao61 t248.length co61)) (fun _ hk => hk.2) (.slice Ao62 t251.length co62)) (fun _ hk => hk.2) (.slice Ao63 t254.length co63)) (fun _ hk => hk.2) (.slice Ao64 t257.length co64)) (fun _ hk => hk.2) (.slice Ao65 t260.length co65)) (fun _ hk => hk.2) (.slice Ao66 t263.length co66)) (fun _ h_ => h_.1))))) (below_size bl)); replace HO218 := am (Kd.R_mono (Kd.R_told (Kd.R_told (Kd.R_told (Kd.R_old (by (with_reducible repeat (first | apply Kd.R_alloc | apply Kd.R_drewN | apply Kd.R_drew)); exact (Kd.R_mono (Kd.R_far (p := ⟨gb266, 7, none⟩) (Kd.R_far (p := ⟨gb266, 6, none⟩) (Kd.R_far (p := ⟨gb266, 5, none⟩) (Kd.R_far (p := ⟨gb266, 4, none⟩) (Kd.R_far (p := ⟨gb266, 3, none⟩) (Kd.R_far (p := ⟨gb266, 2, none⟩) (Kd.R_far (p := ⟨gb266, 1, none⟩) (Kd.R_far (p := ⟨gb266, 0, none⟩) (Kd.R_types HO218.out BK266.out (by decide)) (fun _ hk => hk.2) (.string t246)) (fun _ hk => hk.2) (.int .i64 t247)) (fun _ hk => hk.2) (.slice Ao61 t248.length co61)) (fun _ hk => hk.2) (.slice Ao62 t251.length co62)) (fun _ hk => hk.2) (.slice Ao63 t254.length co63)) (fun _ hk => hk.2) (.slice Ao64 t257.length co64)) (fun _ hk => hk.2) (.slice Ao65 t260.length co65)) (fun _ hk => hk.2) (.slice Ao66 t263.length co66)) (fun _ h_ => h_.1))) hb) (Kd.R_base ho3)) (Kd.R_base ho4)) (Kd.R_base ho5)) (fun _ h_ => h_.1)); replace HO221 := am (Kd.R_mono (Kd.R_told (Kd.R_told (Kd.R_told (Kd.R_old (by (with_reducible repeat (first | apply Kd.R_alloc | apply Kd.R_drewN | apply Kd.R_drew)); exact (Kd.R_mono (Kd.R_far (p := ⟨gb266, 7, none⟩) (Kd.R_far (p := ⟨gb266, 6, none⟩) (Kd.R_far (p := ⟨gb266, 5, none⟩) (Kd.R_far (p := ⟨gb266, 4, none⟩) (Kd.R_far (p := ⟨gb266, 3, none⟩) (Kd.R_far (p := ⟨gb266, 2, none⟩) (Kd.R_far (p := ⟨gb266, 1, none⟩) (Kd.R_far (p := ⟨gb266, 0, none⟩) (Kd.R_types HO221.out BK266.out (by decide)) (fun _ hk => hk.2) (.string t246)) (fun _ hk => hk.2) (.int .i64 t247)) (fun _ hk => hk.2) (.slice Ao61 t248.length co61)) (fun _ hk => hk.2) (.slice Ao62 t251.length co62)) (fun _ hk => hk.2) (.slice Ao63 t254.length co63)) (fun _ hk => hk.2) (.slice Ao64 t257.length co64)) (fun _ hk => hk.2) (.slice Ao65 t260.length co65)) (fun _ hk => hk.2) (.slice Ao66 t263.length co66)) (fun _ h_ => h_.1))) hb) (Kd.R_base ho3)) (Kd.R_base ho4)) (Kd.R_base ho5)) (fun _ h_ => h_.1)); replace HO224 := am (Kd.R_mono (Kd.R_told (Kd.R_told (Kd.R_told (Kd.R_old (by (with_reducible repeat (first | apply Kd.R_alloc | apply Kd.R_drewN | apply Kd.R_drew)); exact (Kd.R_mono (Kd.R_far (p := ⟨gb266, 7, none⟩) (Kd.R_far (p := ⟨gb266, 6, none⟩) (Kd.R_far (p := ⟨gb266, 5, none⟩) (Kd.R_far (p := ⟨gb266, 4, none⟩) (Kd.R_far (p := ⟨gb266, 3, none⟩) (Kd.R_far (p := ⟨gb266, 2, none⟩) (Kd.R_far (p := ⟨gb266, 1, none⟩) (Kd.R_far (p := ⟨gb266, 0, none⟩) (Kd.R_types HO224.out BK266.out (by decide)) (fun _ hk => hk.2) (.string t246)) (fun _ hk => hk.2) (.int .i64 t247)) (fun _ hk => hk.2) (.slice Ao61 t248.length co61)) (fun _ hk => hk.2) (.slice Ao62 t251.length co62)) (fun _ hk => hk.2) (.slice Ao63 t254.length co63)) (fun _ hk => hk.2) (.slice Ao64 t257.length co64)) (fun _ hk => hk.2) (.slice Ao65 t260.length co65)) (fun _ hk => hk.2) (.slice Ao66 t263.length co66)) (fun _ h_ => h_.1))) hb) (Kd.R_base ho3)) (Kd.R_base ho4)) (Kd.R_base ho5)) (fun _ h_ => h_.1)); replace HO238 := am (Kd.R_mono (Kd.R_told (Kd.R_told (Kd.R_told (Kd.R_old (by (with_reducible repeat (first | apply Kd.R_alloc | apply Kd.R_drewN | apply Kd.R_drew)); exact (Kd.R_mono (Kd.R_far (p := ⟨gb266, 7, none⟩) (Kd.R_far (p := ⟨gb266, 6, none⟩) (Kd.R_far (p := ⟨gb266, 5, none⟩) (Kd.R_far (p := ⟨gb266, 4, none⟩) (Kd.R_far (p := ⟨gb266, 3, none⟩) (Kd.R_far (p := ⟨gb266, 2, none⟩) (Kd.R_far (p := ⟨gb266, 1, none⟩) (Kd.R_far (p := ⟨gb266, 0, none⟩) (Kd.R_types HO238.out BK266.out (by decide)) (fun _ hk => hk.2) (.string t246)) (fun _ hk => hk.2) (.int .i64 t247)) (fun _ hk => hk.2) (.slice Ao61 t248.length co61)) (fun _ hk => hk.2) (.slice Ao62 t251.length co62)) (fun _ hk => hk.2) (.slice Ao63 t254.length co63)) (fun _ hk => hk.2) (.slice Ao64 t257.length co64)) (fun _ hk => hk.2) (.slice Ao65 t260.length co65)) (fun _ hk => hk.2) (.slice Ao66 t263.length co66)) (fun _ h_ => h_.1))) hb) (Kd.R_base ho3)) (Kd.R_base ho4)) (Kd.R_base ho5)) (fun _ h_ => h_.1)); replace HO241 := am (Kd.R_mono (Kd.R_told (Kd.R_told (Kd.R_told (Kd.R_old (by (with_reducible repeat (first | apply Kd.R_alloc | apply Kd.R_drewN | apply Kd.R_drew)); exact (Kd.R_mono (Kd.R_far (p := ⟨gb266, 7, none⟩) (Kd.R_far (p := ⟨gb266, 6, none⟩) (Kd.R_far (p := ⟨gb266, 5, none⟩) (Kd.R_far (p := ⟨gb266, 4, none⟩) (Kd.R_far (p := ⟨gb266, 3, none⟩) (Kd.R_far (p := ⟨gb266, 2, none⟩) (Kd.R_far (p := ⟨gb266, 1, none⟩) (Kd.R_far (p := ⟨gb266, 0, none⟩) (Kd.R_types HO241.out BK266.out (by decide)) (fun _ hk => hk.2) (.string t246)) (fun _ hk => hk.2) (.int .i64 t247)) (fun _ hk => hk.2) (.slice Ao61 t248.length co61)) (fun _ hk => hk.2) (.slice Ao62 t251.length co62)) (fun _ hk => hk.2) (.slice Ao63 t254.length co63)) (fun _ hk => hk.2) (.slice Ao64 t257.length co64)) (fun _ hk => hk.2) (.slice Ao65 t260.length co65)) (fun _ hk => hk.2) (.slice Ao66 t263.length co66)) (fun _ h_ => h_.1))) hb) (Kd.R_base ho3)) (Kd.R_base ho4)) (Kd.R_base ho5)) (fun _ h_ => h_.1)); replace HO244 := am (Kd.R_mono (Kd.R_told (Kd.R_told (Kd.R_told (Kd.R_old (by (with_reducible repeat (first | apply Kd.R_alloc | apply Kd.R_drewN | apply Kd.R_drew)); exact (Kd.R_mono (Kd.R_far (p := ⟨gb266, 7, none⟩) (Kd.R_far (p := ⟨gb266, 6, none⟩) (Kd.R_far (p := ⟨gb266, 5, none⟩) (Kd.R_far (p := ⟨gb266, 4, none⟩) (Kd.R_far (p := ⟨gb266, 3, none⟩) (Kd.R_far (p := ⟨gb266, 2, none⟩) (Kd.R_far (p := ⟨gb266, 1, none⟩) (Kd.R_far (p := ⟨gb266, 0, none⟩) (Kd.R_types HO244.out BK266.out (by decide)) (fun _ hk => hk.2) (.string t246)) (fun _ hk => hk.2) (.int .i64 t247)) (fun _ hk => hk.2) (.slice Ao61 t248.length co61)) (fun _ hk => hk.2) (.slice Ao62 t251.length co62)) (fun _ hk => hk.2) (.slice Ao63 t254.length co63)) (fun _ hk => hk.2) (.slice Ao64 t257.length co64)) (fun _ hk => hk.2) (.slice Ao65 t260.length co65)) (fun _ hk => hk.2) (.slice Ao66 t263.length co66)) (fun _ h_ => h_.1))) hb) (Kd.R_base ho3)) (Kd.R_base ho4)) (Kd.R_base ho5)) (fun _ h_ => h_.1)); replace HO259 := am (Kd.R_mono (Kd.R_told (Kd.R_told (Kd.R_told (Kd.R_old (by (with_reducible repeat (first | apply Kd.R_alloc | apply Kd.R_drewN | apply Kd.R_drew)); exact (Kd.R_mono (Kd.R_far (p := ⟨gb266, 7, none⟩) (Kd.R_far (p := ⟨gb266, 6, none⟩) (Kd.R_far (p := ⟨gb266, 5, none⟩) (Kd.R_far (p := ⟨gb266, 4, none⟩) (Kd.R_far (p := ⟨gb266, 3, none⟩) (Kd.R_far (p := ⟨gb266, 2, none⟩) (Kd.R_far (p := ⟨gb266, 1, none⟩) (Kd.R_far (p := ⟨gb266, 0, none⟩) (Kd.R_types HO259.out BK266.out (by decide)) (fun _ hk => hk.2) (.string t246)) (fun _ hk => hk.2) (.int .i64 t247)) (fun _ hk => hk.2) (.slice Ao61 t248.length co61)) (fun _ hk => hk.2) (.slice Ao62 t251.length co62)) (fun _ hk => hk.2) (.slice Ao63 t254.length co63)) (fun _ hk => hk.2) (.slice Ao64 t257.length co64)) (fun _ hk => hk.2) (.slice Ao65 t260.length co65)) (fun _ hk => hk.2) (.slice Ao66 t263.length co66)) (fun _ h_ => h_.1))) hb) (Kd.R_base ho3)) (Kd.R_base ho4)) (Kd.R_base ho5)) (fun _ h_ => h_.1)); replace HO262 := am (Kd.R_mono (Kd.R_told (Kd.R_told (Kd.R_told (Kd.R_old (by (with_reducible repeat (first | apply Kd.R_alloc | apply Kd.R_drewN | apply Kd.R_drew)); exact (Kd.R_mono (Kd.R_far (p := ⟨gb266, 7, none⟩) (Kd.R_far (p := ⟨gb266, 6, none⟩) (Kd.R_far (p := ⟨gb266, 5, none⟩) (Kd.R_far (p := ⟨gb266, 4, none⟩) (Kd.R_far (p := ⟨gb266, 3, none⟩) (Kd.R_far (p := ⟨gb266, 2, none⟩) (Kd.R_far (p := ⟨gb266, 1, none⟩) (Kd.R_far (p := ⟨gb266, 0, none⟩) (Kd.R_types HO262.out BK266.out (by decide)) (fun _ hk => hk.2) (.string t246)) (fun _ hk => hk.2) (.int .i64 t247)) (fun _ hk => hk.2) (.slice Ao61 t248.length co61)) (fun _ hk => hk.2) (.slice Ao62 t251.length co62)) (fun _ hk => hk.2) (.slice Ao63 t254.length co63)) (fun _ hk => hk.2) (.slice Ao64 t257.length co64)) (fun _ hk => hk.2) (.slice Ao65 t260.length co65)) (fun _ hk => hk.2) (.slice Ao66 t263.length co66)) (fun _ h_ => h_.1))) hb) (Kd.R_base ho3)) (Kd.R_base ho4)) (Kd.R_base ho5)) (fun _ h_ => h_.1)); replace HO265 := am (Kd.R_mono (Kd.R_told (Kd.R_told (Kd.R_told (Kd.R_old (by (with_reducible repeat (first | apply Kd.R_alloc | apply Kd.R_drewN | apply Kd.R_drew)); exact (Kd.R_mono (Kd.R_far (p := ⟨gb266, 7, none⟩) (Kd.R_far (p := ⟨gb266, 6, none⟩) (Kd.R_far (p := ⟨gb266, 5, none⟩) (Kd.R_far (p := ⟨gb266, 4, none⟩) (Kd.R_far (p := ⟨gb266, 3, none⟩) (Kd.R_far (p := ⟨gb266, 2, none⟩) (Kd.R_far (p := ⟨gb266, 1, none⟩) (Kd.R_far (p := ⟨gb266, 0, none⟩) (Kd.R_types HO265.out BK266.out (by decide)) (fun _ hk => hk.2) (.string t246)) (fun _ hk => hk.2) (.int .i64 t247)) (fun _ hk => hk.2) (.slice Ao61 t248.length co61)) (fun _ hk => hk.2) (.slice Ao62 t251.length co62)) (fun _ hk => hk.2) (.slice Ao63 t254.length co63)) (fun _ hk => hk.2) (.slice Ao64 t257.length co64)) (fun _ hk => hk.2) (.slice Ao65 t260.length co65)) (fun _ hk => hk.2) (.slice Ao66 t263.length co66)) (fun _ h_ => h_.1))) hb) (Kd.R_base ho3)) (Kd.R_base ho4)) (Kd.R_base ho5)) (fun _ h_ => h_.1)); replace BK201 := am (blk_below (g := gb201) (o := .cells #[.string a0_0, .int .i64 a0_1, .slice A0_2 l0_2.length c0_2, .slice A0_3 l0_3.length c0_3, .slice A0_4 l0_4.length c0_4, .slice A0_5 l0_5.length c0_5, .slice A0_6 l0_6.length c0_6, .slice A0_7 l0_7.length c0_7] 35 (0, 0)) (bf BK201.out NB201_266.out) hb); replace BK202 := am (blk_below (g := gb202) (o := .cells #[.string a1_0, .int .i64 a1_1, .slice A1_2 l1_2.length c1_2, .slice A1_3 l1_3.length c1_3, .slice A1_4 l1_4.length c1_4, .slice A1_5 l1_5.length c1_5, .slice A1_6 l1_6.length c1_6, .slice A1_7 l1_7.length c1_7] 35 (0, 0)) (bf BK202.out NB202_266.out) hb); replace BK266 := am (blk_below (g := gb266) (o := .cells #[.string t246, .int .i64 t247, .slice Ao61 t248.length co61, .slice Ao62 t251.length co62, .slice Ao63 t254.length co63, .slice Ao64 t257.length co64, .slice Ao65 t260.length co65, .slice Ao66 t263.length co66] 41 (0, 0)) (bp BK266.out) hb); replace HB := am (below_step bl hb); clear hb ho0 ho1 ho2 ho3 ho4 ho5) | (refine bx 8 #[.string (⟨#[]⟩ : ByteArray), .int .i64 0, .slice none 0 0, .slice none 0 0, .slice none 0 0, .slice none 0 0, .slice none 0 0, .slice none 0 0] 41 ?_; intro gb287 hg w69 hbox hb; replace HO209 := am (rb HO209.out hb); replace HO212 := am (rb HO212.out hb); replace HO215 := am (rb HO215.out hb); replace HO218 := am (rb HO218.out hb); replace HO221 := am (rb HO221.out hb); replace HO224 := am (rb HO224.out hb); replace HO229 := am (rb HO229.out hb); replace HO232 := am (rb HO232.out hb); replace HO235 := am (rb HO235.out hb); replace HO238 := am (rb HO238.out hb); replace HO241 := am (rb HO241.out hb); replace HO244 := am (rb HO244.out hb); replace HO250 := am (rb HO250.out hb); replace HO253 := am (rb HO253.out hb); replace HO256 := am (rb HO256.out hb); replace HO259 := am (rb HO259.out hb); replace HO262 := am (rb HO262.out hb); replace HO265 := am (rb HO265.out hb); replace HO271 := am (rb HO271.out hb); replace HO274 := am (rb HO274.out hb); replace HO277 := am (rb HO277.out hb); replace HO280 := am (rb HO280.out hb); replace HO283 := am (rb HO283.out hb); replace HO286 := am (rb HO286.out hb); have BK287 := am (hbox); have GW287 := am (bsz hg : w.heap.size ≤ gb287); have GE287 := GW287; have NB201_287 := am (ne1 hg BK201.out); have NB287_201 := am NB201_287.out.symm; replace BK201 := am (bkb BK201.out hb); have NB202_287 := am (ne1 hg BK202.out); have NB287_202 := am NB202_287.out.symm; replace BK202 := am (bkb BK202.out hb); have NB266_287 := am (ne1 hg BK266.out); have NB287_266 := am NB266_287.out.symm; replace BK266 := am (bkb BK266.out hb); replace HB := am (below_step bl hb); clear hb hbox hg; have hnb70 := NB287_201.out; have hnc70 := NB201_287.out; have hnb71 := NB287_202.out; have hnc71 := NB202_287.out; have hnb72 := NB287_266.out; have hnc72 := NB266_287.out; obtain ⟨z73_0, z73_1, z73_2, z73_3, z73_4, z73_5, z73_6, z73_7, y73_0, y73_1, y73_2, y73_3, y73_4, y73_5, y73_6, y73_7⟩ := blk8 BK287.out; obtain ⟨Ao74, co74, eo74⟩ := Kd.R_slice HO271.out; subst eo74; obtain ⟨Ao75, co75, eo75⟩ := Kd.R_slice HO274.out; subst eo75; obtain ⟨Ao76, co76, eo76⟩ := Kd.R_slice HO277.out; subst eo76; obtain ⟨Ao77, co77, eo77⟩ := Kd.R_slice HO280.out; subst eo77; obtain ⟨Ao78, co78, eo78⟩ := Kd.R_slice HO283.out; subst eo78; obtain ⟨Ao79, co79, eo79⟩ := Kd.R_slice HO286.out; subst eo79; obtain ⟨z80_0, z80_1, z80_2, z80_3, z80_4, z80_5, z80_6, z80_7, y80_0, y80_1, y80_2, y80_3, y80_4, y80_5, y80_6, y80_7⟩ := blk8 BK266.out) | (refine gc 21 (some 31) Try.func21 (impl_ProductSame.calls _ _ _ _ _ _ _ _ _ _ _ _ _ _ _ _ _ _ _ _ _ _ _ _ _ _ _ _ _ _ _ _ _ _ _ _ _ _ _ _ _ _ _ ?side1 ?side2 ?side3 ?side4 ?side5 ?side6 ?side7 ?side8 ?side9 ?side10 ?side11 ?side12 ?side13 ?side14 ?side15 ?side16 ?side17 ?side18 ?side19 ?side20 ?side21 ?side22 ?side23 ?side24 A24.out) ?_; (case side1 => refine (Kd.R_reads' (e := 9) (base := w.heap.size) (ok := fun k_ => ((((((some k_ ≠ (.slice Ao62 t251.length co62 : Value).ownBlock ∧ some k_ ≠ (.slice Ao42 t207.length co42 : Value).ownBlock) ∧ some k_ ≠ (.slice Ao43 t210.length co43 : Value).ownBlock) ∧ some k_ ≠ (.slice Ao48 t227.length co48 : Value).ownBlock) ∧ some k_ ≠ (.slice Ao49 t230.length co49 : Value).ownBlock) ∧ some k_ ≠ (.slice Ao74 t269.length co74 : Value).ownBlock) ∧ some k_ ≠ (.slice Ao75 t272.length co75 : Value).ownBlock)) (n := t248.length) (c := co61) ?_).2.2; exact (by (with_reducible repeat (first | apply Kd.R_alloc | apply Kd.R_drewN | apply Kd.R_drew)); exact (Kd.R_mono (Kd.R_far (p := ⟨gb287, 7, none⟩) (Kd.R_far (p := ⟨gb287, 6, none⟩) (Kd.R_far (p := ⟨gb287, 5, none⟩) (Kd.R_far (p := ⟨gb287, 4, none⟩) (Kd.R_far (p := ⟨gb287, 3, none⟩) (Kd.R_far (p := ⟨gb287, 2, none⟩) (Kd.R_far (p := ⟨gb287, 1, none⟩) (Kd.R_far (p := ⟨gb287, 0, none⟩) (Kd.R_types HO250.out BK287.out (by decide)) (fun _ hk => hk.2) (.string t267)) (fun _ hk => hk.2) (.int .i64 t268)) (fun _ hk => hk.2) (.slice Ao74 t269.length co74)) (fun _ hk => hk.2) (.slice Ao75 t272.length co75)) (fun _ hk => hk.2) (.slice Ao76 t275.length co76)) (fun _ hk => hk.2) (.slice Ao77 t278.length co77)) (fun _ hk => hk.2) (.slice Ao78 t281.length co78)) (fun _ hk => hk.2) (.slice Ao79 t284.length co79)) (fun _ h_ => h_.1)))); (case side2 => exact (Kd.R_reads' HO250.out).2.1); (case side3 => refine (Kd.R_reads' (e := 9) (base := w.heap.size) (ok := fun k_ => ((((((some k_ ≠ (.slice Ao61 t248.length co61 : Value).ownBlock ∧ some k_ ≠ (.slice Ao42 t207.length co42 : Value).ownBlock) ∧ some k_ ≠ (.slice Ao43 t210.length co43 : Value).ownBlock) ∧ some k_ ≠ (.slice Ao48 t227.length co48 : Value).ownBlock) ∧ some k_ ≠ (.slice Ao49 t230.length co49 : Value).ownBlock) ∧ some k_ ≠ (.slice Ao74 t269.length co74 : Value).ownBlock) ∧ some k_ ≠ (.slice Ao75 t272.length co75 : Value).ownBlock)) (n := t251.length) (c := co62) ?_).2.2; exact (by (with_reducible repeat (first | apply Kd.R_alloc | apply Kd.R_drewN | apply Kd.R_drew)); exact (Kd.R_mono (Kd.R_far (p := ⟨gb287, 7, none⟩) (Kd.R_far (p := ⟨gb287, 6, none⟩) (Kd.R_far (p := ⟨gb287, 5, none⟩) (Kd.R_far (p := ⟨gb287, 4, none⟩) (Kd.R_far (p := ⟨gb287, 3, none⟩) (Kd.R_far (p := ⟨gb287, 2, none⟩) (Kd.R_far (p := ⟨gb287, 1, none⟩) (Kd.R_far (p := ⟨gb287, 0, none⟩) (Kd.R_types HO253.out BK287.out (by decide)) (fun _ hk => hk.2) (.string t267)) (fun _ hk => hk.2) (.int .i64 t268)) (fun _ hk => hk.2) (.slice Ao74 t269.length co74)) (fun _ hk => hk.2) (.slice Ao75 t272.length co75)) (fun _ hk => hk.2) (.slice Ao76 t275.length co76)) (fun _ hk => hk.2) (.slice Ao77 t278.length co77)) (fun _ hk => hk.2) (.slice Ao78 t281.length co78)) (fun _ hk => hk.2) (.slice Ao79 t284.length co79)) (fun _ h_ => h_.1)))); (case side4 => exact (Kd.R_reads' HO253.out).2.1); (case side5 => refine (Kd.R_reads' (e := 82) (base := w.heap.size) (ok := fun k_ => (((True ∧ some k_ ≠ (.slice Ao44 t213.length co44 : Value).ownBlock) ∧ some k_ ≠ (.slice Ao50 t233.length co50 : Value).ownBlock) ∧ some k_ ≠ (.slice Ao76 t275.length co76 : Value).ownBlock)) (n := t254.length) (c := co63) ?_).2.2; exact (by (with_reducible repeat (first | apply Kd.R_alloc | apply Kd.R_drewN | apply Kd.R_drew)); exact (Kd.R_mono (Kd.R_far (p := ⟨gb287, 7, none⟩) (Kd.R_far (p := ⟨gb287, 6, none⟩) (Kd.R_far (p := ⟨gb287, 5, none⟩) (Kd.R_far (p := ⟨gb287, 4, none⟩) (Kd.R_far (p := ⟨gb287, 3, none⟩) (Kd.R_far (p := ⟨gb287, 2, none⟩) (Kd.R_far (p := ⟨gb287, 1, none⟩) (Kd.R_far (p := ⟨gb287, 0, none⟩) (Kd.R_types HO256.out BK287.out (by decide)) (fun _ hk => hk.2) (.string t267)) (fun _ hk => hk.2) (.int .i64 t268)) (fun _ hk => hk.2) (.slice Ao74 t269.length co74)) (fun _ hk => hk.2) (.slice Ao75 t272.length co75)) (fun _ hk => hk.2) (.slice Ao76 t275.length co76)) (fun _ hk => hk.2) (.slice Ao77 t278.length co77)) (fun _ hk => hk.2) (.slice Ao78 t281.length co78)) (fun _ hk => hk.2) (.slice Ao79 t284.length co79)) (fun _ h_ => h_.1)))); (case side6 => exact (Kd.R_reads' HO256.out).2.1); (case side7 => refine (Kd.R_reads' (e := 88) (base := w.heap.size) (ok := fun k_ => ((((((((((some k_ ≠ (.slice Ao65 t260.length co65 : Value).ownBlock ∧ some k_ ≠ (.slice Ao66 t263.length co66 : Value).ownBlock) ∧ some k_ ≠ (.slice Ao45 t216.length co45 : Value).ownBlock) ∧ some k_ ≠ (.slice Ao46 t219.length co46 : Value).ownBlock) ∧ some k_ ≠ (.slice Ao47 t222.length co47 : Value).ownBlock) ∧ some k_ ≠ (.slice Ao51 t236.length co51 : Value).ownBlock) ∧ some k_ ≠ (.slice Ao52 t239.length co52 : Value).ownBlock) ∧ some k_ ≠ (.slice Ao53 t242.length co53 : Value).ownBlock) ∧ some k_ ≠ (.slice Ao77 t278.length co77 : Value).ownBlock) ∧ some k_ ≠ (.slice Ao78 t281.length co78 : Value).ownBlock) ∧ some k_ ≠ (.slice Ao79 t284.length co79 : Value).ownBlock)) (n := t257.length) (c := co64) ?_).2.2; exact (by (with_reducible repeat (first | apply Kd.R_alloc | apply Kd.R_drewN | apply Kd.R_drew)); exact (Kd.R_mono (Kd.R_far (p := ⟨gb287, 7, none⟩) (Kd.R_far (p := ⟨gb287, 6, none⟩) (Kd.R_far (p := ⟨gb287, 5, none⟩) (Kd.R_far (p := ⟨gb287, 4, none⟩) (Kd.R_far (p := ⟨gb287, 3, none⟩) (Kd.R_far (p := ⟨gb287, 2, none⟩) (Kd.R_far (p := ⟨gb287, 1, none⟩) (Kd.R_far (p := ⟨gb287, 0, none⟩) (Kd.R_types HO259.out BK287.out (by decide)) (fun _ hk => hk.2) (.string t267)) (fun _ hk => hk.2) (.int .i64 t268)) (fun _ hk => hk.2) (.slice Ao74 t269.length co74)) (fun _ hk => hk.2) (.slice Ao75 t272.length co75)) (fun _ hk => hk.2) (.slice Ao76 t275.length co76)) (fun _ hk => hk.2) (.slice Ao77 t278.length co77)) (fun _ hk => hk.2) (.slice Ao78 t281.length co78)) (fun _ hk => hk.2) (.slice Ao79 t284.length co79)) (fun _ h_ => h_.1)))); (case side8 => exact (Kd.R_reads' HO259.out).2.1); (case side9 => refine (Kd.R_reads' (e := 88) (base := w.heap.size) (ok := fun k_ => ((((((((((some k_ ≠ (.slice Ao64 t257.length co64 : Value).ownBlock ∧ some k_ ≠ (.slice Ao66 t263.length co66 : Value).ownBlock) ∧ some k_ ≠ (.slice Ao45 t216.length co45 : Value).ownBlock) ∧ some k_ ≠ (.slice Ao46 t219.length co46 : Value).ownBlock) ∧ some k_ ≠ (.slice Ao47 t222.length co47 : Value).ownBlock) ∧ some k_ ≠ (.slice Ao51 t236.length co51 : Value).ownBlock) ∧ some k_ ≠ (.slice Ao52 t239.length co52 : Value).ownBlock) ∧ some k_ ≠ (.slice Ao53 t242.length co53 : Value).ownBlock) ∧ some k_ ≠ (.slice Ao77 t278.length co77 : Value).ownBlock) ∧ some k_ ≠ (.slice Ao78 t281.length co78 : Value).ownBlock) ∧ some k_ ≠ (.slice Ao79 t284.length co79 : Value).ownBlock)) (n := t260.length) (c := co65) ?_).2.2; exact (by (with_reducible repeat (first | apply Kd.R_alloc | apply Kd.R_drewN | apply Kd.R_drew)); exact (Kd.R_mono (Kd.R_far (p := ⟨gb287, 7, none⟩) (Kd.R_far (p := ⟨gb287, 6, none⟩) (Kd.R_far (p := ⟨gb287, 5, none⟩) (Kd.R_far (p := ⟨gb287, 4, none⟩) (Kd.R_far (p := ⟨gb287, 3, none⟩) (Kd.R_far (p := ⟨gb287, 2, none⟩) (Kd.R_far (p := ⟨gb287, 1, none⟩) (Kd.R_far (p := ⟨gb287, 0, none⟩) (Kd.R_types HO262.out BK287.out (by decide)) (fun _ hk => hk.2) (.string t267)) (fun _ hk => hk.2) (.int .i64 t268)) (fun _ hk => hk.2) (.slice Ao74 t269.length co74)) (fun _ hk => hk.2) (.slice Ao75 t272.length co75)) (fun _ hk => hk.2) (.slice Ao76 t275.length co76)) (fun _ hk => hk.2) (.slice Ao77 t278.length co77)) (fun _ hk => hk.2) (.slice Ao78 t281.length co78)) (fun _ hk => hk.2) (.slice Ao79 t284.length co79)) (fun _ h_ => h_.1)))); (case side10 => exact (Kd.R_reads' HO262.out).2.1); (case side11 => refine (Kd.R_reads' (e := 88) (base := w.heap.size) (ok := fun k_ => ((((((((((some k_ ≠ (.slice Ao64 t257.length co64 : Value).ownBlock ∧ some k_ ≠ (.slice Ao65 t260.length co65 : Value).ownBlock) ∧ some k_ ≠ (.slice Ao45 t216.length co45 : Value).ownBlock) ∧ some k_ ≠ (.slice Ao46 t219.length co46 : Value).ownBlock) ∧ some k_ ≠ (.slice Ao47 t222.length co47 : Value).ownBlock) ∧ some k_ ≠ (.slice Ao51 t236.length co51 : Value).ownBlock) ∧ some k_ ≠ (.slice Ao52 t239.length co52 : Value).ownBlock) ∧ some k_ ≠ (.slice Ao53 t242.length co53 : Value).ownBlock) ∧ some k_ ≠ (.slice Ao77 t278.length co77 : Value).ownBlock) ∧ some k_ ≠ (.slice Ao78 t281.length co78 : Value).ownBlock) ∧ some k_ ≠ (.slice Ao79 t284.length co79 : Value).ownBlock)) (n := t263.length) (c := co66) ?_).2.2; exact (by (with_reducible repeat (first | apply Kd.R_alloc | apply Kd.R_drewN | apply Kd.R_drew)); exact (Kd.R_mono (Kd.R_far (p := ⟨gb287, 7, none⟩) (Kd.R_far (p := ⟨gb287, 6, none⟩) (Kd.R_far (p := ⟨gb287, 5, none⟩) (Kd.R_far (p := ⟨gb287, 4, none⟩) (Kd.R_far (p := ⟨gb287, 3, none⟩) (Kd.R_far (p := ⟨gb287, 2, none⟩) (Kd.R_far (p := ⟨gb287, 1, none⟩) (Kd.R_far (p := ⟨gb287, 0, none⟩) (Kd.R_types HO265.out BK287.out (by decide)) (fun _ hk => hk.2) (.string t267)) (fun _ hk => hk.2) (.int .i64 t268)) (fun _ hk => hk.2) (.slice Ao74 t269.length co74)) (fun _ hk => hk.2) (.slice Ao75 t272.length co75)) (fun _ hk => hk.2) (.slice Ao76 t275.length co76)) (fun _ hk => hk.2) (.slice Ao77 t278.length co77)) (fun _ hk => hk.2) (.slice Ao78 t281.length co78)) (fun _ hk => hk.2) (.slice Ao79 t284.length co79)) (fun _ h_ => h_.1)))); (case side12 => exact (Kd.R_reads' HO265.out).2.1); (case side13 => refine (Kd.R_reads' (e := 9) (base := w.heap.size) (ok := fun k_ => ((((((some k_ ≠ (.slice Ao75 t272.length co75 : Value).ownBlock ∧ some k_ ≠ (.slice Ao42 t207.length co42 : Value).ownBlock) ∧ some k_ ≠ (.slice Ao43 t210.length co43 : Value).ownBlock) ∧ some k_ ≠ (.slice Ao48 t227.length co48 : Value).ownBlock) ∧ some k_ ≠ (.slice Ao49 t230.length co49 : Value).ownBlock) ∧ some k_ ≠ (.slice Ao61 t248.length co61 : Value).ownBlock) ∧ some k_ ≠ (.slice Ao62 t251.length co62 : Value).ownBlock)) (n := t269.length) (c := co74) ?_).2.2; exact (by (with_reducible repeat (first | apply Kd.R_alloc | apply Kd.R_drewN | apply Kd.R_drew)); exact (Kd.R_mono (Kd.R_far (p := ⟨gb287, 7, none⟩) (Kd.R_far (p := ⟨gb287, 6, none⟩) (Kd.R_far (p := ⟨gb287, 5, none⟩) (Kd.R_far (p := ⟨gb287, 4, none⟩) (Kd.R_far (p := ⟨gb287, 3, none⟩) (Kd.R_far (p := ⟨gb287, 2, none⟩) (Kd.R_far (p := ⟨gb287, 1, none⟩) (Kd.R_far (p := ⟨gb287, 0, none⟩) (Kd.R_types HO271.out BK287.out (by decide)) (fun _ hk => hk.2) (.string t267)) (fun _ hk => hk.2) (.int .i64 t268)) (fun _ hk => hk.2) (.slice Ao74 t269.length co74)) (fun _ hk => hk.2) (.slice Ao75 t272.length co75)) (fun _ hk => hk.2) (.slice Ao76 t275.length co76)) (fun _ hk => hk.2) (.slice Ao77 t278.length co77)) (fun _ hk => hk.2) (.slice Ao78 t281.length co78)) (fun _ hk => hk.2) (.slice Ao79 t284.length co79)) (fun _ h_ => h_.1)))); (case side14 => exact (Kd.R_reads' HO271.out).2.1); (case side15 => refine (Kd.R_reads' (e := 9) (base := w.heap.size) (ok := fun k_ => ((((((some k_ ≠ (.slice Ao74 t269.length co74 : Value).ownBlock ∧ some k_ ≠ (.slice Ao42 t207.length co42 : Value).ownBlock) ∧ some k_ ≠ (.slice Ao43 t210.length co43 : Value).ownBlock) ∧ some k_ ≠ (.slice Ao48 t227.length co48 : Value).ownBlock) ∧ some k_ ≠ (.slice Ao49 t230.length co49 : Value).ownBlock) ∧ some k_ ≠ (.slice Ao61 t248.length co61 : Value).ownBlock) ∧ some k_ ≠ (.slice Ao62 t251.length co62 : Value).ownBlock)) (n := t272.length) (c := co75) ?_).2.2; exact (by (with_reducible repeat (first | apply Kd.R_alloc | apply Kd.R_drewN | apply Kd.R_drew)); exact (Kd.R_mono (Kd.R_far (p := ⟨gb287, 7, none⟩) (Kd.R_far (p := ⟨gb287, 6, none⟩) (Kd.R_far (p := ⟨gb287, 5, none⟩) (Kd.R_far (p := ⟨gb287, 4, none⟩) (Kd.R_far (p := ⟨gb287, 3, none⟩) (Kd.R_far (p := ⟨gb287, 2, none⟩) (Kd.R_far (p := ⟨gb287, 1, none⟩) (Kd.R_far (p := ⟨gb287, 0, none⟩) (Kd.R_types HO274.out BK287.out (by decide)) (fun _ hk => hk.2) (.string t267)) (fun _ hk => hk.2) (.int .i64 t268)) (fun _ hk => hk.2) (.slice Ao74 t269.length co74)) (fun _ hk => hk.2) (.slice Ao75 t272.length co75)) (fun _ hk => hk.2) (.slice Ao76 t275.length co76)) (fun _ hk => hk.2) (.slice Ao77 t278.length co77)) (fun _ hk => hk.2) (.slice Ao78 t281.length co78)) (fun _ hk => hk.2) (.slice Ao79 t284.length co79)) (fun _ h_ => h_.1)))); (case side16 => exact (Kd.R_reads' HO274.out).2.1); (case side17 => refine (Kd.R_reads' (e := 82) (base := w.heap.size) (ok := fun k_ => (((True ∧ some k_ ≠ (.slice Ao44 t213.length co44 : Value).ownBlock) ∧ some k_ ≠ (.slice Ao50 t233.length co50 : Value).ownBlock) ∧ some k_ ≠ (.slice Ao63 t254.length co63 : Value).ownBlock)) (n := t275.length) (c := co76) ?_).2.2; exact (by (with_reducible repeat (first | apply Kd.R_alloc | apply Kd.R_drewN | apply Kd.R_drew)); exact (Kd.R_mono (Kd.R_far (p := ⟨gb287, 7, none⟩) (Kd.R_far (p := ⟨gb287, 6, none⟩) (Kd.R_far (p := ⟨gb287, 5, none⟩) (Kd.R_far (p := ⟨gb287, 4, none⟩) (Kd.R_far (p := ⟨gb287, 3, none⟩) (Kd.R_far (p := ⟨gb287, 2, none⟩) (Kd.R_far (p := ⟨gb287, 1, none⟩) (Kd.R_far (p := ⟨gb287, 0, none⟩) (Kd.R_types HO277.out BK287.out (by decide)) (fun _ hk => hk.2) (.string t267)) (fun _ hk => hk.2) (.int .i64 t268)) (fun _ hk => hk.2) (.slice Ao74 t269.length co74)) (fun _ hk => hk.2) (.slice Ao75 t272.length co75)) (fun _ hk => hk.2) (.slice Ao76 t275.length co76)) (fun _ hk => hk.2) (.slice Ao77 t278.length co77)) (fun _ hk => hk.2) (.slice Ao78 t281.length co78)) (fun _ hk => hk.2) (.slice Ao79 t284.length co79)) (fun _ h_ => h_.1)))); (case side18 => exact (Kd.R_reads' HO277.out).2.1); (case side19 => refine (Kd.R_reads' (e := 88) (base := w.heap.size) (ok := fun k_ => ((((((((((some k_ ≠ (.slice Ao78 t281.length co78 : Value).ownBlock ∧ some k_ ≠ (.slice Ao79 t284.length co79 : Value).ownBlock) ∧ some k_ ≠ (.slice Ao45 t216.length co45 : Value).ownBlock) ∧ some k_ ≠ (.slice Ao46 t219.length co46 : Value).ownBlock) ∧ some k_ ≠ (.slice Ao47 t222.length co47 : Value).ownBlock) ∧ some k_ ≠ (.slice Ao51 t236.length co51 : Value).ownBlock) ∧ some k_ ≠ (.slice Ao52 t239.length co52 : Value).ownBlock) ∧ some k_ ≠ (.slice Ao53 t242.length co53 : Value).ownBlock) ∧ some k_ ≠ (.slice Ao64 t257.length co64 : Value).ownBlock) ∧ some k_ ≠ (.slice Ao65 t260.length co65 : Value).ownBlock) ∧ some k_ ≠ (.slice Ao66 t263.length co66 : Value).ownBlock)) (n := t278.length) (c := co77) ?_).2.2; exact (by (with_reducible repeat (first | apply Kd.R_alloc | apply Kd.R_drewN | apply Kd.R_drew)); exact (Kd.R_mono (Kd.R_far (p := ⟨gb287, 7, none⟩) (Kd.R_far (p := ⟨gb287, 6, none⟩) (Kd.R_far (p := ⟨gb287, 5, none⟩) (Kd.R_far (p := ⟨gb287, 4, none⟩) (Kd.R_far (p := ⟨gb287, 3, none⟩) (Kd.R_far (p := ⟨gb287, 2, none⟩) (Kd.R_far (p := ⟨gb287, 1, none⟩) (Kd.R_far (p := ⟨gb287, 0, none⟩) (Kd.R_types HO280.out BK287.out (by decide)) (fun _ hk => hk.2) (.string t267)) (fun _ hk => hk.2) (.int .i64 t268)) (fun _ hk => hk.2) (.slice Ao74 t269.length co74)) (fun _ hk => hk.2) (.slice Ao75 t272.length co75)) (fun _ hk => hk.2) (.slice Ao76 t275.length co76)) (fun _ hk => hk.2) (.slice Ao77 t278.length co77)) (fun _ hk => hk.2) (.slice Ao78 t281.length co78)) (fun _ hk => hk.2) (.slice Ao79 t284.length co79)) (fun _ h_ => h_.1)))); (case side20 => exact (Kd.R_reads' HO280.out).2.1); (case side21 => refine (Kd.R_reads' (e := 88) (base := w.heap.size) (ok := fun k_ => ((((((((((some k_ ≠ (.slice Ao77 t278.length co77 : Value).ownBlock ∧ some k_ ≠ (.slice Ao79 t284.length co79 : Value).ownBlock) ∧ some k_ ≠ (.slice Ao45 t216.length co45 : Value).ownBlock) ∧ some k_ ≠ (.slice Ao46 t219.length co46 : Value).ownBlock) ∧ some k_ ≠ (.slice Ao47 t222.length co47 : Value).ownBlock) ∧ some k_ ≠ (.slice Ao51 t236.length co51 : Value).ownBlock) ∧ some k_ ≠ (.slice Ao52 t239.length co52 : Value).ownBlock) ∧ some k_ ≠ (.slice Ao53 t242.length co53 : Value).ownBlock) ∧ some k_ ≠ (.slice Ao64 t257.length co64 : Value).ownBlock) ∧ some k_ ≠ (.slice Ao65 t260.length co65 : Value).ownBlock) ∧ some k_ ≠ (.slice Ao66 t263.length co66 : Value).ownBlock)) (n := t281.length) (c := co78) ?_).2.2; exact (by (with_reducible repeat (first | apply Kd.R_alloc | apply Kd.R_drewN | apply Kd.R_drew)); exact (Kd.R_mono (Kd.R_far (p := ⟨gb287, 7, none⟩) (Kd.R_far (p := ⟨gb287, 6, none⟩) (Kd.R_far (p := ⟨gb287, 5, none⟩) (Kd.R_far (p := ⟨gb287, 4, none⟩) (Kd.R_far (p := ⟨gb287, 3, none⟩) (Kd.R_far (p := ⟨gb287, 2, none⟩) (Kd.R_far (p := ⟨gb287, 1, none⟩) (Kd.R_far (p := ⟨gb287, 0, none⟩) (Kd.R_types HO283.out BK287.out (by decide)) (fun _ hk => hk.2) (.string t267)) (fun _ hk => hk.2) (.int .i64 t268)) (fun _ hk => hk.2) (.slice Ao74 t269.length co74)) (fun _ hk => hk.2) (.slice Ao75 t272.length co75)) (fun _ hk => hk.2) (.slice Ao76 t275.length co76)) (fun _ hk => hk.2) (.slice Ao77 t278.length co77)) (fun _ hk => hk.2) (.slice Ao78 t281.length co78)) (fun _ hk => hk.2) (.slice Ao79 t284.length co79)) (fun _ h_ => h_.1)))); (case side22 => exact (Kd.R_reads' HO283.out).2.1); (case side23 => refine (Kd.R_reads' (e := 88) (base := w.heap.size) (ok := fun k_ => ((((((((((some k_ ≠ (.slice Ao77 t278.length co77 : Value).ownBlock ∧ some k_ ≠ (.slice Ao78 t281.length co78 : Value).ownBlock) ∧ some k_ ≠ (.slice Ao45 t216.length co45 : Value).ownBlock) ∧ some k_ ≠ (.slice Ao46 t219.length co46 : Value).ownBlock) ∧ some k_ ≠ (.slice Ao47 t222.length co47 : Value).ownBlock) ∧ some k_ ≠ (.slice Ao51 t236.length co51 : Value).ownBlock) ∧ some k_ ≠ (.slice Ao52 t239.length co52 : Value).ownBlock) ∧ some k_ ≠ (.slice Ao53 t242.length co53 : Value).ownBlock) ∧ some k_ ≠ (.slice Ao64 t257.length co64 : Value).ownBlock) ∧ some k_ ≠ (.slice Ao65 t260.length co65 : Value).ownBlock) ∧ some k_ ≠ (.slice Ao66 t263.length co66 : Value).ownBlock)) (n := t284.length) (c := co79) ?_).2.2; exact (by (with_reducible repeat (first | apply Kd.R_alloc | apply Kd.R_drewN | apply Kd.R_drew)); exact (Kd.R_mono (Kd.R_far (p := ⟨gb287, 7, none⟩) (Kd.R_far (p := ⟨gb287, 6, none⟩) (Kd.R_far (p := ⟨gb287, 5, none⟩) (Kd.R_far (p := ⟨gb287, 4, none⟩) (Kd.R_far (p := ⟨gb287, 3, none⟩) (Kd.R_far (p := ⟨gb287, 2, none⟩) (Kd.R_far (p := ⟨gb287, 1, none⟩) (Kd.R_far (p := ⟨gb287, 0, none⟩) (Kd.R_types HO286.out BK287.out (by decide)) (fun _ hk => hk.2) (.string t267)) (fun _ hk => hk.2) (.int .i64 t268)) (fun _ hk => hk.2) (.slice Ao74 t269.length co74)) (fun _ hk => hk.2) (.slice Ao75 t272.length co75)) (fun _ hk => hk.2) (.slice Ao76 t275.length co76)) (fun _ hk => hk.2) (.slice Ao77 t278.length co77)) (fun _ hk => hk.2) (.slice Ao78 t281.length co78)) (fun _ hk => hk.2) (.slice Ao79 t284.length co79)) (fun _ h_ => h_.1)))); (case side24 => exact (Kd.R_reads' HO286.out).2.1); rintro e w81 ⟨rfl, hb⟩; refine ⟨_, rfl, ?_⟩; replace HO209 := am (Kd.R_below (by (with_reducible repeat (first | apply Kd.R_alloc | apply Kd.R_drewN | apply Kd.R_drew)); exact (Kd.R_mono (Kd.R_far (p := ⟨gb287, 7, none⟩) (Kd.R_far (p := ⟨gb287, 6, none⟩) (Kd.R_far (p := ⟨gb287, 5, none⟩) (Kd.R_far (p := ⟨gb287, 4, none⟩) (Kd.R_far (p := ⟨gb287, 3, none⟩) (Kd.R_far (p := ⟨gb287, 2, none⟩) (Kd.R_far (p := ⟨gb287, 1, none⟩) (Kd.R_far (p := ⟨gb287, 0, none⟩) (Kd.R_types HO209.out BK287.out (by decide)) (fun _ hk => hk.2) (.string t267)) (fun _ hk => hk.2) (.int .i64 t268)) (fun _ hk => hk.2) (.slice Ao74 t269.length co74)) (fun _ hk => hk.2) (.slice Ao75 t272.length co75)) (fun _ hk => hk.2) (.slice Ao76 t275.length co76)) (fun _ hk => hk.2) (.slice Ao77 t278.length co77)) (fun _ hk => hk.2) (.slice Ao78 t281.length co78)) (fun _ hk => hk.2) (.slice Ao79 t284.length co79)) (fun _ h_ => h_.1))) hb); replace HO212 := am (Kd.R_below (by (with_reducible repeat (first | apply Kd.R_alloc | apply Kd.R_drewN | apply Kd.R_drew)); exact (Kd.R_mono (Kd.R_far (p := ⟨gb287, 7, none⟩) (Kd.R_far (p := ⟨gb287, 6, none⟩) (Kd.R_far (p := ⟨gb287, 5, none⟩) (Kd.R_far (p := ⟨gb287, 4, none⟩) (Kd.R_far (p := ⟨gb287, 3, none⟩) (Kd.R_far (p := ⟨gb287, 2, none⟩) (Kd.R_far (p := ⟨gb287, 1, none⟩) (Kd.R_far (p := ⟨gb287, 0, none⟩) (Kd.R_types HO212.out BK287.out (by decide)) (fun _ hk => hk.2) (.string t267)) (fun _ hk => hk.2) (.int .i64 t268)) (fun _ hk => hk.2) (.slice Ao74 t269.length co74)) (fun _ hk => hk.2) (.slice Ao75 t272.length co75)) (fun _ hk => hk.2) (.slice Ao76 t275.length co76)) (fun _ hk => hk.2) (.slice Ao77 t278.length co77)) (fun _ hk => hk.2) (.slice Ao78 t281.length co78)) (fun _ hk => hk.2) (.slice Ao79 t284.length co79)) (fun _ h_ => h_.1))) hb); replace HO215 := am (Kd.R_below (by (with_reducible repeat (first | apply Kd.R_alloc | apply Kd.R_drewN | apply Kd.R_drew)); exact (Kd.R_mono (Kd.R_far (p := ⟨gb287, 7, none⟩) (Kd.R_far (p := ⟨gb287, 6, none⟩) (Kd.R_far (p := ⟨gb287, 5, none⟩) (Kd.R_far (p := ⟨gb287, 4, none⟩) (Kd.R_far (p := ⟨gb287, 3, none⟩) (Kd.R_far (p := ⟨gb287, 2, none⟩) (Kd.R_far (p := ⟨gb287, 1, none⟩) (Kd.R_far (p := ⟨gb287, 0, none⟩) (Kd.R_types HO215.out BK287.out (by decide)) (fun _ hk => hk.2) (.string t267)) (fun _ hk => hk.2) (.int .i64 t268)) (fun _ hk => hk.2) (.slice Ao74 t269.length co74)) (fun _ hk => hk.2) (.slice Ao75 t272.length co75)) (fun _ hk => hk.2) (.slice Ao76 t275.length co76)) (fun _ hk => hk.2) (.slice Ao77 t278.length co77)) (fun _ hk => hk.2) (.slice Ao78 t281.length co78)) (fun _ hk => hk.2) (.slice Ao79 t284.length co79)) (fun _ h_ => h_.1))) hb); replace HO218 := am (Kd.R_below (by (with_reducible repeat (first | apply Kd.R_alloc | apply Kd.R_drewN | apply Kd.R_drew)); exact (Kd.R_mono (Kd.R_far (p := ⟨gb287, 7, none⟩) (Kd.R_far (p := ⟨gb287, 6, none⟩) (Kd.R_far (p := ⟨gb287, 5, none⟩) (Kd.R_far (p := ⟨gb287, 4, none⟩) (Kd.R_far (p := ⟨gb287, 3, none⟩) (Kd.R_far (p := ⟨gb287, 2, none⟩) (Kd.R_far (p := ⟨gb287, 1, none⟩) (Kd.R_far (p := ⟨gb287, 0, none⟩) (Kd.R_types HO218.out BK287.out (by decide)) (fun _ hk => hk.2) (.string t267)) (fun _ hk => hk.2) (.int .i64 t268)) (fun _ hk => hk.2) (.slice Ao74 t269.length co74)) (fun _ hk => hk.2) (.slice Ao75 t272.length co75)) (fun _ hk => hk.2) (.slice Ao76 t275.length co76)) (fun _ hk => hk.2) (.slice Ao77 t278.length co77)) (fun _ hk => hk.2) (.slice Ao78 t281.length co78)) (fun _ hk => hk.2) (.slice Ao79 t284.length co79)) (fun _ h_ => h_.1))) hb); replace HO221 := am (Kd.R_below (by (with_reducible repeat (first | apply Kd.R_alloc | apply Kd.R_drewN | apply Kd.R_drew)); exact (Kd.R_mono (Kd.R_far (p := ⟨gb287, 7, none⟩) (Kd.R_far (p := ⟨gb287, 6, none⟩) (Kd.R_far (p := ⟨gb287, 5, none⟩) (Kd.R_far (p := ⟨gb287, 4, none⟩) (Kd.R_far (p := ⟨gb287, 3, none⟩) (Kd.R_far (p := ⟨gb287, 2, none⟩) (Kd.R_far (p := ⟨gb287, 1, none⟩) (Kd.R_far (p := ⟨gb287, 0, none⟩) (Kd.R_types HO221.out BK287.out (by decide)) (fun _ hk => hk.2) (.string t267)) (fun _ hk => hk.2) (.int .i64 t268)) (fun _ hk => hk.2) (.slice Ao74 t269.length co74)) (fun _ hk => hk.2) (.slice Ao75 t272.length co75)) (fun _ hk => hk.2) (.slice Ao76 t275.length co76)) (fun _ hk => hk.2) (.slice Ao77 t278.length co77)) (fun _ hk => hk.2) (.slice Ao78 t281.length co78)) (fun _ hk => hk.2) (.slice Ao79 t284.length co79)) (fun _ h_ => h_.1))) hb); replace HO224 := am (Kd.R_below (by (with_reducible repeat (first | apply Kd.R_alloc | apply Kd.R_drewN | apply Kd.R_drew)); exact (Kd.R_mono (Kd.R_far (p := ⟨gb287, 7, none⟩) (Kd.R_far (p := ⟨gb287, 6, none⟩) (Kd.R_far (p := ⟨gb287, 5, none⟩) (Kd.R_far (p := ⟨gb287, 4, none⟩) (Kd.R_far (p := ⟨gb287, 3, none⟩) (Kd.R_far (p := ⟨gb287, 2, none⟩) (Kd.R_far (p := ⟨gb287, 1, none⟩) (Kd.R_far (p := ⟨gb287, 0, none⟩) (Kd.R_types HO224.out BK287.out (by decide)) (fun _ hk => hk.2) (.string t267)) (fun _ hk => hk.2) (.int .i64 t268)) (fun _ hk => hk.2) (.slice Ao74 t269.length co74)) (fun _ hk => hk.2) (.slice Ao75 t272.length co75)) (fun _ hk => hk.2) (.slice Ao76 t275.length co76)) (fun _ hk => hk.2) (.slice Ao77 t278.length co77)) (fun _ hk => hk.2) (.slice Ao78 t281.length co78)) (fun _ hk => hk.2) (.slice Ao79 t284.length co79)) (fun _ h_ => h_.1))) hb); replace HO229 := am (Kd.R_below (by (with_reducible repeat (first | apply Kd.R_alloc | apply Kd.R_drewN | apply Kd.R_drew)); exact (Kd.R_mono (Kd.R_far (p := ⟨gb287, 7, none⟩) (Kd.R_far (p := ⟨gb287, 6, none⟩) (Kd.R_far (p := ⟨gb287, 5, none⟩) (Kd.R_far (p := ⟨gb287, 4, none⟩) (Kd.R_far (p := ⟨gb287, 3, none⟩) (Kd.R_far (p := ⟨gb287, 2, none⟩) (Kd.R_far (p := ⟨gb287, 1, none⟩) (Kd.R_far (p := ⟨gb287, 0, none⟩) (Kd.R_types HO229.out BK287.out (by decide)) (fun _ hk => hk.2) (.string t267)) (fun _ hk => hk.2) (.int .i64 t268)) (fun _ hk => hk.2) (.slice Ao74 t269.length co74)) (fun _ hk => hk.2) (.slice Ao75 t272.length co75)) (fun _ hk => hk.2) (.slice Ao76 t275.length co76)) (fun _ hk => hk.2) (.slice Ao77 t278.length co77)) (fun _ hk => hk.2) (.slice Ao78 t281.length co78)) (fun _ hk => hk.2) (.slice Ao79 t284.length co79)) (fun _ h_ => h_.1))) hb); replace HO232 := am (Kd.R_below (by (with_reducible repeat (first | apply Kd.R_alloc | apply Kd.R_drewN | apply Kd.R_drew)); exact (Kd.R_mono (Kd.R_far (p := ⟨gb287, 7, none⟩) (Kd.R_far (p := ⟨gb287, 6, none⟩) (Kd.R_far (p := ⟨gb287, 5, none⟩) (Kd.R_far (p := ⟨gb287, 4, none⟩) (Kd.R_far (p := ⟨gb287, 3, none⟩) (Kd.R_far (p := ⟨gb287, 2, none⟩) (Kd.R_far (p := ⟨gb287, 1, none⟩) (Kd.R_far (p := ⟨gb287, 0, none⟩) (Kd.R_types HO232.out BK287.out (by decide)) (fun _ hk => hk.2) (.string t267)) (fun _ hk => hk.2) (.int .i64 t268)) (fun _ hk => hk.2) (.slice Ao74 t269.length co74)) (fun _ hk => hk.2) (.slice Ao75 t272.length co75)) (fun _ hk => hk.2) (.slice Ao76 t275.length co76)) (fun _ hk => hk.2) (.slice Ao77 t278.length co77)) (fun _ hk => hk.2) (.slice Ao78 t281.length co78)) (fun _ hk => hk.2) (.slice Ao79 t284.length co79)) (fun _ h_ => h_.1))) hb); replace HO235 := am (Kd.R_below (by (with_reducible repeat (first | apply Kd.R_alloc | apply Kd.R_drewN | apply Kd.R_drew)); exact (Kd.R_mono (Kd.R_far (p := ⟨gb287, 7, none⟩) (Kd.R_far (p := ⟨gb287, 6, none⟩) (Kd.R_far (p := ⟨gb287, 5, none⟩) (Kd.R_far (p := ⟨gb287, 4, none⟩) (Kd.R_far (p := ⟨gb287, 3, none⟩) (Kd.R_far (p := ⟨gb287, 2, none⟩) (Kd.R_far (p := ⟨gb287, 1, none⟩) (Kd.R_far (p := ⟨gb287, 0, none⟩) (Kd.R_types HO235.out BK287.out (by decide)) (fun _ hk => hk.2) (.string t267)) (fun _ hk => hk.2) (.int .i64 t268)) (fun _ hk => hk.2) (.slice Ao74 t269.length co74)) (fun _ hk => hk.2) (.slice Ao75 t272.length co75)) (fun _ hk => hk.2) (.slice Ao76 t275.length co76)) (fun _ hk => hk.2) (.slice Ao77 t278.length co77)) (fun _ hk => hk.2) (.slice Ao78 t281.length co78)) (fun _ hk => hk.2) (.slice Ao79 t284.length co79)) (fun _ h_ => h_.1))) hb); replace HO238 := am (Kd.R_below (by (with_reducible repeat (first | apply Kd.R_alloc | apply Kd.R_drewN | apply Kd.R_drew)); exact (Kd.R_mono (Kd.R_far (p := ⟨gb287, 7, none⟩) (Kd.R_far (p := ⟨gb287, 6, none⟩) (Kd.R_far (p := ⟨gb287, 5, none⟩) (Kd.R_far (p := ⟨gb287, 4, none⟩) (Kd.R_far (p := ⟨gb287, 3, none⟩) (Kd.R_far (p := ⟨gb287, 2, none⟩) (Kd.R_far (p := ⟨gb287, 1, none⟩) (Kd.R_far (p := ⟨gb287, 0, none⟩) (Kd.R_types HO238.out BK287.out (by decide)) (fun _ hk => hk.2) (.string t267)) (fun _ hk => hk.2) (.int .i64 t268)) (fun _ hk => hk.2) (.slice Ao74 t269.length co74)) (fun _ hk => hk.2) (.slice Ao75 t272.length co75)) (fun _ hk => hk.2) (.slice Ao76 t275.length co76)) (fun _ hk => hk.2) (.slice Ao77 t278.length co77)) (fun _ hk => hk.2) (.slice Ao78 t281.length co78)) (fun _ hk => hk.2) (.slice Ao79 t284.length co79)) (fun _ h_ => h_.1))) hb); replace HO241 := am (Kd.R_below (by (with_reducible repeat (first | apply Kd.R_alloc | apply Kd.R_drewN | apply Kd.R_drew)); exact (Kd.R_mono (Kd.R_far (p := ⟨gb287, 7, none⟩) (Kd.R_far (p := ⟨gb287, 6, none⟩) (Kd.R_far (p := ⟨gb287, 5, none⟩) (Kd.R_far (p := ⟨gb287, 4, none⟩) (Kd.R_far (p := ⟨gb287, 3, none⟩) (Kd.R_far (p := ⟨gb287, 2, none⟩) (Kd.R_far (p := ⟨gb287, 1, none⟩) (Kd.R_far (p := ⟨gb287, 0, none⟩) (Kd.R_types HO241.out BK287.out (by decide)) (fun _ hk => hk.2) (.string t267)) (fun _ hk => hk.2) (.int .i64 t268)) (fun _ hk => hk.2) (.slice Ao74 t269.length co74)) (fun _ hk => hk.2) (.slice Ao75 t272.length co75)) (fun _ hk => hk.2) (.slice Ao76 t275.length co76)) (fun _ hk => hk.2) (.slice Ao77 t278.length co77)) (fun _ hk => hk.2) (.slice Ao78 t281.length co78)) (fun _ hk => hk.2) (.slice Ao79 t284.length co79)) (fun _ h_ => h_.1))) hb); replace HO244 := am (Kd.R_below (by (with_reducible repeat (first | apply Kd.R_alloc | apply Kd.R_drewN | apply Kd.R_drew)); exact (Kd.R_mono (Kd.R_far (p := ⟨gb287, 7, none⟩) (Kd.R_far (p := ⟨gb287, 6, none⟩) (Kd.R_far (p := ⟨gb287, 5, none⟩) (Kd.R_far (p := ⟨gb287, 4, none⟩) (Kd.R_far (p := ⟨gb287, 3, none⟩) (Kd.R_far (p := ⟨gb287, 2, none⟩) (Kd.R_far (p := ⟨gb287, 1, none⟩) (Kd.R_far (p := ⟨gb287, 0, none⟩) (Kd.R_types HO244.out BK287.out (by decide)) (fun _ hk => hk.2) (.string t267)) (fun _ hk => hk.2) (.int .i64 t268)) (fun _ hk => hk.2) (.slice Ao74 t269.length co74)) (fun _ hk => hk.2) (.slice Ao75 t272.length co75)) (fun _ hk => hk.2) (.slice Ao76 t275.length co76)) (fun _ hk => hk.2) (.slice Ao77 t278.length co77)) (fun _ hk => hk.2) (.slice Ao78 t281.length co78)) (fun _ hk => hk.2) (.slice Ao79 t284.length co79)) (fun _ h_ => h_.1))) hb); replace HO250 := am (Kd.R_below (by (with_reducible repeat (first | apply Kd.R_alloc | apply Kd.R_drewN | apply Kd.R_drew)); exact (Kd.R_mono (Kd.R_far (p := ⟨gb287, 7, none⟩) (Kd.R_far (p := ⟨gb287, 6, none⟩) (Kd.R_far (p := ⟨gb287, 5, none⟩) (Kd.R_far (p := ⟨gb287, 4, none⟩) (Kd.R_far (p := ⟨gb287, 3, none⟩) (Kd.R_far (p := ⟨gb287, 2, none⟩) (Kd.R_far (p := ⟨gb287, 1, none⟩) (Kd.R_far (p := ⟨gb287, 0, none⟩) (Kd.R_types HO250.out BK287.out (by decide)) (fun _ hk => hk.2) (.string t267)) (fun _ hk => hk.2) (.int .i64 t268)) (fun _ hk => hk.2) (.slice Ao74 t269.length co74)) (fun _ hk => hk.2) (.slice Ao75 t272.length co75)) (fun _ hk => hk.2) (.slice Ao76 t275.length co76)) (fun _ hk => hk.2) (.slice Ao77 t278.length co77)) (fun _ hk => hk.2) (.slice Ao78 t281.length co78)) (fun _ hk => hk.2) (.slice Ao79 t284.length co79)) (fun _ h_ => h_.1))) hb); replace HO253 := am (Kd.R_below (by (with_reducible repeat (first | apply Kd.R_alloc | apply Kd.R_drewN | apply Kd.R_drew)); exact (Kd.R_mono (Kd.R_far (p := ⟨gb287, 7, none⟩) (Kd.R_far (p := ⟨gb287, 6, none⟩) (Kd.R_far (p := ⟨gb287, 5, none⟩) (Kd.R_far (p := ⟨gb287, 4, none⟩) (Kd.R_far (p := ⟨gb287, 3, none⟩) (Kd.R_far (p := ⟨gb287, 2, none⟩) (Kd.R_far (p := ⟨gb287, 1, none⟩) (Kd.R_far (p := ⟨gb287, 0, none⟩) (Kd.R_types HO253.out BK287.out (by decide)) (fun _ hk => hk.2) (.string t267)) (fun _ hk => hk.2) (.int .i64 t268)) (fun _ hk => hk.2) (.slice Ao74 t269.length co74)) (fun _ hk => hk.2) (.slice Ao75 t272.length co75)) (fun _ hk => hk.2) (.slice Ao76 t275.length co76)) (fun _ hk => hk.2) (.slice Ao77 t278.length co77)) (fun _ hk => hk.2) (.slice Ao78 t281.length co78)) (fun _ hk => hk.2) (.slice Ao79 t284.length co79)) (fun _ h_ => h_.1))) hb); replace HO256 := am (Kd.R_below (by (with_reducible repeat (first | apply Kd.R_alloc | apply Kd.R_drewN | apply Kd.R_drew)); exact (Kd.R_mono (Kd.R_far (p := ⟨gb287, 7, none⟩) (Kd.R_far (p := ⟨gb287, 6, none⟩) (Kd.R_far (p := ⟨gb287, 5, none⟩) (Kd.R_far (p := ⟨gb287, 4, none⟩) (Kd.R_far (p := ⟨gb287, 3, none⟩) (Kd.R_far (p := ⟨gb287, 2, none⟩) (Kd.R_far (p := ⟨gb287, 1, none⟩) (Kd.R_far (p := ⟨gb287, 0, none⟩) (Kd.R_types HO256.out BK287.out (by decide)) (fun _ hk => hk.2) (.string t267)) (fun _ hk => hk.2) (.int .i64 t268)) (fun _ hk => hk.2) (.slice Ao74 t269.length co74)) (fun _ hk => hk.2) (.slice Ao75 t272.length co75)) (fun _ hk => hk.2) (.slice Ao76 t275.length co76)) (fun _ hk => hk.2) (.slice Ao77 t278.length co77)) (fun _ hk => hk.2) (.slice Ao78 t281.length co78)) (fun _ hk => hk.2) (.slice Ao79 t284.length co79)) (fun _ h_ => h_.1))) hb); replace HO259 := am (Kd.R_below (by (with_reducible repeat (first | apply Kd.R_alloc | apply Kd.R_drewN | apply Kd.R_drew)); exact (Kd.R_mono (Kd.R_far (p := ⟨gb287, 7, none⟩) (Kd.R_far (p := ⟨gb287, 6, none⟩) (Kd.R_far (p := ⟨gb287, 5, none⟩) (Kd.R_far (p := ⟨gb287, 4, none⟩) (Kd.R_far (p := ⟨gb287, 3, none⟩) (Kd.R_far (p := ⟨gb287, 2, none⟩) (Kd.R_far (p := ⟨gb287, 1, none⟩) (Kd.R_far (p := ⟨gb287, 0, none⟩) (Kd.R_types HO259.out BK287.out (by decide)) (fun _ hk => hk.2) (.string t267)) (fun _ hk => hk.2) (.int .i64 t268)) (fun _ hk => hk.2) (.slice Ao74 t269.length co74)) (fun _ hk => hk.2) (.slice Ao75 t272.length co75)) (fun _ hk => hk.2) (.slice Ao76 t275.length co76)) (fun _ hk => hk.2) (.slice Ao77 t278.length co77)) (fun _ hk => hk.2) (.slice Ao78 t281.length co78)) (fun _ hk => hk.2) (.slice Ao79 t284.length co79)) (fun _ h_ => h_.1))) hb); replace HO262 := am (Kd.R_below (by (with_reducible repeat (first | apply Kd.R_alloc | apply Kd.R_drewN | apply Kd.R_drew)); exact (Kd.R_mono (Kd.R_far (p := ⟨gb287, 7, none⟩) (Kd.R_far (p := ⟨gb287, 6, none⟩) (Kd.R_far (p := ⟨gb287, 5, none⟩) (Kd.R_far (p := ⟨gb287, 4, none⟩) (Kd.R_far (p := ⟨gb287, 3, none⟩) (Kd.R_far (p := ⟨gb287, 2, none⟩) (Kd.R_far (p := ⟨gb287, 1, none⟩) (Kd.R_far (p := ⟨gb287, 0, none⟩) (Kd.R_types HO262.out BK287.out (by decide)) (fun _ hk => hk.2) (.string t267)) (fun _ hk => hk.2) (.int .i64 t268)) (fun _ hk => hk.2) (.slice Ao74 t269.length co74)) (fun _ hk => hk.2) (.slice Ao75 t272.length co75)) (fun _ hk => hk.2) (.slice Ao76 t275.length co76)) (fun _ hk => hk.2) (.slice Ao77 t278.length co77)) (fun _ hk => hk.2) (.slice Ao78 t281.length co78)) (fun _ hk => hk.2) (.slice Ao79 t284.length co79)) (fun _ h_ => h_.1))) hb); replace HO265 := am (Kd.R_below (by (with_reducible repeat (first | apply Kd.R_alloc | apply Kd.R_drewN | apply Kd.R_drew)); exact (Kd.R_mono (Kd.R_far (p := ⟨gb287, 7, none⟩) (Kd.R_far (p := ⟨gb287, 6, none⟩) (Kd.R_far (p := ⟨gb287, 5, none⟩) (Kd.R_far (p := ⟨gb287, 4, none⟩) (Kd.R_far (p := ⟨gb287, 3, none⟩) (Kd.R_far (p := ⟨gb287, 2, none⟩) (Kd.R_far (p := ⟨gb287, 1, none⟩) (Kd.R_far (p := ⟨gb287, 0, none⟩) (Kd.R_types HO265.out BK287.out (by decide)) (fun _ hk => hk.2) (.string t267)) (fun _ hk => hk.2) (.int .i64 t268)) (fun _ hk => hk.2) (.slice Ao74 t269.length co74)) (fun _ hk => hk.2) (.slice Ao75 t272.length co75)) (fun _ hk => hk.2) (.slice Ao76 t275.length co76)) (fun _ hk => hk.2) (.slice Ao77 t278.length co77)) (fun _ hk => hk.2) (.slice Ao78 t281.length co78)) (fun _ hk => hk.2) (.slice Ao79 t284.length co79)) (fun _ h_ => h_.1))) hb); replace HO271 := am (Kd.R_below (by (with_reducible repeat (first | apply Kd.R_alloc | apply Kd.R_drewN | apply Kd.R_drew)); exact (Kd.R_mono (Kd.R_far (p := ⟨gb287, 7, none⟩) (Kd.R_far (p := ⟨gb287, 6, none⟩) (Kd.R_far (p := ⟨gb287, 5, none⟩) (Kd.R_far (p := ⟨gb287, 4, none⟩) (Kd.R_far (p := ⟨gb287, 3, none⟩) (Kd.R_far (p := ⟨gb287, 2, none⟩) (Kd.R_far (p := ⟨gb287, 1, none⟩) (Kd.R_far (p := ⟨gb287, 0, none⟩) (Kd.R_types HO271.out BK287.out (by decide)) (fun _ hk => hk.2) (.string t267)) (fun _ hk => hk.2) (.int .i64 t268)) (fun _ hk => hk.2) (.slice Ao74 t269.length co74)) (fun _ hk => hk.2) (.slice Ao75 t272.length co75)) (fun _ hk => hk.2) (.slice Ao76 t275.length co76)) (fun _ hk => hk.2) (.slice Ao77 t278.length co77)) (fun _ hk => hk.2) (.slice Ao78 t281.length co78)) (fun _ hk => hk.2) (.slice Ao79 t284.length co79)) (fun _ h_ => h_.1))) hb); replace HO274 := am (Kd.R_below (by (with_reducible repeat (first | apply Kd.R_alloc | apply Kd.R_drewN | apply Kd.R_drew)); exact (Kd.R_mono (Kd.R_far (p := ⟨gb287, 7, none⟩) (Kd.R_far (p := ⟨gb287, 6, none⟩) (Kd.R_far (p := ⟨gb287, 5, none⟩) (Kd.R_far (p := ⟨gb287, 4, none⟩) (Kd.R_far (p := ⟨gb287, 3, none⟩) (Kd.R_far (p := ⟨gb287, 2, none⟩) (Kd.R_far (p := ⟨gb287, 1, none⟩) (Kd.R_far (p := ⟨gb287, 0, none⟩) (Kd.R_types HO274.out BK287.out (by decide)) (fun _ hk => hk.2) (.string t267)) (fun _ hk => hk.2) (.int .i64 t268)) (fun _ hk => hk.2) (.slice Ao74 t269.length co74)) (fun _ hk => hk.2) (.slice Ao75 t272.length co75)) (fun _ hk => hk.2) (.slice Ao76 t275.length co76)) (fun _ hk => hk.2) (.slice Ao77 t278.length co77)) (fun _ hk => hk.2) (.slice Ao78 t281.length co78)) (fun _ hk => hk.2) (.slice Ao79 t284.length co79)) (fun _ h_ => h_.1))) hb); replace HO277 := am (Kd.R_below (by (with_reducible repeat (first | apply Kd.R_alloc | apply Kd.R_drewN | apply Kd.R_drew)); exact (Kd.R_mono (Kd.R_far (p := ⟨gb287, 7, none⟩) (Kd.R_far (p := ⟨gb287, 6, none⟩) (Kd.R_far (p := ⟨gb287, 5, none⟩) (Kd.R_far (p := ⟨gb287, 4, none⟩) (Kd.R_far (p := ⟨gb287, 3, none⟩) (Kd.R_far (p := ⟨gb287, 2, none⟩) (Kd.R_far (p := ⟨gb287, 1, none⟩) (Kd.R_far (p := ⟨gb287, 0, none⟩) (Kd.R_types HO277.out BK287.out (by decide)) (fun _ hk => hk.2) (.string t267)) (fun _ hk => hk.2) (.int .i64 t268)) (fun _ hk => hk.2) (.slice Ao74 t269.length co74)) (fun _ hk => hk.2) (.slice Ao75 t272.length co75)) (fun _ hk => hk.2) (.slice Ao76 t275.length co76)) (fun _ hk => hk.2) (.slice Ao77 t278.length co77)) (fun _ hk => hk.2) (.slice Ao78 t281.length co78)) (fun _ hk => hk.2) (.slice Ao79 t284.length co79)) (fun _ h_ => h_.1))) hb); replace HO280 := am (Kd.R_below (by (with_reducible repeat (first | apply Kd.R_alloc | apply Kd.R_drewN | apply Kd.R_drew)); exact (Kd.R_mono (Kd.R_far (p := ⟨gb287, 7, none⟩) (Kd.R_far (p := ⟨gb287, 6, none⟩) (Kd.R_far (p := ⟨gb287, 5, none⟩) (Kd.R_far (p := ⟨gb287, 4, none⟩) (Kd.R_far (p := ⟨gb287, 3, none⟩) (Kd.R_far (p := ⟨gb287, 2, none⟩) (Kd.R_far (p := ⟨gb287, 1, none⟩) (Kd.R_far (p := ⟨gb287, 0, none⟩) (Kd.R_types HO280.out BK287.out (by decide)) (fun _ hk => hk.2) (.string t267)) (fun _ hk => hk.2) (.int .i64 t268)) (fun _ hk => hk.2) (.slice Ao74 t269.length co74)) (fun _ hk => hk.2) (.slice Ao75 t272.length co75)) (fun _ hk => hk.2) (.slice Ao76 t275.length co76)) (fun _ hk => hk.2) (.slice Ao77 t278.length co77)) (fun _ hk => hk.2) (.slice Ao78 t281.length co78)) (fun _ hk => hk.2) (.slice Ao79 t284.length co79)) (fun _ h_ => h_.1))) hb); replace HO283 := am (Kd.R_below (by (with_reducible repeat (first | apply Kd.R_alloc | apply Kd.R_drewN | apply Kd.R_drew)); exact (Kd.R_mono (Kd.R_far (p := ⟨gb287, 7, none⟩) (Kd.R_far (p := ⟨gb287, 6, none⟩) (Kd.R_far (p := ⟨gb287, 5, none⟩) (Kd.R_far (p := ⟨gb287, 4, none⟩) (Kd.R_far (p := ⟨gb287, 3, none⟩) (Kd.R_far (p := ⟨gb287, 2, none⟩) (Kd.R_far (p := ⟨gb287, 1, none⟩) (Kd.R_far (p := ⟨gb287, 0, none⟩) (Kd.R_types HO283.out BK287.out (by decide)) (fun _ hk => hk.2) (.string t267)) (fun _ hk => hk.2) (.int .i64 t268)) (fun _ hk => hk.2) (.slice Ao74 t269.length co74)) (fun _ hk => hk.2) (.slice Ao75 t272.length co75)) (fun _ hk => hk.2) (.slice Ao76 t275.length co76)) (fun _ hk => hk.2) (.slice Ao77 t278.length co77)) (fun _ hk => hk.2) (.slice Ao78 t281.length co78)) (fun _ hk => hk.2) (.slice Ao79 t284.length co79)) (fun _ h_ => h_.1))) hb); replace HO286 := am (Kd.R_below (by (with_reducible repeat (first | apply Kd.R_alloc | apply Kd.R_drewN | apply Kd.R_drew)); exact (Kd.R_mono (Kd.R_far (p := ⟨gb287, 7, none⟩) (Kd.R_far (p := ⟨gb287, 6, none⟩) (Kd.R_far (p := ⟨gb287, 5, none⟩) (Kd.R_far (p := ⟨gb287, 4, none⟩) (Kd.R_far (p := ⟨gb287, 3, none⟩) (Kd.R_far (p := ⟨gb287, 2, none⟩) (Kd.R_far (p := ⟨gb287, 1, none⟩) (Kd.R_far (p := ⟨gb287, 0, none⟩) (Kd.R_types HO286.out BK287.out (by decide)) (fun _ hk => hk.2) (.string t267)) (fun _ hk => hk.2) (.int .i64 t268)) (fun _ hk => hk.2) (.slice Ao74 t269.length co74)) (fun _ hk => hk.2) (.slice Ao75 t272.length co75)) (fun _ hk => hk.2) (.slice Ao76 t275.length co76)) (fun _ hk => hk.2) (.slice Ao77 t278.length co77)) (fun _ hk => hk.2) (.slice Ao78 t281.length co78)) (fun _ hk => hk.2) (.slice Ao79 t284.length co79)) (fun _ h_ => h_.1))) hb); replace BK201 := am (blk_below (g := gb201) (o := .cells #[.string a0_0, .int .i64 a0_1, .slice A0_2 l0_2.length c0_2, .slice A0_3 l0_3.length c0_3, .slice A0_4 l0_4.length c0_4, .slice A0_5 l0_5.length c0_5, .slice A0_6 l0_6.length c0_6, .slice A0_7 l0_7.length c0_7] 35 (0, 0)) (bf BK201.out NB201_287.out) hb); replace BK202 := am (blk_below (g := gb202) (o := .cells #[.string a1_0, .int .i64 a1_1, .slice A1_2 l1_2.length c1_2, .slice A1_3 l1_3.length c1_3, .slice A1_4 l1_4.length c1_4, .slice A1_5 l1_5.length c1_5, .slice A1_6 l1_6.length c1_6, .slice A1_7 l1_7.length c1_7] 35 (0, 0)) (bf BK202.out NB202_287.out) hb); replace BK266 := am (blk_below (g := gb266) (o := .cells #[.string t246, .int .i64 t247, .slice Ao61 t248.length co61, .slice Ao62 t251.length co62, .slice Ao63 t254.length co63, .slice Ao64 t257.length co64, .slice Ao65 t260.length co65, .slice Ao66 t263.length co66] 41 (0, 0)) (bf BK266.out NB266_287.out) hb); replace BK287 := am (blk_below (g := gb287) (o := .cells #[.string t267, .int .i64 t268, .slice Ao74 t269.length co74, .slice Ao75 t272.length co75, .slice Ao76 t275.length co76, .slice Ao77 t278.length co77, .slice Ao78 t281.length co78, .slice Ao79 t284.length co79] 41 (0, 0)) (bp BK287.out) hb); replace HB := am (below_step bl hb); clear hb))
 have n0_ := am (Kd.R_drew HO209.out)
 have n1_ := am (Kd.R_drew HO212.out)
 have n2_ := am (Kd.R_drew HO215.out)
 have n3_ := am (Kd.R_drew HO218.out)
 have n4_ := am (Kd.R_drew HO221.out)
 have n5_ := am (Kd.R_drew HO224.out)
 have n6_ := am (Kd.R_drew HO229.out)
 have n7_ := am (Kd.R_drew HO232.out)
 have n8_ := am (Kd.R_drew HO235.out)
 have n9_ := am (Kd.R_drew HO238.out)
 have n10_ := am (Kd.R_drew HO241.out)
 have n11_ := am (Kd.R_drew HO244.out)
 have n12_ := am (Kd.R_drew HO250.out)
 have n13_ := am (Kd.R_drew HO253.out)
 have n14_ := am (Kd.R_drew HO256.out)
 have n15_ := am (Kd.R_drew HO259.out)
 have n16_ := am (Kd.R_drew HO262.out)
 have n17_ := am (Kd.R_drew HO265.out)
 have n18_ := am (Kd.R_drew HO271.out)
 have n19_ := am (Kd.R_drew HO274.out)
 have n20_ := am (Kd.R_drew HO277.out)
 have n21_ := am (Kd.R_drew HO280.out)
 have n22_ := am (Kd.R_drew HO283.out)
 have n23_ := am (Kd.R_drew HO286.out)
 have n24_ := am (blk_drew BK201.out)
 have n25_ := am (blk_drew BK202.out)
 have n26_ := am (blk_drew BK266.out)
 have n27_ := am (blk_drew BK287.out)
 have n28_ := am (below_drew1 HB.out)
 clear HO209
 clear HO212
 clear HO215
 clear HO218
 clear HO221
 clear HO224
 clear HO229
 clear HO232
 clear HO235
 clear HO238
 clear HO241
 clear HO244
 clear HO250
 clear HO253
 clear HO256
 clear HO259
 clear HO262
 clear HO265
 clear HO271
 clear HO274
 clear HO277
 clear HO280
 clear HO283
 clear HO286
 clear BK201
 clear BK202
 clear BK266
 clear BK287
 clear HB
 have HO209 := n0_
 have HO212 := n1_
 have HO215 := n2_
 have HO218 := n3_
 have HO221 := n4_
 have HO224 := n5_
 have HO229 := n6_
 have HO232 := n7_
 have HO235 := n8_
 have HO238 := n9_
 have HO241 := n10_
 have HO244 := n11_
 have HO250 := n12_
 have HO253 := n13_
 have HO256 := n14_
 have HO259 := n15_
 have HO262 := n16_
 have HO265 := n17_
 have HO271 := n18_
 have HO274 := n19_
 have HO277 := n20_
 have HO280 := n21_
 have HO283 := n22_
 have HO286 := n23_
 have BK201 := n24_
 have BK202 := n25_
 have BK266 := n26_
 have BK287 := n27_
 have HB := n28_
 clear n0_ n1_ n2_ n3_ n4_ n5_ n6_ n7_ n8_ n9_ n10_ n11_ n12_ n13_ n14_ n15_ n16_ n17_ n18_ n19_ n20_ n21_ n22_ n23_ n24_ n25_ n26_ n27_ n28_
 refine start_ (n := 5) (S := fun w' => w'.cell? ⟨gb266, 0, none⟩ = some (.string t246) ∧ w'.cell? ⟨gb266, 1, none⟩ = some (.int .i64 t247) ∧ w'.cell? ⟨gb266, 2, none⟩ = some (.slice Ao61 t248.length co61) ∧ w'.cell? ⟨gb266, 3, none⟩ = some (.slice Ao62 t251.length co62) ∧ w'.cell? ⟨gb266, 4, none⟩ = some (.slice Ao63 t254.length co63) ∧ w'.cell? ⟨gb266, 5, none⟩ = some (.slice Ao64 t257.length co64) ∧ w'.cell? ⟨gb266, 6, none⟩ = some (.slice Ao65 t260.length co65) ∧ w'.cell? ⟨gb266, 7, none⟩ = some (.slice Ao66 t263.length co66) ∧ w'.cell? ⟨gb201, 0, none⟩ = some (.string a0_0) ∧ w'.cell? ⟨gb201, 1, none⟩ = some (.int .i64 a0_1) ∧ w'.cell? ⟨gb201, 2, none⟩ = some (.slice A0_2 l0_2.length c0_2) ∧ w'.cell? ⟨gb201, 3, none⟩ = some (.slice A0_3 l0_3.length c0_3) ∧ w'.cell? ⟨gb201, 4, none⟩ = some (.slice A0_4 l0_4.length c0_4) ∧ w'.cell? ⟨gb201, 5, none⟩ = some (.slice A0_5 l0_5.length c0_5) ∧ w'.cell? ⟨gb201, 6, none⟩ = some (.slice A0_6 l0_6.length c0_6) ∧ w'.cell? ⟨gb201, 7, none⟩ = some (.slice A0_7 l0_7.length c0_7)) (ds := []) #[F_, F_, F_, F_, F_] (by kernel_rfl) rfl rfl ⟨(blk_cell BK266.out 0).trans rfl, (blk_cell BK266.out 1).trans rfl, (blk_cell BK266.out 2).trans rfl, (blk_cell BK266.out 3).trans rfl, (blk_cell BK266.out 4).trans rfl, (blk_cell BK266.out 5).trans rfl, (blk_cell BK266.out 6).trans rfl, (blk_cell BK266.out 7).trans rfl, (blk_cell BK201.out 0).trans rfl, (blk_cell BK201.out 1).trans rfl, (blk_cell BK201.out 2).trans rfl, (blk_cell BK201.out 3).trans rfl, (blk_cell BK201.out 4).trans rfl, (blk_cell BK201.out 5).trans rfl, (blk_cell BK201.out 6).trans rfl, (blk_cell BK201.out 7).trans rfl⟩ (fun hHeld => ?_)
 generalize w81.drew = w82 at HO209 HO212 HO215 HO218 HO221 HO224 HO229 HO232 HO235 HO238 HO241 HO244 HO250 HO253 HO256 HO259 HO262 HO265 HO271 HO274 HO277 HO280 HO283 HO286 BK201 BK202 BK266 BK287 HB hHeld ⊢
 refine tv16 0 35 hHeld ?_
 refine tv16 1 36 hHeld ?_
 refine ov 2 37 (fun K hK => ?_)
 refine gk Try.func20 (laws_toProduct.calls _ _ _ _ _ _ _ _ _ _ _ _ _ _ _ _ _ _ _ _ _ _ _ _ _ _ _ _ _ _ ?side1 ?side2 ?side3 ?side4 ?side5 ?side6 ?side7 ?side8 ?side9 ?side10 ?side11 ?side12 A26.out) ?_
 (case side1 => exact cb HR0_2.out)
 (case side2 => exact HC0_2.out)
 (case side3 => exact cb HR0_3.out)
 (case side4 => exact HC0_3.out)
 (case side5 => exact cb HR0_4.out)
 (case side6 => exact HC0_4.out)
 (case side7 => exact cb HR0_5.out)
 (case side8 => exact HC0_5.out)
 (case side9 => exact cb HR0_6.out)
 (case side10 => exact HC0_6.out)
 (case side11 => exact cb HR0_7.out)
 (case side12 => exact HC0_7.out)
 rintro e w83 ⟨v292, v295, v298, v301, v304, v307, rfl, ho0, ho1, ho2, ho3, ho4, ho5, hb⟩
 refine ⟨_, rfl, ?_⟩
 have n0_ := am (Kd.R_mono (Kd.R_told (Kd.R_told (Kd.R_old (kr HO209.out) hb) (Kd.R_base ho0)) (Kd.R_base ho1)) (fun _ h_ => h_.1))
 have n1_ := am (Kd.R_mono (Kd.R_told (Kd.R_told (Kd.R_old (kr HO212.out) hb) (Kd.R_base ho0)) (Kd.R_base ho1)) (fun _ h_ => h_.1))
 have n2_ := am (Kd.R_elder' (kr HO215.out) (Kd.R_base ho2) hb)
 have n3_ := am (Kd.R_mono (Kd.R_told (Kd.R_told (Kd.R_told (Kd.R_old (kr HO218.out) hb) (Kd.R_base ho3)) (Kd.R_base ho4)) (Kd.R_base ho5)) (fun _ h_ => h_.1))
 have n4_ := am (Kd.R_mono (Kd.R_told (Kd.R_told (Kd.R_told (Kd.R_old (kr HO221.out) hb) (Kd.R_base ho3)) (Kd.R_base ho4)) (Kd.R_base ho5)) (fun _ h_ => h_.1))
 have n5_ := am (Kd.R_mono (Kd.R_told (Kd.R_told (Kd.R_told (Kd.R_old (kr HO224.out) hb) (Kd.R_base ho3)) (Kd.R_base ho4)) (Kd.R_base ho5)) (fun _ h_ => h_.1))
 have n6_ := am (Kd.R_mono (Kd.R_told (Kd.R_told (Kd.R_old (kr HO229.out) hb) (Kd.R_base ho0)) (Kd.R_base ho1)) (fun _ h_ => h_.1))
 have n7_ := am (Kd.R_mono (Kd.R_told (Kd.R_told (Kd.R_old (kr HO232.out) hb) (Kd.R_base ho0)) (Kd.R_base ho1)) (fun _ h_ => h_.1))
 have n8_ := am (Kd.R_elder' (kr HO235.out) (Kd.R_base ho2) hb)
 have n9_ := am (Kd.R_mono (Kd.R_told (Kd.R_told (Kd.R_told (Kd.R_old (kr HO238.out) hb) (Kd.R_base ho3)) (Kd.R_base ho4)) (Kd.R_base ho5)) (fun _ h_ => h_.1))
 have n10_ := am (Kd.R_mono (Kd.R_told (Kd.R_told (Kd.R_told (Kd.R_old (kr HO241.out) hb) (Kd.R_base ho3)) (Kd.R_base ho4)) (Kd.R_base ho5)) (fun _ h_ => h_.1))
 have n11_ := am (Kd.R_mono (Kd.R_told (Kd.R_told (Kd.R_told (Kd.R_old (kr HO244.out) hb) (Kd.R_base ho3)) (Kd.R_base ho4)) (Kd.R_base ho5)) (fun _ h_ => h_.1))
 have n12_ := am (Kd.R_mono (Kd.R_told (Kd.R_told (Kd.R_old (kr HO250.out) hb) (Kd.R_base ho0)) (Kd.R_base ho1)) (fun _ h_ => h_.1))
 have n13_ := am (Kd.R_mono (Kd.R_told (Kd.R_told (Kd.R_old (kr HO253.out) hb) (Kd.R_base ho0)) (Kd.R_base ho1)) (fun _ h_ => h_.1))
 have n14_ := am (Kd.R_elder' (kr HO256.out) (Kd.R_base ho2) hb)
 have n15_ := am (Kd.R_mono (Kd.R_told (Kd.R_told (Kd.R_told (Kd.R_old (kr HO259.out) hb) (Kd.R_base ho3)) (Kd.R_base ho4)) (Kd.R_base ho5)) (fun _ h_ => h_.1))
 have n16_ := am (Kd.R_mono (Kd.R_told (Kd.R_told (Kd.R_told (Kd.R_old (kr HO262.out) hb) (Kd.R_base ho3)) (Kd.R_base ho4)) (Kd.R_base ho5)) (fun _ h_ => h_.1))
 have n17_ := am (Kd.R_mono (Kd.R_told (Kd.R_told (Kd.R_told (Kd.R_old (kr HO265.out) hb) (Kd.R_base ho3)) (Kd.R_base ho4)) (Kd.R_base ho5)) (fun _ h_ => h_.1))
 have n18_ := am (Kd.R_mono (Kd.R_told (Kd.R_told (Kd.R_old (kr HO271.out) hb) (Kd.R_base ho0)) (Kd.R_base ho1)) (fun _ h_ => h_.1))
 have n19_ := am (Kd.R_mono (Kd.R_told (Kd.R_told (Kd.R_old (kr HO274.out) hb) (Kd.R_base ho0)) (Kd.R_base ho1)) (fun _ h_ => h_.1))
 have n20_ := am (Kd.R_elder' (kr HO277.out) (Kd.R_base ho2) hb)
 have n21_ := am (Kd.R_mono (Kd.R_told (Kd.R_told (Kd.R_told (Kd.R_old (kr HO280.out) hb) (Kd.R_base ho3)) (Kd.R_base ho4)) (Kd.R_base ho5)) (fun _ h_ => h_.1))
 have n22_ := am (Kd.R_mono (Kd.R_told (Kd.R_told (Kd.R_told (Kd.R_old (kr HO283.out) hb) (Kd.R_base ho3)) (Kd.R_base ho4)) (Kd.R_base ho5)) (fun _ h_ => h_.1))
 have n23_ := am (Kd.R_mono (Kd.R_told (Kd.R_told (Kd.R_told (Kd.R_old (kr HO286.out) hb) (Kd.R_base ho3)) (Kd.R_base ho4)) (Kd.R_base ho5)) (fun _ h_ => h_.1))
 have n24_ := am (Kd.R_lower (Kd.R_new' (Kd.R_new' (Kd.R_new' (Kd.R_new' (Kd.R_new' (Kd.R_new' (Kd.R_new' (Kd.R_new' ho0 (Kd.R_lt (kr HO209.out))) (Kd.R_lt (kr HO212.out))) (Kd.R_lt (kr HO229.out))) (Kd.R_lt (kr HO232.out))) (Kd.R_lt (kr HO250.out))) (Kd.R_lt (kr HO253.out))) (Kd.R_lt (kr HO271.out))) (Kd.R_lt (kr HO274.out))) (below_size bl))
 have n25_ := am (Kd.R_lower (Kd.R_new' (Kd.R_new' (Kd.R_new' (Kd.R_new' (Kd.R_new' (Kd.R_new' (Kd.R_new' (Kd.R_new' ho1 (Kd.R_lt (kr HO209.out))) (Kd.R_lt (kr HO212.out))) (Kd.R_lt (kr HO229.out))) (Kd.R_lt (kr HO232.out))) (Kd.R_lt (kr HO250.out))) (Kd.R_lt (kr HO253.out))) (Kd.R_lt (kr HO271.out))) (Kd.R_lt (kr HO274.out))) (below_size bl))
 have n26_ := am (Kd.R_lower (Kd.R_new' (Kd.R_new' (Kd.R_new' (Kd.R_new' ho2 (Kd.R_lt (kr HO215.out))) (Kd.R_lt (kr HO235.out))) (Kd.R_lt (kr HO256.out))) (Kd.R_lt (kr HO277.out))) (below_size bl))
 have n27_ := am (Kd.R_lower (Kd.R_new' (Kd.R_new' (Kd.R_new' (Kd.R_new' (Kd.R_new' (Kd.R_new' (Kd.R_new' (Kd.R_new' (Kd.R_new' (Kd.R_new' (Kd.R_new' (Kd.R_new' ho3 (Kd.R_lt (kr HO218.out))) (Kd.R_lt (kr HO221.out))) (Kd.R_lt (kr HO224.out))) (Kd.R_lt (kr HO238.out))) (Kd.R_lt (kr HO241.out))) (Kd.R_lt (kr HO244.out))) (Kd.R_lt (kr HO259.out))) (Kd.R_lt (kr HO262.out))) (Kd.R_lt (kr HO265.out))) (Kd.R_lt (kr HO280.out))) (Kd.R_lt (kr HO283.out))) (Kd.R_lt (kr HO286.out))) (below_size bl))
 have n28_ := am (Kd.R_lower (Kd.R_new' (Kd.R_new' (Kd.R_new' (Kd.R_new' (Kd.R_new' (Kd.R_new' (Kd.R_new' (Kd.R_new' (Kd.R_new' (Kd.R_new' (Kd.R_new' (Kd.R_new' ho4 (Kd.R_lt (kr HO218.out))) (Kd.R_lt (kr HO221.out))) (Kd.R_lt (kr HO224.out))) (Kd.R_lt (kr HO238.out))) (Kd.R_lt (kr HO241.out))) (Kd.R_lt (kr HO244.out))) (Kd.R_lt (kr HO259.out))) (Kd.R_lt (kr HO262.out))) (Kd.R_lt (kr HO265.out))) (Kd.R_lt (kr HO280.out))) (Kd.R_lt (kr HO283.out))) (Kd.R_lt (kr HO286.out))) (below_size bl))
 have n29_ := am (Kd.R_lower (Kd.R_new' (Kd.R_new' (Kd.R_new' (Kd.R_new' (Kd.R_new' (Kd.R_new' (Kd.R_new' (Kd.R_new' (Kd.R_new' (Kd.R_new' (Kd.R_new' (Kd.R_new' ho5 (Kd.R_lt (kr HO218.out))) (Kd.R_lt (kr HO221.out))) (Kd.R_lt (kr HO224.out))) (Kd.R_lt (kr HO238.out))) (Kd.R_lt (kr HO241.out))) (Kd.R_lt (kr HO244.out))) (Kd.R_lt (kr HO259.out))) (Kd.R_lt (kr HO262.out))) (Kd.R_lt (kr HO265.out))) (Kd.R_lt (kr HO280.out))) (Kd.R_lt (kr HO283.out))) (Kd.R_lt (kr HO286.out))) (below_size bl))
 have n30_ := am (bkb BK201.out hb)
 have n31_ := am (bkb BK202.out hb)
 have n32_ := am (bkb BK266.out hb)
 have n33_ := am (bkb BK287.out hb)
 have n34_ := am (below_step bl hb)
 clear HO209
 clear HO212
 clear HO215
 clear HO218
 clear HO221
 clear HO224
 clear HO229
 clear HO232
 clear HO235
 clear HO238
 clear HO241
 clear HO244
 clear HO250
 clear HO253
 clear HO256
 clear HO259
 clear HO262
 clear HO265
 clear HO271
 clear HO274
 clear HO277
 clear HO280
 clear HO283
 clear HO286
 clear BK201
 clear BK202
 clear BK266
 clear BK287
 clear HB
 have HO209 := n0_
 have HO212 := n1_
 have HO215 := n2_
 have HO218 := n3_
 have HO221 := n4_
 have HO224 := n5_
 have HO229 := n6_
 have HO232 := n7_
 have HO235 := n8_
 have HO238 := n9_
 have HO241 := n10_
 have HO244 := n11_
 have HO250 := n12_
 have HO253 := n13_
 have HO256 := n14_
 have HO259 := n15_
 have HO262 := n16_
 have HO265 := n17_
 have HO271 := n18_
 have HO274 := n19_
 have HO277 := n20_
 have HO280 := n21_
 have HO283 := n22_
 have HO286 := n23_
 have HO293 := n24_
 have HO296 := n25_
 have HO299 := n26_
 have HO302 := n27_
 have HO305 := n28_
 have HO308 := n29_
 have BK201 := n30_
 have BK202 := n31_
 have BK266 := n32_
 have BK287 := n33_
 have HB := n34_
 clear n0_ n1_ n2_ n3_ n4_ n5_ n6_ n7_ n8_ n9_ n10_ n11_ n12_ n13_ n14_ n15_ n16_ n17_ n18_ n19_ n20_ n21_ n22_ n23_ n24_ n25_ n26_ n27_ n28_ n29_ n30_ n31_ n32_ n33_ n34_
 skip
 skip
 skip
 skip
 skip
 skip
 skip
 skip
 skip
 skip
 obtain ⟨Ao84, co84, eo84⟩ := Kd.R_slice HO293.out
 (first | subst eo84 | (injection eo84 with f1_ f2_ f3_; have f4_ := f1_.symm; have f5_ := f3_.symm; clear f1_ f2_ f3_; subst f4_; subst f5_))
 obtain ⟨Ao85, co85, eo85⟩ := Kd.R_slice HO296.out
 (first | subst eo85 | (injection eo85 with f1_ f2_ f3_; have f4_ := f1_.symm; have f5_ := f3_.symm; clear f1_ f2_ f3_; subst f4_; subst f5_))
 obtain ⟨Ao86, co86, eo86⟩ := Kd.R_slice HO299.out
 (first | subst eo86 | (injection eo86 with f1_ f2_ f3_; have f4_ := f1_.symm; have f5_ := f3_.symm; clear f1_ f2_ f3_; subst f4_; subst f5_))
 obtain ⟨Ao87, co87, eo87⟩ := Kd.R_slice HO302.out
 (first | subst eo87 | (injection eo87 with f1_ f2_ f3_; have f4_ := f1_.symm; have f5_ := f3_.symm; clear f1_ f2_ f3_; subst f4_; subst f5_))
 obtain ⟨Ao88, co88, eo88⟩ := Kd.R_slice HO305.out
 (first | subst eo88 | (injection eo88 with f1_ f2_ f3_; have f4_ := f1_.symm; have f5_ := f3_.symm; clear f1_ f2_ f3_; subst f4_; subst f5_))
 obtain ⟨Ao89, co89, eo89⟩ := Kd.R_slice HO308.out
 (first | subst eo89 | (injection eo89 with f1_ f2_ f3_; have f4_ := f1_.symm; have f5_ := f3_.symm; clear f1_ f2_ f3_; subst f4_; subst f5_))
 refine hK.out _ _ ⟨(blk_cell BK266.out 0).trans rfl, (blk_cell BK266.out 1).trans rfl, (blk_cell BK266.out 2).trans rfl, (blk_cell BK266.out 3).trans rfl, (blk_cell BK266.out 4).trans rfl, (blk_cell BK266.out 5).trans rfl, (blk_cell BK266.out 6).trans rfl, (blk_cell BK266.out 7).trans rfl, (blk_cell BK201.out 0).trans rfl, (blk_cell BK201.out 1).trans rfl, (blk_cell BK201.out 2).trans rfl, (blk_cell BK201.out 3).trans rfl, (blk_cell BK201.out 4).trans rfl, (blk_cell BK201.out 5).trans rfl, (blk_cell BK201.out 6).trans rfl, (blk_cell BK201.out 7).trans rfl⟩ (fun hHeld => ?_)
 clear hK K
 refine norm_ (a' := ?_) ?_ ?_
 rotate_left
 ·show Act.put _ (some 37) _ = _
  simp only [Act.put, z1, z2, z3, i64_w, i32_w]
  rfl
 refine ov 3 38 (fun K hK => ?_)
 refine gk Try.func22 (laws_eqProduct.calls _ _ _ _ _ _ _ _ _ _ _ _ _ _ _ _ _ _ _ _ _ _ _ _ _ _ _ _ _ _ _ _ _ _ _ _ _ _ _ _ _ _ _ ?side1 ?side2 ?side3 ?side4 ?side5 ?side6 ?side7 ?side8 ?side9 ?side10 ?side11 ?side12 ?side13 ?side14 ?side15 ?side16 ?side17 ?side18 ?side19 ?side20 ?side21 ?side22 ?side23 ?side24 A27.out) ?_
 (case side1 => exact cc (Kd.R_reads' HO250.out).2.2)
 (case side2 => exact (Kd.R_reads' HO250.out).2.1)
 (case side3 => exact cc (Kd.R_reads' HO253.out).2.2)
 (case side4 => exact (Kd.R_reads' HO253.out).2.1)
 (case side5 => exact cc (Kd.R_reads' HO256.out).2.2)
 (case side6 => exact (Kd.R_reads' HO256.out).2.1)
 (case side7 => exact cc (Kd.R_reads' HO259.out).2.2)
 (case side8 => exact (Kd.R_reads' HO259.out).2.1)
 (case side9 => exact cc (Kd.R_reads' HO262.out).2.2)
 (case side10 => exact (Kd.R_reads' HO262.out).2.1)
 (case side11 => exact cc (Kd.R_reads' HO265.out).2.2)
 (case side12 => exact (Kd.R_reads' HO265.out).2.1)
 (case side13 => exact cc (Kd.R_reads' HO293.out).2.2)
 (case side14 => exact (Kd.R_reads' HO293.out).2.1)
 (case side15 => exact cc (Kd.R_reads' HO296.out).2.2)
 (case side16 => exact (Kd.R_reads' HO296.out).2.1)
 (case side17 => exact cc (Kd.R_reads' HO299.out).2.2)
 (case side18 => exact (Kd.R_reads' HO299.out).2.1)
 (case side19 => exact cc (Kd.R_reads' HO302.out).2.2)
 (case side20 => exact (Kd.R_reads' HO302.out).2.1)
 (case side21 => exact cc (Kd.R_reads' HO305.out).2.2)
 (case side22 => exact (Kd.R_reads' HO305.out).2.1)
 (case side23 => exact cc (Kd.R_reads' HO308.out).2.2)
 (case side24 => exact (Kd.R_reads' HO308.out).2.1)
 rintro e w90 ⟨rfl, hb⟩
 refine ⟨_, rfl, ?_⟩
 have n0_ := am (rb HO209.out hb)
 have n1_ := am (rb HO212.out hb)
 have n2_ := am (rb HO215.out hb)
 have n3_ := am (rb HO218.out hb)
 have n4_ := am (rb HO221.out hb)
 have n5_ := am (rb HO224.out hb)
 have n6_ := am (rb HO229.out hb)
 have n7_ := am (rb HO232.out hb)
 have n8_ := am (rb HO235.out hb)
 have n9_ := am (rb HO238.out hb)
 have n10_ := am (rb HO241.out hb)
 have n11_ := am (rb HO244.out hb)
 have n12_ := am (rb HO250.out hb)
 have n13_ := am (rb HO253.out hb)
 have n14_ := am (rb HO256.out hb)
 have n15_ := am (rb HO259.out hb)
 have n16_ := am (rb HO262.out hb)
 have n17_ := am (rb HO265.out hb)
 have n18_ := am (rb HO271.out hb)
 have n19_ := am (rb HO274.out hb)
 have n20_ := am (rb HO277.out hb)
 have n21_ := am (rb HO280.out hb)
 have n22_ := am (rb HO283.out hb)
 have n23_ := am (rb HO286.out hb)
 have n24_ := am (rb HO293.out hb)
 have n25_ := am (rb HO296.out hb)
 have n26_ := am (rb HO299.out hb)
 have n27_ := am (rb HO302.out hb)
 have n28_ := am (rb HO305.out hb)
 have n29_ := am (rb HO308.out hb)
 have n30_ := am (bkb BK201.out hb)
 have n31_ := am (bkb BK202.out hb)
 have n32_ := am (bkb BK266.out hb)
 have n33_ := am (bkb BK287.out hb)
 have n34_ := am (below_step bl hb)
 clear HO209
 clear HO212
 clear HO215
 clear HO218
 clear HO221
 clear HO224
 clear HO229
 clear HO232
 clear HO235
 clear HO238
 clear HO241
 clear HO244
 clear HO250
 clear HO253
 clear HO256
 clear HO259
 clear HO262
 clear HO265
 clear HO271
 clear HO274
 clear HO277
 clear HO280
 clear HO283
 clear HO286
 clear HO293
 clear HO296
 clear HO299
 clear HO302
 clear HO305
 clear HO308
 clear BK201
 clear BK202
 clear BK266
 clear BK287
 clear HB
 have HO209 := n0_
 have HO212 := n1_
 have HO215 := n2_
 have HO218 := n3_
 have HO221 := n4_
 have HO224 := n5_
 have HO229 := n6_
 have HO232 := n7_
 have HO235 := n8_
 have HO238 := n9_
 have HO241 := n10_
 have HO244 := n11_
 have HO250 := n12_
 have HO253 := n13_
 have HO256 := n14_
 have HO259 := n15_
 have HO262 := n16_
 have HO265 := n17_
 have HO271 := n18_
 have HO274 := n19_
 have HO277 := n20_
 have HO280 := n21_
 have HO283 := n22_
 have HO286 := n23_
 have HO293 := n24_
 have HO296 := n25_
 have HO299 := n26_
 have HO302 := n27_
 have HO305 := n28_
 have HO308 := n29_
 have BK201 := n30_
 have BK202 := n31_
 have BK266 := n32_
 have BK287 := n33_
 have HB := n34_
 clear n0_ n1_ n2_ n3_ n4_ n5_ n6_ n7_ n8_ n9_ n10_ n11_ n12_ n13_ n14_ n15_ n16_ n17_ n18_ n19_ n20_ n21_ n22_ n23_ n24_ n25_ n26_ n27_ n28_ n29_ n30_ n31_ n32_ n33_ n34_
 skip
 skip
 skip
 skip
 refine hK.out _ _ ⟨(blk_cell BK266.out 0).trans rfl, (blk_cell BK266.out 1).trans rfl, (blk_cell BK266.out 2).trans rfl, (blk_cell BK266.out 3).trans rfl, (blk_cell BK266.out 4).trans rfl, (blk_cell BK266.out 5).trans rfl, (blk_cell BK266.out 6).trans rfl, (blk_cell BK266.out 7).trans rfl, (blk_cell BK201.out 0).trans rfl, (blk_cell BK201.out 1).trans rfl, (blk_cell BK201.out 2).trans rfl, (blk_cell BK201.out 3).trans rfl, (blk_cell BK201.out 4).trans rfl, (blk_cell BK201.out 5).trans rfl, (blk_cell BK201.out 6).trans rfl, (blk_cell BK201.out 7).trans rfl⟩ (fun hHeld => ?_)
 clear hK K
 refine norm_ (a' := ?_) ?_ ?_
 rotate_left
 ·show Act.put _ (some 38) _ = _
  simp only [Act.put, z1, z2, z3, i64_w, i32_w]
  rfl
 refine pv 4 39 ?_
 refine done_ (by kernel_rfl) ?_
 try go_wp2
 have n0_ := am (Kd.R_drew HO209.out)
 have n1_ := am (Kd.R_drew HO212.out)
 have n2_ := am (Kd.R_drew HO215.out)
 have n3_ := am (Kd.R_drew HO218.out)
 have n4_ := am (Kd.R_drew HO221.out)
 have n5_ := am (Kd.R_drew HO224.out)
 have n6_ := am (Kd.R_drew HO229.out)
 have n7_ := am (Kd.R_drew HO232.out)
 have n8_ := am (Kd.R_drew HO235.out)
 have n9_ := am (Kd.R_drew HO238.out)
 have n10_ := am (Kd.R_drew HO241.out)
 have n11_ := am (Kd.R_drew HO244.out)
 have n12_ := am (Kd.R_drew HO250.out)
 have n13_ := am (Kd.R_drew HO253.out)
 have n14_ := am (Kd.R_drew HO256.out)
 have n15_ := am (Kd.R_drew HO259.out)
 have n16_ := am (Kd.R_drew HO262.out)
 have n17_ := am (Kd.R_drew HO265.out)
 have n18_ := am (Kd.R_drew HO271.out)
 have n19_ := am (Kd.R_drew HO274.out)
 have n20_ := am (Kd.R_drew HO277.out)
 have n21_ := am (Kd.R_drew HO280.out)
 have n22_ := am (Kd.R_drew HO283.out)
 have n23_ := am (Kd.R_drew HO286.out)
 have n24_ := am (Kd.R_drew HO293.out)
 have n25_ := am (Kd.R_drew HO296.out)
 have n26_ := am (Kd.R_drew HO299.out)
 have n27_ := am (Kd.R_drew HO302.out)
 have n28_ := am (Kd.R_drew HO305.out)
 have n29_ := am (Kd.R_drew HO308.out)
 have n30_ := am (blk_drew BK201.out)
 have n31_ := am (blk_drew BK202.out)
 have n32_ := am (blk_drew BK266.out)
 have n33_ := am (blk_drew BK287.out)
 have n34_ := am (below_drew1 HB.out)
 clear HO209
 clear HO212
 clear HO215
 clear HO218
 clear HO221
 clear HO224
 clear HO229
 clear HO232
 clear HO235
 clear HO238
 clear HO241
 clear HO244
 clear HO250
 clear HO253
 clear HO256
 clear HO259
 clear HO262
 clear HO265
 clear HO271
 clear HO274
 clear HO277
 clear HO280
 clear HO283
 clear HO286
 clear HO293
 clear HO296
 clear HO299
 clear HO302
 clear HO305
 clear HO308
 clear BK201
 clear BK202
 clear BK266
 clear BK287
 clear HB
 have HO209 := n0_
 have HO212 := n1_
 have HO215 := n2_
 have HO218 := n3_
 have HO221 := n4_
 have HO224 := n5_
 have HO229 := n6_
 have HO232 := n7_
 have HO235 := n8_
 have HO238 := n9_
 have HO241 := n10_
 have HO244 := n11_
 have HO250 := n12_
 have HO253 := n13_
 have HO256 := n14_
 have HO259 := n15_
 have HO262 := n16_
 have HO265 := n17_
 have HO271 := n18_
 have HO274 := n19_
 have HO277 := n20_
 have HO280 := n21_
 have HO283 := n22_
 have HO286 := n23_
 have HO293 := n24_
 have HO296 := n25_
 have HO299 := n26_
 have HO302 := n27_
 have HO305 := n28_
 have HO308 := n29_
 have BK201 := n30_
 have BK202 := n31_
 have BK266 := n32_
 have BK287 := n33_
 have HB := n34_
 clear n0_ n1_ n2_ n3_ n4_ n5_ n6_ n7_ n8_ n9_ n10_ n11_ n12_ n13_ n14_ n15_ n16_ n17_ n18_ n19_ n20_ n21_ n22_ n23_ n24_ n25_ n26_ n27_ n28_ n29_ n30_ n31_ n32_ n33_ n34_
 refine start_ (n := 5) (S := fun w' => w'.cell? ⟨gb287, 0, none⟩ = some (.string t267) ∧ w'.cell? ⟨gb287, 1, none⟩ = some (.int .i64 t268) ∧ w'.cell? ⟨gb287, 2, none⟩ = some (.slice Ao74 t269.length co74) ∧ w'.cell? ⟨gb287, 3, none⟩ = some (.slice Ao75 t272.length co75) ∧ w'.cell? ⟨gb287, 4, none⟩ = some (.slice Ao76 t275.length co76) ∧ w'.cell? ⟨gb287, 5, none⟩ = some (.slice Ao77 t278.length co77) ∧ w'.cell? ⟨gb287, 6, none⟩ = some (.slice Ao78 t281.length co78) ∧ w'.cell? ⟨gb287, 7, none⟩ = some (.slice Ao79 t284.length co79) ∧ w'.cell? ⟨gb202, 0, none⟩ = some (.string a1_0) ∧ w'.cell? ⟨gb202, 1, none⟩ = some (.int .i64 a1_1) ∧ w'.cell? ⟨gb202, 2, none⟩ = some (.slice A1_2 l1_2.length c1_2) ∧ w'.cell? ⟨gb202, 3, none⟩ = some (.slice A1_3 l1_3.length c1_3) ∧ w'.cell? ⟨gb202, 4, none⟩ = some (.slice A1_4 l1_4.length c1_4) ∧ w'.cell? ⟨gb202, 5, none⟩ = some (.slice A1_5 l1_5.length c1_5) ∧ w'.cell? ⟨gb202, 6, none⟩ = some (.slice A1_6 l1_6.length c1_6) ∧ w'.cell? ⟨gb202, 7, none⟩ = some (.slice A1_7 l1_7.length c1_7)) (ds := []) #[F_, F_, F_, F_, F_] (by kernel_rfl) rfl rfl ⟨(blk_cell BK287.out 0).trans rfl, (blk_cell BK287.out 1).trans rfl, (blk_cell BK287.out 2).trans rfl, (blk_cell BK287.out 3).trans rfl, (blk_cell BK287.out 4).trans rfl, (blk_cell BK287.out 5).trans rfl, (blk_cell BK287.out 6).trans rfl, (blk_cell BK287.out 7).trans rfl, (blk_cell BK202.out 0).trans rfl, (blk_cell BK202.out 1).trans rfl, (blk_cell BK202.out 2).trans rfl, (blk_cell BK202.out 3).trans rfl, (blk_cell BK202.out 4).trans rfl, (blk_cell BK202.out 5).trans rfl, (blk_cell BK202.out 6).trans rfl, (blk_cell BK202.out 7).trans rfl⟩ (fun hHeld => ?_)
 generalize w90.drew = w91 at HO209 HO212 HO215 HO218 HO221 HO224 HO229 HO232 HO235 HO238 HO241 HO244 HO250 HO253 HO256 HO259 HO262 HO265 HO271 HO274 HO277 HO280 HO283 HO286 HO293 HO296 HO299 HO302 HO305 HO308 BK201 BK202 BK266 BK287 HB hHeld ⊢
 refine tv16 0 40 hHeld ?_
 refine tv16 1 41 hHeld ?_
 refine ov 2 42 (fun K hK => ?_)
 refine gk Try.func20 (laws_toProduct.calls _ _ _ _ _ _ _ _ _ _ _ _ _ _ _ _ _ _ _ _ _ _ _ _ _ _ _ _ _ _ ?side1 ?side2 ?side3 ?side4 ?side5 ?side6 ?side7 ?side8 ?side9 ?side10 ?side11 ?side12 A29.out) ?_
 (case side1 => exact cb HR1_2.out)
 (case side2 => exact HC1_2.out)
 (case side3 => exact cb HR1_3.out)
 (case side4 => exact HC1_3.out)
 (case side5 => exact cb HR1_4.out)
 (case side6 => exact HC1_4.out)
 (case side7 => exact cb HR1_5.out)
 (case side8 => exact HC1_5.out)
 (case side9 => exact cb HR1_6.out)
 (case side10 => exact HC1_6.out)
 (case side11 => exact cb HR1_7.out)
 (case side12 => exact HC1_7.out)
 rintro e w92 ⟨v313, v316, v319, v322, v325, v328, rfl, ho0, ho1, ho2, ho3, ho4, ho5, hb⟩
 refine ⟨_, rfl, ?_⟩
 have n0_ := am (Kd.R_mono (Kd.R_told (Kd.R_told (Kd.R_old (kr HO209.out) hb) (Kd.R_base ho0)) (Kd.R_base ho1)) (fun _ h_ => h_.1))
 have n1_ := am (Kd.R_mono (Kd.R_told (Kd.R_told (Kd.R_old (kr HO212.out) hb) (Kd.R_base ho0)) (Kd.R_base ho1)) (fun _ h_ => h_.1))
 have n2_ := am (Kd.R_elder' (kr HO215.out) (Kd.R_base ho2) hb)
 have n3_ := am (Kd.R_mono (Kd.R_told (Kd.R_told (Kd.R_told (Kd.R_old (kr HO218.out) hb) (Kd.R_base ho3)) (Kd.R_base ho4)) (Kd.R_base ho5)) (fun _ h_ => h_.1))
 have n4_ := am (Kd.R_mono (Kd.R_told (Kd.R_told (Kd.R_told (Kd.R_old (kr HO221.out) hb) (Kd.R_base ho3)) (Kd.R_base ho4)) (Kd.R_base ho5)) (fun _ h_ => h_.1))
 have n5_ := am (Kd.R_mono (Kd.R_told (Kd.R_told (Kd.R_told (Kd.R_old (kr HO224.out) hb) (Kd.R_base ho3)) (Kd.R_base ho4)) (Kd.R_base ho5)) (fun _ h_ => h_.1))
 have n6_ := am (Kd.R_mono (Kd.R_told (Kd.R_told (Kd.R_old (kr HO229.out) hb) (Kd.R_base ho0)) (Kd.R_base ho1)) (fun _ h_ => h_.1))
 have n7_ := am (Kd.R_mono (Kd.R_told (Kd.R_told (Kd.R_old (kr HO232.out) hb) (Kd.R_base ho0)) (Kd.R_base ho1)) (fun _ h_ => h_.1))
 have n8_ := am (Kd.R_elder' (kr HO235.out) (Kd.R_base ho2) hb)
 have n9_ := am (Kd.R_mono (Kd.R_told (Kd.R_told (Kd.R_told (Kd.R_old (kr HO238.out) hb) (Kd.R_base ho3)) (Kd.R_base ho4)) (Kd.R_base ho5)) (fun _ h_ => h_.1))
 have n10_ := am (Kd.R_mono (Kd.R_told (Kd.R_told (Kd.R_told (Kd.R_old (kr HO241.out) hb) (Kd.R_base ho3)) (Kd.R_base ho4)) (Kd.R_base ho5)) (fun _ h_ => h_.1))
 have n11_ := am (Kd.R_mono (Kd.R_told (Kd.R_told (Kd.R_told (Kd.R_old (kr HO244.out) hb) (Kd.R_base ho3)) (Kd.R_base ho4)) (Kd.R_base ho5)) (fun _ h_ => h_.1))
 have n12_ := am (Kd.R_mono (Kd.R_told (Kd.R_told (Kd.R_old (kr HO250.out) hb) (Kd.R_base ho0)) (Kd.R_base ho1)) (fun _ h_ => h_.1))
 have n13_ := am (Kd.R_mono (Kd.R_told (Kd.R_told (Kd.R_old (kr HO253.out) hb) (Kd.R_base ho0)) (Kd.R_base ho1)) (fun _ h_ => h_.1))
 have n14_ := am (Kd.R_elder' (kr HO256.out) (Kd.R_base ho2) hb)
 have n15_ := am (Kd.R_mono (Kd.R_told (Kd.R_told (Kd.R_told (Kd.R_old (kr HO259.out) hb) (Kd.R_base ho3)) (Kd.R_base ho4)) (Kd.R_base ho5)) (fun _ h_ => h_.1))
 have n16_ := am (Kd.R_mono (Kd.R_told (Kd.R_told (Kd.R_told (Kd.R_old (kr HO262.out) hb) (Kd.R_base ho3)) (Kd.R_base ho4)) (Kd.R_base ho5)) (fun _ h_ => h_.1))
 have n17_ := am (Kd.R_mono (Kd.R_told (Kd.R_told (Kd.R_told (Kd.R_old (kr HO265.out) hb) (Kd.R_base ho3)) (Kd.R_base ho4)) (Kd.R_base ho5)) (fun _ h_ => h_.1))
 have n18_ := am (Kd.R_mono (Kd.R_told (Kd.R_told (Kd.R_old (kr HO271.out) hb) (Kd.R_base ho0)) (Kd.R_base ho1)) (fun _ h_ => h_.1))
 have n19_ := am (Kd.R_mono (Kd.R_told (Kd.R_told (Kd.R_old (kr HO274.out) hb) (Kd.R_base ho0)) (Kd.R_base ho1)) (fun _ h_ => h_.1))
 have n20_ := am (Kd.R_elder' (kr HO277.out) (Kd.R_base ho2) hb)
 have n21_ := am (Kd.R_mono (Kd.R_told (Kd.R_told (Kd.R_told (Kd.R_old (kr HO280.out) hb) (Kd.R_base ho3)) (Kd.R_base ho4)) (Kd.R_base ho5)) (fun _ h_ => h_.1))
 have n22_ := am (Kd.R_mono (Kd.R_told (Kd.R_told (Kd.R_told (Kd.R_old (kr HO283.out) hb) (Kd.R_base ho3)) (Kd.R_base ho4)) (Kd.R_base ho5)) (fun _ h_ => h_.1))
 have n23_ := am (Kd.R_mono (Kd.R_told (Kd.R_told (Kd.R_told (Kd.R_old (kr HO286.out) hb) (Kd.R_base ho3)) (Kd.R_base ho4)) (Kd.R_base ho5)) (fun _ h_ => h_.1))
 have n24_ := am (Kd.R_mono (Kd.R_told (Kd.R_told (Kd.R_old (kr HO293.out) hb) (Kd.R_base ho0)) (Kd.R_base ho1)) (fun _ h_ => h_.1))
 have n25_ := am (Kd.R_mono (Kd.R_told (Kd.R_told (Kd.R_old (kr HO296.out) hb) (Kd.R_base ho0)) (Kd.R_base ho1)) (fun _ h_ => h_.1))
 have n26_ := am (Kd.R_elder' (kr HO299.out) (Kd.R_base ho2) hb)
 have n27_ := am (Kd.R_mono (Kd.R_told (Kd.R_told (Kd.R_told (Kd.R_old (kr HO302.out) hb) (Kd.R_base ho3)) (Kd.R_base ho4)) (Kd.R_base ho5)) (fun _ h_ => h_.1))
 have n28_ := am (Kd.R_mono (Kd.R_told (Kd.R_told (Kd.R_told (Kd.R_old (kr HO305.out) hb) (Kd.R_base ho3)) (Kd.R_base ho4)) (Kd.R_base ho5)) (fun _ h_ => h_.1))
 have n29_ := am (Kd.R_mono (Kd.R_told (Kd.R_told (Kd.R_told (Kd.R_old (kr HO308.out) hb) (Kd.R_base ho3)) (Kd.R_base ho4)) (Kd.R_base ho5)) (fun _ h_ => h_.1))
 have n30_ := am (Kd.R_lower (Kd.R_new' (Kd.R_new' (Kd.R_new' (Kd.R_new' (Kd.R_new' (Kd.R_new' (Kd.R_new' (Kd.R_new' (Kd.R_new' (Kd.R_new' ho0 (Kd.R_lt (kr HO209.out))) (Kd.R_lt (kr HO212.out))) (Kd.R_lt (kr HO229.out))) (Kd.R_lt (kr HO232.out))) (Kd.R_lt (kr HO250.out))) (Kd.R_lt (kr HO253.out))) (Kd.R_lt (kr HO271.out))) (Kd.R_lt (kr HO274.out))) (Kd.R_lt (kr HO293.out))) (Kd.R_lt (kr HO296.out))) (below_size bl))
 have n31_ := am (Kd.R_lower (Kd.R_new' (Kd.R_new' (Kd.R_new' (Kd.R_new' (Kd.R_new' (Kd.R_new' (Kd.R_new' (Kd.R_new' (Kd.R_new' (Kd.R_new' ho1 (Kd.R_lt (kr HO209.out))) (Kd.R_lt (kr HO212.out))) (Kd.R_lt (kr HO229.out))) (Kd.R_lt (kr HO232.out))) (Kd.R_lt (kr HO250.out))) (Kd.R_lt (kr HO253.out))) (Kd.R_lt (kr HO271.out))) (Kd.R_lt (kr HO274.out))) (Kd.R_lt (kr HO293.out))) (Kd.R_lt (kr HO296.out))) (below_size bl))
 have n32_ := am (Kd.R_lower (Kd.R_new' (Kd.R_new' (Kd.R_new' (Kd.R_new' (Kd.R_new' ho2 (Kd.R_lt (kr HO215.out))) (Kd.R_lt (kr HO235.out))) (Kd.R_lt (kr HO256.out))) (Kd.R_lt (kr HO277.out))) (Kd.R_lt (kr HO299.out))) (below_size bl))
 have n33_ := am (Kd.R_lower (Kd.R_new' (Kd.R_new' (Kd.R_new' (Kd.R_new' (Kd.R_new' (Kd.R_new' (Kd.R_new' (Kd.R_new' (Kd.R_new' (Kd.R_new' (Kd.R_new' (Kd.R_new' (Kd.R_new' (Kd.R_new' (Kd.R_new' ho3 (Kd.R_lt (kr HO218.out))) (Kd.R_lt (kr HO221.out))) (Kd.R_lt (kr HO224.out))) (Kd.R_lt (kr HO238.out))) (Kd.R_lt (kr HO241.out))) (Kd.R_lt (kr HO244.out))) (Kd.R_lt (kr HO259.out))) (Kd.R_lt (kr HO262.out))) (Kd.R_lt (kr HO265.out))) (Kd.R_lt (kr HO280.out))) (Kd.R_lt (kr HO283.out))) (Kd.R_lt (kr HO286.out))) (Kd.R_lt (kr HO302.out))) (Kd.R_lt (kr HO305.out))) (Kd.R_lt (kr HO308.out))) (below_size bl))
 have n34_ := am (Kd.R_lower (Kd.R_new' (Kd.R_new' (Kd.R_new' (Kd.R_new' (Kd.R_new' (Kd.R_new' (Kd.R_new' (Kd.R_new' (Kd.R_new' (Kd.R_new' (Kd.R_new' (Kd.R_new' (Kd.R_new' (Kd.R_new' (Kd.R_new' ho4 (Kd.R_lt (kr HO218.out))) (Kd.R_lt (kr HO221.out))) (Kd.R_lt (kr HO224.out))) (Kd.R_lt (kr HO238.out))) (Kd.R_lt (kr HO241.out))) (Kd.R_lt (kr HO244.out))) (Kd.R_lt (kr HO259.out))) (Kd.R_lt (kr HO262.out))) (Kd.R_lt (kr HO265.out))) (Kd.R_lt (kr HO280.out))) (Kd.R_lt (kr HO283.out))) (Kd.R_lt (kr HO286.out))) (Kd.R_lt (kr HO302.out))) (Kd.R_lt (kr HO305.out))) (Kd.R_lt (kr HO308.out))) (below_size bl))
 have n35_ := am (Kd.R_lower (Kd.R_new' (Kd.R_new' (Kd.R_new' (Kd.R_new' (Kd.R_new' (Kd.R_new' (Kd.R_new' (Kd.R_new' (Kd.R_new' (Kd.R_new' (Kd.R_new' (Kd.R_new' (Kd.R_new' (Kd.R_new' (Kd.R_new' ho5 (Kd.R_lt (kr HO218.out))) (Kd.R_lt (kr HO221.out))) (Kd.R_lt (kr HO224.out))) (Kd.R_lt (kr HO238.out))) (Kd.R_lt (kr HO241.out))) (Kd.R_lt (kr HO244.out))) (Kd.R_lt (kr HO259.out))) (Kd.R_lt (kr HO262.out))) (Kd.R_lt (kr HO265.out))) (Kd.R_lt (kr HO280.out))) (Kd.R_lt (kr HO283.out))) (Kd.R_lt (kr HO286.out))) (Kd.R_lt (kr HO302.out))) (Kd.R_lt (kr HO305.out))) (Kd.R_lt (kr HO308.out))) (below_size bl))
 have n36_ := am (bkb BK201.out hb)
 have n37_ := am (bkb BK202.out hb)
 have n38_ := am (bkb BK266.out hb)
 have n39_ := am (bkb BK287.out hb)
 have n40_ := am (below_step bl hb)
 clear HO209
 clear HO212
 clear HO215
 clear HO218
 clear HO221
 clear HO224
 clear HO229
 clear HO232
 clear HO235
 clear HO238
 clear HO241
 clear HO244
 clear HO250
 clear HO253
 clear HO256
 clear HO259
 clear HO262
 clear HO265
 clear HO271
 clear HO274
 clear HO277
 clear HO280
 clear HO283
 clear HO286
 clear HO293
 clear HO296
 clear HO299
 clear HO302
 clear HO305
 clear HO308
 clear BK201
 clear BK202
 clear BK266
 clear BK287
 clear HB
 have HO209 := n0_
 have HO212 := n1_
 have HO215 := n2_
 have HO218 := n3_
 have HO221 := n4_
 have HO224 := n5_
 have HO229 := n6_
 have HO232 := n7_
 have HO235 := n8_
 have HO238 := n9_
 have HO241 := n10_
 have HO244 := n11_
 have HO250 := n12_
 have HO253 := n13_
 have HO256 := n14_
 have HO259 := n15_
 have HO262 := n16_
 have HO265 := n17_
 have HO271 := n18_
 have HO274 := n19_
 have HO277 := n20_
 have HO280 := n21_
 have HO283 := n22_
 have HO286 := n23_
 have HO293 := n24_
 have HO296 := n25_
 have HO299 := n26_
 have HO302 := n27_
 have HO305 := n28_
 have HO308 := n29_
 have HO314 := n30_
 have HO317 := n31_
 have HO320 := n32_
 have HO323 := n33_
 have HO326 := n34_
 have HO329 := n35_
 have BK201 := n36_
 have BK202 := n37_
 have BK266 := n38_
 have BK287 := n39_
 have HB := n40_
 clear n0_ n1_ n2_ n3_ n4_ n5_ n6_ n7_ n8_ n9_ n10_ n11_ n12_ n13_ n14_ n15_ n16_ n17_ n18_ n19_ n20_ n21_ n22_ n23_ n24_ n25_ n26_ n27_ n28_ n29_ n30_ n31_ n32_ n33_ n34_ n35_ n36_ n37_ n38_ n39_ n40_
 skip
 skip
 skip
 skip
 skip
 skip
 skip
 skip
 skip
 skip
 obtain ⟨Ao93, co93, eo93⟩ := Kd.R_slice HO314.out
 (first | subst eo93 | (injection eo93 with f1_ f2_ f3_; have f4_ := f1_.symm; have f5_ := f3_.symm; clear f1_ f2_ f3_; subst f4_; subst f5_))
 obtain ⟨Ao94, co94, eo94⟩ := Kd.R_slice HO317.out
 (first | subst eo94 | (injection eo94 with f1_ f2_ f3_; have f4_ := f1_.symm; have f5_ := f3_.symm; clear f1_ f2_ f3_; subst f4_; subst f5_))
 obtain ⟨Ao95, co95, eo95⟩ := Kd.R_slice HO320.out
 (first | subst eo95 | (injection eo95 with f1_ f2_ f3_; have f4_ := f1_.symm; have f5_ := f3_.symm; clear f1_ f2_ f3_; subst f4_; subst f5_))
 obtain ⟨Ao96, co96, eo96⟩ := Kd.R_slice HO323.out
 (first | subst eo96 | (injection eo96 with f1_ f2_ f3_; have f4_ := f1_.symm; have f5_ := f3_.symm; clear f1_ f2_ f3_; subst f4_; subst f5_))
 obtain ⟨Ao97, co97, eo97⟩ := Kd.R_slice HO326.out
 (first | subst eo97 | (injection eo97 with f1_ f2_ f3_; have f4_ := f1_.symm; have f5_ := f3_.symm; clear f1_ f2_ f3_; subst f4_; subst f5_))
 obtain ⟨Ao98, co98, eo98⟩ := Kd.R_slice HO329.out
 (first | subst eo98 | (injection eo98 with f1_ f2_ f3_; have f4_ := f1_.symm; have f5_ := f3_.symm; clear f1_ f2_ f3_; subst f4_; subst f5_))
 refine hK.out _ _ ⟨(blk_cell BK287.out 0).trans rfl, (blk_cell BK287.out 1).trans rfl, (blk_cell BK287.out 2).trans rfl, (blk_cell BK287.out 3).trans rfl, (blk_cell BK287.out 4).trans rfl, (blk_cell BK287.out 5).trans rfl, (blk_cell BK287.out 6).trans rfl, (blk_cell BK287.out 7).trans rfl, (blk_cell BK202.out 0).trans rfl, (blk_cell BK202.out 1).trans rfl, (blk_cell BK202.out 2).trans rfl, (blk_cell BK202.out 3).trans rfl, (blk_cell BK202.out 4).trans rfl, (blk_cell BK202.out 5).trans rfl, (blk_cell BK202.out 6).trans rfl, (blk_cell BK202.out 7).trans rfl⟩ (fun hHeld => ?_)
 clear hK K
 refine norm_ (a' := ?_) ?_ ?_
 rotate_left
 ·show Act.put _ (some 42) _ = _
  simp only [Act.put, z1, z2, z3, i64_w, i32_w]
  rfl
 refine ov 3 43 (fun K hK => ?_)
 refine gk Try.func22 (laws_eqProduct.calls _ _ _ _ _ _ _ _ _ _ _ _ _ _ _ _ _ _ _ _ _ _ _ _ _ _ _ _ _ _ _ _ _ _ _ _ _ _ _ _ _ _ _ ?side1 ?side2 ?side3 ?side4 ?side5 ?side6 ?side7 ?side8 ?side9 ?side10 ?side11 ?side12 ?side13 ?side14 ?side15 ?side16 ?side17 ?side18 ?side19 ?side20 ?side21 ?side22 ?side23 ?side24 A30.out) ?_
 (case side1 => exact cc (Kd.R_reads' HO271.out).2.2)
 (case side2 => exact (Kd.R_reads' HO271.out).2.1)
 (case side3 => exact cc (Kd.R_reads' HO274.out).2.2)
 (case side4 => exact (Kd.R_reads' HO274.out).2.1)
 (case side5 => exact cc (Kd.R_reads' HO277.out).2.2)
 (case side6 => exact (Kd.R_reads' HO277.out).2.1)
 (case side7 => exact cc (Kd.R_reads' HO280.out).2.2)
 (case side8 => exact (Kd.R_reads' HO280.out).2.1)
 (case side9 => exact cc (Kd.R_reads' HO283.out).2.2)
 (case side10 => exact (Kd.R_reads' HO283.out).2.1)
 (case side11 => exact cc (Kd.R_reads' HO286.out).2.2)
 (case side12 => exact (Kd.R_reads' HO286.out).2.1)
 (case side13 => exact cc (Kd.R_reads' HO314.out).2.2)
 (case side14 => exact (Kd.R_reads' HO314.out).2.1)
 (case side15 => exact cc (Kd.R_reads' HO317.out).2.2)
 (case side16 => exact (Kd.R_reads' HO317.out).2.1)
 (case side17 => exact cc (Kd.R_reads' HO320.out).2.2)
 (case side18 => exact (Kd.R_reads' HO320.out).2.1)
 (case side19 => exact cc (Kd.R_reads' HO323.out).2.2)
 (case side20 => exact (Kd.R_reads' HO323.out).2.1)
 (case side21 => exact cc (Kd.R_reads' HO326.out).2.2)
 (case side22 => exact (Kd.R_reads' HO326.out).2.1)
 (case side23 => exact cc (Kd.R_reads' HO329.out).2.2)
 (case side24 => exact (Kd.R_reads' HO329.out).2.1)
 rintro e w99 ⟨rfl, hb⟩
 refine ⟨_, rfl, ?_⟩
 have n0_ := am (rb HO209.out hb)
 have n1_ := am (rb HO212.out hb)
 have n2_ := am (rb HO215.out hb)
 have n3_ := am (rb HO218.out hb)
 have n4_ := am (rb HO221.out hb)
 have n5_ := am (rb HO224.out hb)
 have n6_ := am (rb HO229.out hb)
 have n7_ := am (rb HO232.out hb)
 have n8_ := am (rb HO235.out hb)
 have n9_ := am (rb HO238.out hb)
 have n10_ := am (rb HO241.out hb)
 have n11_ := am (rb HO244.out hb)
 have n12_ := am (rb HO250.out hb)
 have n13_ := am (rb HO253.out hb)
 have n14_ := am (rb HO256.out hb)
 have n15_ := am (rb HO259.out hb)
 have n16_ := am (rb HO262.out hb)
 have n17_ := am (rb HO265.out hb)
 have n18_ := am (rb HO271.out hb)
 have n19_ := am (rb HO274.out hb)
 have n20_ := am (rb HO277.out hb)
 have n21_ := am (rb HO280.out hb)
 have n22_ := am (rb HO283.out hb)
 have n23_ := am (rb HO286.out hb)
 have n24_ := am (rb HO293.out hb)
 have n25_ := am (rb HO296.out hb)
 have n26_ := am (rb HO299.out hb)
 have n27_ := am (rb HO302.out hb)
 have n28_ := am (rb HO305.out hb)
 have n29_ := am (rb HO308.out hb)
 have n30_ := am (rb HO314.out hb)
 have n31_ := am (rb HO317.out hb)
 have n32_ := am (rb HO320.out hb)
 have n33_ := am (rb HO323.out hb)
 have n34_ := am (rb HO326.out hb)
 have n35_ := am (rb HO329.out hb)
 have n36_ := am (bkb BK201.out hb)
 have n37_ := am (bkb BK202.out hb)
 have n38_ := am (bkb BK266.out hb)
 have n39_ := am (bkb BK287.out hb)
 have n40_ := am (below_step bl hb)
 clear HO209
 clear HO212
 clear HO215
 clear HO218
 clear HO221
 clear HO224
 clear HO229
 clear HO232
 clear HO235
 clear HO238
 clear HO241
 clear HO244
 clear HO250
 clear HO253
 clear HO256
 clear HO259
 clear HO262
 clear HO265
 clear HO271
 clear HO274
 clear HO277
 clear HO280
 clear HO283
 clear HO286
 clear HO293
 clear HO296
 clear HO299
 clear HO302
 clear HO305
 clear HO308
 clear HO314
 clear HO317
 clear HO320
 clear HO323
 clear HO326
 clear HO329
 clear BK201
 clear BK202
 clear BK266
 clear BK287
 clear HB
 have HO209 := n0_
 have HO212 := n1_
 have HO215 := n2_
 have HO218 := n3_
 have HO221 := n4_
 have HO224 := n5_
 have HO229 := n6_
 have HO232 := n7_
 have HO235 := n8_
 have HO238 := n9_
 have HO241 := n10_
 have HO244 := n11_
 have HO250 := n12_
 have HO253 := n13_
 have HO256 := n14_
 have HO259 := n15_
 have HO262 := n16_
 have HO265 := n17_
 have HO271 := n18_
 have HO274 := n19_
 have HO277 := n20_
 have HO280 := n21_
 have HO283 := n22_
 have HO286 := n23_
 have HO293 := n24_
 have HO296 := n25_
 have HO299 := n26_
 have HO302 := n27_
 have HO305 := n28_
 have HO308 := n29_
 have HO314 := n30_
 have HO317 := n31_
 have HO320 := n32_
 have HO323 := n33_
 have HO326 := n34_
 have HO329 := n35_
 have BK201 := n36_
 have BK202 := n37_
 have BK266 := n38_
 have BK287 := n39_
 have HB := n40_
 clear n0_ n1_ n2_ n3_ n4_ n5_ n6_ n7_ n8_ n9_ n10_ n11_ n12_ n13_ n14_ n15_ n16_ n17_ n18_ n19_ n20_ n21_ n22_ n23_ n24_ n25_ n26_ n27_ n28_ n29_ n30_ n31_ n32_ n33_ n34_ n35_ n36_ n37_ n38_ n39_ n40_
 skip
 skip
 skip
 skip
 refine hK.out _ _ ⟨(blk_cell BK287.out 0).trans rfl, (blk_cell BK287.out 1).trans rfl, (blk_cell BK287.out 2).trans rfl, (blk_cell BK287.out 3).trans rfl, (blk_cell BK287.out 4).trans rfl, (blk_cell BK287.out 5).trans rfl, (blk_cell BK287.out 6).trans rfl, (blk_cell BK287.out 7).trans rfl, (blk_cell BK202.out 0).trans rfl, (blk_cell BK202.out 1).trans rfl, (blk_cell BK202.out 2).trans rfl, (blk_cell BK202.out 3).trans rfl, (blk_cell BK202.out 4).trans rfl, (blk_cell BK202.out 5).trans rfl, (blk_cell BK202.out 6).trans rfl, (blk_cell BK202.out 7).trans rfl⟩ (fun hHeld => ?_)
 clear hK K
 refine norm_ (a' := ?_) ?_ ?_
 rotate_left
 ·show Act.put _ (some 43) _ = _
  simp only [Act.put, z1, z2, z3, i64_w, i32_w]
  rfl
 refine pv 4 44 ?_
 refine done_ (by kernel_rfl) ?_
 try go_wp2
 go_ret
 exact ⟨er, bl⟩

def laws_FnExactProductSame.Pure : Prop := ∀ (a0_0 : ByteArray) (a0_1 : Int) (l0_2 : List ByteArray) (l0_3 : List ByteArray) (l0_4 : List (S115)) (l0_5 : List (S117)) (l0_6 : List (S117)) (l0_7 : List (S117)) (a1_0 : ByteArray) (a1_1 : Int) (l1_2 : List ByteArray) (l1_3 : List ByteArray) (l1_4 : List (S115)) (l1_5 : List (S117)) (l1_6 : List (S117)) (l1_7 : List (S117)), a0_0.size ≤ maxLen → (Lit.int .i64 a0_1).wf = true → (l0_2.length ≤ maxLen ∧ ∀ x ∈ l0_2, x.size ≤ maxLen) → (l0_3.length ≤ maxLen ∧ ∀ x ∈ l0_3, x.size ≤ maxLen) → (l0_4.length ≤ maxLen ∧ ∀ x ∈ l0_4, (x.f0.size ≤ maxLen ∧ (Lit.int .i64 x.f1).wf = true ∧ (Lit.int .i64 x.f2).wf = true ∧ (Lit.int .i64 x.f3).wf = true)) → (l0_5.length ≤ maxLen ∧ ∀ x ∈ l0_5, ((Lit.int .i64 x.f0).wf = true ∧ x.f1.size ≤ maxLen ∧ x.f2.size ≤ maxLen ∧ (Lit.int .i64 x.f3).wf = true ∧ (Lit.int .i64 x.f4).wf = true)) → (l0_6.length ≤ maxLen ∧ ∀ x ∈ l0_6, ((Lit.int .i64 x.f0).wf = true ∧ x.f1.size ≤ maxLen ∧ x.f2.size ≤ maxLen ∧ (Lit.int .i64 x.f3).wf = true ∧ (Lit.int .i64 x.f4).wf = true)) → (l0_7.length ≤ maxLen ∧ ∀ x ∈ l0_7, ((Lit.int .i64 x.f0).wf = true ∧ x.f1.size ≤ maxLen ∧ x.f2.size ≤ maxLen ∧ (Lit.int .i64 x.f3).wf = true ∧ (Lit.int .i64 x.f4).wf = true)) → a1_0.size ≤ maxLen → (Lit.int .i64 a1_1).wf = true → (l1_2.length ≤ maxLen ∧ ∀ x ∈ l1_2, x.size ≤ maxLen) → (l1_3.length ≤ maxLen ∧ ∀ x ∈ l1_3, x.size ≤ maxLen) → (l1_4.length ≤ maxLen ∧ ∀ x ∈ l1_4, (x.f0.size ≤ maxLen ∧ (Lit.int .i64 x.f1).wf = true ∧ (Lit.int .i64 x.f2).wf = true ∧ (Lit.int .i64 x.f3).wf = true)) → (l1_5.length ≤ maxLen ∧ ∀ x ∈ l1_5, ((Lit.int .i64 x.f0).wf = true ∧ x.f1.size ≤ maxLen ∧ x.f2.size ≤ maxLen ∧ (Lit.int .i64 x.f3).wf = true ∧ (Lit.int .i64 x.f4).wf = true)) → (l1_6.length ≤ maxLen ∧ ∀ x ∈ l1_6, ((Lit.int .i64 x.f0).wf = true ∧ x.f1.size ≤ maxLen ∧ x.f2.size ≤ maxLen ∧ (Lit.int .i64 x.f3).wf = true ∧ (Lit.int .i64 x.f4).wf = true)) → (l1_7.length ≤ maxLen ∧ ∀ x ∈ l1_7, ((Lit.int .i64 x.f0).wf = true ∧ x.f1.size ≤ maxLen ∧ x.f2.size ≤ maxLen ∧ (Lit.int .i64 x.f3).wf = true ∧ (Lit.int .i64 x.f4).wf = true)) → ∃ k, laws_FnExactProductSame.f k a0_0 a0_1 l0_2 l0_3 l0_4 l0_5 l0_6 l0_7 a1_0 a1_1 l1_2 l1_3 l1_4 l1_5 l1_6 l1_7 = some true

end Go.Proofs.Ytpblcdafmpfemaa.PFnExactProductSame
