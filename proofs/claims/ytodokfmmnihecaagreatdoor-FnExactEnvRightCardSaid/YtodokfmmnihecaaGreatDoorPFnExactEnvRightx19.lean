-- laid by seedprint.py, a program of this session, over contracts that it gives by hand; Lean checks it
-- dented
import Derived.Test.YtodokfmmnihecaaGreatDoorQMin
import Derived.Test.YtodokfmmnihecaaGreatDoorQAut
import Derived.Test.YtodokfmmnihecaaGreatDoorQBlk
import Derived.Test.YtodokfmmnihecaaGreatDoorPFnExactEnvRightx0
import Derived.Test.YtodokfmmnihecaaGreatDoorPFnExactEnvRightx1
import Derived.Test.YtodokfmmnihecaaGreatDoorPFnExactEnvRightx2
import Derived.Test.YtodokfmmnihecaaGreatDoorPFnExactEnvRightx3
import Derived.Test.YtodokfmmnihecaaGreatDoorPFnExactEnvRightx10
import Derived.Test.YtodokfmmnihecaaGreatDoorPFnExactEnvRightx11
import Derived.Test.YtodokfmmnihecaaGreatDoorPFnExactEnvRightx18
namespace Go.Proofs.YtodokfmmnihecaaGreatDoor.PFnExactEnvRight
open Go.RowKit Go.Proofs.YtodokfmmnihecaaGreatDoorW.PrintWords Go.Proofs.YtodokfmmnihecaaGreatDoorW.PrintLast Go.Proofs.YtodokfmmnihecaaGreatDoorW.PrintMore
attribute [local go_sem] max2_int min2_int max_two min_two max_three min_three max_four min_four   -- for this text's walks alone
set_option linter.unusedVariables false
set_option linter.unusedSimpArgs false

/-! ### laws_FnExactEnvRight: function 4 -/
def laws_FnExactEnvRight.f (k : Nat) (a0_0 : ByteArray) (a0_1 : Int) (l0_2 : List ByteArray) (l0_3 : List ByteArray) (l0_4 : List (S174)) (l0_5 : List (S176)) (l0_6 : List (S176)) (l0_7 : List (S176)) (l1_0 : List Int) (l1_1 : List Int) (a1_2 : Int) (a1_3 : Int) (a1_4 : Int) (a1_5 : Int) (a1_6 : Int) : Option (Bool) := (laws_szProduct.f k a0_0 a0_1 l0_2 l0_3 l0_4 l0_5 l0_6 l0_7 1048576).bind fun t436 => (if t436 < 0 then (some true) else ((laws_szEnv.f l1_0 l1_1 a1_2 a1_3 a1_4 a1_5 a1_6 t436).bind fun t437 => (if t437 < 0 then (some true) else ((laws_toProduct.f k a0_0 a0_1 l0_2 l0_3 l0_4 l0_5 l0_6 l0_7).bind fun bt438 => ((laws_toEnv.f k l1_0 l1_1 a1_2 a1_3 a1_4 a1_5 a1_6).bind fun bt458 => ((spec_EnvRight.f k bt438.1 bt438.2.1 bt438.2.2.1 bt438.2.2.2.1 bt438.2.2.2.2.1 bt438.2.2.2.2.2.1 bt438.2.2.2.2.2.2.1 bt438.2.2.2.2.2.2.2 bt458.1 bt458.2.1 bt458.2.2.1 bt458.2.2.2.1 bt458.2.2.2.2.1 bt458.2.2.2.2.2.1 bt458.2.2.2.2.2.2).bind fun t469 => ((laws_toProduct.f k a0_0 a0_1 l0_2 l0_3 l0_4 l0_5 l0_6 l0_7).bind fun bt470 => ((laws_toEnv.f k l1_0 l1_1 a1_2 a1_3 a1_4 a1_5 a1_6).bind fun bt491 => ((impl_EnvRight.f k bt470.1 bt470.2.1 bt470.2.2.1 bt470.2.2.2.1 bt470.2.2.2.2.1 bt470.2.2.2.2.2.1 bt470.2.2.2.2.2.2.1 bt470.2.2.2.2.2.2.2 bt491.1 bt491.2.1 bt491.2.2.1 bt491.2.2.2.1 bt491.2.2.2.2.1 bt491.2.2.2.2.2.1 bt491.2.2.2.2.2.2).bind fun t503 => (if (t503 != t469) = true then (none) else ((laws_toProduct.f k a0_0 a0_1 l0_2 l0_3 l0_4 l0_5 l0_6 l0_7).bind fun bt504 => ((laws_eqProduct.f k bt470.1 bt470.2.1 bt470.2.2.1 bt470.2.2.2.1 bt470.2.2.2.2.1 bt470.2.2.2.2.2.1 bt470.2.2.2.2.2.2.1 bt470.2.2.2.2.2.2.2 bt504.1 bt504.2.1 bt504.2.2.1 bt504.2.2.2.1 bt504.2.2.2.2.1 bt504.2.2.2.2.2.1 bt504.2.2.2.2.2.2.1 bt504.2.2.2.2.2.2.2).bind fun t524 => (if t524 = true then ((laws_toEnv.f k l1_0 l1_1 a1_2 a1_3 a1_4 a1_5 a1_6).bind fun bt525 => ((laws_eqEnv.f k bt491.1 bt491.2.1 bt491.2.2.1 bt491.2.2.2.1 bt491.2.2.2.2.1 bt491.2.2.2.2.2.1 bt491.2.2.2.2.2.2 bt525.1 bt525.2.1 bt525.2.2.1 bt525.2.2.2.1 bt525.2.2.2.2.1 bt525.2.2.2.2.2.1 bt525.2.2.2.2.2.2).bind fun t536 => (if t536 = true then (some true) else (none)))) else (none))))))))))))))
theorem laws_FnExactEnvRight.mono : ∀ a0 a1 a2 a3 a4 a5 a6 a7 a8 a9 a10 a11 a12 a13 a14 k, LeO (laws_FnExactEnvRight.f k a0 a1 a2 a3 a4 a5 a6 a7 a8 a9 a10 a11 a12 a13 a14) (laws_FnExactEnvRight.f (k + 1) a0 a1 a2 a3 a4 a5 a6 a7 a8 a9 a10 a11 a12 a13 a14) := by
 intro a0 a1 a2 a3 a4 a5 a6 a7 a8 a9 a10 a11 a12 a13 a14 k
 unfold laws_FnExactEnvRight.f
 repeat' (with_reducible first | exact impl_EnvRight.mono .. | exact laws_eqEnv.mono .. | exact laws_eqProduct.mono .. | exact laws_szProduct.mono .. | exact laws_toEnv.mono .. | exact laws_toProduct.mono .. | exact spec_EnvRight.mono .. | exact LeO.refl _ | exact LeO.none _ | refine LeO.ite ?_ ?_ | refine LeO.bind ?_ (fun _ => ?_))
set_option maxHeartbeats 8000000 in
set_option maxRecDepth 100000 in
theorem laws_FnExactEnvRight.calls (k : Nat) (a0_0 : ByteArray) (a0_1 : Int) (A0_2 : Option Addr) (c0_2 : Nat) (l0_2 : List ByteArray) (A0_3 : Option Addr) (c0_3 : Nat) (l0_3 : List ByteArray) (A0_4 : Option Addr) (c0_4 : Nat) (l0_4 : List (S174)) (A0_5 : Option Addr) (c0_5 : Nat) (l0_5 : List (S176)) (A0_6 : Option Addr) (c0_6 : Nat) (l0_6 : List (S176)) (A0_7 : Option Addr) (c0_7 : Nat) (l0_7 : List (S176)) (A1_0 : Option Addr) (c1_0 : Nat) (l1_0 : List Int) (A1_1 : Option Addr) (c1_1 : Nat) (l1_1 : List Int) (a1_2 : Int) (a1_3 : Int) (a1_4 : Int) (a1_5 : Int) (a1_6 : Int) (r : Bool) (w : World) (hr0_2 : Kd.C Kd.string w A0_2 l0_2.length l0_2) (hc0_2 : l0_2.length ≤ c0_2) (hr0_3 : Kd.C Kd.string w A0_3 l0_3.length l0_3) (hc0_3 : l0_3.length ≤ c0_3) (hr0_4 : Kd.C k174 w A0_4 l0_4.length l0_4) (hc0_4 : l0_4.length ≤ c0_4) (hr0_5 : Kd.C k176 w A0_5 l0_5.length l0_5) (hc0_5 : l0_5.length ≤ c0_5) (hr0_6 : Kd.C k176 w A0_6 l0_6.length l0_6) (hc0_6 : l0_6.length ≤ c0_6) (hr0_7 : Kd.C k176 w A0_7 l0_7.length l0_7) (hc0_7 : l0_7.length ≤ c0_7) (hr1_0 : Kd.C (Kd.int .i64) w A1_0 l1_0.length l1_0) (hc1_0 : l1_0.length ≤ c1_0) (hr1_1 : Kd.C (Kd.int .i64) w A1_1 l1_1.length l1_1) (hc1_1 : l1_1.length ≤ c1_1) (hsh : Sh w) (h : laws_FnExactEnvRight.f k a0_0 a0_1 l0_2 l0_3 l0_4 l0_5 l0_6 l0_7 l1_0 l1_1 a1_2 a1_3 a1_4 a1_5 a1_6 = some r) :
  Calls Tryz.prog 4 #[.agg #[.string a0_0, .int .i64 a0_1, .slice A0_2 l0_2.length c0_2, .slice A0_3 l0_3.length c0_3, .slice A0_4 l0_4.length c0_4, .slice A0_5 l0_5.length c0_5, .slice A0_6 l0_6.length c0_6, .slice A0_7 l0_7.length c0_7], .agg #[.slice A1_0 l1_0.length c1_0, .slice A1_1 l1_1.length c1_1, .int .i64 a1_2, .int .i64 a1_3, .int .i64 a1_4, .int .i64 a1_5, .int .i64 a1_6]] w fun e w' => e = .returned (.bool r) ∧ Below w.heap.size w w' := by
 have hu26 := Tryz.underlying26
 have hu38 := Tryz.underlying38
 have hu32 := Tryz.underlying32
 have hu41 := Tryz.underlying41
 have HR0_2 := am hr0_2
 have HC0_2 := am hc0_2
 clear hr0_2 hc0_2
 have HR0_3 := am hr0_3
 have HC0_3 := am hc0_3
 clear hr0_3 hc0_3
 have HR0_4 := am hr0_4
 have HC0_4 := am hc0_4
 clear hr0_4 hc0_4
 have HR0_5 := am hr0_5
 have HC0_5 := am hc0_5
 clear hr0_5 hc0_5
 have HR0_6 := am hr0_6
 have HC0_6 := am hc0_6
 clear hr0_6 hc0_6
 have HR0_7 := am hr0_7
 have HC0_7 := am hc0_7
 clear hr0_7 hc0_7
 have HR1_0 := am hr1_0
 have HC1_0 := am hc1_0
 clear hr1_0 hc1_0
 have HR1_1 := am hr1_1
 have HC1_1 := am hc1_1
 clear hr1_1 hc1_1
 have HSH := am hsh; clear hsh
 have HB := am (Below.refl w.heap.size w)
 have H := h
 clear h
 unfold laws_FnExactEnvRight.f at H
 revert H; refine bj fun t436 A3 H => ?_
 revert H; refine iDb (fun c4b0 H => ?_) fun c4b0 H => ?_
 ·obtain rfl := Option.some.inj H
  go_enter Tryz.func4, Tryz.ntmps4
  go_wp2_with (first | (refine bx 2 #[.string a0_0, .int .i64 a0_1, .slice A0_2 l0_2.length c0_2, .slice A0_3 l0_3.length c0_3, .slice A0_4 l0_4.length c0_4, .slice A0_5 l0_5.length c0_5, .slice A0_6 l0_6.length c0_6, .slice A0_7 l0_7.length c0_7] 26 ?_; intro gb434 hg w5 hbox hb; have BK434 := am (hbox); have GW434 := am (bsz hg : w.heap.size ≤ gb434); have GE434 := GW434; replace HB := am (below_step bl hb); clear hb hbox hg) | (refine bx 3 #[.slice A1_0 l1_0.length c1_0, .slice A1_1 l1_1.length c1_1, .int .i64 a1_2, .int .i64 a1_3, .int .i64 a1_4, .int .i64 a1_5, .int .i64 a1_6] 38 ?_; intro gb435 hg w6 hbox hb; have BK435 := am (hbox); have GW435 := am (bsz hg : w.heap.size ≤ gb435); have GE435 := GW435; have NB434_435 := am (ne1 hg BK434.out); have NB435_434 := am NB434_435.out.symm; replace BK434 := am (bkb BK434.out hb); replace HB := am (below_step bl hb); clear hb hbox hg; have hnb7 := NB434_435.out; have hnc7 := NB435_434.out; obtain ⟨z8_0, z8_1, z8_2, z8_3, z8_4, z8_5, z8_6, z8_7, y8_0, y8_1, y8_2, y8_3, y8_4, y8_5, y8_6, y8_7⟩ := blk8 BK434.out) | (refine gc 13 (some 12) Tryz.func13 (laws_szProduct.calls _ _ _ _ _ _ _ _ _ _ _ _ _ _ _ _ _ _ _ _ _ _ _ _ ?side1 ?side2 ?side3 ?side4 ?side5 ?side6 ?side7 ?side8 ?side9 ?side10 ?side11 ?side12 A3.out) ?_; (case side1 => exact cb HR0_2.out); (case side2 => exact HC0_2.out); (case side3 => exact cb HR0_3.out); (case side4 => exact HC0_3.out); (case side5 => exact cb HR0_4.out); (case side6 => exact HC0_4.out); (case side7 => exact cb HR0_5.out); (case side8 => exact HC0_5.out); (case side9 => exact cb HR0_6.out); (case side10 => exact HC0_6.out); (case side11 => exact cb HR0_7.out); (case side12 => exact HC0_7.out); rintro e w9 ⟨rfl, hb⟩; refine ⟨_, rfl, ?_⟩; replace BK434 := am (bkb BK434.out hb); replace BK435 := am (bkb BK435.out hb); replace HB := am (below_step bl hb); clear hb))
  go_ret
  exact ⟨er, bl⟩
 revert H; refine bj fun t437 A10 H => ?_
 revert H; refine iDb (fun c11b0 H => ?_) fun c11b0 H => ?_
 ·obtain rfl := Option.some.inj H
  go_enter Tryz.func4, Tryz.ntmps4
  go_wp2_with (first | (refine bx 2 #[.string a0_0, .int .i64 a0_1, .slice A0_2 l0_2.length c0_2, .slice A0_3 l0_3.length c0_3, .slice A0_4 l0_4.length c0_4, .slice A0_5 l0_5.length c0_5, .slice A0_6 l0_6.length c0_6, .slice A0_7 l0_7.length c0_7] 26 ?_; intro gb434 hg w12 hbox hb; have BK434 := am (hbox); have GW434 := am (bsz hg : w.heap.size ≤ gb434); have GE434 := GW434; replace HB := am (below_step bl hb); clear hb hbox hg) | (refine bx 3 #[.slice A1_0 l1_0.length c1_0, .slice A1_1 l1_1.length c1_1, .int .i64 a1_2, .int .i64 a1_3, .int .i64 a1_4, .int .i64 a1_5, .int .i64 a1_6] 38 ?_; intro gb435 hg w13 hbox hb; have BK435 := am (hbox); have GW435 := am (bsz hg : w.heap.size ≤ gb435); have GE435 := GW435; have NB434_435 := am (ne1 hg BK434.out); have NB435_434 := am NB434_435.out.symm; replace BK434 := am (bkb BK434.out hb); replace HB := am (below_step bl hb); clear hb hbox hg; have hnb14 := NB434_435.out; have hnc14 := NB435_434.out; obtain ⟨z15_0, z15_1, z15_2, z15_3, z15_4, z15_5, z15_6, z15_7, y15_0, y15_1, y15_2, y15_3, y15_4, y15_5, y15_6, y15_7⟩ := blk8 BK434.out) | (refine gc 13 (some 12) Tryz.func13 (laws_szProduct.calls _ _ _ _ _ _ _ _ _ _ _ _ _ _ _ _ _ _ _ _ _ _ _ _ ?side1 ?side2 ?side3 ?side4 ?side5 ?side6 ?side7 ?side8 ?side9 ?side10 ?side11 ?side12 A3.out) ?_; (case side1 => exact cb HR0_2.out); (case side2 => exact HC0_2.out); (case side3 => exact cb HR0_3.out); (case side4 => exact HC0_3.out); (case side5 => exact cb HR0_4.out); (case side6 => exact HC0_4.out); (case side7 => exact cb HR0_5.out); (case side8 => exact HC0_5.out); (case side9 => exact cb HR0_6.out); (case side10 => exact HC0_6.out); (case side11 => exact cb HR0_7.out); (case side12 => exact HC0_7.out); rintro e w16 ⟨rfl, hb⟩; refine ⟨_, rfl, ?_⟩; replace BK434 := am (bkb BK434.out hb); replace BK435 := am (bkb BK435.out hb); replace HB := am (below_step bl hb); clear hb; obtain ⟨z17_0, z17_1, z17_2, z17_3, z17_4, z17_5, z17_6, y17_0, y17_1, y17_2, y17_3, y17_4, y17_5, y17_6⟩ := blk7 BK435.out) | (refine gc 18 (some 17) Tryz.func18 (laws_szEnv.calls _ _ _ _ _ _ _ _ _ _ _ _ _ _ ?side1 ?side2 ?side3 ?side4 A10.out) ?_; (case side1 => exact cb HR1_0.out); (case side2 => exact HC1_0.out); (case side3 => exact cb HR1_1.out); (case side4 => exact HC1_1.out); rintro e w18 ⟨rfl, hb⟩; refine ⟨_, rfl, ?_⟩; replace BK434 := am (bkb BK434.out hb); replace BK435 := am (bkb BK435.out hb); replace HB := am (below_step bl hb); clear hb))
  go_ret
  exact ⟨er, bl⟩
 replace H := bi H; obtain ⟨⟨t438, t439, t440, t443, t446, t449, t452, t455⟩, A19, H⟩ := H; dsimp only at H
 replace H := bi H; obtain ⟨⟨t458, t461, t464, t465, t466, t467, t468⟩, A20, H⟩ := H; dsimp only at H
 revert H; refine bj fun t469 A21 H => ?_
 replace H := bi H; obtain ⟨⟨t470, t471, t472, t475, t478, t481, t484, t487⟩, A22, H⟩ := H; dsimp only at H
 replace H := bi H; obtain ⟨⟨t491, t494, t497, t498, t499, t500, t501⟩, A23, H⟩ := H; dsimp only at H
 revert H; refine bj fun t503 A24 H => ?_
 revert H; refine i9 fun c25 H => ?_
 have c25b0 : (t503 != t469) = false := by simpa using c25
 (try (have c25b1 : decide (t503 = t469) = true := by simpa using c25))
 (try (have c25b2 : (t503 == t469) = true := by simpa using c25))
 clear c25
 replace H := bi H; obtain ⟨⟨t504, t505, t506, t509, t512, t515, t518, t521⟩, A26, H⟩ := H; dsimp only at H
 revert H; refine bj fun t524 A27 H => ?_
 replace H := j0 H; obtain ⟨rfl, H⟩ := H
 replace H := bi H; obtain ⟨⟨t525, t528, t531, t532, t533, t534, t535⟩, A29, H⟩ := H; dsimp only at H
 revert H; refine bj fun t536 A30 H => ?_
 replace H := j0 H; obtain ⟨rfl, H⟩ := H
 obtain rfl := Option.some.inj H
 go_enter Tryz.func4, Tryz.ntmps4
 try go_wp2_with (first | (refine bx 2 #[.string a0_0, .int .i64 a0_1, .slice A0_2 l0_2.length c0_2, .slice A0_3 l0_3.length c0_3, .slice A0_4 l0_4.length c0_4, .slice A0_5 l0_5.length c0_5, .slice A0_6 l0_6.length c0_6, .slice A0_7 l0_7.length c0_7] 26 ?_; intro gb434 hg w32 hbox hb; have BK434 := am (hbox); have GW434 := am (bsz hg : w.heap.size ≤ gb434); have GE434 := GW434; replace HB := am (below_step bl hb); clear hb hbox hg) | (refine bx 3 #[.slice A1_0 l1_0.length c1_0, .slice A1_1 l1_1.length c1_1, .int .i64 a1_2, .int .i64 a1_3, .int .i64 a1_4, .int .i64 a1_5, .int .i64 a1_6] 38 ?_; intro gb435 hg w33 hbox hb; have BK435 := am (hbox); have GW435 := am (bsz hg : w.heap.size ≤ gb435); have GE435 := GW435; have NB434_435 := am (ne1 hg BK434.out); have NB435_434 := am NB434_435.out.symm; replace BK434 := am (bkb BK434.out hb); replace HB := am (below_step bl hb); clear hb hbox hg; have hnb34 := NB434_435.out; have hnc34 := NB435_434.out; obtain ⟨z35_0, z35_1, z35_2, z35_3, z35_4, z35_5, z35_6, z35_7, y35_0, y35_1, y35_2, y35_3, y35_4, y35_5, y35_6, y35_7⟩ := blk8 BK434.out) | (refine gc 13 (some 12) Tryz.func13 (laws_szProduct.calls _ _ _ _ _ _ _ _ _ _ _ _ _ _ _ _ _ _ _ _ _ _ _ _ ?side1 ?side2 ?side3 ?side4 ?side5 ?side6 ?side7 ?side8 ?side9 ?side10 ?side11 ?side12 A3.out) ?_; (case side1 => exact cb HR0_2.out); (case side2 => exact HC0_2.out); (case side3 => exact cb HR0_3.out); (case side4 => exact HC0_3.out); (case side5 => exact cb HR0_4.out); (case side6 => exact HC0_4.out); (case side7 => exact cb HR0_5.out); (case side8 => exact HC0_5.out); (case side9 => exact cb HR0_6.out); (case side10 => exact HC0_6.out); (case side11 => exact cb HR0_7.out); (case side12 => exact HC0_7.out); rintro e w36 ⟨rfl, hb⟩; refine ⟨_, rfl, ?_⟩; replace BK434 := am (bkb BK434.out hb); replace BK435 := am (bkb BK435.out hb); replace HB := am (below_step bl hb); clear hb; obtain ⟨z37_0, z37_1, z37_2, z37_3, z37_4, z37_5, z37_6, y37_0, y37_1, y37_2, y37_3, y37_4, y37_5, y37_6⟩ := blk7 BK435.out) | (refine gc 18 (some 17) Tryz.func18 (laws_szEnv.calls _ _ _ _ _ _ _ _ _ _ _ _ _ _ ?side1 ?side2 ?side3 ?side4 A10.out) ?_; (case side1 => exact cb HR1_0.out); (case side2 => exact HC1_0.out); (case side3 => exact cb HR1_1.out); (case side4 => exact HC1_1.out); rintro e w38 ⟨rfl, hb⟩; refine ⟨_, rfl, ?_⟩; replace BK434 := am (bkb BK434.out hb); replace BK435 := am (bkb BK435.out hb); replace HB := am (below_step bl hb); clear hb))
 have n0_ := am (blk_drew BK434.out)
 have n1_ := am (blk_drew BK435.out)
 have n2_ := am (below_drew1 HB.out)
 clear BK434
 clear BK435
 clear HB
 have BK434 := n0_
 have BK435 := n1_
 have HB := n2_
 clear n0_ n1_ n2_
 refine start_ (n := 6) (S := fun w' => w'.cell? ⟨gb434, 0, none⟩ = some (.string a0_0) ∧ w'.cell? ⟨gb434, 1, none⟩ = some (.int .i64 a0_1) ∧ w'.cell? ⟨gb434, 2, none⟩ = some (.slice A0_2 l0_2.length c0_2) ∧ w'.cell? ⟨gb434, 3, none⟩ = some (.slice A0_3 l0_3.length c0_3) ∧ w'.cell? ⟨gb434, 4, none⟩ = some (.slice A0_4 l0_4.length c0_4) ∧ w'.cell? ⟨gb434, 5, none⟩ = some (.slice A0_5 l0_5.length c0_5) ∧ w'.cell? ⟨gb434, 6, none⟩ = some (.slice A0_6 l0_6.length c0_6) ∧ w'.cell? ⟨gb434, 7, none⟩ = some (.slice A0_7 l0_7.length c0_7) ∧ w'.cell? ⟨gb435, 0, none⟩ = some (.slice A1_0 l1_0.length c1_0) ∧ w'.cell? ⟨gb435, 1, none⟩ = some (.slice A1_1 l1_1.length c1_1) ∧ w'.cell? ⟨gb435, 2, none⟩ = some (.int .i64 a1_2) ∧ w'.cell? ⟨gb435, 3, none⟩ = some (.int .i64 a1_3) ∧ w'.cell? ⟨gb435, 4, none⟩ = some (.int .i64 a1_4) ∧ w'.cell? ⟨gb435, 5, none⟩ = some (.int .i64 a1_5) ∧ w'.cell? ⟨gb435, 6, none⟩ = some (.int .i64 a1_6)) (ds := []) #[F_, F_, F_, F_, F_, F_] (by kernel_rfl) rfl rfl ⟨(blk_cell BK434.out 0).trans rfl, (blk_cell BK434.out 1).trans rfl, (blk_cell BK434.out 2).trans rfl, (blk_cell BK434.out 3).trans rfl, (blk_cell BK434.out 4).trans rfl, (blk_cell BK434.out 5).trans rfl, (blk_cell BK434.out 6).trans rfl, (blk_cell BK434.out 7).trans rfl, (blk_cell BK435.out 0).trans rfl, (blk_cell BK435.out 1).trans rfl, (blk_cell BK435.out 2).trans rfl, (blk_cell BK435.out 3).trans rfl, (blk_cell BK435.out 4).trans rfl, (blk_cell BK435.out 5).trans rfl, (blk_cell BK435.out 6).trans rfl⟩ (fun hHeld => ?_)
 generalize w38.drew = w39 at BK434 BK435 HB hHeld ⊢
 refine tv15 0 20 hHeld ?_
 refine tv15 2 22 hHeld ?_
 refine ov 1 21 (fun K hK => ?_)
 refine gk Tryz.func15 (laws_toProduct.calls _ _ _ _ _ _ _ _ _ _ _ _ _ _ _ _ _ _ _ _ _ _ _ _ _ _ _ _ _ _ ?side1 ?side2 ?side3 ?side4 ?side5 ?side6 ?side7 ?side8 ?side9 ?side10 ?side11 ?side12 A19.out) ?_
 (case side1 => exact cb HR0_2.out)
 (case side2 => exact HC0_2.out)
 (case side3 => exact cb HR0_3.out)
 (case side4 => exact HC0_3.out)
 (case side5 => exact cb HR0_4.out)
 (case side6 => exact HC0_4.out)
 (case side7 => exact cb HR0_5.out)
 (case side8 => exact HC0_5.out)
 (case side9 => exact cb HR0_6.out)
 (case side10 => exact HC0_6.out)
 (case side11 => exact cb HR0_7.out)
 (case side12 => exact HC0_7.out)
 rintro e w40 ⟨v441, v444, v447, v450, v453, v456, rfl, ho0, ho1, ho2, ho3, ho4, ho5, hb⟩
 refine ⟨_, rfl, ?_⟩
 have n0_ := am (Kd.R_lower ho0 (below_size bl))
 have n1_ := am (Kd.R_lower ho1 (below_size bl))
 have n2_ := am (Kd.R_lower ho2 (below_size bl))
 have n3_ := am (Kd.R_lower ho3 (below_size bl))
 have n4_ := am (Kd.R_lower ho4 (below_size bl))
 have n5_ := am (Kd.R_lower ho5 (below_size bl))
 have n6_ := am (bkb BK434.out hb)
 have n7_ := am (bkb BK435.out hb)
 have n8_ := am (below_step bl hb)
 clear BK434
 clear BK435
 clear HB
 have HO442 := n0_
 have HO445 := n1_
 have HO448 := n2_
 have HO451 := n3_
 have HO454 := n4_
 have HO457 := n5_
 have BK434 := n6_
 have BK435 := n7_
 have HB := n8_
 clear n0_ n1_ n2_ n3_ n4_ n5_ n6_ n7_ n8_
 skip
 skip
 skip
 skip
 skip
 skip
 skip
 skip
 skip
 skip
 refine hK.out _ _ ⟨(blk_cell BK434.out 0).trans rfl, (blk_cell BK434.out 1).trans rfl, (blk_cell BK434.out 2).trans rfl, (blk_cell BK434.out 3).trans rfl, (blk_cell BK434.out 4).trans rfl, (blk_cell BK434.out 5).trans rfl, (blk_cell BK434.out 6).trans rfl, (blk_cell BK434.out 7).trans rfl, (blk_cell BK435.out 0).trans rfl, (blk_cell BK435.out 1).trans rfl, (blk_cell BK435.out 2).trans rfl, (blk_cell BK435.out 3).trans rfl, (blk_cell BK435.out 4).trans rfl, (blk_cell BK435.out 5).trans rfl, (blk_cell BK435.out 6).trans rfl⟩ (fun hHeld => ?_)
 clear hK K
 refine norm_ (a' := ?_) ?_ ?_
 rotate_left
 ·show Act.put _ (some 21) _ = _
  simp only [Act.put, z1, z2, z3, i64_w, i32_w]
  rfl
 refine ov 3 23 (fun K hK => ?_)
 refine gk Tryz.func20 (laws_toEnv.calls _ _ _ _ _ _ _ _ _ _ _ _ _ _ _ _ _ _ _ _ ?side1 ?side2 ?side3 ?side4 A20.out) ?_
 (case side1 => exact cb HR1_0.out)
 (case side2 => exact HC1_0.out)
 (case side3 => exact cb HR1_1.out)
 (case side4 => exact HC1_1.out)
 rintro e w41 ⟨v459, v462, rfl, ho0, ho1, hb⟩
 refine ⟨_, rfl, ?_⟩
 have n0_ := am (rb HO442.out hb)
 have n1_ := am (rb HO445.out hb)
 have n2_ := am (rb HO448.out hb)
 have n3_ := am (rb HO451.out hb)
 have n4_ := am (rb HO454.out hb)
 have n5_ := am (rb HO457.out hb)
 have n6_ := am (Kd.R_lower ho0 (below_size bl))
 have n7_ := am (Kd.R_lower ho1 (below_size bl))
 have n8_ := am (bkb BK434.out hb)
 have n9_ := am (bkb BK435.out hb)
 have n10_ := am (below_step bl hb)
 clear HO442
 clear HO445
 clear HO448
 clear HO451
 clear HO454
 clear HO457
 clear BK434
 clear BK435
 clear HB
 have HO442 := n0_
 have HO445 := n1_
 have HO448 := n2_
 have HO451 := n3_
 have HO454 := n4_
 have HO457 := n5_
 have HO460 := n6_
 have HO463 := n7_
 have BK434 := n8_
 have BK435 := n9_
 have HB := n10_
 clear n0_ n1_ n2_ n3_ n4_ n5_ n6_ n7_ n8_ n9_ n10_
 skip
 skip
 skip
 skip
 skip
 skip
 obtain ⟨Ao42, co42, eo42⟩ := Kd.R_slice HO442.out
 (first | subst eo42 | (injection eo42 with f1_ f2_ f3_; have f4_ := f1_.symm; have f5_ := f3_.symm; clear f1_ f2_ f3_; subst f4_; subst f5_))
 obtain ⟨Ao43, co43, eo43⟩ := Kd.R_slice HO445.out
 (first | subst eo43 | (injection eo43 with f1_ f2_ f3_; have f4_ := f1_.symm; have f5_ := f3_.symm; clear f1_ f2_ f3_; subst f4_; subst f5_))
 obtain ⟨Ao44, co44, eo44⟩ := Kd.R_slice HO448.out
 (first | subst eo44 | (injection eo44 with f1_ f2_ f3_; have f4_ := f1_.symm; have f5_ := f3_.symm; clear f1_ f2_ f3_; subst f4_; subst f5_))
 obtain ⟨Ao45, co45, eo45⟩ := Kd.R_slice HO451.out
 (first | subst eo45 | (injection eo45 with f1_ f2_ f3_; have f4_ := f1_.symm; have f5_ := f3_.symm; clear f1_ f2_ f3_; subst f4_; subst f5_))
 obtain ⟨Ao46, co46, eo46⟩ := Kd.R_slice HO454.out
 (first | subst eo46 | (injection eo46 with f1_ f2_ f3_; have f4_ := f1_.symm; have f5_ := f3_.symm; clear f1_ f2_ f3_; subst f4_; subst f5_))
 obtain ⟨Ao47, co47, eo47⟩ := Kd.R_slice HO457.out
 (first | subst eo47 | (injection eo47 with f1_ f2_ f3_; have f4_ := f1_.symm; have f5_ := f3_.symm; clear f1_ f2_ f3_; subst f4_; subst f5_))
 obtain ⟨Ao48, co48, eo48⟩ := Kd.R_slice HO460.out
 (first | subst eo48 | (injection eo48 with f1_ f2_ f3_; have f4_ := f1_.symm; have f5_ := f3_.symm; clear f1_ f2_ f3_; subst f4_; subst f5_))
 obtain ⟨Ao49, co49, eo49⟩ := Kd.R_slice HO463.out
 (first | subst eo49 | (injection eo49 with f1_ f2_ f3_; have f4_ := f1_.symm; have f5_ := f3_.symm; clear f1_ f2_ f3_; subst f4_; subst f5_))
 refine hK.out _ _ ⟨(blk_cell BK434.out 0).trans rfl, (blk_cell BK434.out 1).trans rfl, (blk_cell BK434.out 2).trans rfl, (blk_cell BK434.out 3).trans rfl, (blk_cell BK434.out 4).trans rfl, (blk_cell BK434.out 5).trans rfl, (blk_cell BK434.out 6).trans rfl, (blk_cell BK434.out 7).trans rfl, (blk_cell BK435.out 0).trans rfl, (blk_cell BK435.out 1).trans rfl, (blk_cell BK435.out 2).trans rfl, (blk_cell BK435.out 3).trans rfl, (blk_cell BK435.out 4).trans rfl, (blk_cell BK435.out 5).trans rfl, (blk_cell BK435.out 6).trans rfl⟩ (fun hHeld => ?_)
 clear hK K
 refine norm_ (a' := ?_) ?_ ?_
 rotate_left
 ·show Act.put _ (some 23) _ = _
  simp only [Act.put, z1, z2, z3, i64_w, i32_w]
  rfl
 refine ov 4 24 (fun K hK => ?_)
 refine gk Tryz.func19 (spec_EnvRight.calls _ _ _ _ _ _ _ _ _ _ _ _ _ _ _ _ _ _ _ _ _ _ _ _ _ _ _ _ _ _ _ _ _ _ ?side1 ?side2 ?side3 ?side4 ?side5 ?side6 ?side7 ?side8 ?side9 ?side10 ?side11 ?side12 ?side13 ?side14 ?side15 ?side16 A21.out) ?_
 (case side1 => exact cc (Kd.R_reads' HO442.out).2.2)
 (case side2 => exact (Kd.R_reads' HO442.out).2.1)
 (case side3 => exact cc (Kd.R_reads' HO445.out).2.2)
 (case side4 => exact (Kd.R_reads' HO445.out).2.1)
 (case side5 => exact cc (Kd.R_reads' HO448.out).2.2)
 (case side6 => exact (Kd.R_reads' HO448.out).2.1)
 (case side7 => exact cc (Kd.R_reads' HO451.out).2.2)
 (case side8 => exact (Kd.R_reads' HO451.out).2.1)
 (case side9 => exact cc (Kd.R_reads' HO454.out).2.2)
 (case side10 => exact (Kd.R_reads' HO454.out).2.1)
 (case side11 => exact cc (Kd.R_reads' HO457.out).2.2)
 (case side12 => exact (Kd.R_reads' HO457.out).2.1)
 (case side13 => exact cc (Kd.R_reads' HO460.out).2.2)
 (case side14 => exact (Kd.R_reads' HO460.out).2.1)
 (case side15 => exact cc (Kd.R_reads' HO463.out).2.2)
 (case side16 => exact (Kd.R_reads' HO463.out).2.1)
 rintro e w50 ⟨rfl, hb⟩
 refine ⟨_, rfl, ?_⟩
 have n0_ := am (rb HO442.out hb)
 have n1_ := am (rb HO445.out hb)
 have n2_ := am (rb HO448.out hb)
 have n3_ := am (rb HO451.out hb)
 have n4_ := am (rb HO454.out hb)
 have n5_ := am (rb HO457.out hb)
 have n6_ := am (rb HO460.out hb)
 have n7_ := am (rb HO463.out hb)
 have n8_ := am (bkb BK434.out hb)
 have n9_ := am (bkb BK435.out hb)
 have n10_ := am (below_step bl hb)
 clear HO442
 clear HO445
 clear HO448
 clear HO451
 clear HO454
 clear HO457
 clear HO460
 clear HO463
 clear BK434
 clear BK435
 clear HB
 have HO442 := n0_
 have HO445 := n1_
 have HO448 := n2_
 have HO451 := n3_
 have HO454 := n4_
 have HO457 := n5_
 have HO460 := n6_
 have HO463 := n7_
 have BK434 := n8_
 have BK435 := n9_
 have HB := n10_
 clear n0_ n1_ n2_ n3_ n4_ n5_ n6_ n7_ n8_ n9_ n10_
 skip
 skip
 skip
 skip
 refine hK.out _ _ ⟨(blk_cell BK434.out 0).trans rfl, (blk_cell BK434.out 1).trans rfl, (blk_cell BK434.out 2).trans rfl, (blk_cell BK434.out 3).trans rfl, (blk_cell BK434.out 4).trans rfl, (blk_cell BK434.out 5).trans rfl, (blk_cell BK434.out 6).trans rfl, (blk_cell BK434.out 7).trans rfl, (blk_cell BK435.out 0).trans rfl, (blk_cell BK435.out 1).trans rfl, (blk_cell BK435.out 2).trans rfl, (blk_cell BK435.out 3).trans rfl, (blk_cell BK435.out 4).trans rfl, (blk_cell BK435.out 5).trans rfl, (blk_cell BK435.out 6).trans rfl⟩ (fun hHeld => ?_)
 clear hK K
 refine norm_ (a' := ?_) ?_ ?_
 rotate_left
 ·show Act.put _ (some 24) _ = _
  simp only [Act.put, z1, z2, z3, i64_w, i32_w]
  rfl
 refine pv 5 6 ?_
 refine done_ (by kernel_rfl) ?_
 obtain ⟨z51_0, z51_1, z51_2, z51_3, z51_4, z51_5, z51_6, z51_7, y51_0, y51_1, y51_2, y51_3, y51_4, y51_5, y51_6, y51_7⟩ := blk8 BK434.out
 try go_wp2_with (first | (refine gc 15 (some 26) Tryz.func15 (laws_toProduct.calls _ _ _ _ _ _ _ _ _ _ _ _ _ _ _ _ _ _ _ _ _ _ _ _ _ _ _ _ _ _ ?side1 ?side2 ?side3 ?side4 ?side5 ?side6 ?side7 ?side8 ?side9 ?side10 ?side11 ?side12 A22.out) ?_; (case side1 => exact cb HR0_2.out); (case side2 => exact HC0_2.out); (case side3 => exact cb HR0_3.out); (case side4 => exact HC0_3.out); (case side5 => exact cb HR0_4.out); (case side6 => exact HC0_4.out); (case side7 => exact cb HR0_5.out); (case side8 => exact HC0_5.out); (case side9 => exact cb HR0_6.out); (case side10 => exact HC0_6.out); (case side11 => exact cb HR0_7.out); (case side12 => exact HC0_7.out); rintro e w52 ⟨v473, v476, v479, v482, v485, v488, rfl, ho0, ho1, ho2, ho3, ho4, ho5, hb⟩; refine ⟨_, rfl, ?_⟩; replace HO460 := am (rb HO460.out hb); replace HO463 := am (rb HO463.out hb); have HO474 := am (Kd.R_lower (Kd.R_new' (Kd.R_new' ho0 (Kd.R_lt (kr HO442.out))) (Kd.R_lt (kr HO445.out))) (below_size bl)); have HO477 := am (Kd.R_lower (Kd.R_new' (Kd.R_new' ho1 (Kd.R_lt (kr HO442.out))) (Kd.R_lt (kr HO445.out))) (below_size bl)); replace HO442 := am (Kd.R_mono (Kd.R_told (Kd.R_told (Kd.R_old (kr HO442.out) hb) (Kd.R_base ho0)) (Kd.R_base ho1)) (fun _ h_ => h_.1)); replace HO445 := am (Kd.R_mono (Kd.R_told (Kd.R_told (Kd.R_old (kr HO445.out) hb) (Kd.R_base ho0)) (Kd.R_base ho1)) (fun _ h_ => h_.1)); have HO480 := am (Kd.R_lower (Kd.R_new' ho2 (Kd.R_lt (kr HO448.out))) (below_size bl)); replace HO448 := am (Kd.R_elder' (kr HO448.out) (Kd.R_base ho2) hb); have HO483 := am (Kd.R_lower (Kd.R_new' (Kd.R_new' (Kd.R_new' ho3 (Kd.R_lt (kr HO451.out))) (Kd.R_lt (kr HO454.out))) (Kd.R_lt (kr HO457.out))) (below_size bl)); have HO486 := am (Kd.R_lower (Kd.R_new' (Kd.R_new' (Kd.R_new' ho4 (Kd.R_lt (kr HO451.out))) (Kd.R_lt (kr HO454.out))) (Kd.R_lt (kr HO457.out))) (below_size bl)); have HO489 := am (Kd.R_lower (Kd.R_new' (Kd.R_new' (Kd.R_new' ho5 (Kd.R_lt (kr HO451.out))) (Kd.R_lt (kr HO454.out))) (Kd.R_lt (kr HO457.out))) (below_size bl)); replace HO451 := am (Kd.R_mono (Kd.R_told (Kd.R_told (Kd.R_told (Kd.R_old (kr HO451.out) hb) (Kd.R_base ho3)) (Kd.R_base ho4)) (Kd.R_base ho5)) (fun _ h_ => h_.1)); replace HO454 := am (Kd.R_mono (Kd.R_told (Kd.R_told (Kd.R_told (Kd.R_old (kr HO454.out) hb) (Kd.R_base ho3)) (Kd.R_base ho4)) (Kd.R_base ho5)) (fun _ h_ => h_.1)); replace HO457 := am (Kd.R_mono (Kd.R_told (Kd.R_told (Kd.R_told (Kd.R_old (kr HO457.out) hb) (Kd.R_base ho3)) (Kd.R_base ho4)) (Kd.R_base ho5)) (fun _ h_ => h_.1)); replace BK434 := am (bkb BK434.out hb); replace BK435 := am (bkb BK435.out hb); replace HB := am (below_step bl hb); clear hb ho0 ho1 ho2 ho3 ho4 ho5) | (refine bx 7 #[.string (⟨#[]⟩ : ByteArray), .int .i64 0, .slice none 0 0, .slice none 0 0, .slice none 0 0, .slice none 0 0, .slice none 0 0, .slice none 0 0] 32 ?_; intro gb490 hg w53 hbox hb; replace HO442 := am (rb HO442.out hb); replace HO445 := am (rb HO445.out hb); replace HO448 := am (rb HO448.out hb); replace HO451 := am (rb HO451.out hb); replace HO454 := am (rb HO454.out hb); replace HO457 := am (rb HO457.out hb); replace HO460 := am (rb HO460.out hb); replace HO463 := am (rb HO463.out hb); replace HO474 := am (rb HO474.out hb); replace HO477 := am (rb HO477.out hb); replace HO480 := am (rb HO480.out hb); replace HO483 := am (rb HO483.out hb); replace HO486 := am (rb HO486.out hb); replace HO489 := am (rb HO489.out hb); have BK490 := am (hbox); have GW490 := am (bsz hg : w.heap.size ≤ gb490); have GE490 := GW490; have NB434_490 := am (ne1 hg BK434.out); have NB490_434 := am NB434_490.out.symm; replace BK434 := am (bkb BK434.out hb); have NB435_490 := am (ne1 hg BK435.out); have NB490_435 := am NB435_490.out.symm; replace BK435 := am (bkb BK435.out hb); replace HB := am (below_step bl hb); clear hb hbox hg; have hnb54 := NB490_434.out; have hnc54 := NB434_490.out; have hnb55 := NB490_435.out; have hnc55 := NB435_490.out; obtain ⟨z56_0, z56_1, z56_2, z56_3, z56_4, z56_5, z56_6, z56_7, y56_0, y56_1, y56_2, y56_3, y56_4, y56_5, y56_6, y56_7⟩ := blk8 BK490.out; obtain ⟨Ao57, co57, eo57⟩ := Kd.R_slice HO474.out; subst eo57; obtain ⟨Ao58, co58, eo58⟩ := Kd.R_slice HO477.out; subst eo58; obtain ⟨Ao59, co59, eo59⟩ := Kd.R_slice HO480.out; subst eo59; obtain ⟨Ao60, co60, eo60⟩ := Kd.R_slice HO483.out; subst eo60; obtain ⟨Ao61, co61, eo61⟩ := Kd.R_slice HO486.out; subst eo61; obtain ⟨Ao62, co62, eo62⟩ := Kd.R_slice HO489.out; subst eo62; obtain ⟨z63_0, z63_1, z63_2, z63_3, z63_4, z63_5, z63_6, y63_0, y63_1, y63_2, y63_3, y63_4, y63_5, y63_6⟩ := blk7 BK435.out) | (refine gc 20 (some 28) Tryz.func20 (laws_toEnv.calls _ _ _ _ _ _ _ _ _ _ _ _ _ _ _ _ _ _ _ _ ?side1 ?side2 ?side3 ?side4 A23.out) ?_; (case side1 => exact Kd.C_below HR1_0.out bl); (case side2 => exact HC1_0.out); (case side3 => exact Kd.C_below HR1_1.out bl); (case side4 => exact HC1_1.out); rintro e w64 ⟨v492, v495, rfl, ho0, ho1, hb⟩; refine ⟨_, rfl, ?_⟩; replace HO442 := am (Kd.R_below (by (with_reducible repeat (first | apply Kd.R_alloc | apply Kd.R_drewN | apply Kd.R_drew)); exact (Kd.R_mono (Kd.R_far (p := ⟨gb490, 7, none⟩) (Kd.R_far (p := ⟨gb490, 6, none⟩) (Kd.R_far (p := ⟨gb490, 5, none⟩) (Kd.R_far (p := ⟨gb490, 4, none⟩) (Kd.R_far (p := ⟨gb490, 3, none⟩) (Kd.R_far (p := ⟨gb490, 2, none⟩) (Kd.R_far (p := ⟨gb490, 1, none⟩) (Kd.R_far (p := ⟨gb490, 0, none⟩) (Kd.R_types HO442.out BK490.out (by decide)) (fun _ hk => hk.2) (.string t470)) (fun _ hk => hk.2) (.int .i64 t471)) (fun _ hk => hk.2) (.slice Ao57 t472.length co57)) (fun _ hk => hk.2) (.slice Ao58 t475.length co58)) (fun _ hk => hk.2) (.slice Ao59 t478.length co59)) (fun _ hk => hk.2) (.slice Ao60 t481.length co60)) (fun _ hk => hk.2) (.slice Ao61 t484.length co61)) (fun _ hk => hk.2) (.slice Ao62 t487.length co62)) (fun _ h_ => h_.1))) hb); replace HO445 := am (Kd.R_below (by (with_reducible repeat (first | apply Kd.R_alloc | apply Kd.R_drewN | apply Kd.R_drew)); exact (Kd.R_mono (Kd.R_far (p := ⟨gb490, 7, none⟩) (Kd.R_far (p := ⟨gb490, 6, none⟩) (Kd.R_far (p := ⟨gb490, 5, none⟩) (Kd.R_far (p := ⟨gb490, 4, none⟩) (Kd.R_far (p := ⟨gb490, 3, none⟩) (Kd.R_far (p := ⟨gb490, 2, none⟩) (Kd.R_far (p := ⟨gb490, 1, none⟩) (Kd.R_far (p := ⟨gb490, 0, none⟩) (Kd.R_types HO445.out BK490.out (by decide)) (fun _ hk => hk.2) (.string t470)) (fun _ hk => hk.2) (.int .i64 t471)) (fun _ hk => hk.2) (.slice Ao57 t472.length co57)) (fun _ hk => hk.2) (.slice Ao58 t475.length co58)) (fun _ hk => hk.2) (.slice Ao59 t478.length co59)) (fun _ hk => hk.2) (.slice Ao60 t481.length co60)) (fun _ hk => hk.2) (.slice Ao61 t484.length co61)) (fun _ hk => hk.2) (.slice Ao62 t487.length co62)) (fun _ h_ => h_.1))) hb); replace HO448 := am (Kd.R_below (by (with_reducible repeat (first | apply Kd.R_alloc | apply Kd.R_drewN | apply Kd.R_drew)); exact (Kd.R_mono (Kd.R_far (p := ⟨gb490, 7, none⟩) (Kd.R_far (p := ⟨gb490, 6, none⟩) (Kd.R_far (p := ⟨gb490, 5, none⟩) (Kd.R_far (p := ⟨gb490, 4, none⟩) (Kd.R_far (p := ⟨gb490, 3, none⟩) (Kd.R_far (p := ⟨gb490, 2, none⟩) (Kd.R_far (p := ⟨gb490, 1, none⟩) (Kd.R_far (p := ⟨gb490, 0, none⟩) (Kd.R_types HO448.out BK490.out (by decide)) (fun _ hk => hk.2) (.string t470)) (fun _ hk => hk.2) (.int .i64 t471)) (fun _ hk => hk.2) (.slice Ao57 t472.length co57)) (fun _ hk => hk.2) (.slice Ao58 t475.length co58)) (fun _ hk => hk.2) (.slice Ao59 t478.length co59)) (fun _ hk => hk.2) (.slice Ao60 t481.length co60)) (fun _ hk => hk.2) (.slice Ao61 t484.length co61)) (fun _ hk => hk.2) (.slice Ao62 t487.length co62)) (fun _ h_ => h_.1))) hb); replace HO451 := am (Kd.R_below (by (with_reducible repeat (first | apply Kd.R_alloc | apply Kd.R_drewN | apply Kd.R_drew)); exact (Kd.R_mono (Kd.R_far (p := ⟨gb490, 7, none⟩) (Kd.R_far (p := ⟨gb490, 6, none⟩) (Kd.R_far (p := ⟨gb490, 5, none⟩) (Kd.R_far (p := ⟨gb490, 4, none⟩) (Kd.R_far (p := ⟨gb490, 3, none⟩) (Kd.R_far (p := ⟨gb490, 2, none⟩) (Kd.R_far (p := ⟨gb490, 1, none⟩) (Kd.R_far (p := ⟨gb490, 0, none⟩) (Kd.R_types HO451.out BK490.out (by decide)) (fun _ hk => hk.2) (.string t470)) (fun _ hk => hk.2) (.int .i64 t471)) (fun _ hk => hk.2) (.slice Ao57 t472.length co57)) (fun _ hk => hk.2) (.slice Ao58 t475.length co58)) (fun _ hk => hk.2) (.slice Ao59 t478.length co59)) (fun _ hk => hk.2) (.slice Ao60 t481.length co60)) (fun _ hk => hk.2) (.slice Ao61 t484.length co61)) (fun _ hk => hk.2) (.slice Ao62 t487.length co62)) (fun _ h_ => h_.1))) hb); replace HO454 := am (Kd.R_below (by (with_reducible repeat (first | apply Kd.R_alloc | apply Kd.R_drewN | apply Kd.R_drew)); exact (Kd.R_mono (Kd.R_far (p := ⟨gb490, 7, none⟩) (Kd.R_far (p := ⟨gb490, 6, none⟩) (Kd.R_far (p := ⟨gb490, 5, none⟩) (Kd.R_far (p := ⟨gb490, 4, none⟩) (Kd.R_far (p := ⟨gb490, 3, none⟩) (Kd.R_far (p := ⟨gb490, 2, none⟩) (Kd.R_far (p := ⟨gb490, 1, none⟩) (Kd.R_far (p := ⟨gb490, 0, none⟩) (Kd.R_types HO454.out BK490.out (by decide)) (fun _ hk => hk.2) (.string t470)) (fun _ hk => hk.2) (.int .i64 t471)) (fun _ hk => hk.2) (.slice Ao57 t472.length co57)) (fun _ hk => hk.2) (.slice Ao58 t475.length co58)) (fun _ hk => hk.2) (.slice Ao59 t478.length co59)) (fun _ hk => hk.2) (.slice Ao60 t481.length co60)) (fun _ hk => hk.2) (.slice Ao61 t484.length co61)) (fun _ hk => hk.2) (.slice Ao62 t487.length co62)) (fun _ h_ => h_.1))) hb); replace HO457 := am (Kd.R_below (by (with_reducible repeat (first | apply Kd.R_alloc | apply Kd.R_drewN | apply Kd.R_drew)); exact (Kd.R_mono (Kd.R_far (p := ⟨gb490, 7, none⟩) (Kd.R_far (p := ⟨gb490, 6, none⟩) (Kd.R_far (p := ⟨gb490, 5, none⟩) (Kd.R_far (p := ⟨gb490, 4, none⟩) (Kd.R_far (p := ⟨gb490, 3, none⟩) (Kd.R_far (p := ⟨gb490, 2, none⟩) (Kd.R_far (p := ⟨gb490, 1, none⟩) (Kd.R_far (p := ⟨gb490, 0, none⟩) (Kd.R_types HO457.out BK490.out (by decide)) (fun _ hk => hk.2) (.string t470)) (fun _ hk => hk.2) (.int .i64 t471)) (fun _ hk => hk.2) (.slice Ao57 t472.length co57)) (fun _ hk => hk.2) (.slice Ao58 t475.length co58)) (fun _ hk => hk.2) (.slice Ao59 t478.length co59)) (fun _ hk => hk.2) (.slice Ao60 t481.length co60)) (fun _ hk => hk.2) (.slice Ao61 t484.length co61)) (fun _ hk => hk.2) (.slice Ao62 t487.length co62)) (fun _ h_ => h_.1))) hb); replace HO474 := am (Kd.R_below (by (with_reducible repeat (first | apply Kd.R_alloc | apply Kd.R_drewN | apply Kd.R_drew)); exact (Kd.R_mono (Kd.R_far (p := ⟨gb490, 7, none⟩) (Kd.R_far (p := ⟨gb490, 6, none⟩) (Kd.R_far (p := ⟨gb490, 5, none⟩) (Kd.R_far (p := ⟨gb490, 4, none⟩) (Kd.R_far (p := ⟨gb490, 3, none⟩) (Kd.R_far (p := ⟨gb490, 2, none⟩) (Kd.R_far (p := ⟨gb490, 1, none⟩) (Kd.R_far (p := ⟨gb490, 0, none⟩) (Kd.R_types HO474.out BK490.out (by decide)) (fun _ hk => hk.2) (.string t470)) (fun _ hk => hk.2) (.int .i64 t471)) (fun _ hk => hk.2) (.slice Ao57 t472.length co57)) (fun _ hk => hk.2) (.slice Ao58 t475.length co58)) (fun _ hk => hk.2) (.slice Ao59 t478.length co59)) (fun _ hk => hk.2) (.slice Ao60 t481.length co60)) (fun _ hk => hk.2) (.slice Ao61 t484.length co61)) (fun _ hk => hk.2) (.slice Ao62 t487.length co62)) (fun _ h_ => h_.1))) hb); replace HO477 := am (Kd.R_below (by (with_reducible repeat (first | apply Kd.R_alloc | apply Kd.R_drewN | apply Kd.R_drew)); exact (Kd.R_mono (Kd.R_far (p := ⟨gb490, 7, none⟩) (Kd.R_far (p := ⟨gb490, 6, none⟩) (Kd.R_far (p := ⟨gb490, 5, none⟩) (Kd.R_far (p := ⟨gb490, 4, none⟩) (Kd.R_far (p := ⟨gb490, 3, none⟩) (Kd.R_far (p := ⟨gb490, 2, none⟩) (Kd.R_far (p := ⟨gb490, 1, none⟩) (Kd.R_far (p := ⟨gb490, 0, none⟩) (Kd.R_types HO477.out BK490.out (by decide)) (fun _ hk => hk.2) (.string t470)) (fun _ hk => hk.2) (.int .i64 t471)) (fun _ hk => hk.2) (.slice Ao57 t472.length co57)) (fun _ hk => hk.2) (.slice Ao58 t475.length co58)) (fun _ hk => hk.2) (.slice Ao59 t478.length co59)) (fun _ hk => hk.2) (.slice Ao60 t481.length co60)) (fun _ hk => hk.2) (.slice Ao61 t484.length co61)) (fun _ hk => hk.2) (.slice Ao62 t487.length co62)) (fun _ h_ => h_.1))) hb); replace HO480 := am (Kd.R_below (by (with_reducible repeat (first | apply Kd.R_alloc | apply Kd.R_drewN | apply Kd.R_drew)); exact (Kd.R_mono (Kd.R_far (p := ⟨gb490, 7, none⟩) (Kd.R_far (p := ⟨gb490, 6, none⟩) (Kd.R_far (p := ⟨gb490, 5, none⟩) (Kd.R_far (p := ⟨gb490, 4, none⟩) (Kd.R_far (p := ⟨gb490, 3, none⟩) (Kd.R_far (p := ⟨gb490, 2, none⟩) (Kd.R_far (p := ⟨gb490, 1, none⟩) (Kd.R_far (p := ⟨gb490, 0, none⟩) (Kd.R_types HO480.out BK490.out (by decide)) (fun _ hk => hk.2) (.string t470)) (fun _ hk => hk.2) (.int .i64 t471)) (fun _ hk => hk.2) (.slice Ao57 t472.length co57)) (fun _ hk => hk.2) (.slice Ao58 t475.length co58)) (fun _ hk => hk.2) (.slice Ao59 t478.length co59)) (fun _ hk => hk.2) (.slice Ao60 t481.length co60)) (fun _ hk => hk.2) (.slice Ao61 t484.length co61)) (fun _ hk => hk.2) (.slice Ao62 t487.length co62)) (fun _ h_ => h_.1))) hb); replace HO483 := am (Kd.R_below (by (with_reducible repeat (first | apply Kd.R_alloc | apply Kd.R_drewN | apply Kd.R_drew)); exact (Kd.R_mono (Kd.R_far (p := ⟨gb490, 7, none⟩) (Kd.R_far (p := ⟨gb490, 6, none⟩) (Kd.R_far (p := ⟨gb490, 5, none⟩) (Kd.R_far (p := ⟨gb490, 4, none⟩) (Kd.R_far (p := ⟨gb490, 3, none⟩) (Kd.R_far (p := ⟨gb490, 2, none⟩) (Kd.R_far (p := ⟨gb490, 1, none⟩) (Kd.R_far (p := ⟨gb490, 0, none⟩) (Kd.R_types HO483.out BK490.out (by decide)) (fun _ hk => hk.2) (.string t470)) (fun _ hk => hk.2) (.int .i64 t471)) (fun _ hk => hk.2) (.slice Ao57 t472.length co57)) (fun _ hk => hk.2) (.slice Ao58 t475.length co58)) (fun _ hk => hk.2) (.slice Ao59 t478.length co59)) (fun _ hk => hk.2) (.slice Ao60 t481.length co60)) (fun _ hk => hk.2) (.slice Ao61 t484.length co61)) (fun _ hk => hk.2) (.slice Ao62 t487.length co62)) (fun _ h_ => h_.1))) hb); replace HO486 := am (Kd.R_below (by (with_reducible repeat (first | apply Kd.R_alloc | apply Kd.R_drewN | apply Kd.R_drew)); exact (Kd.R_mono (Kd.R_far (p := ⟨gb490, 7, none⟩) (Kd.R_far (p := ⟨gb490, 6, none⟩) (Kd.R_far (p := ⟨gb490, 5, none⟩) (Kd.R_far (p := ⟨gb490, 4, none⟩) (Kd.R_far (p := ⟨gb490, 3, none⟩) (Kd.R_far (p := ⟨gb490, 2, none⟩) (Kd.R_far (p := ⟨gb490, 1, none⟩) (Kd.R_far (p := ⟨gb490, 0, none⟩) (Kd.R_types HO486.out BK490.out (by decide)) (fun _ hk => hk.2) (.string t470)) (fun _ hk => hk.2) (.int .i64 t471)) (fun _ hk => hk.2) (.slice Ao57 t472.length co57)) (fun _ hk => hk.2) (.slice Ao58 t475.length co58)) (fun _ hk => hk.2) (.slice Ao59 t478.length co59)) (fun _ hk => hk.2) (.slice Ao60 t481.length co60)) (fun _ hk => hk.2) (.slice Ao61 t484.length co61)) (fun _ hk => hk.2) (.slice Ao62 t487.length co62)) (fun _ h_ => h_.1))) hb); replace HO489 := am (Kd.R_below (by (with_reducible repeat (first | apply Kd.R_alloc | apply Kd.R_drewN | apply Kd.R_drew)); exact (Kd.R_mono (Kd.R_far (p := ⟨gb490, 7, none⟩) (Kd.R_far (p := ⟨gb490, 6, none⟩) (Kd.R_far (p := ⟨gb490, 5, none⟩) (Kd.R_far (p := ⟨gb490, 4, none⟩) (Kd.R_far (p := ⟨gb490, 3, none⟩) (Kd.R_far (p := ⟨gb490, 2, none⟩) (Kd.R_far (p := ⟨gb490, 1, none⟩) (Kd.R_far (p := ⟨gb490, 0, none⟩) (Kd.R_types HO489.out BK490.out (by decide)) (fun _ hk => hk.2) (.string t470)) (fun _ hk => hk.2) (.int .i64 t471)) (fun _ hk => hk.2) (.slice Ao57 t472.length co57)) (fun _ hk => hk.2) (.slice Ao58 t475.length co58)) (fun _ hk => hk.2) (.slice Ao59 t478.length co59)) (fun _ hk => hk.2) (.slice Ao60 t481.length co60)) (fun _ hk => hk.2) (.slice Ao61 t484.length co61)) (fun _ hk => hk.2) (.slice Ao62 t487.length co62)) (fun _ h_ => h_.1))) hb); have HO493 := am (Kd.R_lower (Kd.R_new' (Kd.R_new' ho0 (Kd.R_lt (by (with_reducible repeat (first | apply Kd.R_alloc | apply Kd.R_drewN | apply Kd.R_drew)); exact (Kd.R_mono (Kd.R_far (p := ⟨gb490, 7, none⟩) (Kd.R_far (p := ⟨gb490, 6, none⟩) (Kd.R_far (p := ⟨gb490, 5, none⟩) (Kd.R_far (p := ⟨gb490, 4, none⟩) (Kd.R_far (p := ⟨gb490, 3, none⟩) (Kd.R_far (p := ⟨gb490, 2, none⟩) (Kd.R_far (p := ⟨gb490, 1, none⟩) (Kd.R_far (p := ⟨gb490, 0, none⟩) (Kd.R_types HO460.out BK490.out (by decide)) (fun _ hk => hk.2) (.string t470)) (fun _ hk => hk.2) (.int .i64 t471)) (fun _ hk => hk.2) (.slice Ao57 t472.length co57)) (fun _ hk => hk.2) (.slice Ao58 t475.length co58)) (fun _ hk => hk.2) (.slice Ao59 t478.length co59)) (fun _ hk => hk.2) (.slice Ao60 t481.length co60)) (fun _ hk => hk.2) (.slice Ao61 t484.length co61)) (fun _ hk => hk.2) (.slice Ao62 t487.length co62)) (fun _ h_ => h_.1))))) (Kd.R_lt (by (with_reducible repeat (first | apply Kd.R_alloc | apply Kd.R_drewN | apply Kd.R_drew)); exact (Kd.R_mono (Kd.R_far (p := ⟨gb490, 7, none⟩) (Kd.R_far (p := ⟨gb490, 6, none⟩) (Kd.R_far (p := ⟨gb490, 5, none⟩) (Kd.R_far (p := ⟨gb490, 4, none⟩) (Kd.R_far (p := ⟨gb490, 3, none⟩) (Kd.R_far (p := ⟨gb490, 2, none⟩) (Kd.R_far (p := ⟨gb490, 1, none⟩) (Kd.R_far (p := ⟨gb490, 0, none⟩) (Kd.R_types HO463.out BK490.out (by decide)) (fun _ hk => hk.2) (.string t470)) (fun _ hk => hk.2) (.int .i64 t471)) (fun _ hk => hk.2) (.slice Ao57 t472.length co57)) (fun _ hk => hk.2) (.slice Ao58 t475.length co58)) (fun _ hk => hk.2) (.slice Ao59 t478.length co59)) (fun _ hk => hk.2) (.slice Ao60 t481.length co60)) (fun _ hk => hk.2) (.slice Ao61 t484.length co61)) (fun _ hk => hk.2) (.slice Ao62 t487.length co62)) (fun _ h_ => h_.1))))) (below_size bl)); have HO496 := am (Kd.R_lower (Kd.R_new' (Kd.R_new' ho1 (Kd.R_lt (by (with_reducible repeat (first | apply Kd.R_alloc | apply Kd.R_drewN | apply Kd.R_drew)); exact (Kd.R_mono (Kd.R_far (p := ⟨gb490, 7, none⟩) (Kd.R_far (p := ⟨gb490, 6, none⟩) (Kd.R_far (p := ⟨gb490, 5, none⟩) (Kd.R_far (p := ⟨gb490, 4, none⟩) (Kd.R_far (p := ⟨gb490, 3, none⟩) (Kd.R_far (p := ⟨gb490, 2, none⟩) (Kd.R_far (p := ⟨gb490, 1, none⟩) (Kd.R_far (p := ⟨gb490, 0, none⟩) (Kd.R_types HO460.out BK490.out (by decide)) (fun _ hk => hk.2) (.string t470)) (fun _ hk => hk.2) (.int .i64 t471)) (fun _ hk => hk.2) (.slice Ao57 t472.length co57)) (fun _ hk => hk.2) (.slice Ao58 t475.length co58)) (fun _ hk => hk.2) (.slice Ao59 t478.length co59)) (fun _ hk => hk.2) (.slice Ao60 t481.length co60)) (fun _ hk => hk.2) (.slice Ao61 t484.length co61)) (fun _ hk => hk.2) (.slice Ao62 t487.length co62)) (fun _ h_ => h_.1))))) (Kd.R_lt (by (with_reducible repeat (first | apply Kd.R_alloc | apply Kd.R_drewN | apply Kd.R_drew)); exact (Kd.R_mono (Kd.R_far (p := ⟨gb490, 7, none⟩) (Kd.R_far (p := ⟨gb490, 6, none⟩) (Kd.R_far (p := ⟨gb490, 5, none⟩) (Kd.R_far (p := ⟨gb490, 4, none⟩) (Kd.R_far (p := ⟨gb490, 3, none⟩) (Kd.R_far (p := ⟨gb490, 2, none⟩) (Kd.R_far (p := ⟨gb490, 1, none⟩) (Kd.R_far (p := ⟨gb490, 0, none⟩) (Kd.R_types HO463.out BK490.out (by decide)) (fun _ hk => hk.2) (.string t470)) (fun _ hk => hk.2) (.int .i64 t471)) (fun _ hk => hk.2) (.slice Ao57 t472.length co57)) (fun _ hk => hk.2) (.slice Ao58 t475.length co58)) (fun _ hk => hk.2) (.slice Ao59 t478.length co59)) (fun _ hk => hk.2) (.slice Ao60 t481.length co60)) (fun _ hk => hk.2) (.slice Ao61 t484.length co61)) (fun _ hk => hk.2) (.slice Ao62 t487.length co62)) (fun _ h_ => h_.1))))) (below_size bl)); replace HO460 := am (Kd.R_mono (Kd.R_told (Kd.R_told (Kd.R_old (by (with_reducible repeat (first | apply Kd.R_alloc | apply Kd.R_drewN | apply Kd.R_drew)); exact (Kd.R_mono (Kd.R_far (p := ⟨gb490, 7, none⟩) (Kd.R_far (p := ⟨gb490, 6, none⟩) (Kd.R_far (p := ⟨gb490, 5, none⟩) (Kd.R_far (p := ⟨gb490, 4, none⟩) (Kd.R_far (p := ⟨gb490, 3, none⟩) (Kd.R_far (p := ⟨gb490, 2, none⟩) (Kd.R_far (p := ⟨gb490, 1, none⟩) (Kd.R_far (p := ⟨gb490, 0, none⟩) (Kd.R_types HO460.out BK490.out (by decide)) (fun _ hk => hk.2) (.string t470)) (fun _ hk => hk.2) (.int .i64 t471)) (fun _ hk => hk.2) (.slice Ao57 t472.length co57)) (fun _ hk => hk.2) (.slice Ao58 t475.length co58)) (fun _ hk => hk.2) (.slice Ao59 t478.length co59)) (fun _ hk => hk.2) (.slice Ao60 t481.length co60)) (fun _ hk => hk.2) (.slice Ao61 t484.length co61)) (fun _ hk => hk.2) (.slice Ao62 t487.length co62)) (fun _ h_ => h_.1))) hb) (Kd.R_base ho0)) (Kd.R_base ho1)) (fun _ h_ => h_.1)); replace HO463 := am (Kd.R_mono (Kd.R_told (Kd.R_told (Kd.R_old (by (with_reducible repeat (first | apply Kd.R_alloc | apply Kd.R_drewN | apply Kd.R_drew)); exact (Kd.R_mono (Kd.R_far (p := ⟨gb490, 7, none⟩) (Kd.R_far (p := ⟨gb490, 6, none⟩) (Kd.R_far (p := ⟨gb490, 5, none⟩) (Kd.R_far (p := ⟨gb490, 4, none⟩) (Kd.R_far (p := ⟨gb490, 3, none⟩) (Kd.R_far (p := ⟨gb490, 2, none⟩) (Kd.R_far (p := ⟨gb490, 1, none⟩) (Kd.R_far (p := ⟨gb490, 0, none⟩) (Kd.R_types HO463.out BK490.out (by decide)) (fun _ hk => hk.2) (.string t470)) (fun _ hk => hk.2) (.int .i64 t471)) (fun _ hk => hk.2) (.slice Ao57 t472.length co57)) (fun _ hk => hk.2) (.slice Ao58 t475.length co58)) (fun _ hk => hk.2) (.slice Ao59 t478.length co59)) (fun _ hk => hk.2) (.slice Ao60 t481.length co60)) (fun _ hk => hk.2) (.slice Ao61 t484.length co61)) (fun _ hk => hk.2) (.slice Ao62 t487.length co62)) (fun _ h_ => h_.1))) hb) (Kd.R_base ho0)) (Kd.R_base ho1)) (fun _ h_ => h_.1)); replace BK434 := am (blk_below (g := gb434) (o := .cells #[.string a0_0, .int .i64 a0_1, .slice A0_2 l0_2.length c0_2, .slice A0_3 l0_3.length c0_3, .slice A0_4 l0_4.length c0_4, .slice A0_5 l0_5.length c0_5, .slice A0_6 l0_6.length c0_6, .slice A0_7 l0_7.length c0_7] 26 (0, 0)) (bf BK434.out NB434_490.out) hb); replace BK435 := am (blk_below (g := gb435) (o := .cells #[.slice A1_0 l1_0.length c1_0, .slice A1_1 l1_1.length c1_1, .int .i64 a1_2, .int .i64 a1_3, .int .i64 a1_4, .int .i64 a1_5, .int .i64 a1_6] 38 (0, 0)) (bf BK435.out NB435_490.out) hb); replace BK490 := am (blk_below (g := gb490) (o := .cells #[.string t470, .int .i64 t471, .slice Ao57 t472.length co57, .slice Ao58 t475.length co58, .slice Ao59 t478.length co59, .slice Ao60 t481.length co60, .slice Ao61 t484.length co61, .slice Ao62 t487.length co62] 32 (0, 0)) (bp BK490.out) hb); replace HB := am (below_step bl hb); clear hb ho0 ho1) | (refine bx 8 #[.slice none 0 0, .slice none 0 0, .int .i64 0, .int .i64 0, .int .i64 0, .int .i64 0, .int .i64 0] 41 ?_; intro gb502 hg w65 hbox hb; replace HO442 := am (rb HO442.out hb); replace HO445 := am (rb HO445.out hb); replace HO448 := am (rb HO448.out hb); replace HO451 := am (rb HO451.out hb); replace HO454 := am (rb HO454.out hb); replace HO457 := am (rb HO457.out hb); replace HO460 := am (rb HO460.out hb); replace HO463 := am (rb HO463.out hb); replace HO474 := am (rb HO474.out hb); replace HO477 := am (rb HO477.out hb); replace HO480 := am (rb HO480.out hb); replace HO483 := am (rb HO483.out hb); replace HO486 := am (rb HO486.out hb); replace HO489 := am (rb HO489.out hb); replace HO493 := am (rb HO493.out hb); replace HO496 := am (rb HO496.out hb); have BK502 := am (hbox); have GW502 := am (bsz hg : w.heap.size ≤ gb502); have GE502 := GW502; have NB434_502 := am (ne1 hg BK434.out); have NB502_434 := am NB434_502.out.symm; replace BK434 := am (bkb BK434.out hb); have NB435_502 := am (ne1 hg BK435.out); have NB502_435 := am NB435_502.out.symm; replace BK435 := am (bkb BK435.out hb); have NB490_502 := am (ne1 hg BK490.out); have NB502_490 := am NB490_502.out.symm; replace BK490 := am (bkb BK490.out hb); replace HB := am (below_step bl hb); clear hb hbox hg; obtain ⟨Ao66, co66, eo66⟩ := Kd.R_slice HO493.out; subst eo66; have hnb67 := NB502_434.out; have hnc67 := NB434_502.out; have hnb68 := NB502_435.out; have hnc68 := NB435_502.out; have hnb69 := NB502_490.out; have hnc69 := NB490_502.out; obtain ⟨z70_0, z70_1, z70_2, z70_3, z70_4, z70_5, z70_6, y70_0, y70_1, y70_2, y70_3, y70_4, y70_5, y70_6⟩ := blk7 BK502.out; obtain ⟨Ao71, co71, eo71⟩ := Kd.R_slice HO496.out; subst eo71; obtain ⟨z72_0, z72_1, z72_2, z72_3, z72_4, z72_5, z72_6, z72_7, y72_0, y72_1, y72_2, y72_3, y72_4, y72_5, y72_6, y72_7⟩ := blk8 BK490.out) | (refine gc 21 (some 31) Tryz.func21 (impl_EnvRight.calls _ _ _ _ _ _ _ _ _ _ _ _ _ _ _ _ _ _ _ _ _ _ _ _ _ _ _ _ _ _ _ _ _ _ ?side1 ?side2 ?side3 ?side4 ?side5 ?side6 ?side7 ?side8 ?side9 ?side10 ?side11 ?side12 ?side13 ?side14 ?side15 ?side16 ?side17 A24.out) ?_; (case side1 => refine (Kd.R_reads' (e := 9) (base := w.heap.size) (ok := fun k_ => ((some k_ ≠ (.slice Ao58 t475.length co58 : Value).ownBlock ∧ some k_ ≠ (.slice Ao42 t440.length co42 : Value).ownBlock) ∧ some k_ ≠ (.slice Ao43 t443.length co43 : Value).ownBlock)) (n := t472.length) (c := co57) ?_).2.2; exact (by (with_reducible repeat (first | apply Kd.R_alloc | apply Kd.R_drewN | apply Kd.R_drew)); exact (Kd.R_mono (Kd.R_far (p := ⟨gb502, 6, none⟩) (Kd.R_far (p := ⟨gb502, 5, none⟩) (Kd.R_far (p := ⟨gb502, 4, none⟩) (Kd.R_far (p := ⟨gb502, 3, none⟩) (Kd.R_far (p := ⟨gb502, 2, none⟩) (Kd.R_far (p := ⟨gb502, 1, none⟩) (Kd.R_far (p := ⟨gb502, 0, none⟩) (Kd.R_types HO474.out BK502.out (by decide)) (fun _ hk => hk.2) (.slice Ao66 t491.length co66)) (fun _ hk => hk.2) (.slice Ao71 t494.length co71)) (fun _ hk => hk.2) (.int .i64 t497)) (fun _ hk => hk.2) (.int .i64 t498)) (fun _ hk => hk.2) (.int .i64 t499)) (fun _ hk => hk.2) (.int .i64 t500)) (fun _ hk => hk.2) (.int .i64 t501)) (fun _ h_ => h_.1)))); (case side2 => exact (Kd.R_reads' HO474.out).2.1); (case side3 => refine (Kd.R_reads' (e := 9) (base := w.heap.size) (ok := fun k_ => ((some k_ ≠ (.slice Ao57 t472.length co57 : Value).ownBlock ∧ some k_ ≠ (.slice Ao42 t440.length co42 : Value).ownBlock) ∧ some k_ ≠ (.slice Ao43 t443.length co43 : Value).ownBlock)) (n := t475.length) (c := co58) ?_).2.2; exact (by (with_reducible repeat (first | apply Kd.R_alloc | apply Kd.R_drewN | apply Kd.R_drew)); exact (Kd.R_mono (Kd.R_far (p := ⟨gb502, 6, none⟩) (Kd.R_far (p := ⟨gb502, 5, none⟩) (Kd.R_far (p := ⟨gb502, 4, none⟩) (Kd.R_far (p := ⟨gb502, 3, none⟩) (Kd.R_far (p := ⟨gb502, 2, none⟩) (Kd.R_far (p := ⟨gb502, 1, none⟩) (Kd.R_far (p := ⟨gb502, 0, none⟩) (Kd.R_types HO477.out BK502.out (by decide)) (fun _ hk => hk.2) (.slice Ao66 t491.length co66)) (fun _ hk => hk.2) (.slice Ao71 t494.length co71)) (fun _ hk => hk.2) (.int .i64 t497)) (fun _ hk => hk.2) (.int .i64 t498)) (fun _ hk => hk.2) (.int .i64 t499)) (fun _ hk => hk.2) (.int .i64 t500)) (fun _ hk => hk.2) (.int .i64 t501)) (fun _ h_ => h_.1)))); (case side4 => exact (Kd.R_reads' HO477.out).2.1); (case side5 => refine (Kd.R_reads' (e := 75) (base := w.heap.size) (ok := fun k_ => (True ∧ some k_ ≠ (.slice Ao44 t446.length co44 : Value).ownBlock)) (n := t478.length) (c := co59) ?_).2.2; exact (by (with_reducible repeat (first | apply Kd.R_alloc | apply Kd.R_drewN | apply Kd.R_drew)); exact (Kd.R_mono (Kd.R_far (p := ⟨gb502, 6, none⟩) (Kd.R_far (p := ⟨gb502, 5, none⟩) (Kd.R_far (p := ⟨gb502, 4, none⟩) (Kd.R_far (p := ⟨gb502, 3, none⟩) (Kd.R_far (p := ⟨gb502, 2, none⟩) (Kd.R_far (p := ⟨gb502, 1, none⟩) (Kd.R_far (p := ⟨gb502, 0, none⟩) (Kd.R_types HO480.out BK502.out (by decide)) (fun _ hk => hk.2) (.slice Ao66 t491.length co66)) (fun _ hk => hk.2) (.slice Ao71 t494.length co71)) (fun _ hk => hk.2) (.int .i64 t497)) (fun _ hk => hk.2) (.int .i64 t498)) (fun _ hk => hk.2) (.int .i64 t499)) (fun _ hk => hk.2) (.int .i64 t500)) (fun _ hk => hk.2) (.int .i64 t501)) (fun _ h_ => h_.1)))); (case side6 => exact (Kd.R_reads' HO480.out).2.1); (case side7 => refine (Kd.R_reads' (e := 73) (base := w.heap.size) (ok := fun k_ => ((((some k_ ≠ (.slice Ao61 t484.length co61 : Value).ownBlock ∧ some k_ ≠ (.slice Ao62 t487.length co62 : Value).ownBlock) ∧ some k_ ≠ (.slice Ao45 t449.length co45 : Value).ownBlock) ∧ some k_ ≠ (.slice Ao46 t452.length co46 : Value).ownBlock) ∧ some k_ ≠ (.slice Ao47 t455.length co47 : Value).ownBlock)) (n := t481.length) (c := co60) ?_).2.2; exact (by (with_reducible repeat (first | apply Kd.R_alloc | apply Kd.R_drewN | apply Kd.R_drew)); exact (Kd.R_mono (Kd.R_far (p := ⟨gb502, 6, none⟩) (Kd.R_far (p := ⟨gb502, 5, none⟩) (Kd.R_far (p := ⟨gb502, 4, none⟩) (Kd.R_far (p := ⟨gb502, 3, none⟩) (Kd.R_far (p := ⟨gb502, 2, none⟩) (Kd.R_far (p := ⟨gb502, 1, none⟩) (Kd.R_far (p := ⟨gb502, 0, none⟩) (Kd.R_types HO483.out BK502.out (by decide)) (fun _ hk => hk.2) (.slice Ao66 t491.length co66)) (fun _ hk => hk.2) (.slice Ao71 t494.length co71)) (fun _ hk => hk.2) (.int .i64 t497)) (fun _ hk => hk.2) (.int .i64 t498)) (fun _ hk => hk.2) (.int .i64 t499)) (fun _ hk => hk.2) (.int .i64 t500)) (fun _ hk => hk.2) (.int .i64 t501)) (fun _ h_ => h_.1)))); (case side8 => exact (Kd.R_reads' HO483.out).2.1); (case side9 => refine (Kd.R_reads' (e := 73) (base := w.heap.size) (ok := fun k_ => ((((some k_ ≠ (.slice Ao60 t481.length co60 : Value).ownBlock ∧ some k_ ≠ (.slice Ao62 t487.length co62 : Value).ownBlock) ∧ some k_ ≠ (.slice Ao45 t449.length co45 : Value).ownBlock) ∧ some k_ ≠ (.slice Ao46 t452.length co46 : Value).ownBlock) ∧ some k_ ≠ (.slice Ao47 t455.length co47 : Value).ownBlock)) (n := t484.length) (c := co61) ?_).2.2; exact (by (with_reducible repeat (first | apply Kd.R_alloc | apply Kd.R_drewN | apply Kd.R_drew)); exact (Kd.R_mono (Kd.R_far (p := ⟨gb502, 6, none⟩) (Kd.R_far (p := ⟨gb502, 5, none⟩) (Kd.R_far (p := ⟨gb502, 4, none⟩) (Kd.R_far (p := ⟨gb502, 3, none⟩) (Kd.R_far (p := ⟨gb502, 2, none⟩) (Kd.R_far (p := ⟨gb502, 1, none⟩) (Kd.R_far (p := ⟨gb502, 0, none⟩) (Kd.R_types HO486.out BK502.out (by decide)) (fun _ hk => hk.2) (.slice Ao66 t491.length co66)) (fun _ hk => hk.2) (.slice Ao71 t494.length co71)) (fun _ hk => hk.2) (.int .i64 t497)) (fun _ hk => hk.2) (.int .i64 t498)) (fun _ hk => hk.2) (.int .i64 t499)) (fun _ hk => hk.2) (.int .i64 t500)) (fun _ hk => hk.2) (.int .i64 t501)) (fun _ h_ => h_.1)))); (case side10 => exact (Kd.R_reads' HO486.out).2.1); (case side11 => refine (Kd.R_reads' (e := 73) (base := w.heap.size) (ok := fun k_ => ((((some k_ ≠ (.slice Ao60 t481.length co60 : Value).ownBlock ∧ some k_ ≠ (.slice Ao61 t484.length co61 : Value).ownBlock) ∧ some k_ ≠ (.slice Ao45 t449.length co45 : Value).ownBlock) ∧ some k_ ≠ (.slice Ao46 t452.length co46 : Value).ownBlock) ∧ some k_ ≠ (.slice Ao47 t455.length co47 : Value).ownBlock)) (n := t487.length) (c := co62) ?_).2.2; exact (by (with_reducible repeat (first | apply Kd.R_alloc | apply Kd.R_drewN | apply Kd.R_drew)); exact (Kd.R_mono (Kd.R_far (p := ⟨gb502, 6, none⟩) (Kd.R_far (p := ⟨gb502, 5, none⟩) (Kd.R_far (p := ⟨gb502, 4, none⟩) (Kd.R_far (p := ⟨gb502, 3, none⟩) (Kd.R_far (p := ⟨gb502, 2, none⟩) (Kd.R_far (p := ⟨gb502, 1, none⟩) (Kd.R_far (p := ⟨gb502, 0, none⟩) (Kd.R_types HO489.out BK502.out (by decide)) (fun _ hk => hk.2) (.slice Ao66 t491.length co66)) (fun _ hk => hk.2) (.slice Ao71 t494.length co71)) (fun _ hk => hk.2) (.int .i64 t497)) (fun _ hk => hk.2) (.int .i64 t498)) (fun _ hk => hk.2) (.int .i64 t499)) (fun _ hk => hk.2) (.int .i64 t500)) (fun _ hk => hk.2) (.int .i64 t501)) (fun _ h_ => h_.1)))); (case side12 => exact (Kd.R_reads' HO489.out).2.1); (case side13 => refine (Kd.R_reads' (e := 2) (base := w.heap.size) (ok := fun k_ => ((some k_ ≠ (.slice Ao71 t494.length co71 : Value).ownBlock ∧ some k_ ≠ (.slice Ao48 t458.length co48 : Value).ownBlock) ∧ some k_ ≠ (.slice Ao49 t461.length co49 : Value).ownBlock)) (n := t491.length) (c := co66) ?_).2.2; exact (by (with_reducible repeat (first | apply Kd.R_alloc | apply Kd.R_drewN | apply Kd.R_drew)); exact (Kd.R_mono (Kd.R_far (p := ⟨gb502, 6, none⟩) (Kd.R_far (p := ⟨gb502, 5, none⟩) (Kd.R_far (p := ⟨gb502, 4, none⟩) (Kd.R_far (p := ⟨gb502, 3, none⟩) (Kd.R_far (p := ⟨gb502, 2, none⟩) (Kd.R_far (p := ⟨gb502, 1, none⟩) (Kd.R_far (p := ⟨gb502, 0, none⟩) (Kd.R_types HO493.out BK502.out (by decide)) (fun _ hk => hk.2) (.slice Ao66 t491.length co66)) (fun _ hk => hk.2) (.slice Ao71 t494.length co71)) (fun _ hk => hk.2) (.int .i64 t497)) (fun _ hk => hk.2) (.int .i64 t498)) (fun _ hk => hk.2) (.int .i64 t499)) (fun _ hk => hk.2) (.int .i64 t500)) (fun _ hk => hk.2) (.int .i64 t501)) (fun _ h_ => h_.1)))); (case side14 => exact (Kd.R_reads' HO493.out).2.1); (case side15 => refine (Kd.R_reads' (e := 2) (base := w.heap.size) (ok := fun k_ => ((some k_ ≠ (.slice Ao66 t491.length co66 : Value).ownBlock ∧ some k_ ≠ (.slice Ao48 t458.length co48 : Value).ownBlock) ∧ some k_ ≠ (.slice Ao49 t461.length co49 : Value).ownBlock)) (n := t494.length) (c := co71) ?_).2.2; exact (by (with_reducible repeat (first | apply Kd.R_alloc | apply Kd.R_drewN | apply Kd.R_drew)); exact (Kd.R_mono (Kd.R_far (p := ⟨gb502, 6, none⟩) (Kd.R_far (p := ⟨gb502, 5, none⟩) (Kd.R_far (p := ⟨gb502, 4, none⟩) (Kd.R_far (p := ⟨gb502, 3, none⟩) (Kd.R_far (p := ⟨gb502, 2, none⟩) (Kd.R_far (p := ⟨gb502, 1, none⟩) (Kd.R_far (p := ⟨gb502, 0, none⟩) (Kd.R_types HO496.out BK502.out (by decide)) (fun _ hk => hk.2) (.slice Ao66 t491.length co66)) (fun _ hk => hk.2) (.slice Ao71 t494.length co71)) (fun _ hk => hk.2) (.int .i64 t497)) (fun _ hk => hk.2) (.int .i64 t498)) (fun _ hk => hk.2) (.int .i64 t499)) (fun _ hk => hk.2) (.int .i64 t500)) (fun _ hk => hk.2) (.int .i64 t501)) (fun _ h_ => h_.1)))); (case side16 => exact (Kd.R_reads' HO496.out).2.1); (case side17 => exact Sh.below HSH.out bl); rintro e w73 ⟨rfl, hb⟩; refine ⟨_, rfl, ?_⟩; replace HO442 := am (Kd.R_below (by (with_reducible repeat (first | apply Kd.R_alloc | apply Kd.R_drewN | apply Kd.R_drew)); exact (Kd.R_mono (Kd.R_far (p := ⟨gb502, 6, none⟩) (Kd.R_far (p := ⟨gb502, 5, none⟩) (Kd.R_far (p := ⟨gb502, 4, none⟩) (Kd.R_far (p := ⟨gb502, 3, none⟩) (Kd.R_far (p := ⟨gb502, 2, none⟩) (Kd.R_far (p := ⟨gb502, 1, none⟩) (Kd.R_far (p := ⟨gb502, 0, none⟩) (Kd.R_types HO442.out BK502.out (by decide)) (fun _ hk => hk.2) (.slice Ao66 t491.length co66)) (fun _ hk => hk.2) (.slice Ao71 t494.length co71)) (fun _ hk => hk.2) (.int .i64 t497)) (fun _ hk => hk.2) (.int .i64 t498)) (fun _ hk => hk.2) (.int .i64 t499)) (fun _ hk => hk.2) (.int .i64 t500)) (fun _ hk => hk.2) (.int .i64 t501)) (fun _ h_ => h_.1))) hb); replace HO445 := am (Kd.R_below (by (with_reducible repeat (first | apply Kd.R_alloc | apply Kd.R_drewN | apply Kd.R_drew)); exact (Kd.R_mono (Kd.R_far (p := ⟨gb502, 6, none⟩) (Kd.R_far (p := ⟨gb502, 5, none⟩) (Kd.R_far (p := ⟨gb502, 4, none⟩) (Kd.R_far (p := ⟨gb502, 3, none⟩) (Kd.R_far (p := ⟨gb502, 2, none⟩) (Kd.R_far (p := ⟨gb502, 1, none⟩) (Kd.R_far (p := ⟨gb502, 0, none⟩) (Kd.R_types HO445.out BK502.out (by decide)) (fun _ hk => hk.2) (.slice Ao66 t491.length co66)) (fun _ hk => hk.2) (.slice Ao71 t494.length co71)) (fun _ hk => hk.2) (.int .i64 t497)) (fun _ hk => hk.2) (.int .i64 t498)) (fun _ hk => hk.2) (.int .i64 t499)) (fun _ hk => hk.2) (.int .i64 t500)) (fun _ hk => hk.2) (.int .i64 t501)) (fun _ h_ => h_.1))) hb); replace HO448 := am (Kd.R_below (by (with_reducible repeat (first | apply Kd.R_alloc | apply Kd.R_drewN | apply Kd.R_drew)); exact (Kd.R_mono (Kd.R_far (p := ⟨gb502, 6, none⟩) (Kd.R_far (p := ⟨gb502, 5, none⟩) (Kd.R_far (p := ⟨gb502, 4, none⟩) (Kd.R_far (p := ⟨gb502, 3, none⟩) (Kd.R_far (p := ⟨gb502, 2, none⟩) (Kd.R_far (p := ⟨gb502, 1, none⟩) (Kd.R_far (p := ⟨gb502, 0, none⟩) (Kd.R_types HO448.out BK502.out (by decide)) (fun _ hk => hk.2) (.slice Ao66 t491.length co66)) (fun _ hk => hk.2) (.slice Ao71 t494.length co71)) (fun _ hk => hk.2) (.int .i64 t497)) (fun _ hk => hk.2) (.int .i64 t498)) (fun _ hk => hk.2) (.int .i64 t499)) (fun _ hk => hk.2) (.int .i64 t500)) (fun _ hk => hk.2) (.int .i64 t501)) (fun _ h_ => h_.1))) hb); replace HO451 := am (Kd.R_below (by (with_reducible repeat (first | apply Kd.R_alloc | apply Kd.R_drewN | apply Kd.R_drew)); exact (Kd.R_mono (Kd.R_far (p := ⟨gb502, 6, none⟩) (Kd.R_far (p := ⟨gb502, 5, none⟩) (Kd.R_far (p := ⟨gb502, 4, none⟩) (Kd.R_far (p := ⟨gb502, 3, none⟩) (Kd.R_far (p := ⟨gb502, 2, none⟩) (Kd.R_far (p := ⟨gb502, 1, none⟩) (Kd.R_far (p := ⟨gb502, 0, none⟩) (Kd.R_types HO451.out BK502.out (by decide)) (fun _ hk => hk.2) (.slice Ao66 t491.length co66)) (fun _ hk => hk.2) (.slice Ao71 t494.length co71)) (fun _ hk => hk.2) (.int .i64 t497)) (fun _ hk => hk.2) (.int .i64 t498)) (fun _ hk => hk.2) (.int .i64 t499)) (fun _ hk => hk.2) (.int .i64 t500)) (fun _ hk => hk.2) (.int .i64 t501)) (fun _ h_ => h_.1))) hb); replace HO454 := am (Kd.R_below (by (with_reducible repeat (first | apply Kd.R_alloc | apply Kd.R_drewN | apply Kd.R_drew)); exact (Kd.R_mono (Kd.R_far (p := ⟨gb502, 6, none⟩) (Kd.R_far (p := ⟨gb502, 5, none⟩) (Kd.R_far (p := ⟨gb502, 4, none⟩) (Kd.R_far (p := ⟨gb502, 3, none⟩) (Kd.R_far (p := ⟨gb502, 2, none⟩) (Kd.R_far (p := ⟨gb502, 1, none⟩) (Kd.R_far (p := ⟨gb502, 0, none⟩) (Kd.R_types HO454.out BK502.out (by decide)) (fun _ hk => hk.2) (.slice Ao66 t491.length co66)) (fun _ hk => hk.2) (.slice Ao71 t494.length co71)) (fun _ hk => hk.2) (.int .i64 t497)) (fun _ hk => hk.2) (.int .i64 t498)) (fun _ hk => hk.2) (.int .i64 t499)) (fun _ hk => hk.2) (.int .i64 t500)) (fun _ hk => hk.2) (.int .i64 t501)) (fun _ h_ => h_.1))) hb); replace HO457 := am (Kd.R_below (by (with_reducible repeat (first | apply Kd.R_alloc | apply Kd.R_drewN | apply Kd.R_drew)); exact (Kd.R_mono (Kd.R_far (p := ⟨gb502, 6, none⟩) (Kd.R_far (p := ⟨gb502, 5, none⟩) (Kd.R_far (p := ⟨gb502, 4, none⟩) (Kd.R_far (p := ⟨gb502, 3, none⟩) (Kd.R_far (p := ⟨gb502, 2, none⟩) (Kd.R_far (p := ⟨gb502, 1, none⟩) (Kd.R_far (p := ⟨gb502, 0, none⟩) (Kd.R_types HO457.out BK502.out (by decide)) (fun _ hk => hk.2) (.slice Ao66 t491.length co66)) (fun _ hk => hk.2) (.slice Ao71 t494.length co71)) (fun _ hk => hk.2) (.int .i64 t497)) (fun _ hk => hk.2) (.int .i64 t498)) (fun _ hk => hk.2) (.int .i64 t499)) (fun _ hk => hk.2) (.int .i64 t500)) (fun _ hk => hk.2) (.int .i64 t501)) (fun _ h_ => h_.1))) hb); replace HO460 := am (Kd.R_below (by (with_reducible repeat (first | apply Kd.R_alloc | apply Kd.R_drewN | apply Kd.R_drew)); exact (Kd.R_mono (Kd.R_far (p := ⟨gb502, 6, none⟩) (Kd.R_far (p := ⟨gb502, 5, none⟩) (Kd.R_far (p := ⟨gb502, 4, none⟩) (Kd.R_far (p := ⟨gb502, 3, none⟩) (Kd.R_far (p := ⟨gb502, 2, none⟩) (Kd.R_far (p := ⟨gb502, 1, none⟩) (Kd.R_far (p := ⟨gb502, 0, none⟩) (Kd.R_types HO460.out BK502.out (by decide)) (fun _ hk => hk.2) (.slice Ao66 t491.length co66)) (fun _ hk => hk.2) (.slice Ao71 t494.length co71)) (fun _ hk => hk.2) (.int .i64 t497)) (fun _ hk => hk.2) (.int .i64 t498)) (fun _ hk => hk.2) (.int .i64 t499)) (fun _ hk => hk.2) (.int .i64 t500)) (fun _ hk => hk.2) (.int .i64 t501)) (fun _ h_ => h_.1))) hb); replace HO463 := am (Kd.R_below (by (with_reducible repeat (first | apply Kd.R_alloc | apply Kd.R_drewN | apply Kd.R_drew)); exact (Kd.R_mono (Kd.R_far (p := ⟨gb502, 6, none⟩) (Kd.R_far (p := ⟨gb502, 5, none⟩) (Kd.R_far (p := ⟨gb502, 4, none⟩) (Kd.R_far (p := ⟨gb502, 3, none⟩) (Kd.R_far (p := ⟨gb502, 2, none⟩) (Kd.R_far (p := ⟨gb502, 1, none⟩) (Kd.R_far (p := ⟨gb502, 0, none⟩) (Kd.R_types HO463.out BK502.out (by decide)) (fun _ hk => hk.2) (.slice Ao66 t491.length co66)) (fun _ hk => hk.2) (.slice Ao71 t494.length co71)) (fun _ hk => hk.2) (.int .i64 t497)) (fun _ hk => hk.2) (.int .i64 t498)) (fun _ hk => hk.2) (.int .i64 t499)) (fun _ hk => hk.2) (.int .i64 t500)) (fun _ hk => hk.2) (.int .i64 t501)) (fun _ h_ => h_.1))) hb); replace HO474 := am (Kd.R_below (by (with_reducible repeat (first | apply Kd.R_alloc | apply Kd.R_drewN | apply Kd.R_drew)); exact (Kd.R_mono (Kd.R_far (p := ⟨gb502, 6, none⟩) (Kd.R_far (p := ⟨gb502, 5, none⟩) (Kd.R_far (p := ⟨gb502, 4, none⟩) (Kd.R_far (p := ⟨gb502, 3, none⟩) (Kd.R_far (p := ⟨gb502, 2, none⟩) (Kd.R_far (p := ⟨gb502, 1, none⟩) (Kd.R_far (p := ⟨gb502, 0, none⟩) (Kd.R_types HO474.out BK502.out (by decide)) (fun _ hk => hk.2) (.slice Ao66 t491.length co66)) (fun _ hk => hk.2) (.slice Ao71 t494.length co71)) (fun _ hk => hk.2) (.int .i64 t497)) (fun _ hk => hk.2) (.int .i64 t498)) (fun _ hk => hk.2) (.int .i64 t499)) (fun _ hk => hk.2) (.int .i64 t500)) (fun _ hk => hk.2) (.int .i64 t501)) (fun _ h_ => h_.1))) hb); replace HO477 := am (Kd.R_below (by (with_reducible repeat (first | apply Kd.R_alloc | apply Kd.R_drewN | apply Kd.R_drew)); exact (Kd.R_mono (Kd.R_far (p := ⟨gb502, 6, none⟩) (Kd.R_far (p := ⟨gb502, 5, none⟩) (Kd.R_far (p := ⟨gb502, 4, none⟩) (Kd.R_far (p := ⟨gb502, 3, none⟩) (Kd.R_far (p := ⟨gb502, 2, none⟩) (Kd.R_far (p := ⟨gb502, 1, none⟩) (Kd.R_far (p := ⟨gb502, 0, none⟩) (Kd.R_types HO477.out BK502.out (by decide)) (fun _ hk => hk.2) (.slice Ao66 t491.length co66)) (fun _ hk => hk.2) (.slice Ao71 t494.length co71)) (fun _ hk => hk.2) (.int .i64 t497)) (fun _ hk => hk.2) (.int .i64 t498)) (fun _ hk => hk.2) (.int .i64 t499)) (fun _ hk => hk.2) (.int .i64 t500)) (fun _ hk => hk.2) (.int .i64 t501)) (fun _ h_ => h_.1))) hb); replace HO480 := am (Kd.R_below (by (with_reducible repeat (first | apply Kd.R_alloc | apply Kd.R_drewN | apply Kd.R_drew)); exact (Kd.R_mono (Kd.R_far (p := ⟨gb502, 6, none⟩) (Kd.R_far (p := ⟨gb502, 5, none⟩) (Kd.R_far (p := ⟨gb502, 4, none⟩) (Kd.R_far (p := ⟨gb502, 3, none⟩) (Kd.R_far (p := ⟨gb502, 2, none⟩) (Kd.R_far (p := ⟨gb502, 1, none⟩) (Kd.R_far (p := ⟨gb502, 0, none⟩) (Kd.R_types HO480.out BK502.out (by decide)) (fun _ hk => hk.2) (.slice Ao66 t491.length co66)) (fun _ hk => hk.2) (.slice Ao71 t494.length co71)) (fun _ hk => hk.2) (.int .i64 t497)) (fun _ hk => hk.2) (.int .i64 t498)) (fun _ hk => hk.2) (.int .i64 t499)) (fun _ hk => hk.2) (.int .i64 t500)) (fun _ hk => hk.2) (.int .i64 t501)) (fun _ h_ => h_.1))) hb); replace HO483 := am (Kd.R_below (by (with_reducible repeat (first | apply Kd.R_alloc | apply Kd.R_drewN | apply Kd.R_drew)); exact (Kd.R_mono (Kd.R_far (p := ⟨gb502, 6, none⟩) (Kd.R_far (p := ⟨gb502, 5, none⟩) (Kd.R_far (p := ⟨gb502, 4, none⟩) (Kd.R_far (p := ⟨gb502, 3, none⟩) (Kd.R_far (p := ⟨gb502, 2, none⟩) (Kd.R_far (p := ⟨gb502, 1, none⟩) (Kd.R_far (p := ⟨gb502, 0, none⟩) (Kd.R_types HO483.out BK502.out (by decide)) (fun _ hk => hk.2) (.slice Ao66 t491.length co66)) (fun _ hk => hk.2) (.slice Ao71 t494.length co71)) (fun _ hk => hk.2) (.int .i64 t497)) (fun _ hk => hk.2) (.int .i64 t498)) (fun _ hk => hk.2) (.int .i64 t499)) (fun _ hk => hk.2) (.int .i64 t500)) (fun _ hk => hk.2) (.int .i64 t501)) (fun _ h_ => h_.1))) hb); replace HO486 := am (Kd.R_below (by (with_reducible repeat (first | apply Kd.R_alloc | apply Kd.R_drewN | apply Kd.R_drew)); exact (Kd.R_mono (Kd.R_far (p := ⟨gb502, 6, none⟩) (Kd.R_far (p := ⟨gb502, 5, none⟩) (Kd.R_far (p := ⟨gb502, 4, none⟩) (Kd.R_far (p := ⟨gb502, 3, none⟩) (Kd.R_far (p := ⟨gb502, 2, none⟩) (Kd.R_far (p := ⟨gb502, 1, none⟩) (Kd.R_far (p := ⟨gb502, 0, none⟩) (Kd.R_types HO486.out BK502.out (by decide)) (fun _ hk => hk.2) (.slice Ao66 t491.length co66)) (fun _ hk => hk.2) (.slice Ao71 t494.length co71)) (fun _ hk => hk.2) (.int .i64 t497)) (fun _ hk => hk.2) (.int .i64 t498)) (fun _ hk => hk.2) (.int .i64 t499)) (fun _ hk => hk.2) (.int .i64 t500)) (fun _ hk => hk.2) (.int .i64 t501)) (fun _ h_ => h_.1))) hb); replace HO489 := am (Kd.R_below (by (with_reducible repeat (first | apply Kd.R_alloc | apply Kd.R_drewN | apply Kd.R_drew)); exact (Kd.R_mono (Kd.R_far (p := ⟨gb502, 6, none⟩) (Kd.R_far (p := ⟨gb502, 5, none⟩) (Kd.R_far (p := ⟨gb502, 4, none⟩) (Kd.R_far (p := ⟨gb502, 3, none⟩) (Kd.R_far (p := ⟨gb502, 2, none⟩) (Kd.R_far (p := ⟨gb502, 1, none⟩) (Kd.R_far (p := ⟨gb502, 0, none⟩) (Kd.R_types HO489.out BK502.out (by decide)) (fun _ hk => hk.2) (.slice Ao66 t491.length co66)) (fun _ hk => hk.2) (.slice Ao71 t494.length co71)) (fun _ hk => hk.2) (.int .i64 t497)) (fun _ hk => hk.2) (.int .i64 t498)) (fun _ hk => hk.2) (.int .i64 t499)) (fun _ hk => hk.2) (.int .i64 t500)) (fun _ hk => hk.2) (.int .i64 t501)) (fun _ h_ => h_.1))) hb); replace HO493 := am (Kd.R_below (by (with_reducible repeat (first | apply Kd.R_alloc | apply Kd.R_drewN | apply Kd.R_drew)); exact (Kd.R_mono (Kd.R_far (p := ⟨gb502, 6, none⟩) (Kd.R_far (p := ⟨gb502, 5, none⟩) (Kd.R_far (p := ⟨gb502, 4, none⟩) (Kd.R_far (p := ⟨gb502, 3, none⟩) (Kd.R_far (p := ⟨gb502, 2, none⟩) (Kd.R_far (p := ⟨gb502, 1, none⟩) (Kd.R_far (p := ⟨gb502, 0, none⟩) (Kd.R_types HO493.out BK502.out (by decide)) (fun _ hk => hk.2) (.slice Ao66 t491.length co66)) (fun _ hk => hk.2) (.slice Ao71 t494.length co71)) (fun _ hk => hk.2) (.int .i64 t497)) (fun _ hk => hk.2) (.int .i64 t498)) (fun _ hk => hk.2) (.int .i64 t499)) (fun _ hk => hk.2) (.int .i64 t500)) (fun _ hk => hk.2) (.int .i64 t501)) (fun _ h_ => h_.1))) hb); replace HO496 := am (Kd.R_below (by (with_reducible repeat (first | apply Kd.R_alloc | apply Kd.R_drewN | apply Kd.R_drew)); exact (Kd.R_mono (Kd.R_far (p := ⟨gb502, 6, none⟩) (Kd.R_far (p := ⟨gb502, 5, none⟩) (Kd.R_far (p := ⟨gb502, 4, none⟩) (Kd.R_far (p := ⟨gb502, 3, none⟩) (Kd.R_far (p := ⟨gb502, 2, none⟩) (Kd.R_far (p := ⟨gb502, 1, none⟩) (Kd.R_far (p := ⟨gb502, 0, none⟩) (Kd.R_types HO496.out BK502.out (by decide)) (fun _ hk => hk.2) (.slice Ao66 t491.length co66)) (fun _ hk => hk.2) (.slice Ao71 t494.length co71)) (fun _ hk => hk.2) (.int .i64 t497)) (fun _ hk => hk.2) (.int .i64 t498)) (fun _ hk => hk.2) (.int .i64 t499)) (fun _ hk => hk.2) (.int .i64 t500)) (fun _ hk => hk.2) (.int .i64 t501)) (fun _ h_ => h_.1))) hb); replace BK434 := am (blk_below (g := gb434) (o := .cells #[.string a0_0, .int .i64 a0_1, .slice A0_2 l0_2.length c0_2, .slice A0_3 l0_3.length c0_3, .slice A0_4 l0_4.length c0_4, .slice A0_5 l0_5.length c0_5, .slice A0_6 l0_6.length c0_6, .slice A0_7 l0_7.length c0_7] 26 (0, 0)) (bf BK434.out NB434_502.out) hb); replace BK435 := am (blk_below (g := gb435) (o := .cells #[.slice A1_0 l1_0.length c1_0, .slice A1_1 l1_1.length c1_1, .int .i64 a1_2, .int .i64 a1_3, .int .i64 a1_4, .int .i64 a1_5, .int .i64 a1_6] 38 (0, 0)) (bf BK435.out NB435_502.out) hb); replace BK490 := am (blk_below (g := gb490) (o := .cells #[.string t470, .int .i64 t471, .slice Ao57 t472.length co57, .slice Ao58 t475.length co58, .slice Ao59 t478.length co59, .slice Ao60 t481.length co60, .slice Ao61 t484.length co61, .slice Ao62 t487.length co62] 32 (0, 0)) (bf BK490.out NB490_502.out) hb); replace BK502 := am (blk_below (g := gb502) (o := .cells #[.slice Ao66 t491.length co66, .slice Ao71 t494.length co71, .int .i64 t497, .int .i64 t498, .int .i64 t499, .int .i64 t500, .int .i64 t501] 41 (0, 0)) (bp BK502.out) hb); replace HB := am (below_step bl hb); clear hb))
 have n0_ := am (Kd.R_drew HO442.out)
 have n1_ := am (Kd.R_drew HO445.out)
 have n2_ := am (Kd.R_drew HO448.out)
 have n3_ := am (Kd.R_drew HO451.out)
 have n4_ := am (Kd.R_drew HO454.out)
 have n5_ := am (Kd.R_drew HO457.out)
 have n6_ := am (Kd.R_drew HO460.out)
 have n7_ := am (Kd.R_drew HO463.out)
 have n8_ := am (Kd.R_drew HO474.out)
 have n9_ := am (Kd.R_drew HO477.out)
 have n10_ := am (Kd.R_drew HO480.out)
 have n11_ := am (Kd.R_drew HO483.out)
 have n12_ := am (Kd.R_drew HO486.out)
 have n13_ := am (Kd.R_drew HO489.out)
 have n14_ := am (Kd.R_drew HO493.out)
 have n15_ := am (Kd.R_drew HO496.out)
 have n16_ := am (blk_drew BK434.out)
 have n17_ := am (blk_drew BK435.out)
 have n18_ := am (blk_drew BK490.out)
 have n19_ := am (blk_drew BK502.out)
 have n20_ := am (below_drew1 HB.out)
 clear HO442
 clear HO445
 clear HO448
 clear HO451
 clear HO454
 clear HO457
 clear HO460
 clear HO463
 clear HO474
 clear HO477
 clear HO480
 clear HO483
 clear HO486
 clear HO489
 clear HO493
 clear HO496
 clear BK434
 clear BK435
 clear BK490
 clear BK502
 clear HB
 have HO442 := n0_
 have HO445 := n1_
 have HO448 := n2_
 have HO451 := n3_
 have HO454 := n4_
 have HO457 := n5_
 have HO460 := n6_
 have HO463 := n7_
 have HO474 := n8_
 have HO477 := n9_
 have HO480 := n10_
 have HO483 := n11_
 have HO486 := n12_
 have HO489 := n13_
 have HO493 := n14_
 have HO496 := n15_
 have BK434 := n16_
 have BK435 := n17_
 have BK490 := n18_
 have BK502 := n19_
 have HB := n20_
 clear n0_ n1_ n2_ n3_ n4_ n5_ n6_ n7_ n8_ n9_ n10_ n11_ n12_ n13_ n14_ n15_ n16_ n17_ n18_ n19_ n20_
 refine start_ (n := 5) (S := fun w' => w'.cell? ⟨gb490, 0, none⟩ = some (.string t470) ∧ w'.cell? ⟨gb490, 1, none⟩ = some (.int .i64 t471) ∧ w'.cell? ⟨gb490, 2, none⟩ = some (.slice Ao57 t472.length co57) ∧ w'.cell? ⟨gb490, 3, none⟩ = some (.slice Ao58 t475.length co58) ∧ w'.cell? ⟨gb490, 4, none⟩ = some (.slice Ao59 t478.length co59) ∧ w'.cell? ⟨gb490, 5, none⟩ = some (.slice Ao60 t481.length co60) ∧ w'.cell? ⟨gb490, 6, none⟩ = some (.slice Ao61 t484.length co61) ∧ w'.cell? ⟨gb490, 7, none⟩ = some (.slice Ao62 t487.length co62) ∧ w'.cell? ⟨gb434, 0, none⟩ = some (.string a0_0) ∧ w'.cell? ⟨gb434, 1, none⟩ = some (.int .i64 a0_1) ∧ w'.cell? ⟨gb434, 2, none⟩ = some (.slice A0_2 l0_2.length c0_2) ∧ w'.cell? ⟨gb434, 3, none⟩ = some (.slice A0_3 l0_3.length c0_3) ∧ w'.cell? ⟨gb434, 4, none⟩ = some (.slice A0_4 l0_4.length c0_4) ∧ w'.cell? ⟨gb434, 5, none⟩ = some (.slice A0_5 l0_5.length c0_5) ∧ w'.cell? ⟨gb434, 6, none⟩ = some (.slice A0_6 l0_6.length c0_6) ∧ w'.cell? ⟨gb434, 7, none⟩ = some (.slice A0_7 l0_7.length c0_7)) (ds := []) #[F_, F_, F_, F_, F_] (by kernel_rfl) rfl rfl ⟨(blk_cell BK490.out 0).trans rfl, (blk_cell BK490.out 1).trans rfl, (blk_cell BK490.out 2).trans rfl, (blk_cell BK490.out 3).trans rfl, (blk_cell BK490.out 4).trans rfl, (blk_cell BK490.out 5).trans rfl, (blk_cell BK490.out 6).trans rfl, (blk_cell BK490.out 7).trans rfl, (blk_cell BK434.out 0).trans rfl, (blk_cell BK434.out 1).trans rfl, (blk_cell BK434.out 2).trans rfl, (blk_cell BK434.out 3).trans rfl, (blk_cell BK434.out 4).trans rfl, (blk_cell BK434.out 5).trans rfl, (blk_cell BK434.out 6).trans rfl, (blk_cell BK434.out 7).trans rfl⟩ (fun hHeld => ?_)
 generalize w73.drew = w74 at HO442 HO445 HO448 HO451 HO454 HO457 HO460 HO463 HO474 HO477 HO480 HO483 HO486 HO489 HO493 HO496 BK434 BK435 BK490 BK502 HB hHeld ⊢
 refine tv16 0 35 hHeld ?_
 refine tv16 1 36 hHeld ?_
 refine ov 2 37 (fun K hK => ?_)
 refine gk Tryz.func15 (laws_toProduct.calls _ _ _ _ _ _ _ _ _ _ _ _ _ _ _ _ _ _ _ _ _ _ _ _ _ _ _ _ _ _ ?side1 ?side2 ?side3 ?side4 ?side5 ?side6 ?side7 ?side8 ?side9 ?side10 ?side11 ?side12 A26.out) ?_
 (case side1 => exact cb HR0_2.out)
 (case side2 => exact HC0_2.out)
 (case side3 => exact cb HR0_3.out)
 (case side4 => exact HC0_3.out)
 (case side5 => exact cb HR0_4.out)
 (case side6 => exact HC0_4.out)
 (case side7 => exact cb HR0_5.out)
 (case side8 => exact HC0_5.out)
 (case side9 => exact cb HR0_6.out)
 (case side10 => exact HC0_6.out)
 (case side11 => exact cb HR0_7.out)
 (case side12 => exact HC0_7.out)
 rintro e w75 ⟨v507, v510, v513, v516, v519, v522, rfl, ho0, ho1, ho2, ho3, ho4, ho5, hb⟩
 refine ⟨_, rfl, ?_⟩
 have n0_ := am (Kd.R_mono (Kd.R_told (Kd.R_told (Kd.R_old (kr HO442.out) hb) (Kd.R_base ho0)) (Kd.R_base ho1)) (fun _ h_ => h_.1))
 have n1_ := am (Kd.R_mono (Kd.R_told (Kd.R_told (Kd.R_old (kr HO445.out) hb) (Kd.R_base ho0)) (Kd.R_base ho1)) (fun _ h_ => h_.1))
 have n2_ := am (Kd.R_elder' (kr HO448.out) (Kd.R_base ho2) hb)
 have n3_ := am (Kd.R_mono (Kd.R_told (Kd.R_told (Kd.R_told (Kd.R_old (kr HO451.out) hb) (Kd.R_base ho3)) (Kd.R_base ho4)) (Kd.R_base ho5)) (fun _ h_ => h_.1))
 have n4_ := am (Kd.R_mono (Kd.R_told (Kd.R_told (Kd.R_told (Kd.R_old (kr HO454.out) hb) (Kd.R_base ho3)) (Kd.R_base ho4)) (Kd.R_base ho5)) (fun _ h_ => h_.1))
 have n5_ := am (Kd.R_mono (Kd.R_told (Kd.R_told (Kd.R_told (Kd.R_old (kr HO457.out) hb) (Kd.R_base ho3)) (Kd.R_base ho4)) (Kd.R_base ho5)) (fun _ h_ => h_.1))
 have n6_ := am (rb HO460.out hb)
 have n7_ := am (rb HO463.out hb)
 have n8_ := am (Kd.R_mono (Kd.R_told (Kd.R_told (Kd.R_old (kr HO474.out) hb) (Kd.R_base ho0)) (Kd.R_base ho1)) (fun _ h_ => h_.1))
 have n9_ := am (Kd.R_mono (Kd.R_told (Kd.R_told (Kd.R_old (kr HO477.out) hb) (Kd.R_base ho0)) (Kd.R_base ho1)) (fun _ h_ => h_.1))
 have n10_ := am (Kd.R_elder' (kr HO480.out) (Kd.R_base ho2) hb)
 have n11_ := am (Kd.R_mono (Kd.R_told (Kd.R_told (Kd.R_told (Kd.R_old (kr HO483.out) hb) (Kd.R_base ho3)) (Kd.R_base ho4)) (Kd.R_base ho5)) (fun _ h_ => h_.1))
 have n12_ := am (Kd.R_mono (Kd.R_told (Kd.R_told (Kd.R_told (Kd.R_old (kr HO486.out) hb) (Kd.R_base ho3)) (Kd.R_base ho4)) (Kd.R_base ho5)) (fun _ h_ => h_.1))
 have n13_ := am (Kd.R_mono (Kd.R_told (Kd.R_told (Kd.R_told (Kd.R_old (kr HO489.out) hb) (Kd.R_base ho3)) (Kd.R_base ho4)) (Kd.R_base ho5)) (fun _ h_ => h_.1))
 have n14_ := am (rb HO493.out hb)
 have n15_ := am (rb HO496.out hb)
 have n16_ := am (Kd.R_lower (Kd.R_new' (Kd.R_new' (Kd.R_new' (Kd.R_new' ho0 (Kd.R_lt (kr HO442.out))) (Kd.R_lt (kr HO445.out))) (Kd.R_lt (kr HO474.out))) (Kd.R_lt (kr HO477.out))) (below_size bl))
 have n17_ := am (Kd.R_lower (Kd.R_new' (Kd.R_new' (Kd.R_new' (Kd.R_new' ho1 (Kd.R_lt (kr HO442.out))) (Kd.R_lt (kr HO445.out))) (Kd.R_lt (kr HO474.out))) (Kd.R_lt (kr HO477.out))) (below_size bl))
 have n18_ := am (Kd.R_lower (Kd.R_new' (Kd.R_new' ho2 (Kd.R_lt (kr HO448.out))) (Kd.R_lt (kr HO480.out))) (below_size bl))
 have n19_ := am (Kd.R_lower (Kd.R_new' (Kd.R_new' (Kd.R_new' (Kd.R_new' (Kd.R_new' (Kd.R_new' ho3 (Kd.R_lt (kr HO451.out))) (Kd.R_lt (kr HO454.out))) (Kd.R_lt (kr HO457.out))) (Kd.R_lt (kr HO483.out))) (Kd.R_lt (kr HO486.out))) (Kd.R_lt (kr HO489.out))) (below_size bl))
 have n20_ := am (Kd.R_lower (Kd.R_new' (Kd.R_new' (Kd.R_new' (Kd.R_new' (Kd.R_new' (Kd.R_new' ho4 (Kd.R_lt (kr HO451.out))) (Kd.R_lt (kr HO454.out))) (Kd.R_lt (kr HO457.out))) (Kd.R_lt (kr HO483.out))) (Kd.R_lt (kr HO486.out))) (Kd.R_lt (kr HO489.out))) (below_size bl))
 have n21_ := am (Kd.R_lower (Kd.R_new' (Kd.R_new' (Kd.R_new' (Kd.R_new' (Kd.R_new' (Kd.R_new' ho5 (Kd.R_lt (kr HO451.out))) (Kd.R_lt (kr HO454.out))) (Kd.R_lt (kr HO457.out))) (Kd.R_lt (kr HO483.out))) (Kd.R_lt (kr HO486.out))) (Kd.R_lt (kr HO489.out))) (below_size bl))
 have n22_ := am (bkb BK434.out hb)
 have n23_ := am (bkb BK435.out hb)
 have n24_ := am (bkb BK490.out hb)
 have n25_ := am (bkb BK502.out hb)
 have n26_ := am (below_step bl hb)
 clear HO442
 clear HO445
 clear HO448
 clear HO451
 clear HO454
 clear HO457
 clear HO460
 clear HO463
 clear HO474
 clear HO477
 clear HO480
 clear HO483
 clear HO486
 clear HO489
 clear HO493
 clear HO496
 clear BK434
 clear BK435
 clear BK490
 clear BK502
 clear HB
 have HO442 := n0_
 have HO445 := n1_
 have HO448 := n2_
 have HO451 := n3_
 have HO454 := n4_
 have HO457 := n5_
 have HO460 := n6_
 have HO463 := n7_
 have HO474 := n8_
 have HO477 := n9_
 have HO480 := n10_
 have HO483 := n11_
 have HO486 := n12_
 have HO489 := n13_
 have HO493 := n14_
 have HO496 := n15_
 have HO508 := n16_
 have HO511 := n17_
 have HO514 := n18_
 have HO517 := n19_
 have HO520 := n20_
 have HO523 := n21_
 have BK434 := n22_
 have BK435 := n23_
 have BK490 := n24_
 have BK502 := n25_
 have HB := n26_
 clear n0_ n1_ n2_ n3_ n4_ n5_ n6_ n7_ n8_ n9_ n10_ n11_ n12_ n13_ n14_ n15_ n16_ n17_ n18_ n19_ n20_ n21_ n22_ n23_ n24_ n25_ n26_
 skip
 skip
 skip
 skip
 skip
 skip
 skip
 skip
 skip
 skip
 obtain ⟨Ao76, co76, eo76⟩ := Kd.R_slice HO508.out
 (first | subst eo76 | (injection eo76 with f1_ f2_ f3_; have f4_ := f1_.symm; have f5_ := f3_.symm; clear f1_ f2_ f3_; subst f4_; subst f5_))
 obtain ⟨Ao77, co77, eo77⟩ := Kd.R_slice HO511.out
 (first | subst eo77 | (injection eo77 with f1_ f2_ f3_; have f4_ := f1_.symm; have f5_ := f3_.symm; clear f1_ f2_ f3_; subst f4_; subst f5_))
 obtain ⟨Ao78, co78, eo78⟩ := Kd.R_slice HO514.out
 (first | subst eo78 | (injection eo78 with f1_ f2_ f3_; have f4_ := f1_.symm; have f5_ := f3_.symm; clear f1_ f2_ f3_; subst f4_; subst f5_))
 obtain ⟨Ao79, co79, eo79⟩ := Kd.R_slice HO517.out
 (first | subst eo79 | (injection eo79 with f1_ f2_ f3_; have f4_ := f1_.symm; have f5_ := f3_.symm; clear f1_ f2_ f3_; subst f4_; subst f5_))
 obtain ⟨Ao80, co80, eo80⟩ := Kd.R_slice HO520.out
 (first | subst eo80 | (injection eo80 with f1_ f2_ f3_; have f4_ := f1_.symm; have f5_ := f3_.symm; clear f1_ f2_ f3_; subst f4_; subst f5_))
 obtain ⟨Ao81, co81, eo81⟩ := Kd.R_slice HO523.out
 (first | subst eo81 | (injection eo81 with f1_ f2_ f3_; have f4_ := f1_.symm; have f5_ := f3_.symm; clear f1_ f2_ f3_; subst f4_; subst f5_))
 refine hK.out _ _ ⟨(blk_cell BK490.out 0).trans rfl, (blk_cell BK490.out 1).trans rfl, (blk_cell BK490.out 2).trans rfl, (blk_cell BK490.out 3).trans rfl, (blk_cell BK490.out 4).trans rfl, (blk_cell BK490.out 5).trans rfl, (blk_cell BK490.out 6).trans rfl, (blk_cell BK490.out 7).trans rfl, (blk_cell BK434.out 0).trans rfl, (blk_cell BK434.out 1).trans rfl, (blk_cell BK434.out 2).trans rfl, (blk_cell BK434.out 3).trans rfl, (blk_cell BK434.out 4).trans rfl, (blk_cell BK434.out 5).trans rfl, (blk_cell BK434.out 6).trans rfl, (blk_cell BK434.out 7).trans rfl⟩ (fun hHeld => ?_)
 clear hK K
 refine norm_ (a' := ?_) ?_ ?_
 rotate_left
 ·show Act.put _ (some 37) _ = _
  simp only [Act.put, z1, z2, z3, i64_w, i32_w]
  rfl
 refine ov 3 38 (fun K hK => ?_)
 refine gk Tryz.func17 (laws_eqProduct.calls _ _ _ _ _ _ _ _ _ _ _ _ _ _ _ _ _ _ _ _ _ _ _ _ _ _ _ _ _ _ _ _ _ _ _ _ _ _ _ _ _ _ _ ?side1 ?side2 ?side3 ?side4 ?side5 ?side6 ?side7 ?side8 ?side9 ?side10 ?side11 ?side12 ?side13 ?side14 ?side15 ?side16 ?side17 ?side18 ?side19 ?side20 ?side21 ?side22 ?side23 ?side24 A27.out) ?_
 (case side1 => exact cc (Kd.R_reads' HO474.out).2.2)
 (case side2 => exact (Kd.R_reads' HO474.out).2.1)
 (case side3 => exact cc (Kd.R_reads' HO477.out).2.2)
 (case side4 => exact (Kd.R_reads' HO477.out).2.1)
 (case side5 => exact cc (Kd.R_reads' HO480.out).2.2)
 (case side6 => exact (Kd.R_reads' HO480.out).2.1)
 (case side7 => exact cc (Kd.R_reads' HO483.out).2.2)
 (case side8 => exact (Kd.R_reads' HO483.out).2.1)
 (case side9 => exact cc (Kd.R_reads' HO486.out).2.2)
 (case side10 => exact (Kd.R_reads' HO486.out).2.1)
 (case side11 => exact cc (Kd.R_reads' HO489.out).2.2)
 (case side12 => exact (Kd.R_reads' HO489.out).2.1)
 (case side13 => exact cc (Kd.R_reads' HO508.out).2.2)
 (case side14 => exact (Kd.R_reads' HO508.out).2.1)
 (case side15 => exact cc (Kd.R_reads' HO511.out).2.2)
 (case side16 => exact (Kd.R_reads' HO511.out).2.1)
 (case side17 => exact cc (Kd.R_reads' HO514.out).2.2)
 (case side18 => exact (Kd.R_reads' HO514.out).2.1)
 (case side19 => exact cc (Kd.R_reads' HO517.out).2.2)
 (case side20 => exact (Kd.R_reads' HO517.out).2.1)
 (case side21 => exact cc (Kd.R_reads' HO520.out).2.2)
 (case side22 => exact (Kd.R_reads' HO520.out).2.1)
 (case side23 => exact cc (Kd.R_reads' HO523.out).2.2)
 (case side24 => exact (Kd.R_reads' HO523.out).2.1)
 rintro e w82 ⟨rfl, hb⟩
 refine ⟨_, rfl, ?_⟩
 have n0_ := am (rb HO442.out hb)
 have n1_ := am (rb HO445.out hb)
 have n2_ := am (rb HO448.out hb)
 have n3_ := am (rb HO451.out hb)
 have n4_ := am (rb HO454.out hb)
 have n5_ := am (rb HO457.out hb)
 have n6_ := am (rb HO460.out hb)
 have n7_ := am (rb HO463.out hb)
 have n8_ := am (rb HO474.out hb)
 have n9_ := am (rb HO477.out hb)
 have n10_ := am (rb HO480.out hb)
 have n11_ := am (rb HO483.out hb)
 have n12_ := am (rb HO486.out hb)
 have n13_ := am (rb HO489.out hb)
 have n14_ := am (rb HO493.out hb)
 have n15_ := am (rb HO496.out hb)
 have n16_ := am (rb HO508.out hb)
 have n17_ := am (rb HO511.out hb)
 have n18_ := am (rb HO514.out hb)
 have n19_ := am (rb HO517.out hb)
 have n20_ := am (rb HO520.out hb)
 have n21_ := am (rb HO523.out hb)
 have n22_ := am (bkb BK434.out hb)
 have n23_ := am (bkb BK435.out hb)
 have n24_ := am (bkb BK490.out hb)
 have n25_ := am (bkb BK502.out hb)
 have n26_ := am (below_step bl hb)
 clear HO442
 clear HO445
 clear HO448
 clear HO451
 clear HO454
 clear HO457
 clear HO460
 clear HO463
 clear HO474
 clear HO477
 clear HO480
 clear HO483
 clear HO486
 clear HO489
 clear HO493
 clear HO496
 clear HO508
 clear HO511
 clear HO514
 clear HO517
 clear HO520
 clear HO523
 clear BK434
 clear BK435
 clear BK490
 clear BK502
 clear HB
 have HO442 := n0_
 have HO445 := n1_
 have HO448 := n2_
 have HO451 := n3_
 have HO454 := n4_
 have HO457 := n5_
 have HO460 := n6_
 have HO463 := n7_
 have HO474 := n8_
 have HO477 := n9_
 have HO480 := n10_
 have HO483 := n11_
 have HO486 := n12_
 have HO489 := n13_
 have HO493 := n14_
 have HO496 := n15_
 have HO508 := n16_
 have HO511 := n17_
 have HO514 := n18_
 have HO517 := n19_
 have HO520 := n20_
 have HO523 := n21_
 have BK434 := n22_
 have BK435 := n23_
 have BK490 := n24_
 have BK502 := n25_
 have HB := n26_
 clear n0_ n1_ n2_ n3_ n4_ n5_ n6_ n7_ n8_ n9_ n10_ n11_ n12_ n13_ n14_ n15_ n16_ n17_ n18_ n19_ n20_ n21_ n22_ n23_ n24_ n25_ n26_
 skip
 skip
 skip
 skip
 refine hK.out _ _ ⟨(blk_cell BK490.out 0).trans rfl, (blk_cell BK490.out 1).trans rfl, (blk_cell BK490.out 2).trans rfl, (blk_cell BK490.out 3).trans rfl, (blk_cell BK490.out 4).trans rfl, (blk_cell BK490.out 5).trans rfl, (blk_cell BK490.out 6).trans rfl, (blk_cell BK490.out 7).trans rfl, (blk_cell BK434.out 0).trans rfl, (blk_cell BK434.out 1).trans rfl, (blk_cell BK434.out 2).trans rfl, (blk_cell BK434.out 3).trans rfl, (blk_cell BK434.out 4).trans rfl, (blk_cell BK434.out 5).trans rfl, (blk_cell BK434.out 6).trans rfl, (blk_cell BK434.out 7).trans rfl⟩ (fun hHeld => ?_)
 clear hK K
 refine norm_ (a' := ?_) ?_ ?_
 rotate_left
 ·show Act.put _ (some 38) _ = _
  simp only [Act.put, z1, z2, z3, i64_w, i32_w]
  rfl
 refine pv 4 39 ?_
 refine done_ (by kernel_rfl) ?_
 try go_wp2
 have n0_ := am (Kd.R_drew HO442.out)
 have n1_ := am (Kd.R_drew HO445.out)
 have n2_ := am (Kd.R_drew HO448.out)
 have n3_ := am (Kd.R_drew HO451.out)
 have n4_ := am (Kd.R_drew HO454.out)
 have n5_ := am (Kd.R_drew HO457.out)
 have n6_ := am (Kd.R_drew HO460.out)
 have n7_ := am (Kd.R_drew HO463.out)
 have n8_ := am (Kd.R_drew HO474.out)
 have n9_ := am (Kd.R_drew HO477.out)
 have n10_ := am (Kd.R_drew HO480.out)
 have n11_ := am (Kd.R_drew HO483.out)
 have n12_ := am (Kd.R_drew HO486.out)
 have n13_ := am (Kd.R_drew HO489.out)
 have n14_ := am (Kd.R_drew HO493.out)
 have n15_ := am (Kd.R_drew HO496.out)
 have n16_ := am (Kd.R_drew HO508.out)
 have n17_ := am (Kd.R_drew HO511.out)
 have n18_ := am (Kd.R_drew HO514.out)
 have n19_ := am (Kd.R_drew HO517.out)
 have n20_ := am (Kd.R_drew HO520.out)
 have n21_ := am (Kd.R_drew HO523.out)
 have n22_ := am (blk_drew BK434.out)
 have n23_ := am (blk_drew BK435.out)
 have n24_ := am (blk_drew BK490.out)
 have n25_ := am (blk_drew BK502.out)
 have n26_ := am (below_drew1 HB.out)
 clear HO442
 clear HO445
 clear HO448
 clear HO451
 clear HO454
 clear HO457
 clear HO460
 clear HO463
 clear HO474
 clear HO477
 clear HO480
 clear HO483
 clear HO486
 clear HO489
 clear HO493
 clear HO496
 clear HO508
 clear HO511
 clear HO514
 clear HO517
 clear HO520
 clear HO523
 clear BK434
 clear BK435
 clear BK490
 clear BK502
 clear HB
 have HO442 := n0_
 have HO445 := n1_
 have HO448 := n2_
 have HO451 := n3_
 have HO454 := n4_
 have HO457 := n5_
 have HO460 := n6_
 have HO463 := n7_
 have HO474 := n8_
 have HO477 := n9_
 have HO480 := n10_
 have HO483 := n11_
 have HO486 := n12_
 have HO489 := n13_
 have HO493 := n14_
 have HO496 := n15_
 have HO508 := n16_
 have HO511 := n17_
 have HO514 := n18_
 have HO517 := n19_
 have HO520 := n20_
 have HO523 := n21_
 have BK434 := n22_
 have BK435 := n23_
 have BK490 := n24_
 have BK502 := n25_
 have HB := n26_
 clear n0_ n1_ n2_ n3_ n4_ n5_ n6_ n7_ n8_ n9_ n10_ n11_ n12_ n13_ n14_ n15_ n16_ n17_ n18_ n19_ n20_ n21_ n22_ n23_ n24_ n25_ n26_
 refine start_ (n := 5) (S := fun w' => w'.cell? ⟨gb502, 0, none⟩ = some (.slice Ao66 t491.length co66) ∧ w'.cell? ⟨gb502, 1, none⟩ = some (.slice Ao71 t494.length co71) ∧ w'.cell? ⟨gb502, 2, none⟩ = some (.int .i64 t497) ∧ w'.cell? ⟨gb502, 3, none⟩ = some (.int .i64 t498) ∧ w'.cell? ⟨gb502, 4, none⟩ = some (.int .i64 t499) ∧ w'.cell? ⟨gb502, 5, none⟩ = some (.int .i64 t500) ∧ w'.cell? ⟨gb502, 6, none⟩ = some (.int .i64 t501) ∧ w'.cell? ⟨gb435, 0, none⟩ = some (.slice A1_0 l1_0.length c1_0) ∧ w'.cell? ⟨gb435, 1, none⟩ = some (.slice A1_1 l1_1.length c1_1) ∧ w'.cell? ⟨gb435, 2, none⟩ = some (.int .i64 a1_2) ∧ w'.cell? ⟨gb435, 3, none⟩ = some (.int .i64 a1_3) ∧ w'.cell? ⟨gb435, 4, none⟩ = some (.int .i64 a1_4) ∧ w'.cell? ⟨gb435, 5, none⟩ = some (.int .i64 a1_5) ∧ w'.cell? ⟨gb435, 6, none⟩ = some (.int .i64 a1_6)) (ds := []) #[F_, F_, F_, F_, F_] (by kernel_rfl) rfl rfl ⟨(blk_cell BK502.out 0).trans rfl, (blk_cell BK502.out 1).trans rfl, (blk_cell BK502.out 2).trans rfl, (blk_cell BK502.out 3).trans rfl, (blk_cell BK502.out 4).trans rfl, (blk_cell BK502.out 5).trans rfl, (blk_cell BK502.out 6).trans rfl, (blk_cell BK435.out 0).trans rfl, (blk_cell BK435.out 1).trans rfl, (blk_cell BK435.out 2).trans rfl, (blk_cell BK435.out 3).trans rfl, (blk_cell BK435.out 4).trans rfl, (blk_cell BK435.out 5).trans rfl, (blk_cell BK435.out 6).trans rfl⟩ (fun hHeld => ?_)
 generalize w82.drew = w83 at HO442 HO445 HO448 HO451 HO454 HO457 HO460 HO463 HO474 HO477 HO480 HO483 HO486 HO489 HO493 HO496 HO508 HO511 HO514 HO517 HO520 HO523 BK434 BK435 BK490 BK502 HB hHeld ⊢
 refine tv14 0 40 hHeld ?_
 refine tv14 1 41 hHeld ?_
 refine ov 2 42 (fun K hK => ?_)
 refine gk Tryz.func20 (laws_toEnv.calls _ _ _ _ _ _ _ _ _ _ _ _ _ _ _ _ _ _ _ _ ?side1 ?side2 ?side3 ?side4 A29.out) ?_
 (case side1 => exact cb HR1_0.out)
 (case side2 => exact HC1_0.out)
 (case side3 => exact cb HR1_1.out)
 (case side4 => exact HC1_1.out)
 rintro e w84 ⟨v526, v529, rfl, ho0, ho1, hb⟩
 refine ⟨_, rfl, ?_⟩
 have n0_ := am (rb HO442.out hb)
 have n1_ := am (rb HO445.out hb)
 have n2_ := am (rb HO448.out hb)
 have n3_ := am (rb HO451.out hb)
 have n4_ := am (rb HO454.out hb)
 have n5_ := am (rb HO457.out hb)
 have n6_ := am (Kd.R_mono (Kd.R_told (Kd.R_told (Kd.R_old (kr HO460.out) hb) (Kd.R_base ho0)) (Kd.R_base ho1)) (fun _ h_ => h_.1))
 have n7_ := am (Kd.R_mono (Kd.R_told (Kd.R_told (Kd.R_old (kr HO463.out) hb) (Kd.R_base ho0)) (Kd.R_base ho1)) (fun _ h_ => h_.1))
 have n8_ := am (rb HO474.out hb)
 have n9_ := am (rb HO477.out hb)
 have n10_ := am (rb HO480.out hb)
 have n11_ := am (rb HO483.out hb)
 have n12_ := am (rb HO486.out hb)
 have n13_ := am (rb HO489.out hb)
 have n14_ := am (Kd.R_mono (Kd.R_told (Kd.R_told (Kd.R_old (kr HO493.out) hb) (Kd.R_base ho0)) (Kd.R_base ho1)) (fun _ h_ => h_.1))
 have n15_ := am (Kd.R_mono (Kd.R_told (Kd.R_told (Kd.R_old (kr HO496.out) hb) (Kd.R_base ho0)) (Kd.R_base ho1)) (fun _ h_ => h_.1))
 have n16_ := am (rb HO508.out hb)
 have n17_ := am (rb HO511.out hb)
 have n18_ := am (rb HO514.out hb)
 have n19_ := am (rb HO517.out hb)
 have n20_ := am (rb HO520.out hb)
 have n21_ := am (rb HO523.out hb)
 have n22_ := am (Kd.R_lower (Kd.R_new' (Kd.R_new' (Kd.R_new' (Kd.R_new' ho0 (Kd.R_lt (kr HO460.out))) (Kd.R_lt (kr HO463.out))) (Kd.R_lt (kr HO493.out))) (Kd.R_lt (kr HO496.out))) (below_size bl))
 have n23_ := am (Kd.R_lower (Kd.R_new' (Kd.R_new' (Kd.R_new' (Kd.R_new' ho1 (Kd.R_lt (kr HO460.out))) (Kd.R_lt (kr HO463.out))) (Kd.R_lt (kr HO493.out))) (Kd.R_lt (kr HO496.out))) (below_size bl))
 have n24_ := am (bkb BK434.out hb)
 have n25_ := am (bkb BK435.out hb)
 have n26_ := am (bkb BK490.out hb)
 have n27_ := am (bkb BK502.out hb)
 have n28_ := am (below_step bl hb)
 clear HO442
 clear HO445
 clear HO448
 clear HO451
 clear HO454
 clear HO457
 clear HO460
 clear HO463
 clear HO474
 clear HO477
 clear HO480
 clear HO483
 clear HO486
 clear HO489
 clear HO493
 clear HO496
 clear HO508
 clear HO511
 clear HO514
 clear HO517
 clear HO520
 clear HO523
 clear BK434
 clear BK435
 clear BK490
 clear BK502
 clear HB
 have HO442 := n0_
 have HO445 := n1_
 have HO448 := n2_
 have HO451 := n3_
 have HO454 := n4_
 have HO457 := n5_
 have HO460 := n6_
 have HO463 := n7_
 have HO474 := n8_
 have HO477 := n9_
 have HO480 := n10_
 have HO483 := n11_
 have HO486 := n12_
 have HO489 := n13_
 have HO493 := n14_
 have HO496 := n15_
 have HO508 := n16_
 have HO511 := n17_
 have HO514 := n18_
 have HO517 := n19_
 have HO520 := n20_
 have HO523 := n21_
 have HO527 := n22_
 have HO530 := n23_
 have BK434 := n24_
 have BK435 := n25_
 have BK490 := n26_
 have BK502 := n27_
 have HB := n28_
 clear n0_ n1_ n2_ n3_ n4_ n5_ n6_ n7_ n8_ n9_ n10_ n11_ n12_ n13_ n14_ n15_ n16_ n17_ n18_ n19_ n20_ n21_ n22_ n23_ n24_ n25_ n26_ n27_ n28_
 skip
 skip
 skip
 skip
 skip
 skip
 obtain ⟨Ao85, co85, eo85⟩ := Kd.R_slice HO527.out
 (first | subst eo85 | (injection eo85 with f1_ f2_ f3_; have f4_ := f1_.symm; have f5_ := f3_.symm; clear f1_ f2_ f3_; subst f4_; subst f5_))
 obtain ⟨Ao86, co86, eo86⟩ := Kd.R_slice HO530.out
 (first | subst eo86 | (injection eo86 with f1_ f2_ f3_; have f4_ := f1_.symm; have f5_ := f3_.symm; clear f1_ f2_ f3_; subst f4_; subst f5_))
 refine hK.out _ _ ⟨(blk_cell BK502.out 0).trans rfl, (blk_cell BK502.out 1).trans rfl, (blk_cell BK502.out 2).trans rfl, (blk_cell BK502.out 3).trans rfl, (blk_cell BK502.out 4).trans rfl, (blk_cell BK502.out 5).trans rfl, (blk_cell BK502.out 6).trans rfl, (blk_cell BK435.out 0).trans rfl, (blk_cell BK435.out 1).trans rfl, (blk_cell BK435.out 2).trans rfl, (blk_cell BK435.out 3).trans rfl, (blk_cell BK435.out 4).trans rfl, (blk_cell BK435.out 5).trans rfl, (blk_cell BK435.out 6).trans rfl⟩ (fun hHeld => ?_)
 clear hK K
 refine norm_ (a' := ?_) ?_ ?_
 rotate_left
 ·show Act.put _ (some 42) _ = _
  simp only [Act.put, z1, z2, z3, i64_w, i32_w]
  rfl
 refine ov 3 43 (fun K hK => ?_)
 refine gk Tryz.func22 (laws_eqEnv.calls _ _ _ _ _ _ _ _ _ _ _ _ _ _ _ _ _ _ _ _ _ _ _ _ _ ?side1 ?side2 ?side3 ?side4 ?side5 ?side6 ?side7 ?side8 A30.out) ?_
 (case side1 => exact cc (Kd.R_reads' HO493.out).2.2)
 (case side2 => exact (Kd.R_reads' HO493.out).2.1)
 (case side3 => exact cc (Kd.R_reads' HO496.out).2.2)
 (case side4 => exact (Kd.R_reads' HO496.out).2.1)
 (case side5 => exact cc (Kd.R_reads' HO527.out).2.2)
 (case side6 => exact (Kd.R_reads' HO527.out).2.1)
 (case side7 => exact cc (Kd.R_reads' HO530.out).2.2)
 (case side8 => exact (Kd.R_reads' HO530.out).2.1)
 rintro e w87 ⟨rfl, hb⟩
 refine ⟨_, rfl, ?_⟩
 have n0_ := am (rb HO442.out hb)
 have n1_ := am (rb HO445.out hb)
 have n2_ := am (rb HO448.out hb)
 have n3_ := am (rb HO451.out hb)
 have n4_ := am (rb HO454.out hb)
 have n5_ := am (rb HO457.out hb)
 have n6_ := am (rb HO460.out hb)
 have n7_ := am (rb HO463.out hb)
 have n8_ := am (rb HO474.out hb)
 have n9_ := am (rb HO477.out hb)
 have n10_ := am (rb HO480.out hb)
 have n11_ := am (rb HO483.out hb)
 have n12_ := am (rb HO486.out hb)
 have n13_ := am (rb HO489.out hb)
 have n14_ := am (rb HO493.out hb)
 have n15_ := am (rb HO496.out hb)
 have n16_ := am (rb HO508.out hb)
 have n17_ := am (rb HO511.out hb)
 have n18_ := am (rb HO514.out hb)
 have n19_ := am (rb HO517.out hb)
 have n20_ := am (rb HO520.out hb)
 have n21_ := am (rb HO523.out hb)
 have n22_ := am (rb HO527.out hb)
 have n23_ := am (rb HO530.out hb)
 have n24_ := am (bkb BK434.out hb)
 have n25_ := am (bkb BK435.out hb)
 have n26_ := am (bkb BK490.out hb)
 have n27_ := am (bkb BK502.out hb)
 have n28_ := am (below_step bl hb)
 clear HO442
 clear HO445
 clear HO448
 clear HO451
 clear HO454
 clear HO457
 clear HO460
 clear HO463
 clear HO474
 clear HO477
 clear HO480
 clear HO483
 clear HO486
 clear HO489
 clear HO493
 clear HO496
 clear HO508
 clear HO511
 clear HO514
 clear HO517
 clear HO520
 clear HO523
 clear HO527
 clear HO530
 clear BK434
 clear BK435
 clear BK490
 clear BK502
 clear HB
 have HO442 := n0_
 have HO445 := n1_
 have HO448 := n2_
 have HO451 := n3_
 have HO454 := n4_
 have HO457 := n5_
 have HO460 := n6_
 have HO463 := n7_
 have HO474 := n8_
 have HO477 := n9_
 have HO480 := n10_
 have HO483 := n11_
 have HO486 := n12_
 have HO489 := n13_
 have HO493 := n14_
 have HO496 := n15_
 have HO508 := n16_
 have HO511 := n17_
 have HO514 := n18_
 have HO517 := n19_
 have HO520 := n20_
 have HO523 := n21_
 have HO527 := n22_
 have HO530 := n23_
 have BK434 := n24_
 have BK435 := n25_
 have BK490 := n26_
 have BK502 := n27_
 have HB := n28_
 clear n0_ n1_ n2_ n3_ n4_ n5_ n6_ n7_ n8_ n9_ n10_ n11_ n12_ n13_ n14_ n15_ n16_ n17_ n18_ n19_ n20_ n21_ n22_ n23_ n24_ n25_ n26_ n27_ n28_
 skip
 skip
 skip
 skip
 refine hK.out _ _ ⟨(blk_cell BK502.out 0).trans rfl, (blk_cell BK502.out 1).trans rfl, (blk_cell BK502.out 2).trans rfl, (blk_cell BK502.out 3).trans rfl, (blk_cell BK502.out 4).trans rfl, (blk_cell BK502.out 5).trans rfl, (blk_cell BK502.out 6).trans rfl, (blk_cell BK435.out 0).trans rfl, (blk_cell BK435.out 1).trans rfl, (blk_cell BK435.out 2).trans rfl, (blk_cell BK435.out 3).trans rfl, (blk_cell BK435.out 4).trans rfl, (blk_cell BK435.out 5).trans rfl, (blk_cell BK435.out 6).trans rfl⟩ (fun hHeld => ?_)
 clear hK K
 refine norm_ (a' := ?_) ?_ ?_
 rotate_left
 ·show Act.put _ (some 43) _ = _
  simp only [Act.put, z1, z2, z3, i64_w, i32_w]
  rfl
 refine pv 4 44 ?_
 refine done_ (by kernel_rfl) ?_
 try go_wp2
 go_ret
 exact ⟨er, bl⟩

def laws_FnExactEnvRight.Pure : Prop := ∀ (a0_0 : ByteArray) (a0_1 : Int) (l0_2 : List ByteArray) (l0_3 : List ByteArray) (l0_4 : List (S174)) (l0_5 : List (S176)) (l0_6 : List (S176)) (l0_7 : List (S176)) (l1_0 : List Int) (l1_1 : List Int) (a1_2 : Int) (a1_3 : Int) (a1_4 : Int) (a1_5 : Int) (a1_6 : Int), a0_0.size ≤ maxLen → (Lit.int .i64 a0_1).wf = true → (l0_2.length ≤ maxLen ∧ ∀ x ∈ l0_2, x.size ≤ maxLen) → (l0_3.length ≤ maxLen ∧ ∀ x ∈ l0_3, x.size ≤ maxLen) → (l0_4.length ≤ maxLen ∧ ∀ x ∈ l0_4, (x.f0.size ≤ maxLen ∧ (Lit.int .i64 x.f1).wf = true ∧ (Lit.int .i64 x.f2).wf = true ∧ (Lit.int .i64 x.f3).wf = true)) → (l0_5.length ≤ maxLen ∧ ∀ x ∈ l0_5, ((Lit.int .i64 x.f0).wf = true ∧ x.f1.size ≤ maxLen ∧ x.f2.size ≤ maxLen ∧ (Lit.int .i64 x.f3).wf = true ∧ (Lit.int .i64 x.f4).wf = true)) → (l0_6.length ≤ maxLen ∧ ∀ x ∈ l0_6, ((Lit.int .i64 x.f0).wf = true ∧ x.f1.size ≤ maxLen ∧ x.f2.size ≤ maxLen ∧ (Lit.int .i64 x.f3).wf = true ∧ (Lit.int .i64 x.f4).wf = true)) → (l0_7.length ≤ maxLen ∧ ∀ x ∈ l0_7, ((Lit.int .i64 x.f0).wf = true ∧ x.f1.size ≤ maxLen ∧ x.f2.size ≤ maxLen ∧ (Lit.int .i64 x.f3).wf = true ∧ (Lit.int .i64 x.f4).wf = true)) → (l1_0.length ≤ maxLen ∧ ∀ x ∈ l1_0, (Lit.int .i64 x).wf = true) → (l1_1.length ≤ maxLen ∧ ∀ x ∈ l1_1, (Lit.int .i64 x).wf = true) → (Lit.int .i64 a1_2).wf = true → (Lit.int .i64 a1_3).wf = true → (Lit.int .i64 a1_4).wf = true → (Lit.int .i64 a1_5).wf = true → (Lit.int .i64 a1_6).wf = true → ∃ k, laws_FnExactEnvRight.f k a0_0 a0_1 l0_2 l0_3 l0_4 l0_5 l0_6 l0_7 l1_0 l1_1 a1_2 a1_3 a1_4 a1_5 a1_6 = some true

end Go.Proofs.YtodokfmmnihecaaGreatDoor.PFnExactEnvRight
