import Derived.Test.YthpjnjplgmaofaaGreatDoorQMin
import Derived.Test.YthpjnjplgmaofaaGreatDoorQAut
import Derived.Test.YthpjnjplgmaofaaGreatDoorQBlk
import Derived.Test.YthpjnjplgmaofaaGreatDoorPFnExactVmNamedx0
import Derived.Test.YthpjnjplgmaofaaGreatDoorPFnExactVmNamedx1
import Derived.Test.YthpjnjplgmaofaaGreatDoorPFnExactVmNamedx2
import Derived.Test.YthpjnjplgmaofaaGreatDoorPFnExactVmNamedx3
import Derived.Test.YthpjnjplgmaofaaGreatDoorPFnExactVmNamedx4
namespace Go.Proofs.YthpjnjplgmaofaaGreatDoor.PFnExactVmNamed
open Go.RowKit Go.Proofs.YthpjnjplgmaofaaGreatDoorW.PrintWords Go.Proofs.YthpjnjplgmaofaaGreatDoorW.PrintLast Go.Proofs.YthpjnjplgmaofaaGreatDoorW.PrintMore
attribute [local go_sem] max2_int min2_int max_two min_two max_three min_three max_four min_four   -- for this text's walks alone
set_option linter.unusedVariables false
set_option linter.unusedSimpArgs false
def laws_FnExactVmNamed.j0 : Nat → Bool → ByteArray → Int → List ByteArray → List ByteArray → List (S78) → List (S81) → List (S81) → List (S81) → List (S91) → Int → Int → Int → Int → List (S60) → Int → Int → Int → Int → List (S60) → Int → Int → Int → Int → Option (Bool)
 | 0, _, _, _, _, _, _, _, _, _, _, _, _, _, _, _, _, _, _, _, _, _, _, _, _ => none
 | k + 1, x63, x514000, x514001, x514002, x514003, x514004, x514005, x514006, x514007, x515000, x515001, x515002, x515003, x515004, x552000, x552001, x552002, x552003, x552004, x589000, x589001, x589002, x589003, x589004 => if x63 = true then (none) else ((dX.f k x589000 x589001 x589002 x589003 x589004 1).bind fun bt629 => ((dM.f k bt629.2 x589001 x589002 x589003 x589004 1).bind fun t631 => (if t631 < 0 then (none) else (if t631 = bt629.1 then ((dE.f k x514000 x514001 x514002 x514003 x514004 x514005 x514006 x514007).bind fun bt632 => ((dI.f k x515000 x515001 x515002 x515003 x515004).bind fun bt652 => ((aY.f k bt632.1 bt632.2.1 bt632.2.2.1 bt632.2.2.2.1 bt632.2.2.2.2.1 bt632.2.2.2.2.2.1 bt632.2.2.2.2.2.2.1 bt632.2.2.2.2.2.2.2 bt652.1 bt652.2.1 bt652.2.2.1 bt652.2.2.2.1 bt652.2.2.2.2).bind fun bt659 => ((dP.f k bt659.1 bt659.2.1 bt659.2.2.1 bt659.2.2.2.1 bt659.2.2.2.2 x552000 x552001 x552002 x552003 x552004).bind fun t667 => (if t667 = true then ((dM.f k bt629.2 x589001 x589002 x589003 x589004 1).bind fun t668 => (if t668 < 0 then (none) else (if t668 = bt629.1 then (some true) else (none)))) else (none)))))) else (none)))))
def laws_FnExactVmNamed.f (k : Nat) (a0_0 : ByteArray) (a0_1 : Int) (l0_2 : List ByteArray) (l0_3 : List ByteArray) (l0_4 : List (S78)) (l0_5 : List (S81)) (l0_6 : List (S81)) (l0_7 : List (S81)) (l1_0 : List (S91)) (a1_1 : Int) (a1_2 : Int) (a1_3 : Int) (a1_4 : Int) : Option (Bool) := (bG.f k a0_0 a0_1 l0_2 l0_3 l0_4 l0_5 l0_6 l0_7 1048576).bind fun t515 => (if t515 < 0 then (some true) else ((gG.f l1_0 a1_1 a1_2 a1_3 a1_4 t515).bind fun t516 => (if t516 < 0 then (some true) else ((dE.f k a0_0 a0_1 l0_2 l0_3 l0_4 l0_5 l0_6 l0_7).bind fun bt517 => ((dI.f k l1_0 a1_1 a1_2 a1_3 a1_4).bind fun bt537 => ((aQ.f k bt517.1 bt517.2.1 bt517.2.2.1 bt517.2.2.2.1 bt517.2.2.2.2.1 bt517.2.2.2.2.2.1 bt517.2.2.2.2.2.2.1 bt517.2.2.2.2.2.2.2 bt537.1 bt537.2.1 bt537.2.2.1 bt537.2.2.2.1 bt537.2.2.2.2).bind fun bt544 => ((dE.f k a0_0 a0_1 l0_2 l0_3 l0_4 l0_5 l0_6 l0_7).bind fun bt552 => ((dI.f k l1_0 a1_1 a1_2 a1_3 a1_4).bind fun bt573 => ((aY.f k bt552.1 bt552.2.1 bt552.2.2.1 bt552.2.2.2.1 bt552.2.2.2.2.1 bt552.2.2.2.2.2.1 bt552.2.2.2.2.2.2.1 bt552.2.2.2.2.2.2.2 bt573.1 bt573.2.1 bt573.2.2.1 bt573.2.2.2.1 bt573.2.2.2.2).bind fun bt581 => ((dP.f k bt581.1 bt581.2.1 bt581.2.2.1 bt581.2.2.2.1 bt581.2.2.2.2 bt544.1 bt544.2.1 bt544.2.2.1 bt544.2.2.2.1 bt544.2.2.2.2).bind fun t589 => (if t589 = true then ((dE.f k a0_0 a0_1 l0_2 l0_3 l0_4 l0_5 l0_6 l0_7).bind fun bt590 => ((cK.f k bt552.1 bt552.2.1 bt552.2.2.1 bt552.2.2.2.1 bt552.2.2.2.2.1 bt552.2.2.2.2.2.1 bt552.2.2.2.2.2.2.1 bt552.2.2.2.2.2.2.2 bt590.1 bt590.2.1 bt590.2.2.1 bt590.2.2.2.1 bt590.2.2.2.2.1 bt590.2.2.2.2.2.1 bt590.2.2.2.2.2.2.1 bt590.2.2.2.2.2.2.2).bind fun t610 => (if t610 = true then ((dI.f k l1_0 a1_1 a1_2 a1_3 a1_4).bind fun bt611 => ((fA.f k bt573.1 bt573.2.1 bt573.2.2.1 bt573.2.2.2.1 bt573.2.2.2.2 bt611.1 bt611.2.1 bt611.2.2.1 bt611.2.2.2.1 bt611.2.2.2.2).bind fun t618 => (if t618 = true then ((dW.f k bt552.1 bt552.2.1 bt552.2.2.1 bt552.2.2.2.1 bt552.2.2.2.2.1 bt552.2.2.2.2.2.1 bt552.2.2.2.2.2.2.1 bt552.2.2.2.2.2.2.2 1).bind fun bt619 => ((eP.f k bt573.1 bt573.2.1 bt573.2.2.1 bt573.2.2.2.1 bt573.2.2.2.2 bt619.1).bind fun bt626 => (if bt626.1 < 0 then (laws_FnExactVmNamed.j0 k true a0_0 a0_1 l0_2 l0_3 l0_4 l0_5 l0_6 l0_7 l1_0 a1_1 a1_2 a1_3 a1_4 bt544.1 bt544.2.1 bt544.2.2.1 bt544.2.2.2.1 bt544.2.2.2.2 bt581.1 bt581.2.1 bt581.2.2.1 bt581.2.2.2.1 bt581.2.2.2.2) else ((dP.f k bt581.1 bt581.2.1 bt581.2.2.1 bt581.2.2.2.1 bt581.2.2.2.2 bt544.1 bt544.2.1 bt544.2.2.1 bt544.2.2.2.1 bt544.2.2.2.2).bind fun t628 => (laws_FnExactVmNamed.j0 k (!t628) a0_0 a0_1 l0_2 l0_3 l0_4 l0_5 l0_6 l0_7 l1_0 a1_1 a1_2 a1_3 a1_4 bt544.1 bt544.2.1 bt544.2.2.1 bt544.2.2.2.1 bt544.2.2.2.2 bt581.1 bt581.2.1 bt581.2.2.1 bt581.2.2.2.1 bt581.2.2.2.2))))) else (none)))) else (none)))) else (none))))))))))))
theorem laws_FnExactVmNamed.bI : ∀ k, (∀ y0 y1 y2 y3 y4 y5 y6 y7 y8 y9 y10 y11 y12 y13 y14 y15 y16 y17 y18 y19 y20 y21 y22 y23, LeO (laws_FnExactVmNamed.j0 k y0 y1 y2 y3 y4 y5 y6 y7 y8 y9 y10 y11 y12 y13 y14 y15 y16 y17 y18 y19 y20 y21 y22 y23) (laws_FnExactVmNamed.j0 (k + 1) y0 y1 y2 y3 y4 y5 y6 y7 y8 y9 y10 y11 y12 y13 y14 y15 y16 y17 y18 y19 y20 y21 y22 y23))
 | 0 => fun _ _ _ _ _ _ _ _ _ _ _ _ _ _ _ _ _ _ _ _ _ _ _ _ r h => by simp [laws_FnExactVmNamed.j0] at h
 | k + 1 => by
  have ih0 := laws_FnExactVmNamed.bI k
  ·intro y0 y1 y2 y3 y4 y5 y6 y7 y8 y9 y10 y11 y12 y13 y14 y15 y16 y17 y18 y19 y20 y21 y22 y23
   unfold laws_FnExactVmNamed.j0
   repeat' (with_reducible first | exact ih0 .. | exact aY.mono .. | exact dP.mono .. | exact cK.mono .. | exact fA.mono .. | exact dM.mono .. | exact dX.mono .. | exact dW.mono .. | exact eP.mono .. | exact bG.mono .. | exact dE.mono .. | exact dI.mono .. | exact aQ.mono .. | exact LeO.refl _ | exact LeO.none _ | refine LeO.ite ?_ ?_ | refine LeO.bind ?_ (fun _ => ?_))
theorem laws_FnExactVmNamed.mono : ∀ a0 a1 a2 a3 a4 a5 a6 a7 a8 a9 a10 a11 a12 k, LeO (laws_FnExactVmNamed.f k a0 a1 a2 a3 a4 a5 a6 a7 a8 a9 a10 a11 a12) (laws_FnExactVmNamed.f (k + 1) a0 a1 a2 a3 a4 a5 a6 a7 a8 a9 a10 a11 a12) := by
 intro a0 a1 a2 a3 a4 a5 a6 a7 a8 a9 a10 a11 a12 k
 have ih0 := laws_FnExactVmNamed.bI k
 unfold laws_FnExactVmNamed.f
 repeat' (with_reducible first | exact ih0 .. | exact aY.mono .. | exact dP.mono .. | exact cK.mono .. | exact fA.mono .. | exact dM.mono .. | exact dX.mono .. | exact dW.mono .. | exact eP.mono .. | exact bG.mono .. | exact dE.mono .. | exact dI.mono .. | exact aQ.mono .. | exact LeO.refl _ | exact LeO.none _ | refine LeO.ite ?_ ?_ | refine LeO.bind ?_ (fun _ => ?_))
set_option maxHeartbeats 8000000 in
set_option maxRecDepth 100000 in
theorem laws_FnExactVmNamed.calls (k : Nat) (a0_0 : ByteArray) (a0_1 : Int) (A0_2 : Option Addr) (c0_2 : Nat) (l0_2 : List ByteArray) (A0_3 : Option Addr) (c0_3 : Nat) (l0_3 : List ByteArray) (A0_4 : Option Addr) (c0_4 : Nat) (l0_4 : List (S78)) (A0_5 : Option Addr) (c0_5 : Nat) (l0_5 : List (S81)) (A0_6 : Option Addr) (c0_6 : Nat) (l0_6 : List (S81)) (A0_7 : Option Addr) (c0_7 : Nat) (l0_7 : List (S81)) (A1_0 : Option Addr) (c1_0 : Nat) (l1_0 : List (S91)) (a1_1 : Int) (a1_2 : Int) (a1_3 : Int) (a1_4 : Int) (r : Bool) (w : World) (hr0_2 : Kd.C Kd.string w A0_2 l0_2.length l0_2) (hc0_2 : l0_2.length ≤ c0_2) (hr0_3 : Kd.C Kd.string w A0_3 l0_3.length l0_3) (hc0_3 : l0_3.length ≤ c0_3) (hr0_4 : Kd.C k78 w A0_4 l0_4.length l0_4) (hc0_4 : l0_4.length ≤ c0_4) (hr0_5 : Kd.C k81 w A0_5 l0_5.length l0_5) (hc0_5 : l0_5.length ≤ c0_5) (hr0_6 : Kd.C k81 w A0_6 l0_6.length l0_6) (hc0_6 : l0_6.length ≤ c0_6) (hr0_7 : Kd.C k81 w A0_7 l0_7.length l0_7) (hc0_7 : l0_7.length ≤ c0_7) (hr1_0 : Kd.C k91 w A1_0 l1_0.length l1_0) (hc1_0 : l1_0.length ≤ c1_0) (hsh : Sh w) (h : laws_FnExactVmNamed.f k a0_0 a0_1 l0_2 l0_3 l0_4 l0_5 l0_6 l0_7 l1_0 a1_1 a1_2 a1_3 a1_4 = some r) :
  Calls Tryz.prog 3 #[.agg #[.string a0_0, .int .i64 a0_1, .slice A0_2 l0_2.length c0_2, .slice A0_3 l0_3.length c0_3, .slice A0_4 l0_4.length c0_4, .slice A0_5 l0_5.length c0_5, .slice A0_6 l0_6.length c0_6, .slice A0_7 l0_7.length c0_7], .agg #[.slice A1_0 l1_0.length c1_0, .int .i64 a1_1, .int .i64 a1_2, .int .i64 a1_3, .int .i64 a1_4]] w fun e w' => e = .returned (.bool r) ∧ Below w.heap.size w w' := by
 have hu26 := Tryz.underlying26
 have hu29 := Tryz.underlying29
 have hu34 := Tryz.underlying34
 have hu39 := Tryz.underlying39
 have hu43 := Tryz.underlying43
 have Lh := am hr0_2
 have Lj := am hc0_2
 clear hr0_2 hc0_2
 have Ll := am hr0_3
 have Lm := am hc0_3
 clear hr0_3 hc0_3
 have Ln := am hr0_4
 have Lp := am hc0_4
 clear hr0_4 hc0_4
 have Lq := am hr0_5
 have Lr := am hc0_5
 clear hr0_5 hc0_5
 have Ls := am hr0_6
 have Lu := am hc0_6
 clear hr0_6 hc0_6
 have Ly := am hr0_7
 have Ma := am hc0_7
 clear hr0_7 hc0_7
 have Ky := am hr1_0
 have Kz := am hc1_0
 clear hr1_0 hc1_0
 have HSH := am hsh; clear hsh
 have HB := am (Below.refl w.heap.size w)
 have H := h
 clear h
 unfold laws_FnExactVmNamed.f at H
 revert H; refine bj fun t515 A3 H => ?_
 revert H; refine iDb (fun Ur H => ?_) fun Ur H => ?_
 ·obtain rfl := Option.some.inj H
  go_enter Tryz.func3, Tryz.ntmps3
  go_wp2_with (first | ((with_reducible refine g_ 2 ?_); refine bx 2 #[.string a0_0, .int .i64 a0_1, .slice A0_2 l0_2.length c0_2, .slice A0_3 l0_3.length c0_3, .slice A0_4 l0_4.length c0_4, .slice A0_5 l0_5.length c0_5, .slice A0_6 l0_6.length c0_6, .slice A0_7 l0_7.length c0_7] 26 ?_; intro Eu hg w5 hbox hb; have Cb := am hbox; have Om := am (bsz hg : w.heap.size ≤ Eu); have Oo := Om; replace HB := ho hb; clear hb hbox hg) | ((with_reducible refine g_ 3 ?_); refine bx 3 #[.slice A1_0 l1_0.length c1_0, .int .i64 a1_1, .int .i64 a1_2, .int .i64 a1_3, .int .i64 a1_4] 29 ?_; intro Gs hg w6 hbox hb; have Cc := am hbox; have Oq := am (bsz hg : w.heap.size ≤ Gs); have Ot := Oq; have Jj := no hg Cb; have Jr := am Jj.out.symm; replace Cb := bo Cb hb; replace HB := ho hb; clear hb hbox hg; have Cai := Jj.out; have Caj := Jr.out; have Z8 := dD Cb.out) | ((with_reducible refine c_ 4 ?_); refine gc 4 (some 16) Tryz.func4 (bG.calls _ _ _ _ _ _ _ _ _ _ _ _ _ _ _ _ _ _ _ _ _ _ _ _ ?Ec ?Ed ?Gp ?Gq ?Gy ?Gz ?Ia ?Ib ?Ic ?Ew ?Ey ?Ez A3.out) ?_; (case Ec => exact cb Lh.out); (case Ed => exact Lj.out); (case Gp => exact cb Ll.out); (case Gq => exact Lm.out); (case Gy => exact cb Ln.out); (case Gz => exact Lp.out); (case Ia => exact cb Lq.out); (case Ib => exact Lr.out); (case Ic => exact cb Ls.out); (case Ew => exact Lu.out); (case Ey => exact cb Ly.out); (case Ez => exact Ma.out); rintro e w9 ⟨rfl, hb⟩; refine ⟨_, rfl, ?_⟩; refine r2_ hb Cb Cc ?_; clear Cb Cc; intro Cb Cc; replace HB := ho hb; clear hb))
  go_ret
  exact ⟨er, bl⟩
 revert H; refine bj fun t516 Xz H => ?_
 revert H; refine iDb (fun Ro H => ?_) fun Ro H => ?_
 ·obtain rfl := Option.some.inj H
  go_enter Tryz.func3, Tryz.ntmps3
  go_wp2_with (first | ((with_reducible refine g_ 2 ?_); refine bx 2 #[.string a0_0, .int .i64 a0_1, .slice A0_2 l0_2.length c0_2, .slice A0_3 l0_3.length c0_3, .slice A0_4 l0_4.length c0_4, .slice A0_5 l0_5.length c0_5, .slice A0_6 l0_6.length c0_6, .slice A0_7 l0_7.length c0_7] 26 ?_; intro Eu hg w12 hbox hb; have Cb := am hbox; have Om := am (bsz hg : w.heap.size ≤ Eu); have Oo := Om; replace HB := ho hb; clear hb hbox hg) | ((with_reducible refine g_ 3 ?_); refine bx 3 #[.slice A1_0 l1_0.length c1_0, .int .i64 a1_1, .int .i64 a1_2, .int .i64 a1_3, .int .i64 a1_4] 29 ?_; intro Gs hg w13 hbox hb; have Cc := am hbox; have Oq := am (bsz hg : w.heap.size ≤ Gs); have Ot := Oq; have Jj := no hg Cb; have Jr := am Jj.out.symm; replace Cb := bo Cb hb; replace HB := ho hb; clear hb hbox hg; have Ya := Jj.out; have Yb := Jr.out; have Z15 := dD Cb.out) | ((with_reducible refine c_ 4 ?_); refine gc 4 (some 16) Tryz.func4 (bG.calls _ _ _ _ _ _ _ _ _ _ _ _ _ _ _ _ _ _ _ _ _ _ _ _ ?Ec ?Ed ?Gp ?Gq ?Gy ?Gz ?Ia ?Ib ?Ic ?Ew ?Ey ?Ez A3.out) ?_; (case Ec => exact cb Lh.out); (case Ed => exact Lj.out); (case Gp => exact cb Ll.out); (case Gq => exact Lm.out); (case Gy => exact cb Ln.out); (case Gz => exact Lp.out); (case Ia => exact cb Lq.out); (case Ib => exact Lr.out); (case Ic => exact cb Ls.out); (case Ew => exact Lu.out); (case Ey => exact cb Ly.out); (case Ez => exact Ma.out); rintro e w16 ⟨rfl, hb⟩; refine ⟨_, rfl, ?_⟩; refine r2_ hb Cb Cc ?_; clear Cb Cc; intro Cb Cc; replace HB := ho hb; clear hb; have Z17 := dG Cc.out) | ((with_reducible refine c_ 5 ?_); refine gc 5 (some 21) Tryz.func5 (gG.calls _ _ _ _ _ _ _ _ _ _ ?Ec ?Ed Xz.out) ?_; (case Ec => exact cb Ky.out); (case Ed => exact Kz.out); rintro e w18 ⟨rfl, hb⟩; refine ⟨_, rfl, ?_⟩; refine r2_ hb Cb Cc ?_; clear Cb Cc; intro Cb Cc; replace HB := ho hb; clear hb))
  go_ret
  exact ⟨er, bl⟩
 replace H := bi H; obtain ⟨⟨t517, t518, t519, t522, t525, t528, t531, t534⟩, Yc, H⟩ := H; dsimp only at H
 replace H := bi H; obtain ⟨⟨t537, t540, t541, t542, t543⟩, Us, H⟩ := H; dsimp only at H
 replace H := bi H; obtain ⟨⟨t544, t547, t548, t549, t550⟩, Ue, H⟩ := H; dsimp only at H
 replace H := bi H; obtain ⟨⟨t552, t553, t554, t557, t560, t563, t566, t569⟩, A22, H⟩ := H; dsimp only at H
 replace H := bi H; obtain ⟨⟨t573, t576, t577, t578, t579⟩, A23, H⟩ := H; dsimp only at H
 replace H := bi H; obtain ⟨⟨t581, t584, t585, t586, t587⟩, A24, H⟩ := H; dsimp only at H
 revert H; refine bj fun t589 A25 H => ?_
 replace H := jz H; obtain ⟨rfl, H⟩ := H
 replace H := bi H; obtain ⟨⟨t590, t591, t592, t595, t598, t601, t604, t607⟩, A27, H⟩ := H; dsimp only at H
 revert H; refine bj fun t610 A28 H => ?_
 replace H := jz H; obtain ⟨rfl, H⟩ := H
 replace H := bi H; obtain ⟨⟨t611, t614, t615, t616, t617⟩, A30, H⟩ := H; dsimp only at H
 revert H; refine bj fun t618 A31 H => ?_
 replace H := jz H; obtain ⟨rfl, H⟩ := H
 replace H := bi H; obtain ⟨⟨t619, t620, t621, t622, t623, t624, t625⟩, A33, H⟩ := H; dsimp only at H
 replace H := bi H; obtain ⟨⟨t626, t627⟩, A34, H⟩ := H; dsimp only at H
 have Qx := am H; clear H
 go_enter Tryz.func3, Tryz.ntmps3
 try go_wp2_with (first | ((with_reducible refine g_ 2 ?_); refine bx 2 #[.string a0_0, .int .i64 a0_1, .slice A0_2 l0_2.length c0_2, .slice A0_3 l0_3.length c0_3, .slice A0_4 l0_4.length c0_4, .slice A0_5 l0_5.length c0_5, .slice A0_6 l0_6.length c0_6, .slice A0_7 l0_7.length c0_7] 26 ?_; intro Eu hg w36 hbox hb; have Cb := am hbox; have Om := am (bsz hg : w.heap.size ≤ Eu); have Oo := Om; replace HB := ho hb; clear hb hbox hg) | ((with_reducible refine g_ 3 ?_); refine bx 3 #[.slice A1_0 l1_0.length c1_0, .int .i64 a1_1, .int .i64 a1_2, .int .i64 a1_3, .int .i64 a1_4] 29 ?_; intro Gs hg w37 hbox hb; have Cc := am hbox; have Oq := am (bsz hg : w.heap.size ≤ Gs); have Ot := Oq; have Jj := no hg Cb; have Jr := am Jj.out.symm; replace Cb := bo Cb hb; replace HB := ho hb; clear hb hbox hg; have Yd := Jj.out; have Ye := Jr.out; have Z39 := dD Cb.out) | ((with_reducible refine c_ 4 ?_); refine gc 4 (some 16) Tryz.func4 (bG.calls _ _ _ _ _ _ _ _ _ _ _ _ _ _ _ _ _ _ _ _ _ _ _ _ ?Ec ?Ed ?Gp ?Gq ?Gy ?Gz ?Ia ?Ib ?Ic ?Ew ?Ey ?Ez A3.out) ?_; (case Ec => exact cb Lh.out); (case Ed => exact Lj.out); (case Gp => exact cb Ll.out); (case Gq => exact Lm.out); (case Gy => exact cb Ln.out); (case Gz => exact Lp.out); (case Ia => exact cb Lq.out); (case Ib => exact Lr.out); (case Ic => exact cb Ls.out); (case Ew => exact Lu.out); (case Ey => exact cb Ly.out); (case Ez => exact Ma.out); rintro e w40 ⟨rfl, hb⟩; refine ⟨_, rfl, ?_⟩; refine r2_ hb Cb Cc ?_; clear Cb Cc; intro Cb Cc; replace HB := ho hb; clear hb; have Z41 := dG Cc.out) | ((with_reducible refine c_ 5 ?_); refine gc 5 (some 21) Tryz.func5 (gG.calls _ _ _ _ _ _ _ _ _ _ ?Ec ?Ed Xz.out) ?_; (case Ec => exact cb Ky.out); (case Ed => exact Kz.out); rintro e w42 ⟨rfl, hb⟩; refine ⟨_, rfl, ?_⟩; refine r2_ hb Cb Cc ?_; clear Cb Cc; intro Cb Cc; replace HB := ho hb; clear hb))
 replace Cb := am (bB Cb.out); replace Cc := am (bB Cc.out); replace HB := am (bg HB.out)
 refine eH (n := 7) (S := Sb8b5 Eu (.string a0_0) (.int .i64 a0_1) (.slice A0_2 l0_2.length c0_2) (.slice A0_3 l0_3.length c0_3) (.slice A0_4 l0_4.length c0_4) (.slice A0_5 l0_5.length c0_5) (.slice A0_6 l0_6.length c0_6) (.slice A0_7 l0_7.length c0_7) Gs (.slice A1_0 l1_0.length c1_0) (.int .i64 a1_1) (.int .i64 a1_2) (.int .i64 a1_3) (.int .i64 a1_4)) (ds := []) #[F_, F_, F_, F_, F_, F_, F_] (by kernel_rfl) rfl rfl (fJ Cb.out Cc.out) (fun hHeld => ?_)
 generalize w42.drew = w43 at Cb Cc HB hHeld ⊢
 refine tv13 0 24 hHeld ?_
 refine tv13 2 26 hHeld ?_
 refine join_ (σ := Value × Value × Value × Value × Value × Value × Value × Value × Nat) 1 #[T_, T_, T_, T_, T_, T_, F_] (fun s_ => [(25, .agg #[.string t517, .int .i64 t518, s_.1, s_.2.1, s_.2.2.1, s_.2.2.2.1, s_.2.2.2.2.1, s_.2.2.2.2.2.1]), (27, .agg #[s_.2.2.2.2.2.2.1, .int .i64 t540, .int .i64 t541, .int .i64 t542, .int .i64 t543]), (28, .agg #[s_.2.2.2.2.2.2.2.1, .int .i64 t547, .int .i64 t548, .int .i64 t549, .int .i64 t550]), (6, .pointer (some ⟨s_.2.2.2.2.2.2.2.2, 0, none⟩))]) (fun s_ w' => (w'.cell? ⟨Eu, 0, none⟩ = some (.string a0_0) ∧ w'.cell? ⟨Eu, 1, none⟩ = some (.int .i64 a0_1) ∧ w'.cell? ⟨Eu, 2, none⟩ = some (.slice A0_2 l0_2.length c0_2) ∧ w'.cell? ⟨Eu, 3, none⟩ = some (.slice A0_3 l0_3.length c0_3) ∧ w'.cell? ⟨Eu, 4, none⟩ = some (.slice A0_4 l0_4.length c0_4) ∧ w'.cell? ⟨Eu, 5, none⟩ = some (.slice A0_5 l0_5.length c0_5) ∧ w'.cell? ⟨Eu, 6, none⟩ = some (.slice A0_6 l0_6.length c0_6) ∧ w'.cell? ⟨Eu, 7, none⟩ = some (.slice A0_7 l0_7.length c0_7) ∧ w'.cell? ⟨Gs, 0, none⟩ = some (.slice A1_0 l1_0.length c1_0) ∧ w'.cell? ⟨Gs, 1, none⟩ = some (.int .i64 a1_1) ∧ w'.cell? ⟨Gs, 2, none⟩ = some (.int .i64 a1_2) ∧ w'.cell? ⟨Gs, 3, none⟩ = some (.int .i64 a1_3) ∧ w'.cell? ⟨Gs, 4, none⟩ = some (.int .i64 a1_4)) ∧ (Kd.R Kd.string 9 w' w.heap.size (fun k_ => some k_ ≠ (s_.2.1 : Value).ownBlock) s_.1 t519) ∧ (Kd.R Kd.string 9 w' w.heap.size (fun k_ => some k_ ≠ (s_.1 : Value).ownBlock) s_.2.1 t522) ∧ (Kd.R k83 83 w' w.heap.size (fun _ => True) s_.2.2.1 t525) ∧ (Kd.R k88 88 w' w.heap.size (fun k_ => some k_ ≠ (s_.2.2.2.2.1 : Value).ownBlock ∧ some k_ ≠ (s_.2.2.2.2.2.1 : Value).ownBlock) s_.2.2.2.1 t528) ∧ (Kd.R k88 88 w' w.heap.size (fun k_ => some k_ ≠ (s_.2.2.2.1 : Value).ownBlock ∧ some k_ ≠ (s_.2.2.2.2.2.1 : Value).ownBlock) s_.2.2.2.2.1 t531) ∧ (Kd.R k88 88 w' w.heap.size (fun k_ => some k_ ≠ (s_.2.2.2.1 : Value).ownBlock ∧ some k_ ≠ (s_.2.2.2.2.1 : Value).ownBlock) s_.2.2.2.2.2.1 t534) ∧ (Kd.R k58 58 w' w.heap.size (fun _ => True) s_.2.2.2.2.2.2.1 t537) ∧ (Kd.R k60 60 w' w.heap.size (fun _ => True) s_.2.2.2.2.2.2.2.1 t544) ∧ (w'.heap[Eu]? = some (.cells #[.string a0_0, .int .i64 a0_1, .slice A0_2 l0_2.length c0_2, .slice A0_3 l0_3.length c0_3, .slice A0_4 l0_4.length c0_4, .slice A0_5 l0_5.length c0_5, .slice A0_6 l0_6.length c0_6, .slice A0_7 l0_7.length c0_7] 26 (0, 0))) ∧ (w'.heap[Gs]? = some (.cells #[.slice A1_0 l1_0.length c1_0, .int .i64 a1_1, .int .i64 a1_2, .int .i64 a1_3, .int .i64 a1_4] 29 (0, 0))) ∧ (w'.heap[s_.2.2.2.2.2.2.2.2]? = some (.cells #[.slice none 0 0, .int .i64 0, .int .i64 0, .int .i64 0, .int .i64 0] 34 (0, 0))) ∧ (w.heap.size ≤ s_.2.2.2.2.2.2.2.2) ∧ (w.heap.size ≤ s_.2.2.2.2.2.2.2.2) ∧ (Eu ≠ s_.2.2.2.2.2.2.2.2) ∧ (s_.2.2.2.2.2.2.2.2 ≠ Eu) ∧ (Gs ≠ s_.2.2.2.2.2.2.2.2) ∧ (s_.2.2.2.2.2.2.2.2 ≠ Gs) ∧ (Below w.heap.size w w')) ?_ ?_
 rotate_left
 ·intro hCont
  refine sV (i := 1) (j := 5) (Ni := some 25) (Nj := some 6) #[T_, T_, T_, F_, F_, F_, F_] #[T_, F_, T_, F_, F_, T_, F_] rfl rfl rfl rfl (by kernel_rfl) (by decide) (by decide) (fun K hK => ?_) (fun K hK => ?_)
  ·skip
   refine gk Tryz.func7 (dE.calls _ _ _ _ _ _ _ _ _ _ _ _ _ _ _ _ _ _ _ _ _ _ _ _ _ _ _ _ _ _ ?Ec ?Ed ?Gp ?Gq ?Gy ?Gz ?Ia ?Ib ?Ic ?Ew ?Ey ?Ez Yc.out) ?_
   (case Ec => exact cb Lh.out)
   (case Ed => exact Lj.out)
   (case Gp => exact cb Ll.out)
   (case Gq => exact Lm.out)
   (case Gy => exact cb Ln.out)
   (case Gz => exact Lp.out)
   (case Ia => exact cb Lq.out)
   (case Ib => exact Lr.out)
   (case Ic => exact cb Ls.out)
   (case Ew => exact Lu.out)
   (case Ey => exact cb Ly.out)
   (case Ez => exact Ma.out)
   rintro e w44 ⟨v520, v523, v526, v529, v532, v535, rfl, ho0, ho1, ho2, ho3, ho4, ho5, hb⟩
   refine ⟨_, rfl, ?_⟩
   have Dy := am (Kd.bz ho0 (az bl)); have Dz := am (Kd.bz ho1 (az bl)); have Ea := am (Kd.bz ho2 (az bl)); have Dt := am (Kd.bz ho3 (az bl)); have Du := am (Kd.bz ho4 (az bl)); have Dv := am (Kd.bz ho5 (az bl)); refine r2_ hb Cb Cc ?_; clear Cb Cc; intro Cb Cc; replace HB := ho hb
   refine hK.out _ _ (fJ Cb.out Cc.out) (fun hHeld => ?_)
   clear hK K
   refine dn (a' := ?_) ?_ ?_
   rotate_left
   ·show Act.put _ (some 25) _ = _
    simp only [Act.put, z1, z2, z3, bu, bv]
    rfl
   refine sV (i := 3) (j := 5) (Ni := some 27) (Nj := some 6) #[T_, T_, T_, T_, F_, F_, F_] #[T_, T_, T_, F_, F_, T_, F_] rfl rfl rfl rfl (by kernel_rfl) (by decide) (by decide) (fun K hK => ?_) (fun K hK => ?_)
   ·skip
    refine gk Tryz.func8 (dI.calls _ _ _ _ _ _ _ _ _ _ _ _ _ _ ?Ec ?Ed Us.out) ?_
    (case Ec => exact cb Ky.out)
    (case Ed => exact Kz.out)
    rintro e w45 ⟨v538, rfl, ho0, hb⟩
    refine ⟨_, rfl, ?_⟩
    refine r6_ hb Dy Dz Ea Dt Du Dv ?_; clear Dy Dz Ea Dt Du Dv; intro Dy Dz Ea Dt Du Dv; have Eb := am (Kd.bz ho0 (az bl)); refine r2_ hb Cb Cc ?_; clear Cb Cc; intro Cb Cc; replace HB := ho hb
    obtain ⟨Ut, Uu, Rq⟩ := Kd.aI Dy.out
    (first | subst Rq | (injection Rq with f1_ f2_ f3_; have f4_ := f1_.symm; have f5_ := f3_.symm; clear f1_ f2_ f3_; subst f4_; subst f5_))
    obtain ⟨Oy, Oz, Nv⟩ := Kd.aI Dz.out
    (first | subst Nv | (injection Nv with f1_ f2_ f3_; have f4_ := f1_.symm; have f5_ := f3_.symm; clear f1_ f2_ f3_; subst f4_; subst f5_))
    obtain ⟨Pc, Pd, Nw⟩ := Kd.aI Ea.out
    (first | subst Nw | (injection Nw with f1_ f2_ f3_; have f4_ := f1_.symm; have f5_ := f3_.symm; clear f1_ f2_ f3_; subst f4_; subst f5_))
    obtain ⟨Pe, Pg, Nx⟩ := Kd.aI Dt.out
    (first | subst Nx | (injection Nx with f1_ f2_ f3_; have f4_ := f1_.symm; have f5_ := f3_.symm; clear f1_ f2_ f3_; subst f4_; subst f5_))
    obtain ⟨Ph, Pi, Ny⟩ := Kd.aI Du.out
    (first | subst Ny | (injection Ny with f1_ f2_ f3_; have f4_ := f1_.symm; have f5_ := f3_.symm; clear f1_ f2_ f3_; subst f4_; subst f5_))
    obtain ⟨Pj, Pk, Nz⟩ := Kd.aI Dv.out
    (first | subst Nz | (injection Nz with f1_ f2_ f3_; have f4_ := f1_.symm; have f5_ := f3_.symm; clear f1_ f2_ f3_; subst f4_; subst f5_))
    obtain ⟨Pm, Pn, Oa⟩ := Kd.aI Eb.out
    (first | subst Oa | (injection Oa with f1_ f2_ f3_; have f4_ := f1_.symm; have f5_ := f3_.symm; clear f1_ f2_ f3_; subst f4_; subst f5_))
    refine hK.out _ _ (fJ Cb.out Cc.out) (fun hHeld => ?_)
    clear hK K
    refine dn (a' := ?_) ?_ ?_
    rotate_left
    ·show Act.put _ (some 27) _ = _
     simp only [Act.put, z1, z2, z3, bu, bv]
     rfl
    refine sV (i := 4) (j := 5) (Ni := some 28) (Nj := some 6) #[T_, T_, T_, T_, T_, F_, F_] #[T_, T_, T_, T_, F_, T_, F_] rfl rfl rfl rfl (by kernel_rfl) (by decide) (by decide) (fun K hK => ?_) (fun K hK => ?_)
    ·skip
     refine gk Tryz.func6 (aQ.calls _ _ _ _ _ _ _ _ _ _ _ _ _ _ _ _ _ _ _ _ _ _ _ _ _ _ _ _ _ _ _ _ _ _ ?Ec ?Ed ?Gp ?Gq ?Gy ?Gz ?Ia ?Ib ?Ic ?Ew ?Ey ?Ez ?Iy ?Jm Ue.out) ?_
     (case Ec => exact cc (Kd.af Dy.out).2.2)
     (case Ed => exact (Kd.af Dy.out).2.1)
     (case Gp => exact cc (Kd.af Dz.out).2.2)
     (case Gq => exact (Kd.af Dz.out).2.1)
     (case Gy => exact cc (Kd.af Ea.out).2.2)
     (case Gz => exact (Kd.af Ea.out).2.1)
     (case Ia => exact cc (Kd.af Dt.out).2.2)
     (case Ib => exact (Kd.af Dt.out).2.1)
     (case Ic => exact cc (Kd.af Du.out).2.2)
     (case Ew => exact (Kd.af Du.out).2.1)
     (case Ey => exact cc (Kd.af Dv.out).2.2)
     (case Ez => exact (Kd.af Dv.out).2.1)
     (case Iy => exact cc (Kd.af Eb.out).2.2)
     (case Jm => exact (Kd.af Eb.out).2.1)
     rintro e w53 ⟨v545, rfl, ho0, hb⟩
     refine ⟨_, rfl, ?_⟩
     refine r5_ hb Dy Dz Ea Dt Du ?_; clear Dy Dz Ea Dt Du; intro Dy Dz Ea Dt Du; refine r2_ hb Dv Eb ?_; clear Dv Eb; intro Dv Eb; have En := am (Kd.bz ho0 (az bl)); refine r2_ hb Cb Cc ?_; clear Cb Cc; intro Cb Cc; replace HB := ho hb
     refine hK.out _ _ (fJ Cb.out Cc.out) (fun hHeld => ?_)
     clear hK K
     refine dn (a' := ?_) ?_ ?_
     rotate_left
     ·show Act.put _ (some 28) _ = _
      simp only [Act.put, z1, z2, z3, bu, bv]
      rfl
     refine ov 5 6 (fun K hK => ?_)
     refine jv ?hg (N := 6) ?hd (cs := #[.slice none 0 0, .int .i64 0, .int .i64 0, .int .i64 0, .int .i64 0]) (t := 34) ?hr ?_; (case hd => rfl); (case hg => rfl); (case hr => first | (go_simp; done) | (go_simp; rfl))
     intro Dw hg w54 hbox hb
     refine r6_ hb Dy Dz Ea Dt Du Dv ?_; clear Dy Dz Ea Dt Du Dv; intro Dy Dz Ea Dt Du Dv; refine r2_ hb Eb En ?_; clear Eb En; intro Eb En; have Ce := am hbox; have Kn := am (bsz hg : w.heap.size ≤ Dw); have Kp := Kn; have Dj := no hg Cb; have Ie := am Dj.out.symm; replace Cb := bo Cb hb; have Dp := no hg Cc; have Ig := am Dp.out.symm; replace Cc := bo Cc hb; replace HB := ho hb
     clear hb hbox hg
     refine hK.out _ _ (fJ Cb.out Cc.out) (fun hHeld => ?_)
     clear hK K
     refine dn (a' := ?_) ?_ ?_
     rotate_left
     ·show Act.put _ (some 6) _ = _
      simp only [Act.put, z1, z2, z3, bu, bv]
      rfl
     exact dn (by simp only [jg, Act.put, z1, z2, z3]) (hCont (.slice Ut t519.length Uu, .slice Oy t522.length Oz, .slice Pc t525.length Pd, .slice Pe t528.length Pg, .slice Ph t531.length Pi, .slice Pj t534.length Pk, .slice Pm t537.length Pn, v545, Dw) _ ⟨hHeld, (kr Dy.out), (kr Dz.out), (kr Ea.out), (kr Dt.out), (kr Du.out), (kr Dv.out), (kr Eb.out), (kr En.out), (bk Cb.out), (bk Cc.out), (bk Ce.out), Kn.out, Kp.out, Dj.out, Ie.out, Dp.out, Ig.out, bl⟩)
    refine jv ?hg (N := 6) ?hd (cs := #[.slice none 0 0, .int .i64 0, .int .i64 0, .int .i64 0, .int .i64 0]) (t := 34) ?hr ?_; (case hd => rfl); (case hg => rfl); (case hr => first | (go_simp; done) | (go_simp; rfl))
    intro Dw hg w46 hbox hb
    refine r5_ hb Dy Dz Ea Dt Du ?_; clear Dy Dz Ea Dt Du; intro Dy Dz Ea Dt Du; refine r2_ hb Dv Eb ?_; clear Dv Eb; intro Dv Eb; have Ce := am hbox; have Kn := am (bsz hg : w.heap.size ≤ Dw); have Kp := Kn; have Dj := no hg Cb; have Ie := am Dj.out.symm; replace Cb := bo Cb hb; have Dp := no hg Cc; have Ig := am Dp.out.symm; replace Cc := bo Cc hb; replace HB := ho hb
    clear hb hbox hg
    obtain ⟨Oy, Oz, Nv⟩ := Kd.aI Dy.out
    (first | subst Nv | (injection Nv with f1_ f2_ f3_; have f4_ := f1_.symm; have f5_ := f3_.symm; clear f1_ f2_ f3_; subst f4_; subst f5_))
    obtain ⟨Pc, Pd, Nw⟩ := Kd.aI Dz.out
    (first | subst Nw | (injection Nw with f1_ f2_ f3_; have f4_ := f1_.symm; have f5_ := f3_.symm; clear f1_ f2_ f3_; subst f4_; subst f5_))
    obtain ⟨Pe, Pg, Nx⟩ := Kd.aI Ea.out
    (first | subst Nx | (injection Nx with f1_ f2_ f3_; have f4_ := f1_.symm; have f5_ := f3_.symm; clear f1_ f2_ f3_; subst f4_; subst f5_))
    obtain ⟨Ph, Pi, Ny⟩ := Kd.aI Dt.out
    (first | subst Ny | (injection Ny with f1_ f2_ f3_; have f4_ := f1_.symm; have f5_ := f3_.symm; clear f1_ f2_ f3_; subst f4_; subst f5_))
    obtain ⟨Pj, Pk, Nz⟩ := Kd.aI Du.out
    (first | subst Nz | (injection Nz with f1_ f2_ f3_; have f4_ := f1_.symm; have f5_ := f3_.symm; clear f1_ f2_ f3_; subst f4_; subst f5_))
    obtain ⟨Pm, Pn, Oa⟩ := Kd.aI Dv.out
    (first | subst Oa | (injection Oa with f1_ f2_ f3_; have f4_ := f1_.symm; have f5_ := f3_.symm; clear f1_ f2_ f3_; subst f4_; subst f5_))
    obtain ⟨Pz, Qa, Ou⟩ := Kd.aI Eb.out
    (first | subst Ou | (injection Ou with f1_ f2_ f3_; have f4_ := f1_.symm; have f5_ := f3_.symm; clear f1_ f2_ f3_; subst f4_; subst f5_))
    refine hK.out _ _ (fJ Cb.out Cc.out) (fun hHeld => ?_)
    clear hK K
    refine dn (a' := ?_) ?_ ?_
    rotate_left
    ·show Act.put _ (some 6) _ = _
     simp only [Act.put, z1, z2, z3, bu, bv]
     rfl
    refine ov 4 28 (fun K hK => ?_)
    refine gk Tryz.func6 (aQ.calls _ _ _ _ _ _ _ _ _ _ _ _ _ _ _ _ _ _ _ _ _ _ _ _ _ _ _ _ _ _ _ _ _ _ ?Ec ?Ed ?Gp ?Gq ?Gy ?Gz ?Ia ?Ib ?Ic ?Ew ?Ey ?Ez ?Iy ?Jm Ue.out) ?_
    (case Ec => exact cc (Kd.af Dy.out).2.2)
    (case Ed => exact (Kd.af Dy.out).2.1)
    (case Gp => exact cc (Kd.af Dz.out).2.2)
    (case Gq => exact (Kd.af Dz.out).2.1)
    (case Gy => exact cc (Kd.af Ea.out).2.2)
    (case Gz => exact (Kd.af Ea.out).2.1)
    (case Ia => exact cc (Kd.af Dt.out).2.2)
    (case Ib => exact (Kd.af Dt.out).2.1)
    (case Ic => exact cc (Kd.af Du.out).2.2)
    (case Ew => exact (Kd.af Du.out).2.1)
    (case Ey => exact cc (Kd.af Dv.out).2.2)
    (case Ez => exact (Kd.af Dv.out).2.1)
    (case Iy => exact cc (Kd.af Eb.out).2.2)
    (case Jm => exact (Kd.af Eb.out).2.1)
    rintro e w54 ⟨v545, rfl, ho0, hb⟩
    refine ⟨_, rfl, ?_⟩
    refine r5_ hb Dy Dz Ea Dt Du ?_; clear Dy Dz Ea Dt Du; intro Dy Dz Ea Dt Du; refine r2_ hb Dv Eb ?_; clear Dv Eb; intro Dv Eb; have En := am (Kd.bz ho0 (az bl)); refine r3_ hb Cb Cc Ce ?_; clear Cb Cc Ce; intro Cb Cc Ce; replace HB := ho hb
    refine hK.out _ _ (fJ Cb.out Cc.out) (fun hHeld => ?_)
    clear hK K
    refine dn (a' := ?_) ?_ ?_
    rotate_left
    ·show Act.put _ (some 28) _ = _
     simp only [Act.put, z1, z2, z3, bu, bv]
     rfl
    exact dn (by simp only [jg, Act.put, z1, z2, z3]) (hCont (.slice Oy t519.length Oz, .slice Pc t522.length Pd, .slice Pe t525.length Pg, .slice Ph t528.length Pi, .slice Pj t531.length Pk, .slice Pm t534.length Pn, .slice Pz t537.length Qa, v545, Dw) _ ⟨hHeld, (kr Dy.out), (kr Dz.out), (kr Ea.out), (kr Dt.out), (kr Du.out), (kr Dv.out), (kr Eb.out), (kr En.out), (bk Cb.out), (bk Cc.out), (bk Ce.out), Kn.out, Kp.out, Dj.out, Ie.out, Dp.out, Ig.out, bl⟩)
   refine jv ?hg (N := 6) ?hd (cs := #[.slice none 0 0, .int .i64 0, .int .i64 0, .int .i64 0, .int .i64 0]) (t := 34) ?hr ?_; (case hd => rfl); (case hg => rfl); (case hr => first | (go_simp; done) | (go_simp; rfl))
   intro Dw hg w45 hbox hb
   refine r6_ hb Dy Dz Ea Dt Du Dv ?_; clear Dy Dz Ea Dt Du Dv; intro Dy Dz Ea Dt Du Dv; have Ce := am hbox; have Kn := am (bsz hg : w.heap.size ≤ Dw); have Kp := Kn; have Dj := no hg Cb; have Ie := am Dj.out.symm; replace Cb := bo Cb hb; have Dp := no hg Cc; have Ig := am Dp.out.symm; replace Cc := bo Cc hb; replace HB := ho hb
   clear hb hbox hg
   refine hK.out _ _ (fJ Cb.out Cc.out) (fun hHeld => ?_)
   clear hK K
   refine dn (a' := ?_) ?_ ?_
   rotate_left
   ·show Act.put _ (some 6) _ = _
    simp only [Act.put, z1, z2, z3, bu, bv]
    rfl
   refine ov 3 27 (fun K hK => ?_)
   refine gk Tryz.func8 (dI.calls _ _ _ _ _ _ _ _ _ _ _ _ _ _ ?Ec ?Ed Us.out) ?_
   (case Ec => exact cb Ky.out)
   (case Ed => exact Kz.out)
   rintro e w46 ⟨v538, rfl, ho0, hb⟩
   refine ⟨_, rfl, ?_⟩
   refine r6_ hb Dy Dz Ea Dt Du Dv ?_; clear Dy Dz Ea Dt Du Dv; intro Dy Dz Ea Dt Du Dv; have Eb := am (Kd.bz ho0 (az bl)); refine r3_ hb Cb Cc Ce ?_; clear Cb Cc Ce; intro Cb Cc Ce; replace HB := ho hb
   obtain ⟨Oy, Oz, Nv⟩ := Kd.aI Dy.out
   (first | subst Nv | (injection Nv with f1_ f2_ f3_; have f4_ := f1_.symm; have f5_ := f3_.symm; clear f1_ f2_ f3_; subst f4_; subst f5_))
   obtain ⟨Pc, Pd, Nw⟩ := Kd.aI Dz.out
   (first | subst Nw | (injection Nw with f1_ f2_ f3_; have f4_ := f1_.symm; have f5_ := f3_.symm; clear f1_ f2_ f3_; subst f4_; subst f5_))
   obtain ⟨Pe, Pg, Nx⟩ := Kd.aI Ea.out
   (first | subst Nx | (injection Nx with f1_ f2_ f3_; have f4_ := f1_.symm; have f5_ := f3_.symm; clear f1_ f2_ f3_; subst f4_; subst f5_))
   obtain ⟨Ph, Pi, Ny⟩ := Kd.aI Dt.out
   (first | subst Ny | (injection Ny with f1_ f2_ f3_; have f4_ := f1_.symm; have f5_ := f3_.symm; clear f1_ f2_ f3_; subst f4_; subst f5_))
   obtain ⟨Pj, Pk, Nz⟩ := Kd.aI Du.out
   (first | subst Nz | (injection Nz with f1_ f2_ f3_; have f4_ := f1_.symm; have f5_ := f3_.symm; clear f1_ f2_ f3_; subst f4_; subst f5_))
   obtain ⟨Pm, Pn, Oa⟩ := Kd.aI Dv.out
   (first | subst Oa | (injection Oa with f1_ f2_ f3_; have f4_ := f1_.symm; have f5_ := f3_.symm; clear f1_ f2_ f3_; subst f4_; subst f5_))
   obtain ⟨Pz, Qa, Ou⟩ := Kd.aI Eb.out
   (first | subst Ou | (injection Ou with f1_ f2_ f3_; have f4_ := f1_.symm; have f5_ := f3_.symm; clear f1_ f2_ f3_; subst f4_; subst f5_))
   refine hK.out _ _ (fJ Cb.out Cc.out) (fun hHeld => ?_)
   clear hK K
   refine dn (a' := ?_) ?_ ?_
   rotate_left
   ·show Act.put _ (some 27) _ = _
    simp only [Act.put, z1, z2, z3, bu, bv]
    rfl
   refine ov 4 28 (fun K hK => ?_)
   refine gk Tryz.func6 (aQ.calls _ _ _ _ _ _ _ _ _ _ _ _ _ _ _ _ _ _ _ _ _ _ _ _ _ _ _ _ _ _ _ _ _ _ ?Ec ?Ed ?Gp ?Gq ?Gy ?Gz ?Ia ?Ib ?Ic ?Ew ?Ey ?Ez ?Iy ?Jm Ue.out) ?_
   (case Ec => exact cc (Kd.af Dy.out).2.2)
   (case Ed => exact (Kd.af Dy.out).2.1)
   (case Gp => exact cc (Kd.af Dz.out).2.2)
   (case Gq => exact (Kd.af Dz.out).2.1)
   (case Gy => exact cc (Kd.af Ea.out).2.2)
   (case Gz => exact (Kd.af Ea.out).2.1)
   (case Ia => exact cc (Kd.af Dt.out).2.2)
   (case Ib => exact (Kd.af Dt.out).2.1)
   (case Ic => exact cc (Kd.af Du.out).2.2)
   (case Ew => exact (Kd.af Du.out).2.1)
   (case Ey => exact cc (Kd.af Dv.out).2.2)
   (case Ez => exact (Kd.af Dv.out).2.1)
   (case Iy => exact cc (Kd.af Eb.out).2.2)
   (case Jm => exact (Kd.af Eb.out).2.1)
   rintro e w54 ⟨v545, rfl, ho0, hb⟩
   refine ⟨_, rfl, ?_⟩
   refine r5_ hb Dy Dz Ea Dt Du ?_; clear Dy Dz Ea Dt Du; intro Dy Dz Ea Dt Du; refine r2_ hb Dv Eb ?_; clear Dv Eb; intro Dv Eb; have En := am (Kd.bz ho0 (az bl)); refine r3_ hb Cb Cc Ce ?_; clear Cb Cc Ce; intro Cb Cc Ce; replace HB := ho hb
   refine hK.out _ _ (fJ Cb.out Cc.out) (fun hHeld => ?_)
   clear hK K
   refine dn (a' := ?_) ?_ ?_
   rotate_left
   ·show Act.put _ (some 28) _ = _
    simp only [Act.put, z1, z2, z3, bu, bv]
    rfl
   exact dn (by simp only [jg, Act.put, z1, z2, z3]) (hCont (.slice Oy t519.length Oz, .slice Pc t522.length Pd, .slice Pe t525.length Pg, .slice Ph t528.length Pi, .slice Pj t531.length Pk, .slice Pm t534.length Pn, .slice Pz t537.length Qa, v545, Dw) _ ⟨hHeld, (kr Dy.out), (kr Dz.out), (kr Ea.out), (kr Dt.out), (kr Du.out), (kr Dv.out), (kr Eb.out), (kr En.out), (bk Cb.out), (bk Cc.out), (bk Ce.out), Kn.out, Kp.out, Dj.out, Ie.out, Dp.out, Ig.out, bl⟩)
  refine jv ?hg (N := 6) ?hd (cs := #[.slice none 0 0, .int .i64 0, .int .i64 0, .int .i64 0, .int .i64 0]) (t := 34) ?hr ?_; (case hd => rfl); (case hg => rfl); (case hr => first | (go_simp; done) | (go_simp; rfl))
  intro Dw hg w44 hbox hb
  have Ce := am hbox; have Kn := am (bsz hg : w.heap.size ≤ Dw); have Kp := Kn; have Dj := no hg Cb; have Ie := am Dj.out.symm; replace Cb := bo Cb hb; have Dp := no hg Cc; have Ig := am Dp.out.symm; replace Cc := bo Cc hb; replace HB := ho hb
  clear hb hbox hg
  refine hK.out _ _ (fJ Cb.out Cc.out) (fun hHeld => ?_)
  clear hK K
  refine dn (a' := ?_) ?_ ?_
  rotate_left
  ·show Act.put _ (some 6) _ = _
   simp only [Act.put, z1, z2, z3, bu, bv]
   rfl
  refine ov 1 25 (fun K hK => ?_)
  refine gk Tryz.func7 (dE.calls _ _ _ _ _ _ _ _ _ _ _ _ _ _ _ _ _ _ _ _ _ _ _ _ _ _ _ _ _ _ ?Ec ?Ed ?Gp ?Gq ?Gy ?Gz ?Ia ?Ib ?Ic ?Ew ?Ey ?Ez Yc.out) ?_
  (case Ec => exact cb Lh.out)
  (case Ed => exact Lj.out)
  (case Gp => exact cb Ll.out)
  (case Gq => exact Lm.out)
  (case Gy => exact cb Ln.out)
  (case Gz => exact Lp.out)
  (case Ia => exact cb Lq.out)
  (case Ib => exact Lr.out)
  (case Ic => exact cb Ls.out)
  (case Ew => exact Lu.out)
  (case Ey => exact cb Ly.out)
  (case Ez => exact Ma.out)
  rintro e w45 ⟨v520, v523, v526, v529, v532, v535, rfl, ho0, ho1, ho2, ho3, ho4, ho5, hb⟩
  refine ⟨_, rfl, ?_⟩
  have Dy := am (Kd.bz ho0 (az bl)); have Dz := am (Kd.bz ho1 (az bl)); have Ea := am (Kd.bz ho2 (az bl)); have Dt := am (Kd.bz ho3 (az bl)); have Du := am (Kd.bz ho4 (az bl)); have Dv := am (Kd.bz ho5 (az bl)); refine r3_ hb Cb Cc Ce ?_; clear Cb Cc Ce; intro Cb Cc Ce; replace HB := ho hb
  refine hK.out _ _ (fJ Cb.out Cc.out) (fun hHeld => ?_)
  clear hK K
  refine dn (a' := ?_) ?_ ?_
  rotate_left
  ·show Act.put _ (some 25) _ = _
   simp only [Act.put, z1, z2, z3, bu, bv]
   rfl
  refine ov 3 27 (fun K hK => ?_)
  refine gk Tryz.func8 (dI.calls _ _ _ _ _ _ _ _ _ _ _ _ _ _ ?Ec ?Ed Us.out) ?_
  (case Ec => exact cb Ky.out)
  (case Ed => exact Kz.out)
  rintro e w46 ⟨v538, rfl, ho0, hb⟩
  refine ⟨_, rfl, ?_⟩
  refine r6_ hb Dy Dz Ea Dt Du Dv ?_; clear Dy Dz Ea Dt Du Dv; intro Dy Dz Ea Dt Du Dv; have Eb := am (Kd.bz ho0 (az bl)); refine r3_ hb Cb Cc Ce ?_; clear Cb Cc Ce; intro Cb Cc Ce; replace HB := ho hb
  obtain ⟨Oy, Oz, Nv⟩ := Kd.aI Dy.out
  (first | subst Nv | (injection Nv with f1_ f2_ f3_; have f4_ := f1_.symm; have f5_ := f3_.symm; clear f1_ f2_ f3_; subst f4_; subst f5_))
  obtain ⟨Pc, Pd, Nw⟩ := Kd.aI Dz.out
  (first | subst Nw | (injection Nw with f1_ f2_ f3_; have f4_ := f1_.symm; have f5_ := f3_.symm; clear f1_ f2_ f3_; subst f4_; subst f5_))
  obtain ⟨Pe, Pg, Nx⟩ := Kd.aI Ea.out
  (first | subst Nx | (injection Nx with f1_ f2_ f3_; have f4_ := f1_.symm; have f5_ := f3_.symm; clear f1_ f2_ f3_; subst f4_; subst f5_))
  obtain ⟨Ph, Pi, Ny⟩ := Kd.aI Dt.out
  (first | subst Ny | (injection Ny with f1_ f2_ f3_; have f4_ := f1_.symm; have f5_ := f3_.symm; clear f1_ f2_ f3_; subst f4_; subst f5_))
  obtain ⟨Pj, Pk, Nz⟩ := Kd.aI Du.out
  (first | subst Nz | (injection Nz with f1_ f2_ f3_; have f4_ := f1_.symm; have f5_ := f3_.symm; clear f1_ f2_ f3_; subst f4_; subst f5_))
  obtain ⟨Pm, Pn, Oa⟩ := Kd.aI Dv.out
  (first | subst Oa | (injection Oa with f1_ f2_ f3_; have f4_ := f1_.symm; have f5_ := f3_.symm; clear f1_ f2_ f3_; subst f4_; subst f5_))
  obtain ⟨Pz, Qa, Ou⟩ := Kd.aI Eb.out
  (first | subst Ou | (injection Ou with f1_ f2_ f3_; have f4_ := f1_.symm; have f5_ := f3_.symm; clear f1_ f2_ f3_; subst f4_; subst f5_))
  refine hK.out _ _ (fJ Cb.out Cc.out) (fun hHeld => ?_)
  clear hK K
  refine dn (a' := ?_) ?_ ?_
  rotate_left
  ·show Act.put _ (some 27) _ = _
   simp only [Act.put, z1, z2, z3, bu, bv]
   rfl
  refine ov 4 28 (fun K hK => ?_)
  refine gk Tryz.func6 (aQ.calls _ _ _ _ _ _ _ _ _ _ _ _ _ _ _ _ _ _ _ _ _ _ _ _ _ _ _ _ _ _ _ _ _ _ ?Ec ?Ed ?Gp ?Gq ?Gy ?Gz ?Ia ?Ib ?Ic ?Ew ?Ey ?Ez ?Iy ?Jm Ue.out) ?_
  (case Ec => exact cc (Kd.af Dy.out).2.2)
  (case Ed => exact (Kd.af Dy.out).2.1)
  (case Gp => exact cc (Kd.af Dz.out).2.2)
  (case Gq => exact (Kd.af Dz.out).2.1)
  (case Gy => exact cc (Kd.af Ea.out).2.2)
  (case Gz => exact (Kd.af Ea.out).2.1)
  (case Ia => exact cc (Kd.af Dt.out).2.2)
  (case Ib => exact (Kd.af Dt.out).2.1)
  (case Ic => exact cc (Kd.af Du.out).2.2)
  (case Ew => exact (Kd.af Du.out).2.1)
  (case Ey => exact cc (Kd.af Dv.out).2.2)
  (case Ez => exact (Kd.af Dv.out).2.1)
  (case Iy => exact cc (Kd.af Eb.out).2.2)
  (case Jm => exact (Kd.af Eb.out).2.1)
  rintro e w54 ⟨v545, rfl, ho0, hb⟩
  refine ⟨_, rfl, ?_⟩
  refine r5_ hb Dy Dz Ea Dt Du ?_; clear Dy Dz Ea Dt Du; intro Dy Dz Ea Dt Du; refine r2_ hb Dv Eb ?_; clear Dv Eb; intro Dv Eb; have En := am (Kd.bz ho0 (az bl)); refine r3_ hb Cb Cc Ce ?_; clear Cb Cc Ce; intro Cb Cc Ce; replace HB := ho hb
  refine hK.out _ _ (fJ Cb.out Cc.out) (fun hHeld => ?_)
  clear hK K
  refine dn (a' := ?_) ?_ ?_
  rotate_left
  ·show Act.put _ (some 28) _ = _
   simp only [Act.put, z1, z2, z3, bu, bv]
   rfl
  exact dn (by simp only [jg, Act.put, z1, z2, z3]) (hCont (.slice Oy t519.length Oz, .slice Pc t522.length Pd, .slice Pe t525.length Pg, .slice Ph t528.length Pi, .slice Pj t531.length Pk, .slice Pm t534.length Pn, .slice Pz t537.length Qa, v545, Dw) _ ⟨hHeld, (kr Dy.out), (kr Dz.out), (kr Ea.out), (kr Dt.out), (kr Du.out), (kr Dv.out), (kr Eb.out), (kr En.out), (bk Cb.out), (bk Cc.out), (bk Ce.out), Kn.out, Kp.out, Dj.out, Ie.out, Dp.out, Ig.out, bl⟩)
 rintro ⟨v520, v523, v526, v529, v532, v535, v538, v545, Dw⟩ w55 ⟨hS_, h0_, h1_, h2_, h3_, h4_, h5_, h6_, h7_, h8_, h9_, h10_, h11_, h12_, h13_, h14_, h15_, h16_, h17_⟩
 have n0_ : aa (Kd.R Kd.string 9 w55 w.heap.size (fun k_ => some k_ ≠ (v523 : Value).ownBlock) v520 t519) := ⟨h0_⟩
 have n1_ : aa (Kd.R Kd.string 9 w55 w.heap.size (fun k_ => some k_ ≠ (v520 : Value).ownBlock) v523 t522) := ⟨h1_⟩
 have n2_ : aa (Kd.R k83 83 w55 w.heap.size (fun _ => True) v526 t525) := ⟨h2_⟩
 have n3_ : aa (Kd.R k88 88 w55 w.heap.size (fun k_ => some k_ ≠ (v532 : Value).ownBlock ∧ some k_ ≠ (v535 : Value).ownBlock) v529 t528) := ⟨h3_⟩
 have n4_ : aa (Kd.R k88 88 w55 w.heap.size (fun k_ => some k_ ≠ (v529 : Value).ownBlock ∧ some k_ ≠ (v535 : Value).ownBlock) v532 t531) := ⟨h4_⟩
 have n5_ : aa (Kd.R k88 88 w55 w.heap.size (fun k_ => some k_ ≠ (v529 : Value).ownBlock ∧ some k_ ≠ (v532 : Value).ownBlock) v535 t534) := ⟨h5_⟩
 have n6_ : aa (Kd.R k58 58 w55 w.heap.size (fun _ => True) v538 t537) := ⟨h6_⟩
 have n7_ : aa (Kd.R k60 60 w55 w.heap.size (fun _ => True) v545 t544) := ⟨h7_⟩
 have n8_ : aa (w55.heap[Eu]? = some (.cells #[.string a0_0, .int .i64 a0_1, .slice A0_2 l0_2.length c0_2, .slice A0_3 l0_3.length c0_3, .slice A0_4 l0_4.length c0_4, .slice A0_5 l0_5.length c0_5, .slice A0_6 l0_6.length c0_6, .slice A0_7 l0_7.length c0_7] 26 (0, 0))) := ⟨h8_⟩
 have n9_ : aa (w55.heap[Gs]? = some (.cells #[.slice A1_0 l1_0.length c1_0, .int .i64 a1_1, .int .i64 a1_2, .int .i64 a1_3, .int .i64 a1_4] 29 (0, 0))) := ⟨h9_⟩
 have n10_ : aa (w55.heap[Dw]? = some (.cells #[.slice none 0 0, .int .i64 0, .int .i64 0, .int .i64 0, .int .i64 0] 34 (0, 0))) := ⟨h10_⟩
 have n11_ : aa (w.heap.size ≤ Dw) := ⟨h11_⟩
 have n12_ : aa (w.heap.size ≤ Dw) := ⟨h12_⟩
 have n13_ : aa (Eu ≠ Dw) := ⟨h13_⟩
 have n14_ : aa (Dw ≠ Eu) := ⟨h14_⟩
 have n15_ : aa (Gs ≠ Dw) := ⟨h15_⟩
 have n16_ : aa (Dw ≠ Gs) := ⟨h16_⟩
 have n17_ : aa (Below w.heap.size w w55) := ⟨h17_⟩
 clear Cb
 clear Cc
 clear HB
 clear h0_ h1_ h2_ h3_ h4_ h5_ h6_ h7_ h8_ h9_ h10_ h11_ h12_ h13_ h14_ h15_ h16_ h17_
 have Dy := n0_
 have Dz := n1_
 have Ea := n2_
 have Dt := n3_
 have Du := n4_
 have Dv := n5_
 have Eb := n6_
 have En := n7_
 have Cb := n8_
 have Cc := n9_
 have Ce := n10_
 have Kn := n11_
 have Kp := n12_
 have Dj := n13_
 have Ie := n14_
 have Dp := n15_
 have Ig := n16_
 have HB := n17_
 clear n0_ n1_ n2_ n3_ n4_ n5_ n6_ n7_ n8_ n9_ n10_ n11_ n12_ n13_ n14_ n15_ n16_ n17_
 have hHeld : w55.cell? ⟨Eu, 0, none⟩ = some (.string a0_0) ∧ w55.cell? ⟨Eu, 1, none⟩ = some (.int .i64 a0_1) ∧ w55.cell? ⟨Eu, 2, none⟩ = some (.slice A0_2 l0_2.length c0_2) ∧ w55.cell? ⟨Eu, 3, none⟩ = some (.slice A0_3 l0_3.length c0_3) ∧ w55.cell? ⟨Eu, 4, none⟩ = some (.slice A0_4 l0_4.length c0_4) ∧ w55.cell? ⟨Eu, 5, none⟩ = some (.slice A0_5 l0_5.length c0_5) ∧ w55.cell? ⟨Eu, 6, none⟩ = some (.slice A0_6 l0_6.length c0_6) ∧ w55.cell? ⟨Eu, 7, none⟩ = some (.slice A0_7 l0_7.length c0_7) ∧ w55.cell? ⟨Gs, 0, none⟩ = some (.slice A1_0 l1_0.length c1_0) ∧ w55.cell? ⟨Gs, 1, none⟩ = some (.int .i64 a1_1) ∧ w55.cell? ⟨Gs, 2, none⟩ = some (.int .i64 a1_2) ∧ w55.cell? ⟨Gs, 3, none⟩ = some (.int .i64 a1_3) ∧ w55.cell? ⟨Gs, 4, none⟩ = some (.int .i64 a1_4) := hS_
 obtain ⟨Jq, Jn, Rt⟩ := Kd.aI En.out
 (first | subst Rt | (injection Rt with f1_ f2_ f3_; have f4_ := f1_.symm; have f5_ := f3_.symm; clear f1_ f2_ f3_; subst f4_; subst f5_))
 refine dn (a' := ?_) ?_ ?_
 rotate_left
 ·simp only [jg, Act.put, z1, z2, z3]
  rfl
 refine one_ (i := 6) (N := none) #[T_, T_, T_, T_, T_, T_, T_] rfl rfl (by kernel_rfl) (by decide) (fun K hK => ?_)
 have Caw : w55.cell? ⟨Dw, 0, none⟩ = some (.slice none 0 0) := (ae Ce.out 0).trans rfl
 have hfs57 := dA Ce.out 0
 have Uf := Dj.out
 have Ug := Dp.out
 have hms57_0 := Ie.out
 have hms57_1 := Ig.out
 have Cax : w55.cell? ⟨Dw, 1, none⟩ = some (.int .i64 0) := (ae Ce.out 1).trans rfl
 have hfs58 := dA Ce.out 1
 have Uh := Dj.out
 have Ui := Dp.out
 have hms58_0 := Ie.out
 have hms58_1 := Ig.out
 have Cay : w55.cell? ⟨Dw, 2, none⟩ = some (.int .i64 0) := (ae Ce.out 2).trans rfl
 have hfs59 := dA Ce.out 2
 have Uj := Dj.out
 have Uk := Dp.out
 have hms59_0 := Ie.out
 have hms59_1 := Ig.out
 have Caz : w55.cell? ⟨Dw, 3, none⟩ = some (.int .i64 0) := (ae Ce.out 3).trans rfl
 have hfs60 := dA Ce.out 3
 have Ul := Dj.out
 have Um := Dp.out
 have hms60_0 := Ie.out
 have hms60_1 := Ig.out
 have Cb0 : w55.cell? ⟨Dw, 4, none⟩ = some (.int .i64 0) := (ae Ce.out 4).trans rfl
 have hfs61 := dA Ce.out 4
 have Un := Dj.out
 have Uo := Dp.out
 have hms61_0 := Ie.out
 have hms61_1 := Ig.out
 refine oJ (w1 := ?_) (by rfl) rfl ?_ ?_
 rotate_left
 ·go_simp
  rfl
 refine hK.out _ _ ⟨((cell_far (p := ⟨Dw, _, none⟩) Dj.out _).trans (((cell_far (p := ⟨Dw, _, none⟩) Dj.out _).trans (((cell_far (p := ⟨Dw, _, none⟩) Dj.out _).trans (((cell_far (p := ⟨Dw, _, none⟩) Dj.out _).trans (((cell_far (p := ⟨Dw, _, none⟩) Dj.out _).trans (hHeld.1)))))))))), ((cell_far (p := ⟨Dw, _, none⟩) Dj.out _).trans (((cell_far (p := ⟨Dw, _, none⟩) Dj.out _).trans (((cell_far (p := ⟨Dw, _, none⟩) Dj.out _).trans (((cell_far (p := ⟨Dw, _, none⟩) Dj.out _).trans (((cell_far (p := ⟨Dw, _, none⟩) Dj.out _).trans (hHeld.2.1)))))))))), ((cell_far (p := ⟨Dw, _, none⟩) Dj.out _).trans (((cell_far (p := ⟨Dw, _, none⟩) Dj.out _).trans (((cell_far (p := ⟨Dw, _, none⟩) Dj.out _).trans (((cell_far (p := ⟨Dw, _, none⟩) Dj.out _).trans (((cell_far (p := ⟨Dw, _, none⟩) Dj.out _).trans (hHeld.2.2.1)))))))))), ((cell_far (p := ⟨Dw, _, none⟩) Dj.out _).trans (((cell_far (p := ⟨Dw, _, none⟩) Dj.out _).trans (((cell_far (p := ⟨Dw, _, none⟩) Dj.out _).trans (((cell_far (p := ⟨Dw, _, none⟩) Dj.out _).trans (((cell_far (p := ⟨Dw, _, none⟩) Dj.out _).trans (hHeld.2.2.2.1)))))))))), ((cell_far (p := ⟨Dw, _, none⟩) Dj.out _).trans (((cell_far (p := ⟨Dw, _, none⟩) Dj.out _).trans (((cell_far (p := ⟨Dw, _, none⟩) Dj.out _).trans (((cell_far (p := ⟨Dw, _, none⟩) Dj.out _).trans (((cell_far (p := ⟨Dw, _, none⟩) Dj.out _).trans (hHeld.2.2.2.2.1)))))))))), ((cell_far (p := ⟨Dw, _, none⟩) Dj.out _).trans (((cell_far (p := ⟨Dw, _, none⟩) Dj.out _).trans (((cell_far (p := ⟨Dw, _, none⟩) Dj.out _).trans (((cell_far (p := ⟨Dw, _, none⟩) Dj.out _).trans (((cell_far (p := ⟨Dw, _, none⟩) Dj.out _).trans (hHeld.2.2.2.2.2.1)))))))))), ((cell_far (p := ⟨Dw, _, none⟩) Dj.out _).trans (((cell_far (p := ⟨Dw, _, none⟩) Dj.out _).trans (((cell_far (p := ⟨Dw, _, none⟩) Dj.out _).trans (((cell_far (p := ⟨Dw, _, none⟩) Dj.out _).trans (((cell_far (p := ⟨Dw, _, none⟩) Dj.out _).trans (hHeld.2.2.2.2.2.2.1)))))))))), ((cell_far (p := ⟨Dw, _, none⟩) Dj.out _).trans (((cell_far (p := ⟨Dw, _, none⟩) Dj.out _).trans (((cell_far (p := ⟨Dw, _, none⟩) Dj.out _).trans (((cell_far (p := ⟨Dw, _, none⟩) Dj.out _).trans (((cell_far (p := ⟨Dw, _, none⟩) Dj.out _).trans (hHeld.2.2.2.2.2.2.2.1)))))))))), ((cell_far (p := ⟨Dw, _, none⟩) Dp.out _).trans (((cell_far (p := ⟨Dw, _, none⟩) Dp.out _).trans (((cell_far (p := ⟨Dw, _, none⟩) Dp.out _).trans (((cell_far (p := ⟨Dw, _, none⟩) Dp.out _).trans (((cell_far (p := ⟨Dw, _, none⟩) Dp.out _).trans (hHeld.2.2.2.2.2.2.2.2.1)))))))))), ((cell_far (p := ⟨Dw, _, none⟩) Dp.out _).trans (((cell_far (p := ⟨Dw, _, none⟩) Dp.out _).trans (((cell_far (p := ⟨Dw, _, none⟩) Dp.out _).trans (((cell_far (p := ⟨Dw, _, none⟩) Dp.out _).trans (((cell_far (p := ⟨Dw, _, none⟩) Dp.out _).trans (hHeld.2.2.2.2.2.2.2.2.2.1)))))))))), ((cell_far (p := ⟨Dw, _, none⟩) Dp.out _).trans (((cell_far (p := ⟨Dw, _, none⟩) Dp.out _).trans (((cell_far (p := ⟨Dw, _, none⟩) Dp.out _).trans (((cell_far (p := ⟨Dw, _, none⟩) Dp.out _).trans (((cell_far (p := ⟨Dw, _, none⟩) Dp.out _).trans (hHeld.2.2.2.2.2.2.2.2.2.2.1)))))))))), ((cell_far (p := ⟨Dw, _, none⟩) Dp.out _).trans (((cell_far (p := ⟨Dw, _, none⟩) Dp.out _).trans (((cell_far (p := ⟨Dw, _, none⟩) Dp.out _).trans (((cell_far (p := ⟨Dw, _, none⟩) Dp.out _).trans (((cell_far (p := ⟨Dw, _, none⟩) Dp.out _).trans (hHeld.2.2.2.2.2.2.2.2.2.2.2.1)))))))))), ((cell_far (p := ⟨Dw, _, none⟩) Dp.out _).trans (((cell_far (p := ⟨Dw, _, none⟩) Dp.out _).trans (((cell_far (p := ⟨Dw, _, none⟩) Dp.out _).trans (((cell_far (p := ⟨Dw, _, none⟩) Dp.out _).trans (((cell_far (p := ⟨Dw, _, none⟩) Dp.out _).trans (hHeld.2.2.2.2.2.2.2.2.2.2.2.2))))))))))⟩ (fun hHeld => ?_)
 clear hK K
 refine fF (by kernel_rfl) ?_
 have Yf := Dj.out
 have Yg := Ie.out
 have Z63 := dD Cb.out
 try go_wp2_with (first | ((with_reducible refine c_ 7 ?_); refine gc 7 (some 30) Tryz.func7 (dE.calls _ _ _ _ _ _ _ _ _ _ _ _ _ _ _ _ _ _ _ _ _ _ _ _ _ _ _ _ _ _ ?Ec ?Ed ?Gp ?Gq ?Gy ?Gz ?Ia ?Ib ?Ic ?Ew ?Ey ?Ez A22.out) ?_; (case Ec => exact Kd.dK Lh.out bl); (case Ed => exact Lj.out); (case Gp => exact Kd.dK Ll.out bl); (case Gq => exact Lm.out); (case Gy => exact Kd.dK Ln.out bl); (case Gz => exact Lp.out); (case Ia => exact Kd.dK Lq.out bl); (case Ib => exact Lr.out); (case Ic => exact Kd.dK Ls.out bl); (case Ew => exact Lu.out); (case Ey => exact Kd.dK Ly.out bl); (case Ez => exact Ma.out); rintro e w64 ⟨v555, v558, v561, v564, v567, v570, rfl, ho0, ho1, ho2, ho3, ho4, ho5, hb⟩; refine ⟨_, rfl, ?_⟩; replace Eb := rt Eb Ce hb; replace En := rt En Ce hb; have Ej := am (Kd.bz (Kd.bW (Kd.bW ho0 (Kd.ek (by exact (Kd.ax (eU (Kd.aG Dy.out Ce.out (by decide))) (fun _ h_ => h_.1))))) (Kd.ek (by exact (Kd.ax (eU (Kd.aG Dz.out Ce.out (by decide))) (fun _ h_ => h_.1))))) (az bl)); have Ek := am (Kd.bz (Kd.bW (Kd.bW ho1 (Kd.ek (by exact (Kd.ax (eU (Kd.aG Dy.out Ce.out (by decide))) (fun _ h_ => h_.1))))) (Kd.ek (by exact (Kd.ax (eU (Kd.aG Dz.out Ce.out (by decide))) (fun _ h_ => h_.1))))) (az bl)); replace Dy := am (Kd.ax (Kd.dF (Kd.dF (Kd.ik (by exact (Kd.ax (eU (Kd.aG Dy.out Ce.out (by decide))) (fun _ h_ => h_.1))) hb) (Kd.bO ho0)) (Kd.bO ho1)) (fun _ h_ => h_.1)); replace Dz := am (Kd.ax (Kd.dF (Kd.dF (Kd.ik (by exact (Kd.ax (eU (Kd.aG Dz.out Ce.out (by decide))) (fun _ h_ => h_.1))) hb) (Kd.bO ho0)) (Kd.bO ho1)) (fun _ h_ => h_.1)); have Ee := am (Kd.bz (Kd.bW ho2 (Kd.ek (by exact (Kd.ax (eU (Kd.aG Ea.out Ce.out (by decide))) (fun _ h_ => h_.1))))) (az bl)); replace Ea := am (Kd.eY (by exact (Kd.ax (eU (Kd.aG Ea.out Ce.out (by decide))) (fun _ h_ => h_.1))) (Kd.bO ho2) hb); have Ef := am (Kd.bz (Kd.bW (Kd.bW (Kd.bW ho3 (Kd.ek (by exact (Kd.ax (eU (Kd.aG Dt.out Ce.out (by decide))) (fun _ h_ => h_.1))))) (Kd.ek (by exact (Kd.ax (eU (Kd.aG Du.out Ce.out (by decide))) (fun _ h_ => h_.1))))) (Kd.ek (by exact (Kd.ax (eU (Kd.aG Dv.out Ce.out (by decide))) (fun _ h_ => h_.1))))) (az bl)); have Eg := am (Kd.bz (Kd.bW (Kd.bW (Kd.bW ho4 (Kd.ek (by exact (Kd.ax (eU (Kd.aG Dt.out Ce.out (by decide))) (fun _ h_ => h_.1))))) (Kd.ek (by exact (Kd.ax (eU (Kd.aG Du.out Ce.out (by decide))) (fun _ h_ => h_.1))))) (Kd.ek (by exact (Kd.ax (eU (Kd.aG Dv.out Ce.out (by decide))) (fun _ h_ => h_.1))))) (az bl)); have Eh := am (Kd.bz (Kd.bW (Kd.bW (Kd.bW ho5 (Kd.ek (by exact (Kd.ax (eU (Kd.aG Dt.out Ce.out (by decide))) (fun _ h_ => h_.1))))) (Kd.ek (by exact (Kd.ax (eU (Kd.aG Du.out Ce.out (by decide))) (fun _ h_ => h_.1))))) (Kd.ek (by exact (Kd.ax (eU (Kd.aG Dv.out Ce.out (by decide))) (fun _ h_ => h_.1))))) (az bl)); replace Dt := am (Kd.ax (Kd.dF (Kd.dF (Kd.dF (Kd.ik (by exact (Kd.ax (eU (Kd.aG Dt.out Ce.out (by decide))) (fun _ h_ => h_.1))) hb) (Kd.bO ho3)) (Kd.bO ho4)) (Kd.bO ho5)) (fun _ h_ => h_.1)); replace Du := am (Kd.ax (Kd.dF (Kd.dF (Kd.dF (Kd.ik (by exact (Kd.ax (eU (Kd.aG Du.out Ce.out (by decide))) (fun _ h_ => h_.1))) hb) (Kd.bO ho3)) (Kd.bO ho4)) (Kd.bO ho5)) (fun _ h_ => h_.1)); replace Dv := am (Kd.ax (Kd.dF (Kd.dF (Kd.dF (Kd.ik (by exact (Kd.ax (eU (Kd.aG Dv.out Ce.out (by decide))) (fun _ h_ => h_.1))) hb) (Kd.bO ho3)) (Kd.bO ho4)) (Kd.bO ho5)) (fun _ h_ => h_.1)); replace Cb := am (bQ (g := Eu) (o := .cells #[.string a0_0, .int .i64 a0_1, .slice A0_2 l0_2.length c0_2, .slice A0_3 l0_3.length c0_3, .slice A0_4 l0_4.length c0_4, .slice A0_5 l0_5.length c0_5, .slice A0_6 l0_6.length c0_6, .slice A0_7 l0_7.length c0_7] 26 (0, 0)) (bf Cb.out Dj.out) hb); replace Cc := am (bQ (g := Gs) (o := .cells #[.slice A1_0 l1_0.length c1_0, .int .i64 a1_1, .int .i64 a1_2, .int .i64 a1_3, .int .i64 a1_4] 29 (0, 0)) (bf Cc.out Dp.out) hb); replace Ce := am (bQ (g := Dw) (o := .cells #[.slice Jq t544.length Jn, .int .i64 t547, .int .i64 t548, .int .i64 t549, .int .i64 t550] 34 (0, 0)) (bp Ce.out) hb); replace HB := ho hb; clear hb ho0 ho1 ho2 ho3 ho4 ho5) | ((with_reducible refine g_ 7 ?_); refine bx 7 #[.string (⟨#[]⟩ : ByteArray), .int .i64 0, .slice none 0 0, .slice none 0 0, .slice none 0 0, .slice none 0 0, .slice none 0 0, .slice none 0 0] 39 ?_; intro Js hg w65 hbox hb; refine r6_ hb Dy Dz Ea Dt Du Dv ?_; clear Dy Dz Ea Dt Du Dv; intro Dy Dz Ea Dt Du Dv; refine r6_ hb Eb En Ej Ek Ee Ef ?_; clear Eb En Ej Ek Ee Ef; intro Eb En Ej Ek Ee Ef; refine r2_ hb Eg Eh ?_; clear Eg Eh; intro Eg Eh; have Di := am hbox; have Ru := am (bsz hg : w.heap.size ≤ Js); have Qb := Ru; have Mc := no hg Cb; have Pp := am Mc.out.symm; replace Cb := bo Cb hb; have Md := no hg Cc; have Pq := am Md.out.symm; replace Cc := bo Cc hb; have Jt := no hg Ce; have Me := am Jt.out.symm; replace Ce := bo Ce hb; replace HB := ho hb; clear hb hbox hg; have Yh := Pp.out; have Yi := Mc.out; have Yj := Pq.out; have Yk := Md.out; have Yl := Me.out; have Ym := Jt.out; have Z69 := dD Di.out; obtain ⟨Iz, Ja, Uw⟩ := Kd.aI Ej.out; subst Uw; obtain ⟨Jb, Jc, Ux⟩ := Kd.aI Ek.out; subst Ux; obtain ⟨Ju, Jv, Uy⟩ := Kd.aI Ee.out; subst Uy; obtain ⟨Ip, Iq, Uz⟩ := Kd.aI Ef.out; subst Uz; obtain ⟨Ir, Iu, Va⟩ := Kd.aI Eg.out; subst Va; obtain ⟨Iw, Ix, Vb⟩ := Kd.aI Eh.out; subst Vb; have Yn := Dp.out; have Yo := Ig.out; have Z77 := dG Cc.out) | ((with_reducible refine c_ 8 ?_); refine gc 8 (some 32) Tryz.func8 (dI.calls _ _ _ _ _ _ _ _ _ _ _ _ _ _ ?Ec ?Ed A23.out) ?_; (case Ec => exact Kd.dK Ky.out bl); (case Ed => exact Kz.out); rintro e w78 ⟨v574, rfl, ho0, hb⟩; refine ⟨_, rfl, ?_⟩; replace Dy := rt Dy Di hb; replace Dz := rt Dz Di hb; replace Ea := rt Ea Di hb; replace Dt := rt Dt Di hb; replace Du := rt Du Di hb; replace Dv := rt Dv Di hb; replace En := rt En Di hb; replace Ej := rt Ej Di hb; replace Ek := rt Ek Di hb; replace Ee := rt Ee Di hb; replace Ef := rt Ef Di hb; replace Eg := rt Eg Di hb; replace Eh := rt Eh Di hb; have Ei := am (Kd.bz (Kd.bW ho0 (Kd.ek (by exact (Kd.ax (eU (Kd.aG Eb.out Di.out (by decide))) (fun _ h_ => h_.1))))) (az bl)); replace Eb := am (Kd.eY (by exact (Kd.ax (eU (Kd.aG Eb.out Di.out (by decide))) (fun _ h_ => h_.1))) (Kd.bO ho0) hb); replace Cb := am (bQ (g := Eu) (o := .cells #[.string a0_0, .int .i64 a0_1, .slice A0_2 l0_2.length c0_2, .slice A0_3 l0_3.length c0_3, .slice A0_4 l0_4.length c0_4, .slice A0_5 l0_5.length c0_5, .slice A0_6 l0_6.length c0_6, .slice A0_7 l0_7.length c0_7] 26 (0, 0)) (bf Cb.out Mc.out) hb); replace Cc := am (bQ (g := Gs) (o := .cells #[.slice A1_0 l1_0.length c1_0, .int .i64 a1_1, .int .i64 a1_2, .int .i64 a1_3, .int .i64 a1_4] 29 (0, 0)) (bf Cc.out Md.out) hb); replace Ce := am (bQ (g := Dw) (o := .cells #[.slice Jq t544.length Jn, .int .i64 t547, .int .i64 t548, .int .i64 t549, .int .i64 t550] 34 (0, 0)) (bf Ce.out Jt.out) hb); replace Di := am (bQ (g := Js) (o := .cells #[.string t552, .int .i64 t553, .slice Iz t554.length Ja, .slice Jb t557.length Jc, .slice Ju t560.length Jv, .slice Ip t563.length Iq, .slice Ir t566.length Iu, .slice Iw t569.length Ix] 39 (0, 0)) (bp Di.out) hb); replace HB := ho hb; clear hb ho0) | ((with_reducible refine g_ 8 ?_); refine bx 8 #[.slice none 0 0, .int .i64 0, .int .i64 0, .int .i64 0, .int .i64 0] 43 ?_; intro Jl hg w79 hbox hb; refine r6_ hb Dy Dz Ea Dt Du Dv ?_; clear Dy Dz Ea Dt Du Dv; intro Dy Dz Ea Dt Du Dv; refine r6_ hb Eb En Ej Ek Ee Ef ?_; clear Eb En Ej Ek Ee Ef; intro Eb En Ej Ek Ee Ef; refine r3_ hb Eg Eh Ei ?_; clear Eg Eh Ei; intro Eg Eh Ei; have Dk := am hbox; have Rw := am (bsz hg : w.heap.size ≤ Jl); have Qc := Rw; have Mj := no hg Cb; have Pv := am Mj.out.symm; replace Cb := bo Cb hb; have Mo := no hg Cc; have Px := am Mo.out.symm; replace Cc := bo Cc hb; have Jw := no hg Ce; have Mp := am Jw.out.symm; replace Ce := bo Ce hb; have Mq := no hg Di; have Py := am Mq.out.symm; replace Di := bo Di hb; replace HB := ho hb; clear hb hbox hg; obtain ⟨Jx, Jy, Vc⟩ := Kd.aI Ei.out; subst Vc; have Yp := Pv.out; have Yq := Mj.out; have Yr := Px.out; have Ys := Mo.out; have Yt := Mp.out; have Yu := Jw.out; have Yv := Py.out; have Yw := Mq.out; have Z85 := dG Dk.out) | ((with_reducible refine eB (t := 43) (p := 8) rfl ?_); refine dV (t := 43) (p := 8) (v := ?vo_w86) (w1 := (((((w79.setCell ⟨Jl, 0, none⟩ (.slice Jx t573.length Jy)).setCell ⟨Jl, 1, none⟩ (.int .i64 t576)).setCell ⟨Jl, 2, none⟩ (.int .i64 t577)).setCell ⟨Jl, 3, none⟩ (.int .i64 t578)).setCell ⟨Jl, 4, none⟩ (.int .i64 t579))) ?hg ?ho ?hn ?hr ?_; (case ho => rfl); (case hg => rfl); (case hn => rfl); (case hr => first | (go_simp; done) | (go_simp; rfl)); intro w86 hw; have n0_ : aa (Kd.R Kd.string 9 w86 w.heap.size (fun k_ => some k_ ≠ (v523 : Value).ownBlock ∧ some k_ ≠ (.slice Iz t554.length Ja : Value).ownBlock ∧ some k_ ≠ (.slice Jb t557.length Jc : Value).ownBlock) v520 t519) := ⟨(by rw [hw]; exact (by exact Kd.ax (eU (Kd.aG Dy.out Dk.out (by decide))) (fun _ hk => ⟨hk.1.1.1, ⟨hk.1.1.2, hk.1.2⟩⟩)))⟩; have n1_ : aa (Kd.R Kd.string 9 w86 w.heap.size (fun k_ => some k_ ≠ (v520 : Value).ownBlock ∧ some k_ ≠ (.slice Iz t554.length Ja : Value).ownBlock ∧ some k_ ≠ (.slice Jb t557.length Jc : Value).ownBlock) v523 t522) := ⟨(by rw [hw]; exact (by exact Kd.ax (eU (Kd.aG Dz.out Dk.out (by decide))) (fun _ hk => ⟨hk.1.1.1, ⟨hk.1.1.2, hk.1.2⟩⟩)))⟩; have n2_ : aa (Kd.R k83 83 w86 w.heap.size (fun k_ => some k_ ≠ (.slice Ju t560.length Jv : Value).ownBlock) v526 t525) := ⟨(by rw [hw]; exact (by exact Kd.ax (eU (Kd.aG Ea.out Dk.out (by decide))) (fun _ hk => hk.1.2)))⟩; have n3_ : aa (Kd.R k88 88 w86 w.heap.size (fun k_ => some k_ ≠ (v532 : Value).ownBlock ∧ some k_ ≠ (v535 : Value).ownBlock ∧ some k_ ≠ (.slice Ip t563.length Iq : Value).ownBlock ∧ some k_ ≠ (.slice Ir t566.length Iu : Value).ownBlock ∧ some k_ ≠ (.slice Iw t569.length Ix : Value).ownBlock) v529 t528) := ⟨(by rw [hw]; exact (by exact Kd.ax (eU (Kd.aG Dt.out Dk.out (by decide))) (fun _ hk => ⟨hk.1.1.1.1.1, ⟨hk.1.1.1.1.2, ⟨hk.1.1.1.2, ⟨hk.1.1.2, hk.1.2⟩⟩⟩⟩)))⟩; have n4_ : aa (Kd.R k88 88 w86 w.heap.size (fun k_ => some k_ ≠ (v529 : Value).ownBlock ∧ some k_ ≠ (v535 : Value).ownBlock ∧ some k_ ≠ (.slice Ip t563.length Iq : Value).ownBlock ∧ some k_ ≠ (.slice Ir t566.length Iu : Value).ownBlock ∧ some k_ ≠ (.slice Iw t569.length Ix : Value).ownBlock) v532 t531) := ⟨(by rw [hw]; exact (by exact Kd.ax (eU (Kd.aG Du.out Dk.out (by decide))) (fun _ hk => ⟨hk.1.1.1.1.1, ⟨hk.1.1.1.1.2, ⟨hk.1.1.1.2, ⟨hk.1.1.2, hk.1.2⟩⟩⟩⟩)))⟩; have n5_ : aa (Kd.R k88 88 w86 w.heap.size (fun k_ => some k_ ≠ (v529 : Value).ownBlock ∧ some k_ ≠ (v532 : Value).ownBlock ∧ some k_ ≠ (.slice Ip t563.length Iq : Value).ownBlock ∧ some k_ ≠ (.slice Ir t566.length Iu : Value).ownBlock ∧ some k_ ≠ (.slice Iw t569.length Ix : Value).ownBlock) v535 t534) := ⟨(by rw [hw]; exact (by exact Kd.ax (eU (Kd.aG Dv.out Dk.out (by decide))) (fun _ hk => ⟨hk.1.1.1.1.1, ⟨hk.1.1.1.1.2, ⟨hk.1.1.1.2, ⟨hk.1.1.2, hk.1.2⟩⟩⟩⟩)))⟩; have n6_ : aa (Kd.R k58 58 w86 w.heap.size (fun k_ => some k_ ≠ (.slice Jx t573.length Jy : Value).ownBlock) v538 t537) := ⟨(by rw [hw]; exact (by exact Kd.ax (eU (Kd.aG Eb.out Dk.out (by decide))) (fun _ hk => hk.1.2)))⟩; have n7_ : aa (Kd.R k60 60 w86 w.heap.size (fun _ => True) (.slice Jq t544.length Jn) t544) := ⟨(by rw [hw]; exact (by exact Kd.ax (eU (Kd.aG En.out Dk.out (by decide))) (fun _ hk => trivial)))⟩; have n8_ : aa (Kd.R Kd.string 9 w86 w.heap.size (fun k_ => some k_ ≠ (v520 : Value).ownBlock ∧ some k_ ≠ (v523 : Value).ownBlock ∧ some k_ ≠ (.slice Jb t557.length Jc : Value).ownBlock) (.slice Iz t554.length Ja) t554) := ⟨(by rw [hw]; exact (by exact Kd.ax (eU (Kd.aG Ej.out Dk.out (by decide))) (fun _ hk => ⟨hk.1.1.2, ⟨hk.1.2, hk.1.1.1⟩⟩)))⟩; have n9_ : aa (Kd.R Kd.string 9 w86 w.heap.size (fun k_ => some k_ ≠ (v520 : Value).ownBlock ∧ some k_ ≠ (v523 : Value).ownBlock ∧ some k_ ≠ (.slice Iz t554.length Ja : Value).ownBlock) (.slice Jb t557.length Jc) t557) := ⟨(by rw [hw]; exact (by exact Kd.ax (eU (Kd.aG Ek.out Dk.out (by decide))) (fun _ hk => ⟨hk.1.1.2, ⟨hk.1.2, hk.1.1.1⟩⟩)))⟩; have n10_ : aa (Kd.R k83 83 w86 w.heap.size (fun k_ => some k_ ≠ (v526 : Value).ownBlock) (.slice Ju t560.length Jv) t560) := ⟨(by rw [hw]; exact (by exact Kd.ax (eU (Kd.aG Ee.out Dk.out (by decide))) (fun _ hk => hk.1.2)))⟩; have n11_ : aa (Kd.R k88 88 w86 w.heap.size (fun k_ => some k_ ≠ (v529 : Value).ownBlock ∧ some k_ ≠ (v532 : Value).ownBlock ∧ some k_ ≠ (v535 : Value).ownBlock ∧ some k_ ≠ (.slice Ir t566.length Iu : Value).ownBlock ∧ some k_ ≠ (.slice Iw t569.length Ix : Value).ownBlock) (.slice Ip t563.length Iq) t563) := ⟨(by rw [hw]; exact (by exact Kd.ax (eU (Kd.aG Ef.out Dk.out (by decide))) (fun _ hk => ⟨hk.1.1.1.2, ⟨hk.1.1.2, ⟨hk.1.2, ⟨hk.1.1.1.1.1, hk.1.1.1.1.2⟩⟩⟩⟩)))⟩; have n12_ : aa (Kd.R k88 88 w86 w.heap.size (fun k_ => some k_ ≠ (v529 : Value).ownBlock ∧ some k_ ≠ (v532 : Value).ownBlock ∧ some k_ ≠ (v535 : Value).ownBlock ∧ some k_ ≠ (.slice Ip t563.length Iq : Value).ownBlock ∧ some k_ ≠ (.slice Iw t569.length Ix : Value).ownBlock) (.slice Ir t566.length Iu) t566) := ⟨(by rw [hw]; exact (by exact Kd.ax (eU (Kd.aG Eg.out Dk.out (by decide))) (fun _ hk => ⟨hk.1.1.1.2, ⟨hk.1.1.2, ⟨hk.1.2, ⟨hk.1.1.1.1.1, hk.1.1.1.1.2⟩⟩⟩⟩)))⟩; have n13_ : aa (Kd.R k88 88 w86 w.heap.size (fun k_ => some k_ ≠ (v529 : Value).ownBlock ∧ some k_ ≠ (v532 : Value).ownBlock ∧ some k_ ≠ (v535 : Value).ownBlock ∧ some k_ ≠ (.slice Ip t563.length Iq : Value).ownBlock ∧ some k_ ≠ (.slice Ir t566.length Iu : Value).ownBlock) (.slice Iw t569.length Ix) t569) := ⟨(by rw [hw]; exact (by exact Kd.ax (eU (Kd.aG Eh.out Dk.out (by decide))) (fun _ hk => ⟨hk.1.1.1.2, ⟨hk.1.1.2, ⟨hk.1.2, ⟨hk.1.1.1.1.1, hk.1.1.1.1.2⟩⟩⟩⟩)))⟩; have n14_ : aa (Kd.R k58 58 w86 w.heap.size (fun k_ => some k_ ≠ (v538 : Value).ownBlock) (.slice Jx t573.length Jy) t573) := ⟨(by rw [hw]; exact (by exact Kd.ax (eU (Kd.aG Ei.out Dk.out (by decide))) (fun _ hk => hk.1.2)))⟩; have n15_ : aa (w86.heap[Eu]? = some (.cells #[.string a0_0, .int .i64 a0_1, .slice A0_2 l0_2.length c0_2, .slice A0_3 l0_3.length c0_3, .slice A0_4 l0_4.length c0_4, .slice A0_5 l0_5.length c0_5, .slice A0_6 l0_6.length c0_6, .slice A0_7 l0_7.length c0_7] 26 (0, 0))) := ⟨(by rw [hw]; exact (bf Cb.out Mj.out))⟩; have n16_ : aa (w86.heap[Gs]? = some (.cells #[.slice A1_0 l1_0.length c1_0, .int .i64 a1_1, .int .i64 a1_2, .int .i64 a1_3, .int .i64 a1_4] 29 (0, 0))) := ⟨(by rw [hw]; exact (bf Cc.out Mo.out))⟩; have n17_ : aa (w86.heap[Dw]? = some (.cells #[.slice Jq t544.length Jn, .int .i64 t547, .int .i64 t548, .int .i64 t549, .int .i64 t550] 34 (0, 0))) := ⟨(by rw [hw]; exact (bf Ce.out Jw.out))⟩; have n18_ : aa (w86.heap[Js]? = some (.cells #[.string t552, .int .i64 t553, .slice Iz t554.length Ja, .slice Jb t557.length Jc, .slice Ju t560.length Jv, .slice Ip t563.length Iq, .slice Ir t566.length Iu, .slice Iw t569.length Ix] 39 (0, 0))) := ⟨(by rw [hw]; exact (bf Di.out Mq.out))⟩; have n19_ : aa (w86.heap[Jl]? = some (.cells #[.slice Jx t573.length Jy, .int .i64 t576, .int .i64 t577, .int .i64 t578, .int .i64 t579] 43 (0, 0))) := ⟨(by rw [hw]; exact (bp Dk.out))⟩; have n20_ : aa (Below w.heap.size w w86) := ⟨(by rw [hw]; exact bl)⟩; clear hw; clear Dy; clear Dz; clear Ea; clear Dt; clear Du; clear Dv; clear Eb; clear En; clear Ej; clear Ek; clear Ee; clear Ef; clear Eg; clear Eh; clear Ei; clear Cb; clear Cc; clear Ce; clear Di; clear Dk; clear HB; have Dy := n0_; have Dz := n1_; have Ea := n2_; have Dt := n3_; have Du := n4_; have Dv := n5_; have Eb := n6_; have En := n7_; have Ej := n8_; have Ek := n9_; have Ee := n10_; have Ef := n11_; have Eg := n12_; have Eh := n13_; have Ei := n14_; have Cb := n15_; have Cc := n16_; have Ce := n17_; have Di := n18_; have Dk := n19_; have HB := n20_; clear n0_ n1_ n2_ n3_ n4_ n5_ n6_ n7_ n8_ n9_ n10_ n11_ n12_ n13_ n14_ n15_ n16_ n17_ n18_ n19_ n20_; have Z87 := dD Di.out; have Z88 := dG Dk.out) | ((with_reducible refine c_ 9 ?_); refine gc 9 (some 35) Tryz.func9 (aY.calls _ _ _ (fun k_ => some k_ = (.slice Iz t554.length Ja : Value).ownBlock) _ _ _ (fun k_ => some k_ = (.slice Jb t557.length Jc : Value).ownBlock) _ _ _ _ _ _ _ _ _ _ _ _ _ _ _ _ _ _ _ _ _ _ _ _ _ _ _ _ ?Ec ?Ed ?Gp ?Gq ?Gy ?Gz ?Ia ?Ib ?Ic ?Ew ?Ey ?Ez ?Iy A24.out) ?_; (case Ec => exact Kd.R_V (Kd.fq rfl (Kd.aG (Kd.aG (Kd.aG (Kd.aG (Kd.aG (Kd.aC (Kd.aC (Kd.aC (Kd.aC (Kd.aC (Kd.aC (Kd.aC (Kd.aC (Kd.aC (Kd.aC (Kd.aC (Ej.out) (Kd.aH Ea.out) (by decide)) (Kd.aH Dt.out) (by decide)) (Kd.aH Du.out) (by decide)) (Kd.aH Dv.out) (by decide)) (Kd.aH Eb.out) (by decide)) (Kd.aH En.out) (by decide)) (Kd.aH Ee.out) (by decide)) (Kd.aH Ef.out) (by decide)) (Kd.aH Eg.out) (by decide)) (Kd.aH Eh.out) (by decide)) (Kd.aH Ei.out) (by decide)) Cb.out (by decide)) Cc.out (by decide)) Ce.out (by decide)) Di.out (by decide)) Dk.out (by decide)))); (case Ed => exact Kd.R_V (Kd.fq rfl (Kd.aG (Kd.aG (Kd.aG (Kd.aG (Kd.aG (Kd.aC (Kd.aC (Kd.aC (Kd.aC (Kd.aC (Kd.aC (Kd.aC (Kd.aC (Kd.aC (Kd.aC (Kd.aC (Ek.out) (Kd.aH Ea.out) (by decide)) (Kd.aH Dt.out) (by decide)) (Kd.aH Du.out) (by decide)) (Kd.aH Dv.out) (by decide)) (Kd.aH Eb.out) (by decide)) (Kd.aH En.out) (by decide)) (Kd.aH Ee.out) (by decide)) (Kd.aH Ef.out) (by decide)) (Kd.aH Eg.out) (by decide)) (Kd.aH Eh.out) (by decide)) (Kd.aH Ei.out) (by decide)) Cb.out (by decide)) Cc.out (by decide)) Ce.out (by decide)) Di.out (by decide)) Dk.out (by decide)))); (case Gp => exact cc (Kd.af Ee.out).2.2); (case Gq => exact (Kd.af Ee.out).2.1); (case Gy => exact cc (Kd.af Ef.out).2.2); (case Gz => exact (Kd.af Ef.out).2.1); (case Ia => exact cc (Kd.af Eg.out).2.2); (case Ib => exact (Kd.af Eg.out).2.1); (case Ic => exact cc (Kd.af Eh.out).2.2); (case Ew => exact (Kd.af Eh.out).2.1); (case Ey => exact cc (Kd.af Ei.out).2.2); (case Ez => exact (Kd.af Ei.out).2.1); (case Iy => exact Sh.below HSH.out bl); rintro e w89 ⟨v582, rfl, ho0, hb⟩; refine ⟨_, rfl, ?_⟩; refine r6_ hb Dy Dz Ea Dt Du Dv ?_; clear Dy Dz Ea Dt Du Dv; intro Dy Dz Ea Dt Du Dv; refine r6_ hb Eb Ej Ek Ee Ef Eg ?_; clear Eb Ej Ek Ee Ef Eg; intro Eb Ej Ek Ee Ef Eg; refine r2_ hb Eh Ei ?_; clear Eh Ei; intro Eh Ei; have Ih := am (Kd.bz (Kd.bW (Kd.ax (ok' := fun k_ => True) ho0 (fun _ hk_ => trivial)) (Kd.ek (kr En.out))) (az bl)); replace En := am (Kd.eY (kr En.out) (Kd.bO ho0) hb); refine r5_ hb Cb Cc Ce Di Dk ?_; clear Cb Cc Ce Di Dk; intro Cb Cc Ce Di Dk; replace HB := ho hb; clear hb ho0) | ((with_reducible refine g_ 9 ?_); refine bx 9 #[.slice none 0 0, .int .i64 0, .int .i64 0, .int .i64 0, .int .i64 0] 34 ?_; intro La hg w90 hbox hb; refine r6_ hb Dy Dz Ea Dt Du Dv ?_; clear Dy Dz Ea Dt Du Dv; intro Dy Dz Ea Dt Du Dv; refine r6_ hb Eb En Ej Ek Ee Ef ?_; clear Eb En Ej Ek Ee Ef; intro Eb En Ej Ek Ee Ef; refine r4_ hb Eg Eh Ei Ih ?_; clear Eg Eh Ei Ih; intro Eg Eh Ei Ih; have Dn := am hbox; have Rx := am (bsz hg : w.heap.size ≤ La); have Qd := Rx; have Jz := no hg Cb; have Mv := am Jz.out.symm; replace Cb := bo Cb hb; have Ka := no hg Cc; have My := am Ka.out.symm; replace Cc := bo Cc hb; have Kb := no hg Ce; have Na := am Kb.out.symm; replace Ce := bo Ce hb; have Ke := no hg Di; have Nb := am Ke.out.symm; replace Di := bo Di hb; have Kf := no hg Dk; have Nc := am Kf.out.symm; replace Dk := bo Dk hb; replace HB := ho hb; clear hb hbox hg; obtain ⟨Jp, Jo, Vd⟩ := Kd.aI Ih.out; subst Vd; have Yx := Mv.out; have Yy := Jz.out; have Yz := My.out; have Ca0 := Ka.out; have Ca1 := Na.out; have Ca2 := Kb.out; have Ca3 := Nb.out; have Ca4 := Ke.out; have Ca5 := Nc.out; have Ca6 := Kf.out; have Z97 := dG Dn.out; have Z98 := dG Ce.out) | ((with_reducible refine c_ 10 ?_); refine gc 10 (some 38) Tryz.func10 (dP.calls _ _ _ _ _ _ _ _ _ _ _ _ _ _ _ _ _ ?Ec ?Ed ?Gp ?Gq A25.out) ?_; (case Ec => refine (Kd.af (e := 60) (base := w.heap.size) (ok := fun k_ => (True ∧ some k_ ≠ (.slice Jq t544.length Jn : Value).ownBlock)) (n := t581.length) (c := Jo) ?_).2.2; exact (by exact (Kd.ax (eU (Kd.aG Ih.out Dn.out (by decide))) (fun _ h_ => h_.1)))); (case Ed => exact (Kd.af Ih.out).2.1); (case Gp => refine (Kd.af (e := 60) (base := w.heap.size) (ok := fun k_ => (True ∧ some k_ ≠ (.slice Jp t581.length Jo : Value).ownBlock)) (n := t544.length) (c := Jn) ?_).2.2; exact (by exact (Kd.ax (eU (Kd.aG En.out Dn.out (by decide))) (fun _ h_ => h_.1)))); (case Gq => exact (Kd.af En.out).2.1); rintro e w99 ⟨rfl, hb⟩; refine ⟨_, rfl, ?_⟩; replace Dy := rt Dy Dn hb; replace Dz := rt Dz Dn hb; replace Ea := rt Ea Dn hb; replace Dt := rt Dt Dn hb; replace Du := rt Du Dn hb; replace Dv := rt Dv Dn hb; replace Eb := rt Eb Dn hb; replace En := rt En Dn hb; replace Ej := rt Ej Dn hb; replace Ek := rt Ek Dn hb; replace Ee := rt Ee Dn hb; replace Ef := rt Ef Dn hb; replace Eg := rt Eg Dn hb; replace Eh := rt Eh Dn hb; replace Ei := rt Ei Dn hb; replace Ih := rt Ih Dn hb; replace Cb := am (bQ (g := Eu) (o := .cells #[.string a0_0, .int .i64 a0_1, .slice A0_2 l0_2.length c0_2, .slice A0_3 l0_3.length c0_3, .slice A0_4 l0_4.length c0_4, .slice A0_5 l0_5.length c0_5, .slice A0_6 l0_6.length c0_6, .slice A0_7 l0_7.length c0_7] 26 (0, 0)) (bf Cb.out Jz.out) hb); replace Cc := am (bQ (g := Gs) (o := .cells #[.slice A1_0 l1_0.length c1_0, .int .i64 a1_1, .int .i64 a1_2, .int .i64 a1_3, .int .i64 a1_4] 29 (0, 0)) (bf Cc.out Ka.out) hb); replace Ce := am (bQ (g := Dw) (o := .cells #[.slice Jq t544.length Jn, .int .i64 t547, .int .i64 t548, .int .i64 t549, .int .i64 t550] 34 (0, 0)) (bf Ce.out Kb.out) hb); replace Di := am (bQ (g := Js) (o := .cells #[.string t552, .int .i64 t553, .slice Iz t554.length Ja, .slice Jb t557.length Jc, .slice Ju t560.length Jv, .slice Ip t563.length Iq, .slice Ir t566.length Iu, .slice Iw t569.length Ix] 39 (0, 0)) (bf Di.out Ke.out) hb); replace Dk := am (bQ (g := Jl) (o := .cells #[.slice Jx t573.length Jy, .int .i64 t576, .int .i64 t577, .int .i64 t578, .int .i64 t579] 43 (0, 0)) (bf Dk.out Kf.out) hb); replace Dn := am (bQ (g := La) (o := .cells #[.slice Jp t581.length Jo, .int .i64 t584, .int .i64 t585, .int .i64 t586, .int .i64 t587] 34 (0, 0)) (bp Dn.out) hb); replace HB := ho hb; clear hb))
 replace Dy := am (Kd.dx Dy.out); replace Dz := am (Kd.dx Dz.out); replace Ea := am (Kd.dx Ea.out); replace Dt := am (Kd.dx Dt.out); replace Du := am (Kd.dx Du.out); replace Dv := am (Kd.dx Dv.out); replace Eb := am (Kd.dx Eb.out); replace En := am (Kd.dx En.out); replace Ej := am (Kd.dx Ej.out); replace Ek := am (Kd.dx Ek.out); replace Ee := am (Kd.dx Ee.out); replace Ef := am (Kd.dx Ef.out); replace Eg := am (Kd.dx Eg.out); replace Eh := am (Kd.dx Eh.out); replace Ei := am (Kd.dx Ei.out); replace Ih := am (Kd.dx Ih.out); replace Cb := am (bB Cb.out); replace Cc := am (bB Cc.out); replace Ce := am (bB Ce.out); replace Di := am (bB Di.out); replace Dk := am (bB Dk.out); replace Dn := am (bB Dn.out); replace HB := am (bg HB.out)
 refine eH (n := 5) (S := Sb8b8 Js (.string t552) (.int .i64 t553) (.slice Iz t554.length Ja) (.slice Jb t557.length Jc) (.slice Ju t560.length Jv) (.slice Ip t563.length Iq) (.slice Ir t566.length Iu) (.slice Iw t569.length Ix) Eu (.string a0_0) (.int .i64 a0_1) (.slice A0_2 l0_2.length c0_2) (.slice A0_3 l0_3.length c0_3) (.slice A0_4 l0_4.length c0_4) (.slice A0_5 l0_5.length c0_5) (.slice A0_6 l0_6.length c0_6) (.slice A0_7 l0_7.length c0_7)) (ds := []) #[F_, F_, F_, F_, F_] (by kernel_rfl) rfl rfl (ol Di.out Cb.out) (fun hHeld => ?_)
 generalize w99.drew = w100 at Dy Dz Ea Dt Du Dv Eb En Ej Ek Ee Ef Eg Eh Ei Ih Cb Cc Ce Di Dk Dn HB hHeld ⊢
 refine tv16 0 40 hHeld ?_
 refine tv16 1 41 hHeld ?_
 refine ov 2 42 (fun K hK => ?_)
 refine gk Tryz.func7 (dE.calls _ _ _ _ _ _ _ _ _ _ _ _ _ _ _ _ _ _ _ _ _ _ _ _ _ _ _ _ _ _ ?Ec ?Ed ?Gp ?Gq ?Gy ?Gz ?Ia ?Ib ?Ic ?Ew ?Ey ?Ez A27.out) ?_
 (case Ec => exact cb Lh.out)
 (case Ed => exact Lj.out)
 (case Gp => exact cb Ll.out)
 (case Gq => exact Lm.out)
 (case Gy => exact cb Ln.out)
 (case Gz => exact Lp.out)
 (case Ia => exact cb Lq.out)
 (case Ib => exact Lr.out)
 (case Ic => exact cb Ls.out)
 (case Ew => exact Lu.out)
 (case Ey => exact cb Ly.out)
 (case Ez => exact Ma.out)
 rintro e w101 ⟨v593, v596, v599, v602, v605, v608, rfl, ho0, ho1, ho2, ho3, ho4, ho5, hb⟩
 refine ⟨_, rfl, ?_⟩
 refine r4_ hb Eb En Ei Ih ?_; clear Eb En Ei Ih; intro Eb En Ei Ih; have Jd := am (Kd.bz (Kd.bW (Kd.bW (Kd.bW (Kd.bW ho0 (Kd.ek (kr Dy.out))) (Kd.ek (kr Dz.out))) (Kd.ek (kr Ej.out))) (Kd.ek (kr Ek.out))) (az bl)); have Je := am (Kd.bz (Kd.bW (Kd.bW (Kd.bW (Kd.bW ho1 (Kd.ek (kr Dy.out))) (Kd.ek (kr Dz.out))) (Kd.ek (kr Ej.out))) (Kd.ek (kr Ek.out))) (az bl)); replace Dy := am (Kd.ax (Kd.dF (Kd.dF (Kd.ik (kr Dy.out) hb) (Kd.bO ho0)) (Kd.bO ho1)) (fun _ h_ => h_.1)); replace Dz := am (Kd.ax (Kd.dF (Kd.dF (Kd.ik (kr Dz.out) hb) (Kd.bO ho0)) (Kd.bO ho1)) (fun _ h_ => h_.1)); replace Ej := am (Kd.ax (Kd.dF (Kd.dF (Kd.ik (kr Ej.out) hb) (Kd.bO ho0)) (Kd.bO ho1)) (fun _ h_ => h_.1)); replace Ek := am (Kd.ax (Kd.dF (Kd.dF (Kd.ik (kr Ek.out) hb) (Kd.bO ho0)) (Kd.bO ho1)) (fun _ h_ => h_.1)); have Jf := am (Kd.bz (Kd.bW (Kd.bW ho2 (Kd.ek (kr Ea.out))) (Kd.ek (kr Ee.out))) (az bl)); replace Ea := am (Kd.eY (kr Ea.out) (Kd.bO ho2) hb); replace Ee := am (Kd.eY (kr Ee.out) (Kd.bO ho2) hb); have Jg := am (Kd.bz (Kd.bW (Kd.bW (Kd.bW (Kd.bW (Kd.bW (Kd.bW ho3 (Kd.ek (kr Dt.out))) (Kd.ek (kr Du.out))) (Kd.ek (kr Dv.out))) (Kd.ek (kr Ef.out))) (Kd.ek (kr Eg.out))) (Kd.ek (kr Eh.out))) (az bl)); have Jh := am (Kd.bz (Kd.bW (Kd.bW (Kd.bW (Kd.bW (Kd.bW (Kd.bW ho4 (Kd.ek (kr Dt.out))) (Kd.ek (kr Du.out))) (Kd.ek (kr Dv.out))) (Kd.ek (kr Ef.out))) (Kd.ek (kr Eg.out))) (Kd.ek (kr Eh.out))) (az bl)); have Ji := am (Kd.bz (Kd.bW (Kd.bW (Kd.bW (Kd.bW (Kd.bW (Kd.bW ho5 (Kd.ek (kr Dt.out))) (Kd.ek (kr Du.out))) (Kd.ek (kr Dv.out))) (Kd.ek (kr Ef.out))) (Kd.ek (kr Eg.out))) (Kd.ek (kr Eh.out))) (az bl)); replace Dt := am (Kd.ax (Kd.dF (Kd.dF (Kd.dF (Kd.ik (kr Dt.out) hb) (Kd.bO ho3)) (Kd.bO ho4)) (Kd.bO ho5)) (fun _ h_ => h_.1)); replace Du := am (Kd.ax (Kd.dF (Kd.dF (Kd.dF (Kd.ik (kr Du.out) hb) (Kd.bO ho3)) (Kd.bO ho4)) (Kd.bO ho5)) (fun _ h_ => h_.1)); replace Dv := am (Kd.ax (Kd.dF (Kd.dF (Kd.dF (Kd.ik (kr Dv.out) hb) (Kd.bO ho3)) (Kd.bO ho4)) (Kd.bO ho5)) (fun _ h_ => h_.1)); replace Ef := am (Kd.ax (Kd.dF (Kd.dF (Kd.dF (Kd.ik (kr Ef.out) hb) (Kd.bO ho3)) (Kd.bO ho4)) (Kd.bO ho5)) (fun _ h_ => h_.1)); replace Eg := am (Kd.ax (Kd.dF (Kd.dF (Kd.dF (Kd.ik (kr Eg.out) hb) (Kd.bO ho3)) (Kd.bO ho4)) (Kd.bO ho5)) (fun _ h_ => h_.1)); replace Eh := am (Kd.ax (Kd.dF (Kd.dF (Kd.dF (Kd.ik (kr Eh.out) hb) (Kd.bO ho3)) (Kd.bO ho4)) (Kd.bO ho5)) (fun _ h_ => h_.1)); refine r6_ hb Cb Cc Ce Di Dk Dn ?_; clear Cb Cc Ce Di Dk Dn; intro Cb Cc Ce Di Dk Dn; replace HB := ho hb
 obtain ⟨Nh, Nl, Qk⟩ := Kd.aI Jd.out
 (first | subst Qk | (injection Qk with f1_ f2_ f3_; have f4_ := f1_.symm; have f5_ := f3_.symm; clear f1_ f2_ f3_; subst f4_; subst f5_))
 obtain ⟨Np, Nr, Ql⟩ := Kd.aI Je.out
 (first | subst Ql | (injection Ql with f1_ f2_ f3_; have f4_ := f1_.symm; have f5_ := f3_.symm; clear f1_ f2_ f3_; subst f4_; subst f5_))
 obtain ⟨Qe, Qf, Qm⟩ := Kd.aI Jf.out
 (first | subst Qm | (injection Qm with f1_ f2_ f3_; have f4_ := f1_.symm; have f5_ := f3_.symm; clear f1_ f2_ f3_; subst f4_; subst f5_))
 obtain ⟨Kg, Kh, Qn⟩ := Kd.aI Jg.out
 (first | subst Qn | (injection Qn with f1_ f2_ f3_; have f4_ := f1_.symm; have f5_ := f3_.symm; clear f1_ f2_ f3_; subst f4_; subst f5_))
 obtain ⟨Ki, Kj, Qo⟩ := Kd.aI Jh.out
 (first | subst Qo | (injection Qo with f1_ f2_ f3_; have f4_ := f1_.symm; have f5_ := f3_.symm; clear f1_ f2_ f3_; subst f4_; subst f5_))
 obtain ⟨Kk, Kl, Qp⟩ := Kd.aI Ji.out
 (first | subst Qp | (injection Qp with f1_ f2_ f3_; have f4_ := f1_.symm; have f5_ := f3_.symm; clear f1_ f2_ f3_; subst f4_; subst f5_))
 refine hK.out _ _ (ol Di.out Cb.out) (fun hHeld => ?_)
 clear hK K
 refine dn (a' := ?_) ?_ ?_
 rotate_left
 ·show Act.put _ (some 42) _ = _
  simp only [Act.put, z1, z2, z3, bu, bv]
  rfl
 refine ov 3 43 (fun K hK => ?_)
 refine gk Tryz.func11 (cK.calls _ _ _ _ _ _ _ _ _ _ _ _ _ _ _ _ _ _ _ _ _ _ _ _ _ _ _ _ _ _ _ _ _ _ _ _ _ _ _ _ _ _ _ ?Ec ?Ed ?Gp ?Gq ?Gy ?Gz ?Ia ?Ib ?Ic ?Ew ?Ey ?Ez ?Iy ?Jm ?Po ?Qy ?Qz ?Rb ?Re ?Rf ?Rh ?Ri ?Rj ?Rk A28.out) ?_
 (case Ec => exact cc (Kd.af Ej.out).2.2)
 (case Ed => exact (Kd.af Ej.out).2.1)
 (case Gp => exact cc (Kd.af Ek.out).2.2)
 (case Gq => exact (Kd.af Ek.out).2.1)
 (case Gy => exact cc (Kd.af Ee.out).2.2)
 (case Gz => exact (Kd.af Ee.out).2.1)
 (case Ia => exact cc (Kd.af Ef.out).2.2)
 (case Ib => exact (Kd.af Ef.out).2.1)
 (case Ic => exact cc (Kd.af Eg.out).2.2)
 (case Ew => exact (Kd.af Eg.out).2.1)
 (case Ey => exact cc (Kd.af Eh.out).2.2)
 (case Ez => exact (Kd.af Eh.out).2.1)
 (case Iy => exact cc (Kd.af Jd.out).2.2)
 (case Jm => exact (Kd.af Jd.out).2.1)
 (case Po => exact cc (Kd.af Je.out).2.2)
 (case Qy => exact (Kd.af Je.out).2.1)
 (case Qz => exact cc (Kd.af Jf.out).2.2)
 (case Rb => exact (Kd.af Jf.out).2.1)
 (case Re => exact cc (Kd.af Jg.out).2.2)
 (case Rf => exact (Kd.af Jg.out).2.1)
 (case Rh => exact cc (Kd.af Jh.out).2.2)
 (case Ri => exact (Kd.af Jh.out).2.1)
 (case Rj => exact cc (Kd.af Ji.out).2.2)
 (case Rk => exact (Kd.af Ji.out).2.1)
 rintro e w108 ⟨rfl, hb⟩
 refine ⟨_, rfl, ?_⟩
 refine r6_ hb Dy Dz Ea Dt Du Dv ?_; clear Dy Dz Ea Dt Du Dv; intro Dy Dz Ea Dt Du Dv; refine r6_ hb Eb En Ej Ek Ee Ef ?_; clear Eb En Ej Ek Ee Ef; intro Eb En Ej Ek Ee Ef; refine r6_ hb Eg Eh Ei Ih Jd Je ?_; clear Eg Eh Ei Ih Jd Je; intro Eg Eh Ei Ih Jd Je; refine r6_ hb Jf Jg Jh Ji Cb Cc ?_; clear Jf Jg Jh Ji Cb Cc; intro Jf Jg Jh Ji Cb Cc; refine r4_ hb Ce Di Dk Dn ?_; clear Ce Di Dk Dn; intro Ce Di Dk Dn; replace HB := ho hb
 refine hK.out _ _ (ol Di.out Cb.out) (fun hHeld => ?_)
 clear hK K
 refine dn (a' := ?_) ?_ ?_
 rotate_left
 ·show Act.put _ (some 43) _ = _
  simp only [Act.put, z1, z2, z3, bu, bv]
  rfl
 refine pv 4 44 ?_
 refine fF (by kernel_rfl) ?_
 try go_wp2
 replace Dy := am (Kd.dx Dy.out); replace Dz := am (Kd.dx Dz.out); replace Ea := am (Kd.dx Ea.out); replace Dt := am (Kd.dx Dt.out); replace Du := am (Kd.dx Du.out); replace Dv := am (Kd.dx Dv.out); replace Eb := am (Kd.dx Eb.out); replace En := am (Kd.dx En.out); replace Ej := am (Kd.dx Ej.out); replace Ek := am (Kd.dx Ek.out); replace Ee := am (Kd.dx Ee.out); replace Ef := am (Kd.dx Ef.out); replace Eg := am (Kd.dx Eg.out); replace Eh := am (Kd.dx Eh.out); replace Ei := am (Kd.dx Ei.out); replace Ih := am (Kd.dx Ih.out); replace Jd := am (Kd.dx Jd.out); replace Je := am (Kd.dx Je.out); replace Jf := am (Kd.dx Jf.out); replace Jg := am (Kd.dx Jg.out); replace Jh := am (Kd.dx Jh.out); replace Ji := am (Kd.dx Ji.out); replace Cb := am (bB Cb.out); replace Cc := am (bB Cc.out); replace Ce := am (bB Ce.out); replace Di := am (bB Di.out); replace Dk := am (bB Dk.out); replace Dn := am (bB Dn.out); replace HB := am (bg HB.out)
 refine eH (n := 5) (S := Sb5b5 Jl (.slice Jx t573.length Jy) (.int .i64 t576) (.int .i64 t577) (.int .i64 t578) (.int .i64 t579) Gs (.slice A1_0 l1_0.length c1_0) (.int .i64 a1_1) (.int .i64 a1_2) (.int .i64 a1_3) (.int .i64 a1_4)) (ds := []) #[F_, F_, F_, F_, F_] (by kernel_rfl) rfl rfl (rA Dk.out Cc.out) (fun hHeld => ?_)
 generalize w108.drew = w109 at Dy Dz Ea Dt Du Dv Eb En Ej Ek Ee Ef Eg Eh Ei Ih Jd Je Jf Jg Jh Ji Cb Cc Ce Di Dk Dn HB hHeld ⊢
 refine kK 0 45 hHeld ?_
 refine kK 1 46 hHeld ?_
 refine ov 2 47 (fun K hK => ?_)
 refine gk Tryz.func8 (dI.calls _ _ _ _ _ _ _ _ _ _ _ _ _ _ ?Ec ?Ed A30.out) ?_
 (case Ec => exact cb Ky.out)
 (case Ed => exact Kz.out)
 rintro e w110 ⟨v612, rfl, ho0, hb⟩
 refine ⟨_, rfl, ?_⟩
 refine r6_ hb Dy Dz Ea Dt Du Dv ?_; clear Dy Dz Ea Dt Du Dv; intro Dy Dz Ea Dt Du Dv; refine r6_ hb En Ej Ek Ee Ef Eg ?_; clear En Ej Ek Ee Ef Eg; intro En Ej Ek Ee Ef Eg; refine r6_ hb Eh Ih Jd Je Jf Jg ?_; clear Eh Ih Jd Je Jf Jg; intro Eh Ih Jd Je Jf Jg; refine r2_ hb Jh Ji ?_; clear Jh Ji; intro Jh Ji; have Km := am (Kd.bz (Kd.bW (Kd.bW ho0 (Kd.ek (kr Eb.out))) (Kd.ek (kr Ei.out))) (az bl)); replace Eb := am (Kd.eY (kr Eb.out) (Kd.bO ho0) hb); replace Ei := am (Kd.eY (kr Ei.out) (Kd.bO ho0) hb); refine r6_ hb Cb Cc Ce Di Dk Dn ?_; clear Cb Cc Ce Di Dk Dn; intro Cb Cc Ce Di Dk Dn; replace HB := ho hb
 obtain ⟨Qg, Qh, Qq⟩ := Kd.aI Km.out
 (first | subst Qq | (injection Qq with f1_ f2_ f3_; have f4_ := f1_.symm; have f5_ := f3_.symm; clear f1_ f2_ f3_; subst f4_; subst f5_))
 refine hK.out _ _ (rA Dk.out Cc.out) (fun hHeld => ?_)
 clear hK K
 refine dn (a' := ?_) ?_ ?_
 rotate_left
 ·show Act.put _ (some 47) _ = _
  simp only [Act.put, z1, z2, z3, bu, bv]
  rfl
 refine ov 3 48 (fun K hK => ?_)
 refine gk Tryz.func12 (fA.calls _ _ _ _ _ _ _ _ _ _ _ _ _ _ _ _ _ ?Ec ?Ed ?Gp ?Gq A31.out) ?_
 (case Ec => exact cc (Kd.af Ei.out).2.2)
 (case Ed => exact (Kd.af Ei.out).2.1)
 (case Gp => exact cc (Kd.af Km.out).2.2)
 (case Gq => exact (Kd.af Km.out).2.1)
 rintro e w112 ⟨rfl, hb⟩
 refine ⟨_, rfl, ?_⟩
 refine r6_ hb Dy Dz Ea Dt Du Dv ?_; clear Dy Dz Ea Dt Du Dv; intro Dy Dz Ea Dt Du Dv; refine r6_ hb Eb En Ej Ek Ee Ef ?_; clear Eb En Ej Ek Ee Ef; intro Eb En Ej Ek Ee Ef; refine r6_ hb Eg Eh Ei Ih Jd Je ?_; clear Eg Eh Ei Ih Jd Je; intro Eg Eh Ei Ih Jd Je; refine r6_ hb Jf Jg Jh Ji Km Cb ?_; clear Jf Jg Jh Ji Km Cb; intro Jf Jg Jh Ji Km Cb; refine r5_ hb Cc Ce Di Dk Dn ?_; clear Cc Ce Di Dk Dn; intro Cc Ce Di Dk Dn; replace HB := ho hb
 refine hK.out _ _ (rA Dk.out Cc.out) (fun hHeld => ?_)
 clear hK K
 refine dn (a' := ?_) ?_ ?_
 rotate_left
 ·show Act.put _ (some 48) _ = _
  simp only [Act.put, z1, z2, z3, bu, bv]
  rfl
 refine pv 4 49 ?_
 refine fF (by kernel_rfl) ?_
 have Ve := dD Di.out
 go_upto_region 21 with (first | ((with_reducible refine c_ 13 ?_); refine gc 13 (some 52) Tryz.func13 (dW.calls _ _ _ (fun k_ => some k_ = (.slice Iz t554.length Ja : Value).ownBlock) _ _ (fun k_ => some k_ = (.slice Jb t557.length Jc : Value).ownBlock) _ _ (fun k_ => some k_ = (.slice Ju t560.length Jv : Value).ownBlock) _ _ (fun k_ => some k_ = (.slice Ip t563.length Iq : Value).ownBlock) _ _ (fun k_ => some k_ = (.slice Ir t566.length Iu : Value).ownBlock) _ _ (fun k_ => some k_ = (.slice Iw t569.length Ix : Value).ownBlock) _ _ _ _ _ _ _ _ _ _ w _ ?Ec ?Ed ?Gp ?Gq ?Gy ?Gz ?Ia ?Ib ?Ic ?Ew ?Ey ?Ez ?Iy ?Jm ?Po A33.out) ?_; (case Ec => repeat (first | (with_reducible first | exact HB.out | apply aZ | apply aJ | apply bg | refine bJ ?_ Oo.out | refine bJ ?_ Ot.out | refine bJ ?_ Kp.out | refine bJ ?_ Qb.out | refine bJ ?_ Qc.out | refine bJ ?_ Qd.out) | exact HB.out)); (case Ed => exact Kd.fq rfl Ej.out); (case Gp => exact fun k_ e_ => (Ej.out.1 k_ e_.symm).1.1.2.2); (case Gq => exact Kd.fq rfl Ek.out); (case Gy => exact fun k_ e_ => (Ek.out.1 k_ e_.symm).1.1.2.2); (case Gz => exact Kd.fq rfl Ee.out); (case Ia => exact Kd.fq rfl Ef.out); (case Ib => exact fun k_ e_ => (Ef.out.1 k_ e_.symm).1.1.1.2.2.2.1); (case Ic => exact fun k_ e_ => (Ef.out.1 k_ e_.symm).1.1.1.2.2.2.2); (case Ew => exact Kd.fq rfl Eg.out); (case Ey => exact fun k_ e_ => (Eg.out.1 k_ e_.symm).1.1.1.2.2.2.1); (case Ez => exact fun k_ e_ => (Eg.out.1 k_ e_.symm).1.1.1.2.2.2.2); (case Iy => exact Kd.fq rfl Eh.out); (case Jm => exact fun k_ e_ => (Eh.out.1 k_ e_.symm).1.1.1.2.2.2.1); (case Po => exact fun k_ e_ => (Eh.out.1 k_ e_.symm).1.1.1.2.2.2.2); rintro e w114 ⟨rfl, Qr, hy1, hy2, hy3, hy4, hy5, hb, hkp⟩; refine ⟨_, rfl, ?_⟩; replace Cb := am (eX (bk Cb.out) hkp (fun hs_ => Or.elim hs_ (fun e_ => (fun e_ => (Kd.eG Ej.out Cb.out (by decide)) e_) e_) (fun e_ => Or.elim e_ (fun e_ => (fun e_ => (Kd.eG Ek.out Cb.out (by decide)) e_) e_) (fun e_ => Or.elim e_ (fun e_ => (fun e_ => (Kd.eG Ee.out Cb.out (by decide)) e_) e_) (fun e_ => Or.elim e_ (fun e_ => (fun e_ => (Kd.eG Ef.out Cb.out (by decide)) e_) e_) (fun e_ => Or.elim e_ (fun e_ => (fun e_ => (Kd.eG Eg.out Cb.out (by decide)) e_) e_) (fun e_ => (fun e_ => (Kd.eG Eh.out Cb.out (by decide)) e_) e_))))))); replace Cc := am (eX (bk Cc.out) hkp (fun hs_ => Or.elim hs_ (fun e_ => (fun e_ => (Kd.eG Ej.out Cc.out (by decide)) e_) e_) (fun e_ => Or.elim e_ (fun e_ => (fun e_ => (Kd.eG Ek.out Cc.out (by decide)) e_) e_) (fun e_ => Or.elim e_ (fun e_ => (fun e_ => (Kd.eG Ee.out Cc.out (by decide)) e_) e_) (fun e_ => Or.elim e_ (fun e_ => (fun e_ => (Kd.eG Ef.out Cc.out (by decide)) e_) e_) (fun e_ => Or.elim e_ (fun e_ => (fun e_ => (Kd.eG Eg.out Cc.out (by decide)) e_) e_) (fun e_ => (fun e_ => (Kd.eG Eh.out Cc.out (by decide)) e_) e_))))))); replace Dy := kbo4 (fun k_ => some k_ ≠ (v523 : Value).ownBlock ∧ some k_ ≠ (.slice Iz t554.length Ja : Value).ownBlock ∧ some k_ ≠ (.slice Jb t557.length Jc : Value).ownBlock ∧ some k_ ≠ (.slice Nh t592.length Nl : Value).ownBlock ∧ some k_ ≠ (.slice Np t595.length Nr : Value).ownBlock) Dy Ee Ef Eg Eh hkp; replace Dz := kbo4 (fun k_ => some k_ ≠ (v520 : Value).ownBlock ∧ some k_ ≠ (.slice Iz t554.length Ja : Value).ownBlock ∧ some k_ ≠ (.slice Jb t557.length Jc : Value).ownBlock ∧ some k_ ≠ (.slice Nh t592.length Nl : Value).ownBlock ∧ some k_ ≠ (.slice Np t595.length Nr : Value).ownBlock) Dz Ee Ef Eg Eh hkp; replace Ea := kbo5 (fun k_ => some k_ ≠ (.slice Ju t560.length Jv : Value).ownBlock ∧ some k_ ≠ (.slice Qe t598.length Qf : Value).ownBlock) Ea Ej Ek Ef Eg Eh hkp; replace Dt := tO (fun k_ => some k_ ≠ (v532 : Value).ownBlock ∧ some k_ ≠ (v535 : Value).ownBlock ∧ some k_ ≠ (.slice Ip t563.length Iq : Value).ownBlock ∧ some k_ ≠ (.slice Ir t566.length Iu : Value).ownBlock ∧ some k_ ≠ (.slice Iw t569.length Ix : Value).ownBlock ∧ some k_ ≠ (.slice Kg t601.length Kh : Value).ownBlock ∧ some k_ ≠ (.slice Ki t604.length Kj : Value).ownBlock ∧ some k_ ≠ (.slice Kk t607.length Kl : Value).ownBlock) Dt Ej Ek Ee hkp; replace Du := tO (fun k_ => some k_ ≠ (v529 : Value).ownBlock ∧ some k_ ≠ (v535 : Value).ownBlock ∧ some k_ ≠ (.slice Ip t563.length Iq : Value).ownBlock ∧ some k_ ≠ (.slice Ir t566.length Iu : Value).ownBlock ∧ some k_ ≠ (.slice Iw t569.length Ix : Value).ownBlock ∧ some k_ ≠ (.slice Kg t601.length Kh : Value).ownBlock ∧ some k_ ≠ (.slice Ki t604.length Kj : Value).ownBlock ∧ some k_ ≠ (.slice Kk t607.length Kl : Value).ownBlock) Du Ej Ek Ee hkp; replace Dv := tO (fun k_ => some k_ ≠ (v529 : Value).ownBlock ∧ some k_ ≠ (v532 : Value).ownBlock ∧ some k_ ≠ (.slice Ip t563.length Iq : Value).ownBlock ∧ some k_ ≠ (.slice Ir t566.length Iu : Value).ownBlock ∧ some k_ ≠ (.slice Iw t569.length Ix : Value).ownBlock ∧ some k_ ≠ (.slice Kg t601.length Kh : Value).ownBlock ∧ some k_ ≠ (.slice Ki t604.length Kj : Value).ownBlock ∧ some k_ ≠ (.slice Kk t607.length Kl : Value).ownBlock) Dv Ej Ek Ee hkp; replace Eb := vk (fun k_ => some k_ ≠ (.slice Jx t573.length Jy : Value).ownBlock ∧ some k_ ≠ (.slice Qg t611.length Qh : Value).ownBlock) Eb Ej Ek Ee Ef Eg Eh hkp; replace En := vk (fun k_ => some k_ ≠ (.slice Jp t581.length Jo : Value).ownBlock) En Ej Ek Ee Ef Eg Eh hkp; replace Ce := am (eX (bk Ce.out) hkp (fun hs_ => Or.elim hs_ (fun e_ => (fun e_ => (Kd.eG Ej.out Ce.out (by decide)) e_) e_) (fun e_ => Or.elim e_ (fun e_ => (fun e_ => (Kd.eG Ek.out Ce.out (by decide)) e_) e_) (fun e_ => Or.elim e_ (fun e_ => (fun e_ => (Kd.eG Ee.out Ce.out (by decide)) e_) e_) (fun e_ => Or.elim e_ (fun e_ => (fun e_ => (Kd.eG Ef.out Ce.out (by decide)) e_) e_) (fun e_ => Or.elim e_ (fun e_ => (fun e_ => (Kd.eG Eg.out Ce.out (by decide)) e_) e_) (fun e_ => (fun e_ => (Kd.eG Eh.out Ce.out (by decide)) e_) e_))))))); replace Di := am (eX (bk Di.out) hkp (fun hs_ => Or.elim hs_ (fun e_ => (fun e_ => (Kd.eG Ej.out Di.out (by decide)) e_) e_) (fun e_ => Or.elim e_ (fun e_ => (fun e_ => (Kd.eG Ek.out Di.out (by decide)) e_) e_) (fun e_ => Or.elim e_ (fun e_ => (fun e_ => (Kd.eG Ee.out Di.out (by decide)) e_) e_) (fun e_ => Or.elim e_ (fun e_ => (fun e_ => (Kd.eG Ef.out Di.out (by decide)) e_) e_) (fun e_ => Or.elim e_ (fun e_ => (fun e_ => (Kd.eG Eg.out Di.out (by decide)) e_) e_) (fun e_ => (fun e_ => (Kd.eG Eh.out Di.out (by decide)) e_) e_))))))); replace Ei := vk (fun k_ => some k_ ≠ (v538 : Value).ownBlock ∧ some k_ ≠ (.slice Qg t611.length Qh : Value).ownBlock) Ei Ej Ek Ee Ef Eg Eh hkp; replace Dk := am (eX (bk Dk.out) hkp (fun hs_ => Or.elim hs_ (fun e_ => (fun e_ => (Kd.eG Ej.out Dk.out (by decide)) e_) e_) (fun e_ => Or.elim e_ (fun e_ => (fun e_ => (Kd.eG Ek.out Dk.out (by decide)) e_) e_) (fun e_ => Or.elim e_ (fun e_ => (fun e_ => (Kd.eG Ee.out Dk.out (by decide)) e_) e_) (fun e_ => Or.elim e_ (fun e_ => (fun e_ => (Kd.eG Ef.out Dk.out (by decide)) e_) e_) (fun e_ => Or.elim e_ (fun e_ => (fun e_ => (Kd.eG Eg.out Dk.out (by decide)) e_) e_) (fun e_ => (fun e_ => (Kd.eG Eh.out Dk.out (by decide)) e_) e_))))))); replace Ih := vk (fun k_ => some k_ ≠ (.slice Jq t544.length Jn : Value).ownBlock) Ih Ej Ek Ee Ef Eg Eh hkp; replace Dn := am (eX (bk Dn.out) hkp (fun hs_ => Or.elim hs_ (fun e_ => (fun e_ => (Kd.eG Ej.out Dn.out (by decide)) e_) e_) (fun e_ => Or.elim e_ (fun e_ => (fun e_ => (Kd.eG Ek.out Dn.out (by decide)) e_) e_) (fun e_ => Or.elim e_ (fun e_ => (fun e_ => (Kd.eG Ee.out Dn.out (by decide)) e_) e_) (fun e_ => Or.elim e_ (fun e_ => (fun e_ => (Kd.eG Ef.out Dn.out (by decide)) e_) e_) (fun e_ => Or.elim e_ (fun e_ => (fun e_ => (Kd.eG Eg.out Dn.out (by decide)) e_) e_) (fun e_ => (fun e_ => (Kd.eG Eh.out Dn.out (by decide)) e_) e_))))))); replace Jd := kbo4 (fun k_ => some k_ ≠ (v520 : Value).ownBlock ∧ some k_ ≠ (v523 : Value).ownBlock ∧ some k_ ≠ (.slice Iz t554.length Ja : Value).ownBlock ∧ some k_ ≠ (.slice Jb t557.length Jc : Value).ownBlock ∧ some k_ ≠ (.slice Np t595.length Nr : Value).ownBlock) Jd Ee Ef Eg Eh hkp; replace Je := kbo4 (fun k_ => some k_ ≠ (v520 : Value).ownBlock ∧ some k_ ≠ (v523 : Value).ownBlock ∧ some k_ ≠ (.slice Iz t554.length Ja : Value).ownBlock ∧ some k_ ≠ (.slice Jb t557.length Jc : Value).ownBlock ∧ some k_ ≠ (.slice Nh t592.length Nl : Value).ownBlock) Je Ee Ef Eg Eh hkp; replace Jf := kbo5 (fun k_ => some k_ ≠ (v526 : Value).ownBlock ∧ some k_ ≠ (.slice Ju t560.length Jv : Value).ownBlock) Jf Ej Ek Ef Eg Eh hkp; replace Jg := tO (fun k_ => some k_ ≠ (v529 : Value).ownBlock ∧ some k_ ≠ (v532 : Value).ownBlock ∧ some k_ ≠ (v535 : Value).ownBlock ∧ some k_ ≠ (.slice Ip t563.length Iq : Value).ownBlock ∧ some k_ ≠ (.slice Ir t566.length Iu : Value).ownBlock ∧ some k_ ≠ (.slice Iw t569.length Ix : Value).ownBlock ∧ some k_ ≠ (.slice Ki t604.length Kj : Value).ownBlock ∧ some k_ ≠ (.slice Kk t607.length Kl : Value).ownBlock) Jg Ej Ek Ee hkp; replace Jh := tO (fun k_ => some k_ ≠ (v529 : Value).ownBlock ∧ some k_ ≠ (v532 : Value).ownBlock ∧ some k_ ≠ (v535 : Value).ownBlock ∧ some k_ ≠ (.slice Ip t563.length Iq : Value).ownBlock ∧ some k_ ≠ (.slice Ir t566.length Iu : Value).ownBlock ∧ some k_ ≠ (.slice Iw t569.length Ix : Value).ownBlock ∧ some k_ ≠ (.slice Kg t601.length Kh : Value).ownBlock ∧ some k_ ≠ (.slice Kk t607.length Kl : Value).ownBlock) Jh Ej Ek Ee hkp; replace Ji := tO (fun k_ => some k_ ≠ (v529 : Value).ownBlock ∧ some k_ ≠ (v532 : Value).ownBlock ∧ some k_ ≠ (v535 : Value).ownBlock ∧ some k_ ≠ (.slice Ip t563.length Iq : Value).ownBlock ∧ some k_ ≠ (.slice Ir t566.length Iu : Value).ownBlock ∧ some k_ ≠ (.slice Iw t569.length Ix : Value).ownBlock ∧ some k_ ≠ (.slice Kg t601.length Kh : Value).ownBlock ∧ some k_ ≠ (.slice Ki t604.length Kj : Value).ownBlock) Ji Ej Ek Ee hkp; replace Km := vk (fun k_ => some k_ ≠ (v538 : Value).ownBlock ∧ some k_ ≠ (.slice Jx t573.length Jy : Value).ownBlock) Km Ej Ek Ee Ef Eg Eh hkp; replace Ej := am (Kd.iH rfl Qr (fun k_ e_ => Ej.out.1 k_ e_)); replace Ek := am (Kd.iH rfl hy1 (fun k_ e_ => Ek.out.1 k_ e_)); replace Ee := am (Kd.iH rfl hy2 (fun k_ e_ => Ee.out.1 k_ e_)); replace Ef := am (Kd.iH rfl hy3 (fun k_ e_ => Ef.out.1 k_ e_)); replace Eg := am (Kd.iH rfl hy4 (fun k_ e_ => Eg.out.1 k_ e_)); replace Eh := am (Kd.iH rfl hy5 (fun k_ e_ => Eh.out.1 k_ e_)); replace HB := am (hb); clear hb hkp Qr hy1 hy2 hy3 hy4 hy5; have Vf := dG Dk.out) | ((with_reducible refine c_ 14 ?_); refine gc 14 (some 55) Tryz.func14 (eP.calls _ (fun k_ => some k_ = (.slice Jx t573.length Jy : Value).ownBlock) _ _ _ _ _ _ _ _ _ w _ ?Ec ?Ed A34.out) ?_; (case Ec => repeat (first | (with_reducible first | exact HB.out | apply aZ | apply aJ | apply bg | refine bJ ?_ Oo.out | refine bJ ?_ Ot.out | refine bJ ?_ Kp.out | refine bJ ?_ Qb.out | refine bJ ?_ Qc.out | refine bJ ?_ Qd.out) | exact HB.out)); (case Ed => exact Kd.fq rfl Ei.out); rintro e w116 ⟨rfl, Qr, hb, hkp⟩; refine ⟨_, rfl, ?_⟩; replace Cb := am (eX (bk Cb.out) hkp (fun hs_ => (fun e_ => (Kd.eG Ei.out Cb.out (by decide)) e_) hs_)); replace Cc := am (eX (bk Cc.out) hkp (fun hs_ => (fun e_ => (Kd.eG Ei.out Cc.out (by decide)) e_) hs_)); replace Dy := ji (fun k_ => some k_ ≠ (v523 : Value).ownBlock ∧ some k_ ≠ (.slice Iz t554.length Ja : Value).ownBlock ∧ some k_ ≠ (.slice Jb t557.length Jc : Value).ownBlock ∧ some k_ ≠ (.slice Nh t592.length Nl : Value).ownBlock ∧ some k_ ≠ (.slice Np t595.length Nr : Value).ownBlock) Dy Ei hkp; replace Dz := ji (fun k_ => some k_ ≠ (v520 : Value).ownBlock ∧ some k_ ≠ (.slice Iz t554.length Ja : Value).ownBlock ∧ some k_ ≠ (.slice Jb t557.length Jc : Value).ownBlock ∧ some k_ ≠ (.slice Nh t592.length Nl : Value).ownBlock ∧ some k_ ≠ (.slice Np t595.length Nr : Value).ownBlock) Dz Ei hkp; replace Ea := ji (fun k_ => some k_ ≠ (.slice Ju t560.length Jv : Value).ownBlock ∧ some k_ ≠ (.slice Qe t598.length Qf : Value).ownBlock) Ea Ei hkp; replace Dt := ji (fun k_ => some k_ ≠ (v532 : Value).ownBlock ∧ some k_ ≠ (v535 : Value).ownBlock ∧ some k_ ≠ (.slice Ip t563.length Iq : Value).ownBlock ∧ some k_ ≠ (.slice Ir t566.length Iu : Value).ownBlock ∧ some k_ ≠ (.slice Iw t569.length Ix : Value).ownBlock ∧ some k_ ≠ (.slice Kg t601.length Kh : Value).ownBlock ∧ some k_ ≠ (.slice Ki t604.length Kj : Value).ownBlock ∧ some k_ ≠ (.slice Kk t607.length Kl : Value).ownBlock) Dt Ei hkp; replace Du := ji (fun k_ => some k_ ≠ (v529 : Value).ownBlock ∧ some k_ ≠ (v535 : Value).ownBlock ∧ some k_ ≠ (.slice Ip t563.length Iq : Value).ownBlock ∧ some k_ ≠ (.slice Ir t566.length Iu : Value).ownBlock ∧ some k_ ≠ (.slice Iw t569.length Ix : Value).ownBlock ∧ some k_ ≠ (.slice Kg t601.length Kh : Value).ownBlock ∧ some k_ ≠ (.slice Ki t604.length Kj : Value).ownBlock ∧ some k_ ≠ (.slice Kk t607.length Kl : Value).ownBlock) Du Ei hkp; replace Dv := ji (fun k_ => some k_ ≠ (v529 : Value).ownBlock ∧ some k_ ≠ (v532 : Value).ownBlock ∧ some k_ ≠ (.slice Ip t563.length Iq : Value).ownBlock ∧ some k_ ≠ (.slice Ir t566.length Iu : Value).ownBlock ∧ some k_ ≠ (.slice Iw t569.length Ix : Value).ownBlock ∧ some k_ ≠ (.slice Kg t601.length Kh : Value).ownBlock ∧ some k_ ≠ (.slice Ki t604.length Kj : Value).ownBlock ∧ some k_ ≠ (.slice Kk t607.length Kl : Value).ownBlock) Dv Ei hkp; replace Eb := kbo0 (fun k_ => some k_ ≠ (.slice Jx t573.length Jy : Value).ownBlock ∧ some k_ ≠ (.slice Qg t611.length Qh : Value).ownBlock) Eb hkp; replace En := ji (fun k_ => some k_ ≠ (.slice Jp t581.length Jo : Value).ownBlock) En Ei hkp; replace Ce := am (eX (bk Ce.out) hkp (fun hs_ => (fun e_ => (Kd.eG Ei.out Ce.out (by decide)) e_) hs_)); replace Ej := ji (fun k_ => some k_ ≠ (v520 : Value).ownBlock ∧ some k_ ≠ (v523 : Value).ownBlock ∧ some k_ ≠ (.slice Jb t557.length Jc : Value).ownBlock ∧ some k_ ≠ (.slice Nh t592.length Nl : Value).ownBlock ∧ some k_ ≠ (.slice Np t595.length Nr : Value).ownBlock) Ej Ei hkp; replace Ek := ji (fun k_ => some k_ ≠ (v520 : Value).ownBlock ∧ some k_ ≠ (v523 : Value).ownBlock ∧ some k_ ≠ (.slice Iz t554.length Ja : Value).ownBlock ∧ some k_ ≠ (.slice Nh t592.length Nl : Value).ownBlock ∧ some k_ ≠ (.slice Np t595.length Nr : Value).ownBlock) Ek Ei hkp; replace Ee := ji (fun k_ => some k_ ≠ (v526 : Value).ownBlock ∧ some k_ ≠ (.slice Qe t598.length Qf : Value).ownBlock) Ee Ei hkp; replace Ef := ji (fun k_ => some k_ ≠ (v529 : Value).ownBlock ∧ some k_ ≠ (v532 : Value).ownBlock ∧ some k_ ≠ (v535 : Value).ownBlock ∧ some k_ ≠ (.slice Ir t566.length Iu : Value).ownBlock ∧ some k_ ≠ (.slice Iw t569.length Ix : Value).ownBlock ∧ some k_ ≠ (.slice Kg t601.length Kh : Value).ownBlock ∧ some k_ ≠ (.slice Ki t604.length Kj : Value).ownBlock ∧ some k_ ≠ (.slice Kk t607.length Kl : Value).ownBlock) Ef Ei hkp; replace Eg := ji (fun k_ => some k_ ≠ (v529 : Value).ownBlock ∧ some k_ ≠ (v532 : Value).ownBlock ∧ some k_ ≠ (v535 : Value).ownBlock ∧ some k_ ≠ (.slice Ip t563.length Iq : Value).ownBlock ∧ some k_ ≠ (.slice Iw t569.length Ix : Value).ownBlock ∧ some k_ ≠ (.slice Kg t601.length Kh : Value).ownBlock ∧ some k_ ≠ (.slice Ki t604.length Kj : Value).ownBlock ∧ some k_ ≠ (.slice Kk t607.length Kl : Value).ownBlock) Eg Ei hkp; replace Eh := ji (fun k_ => some k_ ≠ (v529 : Value).ownBlock ∧ some k_ ≠ (v532 : Value).ownBlock ∧ some k_ ≠ (v535 : Value).ownBlock ∧ some k_ ≠ (.slice Ip t563.length Iq : Value).ownBlock ∧ some k_ ≠ (.slice Ir t566.length Iu : Value).ownBlock ∧ some k_ ≠ (.slice Kg t601.length Kh : Value).ownBlock ∧ some k_ ≠ (.slice Ki t604.length Kj : Value).ownBlock ∧ some k_ ≠ (.slice Kk t607.length Kl : Value).ownBlock) Eh Ei hkp; replace Di := am (eX (bk Di.out) hkp (fun hs_ => (fun e_ => (Kd.eG Ei.out Di.out (by decide)) e_) hs_)); replace Dk := am (eX (bk Dk.out) hkp (fun hs_ => (fun e_ => (Kd.eG Ei.out Dk.out (by decide)) e_) hs_)); replace Ih := ji (fun k_ => some k_ ≠ (.slice Jq t544.length Jn : Value).ownBlock) Ih Ei hkp; replace Dn := am (eX (bk Dn.out) hkp (fun hs_ => (fun e_ => (Kd.eG Ei.out Dn.out (by decide)) e_) hs_)); replace Jd := ji (fun k_ => some k_ ≠ (v520 : Value).ownBlock ∧ some k_ ≠ (v523 : Value).ownBlock ∧ some k_ ≠ (.slice Iz t554.length Ja : Value).ownBlock ∧ some k_ ≠ (.slice Jb t557.length Jc : Value).ownBlock ∧ some k_ ≠ (.slice Np t595.length Nr : Value).ownBlock) Jd Ei hkp; replace Je := ji (fun k_ => some k_ ≠ (v520 : Value).ownBlock ∧ some k_ ≠ (v523 : Value).ownBlock ∧ some k_ ≠ (.slice Iz t554.length Ja : Value).ownBlock ∧ some k_ ≠ (.slice Jb t557.length Jc : Value).ownBlock ∧ some k_ ≠ (.slice Nh t592.length Nl : Value).ownBlock) Je Ei hkp; replace Jf := ji (fun k_ => some k_ ≠ (v526 : Value).ownBlock ∧ some k_ ≠ (.slice Ju t560.length Jv : Value).ownBlock) Jf Ei hkp; replace Jg := ji (fun k_ => some k_ ≠ (v529 : Value).ownBlock ∧ some k_ ≠ (v532 : Value).ownBlock ∧ some k_ ≠ (v535 : Value).ownBlock ∧ some k_ ≠ (.slice Ip t563.length Iq : Value).ownBlock ∧ some k_ ≠ (.slice Ir t566.length Iu : Value).ownBlock ∧ some k_ ≠ (.slice Iw t569.length Ix : Value).ownBlock ∧ some k_ ≠ (.slice Ki t604.length Kj : Value).ownBlock ∧ some k_ ≠ (.slice Kk t607.length Kl : Value).ownBlock) Jg Ei hkp; replace Jh := ji (fun k_ => some k_ ≠ (v529 : Value).ownBlock ∧ some k_ ≠ (v532 : Value).ownBlock ∧ some k_ ≠ (v535 : Value).ownBlock ∧ some k_ ≠ (.slice Ip t563.length Iq : Value).ownBlock ∧ some k_ ≠ (.slice Ir t566.length Iu : Value).ownBlock ∧ some k_ ≠ (.slice Iw t569.length Ix : Value).ownBlock ∧ some k_ ≠ (.slice Kg t601.length Kh : Value).ownBlock ∧ some k_ ≠ (.slice Kk t607.length Kl : Value).ownBlock) Jh Ei hkp; replace Ji := ji (fun k_ => some k_ ≠ (v529 : Value).ownBlock ∧ some k_ ≠ (v532 : Value).ownBlock ∧ some k_ ≠ (v535 : Value).ownBlock ∧ some k_ ≠ (.slice Ip t563.length Iq : Value).ownBlock ∧ some k_ ≠ (.slice Ir t566.length Iu : Value).ownBlock ∧ some k_ ≠ (.slice Iw t569.length Ix : Value).ownBlock ∧ some k_ ≠ (.slice Kg t601.length Kh : Value).ownBlock ∧ some k_ ≠ (.slice Ki t604.length Kj : Value).ownBlock) Ji Ei hkp; replace Ei := am (Kd.iH rfl Qr (fun k_ e_ => Ei.out.1 k_ e_)); replace Km := kbo0 (fun k_ => some k_ ≠ (v538 : Value).ownBlock ∧ some k_ ≠ (.slice Jx t573.length Jy : Value).ownBlock) Km hkp; replace HB := am (hb); clear hb hkp Qr))
 (try simp only [Act.put, z1, z2, z3])
 go_cut [63] (fun v63 wc => ∃ (kq : Nat) (x63_34 : Bool), v63 = .bool x63_34 ∧ aa (laws_FnExactVmNamed.j0 kq x63_34 a0_0 a0_1 l0_2 l0_3 l0_4 l0_5 l0_6 l0_7 l1_0 a1_1 a1_2 a1_3 a1_4 t544 t547 t548 t549 t550 t581 t584 t585 t586 t587 = some r) ∧ aa (kq ≤ k) ∧ aa (Kd.R k60 60 wc w.heap.size (fun k_ => some k_ ≠ ((.slice Jp t581.length Jo) : Value).ownBlock) (.slice Jq t544.length Jn) t544) ∧ aa (Kd.R Kd.string 9 wc w.heap.size (fun k_ => some k_ ≠ ((.slice Jb t557.length Jc) : Value).ownBlock) (.slice Iz t554.length Ja) t620) ∧ aa (Kd.R Kd.string 9 wc w.heap.size (fun k_ => some k_ ≠ ((.slice Iz t554.length Ja) : Value).ownBlock) (.slice Jb t557.length Jc) t621) ∧ aa (Kd.R k83 83 wc w.heap.size (fun _ => True) (.slice Ju t560.length Jv) t622) ∧ aa (Kd.R k88 88 wc w.heap.size (fun k_ => some k_ ≠ ((.slice Ir t566.length Iu) : Value).ownBlock ∧ some k_ ≠ ((.slice Iw t569.length Ix) : Value).ownBlock) (.slice Ip t563.length Iq) t623) ∧ aa (Kd.R k88 88 wc w.heap.size (fun k_ => some k_ ≠ ((.slice Ip t563.length Iq) : Value).ownBlock ∧ some k_ ≠ ((.slice Iw t569.length Ix) : Value).ownBlock) (.slice Ir t566.length Iu) t624) ∧ aa (Kd.R k88 88 wc w.heap.size (fun k_ => some k_ ≠ ((.slice Ip t563.length Iq) : Value).ownBlock ∧ some k_ ≠ ((.slice Ir t566.length Iu) : Value).ownBlock) (.slice Iw t569.length Ix) t625) ∧ aa (Kd.R k58 58 wc w.heap.size (fun _ => True) (.slice Jx t573.length Jy) t627) ∧ aa (Kd.R k60 60 wc w.heap.size (fun k_ => some k_ ≠ ((.slice Jq t544.length Jn) : Value).ownBlock) (.slice Jp t581.length Jo) t581) ∧ aa (wc.heap[Eu]? = some (.cells #[.string a0_0, .int .i64 a0_1, (.slice A0_2 l0_2.length c0_2), (.slice A0_3 l0_3.length c0_3), (.slice A0_4 l0_4.length c0_4), (.slice A0_5 l0_5.length c0_5), (.slice A0_6 l0_6.length c0_6), (.slice A0_7 l0_7.length c0_7)] 26 (0, 0))) ∧ aa (wc.heap[Gs]? = some (.cells #[(.slice A1_0 l1_0.length c1_0), .int .i64 a1_1, .int .i64 a1_2, .int .i64 a1_3, .int .i64 a1_4] 29 (0, 0))) ∧ aa (wc.heap[Dw]? = some (.cells #[(.slice Jq t544.length Jn), .int .i64 t547, .int .i64 t548, .int .i64 t549, .int .i64 t550] 34 (0, 0))) ∧ aa (wc.heap[Js]? = some (.cells #[.string t552, .int .i64 t553, (.slice Iz t554.length Ja), (.slice Jb t557.length Jc), (.slice Ju t560.length Jv), (.slice Ip t563.length Iq), (.slice Ir t566.length Iu), (.slice Iw t569.length Ix)] 39 (0, 0))) ∧ aa (wc.heap[Jl]? = some (.cells #[(.slice Jx t573.length Jy), .int .i64 t576, .int .i64 t577, .int .i64 t578, .int .i64 t579] 43 (0, 0))) ∧ aa (wc.heap[La]? = some (.cells #[(.slice Jp t581.length Jo), .int .i64 t584, .int .i64 t585, .int .i64 t586, .int .i64 t587] 34 (0, 0))) ∧ aa (Below w.heap.size w wc))
 case first =>
  have H := Qx.out
  clear Qx
  revert H; refine iDb (fun Ob H => ?_) fun Ob H => ?_
  ·(first | rw [Ob] | (simp only [bu, bv]; rw [Ob]) | skip)
   have H' := am H; clear H
   go_wp2
   go_meet
   case rel => exact ⟨_, (true), rs, H', ⟨by first | omega | exact Nat.le_refl _⟩, ⟨kr En.out⟩, ⟨by exact Kd.ax (kr Ej.out) (fun _ hk => hk.2.2.1)⟩, ⟨by exact Kd.ax (kr Ek.out) (fun _ hk => hk.2.2.1)⟩, ⟨by exact Kd.ax (kr Ee.out) (fun _ hk => trivial)⟩, ⟨by exact Kd.ax (kr Ef.out) (fun _ hk => ⟨hk.2.2.2.1, hk.2.2.2.2.1⟩)⟩, ⟨by exact Kd.ax (kr Eg.out) (fun _ hk => ⟨hk.2.2.2.1, hk.2.2.2.2.1⟩)⟩, ⟨by exact Kd.ax (kr Eh.out) (fun _ hk => ⟨hk.2.2.2.1, hk.2.2.2.2.1⟩)⟩, ⟨by exact Kd.ax (kr Ei.out) (fun _ hk => trivial)⟩, ⟨kr Ih.out⟩, ⟨bk Cb.out⟩, ⟨bk Cc.out⟩, ⟨bk Ce.out⟩, ⟨bk Di.out⟩, ⟨bk Dk.out⟩, ⟨bk Dn.out⟩, ⟨bl⟩⟩
  (first | rw [Ob] | (simp only [bu, bv]; rw [Ob]) | skip)
  revert H; refine bj fun t628 Vg H => ?_
  have H' := am H; clear H
  have Vh := Mv.out
  have Vj := Jz.out
  have Vk := My.out
  have Vl := Ka.out
  have Vm := Na.out
  have Vo := Kb.out
  have Vp := Nb.out
  have Vq := Ke.out
  have Vr := Nc.out
  have Vs := Kf.out
  have Cb1 := dG Dn.out
  have Vt := Ie.out
  have Vu := Dj.out
  have Vv := Ig.out
  have Vw := Dp.out
  have Vx := Jt.out
  have Vy := Me.out
  have Vz := Jw.out
  have Wa := Mp.out
  have Cb2 := dG Ce.out
  go_wp2_with (first | (go_at_call 10; (with_reducible refine (dP.calls _ _ _ _ _ _ _ _ _ _ _ _ _ _ _ _ _ ?Ec ?Ed ?Gp ?Gq Vg.out).mono ?_); (case Ec => exact cc (Kd.af Ih.out).2.2); (case Ed => exact (Kd.af Ih.out).2.1); (case Gp => exact cc (Kd.af En.out).2.2); (case Gq => exact (Kd.af En.out).2.1); rintro e w130 ⟨rfl, hb⟩; refine r6_ hb Dy Dz Ea Dt Du Dv ?_; clear Dy Dz Ea Dt Du Dv; intro Dy Dz Ea Dt Du Dv; refine r6_ hb Eb En Ej Ek Ee Ef ?_; clear Eb En Ej Ek Ee Ef; intro Eb En Ej Ek Ee Ef; refine r6_ hb Eg Eh Ei Ih Jd Je ?_; clear Eg Eh Ei Ih Jd Je; intro Eg Eh Ei Ih Jd Je; refine r6_ hb Jf Jg Jh Ji Km Cb ?_; clear Jf Jg Jh Ji Km Cb; intro Jf Jg Jh Ji Km Cb; refine r5_ hb Cc Ce Di Dk Dn ?_; clear Cc Ce Di Dk Dn; intro Cc Ce Di Dk Dn; replace HB := ho hb; clear hb))
  go_meet
  case rel => exact ⟨_, (!t628), rs, H', ⟨by first | omega | exact Nat.le_refl _⟩, ⟨kr En.out⟩, ⟨by exact Kd.ax (kr Ej.out) (fun _ hk => hk.2.2.1)⟩, ⟨by exact Kd.ax (kr Ek.out) (fun _ hk => hk.2.2.1)⟩, ⟨by exact Kd.ax (kr Ee.out) (fun _ hk => trivial)⟩, ⟨by exact Kd.ax (kr Ef.out) (fun _ hk => ⟨hk.2.2.2.1, hk.2.2.2.2.1⟩)⟩, ⟨by exact Kd.ax (kr Eg.out) (fun _ hk => ⟨hk.2.2.2.1, hk.2.2.2.2.1⟩)⟩, ⟨by exact Kd.ax (kr Eh.out) (fun _ hk => ⟨hk.2.2.2.1, hk.2.2.2.2.1⟩)⟩, ⟨by exact Kd.ax (kr Ei.out) (fun _ hk => trivial)⟩, ⟨kr Ih.out⟩, ⟨bk Cb.out⟩, ⟨bk Cc.out⟩, ⟨bk Ce.out⟩, ⟨bk Di.out⟩, ⟨bk Dk.out⟩, ⟨bk Dn.out⟩, ⟨bl⟩⟩
 case rest =>
  clear Qx
  try clear Ve; try clear Vf
  obtain ⟨kq, x63_34, rfl, HA, Cb3, Cm, Df, Dh, Cn, Cf, Ci, Cj, Dc, Cd, Cb, Cc, Ce, Di, Dk, Dn, HB⟩ := hcut
  have Ga := (Kd.af Df.out).1
  rw [Ga] at Df
  (try simp only [Ga])
  (try simp only [Ga] at Cb)
  (try simp only [Ga] at Cc)
  (try simp only [Ga] at Ce)
  (try simp only [Ga] at Di)
  (try simp only [Ga] at Dk)
  (try simp only [Ga] at Dn)
  (try simp only [Ga] at Cm)
  (try simp only [Ga] at Dh)
  (try simp only [Ga] at Cn)
  (try simp only [Ga] at Cf)
  (try simp only [Ga] at Ci)
  (try simp only [Ga] at Cj)
  (try simp only [Ga] at Dc)
  (try simp only [Ga] at Cd)
  have Gf := (Kd.af Dh.out).1
  rw [Gf] at Dh
  (try simp only [Gf])
  (try simp only [Gf] at Cb)
  (try simp only [Gf] at Cc)
  (try simp only [Gf] at Ce)
  (try simp only [Gf] at Di)
  (try simp only [Gf] at Dk)
  (try simp only [Gf] at Dn)
  (try simp only [Gf] at Cm)
  (try simp only [Gf] at Df)
  (try simp only [Gf] at Cn)
  (try simp only [Gf] at Cf)
  (try simp only [Gf] at Ci)
  (try simp only [Gf] at Cj)
  (try simp only [Gf] at Dc)
  (try simp only [Gf] at Cd)
  have Gg := (Kd.af Cn.out).1
  rw [Gg] at Cn
  (try simp only [Gg])
  (try simp only [Gg] at Cb)
  (try simp only [Gg] at Cc)
  (try simp only [Gg] at Ce)
  (try simp only [Gg] at Di)
  (try simp only [Gg] at Dk)
  (try simp only [Gg] at Dn)
  (try simp only [Gg] at Cm)
  (try simp only [Gg] at Df)
  (try simp only [Gg] at Dh)
  (try simp only [Gg] at Cf)
  (try simp only [Gg] at Ci)
  (try simp only [Gg] at Cj)
  (try simp only [Gg] at Dc)
  (try simp only [Gg] at Cd)
  have Gh := (Kd.af Cf.out).1
  rw [Gh] at Cf
  (try simp only [Gh])
  (try simp only [Gh] at Cb)
  (try simp only [Gh] at Cc)
  (try simp only [Gh] at Ce)
  (try simp only [Gh] at Di)
  (try simp only [Gh] at Dk)
  (try simp only [Gh] at Dn)
  (try simp only [Gh] at Cm)
  (try simp only [Gh] at Df)
  (try simp only [Gh] at Dh)
  (try simp only [Gh] at Cn)
  (try simp only [Gh] at Ci)
  (try simp only [Gh] at Cj)
  (try simp only [Gh] at Dc)
  (try simp only [Gh] at Cd)
  have Gi := (Kd.af Ci.out).1
  rw [Gi] at Ci
  (try simp only [Gi])
  (try simp only [Gi] at Cb)
  (try simp only [Gi] at Cc)
  (try simp only [Gi] at Ce)
  (try simp only [Gi] at Di)
  (try simp only [Gi] at Dk)
  (try simp only [Gi] at Dn)
  (try simp only [Gi] at Cm)
  (try simp only [Gi] at Df)
  (try simp only [Gi] at Dh)
  (try simp only [Gi] at Cn)
  (try simp only [Gi] at Cf)
  (try simp only [Gi] at Cj)
  (try simp only [Gi] at Dc)
  (try simp only [Gi] at Cd)
  have Gj := (Kd.af Cj.out).1
  rw [Gj] at Cj
  (try simp only [Gj])
  (try simp only [Gj] at Cb)
  (try simp only [Gj] at Cc)
  (try simp only [Gj] at Ce)
  (try simp only [Gj] at Di)
  (try simp only [Gj] at Dk)
  (try simp only [Gj] at Dn)
  (try simp only [Gj] at Cm)
  (try simp only [Gj] at Df)
  (try simp only [Gj] at Dh)
  (try simp only [Gj] at Cn)
  (try simp only [Gj] at Cf)
  (try simp only [Gj] at Ci)
  (try simp only [Gj] at Dc)
  (try simp only [Gj] at Cd)
  have Gk := (Kd.af Dc.out).1
  rw [Gk] at Dc
  (try simp only [Gk])
  (try simp only [Gk] at Cb)
  (try simp only [Gk] at Cc)
  (try simp only [Gk] at Ce)
  (try simp only [Gk] at Di)
  (try simp only [Gk] at Dk)
  (try simp only [Gk] at Dn)
  (try simp only [Gk] at Cm)
  (try simp only [Gk] at Df)
  (try simp only [Gk] at Dh)
  (try simp only [Gk] at Cn)
  (try simp only [Gk] at Cf)
  (try simp only [Gk] at Ci)
  (try simp only [Gk] at Cj)
  (try simp only [Gk] at Cd)
  cases kq with
  | zero => exact absurd HA.out (by simp [laws_FnExactVmNamed.j0])
  | succ kj34 =>
   have H := HA.out
   clear HA
   simp only [laws_FnExactVmNamed.j0] at H
   replace H := i8 H; obtain ⟨rfl, H⟩ := H
   replace H := bi H; obtain ⟨⟨t629, t630⟩, Wc, H⟩ := H; dsimp only at H
   revert H; refine bj fun t631 Wh H => ?_
   revert H; refine i9 fun Ry H => ?_
   have Wi := decide_eq_false Ry
   clear Ry
   revert H; refine i0 fun Rl H => ?_
   have Wj := beq_iff_eq.mpr Rl
   have Wl := bne_eq_false_iff_eq.mpr Rl
   clear Rl
   replace H := bi H; obtain ⟨⟨t632, t633, t634, t637, t640, t643, t646, t649⟩, Rz, H⟩ := H; dsimp only at H
   replace H := bi H; obtain ⟨⟨t652, t655, t656, t657, t658⟩, Rm, H⟩ := H; dsimp only at H
   replace H := bi H; obtain ⟨⟨t659, t662, t663, t664, t665⟩, Qj, H⟩ := H; dsimp only at H
   revert H; refine bj fun t667 Wn H => ?_
   replace H := jz H; obtain ⟨rfl, H⟩ := H
   revert H; refine bj fun t668 Wp H => ?_
   revert H; refine i9 fun Sa H => ?_
   have Wq := decide_eq_false Sa
   clear Sa
   revert H; refine i0 fun Rn H => ?_
   have Ws := beq_iff_eq.mpr Rn
   have Wt := bne_eq_false_iff_eq.mpr Rn
   clear Rn
   obtain rfl := Option.some.inj H
   have Wu := Mv.out
   have Wv := Jz.out
   have Wx := My.out
   have Wy := Ka.out
   have Wz := Na.out
   have Xa := Kb.out
   have Xb := Nb.out
   have Xc := Ke.out
   have Xd := Nc.out
   have Xe := Kf.out
   have Cb4 := dG Dn.out
   try go_wp2_with (first | ((with_reducible refine c_ 15 ?_); refine gc 15 (some 66) Tryz.func15 (dX.calls _ (fun k_ => some k_ = (.slice Jp t581.length Jo : Value).ownBlock) _ _ _ _ _ _ _ _ _ w _ ?Ec ?Ed Wc.out) ?_; (case Ec => repeat (first | (with_reducible first | exact HB.out | apply aZ | apply aJ | apply bg | refine bJ ?_ Oo.out | refine bJ ?_ Ot.out | refine bJ ?_ Kp.out | refine bJ ?_ Qb.out | refine bJ ?_ Qc.out | refine bJ ?_ Qd.out) | exact HB.out)); (case Ed => exact Kd.fq rfl Cd.out); rintro e w150 ⟨rfl, Qr, hb, hkp⟩; refine ⟨_, rfl, ?_⟩; replace Cm := kbo0 (fun k_ => some k_ ≠ (.slice Jp t581.length Jo : Value).ownBlock) Cm hkp; replace Df := ji (fun k_ => some k_ ≠ (.slice Jb t621.length Jc : Value).ownBlock) Df Cd hkp; replace Dh := ji (fun k_ => some k_ ≠ (.slice Iz t620.length Ja : Value).ownBlock) Dh Cd hkp; replace Cn := ji (fun k_ => True) Cn Cd hkp; replace Cf := ji (fun k_ => some k_ ≠ (.slice Ir t624.length Iu : Value).ownBlock ∧ some k_ ≠ (.slice Iw t625.length Ix : Value).ownBlock) Cf Cd hkp; replace Ci := ji (fun k_ => some k_ ≠ (.slice Ip t623.length Iq : Value).ownBlock ∧ some k_ ≠ (.slice Iw t625.length Ix : Value).ownBlock) Ci Cd hkp; replace Cj := ji (fun k_ => some k_ ≠ (.slice Ip t623.length Iq : Value).ownBlock ∧ some k_ ≠ (.slice Ir t624.length Iu : Value).ownBlock) Cj Cd hkp; replace Dc := ji (fun k_ => True) Dc Cd hkp; replace Cb := am (eX (bk Cb.out) hkp (fun hs_ => (fun e_ => (Kd.eG Cd.out Cb.out (by decide)) e_) hs_)); replace Cc := am (eX (bk Cc.out) hkp (fun hs_ => (fun e_ => (Kd.eG Cd.out Cc.out (by decide)) e_) hs_)); replace Ce := am (eX (bk Ce.out) hkp (fun hs_ => (fun e_ => (Kd.eG Cd.out Ce.out (by decide)) e_) hs_)); replace Di := am (eX (bk Di.out) hkp (fun hs_ => (fun e_ => (Kd.eG Cd.out Di.out (by decide)) e_) hs_)); replace Dk := am (eX (bk Dk.out) hkp (fun hs_ => (fun e_ => (Kd.eG Cd.out Dk.out (by decide)) e_) hs_)); replace Dn := am (eX (bk Dn.out) hkp (fun hs_ => (fun e_ => (Kd.eG Cd.out Dn.out (by decide)) e_) hs_)); replace Cd := am (Kd.iH rfl Qr (fun k_ e_ => Cd.out.1 k_ e_)); replace HB := am (hb); clear hb hkp Qr; have Cb5 := dG Dn.out) | ((with_reducible refine kT (f := 16) rfl ?_); refine pg (some 69) rfl rfl Tryz.func16 (by kernel_rfl) rfl #[.agg #[.slice Jp t630.length Jo, .int .i64 t584, .int .i64 t585, .int .i64 t586, .int .i64 t587], .int .i64 1] rfl (by (try simp only [List.map_toArray, List.map_cons, List.map_nil]); first | done | (rw [show t630.length = t581.length from (Kd.af Cd.out).1.symm] <;> rfl) | rfl | (simp only [List.length_drop, List.length_take]; rfl)) ?_; (with_reducible refine (dM.calls kj34 _ _ t630 t584 t585 t586 t587 1 t631 _ ?Ec ?Ed Wh.out).mono ?_); (case Ec => exact cc (Kd.af Cd.out).2.2); (case Ed => rw [show t630.length = t581.length from (Kd.af Cd.out).1.symm]; exact (Kd.af Cd.out).2.1); rintro e w152 ⟨rfl, hb⟩; refine ⟨_, rfl, ?_⟩; refine r6_ hb Cm Df Dh Cn Cf Ci ?_; clear Cm Df Dh Cn Cf Ci; intro Cm Df Dh Cn Cf Ci; refine r6_ hb Cj Dc Cd Cb Cc Ce ?_; clear Cj Dc Cd Cb Cc Ce; intro Cj Dc Cd Cb Cc Ce; refine r3_ hb Di Dk Dn ?_; clear Di Dk Dn; intro Di Dk Dn; replace HB := ho hb; clear hb))
   replace Cm := am (Kd.dx Cm.out); replace Df := am (Kd.dx Df.out); replace Dh := am (Kd.dx Dh.out); replace Cn := am (Kd.dx Cn.out); replace Cf := am (Kd.dx Cf.out); replace Ci := am (Kd.dx Ci.out); replace Cj := am (Kd.dx Cj.out); replace Dc := am (Kd.dx Dc.out); replace Cd := am (Kd.dx Cd.out); replace Cb := am (bB Cb.out); replace Cc := am (bB Cc.out); replace Ce := am (bB Ce.out); replace Di := am (bB Di.out); replace Dk := am (bB Dk.out); replace Dn := am (bB Dn.out); replace HB := am (bg HB.out)
   refine eH (n := 7) (S := Sb8b5 Eu (.string a0_0) (.int .i64 a0_1) (.slice A0_2 l0_2.length c0_2) (.slice A0_3 l0_3.length c0_3) (.slice A0_4 l0_4.length c0_4) (.slice A0_5 l0_5.length c0_5) (.slice A0_6 l0_6.length c0_6) (.slice A0_7 l0_7.length c0_7) Gs (.slice A1_0 l1_0.length c1_0) (.int .i64 a1_1) (.int .i64 a1_2) (.int .i64 a1_3) (.int .i64 a1_4)) (ds := []) #[F_, F_, F_, F_, F_, F_, F_] (by kernel_rfl) rfl rfl (fJ Cb.out Cc.out) (fun hHeld => ?_)
   generalize w152.drew = w153 at Cm Df Dh Cn Cf Ci Cj Dc Cd Cb Cc Ce Di Dk Dn HB hHeld ⊢
   refine tv13 0 75 hHeld ?_
   refine tv13 2 77 hHeld ?_
   refine join_ (σ := Value × Value × Value × Value × Value × Value × Value × Value × Nat) 1 #[T_, T_, T_, T_, T_, T_, F_] (fun s_ => [(76, .agg #[.string t632, .int .i64 t633, s_.1, s_.2.1, s_.2.2.1, s_.2.2.2.1, s_.2.2.2.2.1, s_.2.2.2.2.2.1]), (78, .agg #[s_.2.2.2.2.2.2.1, .int .i64 t655, .int .i64 t656, .int .i64 t657, .int .i64 t658]), (79, .agg #[s_.2.2.2.2.2.2.2.1, .int .i64 t662, .int .i64 t663, .int .i64 t664, .int .i64 t665]), (13, .pointer (some ⟨s_.2.2.2.2.2.2.2.2, 0, none⟩))]) (fun s_ w' => (w'.cell? ⟨Eu, 0, none⟩ = some (.string a0_0) ∧ w'.cell? ⟨Eu, 1, none⟩ = some (.int .i64 a0_1) ∧ w'.cell? ⟨Eu, 2, none⟩ = some (.slice A0_2 l0_2.length c0_2) ∧ w'.cell? ⟨Eu, 3, none⟩ = some (.slice A0_3 l0_3.length c0_3) ∧ w'.cell? ⟨Eu, 4, none⟩ = some (.slice A0_4 l0_4.length c0_4) ∧ w'.cell? ⟨Eu, 5, none⟩ = some (.slice A0_5 l0_5.length c0_5) ∧ w'.cell? ⟨Eu, 6, none⟩ = some (.slice A0_6 l0_6.length c0_6) ∧ w'.cell? ⟨Eu, 7, none⟩ = some (.slice A0_7 l0_7.length c0_7) ∧ w'.cell? ⟨Gs, 0, none⟩ = some (.slice A1_0 l1_0.length c1_0) ∧ w'.cell? ⟨Gs, 1, none⟩ = some (.int .i64 a1_1) ∧ w'.cell? ⟨Gs, 2, none⟩ = some (.int .i64 a1_2) ∧ w'.cell? ⟨Gs, 3, none⟩ = some (.int .i64 a1_3) ∧ w'.cell? ⟨Gs, 4, none⟩ = some (.int .i64 a1_4)) ∧ (Kd.R Kd.string 9 w' w.heap.size (fun k_ => some k_ ≠ (s_.2.1 : Value).ownBlock ∧ some k_ ≠ (.slice Iz t620.length Ja : Value).ownBlock ∧ some k_ ≠ (.slice Jb t621.length Jc : Value).ownBlock) s_.1 t634) ∧ (Kd.R Kd.string 9 w' w.heap.size (fun k_ => some k_ ≠ (s_.1 : Value).ownBlock ∧ some k_ ≠ (.slice Iz t620.length Ja : Value).ownBlock ∧ some k_ ≠ (.slice Jb t621.length Jc : Value).ownBlock) s_.2.1 t637) ∧ (Kd.R k83 83 w' w.heap.size (fun k_ => some k_ ≠ (.slice Ju t622.length Jv : Value).ownBlock) s_.2.2.1 t640) ∧ (Kd.R k88 88 w' w.heap.size (fun k_ => some k_ ≠ (s_.2.2.2.2.1 : Value).ownBlock ∧ some k_ ≠ (s_.2.2.2.2.2.1 : Value).ownBlock ∧ some k_ ≠ (.slice Ip t623.length Iq : Value).ownBlock ∧ some k_ ≠ (.slice Ir t624.length Iu : Value).ownBlock ∧ some k_ ≠ (.slice Iw t625.length Ix : Value).ownBlock) s_.2.2.2.1 t643) ∧ (Kd.R k88 88 w' w.heap.size (fun k_ => some k_ ≠ (s_.2.2.2.1 : Value).ownBlock ∧ some k_ ≠ (s_.2.2.2.2.2.1 : Value).ownBlock ∧ some k_ ≠ (.slice Ip t623.length Iq : Value).ownBlock ∧ some k_ ≠ (.slice Ir t624.length Iu : Value).ownBlock ∧ some k_ ≠ (.slice Iw t625.length Ix : Value).ownBlock) s_.2.2.2.2.1 t646) ∧ (Kd.R k88 88 w' w.heap.size (fun k_ => some k_ ≠ (s_.2.2.2.1 : Value).ownBlock ∧ some k_ ≠ (s_.2.2.2.2.1 : Value).ownBlock ∧ some k_ ≠ (.slice Ip t623.length Iq : Value).ownBlock ∧ some k_ ≠ (.slice Ir t624.length Iu : Value).ownBlock ∧ some k_ ≠ (.slice Iw t625.length Ix : Value).ownBlock) s_.2.2.2.2.2.1 t649) ∧ (Kd.R k58 58 w' w.heap.size (fun k_ => some k_ ≠ (.slice Jx t627.length Jy : Value).ownBlock) s_.2.2.2.2.2.2.1 t652) ∧ (Kd.R k60 60 w' w.heap.size (fun k_ => some k_ ≠ (.slice Jq t544.length Jn : Value).ownBlock ∧ some k_ ≠ (.slice Jp t581.length Jo : Value).ownBlock) s_.2.2.2.2.2.2.2.1 t659) ∧ (Kd.R k60 60 w' w.heap.size (fun k_ => some k_ ≠ (s_.2.2.2.2.2.2.2.1 : Value).ownBlock ∧ some k_ ≠ (.slice Jp t581.length Jo : Value).ownBlock) (.slice Jq t544.length Jn) t544) ∧ (Kd.R Kd.string 9 w' w.heap.size (fun k_ => some k_ ≠ (s_.1 : Value).ownBlock ∧ some k_ ≠ (s_.2.1 : Value).ownBlock ∧ some k_ ≠ (.slice Jb t621.length Jc : Value).ownBlock) (.slice Iz t620.length Ja) t620) ∧ (Kd.R Kd.string 9 w' w.heap.size (fun k_ => some k_ ≠ (s_.1 : Value).ownBlock ∧ some k_ ≠ (s_.2.1 : Value).ownBlock ∧ some k_ ≠ (.slice Iz t620.length Ja : Value).ownBlock) (.slice Jb t621.length Jc) t621) ∧ (Kd.R k83 83 w' w.heap.size (fun k_ => some k_ ≠ (s_.2.2.1 : Value).ownBlock) (.slice Ju t622.length Jv) t622) ∧ (Kd.R k88 88 w' w.heap.size (fun k_ => some k_ ≠ (s_.2.2.2.1 : Value).ownBlock ∧ some k_ ≠ (s_.2.2.2.2.1 : Value).ownBlock ∧ some k_ ≠ (s_.2.2.2.2.2.1 : Value).ownBlock ∧ some k_ ≠ (.slice Ir t624.length Iu : Value).ownBlock ∧ some k_ ≠ (.slice Iw t625.length Ix : Value).ownBlock) (.slice Ip t623.length Iq) t623) ∧ (Kd.R k88 88 w' w.heap.size (fun k_ => some k_ ≠ (s_.2.2.2.1 : Value).ownBlock ∧ some k_ ≠ (s_.2.2.2.2.1 : Value).ownBlock ∧ some k_ ≠ (s_.2.2.2.2.2.1 : Value).ownBlock ∧ some k_ ≠ (.slice Ip t623.length Iq : Value).ownBlock ∧ some k_ ≠ (.slice Iw t625.length Ix : Value).ownBlock) (.slice Ir t624.length Iu) t624) ∧ (Kd.R k88 88 w' w.heap.size (fun k_ => some k_ ≠ (s_.2.2.2.1 : Value).ownBlock ∧ some k_ ≠ (s_.2.2.2.2.1 : Value).ownBlock ∧ some k_ ≠ (s_.2.2.2.2.2.1 : Value).ownBlock ∧ some k_ ≠ (.slice Ip t623.length Iq : Value).ownBlock ∧ some k_ ≠ (.slice Ir t624.length Iu : Value).ownBlock) (.slice Iw t625.length Ix) t625) ∧ (Kd.R k58 58 w' w.heap.size (fun k_ => some k_ ≠ (s_.2.2.2.2.2.2.1 : Value).ownBlock) (.slice Jx t627.length Jy) t627) ∧ (Kd.R k60 60 w' w.heap.size (fun k_ => some k_ ≠ (s_.2.2.2.2.2.2.2.1 : Value).ownBlock ∧ some k_ ≠ (.slice Jq t544.length Jn : Value).ownBlock) (.slice Jp t581.length Jo) t630) ∧ (w'.heap[Eu]? = some (.cells #[.string a0_0, .int .i64 a0_1, .slice A0_2 l0_2.length c0_2, .slice A0_3 l0_3.length c0_3, .slice A0_4 l0_4.length c0_4, .slice A0_5 l0_5.length c0_5, .slice A0_6 l0_6.length c0_6, .slice A0_7 l0_7.length c0_7] 26 (0, 0))) ∧ (w'.heap[Gs]? = some (.cells #[.slice A1_0 l1_0.length c1_0, .int .i64 a1_1, .int .i64 a1_2, .int .i64 a1_3, .int .i64 a1_4] 29 (0, 0))) ∧ (w'.heap[Dw]? = some (.cells #[.slice Jq t544.length Jn, .int .i64 t547, .int .i64 t548, .int .i64 t549, .int .i64 t550] 34 (0, 0))) ∧ (w'.heap[Js]? = some (.cells #[.string t552, .int .i64 t553, .slice Iz t620.length Ja, .slice Jb t621.length Jc, .slice Ju t622.length Jv, .slice Ip t623.length Iq, .slice Ir t624.length Iu, .slice Iw t625.length Ix] 39 (0, 0))) ∧ (w'.heap[Jl]? = some (.cells #[.slice Jx t627.length Jy, .int .i64 t576, .int .i64 t577, .int .i64 t578, .int .i64 t579] 43 (0, 0))) ∧ (w'.heap[La]? = some (.cells #[.slice Jp t581.length Jo, .int .i64 t584, .int .i64 t585, .int .i64 t586, .int .i64 t587] 34 (0, 0))) ∧ (w'.heap[s_.2.2.2.2.2.2.2.2]? = some (.cells #[.slice none 0 0, .int .i64 0, .int .i64 0, .int .i64 0, .int .i64 0] 34 (0, 0))) ∧ (w.heap.size ≤ s_.2.2.2.2.2.2.2.2) ∧ (w.heap.size ≤ s_.2.2.2.2.2.2.2.2) ∧ (Eu ≠ s_.2.2.2.2.2.2.2.2) ∧ (s_.2.2.2.2.2.2.2.2 ≠ Eu) ∧ (Gs ≠ s_.2.2.2.2.2.2.2.2) ∧ (s_.2.2.2.2.2.2.2.2 ≠ Gs) ∧ (Dw ≠ s_.2.2.2.2.2.2.2.2) ∧ (s_.2.2.2.2.2.2.2.2 ≠ Dw) ∧ (Js ≠ s_.2.2.2.2.2.2.2.2) ∧ (s_.2.2.2.2.2.2.2.2 ≠ Js) ∧ (Jl ≠ s_.2.2.2.2.2.2.2.2) ∧ (s_.2.2.2.2.2.2.2.2 ≠ Jl) ∧ (La ≠ s_.2.2.2.2.2.2.2.2) ∧ (s_.2.2.2.2.2.2.2.2 ≠ La) ∧ (Below w.heap.size w w')) ?_ ?_
   rotate_left
   ·intro hCont
    refine sV (i := 1) (j := 5) (Ni := some 76) (Nj := some 13) #[T_, T_, T_, F_, F_, F_, F_] #[T_, F_, T_, F_, F_, T_, F_] rfl rfl rfl rfl (by kernel_rfl) (by decide) (by decide) (fun K hK => ?_) (fun K hK => ?_)
    ·skip
     refine gk Tryz.func7 (dE.calls _ _ _ _ _ _ _ _ _ _ _ _ _ _ _ _ _ _ _ _ _ _ _ _ _ _ _ _ _ _ ?Ec ?Ed ?Gp ?Gq ?Gy ?Gz ?Ia ?Ib ?Ic ?Ew ?Ey ?Ez Rz.out) ?_
     (case Ec => exact cb Lh.out)
     (case Ed => exact Lj.out)
     (case Gp => exact cb Ll.out)
     (case Gq => exact Lm.out)
     (case Gy => exact cb Ln.out)
     (case Gz => exact Lp.out)
     (case Ia => exact cb Lq.out)
     (case Ib => exact Lr.out)
     (case Ic => exact cb Ls.out)
     (case Ew => exact Lu.out)
     (case Ey => exact cb Ly.out)
     (case Ez => exact Ma.out)
     rintro e w154 ⟨v635, v638, v641, v644, v647, v650, rfl, ho0, ho1, ho2, ho3, ho4, ho5, hb⟩
     refine ⟨_, rfl, ?_⟩
     refine r3_ hb Cm Dc Cd ?_; clear Cm Dc Cd; intro Cm Dc Cd; have Gm := am (Kd.bz (Kd.bW (Kd.bW ho0 (Kd.ek (kr Df.out))) (Kd.ek (kr Dh.out))) (az bl)); have Gn := am (Kd.bz (Kd.bW (Kd.bW ho1 (Kd.ek (kr Df.out))) (Kd.ek (kr Dh.out))) (az bl)); replace Df := am (Kd.ax (Kd.dF (Kd.dF (Kd.ik (kr Df.out) hb) (Kd.bO ho0)) (Kd.bO ho1)) (fun _ h_ => h_.1)); replace Dh := am (Kd.ax (Kd.dF (Kd.dF (Kd.ik (kr Dh.out) hb) (Kd.bO ho0)) (Kd.bO ho1)) (fun _ h_ => h_.1)); have Eo := am (Kd.bz (Kd.bW ho2 (Kd.ek (kr Cn.out))) (az bl)); replace Cn := am (Kd.eY (kr Cn.out) (Kd.bO ho2) hb); have Ep := am (Kd.bz (Kd.bW (Kd.bW (Kd.bW ho3 (Kd.ek (kr Cf.out))) (Kd.ek (kr Ci.out))) (Kd.ek (kr Cj.out))) (az bl)); have Es := am (Kd.bz (Kd.bW (Kd.bW (Kd.bW ho4 (Kd.ek (kr Cf.out))) (Kd.ek (kr Ci.out))) (Kd.ek (kr Cj.out))) (az bl)); have Et := am (Kd.bz (Kd.bW (Kd.bW (Kd.bW ho5 (Kd.ek (kr Cf.out))) (Kd.ek (kr Ci.out))) (Kd.ek (kr Cj.out))) (az bl)); replace Cf := am (Kd.ax (Kd.dF (Kd.dF (Kd.dF (Kd.ik (kr Cf.out) hb) (Kd.bO ho3)) (Kd.bO ho4)) (Kd.bO ho5)) (fun _ h_ => h_.1)); replace Ci := am (Kd.ax (Kd.dF (Kd.dF (Kd.dF (Kd.ik (kr Ci.out) hb) (Kd.bO ho3)) (Kd.bO ho4)) (Kd.bO ho5)) (fun _ h_ => h_.1)); replace Cj := am (Kd.ax (Kd.dF (Kd.dF (Kd.dF (Kd.ik (kr Cj.out) hb) (Kd.bO ho3)) (Kd.bO ho4)) (Kd.bO ho5)) (fun _ h_ => h_.1)); refine r6_ hb Cb Cc Ce Di Dk Dn ?_; clear Cb Cc Ce Di Dk Dn; intro Cb Cc Ce Di Dk Dn; replace HB := ho hb
     refine hK.out _ _ (fJ Cb.out Cc.out) (fun hHeld => ?_)
     clear hK K
     refine dn (a' := ?_) ?_ ?_
     rotate_left
     ·show Act.put _ (some 76) _ = _
      simp only [Act.put, z1, z2, z3, bu, bv]
      rfl
     refine sV (i := 3) (j := 5) (Ni := some 78) (Nj := some 13) #[T_, T_, T_, T_, F_, F_, F_] #[T_, T_, T_, F_, F_, T_, F_] rfl rfl rfl rfl (by kernel_rfl) (by decide) (by decide) (fun K hK => ?_) (fun K hK => ?_)
     ·skip
      refine gk Tryz.func8 (dI.calls _ _ _ _ _ _ _ _ _ _ _ _ _ _ ?Ec ?Ed Rm.out) ?_
      (case Ec => exact cb Ky.out)
      (case Ed => exact Kz.out)
      rintro e w155 ⟨v653, rfl, ho0, hb⟩
      refine ⟨_, rfl, ?_⟩
      refine r6_ hb Cm Df Dh Cn Cf Ci ?_; clear Cm Df Dh Cn Cf Ci; intro Cm Df Dh Cn Cf Ci; refine r6_ hb Cj Cd Gm Gn Eo Ep ?_; clear Cj Cd Gm Gn Eo Ep; intro Cj Cd Gm Gn Eo Ep; refine r2_ hb Es Et ?_; clear Es Et; intro Es Et; have Gl := am (Kd.bz (Kd.bW ho0 (Kd.ek (kr Dc.out))) (az bl)); replace Dc := am (Kd.eY (kr Dc.out) (Kd.bO ho0) hb); refine r6_ hb Cb Cc Ce Di Dk Dn ?_; clear Cb Cc Ce Di Dk Dn; intro Cb Cc Ce Di Dk Dn; replace HB := ho hb
      obtain ⟨Qs, Qt, Qu⟩ := Kd.aI Gm.out
      (first | subst Qu | (injection Qu with f1_ f2_ f3_; have f4_ := f1_.symm; have f5_ := f3_.symm; clear f1_ f2_ f3_; subst f4_; subst f5_))
      obtain ⟨Kq, Kr, Ks⟩ := Kd.aI Gn.out
      (first | subst Ks | (injection Ks with f1_ f2_ f3_; have f4_ := f1_.symm; have f5_ := f3_.symm; clear f1_ f2_ f3_; subst f4_; subst f5_))
      obtain ⟨Lc, Ld, Kt⟩ := Kd.aI Eo.out
      (first | subst Kt | (injection Kt with f1_ f2_ f3_; have f4_ := f1_.symm; have f5_ := f3_.symm; clear f1_ f2_ f3_; subst f4_; subst f5_))
      obtain ⟨Oc, Od, Ku⟩ := Kd.aI Ep.out
      (first | subst Ku | (injection Ku with f1_ f2_ f3_; have f4_ := f1_.symm; have f5_ := f3_.symm; clear f1_ f2_ f3_; subst f4_; subst f5_))
      obtain ⟨Oe, Og, Kv⟩ := Kd.aI Es.out
      (first | subst Kv | (injection Kv with f1_ f2_ f3_; have f4_ := f1_.symm; have f5_ := f3_.symm; clear f1_ f2_ f3_; subst f4_; subst f5_))
      obtain ⟨Oh, Oi, Kw⟩ := Kd.aI Et.out
      (first | subst Kw | (injection Kw with f1_ f2_ f3_; have f4_ := f1_.symm; have f5_ := f3_.symm; clear f1_ f2_ f3_; subst f4_; subst f5_))
      obtain ⟨Oj, Ol, Kx⟩ := Kd.aI Gl.out
      (first | subst Kx | (injection Kx with f1_ f2_ f3_; have f4_ := f1_.symm; have f5_ := f3_.symm; clear f1_ f2_ f3_; subst f4_; subst f5_))
      refine hK.out _ _ (fJ Cb.out Cc.out) (fun hHeld => ?_)
      clear hK K
      refine dn (a' := ?_) ?_ ?_
      rotate_left
      ·show Act.put _ (some 78) _ = _
       simp only [Act.put, z1, z2, z3, bu, bv]
       rfl
      refine sV (i := 4) (j := 5) (Ni := some 79) (Nj := some 13) #[T_, T_, T_, T_, T_, F_, F_] #[T_, T_, T_, T_, F_, T_, F_] rfl rfl rfl rfl (by kernel_rfl) (by decide) (by decide) (fun K hK => ?_) (fun K hK => ?_)
      ·skip
       refine gk Tryz.func9 (aY.calls _ _ _ (fun k_ => some k_ = (.slice Qs t634.length Qt : Value).ownBlock) _ _ _ (fun k_ => some k_ = (.slice Kq t637.length Kr : Value).ownBlock) _ _ _ _ _ _ _ _ _ _ _ _ _ _ _ _ _ _ _ _ _ _ _ _ _ _ _ _ ?Ec ?Ed ?Gp ?Gq ?Gy ?Gz ?Ia ?Ib ?Ic ?Ew ?Ey ?Ez ?Iy Qj.out) ?_
       (case Ec => exact Kd.R_V (Kd.fq rfl (Kd.aG (Kd.aG (Kd.aG (Kd.aG (Kd.aG (Kd.aG (Kd.aC (Kd.aC (Kd.aC (Kd.aC (Kd.aC (Kd.aC (Kd.aC (Kd.aC (Kd.aC (Kd.aC (Kd.aC (Kd.aC (Gm.out) (Kd.aH Cm.out) (by decide)) (Kd.aH Cn.out) (by decide)) (Kd.aH Cf.out) (by decide)) (Kd.aH Ci.out) (by decide)) (Kd.aH Cj.out) (by decide)) (Kd.aH Dc.out) (by decide)) (Kd.aH Cd.out) (by decide)) (Kd.aH Eo.out) (by decide)) (Kd.aH Ep.out) (by decide)) (Kd.aH Es.out) (by decide)) (Kd.aH Et.out) (by decide)) (Kd.aH Gl.out) (by decide)) Cb.out (by decide)) Cc.out (by decide)) Ce.out (by decide)) Di.out (by decide)) Dk.out (by decide)) Dn.out (by decide))))
       (case Ed => exact Kd.R_V (Kd.fq rfl (Kd.aG (Kd.aG (Kd.aG (Kd.aG (Kd.aG (Kd.aG (Kd.aC (Kd.aC (Kd.aC (Kd.aC (Kd.aC (Kd.aC (Kd.aC (Kd.aC (Kd.aC (Kd.aC (Kd.aC (Kd.aC (Gn.out) (Kd.aH Cm.out) (by decide)) (Kd.aH Cn.out) (by decide)) (Kd.aH Cf.out) (by decide)) (Kd.aH Ci.out) (by decide)) (Kd.aH Cj.out) (by decide)) (Kd.aH Dc.out) (by decide)) (Kd.aH Cd.out) (by decide)) (Kd.aH Eo.out) (by decide)) (Kd.aH Ep.out) (by decide)) (Kd.aH Es.out) (by decide)) (Kd.aH Et.out) (by decide)) (Kd.aH Gl.out) (by decide)) Cb.out (by decide)) Cc.out (by decide)) Ce.out (by decide)) Di.out (by decide)) Dk.out (by decide)) Dn.out (by decide))))
       (case Gp => exact cc (Kd.af Eo.out).2.2)
       (case Gq => exact (Kd.af Eo.out).2.1)
       (case Gy => exact cc (Kd.af Ep.out).2.2)
       (case Gz => exact (Kd.af Ep.out).2.1)
       (case Ia => exact cc (Kd.af Es.out).2.2)
       (case Ib => exact (Kd.af Es.out).2.1)
       (case Ic => exact cc (Kd.af Et.out).2.2)
       (case Ew => exact (Kd.af Et.out).2.1)
       (case Ey => exact cc (Kd.af Gl.out).2.2)
       (case Ez => exact (Kd.af Gl.out).2.1)
       (case Iy => exact Sh.below HSH.out bl)
       rintro e w163 ⟨v660, rfl, ho0, hb⟩
       refine ⟨_, rfl, ?_⟩
       refine r6_ hb Df Dh Cn Cf Ci Cj ?_; clear Df Dh Cn Cf Ci Cj; intro Df Dh Cn Cf Ci Cj; refine r6_ hb Dc Gm Gn Eo Ep Es ?_; clear Dc Gm Gn Eo Ep Es; intro Dc Gm Gn Eo Ep Es; refine r2_ hb Et Gl ?_; clear Et Gl; intro Et Gl; have Jk := am (Kd.bz (Kd.bW (Kd.bW (Kd.ax (ok' := fun k_ => True) ho0 (fun _ hk_ => trivial)) (Kd.ek (kr Cm.out))) (Kd.ek (kr Cd.out))) (az bl)); replace Cm := am (Kd.eY (kr Cm.out) (Kd.bO ho0) hb); replace Cd := am (Kd.eY (kr Cd.out) (Kd.bO ho0) hb); refine r6_ hb Cb Cc Ce Di Dk Dn ?_; clear Cb Cc Ce Di Dk Dn; intro Cb Cc Ce Di Dk Dn; replace HB := ho hb
       refine hK.out _ _ (fJ Cb.out Cc.out) (fun hHeld => ?_)
       clear hK K
       refine dn (a' := ?_) ?_ ?_
       rotate_left
       ·show Act.put _ (some 79) _ = _
        simp only [Act.put, z1, z2, z3, bu, bv]
        rfl
       refine ov 5 13 (fun K hK => ?_)
       refine jv ?hg (N := 13) ?hd (cs := #[.slice none 0 0, .int .i64 0, .int .i64 0, .int .i64 0, .int .i64 0]) (t := 34) ?hr ?_; (case hd => rfl); (case hg => rfl); (case hr => first | (go_simp; done) | (go_simp; rfl))
       intro Dx hg w164 hbox hb
       refine r6_ hb Cm Df Dh Cn Cf Ci ?_; clear Cm Df Dh Cn Cf Ci; intro Cm Df Dh Cn Cf Ci; refine r6_ hb Cj Dc Cd Gm Gn Eo ?_; clear Cj Dc Cd Gm Gn Eo; intro Cj Dc Cd Gm Gn Eo; refine r5_ hb Ep Es Et Gl Jk ?_; clear Ep Es Et Gl Jk; intro Ep Es Et Gl Jk; have Em := am hbox; have Ko := am (bsz hg : w.heap.size ≤ Dx); have Ns := Ko; have Dl := no hg Cb; have Ii := am Dl.out.symm; replace Cb := bo Cb hb; have Dq := no hg Cc; have Ij := am Dq.out.symm; replace Cc := bo Cc hb; have Gu := no hg Ce; have Ik := am Gu.out.symm; replace Ce := bo Ce hb; have Gv := no hg Di; have Il := am Gv.out.symm; replace Di := bo Di hb; have Gw := no hg Dk; have Im := am Gw.out.symm; replace Dk := bo Dk hb; have Gx := no hg Dn; have Io := am Gx.out.symm; replace Dn := bo Dn hb; replace HB := ho hb
       clear hb hbox hg
       refine hK.out _ _ (fJ Cb.out Cc.out) (fun hHeld => ?_)
       clear hK K
       refine dn (a' := ?_) ?_ ?_
       rotate_left
       ·show Act.put _ (some 13) _ = _
        simp only [Act.put, z1, z2, z3, bu, bv]
        rfl
       exact dn (by simp only [jg, Act.put, z1, z2, z3]) (hCont (.slice Qs t634.length Qt, .slice Kq t637.length Kr, .slice Lc t640.length Ld, .slice Oc t643.length Od, .slice Oe t646.length Og, .slice Oh t649.length Oi, .slice Oj t652.length Ol, v660, Dx) _ ⟨hHeld, (by exact Kd.ax (kr Gm.out) (fun _ hk => ⟨hk.1.1, ⟨hk.1.2, hk.2⟩⟩)), (by exact Kd.ax (kr Gn.out) (fun _ hk => ⟨hk.1.1, ⟨hk.1.2, hk.2⟩⟩)), (by exact Kd.ax (kr Eo.out) (fun _ hk => hk.2)), (by exact Kd.ax (kr Ep.out) (fun _ hk => ⟨hk.1.1.1.1, ⟨hk.1.1.1.2, ⟨hk.1.1.2, ⟨hk.1.2, hk.2⟩⟩⟩⟩)), (by exact Kd.ax (kr Es.out) (fun _ hk => ⟨hk.1.1.1.1, ⟨hk.1.1.1.2, ⟨hk.1.1.2, ⟨hk.1.2, hk.2⟩⟩⟩⟩)), (by exact Kd.ax (kr Et.out) (fun _ hk => ⟨hk.1.1.1.1, ⟨hk.1.1.1.2, ⟨hk.1.1.2, ⟨hk.1.2, hk.2⟩⟩⟩⟩)), (by exact Kd.ax (kr Gl.out) (fun _ hk => hk.2)), (by exact Kd.ax (kr Jk.out) (fun _ hk => ⟨hk.1.2, hk.2⟩)), (by exact Kd.ax (kr Cm.out) (fun _ hk => ⟨hk.2, hk.1⟩)), (by exact Kd.ax (kr Df.out) (fun _ hk => ⟨hk.1.2, ⟨hk.2, hk.1.1⟩⟩)), (by exact Kd.ax (kr Dh.out) (fun _ hk => ⟨hk.1.2, ⟨hk.2, hk.1.1⟩⟩)), (by exact Kd.ax (kr Cn.out) (fun _ hk => hk.2)), (by exact Kd.ax (kr Cf.out) (fun _ hk => ⟨hk.1.1.2, ⟨hk.1.2, ⟨hk.2, ⟨hk.1.1.1.1, hk.1.1.1.2⟩⟩⟩⟩)), (by exact Kd.ax (kr Ci.out) (fun _ hk => ⟨hk.1.1.2, ⟨hk.1.2, ⟨hk.2, ⟨hk.1.1.1.1, hk.1.1.1.2⟩⟩⟩⟩)), (by exact Kd.ax (kr Cj.out) (fun _ hk => ⟨hk.1.1.2, ⟨hk.1.2, ⟨hk.2, ⟨hk.1.1.1.1, hk.1.1.1.2⟩⟩⟩⟩)), (by exact Kd.ax (kr Dc.out) (fun _ hk => hk.2)), (by exact Kd.ax (kr Cd.out) (fun _ hk => ⟨hk.2, hk.1⟩)), (bk Cb.out), (bk Cc.out), (bk Ce.out), (bk Di.out), (bk Dk.out), (bk Dn.out), (bk Em.out), Ko.out, Ns.out, Dl.out, Ii.out, Dq.out, Ij.out, Gu.out, Ik.out, Gv.out, Il.out, Gw.out, Im.out, Gx.out, Io.out, bl⟩)
      refine jv ?hg (N := 13) ?hd (cs := #[.slice none 0 0, .int .i64 0, .int .i64 0, .int .i64 0, .int .i64 0]) (t := 34) ?hr ?_; (case hd => rfl); (case hg => rfl); (case hr => first | (go_simp; done) | (go_simp; rfl))
      intro Dx hg w156 hbox hb
      refine r6_ hb Cm Df Dh Cn Cf Ci ?_; clear Cm Df Dh Cn Cf Ci; intro Cm Df Dh Cn Cf Ci; refine r6_ hb Cj Dc Cd Gm Gn Eo ?_; clear Cj Dc Cd Gm Gn Eo; intro Cj Dc Cd Gm Gn Eo; refine r4_ hb Ep Es Et Gl ?_; clear Ep Es Et Gl; intro Ep Es Et Gl; have Em := am hbox; have Ko := am (bsz hg : w.heap.size ≤ Dx); have Ns := Ko; have Dl := no hg Cb; have Ii := am Dl.out.symm; replace Cb := bo Cb hb; have Dq := no hg Cc; have Ij := am Dq.out.symm; replace Cc := bo Cc hb; have Gu := no hg Ce; have Ik := am Gu.out.symm; replace Ce := bo Ce hb; have Gv := no hg Di; have Il := am Gv.out.symm; replace Di := bo Di hb; have Gw := no hg Dk; have Im := am Gw.out.symm; replace Dk := bo Dk hb; have Gx := no hg Dn; have Io := am Gx.out.symm; replace Dn := bo Dn hb; replace HB := ho hb
      clear hb hbox hg
      obtain ⟨Kq, Kr, Ks⟩ := Kd.aI Gm.out
      (first | subst Ks | (injection Ks with f1_ f2_ f3_; have f4_ := f1_.symm; have f5_ := f3_.symm; clear f1_ f2_ f3_; subst f4_; subst f5_))
      obtain ⟨Lc, Ld, Kt⟩ := Kd.aI Gn.out
      (first | subst Kt | (injection Kt with f1_ f2_ f3_; have f4_ := f1_.symm; have f5_ := f3_.symm; clear f1_ f2_ f3_; subst f4_; subst f5_))
      obtain ⟨Oc, Od, Ku⟩ := Kd.aI Eo.out
      (first | subst Ku | (injection Ku with f1_ f2_ f3_; have f4_ := f1_.symm; have f5_ := f3_.symm; clear f1_ f2_ f3_; subst f4_; subst f5_))
      obtain ⟨Oe, Og, Kv⟩ := Kd.aI Ep.out
      (first | subst Kv | (injection Kv with f1_ f2_ f3_; have f4_ := f1_.symm; have f5_ := f3_.symm; clear f1_ f2_ f3_; subst f4_; subst f5_))
      obtain ⟨Oh, Oi, Kw⟩ := Kd.aI Es.out
      (first | subst Kw | (injection Kw with f1_ f2_ f3_; have f4_ := f1_.symm; have f5_ := f3_.symm; clear f1_ f2_ f3_; subst f4_; subst f5_))
      obtain ⟨Oj, Ol, Kx⟩ := Kd.aI Et.out
      (first | subst Kx | (injection Kx with f1_ f2_ f3_; have f4_ := f1_.symm; have f5_ := f3_.symm; clear f1_ f2_ f3_; subst f4_; subst f5_))
      obtain ⟨Ov, Ox, Nu⟩ := Kd.aI Gl.out
      (first | subst Nu | (injection Nu with f1_ f2_ f3_; have f4_ := f1_.symm; have f5_ := f3_.symm; clear f1_ f2_ f3_; subst f4_; subst f5_))
      refine hK.out _ _ (fJ Cb.out Cc.out) (fun hHeld => ?_)
      clear hK K
      refine dn (a' := ?_) ?_ ?_
      rotate_left
      ·show Act.put _ (some 13) _ = _
       simp only [Act.put, z1, z2, z3, bu, bv]
       rfl
      refine ov 4 79 (fun K hK => ?_)
      refine gk Tryz.func9 (aY.calls _ _ _ (fun k_ => some k_ = (.slice Kq t634.length Kr : Value).ownBlock) _ _ _ (fun k_ => some k_ = (.slice Lc t637.length Ld : Value).ownBlock) _ _ _ _ _ _ _ _ _ _ _ _ _ _ _ _ _ _ _ _ _ _ _ _ _ _ _ _ ?Ec ?Ed ?Gp ?Gq ?Gy ?Gz ?Ia ?Ib ?Ic ?Ew ?Ey ?Ez ?Iy Qj.out) ?_
      (case Ec => exact Kd.R_V (Kd.fq rfl (Kd.aG (Kd.aG (Kd.aG (Kd.aG (Kd.aG (Kd.aG (Kd.aG (Kd.aC (Kd.aC (Kd.aC (Kd.aC (Kd.aC (Kd.aC (Kd.aC (Kd.aC (Kd.aC (Kd.aC (Kd.aC (Kd.aC (Gm.out) (Kd.aH Cm.out) (by decide)) (Kd.aH Cn.out) (by decide)) (Kd.aH Cf.out) (by decide)) (Kd.aH Ci.out) (by decide)) (Kd.aH Cj.out) (by decide)) (Kd.aH Dc.out) (by decide)) (Kd.aH Cd.out) (by decide)) (Kd.aH Eo.out) (by decide)) (Kd.aH Ep.out) (by decide)) (Kd.aH Es.out) (by decide)) (Kd.aH Et.out) (by decide)) (Kd.aH Gl.out) (by decide)) Cb.out (by decide)) Cc.out (by decide)) Ce.out (by decide)) Di.out (by decide)) Dk.out (by decide)) Dn.out (by decide)) Em.out (by decide))))
      (case Ed => exact Kd.R_V (Kd.fq rfl (Kd.aG (Kd.aG (Kd.aG (Kd.aG (Kd.aG (Kd.aG (Kd.aG (Kd.aC (Kd.aC (Kd.aC (Kd.aC (Kd.aC (Kd.aC (Kd.aC (Kd.aC (Kd.aC (Kd.aC (Kd.aC (Kd.aC (Gn.out) (Kd.aH Cm.out) (by decide)) (Kd.aH Cn.out) (by decide)) (Kd.aH Cf.out) (by decide)) (Kd.aH Ci.out) (by decide)) (Kd.aH Cj.out) (by decide)) (Kd.aH Dc.out) (by decide)) (Kd.aH Cd.out) (by decide)) (Kd.aH Eo.out) (by decide)) (Kd.aH Ep.out) (by decide)) (Kd.aH Es.out) (by decide)) (Kd.aH Et.out) (by decide)) (Kd.aH Gl.out) (by decide)) Cb.out (by decide)) Cc.out (by decide)) Ce.out (by decide)) Di.out (by decide)) Dk.out (by decide)) Dn.out (by decide)) Em.out (by decide))))
      (case Gp => exact cc (Kd.af Eo.out).2.2)
      (case Gq => exact (Kd.af Eo.out).2.1)
      (case Gy => exact cc (Kd.af Ep.out).2.2)
      (case Gz => exact (Kd.af Ep.out).2.1)
      (case Ia => exact cc (Kd.af Es.out).2.2)
      (case Ib => exact (Kd.af Es.out).2.1)
      (case Ic => exact cc (Kd.af Et.out).2.2)
      (case Ew => exact (Kd.af Et.out).2.1)
      (case Ey => exact cc (Kd.af Gl.out).2.2)
      (case Ez => exact (Kd.af Gl.out).2.1)
      (case Iy => exact Sh.below HSH.out bl)
      rintro e w164 ⟨v660, rfl, ho0, hb⟩
      refine ⟨_, rfl, ?_⟩
      refine r6_ hb Df Dh Cn Cf Ci Cj ?_; clear Df Dh Cn Cf Ci Cj; intro Df Dh Cn Cf Ci Cj; refine r6_ hb Dc Gm Gn Eo Ep Es ?_; clear Dc Gm Gn Eo Ep Es; intro Dc Gm Gn Eo Ep Es; refine r2_ hb Et Gl ?_; clear Et Gl; intro Et Gl; have Jk := am (Kd.bz (Kd.bW (Kd.bW (Kd.ax (ok' := fun k_ => True) ho0 (fun _ hk_ => trivial)) (Kd.ek (kr Cm.out))) (Kd.ek (kr Cd.out))) (az bl)); replace Cm := am (Kd.eY (kr Cm.out) (Kd.bO ho0) hb); replace Cd := am (Kd.eY (kr Cd.out) (Kd.bO ho0) hb); refine r5_ hb Cb Cc Ce Di Dk ?_; clear Cb Cc Ce Di Dk; intro Cb Cc Ce Di Dk; refine r2_ hb Dn Em ?_; clear Dn Em; intro Dn Em; replace HB := ho hb
      refine hK.out _ _ (fJ Cb.out Cc.out) (fun hHeld => ?_)
      clear hK K
      refine dn (a' := ?_) ?_ ?_
      rotate_left
      ·show Act.put _ (some 79) _ = _
       simp only [Act.put, z1, z2, z3, bu, bv]
       rfl
      exact dn (by simp only [jg, Act.put, z1, z2, z3]) (hCont (.slice Kq t634.length Kr, .slice Lc t637.length Ld, .slice Oc t640.length Od, .slice Oe t643.length Og, .slice Oh t646.length Oi, .slice Oj t649.length Ol, .slice Ov t652.length Ox, v660, Dx) _ ⟨hHeld, (by exact Kd.ax (kr Gm.out) (fun _ hk => ⟨hk.1.1, ⟨hk.1.2, hk.2⟩⟩)), (by exact Kd.ax (kr Gn.out) (fun _ hk => ⟨hk.1.1, ⟨hk.1.2, hk.2⟩⟩)), (by exact Kd.ax (kr Eo.out) (fun _ hk => hk.2)), (by exact Kd.ax (kr Ep.out) (fun _ hk => ⟨hk.1.1.1.1, ⟨hk.1.1.1.2, ⟨hk.1.1.2, ⟨hk.1.2, hk.2⟩⟩⟩⟩)), (by exact Kd.ax (kr Es.out) (fun _ hk => ⟨hk.1.1.1.1, ⟨hk.1.1.1.2, ⟨hk.1.1.2, ⟨hk.1.2, hk.2⟩⟩⟩⟩)), (by exact Kd.ax (kr Et.out) (fun _ hk => ⟨hk.1.1.1.1, ⟨hk.1.1.1.2, ⟨hk.1.1.2, ⟨hk.1.2, hk.2⟩⟩⟩⟩)), (by exact Kd.ax (kr Gl.out) (fun _ hk => hk.2)), (by exact Kd.ax (kr Jk.out) (fun _ hk => ⟨hk.1.2, hk.2⟩)), (by exact Kd.ax (kr Cm.out) (fun _ hk => ⟨hk.2, hk.1⟩)), (by exact Kd.ax (kr Df.out) (fun _ hk => ⟨hk.1.2, ⟨hk.2, hk.1.1⟩⟩)), (by exact Kd.ax (kr Dh.out) (fun _ hk => ⟨hk.1.2, ⟨hk.2, hk.1.1⟩⟩)), (by exact Kd.ax (kr Cn.out) (fun _ hk => hk.2)), (by exact Kd.ax (kr Cf.out) (fun _ hk => ⟨hk.1.1.2, ⟨hk.1.2, ⟨hk.2, ⟨hk.1.1.1.1, hk.1.1.1.2⟩⟩⟩⟩)), (by exact Kd.ax (kr Ci.out) (fun _ hk => ⟨hk.1.1.2, ⟨hk.1.2, ⟨hk.2, ⟨hk.1.1.1.1, hk.1.1.1.2⟩⟩⟩⟩)), (by exact Kd.ax (kr Cj.out) (fun _ hk => ⟨hk.1.1.2, ⟨hk.1.2, ⟨hk.2, ⟨hk.1.1.1.1, hk.1.1.1.2⟩⟩⟩⟩)), (by exact Kd.ax (kr Dc.out) (fun _ hk => hk.2)), (by exact Kd.ax (kr Cd.out) (fun _ hk => ⟨hk.2, hk.1⟩)), (bk Cb.out), (bk Cc.out), (bk Ce.out), (bk Di.out), (bk Dk.out), (bk Dn.out), (bk Em.out), Ko.out, Ns.out, Dl.out, Ii.out, Dq.out, Ij.out, Gu.out, Ik.out, Gv.out, Il.out, Gw.out, Im.out, Gx.out, Io.out, bl⟩)
     refine jv ?hg (N := 13) ?hd (cs := #[.slice none 0 0, .int .i64 0, .int .i64 0, .int .i64 0, .int .i64 0]) (t := 34) ?hr ?_; (case hd => rfl); (case hg => rfl); (case hr => first | (go_simp; done) | (go_simp; rfl))
     intro Dx hg w155 hbox hb
     refine r6_ hb Cm Df Dh Cn Cf Ci ?_; clear Cm Df Dh Cn Cf Ci; intro Cm Df Dh Cn Cf Ci; refine r6_ hb Cj Dc Cd Gm Gn Eo ?_; clear Cj Dc Cd Gm Gn Eo; intro Cj Dc Cd Gm Gn Eo; refine r3_ hb Ep Es Et ?_; clear Ep Es Et; intro Ep Es Et; have Em := am hbox; have Ko := am (bsz hg : w.heap.size ≤ Dx); have Ns := Ko; have Dl := no hg Cb; have Ii := am Dl.out.symm; replace Cb := bo Cb hb; have Dq := no hg Cc; have Ij := am Dq.out.symm; replace Cc := bo Cc hb; have Gu := no hg Ce; have Ik := am Gu.out.symm; replace Ce := bo Ce hb; have Gv := no hg Di; have Il := am Gv.out.symm; replace Di := bo Di hb; have Gw := no hg Dk; have Im := am Gw.out.symm; replace Dk := bo Dk hb; have Gx := no hg Dn; have Io := am Gx.out.symm; replace Dn := bo Dn hb; replace HB := ho hb
     clear hb hbox hg
     refine hK.out _ _ (fJ Cb.out Cc.out) (fun hHeld => ?_)
     clear hK K
     refine dn (a' := ?_) ?_ ?_
     rotate_left
     ·show Act.put _ (some 13) _ = _
      simp only [Act.put, z1, z2, z3, bu, bv]
      rfl
     refine ov 3 78 (fun K hK => ?_)
     refine gk Tryz.func8 (dI.calls _ _ _ _ _ _ _ _ _ _ _ _ _ _ ?Ec ?Ed Rm.out) ?_
     (case Ec => exact cb Ky.out)
     (case Ed => exact Kz.out)
     rintro e w156 ⟨v653, rfl, ho0, hb⟩
     refine ⟨_, rfl, ?_⟩
     refine r6_ hb Cm Df Dh Cn Cf Ci ?_; clear Cm Df Dh Cn Cf Ci; intro Cm Df Dh Cn Cf Ci; refine r6_ hb Cj Cd Gm Gn Eo Ep ?_; clear Cj Cd Gm Gn Eo Ep; intro Cj Cd Gm Gn Eo Ep; refine r2_ hb Es Et ?_; clear Es Et; intro Es Et; have Gl := am (Kd.bz (Kd.bW ho0 (Kd.ek (kr Dc.out))) (az bl)); replace Dc := am (Kd.eY (kr Dc.out) (Kd.bO ho0) hb); refine r5_ hb Cb Cc Ce Di Dk ?_; clear Cb Cc Ce Di Dk; intro Cb Cc Ce Di Dk; refine r2_ hb Dn Em ?_; clear Dn Em; intro Dn Em; replace HB := ho hb
     obtain ⟨Kq, Kr, Ks⟩ := Kd.aI Gm.out
     (first | subst Ks | (injection Ks with f1_ f2_ f3_; have f4_ := f1_.symm; have f5_ := f3_.symm; clear f1_ f2_ f3_; subst f4_; subst f5_))
     obtain ⟨Lc, Ld, Kt⟩ := Kd.aI Gn.out
     (first | subst Kt | (injection Kt with f1_ f2_ f3_; have f4_ := f1_.symm; have f5_ := f3_.symm; clear f1_ f2_ f3_; subst f4_; subst f5_))
     obtain ⟨Oc, Od, Ku⟩ := Kd.aI Eo.out
     (first | subst Ku | (injection Ku with f1_ f2_ f3_; have f4_ := f1_.symm; have f5_ := f3_.symm; clear f1_ f2_ f3_; subst f4_; subst f5_))
     obtain ⟨Oe, Og, Kv⟩ := Kd.aI Ep.out
     (first | subst Kv | (injection Kv with f1_ f2_ f3_; have f4_ := f1_.symm; have f5_ := f3_.symm; clear f1_ f2_ f3_; subst f4_; subst f5_))
     obtain ⟨Oh, Oi, Kw⟩ := Kd.aI Es.out
     (first | subst Kw | (injection Kw with f1_ f2_ f3_; have f4_ := f1_.symm; have f5_ := f3_.symm; clear f1_ f2_ f3_; subst f4_; subst f5_))
     obtain ⟨Oj, Ol, Kx⟩ := Kd.aI Et.out
     (first | subst Kx | (injection Kx with f1_ f2_ f3_; have f4_ := f1_.symm; have f5_ := f3_.symm; clear f1_ f2_ f3_; subst f4_; subst f5_))
     obtain ⟨Ov, Ox, Nu⟩ := Kd.aI Gl.out
     (first | subst Nu | (injection Nu with f1_ f2_ f3_; have f4_ := f1_.symm; have f5_ := f3_.symm; clear f1_ f2_ f3_; subst f4_; subst f5_))
     refine hK.out _ _ (fJ Cb.out Cc.out) (fun hHeld => ?_)
     clear hK K
     refine dn (a' := ?_) ?_ ?_
     rotate_left
     ·show Act.put _ (some 78) _ = _
      simp only [Act.put, z1, z2, z3, bu, bv]
      rfl
     refine ov 4 79 (fun K hK => ?_)
     refine gk Tryz.func9 (aY.calls _ _ _ (fun k_ => some k_ = (.slice Kq t634.length Kr : Value).ownBlock) _ _ _ (fun k_ => some k_ = (.slice Lc t637.length Ld : Value).ownBlock) _ _ _ _ _ _ _ _ _ _ _ _ _ _ _ _ _ _ _ _ _ _ _ _ _ _ _ _ ?Ec ?Ed ?Gp ?Gq ?Gy ?Gz ?Ia ?Ib ?Ic ?Ew ?Ey ?Ez ?Iy Qj.out) ?_
     (case Ec => exact Kd.R_V (Kd.fq rfl (Kd.aG (Kd.aG (Kd.aG (Kd.aG (Kd.aG (Kd.aG (Kd.aG (Kd.aC (Kd.aC (Kd.aC (Kd.aC (Kd.aC (Kd.aC (Kd.aC (Kd.aC (Kd.aC (Kd.aC (Kd.aC (Kd.aC (Gm.out) (Kd.aH Cm.out) (by decide)) (Kd.aH Cn.out) (by decide)) (Kd.aH Cf.out) (by decide)) (Kd.aH Ci.out) (by decide)) (Kd.aH Cj.out) (by decide)) (Kd.aH Dc.out) (by decide)) (Kd.aH Cd.out) (by decide)) (Kd.aH Eo.out) (by decide)) (Kd.aH Ep.out) (by decide)) (Kd.aH Es.out) (by decide)) (Kd.aH Et.out) (by decide)) (Kd.aH Gl.out) (by decide)) Cb.out (by decide)) Cc.out (by decide)) Ce.out (by decide)) Di.out (by decide)) Dk.out (by decide)) Dn.out (by decide)) Em.out (by decide))))
     (case Ed => exact Kd.R_V (Kd.fq rfl (Kd.aG (Kd.aG (Kd.aG (Kd.aG (Kd.aG (Kd.aG (Kd.aG (Kd.aC (Kd.aC (Kd.aC (Kd.aC (Kd.aC (Kd.aC (Kd.aC (Kd.aC (Kd.aC (Kd.aC (Kd.aC (Kd.aC (Gn.out) (Kd.aH Cm.out) (by decide)) (Kd.aH Cn.out) (by decide)) (Kd.aH Cf.out) (by decide)) (Kd.aH Ci.out) (by decide)) (Kd.aH Cj.out) (by decide)) (Kd.aH Dc.out) (by decide)) (Kd.aH Cd.out) (by decide)) (Kd.aH Eo.out) (by decide)) (Kd.aH Ep.out) (by decide)) (Kd.aH Es.out) (by decide)) (Kd.aH Et.out) (by decide)) (Kd.aH Gl.out) (by decide)) Cb.out (by decide)) Cc.out (by decide)) Ce.out (by decide)) Di.out (by decide)) Dk.out (by decide)) Dn.out (by decide)) Em.out (by decide))))
     (case Gp => exact cc (Kd.af Eo.out).2.2)
     (case Gq => exact (Kd.af Eo.out).2.1)
     (case Gy => exact cc (Kd.af Ep.out).2.2)
     (case Gz => exact (Kd.af Ep.out).2.1)
     (case Ia => exact cc (Kd.af Es.out).2.2)
     (case Ib => exact (Kd.af Es.out).2.1)
     (case Ic => exact cc (Kd.af Et.out).2.2)
     (case Ew => exact (Kd.af Et.out).2.1)
     (case Ey => exact cc (Kd.af Gl.out).2.2)
     (case Ez => exact (Kd.af Gl.out).2.1)
     (case Iy => exact Sh.below HSH.out bl)
     rintro e w164 ⟨v660, rfl, ho0, hb⟩
     refine ⟨_, rfl, ?_⟩
     refine r6_ hb Df Dh Cn Cf Ci Cj ?_; clear Df Dh Cn Cf Ci Cj; intro Df Dh Cn Cf Ci Cj; refine r6_ hb Dc Gm Gn Eo Ep Es ?_; clear Dc Gm Gn Eo Ep Es; intro Dc Gm Gn Eo Ep Es; refine r2_ hb Et Gl ?_; clear Et Gl; intro Et Gl; have Jk := am (Kd.bz (Kd.bW (Kd.bW (Kd.ax (ok' := fun k_ => True) ho0 (fun _ hk_ => trivial)) (Kd.ek (kr Cm.out))) (Kd.ek (kr Cd.out))) (az bl)); replace Cm := am (Kd.eY (kr Cm.out) (Kd.bO ho0) hb); replace Cd := am (Kd.eY (kr Cd.out) (Kd.bO ho0) hb); refine r5_ hb Cb Cc Ce Di Dk ?_; clear Cb Cc Ce Di Dk; intro Cb Cc Ce Di Dk; refine r2_ hb Dn Em ?_; clear Dn Em; intro Dn Em; replace HB := ho hb
     refine hK.out _ _ (fJ Cb.out Cc.out) (fun hHeld => ?_)
     clear hK K
     refine dn (a' := ?_) ?_ ?_
     rotate_left
     ·show Act.put _ (some 79) _ = _
      simp only [Act.put, z1, z2, z3, bu, bv]
      rfl
     exact dn (by simp only [jg, Act.put, z1, z2, z3]) (hCont (.slice Kq t634.length Kr, .slice Lc t637.length Ld, .slice Oc t640.length Od, .slice Oe t643.length Og, .slice Oh t646.length Oi, .slice Oj t649.length Ol, .slice Ov t652.length Ox, v660, Dx) _ ⟨hHeld, (by exact Kd.ax (kr Gm.out) (fun _ hk => ⟨hk.1.1, ⟨hk.1.2, hk.2⟩⟩)), (by exact Kd.ax (kr Gn.out) (fun _ hk => ⟨hk.1.1, ⟨hk.1.2, hk.2⟩⟩)), (by exact Kd.ax (kr Eo.out) (fun _ hk => hk.2)), (by exact Kd.ax (kr Ep.out) (fun _ hk => ⟨hk.1.1.1.1, ⟨hk.1.1.1.2, ⟨hk.1.1.2, ⟨hk.1.2, hk.2⟩⟩⟩⟩)), (by exact Kd.ax (kr Es.out) (fun _ hk => ⟨hk.1.1.1.1, ⟨hk.1.1.1.2, ⟨hk.1.1.2, ⟨hk.1.2, hk.2⟩⟩⟩⟩)), (by exact Kd.ax (kr Et.out) (fun _ hk => ⟨hk.1.1.1.1, ⟨hk.1.1.1.2, ⟨hk.1.1.2, ⟨hk.1.2, hk.2⟩⟩⟩⟩)), (by exact Kd.ax (kr Gl.out) (fun _ hk => hk.2)), (by exact Kd.ax (kr Jk.out) (fun _ hk => ⟨hk.1.2, hk.2⟩)), (by exact Kd.ax (kr Cm.out) (fun _ hk => ⟨hk.2, hk.1⟩)), (by exact Kd.ax (kr Df.out) (fun _ hk => ⟨hk.1.2, ⟨hk.2, hk.1.1⟩⟩)), (by exact Kd.ax (kr Dh.out) (fun _ hk => ⟨hk.1.2, ⟨hk.2, hk.1.1⟩⟩)), (by exact Kd.ax (kr Cn.out) (fun _ hk => hk.2)), (by exact Kd.ax (kr Cf.out) (fun _ hk => ⟨hk.1.1.2, ⟨hk.1.2, ⟨hk.2, ⟨hk.1.1.1.1, hk.1.1.1.2⟩⟩⟩⟩)), (by exact Kd.ax (kr Ci.out) (fun _ hk => ⟨hk.1.1.2, ⟨hk.1.2, ⟨hk.2, ⟨hk.1.1.1.1, hk.1.1.1.2⟩⟩⟩⟩)), (by exact Kd.ax (kr Cj.out) (fun _ hk => ⟨hk.1.1.2, ⟨hk.1.2, ⟨hk.2, ⟨hk.1.1.1.1, hk.1.1.1.2⟩⟩⟩⟩)), (by exact Kd.ax (kr Dc.out) (fun _ hk => hk.2)), (by exact Kd.ax (kr Cd.out) (fun _ hk => ⟨hk.2, hk.1⟩)), (bk Cb.out), (bk Cc.out), (bk Ce.out), (bk Di.out), (bk Dk.out), (bk Dn.out), (bk Em.out), Ko.out, Ns.out, Dl.out, Ii.out, Dq.out, Ij.out, Gu.out, Ik.out, Gv.out, Il.out, Gw.out, Im.out, Gx.out, Io.out, bl⟩)
    refine jv ?hg (N := 13) ?hd (cs := #[.slice none 0 0, .int .i64 0, .int .i64 0, .int .i64 0, .int .i64 0]) (t := 34) ?hr ?_; (case hd => rfl); (case hg => rfl); (case hr => first | (go_simp; done) | (go_simp; rfl))
    intro Dx hg w154 hbox hb
    refine r6_ hb Cm Df Dh Cn Cf Ci ?_; clear Cm Df Dh Cn Cf Ci; intro Cm Df Dh Cn Cf Ci; refine r3_ hb Cj Dc Cd ?_; clear Cj Dc Cd; intro Cj Dc Cd; have Em := am hbox; have Ko := am (bsz hg : w.heap.size ≤ Dx); have Ns := Ko; have Dl := no hg Cb; have Ii := am Dl.out.symm; replace Cb := bo Cb hb; have Dq := no hg Cc; have Ij := am Dq.out.symm; replace Cc := bo Cc hb; have Gu := no hg Ce; have Ik := am Gu.out.symm; replace Ce := bo Ce hb; have Gv := no hg Di; have Il := am Gv.out.symm; replace Di := bo Di hb; have Gw := no hg Dk; have Im := am Gw.out.symm; replace Dk := bo Dk hb; have Gx := no hg Dn; have Io := am Gx.out.symm; replace Dn := bo Dn hb; replace HB := ho hb
    clear hb hbox hg
    refine hK.out _ _ (fJ Cb.out Cc.out) (fun hHeld => ?_)
    clear hK K
    refine dn (a' := ?_) ?_ ?_
    rotate_left
    ·show Act.put _ (some 13) _ = _
     simp only [Act.put, z1, z2, z3, bu, bv]
     rfl
    refine ov 1 76 (fun K hK => ?_)
    refine gk Tryz.func7 (dE.calls _ _ _ _ _ _ _ _ _ _ _ _ _ _ _ _ _ _ _ _ _ _ _ _ _ _ _ _ _ _ ?Ec ?Ed ?Gp ?Gq ?Gy ?Gz ?Ia ?Ib ?Ic ?Ew ?Ey ?Ez Rz.out) ?_
    (case Ec => exact cb Lh.out)
    (case Ed => exact Lj.out)
    (case Gp => exact cb Ll.out)
    (case Gq => exact Lm.out)
    (case Gy => exact cb Ln.out)
    (case Gz => exact Lp.out)
    (case Ia => exact cb Lq.out)
    (case Ib => exact Lr.out)
    (case Ic => exact cb Ls.out)
    (case Ew => exact Lu.out)
    (case Ey => exact cb Ly.out)
    (case Ez => exact Ma.out)
    rintro e w155 ⟨v635, v638, v641, v644, v647, v650, rfl, ho0, ho1, ho2, ho3, ho4, ho5, hb⟩
    refine ⟨_, rfl, ?_⟩
    refine r3_ hb Cm Dc Cd ?_; clear Cm Dc Cd; intro Cm Dc Cd; have Gm := am (Kd.bz (Kd.bW (Kd.bW ho0 (Kd.ek (kr Df.out))) (Kd.ek (kr Dh.out))) (az bl)); have Gn := am (Kd.bz (Kd.bW (Kd.bW ho1 (Kd.ek (kr Df.out))) (Kd.ek (kr Dh.out))) (az bl)); replace Df := am (Kd.ax (Kd.dF (Kd.dF (Kd.ik (kr Df.out) hb) (Kd.bO ho0)) (Kd.bO ho1)) (fun _ h_ => h_.1)); replace Dh := am (Kd.ax (Kd.dF (Kd.dF (Kd.ik (kr Dh.out) hb) (Kd.bO ho0)) (Kd.bO ho1)) (fun _ h_ => h_.1)); have Eo := am (Kd.bz (Kd.bW ho2 (Kd.ek (kr Cn.out))) (az bl)); replace Cn := am (Kd.eY (kr Cn.out) (Kd.bO ho2) hb); have Ep := am (Kd.bz (Kd.bW (Kd.bW (Kd.bW ho3 (Kd.ek (kr Cf.out))) (Kd.ek (kr Ci.out))) (Kd.ek (kr Cj.out))) (az bl)); have Es := am (Kd.bz (Kd.bW (Kd.bW (Kd.bW ho4 (Kd.ek (kr Cf.out))) (Kd.ek (kr Ci.out))) (Kd.ek (kr Cj.out))) (az bl)); have Et := am (Kd.bz (Kd.bW (Kd.bW (Kd.bW ho5 (Kd.ek (kr Cf.out))) (Kd.ek (kr Ci.out))) (Kd.ek (kr Cj.out))) (az bl)); replace Cf := am (Kd.ax (Kd.dF (Kd.dF (Kd.dF (Kd.ik (kr Cf.out) hb) (Kd.bO ho3)) (Kd.bO ho4)) (Kd.bO ho5)) (fun _ h_ => h_.1)); replace Ci := am (Kd.ax (Kd.dF (Kd.dF (Kd.dF (Kd.ik (kr Ci.out) hb) (Kd.bO ho3)) (Kd.bO ho4)) (Kd.bO ho5)) (fun _ h_ => h_.1)); replace Cj := am (Kd.ax (Kd.dF (Kd.dF (Kd.dF (Kd.ik (kr Cj.out) hb) (Kd.bO ho3)) (Kd.bO ho4)) (Kd.bO ho5)) (fun _ h_ => h_.1)); refine r5_ hb Cb Cc Ce Di Dk ?_; clear Cb Cc Ce Di Dk; intro Cb Cc Ce Di Dk; refine r2_ hb Dn Em ?_; clear Dn Em; intro Dn Em; replace HB := ho hb
    refine hK.out _ _ (fJ Cb.out Cc.out) (fun hHeld => ?_)
    clear hK K
    refine dn (a' := ?_) ?_ ?_
    rotate_left
    ·show Act.put _ (some 76) _ = _
     simp only [Act.put, z1, z2, z3, bu, bv]
     rfl
    refine ov 3 78 (fun K hK => ?_)
    refine gk Tryz.func8 (dI.calls _ _ _ _ _ _ _ _ _ _ _ _ _ _ ?Ec ?Ed Rm.out) ?_
    (case Ec => exact cb Ky.out)
    (case Ed => exact Kz.out)
    rintro e w156 ⟨v653, rfl, ho0, hb⟩
    refine ⟨_, rfl, ?_⟩
    refine r6_ hb Cm Df Dh Cn Cf Ci ?_; clear Cm Df Dh Cn Cf Ci; intro Cm Df Dh Cn Cf Ci; refine r6_ hb Cj Cd Gm Gn Eo Ep ?_; clear Cj Cd Gm Gn Eo Ep; intro Cj Cd Gm Gn Eo Ep; refine r2_ hb Es Et ?_; clear Es Et; intro Es Et; have Gl := am (Kd.bz (Kd.bW ho0 (Kd.ek (kr Dc.out))) (az bl)); replace Dc := am (Kd.eY (kr Dc.out) (Kd.bO ho0) hb); refine r5_ hb Cb Cc Ce Di Dk ?_; clear Cb Cc Ce Di Dk; intro Cb Cc Ce Di Dk; refine r2_ hb Dn Em ?_; clear Dn Em; intro Dn Em; replace HB := ho hb
    obtain ⟨Kq, Kr, Ks⟩ := Kd.aI Gm.out
    (first | subst Ks | (injection Ks with f1_ f2_ f3_; have f4_ := f1_.symm; have f5_ := f3_.symm; clear f1_ f2_ f3_; subst f4_; subst f5_))
    obtain ⟨Lc, Ld, Kt⟩ := Kd.aI Gn.out
    (first | subst Kt | (injection Kt with f1_ f2_ f3_; have f4_ := f1_.symm; have f5_ := f3_.symm; clear f1_ f2_ f3_; subst f4_; subst f5_))
    obtain ⟨Oc, Od, Ku⟩ := Kd.aI Eo.out
    (first | subst Ku | (injection Ku with f1_ f2_ f3_; have f4_ := f1_.symm; have f5_ := f3_.symm; clear f1_ f2_ f3_; subst f4_; subst f5_))
    obtain ⟨Oe, Og, Kv⟩ := Kd.aI Ep.out
    (first | subst Kv | (injection Kv with f1_ f2_ f3_; have f4_ := f1_.symm; have f5_ := f3_.symm; clear f1_ f2_ f3_; subst f4_; subst f5_))
    obtain ⟨Oh, Oi, Kw⟩ := Kd.aI Es.out
    (first | subst Kw | (injection Kw with f1_ f2_ f3_; have f4_ := f1_.symm; have f5_ := f3_.symm; clear f1_ f2_ f3_; subst f4_; subst f5_))
    obtain ⟨Oj, Ol, Kx⟩ := Kd.aI Et.out
    (first | subst Kx | (injection Kx with f1_ f2_ f3_; have f4_ := f1_.symm; have f5_ := f3_.symm; clear f1_ f2_ f3_; subst f4_; subst f5_))
    obtain ⟨Ov, Ox, Nu⟩ := Kd.aI Gl.out
    (first | subst Nu | (injection Nu with f1_ f2_ f3_; have f4_ := f1_.symm; have f5_ := f3_.symm; clear f1_ f2_ f3_; subst f4_; subst f5_))
    refine hK.out _ _ (fJ Cb.out Cc.out) (fun hHeld => ?_)
    clear hK K
    refine dn (a' := ?_) ?_ ?_
    rotate_left
    ·show Act.put _ (some 78) _ = _
     simp only [Act.put, z1, z2, z3, bu, bv]
     rfl
    refine ov 4 79 (fun K hK => ?_)
    refine gk Tryz.func9 (aY.calls _ _ _ (fun k_ => some k_ = (.slice Kq t634.length Kr : Value).ownBlock) _ _ _ (fun k_ => some k_ = (.slice Lc t637.length Ld : Value).ownBlock) _ _ _ _ _ _ _ _ _ _ _ _ _ _ _ _ _ _ _ _ _ _ _ _ _ _ _ _ ?Ec ?Ed ?Gp ?Gq ?Gy ?Gz ?Ia ?Ib ?Ic ?Ew ?Ey ?Ez ?Iy Qj.out) ?_
    (case Ec => exact Kd.R_V (Kd.fq rfl (Kd.aG (Kd.aG (Kd.aG (Kd.aG (Kd.aG (Kd.aG (Kd.aG (Kd.aC (Kd.aC (Kd.aC (Kd.aC (Kd.aC (Kd.aC (Kd.aC (Kd.aC (Kd.aC (Kd.aC (Kd.aC (Kd.aC (Gm.out) (Kd.aH Cm.out) (by decide)) (Kd.aH Cn.out) (by decide)) (Kd.aH Cf.out) (by decide)) (Kd.aH Ci.out) (by decide)) (Kd.aH Cj.out) (by decide)) (Kd.aH Dc.out) (by decide)) (Kd.aH Cd.out) (by decide)) (Kd.aH Eo.out) (by decide)) (Kd.aH Ep.out) (by decide)) (Kd.aH Es.out) (by decide)) (Kd.aH Et.out) (by decide)) (Kd.aH Gl.out) (by decide)) Cb.out (by decide)) Cc.out (by decide)) Ce.out (by decide)) Di.out (by decide)) Dk.out (by decide)) Dn.out (by decide)) Em.out (by decide))))
    (case Ed => exact Kd.R_V (Kd.fq rfl (Kd.aG (Kd.aG (Kd.aG (Kd.aG (Kd.aG (Kd.aG (Kd.aG (Kd.aC (Kd.aC (Kd.aC (Kd.aC (Kd.aC (Kd.aC (Kd.aC (Kd.aC (Kd.aC (Kd.aC (Kd.aC (Kd.aC (Gn.out) (Kd.aH Cm.out) (by decide)) (Kd.aH Cn.out) (by decide)) (Kd.aH Cf.out) (by decide)) (Kd.aH Ci.out) (by decide)) (Kd.aH Cj.out) (by decide)) (Kd.aH Dc.out) (by decide)) (Kd.aH Cd.out) (by decide)) (Kd.aH Eo.out) (by decide)) (Kd.aH Ep.out) (by decide)) (Kd.aH Es.out) (by decide)) (Kd.aH Et.out) (by decide)) (Kd.aH Gl.out) (by decide)) Cb.out (by decide)) Cc.out (by decide)) Ce.out (by decide)) Di.out (by decide)) Dk.out (by decide)) Dn.out (by decide)) Em.out (by decide))))
    (case Gp => exact cc (Kd.af Eo.out).2.2)
    (case Gq => exact (Kd.af Eo.out).2.1)
    (case Gy => exact cc (Kd.af Ep.out).2.2)
    (case Gz => exact (Kd.af Ep.out).2.1)
    (case Ia => exact cc (Kd.af Es.out).2.2)
    (case Ib => exact (Kd.af Es.out).2.1)
    (case Ic => exact cc (Kd.af Et.out).2.2)
    (case Ew => exact (Kd.af Et.out).2.1)
    (case Ey => exact cc (Kd.af Gl.out).2.2)
    (case Ez => exact (Kd.af Gl.out).2.1)
    (case Iy => exact Sh.below HSH.out bl)
    rintro e w164 ⟨v660, rfl, ho0, hb⟩
    refine ⟨_, rfl, ?_⟩
    refine r6_ hb Df Dh Cn Cf Ci Cj ?_; clear Df Dh Cn Cf Ci Cj; intro Df Dh Cn Cf Ci Cj; refine r6_ hb Dc Gm Gn Eo Ep Es ?_; clear Dc Gm Gn Eo Ep Es; intro Dc Gm Gn Eo Ep Es; refine r2_ hb Et Gl ?_; clear Et Gl; intro Et Gl; have Jk := am (Kd.bz (Kd.bW (Kd.bW (Kd.ax (ok' := fun k_ => True) ho0 (fun _ hk_ => trivial)) (Kd.ek (kr Cm.out))) (Kd.ek (kr Cd.out))) (az bl)); replace Cm := am (Kd.eY (kr Cm.out) (Kd.bO ho0) hb); replace Cd := am (Kd.eY (kr Cd.out) (Kd.bO ho0) hb); refine r5_ hb Cb Cc Ce Di Dk ?_; clear Cb Cc Ce Di Dk; intro Cb Cc Ce Di Dk; refine r2_ hb Dn Em ?_; clear Dn Em; intro Dn Em; replace HB := ho hb
    refine hK.out _ _ (fJ Cb.out Cc.out) (fun hHeld => ?_)
    clear hK K
    refine dn (a' := ?_) ?_ ?_
    rotate_left
    ·show Act.put _ (some 79) _ = _
     simp only [Act.put, z1, z2, z3, bu, bv]
     rfl
    exact dn (by simp only [jg, Act.put, z1, z2, z3]) (hCont (.slice Kq t634.length Kr, .slice Lc t637.length Ld, .slice Oc t640.length Od, .slice Oe t643.length Og, .slice Oh t646.length Oi, .slice Oj t649.length Ol, .slice Ov t652.length Ox, v660, Dx) _ ⟨hHeld, (by exact Kd.ax (kr Gm.out) (fun _ hk => ⟨hk.1.1, ⟨hk.1.2, hk.2⟩⟩)), (by exact Kd.ax (kr Gn.out) (fun _ hk => ⟨hk.1.1, ⟨hk.1.2, hk.2⟩⟩)), (by exact Kd.ax (kr Eo.out) (fun _ hk => hk.2)), (by exact Kd.ax (kr Ep.out) (fun _ hk => ⟨hk.1.1.1.1, ⟨hk.1.1.1.2, ⟨hk.1.1.2, ⟨hk.1.2, hk.2⟩⟩⟩⟩)), (by exact Kd.ax (kr Es.out) (fun _ hk => ⟨hk.1.1.1.1, ⟨hk.1.1.1.2, ⟨hk.1.1.2, ⟨hk.1.2, hk.2⟩⟩⟩⟩)), (by exact Kd.ax (kr Et.out) (fun _ hk => ⟨hk.1.1.1.1, ⟨hk.1.1.1.2, ⟨hk.1.1.2, ⟨hk.1.2, hk.2⟩⟩⟩⟩)), (by exact Kd.ax (kr Gl.out) (fun _ hk => hk.2)), (by exact Kd.ax (kr Jk.out) (fun _ hk => ⟨hk.1.2, hk.2⟩)), (by exact Kd.ax (kr Cm.out) (fun _ hk => ⟨hk.2, hk.1⟩)), (by exact Kd.ax (kr Df.out) (fun _ hk => ⟨hk.1.2, ⟨hk.2, hk.1.1⟩⟩)), (by exact Kd.ax (kr Dh.out) (fun _ hk => ⟨hk.1.2, ⟨hk.2, hk.1.1⟩⟩)), (by exact Kd.ax (kr Cn.out) (fun _ hk => hk.2)), (by exact Kd.ax (kr Cf.out) (fun _ hk => ⟨hk.1.1.2, ⟨hk.1.2, ⟨hk.2, ⟨hk.1.1.1.1, hk.1.1.1.2⟩⟩⟩⟩)), (by exact Kd.ax (kr Ci.out) (fun _ hk => ⟨hk.1.1.2, ⟨hk.1.2, ⟨hk.2, ⟨hk.1.1.1.1, hk.1.1.1.2⟩⟩⟩⟩)), (by exact Kd.ax (kr Cj.out) (fun _ hk => ⟨hk.1.1.2, ⟨hk.1.2, ⟨hk.2, ⟨hk.1.1.1.1, hk.1.1.1.2⟩⟩⟩⟩)), (by exact Kd.ax (kr Dc.out) (fun _ hk => hk.2)), (by exact Kd.ax (kr Cd.out) (fun _ hk => ⟨hk.2, hk.1⟩)), (bk Cb.out), (bk Cc.out), (bk Ce.out), (bk Di.out), (bk Dk.out), (bk Dn.out), (bk Em.out), Ko.out, Ns.out, Dl.out, Ii.out, Dq.out, Ij.out, Gu.out, Ik.out, Gv.out, Il.out, Gw.out, Im.out, Gx.out, Io.out, bl⟩)
   rintro ⟨v635, v638, v641, v644, v647, v650, v653, v660, Dx⟩ w165 ⟨hS_, h0_, h1_, h2_, h3_, h4_, h5_, h6_, h7_, h8_, h9_, h10_, h11_, h12_, h13_, h14_, h15_, h16_, h17_, h18_, h19_, h20_, h21_, h22_, h23_, h24_, h25_, h26_, h27_, h28_, h29_, h30_, h31_, h32_, h33_, h34_, h35_, h36_, h37_, h38_⟩
   have n0_ : aa (Kd.R Kd.string 9 w165 w.heap.size (fun k_ => some k_ ≠ (v638 : Value).ownBlock ∧ some k_ ≠ (.slice Iz t620.length Ja : Value).ownBlock ∧ some k_ ≠ (.slice Jb t621.length Jc : Value).ownBlock) v635 t634) := ⟨h0_⟩
   have n1_ : aa (Kd.R Kd.string 9 w165 w.heap.size (fun k_ => some k_ ≠ (v635 : Value).ownBlock ∧ some k_ ≠ (.slice Iz t620.length Ja : Value).ownBlock ∧ some k_ ≠ (.slice Jb t621.length Jc : Value).ownBlock) v638 t637) := ⟨h1_⟩
   have n2_ : aa (Kd.R k83 83 w165 w.heap.size (fun k_ => some k_ ≠ (.slice Ju t622.length Jv : Value).ownBlock) v641 t640) := ⟨h2_⟩
   have n3_ : aa (Kd.R k88 88 w165 w.heap.size (fun k_ => some k_ ≠ (v647 : Value).ownBlock ∧ some k_ ≠ (v650 : Value).ownBlock ∧ some k_ ≠ (.slice Ip t623.length Iq : Value).ownBlock ∧ some k_ ≠ (.slice Ir t624.length Iu : Value).ownBlock ∧ some k_ ≠ (.slice Iw t625.length Ix : Value).ownBlock) v644 t643) := ⟨h3_⟩
   have n4_ : aa (Kd.R k88 88 w165 w.heap.size (fun k_ => some k_ ≠ (v644 : Value).ownBlock ∧ some k_ ≠ (v650 : Value).ownBlock ∧ some k_ ≠ (.slice Ip t623.length Iq : Value).ownBlock ∧ some k_ ≠ (.slice Ir t624.length Iu : Value).ownBlock ∧ some k_ ≠ (.slice Iw t625.length Ix : Value).ownBlock) v647 t646) := ⟨h4_⟩
   have n5_ : aa (Kd.R k88 88 w165 w.heap.size (fun k_ => some k_ ≠ (v644 : Value).ownBlock ∧ some k_ ≠ (v647 : Value).ownBlock ∧ some k_ ≠ (.slice Ip t623.length Iq : Value).ownBlock ∧ some k_ ≠ (.slice Ir t624.length Iu : Value).ownBlock ∧ some k_ ≠ (.slice Iw t625.length Ix : Value).ownBlock) v650 t649) := ⟨h5_⟩
   have n6_ : aa (Kd.R k58 58 w165 w.heap.size (fun k_ => some k_ ≠ (.slice Jx t627.length Jy : Value).ownBlock) v653 t652) := ⟨h6_⟩
   have n7_ : aa (Kd.R k60 60 w165 w.heap.size (fun k_ => some k_ ≠ (.slice Jq t544.length Jn : Value).ownBlock ∧ some k_ ≠ (.slice Jp t581.length Jo : Value).ownBlock) v660 t659) := ⟨h7_⟩
   have n8_ : aa (Kd.R k60 60 w165 w.heap.size (fun k_ => some k_ ≠ (v660 : Value).ownBlock ∧ some k_ ≠ (.slice Jp t581.length Jo : Value).ownBlock) (.slice Jq t544.length Jn) t544) := ⟨h8_⟩
   have n9_ : aa (Kd.R Kd.string 9 w165 w.heap.size (fun k_ => some k_ ≠ (v635 : Value).ownBlock ∧ some k_ ≠ (v638 : Value).ownBlock ∧ some k_ ≠ (.slice Jb t621.length Jc : Value).ownBlock) (.slice Iz t620.length Ja) t620) := ⟨h9_⟩
   have n10_ : aa (Kd.R Kd.string 9 w165 w.heap.size (fun k_ => some k_ ≠ (v635 : Value).ownBlock ∧ some k_ ≠ (v638 : Value).ownBlock ∧ some k_ ≠ (.slice Iz t620.length Ja : Value).ownBlock) (.slice Jb t621.length Jc) t621) := ⟨h10_⟩
   have n11_ : aa (Kd.R k83 83 w165 w.heap.size (fun k_ => some k_ ≠ (v641 : Value).ownBlock) (.slice Ju t622.length Jv) t622) := ⟨h11_⟩
   have n12_ : aa (Kd.R k88 88 w165 w.heap.size (fun k_ => some k_ ≠ (v644 : Value).ownBlock ∧ some k_ ≠ (v647 : Value).ownBlock ∧ some k_ ≠ (v650 : Value).ownBlock ∧ some k_ ≠ (.slice Ir t624.length Iu : Value).ownBlock ∧ some k_ ≠ (.slice Iw t625.length Ix : Value).ownBlock) (.slice Ip t623.length Iq) t623) := ⟨h12_⟩
   have n13_ : aa (Kd.R k88 88 w165 w.heap.size (fun k_ => some k_ ≠ (v644 : Value).ownBlock ∧ some k_ ≠ (v647 : Value).ownBlock ∧ some k_ ≠ (v650 : Value).ownBlock ∧ some k_ ≠ (.slice Ip t623.length Iq : Value).ownBlock ∧ some k_ ≠ (.slice Iw t625.length Ix : Value).ownBlock) (.slice Ir t624.length Iu) t624) := ⟨h13_⟩
   have n14_ : aa (Kd.R k88 88 w165 w.heap.size (fun k_ => some k_ ≠ (v644 : Value).ownBlock ∧ some k_ ≠ (v647 : Value).ownBlock ∧ some k_ ≠ (v650 : Value).ownBlock ∧ some k_ ≠ (.slice Ip t623.length Iq : Value).ownBlock ∧ some k_ ≠ (.slice Ir t624.length Iu : Value).ownBlock) (.slice Iw t625.length Ix) t625) := ⟨h14_⟩
   have n15_ : aa (Kd.R k58 58 w165 w.heap.size (fun k_ => some k_ ≠ (v653 : Value).ownBlock) (.slice Jx t627.length Jy) t627) := ⟨h15_⟩
   have n16_ : aa (Kd.R k60 60 w165 w.heap.size (fun k_ => some k_ ≠ (v660 : Value).ownBlock ∧ some k_ ≠ (.slice Jq t544.length Jn : Value).ownBlock) (.slice Jp t581.length Jo) t630) := ⟨h16_⟩
   have n17_ : aa (w165.heap[Eu]? = some (.cells #[.string a0_0, .int .i64 a0_1, .slice A0_2 l0_2.length c0_2, .slice A0_3 l0_3.length c0_3, .slice A0_4 l0_4.length c0_4, .slice A0_5 l0_5.length c0_5, .slice A0_6 l0_6.length c0_6, .slice A0_7 l0_7.length c0_7] 26 (0, 0))) := ⟨h17_⟩
   have n18_ : aa (w165.heap[Gs]? = some (.cells #[.slice A1_0 l1_0.length c1_0, .int .i64 a1_1, .int .i64 a1_2, .int .i64 a1_3, .int .i64 a1_4] 29 (0, 0))) := ⟨h18_⟩
   have n19_ : aa (w165.heap[Dw]? = some (.cells #[.slice Jq t544.length Jn, .int .i64 t547, .int .i64 t548, .int .i64 t549, .int .i64 t550] 34 (0, 0))) := ⟨h19_⟩
   have n20_ : aa (w165.heap[Js]? = some (.cells #[.string t552, .int .i64 t553, .slice Iz t620.length Ja, .slice Jb t621.length Jc, .slice Ju t622.length Jv, .slice Ip t623.length Iq, .slice Ir t624.length Iu, .slice Iw t625.length Ix] 39 (0, 0))) := ⟨h20_⟩
   have n21_ : aa (w165.heap[Jl]? = some (.cells #[.slice Jx t627.length Jy, .int .i64 t576, .int .i64 t577, .int .i64 t578, .int .i64 t579] 43 (0, 0))) := ⟨h21_⟩
   have n22_ : aa (w165.heap[La]? = some (.cells #[.slice Jp t581.length Jo, .int .i64 t584, .int .i64 t585, .int .i64 t586, .int .i64 t587] 34 (0, 0))) := ⟨h22_⟩
   have n23_ : aa (w165.heap[Dx]? = some (.cells #[.slice none 0 0, .int .i64 0, .int .i64 0, .int .i64 0, .int .i64 0] 34 (0, 0))) := ⟨h23_⟩
   have n24_ : aa (w.heap.size ≤ Dx) := ⟨h24_⟩
   have n25_ : aa (w.heap.size ≤ Dx) := ⟨h25_⟩
   have n26_ : aa (Eu ≠ Dx) := ⟨h26_⟩
   have n27_ : aa (Dx ≠ Eu) := ⟨h27_⟩
   have n28_ : aa (Gs ≠ Dx) := ⟨h28_⟩
   have n29_ : aa (Dx ≠ Gs) := ⟨h29_⟩
   have n30_ : aa (Dw ≠ Dx) := ⟨h30_⟩
   have n31_ : aa (Dx ≠ Dw) := ⟨h31_⟩
   have n32_ : aa (Js ≠ Dx) := ⟨h32_⟩
   have n33_ : aa (Dx ≠ Js) := ⟨h33_⟩
   have n34_ : aa (Jl ≠ Dx) := ⟨h34_⟩
   have n35_ : aa (Dx ≠ Jl) := ⟨h35_⟩
   have n36_ : aa (La ≠ Dx) := ⟨h36_⟩
   have n37_ : aa (Dx ≠ La) := ⟨h37_⟩
   have n38_ : aa (Below w.heap.size w w165) := ⟨h38_⟩
   clear Cm
   clear Df
   clear Dh
   clear Cn
   clear Cf
   clear Ci
   clear Cj
   clear Dc
   clear Cd
   clear Cb
   clear Cc
   clear Ce
   clear Di
   clear Dk
   clear Dn
   clear HB
   clear h0_ h1_ h2_ h3_ h4_ h5_ h6_ h7_ h8_ h9_ h10_ h11_ h12_ h13_ h14_ h15_ h16_ h17_ h18_ h19_ h20_ h21_ h22_ h23_ h24_ h25_ h26_ h27_ h28_ h29_ h30_ h31_ h32_ h33_ h34_ h35_ h36_ h37_ h38_
   have Gm := n0_
   have Gn := n1_
   have Eo := n2_
   have Ep := n3_
   have Es := n4_
   have Et := n5_
   have Gl := n6_
   have Jk := n7_
   have Cm := n8_
   have Df := n9_
   have Dh := n10_
   have Cn := n11_
   have Cf := n12_
   have Ci := n13_
   have Cj := n14_
   have Dc := n15_
   have Cd := n16_
   have Cb := n17_
   have Cc := n18_
   have Ce := n19_
   have Di := n20_
   have Dk := n21_
   have Dn := n22_
   have Em := n23_
   have Ko := n24_
   have Ns := n25_
   have Dl := n26_
   have Ii := n27_
   have Dq := n28_
   have Ij := n29_
   have Gu := n30_
   have Ik := n31_
   have Gv := n32_
   have Il := n33_
   have Gw := n34_
   have Im := n35_
   have Gx := n36_
   have Io := n37_
   have HB := n38_
   clear n0_ n1_ n2_ n3_ n4_ n5_ n6_ n7_ n8_ n9_ n10_ n11_ n12_ n13_ n14_ n15_ n16_ n17_ n18_ n19_ n20_ n21_ n22_ n23_ n24_ n25_ n26_ n27_ n28_ n29_ n30_ n31_ n32_ n33_ n34_ n35_ n36_ n37_ n38_
   have hHeld : w165.cell? ⟨Eu, 0, none⟩ = some (.string a0_0) ∧ w165.cell? ⟨Eu, 1, none⟩ = some (.int .i64 a0_1) ∧ w165.cell? ⟨Eu, 2, none⟩ = some (.slice A0_2 l0_2.length c0_2) ∧ w165.cell? ⟨Eu, 3, none⟩ = some (.slice A0_3 l0_3.length c0_3) ∧ w165.cell? ⟨Eu, 4, none⟩ = some (.slice A0_4 l0_4.length c0_4) ∧ w165.cell? ⟨Eu, 5, none⟩ = some (.slice A0_5 l0_5.length c0_5) ∧ w165.cell? ⟨Eu, 6, none⟩ = some (.slice A0_6 l0_6.length c0_6) ∧ w165.cell? ⟨Eu, 7, none⟩ = some (.slice A0_7 l0_7.length c0_7) ∧ w165.cell? ⟨Gs, 0, none⟩ = some (.slice A1_0 l1_0.length c1_0) ∧ w165.cell? ⟨Gs, 1, none⟩ = some (.int .i64 a1_1) ∧ w165.cell? ⟨Gs, 2, none⟩ = some (.int .i64 a1_2) ∧ w165.cell? ⟨Gs, 3, none⟩ = some (.int .i64 a1_3) ∧ w165.cell? ⟨Gs, 4, none⟩ = some (.int .i64 a1_4) := hS_
   obtain ⟨Qv, Qi, Qw⟩ := Kd.aI Jk.out
   (first | subst Qw | (injection Qw with f1_ f2_ f3_; have f4_ := f1_.symm; have f5_ := f3_.symm; clear f1_ f2_ f3_; subst f4_; subst f5_))
   refine dn (a' := ?_) ?_ ?_
   rotate_left
   ·simp only [jg, Act.put, z1, z2, z3]
    rfl
   refine one_ (i := 6) (N := none) #[T_, T_, T_, T_, T_, T_, T_] rfl rfl (by kernel_rfl) (by decide) (fun K hK => ?_)
   have Cad : w165.cell? ⟨Dx, 0, none⟩ = some (.slice none 0 0) := (ae Em.out 0).trans rfl
   have hfs167 := dA Em.out 0
   have Sf := Dl.out
   have Sg := Dq.out
   have Si := Gu.out
   have Sj := Gv.out
   have Sl := Gw.out
   have Sm := Gx.out
   have hms167_0 := Ii.out
   have hms167_1 := Ij.out
   have hms167_2 := Ik.out
   have hms167_3 := Il.out
   have hms167_4 := Im.out
   have hms167_5 := Io.out
   have Cae : w165.cell? ⟨Dx, 1, none⟩ = some (.int .i64 0) := (ae Em.out 1).trans rfl
   have hfs168 := dA Em.out 1
   have Sp := Dl.out
   have Sr := Dq.out
   have Ss := Gu.out
   have Su := Gv.out
   have Sv := Gw.out
   have Sz := Gx.out
   have hms168_0 := Ii.out
   have hms168_1 := Ij.out
   have hms168_2 := Ik.out
   have hms168_3 := Il.out
   have hms168_4 := Im.out
   have hms168_5 := Io.out
   have Caf : w165.cell? ⟨Dx, 2, none⟩ = some (.int .i64 0) := (ae Em.out 2).trans rfl
   have hfs169 := dA Em.out 2
   have Ta := Dl.out
   have Tc := Dq.out
   have Td := Gu.out
   have Tf := Gv.out
   have Ti := Gw.out
   have Tj := Gx.out
   have hms169_0 := Ii.out
   have hms169_1 := Ij.out
   have hms169_2 := Ik.out
   have hms169_3 := Il.out
   have hms169_4 := Im.out
   have hms169_5 := Io.out
   have Cag : w165.cell? ⟨Dx, 3, none⟩ = some (.int .i64 0) := (ae Em.out 3).trans rfl
   have hfs170 := dA Em.out 3
   have Tm := Dl.out
   have Tn := Dq.out
   have Tp := Gu.out
   have Tq := Gv.out
   have Tt := Gw.out
   have Tu := Gx.out
   have hms170_0 := Ii.out
   have hms170_1 := Ij.out
   have hms170_2 := Ik.out
   have hms170_3 := Il.out
   have hms170_4 := Im.out
   have hms170_5 := Io.out
   have Cah : w165.cell? ⟨Dx, 4, none⟩ = some (.int .i64 0) := (ae Em.out 4).trans rfl
   have hfs171 := dA Em.out 4
   have Tv := Dl.out
   have Tz := Dq.out
   have Ua := Gu.out
   have Ub := Gv.out
   have Uc := Gw.out
   have Ud := Gx.out
   have hms171_0 := Ii.out
   have hms171_1 := Ij.out
   have hms171_2 := Ik.out
   have hms171_3 := Il.out
   have hms171_4 := Im.out
   have hms171_5 := Io.out
   refine oJ (w1 := ?_) (by rfl) rfl ?_ ?_
   rotate_left
   ·go_simp
    rfl
   refine hK.out _ _ ⟨((cell_far (p := ⟨Dx, _, none⟩) Dl.out _).trans (((cell_far (p := ⟨Dx, _, none⟩) Dl.out _).trans (((cell_far (p := ⟨Dx, _, none⟩) Dl.out _).trans (((cell_far (p := ⟨Dx, _, none⟩) Dl.out _).trans (((cell_far (p := ⟨Dx, _, none⟩) Dl.out _).trans (hHeld.1)))))))))), ((cell_far (p := ⟨Dx, _, none⟩) Dl.out _).trans (((cell_far (p := ⟨Dx, _, none⟩) Dl.out _).trans (((cell_far (p := ⟨Dx, _, none⟩) Dl.out _).trans (((cell_far (p := ⟨Dx, _, none⟩) Dl.out _).trans (((cell_far (p := ⟨Dx, _, none⟩) Dl.out _).trans (hHeld.2.1)))))))))), ((cell_far (p := ⟨Dx, _, none⟩) Dl.out _).trans (((cell_far (p := ⟨Dx, _, none⟩) Dl.out _).trans (((cell_far (p := ⟨Dx, _, none⟩) Dl.out _).trans (((cell_far (p := ⟨Dx, _, none⟩) Dl.out _).trans (((cell_far (p := ⟨Dx, _, none⟩) Dl.out _).trans (hHeld.2.2.1)))))))))), ((cell_far (p := ⟨Dx, _, none⟩) Dl.out _).trans (((cell_far (p := ⟨Dx, _, none⟩) Dl.out _).trans (((cell_far (p := ⟨Dx, _, none⟩) Dl.out _).trans (((cell_far (p := ⟨Dx, _, none⟩) Dl.out _).trans (((cell_far (p := ⟨Dx, _, none⟩) Dl.out _).trans (hHeld.2.2.2.1)))))))))), ((cell_far (p := ⟨Dx, _, none⟩) Dl.out _).trans (((cell_far (p := ⟨Dx, _, none⟩) Dl.out _).trans (((cell_far (p := ⟨Dx, _, none⟩) Dl.out _).trans (((cell_far (p := ⟨Dx, _, none⟩) Dl.out _).trans (((cell_far (p := ⟨Dx, _, none⟩) Dl.out _).trans (hHeld.2.2.2.2.1)))))))))), ((cell_far (p := ⟨Dx, _, none⟩) Dl.out _).trans (((cell_far (p := ⟨Dx, _, none⟩) Dl.out _).trans (((cell_far (p := ⟨Dx, _, none⟩) Dl.out _).trans (((cell_far (p := ⟨Dx, _, none⟩) Dl.out _).trans (((cell_far (p := ⟨Dx, _, none⟩) Dl.out _).trans (hHeld.2.2.2.2.2.1)))))))))), ((cell_far (p := ⟨Dx, _, none⟩) Dl.out _).trans (((cell_far (p := ⟨Dx, _, none⟩) Dl.out _).trans (((cell_far (p := ⟨Dx, _, none⟩) Dl.out _).trans (((cell_far (p := ⟨Dx, _, none⟩) Dl.out _).trans (((cell_far (p := ⟨Dx, _, none⟩) Dl.out _).trans (hHeld.2.2.2.2.2.2.1)))))))))), ((cell_far (p := ⟨Dx, _, none⟩) Dl.out _).trans (((cell_far (p := ⟨Dx, _, none⟩) Dl.out _).trans (((cell_far (p := ⟨Dx, _, none⟩) Dl.out _).trans (((cell_far (p := ⟨Dx, _, none⟩) Dl.out _).trans (((cell_far (p := ⟨Dx, _, none⟩) Dl.out _).trans (hHeld.2.2.2.2.2.2.2.1)))))))))), ((cell_far (p := ⟨Dx, _, none⟩) Dq.out _).trans (((cell_far (p := ⟨Dx, _, none⟩) Dq.out _).trans (((cell_far (p := ⟨Dx, _, none⟩) Dq.out _).trans (((cell_far (p := ⟨Dx, _, none⟩) Dq.out _).trans (((cell_far (p := ⟨Dx, _, none⟩) Dq.out _).trans (hHeld.2.2.2.2.2.2.2.2.1)))))))))), ((cell_far (p := ⟨Dx, _, none⟩) Dq.out _).trans (((cell_far (p := ⟨Dx, _, none⟩) Dq.out _).trans (((cell_far (p := ⟨Dx, _, none⟩) Dq.out _).trans (((cell_far (p := ⟨Dx, _, none⟩) Dq.out _).trans (((cell_far (p := ⟨Dx, _, none⟩) Dq.out _).trans (hHeld.2.2.2.2.2.2.2.2.2.1)))))))))), ((cell_far (p := ⟨Dx, _, none⟩) Dq.out _).trans (((cell_far (p := ⟨Dx, _, none⟩) Dq.out _).trans (((cell_far (p := ⟨Dx, _, none⟩) Dq.out _).trans (((cell_far (p := ⟨Dx, _, none⟩) Dq.out _).trans (((cell_far (p := ⟨Dx, _, none⟩) Dq.out _).trans (hHeld.2.2.2.2.2.2.2.2.2.2.1)))))))))), ((cell_far (p := ⟨Dx, _, none⟩) Dq.out _).trans (((cell_far (p := ⟨Dx, _, none⟩) Dq.out _).trans (((cell_far (p := ⟨Dx, _, none⟩) Dq.out _).trans (((cell_far (p := ⟨Dx, _, none⟩) Dq.out _).trans (((cell_far (p := ⟨Dx, _, none⟩) Dq.out _).trans (hHeld.2.2.2.2.2.2.2.2.2.2.2.1)))))))))), ((cell_far (p := ⟨Dx, _, none⟩) Dq.out _).trans (((cell_far (p := ⟨Dx, _, none⟩) Dq.out _).trans (((cell_far (p := ⟨Dx, _, none⟩) Dq.out _).trans (((cell_far (p := ⟨Dx, _, none⟩) Dq.out _).trans (((cell_far (p := ⟨Dx, _, none⟩) Dq.out _).trans (hHeld.2.2.2.2.2.2.2.2.2.2.2.2))))))))))⟩ (fun hHeld => ?_)
   clear hK K
   refine fF (by kernel_rfl) ?_
   have Xf := Ii.out
   have Xg := Dl.out
   have Xh := Ij.out
   have Xi := Dq.out
   have Xj := Ik.out
   have Xk := Gu.out
   have Xl := Il.out
   have Xm := Gv.out
   have Xn := Im.out
   have Xo := Gw.out
   have Xp := Io.out
   have Xq := Gx.out
   have Cb6 := dG Em.out
   have Xr := Ie.out
   have Xs := Dj.out
   have Xt := Ig.out
   have Xu := Dp.out
   have Xv := Jt.out
   have Xw := Me.out
   have Xx := Jw.out
   have Xy := Mp.out
   have Cb7 := dG Ce.out
   try go_wp2_with (first | ((with_reducible refine c_ 10 ?_); refine gc 10 (some 82) Tryz.func10 (dP.calls _ _ _ _ _ _ _ _ _ _ _ _ _ _ _ _ _ ?Ec ?Ed ?Gp ?Gq Wn.out) ?_; (case Ec => refine (Kd.af (e := 60) (base := w.heap.size) (ok := fun k_ => (some k_ ≠ (.slice Jq t544.length Jn : Value).ownBlock ∧ some k_ ≠ (.slice Jp t581.length Jo : Value).ownBlock)) (n := t659.length) (c := Qi) ?_).2.2; exact (by exact (Kd.ax (eU (Kd.aG Jk.out Em.out (by decide))) (fun _ h_ => h_.1)))); (case Ed => exact (Kd.af Jk.out).2.1); (case Gp => refine (Kd.af (e := 60) (base := w.heap.size) (ok := fun k_ => (some k_ ≠ (.slice Qv t659.length Qi : Value).ownBlock ∧ some k_ ≠ (.slice Jp t581.length Jo : Value).ownBlock)) (n := t544.length) (c := Jn) ?_).2.2; exact (by exact (Kd.ax (eU (Kd.aG Cm.out Em.out (by decide))) (fun _ h_ => h_.1)))); (case Gq => exact (Kd.af Cm.out).2.1); rintro e w184 ⟨rfl, hb⟩; refine ⟨_, rfl, ?_⟩; replace Cm := rt Cm Em hb; replace Df := rt Df Em hb; replace Dh := rt Dh Em hb; replace Cn := rt Cn Em hb; replace Cf := rt Cf Em hb; replace Ci := rt Ci Em hb; replace Cj := rt Cj Em hb; replace Dc := rt Dc Em hb; replace Cd := rt Cd Em hb; replace Gm := rt Gm Em hb; replace Gn := rt Gn Em hb; replace Eo := rt Eo Em hb; replace Ep := rt Ep Em hb; replace Es := rt Es Em hb; replace Et := rt Et Em hb; replace Gl := rt Gl Em hb; replace Jk := rt Jk Em hb; replace Cb := am (bQ (g := Eu) (o := .cells #[.string a0_0, .int .i64 a0_1, .slice A0_2 l0_2.length c0_2, .slice A0_3 l0_3.length c0_3, .slice A0_4 l0_4.length c0_4, .slice A0_5 l0_5.length c0_5, .slice A0_6 l0_6.length c0_6, .slice A0_7 l0_7.length c0_7] 26 (0, 0)) (bf Cb.out Dl.out) hb); replace Cc := am (bQ (g := Gs) (o := .cells #[.slice A1_0 l1_0.length c1_0, .int .i64 a1_1, .int .i64 a1_2, .int .i64 a1_3, .int .i64 a1_4] 29 (0, 0)) (bf Cc.out Dq.out) hb); replace Ce := am (bQ (g := Dw) (o := .cells #[.slice Jq t544.length Jn, .int .i64 t547, .int .i64 t548, .int .i64 t549, .int .i64 t550] 34 (0, 0)) (bf Ce.out Gu.out) hb); replace Di := am (bQ (g := Js) (o := .cells #[.string t552, .int .i64 t553, .slice Iz t620.length Ja, .slice Jb t621.length Jc, .slice Ju t622.length Jv, .slice Ip t623.length Iq, .slice Ir t624.length Iu, .slice Iw t625.length Ix] 39 (0, 0)) (bf Di.out Gv.out) hb); replace Dk := am (bQ (g := Jl) (o := .cells #[.slice Jx t627.length Jy, .int .i64 t576, .int .i64 t577, .int .i64 t578, .int .i64 t579] 43 (0, 0)) (bf Dk.out Gw.out) hb); replace Dn := am (bQ (g := La) (o := .cells #[.slice Jp t581.length Jo, .int .i64 t584, .int .i64 t585, .int .i64 t586, .int .i64 t587] 34 (0, 0)) (bf Dn.out Gx.out) hb); replace Em := am (bQ (g := Dx) (o := .cells #[.slice Qv t659.length Qi, .int .i64 t662, .int .i64 t663, .int .i64 t664, .int .i64 t665] 34 (0, 0)) (bp Em.out) hb); replace HB := ho hb; clear hb; have Cb8 := dG Dn.out) | ((with_reducible refine kT (f := 16) rfl ?_); refine pg (some 86) rfl rfl Tryz.func16 (by kernel_rfl) rfl #[.agg #[.slice Jp t630.length Jo, .int .i64 t584, .int .i64 t585, .int .i64 t586, .int .i64 t587], .int .i64 1] rfl (by (try simp only [List.map_toArray, List.map_cons, List.map_nil]); first | done | (rw [show t630.length = t581.length from (Kd.af Cd.out).1.symm] <;> rfl) | rfl | (simp only [List.length_drop, List.length_take]; rfl)) ?_; (with_reducible refine (dM.calls kj34 _ _ t630 t584 t585 t586 t587 1 t668 _ ?Ec ?Ed Wp.out).mono ?_); (case Ec => exact cc (Kd.af Cd.out).2.2); (case Ed => rw [show t630.length = t581.length from (Kd.af Cd.out).1.symm]; exact (Kd.af Cd.out).2.1); rintro e w186 ⟨rfl, hb⟩; refine ⟨_, rfl, ?_⟩; refine r6_ hb Cm Df Dh Cn Cf Ci ?_; clear Cm Df Dh Cn Cf Ci; intro Cm Df Dh Cn Cf Ci; refine r6_ hb Cj Dc Cd Gm Gn Eo ?_; clear Cj Dc Cd Gm Gn Eo; intro Cj Dc Cd Gm Gn Eo; refine r6_ hb Ep Es Et Gl Jk Cb ?_; clear Ep Es Et Gl Jk Cb; intro Ep Es Et Gl Jk Cb; refine r6_ hb Cc Ce Di Dk Dn Em ?_; clear Cc Ce Di Dk Dn Em; intro Cc Ce Di Dk Dn Em; replace HB := ho hb; clear hb))
   go_ret
   exact ⟨er, bl⟩
def laws_FnExactVmNamed.Pure : Prop := ∀ (a0_0 : ByteArray) (a0_1 : Int) (l0_2 : List ByteArray) (l0_3 : List ByteArray) (l0_4 : List (S78)) (l0_5 : List (S81)) (l0_6 : List (S81)) (l0_7 : List (S81)) (l1_0 : List (S91)) (a1_1 : Int) (a1_2 : Int) (a1_3 : Int) (a1_4 : Int), a0_0.size ≤ maxLen → (Lit.int .i64 a0_1).wf = true → (l0_2.length ≤ maxLen ∧ ∀ x ∈ l0_2, x.size ≤ maxLen) → (l0_3.length ≤ maxLen ∧ ∀ x ∈ l0_3, x.size ≤ maxLen) → (l0_4.length ≤ maxLen ∧ ∀ x ∈ l0_4, (x.f0.size ≤ maxLen ∧ (Lit.int .i64 x.f1).wf = true ∧ (Lit.int .i64 x.f2).wf = true ∧ (Lit.int .i64 x.f3).wf = true)) → (l0_5.length ≤ maxLen ∧ ∀ x ∈ l0_5, ((Lit.int .i64 x.f0).wf = true ∧ x.f1.size ≤ maxLen ∧ x.f2.size ≤ maxLen ∧ (Lit.int .i64 x.f3).wf = true ∧ (Lit.int .i64 x.f4).wf = true)) → (l0_6.length ≤ maxLen ∧ ∀ x ∈ l0_6, ((Lit.int .i64 x.f0).wf = true ∧ x.f1.size ≤ maxLen ∧ x.f2.size ≤ maxLen ∧ (Lit.int .i64 x.f3).wf = true ∧ (Lit.int .i64 x.f4).wf = true)) → (l0_7.length ≤ maxLen ∧ ∀ x ∈ l0_7, ((Lit.int .i64 x.f0).wf = true ∧ x.f1.size ≤ maxLen ∧ x.f2.size ≤ maxLen ∧ (Lit.int .i64 x.f3).wf = true ∧ (Lit.int .i64 x.f4).wf = true)) → (l1_0.length ≤ maxLen ∧ ∀ x ∈ l1_0, ((Lit.int .i64 x.f0).wf = true ∧ (Lit.int .i64 x.f1).wf = true ∧ (Lit.int .i64 x.f2).wf = true)) → (Lit.int .i64 a1_1).wf = true → (Lit.int .i64 a1_2).wf = true → (Lit.int .i64 a1_3).wf = true → (Lit.int .i64 a1_4).wf = true → ∃ k, laws_FnExactVmNamed.f k a0_0 a0_1 l0_2 l0_3 l0_4 l0_5 l0_6 l0_7 l1_0 a1_1 a1_2 a1_3 a1_4 = some true
end Go.Proofs.YthpjnjplgmaofaaGreatDoor.PFnExactVmNamed
