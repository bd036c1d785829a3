import Derived.Test.YthpjnjplgmaofaaGreatDoorQMin
import Derived.Test.YthpjnjplgmaofaaGreatDoorQAut
import Derived.Test.YthpjnjplgmaofaaGreatDoorQBlk
import Derived.Test.YthpjnjplgmaofaaGreatDoorPFnExactVmNamedx0
namespace Go.Proofs.YthpjnjplgmaofaaGreatDoor.PFnExactVmNamed
open Go.RowKit Go.Proofs.YthpjnjplgmaofaaGreatDoorW.PrintWords Go.Proofs.YthpjnjplgmaofaaGreatDoorW.PrintLast Go.Proofs.YthpjnjplgmaofaaGreatDoorW.PrintMore
attribute [local go_sem] max2_int min2_int max_two min_two max_three min_three max_four min_four   -- for this text's walks alone
set_option maxHeartbeats 8000000
set_option maxRecDepth 100000
set_option linter.unusedVariables false
set_option linter.unusedSimpArgs false
def iO.f (a0_0 : ByteArray) (a0_1 : ByteArray) (a0_2 : Int) (a1_0 : ByteArray) (a1_1 : ByteArray) (a1_2 : Int) : Option (Bool) := if a0_0.toList = a1_0.toList then (if a0_1.toList = a1_1.toList then (if a0_2 = a1_2 then (some true) else (some false)) else (some false)) else (some false)
theorem iO.calls (a0_0 : ByteArray) (a0_1 : ByteArray) (a0_2 : Int) (a1_0 : ByteArray) (a1_1 : ByteArray) (a1_2 : Int) (r : Bool) (w : World) (h : iO.f a0_0 a0_1 a0_2 a1_0 a1_1 a1_2 = some r) :
  Calls Tryz.prog 55 #[.agg #[.string a0_0, .string a0_1, .int .i64 a0_2], .agg #[.string a1_0, .string a1_1, .int .i64 a1_2]] w fun e w' => e = .returned (.bool r) ∧ Below w.heap.size w w' := by
 have hu60 := Tryz.underlying60
 have HB := am (Below.refl w.heap.size w)
 have H := h
 clear h
 unfold iO.f at H
 revert H; refine iQ (fun Ew Ey H => ?_) fun c3 Ew Ey H => ?_
 ·revert H; refine iQ (fun Gf Ie H => ?_) fun c4 Gf Ie H => ?_
  ·revert H; refine iQ (fun Gg Gu H => ?_) fun c5 Gg Gu H => ?_
   ·obtain rfl := Option.some.inj H
    go_enter Tryz.func55, Tryz.ntmps55
    go_wp2_with (first | ((with_reducible refine g_ 2 ?_); refine bx 2 #[.string a0_0, .string a0_1, .int .i64 a0_2] 60 ?_; intro Ej hg w6 hbox hb; have Cn := am hbox; have Ek := am (bsz hg : w.heap.size ≤ Ej); have Gv := Ek; replace HB := ho hb; clear hb hbox hg) | ((with_reducible refine g_ 3 ?_); refine bx 3 #[.string a1_0, .string a1_1, .int .i64 a1_2] 60 ?_; intro Em hg w7 hbox hb; have En := am hbox; have Eo := am (bsz hg : w.heap.size ≤ Em); have Gw := Eo; have Cf := no hg Cn; have Dc := am Cf.out.symm; replace Cn := bo Cn hb; replace HB := ho hb; clear hb hbox hg; have Ju := Cf.out; have Jv := Dc.out; have Z9 := jk Cn.out; have Jw := jk En.out))
    go_ret
    exact ⟨er, bl⟩
   obtain rfl := Option.some.inj H
   go_enter Tryz.func55, Tryz.ntmps55
   go_wp2_with (first | ((with_reducible refine g_ 2 ?_); refine bx 2 #[.string a0_0, .string a0_1, .int .i64 a0_2] 60 ?_; intro Ej hg w11 hbox hb; have Cn := am hbox; have Ek := am (bsz hg : w.heap.size ≤ Ej); have Gv := Ek; replace HB := ho hb; clear hb hbox hg) | ((with_reducible refine g_ 3 ?_); refine bx 3 #[.string a1_0, .string a1_1, .int .i64 a1_2] 60 ?_; intro Em hg w12 hbox hb; have En := am hbox; have Eo := am (bsz hg : w.heap.size ≤ Em); have Gw := Eo; have Cf := no hg Cn; have Dc := am Cf.out.symm; replace Cn := bo Cn hb; replace HB := ho hb; clear hb hbox hg; have Iw := Cf.out; have Ix := Dc.out; have Ki := jk Cn.out; have Iy := jk En.out))
   go_ret
   exact ⟨er, bl⟩
  obtain rfl := Option.some.inj H
  go_enter Tryz.func55, Tryz.ntmps55
  go_wp2_with (first | ((with_reducible refine g_ 2 ?_); refine bx 2 #[.string a0_0, .string a0_1, .int .i64 a0_2] 60 ?_; intro Ej hg w16 hbox hb; have Cn := am hbox; have Ek := am (bsz hg : w.heap.size ≤ Ej); have Gv := Ek; replace HB := ho hb; clear hb hbox hg) | ((with_reducible refine g_ 3 ?_); refine bx 3 #[.string a1_0, .string a1_1, .int .i64 a1_2] 60 ?_; intro Em hg w17 hbox hb; have En := am hbox; have Eo := am (bsz hg : w.heap.size ≤ Em); have Gw := Eo; have Cf := no hg Cn; have Dc := am Cf.out.symm; replace Cn := bo Cn hb; replace HB := ho hb; clear hb hbox hg; have Iz := Cf.out; have Ja := Dc.out; have Kj := jk Cn.out; have Jb := jk En.out))
  go_ret
  exact ⟨er, bl⟩
 obtain rfl := Option.some.inj H
 go_enter Tryz.func55, Tryz.ntmps55
 go_wp2_with (first | ((with_reducible refine g_ 2 ?_); refine bx 2 #[.string a0_0, .string a0_1, .int .i64 a0_2] 60 ?_; intro Ej hg w21 hbox hb; have Cn := am hbox; have Ek := am (bsz hg : w.heap.size ≤ Ej); have Gv := Ek; replace HB := ho hb; clear hb hbox hg) | ((with_reducible refine g_ 3 ?_); refine bx 3 #[.string a1_0, .string a1_1, .int .i64 a1_2] 60 ?_; intro Em hg w22 hbox hb; have En := am hbox; have Eo := am (bsz hg : w.heap.size ≤ Em); have Gw := Eo; have Cf := no hg Cn; have Dc := am Cf.out.symm; replace Cn := bo Cn hb; replace HB := ho hb; clear hb hbox hg; have Jc := Cf.out; have Jd := Dc.out; have Jx := jk Cn.out; have Jy := jk En.out))
 go_ret
 exact ⟨er, bl⟩
def bK.l0 : Nat → List (S60) → List (S60) → Int → Option (Bool)
 | 0, _, _, _ => none
 | k + 1, x0, x1, x5 => if x5 < (x0.length : Int) then (if 0 ≤ x5 then (if x5 < (x1.length : Int) then ((iO.f ((cZ x0 x5).f0) ((cZ x0 x5).f1) ((cZ x0 x5).f2) ((cZ x1 x5).f0) ((cZ x1 x5).f1) ((cZ x1 x5).f2)).bind fun t438 => (if t438 = true then (bK.l0 k x0 x1 (wrap64 (x5 + 1))) else (some false))) else (none)) else (none)) else (some true)
def bK.f (k : Nat) (l0 : List (S60)) (l1 : List (S60)) : Option (Bool) := if (l0.length : Int) = (l1.length : Int) then (bK.l0 k l0 l1 0) else (some false)
theorem bK.bI : ∀ k, (∀ y0 y1 y2, LeO (bK.l0 k y0 y1 y2) (bK.l0 (k + 1) y0 y1 y2))
 | 0 => fun _ _ _ r h => by simp [bK.l0] at h
 | k + 1 => by
  have ih0 := bK.bI k
  ·intro y0 y1 y2
   unfold bK.l0
   exact mo
theorem bK.mono : ∀ a0 a1 k, LeO (bK.f k a0 a1) (bK.f (k + 1) a0 a1) := by
 intro a0 a1 k
 have ih0 := bK.bI k
 unfold bK.f
 exact mo
def bK.T6 : Bool × List (List Nat × List Nat) := (true, [([], []), ([], []), ([0, 1], [0, 1]), ([2], [2]), ([], []), ([], []), ([4, 5], [4, 5]), ([6], [6]), ([3, 7], [3, 7]), ([8], [8])])
def bK.B6 : List Nat := [0, 0, 3, 7, 0, 0, 48, 112, 255, 511]
theorem bK.nN : iy .any (opsOf Tryz.f29 6) = bK.T6 := by kernel_rfl
theorem bK.kV : gm bK.T6.2 bK.B6 = true := by kernel_rfl
theorem bK.calls (k : Nat) (A0 : Option Addr) (c0 : Nat) (l0 : List (S60)) (A1 : Option Addr) (c1 : Nat) (l1 : List (S60)) (r : Bool) (w : World) (hr0 : Kd.C k60 w A0 l0.length l0) (hc0 : l0.length ≤ c0) (hr1 : Kd.C k60 w A1 l1.length l1) (hc1 : l1.length ≤ c1) (h : bK.f k l0 l1 = some r) :
  Calls Tryz.prog 29 #[.slice A0 l0.length c0, .slice A1 l1.length c1] w fun e w' => e = .returned (.bool r) ∧ Below w.heap.size w w' := by
 have hu60 := Tryz.underlying60
 have Ij := am hr0
 have Jz := am hc0
 clear hr0 hc0
 have Ik := am hr1
 have Ka := am hc1
 clear hr1 hc1
 have HB := am (Below.refl w.heap.size w)
 have H := h
 clear h
 unfold bK.f at H
 revert H; refine iQn (fun c3 Ew Ey H => ?_) fun c3 Ew Ey H => ?_
 ·have Gx : (l0.length == l1.length) = true := by first | simpa using c3 | (simp at c3 ⊢; omega)
  clear c3
  have H' := am H; clear H
  go_enter Tryz.func29, Tryz.ntmps29
  go_wp2
  go_loopg [5] k (fun kq v5 w' => ∃ (x5_1 : Int), v5 = .int .i64 x5_1 ∧ aa (bK.l0 kq l0 l1 x5_1 = some r) ∧ aa (kq ≤ k) ∧ aa (Below w.heap.size w w'))
  case atStart => exact ⟨(0), rs, H', ⟨Nat.le_refl _⟩, ⟨bl⟩⟩
  case round =>
   clear H'
   try clear c1; try clear c3; try clear Ew; try clear Ey; try clear Gx
   obtain ⟨x5_1, rfl, HA, Il, HB⟩ := hrel
   cases gk with
   | zero => exact absurd HA.out (by simp [bK.l0])
   | succ k1 =>
    have H := HA.out
    clear HA
    simp only [bK.l0] at H
    revert H; refine iDb (fun Gf H => ?_) fun Gf H => ?_
    ·revert H; refine i1 fun Gg H => ?_
     revert H; refine i1 fun Gy H => ?_
     revert H; refine bj fun t438 A7 H => ?_
     replace H := iT H; rcases H with ⟨rfl, H⟩ | ⟨rfl, H⟩
     ·have H' := am H; clear H
      try go_wp2
      replace HB := am (bg HB.out)
      have Gh : 0 ≤ (x5_1 : Int) := ode
      have Gi : x5_1 < (l0.length : Int) := ode
      obtain ⟨Gz, e436, Df, Dh, Di⟩ := jl Ij.out x5_1 Gh Gi
      have Dy := Di
      have Dz := Dh
      have Ea := Df
      cases e436
      obtain ⟨Df, Dh, Di⟩ := hb3 HB.out Df Dh Di
      replace Gh := eq_true Gh
      replace Gi := eq_true Gi
      have Gj : 0 ≤ (x5_1 : Int) := ode
      have Gk : x5_1 < (l1.length : Int) := ode
      obtain ⟨Ia, e437, Dj, Dk, Dl⟩ := jl Ik.out x5_1 Gj Gk
      have Eb := Dl
      have Ec := Dk
      have Ed := Dj
      cases e437
      obtain ⟨Dj, Dk, Dl⟩ := hb3 HB.out Dj Dk Dl
      replace Gj := eq_true Gj
      replace Gk := eq_true Gk
      refine eH (n := 10) (S := sG (Gz.add ((x5_1).toNat * 3)) (.string ((cZ l0 x5_1).f0)) (.string ((cZ l0 x5_1).f1)) (.int .i64 ((cZ l0 x5_1).f2)) (Ia.add ((x5_1).toNat * 3)) (.string ((cZ l1 x5_1).f0)) (.string ((cZ l1 x5_1).f1)) (.int .i64 ((cZ l1 x5_1).f2))) (ds := []) #[F_, F_, F_, F_, F_, F_, F_, F_, F_, F_] (by kernel_rfl) rfl rfl ⟨(hbc HB.out Ea), (hbc HB.out Dz), (hbc HB.out Dy), (hbc HB.out Ed), (hbc HB.out Ec), (hbc HB.out Eb)⟩ (fun hHeld => ?_); refine dJ bK.nN bK.kV (fun HT_ HW_ => ?_)
      generalize wr.drew = w9 at HB Df Dh Di Dj Dk Dl hHeld ⊢
      refine pv 0 17 ?_
      refine pv 1 18 ?_
      refine pv 2 19 ?_
      refine pv 4 21 ?_
      refine pv 5 22 ?_
      refine pv 6 23 ?_
      refine tv6 3 20 hHeld ?_
      refine tv6 7 24 hHeld ?_
      refine ov 8 25 (fun K hK => ?_)
      refine gk Tryz.func55 (iO.calls _ _ _ _ _ _ _ _ A7.out) ?_
      rintro e w10 ⟨rfl, hb⟩
      refine ⟨_, rfl, ?_⟩
      replace HB := ho hb
      refine hK.out _ _ ⟨(hbc HB.out Ea), (hbc HB.out Dz), (hbc HB.out Dy), (hbc HB.out Ed), (hbc HB.out Ec), (hbc HB.out Eb)⟩ (fun hHeld => ?_)
      clear hK K
      refine dn (a' := ?_) ?_ ?_
      rotate_left
      ·show Act.put _ (some 25) _ = _
       simp only [Act.put, z1, z2, z3, bu, bv]
       rfl
      refine pv 9 26 ?_
      refine fF (eF HT_.out (by kernel_rfl)) ?_
      try go_wp2
      go_roundg k1
      case measure => have := Il.out; omega
      case rel => exact ⟨(wrap64 (x5_1 + 1)), rs, H', ⟨by have := Il.out; omega⟩, ⟨bl⟩⟩
     obtain rfl := Option.some.inj H
     try go_wp2
     replace HB := am (bg HB.out)
     have Gh : 0 ≤ (x5_1 : Int) := ode
     have Gi : x5_1 < (l0.length : Int) := ode
     obtain ⟨Gz, e436, Df, Dh, Di⟩ := jl Ij.out x5_1 Gh Gi
     have Dy := Di
     have Dz := Dh
     have Ea := Df
     cases e436
     obtain ⟨Df, Dh, Di⟩ := hb3 HB.out Df Dh Di
     replace Gh := eq_true Gh
     replace Gi := eq_true Gi
     have Gj : 0 ≤ (x5_1 : Int) := ode
     have Gk : x5_1 < (l1.length : Int) := ode
     obtain ⟨Ia, e437, Dj, Dk, Dl⟩ := jl Ik.out x5_1 Gj Gk
     have Eb := Dl
     have Ec := Dk
     have Ed := Dj
     cases e437
     obtain ⟨Dj, Dk, Dl⟩ := hb3 HB.out Dj Dk Dl
     replace Gj := eq_true Gj
     replace Gk := eq_true Gk
     refine eH (n := 10) (S := sG (Gz.add ((x5_1).toNat * 3)) (.string ((cZ l0 x5_1).f0)) (.string ((cZ l0 x5_1).f1)) (.int .i64 ((cZ l0 x5_1).f2)) (Ia.add ((x5_1).toNat * 3)) (.string ((cZ l1 x5_1).f0)) (.string ((cZ l1 x5_1).f1)) (.int .i64 ((cZ l1 x5_1).f2))) (ds := []) #[F_, F_, F_, F_, F_, F_, F_, F_, F_, F_] (by kernel_rfl) rfl rfl ⟨(hbc HB.out Ea), (hbc HB.out Dz), (hbc HB.out Dy), (hbc HB.out Ed), (hbc HB.out Ec), (hbc HB.out Eb)⟩ (fun hHeld => ?_); refine dJ bK.nN bK.kV (fun HT_ HW_ => ?_)
     generalize wr.drew = w11 at HB Df Dh Di Dj Dk Dl hHeld ⊢
     refine pv 0 17 ?_
     refine pv 1 18 ?_
     refine pv 2 19 ?_
     refine pv 4 21 ?_
     refine pv 5 22 ?_
     refine pv 6 23 ?_
     refine tv6 3 20 hHeld ?_
     refine tv6 7 24 hHeld ?_
     refine ov 8 25 (fun K hK => ?_)
     refine gk Tryz.func55 (iO.calls _ _ _ _ _ _ _ _ A7.out) ?_
     rintro e w12 ⟨rfl, hb⟩
     refine ⟨_, rfl, ?_⟩
     replace HB := ho hb
     refine hK.out _ _ ⟨(hbc HB.out Ea), (hbc HB.out Dz), (hbc HB.out Dy), (hbc HB.out Ed), (hbc HB.out Ec), (hbc HB.out Eb)⟩ (fun hHeld => ?_)
     clear hK K
     refine dn (a' := ?_) ?_ ?_
     rotate_left
     ·show Act.put _ (some 25) _ = _
      simp only [Act.put, z1, z2, z3, bu, bv]
      rfl
     refine pv 9 26 ?_
     refine fF (eF HT_.out (by kernel_rfl)) ?_
     try go_wp2
     go_ret
     exact ⟨er, bl⟩
    obtain rfl := Option.some.inj H
    go_wp2
    go_ret
    exact ⟨er, bl⟩
 have Gx : (l0.length == l1.length) = false := by first | simpa using c3 | (simp at c3 ⊢; omega)
 obtain rfl := Option.some.inj H
 go_enter Tryz.func29, Tryz.ntmps29
 go_wp2
 go_ret
 exact ⟨er, bl⟩
def dP.f (k : Nat) (l0_0 : List (S60)) (a0_1 : Int) (a0_2 : Int) (a0_3 : Int) (a0_4 : Int) (l1_0 : List (S60)) (a1_1 : Int) (a1_2 : Int) (a1_3 : Int) (a1_4 : Int) : Option (Bool) := (bK.f k l0_0 l1_0).bind fun t441 => (if t441 = true then (if a0_1 = a1_1 then (if a0_2 = a1_2 then (if a0_3 = a1_3 then (if a0_4 = a1_4 then (some true) else (some false)) else (some false)) else (some false)) else (some false)) else (some false))
theorem dP.mono : ∀ a0 a1 a2 a3 a4 a5 a6 a7 a8 a9 k, LeO (dP.f k a0 a1 a2 a3 a4 a5 a6 a7 a8 a9) (dP.f (k + 1) a0 a1 a2 a3 a4 a5 a6 a7 a8 a9) := by
 intro a0 a1 a2 a3 a4 a5 a6 a7 a8 a9 k
 unfold dP.f
 repeat' (with_reducible first | exact bK.mono .. | exact LeO.refl _ | exact LeO.none _ | refine LeO.ite ?_ ?_ | refine LeO.bind ?_ (fun _ => ?_))
theorem dP.calls (k : Nat) (A0_0 : Option Addr) (c0_0 : Nat) (l0_0 : List (S60)) (a0_1 : Int) (a0_2 : Int) (a0_3 : Int) (a0_4 : Int) (A1_0 : Option Addr) (c1_0 : Nat) (l1_0 : List (S60)) (a1_1 : Int) (a1_2 : Int) (a1_3 : Int) (a1_4 : Int) (r : Bool) (w : World) (hr0_0 : Kd.C k60 w A0_0 l0_0.length l0_0) (hc0_0 : l0_0.length ≤ c0_0) (hr1_0 : Kd.C k60 w A1_0 l1_0.length l1_0) (hc1_0 : l1_0.length ≤ c1_0) (h : dP.f k l0_0 a0_1 a0_2 a0_3 a0_4 l1_0 a1_1 a1_2 a1_3 a1_4 = some r) :
  Calls Tryz.prog 10 #[.agg #[.slice A0_0 l0_0.length c0_0, .int .i64 a0_1, .int .i64 a0_2, .int .i64 a0_3, .int .i64 a0_4], .agg #[.slice A1_0 l1_0.length c1_0, .int .i64 a1_1, .int .i64 a1_2, .int .i64 a1_3, .int .i64 a1_4]] w fun e w' => e = .returned (.bool r) ∧ Below w.heap.size w w' := by
 have hu34 := Tryz.underlying34
 have Ep := am hr0_0
 have Es := am hc0_0
 clear hr0_0 hc0_0
 have Et := am hr1_0
 have Eu := am hc1_0
 clear hr1_0 hc1_0
 have HB := am (Below.refl w.heap.size w)
 have H := h
 clear h
 unfold dP.f at H
 revert H; refine bj fun t441 A3 H => ?_
 replace H := iT H; rcases H with ⟨rfl, H⟩ | ⟨rfl, H⟩
 ·revert H; refine iQ (fun Gg Gu H => ?_) fun c5 Gg Gu H => ?_
  ·revert H; refine iQ (fun Gy Ig H => ?_) fun c6 Gy Ig H => ?_
   ·revert H; refine iQ (fun Ih Ii H => ?_) fun c7 Ih Ii H => ?_
    ·revert H; refine iQ (fun Ir Iu H => ?_) fun c8 Ir Iu H => ?_
     ·obtain rfl := Option.some.inj H
      go_enter Tryz.func10, Tryz.ntmps10
      go_wp2_with (first | ((with_reducible refine g_ 2 ?_); refine bx 2 #[.slice A0_0 l0_0.length c0_0, .int .i64 a0_1, .int .i64 a0_2, .int .i64 a0_3, .int .i64 a0_4] 34 ?_; intro Dn hg w9 hbox hb; have Cb := am hbox; have Dp := am (bsz hg : w.heap.size ≤ Dn); have Ez := Dp; replace HB := ho hb; clear hb hbox hg) | ((with_reducible refine g_ 3 ?_); refine bx 3 #[.slice A1_0 l1_0.length c1_0, .int .i64 a1_1, .int .i64 a1_2, .int .i64 a1_3, .int .i64 a1_4] 34 ?_; intro Dq hg w10 hbox hb; have Cd := am hbox; have Dt := am (bsz hg : w.heap.size ≤ Dq); have Ga := Dt; have Cc := no hg Cb; have Ci := am Cc.out.symm; replace Cb := bo Cb hb; replace HB := ho hb; clear hb hbox hg; have Je := Cc.out; have Jf := Ci.out; have Kk := dG Cb.out; have Kl := dG Cd.out) | ((with_reducible refine c_ 29 ?_); refine gc 29 (some 9) Tryz.func29 (bK.calls _ _ _ _ _ _ _ _ _ ?Du ?Dv ?Dw ?Dx A3.out) ?_; (case Du => exact cb Ep.out); (case Dv => exact Es.out); (case Dw => exact cb Et.out); (case Dx => exact Eu.out); rintro e w14 ⟨rfl, hb⟩; refine ⟨_, rfl, ?_⟩; refine r2_ hb Cb Cd ?_; clear Cb Cd; intro Cb Cd; replace HB := ho hb; clear hb; have Iy := dG Cb.out; have Kb := dG Cd.out))
      go_ret
      exact ⟨er, bl⟩
     obtain rfl := Option.some.inj H
     go_enter Tryz.func10, Tryz.ntmps10
     go_wp2_with (first | ((with_reducible refine g_ 2 ?_); refine bx 2 #[.slice A0_0 l0_0.length c0_0, .int .i64 a0_1, .int .i64 a0_2, .int .i64 a0_3, .int .i64 a0_4] 34 ?_; intro Dn hg w17 hbox hb; have Cb := am hbox; have Dp := am (bsz hg : w.heap.size ≤ Dn); have Ez := Dp; replace HB := ho hb; clear hb hbox hg) | ((with_reducible refine g_ 3 ?_); refine bx 3 #[.slice A1_0 l1_0.length c1_0, .int .i64 a1_1, .int .i64 a1_2, .int .i64 a1_3, .int .i64 a1_4] 34 ?_; intro Dq hg w18 hbox hb; have Cd := am hbox; have Dt := am (bsz hg : w.heap.size ≤ Dq); have Ga := Dt; have Cc := no hg Cb; have Ci := am Cc.out.symm; replace Cb := bo Cb hb; replace HB := ho hb; clear hb hbox hg; have Im := Cc.out; have Io := Ci.out; have Jb := dG Cb.out; have Ke := dG Cd.out) | ((with_reducible refine c_ 29 ?_); refine gc 29 (some 9) Tryz.func29 (bK.calls _ _ _ _ _ _ _ _ _ ?Du ?Dv ?Dw ?Dx A3.out) ?_; (case Du => exact cb Ep.out); (case Dv => exact Es.out); (case Dw => exact cb Et.out); (case Dx => exact Eu.out); rintro e w22 ⟨rfl, hb⟩; refine ⟨_, rfl, ?_⟩; refine r2_ hb Cb Cd ?_; clear Cb Cd; intro Cb Cd; replace HB := ho hb; clear hb; have Km := dG Cb.out; have Jx := dG Cd.out))
     go_ret
     exact ⟨er, bl⟩
    obtain rfl := Option.some.inj H
    go_enter Tryz.func10, Tryz.ntmps10
    go_wp2_with (first | ((with_reducible refine g_ 2 ?_); refine bx 2 #[.slice A0_0 l0_0.length c0_0, .int .i64 a0_1, .int .i64 a0_2, .int .i64 a0_3, .int .i64 a0_4] 34 ?_; intro Dn hg w25 hbox hb; have Cb := am hbox; have Dp := am (bsz hg : w.heap.size ≤ Dn); have Ez := Dp; replace HB := ho hb; clear hb hbox hg) | ((with_reducible refine g_ 3 ?_); refine bx 3 #[.slice A1_0 l1_0.length c1_0, .int .i64 a1_1, .int .i64 a1_2, .int .i64 a1_3, .int .i64 a1_4] 34 ?_; intro Dq hg w26 hbox hb; have Cd := am hbox; have Dt := am (bsz hg : w.heap.size ≤ Dq); have Ga := Dt; have Cc := no hg Cb; have Ci := am Cc.out.symm; replace Cb := bo Cb hb; replace HB := ho hb; clear hb hbox hg; have Jg := Cc.out; have Jh := Ci.out; have Kn := dG Cb.out; have Ko := dG Cd.out) | ((with_reducible refine c_ 29 ?_); refine gc 29 (some 9) Tryz.func29 (bK.calls _ _ _ _ _ _ _ _ _ ?Du ?Dv ?Dw ?Dx A3.out) ?_; (case Du => exact cb Ep.out); (case Dv => exact Es.out); (case Dw => exact cb Et.out); (case Dx => exact Eu.out); rintro e w30 ⟨rfl, hb⟩; refine ⟨_, rfl, ?_⟩; refine r2_ hb Cb Cd ?_; clear Cb Cd; intro Cb Cd; replace HB := ho hb; clear hb; have Kf := dG Cb.out; have Kp := dG Cd.out))
    go_ret
    exact ⟨er, bl⟩
   obtain rfl := Option.some.inj H
   go_enter Tryz.func10, Tryz.ntmps10
   go_wp2_with (first | ((with_reducible refine g_ 2 ?_); refine bx 2 #[.slice A0_0 l0_0.length c0_0, .int .i64 a0_1, .int .i64 a0_2, .int .i64 a0_3, .int .i64 a0_4] 34 ?_; intro Dn hg w33 hbox hb; have Cb := am hbox; have Dp := am (bsz hg : w.heap.size ≤ Dn); have Ez := Dp; replace HB := ho hb; clear hb hbox hg) | ((with_reducible refine g_ 3 ?_); refine bx 3 #[.slice A1_0 l1_0.length c1_0, .int .i64 a1_1, .int .i64 a1_2, .int .i64 a1_3, .int .i64 a1_4] 34 ?_; intro Dq hg w34 hbox hb; have Cd := am hbox; have Dt := am (bsz hg : w.heap.size ≤ Dq); have Ga := Dt; have Cc := no hg Cb; have Ci := am Cc.out.symm; replace Cb := bo Cb hb; replace HB := ho hb; clear hb hbox hg; have Ji := Cc.out; have Jj := Ci.out; have Kq := dG Cb.out; have Kr := dG Cd.out) | ((with_reducible refine c_ 29 ?_); refine gc 29 (some 9) Tryz.func29 (bK.calls _ _ _ _ _ _ _ _ _ ?Du ?Dv ?Dw ?Dx A3.out) ?_; (case Du => exact cb Ep.out); (case Dv => exact Es.out); (case Dw => exact cb Et.out); (case Dx => exact Eu.out); rintro e w38 ⟨rfl, hb⟩; refine ⟨_, rfl, ?_⟩; refine r2_ hb Cb Cd ?_; clear Cb Cd; intro Cb Cd; replace HB := ho hb; clear hb; have Ks := dG Cb.out; have Kt := dG Cd.out))
   go_ret
   exact ⟨er, bl⟩
  obtain rfl := Option.some.inj H
  go_enter Tryz.func10, Tryz.ntmps10
  go_wp2_with (first | ((with_reducible refine g_ 2 ?_); refine bx 2 #[.slice A0_0 l0_0.length c0_0, .int .i64 a0_1, .int .i64 a0_2, .int .i64 a0_3, .int .i64 a0_4] 34 ?_; intro Dn hg w41 hbox hb; have Cb := am hbox; have Dp := am (bsz hg : w.heap.size ≤ Dn); have Ez := Dp; replace HB := ho hb; clear hb hbox hg) | ((with_reducible refine g_ 3 ?_); refine bx 3 #[.slice A1_0 l1_0.length c1_0, .int .i64 a1_1, .int .i64 a1_2, .int .i64 a1_3, .int .i64 a1_4] 34 ?_; intro Dq hg w42 hbox hb; have Cd := am hbox; have Dt := am (bsz hg : w.heap.size ≤ Dq); have Ga := Dt; have Cc := no hg Cb; have Ci := am Cc.out.symm; replace Cb := bo Cb hb; replace HB := ho hb; clear hb hbox hg; have Jk := Cc.out; have Jl := Ci.out; have Ku := dG Cb.out; have Kv := dG Cd.out) | ((with_reducible refine c_ 29 ?_); refine gc 29 (some 9) Tryz.func29 (bK.calls _ _ _ _ _ _ _ _ _ ?Du ?Dv ?Dw ?Dx A3.out) ?_; (case Du => exact cb Ep.out); (case Dv => exact Es.out); (case Dw => exact cb Et.out); (case Dx => exact Eu.out); rintro e w46 ⟨rfl, hb⟩; refine ⟨_, rfl, ?_⟩; refine r2_ hb Cb Cd ?_; clear Cb Cd; intro Cb Cd; replace HB := ho hb; clear hb; have Kw := dG Cb.out; have Kx := dG Cd.out))
  go_ret
  exact ⟨er, bl⟩
 obtain rfl := Option.some.inj H
 go_enter Tryz.func10, Tryz.ntmps10
 go_wp2_with (first | ((with_reducible refine g_ 2 ?_); refine bx 2 #[.slice A0_0 l0_0.length c0_0, .int .i64 a0_1, .int .i64 a0_2, .int .i64 a0_3, .int .i64 a0_4] 34 ?_; intro Dn hg w49 hbox hb; have Cb := am hbox; have Dp := am (bsz hg : w.heap.size ≤ Dn); have Ez := Dp; replace HB := ho hb; clear hb hbox hg) | ((with_reducible refine g_ 3 ?_); refine bx 3 #[.slice A1_0 l1_0.length c1_0, .int .i64 a1_1, .int .i64 a1_2, .int .i64 a1_3, .int .i64 a1_4] 34 ?_; intro Dq hg w50 hbox hb; have Cd := am hbox; have Dt := am (bsz hg : w.heap.size ≤ Dq); have Ga := Dt; have Cc := no hg Cb; have Ci := am Cc.out.symm; replace Cb := bo Cb hb; replace HB := ho hb; clear hb hbox hg; have Jm := Cc.out; have Jn := Ci.out; have Ky := dG Cb.out; have Kz := dG Cd.out) | ((with_reducible refine c_ 29 ?_); refine gc 29 (some 9) Tryz.func29 (bK.calls _ _ _ _ _ _ _ _ _ ?Du ?Dv ?Dw ?Dx A3.out) ?_; (case Du => exact cb Ep.out); (case Dv => exact Es.out); (case Dw => exact cb Et.out); (case Dx => exact Eu.out); rintro e w54 ⟨rfl, hb⟩; refine ⟨_, rfl, ?_⟩; refine r2_ hb Cb Cd ?_; clear Cb Cd; intro Cb Cd; replace HB := ho hb; clear hb))
 go_ret
 exact ⟨er, bl⟩
def bN.l0 : Nat → List ByteArray → List ByteArray → Int → Option (Bool)
 | 0, _, _, _ => none
 | k + 1, x0, x1, x5 => if x5 < (x0.length : Int) then (if 0 ≤ x5 then (if x5 < (x1.length : Int) then (if (fG ByteArray.empty x0 x5).toList = (fG ByteArray.empty x1 x5).toList then (bN.l0 k x0 x1 (wrap64 (x5 + 1))) else (some false)) else (none)) else (none)) else (some true)
def bN.f (k : Nat) (l0 : List ByteArray) (l1 : List ByteArray) : Option (Bool) := if (l0.length : Int) = (l1.length : Int) then (bN.l0 k l0 l1 0) else (some false)
theorem bN.bI : ∀ k, (∀ y0 y1 y2, LeO (bN.l0 k y0 y1 y2) (bN.l0 (k + 1) y0 y1 y2))
 | 0 => fun _ _ _ r h => by simp [bN.l0] at h
 | k + 1 => by
  have ih0 := bN.bI k
  ·intro y0 y1 y2
   unfold bN.l0
   exact mo
theorem bN.mono : ∀ a0 a1 k, LeO (bN.f k a0 a1) (bN.f (k + 1) a0 a1) := by
 intro a0 a1 k
 have ih0 := bN.bI k
 unfold bN.f
 exact mo
theorem bN.calls (k : Nat) (A0 : Option Addr) (c0 : Nat) (l0 : List ByteArray) (A1 : Option Addr) (c1 : Nat) (l1 : List ByteArray) (r : Bool) (w : World) (hr0 : Kd.C Kd.string w A0 l0.length l0) (hc0 : l0.length ≤ c0) (hr1 : Kd.C Kd.string w A1 l1.length l1) (hc1 : l1.length ≤ c1) (h : bN.f k l0 l1 = some r) :
  Calls Tryz.prog 30 #[.slice A0 l0.length c0, .slice A1 l1.length c1] w fun e w' => e = .returned (.bool r) ∧ eT w w' := by
 have Ij := am hr0
 have Jz := am hc0
 clear hr0 hc0
 have Ik := am hr1
 have Ka := am hc1
 clear hr1 hc1
 have H := h
 clear h
 unfold bN.f at H
 revert H; refine iQn (fun c3 Ew Ey H => ?_) fun c3 Ew Ey H => ?_
 ·have Gx : (l0.length == l1.length) = true := by first | simpa using c3 | (simp at c3 ⊢; omega)
  clear c3
  have H' := am H; clear H
  go_enter Tryz.func30, Tryz.ntmps30
  go_wp2
  repeat (go_quiet (fail); try go_wp2)
  go_loopg [5] k (fun kq v5 w' => ∃ (x5_1 : Int), v5 = .int .i64 x5_1 ∧ aa (bN.l0 kq l0 l1 x5_1 = some r) ∧ aa (kq ≤ k) ∧ eT w w')
  case atStart => exact ⟨(0), rs, H', ⟨Nat.le_refl _⟩, dr⟩
  case round =>
   clear H'
   try clear c1; try clear c3; try clear Ew; try clear Ey; try clear Gx
   obtain ⟨x5_1, rfl, HA, Il, ⟨m1, rfl⟩⟩ := hrel
   cases gk with
   | zero => exact absurd HA.out (by simp [bN.l0])
   | succ k1 =>
    have H := HA.out
    clear HA
    simp only [bN.l0] at H
    revert H; refine iDb (fun Gf H => ?_) fun Gf H => ?_
    ·revert H; refine i1 fun Gg H => ?_
     revert H; refine i1 fun Gy H => ?_
     revert H; refine iQ (fun Ih Ii H => ?_) fun c7 Ih Ii H => ?_
     ·have H' := am H; clear H
      have Gl : 0 ≤ (x5_1 : Int) := ode
      have Gm : x5_1 < (l0.length : Int) := ode
      obtain ⟨Ip, e442, Ib⟩ := Kd.eQ Ij.out x5_1 Gl Gm
      cases e442
      replace Gl := eq_true Gl
      replace Gm := eq_true Gm
      have Gn : 0 ≤ (x5_1 : Int) := ode
      have Gp : x5_1 < (l1.length : Int) := ode
      obtain ⟨Iq, e443, Ic⟩ := Kd.eQ Ik.out x5_1 Gn Gp
      cases e443
      replace Gn := eq_true Gn
      replace Gp := eq_true Gp
      go_wp2
      repeat (go_quiet (fail); try go_wp2)
      go_roundg k1
      case measure => have := Il.out; omega
      case rel => exact ⟨(wrap64 (x5_1 + 1)), rs, H', ⟨by have := Il.out; omega⟩, dr⟩
     obtain rfl := Option.some.inj H
     have Gl : 0 ≤ (x5_1 : Int) := ode
     have Gm : x5_1 < (l0.length : Int) := ode
     obtain ⟨Ip, e442, Ib⟩ := Kd.eQ Ij.out x5_1 Gl Gm
     cases e442
     replace Gl := eq_true Gl
     replace Gm := eq_true Gm
     have Gn : 0 ≤ (x5_1 : Int) := ode
     have Gp : x5_1 < (l1.length : Int) := ode
     obtain ⟨Iq, e443, Ic⟩ := Kd.eQ Ik.out x5_1 Gn Gp
     cases e443
     replace Gn := eq_true Gn
     replace Gp := eq_true Gp
     go_wp2
     repeat (go_quiet (fail); try go_wp2)
     go_ret
     exact ⟨rs, dr⟩
    obtain rfl := Option.some.inj H
    go_wp2
    repeat (go_quiet (fail); try go_wp2)
    go_ret
    exact ⟨rs, dr⟩
 have Gx : (l0.length == l1.length) = false := by first | simpa using c3 | (simp at c3 ⊢; omega)
 obtain rfl := Option.some.inj H
 go_enter Tryz.func30, Tryz.ntmps30
 go_wp2
 repeat (go_quiet (fail); try go_wp2)
 go_ret
 exact ⟨rs, dr⟩
def gY.f (a0_0 : ByteArray) (a0_1 : Int) (a0_2 : Int) (a0_3 : Int) (a1_0 : ByteArray) (a1_1 : Int) (a1_2 : Int) (a1_3 : Int) : Option (Bool) := if a0_0.toList = a1_0.toList then (if a0_1 = a1_1 then (if a0_2 = a1_2 then (if a0_3 = a1_3 then (some true) else (some false)) else (some false)) else (some false)) else (some false)
theorem gY.calls (a0_0 : ByteArray) (a0_1 : Int) (a0_2 : Int) (a0_3 : Int) (a1_0 : ByteArray) (a1_1 : Int) (a1_2 : Int) (a1_3 : Int) (r : Bool) (w : World) (h : gY.f a0_0 a0_1 a0_2 a0_3 a1_0 a1_1 a1_2 a1_3 = some r) :
  Calls Tryz.prog 56 #[.agg #[.string a0_0, .int .i64 a0_1, .int .i64 a0_2, .int .i64 a0_3], .agg #[.string a1_0, .int .i64 a1_1, .int .i64 a1_2, .int .i64 a1_3]] w fun e w' => e = .returned (.bool r) ∧ Below w.heap.size w w' := by
 have hu83 := Tryz.underlying83
 have HB := am (Below.refl w.heap.size w)
 have H := h
 clear h
 unfold gY.f at H
 revert H; refine iQ (fun Ew Ey H => ?_) fun c3 Ew Ey H => ?_
 ·revert H; refine iQ (fun Gf Ie H => ?_) fun c4 Gf Ie H => ?_
  ·revert H; refine iQ (fun Gg Gu H => ?_) fun c5 Gg Gu H => ?_
   ·revert H; refine iQ (fun Gy Ig H => ?_) fun c6 Gy Ig H => ?_
    ·obtain rfl := Option.some.inj H
     go_enter Tryz.func56, Tryz.ntmps56
     go_wp2_with (first | ((with_reducible refine g_ 2 ?_); refine bx 2 #[.string a0_0, .int .i64 a0_1, .int .i64 a0_2, .int .i64 a0_3] 83 ?_; intro Ee hg w7 hbox hb; have Cj := am hbox; have Ef := am (bsz hg : w.heap.size ≤ Ee); have Gq := Ef; replace HB := ho hb; clear hb hbox hg) | ((with_reducible refine g_ 3 ?_); refine bx 3 #[.string a1_0, .int .i64 a1_1, .int .i64 a1_2, .int .i64 a1_3] 83 ?_; intro Eg hg w8 hbox hb; have Eh := am hbox; have Ei := am (bsz hg : w.heap.size ≤ Eg); have Gs := Ei; have Ce := no hg Cj; have Cm := am Ce.out.symm; replace Cj := bo Cj hb; replace HB := ho hb; clear hb hbox hg; have Kg := Ce.out; have Kh := Cm.out; have Jw := jw Cj.out; have La := jw Eh.out))
     go_ret
     exact ⟨er, bl⟩
    obtain rfl := Option.some.inj H
    go_enter Tryz.func56, Tryz.ntmps56
    go_wp2_with (first | ((with_reducible refine g_ 2 ?_); refine bx 2 #[.string a0_0, .int .i64 a0_1, .int .i64 a0_2, .int .i64 a0_3] 83 ?_; intro Ee hg w12 hbox hb; have Cj := am hbox; have Ef := am (bsz hg : w.heap.size ≤ Ee); have Gq := Ef; replace HB := ho hb; clear hb hbox hg) | ((with_reducible refine g_ 3 ?_); refine bx 3 #[.string a1_0, .int .i64 a1_1, .int .i64 a1_2, .int .i64 a1_3] 83 ?_; intro Eg hg w13 hbox hb; have Eh := am hbox; have Ei := am (bsz hg : w.heap.size ≤ Eg); have Gs := Ei; have Ce := no hg Cj; have Cm := am Ce.out.symm; replace Cj := bo Cj hb; replace HB := ho hb; clear hb hbox hg; have Jo := Ce.out; have Jp := Cm.out; have Iy := jw Cj.out; have Kb := jw Eh.out))
    go_ret
    exact ⟨er, bl⟩
   obtain rfl := Option.some.inj H
   go_enter Tryz.func56, Tryz.ntmps56
   go_wp2_with (first | ((with_reducible refine g_ 2 ?_); refine bx 2 #[.string a0_0, .int .i64 a0_1, .int .i64 a0_2, .int .i64 a0_3] 83 ?_; intro Ee hg w17 hbox hb; have Cj := am hbox; have Ef := am (bsz hg : w.heap.size ≤ Ee); have Gq := Ef; replace HB := ho hb; clear hb hbox hg) | ((with_reducible refine g_ 3 ?_); refine bx 3 #[.string a1_0, .int .i64 a1_1, .int .i64 a1_2, .int .i64 a1_3] 83 ?_; intro Eg hg w18 hbox hb; have Eh := am hbox; have Ei := am (bsz hg : w.heap.size ≤ Eg); have Gs := Ei; have Ce := no hg Cj; have Cm := am Ce.out.symm; replace Cj := bo Cj hb; replace HB := ho hb; clear hb hbox hg; have Im := Ce.out; have Io := Cm.out; have Jb := jw Cj.out; have Ke := jw Eh.out))
   go_ret
   exact ⟨er, bl⟩
  obtain rfl := Option.some.inj H
  go_enter Tryz.func56, Tryz.ntmps56
  go_wp2_with (first | ((with_reducible refine g_ 2 ?_); refine bx 2 #[.string a0_0, .int .i64 a0_1, .int .i64 a0_2, .int .i64 a0_3] 83 ?_; intro Ee hg w22 hbox hb; have Cj := am hbox; have Ef := am (bsz hg : w.heap.size ≤ Ee); have Gq := Ef; replace HB := ho hb; clear hb hbox hg) | ((with_reducible refine g_ 3 ?_); refine bx 3 #[.string a1_0, .int .i64 a1_1, .int .i64 a1_2, .int .i64 a1_3] 83 ?_; intro Eg hg w23 hbox hb; have Eh := am hbox; have Ei := am (bsz hg : w.heap.size ≤ Eg); have Gs := Ei; have Ce := no hg Cj; have Cm := am Ce.out.symm; replace Cj := bo Cj hb; replace HB := ho hb; clear hb hbox hg; have Jq := Ce.out; have Jr := Cm.out; have Jy := jw Cj.out; have Lc := jw Eh.out))
  go_ret
  exact ⟨er, bl⟩
 obtain rfl := Option.some.inj H
 go_enter Tryz.func56, Tryz.ntmps56
 go_wp2_with (first | ((with_reducible refine g_ 2 ?_); refine bx 2 #[.string a0_0, .int .i64 a0_1, .int .i64 a0_2, .int .i64 a0_3] 83 ?_; intro Ee hg w27 hbox hb; have Cj := am hbox; have Ef := am (bsz hg : w.heap.size ≤ Ee); have Gq := Ef; replace HB := ho hb; clear hb hbox hg) | ((with_reducible refine g_ 3 ?_); refine bx 3 #[.string a1_0, .int .i64 a1_1, .int .i64 a1_2, .int .i64 a1_3] 83 ?_; intro Eg hg w28 hbox hb; have Eh := am hbox; have Ei := am (bsz hg : w.heap.size ≤ Eg); have Gs := Ei; have Ce := no hg Cj; have Cm := am Ce.out.symm; replace Cj := bo Cj hb; replace HB := ho hb; clear hb hbox hg; have Js := Ce.out; have Jt := Cm.out; have Ld := jw Cj.out; have Kf := jw Eh.out))
 go_ret
 exact ⟨er, bl⟩
def bD.l0 : Nat → List (S83) → List (S83) → Int → Option (Bool)
 | 0, _, _, _ => none
 | k + 1, x0, x1, x5 => if x5 < (x0.length : Int) then (if 0 ≤ x5 then (if x5 < (x1.length : Int) then ((gY.f ((aX x0 x5).f0) ((aX x0 x5).f1) ((aX x0 x5).f2) ((aX x0 x5).f3) ((aX x1 x5).f0) ((aX x1 x5).f1) ((aX x1 x5).f2) ((aX x1 x5).f3)).bind fun t448 => (if t448 = true then (bD.l0 k x0 x1 (wrap64 (x5 + 1))) else (some false))) else (none)) else (none)) else (some true)
def bD.f (k : Nat) (l0 : List (S83)) (l1 : List (S83)) : Option (Bool) := if (l0.length : Int) = (l1.length : Int) then (bD.l0 k l0 l1 0) else (some false)
theorem bD.bI : ∀ k, (∀ y0 y1 y2, LeO (bD.l0 k y0 y1 y2) (bD.l0 (k + 1) y0 y1 y2))
 | 0 => fun _ _ _ r h => by simp [bD.l0] at h
 | k + 1 => by
  have ih0 := bD.bI k
  ·intro y0 y1 y2
   unfold bD.l0
   exact mo
theorem bD.mono : ∀ a0 a1 k, LeO (bD.f k a0 a1) (bD.f (k + 1) a0 a1) := by
 intro a0 a1 k
 have ih0 := bD.bI k
 unfold bD.f
 exact mo
def bD.T6 : Bool × List (List Nat × List Nat) := (true, [([], []), ([], []), ([0, 1], [0, 1]), ([2], [2]), ([], []), ([], []), ([4, 5], [4, 5]), ([6], [6]), ([3, 7], [3, 7]), ([8], [8])])
def bD.B6 : List Nat := [0, 0, 3, 7, 0, 0, 48, 112, 255, 511]
theorem bD.nN : iy .any (opsOf Tryz.f31 6) = bD.T6 := by kernel_rfl
theorem bD.kV : gm bD.T6.2 bD.B6 = true := by kernel_rfl
theorem bD.calls (k : Nat) (A0 : Option Addr) (c0 : Nat) (l0 : List (S83)) (A1 : Option Addr) (c1 : Nat) (l1 : List (S83)) (r : Bool) (w : World) (hr0 : Kd.C k83 w A0 l0.length l0) (hc0 : l0.length ≤ c0) (hr1 : Kd.C k83 w A1 l1.length l1) (hc1 : l1.length ≤ c1) (h : bD.f k l0 l1 = some r) :
  Calls Tryz.prog 31 #[.slice A0 l0.length c0, .slice A1 l1.length c1] w fun e w' => e = .returned (.bool r) ∧ Below w.heap.size w w' := by
 have hu83 := Tryz.underlying83
 have Gy := am hr0
 have Iy := am hc0
 clear hr0 hc0
 have Gz := am hr1
 have Iz := am hc1
 clear hr1 hc1
 have HB := am (Below.refl w.heap.size w)
 have H := h
 clear h
 unfold bD.f at H
 revert H; refine iQn (fun c3 Ez Ga H => ?_) fun c3 Ez Ga H => ?_
 ·have Gn : (l0.length == l1.length) = true := by first | simpa using c3 | (simp at c3 ⊢; omega)
  clear c3
  have H' := am H; clear H
  go_enter Tryz.func31, Tryz.ntmps31
  go_wp2
  go_loopg [5] k (fun kq v5 w' => ∃ (x5_1 : Int), v5 = .int .i64 x5_1 ∧ aa (bD.l0 kq l0 l1 x5_1 = some r) ∧ aa (kq ≤ k) ∧ aa (Below w.heap.size w w'))
  case atStart => exact ⟨(0), rs, H', ⟨Nat.le_refl _⟩, ⟨bl⟩⟩
  case round =>
   clear H'
   try clear c1; try clear c3; try clear Ez; try clear Ga; try clear Gn
   obtain ⟨x5_1, rfl, HA, Ia, HB⟩ := hrel
   cases gk with
   | zero => exact absurd HA.out (by simp [bD.l0])
   | succ k1 =>
    have H := HA.out
    clear HA
    simp only [bD.l0] at H
    revert H; refine iDb (fun Gp H => ?_) fun Gp H => ?_
    ·revert H; refine i1 fun Gw H => ?_
     revert H; refine i1 fun Gx H => ?_
     revert H; refine bj fun t448 A7 H => ?_
     replace H := iT H; rcases H with ⟨rfl, H⟩ | ⟨rfl, H⟩
     ·have H' := am H; clear H
      try go_wp2
      replace HB := am (bg HB.out)
      have Gf : 0 ≤ (x5_1 : Int) := ode
      have Gg : x5_1 < (l0.length : Int) := ode
      obtain ⟨Gq, e446, Ce, Cf, Ci, Cj⟩ := jE Gy.out x5_1 Gf Gg
      have Ea := Cj
      have Eb := Ci
      have Ec := Cf
      have Ed := Ce
      cases e446
      obtain ⟨Ce, Cf, Ci, Cj⟩ := hb4 HB.out Ce Cf Ci Cj
      replace Gf := eq_true Gf
      replace Gg := eq_true Gg
      have Gh : 0 ≤ (x5_1 : Int) := ode
      have Gi : x5_1 < (l1.length : Int) := ode
      obtain ⟨Gs, e447, Cm, Cn, Dc, Df⟩ := jE Gz.out x5_1 Gh Gi
      have Ee := Df
      have Ef := Dc
      have Eg := Cn
      have Eh := Cm
      cases e447
      obtain ⟨Cm, Cn, Dc, Df⟩ := hb4 HB.out Cm Cn Dc Df
      replace Gh := eq_true Gh
      replace Gi := eq_true Gi
      refine eH (n := 10) (S := Sa4a4 (Gq.add ((x5_1).toNat * 4)) (.string ((aX l0 x5_1).f0)) (.int .i64 ((aX l0 x5_1).f1)) (.int .i64 ((aX l0 x5_1).f2)) (.int .i64 ((aX l0 x5_1).f3)) (Gs.add ((x5_1).toNat * 4)) (.string ((aX l1 x5_1).f0)) (.int .i64 ((aX l1 x5_1).f1)) (.int .i64 ((aX l1 x5_1).f2)) (.int .i64 ((aX l1 x5_1).f3))) (ds := []) #[F_, F_, F_, F_, F_, F_, F_, F_, F_, F_] (by kernel_rfl) rfl rfl ⟨(hbc HB.out Ed), (hbc HB.out Ec), (hbc HB.out Eb), (hbc HB.out Ea), (hbc HB.out Eh), (hbc HB.out Eg), (hbc HB.out Ef), (hbc HB.out Ee)⟩ (fun hHeld => ?_); refine dJ bD.nN bD.kV (fun HT_ HW_ => ?_)
      generalize wr.drew = w9 at HB Ce Cf Ci Cj Cm Cn Dc Df hHeld ⊢
      refine pv 0 17 ?_
      refine pv 1 18 ?_
      refine pv 2 19 ?_
      refine pv 4 21 ?_
      refine pv 5 22 ?_
      refine pv 6 23 ?_
      refine tv8 3 20 hHeld ?_
      refine tv8 7 24 hHeld ?_
      refine ov 8 25 (fun K hK => ?_)
      refine gk Tryz.func56 (gY.calls _ _ _ _ _ _ _ _ _ _ A7.out) ?_
      rintro e w10 ⟨rfl, hb⟩
      refine ⟨_, rfl, ?_⟩
      replace HB := ho hb
      refine hK.out _ _ ⟨(hbc HB.out Ed), (hbc HB.out Ec), (hbc HB.out Eb), (hbc HB.out Ea), (hbc HB.out Eh), (hbc HB.out Eg), (hbc HB.out Ef), (hbc HB.out Ee)⟩ (fun hHeld => ?_)
      clear hK K
      refine dn (a' := ?_) ?_ ?_
      rotate_left
      ·show Act.put _ (some 25) _ = _
       simp only [Act.put, z1, z2, z3, bu, bv]
       rfl
      refine pv 9 26 ?_
      refine fF (eF HT_.out (by kernel_rfl)) ?_
      try go_wp2
      go_roundg k1
      case measure => have := Ia.out; omega
      case rel => exact ⟨(wrap64 (x5_1 + 1)), rs, H', ⟨by have := Ia.out; omega⟩, ⟨bl⟩⟩
     obtain rfl := Option.some.inj H
     try go_wp2
     replace HB := am (bg HB.out)
     have Gf : 0 ≤ (x5_1 : Int) := ode
     have Gg : x5_1 < (l0.length : Int) := ode
     obtain ⟨Gq, e446, Ce, Cf, Ci, Cj⟩ := jE Gy.out x5_1 Gf Gg
     have Ea := Cj
     have Eb := Ci
     have Ec := Cf
     have Ed := Ce
     cases e446
     obtain ⟨Ce, Cf, Ci, Cj⟩ := hb4 HB.out Ce Cf Ci Cj
     replace Gf := eq_true Gf
     replace Gg := eq_true Gg
     have Gh : 0 ≤ (x5_1 : Int) := ode
     have Gi : x5_1 < (l1.length : Int) := ode
     obtain ⟨Gs, e447, Cm, Cn, Dc, Df⟩ := jE Gz.out x5_1 Gh Gi
     have Ee := Df
     have Ef := Dc
     have Eg := Cn
     have Eh := Cm
     cases e447
     obtain ⟨Cm, Cn, Dc, Df⟩ := hb4 HB.out Cm Cn Dc Df
     replace Gh := eq_true Gh
     replace Gi := eq_true Gi
     refine eH (n := 10) (S := Sa4a4 (Gq.add ((x5_1).toNat * 4)) (.string ((aX l0 x5_1).f0)) (.int .i64 ((aX l0 x5_1).f1)) (.int .i64 ((aX l0 x5_1).f2)) (.int .i64 ((aX l0 x5_1).f3)) (Gs.add ((x5_1).toNat * 4)) (.string ((aX l1 x5_1).f0)) (.int .i64 ((aX l1 x5_1).f1)) (.int .i64 ((aX l1 x5_1).f2)) (.int .i64 ((aX l1 x5_1).f3))) (ds := []) #[F_, F_, F_, F_, F_, F_, F_, F_, F_, F_] (by kernel_rfl) rfl rfl ⟨(hbc HB.out Ed), (hbc HB.out Ec), (hbc HB.out Eb), (hbc HB.out Ea), (hbc HB.out Eh), (hbc HB.out Eg), (hbc HB.out Ef), (hbc HB.out Ee)⟩ (fun hHeld => ?_); refine dJ bD.nN bD.kV (fun HT_ HW_ => ?_)
     generalize wr.drew = w11 at HB Ce Cf Ci Cj Cm Cn Dc Df hHeld ⊢
     refine pv 0 17 ?_
     refine pv 1 18 ?_
     refine pv 2 19 ?_
     refine pv 4 21 ?_
     refine pv 5 22 ?_
     refine pv 6 23 ?_
     refine tv8 3 20 hHeld ?_
     refine tv8 7 24 hHeld ?_
     refine ov 8 25 (fun K hK => ?_)
     refine gk Tryz.func56 (gY.calls _ _ _ _ _ _ _ _ _ _ A7.out) ?_
     rintro e w12 ⟨rfl, hb⟩
     refine ⟨_, rfl, ?_⟩
     replace HB := ho hb
     refine hK.out _ _ ⟨(hbc HB.out Ed), (hbc HB.out Ec), (hbc HB.out Eb), (hbc HB.out Ea), (hbc HB.out Eh), (hbc HB.out Eg), (hbc HB.out Ef), (hbc HB.out Ee)⟩ (fun hHeld => ?_)
     clear hK K
     refine dn (a' := ?_) ?_ ?_
     rotate_left
     ·show Act.put _ (some 25) _ = _
      simp only [Act.put, z1, z2, z3, bu, bv]
      rfl
     refine pv 9 26 ?_
     refine fF (eF HT_.out (by kernel_rfl)) ?_
     try go_wp2
     go_ret
     exact ⟨er, bl⟩
    obtain rfl := Option.some.inj H
    go_wp2
    go_ret
    exact ⟨er, bl⟩
 have Gn : (l0.length == l1.length) = false := by first | simpa using c3 | (simp at c3 ⊢; omega)
 obtain rfl := Option.some.inj H
 go_enter Tryz.func31, Tryz.ntmps31
 go_wp2
 go_ret
 exact ⟨er, bl⟩
def iC.f (a0_0 : Int) (a0_1 : ByteArray) (a0_2 : ByteArray) (a0_3 : Int) (a0_4 : Int) (a1_0 : Int) (a1_1 : ByteArray) (a1_2 : ByteArray) (a1_3 : Int) (a1_4 : Int) : Option (Bool) := if a0_0 = a1_0 then (if a0_1.toList = a1_1.toList then (if a0_2.toList = a1_2.toList then (if a0_3 = a1_3 then (if a0_4 = a1_4 then (some true) else (some false)) else (some false)) else (some false)) else (some false)) else (some false)
theorem iC.calls (a0_0 : Int) (a0_1 : ByteArray) (a0_2 : ByteArray) (a0_3 : Int) (a0_4 : Int) (a1_0 : Int) (a1_1 : ByteArray) (a1_2 : ByteArray) (a1_3 : Int) (a1_4 : Int) (r : Bool) (w : World) (h : iC.f a0_0 a0_1 a0_2 a0_3 a0_4 a1_0 a1_1 a1_2 a1_3 a1_4 = some r) :
  Calls Tryz.prog 57 #[.agg #[.int .i64 a0_0, .string a0_1, .string a0_2, .int .i64 a0_3, .int .i64 a0_4], .agg #[.int .i64 a1_0, .string a1_1, .string a1_2, .int .i64 a1_3, .int .i64 a1_4]] w fun e w' => e = .returned (.bool r) ∧ Below w.heap.size w w' := by
 have hu88 := Tryz.underlying88
 have HB := am (Below.refl w.heap.size w)
 have H := h
 clear h
 unfold iC.f at H
 revert H; refine iQ (fun Ez Ga H => ?_) fun c3 Ez Ga H => ?_
 ·revert H; refine iQ (fun Gp Ib H => ?_) fun c4 Gp Ib H => ?_
  ·revert H; refine iQ (fun Gw Ic H => ?_) fun c5 Gw Ic H => ?_
   ·revert H; refine iQ (fun Gx Ie H => ?_) fun c6 Gx Ie H => ?_
    ·revert H; refine iQ (fun Ig Ih H => ?_) fun c7 Ig Ih H => ?_
     ·obtain rfl := Option.some.inj H
      go_enter Tryz.func57, Tryz.ntmps57
      go_wp2_with (first | ((with_reducible refine g_ 2 ?_); refine bx 2 #[.int .i64 a0_0, .string a0_1, .string a0_2, .int .i64 a0_3, .int .i64 a0_4] 88 ?_; intro Dv hg w8 hbox hb; have Cc := am hbox; have Dw := am (bsz hg : w.heap.size ≤ Dv); have Ew := Dw; replace HB := ho hb; clear hb hbox hg) | ((with_reducible refine g_ 3 ?_); refine bx 3 #[.int .i64 a1_0, .string a1_1, .string a1_2, .int .i64 a1_3, .int .i64 a1_4] 88 ?_; intro Dx hg w9 hbox hb; have Dy := am hbox; have Dz := am (bsz hg : w.heap.size ≤ Dx); have Ey := Dz; have Cb := no hg Cc; have Cd := am Cb.out.symm; replace Cc := bo Cc hb; replace HB := ho hb; clear hb hbox hg; have Ii := Cb.out; have Ij := Cd.out; have Ja := dG Cc.out; have Jb := dG Dy.out))
      go_ret
      exact ⟨er, bl⟩
     obtain rfl := Option.some.inj H
     go_enter Tryz.func57, Tryz.ntmps57
     go_wp2_with (first | ((with_reducible refine g_ 2 ?_); refine bx 2 #[.int .i64 a0_0, .string a0_1, .string a0_2, .int .i64 a0_3, .int .i64 a0_4] 88 ?_; intro Dv hg w13 hbox hb; have Cc := am hbox; have Dw := am (bsz hg : w.heap.size ≤ Dv); have Ew := Dw; replace HB := ho hb; clear hb hbox hg) | ((with_reducible refine g_ 3 ?_); refine bx 3 #[.int .i64 a1_0, .string a1_1, .string a1_2, .int .i64 a1_3, .int .i64 a1_4] 88 ?_; intro Dx hg w14 hbox hb; have Dy := am hbox; have Dz := am (bsz hg : w.heap.size ≤ Dx); have Ey := Dz; have Cb := no hg Cc; have Cd := am Cb.out.symm; replace Cc := bo Cc hb; replace HB := ho hb; clear hb hbox hg; have Ik := Cb.out; have Il := Cd.out; have Jc := dG Cc.out; have Jd := dG Dy.out))
     go_ret
     exact ⟨er, bl⟩
    obtain rfl := Option.some.inj H
    go_enter Tryz.func57, Tryz.ntmps57
    go_wp2_with (first | ((with_reducible refine g_ 2 ?_); refine bx 2 #[.int .i64 a0_0, .string a0_1, .string a0_2, .int .i64 a0_3, .int .i64 a0_4] 88 ?_; intro Dv hg w18 hbox hb; have Cc := am hbox; have Dw := am (bsz hg : w.heap.size ≤ Dv); have Ew := Dw; replace HB := ho hb; clear hb hbox hg) | ((with_reducible refine g_ 3 ?_); refine bx 3 #[.int .i64 a1_0, .string a1_1, .string a1_2, .int .i64 a1_3, .int .i64 a1_4] 88 ?_; intro Dx hg w19 hbox hb; have Dy := am hbox; have Dz := am (bsz hg : w.heap.size ≤ Dx); have Ey := Dz; have Cb := no hg Cc; have Cd := am Cb.out.symm; replace Cc := bo Cc hb; replace HB := ho hb; clear hb hbox hg; have Im := Cb.out; have Io := Cd.out; have Je := dG Cc.out; have Jf := dG Dy.out))
    go_ret
    exact ⟨er, bl⟩
   obtain rfl := Option.some.inj H
   go_enter Tryz.func57, Tryz.ntmps57
   go_wp2_with (first | ((with_reducible refine g_ 2 ?_); refine bx 2 #[.int .i64 a0_0, .string a0_1, .string a0_2, .int .i64 a0_3, .int .i64 a0_4] 88 ?_; intro Dv hg w23 hbox hb; have Cc := am hbox; have Dw := am (bsz hg : w.heap.size ≤ Dv); have Ew := Dw; replace HB := ho hb; clear hb hbox hg) | ((with_reducible refine g_ 3 ?_); refine bx 3 #[.int .i64 a1_0, .string a1_1, .string a1_2, .int .i64 a1_3, .int .i64 a1_4] 88 ?_; intro Dx hg w24 hbox hb; have Dy := am hbox; have Dz := am (bsz hg : w.heap.size ≤ Dx); have Ey := Dz; have Cb := no hg Cc; have Cd := am Cb.out.symm; replace Cc := bo Cc hb; replace HB := ho hb; clear hb hbox hg; have Ip := Cb.out; have Iq := Cd.out; have Jg := dG Cc.out; have Jh := dG Dy.out))
   go_ret
   exact ⟨er, bl⟩
  obtain rfl := Option.some.inj H
  go_enter Tryz.func57, Tryz.ntmps57
  go_wp2_with (first | ((with_reducible refine g_ 2 ?_); refine bx 2 #[.int .i64 a0_0, .string a0_1, .string a0_2, .int .i64 a0_3, .int .i64 a0_4] 88 ?_; intro Dv hg w28 hbox hb; have Cc := am hbox; have Dw := am (bsz hg : w.heap.size ≤ Dv); have Ew := Dw; replace HB := ho hb; clear hb hbox hg) | ((with_reducible refine g_ 3 ?_); refine bx 3 #[.int .i64 a1_0, .string a1_1, .string a1_2, .int .i64 a1_3, .int .i64 a1_4] 88 ?_; intro Dx hg w29 hbox hb; have Dy := am hbox; have Dz := am (bsz hg : w.heap.size ≤ Dx); have Ey := Dz; have Cb := no hg Cc; have Cd := am Cb.out.symm; replace Cc := bo Cc hb; replace HB := ho hb; clear hb hbox hg; have Ir := Cb.out; have Iu := Cd.out; have Ji := dG Cc.out; have Jj := dG Dy.out))
  go_ret
  exact ⟨er, bl⟩
 obtain rfl := Option.some.inj H
 go_enter Tryz.func57, Tryz.ntmps57
 go_wp2_with (first | ((with_reducible refine g_ 2 ?_); refine bx 2 #[.int .i64 a0_0, .string a0_1, .string a0_2, .int .i64 a0_3, .int .i64 a0_4] 88 ?_; intro Dv hg w33 hbox hb; have Cc := am hbox; have Dw := am (bsz hg : w.heap.size ≤ Dv); have Ew := Dw; replace HB := ho hb; clear hb hbox hg) | ((with_reducible refine g_ 3 ?_); refine bx 3 #[.int .i64 a1_0, .string a1_1, .string a1_2, .int .i64 a1_3, .int .i64 a1_4] 88 ?_; intro Dx hg w34 hbox hb; have Dy := am hbox; have Dz := am (bsz hg : w.heap.size ≤ Dx); have Ey := Dz; have Cb := no hg Cc; have Cd := am Cb.out.symm; replace Cc := bo Cc hb; replace HB := ho hb; clear hb hbox hg; have Iw := Cb.out; have Ix := Cd.out; have Jk := dG Cc.out; have Jl := dG Dy.out))
 go_ret
 exact ⟨er, bl⟩
def bA.l0 : Nat → List (S88) → List (S88) → Int → Option (Bool)
 | 0, _, _, _ => none
 | k + 1, x0, x1, x5 => if x5 < (x0.length : Int) then (if 0 ≤ x5 then (if x5 < (x1.length : Int) then ((iC.f ((av x0 x5).f0) ((av x0 x5).f1) ((av x0 x5).f2) ((av x0 x5).f3) ((av x0 x5).f4) ((av x1 x5).f0) ((av x1 x5).f1) ((av x1 x5).f2) ((av x1 x5).f3) ((av x1 x5).f4)).bind fun t453 => (if t453 = true then (bA.l0 k x0 x1 (wrap64 (x5 + 1))) else (some false))) else (none)) else (none)) else (some true)
def bA.f (k : Nat) (l0 : List (S88)) (l1 : List (S88)) : Option (Bool) := if (l0.length : Int) = (l1.length : Int) then (bA.l0 k l0 l1 0) else (some false)
theorem bA.bI : ∀ k, (∀ y0 y1 y2, LeO (bA.l0 k y0 y1 y2) (bA.l0 (k + 1) y0 y1 y2))
 | 0 => fun _ _ _ r h => by simp [bA.l0] at h
 | k + 1 => by
  have ih0 := bA.bI k
  ·intro y0 y1 y2
   unfold bA.l0
   exact mo
theorem bA.mono : ∀ a0 a1 k, LeO (bA.f k a0 a1) (bA.f (k + 1) a0 a1) := by
 intro a0 a1 k
 have ih0 := bA.bI k
 unfold bA.f
 exact mo
def bA.T6 : Bool × List (List Nat × List Nat) := (true, [([], []), ([], []), ([0, 1], [0, 1]), ([2], [2]), ([], []), ([], []), ([4, 5], [4, 5]), ([6], [6]), ([3, 7], [3, 7]), ([8], [8])])
def bA.B6 : List Nat := [0, 0, 3, 7, 0, 0, 48, 112, 255, 511]
theorem bA.nN : iy .any (opsOf Tryz.f32 6) = bA.T6 := by kernel_rfl
theorem bA.kV : gm bA.T6.2 bA.B6 = true := by kernel_rfl
theorem bA.calls (k : Nat) (A0 : Option Addr) (c0 : Nat) (l0 : List (S88)) (A1 : Option Addr) (c1 : Nat) (l1 : List (S88)) (r : Bool) (w : World) (hr0 : Kd.C k88 w A0 l0.length l0) (hc0 : l0.length ≤ c0) (hr1 : Kd.C k88 w A1 l1.length l1) (hc1 : l1.length ≤ c1) (h : bA.f k l0 l1 = some r) :
  Calls Tryz.prog 32 #[.slice A0 l0.length c0, .slice A1 l1.length c1] w fun e w' => e = .returned (.bool r) ∧ Below w.heap.size w w' := by
 have hu88 := Tryz.underlying88
 have Gy := am hr0
 have Iy := am hc0
 clear hr0 hc0
 have Gz := am hr1
 have Iz := am hc1
 clear hr1 hc1
 have HB := am (Below.refl w.heap.size w)
 have H := h
 clear h
 unfold bA.f at H
 revert H; refine iQn (fun c3 Ez Ga H => ?_) fun c3 Ez Ga H => ?_
 ·have Gn : (l0.length == l1.length) = true := by first | simpa using c3 | (simp at c3 ⊢; omega)
  clear c3
  have H' := am H; clear H
  go_enter Tryz.func32, Tryz.ntmps32
  go_wp2
  go_loopg [5] k (fun kq v5 w' => ∃ (x5_1 : Int), v5 = .int .i64 x5_1 ∧ aa (bA.l0 kq l0 l1 x5_1 = some r) ∧ aa (kq ≤ k) ∧ aa (Below w.heap.size w w'))
  case atStart => exact ⟨(0), rs, H', ⟨Nat.le_refl _⟩, ⟨bl⟩⟩
  case round =>
   clear H'
   try clear c1; try clear c3; try clear Ez; try clear Ga; try clear Gn
   obtain ⟨x5_1, rfl, HA, Ia, HB⟩ := hrel
   cases gk with
   | zero => exact absurd HA.out (by simp [bA.l0])
   | succ k1 =>
    have H := HA.out
    clear HA
    simp only [bA.l0] at H
    revert H; refine iDb (fun Gp H => ?_) fun Gp H => ?_
    ·revert H; refine i1 fun Gw H => ?_
     revert H; refine i1 fun Gx H => ?_
     revert H; refine bj fun t453 A7 H => ?_
     replace H := iT H; rcases H with ⟨rfl, H⟩ | ⟨rfl, H⟩
     ·have H' := am H; clear H
      try go_wp2
      replace HB := am (bg HB.out)
      have Gj : 0 ≤ (x5_1 : Int) := ode
      have Gk : x5_1 < (l0.length : Int) := ode
      obtain ⟨Gu, e451, Dh, Di, Dj, Dk, Dl⟩ := ko Gy.out x5_1 Gj Gk
      have Ei := Dl
      have Ej := Dk
      have Ek := Dj
      have Em := Di
      have En := Dh
      cases e451
      obtain ⟨Dh, Di, Dj, Dk, Dl⟩ := hb5 HB.out Dh Di Dj Dk Dl
      replace Gj := eq_true Gj
      replace Gk := eq_true Gk
      have Gl : 0 ≤ (x5_1 : Int) := ode
      have Gm : x5_1 < (l1.length : Int) := ode
      obtain ⟨Gv, e452, Dn, Dp, Dq, Dt, Du⟩ := ko Gz.out x5_1 Gl Gm
      have Eo := Du
      have Ep := Dt
      have Es := Dq
      have Et := Dp
      have Eu := Dn
      cases e452
      obtain ⟨Dn, Dp, Dq, Dt, Du⟩ := hb5 HB.out Dn Dp Dq Dt Du
      replace Gl := eq_true Gl
      replace Gm := eq_true Gm
      refine eH (n := 10) (S := Sa5a5 (Gu.add ((x5_1).toNat * 5)) (.int .i64 ((av l0 x5_1).f0)) (.string ((av l0 x5_1).f1)) (.string ((av l0 x5_1).f2)) (.int .i64 ((av l0 x5_1).f3)) (.int .i64 ((av l0 x5_1).f4)) (Gv.add ((x5_1).toNat * 5)) (.int .i64 ((av l1 x5_1).f0)) (.string ((av l1 x5_1).f1)) (.string ((av l1 x5_1).f2)) (.int .i64 ((av l1 x5_1).f3)) (.int .i64 ((av l1 x5_1).f4))) (ds := []) #[F_, F_, F_, F_, F_, F_, F_, F_, F_, F_] (by kernel_rfl) rfl rfl ⟨(hbc HB.out En), (hbc HB.out Em), (hbc HB.out Ek), (hbc HB.out Ej), (hbc HB.out Ei), (hbc HB.out Eu), (hbc HB.out Et), (hbc HB.out Es), (hbc HB.out Ep), (hbc HB.out Eo)⟩ (fun hHeld => ?_); refine dJ bA.nN bA.kV (fun HT_ HW_ => ?_)
      generalize wr.drew = w9 at HB Dh Di Dj Dk Dl Dn Dp Dq Dt Du hHeld ⊢
      refine pv 0 17 ?_
      refine pv 1 18 ?_
      refine pv 2 19 ?_
      refine pv 4 21 ?_
      refine pv 5 22 ?_
      refine pv 6 23 ?_
      refine kK 3 20 hHeld ?_
      refine kK 7 24 hHeld ?_
      refine ov 8 25 (fun K hK => ?_)
      refine gk Tryz.func57 (iC.calls _ _ _ _ _ _ _ _ _ _ _ _ A7.out) ?_
      rintro e w10 ⟨rfl, hb⟩
      refine ⟨_, rfl, ?_⟩
      replace HB := ho hb
      refine hK.out _ _ ⟨(hbc HB.out En), (hbc HB.out Em), (hbc HB.out Ek), (hbc HB.out Ej), (hbc HB.out Ei), (hbc HB.out Eu), (hbc HB.out Et), (hbc HB.out Es), (hbc HB.out Ep), (hbc HB.out Eo)⟩ (fun hHeld => ?_)
      clear hK K
      refine dn (a' := ?_) ?_ ?_
      rotate_left
      ·show Act.put _ (some 25) _ = _
       simp only [Act.put, z1, z2, z3, bu, bv]
       rfl
      refine pv 9 26 ?_
      refine fF (eF HT_.out (by kernel_rfl)) ?_
      try go_wp2
      go_roundg k1
      case measure => have := Ia.out; omega
      case rel => exact ⟨(wrap64 (x5_1 + 1)), rs, H', ⟨by have := Ia.out; omega⟩, ⟨bl⟩⟩
     obtain rfl := Option.some.inj H
     try go_wp2
     replace HB := am (bg HB.out)
     have Gj : 0 ≤ (x5_1 : Int) := ode
     have Gk : x5_1 < (l0.length : Int) := ode
     obtain ⟨Gu, e451, Dh, Di, Dj, Dk, Dl⟩ := ko Gy.out x5_1 Gj Gk
     have Ei := Dl
     have Ej := Dk
     have Ek := Dj
     have Em := Di
     have En := Dh
     cases e451
     obtain ⟨Dh, Di, Dj, Dk, Dl⟩ := hb5 HB.out Dh Di Dj Dk Dl
     replace Gj := eq_true Gj
     replace Gk := eq_true Gk
     have Gl : 0 ≤ (x5_1 : Int) := ode
     have Gm : x5_1 < (l1.length : Int) := ode
     obtain ⟨Gv, e452, Dn, Dp, Dq, Dt, Du⟩ := ko Gz.out x5_1 Gl Gm
     have Eo := Du
     have Ep := Dt
     have Es := Dq
     have Et := Dp
     have Eu := Dn
     cases e452
     obtain ⟨Dn, Dp, Dq, Dt, Du⟩ := hb5 HB.out Dn Dp Dq Dt Du
     replace Gl := eq_true Gl
     replace Gm := eq_true Gm
     refine eH (n := 10) (S := Sa5a5 (Gu.add ((x5_1).toNat * 5)) (.int .i64 ((av l0 x5_1).f0)) (.string ((av l0 x5_1).f1)) (.string ((av l0 x5_1).f2)) (.int .i64 ((av l0 x5_1).f3)) (.int .i64 ((av l0 x5_1).f4)) (Gv.add ((x5_1).toNat * 5)) (.int .i64 ((av l1 x5_1).f0)) (.string ((av l1 x5_1).f1)) (.string ((av l1 x5_1).f2)) (.int .i64 ((av l1 x5_1).f3)) (.int .i64 ((av l1 x5_1).f4))) (ds := []) #[F_, F_, F_, F_, F_, F_, F_, F_, F_, F_] (by kernel_rfl) rfl rfl ⟨(hbc HB.out En), (hbc HB.out Em), (hbc HB.out Ek), (hbc HB.out Ej), (hbc HB.out Ei), (hbc HB.out Eu), (hbc HB.out Et), (hbc HB.out Es), (hbc HB.out Ep), (hbc HB.out Eo)⟩ (fun hHeld => ?_); refine dJ bA.nN bA.kV (fun HT_ HW_ => ?_)
     generalize wr.drew = w11 at HB Dh Di Dj Dk Dl Dn Dp Dq Dt Du hHeld ⊢
     refine pv 0 17 ?_
     refine pv 1 18 ?_
     refine pv 2 19 ?_
     refine pv 4 21 ?_
     refine pv 5 22 ?_
     refine pv 6 23 ?_
     refine kK 3 20 hHeld ?_
     refine kK 7 24 hHeld ?_
     refine ov 8 25 (fun K hK => ?_)
     refine gk Tryz.func57 (iC.calls _ _ _ _ _ _ _ _ _ _ _ _ A7.out) ?_
     rintro e w12 ⟨rfl, hb⟩
     refine ⟨_, rfl, ?_⟩
     replace HB := ho hb
     refine hK.out _ _ ⟨(hbc HB.out En), (hbc HB.out Em), (hbc HB.out Ek), (hbc HB.out Ej), (hbc HB.out Ei), (hbc HB.out Eu), (hbc HB.out Et), (hbc HB.out Es), (hbc HB.out Ep), (hbc HB.out Eo)⟩ (fun hHeld => ?_)
     clear hK K
     refine dn (a' := ?_) ?_ ?_
     rotate_left
     ·show Act.put _ (some 25) _ = _
      simp only [Act.put, z1, z2, z3, bu, bv]
      rfl
     refine pv 9 26 ?_
     refine fF (eF HT_.out (by kernel_rfl)) ?_
     try go_wp2
     go_ret
     exact ⟨er, bl⟩
    obtain rfl := Option.some.inj H
    go_wp2
    go_ret
    exact ⟨er, bl⟩
 have Gn : (l0.length == l1.length) = false := by first | simpa using c3 | (simp at c3 ⊢; omega)
 obtain rfl := Option.some.inj H
 go_enter Tryz.func32, Tryz.ntmps32
 go_wp2
 go_ret
 exact ⟨er, bl⟩
/-- Two products that are alike (another answer is not served). -/
def cK.f (k : Nat) (a0_0 : ByteArray) (a0_1 : Int) (l0_2 : List ByteArray) (l0_3 : List ByteArray) (l0_4 : List (S83)) (l0_5 : List (S88)) (l0_6 : List (S88)) (l0_7 : List (S88)) (a1_0 : ByteArray) (a1_1 : Int) (l1_2 : List ByteArray) (l1_3 : List ByteArray) (l1_4 : List (S83)) (l1_5 : List (S88)) (l1_6 : List (S88)) (l1_7 : List (S88)) : Option Bool := if a0_0.toList = a1_0.toList then (if a0_1 = a1_1 then ((bN.f k l0_2 l1_2).bind fun t0 => (if t0 = true then ((bN.f k l0_3 l1_3).bind fun t1 => (if t1 = true then ((bD.f k l0_4 l1_4).bind fun t2 => (if t2 = true then ((bA.f k l0_5 l1_5).bind fun t3 => (if t3 = true then ((bA.f k l0_6 l1_6).bind fun t4 => (if t4 = true then ((bA.f k l0_7 l1_7).bind fun t5 => (if t5 = true then (some true) else none)) else none)) else none)) else none)) else none)) else none)) else none) else none
theorem cK.mono : ∀ x0 x1 x2 x3 x4 x5 x6 x7 x8 x9 x10 x11 x12 x13 x14 x15 k, LeO (cK.f k x0 x1 x2 x3 x4 x5 x6 x7 x8 x9 x10 x11 x12 x13 x14 x15) (cK.f (k + 1) x0 x1 x2 x3 x4 x5 x6 x7 x8 x9 x10 x11 x12 x13 x14 x15) := by
 intro x0 x1 x2 x3 x4 x5 x6 x7 x8 x9 x10 x11 x12 x13 x14 x15 k
 unfold cK.f
 repeat' (with_reducible first | exact bA.mono .. | exact bD.mono .. | exact bN.mono .. | exact LeO.refl _ | exact LeO.none _ | refine LeO.ite ?_ ?_ | refine LeO.bind ?_ (fun _ => ?_))
theorem cK.told {k : Nat} {a0_0 : ByteArray} {a0_1 : Int} {l0_2 : List ByteArray} {l0_3 : List ByteArray} {l0_4 : List (S83)} {l0_5 : List (S88)} {l0_6 : List (S88)} {l0_7 : List (S88)} {a1_0 : ByteArray} {a1_1 : Int} {l1_2 : List ByteArray} {l1_3 : List ByteArray} {l1_4 : List (S83)} {l1_5 : List (S88)} {l1_6 : List (S88)} {l1_7 : List (S88)} {r : Bool} (h : cK.f k a0_0 a0_1 l0_2 l0_3 l0_4 l0_5 l0_6 l0_7 a1_0 a1_1 l1_2 l1_3 l1_4 l1_5 l1_6 l1_7 = some r) : r = true ∧ a0_0 = a1_0 ∧ a0_1 = a1_1 ∧ bN.f k l0_2 l1_2 = some true ∧ bN.f k l0_3 l1_3 = some true ∧ bD.f k l0_4 l1_4 = some true ∧ bA.f k l0_5 l1_5 = some true ∧ bA.f k l0_6 l1_6 = some true ∧ bA.f k l0_7 l1_7 = some true := by
 unfold cK.f at h
 by_cases c0 : a0_0.toList = a1_0.toList
 ·rw [if_pos c0] at h
  by_cases c1 : a0_1 = a1_1
  ·rw [if_pos c1] at h
   obtain ⟨t0, e0, h⟩ := Option.bind_eq_some_iff.mp h
   cases t0 with
   | false => rw [if_neg (by decide)] at h; cases h
   | true =>
   rw [if_pos rfl] at h
   obtain ⟨t1, e1, h⟩ := Option.bind_eq_some_iff.mp h
   cases t1 with
   | false => rw [if_neg (by decide)] at h; cases h
   | true =>
   rw [if_pos rfl] at h
   obtain ⟨t2, e2, h⟩ := Option.bind_eq_some_iff.mp h
   cases t2 with
   | false => rw [if_neg (by decide)] at h; cases h
   | true =>
   rw [if_pos rfl] at h
   obtain ⟨t3, e3, h⟩ := Option.bind_eq_some_iff.mp h
   cases t3 with
   | false => rw [if_neg (by decide)] at h; cases h
   | true =>
   rw [if_pos rfl] at h
   obtain ⟨t4, e4, h⟩ := Option.bind_eq_some_iff.mp h
   cases t4 with
   | false => rw [if_neg (by decide)] at h; cases h
   | true =>
   rw [if_pos rfl] at h
   obtain ⟨t5, e5, h⟩ := Option.bind_eq_some_iff.mp h
   cases t5 with
   | false => rw [if_neg (by decide)] at h; cases h
   | true =>
   rw [if_pos rfl] at h
   refine ⟨(Option.some.inj h).symm, ?_, c1, e0, e1, e2, e3, e4, e5⟩
   rw [Lib.toList_data, Lib.toList_data] at c0
   cases a0_0; cases a1_0
   simp only at c0
   rw [Array.toList_inj.1 c0]
  rw [if_neg c1] at h; cases h
 rw [if_neg c0] at h; cases h
theorem cK.fst (w : World) (o o' : Obj) : ((w.alloc o).alloc o').heap[w.heap.size]? = some o := by
 rw [Below.heap_alloc _ _ _ (by show _ < (w.heap.push _).size; simp)]
 show (w.heap.push _)[w.heap.size]? = _
 simp
theorem cK.snd (w : World) (o o' : Obj) : ((w.alloc o).alloc o').heap[w.heap.size + 1]? = some o' := by
 show ((w.heap.push o).push o')[w.heap.size + 1]? = _
 rw [show w.heap.size + 1 = (w.heap.push o).size by simp, Array.getElem?_push, if_pos rfl]
theorem cK.cells {w : World} {g : Nat} {t : TypeId} {v0 v1 v2 v3 v4 v5 v6 v7 : Value} (h : w.heap[g]? = some (.cells #[v0, v1, v2, v3, v4, v5, v6, v7] t (0, 0))) : w.cell? ⟨g, 0, none⟩ = some v0 ∧ w.cell? ⟨g, 1, none⟩ = some v1 ∧ w.cell? ⟨g, 2, none⟩ = some v2 ∧ w.cell? ⟨g, 3, none⟩ = some v3 ∧ w.cell? ⟨g, 4, none⟩ = some v4 ∧ w.cell? ⟨g, 5, none⟩ = some v5 ∧ w.cell? ⟨g, 6, none⟩ = some v6 ∧ w.cell? ⟨g, 7, none⟩ = some v7 := ⟨(ae h 0).trans rfl, (ae h 1).trans rfl, (ae h 2).trans rfl, (ae h 3).trans rfl, (ae h 4).trans rfl, (ae h 5).trans rfl, (ae h 6).trans rfl, (ae h 7).trans rfl⟩
theorem cK.calls (k : Nat) (a0_0 : ByteArray) (a0_1 : Int) (A0_2 : Option Addr) (c0_2 : Nat) (l0_2 : List ByteArray) (A0_3 : Option Addr) (c0_3 : Nat) (l0_3 : List ByteArray) (A0_4 : Option Addr) (c0_4 : Nat) (l0_4 : List (S83)) (A0_5 : Option Addr) (c0_5 : Nat) (l0_5 : List (S88)) (A0_6 : Option Addr) (c0_6 : Nat) (l0_6 : List (S88)) (A0_7 : Option Addr) (c0_7 : Nat) (l0_7 : List (S88)) (a1_0 : ByteArray) (a1_1 : Int) (A1_2 : Option Addr) (c1_2 : Nat) (l1_2 : List ByteArray) (A1_3 : Option Addr) (c1_3 : Nat) (l1_3 : List ByteArray) (A1_4 : Option Addr) (c1_4 : Nat) (l1_4 : List (S83)) (A1_5 : Option Addr) (c1_5 : Nat) (l1_5 : List (S88)) (A1_6 : Option Addr) (c1_6 : Nat) (l1_6 : List (S88)) (A1_7 : Option Addr) (c1_7 : Nat) (l1_7 : List (S88)) (r : Bool) (w : World) (hr0_2 : Kd.C Kd.string w A0_2 l0_2.length l0_2) (hc0_2 : l0_2.length ≤ c0_2) (hr0_3 : Kd.C Kd.string w A0_3 l0_3.length l0_3) (hc0_3 : l0_3.length ≤ c0_3) (hr0_4 : Kd.C k83 w A0_4 l0_4.length l0_4) (hc0_4 : l0_4.length ≤ c0_4) (hr0_5 : Kd.C k88 w A0_5 l0_5.length l0_5) (hc0_5 : l0_5.length ≤ c0_5) (hr0_6 : Kd.C k88 w A0_6 l0_6.length l0_6) (hc0_6 : l0_6.length ≤ c0_6) (hr0_7 : Kd.C k88 w A0_7 l0_7.length l0_7) (hc0_7 : l0_7.length ≤ c0_7) (hr1_2 : Kd.C Kd.string w A1_2 l1_2.length l1_2) (hc1_2 : l1_2.length ≤ c1_2) (hr1_3 : Kd.C Kd.string w A1_3 l1_3.length l1_3) (hc1_3 : l1_3.length ≤ c1_3) (hr1_4 : Kd.C k83 w A1_4 l1_4.length l1_4) (hc1_4 : l1_4.length ≤ c1_4) (hr1_5 : Kd.C k88 w A1_5 l1_5.length l1_5) (hc1_5 : l1_5.length ≤ c1_5) (hr1_6 : Kd.C k88 w A1_6 l1_6.length l1_6) (hc1_6 : l1_6.length ≤ c1_6) (hr1_7 : Kd.C k88 w A1_7 l1_7.length l1_7) (hc1_7 : l1_7.length ≤ c1_7) (h : cK.f k a0_0 a0_1 l0_2 l0_3 l0_4 l0_5 l0_6 l0_7 a1_0 a1_1 l1_2 l1_3 l1_4 l1_5 l1_6 l1_7 = some r) :
  Calls Tryz.prog 11 #[.agg #[.string a0_0, .int .i64 a0_1, .slice A0_2 l0_2.length c0_2, .slice A0_3 l0_3.length c0_3, .slice A0_4 l0_4.length c0_4, .slice A0_5 l0_5.length c0_5, .slice A0_6 l0_6.length c0_6, .slice A0_7 l0_7.length c0_7], .agg #[.string a1_0, .int .i64 a1_1, .slice A1_2 l1_2.length c1_2, .slice A1_3 l1_3.length c1_3, .slice A1_4 l1_4.length c1_4, .slice A1_5 l1_5.length c1_5, .slice A1_6 l1_6.length c1_6, .slice A1_7 l1_7.length c1_7]] w fun e w' => e = .returned (.bool r) ∧ Below w.heap.size w w' := by
 obtain ⟨rfl, rfl, rfl, e0, e1, e2, e3, e4, e5⟩ := cK.told h
 clear h
 have q0 := fun W (hb : Below w.heap.size w W) => bN.calls k A0_2 c0_2 l0_2 A1_2 c1_2 l1_2 true W (Kd.dK hr0_2 hb) hc0_2 (Kd.dK hr1_2 hb) hc1_2 e0
 have q1 := fun W (hb : Below w.heap.size w W) => bN.calls k A0_3 c0_3 l0_3 A1_3 c1_3 l1_3 true W (Kd.dK hr0_3 hb) hc0_3 (Kd.dK hr1_3 hb) hc1_3 e1
 have q2 := fun W (hb : Below w.heap.size w W) => bD.calls k A0_4 c0_4 l0_4 A1_4 c1_4 l1_4 true W (Kd.dK hr0_4 hb) hc0_4 (Kd.dK hr1_4 hb) hc1_4 e2
 have q3 := fun W (hb : Below w.heap.size w W) => bA.calls k A0_5 c0_5 l0_5 A1_5 c1_5 l1_5 true W (Kd.dK hr0_5 hb) hc0_5 (Kd.dK hr1_5 hb) hc1_5 e3
 have q4 := fun W (hb : Below w.heap.size w W) => bA.calls k A0_6 c0_6 l0_6 A1_6 c1_6 l1_6 true W (Kd.dK hr0_6 hb) hc0_6 (Kd.dK hr1_6 hb) hc1_6 e4
 have q5 := fun W (hb : Below w.heap.size w W) => bA.calls k A0_7 c0_7 l0_7 A1_7 c1_7 l1_7 true W (Kd.dK hr0_7 hb) hc0_7 (Kd.dK hr1_7 hb) hc1_7 e5
 have hu := Tryz.underlying39
 have Q1 : ∀ {X W : World}, Below X.heap.size X W → Below w.heap.size w X → Below w.heap.size w W := fun a b => b.trans (a.mono (az b))
 clear hr0_2 hc0_2 hr0_3 hc0_3 hr0_4 hc0_4 hr0_5 hc0_5 hr0_6 hc0_6 hr0_7 hc0_7 hr1_2 hc1_2 hr1_3 hc1_3 hr1_4 hc1_4 hr1_5 hc1_5 hr1_6 hc1_6 hr1_7 hc1_7 e0 e1 e2 e3 e4 e5
 go_enter Tryz.func11, Tryz.ntmps11
 go_wp2_with (first | (go_at_call 30; (with_reducible first | refine (q0 _ ?hbl).mono ?_ | refine (q1 _ ?hbl).mono ?_); (case hbl => (repeat (first | exact HB.out | exact Below.refl _ _ | apply aZ | apply aJ | apply bZ))); rintro e w1 ⟨rfl, hd⟩; obtain ⟨nd, rfl⟩ := hd.out) | (go_at_call 31; (with_reducible refine (q2 _ ?hbl).mono ?_); (case hbl => (repeat (first | exact HB.out | exact Below.refl _ _ | apply aZ | apply aJ | apply bZ))); rintro e w1 ⟨rfl, hb⟩; have n1 := bQ (g := w.heap.size) (by (with_reducible repeat (first | refine fo ?_ _ | refine bB ?_)); first | exact B1.out | exact cK.fst _ _ _) hb; have n2 := bQ (g := w.heap.size + 1) (by (with_reducible repeat (first | refine fo ?_ _ | refine bB ?_)); first | exact B2.out | exact cK.snd _ _ _) hb; have n3 := am (Q1 hb (by repeat (first | exact HB.out | exact Below.refl _ _ | apply aZ | apply aJ | apply bZ))); (try clear B1 B2 HB); (try clear z0 z1 z2 z3 z4 z5 z6 z7); (try clear y0 y1 y2 y3 y4 y5 y6 y7); obtain ⟨z0, z1, z2, z3, z4, z5, z6, z7⟩ := cK.cells n1; obtain ⟨y0, y1, y2, y3, y4, y5, y6, y7⟩ := cK.cells n2; have B1 := aa.mk n1; have B2 := aa.mk n2; have HB := n3; clear n1 n2 n3 hb) | (go_at_call 32; (with_reducible first | refine (q3 _ ?hbl).mono ?_ | refine (q4 _ ?hbl).mono ?_ | refine (q5 _ ?hbl).mono ?_); (case hbl => (repeat (first | exact HB.out | exact Below.refl _ _ | apply aZ | apply aJ | apply bZ))); rintro e w1 ⟨rfl, hb⟩; have n1 := bQ (g := w.heap.size) (by (with_reducible repeat (first | refine fo ?_ _ | refine bB ?_)); first | exact B1.out | exact cK.fst _ _ _) hb; have n2 := bQ (g := w.heap.size + 1) (by (with_reducible repeat (first | refine fo ?_ _ | refine bB ?_)); first | exact B2.out | exact cK.snd _ _ _) hb; have n3 := am (Q1 hb (by repeat (first | exact HB.out | exact Below.refl _ _ | apply aZ | apply aJ | apply bZ))); (try clear B1 B2 HB); (try clear z0 z1 z2 z3 z4 z5 z6 z7); (try clear y0 y1 y2 y3 y4 y5 y6 y7); obtain ⟨z0, z1, z2, z3, z4, z5, z6, z7⟩ := cK.cells n1; obtain ⟨y0, y1, y2, y3, y4, y5, y6, y7⟩ := cK.cells n2; have B1 := aa.mk n1; have B2 := aa.mk n2; have HB := n3; clear n1 n2 n3 hb))
 go_ret
 exact ⟨rfl, by repeat (first | exact HB.out | apply aJ | apply bZ)⟩
def gX.f (a0_0 : Int) (a0_1 : Int) (a0_2 : Int) (a1_0 : Int) (a1_1 : Int) (a1_2 : Int) : Option (Bool) := if a0_0 = a1_0 then (if a0_1 = a1_1 then (if a0_2 = a1_2 then (some true) else (some false)) else (some false)) else (some false)
theorem gX.calls (a0_0 : Int) (a0_1 : Int) (a0_2 : Int) (a1_0 : Int) (a1_1 : Int) (a1_2 : Int) (r : Bool) (w : World) (h : gX.f a0_0 a0_1 a0_2 a1_0 a1_1 a1_2 = some r) :
  Calls Tryz.prog 58 #[.agg #[.int .i64 a0_0, .int .i64 a0_1, .int .i64 a0_2], .agg #[.int .i64 a1_0, .int .i64 a1_1, .int .i64 a1_2]] w fun e w' => e = .returned (.bool r) ∧ Below w.heap.size w w' := by
 have hu58 := Tryz.underlying58
 have HB := am (Below.refl w.heap.size w)
 have H := h
 clear h
 unfold gX.f at H
 revert H; refine iQ (fun Em Gg H => ?_) fun c3 Em Gg H => ?_
 ·revert H; refine iQ (fun Gh Gl H => ?_) fun c4 Gh Gl H => ?_
  ·revert H; refine iQ (fun Ew Gk H => ?_) fun c5 Ew Gk H => ?_
   ·obtain rfl := Option.some.inj H
    go_enter Tryz.func58, Tryz.ntmps58
    go_wp2_with (first | ((with_reducible refine g_ 2 ?_); refine bx 2 #[.int .i64 a0_0, .int .i64 a0_1, .int .i64 a0_2] 58 ?_; intro Ec hg w6 hbox hb; have Ci := am hbox; have Ed := am (bsz hg : w.heap.size ≤ Ec); have Ey := Ed; replace HB := ho hb; clear hb hbox hg) | ((with_reducible refine g_ 3 ?_); refine bx 3 #[.int .i64 a1_0, .int .i64 a1_1, .int .i64 a1_2] 58 ?_; intro Ee hg w7 hbox hb; have Ef := am hbox; have Eg := am (bsz hg : w.heap.size ≤ Ee); have Ez := Eg; have Ce := no hg Ci; have Cj := am Ce.out.symm; replace Ci := bo Ci hb; replace HB := ho hb; clear hb hbox hg; have Jj := Ce.out; have Jk := Cj.out; have Z9 := jk Ci.out; have Jx := jk Ef.out))
    go_ret
    exact ⟨er, bl⟩
   obtain rfl := Option.some.inj H
   go_enter Tryz.func58, Tryz.ntmps58
   go_wp2_with (first | ((with_reducible refine g_ 2 ?_); refine bx 2 #[.int .i64 a0_0, .int .i64 a0_1, .int .i64 a0_2] 58 ?_; intro Ec hg w11 hbox hb; have Ci := am hbox; have Ed := am (bsz hg : w.heap.size ≤ Ec); have Ey := Ed; replace HB := ho hb; clear hb hbox hg) | ((with_reducible refine g_ 3 ?_); refine bx 3 #[.int .i64 a1_0, .int .i64 a1_1, .int .i64 a1_2] 58 ?_; intro Ee hg w12 hbox hb; have Ef := am hbox; have Eg := am (bsz hg : w.heap.size ≤ Ee); have Ez := Eg; have Ce := no hg Ci; have Cj := am Ce.out.symm; replace Ci := bo Ci hb; replace HB := ho hb; clear hb hbox hg; have Ie := Ce.out; have Ig := Cj.out; have Jy := jk Ci.out; have Jl := jk Ef.out))
   go_ret
   exact ⟨er, bl⟩
  obtain rfl := Option.some.inj H
  go_enter Tryz.func58, Tryz.ntmps58
  go_wp2_with (first | ((with_reducible refine g_ 2 ?_); refine bx 2 #[.int .i64 a0_0, .int .i64 a0_1, .int .i64 a0_2] 58 ?_; intro Ec hg w16 hbox hb; have Ci := am hbox; have Ed := am (bsz hg : w.heap.size ≤ Ec); have Ey := Ed; replace HB := ho hb; clear hb hbox hg) | ((with_reducible refine g_ 3 ?_); refine bx 3 #[.int .i64 a1_0, .int .i64 a1_1, .int .i64 a1_2] 58 ?_; intro Ee hg w17 hbox hb; have Ef := am hbox; have Eg := am (bsz hg : w.heap.size ≤ Ee); have Ez := Eg; have Ce := no hg Ci; have Cj := am Ce.out.symm; replace Ci := bo Ci hb; replace HB := ho hb; clear hb hbox hg; have Ih := Ce.out; have Ii := Cj.out; have Jz := jk Ci.out; have Jm := jk Ef.out))
  go_ret
  exact ⟨er, bl⟩
 obtain rfl := Option.some.inj H
 go_enter Tryz.func58, Tryz.ntmps58
 go_wp2_with (first | ((with_reducible refine g_ 2 ?_); refine bx 2 #[.int .i64 a0_0, .int .i64 a0_1, .int .i64 a0_2] 58 ?_; intro Ec hg w21 hbox hb; have Ci := am hbox; have Ed := am (bsz hg : w.heap.size ≤ Ec); have Ey := Ed; replace HB := ho hb; clear hb hbox hg) | ((with_reducible refine g_ 3 ?_); refine bx 3 #[.int .i64 a1_0, .int .i64 a1_1, .int .i64 a1_2] 58 ?_; intro Ee hg w22 hbox hb; have Ef := am hbox; have Eg := am (bsz hg : w.heap.size ≤ Ee); have Ez := Eg; have Ce := no hg Ci; have Cj := am Ce.out.symm; replace Ci := bo Ci hb; replace HB := ho hb; clear hb hbox hg; have Ij := Ce.out; have Ik := Cj.out; have Jn := jk Ci.out; have Ka := jk Ef.out))
 go_ret
 exact ⟨er, bl⟩
def bq.l0 : Nat → List (S58) → List (S58) → Int → Option (Bool)
 | 0, _, _, _ => none
 | k + 1, x0, x1, x5 => if x5 < (x0.length : Int) then (if 0 ≤ x5 then (if x5 < (x1.length : Int) then ((gX.f ((aD x0 x5).f0) ((aD x0 x5).f1) ((aD x0 x5).f2) ((aD x1 x5).f0) ((aD x1 x5).f1) ((aD x1 x5).f2)).bind fun t458 => (if t458 = true then (bq.l0 k x0 x1 (wrap64 (x5 + 1))) else (some false))) else (none)) else (none)) else (some true)
def bq.f (k : Nat) (l0 : List (S58)) (l1 : List (S58)) : Option (Bool) := if (l0.length : Int) = (l1.length : Int) then (bq.l0 k l0 l1 0) else (some false)
theorem bq.bI : ∀ k, (∀ y0 y1 y2, LeO (bq.l0 k y0 y1 y2) (bq.l0 (k + 1) y0 y1 y2))
 | 0 => fun _ _ _ r h => by simp [bq.l0] at h
 | k + 1 => by
  have ih0 := bq.bI k
  ·intro y0 y1 y2
   unfold bq.l0
   exact mo
theorem bq.mono : ∀ a0 a1 k, LeO (bq.f k a0 a1) (bq.f (k + 1) a0 a1) := by
 intro a0 a1 k
 have ih0 := bq.bI k
 unfold bq.f
 exact mo
def bq.T6 : Bool × List (List Nat × List Nat) := (true, [([], []), ([], []), ([0, 1], [0, 1]), ([2], [2]), ([], []), ([], []), ([4, 5], [4, 5]), ([6], [6]), ([3, 7], [3, 7]), ([8], [8])])
def bq.B6 : List Nat := [0, 0, 3, 7, 0, 0, 48, 112, 255, 511]
theorem bq.nN : iy .any (opsOf Tryz.f33 6) = bq.T6 := by kernel_rfl
theorem bq.kV : gm bq.T6.2 bq.B6 = true := by kernel_rfl
theorem bq.calls (k : Nat) (A0 : Option Addr) (c0 : Nat) (l0 : List (S58)) (A1 : Option Addr) (c1 : Nat) (l1 : List (S58)) (r : Bool) (w : World) (hr0 : Kd.C k58 w A0 l0.length l0) (hc0 : l0.length ≤ c0) (hr1 : Kd.C k58 w A1 l1.length l1) (hc1 : l1.length ≤ c1) (h : bq.f k l0 l1 = some r) :
  Calls Tryz.prog 33 #[.slice A0 l0.length c0, .slice A1 l1.length c1] w fun e w' => e = .returned (.bool r) ∧ Below w.heap.size w w' := by
 have hu58 := Tryz.underlying58
 have Il := am hr0
 have Kb := am hc0
 clear hr0 hc0
 have Im := am hr1
 have Ke := am hc1
 clear hr1 hc1
 have HB := am (Below.refl w.heap.size w)
 have H := h
 clear h
 unfold bq.f at H
 revert H; refine iQn (fun c3 Em Gg H => ?_) fun c3 Em Gg H => ?_
 ·have Gm : (l0.length == l1.length) = true := by first | simpa using c3 | (simp at c3 ⊢; omega)
  clear c3
  have H' := am H; clear H
  go_enter Tryz.func33, Tryz.ntmps33
  go_wp2
  go_loopg [5] k (fun kq v5 w' => ∃ (x5_1 : Int), v5 = .int .i64 x5_1 ∧ aa (bq.l0 kq l0 l1 x5_1 = some r) ∧ aa (kq ≤ k) ∧ aa (Below w.heap.size w w'))
  case atStart => exact ⟨(0), rs, H', ⟨Nat.le_refl _⟩, ⟨bl⟩⟩
  case round =>
   clear H'
   try clear c1; try clear c3; try clear Em; try clear Gg; try clear Gm
   obtain ⟨x5_1, rfl, HA, Gi, HB⟩ := hrel
   cases gk with
   | zero => exact absurd HA.out (by simp [bq.l0])
   | succ k1 =>
    have H := HA.out
    clear HA
    simp only [bq.l0] at H
    revert H; refine iDb (fun Gh H => ?_) fun Gh H => ?_
    ·revert H; refine i1 fun Ew H => ?_
     revert H; refine i1 fun Gn H => ?_
     revert H; refine bj fun t458 A7 H => ?_
     replace H := iT H; rcases H with ⟨rfl, H⟩ | ⟨rfl, H⟩
     ·have H' := am H; clear H
      try go_wp2
      replace HB := am (bg HB.out)
      have Ep : 0 ≤ (x5_1 : Int) := ode
      have Es : x5_1 < (l0.length : Int) := ode
      obtain ⟨Ga, e456, Cm, Cn, Dc⟩ := jF Il.out x5_1 Ep Es
      have Dv := Dc
      have Dw := Cn
      have Dx := Cm
      cases e456
      obtain ⟨Cm, Cn, Dc⟩ := hb3 HB.out Cm Cn Dc
      replace Ep := eq_true Ep
      replace Es := eq_true Es
      have Et : 0 ≤ (x5_1 : Int) := ode
      have Eu : x5_1 < (l1.length : Int) := ode
      obtain ⟨Gf, e457, Df, Dh, Di⟩ := jF Im.out x5_1 Et Eu
      have Dy := Di
      have Dz := Dh
      have Ea := Df
      cases e457
      obtain ⟨Df, Dh, Di⟩ := hb3 HB.out Df Dh Di
      replace Et := eq_true Et
      replace Eu := eq_true Eu
      refine eH (n := 10) (S := sG (Ga.add ((x5_1).toNat * 3)) (.int .i64 ((aD l0 x5_1).f0)) (.int .i64 ((aD l0 x5_1).f1)) (.int .i64 ((aD l0 x5_1).f2)) (Gf.add ((x5_1).toNat * 3)) (.int .i64 ((aD l1 x5_1).f0)) (.int .i64 ((aD l1 x5_1).f1)) (.int .i64 ((aD l1 x5_1).f2))) (ds := []) #[F_, F_, F_, F_, F_, F_, F_, F_, F_, F_] (by kernel_rfl) rfl rfl ⟨(hbc HB.out Dx), (hbc HB.out Dw), (hbc HB.out Dv), (hbc HB.out Ea), (hbc HB.out Dz), (hbc HB.out Dy)⟩ (fun hHeld => ?_); refine dJ bq.nN bq.kV (fun HT_ HW_ => ?_)
      generalize wr.drew = w9 at HB Cm Cn Dc Df Dh Di hHeld ⊢
      refine pv 0 17 ?_
      refine pv 1 18 ?_
      refine pv 2 19 ?_
      refine pv 4 21 ?_
      refine pv 5 22 ?_
      refine pv 6 23 ?_
      refine tv6 3 20 hHeld ?_
      refine tv6 7 24 hHeld ?_
      refine ov 8 25 (fun K hK => ?_)
      refine gk Tryz.func58 (gX.calls _ _ _ _ _ _ _ _ A7.out) ?_
      rintro e w10 ⟨rfl, hb⟩
      refine ⟨_, rfl, ?_⟩
      replace HB := ho hb
      refine hK.out _ _ ⟨(hbc HB.out Dx), (hbc HB.out Dw), (hbc HB.out Dv), (hbc HB.out Ea), (hbc HB.out Dz), (hbc HB.out Dy)⟩ (fun hHeld => ?_)
      clear hK K
      refine dn (a' := ?_) ?_ ?_
      rotate_left
      ·show Act.put _ (some 25) _ = _
       simp only [Act.put, z1, z2, z3, bu, bv]
       rfl
      refine pv 9 26 ?_
      refine fF (eF HT_.out (by kernel_rfl)) ?_
      try go_wp2
      go_roundg k1
      case measure => have := Gi.out; omega
      case rel => exact ⟨(wrap64 (x5_1 + 1)), rs, H', ⟨by have := Gi.out; omega⟩, ⟨bl⟩⟩
     obtain rfl := Option.some.inj H
     try go_wp2
     replace HB := am (bg HB.out)
     have Ep : 0 ≤ (x5_1 : Int) := ode
     have Es : x5_1 < (l0.length : Int) := ode
     obtain ⟨Ga, e456, Cm, Cn, Dc⟩ := jF Il.out x5_1 Ep Es
     have Dv := Dc
     have Dw := Cn
     have Dx := Cm
     cases e456
     obtain ⟨Cm, Cn, Dc⟩ := hb3 HB.out Cm Cn Dc
     replace Ep := eq_true Ep
     replace Es := eq_true Es
     have Et : 0 ≤ (x5_1 : Int) := ode
     have Eu : x5_1 < (l1.length : Int) := ode
     obtain ⟨Gf, e457, Df, Dh, Di⟩ := jF Im.out x5_1 Et Eu
     have Dy := Di
     have Dz := Dh
     have Ea := Df
     cases e457
     obtain ⟨Df, Dh, Di⟩ := hb3 HB.out Df Dh Di
     replace Et := eq_true Et
     replace Eu := eq_true Eu
     refine eH (n := 10) (S := sG (Ga.add ((x5_1).toNat * 3)) (.int .i64 ((aD l0 x5_1).f0)) (.int .i64 ((aD l0 x5_1).f1)) (.int .i64 ((aD l0 x5_1).f2)) (Gf.add ((x5_1).toNat * 3)) (.int .i64 ((aD l1 x5_1).f0)) (.int .i64 ((aD l1 x5_1).f1)) (.int .i64 ((aD l1 x5_1).f2))) (ds := []) #[F_, F_, F_, F_, F_, F_, F_, F_, F_, F_] (by kernel_rfl) rfl rfl ⟨(hbc HB.out Dx), (hbc HB.out Dw), (hbc HB.out Dv), (hbc HB.out Ea), (hbc HB.out Dz), (hbc HB.out Dy)⟩ (fun hHeld => ?_); refine dJ bq.nN bq.kV (fun HT_ HW_ => ?_)
     generalize wr.drew = w11 at HB Cm Cn Dc Df Dh Di hHeld ⊢
     refine pv 0 17 ?_
     refine pv 1 18 ?_
     refine pv 2 19 ?_
     refine pv 4 21 ?_
     refine pv 5 22 ?_
     refine pv 6 23 ?_
     refine tv6 3 20 hHeld ?_
     refine tv6 7 24 hHeld ?_
     refine ov 8 25 (fun K hK => ?_)
     refine gk Tryz.func58 (gX.calls _ _ _ _ _ _ _ _ A7.out) ?_
     rintro e w12 ⟨rfl, hb⟩
     refine ⟨_, rfl, ?_⟩
     replace HB := ho hb
     refine hK.out _ _ ⟨(hbc HB.out Dx), (hbc HB.out Dw), (hbc HB.out Dv), (hbc HB.out Ea), (hbc HB.out Dz), (hbc HB.out Dy)⟩ (fun hHeld => ?_)
     clear hK K
     refine dn (a' := ?_) ?_ ?_
     rotate_left
     ·show Act.put _ (some 25) _ = _
      simp only [Act.put, z1, z2, z3, bu, bv]
      rfl
     refine pv 9 26 ?_
     refine fF (eF HT_.out (by kernel_rfl)) ?_
     try go_wp2
     go_ret
     exact ⟨er, bl⟩
    obtain rfl := Option.some.inj H
    go_wp2
    go_ret
    exact ⟨er, bl⟩
 have Gm : (l0.length == l1.length) = false := by first | simpa using c3 | (simp at c3 ⊢; omega)
 obtain rfl := Option.some.inj H
 go_enter Tryz.func33, Tryz.ntmps33
 go_wp2
 go_ret
 exact ⟨er, bl⟩
def fA.f (k : Nat) (l0_0 : List (S58)) (a0_1 : Int) (a0_2 : Int) (a0_3 : Int) (a0_4 : Int) (l1_0 : List (S58)) (a1_1 : Int) (a1_2 : Int) (a1_3 : Int) (a1_4 : Int) : Option (Bool) := (bq.f k l0_0 l1_0).bind fun t461 => (if t461 = true then (if a0_1 = a1_1 then (if a0_2 = a1_2 then (if a0_3 = a1_3 then (if a0_4 = a1_4 then (some true) else (some false)) else (some false)) else (some false)) else (some false)) else (some false))
theorem fA.mono : ∀ a0 a1 a2 a3 a4 a5 a6 a7 a8 a9 k, LeO (fA.f k a0 a1 a2 a3 a4 a5 a6 a7 a8 a9) (fA.f (k + 1) a0 a1 a2 a3 a4 a5 a6 a7 a8 a9) := by
 intro a0 a1 a2 a3 a4 a5 a6 a7 a8 a9 k
 unfold fA.f
 repeat' (with_reducible first | exact bq.mono .. | exact LeO.refl _ | exact LeO.none _ | refine LeO.ite ?_ ?_ | refine LeO.bind ?_ (fun _ => ?_))
theorem fA.calls (k : Nat) (A0_0 : Option Addr) (c0_0 : Nat) (l0_0 : List (S58)) (a0_1 : Int) (a0_2 : Int) (a0_3 : Int) (a0_4 : Int) (A1_0 : Option Addr) (c1_0 : Nat) (l1_0 : List (S58)) (a1_1 : Int) (a1_2 : Int) (a1_3 : Int) (a1_4 : Int) (r : Bool) (w : World) (hr0_0 : Kd.C k58 w A0_0 l0_0.length l0_0) (hc0_0 : l0_0.length ≤ c0_0) (hr1_0 : Kd.C k58 w A1_0 l1_0.length l1_0) (hc1_0 : l1_0.length ≤ c1_0) (h : fA.f k l0_0 a0_1 a0_2 a0_3 a0_4 l1_0 a1_1 a1_2 a1_3 a1_4 = some r) :
  Calls Tryz.prog 12 #[.agg #[.slice A0_0 l0_0.length c0_0, .int .i64 a0_1, .int .i64 a0_2, .int .i64 a0_3, .int .i64 a0_4], .agg #[.slice A1_0 l1_0.length c1_0, .int .i64 a1_1, .int .i64 a1_2, .int .i64 a1_3, .int .i64 a1_4]] w fun e w' => e = .returned (.bool r) ∧ Below w.heap.size w w' := by
 have hu43 := Tryz.underlying43
 have Eh := am hr0_0
 have Ei := am hc0_0
 clear hr0_0 hc0_0
 have Ej := am hr1_0
 have Ek := am hc1_0
 clear hr1_0 hc1_0
 have HB := am (Below.refl w.heap.size w)
 have H := h
 clear h
 unfold fA.f at H
 revert H; refine bj fun t461 A3 H => ?_
 replace H := iT H; rcases H with ⟨rfl, H⟩ | ⟨rfl, H⟩
 ·revert H; refine iQ (fun Ew Gk H => ?_) fun c5 Ew Gk H => ?_
  ·revert H; refine iQ (fun Gn Gy H => ?_) fun c6 Gn Gy H => ?_
   ·revert H; refine iQ (fun Gz Ia H => ?_) fun c7 Gz Ia H => ?_
    ·revert H; refine iQ (fun Gp Gq H => ?_) fun c8 Gp Gq H => ?_
     ·obtain rfl := Option.some.inj H
      go_enter Tryz.func12, Tryz.ntmps12
      go_wp2_with (first | ((with_reducible refine g_ 2 ?_); refine bx 2 #[.slice A0_0 l0_0.length c0_0, .int .i64 a0_1, .int .i64 a0_2, .int .i64 a0_3, .int .i64 a0_4] 43 ?_; intro Dj hg w9 hbox hb; have Cb := am hbox; have Dk := am (bsz hg : w.heap.size ≤ Dj); have En := Dk; replace HB := ho hb; clear hb hbox hg) | ((with_reducible refine g_ 3 ?_); refine bx 3 #[.slice A1_0 l1_0.length c1_0, .int .i64 a1_1, .int .i64 a1_2, .int .i64 a1_3, .int .i64 a1_4] 43 ?_; intro Dl hg w10 hbox hb; have Cd := am hbox; have Dn := am (bsz hg : w.heap.size ≤ Dl); have Eo := Dn; have Cc := no hg Cb; have Cf := am Cc.out.symm; replace Cb := bo Cb hb; replace HB := ho hb; clear hb hbox hg; have Io := Cc.out; have Ip := Cf.out; have Kf := dG Cb.out; have Kg := dG Cd.out) | ((with_reducible refine c_ 33 ?_); refine gc 33 (some 9) Tryz.func33 (bq.calls _ _ _ _ _ _ _ _ _ ?Dp ?Dq ?Dt ?Du A3.out) ?_; (case Dp => exact cb Eh.out); (case Dq => exact Ei.out); (case Dt => exact cb Ej.out); (case Du => exact Ek.out); rintro e w14 ⟨rfl, hb⟩; refine ⟨_, rfl, ?_⟩; refine r2_ hb Cb Cd ?_; clear Cb Cd; intro Cb Cd; replace HB := ho hb; clear hb; have Jl := dG Cb.out; have Kh := dG Cd.out))
      go_ret
      exact ⟨er, bl⟩
     obtain rfl := Option.some.inj H
     go_enter Tryz.func12, Tryz.ntmps12
     go_wp2_with (first | ((with_reducible refine g_ 2 ?_); refine bx 2 #[.slice A0_0 l0_0.length c0_0, .int .i64 a0_1, .int .i64 a0_2, .int .i64 a0_3, .int .i64 a0_4] 43 ?_; intro Dj hg w17 hbox hb; have Cb := am hbox; have Dk := am (bsz hg : w.heap.size ≤ Dj); have En := Dk; replace HB := ho hb; clear hb hbox hg) | ((with_reducible refine g_ 3 ?_); refine bx 3 #[.slice A1_0 l1_0.length c1_0, .int .i64 a1_1, .int .i64 a1_2, .int .i64 a1_3, .int .i64 a1_4] 43 ?_; intro Dl hg w18 hbox hb; have Cd := am hbox; have Dn := am (bsz hg : w.heap.size ≤ Dl); have Eo := Dn; have Cc := no hg Cb; have Cf := am Cc.out.symm; replace Cb := bo Cb hb; replace HB := ho hb; clear hb hbox hg; have Iq := Cc.out; have Ir := Cf.out; have Jm := dG Cb.out; have Ki := dG Cd.out) | ((with_reducible refine c_ 33 ?_); refine gc 33 (some 9) Tryz.func33 (bq.calls _ _ _ _ _ _ _ _ _ ?Dp ?Dq ?Dt ?Du A3.out) ?_; (case Dp => exact cb Eh.out); (case Dq => exact Ei.out); (case Dt => exact cb Ej.out); (case Du => exact Ek.out); rintro e w22 ⟨rfl, hb⟩; refine ⟨_, rfl, ?_⟩; refine r2_ hb Cb Cd ?_; clear Cb Cd; intro Cb Cd; replace HB := ho hb; clear hb; have Kj := dG Cb.out; have Jn := dG Cd.out))
     go_ret
     exact ⟨er, bl⟩
    obtain rfl := Option.some.inj H
    go_enter Tryz.func12, Tryz.ntmps12
    go_wp2_with (first | ((with_reducible refine g_ 2 ?_); refine bx 2 #[.slice A0_0 l0_0.length c0_0, .int .i64 a0_1, .int .i64 a0_2, .int .i64 a0_3, .int .i64 a0_4] 43 ?_; intro Dj hg w25 hbox hb; have Cb := am hbox; have Dk := am (bsz hg : w.heap.size ≤ Dj); have En := Dk; replace HB := ho hb; clear hb hbox hg) | ((with_reducible refine g_ 3 ?_); refine bx 3 #[.slice A1_0 l1_0.length c1_0, .int .i64 a1_1, .int .i64 a1_2, .int .i64 a1_3, .int .i64 a1_4] 43 ?_; intro Dl hg w26 hbox hb; have Cd := am hbox; have Dn := am (bsz hg : w.heap.size ≤ Dl); have Eo := Dn; have Cc := no hg Cb; have Cf := am Cc.out.symm; replace Cb := bo Cb hb; replace HB := ho hb; clear hb hbox hg; have Iu := Cc.out; have Iw := Cf.out; have Kk := dG Cb.out; have Kl := dG Cd.out) | ((with_reducible refine c_ 33 ?_); refine gc 33 (some 9) Tryz.func33 (bq.calls _ _ _ _ _ _ _ _ _ ?Dp ?Dq ?Dt ?Du A3.out) ?_; (case Dp => exact cb Eh.out); (case Dq => exact Ei.out); (case Dt => exact cb Ej.out); (case Du => exact Ek.out); rintro e w30 ⟨rfl, hb⟩; refine ⟨_, rfl, ?_⟩; refine r2_ hb Cb Cd ?_; clear Cb Cd; intro Cb Cd; replace HB := ho hb; clear hb; have Km := dG Cb.out; have Kn := dG Cd.out))
    go_ret
    exact ⟨er, bl⟩
   obtain rfl := Option.some.inj H
   go_enter Tryz.func12, Tryz.ntmps12
   go_wp2_with (first | ((with_reducible refine g_ 2 ?_); refine bx 2 #[.slice A0_0 l0_0.length c0_0, .int .i64 a0_1, .int .i64 a0_2, .int .i64 a0_3, .int .i64 a0_4] 43 ?_; intro Dj hg w33 hbox hb; have Cb := am hbox; have Dk := am (bsz hg : w.heap.size ≤ Dj); have En := Dk; replace HB := ho hb; clear hb hbox hg) | ((with_reducible refine g_ 3 ?_); refine bx 3 #[.slice A1_0 l1_0.length c1_0, .int .i64 a1_1, .int .i64 a1_2, .int .i64 a1_3, .int .i64 a1_4] 43 ?_; intro Dl hg w34 hbox hb; have Cd := am hbox; have Dn := am (bsz hg : w.heap.size ≤ Dl); have Eo := Dn; have Cc := no hg Cb; have Cf := am Cc.out.symm; replace Cb := bo Cb hb; replace HB := ho hb; clear hb hbox hg; have Ix := Cc.out; have Iy := Cf.out; have Ko := dG Cb.out; have Kp := dG Cd.out) | ((with_reducible refine c_ 33 ?_); refine gc 33 (some 9) Tryz.func33 (bq.calls _ _ _ _ _ _ _ _ _ ?Dp ?Dq ?Dt ?Du A3.out) ?_; (case Dp => exact cb Eh.out); (case Dq => exact Ei.out); (case Dt => exact cb Ej.out); (case Du => exact Ek.out); rintro e w38 ⟨rfl, hb⟩; refine ⟨_, rfl, ?_⟩; refine r2_ hb Cb Cd ?_; clear Cb Cd; intro Cb Cd; replace HB := ho hb; clear hb; have Kq := dG Cb.out; have Kr := dG Cd.out))
   go_ret
   exact ⟨er, bl⟩
  obtain rfl := Option.some.inj H
  go_enter Tryz.func12, Tryz.ntmps12
  go_wp2_with (first | ((with_reducible refine g_ 2 ?_); refine bx 2 #[.slice A0_0 l0_0.length c0_0, .int .i64 a0_1, .int .i64 a0_2, .int .i64 a0_3, .int .i64 a0_4] 43 ?_; intro Dj hg w41 hbox hb; have Cb := am hbox; have Dk := am (bsz hg : w.heap.size ≤ Dj); have En := Dk; replace HB := ho hb; clear hb hbox hg) | ((with_reducible refine g_ 3 ?_); refine bx 3 #[.slice A1_0 l1_0.length c1_0, .int .i64 a1_1, .int .i64 a1_2, .int .i64 a1_3, .int .i64 a1_4] 43 ?_; intro Dl hg w42 hbox hb; have Cd := am hbox; have Dn := am (bsz hg : w.heap.size ≤ Dl); have Eo := Dn; have Cc := no hg Cb; have Cf := am Cc.out.symm; replace Cb := bo Cb hb; replace HB := ho hb; clear hb hbox hg; have Iz := Cc.out; have Ja := Cf.out; have Ks := dG Cb.out; have Kt := dG Cd.out) | ((with_reducible refine c_ 33 ?_); refine gc 33 (some 9) Tryz.func33 (bq.calls _ _ _ _ _ _ _ _ _ ?Dp ?Dq ?Dt ?Du A3.out) ?_; (case Dp => exact cb Eh.out); (case Dq => exact Ei.out); (case Dt => exact cb Ej.out); (case Du => exact Ek.out); rintro e w46 ⟨rfl, hb⟩; refine ⟨_, rfl, ?_⟩; refine r2_ hb Cb Cd ?_; clear Cb Cd; intro Cb Cd; replace HB := ho hb; clear hb; have Ku := dG Cb.out; have Kv := dG Cd.out))
  go_ret
  exact ⟨er, bl⟩
 obtain rfl := Option.some.inj H
 go_enter Tryz.func12, Tryz.ntmps12
 go_wp2_with (first | ((with_reducible refine g_ 2 ?_); refine bx 2 #[.slice A0_0 l0_0.length c0_0, .int .i64 a0_1, .int .i64 a0_2, .int .i64 a0_3, .int .i64 a0_4] 43 ?_; intro Dj hg w49 hbox hb; have Cb := am hbox; have Dk := am (bsz hg : w.heap.size ≤ Dj); have En := Dk; replace HB := ho hb; clear hb hbox hg) | ((with_reducible refine g_ 3 ?_); refine bx 3 #[.slice A1_0 l1_0.length c1_0, .int .i64 a1_1, .int .i64 a1_2, .int .i64 a1_3, .int .i64 a1_4] 43 ?_; intro Dl hg w50 hbox hb; have Cd := am hbox; have Dn := am (bsz hg : w.heap.size ≤ Dl); have Eo := Dn; have Cc := no hg Cb; have Cf := am Cc.out.symm; replace Cb := bo Cb hb; replace HB := ho hb; clear hb hbox hg; have Jb := Cc.out; have Jc := Cf.out; have Kw := dG Cb.out; have Kx := dG Cd.out) | ((with_reducible refine c_ 33 ?_); refine gc 33 (some 9) Tryz.func33 (bq.calls _ _ _ _ _ _ _ _ _ ?Dp ?Dq ?Dt ?Du A3.out) ?_; (case Dp => exact cb Eh.out); (case Dq => exact Ei.out); (case Dt => exact cb Ej.out); (case Du => exact Ek.out); rintro e w54 ⟨rfl, hb⟩; refine ⟨_, rfl, ?_⟩; refine r2_ hb Cb Cd ?_; clear Cb Cd; intro Cb Cd; replace HB := ho hb; clear hb))
 go_ret
 exact ⟨er, bl⟩
def aK.l0 : Nat → Int → ByteArray → Option (ByteArray)
 | 0, _, _ => none
 | k + 1, x0, x3 => if x0 > 0 then ((some (([(wrap64 (48 + (Int.tmod x0 10))) % 256] : List Int) : List Int)).bind fun y462 => (if (strOfNums y462).size + x3.size ≤ 9223372036854775807 then (aK.l0 k (wrap64 (Int.tdiv x0 10)) ((strOfNums y462) ++ x3)) else (none))) else (if 1 + x3.size ≤ 9223372036854775807 then (some ((⟨#[109]⟩ : ByteArray) ++ x3)) else (none))
def aK.f (k : Nat) (a0 : Int) : Option (ByteArray) := if a0 ≤ 0 then (some (⟨#[109, 48]⟩ : ByteArray)) else (aK.l0 k a0 (⟨#[]⟩ : ByteArray))
theorem aK.bI : ∀ k, (∀ y0 y1, LeO (aK.l0 k y0 y1) (aK.l0 (k + 1) y0 y1))
 | 0 => fun _ _ r h => by simp [aK.l0] at h
 | k + 1 => by
  have ih0 := aK.bI k
  ·intro y0 y1
   unfold aK.l0
   exact mo
theorem aK.mono : ∀ a0 k, LeO (aK.f k a0) (aK.f (k + 1) a0) := by
 intro a0 k
 have ih0 := aK.bI k
 unfold aK.f
 exact mo
theorem aK.calls (k : Nat) (a0 : Int) (r : ByteArray) (w : World) (h : aK.f k a0 = some r) :
  Calls Tryz.prog 59 #[.int .i64 a0] w fun e w' => e = .returned (.string r) ∧ Below w.heap.size w w' := by
 have HB := am (Below.refl w.heap.size w)
 have H := h
 clear h
 unfold aK.f at H
 revert H; refine iDb (fun Gs H => ?_) fun Gs H => ?_
 ·obtain rfl := Option.some.inj H
  go_enter Tryz.func59, Tryz.ntmps59
  go_wp2
  go_ret
  exact ⟨er, bl⟩
 have H' := am H; clear H
 go_enter Tryz.func59, Tryz.ntmps59
 go_wp2
 go_loopg [0, 3] k (fun kq v0 v3 w' => ∃ (x0_1 : Int) (x3_1 : ByteArray), v0 = .int .i64 x0_1 ∧ v3 = .string x3_1 ∧ aa (aK.l0 kq x0_1 x3_1 = some r) ∧ aa (kq ≤ k) ∧ aa (Below w.heap.size w w'))
 case atStart => exact ⟨(a0), ((⟨#[]⟩ : ByteArray)), rs, rs, H', ⟨Nat.le_refl _⟩, ⟨bl⟩⟩
 case round =>
  clear H'
  try clear Gs
  obtain ⟨x0_1, x3_1, rfl, rfl, HA, Gi, HB⟩ := hrel
  cases gk with
  | zero => exact absurd HA.out (by simp [aK.l0])
  | succ k1 =>
   have H := HA.out
   clear HA
   simp only [aK.l0] at H
   revert H; refine iDb (fun Em H => ?_) fun Em H => ?_
   ·generalize h_ : ((([(wrap64 (48 + (Int.tmod x0_1 10))) % 256] : List Int)) : List Int) = y462 at H
    have Gj := am h_.symm; clear h_; try rw [Option.bind_some] at H
    revert H; refine i0 fun c4 H => ?_
    have Gh := eq_true c4
    have Gl := decide_eq_true c4
    try have Jo : (9223372036854775807 < (strOfNums y462).size + x3_1.size) = False := eq_false (Nat.not_lt.2 c4)
    have H' := am H; clear H
    go_wp2_with (first | ((with_reducible refine dH (N := 12) rfl ?_); refine Kd.nz (Kd.int .u8) _ 5 ?hg (N := 12) ?hd (xs := ([(wrap64 (48 + (Int.tmod x0_1 10))) % 256] : List Int)) (inner := [.int .u8 ((wrap64 (48 + (Int.tmod x0_1 10))) % 256)]) (ok := fun _ => True) (okp := fun _ => True) ?hr ?hp (fun _ hk => hk) trivial (Below.refl _ _) (Nat.le_refl _) (by simp) ?_; (case hd => rfl); (case hg => rfl); (case hr => first | (go_simp; done) | (go_simp; rfl)); (case hp => exact (dw.one (show Kd.M (Kd.int .u8) _ _ _ ((wrap64 (48 + (Int.tmod x0_1 10))) % 256) [.int .u8 ((wrap64 (48 + (Int.tmod x0_1 10))) % 256)] from rfl) (dw.none _ _))); intro v463 w5 ho6 hb hg_ hnew_; clear hg_ hnew_; (first | rw [← Gj.out] at ho6 | (simp only [Int.reduceToNat] at ho6; rw [← Gj.out] at ho6)); have Gu := am (Kd.bz ho6 (az bl)); replace HB := ho hb; clear hb ho6; have hcv7 := qU (P := Tryz.prog) Tryz.underlying109 Tryz.underlying5 Tryz.underlying9 (Kd.nU Gu.out)))
    go_roundg k1
    case measure => have := Gi.out; omega
    case rel => exact ⟨(wrap64 (Int.tdiv x0_1 10)), ((strOfNums y462) ++ x3_1), rs, rs, H', ⟨by have := Gi.out; omega⟩, ⟨bl⟩⟩
   revert H; refine i0 fun c8 H => ?_
   have Gp := eq_true c8
   have Gq := decide_eq_true c8
   try have Jp : (9223372036854775807 < 1 + x3_1.size) = False := eq_false (Nat.not_lt.2 c8)
   obtain rfl := Option.some.inj H
   go_wp2
   go_ret
   exact ⟨er, bl⟩
def bH.l0 : Nat → List ByteArray → Int → Int → Option (Int × List ByteArray)
 | 0, _, _, _ => none
 | k + 1, x0, x1, x5 => if x5 < (x0.length : Int) then ((aK.f k x1).bind fun t465 => (if 0 ≤ x5 then (bH.l0 k (x0.set (x5 : Int).toNat t465) (wrap64 (x1 + 1)) (wrap64 (x5 + 1))) else (none))) else (some (x1, x0))
def bH.f (k : Nat) (l0 : List ByteArray) (a1 : Int) : Option (Int × List ByteArray) := bH.l0 k l0 a1 0
theorem bH.bI : ∀ k, (∀ y0 y1 y2, LeO (bH.l0 k y0 y1 y2) (bH.l0 (k + 1) y0 y1 y2))
 | 0 => fun _ _ _ r h => by simp [bH.l0] at h
 | k + 1 => by
  have ih0 := bH.bI k
  ·intro y0 y1 y2
   unfold bH.l0
   repeat' (with_reducible first | exact ih0 .. | exact aK.mono .. | exact LeO.refl _ | exact LeO.none _ | refine LeO.ite ?_ ?_ | refine LeO.bind ?_ (fun _ => ?_))
theorem bH.mono : ∀ a0 a1 k, LeO (bH.f k a0 a1) (bH.f (k + 1) a0 a1) := by
 intro a0 a1 k
 have ih0 := bH.bI k
 unfold bH.f
 repeat' (with_reducible first | exact ih0 .. | exact aK.mono .. | exact LeO.refl _ | exact LeO.none _ | refine LeO.ite ?_ ?_ | refine LeO.bind ?_ (fun _ => ?_))
theorem bH.calls (k : Nat) (P0_ : Nat → Prop) (u9000_ : Value) (l0 : List ByteArray) (a1 : Int) (r1 : Int) (r2 : List ByteArray) (w0 w : World) (hB : Below w0.heap.size w0 w) (ho0 : Kd.R Kd.string 9 w w0.heap.size P0_ u9000_ l0) (h : bH.f k l0 a1 = some (r1, r2)) :
  Calls Tryz.prog 34 #[u9000_, .int .i64 a1] w fun e w' => e = .returned (.int .i64 r1) ∧ Kd.R Kd.string 9 w' w0.heap.size (fun k_ => (P0_ k_ ∨ w.heap.size ≤ k_)) u9000_ r2 ∧ Below w0.heap.size w0 w' ∧ Kept w w' (fun k_ => P0_ k_) := by
 have Jq := am (show Kd.R Kd.string 9 w w0.heap.size (fun k_ => (P0_ k_ ∨ w.heap.size ≤ k_)) u9000_ l0 from Kd.ax ho0 (fun k_ hk => (.inl hk)))
 have HK := am (Kept.refl w (fun k_ => P0_ k_))
 have HW0 := aa.mk hB.size
 have HB := am hB; clear hB
 have H := h
 clear h
 unfold bH.f at H
 have H' := am H; clear H
 go_enter Tryz.func34, Tryz.ntmps34
 go_wp2
 go_loopg [1, 5] k (fun kq v1 v5 w' => ∃ (x0_1 : List ByteArray) (x1_1 : Int) (x5_1 : Int), v1 = .int .i64 x1_1 ∧ v5 = .int .i64 x5_1 ∧ aa (bH.l0 kq x0_1 x1_1 x5_1 = some (r1, r2)) ∧ aa (kq ≤ k) ∧ aa (Kd.R Kd.string 9 w' w0.heap.size (fun k_ => (P0_ k_ ∨ w.heap.size ≤ k_)) u9000_ x0_1) ∧ aa (Kept w w' (fun k_ => P0_ k_)) ∧ aa (Below w0.heap.size w0 w'))
 case atStart => exact ⟨(l0), (a1), (0), rs, rs, H', ⟨Nat.le_refl _⟩, ⟨kr Jq.out⟩, ⟨by repeat (first | (with_reducible first | exact HK.out | apply Kept.alloc | apply Kept.drewN | apply Kept.drew) | exact HK.out)⟩, ⟨bl⟩⟩
 case round =>
  clear H'
  obtain ⟨x0_1, x1_1, x5_1, rfl, rfl, HA, Gi, Eb, HK, HB⟩ := hrel
  cases gk with
  | zero => exact absurd HA.out (by simp [bH.l0])
  | succ k1 =>
   have H := HA.out
   clear HA
   simp only [bH.l0] at H
   revert H; refine iDb (fun Em H => ?_) fun Em H => ?_
   ·revert H; refine bj fun t465 A4 H => ?_
    revert H; refine i1 fun Ew H => ?_
    generalize h_ : ((x0_1.set (x5_1 : Int).toNat t465) : List ByteArray) = Gv at H
    have Gw := am h_.symm; clear h_; try rw [Option.bind_some] at H
    have H' := am H; clear H
    obtain ⟨Ky, Jr, Js⟩ := Kd.aI Eb.out
    subst Js
    go_wp2_with (first | ((with_reducible refine c_ 59 ?_); refine gc 59 (some 15) Tryz.func59 (aK.calls _ _ _ _ A4.out) ?_; rintro e w8 ⟨rfl, hb⟩; refine ⟨_, rfl, ?_⟩; replace Eb := ro Eb hb; replace HK := am (Kept.below (S := (fun k_ => P0_ k_)) (by repeat (first | (with_reducible first | exact HK.out | apply Kept.alloc | apply Kept.drewN | apply Kept.drew) | exact HK.out)) hb); replace HB := ho hb; clear hb; have p6 : 0 ≤ (x5_1 : Int) := ode; have q6 : (x5_1 : Int) < ((x0_1.length : Int) : Int) := ode; obtain ⟨Gx, Kz, Jd, Je, Jt, La, Jf⟩ := Kd.kH Eb.out (by omega); (first | cases Jd | (injection Jd with ea_ en_ ec_; (first | subst ea_ | (injection ea_ with ea_; subst ea_)); subst ec_; clear en_)); have Ju := aa.mk Je; have Lc := aa.mk Jf; clear Je Jt Jf; have Jg := am (show (P0_ Gx ∨ w.heap.size ≤ Gx) from (Eb.out.1 _ rfl)); obtain ⟨Jh, Ji⟩ := Kd.pJ (⟨#[]⟩ : ByteArray) Eb.out (x5_1 : Int) p6 q6; replace p6 := eq_true p6; replace q6 := eq_true q6; obtain ⟨hy9_, hz9_⟩ := Kd.pJ (⟨#[]⟩ : ByteArray) Eb.out (x5_1 : Int) (ode) (ode); have Ib := Kd.vT Eb.out (x5_1 : Int) t465) | ((with_reducible refine eB (t := 9) (p := 16) rfl ?_); refine dV (t := 9) (p := 16) (v := ?vo_w10) (w1 := (w8.setCell ⟨Gx, (x5_1 : Int).toNat, none⟩ (.string t465))) ?hg ?ho ?hn ?hr ?_; (case ho => rfl); (case hg => rfl); (case hn => rfl); (case hr => first | (go_simp; done) | (go_simp; rfl)); intro w10 hw; have hg : w8.grownBy w10 (some Gx) := (by rw [hw]; exact Ib.2); have hp_ : Kd.R Kd.string 9 w10 w0.heap.size (fun k_ => (P0_ k_ ∨ w.heap.size ≤ k_)) (.slice (some ⟨Gx, 0, none⟩) x0_1.length Jr) Gv := (by rw [hw, Gw.out]; exact Ib.1); clear Ib; replace HB := am ((by rw [hw]; exact bJ (HB.out) Ju.out : Below w0.heap.size w0 w10)); replace HK := am (Kept.fO (S := (fun k_ => P0_ k_)) hg (by repeat (first | (with_reducible first | exact HK.out | apply Kept.alloc | apply Kept.drewN | apply Kept.drew) | exact HK.out)) (fun k_ e_ => (Eb.out.1 k_ e_))); replace Eb := am (hp_); clear hg hw hp_))
    go_roundg k1
    case measure => have := Gi.out; omega
    case rel => exact ⟨(Gv), (wrap64 (x1_1 + 1)), (wrap64 (x5_1 + 1)), rs, rs, H', ⟨by have := Gi.out; omega⟩, ⟨kr Eb.out⟩, ⟨by repeat (first | (with_reducible first | exact HK.out | apply Kept.alloc | apply Kept.drewN | apply Kept.drew) | exact HK.out)⟩, ⟨bl⟩⟩
   simp only [Option.some.injEq, Prod.mk.injEq] at H
   obtain ⟨rfl, rfl⟩ := H
   obtain ⟨Jv, Jw, Ic⟩ := Kd.aI Eb.out
   subst Ic
   go_wp2
   go_ret
   exact ⟨er, kr Eb.out, bl, by repeat (first | (with_reducible first | exact HK.out | apply Kept.alloc | apply Kept.drewN | apply Kept.drew) | exact HK.out)⟩
def bU.l0 : Nat → List (S83) → Int → Int → Option (Int × (List (S83)))
 | 0, _, _, _ => none
 | k + 1, x0, x1, x5 => if x5 < (x0.length : Int) then ((aK.f k x1).bind fun t467 => (if 0 ≤ x5 then ((some (x0.set (x5 : Int).toNat (⟨t467, (aX x0 x5).f1, (aX x0 x5).f2, (aX x0 x5).f3⟩ : S83) : List (S83))).bind fun y468 => ((some (y468.set (x5 : Int).toNat (⟨(aX y468 x5).f0, wrap64 (x1 + 1), (aX y468 x5).f2, (aX y468 x5).f3⟩ : S83) : List (S83))).bind fun y469 => ((some (y469.set (x5 : Int).toNat (⟨(aX y469 x5).f0, (aX y469 x5).f1, wrap64 ((wrap64 (x1 + 1)) + 1), (aX y469 x5).f3⟩ : S83) : List (S83))).bind fun y470 => (bU.l0 k (y470.set (x5 : Int).toNat (⟨(aX y470 x5).f0, (aX y470 x5).f1, (aX y470 x5).f2, wrap64 ((wrap64 ((wrap64 (x1 + 1)) + 1)) + 1)⟩ : S83)) (wrap64 ((wrap64 ((wrap64 ((wrap64 (x1 + 1)) + 1)) + 1)) + 1)) (wrap64 (x5 + 1)))))) else (none))) else (some (x1, x0))
def bU.f (k : Nat) (l0 : List (S83)) (a1 : Int) : Option (Int × (List (S83))) := bU.l0 k l0 a1 0
theorem bU.bI : ∀ k, (∀ y0 y1 y2, LeO (bU.l0 k y0 y1 y2) (bU.l0 (k + 1) y0 y1 y2))
 | 0 => fun _ _ _ r h => by simp [bU.l0] at h
 | k + 1 => by
  have ih0 := bU.bI k
  ·intro y0 y1 y2
   unfold bU.l0
   repeat' (with_reducible first | exact ih0 .. | exact aK.mono .. | exact LeO.refl _ | exact LeO.none _ | refine LeO.ite ?_ ?_ | refine LeO.bind ?_ (fun _ => ?_))
theorem bU.mono : ∀ a0 a1 k, LeO (bU.f k a0 a1) (bU.f (k + 1) a0 a1) := by
 intro a0 a1 k
 have ih0 := bU.bI k
 unfold bU.f
 repeat' (with_reducible first | exact ih0 .. | exact aK.mono .. | exact LeO.refl _ | exact LeO.none _ | refine LeO.ite ?_ ?_ | refine LeO.bind ?_ (fun _ => ?_))
theorem bU.calls (k : Nat) (P0_ : Nat → Prop) (u9000_ : Value) (l0 : List (S83)) (a1 : Int) (r1 : Int) (r2 : List (S83)) (w0 w : World) (hB : Below w0.heap.size w0 w) (ho0 : Kd.R k83 83 w w0.heap.size P0_ u9000_ l0) (h : bU.f k l0 a1 = some (r1, r2)) :
  Calls Tryz.prog 35 #[u9000_, .int .i64 a1] w fun e w' => e = .returned (.int .i64 r1) ∧ Kd.R k83 83 w' w0.heap.size (fun k_ => (P0_ k_ ∨ w.heap.size ≤ k_)) u9000_ r2 ∧ Below w0.heap.size w0 w' ∧ Kept w w' (fun k_ => P0_ k_) := by
 have Jv := am (show Kd.R k83 83 w w0.heap.size (fun k_ => (P0_ k_ ∨ w.heap.size ≤ k_)) u9000_ l0 from Kd.ax ho0 (fun k_ hk => (.inl hk)))
 have HK := am (Kept.refl w (fun k_ => P0_ k_))
 have HW0 := aa.mk hB.size
 have HB := am hB; clear hB
 have H := h
 clear h
 unfold bU.f at H
 have H' := am H; clear H
 go_enter Tryz.func35, Tryz.ntmps35
 go_wp2
 go_loopg [1, 5] k (fun kq v1 v5 w' => ∃ (x0_1 : List (S83)) (x1_1 : Int) (x5_1 : Int), v1 = .int .i64 x1_1 ∧ v5 = .int .i64 x5_1 ∧ aa (bU.l0 kq x0_1 x1_1 x5_1 = some (r1, r2)) ∧ aa (kq ≤ k) ∧ aa (Kd.R k83 83 w' w0.heap.size (fun k_ => (P0_ k_ ∨ w.heap.size ≤ k_)) u9000_ x0_1) ∧ aa (Kept w w' (fun k_ => P0_ k_)) ∧ aa (Below w0.heap.size w0 w'))
 case atStart => exact ⟨(l0), (a1), (0), rs, rs, H', ⟨Nat.le_refl _⟩, ⟨kr Jv.out⟩, ⟨by repeat (first | (with_reducible first | exact HK.out | apply Kept.alloc | apply Kept.drewN | apply Kept.drew) | exact HK.out)⟩, ⟨bl⟩⟩
 case round =>
  clear H'
  obtain ⟨x0_1, x1_1, x5_1, rfl, rfl, HA, Gk, Cb, HK, HB⟩ := hrel
  cases gk with
  | zero => exact absurd HA.out (by simp [bU.l0])
  | succ k1 =>
   have H := HA.out
   clear HA
   simp only [bU.l0] at H
   revert H; refine iDb (fun Et H => ?_) fun Et H => ?_
   ·revert H; refine bj fun t467 A4 H => ?_
    revert H; refine i1 fun Pq H => ?_
    generalize h_ : ((x0_1.set (x5_1 : Int).toNat (⟨t467, (aX x0_1 x5_1).f1, (aX x0_1 x5_1).f2, (aX x0_1 x5_1).f3⟩ : S83)) : List (S83)) = y468 at H
    have Ln := am h_.symm; clear h_; try rw [Option.bind_some] at H
    generalize h_ : ((y468.set (x5_1 : Int).toNat (⟨(aX y468 x5_1).f0, wrap64 (x1_1 + 1), (aX y468 x5_1).f2, (aX y468 x5_1).f3⟩ : S83)) : List (S83)) = y469 at H
    have Lp := am h_.symm; clear h_; try rw [Option.bind_some] at H
    generalize h_ : ((y469.set (x5_1 : Int).toNat (⟨(aX y469 x5_1).f0, (aX y469 x5_1).f1, wrap64 ((wrap64 (x1_1 + 1)) + 1), (aX y469 x5_1).f3⟩ : S83)) : List (S83)) = y470 at H
    have Lq := am h_.symm; clear h_; try rw [Option.bind_some] at H
    generalize h_ : ((y470.set (x5_1 : Int).toNat (⟨(aX y470 x5_1).f0, (aX y470 x5_1).f1, (aX y470 x5_1).f2, wrap64 ((wrap64 ((wrap64 (x1_1 + 1)) + 1)) + 1)⟩ : S83)) : List (S83)) = Lr at H
    have Ls := am h_.symm; clear h_; try rw [Option.bind_some] at H
    have H' := am H; clear H
    obtain ⟨Ie, Dl, Gl⟩ := Kd.aI Cb.out
    subst Gl
    go_wp2_with (first | ((with_reducible refine c_ 59 ?_); refine gc 59 (some 15) Tryz.func59 (aK.calls _ _ _ _ A4.out) ?_; rintro e w11 ⟨rfl, hb⟩; refine ⟨_, rfl, ?_⟩; replace Cb := ro Cb hb; replace HK := am (Kept.below (S := (fun k_ => P0_ k_)) (by repeat (first | (with_reducible first | exact HK.out | apply Kept.alloc | apply Kept.drewN | apply Kept.drew) | exact HK.out)) hb); replace HB := ho hb; clear hb; have p6 : 0 ≤ (x5_1 : Int) := ode; have q6 : (x5_1 : Int) < ((x0_1.length : Int) : Int) := ode; obtain ⟨Cd, Sr, Lu, Ly, Pv, Ss, Ma⟩ := Kd.kH Cb.out (by omega); (first | cases Lu | (injection Lu with ea_ en_ ec_; (first | subst ea_ | (injection ea_ with ea_; subst ea_)); subst ec_; clear en_)); have Ih := aa.mk Ly; have Su := aa.mk Ma; clear Ly Pv Ma; have Mc := am (show (P0_ Cd ∨ w.heap.size ≤ Cd) from (Cb.out.1 _ rfl)); obtain ⟨Rn, Gm, hM6, Dt, Du⟩ := Kd.fe Cb.out z83 (x5_1 : Int) p6 q6; obtain rfl := il hM6; have Ii : w11.cell? ⟨Cd, (x5_1 : Int).toNat * 4, none⟩ = some (.string ((aX x0_1 x5_1).f0)) := Dt 0 _ rfl; have Ij : w11.cell? ⟨Cd, (x5_1 : Int).toNat * 4 + 1, none⟩ = some (.int .i64 ((aX x0_1 x5_1).f1)) := Dt 1 _ rfl; have Ik : w11.cell? ⟨Cd, (x5_1 : Int).toNat * 4 + 2, none⟩ = some (.int .i64 ((aX x0_1 x5_1).f2)) := Dt 2 _ rfl; have Ro : w11.cell? ⟨Cd, (x5_1 : Int).toNat * 4 + 3, none⟩ = some (.int .i64 ((aX x0_1 x5_1).f3)) := Dt 3 _ rfl; have Il : w11.frozen? ⟨Cd, (x5_1 : Int).toNat * 4, none⟩ = false := Du 0; have Im : w11.frozen? ⟨Cd, (x5_1 : Int).toNat * 4 + 1, none⟩ = false := Du 1; have Io : w11.frozen? ⟨Cd, (x5_1 : Int).toNat * 4 + 2, none⟩ = false := Du 2; have Rq : w11.frozen? ⟨Cd, (x5_1 : Int).toNat * 4 + 3, none⟩ = false := Du 3; clear Gm Dt Du hM6; replace p6 := eq_true p6; replace q6 := eq_true q6; have Gn := am (show Kd.R k83 83 w11 w0.heap.size (fun k_ => (P0_ k_ ∨ w.heap.size ≤ k_)) (.slice (some ⟨Cd, 0, none⟩) x0_1.length Dl) x0_1 from (kr Cb.out)); obtain ⟨Px, Ej, hM12, Dx, Ek⟩ := Kd.fe Gn.out z83 (x5_1 : Int) (ode) (by have h_ : (x5_1 : Int) < ((x0_1.length : Int) : Int) := ode; first | exact h_ | (have e_ := (Kd.af Cb.out).1; omega) | simpa using h_); obtain rfl := il hM12; have Eu := Kd.jd Gn.out (x5_1 : Int) (ode) (by have h_ : (x5_1 : Int) < ((x0_1.length : Int) : Int) := ode; first | exact h_ | (have e_ := (Kd.af Cb.out).1; omega) | simpa using h_) (seg := [.string t467]) (j := 0) Ej Dx (show 1 ≤ 4 from by decide) (x' := (⟨t467, (aX x0_1 x5_1).f1, (aX x0_1 x5_1).f2, (aX x0_1 x5_1).f3⟩ : S83)) (lh _ _ _ (⟨t467, (aX x0_1 x5_1).f1, (aX x0_1 x5_1).f2, (aX x0_1 x5_1).f3⟩ : S83) ) (fun _ hk => hk); have Ew := Dx 0 _ rfl; (try simp only [show (k83).sz = 4 from rfl, Nat.mul_one, Nat.add_zero] at Ew); have Ey := Ek 0; (try simp only [show (k83).sz = 4 from rfl, Nat.mul_one, Nat.add_zero] at Ey); clear Ej Dx Ek hM12) | ((with_reducible refine eB (t := 9) (p := 17) rfl ?_); refine dV (t := 9) (p := 17) (v := ?vo_w13) (w1 := (w11.setCell ⟨Cd, (x5_1 : Int).toNat * 4, none⟩ (.string t467))) ?hg ?ho ?hn ?hr ?_; (case ho => rfl); (case hg => rfl); (case hn => rfl); (case hr => first | (go_simp; done) | (go_simp; rfl)); intro w13 hw; have hg : w11.grownBy w13 (some Cd) := (by rw [hw]; exact Eu.2); have hp_ : Kd.R k83 83 w13 w0.heap.size (fun k_ => (P0_ k_ ∨ w.heap.size ≤ k_)) (.slice (some ⟨Cd, 0, none⟩) x0_1.length Dl) y468 := (by rw [hw, Ln.out]; exact Eu.1); clear Eu; replace HB := am ((by rw [hw]; exact bJ (HB.out) Ih.out : Below w0.heap.size w0 w13)); replace HK := am (Kept.fO (S := (fun k_ => P0_ k_)) hg (by repeat (first | (with_reducible first | exact HK.out | apply Kept.alloc | apply Kept.drewN | apply Kept.drew) | exact HK.out)) (fun k_ e_ => (Cb.out.1 k_ e_))); replace Cb := am (hp_); clear hg hw hp_; have p7 : 0 ≤ (x5_1 : Int) := ode; have q7 : (x5_1 : Int) < ((x0_1.length : Int) : Int) := ode; obtain ⟨Rt, Gp, hM7, Dn, Dp⟩ := Kd.fe Cb.out z83 (x5_1 : Int) p7 q7; obtain rfl := il hM7; have Ip : w13.cell? ⟨Cd, (x5_1 : Int).toNat * 4, none⟩ = some (.string ((aX y468 x5_1).f0)) := Dn 0 _ rfl; have Iq : w13.cell? ⟨Cd, (x5_1 : Int).toNat * 4 + 1, none⟩ = some (.int .i64 ((aX y468 x5_1).f1)) := Dn 1 _ rfl; have Ir : w13.cell? ⟨Cd, (x5_1 : Int).toNat * 4 + 2, none⟩ = some (.int .i64 ((aX y468 x5_1).f2)) := Dn 2 _ rfl; have Md : w13.cell? ⟨Cd, (x5_1 : Int).toNat * 4 + 3, none⟩ = some (.int .i64 ((aX y468 x5_1).f3)) := Dn 3 _ rfl; have Iu : w13.frozen? ⟨Cd, (x5_1 : Int).toNat * 4, none⟩ = false := Dp 0; have Iw : w13.frozen? ⟨Cd, (x5_1 : Int).toNat * 4 + 1, none⟩ = false := Dp 1; have Ix : w13.frozen? ⟨Cd, (x5_1 : Int).toNat * 4 + 2, none⟩ = false := Dp 2; have Me : w13.frozen? ⟨Cd, (x5_1 : Int).toNat * 4 + 3, none⟩ = false := Dp 3; clear Gp Dn Dp hM7; replace p7 := eq_true p7; replace q7 := eq_true q7; have Mj := am (show Kd.R k83 83 w13 w0.heap.size (fun k_ => (P0_ k_ ∨ w.heap.size ≤ k_)) (.slice (some ⟨Cd, 0, none⟩) x0_1.length Dl) y468 from (kr Cb.out)); obtain ⟨Sv, Iy, hM14, Gq, Iz⟩ := Kd.fe Mj.out z83 (x5_1 : Int) (ode) (by have h_ : (x5_1 : Int) < ((x0_1.length : Int) : Int) := ode; first | exact h_ | (have e_ := (Kd.af Cb.out).1; omega) | simpa using h_); obtain rfl := il hM14; have Jw := Kd.jd Mj.out (x5_1 : Int) (ode) (by have h_ : (x5_1 : Int) < ((x0_1.length : Int) : Int) := ode; first | exact h_ | (have e_ := (Kd.af Cb.out).1; omega) | simpa using h_) (seg := [.int .i64 (wrap64 (x1_1 + 1))]) (j := 1) Iy Gq (show 2 ≤ 4 from by decide) (x' := (⟨(aX y468 x5_1).f0, wrap64 (x1_1 + 1), (aX y468 x5_1).f2, (aX y468 x5_1).f3⟩ : S83)) (lh _ _ _ (⟨(aX y468 x5_1).f0, wrap64 (x1_1 + 1), (aX y468 x5_1).f2, (aX y468 x5_1).f3⟩ : S83) ) (fun _ hk => hk); have Jx := Gq 1 _ rfl; (try simp only [show (k83).sz = 4 from rfl, Nat.mul_one, Nat.add_zero] at Jx); have Jy := Iz 1; (try simp only [show (k83).sz = 4 from rfl, Nat.mul_one, Nat.add_zero] at Jy); clear Iy Gq Iz hM14) | ((with_reducible refine eB (t := 2) (p := 24) rfl ?_); refine dV (t := 2) (p := 24) (v := ?vo_w15) (w1 := (w13.setCell ⟨Cd, (x5_1 : Int).toNat * 4 + 1, none⟩ (.int .i64 (wrap64 (x1_1 + 1))))) ?hg ?ho ?hn ?hr ?_; (case ho => rfl); (case hg => rfl); (case hn => rfl); (case hr => first | (go_simp; done) | (go_simp; rfl)); intro w15 hw; have hg : w13.grownBy w15 (some Cd) := (by rw [hw]; exact Jw.2); have hp_ : Kd.R k83 83 w15 w0.heap.size (fun k_ => (P0_ k_ ∨ w.heap.size ≤ k_)) (.slice (some ⟨Cd, 0, none⟩) x0_1.length Dl) y469 := (by rw [hw, Lp.out]; exact Jw.1); clear Jw; replace HB := am ((by rw [hw]; exact bJ (HB.out) Ih.out : Below w0.heap.size w0 w15)); replace HK := am (Kept.fO (S := (fun k_ => P0_ k_)) hg (by repeat (first | (with_reducible first | exact HK.out | apply Kept.alloc | apply Kept.drewN | apply Kept.drew) | exact HK.out)) (fun k_ e_ => (Cb.out.1 k_ e_))); replace Cb := am (hp_); clear hg hw hp_; have p8 : 0 ≤ (x5_1 : Int) := ode; have q8 : (x5_1 : Int) < ((x0_1.length : Int) : Int) := ode; obtain ⟨Sz, Jz, hM8, Ee, Ef⟩ := Kd.fe Cb.out z83 (x5_1 : Int) p8 q8; obtain rfl := il hM8; have Mo : w15.cell? ⟨Cd, (x5_1 : Int).toNat * 4, none⟩ = some (.string ((aX y469 x5_1).f0)) := Ee 0 _ rfl; have Mp : w15.cell? ⟨Cd, (x5_1 : Int).toNat * 4 + 1, none⟩ = some (.int .i64 ((aX y469 x5_1).f1)) := Ee 1 _ rfl; have Mq : w15.cell? ⟨Cd, (x5_1 : Int).toNat * 4 + 2, none⟩ = some (.int .i64 ((aX y469 x5_1).f2)) := Ee 2 _ rfl; have Ru : w15.cell? ⟨Cd, (x5_1 : Int).toNat * 4 + 3, none⟩ = some (.int .i64 ((aX y469 x5_1).f3)) := Ee 3 _ rfl; have Mv : w15.frozen? ⟨Cd, (x5_1 : Int).toNat * 4, none⟩ = false := Ef 0; have My : w15.frozen? ⟨Cd, (x5_1 : Int).toNat * 4 + 1, none⟩ = false := Ef 1; have Na : w15.frozen? ⟨Cd, (x5_1 : Int).toNat * 4 + 2, none⟩ = false := Ef 2; have Rw : w15.frozen? ⟨Cd, (x5_1 : Int).toNat * 4 + 3, none⟩ = false := Ef 3; clear Jz Ee Ef hM8; replace p8 := eq_true p8; replace q8 := eq_true q8; have Gs := am (show Kd.R k83 83 w15 w0.heap.size (fun k_ => (P0_ k_ ∨ w.heap.size ≤ k_)) (.slice (some ⟨Cd, 0, none⟩) x0_1.length Dl) y469 from (kr Cb.out)); obtain ⟨Py, Em, hM16, Dy, En⟩ := Kd.fe Gs.out z83 (x5_1 : Int) (ode) (by have h_ : (x5_1 : Int) < ((x0_1.length : Int) : Int) := ode; first | exact h_ | (have e_ := (Kd.af Cb.out).1; omega) | simpa using h_); obtain rfl := il hM16; have Ez := Kd.jd Gs.out (x5_1 : Int) (ode) (by have h_ : (x5_1 : Int) < ((x0_1.length : Int) : Int) := ode; first | exact h_ | (have e_ := (Kd.af Cb.out).1; omega) | simpa using h_) (seg := [.int .i64 (wrap64 ((wrap64 (x1_1 + 1)) + 1))]) (j := 2) Em Dy (show 3 ≤ 4 from by decide) (x' := (⟨(aX y469 x5_1).f0, (aX y469 x5_1).f1, wrap64 ((wrap64 (x1_1 + 1)) + 1), (aX y469 x5_1).f3⟩ : S83)) (lh _ _ _ (⟨(aX y469 x5_1).f0, (aX y469 x5_1).f1, wrap64 ((wrap64 (x1_1 + 1)) + 1), (aX y469 x5_1).f3⟩ : S83) ) (fun _ hk => hk); have Ka := Dy 2 _ rfl; (try simp only [show (k83).sz = 4 from rfl, Nat.mul_one, Nat.add_zero] at Ka); have Kb := En 2; (try simp only [show (k83).sz = 4 from rfl, Nat.mul_one, Nat.add_zero] at Kb); clear Em Dy En hM16) | ((with_reducible refine eB (t := 2) (p := 31) rfl ?_); refine dV (t := 2) (p := 31) (v := ?vo_w17) (w1 := (w15.setCell ⟨Cd, (x5_1 : Int).toNat * 4 + 2, none⟩ (.int .i64 (wrap64 ((wrap64 (x1_1 + 1)) + 1))))) ?hg ?ho ?hn ?hr ?_; (case ho => rfl); (case hg => rfl); (case hn => rfl); (case hr => first | (go_simp; done) | (go_simp; rfl)); intro w17 hw; have hg : w15.grownBy w17 (some Cd) := (by rw [hw]; exact Ez.2); have hp_ : Kd.R k83 83 w17 w0.heap.size (fun k_ => (P0_ k_ ∨ w.heap.size ≤ k_)) (.slice (some ⟨Cd, 0, none⟩) x0_1.length Dl) y470 := (by rw [hw, Lq.out]; exact Ez.1); clear Ez; replace HB := am ((by rw [hw]; exact bJ (HB.out) Ih.out : Below w0.heap.size w0 w17)); replace HK := am (Kept.fO (S := (fun k_ => P0_ k_)) hg (by repeat (first | (with_reducible first | exact HK.out | apply Kept.alloc | apply Kept.drewN | apply Kept.drew) | exact HK.out)) (fun k_ e_ => (Cb.out.1 k_ e_))); replace Cb := am (hp_); clear hg hw hp_; have p9 : 0 ≤ (x5_1 : Int) := ode; have q9 : (x5_1 : Int) < ((x0_1.length : Int) : Int) := ode; obtain ⟨Pz, Eo, hM9, Dj, Dk⟩ := Kd.fe Cb.out z83 (x5_1 : Int) p9 q9; obtain rfl := il hM9; have Gf : w17.cell? ⟨Cd, (x5_1 : Int).toNat * 4, none⟩ = some (.string ((aX y470 x5_1).f0)) := Dj 0 _ rfl; have Ja : w17.cell? ⟨Cd, (x5_1 : Int).toNat * 4 + 1, none⟩ = some (.int .i64 ((aX y470 x5_1).f1)) := Dj 1 _ rfl; have Jb : w17.cell? ⟨Cd, (x5_1 : Int).toNat * 4 + 2, none⟩ = some (.int .i64 ((aX y470 x5_1).f2)) := Dj 2 _ rfl; have Nb : w17.cell? ⟨Cd, (x5_1 : Int).toNat * 4 + 3, none⟩ = some (.int .i64 ((aX y470 x5_1).f3)) := Dj 3 _ rfl; have Gg : w17.frozen? ⟨Cd, (x5_1 : Int).toNat * 4, none⟩ = false := Dk 0; have Jc : w17.frozen? ⟨Cd, (x5_1 : Int).toNat * 4 + 1, none⟩ = false := Dk 1; have Jd : w17.frozen? ⟨Cd, (x5_1 : Int).toNat * 4 + 2, none⟩ = false := Dk 2; have Nc : w17.frozen? ⟨Cd, (x5_1 : Int).toNat * 4 + 3, none⟩ = false := Dk 3; clear Eo Dj Dk hM9; replace p9 := eq_true p9; replace q9 := eq_true q9; have Nh := am (show Kd.R k83 83 w17 w0.heap.size (fun k_ => (P0_ k_ ∨ w.heap.size ≤ k_)) (.slice (some ⟨Cd, 0, none⟩) x0_1.length Dl) y470 from (kr Cb.out)); obtain ⟨Ta, Je, hM18, Gu, Jf⟩ := Kd.fe Nh.out z83 (x5_1 : Int) (ode) (by have h_ : (x5_1 : Int) < ((x0_1.length : Int) : Int) := ode; first | exact h_ | (have e_ := (Kd.af Cb.out).1; omega) | simpa using h_); obtain rfl := il hM18; have Ke := Kd.jd Nh.out (x5_1 : Int) (ode) (by have h_ : (x5_1 : Int) < ((x0_1.length : Int) : Int) := ode; first | exact h_ | (have e_ := (Kd.af Cb.out).1; omega) | simpa using h_) (seg := [.int .i64 (wrap64 ((wrap64 ((wrap64 (x1_1 + 1)) + 1)) + 1))]) (j := 3) Je Gu (show 4 ≤ 4 from by decide) (x' := (⟨(aX y470 x5_1).f0, (aX y470 x5_1).f1, (aX y470 x5_1).f2, wrap64 ((wrap64 ((wrap64 (x1_1 + 1)) + 1)) + 1)⟩ : S83)) (lh _ _ _ (⟨(aX y470 x5_1).f0, (aX y470 x5_1).f1, (aX y470 x5_1).f2, wrap64 ((wrap64 ((wrap64 (x1_1 + 1)) + 1)) + 1)⟩ : S83) ) (fun _ hk => hk); have Kf := Gu 3 _ rfl; (try simp only [show (k83).sz = 4 from rfl, Nat.mul_one, Nat.add_zero] at Kf); have Kg := Jf 3; (try simp only [show (k83).sz = 4 from rfl, Nat.mul_one, Nat.add_zero] at Kg); clear Je Gu Jf hM18) | ((with_reducible refine eB (t := 2) (p := 38) rfl ?_); refine dV (t := 2) (p := 38) (v := ?vo_w19) (w1 := (w17.setCell ⟨Cd, (x5_1 : Int).toNat * 4 + 3, none⟩ (.int .i64 (wrap64 ((wrap64 ((wrap64 (x1_1 + 1)) + 1)) + 1))))) ?hg ?ho ?hn ?hr ?_; (case ho => rfl); (case hg => rfl); (case hn => rfl); (case hr => first | (go_simp; done) | (go_simp; rfl)); intro w19 hw; have hg : w17.grownBy w19 (some Cd) := (by rw [hw]; exact Ke.2); have hp_ : Kd.R k83 83 w19 w0.heap.size (fun k_ => (P0_ k_ ∨ w.heap.size ≤ k_)) (.slice (some ⟨Cd, 0, none⟩) x0_1.length Dl) Lr := (by rw [hw, Ls.out]; exact Ke.1); clear Ke; replace HB := am ((by rw [hw]; exact bJ (HB.out) Ih.out : Below w0.heap.size w0 w19)); replace HK := am (Kept.fO (S := (fun k_ => P0_ k_)) hg (by repeat (first | (with_reducible first | exact HK.out | apply Kept.alloc | apply Kept.drewN | apply Kept.drew) | exact HK.out)) (fun k_ e_ => (Cb.out.1 k_ e_))); replace Cb := am (hp_); clear hg hw hp_))
    go_roundg k1
    case measure => have := Gk.out; omega
    case rel => exact ⟨(Lr), (wrap64 ((wrap64 ((wrap64 ((wrap64 (x1_1 + 1)) + 1)) + 1)) + 1)), (wrap64 (x5_1 + 1)), rs, rs, H', ⟨by have := Gk.out; omega⟩, ⟨kr Cb.out⟩, ⟨by repeat (first | (with_reducible first | exact HK.out | apply Kept.alloc | apply Kept.drewN | apply Kept.drew) | exact HK.out)⟩, ⟨bl⟩⟩
   simp only [Option.some.injEq, Prod.mk.injEq] at H
   obtain ⟨rfl, rfl⟩ := H
   obtain ⟨Tc, Td, Qa⟩ := Kd.aI Cb.out
   subst Qa
   go_wp2
   go_ret
   exact ⟨er, kr Cb.out, bl, by repeat (first | (with_reducible first | exact HK.out | apply Kept.alloc | apply Kept.drewN | apply Kept.drew) | exact HK.out)⟩
def bM.l0 : Nat → List (S88) → Int → Int → Option (Int × (List (S88)))
 | 0, _, _, _ => none
 | k + 1, x0, x1, x5 => if x5 < (x0.length : Int) then (if 0 ≤ x5 then ((some (x0.set (x5 : Int).toNat (⟨x1, (av x0 x5).f1, (av x0 x5).f2, (av x0 x5).f3, (av x0 x5).f4⟩ : S88) : List (S88))).bind fun y472 => ((aK.f k (wrap64 (x1 + 1))).bind fun t473 => ((some (y472.set (x5 : Int).toNat (⟨(av y472 x5).f0, t473, (av y472 x5).f2, (av y472 x5).f3, (av y472 x5).f4⟩ : S88) : List (S88))).bind fun y474 => ((aK.f k (wrap64 ((wrap64 (x1 + 1)) + 1))).bind fun t475 => ((some (y474.set (x5 : Int).toNat (⟨(av y474 x5).f0, (av y474 x5).f1, t475, (av y474 x5).f3, (av y474 x5).f4⟩ : S88) : List (S88))).bind fun y476 => ((some (y476.set (x5 : Int).toNat (⟨(av y476 x5).f0, (av y476 x5).f1, (av y476 x5).f2, wrap64 ((wrap64 ((wrap64 (x1 + 1)) + 1)) + 1), (av y476 x5).f4⟩ : S88) : List (S88))).bind fun y477 => (bM.l0 k (y477.set (x5 : Int).toNat (⟨(av y477 x5).f0, (av y477 x5).f1, (av y477 x5).f2, (av y477 x5).f3, wrap64 ((wrap64 ((wrap64 ((wrap64 (x1 + 1)) + 1)) + 1)) + 1)⟩ : S88)) (wrap64 ((wrap64 ((wrap64 ((wrap64 ((wrap64 (x1 + 1)) + 1)) + 1)) + 1)) + 1)) (wrap64 (x5 + 1))))))))) else (none)) else (some (x1, x0))
def bM.f (k : Nat) (l0 : List (S88)) (a1 : Int) : Option (Int × (List (S88))) := bM.l0 k l0 a1 0
theorem bM.bI : ∀ k, (∀ y0 y1 y2, LeO (bM.l0 k y0 y1 y2) (bM.l0 (k + 1) y0 y1 y2))
 | 0 => fun _ _ _ r h => by simp [bM.l0] at h
 | k + 1 => by
  have ih0 := bM.bI k
  ·intro y0 y1 y2
   unfold bM.l0
   repeat' (with_reducible first | exact ih0 .. | exact aK.mono .. | exact LeO.refl _ | exact LeO.none _ | refine LeO.ite ?_ ?_ | refine LeO.bind ?_ (fun _ => ?_))
theorem bM.mono : ∀ a0 a1 k, LeO (bM.f k a0 a1) (bM.f (k + 1) a0 a1) := by
 intro a0 a1 k
 have ih0 := bM.bI k
 unfold bM.f
 repeat' (with_reducible first | exact ih0 .. | exact aK.mono .. | exact LeO.refl _ | exact LeO.none _ | refine LeO.ite ?_ ?_ | refine LeO.bind ?_ (fun _ => ?_))
theorem bM.calls (k : Nat) (P0_ : Nat → Prop) (u9000_ : Value) (l0 : List (S88)) (a1 : Int) (r1 : Int) (r2 : List (S88)) (w0 w : World) (hB : Below w0.heap.size w0 w) (ho0 : Kd.R k88 88 w w0.heap.size P0_ u9000_ l0) (h : bM.f k l0 a1 = some (r1, r2)) :
  Calls Tryz.prog 36 #[u9000_, .int .i64 a1] w fun e w' => e = .returned (.int .i64 r1) ∧ Kd.R k88 88 w' w0.heap.size (fun k_ => (P0_ k_ ∨ w.heap.size ≤ k_)) u9000_ r2 ∧ Below w0.heap.size w0 w' ∧ Kept w w' (fun k_ => P0_ k_) := by
 have Jv := am (show Kd.R k88 88 w w0.heap.size (fun k_ => (P0_ k_ ∨ w.heap.size ≤ k_)) u9000_ l0 from Kd.ax ho0 (fun k_ hk => (.inl hk)))
 have HK := am (Kept.refl w (fun k_ => P0_ k_))
 have HW0 := aa.mk hB.size
 have HB := am hB; clear hB
 have H := h
 clear h
 unfold bM.f at H
 have H' := am H; clear H
 go_enter Tryz.func36, Tryz.ntmps36
 go_wp2
 go_loopg [1, 5] k (fun kq v1 v5 w' => ∃ (x0_1 : List (S88)) (x1_1 : Int) (x5_1 : Int), v1 = .int .i64 x1_1 ∧ v5 = .int .i64 x5_1 ∧ aa (bM.l0 kq x0_1 x1_1 x5_1 = some (r1, r2)) ∧ aa (kq ≤ k) ∧ aa (Kd.R k88 88 w' w0.heap.size (fun k_ => (P0_ k_ ∨ w.heap.size ≤ k_)) u9000_ x0_1) ∧ aa (Kept w w' (fun k_ => P0_ k_)) ∧ aa (Below w0.heap.size w0 w'))
 case atStart => exact ⟨(l0), (a1), (0), rs, rs, H', ⟨Nat.le_refl _⟩, ⟨kr Jv.out⟩, ⟨by repeat (first | (with_reducible first | exact HK.out | apply Kept.alloc | apply Kept.drewN | apply Kept.drew) | exact HK.out)⟩, ⟨bl⟩⟩
 case round =>
  clear H'
  obtain ⟨x0_1, x1_1, x5_1, rfl, rfl, HA, Gk, Cb, HK, HB⟩ := hrel
  cases gk with
  | zero => exact absurd HA.out (by simp [bM.l0])
  | succ k1 =>
   have H := HA.out
   clear HA
   simp only [bM.l0] at H
   revert H; refine iDb (fun Et H => ?_) fun Et H => ?_
   ·revert H; refine i1 fun Qb H => ?_
    generalize h_ : ((x0_1.set (x5_1 : Int).toNat (⟨x1_1, (av x0_1 x5_1).f1, (av x0_1 x5_1).f2, (av x0_1 x5_1).f3, (av x0_1 x5_1).f4⟩ : S88)) : List (S88)) = y472 at H
    have Nl := am h_.symm; clear h_; try rw [Option.bind_some] at H
    revert H; refine bj fun t473 A6 H => ?_
    generalize h_ : ((y472.set (x5_1 : Int).toNat (⟨(av y472 x5_1).f0, t473, (av y472 x5_1).f2, (av y472 x5_1).f3, (av y472 x5_1).f4⟩ : S88)) : List (S88)) = y474 at H
    have Np := am h_.symm; clear h_; try rw [Option.bind_some] at H
    revert H; refine bj fun t475 A8 H => ?_
    generalize h_ : ((y474.set (x5_1 : Int).toNat (⟨(av y474 x5_1).f0, (av y474 x5_1).f1, t475, (av y474 x5_1).f3, (av y474 x5_1).f4⟩ : S88)) : List (S88)) = y476 at H
    have Nr := am h_.symm; clear h_; try rw [Option.bind_some] at H
    generalize h_ : ((y476.set (x5_1 : Int).toNat (⟨(av y476 x5_1).f0, (av y476 x5_1).f1, (av y476 x5_1).f2, wrap64 ((wrap64 ((wrap64 (x1_1 + 1)) + 1)) + 1), (av y476 x5_1).f4⟩ : S88)) : List (S88)) = y477 at H
    have Ns := am h_.symm; clear h_; try rw [Option.bind_some] at H
    generalize h_ : ((y477.set (x5_1 : Int).toNat (⟨(av y477 x5_1).f0, (av y477 x5_1).f1, (av y477 x5_1).f2, (av y477 x5_1).f3, wrap64 ((wrap64 ((wrap64 ((wrap64 (x1_1 + 1)) + 1)) + 1)) + 1)⟩ : S88)) : List (S88)) = Nu at H
    have Nv := am h_.symm; clear h_; try rw [Option.bind_some] at H
    have H' := am H; clear H
    obtain ⟨Kh, Dw, Ki⟩ := Kd.aI Cb.out
    subst Ki
    have p5 : 0 ≤ (x5_1 : Int) := ode
    have q5 : (x5_1 : Int) < ((x0_1.length : Int) : Int) := ode
    obtain ⟨Cc, Tf, Nw, Nx, Qc, Ti, Ny⟩ := Kd.kH Cb.out (by omega)
    (first | cases Nw | (injection Nw with ea_ en_ ec_; (first | subst ea_ | (injection ea_ with ea_; subst ea_)); subst ec_; clear en_))
    have Ig := am Nx
    have Tj := am Ny
    clear Nx Qc Ny
    have Nz := am (show (P0_ Cc ∨ w.heap.size ≤ Cc) from (Cb.out.1 _ rfl))
    obtain ⟨Tm, Kj, hM5, Dz, Ea⟩ := Kd.fe Cb.out z88 (x5_1 : Int) p5 q5
    obtain rfl := gz hM5
    have Oa : wr.cell? ⟨Cc, (x5_1 : Int).toNat * 5, none⟩ = some (.int .i64 ((av x0_1 x5_1).f0)) := Dz 0 _ rfl
    have Ob : wr.cell? ⟨Cc, (x5_1 : Int).toNat * 5 + 1, none⟩ = some (.string ((av x0_1 x5_1).f1)) := Dz 1 _ rfl
    have Oc : wr.cell? ⟨Cc, (x5_1 : Int).toNat * 5 + 2, none⟩ = some (.string ((av x0_1 x5_1).f2)) := Dz 2 _ rfl
    have Rx : wr.cell? ⟨Cc, (x5_1 : Int).toNat * 5 + 3, none⟩ = some (.int .i64 ((av x0_1 x5_1).f3)) := Dz 3 _ rfl
    have Ry : wr.cell? ⟨Cc, (x5_1 : Int).toNat * 5 + 4, none⟩ = some (.int .i64 ((av x0_1 x5_1).f4)) := Dz 4 _ rfl
    have Od : wr.frozen? ⟨Cc, (x5_1 : Int).toNat * 5, none⟩ = false := Ea 0
    have Oe : wr.frozen? ⟨Cc, (x5_1 : Int).toNat * 5 + 1, none⟩ = false := Ea 1
    have Og : wr.frozen? ⟨Cc, (x5_1 : Int).toNat * 5 + 2, none⟩ = false := Ea 2
    have Rz : wr.frozen? ⟨Cc, (x5_1 : Int).toNat * 5 + 3, none⟩ = false := Ea 3
    have Sa : wr.frozen? ⟨Cc, (x5_1 : Int).toNat * 5 + 4, none⟩ = false := Ea 4
    clear Kj Dz Ea hM5
    replace p5 := eq_true p5
    replace q5 := eq_true q5
    have Gv := am (show Kd.R k88 88 wr w0.heap.size (fun k_ => (P0_ k_ ∨ w.heap.size ≤ k_)) (.slice (some ⟨Cc, 0, none⟩) x0_1.length Dw) x0_1 from (kr Cb.out))
    obtain ⟨Qd, Ep, hM13, Eb, Es⟩ := Kd.fe Gv.out z88 (x5_1 : Int) (ode) (by have h_ : (x5_1 : Int) < ((x0_1.length : Int) : Int) := ode; first | exact h_ | (have e_ := (Kd.af Cb.out).1; omega) | simpa using h_)
    obtain rfl := gz hM13
    have Ga := Kd.jd Gv.out (x5_1 : Int) (ode) (by have h_ : (x5_1 : Int) < ((x0_1.length : Int) : Int) := ode; first | exact h_ | (have e_ := (Kd.af Cb.out).1; omega) | simpa using h_) (seg := [.int .i64 x1_1]) (j := 0) Ep Eb (show 1 ≤ 5 from by decide) (x' := (⟨x1_1, (av x0_1 x5_1).f1, (av x0_1 x5_1).f2, (av x0_1 x5_1).f3, (av x0_1 x5_1).f4⟩ : S88)) (jT _ _ _ (⟨x1_1, (av x0_1 x5_1).f1, (av x0_1 x5_1).f2, (av x0_1 x5_1).f3, (av x0_1 x5_1).f4⟩ : S88) ) (fun _ hk => hk)
    have Kk := Eb 0 _ rfl
    (try simp only [show (k88).sz = 5 from rfl, Nat.mul_one, Nat.add_zero] at Kk)
    have Kl := Es 0
    (try simp only [show (k88).sz = 5 from rfl, Nat.mul_one, Nat.add_zero] at Kl)
    clear Ep Eb Es hM13
    go_wp2_with (first | ((with_reducible refine eB (t := 2) (p := 16) rfl ?_); refine dV (t := 2) (p := 16) (v := ?vo_w14) (w1 := (wr.setCell ⟨Cc, (x5_1 : Int).toNat * 5, none⟩ (.int .i64 x1_1))) ?hg ?ho ?hn ?hr ?_; (case ho => rfl); (case hg => rfl); (case hn => rfl); (case hr => first | (go_simp; done) | (go_simp; rfl)); intro w14 hw; have hg : wr.grownBy w14 (some Cc) := (by rw [hw]; exact Ga.2); have hp_ : Kd.R k88 88 w14 w0.heap.size (fun k_ => (P0_ k_ ∨ w.heap.size ≤ k_)) (.slice (some ⟨Cc, 0, none⟩) x0_1.length Dw) y472 := (by rw [hw, Nl.out]; exact Ga.1); clear Ga; replace HB := am ((by rw [hw]; exact bJ (HB.out) Ig.out : Below w0.heap.size w0 w14)); replace HK := am (Kept.fO (S := (fun k_ => P0_ k_)) hg (by repeat (first | (with_reducible first | exact HK.out | apply Kept.alloc | apply Kept.drewN | apply Kept.drew) | exact HK.out)) (fun k_ e_ => (Cb.out.1 k_ e_))); replace Cb := am (hp_); clear hg hw hp_) | ((with_reducible refine c_ 59 ?_); refine gc 59 (some 22) Tryz.func59 (aK.calls _ _ _ _ A6.out) ?_; rintro e w15 ⟨rfl, hb⟩; refine ⟨_, rfl, ?_⟩; replace Cb := ro Cb hb; replace HK := am (Kept.below (S := (fun k_ => P0_ k_)) (by repeat (first | (with_reducible first | exact HK.out | apply Kept.alloc | apply Kept.drewN | apply Kept.drew) | exact HK.out)) hb); replace HB := ho hb; clear hb; have p7 : 0 ≤ (x5_1 : Int) := ode; have q7 : (x5_1 : Int) < ((x0_1.length : Int) : Int) := ode; obtain ⟨Rt, Gp, hM7, Dn, Dp⟩ := Kd.fe Cb.out z88 (x5_1 : Int) p7 q7; obtain rfl := gz hM7; have Ip : w15.cell? ⟨Cc, (x5_1 : Int).toNat * 5, none⟩ = some (.int .i64 ((av y472 x5_1).f0)) := Dn 0 _ rfl; have Iq : w15.cell? ⟨Cc, (x5_1 : Int).toNat * 5 + 1, none⟩ = some (.string ((av y472 x5_1).f1)) := Dn 1 _ rfl; have Ir : w15.cell? ⟨Cc, (x5_1 : Int).toNat * 5 + 2, none⟩ = some (.string ((av y472 x5_1).f2)) := Dn 2 _ rfl; have Md : w15.cell? ⟨Cc, (x5_1 : Int).toNat * 5 + 3, none⟩ = some (.int .i64 ((av y472 x5_1).f3)) := Dn 3 _ rfl; have Sf : w15.cell? ⟨Cc, (x5_1 : Int).toNat * 5 + 4, none⟩ = some (.int .i64 ((av y472 x5_1).f4)) := Dn 4 _ rfl; have Iu : w15.frozen? ⟨Cc, (x5_1 : Int).toNat * 5, none⟩ = false := Dp 0; have Iw : w15.frozen? ⟨Cc, (x5_1 : Int).toNat * 5 + 1, none⟩ = false := Dp 1; have Ix : w15.frozen? ⟨Cc, (x5_1 : Int).toNat * 5 + 2, none⟩ = false := Dp 2; have Me : w15.frozen? ⟨Cc, (x5_1 : Int).toNat * 5 + 3, none⟩ = false := Dp 3; have Sg : w15.frozen? ⟨Cc, (x5_1 : Int).toNat * 5 + 4, none⟩ = false := Dp 4; clear Gp Dn Dp hM7; replace p7 := eq_true p7; replace q7 := eq_true q7; have Gs := am (show Kd.R k88 88 w15 w0.heap.size (fun k_ => (P0_ k_ ∨ w.heap.size ≤ k_)) (.slice (some ⟨Cc, 0, none⟩) x0_1.length Dw) y472 from (kr Cb.out)); obtain ⟨Py, Em, hM16, Dy, En⟩ := Kd.fe Gs.out z88 (x5_1 : Int) (ode) (by have h_ : (x5_1 : Int) < ((x0_1.length : Int) : Int) := ode; first | exact h_ | (have e_ := (Kd.af Cb.out).1; omega) | simpa using h_); obtain rfl := gz hM16; have Ez := Kd.jd Gs.out (x5_1 : Int) (ode) (by have h_ : (x5_1 : Int) < ((x0_1.length : Int) : Int) := ode; first | exact h_ | (have e_ := (Kd.af Cb.out).1; omega) | simpa using h_) (seg := [.string t473]) (j := 1) Em Dy (show 2 ≤ 5 from by decide) (x' := (⟨(av y472 x5_1).f0, t473, (av y472 x5_1).f2, (av y472 x5_1).f3, (av y472 x5_1).f4⟩ : S88)) (jT _ _ _ (⟨(av y472 x5_1).f0, t473, (av y472 x5_1).f2, (av y472 x5_1).f3, (av y472 x5_1).f4⟩ : S88) ) (fun _ hk => hk); have Km := Dy 1 _ rfl; (try simp only [show (k88).sz = 5 from rfl, Nat.mul_one, Nat.add_zero] at Km); have Kn := En 1; (try simp only [show (k88).sz = 5 from rfl, Nat.mul_one, Nat.add_zero] at Kn); clear Em Dy En hM16) | ((with_reducible refine eB (t := 9) (p := 24) rfl ?_); refine dV (t := 9) (p := 24) (v := ?vo_w17) (w1 := (w15.setCell ⟨Cc, (x5_1 : Int).toNat * 5 + 1, none⟩ (.string t473))) ?hg ?ho ?hn ?hr ?_; (case ho => rfl); (case hg => rfl); (case hn => rfl); (case hr => first | (go_simp; done) | (go_simp; rfl)); intro w17 hw; have hg : w15.grownBy w17 (some Cc) := (by rw [hw]; exact Ez.2); have hp_ : Kd.R k88 88 w17 w0.heap.size (fun k_ => (P0_ k_ ∨ w.heap.size ≤ k_)) (.slice (some ⟨Cc, 0, none⟩) x0_1.length Dw) y474 := (by rw [hw, Np.out]; exact Ez.1); clear Ez; replace HB := am ((by rw [hw]; exact bJ (HB.out) Ig.out : Below w0.heap.size w0 w17)); replace HK := am (Kept.fO (S := (fun k_ => P0_ k_)) hg (by repeat (first | (with_reducible first | exact HK.out | apply Kept.alloc | apply Kept.drewN | apply Kept.drew) | exact HK.out)) (fun k_ e_ => (Cb.out.1 k_ e_))); replace Cb := am (hp_); clear hg hw hp_) | ((with_reducible refine c_ 59 ?_); refine gc 59 (some 30) Tryz.func59 (aK.calls _ _ _ _ A8.out) ?_; rintro e w18 ⟨rfl, hb⟩; refine ⟨_, rfl, ?_⟩; replace Cb := ro Cb hb; replace HK := am (Kept.below (S := (fun k_ => P0_ k_)) (by repeat (first | (with_reducible first | exact HK.out | apply Kept.alloc | apply Kept.drewN | apply Kept.drew) | exact HK.out)) hb); replace HB := ho hb; clear hb; have p9 : 0 ≤ (x5_1 : Int) := ode; have q9 : (x5_1 : Int) < ((x0_1.length : Int) : Int) := ode; obtain ⟨Pz, Eo, hM9, Dj, Dk⟩ := Kd.fe Cb.out z88 (x5_1 : Int) p9 q9; obtain rfl := gz hM9; have Gf : w18.cell? ⟨Cc, (x5_1 : Int).toNat * 5, none⟩ = some (.int .i64 ((av y474 x5_1).f0)) := Dj 0 _ rfl; have Ja : w18.cell? ⟨Cc, (x5_1 : Int).toNat * 5 + 1, none⟩ = some (.string ((av y474 x5_1).f1)) := Dj 1 _ rfl; have Jb : w18.cell? ⟨Cc, (x5_1 : Int).toNat * 5 + 2, none⟩ = some (.string ((av y474 x5_1).f2)) := Dj 2 _ rfl; have Nb : w18.cell? ⟨Cc, (x5_1 : Int).toNat * 5 + 3, none⟩ = some (.int .i64 ((av y474 x5_1).f3)) := Dj 3 _ rfl; have Si : w18.cell? ⟨Cc, (x5_1 : Int).toNat * 5 + 4, none⟩ = some (.int .i64 ((av y474 x5_1).f4)) := Dj 4 _ rfl; have Gg : w18.frozen? ⟨Cc, (x5_1 : Int).toNat * 5, none⟩ = false := Dk 0; have Jc : w18.frozen? ⟨Cc, (x5_1 : Int).toNat * 5 + 1, none⟩ = false := Dk 1; have Jd : w18.frozen? ⟨Cc, (x5_1 : Int).toNat * 5 + 2, none⟩ = false := Dk 2; have Nc : w18.frozen? ⟨Cc, (x5_1 : Int).toNat * 5 + 3, none⟩ = false := Dk 3; have Sj : w18.frozen? ⟨Cc, (x5_1 : Int).toNat * 5 + 4, none⟩ = false := Dk 4; clear Eo Dj Dk hM9; replace p9 := eq_true p9; replace q9 := eq_true q9; have Oh := am (show Kd.R k88 88 w18 w0.heap.size (fun k_ => (P0_ k_ ∨ w.heap.size ≤ k_)) (.slice (some ⟨Cc, 0, none⟩) x0_1.length Dw) y474 from (kr Cb.out)); obtain ⟨Tn, Jg, hM19, Gw, Jh⟩ := Kd.fe Oh.out z88 (x5_1 : Int) (ode) (by have h_ : (x5_1 : Int) < ((x0_1.length : Int) : Int) := ode; first | exact h_ | (have e_ := (Kd.af Cb.out).1; omega) | simpa using h_); obtain rfl := gz hM19; have Ko := Kd.jd Oh.out (x5_1 : Int) (ode) (by have h_ : (x5_1 : Int) < ((x0_1.length : Int) : Int) := ode; first | exact h_ | (have e_ := (Kd.af Cb.out).1; omega) | simpa using h_) (seg := [.string t475]) (j := 2) Jg Gw (show 3 ≤ 5 from by decide) (x' := (⟨(av y474 x5_1).f0, (av y474 x5_1).f1, t475, (av y474 x5_1).f3, (av y474 x5_1).f4⟩ : S88)) (jT _ _ _ (⟨(av y474 x5_1).f0, (av y474 x5_1).f1, t475, (av y474 x5_1).f3, (av y474 x5_1).f4⟩ : S88) ) (fun _ hk => hk); have Kp := Gw 2 _ rfl; (try simp only [show (k88).sz = 5 from rfl, Nat.mul_one, Nat.add_zero] at Kp); have Kq := Jh 2; (try simp only [show (k88).sz = 5 from rfl, Nat.mul_one, Nat.add_zero] at Kq); clear Jg Gw Jh hM19) | ((with_reducible refine eB (t := 9) (p := 32) rfl ?_); refine dV (t := 9) (p := 32) (v := ?vo_w20) (w1 := (w18.setCell ⟨Cc, (x5_1 : Int).toNat * 5 + 2, none⟩ (.string t475))) ?hg ?ho ?hn ?hr ?_; (case ho => rfl); (case hg => rfl); (case hn => rfl); (case hr => first | (go_simp; done) | (go_simp; rfl)); intro w20 hw; have hg : w18.grownBy w20 (some Cc) := (by rw [hw]; exact Ko.2); have hp_ : Kd.R k88 88 w20 w0.heap.size (fun k_ => (P0_ k_ ∨ w.heap.size ≤ k_)) (.slice (some ⟨Cc, 0, none⟩) x0_1.length Dw) y476 := (by rw [hw, Nr.out]; exact Ko.1); clear Ko; replace HB := am ((by rw [hw]; exact bJ (HB.out) Ig.out : Below w0.heap.size w0 w20)); replace HK := am (Kept.fO (S := (fun k_ => P0_ k_)) hg (by repeat (first | (with_reducible first | exact HK.out | apply Kept.alloc | apply Kept.drewN | apply Kept.drew) | exact HK.out)) (fun k_ e_ => (Cb.out.1 k_ e_))); replace Cb := am (hp_); clear hg hw hp_; have Qe : 0 ≤ (x5_1 : Int) := ode; have Qf : (x5_1 : Int) < ((x0_1.length : Int) : Int) := ode; obtain ⟨Tp, Oi, hM10, Eg, Eh⟩ := Kd.fe Cb.out z88 (x5_1 : Int) Qe Qf; obtain rfl := gz hM10; have Qg : w20.cell? ⟨Cc, (x5_1 : Int).toNat * 5, none⟩ = some (.int .i64 ((av y476 x5_1).f0)) := Eg 0 _ rfl; have Qh : w20.cell? ⟨Cc, (x5_1 : Int).toNat * 5 + 1, none⟩ = some (.string ((av y476 x5_1).f1)) := Eg 1 _ rfl; have Qi : w20.cell? ⟨Cc, (x5_1 : Int).toNat * 5 + 2, none⟩ = some (.string ((av y476 x5_1).f2)) := Eg 2 _ rfl; have Qj : w20.cell? ⟨Cc, (x5_1 : Int).toNat * 5 + 3, none⟩ = some (.int .i64 ((av y476 x5_1).f3)) := Eg 3 _ rfl; have Qk : w20.cell? ⟨Cc, (x5_1 : Int).toNat * 5 + 4, none⟩ = some (.int .i64 ((av y476 x5_1).f4)) := Eg 4 _ rfl; have Ql : w20.frozen? ⟨Cc, (x5_1 : Int).toNat * 5, none⟩ = false := Eh 0; have Qm : w20.frozen? ⟨Cc, (x5_1 : Int).toNat * 5 + 1, none⟩ = false := Eh 1; have Qn : w20.frozen? ⟨Cc, (x5_1 : Int).toNat * 5 + 2, none⟩ = false := Eh 2; have Qo : w20.frozen? ⟨Cc, (x5_1 : Int).toNat * 5 + 3, none⟩ = false := Eh 3; have Qp : w20.frozen? ⟨Cc, (x5_1 : Int).toNat * 5 + 4, none⟩ = false := Eh 4; clear Oi Eg Eh hM10; replace Qe := eq_true Qe; replace Qf := eq_true Qf; have Oj := am (show Kd.R k88 88 w20 w0.heap.size (fun k_ => (P0_ k_ ∨ w.heap.size ≤ k_)) (.slice (some ⟨Cc, 0, none⟩) x0_1.length Dw) y476 from (kr Cb.out)); obtain ⟨Tq, Ji, hM21, Gx, Jj⟩ := Kd.fe Oj.out z88 (x5_1 : Int) (ode) (by have h_ : (x5_1 : Int) < ((x0_1.length : Int) : Int) := ode; first | exact h_ | (have e_ := (Kd.af Cb.out).1; omega) | simpa using h_); obtain rfl := gz hM21; have Kr := Kd.jd Oj.out (x5_1 : Int) (ode) (by have h_ : (x5_1 : Int) < ((x0_1.length : Int) : Int) := ode; first | exact h_ | (have e_ := (Kd.af Cb.out).1; omega) | simpa using h_) (seg := [.int .i64 (wrap64 ((wrap64 ((wrap64 (x1_1 + 1)) + 1)) + 1))]) (j := 3) Ji Gx (show 4 ≤ 5 from by decide) (x' := (⟨(av y476 x5_1).f0, (av y476 x5_1).f1, (av y476 x5_1).f2, wrap64 ((wrap64 ((wrap64 (x1_1 + 1)) + 1)) + 1), (av y476 x5_1).f4⟩ : S88)) (jT _ _ _ (⟨(av y476 x5_1).f0, (av y476 x5_1).f1, (av y476 x5_1).f2, wrap64 ((wrap64 ((wrap64 (x1_1 + 1)) + 1)) + 1), (av y476 x5_1).f4⟩ : S88) ) (fun _ hk => hk); have Ks := Gx 3 _ rfl; (try simp only [show (k88).sz = 5 from rfl, Nat.mul_one, Nat.add_zero] at Ks); have Kt := Jj 3; (try simp only [show (k88).sz = 5 from rfl, Nat.mul_one, Nat.add_zero] at Kt); clear Ji Gx Jj hM21) | ((with_reducible refine eB (t := 2) (p := 39) rfl ?_); refine dV (t := 2) (p := 39) (v := ?vo_w22) (w1 := (w20.setCell ⟨Cc, (x5_1 : Int).toNat * 5 + 3, none⟩ (.int .i64 (wrap64 ((wrap64 ((wrap64 (x1_1 + 1)) + 1)) + 1))))) ?hg ?ho ?hn ?hr ?_; (case ho => rfl); (case hg => rfl); (case hn => rfl); (case hr => first | (go_simp; done) | (go_simp; rfl)); intro w22 hw; have hg : w20.grownBy w22 (some Cc) := (by rw [hw]; exact Kr.2); have hp_ : Kd.R k88 88 w22 w0.heap.size (fun k_ => (P0_ k_ ∨ w.heap.size ≤ k_)) (.slice (some ⟨Cc, 0, none⟩) x0_1.length Dw) y477 := (by rw [hw, Ns.out]; exact Kr.1); clear Kr; replace HB := am ((by rw [hw]; exact bJ (HB.out) Ig.out : Below w0.heap.size w0 w22)); replace HK := am (Kept.fO (S := (fun k_ => P0_ k_)) hg (by repeat (first | (with_reducible first | exact HK.out | apply Kept.alloc | apply Kept.drewN | apply Kept.drew) | exact HK.out)) (fun k_ e_ => (Cb.out.1 k_ e_))); replace Cb := am (hp_); clear hg hw hp_; have Qq : 0 ≤ (x5_1 : Int) := ode; have Qr : (x5_1 : Int) < ((x0_1.length : Int) : Int) := ode; obtain ⟨Qs, Gh, hM11, Dq, Dv⟩ := Kd.fe Cb.out z88 (x5_1 : Int) Qq Qr; obtain rfl := gz hM11; have Qt : w22.cell? ⟨Cc, (x5_1 : Int).toNat * 5, none⟩ = some (.int .i64 ((av y477 x5_1).f0)) := Dq 0 _ rfl; have Gy : w22.cell? ⟨Cc, (x5_1 : Int).toNat * 5 + 1, none⟩ = some (.string ((av y477 x5_1).f1)) := Dq 1 _ rfl; have Qu : w22.cell? ⟨Cc, (x5_1 : Int).toNat * 5 + 2, none⟩ = some (.string ((av y477 x5_1).f2)) := Dq 2 _ rfl; have Qv : w22.cell? ⟨Cc, (x5_1 : Int).toNat * 5 + 3, none⟩ = some (.int .i64 ((av y477 x5_1).f3)) := Dq 3 _ rfl; have Qw : w22.cell? ⟨Cc, (x5_1 : Int).toNat * 5 + 4, none⟩ = some (.int .i64 ((av y477 x5_1).f4)) := Dq 4 _ rfl; have Qx : w22.frozen? ⟨Cc, (x5_1 : Int).toNat * 5, none⟩ = false := Dv 0; have Gz : w22.frozen? ⟨Cc, (x5_1 : Int).toNat * 5 + 1, none⟩ = false := Dv 1; have Qy : w22.frozen? ⟨Cc, (x5_1 : Int).toNat * 5 + 2, none⟩ = false := Dv 2; have Qz : w22.frozen? ⟨Cc, (x5_1 : Int).toNat * 5 + 3, none⟩ = false := Dv 3; have Rb : w22.frozen? ⟨Cc, (x5_1 : Int).toNat * 5 + 4, none⟩ = false := Dv 4; clear Gh Dq Dv hM11; replace Qq := eq_true Qq; replace Qr := eq_true Qr; have Ol := am (show Kd.R k88 88 w22 w0.heap.size (fun k_ => (P0_ k_ ∨ w.heap.size ≤ k_)) (.slice (some ⟨Cc, 0, none⟩) x0_1.length Dw) y477 from (kr Cb.out)); obtain ⟨Tt, Jk, hM23, Ia, Jl⟩ := Kd.fe Ol.out z88 (x5_1 : Int) (ode) (by have h_ : (x5_1 : Int) < ((x0_1.length : Int) : Int) := ode; first | exact h_ | (have e_ := (Kd.af Cb.out).1; omega) | simpa using h_); obtain rfl := gz hM23; have Ku := Kd.jd Ol.out (x5_1 : Int) (ode) (by have h_ : (x5_1 : Int) < ((x0_1.length : Int) : Int) := ode; first | exact h_ | (have e_ := (Kd.af Cb.out).1; omega) | simpa using h_) (seg := [.int .i64 (wrap64 ((wrap64 ((wrap64 ((wrap64 (x1_1 + 1)) + 1)) + 1)) + 1))]) (j := 4) Jk Ia (show 5 ≤ 5 from by decide) (x' := (⟨(av y477 x5_1).f0, (av y477 x5_1).f1, (av y477 x5_1).f2, (av y477 x5_1).f3, wrap64 ((wrap64 ((wrap64 ((wrap64 (x1_1 + 1)) + 1)) + 1)) + 1)⟩ : S88)) (jT _ _ _ (⟨(av y477 x5_1).f0, (av y477 x5_1).f1, (av y477 x5_1).f2, (av y477 x5_1).f3, wrap64 ((wrap64 ((wrap64 ((wrap64 (x1_1 + 1)) + 1)) + 1)) + 1)⟩ : S88) ) (fun _ hk => hk); have Kv := Ia 4 _ rfl; (try simp only [show (k88).sz = 5 from rfl, Nat.mul_one, Nat.add_zero] at Kv); have Kw := Jl 4; (try simp only [show (k88).sz = 5 from rfl, Nat.mul_one, Nat.add_zero] at Kw); clear Jk Ia Jl hM23) | ((with_reducible refine eB (t := 2) (p := 46) rfl ?_); refine dV (t := 2) (p := 46) (v := ?vo_w24) (w1 := (w22.setCell ⟨Cc, (x5_1 : Int).toNat * 5 + 4, none⟩ (.int .i64 (wrap64 ((wrap64 ((wrap64 ((wrap64 (x1_1 + 1)) + 1)) + 1)) + 1))))) ?hg ?ho ?hn ?hr ?_; (case ho => rfl); (case hg => rfl); (case hn => rfl); (case hr => first | (go_simp; done) | (go_simp; rfl)); intro w24 hw; have hg : w22.grownBy w24 (some Cc) := (by rw [hw]; exact Ku.2); have hp_ : Kd.R k88 88 w24 w0.heap.size (fun k_ => (P0_ k_ ∨ w.heap.size ≤ k_)) (.slice (some ⟨Cc, 0, none⟩) x0_1.length Dw) Nu := (by rw [hw, Nv.out]; exact Ku.1); clear Ku; replace HB := am ((by rw [hw]; exact bJ (HB.out) Ig.out : Below w0.heap.size w0 w24)); replace HK := am (Kept.fO (S := (fun k_ => P0_ k_)) hg (by repeat (first | (with_reducible first | exact HK.out | apply Kept.alloc | apply Kept.drewN | apply Kept.drew) | exact HK.out)) (fun k_ e_ => (Cb.out.1 k_ e_))); replace Cb := am (hp_); clear hg hw hp_))
    go_roundg k1
    case measure => have := Gk.out; omega
    case rel => exact ⟨(Nu), (wrap64 ((wrap64 ((wrap64 ((wrap64 ((wrap64 (x1_1 + 1)) + 1)) + 1)) + 1)) + 1)), (wrap64 (x5_1 + 1)), rs, rs, H', ⟨by have := Gk.out; omega⟩, ⟨kr Cb.out⟩, ⟨by repeat (first | (with_reducible first | exact HK.out | apply Kept.alloc | apply Kept.drewN | apply Kept.drew) | exact HK.out)⟩, ⟨bl⟩⟩
   simp only [Option.some.injEq, Prod.mk.injEq] at H
   obtain ⟨rfl, rfl⟩ := H
   obtain ⟨Tu, Tv, Re⟩ := Kd.aI Cb.out
   subst Re
   go_wp2
   go_ret
   exact ⟨er, kr Cb.out, bl, by repeat (first | (with_reducible first | exact HK.out | apply Kept.alloc | apply Kept.drewN | apply Kept.drew) | exact HK.out)⟩
def dW.f (k : Nat) (a0_0 : ByteArray) (a0_1 : Int) (l0_2 : List ByteArray) (l0_3 : List ByteArray) (l0_4 : List (S83)) (l0_5 : List (S88)) (l0_6 : List (S88)) (l0_7 : List (S88)) (a1 : Int) : Option (Int × List ByteArray × List ByteArray × (List (S83)) × (List (S88)) × (List (S88)) × (List (S88))) := (bH.f k l0_2 a1).bind fun bt480 => ((bH.f k l0_3 bt480.1).bind fun bt482 => ((bU.f k l0_4 bt482.1).bind fun bt484 => ((bM.f k l0_5 bt484.1).bind fun bt486 => ((bM.f k l0_6 bt486.1).bind fun bt488 => ((bM.f k l0_7 bt488.1).bind fun bt490 => (some (bt490.1, bt480.2, bt482.2, bt484.2, bt486.2, bt488.2, bt490.2)))))))
theorem dW.mono : ∀ a0 a1 a2 a3 a4 a5 a6 a7 a8 k, LeO (dW.f k a0 a1 a2 a3 a4 a5 a6 a7 a8) (dW.f (k + 1) a0 a1 a2 a3 a4 a5 a6 a7 a8) := by
 intro a0 a1 a2 a3 a4 a5 a6 a7 a8 k
 unfold dW.f
 repeat' (with_reducible first | exact bM.mono .. | exact bU.mono .. | exact bH.mono .. | exact LeO.refl _ | exact LeO.none _ | refine LeO.ite ?_ ?_ | refine LeO.bind ?_ (fun _ => ?_))
theorem dW.calls (k : Nat) (a0_0 : ByteArray) (a0_1 : Int) (P0_2_ : Nat → Prop) (u9000_ : Value) (l0_2 : List ByteArray) (P0_3_ : Nat → Prop) (u9001_ : Value) (l0_3 : List ByteArray) (P0_4_ : Nat → Prop) (u9002_ : Value) (l0_4 : List (S83)) (P0_5_ : Nat → Prop) (u9003_ : Value) (l0_5 : List (S88)) (P0_6_ : Nat → Prop) (u9004_ : Value) (l0_6 : List (S88)) (P0_7_ : Nat → Prop) (u9005_ : Value) (l0_7 : List (S88)) (a1 : Int) (r1 : Int) (r2 : List ByteArray) (r3 : List ByteArray) (r4 : List (S83)) (r5 : List (S88)) (r6 : List (S88)) (r7 : List (S88)) (w0 w : World) (hB : Below w0.heap.size w0 w) (ho0_2 : Kd.R Kd.string 9 w w0.heap.size P0_2_ u9000_ l0_2) (hp0_2_0_3 : ∀ k_, P0_2_ k_ → ¬ P0_3_ k_) (ho0_3 : Kd.R Kd.string 9 w w0.heap.size P0_3_ u9001_ l0_3) (hp0_3_0_2 : ∀ k_, P0_3_ k_ → ¬ P0_2_ k_) (ho0_4 : Kd.R k83 83 w w0.heap.size P0_4_ u9002_ l0_4) (ho0_5 : Kd.R k88 88 w w0.heap.size P0_5_ u9003_ l0_5) (hp0_5_0_6 : ∀ k_, P0_5_ k_ → ¬ P0_6_ k_) (hp0_5_0_7 : ∀ k_, P0_5_ k_ → ¬ P0_7_ k_) (ho0_6 : Kd.R k88 88 w w0.heap.size P0_6_ u9004_ l0_6) (hp0_6_0_5 : ∀ k_, P0_6_ k_ → ¬ P0_5_ k_) (hp0_6_0_7 : ∀ k_, P0_6_ k_ → ¬ P0_7_ k_) (ho0_7 : Kd.R k88 88 w w0.heap.size P0_7_ u9005_ l0_7) (hp0_7_0_5 : ∀ k_, P0_7_ k_ → ¬ P0_5_ k_) (hp0_7_0_6 : ∀ k_, P0_7_ k_ → ¬ P0_6_ k_) (h : dW.f k a0_0 a0_1 l0_2 l0_3 l0_4 l0_5 l0_6 l0_7 a1 = some (r1, r2, r3, r4, r5, r6, r7)) :
  Calls Tryz.prog 13 #[.agg #[.string a0_0, .int .i64 a0_1, u9000_, u9001_, u9002_, u9003_, u9004_, u9005_], .int .i64 a1] w fun e w' => e = .returned (.int .i64 r1) ∧ Kd.R Kd.string 9 w' w0.heap.size (fun k_ => ((P0_2_ k_ ∨ P0_3_ k_ ∨ P0_4_ k_ ∨ P0_5_ k_ ∨ P0_6_ k_ ∨ P0_7_ k_) ∨ w.heap.size ≤ k_)) u9000_ r2 ∧ Kd.R Kd.string 9 w' w0.heap.size (fun k_ => ((P0_2_ k_ ∨ P0_3_ k_ ∨ P0_4_ k_ ∨ P0_5_ k_ ∨ P0_6_ k_ ∨ P0_7_ k_) ∨ w.heap.size ≤ k_)) u9001_ r3 ∧ Kd.R k83 83 w' w0.heap.size (fun k_ => ((P0_2_ k_ ∨ P0_3_ k_ ∨ P0_4_ k_ ∨ P0_5_ k_ ∨ P0_6_ k_ ∨ P0_7_ k_) ∨ w.heap.size ≤ k_)) u9002_ r4 ∧ Kd.R k88 88 w' w0.heap.size (fun k_ => ((P0_2_ k_ ∨ P0_3_ k_ ∨ P0_4_ k_ ∨ P0_5_ k_ ∨ P0_6_ k_ ∨ P0_7_ k_) ∨ w.heap.size ≤ k_)) u9003_ r5 ∧ Kd.R k88 88 w' w0.heap.size (fun k_ => ((P0_2_ k_ ∨ P0_3_ k_ ∨ P0_4_ k_ ∨ P0_5_ k_ ∨ P0_6_ k_ ∨ P0_7_ k_) ∨ w.heap.size ≤ k_)) u9004_ r6 ∧ Kd.R k88 88 w' w0.heap.size (fun k_ => ((P0_2_ k_ ∨ P0_3_ k_ ∨ P0_4_ k_ ∨ P0_5_ k_ ∨ P0_6_ k_ ∨ P0_7_ k_) ∨ w.heap.size ≤ k_)) u9005_ r7 ∧ Below w0.heap.size w0 w' ∧ Kept w w' (fun k_ => P0_2_ k_ ∨ P0_3_ k_ ∨ P0_4_ k_ ∨ P0_5_ k_ ∨ P0_6_ k_ ∨ P0_7_ k_) := by
 have hu39 := Tryz.underlying39
 have Cf := am (show Kd.R Kd.string 9 w w0.heap.size (fun k_ => ((P0_2_ k_ ∨ P0_3_ k_ ∨ P0_4_ k_ ∨ P0_5_ k_ ∨ P0_6_ k_ ∨ P0_7_ k_) ∨ w.heap.size ≤ k_) ∧ some k_ ≠ (u9001_ : Value).ownBlock) u9000_ l0_2 from Kd.ax ho0_2 (fun k_ hk => ⟨(.inl (.inl hk)), fun e_ => hp0_2_0_3 k_ hk (ho0_3.1 k_ e_.symm)⟩))
 have Ci := am (show Kd.R Kd.string 9 w w0.heap.size (fun k_ => ((P0_2_ k_ ∨ P0_3_ k_ ∨ P0_4_ k_ ∨ P0_5_ k_ ∨ P0_6_ k_ ∨ P0_7_ k_) ∨ w.heap.size ≤ k_) ∧ some k_ ≠ (u9000_ : Value).ownBlock) u9001_ l0_3 from Kd.ax ho0_3 (fun k_ hk => ⟨(.inl (.inr (.inl hk))), fun e_ => hp0_3_0_2 k_ hk (ho0_2.1 k_ e_.symm)⟩))
 have Ce := am (show Kd.R k83 83 w w0.heap.size (fun k_ => ((P0_2_ k_ ∨ P0_3_ k_ ∨ P0_4_ k_ ∨ P0_5_ k_ ∨ P0_6_ k_ ∨ P0_7_ k_) ∨ w.heap.size ≤ k_)) u9002_ l0_4 from Kd.ax ho0_4 (fun k_ hk => (.inl (.inr (.inr (.inl hk))))))
 have Cm := am (show Kd.R k88 88 w w0.heap.size (fun k_ => ((P0_2_ k_ ∨ P0_3_ k_ ∨ P0_4_ k_ ∨ P0_5_ k_ ∨ P0_6_ k_ ∨ P0_7_ k_) ∨ w.heap.size ≤ k_) ∧ some k_ ≠ (u9004_ : Value).ownBlock ∧ some k_ ≠ (u9005_ : Value).ownBlock) u9003_ l0_5 from Kd.ax ho0_5 (fun k_ hk => ⟨(.inl (.inr (.inr (.inr (.inl hk))))), fun e_ => hp0_5_0_6 k_ hk (ho0_6.1 k_ e_.symm), fun e_ => hp0_5_0_7 k_ hk (ho0_7.1 k_ e_.symm)⟩))
 have Cn := am (show Kd.R k88 88 w w0.heap.size (fun k_ => ((P0_2_ k_ ∨ P0_3_ k_ ∨ P0_4_ k_ ∨ P0_5_ k_ ∨ P0_6_ k_ ∨ P0_7_ k_) ∨ w.heap.size ≤ k_) ∧ some k_ ≠ (u9003_ : Value).ownBlock ∧ some k_ ≠ (u9005_ : Value).ownBlock) u9004_ l0_6 from Kd.ax ho0_6 (fun k_ hk => ⟨(.inl (.inr (.inr (.inr (.inr (.inl hk)))))), fun e_ => hp0_6_0_5 k_ hk (ho0_5.1 k_ e_.symm), fun e_ => hp0_6_0_7 k_ hk (ho0_7.1 k_ e_.symm)⟩))
 have Dc := am (show Kd.R k88 88 w w0.heap.size (fun k_ => ((P0_2_ k_ ∨ P0_3_ k_ ∨ P0_4_ k_ ∨ P0_5_ k_ ∨ P0_6_ k_ ∨ P0_7_ k_) ∨ w.heap.size ≤ k_) ∧ some k_ ≠ (u9003_ : Value).ownBlock ∧ some k_ ≠ (u9004_ : Value).ownBlock) u9005_ l0_7 from Kd.ax ho0_7 (fun k_ hk => ⟨(.inl (.inr (.inr (.inr (.inr (.inr hk)))))), fun e_ => hp0_7_0_5 k_ hk (ho0_5.1 k_ e_.symm), fun e_ => hp0_7_0_6 k_ hk (ho0_6.1 k_ e_.symm)⟩))
 have HK := am (Kept.refl w (fun k_ => P0_2_ k_ ∨ P0_3_ k_ ∨ P0_4_ k_ ∨ P0_5_ k_ ∨ P0_6_ k_ ∨ P0_7_ k_))
 have HW0 := aa.mk hB.size
 have HB := am hB; clear hB
 have H := h
 clear h
 unfold dW.f at H
 replace H := bi H; obtain ⟨⟨t480, t481⟩, A3, H⟩ := H; dsimp only at H
 replace H := bi H; obtain ⟨⟨t482, t483⟩, A4, H⟩ := H; dsimp only at H
 replace H := bi H; obtain ⟨⟨t484, t485⟩, A5, H⟩ := H; dsimp only at H
 replace H := bi H; obtain ⟨⟨t486, t487⟩, A6, H⟩ := H; dsimp only at H
 replace H := bi H; obtain ⟨⟨t488, t489⟩, A7, H⟩ := H; dsimp only at H
 replace H := bi H; obtain ⟨⟨t490, t491⟩, A8, H⟩ := H; dsimp only at H
 simp only [Option.some.injEq, Prod.mk.injEq] at H
 obtain ⟨rfl, rfl, rfl, rfl, rfl, rfl, rfl⟩ := H
 obtain ⟨Sl, Sm, Tz⟩ := Kd.aI Cf.out
 subst Tz
 obtain ⟨Ie, Dl, Gl⟩ := Kd.aI Ci.out
 subst Gl
 obtain ⟨Om, Oo, Rf⟩ := Kd.aI Ce.out
 subst Rf
 obtain ⟨Kh, Dw, Ki⟩ := Kd.aI Cm.out
 subst Ki
 obtain ⟨Oq, Ot, Rh⟩ := Kd.aI Cn.out
 subst Rh
 obtain ⟨Ou, Ov, Ri⟩ := Kd.aI Dc.out
 subst Ri
 go_enter Tryz.func13, Tryz.ntmps13
 go_wp2_with (first | ((with_reducible refine g_ 2 ?_); refine bx 2 #[.string a0_0, .int .i64 a0_1, .slice Sl l0_2.length Sm, .slice Ie l0_3.length Dl, .slice Om l0_4.length Oo, .slice Kh l0_5.length Dw, .slice Oq l0_6.length Ot, .slice Ou l0_7.length Ov] 39 ?_; intro Jm hg w15 hbox hb; refine r6_ hb Cf Ci Ce Cm Cn Dc ?_; clear Cf Ci Ce Cm Cn Dc; intro Cf Ci Ce Cm Cn Dc; have Cj := am hbox; have Ec := am ((by rw [hg]; exact (by first | exact HK.out.1 | exact (show Kept w _ (fun k_ => P0_2_ k_ ∨ P0_3_ k_ ∨ P0_4_ k_ ∨ P0_5_ k_ ∨ P0_6_ k_ ∨ P0_7_ k_) from by repeat (first | (with_reducible first | exact HK.out | apply Kept.alloc | apply Kept.drewN | apply Kept.drew) | exact HK.out)).1) : w.heap.size ≤ Jm)); replace HK := am (Kept.below (S := (fun k_ => P0_2_ k_ ∨ P0_3_ k_ ∨ P0_4_ k_ ∨ P0_5_ k_ ∨ P0_6_ k_ ∨ P0_7_ k_)) (by repeat (first | (with_reducible first | exact HK.out | apply Kept.alloc | apply Kept.drewN | apply Kept.drew) | exact HK.out)) hb); have Ei := am ((bsz hg : w0.heap.size ≤ Jm)); replace HB := ho hb; clear hb hbox hg; have Uh := dD Cj.out) | ((with_reducible refine c_ 34 ?_); refine gc 34 (some 8) Tryz.func34 (bH.calls _ (fun k_ => some k_ = (.slice Sl l0_2.length Sm : Value).ownBlock) _ _ _ _ _ w0 _ ?Dh ?Di A3.out) ?_; (case Dh => repeat (first | (with_reducible first | exact HB.out | apply aZ | apply aJ | apply bg | refine bJ ?_ Ei.out) | exact HB.out)); (case Di => exact Kd.fq rfl Cf.out); rintro e w17 ⟨rfl, Ed, hb, hkp⟩; refine ⟨_, rfl, ?_⟩; replace Ci := kb0 Ci hkp; replace Ce := kb1 Ce Cf hkp; replace Cm := kb1 Cm Cf hkp; replace Cn := kb1 Cn Cf hkp; replace Dc := kb1 Dc Cf hkp; replace Cj := am (eX (bk Cj.out) hkp (fun hs_ => (fun e_ => (Kd.eG Cf.out Cj.out (by decide)) e_) hs_)); replace HK := am (Kept.kM (S := (fun k_ => P0_2_ k_ ∨ P0_3_ k_ ∨ P0_4_ k_ ∨ P0_5_ k_ ∨ P0_6_ k_ ∨ P0_7_ k_)) (by repeat (first | (with_reducible first | exact HK.out | apply Kept.alloc | apply Kept.drewN | apply Kept.drew | refine Kept.setCell ?_ (.inr Ec.out) _) | exact HK.out)) hkp (fun k_ hs_ => (fun e_ => (Cf.out.1 k_ e_.symm).1) hs_)); replace Cf := am (Kd.iH rfl Ed (fun k_ e_ => Cf.out.1 k_ e_)); replace HB := am (hb); clear hb hkp Ed; have Ui := dD Cj.out) | ((with_reducible refine c_ 34 ?_); refine gc 34 (some 12) Tryz.func34 (bH.calls _ (fun k_ => some k_ = (.slice Ie l0_3.length Dl : Value).ownBlock) _ _ _ _ _ w0 _ ?Dh ?Di A4.out) ?_; (case Dh => repeat (first | (with_reducible first | exact HB.out | apply aZ | apply aJ | apply bg | refine bJ ?_ Ei.out) | exact HB.out)); (case Di => exact Kd.fq rfl Ci.out); rintro e w19 ⟨rfl, Ed, hb, hkp⟩; refine ⟨_, rfl, ?_⟩; replace Cf := kb0 Cf hkp; replace Ce := kb1 Ce Ci hkp; replace Cm := kb1 Cm Ci hkp; replace Cn := kb1 Cn Ci hkp; replace Dc := kb1 Dc Ci hkp; replace Cj := am (eX (bk Cj.out) hkp (fun hs_ => (fun e_ => (Kd.eG Ci.out Cj.out (by decide)) e_) hs_)); replace HK := am (Kept.kM (S := (fun k_ => P0_2_ k_ ∨ P0_3_ k_ ∨ P0_4_ k_ ∨ P0_5_ k_ ∨ P0_6_ k_ ∨ P0_7_ k_)) (by repeat (first | (with_reducible first | exact HK.out | apply Kept.alloc | apply Kept.drewN | apply Kept.drew | refine Kept.setCell ?_ (.inr Ec.out) _) | exact HK.out)) hkp (fun k_ hs_ => (fun e_ => (Ci.out.1 k_ e_.symm).1) hs_)); replace Ci := am (Kd.iH rfl Ed (fun k_ e_ => Ci.out.1 k_ e_)); replace HB := am (hb); clear hb hkp Ed; have Uj := dD Cj.out) | ((with_reducible refine c_ 35 ?_); refine gc 35 (some 16) Tryz.func35 (bU.calls _ (fun k_ => some k_ = (.slice Om l0_4.length Oo : Value).ownBlock) _ _ _ _ _ w0 _ ?Dh ?Di A5.out) ?_; (case Dh => repeat (first | (with_reducible first | exact HB.out | apply aZ | apply aJ | apply bg | refine bJ ?_ Ei.out) | exact HB.out)); (case Di => exact Kd.fq rfl Ce.out); rintro e w21 ⟨rfl, Ed, hb, hkp⟩; refine ⟨_, rfl, ?_⟩; replace Cf := kb1 Cf Ce hkp; replace Ci := kb1 Ci Ce hkp; replace Cm := kb1 Cm Ce hkp; replace Cn := kb1 Cn Ce hkp; replace Dc := kb1 Dc Ce hkp; replace Cj := am (eX (bk Cj.out) hkp (fun hs_ => (fun e_ => (Kd.eG Ce.out Cj.out (by decide)) e_) hs_)); replace HK := am (Kept.kM (S := (fun k_ => P0_2_ k_ ∨ P0_3_ k_ ∨ P0_4_ k_ ∨ P0_5_ k_ ∨ P0_6_ k_ ∨ P0_7_ k_)) (by repeat (first | (with_reducible first | exact HK.out | apply Kept.alloc | apply Kept.drewN | apply Kept.drew | refine Kept.setCell ?_ (.inr Ec.out) _) | exact HK.out)) hkp (fun k_ hs_ => (fun e_ => (Ce.out.1 k_ e_.symm)) hs_)); replace Ce := am (Kd.iH rfl Ed (fun k_ e_ => Ce.out.1 k_ e_)); replace HB := am (hb); clear hb hkp Ed; have Uk := dD Cj.out) | ((with_reducible refine c_ 36 ?_); refine gc 36 (some 20) Tryz.func36 (bM.calls _ (fun k_ => some k_ = (.slice Kh l0_5.length Dw : Value).ownBlock) _ _ _ _ _ w0 _ ?Dh ?Di A6.out) ?_; (case Dh => repeat (first | (with_reducible first | exact HB.out | apply aZ | apply aJ | apply bg | refine bJ ?_ Ei.out) | exact HB.out)); (case Di => exact Kd.fq rfl Cm.out); rintro e w23 ⟨rfl, Ed, hb, hkp⟩; refine ⟨_, rfl, ?_⟩; replace Cf := kb1 Cf Cm hkp; replace Ci := kb1 Ci Cm hkp; replace Ce := kb1 Ce Cm hkp; replace Cn := kb0 Cn hkp; replace Dc := kb0 Dc hkp; replace Cj := am (eX (bk Cj.out) hkp (fun hs_ => (fun e_ => (Kd.eG Cm.out Cj.out (by decide)) e_) hs_)); replace HK := am (Kept.kM (S := (fun k_ => P0_2_ k_ ∨ P0_3_ k_ ∨ P0_4_ k_ ∨ P0_5_ k_ ∨ P0_6_ k_ ∨ P0_7_ k_)) (by repeat (first | (with_reducible first | exact HK.out | apply Kept.alloc | apply Kept.drewN | apply Kept.drew | refine Kept.setCell ?_ (.inr Ec.out) _) | exact HK.out)) hkp (fun k_ hs_ => (fun e_ => (Cm.out.1 k_ e_.symm).1) hs_)); replace Cm := am (Kd.iH rfl Ed (fun k_ e_ => Cm.out.1 k_ e_)); replace HB := am (hb); clear hb hkp Ed; have Ul := dD Cj.out) | ((with_reducible refine c_ 36 ?_); refine gc 36 (some 24) Tryz.func36 (bM.calls _ (fun k_ => some k_ = (.slice Oq l0_6.length Ot : Value).ownBlock) _ _ _ _ _ w0 _ ?Dh ?Di A7.out) ?_; (case Dh => repeat (first | (with_reducible first | exact HB.out | apply aZ | apply aJ | apply bg | refine bJ ?_ Ei.out) | exact HB.out)); (case Di => exact Kd.fq rfl Cn.out); rintro e w25 ⟨rfl, Ed, hb, hkp⟩; refine ⟨_, rfl, ?_⟩; replace Cf := kb1 Cf Cn hkp; replace Ci := kb1 Ci Cn hkp; replace Ce := kb1 Ce Cn hkp; replace Cm := kb0 Cm hkp; replace Dc := kb0 Dc hkp; replace Cj := am (eX (bk Cj.out) hkp (fun hs_ => (fun e_ => (Kd.eG Cn.out Cj.out (by decide)) e_) hs_)); replace HK := am (Kept.kM (S := (fun k_ => P0_2_ k_ ∨ P0_3_ k_ ∨ P0_4_ k_ ∨ P0_5_ k_ ∨ P0_6_ k_ ∨ P0_7_ k_)) (by repeat (first | (with_reducible first | exact HK.out | apply Kept.alloc | apply Kept.drewN | apply Kept.drew | refine Kept.setCell ?_ (.inr Ec.out) _) | exact HK.out)) hkp (fun k_ hs_ => (fun e_ => (Cn.out.1 k_ e_.symm).1) hs_)); replace Cn := am (Kd.iH rfl Ed (fun k_ e_ => Cn.out.1 k_ e_)); replace HB := am (hb); clear hb hkp Ed; have Um := dD Cj.out) | ((with_reducible refine c_ 36 ?_); refine gc 36 (some 28) Tryz.func36 (bM.calls _ (fun k_ => some k_ = (.slice Ou l0_7.length Ov : Value).ownBlock) _ _ _ _ _ w0 _ ?Dh ?Di A8.out) ?_; (case Dh => repeat (first | (with_reducible first | exact HB.out | apply aZ | apply aJ | apply bg | refine bJ ?_ Ei.out) | exact HB.out)); (case Di => exact Kd.fq rfl Dc.out); rintro e w27 ⟨rfl, Ed, hb, hkp⟩; refine ⟨_, rfl, ?_⟩; replace Cf := kb1 Cf Dc hkp; replace Ci := kb1 Ci Dc hkp; replace Ce := kb1 Ce Dc hkp; replace Cm := kb0 Cm hkp; replace Cn := kb0 Cn hkp; replace Cj := am (eX (bk Cj.out) hkp (fun hs_ => (fun e_ => (Kd.eG Dc.out Cj.out (by decide)) e_) hs_)); replace HK := am (Kept.kM (S := (fun k_ => P0_2_ k_ ∨ P0_3_ k_ ∨ P0_4_ k_ ∨ P0_5_ k_ ∨ P0_6_ k_ ∨ P0_7_ k_)) (by repeat (first | (with_reducible first | exact HK.out | apply Kept.alloc | apply Kept.drewN | apply Kept.drew | refine Kept.setCell ?_ (.inr Ec.out) _) | exact HK.out)) hkp (fun k_ hs_ => (fun e_ => (Dc.out.1 k_ e_.symm).1) hs_)); replace Dc := am (Kd.iH rfl Ed (fun k_ e_ => Dc.out.1 k_ e_)); replace HB := am (hb); clear hb hkp Ed))
 go_ret
 exact ⟨er, by (with_reducible repeat (first | apply Kd.fM | apply Kd.fK | apply Kd.dx)); exact Kd.ax Cf.out (fun _ hk => hk.1), by (with_reducible repeat (first | apply Kd.fM | apply Kd.fK | apply Kd.dx)); exact Kd.ax Ci.out (fun _ hk => hk.1), kr Ce.out, by (with_reducible repeat (first | apply Kd.fM | apply Kd.fK | apply Kd.dx)); exact Kd.ax Cm.out (fun _ hk => hk.1), by (with_reducible repeat (first | apply Kd.fM | apply Kd.fK | apply Kd.dx)); exact Kd.ax Cn.out (fun _ hk => hk.1), by (with_reducible repeat (first | apply Kd.fM | apply Kd.fK | apply Kd.dx)); exact Kd.ax Dc.out (fun _ hk => hk.1), bl, by repeat (first | (with_reducible first | exact HK.out | apply Kept.alloc | apply Kept.drewN | apply Kept.drew | refine Kept.setCell ?_ (.inr Ec.out) _) | exact HK.out)⟩
def bT.l0 : Nat → List (S58) → Int → Int → Option (Int × (List (S58)))
 | 0, _, _, _ => none
 | k + 1, x0, x1, x5 => if x5 < (x0.length : Int) then (if 0 ≤ x5 then ((some (x0.set (x5 : Int).toNat (⟨x1, (aD x0 x5).f1, (aD x0 x5).f2⟩ : S58) : List (S58))).bind fun y492 => ((some (y492.set (x5 : Int).toNat (⟨(aD y492 x5).f0, wrap64 (x1 + 1), (aD y492 x5).f2⟩ : S58) : List (S58))).bind fun y493 => (bT.l0 k (y493.set (x5 : Int).toNat (⟨(aD y493 x5).f0, (aD y493 x5).f1, wrap64 ((wrap64 (x1 + 1)) + 1)⟩ : S58)) (wrap64 ((wrap64 ((wrap64 (x1 + 1)) + 1)) + 1)) (wrap64 (x5 + 1))))) else (none)) else (some (x1, x0))
def bT.f (k : Nat) (l0 : List (S58)) (a1 : Int) : Option (Int × (List (S58))) := bT.l0 k l0 a1 0
theorem bT.bI : ∀ k, (∀ y0 y1 y2, LeO (bT.l0 k y0 y1 y2) (bT.l0 (k + 1) y0 y1 y2))
 | 0 => fun _ _ _ r h => by simp [bT.l0] at h
 | k + 1 => by
  have ih0 := bT.bI k
  ·intro y0 y1 y2
   unfold bT.l0
   exact mo
theorem bT.mono : ∀ a0 a1 k, LeO (bT.f k a0 a1) (bT.f (k + 1) a0 a1) := by
 intro a0 a1 k
 have ih0 := bT.bI k
 unfold bT.f
 exact mo
theorem bT.calls (k : Nat) (P0_ : Nat → Prop) (u9000_ : Value) (l0 : List (S58)) (a1 : Int) (r1 : Int) (r2 : List (S58)) (w0 w : World) (hB : Below w0.heap.size w0 w) (ho0 : Kd.R k58 58 w w0.heap.size P0_ u9000_ l0) (h : bT.f k l0 a1 = some (r1, r2)) :
  Calls Tryz.prog 37 #[u9000_, .int .i64 a1] w fun e w' => e = .returned (.int .i64 r1) ∧ Kd.R k58 58 w' w0.heap.size (fun k_ => (P0_ k_ ∨ w.heap.size ≤ k_)) u9000_ r2 ∧ Below w0.heap.size w0 w' ∧ Kept w w' (fun k_ => P0_ k_) := by
 have Jv := am (show Kd.R k58 58 w w0.heap.size (fun k_ => (P0_ k_ ∨ w.heap.size ≤ k_)) u9000_ l0 from Kd.ax ho0 (fun k_ hk => (.inl hk)))
 have HK := am (Kept.refl w (fun k_ => P0_ k_))
 have HW0 := aa.mk hB.size
 have HB := am hB; clear hB
 have H := h
 clear h
 unfold bT.f at H
 have H' := am H; clear H
 go_enter Tryz.func37, Tryz.ntmps37
 go_wp2
 go_loopg [1, 5] k (fun kq v1 v5 w' => ∃ (x0_1 : List (S58)) (x1_1 : Int) (x5_1 : Int), v1 = .int .i64 x1_1 ∧ v5 = .int .i64 x5_1 ∧ aa (bT.l0 kq x0_1 x1_1 x5_1 = some (r1, r2)) ∧ aa (kq ≤ k) ∧ aa (Kd.R k58 58 w' w0.heap.size (fun k_ => (P0_ k_ ∨ w.heap.size ≤ k_)) u9000_ x0_1) ∧ aa (Kept w w' (fun k_ => P0_ k_)) ∧ aa (Below w0.heap.size w0 w'))
 case atStart => exact ⟨(l0), (a1), (0), rs, rs, H', ⟨Nat.le_refl _⟩, ⟨kr Jv.out⟩, ⟨by repeat (first | (with_reducible first | exact HK.out | apply Kept.alloc | apply Kept.drewN | apply Kept.drew) | exact HK.out)⟩, ⟨bl⟩⟩
 case round =>
  clear H'
  obtain ⟨x0_1, x1_1, x5_1, rfl, rfl, HA, Gk, Cb, HK, HB⟩ := hrel
  cases gk with
  | zero => exact absurd HA.out (by simp [bT.l0])
  | succ k1 =>
   have H := HA.out
   clear HA
   simp only [bT.l0] at H
   revert H; refine iDb (fun Et H => ?_) fun Et H => ?_
   ·revert H; refine i1 fun Qb H => ?_
    generalize h_ : ((x0_1.set (x5_1 : Int).toNat (⟨x1_1, (aD x0_1 x5_1).f1, (aD x0_1 x5_1).f2⟩ : S58)) : List (S58)) = y492 at H
    have Ox := am h_.symm; clear h_; try rw [Option.bind_some] at H
    generalize h_ : ((y492.set (x5_1 : Int).toNat (⟨(aD y492 x5_1).f0, wrap64 (x1_1 + 1), (aD y492 x5_1).f2⟩ : S58)) : List (S58)) = y493 at H
    have Oy := am h_.symm; clear h_; try rw [Option.bind_some] at H
    generalize h_ : ((y493.set (x5_1 : Int).toNat (⟨(aD y493 x5_1).f0, (aD y493 x5_1).f1, wrap64 ((wrap64 (x1_1 + 1)) + 1)⟩ : S58)) : List (S58)) = Oz at H
    have Pc := am h_.symm; clear h_; try rw [Option.bind_some] at H
    have H' := am H; clear H
    obtain ⟨Un, Lm, Ua⟩ := Kd.aI Cb.out
    subst Ua
    have p5 : 0 ≤ (x5_1 : Int) := ode
    have q5 : (x5_1 : Int) < ((x0_1.length : Int) : Int) := ode
    obtain ⟨Cc, Tf, Nw, Nx, Qc, Ti, Ny⟩ := Kd.kH Cb.out (by omega)
    (first | cases Nw | (injection Nw with ea_ en_ ec_; (first | subst ea_ | (injection ea_ with ea_; subst ea_)); subst ec_; clear en_))
    have Ig := am Nx
    have Tj := am Ny
    clear Nx Qc Ny
    have Nz := am (show (P0_ Cc ∨ w.heap.size ≤ Cc) from (Cb.out.1 _ rfl))
    obtain ⟨Tm, Kj, hM5, Dz, Ea⟩ := Kd.fe Cb.out z58 (x5_1 : Int) p5 q5
    obtain rfl := iX hM5
    have Oa : wr.cell? ⟨Cc, (x5_1 : Int).toNat * 3, none⟩ = some (.int .i64 ((aD x0_1 x5_1).f0)) := Dz 0 _ rfl
    have Ob : wr.cell? ⟨Cc, (x5_1 : Int).toNat * 3 + 1, none⟩ = some (.int .i64 ((aD x0_1 x5_1).f1)) := Dz 1 _ rfl
    have Oc : wr.cell? ⟨Cc, (x5_1 : Int).toNat * 3 + 2, none⟩ = some (.int .i64 ((aD x0_1 x5_1).f2)) := Dz 2 _ rfl
    have Od : wr.frozen? ⟨Cc, (x5_1 : Int).toNat * 3, none⟩ = false := Ea 0
    have Oe : wr.frozen? ⟨Cc, (x5_1 : Int).toNat * 3 + 1, none⟩ = false := Ea 1
    have Og : wr.frozen? ⟨Cc, (x5_1 : Int).toNat * 3 + 2, none⟩ = false := Ea 2
    clear Kj Dz Ea hM5
    replace p5 := eq_true p5
    replace q5 := eq_true q5
    have Sp := am (show Kd.R k58 58 wr w0.heap.size (fun k_ => (P0_ k_ ∨ w.heap.size ≤ k_)) (.slice (some ⟨Cc, 0, none⟩) x0_1.length Lm) x0_1 from (kr Cb.out))
    obtain ⟨Pz, Eo, hM9, Dj, Dk⟩ := Kd.fe Sp.out z58 (x5_1 : Int) (ode) (by have h_ : (x5_1 : Int) < ((x0_1.length : Int) : Int) := ode; first | exact h_ | (have e_ := (Kd.af Cb.out).1; omega) | simpa using h_)
    obtain rfl := iX hM9
    have Rj := Kd.jd Sp.out (x5_1 : Int) (ode) (by have h_ : (x5_1 : Int) < ((x0_1.length : Int) : Int) := ode; first | exact h_ | (have e_ := (Kd.af Cb.out).1; omega) | simpa using h_) (seg := [.int .i64 x1_1]) (j := 0) Eo Dj (show 1 ≤ 3 from by decide) (x' := (⟨x1_1, (aD x0_1 x5_1).f1, (aD x0_1 x5_1).f2⟩ : S58)) (lY _ _ _ (⟨x1_1, (aD x0_1 x5_1).f1, (aD x0_1 x5_1).f2⟩ : S58) ) (fun _ hk => hk)
    have Gf := Dj 0 _ rfl
    (try simp only [show (k58).sz = 3 from rfl, Nat.mul_one, Nat.add_zero] at Gf)
    have Gg := Dk 0
    (try simp only [show (k58).sz = 3 from rfl, Nat.mul_one, Nat.add_zero] at Gg)
    clear Eo Dj Dk hM9
    go_wp2_with (first | ((with_reducible refine eB (t := 2) (p := 16) rfl ?_); refine dV (t := 2) (p := 16) (v := ?vo_w10) (w1 := (wr.setCell ⟨Cc, (x5_1 : Int).toNat * 3, none⟩ (.int .i64 x1_1))) ?hg ?ho ?hn ?hr ?_; (case ho => rfl); (case hg => rfl); (case hn => rfl); (case hr => first | (go_simp; done) | (go_simp; rfl)); intro w10 hw; have hg : wr.grownBy w10 (some Cc) := (by rw [hw]; exact Rj.2); have hp_ : Kd.R k58 58 w10 w0.heap.size (fun k_ => (P0_ k_ ∨ w.heap.size ≤ k_)) (.slice (some ⟨Cc, 0, none⟩) x0_1.length Lm) y492 := (by rw [hw, Ox.out]; exact Rj.1); clear Rj; replace HB := am ((by rw [hw]; exact bJ (HB.out) Ig.out : Below w0.heap.size w0 w10)); replace HK := am (Kept.fO (S := (fun k_ => P0_ k_)) hg (by repeat (first | (with_reducible first | exact HK.out | apply Kept.alloc | apply Kept.drewN | apply Kept.drew) | exact HK.out)) (fun k_ e_ => (Cb.out.1 k_ e_))); replace Cb := am (hp_); clear hg hw hp_; have p6 : 0 ≤ (x5_1 : Int) := ode; have q6 : (x5_1 : Int) < ((x0_1.length : Int) : Int) := ode; obtain ⟨Rn, Gm, hM6, Dt, Du⟩ := Kd.fe Cb.out z58 (x5_1 : Int) p6 q6; obtain rfl := iX hM6; have Ii : w10.cell? ⟨Cc, (x5_1 : Int).toNat * 3, none⟩ = some (.int .i64 ((aD y492 x5_1).f0)) := Dt 0 _ rfl; have Ij : w10.cell? ⟨Cc, (x5_1 : Int).toNat * 3 + 1, none⟩ = some (.int .i64 ((aD y492 x5_1).f1)) := Dt 1 _ rfl; have Ik : w10.cell? ⟨Cc, (x5_1 : Int).toNat * 3 + 2, none⟩ = some (.int .i64 ((aD y492 x5_1).f2)) := Dt 2 _ rfl; have Il : w10.frozen? ⟨Cc, (x5_1 : Int).toNat * 3, none⟩ = false := Du 0; have Im : w10.frozen? ⟨Cc, (x5_1 : Int).toNat * 3 + 1, none⟩ = false := Du 1; have Io : w10.frozen? ⟨Cc, (x5_1 : Int).toNat * 3 + 2, none⟩ = false := Du 2; clear Gm Dt Du hM6; replace p6 := eq_true p6; replace q6 := eq_true q6; have Pd := am (show Kd.R k58 58 w10 w0.heap.size (fun k_ => (P0_ k_ ∨ w.heap.size ≤ k_)) (.slice (some ⟨Cc, 0, none⟩) x0_1.length Lm) y492 from (kr Cb.out)); obtain ⟨Qs, Gh, hM11, Dq, Dv⟩ := Kd.fe Pd.out z58 (x5_1 : Int) (ode) (by have h_ : (x5_1 : Int) < ((x0_1.length : Int) : Int) := ode; first | exact h_ | (have e_ := (Kd.af Cb.out).1; omega) | simpa using h_); obtain rfl := iX hM11; have Kx := Kd.jd Pd.out (x5_1 : Int) (ode) (by have h_ : (x5_1 : Int) < ((x0_1.length : Int) : Int) := ode; first | exact h_ | (have e_ := (Kd.af Cb.out).1; omega) | simpa using h_) (seg := [.int .i64 (wrap64 (x1_1 + 1))]) (j := 1) Gh Dq (show 2 ≤ 3 from by decide) (x' := (⟨(aD y492 x5_1).f0, wrap64 (x1_1 + 1), (aD y492 x5_1).f2⟩ : S58)) (lY _ _ _ (⟨(aD y492 x5_1).f0, wrap64 (x1_1 + 1), (aD y492 x5_1).f2⟩ : S58) ) (fun _ hk => hk); have Gy := Dq 1 _ rfl; (try simp only [show (k58).sz = 3 from rfl, Nat.mul_one, Nat.add_zero] at Gy); have Gz := Dv 1; (try simp only [show (k58).sz = 3 from rfl, Nat.mul_one, Nat.add_zero] at Gz); clear Gh Dq Dv hM11) | ((with_reducible refine eB (t := 2) (p := 23) rfl ?_); refine dV (t := 2) (p := 23) (v := ?vo_w12) (w1 := (w10.setCell ⟨Cc, (x5_1 : Int).toNat * 3 + 1, none⟩ (.int .i64 (wrap64 (x1_1 + 1))))) ?hg ?ho ?hn ?hr ?_; (case ho => rfl); (case hg => rfl); (case hn => rfl); (case hr => first | (go_simp; done) | (go_simp; rfl)); intro w12 hw; have hg : w10.grownBy w12 (some Cc) := (by rw [hw]; exact Kx.2); have hp_ : Kd.R k58 58 w12 w0.heap.size (fun k_ => (P0_ k_ ∨ w.heap.size ≤ k_)) (.slice (some ⟨Cc, 0, none⟩) x0_1.length Lm) y493 := (by rw [hw, Oy.out]; exact Kx.1); clear Kx; replace HB := am ((by rw [hw]; exact bJ (HB.out) Ig.out : Below w0.heap.size w0 w12)); replace HK := am (Kept.fO (S := (fun k_ => P0_ k_)) hg (by repeat (first | (with_reducible first | exact HK.out | apply Kept.alloc | apply Kept.drewN | apply Kept.drew) | exact HK.out)) (fun k_ e_ => (Cb.out.1 k_ e_))); replace Cb := am (hp_); clear hg hw hp_; have p7 : 0 ≤ (x5_1 : Int) := ode; have q7 : (x5_1 : Int) < ((x0_1.length : Int) : Int) := ode; obtain ⟨Rt, Gp, hM7, Dn, Dp⟩ := Kd.fe Cb.out z58 (x5_1 : Int) p7 q7; obtain rfl := iX hM7; have Ip : w12.cell? ⟨Cc, (x5_1 : Int).toNat * 3, none⟩ = some (.int .i64 ((aD y493 x5_1).f0)) := Dn 0 _ rfl; have Iq : w12.cell? ⟨Cc, (x5_1 : Int).toNat * 3 + 1, none⟩ = some (.int .i64 ((aD y493 x5_1).f1)) := Dn 1 _ rfl; have Ir : w12.cell? ⟨Cc, (x5_1 : Int).toNat * 3 + 2, none⟩ = some (.int .i64 ((aD y493 x5_1).f2)) := Dn 2 _ rfl; have Iu : w12.frozen? ⟨Cc, (x5_1 : Int).toNat * 3, none⟩ = false := Dp 0; have Iw : w12.frozen? ⟨Cc, (x5_1 : Int).toNat * 3 + 1, none⟩ = false := Dp 1; have Ix : w12.frozen? ⟨Cc, (x5_1 : Int).toNat * 3 + 2, none⟩ = false := Dp 2; clear Gp Dn Dp hM7; replace p7 := eq_true p7; replace q7 := eq_true q7; have Gv := am (show Kd.R k58 58 w12 w0.heap.size (fun k_ => (P0_ k_ ∨ w.heap.size ≤ k_)) (.slice (some ⟨Cc, 0, none⟩) x0_1.length Lm) y493 from (kr Cb.out)); obtain ⟨Qd, Ep, hM13, Eb, Es⟩ := Kd.fe Gv.out z58 (x5_1 : Int) (ode) (by have h_ : (x5_1 : Int) < ((x0_1.length : Int) : Int) := ode; first | exact h_ | (have e_ := (Kd.af Cb.out).1; omega) | simpa using h_); obtain rfl := iX hM13; have Ga := Kd.jd Gv.out (x5_1 : Int) (ode) (by have h_ : (x5_1 : Int) < ((x0_1.length : Int) : Int) := ode; first | exact h_ | (have e_ := (Kd.af Cb.out).1; omega) | simpa using h_) (seg := [.int .i64 (wrap64 ((wrap64 (x1_1 + 1)) + 1))]) (j := 2) Ep Eb (show 3 ≤ 3 from by decide) (x' := (⟨(aD y493 x5_1).f0, (aD y493 x5_1).f1, wrap64 ((wrap64 (x1_1 + 1)) + 1)⟩ : S58)) (lY _ _ _ (⟨(aD y493 x5_1).f0, (aD y493 x5_1).f1, wrap64 ((wrap64 (x1_1 + 1)) + 1)⟩ : S58) ) (fun _ hk => hk); have Ky := Eb 2 _ rfl; (try simp only [show (k58).sz = 3 from rfl, Nat.mul_one, Nat.add_zero] at Ky); have Kz := Es 2; (try simp only [show (k58).sz = 3 from rfl, Nat.mul_one, Nat.add_zero] at Kz); clear Ep Eb Es hM13) | ((with_reducible refine eB (t := 2) (p := 30) rfl ?_); refine dV (t := 2) (p := 30) (v := ?vo_w14) (w1 := (w12.setCell ⟨Cc, (x5_1 : Int).toNat * 3 + 2, none⟩ (.int .i64 (wrap64 ((wrap64 (x1_1 + 1)) + 1))))) ?hg ?ho ?hn ?hr ?_; (case ho => rfl); (case hg => rfl); (case hn => rfl); (case hr => first | (go_simp; done) | (go_simp; rfl)); intro w14 hw; have hg : w12.grownBy w14 (some Cc) := (by rw [hw]; exact Ga.2); have hp_ : Kd.R k58 58 w14 w0.heap.size (fun k_ => (P0_ k_ ∨ w.heap.size ≤ k_)) (.slice (some ⟨Cc, 0, none⟩) x0_1.length Lm) Oz := (by rw [hw, Pc.out]; exact Ga.1); clear Ga; replace HB := am ((by rw [hw]; exact bJ (HB.out) Ig.out : Below w0.heap.size w0 w14)); replace HK := am (Kept.fO (S := (fun k_ => P0_ k_)) hg (by repeat (first | (with_reducible first | exact HK.out | apply Kept.alloc | apply Kept.drewN | apply Kept.drew) | exact HK.out)) (fun k_ e_ => (Cb.out.1 k_ e_))); replace Cb := am (hp_); clear hg hw hp_))
    go_roundg k1
    case measure => have := Gk.out; omega
    case rel => exact ⟨(Oz), (wrap64 ((wrap64 ((wrap64 (x1_1 + 1)) + 1)) + 1)), (wrap64 (x5_1 + 1)), rs, rs, H', ⟨by have := Gk.out; omega⟩, ⟨kr Cb.out⟩, ⟨by repeat (first | (with_reducible first | exact HK.out | apply Kept.alloc | apply Kept.drewN | apply Kept.drew) | exact HK.out)⟩, ⟨bl⟩⟩
   simp only [Option.some.injEq, Prod.mk.injEq] at H
   obtain ⟨rfl, rfl⟩ := H
   obtain ⟨Ub, Uc, Rk⟩ := Kd.aI Cb.out
   subst Rk
   go_wp2
   go_ret
   exact ⟨er, kr Cb.out, bl, by repeat (first | (with_reducible first | exact HK.out | apply Kept.alloc | apply Kept.drewN | apply Kept.drew) | exact HK.out)⟩
def eP.f (k : Nat) (l0_0 : List (S58)) (a0_1 : Int) (a0_2 : Int) (a0_3 : Int) (a0_4 : Int) (a1 : Int) : Option (Int × (List (S58))) := (bT.f k l0_0 a1).bind fun bt496 => (some (bt496.1, bt496.2))
theorem eP.mono : ∀ a0 a1 a2 a3 a4 a5 k, LeO (eP.f k a0 a1 a2 a3 a4 a5) (eP.f (k + 1) a0 a1 a2 a3 a4 a5) := by
 intro a0 a1 a2 a3 a4 a5 k
 unfold eP.f
 repeat' (with_reducible first | exact bT.mono .. | exact LeO.refl _ | exact LeO.none _ | refine LeO.ite ?_ ?_ | refine LeO.bind ?_ (fun _ => ?_))
theorem eP.calls (k : Nat) (P0_0_ : Nat → Prop) (u9000_ : Value) (l0_0 : List (S58)) (a0_1 : Int) (a0_2 : Int) (a0_3 : Int) (a0_4 : Int) (a1 : Int) (r1 : Int) (r2 : List (S58)) (w0 w : World) (hB : Below w0.heap.size w0 w) (ho0_0 : Kd.R k58 58 w w0.heap.size P0_0_ u9000_ l0_0) (h : eP.f k l0_0 a0_1 a0_2 a0_3 a0_4 a1 = some (r1, r2)) :
  Calls Tryz.prog 14 #[.agg #[u9000_, .int .i64 a0_1, .int .i64 a0_2, .int .i64 a0_3, .int .i64 a0_4], .int .i64 a1] w fun e w' => e = .returned (.int .i64 r1) ∧ Kd.R k58 58 w' w0.heap.size (fun k_ => (P0_0_ k_ ∨ w.heap.size ≤ k_)) u9000_ r2 ∧ Below w0.heap.size w0 w' ∧ Kept w w' (fun k_ => P0_0_ k_) := by
 have hu43 := Tryz.underlying43
 have Df := am (show Kd.R k58 58 w w0.heap.size (fun k_ => (P0_0_ k_ ∨ w.heap.size ≤ k_)) u9000_ l0_0 from Kd.ax ho0_0 (fun k_ hk => (.inl hk)))
 have HK := am (Kept.refl w (fun k_ => P0_0_ k_))
 have HW0 := aa.mk hB.size
 have HB := am hB; clear hB
 have H := h
 clear h
 unfold eP.f at H
 replace H := bi H; obtain ⟨⟨t496, t497⟩, A3, H⟩ := H; dsimp only at H
 simp only [Option.some.injEq, Prod.mk.injEq] at H
 obtain ⟨rfl, rfl⟩ := H
 obtain ⟨Pe, Pg, Rl⟩ := Kd.aI Df.out
 subst Rl
 go_enter Tryz.func14, Tryz.ntmps14
 go_wp2_with (first | ((with_reducible refine g_ 2 ?_); refine bx 2 #[.slice Pe l0_0.length Pg, .int .i64 a0_1, .int .i64 a0_2, .int .i64 a0_3, .int .i64 a0_4] 43 ?_; intro Jn hg w5 hbox hb; replace Df := ro Df hb; have Gi := am hbox; have Jo := am ((by rw [hg]; exact (by first | exact HK.out.1 | exact (show Kept w _ (fun k_ => P0_0_ k_) from by repeat (first | (with_reducible first | exact HK.out | apply Kept.alloc | apply Kept.drewN | apply Kept.drew) | exact HK.out)).1) : w.heap.size ≤ Jn)); replace HK := am (Kept.below (S := (fun k_ => P0_0_ k_)) (by repeat (first | (with_reducible first | exact HK.out | apply Kept.alloc | apply Kept.drewN | apply Kept.drew) | exact HK.out)) hb); have Ph := am ((bsz hg : w0.heap.size ≤ Jn)); replace HB := ho hb; clear hb hbox hg; have Z6 := dG Gi.out) | ((with_reducible refine c_ 37 ?_); refine gc 37 (some 8) Tryz.func37 (bT.calls _ (fun k_ => some k_ = (.slice Pe l0_0.length Pg : Value).ownBlock) _ _ _ _ _ w0 _ ?Dh ?Di A3.out) ?_; (case Dh => repeat (first | (with_reducible first | exact HB.out | apply aZ | apply aJ | apply bg | refine bJ ?_ Ph.out) | exact HB.out)); (case Di => exact Kd.fq rfl Df.out); rintro e w7 ⟨rfl, Ed, hb, hkp⟩; refine ⟨_, rfl, ?_⟩; replace Gi := am (eX (bk Gi.out) hkp (fun hs_ => (fun e_ => (Kd.eG Df.out Gi.out (by decide)) e_) hs_)); replace HK := am (Kept.kM (S := (fun k_ => P0_0_ k_)) (by repeat (first | (with_reducible first | exact HK.out | apply Kept.alloc | apply Kept.drewN | apply Kept.drew | refine Kept.setCell ?_ (.inr Jo.out) _) | exact HK.out)) hkp (fun k_ hs_ => (fun e_ => (Df.out.1 k_ e_.symm)) hs_)); replace Df := am (Kd.iH rfl Ed (fun k_ e_ => Df.out.1 k_ e_)); replace HB := am (hb); clear hb hkp Ed))
 go_ret
 exact ⟨er, kr Df.out, bl, by repeat (first | (with_reducible first | exact HK.out | apply Kept.alloc | apply Kept.drewN | apply Kept.drew | refine Kept.setCell ?_ (.inr Jo.out) _) | exact HK.out)⟩
def dm.l0 : Nat → List (S60) → Int → Int → Option (Int × (List (S60)))
 | 0, _, _, _ => none
 | k + 1, x0, x1, x5 => if x5 < (x0.length : Int) then ((aK.f k x1).bind fun t498 => (if 0 ≤ x5 then ((some (x0.set (x5 : Int).toNat (⟨t498, (cZ x0 x5).f1, (cZ x0 x5).f2⟩ : S60) : List (S60))).bind fun y499 => ((aK.f k (wrap64 (x1 + 1))).bind fun t500 => ((some (y499.set (x5 : Int).toNat (⟨(cZ y499 x5).f0, t500, (cZ y499 x5).f2⟩ : S60) : List (S60))).bind fun y501 => (dm.l0 k (y501.set (x5 : Int).toNat (⟨(cZ y501 x5).f0, (cZ y501 x5).f1, wrap64 ((wrap64 (x1 + 1)) + 1)⟩ : S60)) (wrap64 ((wrap64 ((wrap64 (x1 + 1)) + 1)) + 1)) (wrap64 (x5 + 1)))))) else (none))) else (some (x1, x0))
def dm.f (k : Nat) (l0 : List (S60)) (a1 : Int) : Option (Int × (List (S60))) := dm.l0 k l0 a1 0
theorem dm.bI : ∀ k, (∀ y0 y1 y2, LeO (dm.l0 k y0 y1 y2) (dm.l0 (k + 1) y0 y1 y2))
 | 0 => fun _ _ _ r h => by simp [dm.l0] at h
 | k + 1 => by
  have ih0 := dm.bI k
  ·intro y0 y1 y2
   unfold dm.l0
   repeat' (with_reducible first | exact ih0 .. | exact aK.mono .. | exact LeO.refl _ | exact LeO.none _ | refine LeO.ite ?_ ?_ | refine LeO.bind ?_ (fun _ => ?_))
theorem dm.mono : ∀ a0 a1 k, LeO (dm.f k a0 a1) (dm.f (k + 1) a0 a1) := by
 intro a0 a1 k
 have ih0 := dm.bI k
 unfold dm.f
 repeat' (with_reducible first | exact ih0 .. | exact aK.mono .. | exact LeO.refl _ | exact LeO.none _ | refine LeO.ite ?_ ?_ | refine LeO.bind ?_ (fun _ => ?_))
theorem dm.calls (k : Nat) (P0_ : Nat → Prop) (u9000_ : Value) (l0 : List (S60)) (a1 : Int) (r1 : Int) (r2 : List (S60)) (w0 w : World) (hB : Below w0.heap.size w0 w) (ho0 : Kd.R k60 60 w w0.heap.size P0_ u9000_ l0) (h : dm.f k l0 a1 = some (r1, r2)) :
  Calls Tryz.prog 38 #[u9000_, .int .i64 a1] w fun e w' => e = .returned (.int .i64 r1) ∧ Kd.R k60 60 w' w0.heap.size (fun k_ => (P0_ k_ ∨ w.heap.size ≤ k_)) u9000_ r2 ∧ Below w0.heap.size w0 w' ∧ Kept w w' (fun k_ => P0_ k_) := by
 have Jv := am (show Kd.R k60 60 w w0.heap.size (fun k_ => (P0_ k_ ∨ w.heap.size ≤ k_)) u9000_ l0 from Kd.ax ho0 (fun k_ hk => (.inl hk)))
 have HK := am (Kept.refl w (fun k_ => P0_ k_))
 have HW0 := aa.mk hB.size
 have HB := am hB; clear hB
 have H := h
 clear h
 unfold dm.f at H
 have H' := am H; clear H
 go_enter Tryz.func38, Tryz.ntmps38
 go_wp2
 go_loopg [1, 5] k (fun kq v1 v5 w' => ∃ (x0_1 : List (S60)) (x1_1 : Int) (x5_1 : Int), v1 = .int .i64 x1_1 ∧ v5 = .int .i64 x5_1 ∧ aa (dm.l0 kq x0_1 x1_1 x5_1 = some (r1, r2)) ∧ aa (kq ≤ k) ∧ aa (Kd.R k60 60 w' w0.heap.size (fun k_ => (P0_ k_ ∨ w.heap.size ≤ k_)) u9000_ x0_1) ∧ aa (Kept w w' (fun k_ => P0_ k_)) ∧ aa (Below w0.heap.size w0 w'))
 case atStart => exact ⟨(l0), (a1), (0), rs, rs, H', ⟨Nat.le_refl _⟩, ⟨kr Jv.out⟩, ⟨by repeat (first | (with_reducible first | exact HK.out | apply Kept.alloc | apply Kept.drewN | apply Kept.drew) | exact HK.out)⟩, ⟨bl⟩⟩
 case round =>
  clear H'
  obtain ⟨x0_1, x1_1, x5_1, rfl, rfl, HA, Gk, Cb, HK, HB⟩ := hrel
  cases gk with
  | zero => exact absurd HA.out (by simp [dm.l0])
  | succ k1 =>
   have H := HA.out
   clear HA
   simp only [dm.l0] at H
   revert H; refine iDb (fun Et H => ?_) fun Et H => ?_
   ·revert H; refine bj fun t498 A4 H => ?_
    revert H; refine i1 fun Pq H => ?_
    generalize h_ : ((x0_1.set (x5_1 : Int).toNat (⟨t498, (cZ x0_1 x5_1).f1, (cZ x0_1 x5_1).f2⟩ : S60)) : List (S60)) = y499 at H
    have Pi := am h_.symm; clear h_; try rw [Option.bind_some] at H
    revert H; refine bj fun t500 A7 H => ?_
    generalize h_ : ((y499.set (x5_1 : Int).toNat (⟨(cZ y499 x5_1).f0, t500, (cZ y499 x5_1).f2⟩ : S60)) : List (S60)) = y501 at H
    have Pj := am h_.symm; clear h_; try rw [Option.bind_some] at H
    generalize h_ : ((y501.set (x5_1 : Int).toNat (⟨(cZ y501 x5_1).f0, (cZ y501 x5_1).f1, wrap64 ((wrap64 (x1_1 + 1)) + 1)⟩ : S60)) : List (S60)) = Pk at H
    have Pm := am h_.symm; clear h_; try rw [Option.bind_some] at H
    have H' := am H; clear H
    obtain ⟨Ie, Dl, Gl⟩ := Kd.aI Cb.out
    subst Gl
    go_wp2_with (first | ((with_reducible refine c_ 59 ?_); refine gc 59 (some 15) Tryz.func59 (aK.calls _ _ _ _ A4.out) ?_; rintro e w11 ⟨rfl, hb⟩; refine ⟨_, rfl, ?_⟩; replace Cb := ro Cb hb; replace HK := am (Kept.below (S := (fun k_ => P0_ k_)) (by repeat (first | (with_reducible first | exact HK.out | apply Kept.alloc | apply Kept.drewN | apply Kept.drew) | exact HK.out)) hb); replace HB := ho hb; clear hb; have p6 : 0 ≤ (x5_1 : Int) := ode; have q6 : (x5_1 : Int) < ((x0_1.length : Int) : Int) := ode; obtain ⟨Cd, Sr, Lu, Ly, Pv, Ss, Ma⟩ := Kd.kH Cb.out (by omega); (first | cases Lu | (injection Lu with ea_ en_ ec_; (first | subst ea_ | (injection ea_ with ea_; subst ea_)); subst ec_; clear en_)); have Ih := aa.mk Ly; have Su := aa.mk Ma; clear Ly Pv Ma; have Mc := am (show (P0_ Cd ∨ w.heap.size ≤ Cd) from (Cb.out.1 _ rfl)); obtain ⟨Rn, Gm, hM6, Dt, Du⟩ := Kd.fe Cb.out z60 (x5_1 : Int) p6 q6; obtain rfl := jI hM6; have Ii : w11.cell? ⟨Cd, (x5_1 : Int).toNat * 3, none⟩ = some (.string ((cZ x0_1 x5_1).f0)) := Dt 0 _ rfl; have Ij : w11.cell? ⟨Cd, (x5_1 : Int).toNat * 3 + 1, none⟩ = some (.string ((cZ x0_1 x5_1).f1)) := Dt 1 _ rfl; have Ik : w11.cell? ⟨Cd, (x5_1 : Int).toNat * 3 + 2, none⟩ = some (.int .i64 ((cZ x0_1 x5_1).f2)) := Dt 2 _ rfl; have Il : w11.frozen? ⟨Cd, (x5_1 : Int).toNat * 3, none⟩ = false := Du 0; have Im : w11.frozen? ⟨Cd, (x5_1 : Int).toNat * 3 + 1, none⟩ = false := Du 1; have Io : w11.frozen? ⟨Cd, (x5_1 : Int).toNat * 3 + 2, none⟩ = false := Du 2; clear Gm Dt Du hM6; replace p6 := eq_true p6; replace q6 := eq_true q6; have Gn := am (show Kd.R k60 60 w11 w0.heap.size (fun k_ => (P0_ k_ ∨ w.heap.size ≤ k_)) (.slice (some ⟨Cd, 0, none⟩) x0_1.length Dl) x0_1 from (kr Cb.out)); obtain ⟨Px, Ej, hM12, Dx, Ek⟩ := Kd.fe Gn.out z60 (x5_1 : Int) (ode) (by have h_ : (x5_1 : Int) < ((x0_1.length : Int) : Int) := ode; first | exact h_ | (have e_ := (Kd.af Cb.out).1; omega) | simpa using h_); obtain rfl := jI hM12; have Eu := Kd.jd Gn.out (x5_1 : Int) (ode) (by have h_ : (x5_1 : Int) < ((x0_1.length : Int) : Int) := ode; first | exact h_ | (have e_ := (Kd.af Cb.out).1; omega) | simpa using h_) (seg := [.string t498]) (j := 0) Ej Dx (show 1 ≤ 3 from by decide) (x' := (⟨t498, (cZ x0_1 x5_1).f1, (cZ x0_1 x5_1).f2⟩ : S60)) (lX _ _ _ (⟨t498, (cZ x0_1 x5_1).f1, (cZ x0_1 x5_1).f2⟩ : S60) ) (fun _ hk => hk); have Ew := Dx 0 _ rfl; (try simp only [show (k60).sz = 3 from rfl, Nat.mul_one, Nat.add_zero] at Ew); have Ey := Ek 0; (try simp only [show (k60).sz = 3 from rfl, Nat.mul_one, Nat.add_zero] at Ey); clear Ej Dx Ek hM12) | ((with_reducible refine eB (t := 9) (p := 17) rfl ?_); refine dV (t := 9) (p := 17) (v := ?vo_w13) (w1 := (w11.setCell ⟨Cd, (x5_1 : Int).toNat * 3, none⟩ (.string t498))) ?hg ?ho ?hn ?hr ?_; (case ho => rfl); (case hg => rfl); (case hn => rfl); (case hr => first | (go_simp; done) | (go_simp; rfl)); intro w13 hw; have hg : w11.grownBy w13 (some Cd) := (by rw [hw]; exact Eu.2); have hp_ : Kd.R k60 60 w13 w0.heap.size (fun k_ => (P0_ k_ ∨ w.heap.size ≤ k_)) (.slice (some ⟨Cd, 0, none⟩) x0_1.length Dl) y499 := (by rw [hw, Pi.out]; exact Eu.1); clear Eu; replace HB := am ((by rw [hw]; exact bJ (HB.out) Ih.out : Below w0.heap.size w0 w13)); replace HK := am (Kept.fO (S := (fun k_ => P0_ k_)) hg (by repeat (first | (with_reducible first | exact HK.out | apply Kept.alloc | apply Kept.drewN | apply Kept.drew) | exact HK.out)) (fun k_ e_ => (Cb.out.1 k_ e_))); replace Cb := am (hp_); clear hg hw hp_) | ((with_reducible refine c_ 59 ?_); refine gc 59 (some 23) Tryz.func59 (aK.calls _ _ _ _ A7.out) ?_; rintro e w14 ⟨rfl, hb⟩; refine ⟨_, rfl, ?_⟩; replace Cb := ro Cb hb; replace HK := am (Kept.below (S := (fun k_ => P0_ k_)) (by repeat (first | (with_reducible first | exact HK.out | apply Kept.alloc | apply Kept.drewN | apply Kept.drew) | exact HK.out)) hb); replace HB := ho hb; clear hb; have p8 : 0 ≤ (x5_1 : Int) := ode; have q8 : (x5_1 : Int) < ((x0_1.length : Int) : Int) := ode; obtain ⟨Sz, Jz, hM8, Ee, Ef⟩ := Kd.fe Cb.out z60 (x5_1 : Int) p8 q8; obtain rfl := jI hM8; have Mo : w14.cell? ⟨Cd, (x5_1 : Int).toNat * 3, none⟩ = some (.string ((cZ y499 x5_1).f0)) := Ee 0 _ rfl; have Mp : w14.cell? ⟨Cd, (x5_1 : Int).toNat * 3 + 1, none⟩ = some (.string ((cZ y499 x5_1).f1)) := Ee 1 _ rfl; have Mq : w14.cell? ⟨Cd, (x5_1 : Int).toNat * 3 + 2, none⟩ = some (.int .i64 ((cZ y499 x5_1).f2)) := Ee 2 _ rfl; have Mv : w14.frozen? ⟨Cd, (x5_1 : Int).toNat * 3, none⟩ = false := Ef 0; have My : w14.frozen? ⟨Cd, (x5_1 : Int).toNat * 3 + 1, none⟩ = false := Ef 1; have Na : w14.frozen? ⟨Cd, (x5_1 : Int).toNat * 3 + 2, none⟩ = false := Ef 2; clear Jz Ee Ef hM8; replace p8 := eq_true p8; replace q8 := eq_true q8; have Pn := am (show Kd.R k60 60 w14 w0.heap.size (fun k_ => (P0_ k_ ∨ w.heap.size ≤ k_)) (.slice (some ⟨Cd, 0, none⟩) x0_1.length Dl) y499 from (kr Cb.out)); obtain ⟨Ud, Jp, hM15, Ib, Jq⟩ := Kd.fe Pn.out z60 (x5_1 : Int) (ode) (by have h_ : (x5_1 : Int) < ((x0_1.length : Int) : Int) := ode; first | exact h_ | (have e_ := (Kd.af Cb.out).1; omega) | simpa using h_); obtain rfl := jI hM15; have La := Kd.jd Pn.out (x5_1 : Int) (ode) (by have h_ : (x5_1 : Int) < ((x0_1.length : Int) : Int) := ode; first | exact h_ | (have e_ := (Kd.af Cb.out).1; omega) | simpa using h_) (seg := [.string t500]) (j := 1) Jp Ib (show 2 ≤ 3 from by decide) (x' := (⟨(cZ y499 x5_1).f0, t500, (cZ y499 x5_1).f2⟩ : S60)) (lX _ _ _ (⟨(cZ y499 x5_1).f0, t500, (cZ y499 x5_1).f2⟩ : S60) ) (fun _ hk => hk); have Lc := Ib 1 _ rfl; (try simp only [show (k60).sz = 3 from rfl, Nat.mul_one, Nat.add_zero] at Lc); have Ld := Jq 1; (try simp only [show (k60).sz = 3 from rfl, Nat.mul_one, Nat.add_zero] at Ld); clear Jp Ib Jq hM15) | ((with_reducible refine eB (t := 9) (p := 25) rfl ?_); refine dV (t := 9) (p := 25) (v := ?vo_w16) (w1 := (w14.setCell ⟨Cd, (x5_1 : Int).toNat * 3 + 1, none⟩ (.string t500))) ?hg ?ho ?hn ?hr ?_; (case ho => rfl); (case hg => rfl); (case hn => rfl); (case hr => first | (go_simp; done) | (go_simp; rfl)); intro w16 hw; have hg : w14.grownBy w16 (some Cd) := (by rw [hw]; exact La.2); have hp_ : Kd.R k60 60 w16 w0.heap.size (fun k_ => (P0_ k_ ∨ w.heap.size ≤ k_)) (.slice (some ⟨Cd, 0, none⟩) x0_1.length Dl) y501 := (by rw [hw, Pj.out]; exact La.1); clear La; replace HB := am ((by rw [hw]; exact bJ (HB.out) Ih.out : Below w0.heap.size w0 w16)); replace HK := am (Kept.fO (S := (fun k_ => P0_ k_)) hg (by repeat (first | (with_reducible first | exact HK.out | apply Kept.alloc | apply Kept.drewN | apply Kept.drew) | exact HK.out)) (fun k_ e_ => (Cb.out.1 k_ e_))); replace Cb := am (hp_); clear hg hw hp_; have p9 : 0 ≤ (x5_1 : Int) := ode; have q9 : (x5_1 : Int) < ((x0_1.length : Int) : Int) := ode; obtain ⟨Pz, Eo, hM9, Dj, Dk⟩ := Kd.fe Cb.out z60 (x5_1 : Int) p9 q9; obtain rfl := jI hM9; have Gf : w16.cell? ⟨Cd, (x5_1 : Int).toNat * 3, none⟩ = some (.string ((cZ y501 x5_1).f0)) := Dj 0 _ rfl; have Ja : w16.cell? ⟨Cd, (x5_1 : Int).toNat * 3 + 1, none⟩ = some (.string ((cZ y501 x5_1).f1)) := Dj 1 _ rfl; have Jb : w16.cell? ⟨Cd, (x5_1 : Int).toNat * 3 + 2, none⟩ = some (.int .i64 ((cZ y501 x5_1).f2)) := Dj 2 _ rfl; have Gg : w16.frozen? ⟨Cd, (x5_1 : Int).toNat * 3, none⟩ = false := Dk 0; have Jc : w16.frozen? ⟨Cd, (x5_1 : Int).toNat * 3 + 1, none⟩ = false := Dk 1; have Jd : w16.frozen? ⟨Cd, (x5_1 : Int).toNat * 3 + 2, none⟩ = false := Dk 2; clear Eo Dj Dk hM9; replace p9 := eq_true p9; replace q9 := eq_true q9; have Po := am (show Kd.R k60 60 w16 w0.heap.size (fun k_ => (P0_ k_ ∨ w.heap.size ≤ k_)) (.slice (some ⟨Cd, 0, none⟩) x0_1.length Dl) y501 from (kr Cb.out)); obtain ⟨Ue, Jr, hM17, Ic, Js⟩ := Kd.fe Po.out z60 (x5_1 : Int) (ode) (by have h_ : (x5_1 : Int) < ((x0_1.length : Int) : Int) := ode; first | exact h_ | (have e_ := (Kd.af Cb.out).1; omega) | simpa using h_); obtain rfl := jI hM17; have Lh := Kd.jd Po.out (x5_1 : Int) (ode) (by have h_ : (x5_1 : Int) < ((x0_1.length : Int) : Int) := ode; first | exact h_ | (have e_ := (Kd.af Cb.out).1; omega) | simpa using h_) (seg := [.int .i64 (wrap64 ((wrap64 (x1_1 + 1)) + 1))]) (j := 2) Jr Ic (show 3 ≤ 3 from by decide) (x' := (⟨(cZ y501 x5_1).f0, (cZ y501 x5_1).f1, wrap64 ((wrap64 (x1_1 + 1)) + 1)⟩ : S60)) (lX _ _ _ (⟨(cZ y501 x5_1).f0, (cZ y501 x5_1).f1, wrap64 ((wrap64 (x1_1 + 1)) + 1)⟩ : S60) ) (fun _ hk => hk); have Lj := Ic 2 _ rfl; (try simp only [show (k60).sz = 3 from rfl, Nat.mul_one, Nat.add_zero] at Lj); have Ll := Js 2; (try simp only [show (k60).sz = 3 from rfl, Nat.mul_one, Nat.add_zero] at Ll); clear Jr Ic Js hM17) | ((with_reducible refine eB (t := 2) (p := 32) rfl ?_); refine dV (t := 2) (p := 32) (v := ?vo_w18) (w1 := (w16.setCell ⟨Cd, (x5_1 : Int).toNat * 3 + 2, none⟩ (.int .i64 (wrap64 ((wrap64 (x1_1 + 1)) + 1))))) ?hg ?ho ?hn ?hr ?_; (case ho => rfl); (case hg => rfl); (case hn => rfl); (case hr => first | (go_simp; done) | (go_simp; rfl)); intro w18 hw; have hg : w16.grownBy w18 (some Cd) := (by rw [hw]; exact Lh.2); have hp_ : Kd.R k60 60 w18 w0.heap.size (fun k_ => (P0_ k_ ∨ w.heap.size ≤ k_)) (.slice (some ⟨Cd, 0, none⟩) x0_1.length Dl) Pk := (by rw [hw, Pm.out]; exact Lh.1); clear Lh; replace HB := am ((by rw [hw]; exact bJ (HB.out) Ih.out : Below w0.heap.size w0 w18)); replace HK := am (Kept.fO (S := (fun k_ => P0_ k_)) hg (by repeat (first | (with_reducible first | exact HK.out | apply Kept.alloc | apply Kept.drewN | apply Kept.drew) | exact HK.out)) (fun k_ e_ => (Cb.out.1 k_ e_))); replace Cb := am (hp_); clear hg hw hp_))
    go_roundg k1
    case measure => have := Gk.out; omega
    case rel => exact ⟨(Pk), (wrap64 ((wrap64 ((wrap64 (x1_1 + 1)) + 1)) + 1)), (wrap64 (x5_1 + 1)), rs, rs, H', ⟨by have := Gk.out; omega⟩, ⟨kr Cb.out⟩, ⟨by repeat (first | (with_reducible first | exact HK.out | apply Kept.alloc | apply Kept.drewN | apply Kept.drew) | exact HK.out)⟩, ⟨bl⟩⟩
   simp only [Option.some.injEq, Prod.mk.injEq] at H
   obtain ⟨rfl, rfl⟩ := H
   obtain ⟨Uf, Ug, Rm⟩ := Kd.aI Cb.out
   subst Rm
   go_wp2
   go_ret
   exact ⟨er, kr Cb.out, bl, by repeat (first | (with_reducible first | exact HK.out | apply Kept.alloc | apply Kept.drewN | apply Kept.drew) | exact HK.out)⟩
def dX.f (k : Nat) (l0_0 : List (S60)) (a0_1 : Int) (a0_2 : Int) (a0_3 : Int) (a0_4 : Int) (a1 : Int) : Option (Int × (List (S60))) := (dm.f k l0_0 a1).bind fun bt504 => (some (bt504.1, bt504.2))
theorem dX.mono : ∀ a0 a1 a2 a3 a4 a5 k, LeO (dX.f k a0 a1 a2 a3 a4 a5) (dX.f (k + 1) a0 a1 a2 a3 a4 a5) := by
 intro a0 a1 a2 a3 a4 a5 k
 unfold dX.f
 repeat' (with_reducible first | exact dm.mono .. | exact LeO.refl _ | exact LeO.none _ | refine LeO.ite ?_ ?_ | refine LeO.bind ?_ (fun _ => ?_))
theorem dX.calls (k : Nat) (P0_0_ : Nat → Prop) (u9000_ : Value) (l0_0 : List (S60)) (a0_1 : Int) (a0_2 : Int) (a0_3 : Int) (a0_4 : Int) (a1 : Int) (r1 : Int) (r2 : List (S60)) (w0 w : World) (hB : Below w0.heap.size w0 w) (ho0_0 : Kd.R k60 60 w w0.heap.size P0_0_ u9000_ l0_0) (h : dX.f k l0_0 a0_1 a0_2 a0_3 a0_4 a1 = some (r1, r2)) :
  Calls Tryz.prog 15 #[.agg #[u9000_, .int .i64 a0_1, .int .i64 a0_2, .int .i64 a0_3, .int .i64 a0_4], .int .i64 a1] w fun e w' => e = .returned (.int .i64 r1) ∧ Kd.R k60 60 w' w0.heap.size (fun k_ => (P0_0_ k_ ∨ w.heap.size ≤ k_)) u9000_ r2 ∧ Below w0.heap.size w0 w' ∧ Kept w w' (fun k_ => P0_0_ k_) := by
 have hu34 := Tryz.underlying34
 have Df := am (show Kd.R k60 60 w w0.heap.size (fun k_ => (P0_0_ k_ ∨ w.heap.size ≤ k_)) u9000_ l0_0 from Kd.ax ho0_0 (fun k_ hk => (.inl hk)))
 have HK := am (Kept.refl w (fun k_ => P0_0_ k_))
 have HW0 := aa.mk hB.size
 have HB := am hB; clear hB
 have H := h
 clear h
 unfold dX.f at H
 replace H := bi H; obtain ⟨⟨t504, t505⟩, A3, H⟩ := H; dsimp only at H
 simp only [Option.some.injEq, Prod.mk.injEq] at H
 obtain ⟨rfl, rfl⟩ := H
 obtain ⟨Pe, Pg, Rl⟩ := Kd.aI Df.out
 subst Rl
 go_enter Tryz.func15, Tryz.ntmps15
 go_wp2_with (first | ((with_reducible refine g_ 2 ?_); refine bx 2 #[.slice Pe l0_0.length Pg, .int .i64 a0_1, .int .i64 a0_2, .int .i64 a0_3, .int .i64 a0_4] 34 ?_; intro Jt hg w5 hbox hb; replace Df := ro Df hb; have Gj := am hbox; have Ju := am ((by rw [hg]; exact (by first | exact HK.out.1 | exact (show Kept w _ (fun k_ => P0_0_ k_) from by repeat (first | (with_reducible first | exact HK.out | apply Kept.alloc | apply Kept.drewN | apply Kept.drew) | exact HK.out)).1) : w.heap.size ≤ Jt)); replace HK := am (Kept.below (S := (fun k_ => P0_0_ k_)) (by repeat (first | (with_reducible first | exact HK.out | apply Kept.alloc | apply Kept.drewN | apply Kept.drew) | exact HK.out)) hb); have Pp := am ((bsz hg : w0.heap.size ≤ Jt)); replace HB := ho hb; clear hb hbox hg; have Z6 := dG Gj.out) | ((with_reducible refine c_ 38 ?_); refine gc 38 (some 8) Tryz.func38 (dm.calls _ (fun k_ => some k_ = (.slice Pe l0_0.length Pg : Value).ownBlock) _ _ _ _ _ w0 _ ?Dh ?Di A3.out) ?_; (case Dh => repeat (first | (with_reducible first | exact HB.out | apply aZ | apply aJ | apply bg | refine bJ ?_ Pp.out) | exact HB.out)); (case Di => exact Kd.fq rfl Df.out); rintro e w7 ⟨rfl, Ed, hb, hkp⟩; refine ⟨_, rfl, ?_⟩; replace Gj := am (eX (bk Gj.out) hkp (fun hs_ => (fun e_ => (Kd.eG Df.out Gj.out (by decide)) e_) hs_)); replace HK := am (Kept.kM (S := (fun k_ => P0_0_ k_)) (by repeat (first | (with_reducible first | exact HK.out | apply Kept.alloc | apply Kept.drewN | apply Kept.drew | refine Kept.setCell ?_ (.inr Ju.out) _) | exact HK.out)) hkp (fun k_ hs_ => (fun e_ => (Df.out.1 k_ e_.symm)) hs_)); replace Df := am (Kd.iH rfl Ed (fun k_ e_ => Df.out.1 k_ e_)); replace HB := am (hb); clear hb hkp Ed))
 go_ret
 exact ⟨er, kr Df.out, bl, by repeat (first | (with_reducible first | exact HK.out | apply Kept.alloc | apply Kept.drewN | apply Kept.drew | refine Kept.setCell ?_ (.inr Ju.out) _) | exact HK.out)⟩
def aT.l0 : Nat → List (S60) → Int → Int → Option (Int)
 | 0, _, _, _ => none
 | k + 1, x0, x1, x5 => if x5 < (x0.length : Int) then (if 0 ≤ x5 then ((aK.f k x1).bind fun t507 => (if ((cZ x0 x5).f0).toList = t507.toList then ((aK.f k (wrap64 (x1 + 1))).bind fun t509 => (if ((cZ x0 x5).f1).toList = t509.toList then (if ((cZ x0 x5).f2) = (wrap64 ((wrap64 (x1 + 1)) + 1)) then (aT.l0 k x0 (wrap64 ((wrap64 ((wrap64 (x1 + 1)) + 1)) + 1)) (wrap64 (x5 + 1))) else (some (-1))) else (some (-1)))) else (some (-1)))) else (none)) else (some x1)
def aT.f (k : Nat) (l0 : List (S60)) (a1 : Int) : Option (Int) := aT.l0 k l0 a1 0
theorem aT.bI : ∀ k, (∀ y0 y1 y2, LeO (aT.l0 k y0 y1 y2) (aT.l0 (k + 1) y0 y1 y2))
 | 0 => fun _ _ _ r h => by simp [aT.l0] at h
 | k + 1 => by
  have ih0 := aT.bI k
  ·intro y0 y1 y2
   unfold aT.l0
   repeat' (with_reducible first | exact ih0 .. | exact aK.mono .. | exact LeO.refl _ | exact LeO.none _ | refine LeO.ite ?_ ?_ | refine LeO.bind ?_ (fun _ => ?_))
theorem aT.mono : ∀ a0 a1 k, LeO (aT.f k a0 a1) (aT.f (k + 1) a0 a1) := by
 intro a0 a1 k
 have ih0 := aT.bI k
 unfold aT.f
 repeat' (with_reducible first | exact ih0 .. | exact aK.mono .. | exact LeO.refl _ | exact LeO.none _ | refine LeO.ite ?_ ?_ | refine LeO.bind ?_ (fun _ => ?_))
def aT.T4 : Bool × List (List Nat × List Nat) := (true, [([], []), ([], []), ([0, 1], [0, 1]), ([2], [2]), ([3], [3]), ([], []), ([5], [5]), ([4, 6], [4, 6])])
def aT.B4 : List Nat := [0, 0, 3, 7, 15, 0, 32, 127]
theorem aT.tab4 : iy .any (opsOf Tryz.f39 4) = aT.T4 := by kernel_rfl
theorem aT.sD : gm aT.T4.2 aT.B4 = true := by kernel_rfl
def aT.T7 : Bool × List (List Nat × List Nat) := (true, [([], []), ([], []), ([0, 1], [0, 1]), ([2], [2]), ([3], [3]), ([], []), ([5], [5]), ([4, 6], [4, 6])])
def aT.B7 : List Nat := [0, 0, 3, 7, 15, 0, 32, 127]
theorem aT.tab7 : iy .any (opsOf Tryz.f39 7) = aT.T7 := by kernel_rfl
theorem aT.vR : gm aT.T7.2 aT.B7 = true := by kernel_rfl
theorem aT.calls (k : Nat) (A0 : Option Addr) (c0 : Nat) (l0 : List (S60)) (a1 : Int) (r : Int) (w : World) (hr0 : Kd.C k60 w A0 l0.length l0) (hc0 : l0.length ≤ c0) (h : aT.f k l0 a1 = some r) :
  Calls Tryz.prog 39 #[.slice A0 l0.length c0, .int .i64 a1] w fun e w' => e = .returned (.int .i64 r) ∧ Below w.heap.size w w' := by
 have Ed := am hr0
 have Et := am hc0
 clear hr0 hc0
 have HB := am (Below.refl w.heap.size w)
 have H := h
 clear h
 unfold aT.f at H
 have H' := am H; clear H
 go_enter Tryz.func39, Tryz.ntmps39
 go_wp2
 go_loopg [1, 5] k (fun kq v1 v5 w' => ∃ (x1_1 : Int) (x5_1 : Int), v1 = .int .i64 x1_1 ∧ v5 = .int .i64 x5_1 ∧ aa (aT.l0 kq l0 x1_1 x5_1 = some r) ∧ aa (kq ≤ k) ∧ aa (Below w.heap.size w w'))
 case atStart => exact ⟨(a1), (0), rs, rs, H', ⟨Nat.le_refl _⟩, ⟨bl⟩⟩
 case round =>
  clear H'
  obtain ⟨x1_1, x5_1, rfl, rfl, HA, Es, HB⟩ := hrel
  cases gk with
  | zero => exact absurd HA.out (by simp [aT.l0])
  | succ k1 =>
   have H := HA.out
   clear HA
   simp only [aT.l0] at H
   revert H; refine iDb (fun Ei H => ?_) fun Ei H => ?_
   ·revert H; refine i1 fun Eg H => ?_
    revert H; refine bj fun t507 A5 H => ?_
    revert H; refine iQ (fun Ej Ek H => ?_) fun c6 Ej Ek H => ?_
    ·revert H; refine bj fun t509 A7 H => ?_
     revert H; refine iQ (fun Em En H => ?_) fun c8 Em En H => ?_
     ·revert H; refine iQ (fun Eo Ep H => ?_) fun c9 Eo Ep H => ?_
      ·have H' := am H; clear H
       try go_wp2
       replace HB := am (bg HB.out)
       have Dj : 0 ≤ (x5_1 : Int) := ode
       have Dk : x5_1 < (l0.length : Int) := ode
       obtain ⟨Dc, e506, Cb, Cc, Cd⟩ := jl Ed.out x5_1 Dj Dk
       have Cj := Cd
       have Cm := Cc
       have Cn := Cb
       cases e506
       obtain ⟨Cb, Cc, Cd⟩ := hb3 HB.out Cb Cc Cd
       replace Dj := eq_true Dj
       replace Dk := eq_true Dk
       refine eH (n := 8) (S := Sa3 (Dc.add ((x5_1).toNat * 3)) (.string ((cZ l0 x5_1).f0)) (.string ((cZ l0 x5_1).f1)) (.int .i64 ((cZ l0 x5_1).f2))) (ds := []) #[F_, F_, F_, F_, F_, F_, F_, F_] (by kernel_rfl) rfl rfl ⟨(hbc HB.out Cn), (hbc HB.out Cm), (hbc HB.out Cj)⟩ (fun hHeld => ?_); refine dJ aT.tab4 aT.sD (fun HT_ HW_ => ?_)
       generalize wr.drew = w10 at HB Cb Cc Cd hHeld ⊢
       refine pv 0 12 ?_
       refine pv 1 13 ?_
       refine pv 2 14 ?_
       refine pv 3 15 ?_
       refine pv 5 17 ?_
       refine tv3 4 16 hHeld ?_
       refine ov 6 18 (fun K hK => ?_)
       refine gk Tryz.func59 (aK.calls _ _ _ _ A5.out) ?_
       rintro e w11 ⟨rfl, hb⟩
       refine ⟨_, rfl, ?_⟩
       replace HB := ho hb
       refine hK.out _ _ ⟨(hbc HB.out Cn), (hbc HB.out Cm), (hbc HB.out Cj)⟩ (fun hHeld => ?_)
       clear hK K
       refine dn (a' := ?_) ?_ ?_
       rotate_left
       ·show Act.put _ (some 18) _ = _
        simp only [Act.put, z1, z2, z3, bu, bv]
        rfl
       refine pv 7 19 ?_
       refine fF (eF HT_.out (by kernel_rfl)) ?_
       try go_wp2
       replace HB := am (bg HB.out)
       have Dq : 0 ≤ (x5_1 : Int) := ode
       have Dt : x5_1 < (l0.length : Int) := ode
       obtain ⟨Dv, e508, Ce, Cf, Ci⟩ := jl Ed.out x5_1 Dq Dt
       have Df := Ci
       have Dh := Cf
       have Di := Ce
       obtain rfl : Dc = Dv := (by injection e508)
       obtain ⟨Ce, Cf, Ci⟩ := hb3 HB.out Ce Cf Ci
       replace Dq := eq_true Dq
       replace Dt := eq_true Dt
       refine eH (n := 8) (S := Sa3 (Dc.add ((x5_1).toNat * 3)) (.string ((cZ l0 x5_1).f0)) (.string ((cZ l0 x5_1).f1)) (.int .i64 ((cZ l0 x5_1).f2))) (ds := []) #[F_, F_, F_, F_, F_, F_, F_, F_] (by kernel_rfl) rfl rfl ⟨(hbc HB.out Di), (hbc HB.out Dh), (hbc HB.out Df)⟩ (fun hHeld => ?_); refine dJ aT.tab7 aT.vR (fun HT_ HW_ => ?_)
       generalize w11.drew = w12 at HB Ce Cf Ci hHeld ⊢
       refine pv 0 22 ?_
       refine pv 1 23 ?_
       refine pv 2 24 ?_
       refine pv 3 25 ?_
       refine pv 5 27 ?_
       refine tv3 4 26 hHeld ?_
       refine ov 6 28 (fun K hK => ?_)
       refine gk Tryz.func59 (aK.calls _ _ _ _ A7.out) ?_
       rintro e w13 ⟨rfl, hb⟩
       refine ⟨_, rfl, ?_⟩
       replace HB := ho hb
       refine hK.out _ _ ⟨(hbc HB.out Di), (hbc HB.out Dh), (hbc HB.out Df)⟩ (fun hHeld => ?_)
       clear hK K
       refine dn (a' := ?_) ?_ ?_
       rotate_left
       ·show Act.put _ (some 28) _ = _
        simp only [Act.put, z1, z2, z3, bu, bv]
        rfl
       refine pv 7 29 ?_
       refine fF (eF HT_.out (by kernel_rfl)) ?_
       have Dw : 0 ≤ (x5_1 : Int) := ode
       have Dx : x5_1 < (l0.length : Int) := ode
       obtain ⟨Dy, e510, Dl, Dn, Dp⟩ := jl Ed.out x5_1 Dw Dx
       obtain rfl : Dc = Dy := (by injection e510)
       obtain ⟨Dl, Dn, Dp⟩ := hb3 HB.out Dl Dn Dp
       replace Dw := eq_true Dw
       replace Dx := eq_true Dx
       try go_wp2
       go_roundg k1
       case measure => have := Es.out; omega
       case rel => exact ⟨(wrap64 ((wrap64 ((wrap64 (x1_1 + 1)) + 1)) + 1)), (wrap64 (x5_1 + 1)), rs, rs, H', ⟨by have := Es.out; omega⟩, ⟨bl⟩⟩
      obtain rfl := Option.some.inj H
      try go_wp2
      replace HB := am (bg HB.out)
      have Dj : 0 ≤ (x5_1 : Int) := ode
      have Dk : x5_1 < (l0.length : Int) := ode
      obtain ⟨Dc, e506, Cb, Cc, Cd⟩ := jl Ed.out x5_1 Dj Dk
      have Cj := Cd
      have Cm := Cc
      have Cn := Cb
      cases e506
      obtain ⟨Cb, Cc, Cd⟩ := hb3 HB.out Cb Cc Cd
      replace Dj := eq_true Dj
      replace Dk := eq_true Dk
      refine eH (n := 8) (S := Sa3 (Dc.add ((x5_1).toNat * 3)) (.string ((cZ l0 x5_1).f0)) (.string ((cZ l0 x5_1).f1)) (.int .i64 ((cZ l0 x5_1).f2))) (ds := []) #[F_, F_, F_, F_, F_, F_, F_, F_] (by kernel_rfl) rfl rfl ⟨(hbc HB.out Cn), (hbc HB.out Cm), (hbc HB.out Cj)⟩ (fun hHeld => ?_); refine dJ aT.tab4 aT.sD (fun HT_ HW_ => ?_)
      generalize wr.drew = w14 at HB Cb Cc Cd hHeld ⊢
      refine pv 0 12 ?_
      refine pv 1 13 ?_
      refine pv 2 14 ?_
      refine pv 3 15 ?_
      refine pv 5 17 ?_
      refine tv3 4 16 hHeld ?_
      refine ov 6 18 (fun K hK => ?_)
      refine gk Tryz.func59 (aK.calls _ _ _ _ A5.out) ?_
      rintro e w15 ⟨rfl, hb⟩
      refine ⟨_, rfl, ?_⟩
      replace HB := ho hb
      refine hK.out _ _ ⟨(hbc HB.out Cn), (hbc HB.out Cm), (hbc HB.out Cj)⟩ (fun hHeld => ?_)
      clear hK K
      refine dn (a' := ?_) ?_ ?_
      rotate_left
      ·show Act.put _ (some 18) _ = _
       simp only [Act.put, z1, z2, z3, bu, bv]
       rfl
      refine pv 7 19 ?_
      refine fF (eF HT_.out (by kernel_rfl)) ?_
      try go_wp2
      replace HB := am (bg HB.out)
      have Dq : 0 ≤ (x5_1 : Int) := ode
      have Dt : x5_1 < (l0.length : Int) := ode
      obtain ⟨Dv, e508, Ce, Cf, Ci⟩ := jl Ed.out x5_1 Dq Dt
      have Df := Ci
      have Dh := Cf
      have Di := Ce
      obtain rfl : Dc = Dv := (by injection e508)
      obtain ⟨Ce, Cf, Ci⟩ := hb3 HB.out Ce Cf Ci
      replace Dq := eq_true Dq
      replace Dt := eq_true Dt
      refine eH (n := 8) (S := Sa3 (Dc.add ((x5_1).toNat * 3)) (.string ((cZ l0 x5_1).f0)) (.string ((cZ l0 x5_1).f1)) (.int .i64 ((cZ l0 x5_1).f2))) (ds := []) #[F_, F_, F_, F_, F_, F_, F_, F_] (by kernel_rfl) rfl rfl ⟨(hbc HB.out Di), (hbc HB.out Dh), (hbc HB.out Df)⟩ (fun hHeld => ?_); refine dJ aT.tab7 aT.vR (fun HT_ HW_ => ?_)
      generalize w15.drew = w16 at HB Ce Cf Ci hHeld ⊢
      refine pv 0 22 ?_
      refine pv 1 23 ?_
      refine pv 2 24 ?_
      refine pv 3 25 ?_
      refine pv 5 27 ?_
      refine tv3 4 26 hHeld ?_
      refine ov 6 28 (fun K hK => ?_)
      refine gk Tryz.func59 (aK.calls _ _ _ _ A7.out) ?_
      rintro e w17 ⟨rfl, hb⟩
      refine ⟨_, rfl, ?_⟩
      replace HB := ho hb
      refine hK.out _ _ ⟨(hbc HB.out Di), (hbc HB.out Dh), (hbc HB.out Df)⟩ (fun hHeld => ?_)
      clear hK K
      refine dn (a' := ?_) ?_ ?_
      rotate_left
      ·show Act.put _ (some 28) _ = _
       simp only [Act.put, z1, z2, z3, bu, bv]
       rfl
      refine pv 7 29 ?_
      refine fF (eF HT_.out (by kernel_rfl)) ?_
      have Dw : 0 ≤ (x5_1 : Int) := ode
      have Dx : x5_1 < (l0.length : Int) := ode
      obtain ⟨Dy, e510, Dl, Dn, Dp⟩ := jl Ed.out x5_1 Dw Dx
      obtain rfl : Dc = Dy := (by injection e510)
      obtain ⟨Dl, Dn, Dp⟩ := hb3 HB.out Dl Dn Dp
      replace Dw := eq_true Dw
      replace Dx := eq_true Dx
      try go_wp2
      go_ret
      exact ⟨er, bl⟩
     obtain rfl := Option.some.inj H
     try go_wp2
     replace HB := am (bg HB.out)
     have Dj : 0 ≤ (x5_1 : Int) := ode
     have Dk : x5_1 < (l0.length : Int) := ode
     obtain ⟨Dc, e506, Cb, Cc, Cd⟩ := jl Ed.out x5_1 Dj Dk
     have Cj := Cd
     have Cm := Cc
     have Cn := Cb
     cases e506
     obtain ⟨Cb, Cc, Cd⟩ := hb3 HB.out Cb Cc Cd
     replace Dj := eq_true Dj
     replace Dk := eq_true Dk
     refine eH (n := 8) (S := Sa3 (Dc.add ((x5_1).toNat * 3)) (.string ((cZ l0 x5_1).f0)) (.string ((cZ l0 x5_1).f1)) (.int .i64 ((cZ l0 x5_1).f2))) (ds := []) #[F_, F_, F_, F_, F_, F_, F_, F_] (by kernel_rfl) rfl rfl ⟨(hbc HB.out Cn), (hbc HB.out Cm), (hbc HB.out Cj)⟩ (fun hHeld => ?_); refine dJ aT.tab4 aT.sD (fun HT_ HW_ => ?_)
     generalize wr.drew = w18 at HB Cb Cc Cd hHeld ⊢
     refine pv 0 12 ?_
     refine pv 1 13 ?_
     refine pv 2 14 ?_
     refine pv 3 15 ?_
     refine pv 5 17 ?_
     refine tv3 4 16 hHeld ?_
     refine ov 6 18 (fun K hK => ?_)
     refine gk Tryz.func59 (aK.calls _ _ _ _ A5.out) ?_
     rintro e w19 ⟨rfl, hb⟩
     refine ⟨_, rfl, ?_⟩
     replace HB := ho hb
     refine hK.out _ _ ⟨(hbc HB.out Cn), (hbc HB.out Cm), (hbc HB.out Cj)⟩ (fun hHeld => ?_)
     clear hK K
     refine dn (a' := ?_) ?_ ?_
     rotate_left
     ·show Act.put _ (some 18) _ = _
      simp only [Act.put, z1, z2, z3, bu, bv]
      rfl
     refine pv 7 19 ?_
     refine fF (eF HT_.out (by kernel_rfl)) ?_
     try go_wp2
     replace HB := am (bg HB.out)
     have Dq : 0 ≤ (x5_1 : Int) := ode
     have Dt : x5_1 < (l0.length : Int) := ode
     obtain ⟨Dv, e508, Ce, Cf, Ci⟩ := jl Ed.out x5_1 Dq Dt
     have Df := Ci
     have Dh := Cf
     have Di := Ce
     obtain rfl : Dc = Dv := (by injection e508)
     obtain ⟨Ce, Cf, Ci⟩ := hb3 HB.out Ce Cf Ci
     replace Dq := eq_true Dq
     replace Dt := eq_true Dt
     refine eH (n := 8) (S := Sa3 (Dc.add ((x5_1).toNat * 3)) (.string ((cZ l0 x5_1).f0)) (.string ((cZ l0 x5_1).f1)) (.int .i64 ((cZ l0 x5_1).f2))) (ds := []) #[F_, F_, F_, F_, F_, F_, F_, F_] (by kernel_rfl) rfl rfl ⟨(hbc HB.out Di), (hbc HB.out Dh), (hbc HB.out Df)⟩ (fun hHeld => ?_); refine dJ aT.tab7 aT.vR (fun HT_ HW_ => ?_)
     generalize w19.drew = w20 at HB Ce Cf Ci hHeld ⊢
     refine pv 0 22 ?_
     refine pv 1 23 ?_
     refine pv 2 24 ?_
     refine pv 3 25 ?_
     refine pv 5 27 ?_
     refine tv3 4 26 hHeld ?_
     refine ov 6 28 (fun K hK => ?_)
     refine gk Tryz.func59 (aK.calls _ _ _ _ A7.out) ?_
     rintro e w21 ⟨rfl, hb⟩
     refine ⟨_, rfl, ?_⟩
     replace HB := ho hb
     refine hK.out _ _ ⟨(hbc HB.out Di), (hbc HB.out Dh), (hbc HB.out Df)⟩ (fun hHeld => ?_)
     clear hK K
     refine dn (a' := ?_) ?_ ?_
     rotate_left
     ·show Act.put _ (some 28) _ = _
      simp only [Act.put, z1, z2, z3, bu, bv]
      rfl
     refine pv 7 29 ?_
     refine fF (eF HT_.out (by kernel_rfl)) ?_
     try go_wp2
     go_ret
     exact ⟨er, bl⟩
    obtain rfl := Option.some.inj H
    try go_wp2
    replace HB := am (bg HB.out)
    have Dj : 0 ≤ (x5_1 : Int) := ode
    have Dk : x5_1 < (l0.length : Int) := ode
    obtain ⟨Dc, e506, Cb, Cc, Cd⟩ := jl Ed.out x5_1 Dj Dk
    have Cj := Cd
    have Cm := Cc
    have Cn := Cb
    cases e506
    obtain ⟨Cb, Cc, Cd⟩ := hb3 HB.out Cb Cc Cd
    replace Dj := eq_true Dj
    replace Dk := eq_true Dk
    refine eH (n := 8) (S := Sa3 (Dc.add ((x5_1).toNat * 3)) (.string ((cZ l0 x5_1).f0)) (.string ((cZ l0 x5_1).f1)) (.int .i64 ((cZ l0 x5_1).f2))) (ds := []) #[F_, F_, F_, F_, F_, F_, F_, F_] (by kernel_rfl) rfl rfl ⟨(hbc HB.out Cn), (hbc HB.out Cm), (hbc HB.out Cj)⟩ (fun hHeld => ?_); refine dJ aT.tab4 aT.sD (fun HT_ HW_ => ?_)
    generalize wr.drew = w22 at HB Cb Cc Cd hHeld ⊢
    refine pv 0 12 ?_
    refine pv 1 13 ?_
    refine pv 2 14 ?_
    refine pv 3 15 ?_
    refine pv 5 17 ?_
    refine tv3 4 16 hHeld ?_
    refine ov 6 18 (fun K hK => ?_)
    refine gk Tryz.func59 (aK.calls _ _ _ _ A5.out) ?_
    rintro e w23 ⟨rfl, hb⟩
    refine ⟨_, rfl, ?_⟩
    replace HB := ho hb
    refine hK.out _ _ ⟨(hbc HB.out Cn), (hbc HB.out Cm), (hbc HB.out Cj)⟩ (fun hHeld => ?_)
    clear hK K
    refine dn (a' := ?_) ?_ ?_
    rotate_left
    ·show Act.put _ (some 18) _ = _
     simp only [Act.put, z1, z2, z3, bu, bv]
     rfl
    refine pv 7 19 ?_
    refine fF (eF HT_.out (by kernel_rfl)) ?_
    try go_wp2
    go_ret
    exact ⟨er, bl⟩
   obtain rfl := Option.some.inj H
   go_wp2
   go_ret
   exact ⟨er, bl⟩
def dM.f (k : Nat) (l0_0 : List (S60)) (a0_1 : Int) (a0_2 : Int) (a0_3 : Int) (a0_4 : Int) (a1 : Int) : Option (Int) := (aT.f k l0_0 a1).bind fun t512 => (if t512 < 0 then (some (-1)) else (some t512))
theorem dM.mono : ∀ a0 a1 a2 a3 a4 a5 k, LeO (dM.f k a0 a1 a2 a3 a4 a5) (dM.f (k + 1) a0 a1 a2 a3 a4 a5) := by
 intro a0 a1 a2 a3 a4 a5 k
 unfold dM.f
 repeat' (with_reducible first | exact aT.mono .. | exact LeO.refl _ | exact LeO.none _ | refine LeO.ite ?_ ?_ | refine LeO.bind ?_ (fun _ => ?_))
theorem dM.calls (k : Nat) (A0_0 : Option Addr) (c0_0 : Nat) (l0_0 : List (S60)) (a0_1 : Int) (a0_2 : Int) (a0_3 : Int) (a0_4 : Int) (a1 : Int) (r : Int) (w : World) (hr0_0 : Kd.C k60 w A0_0 l0_0.length l0_0) (hc0_0 : l0_0.length ≤ c0_0) (h : dM.f k l0_0 a0_1 a0_2 a0_3 a0_4 a1 = some r) :
  Calls Tryz.prog 16 #[.agg #[.slice A0_0 l0_0.length c0_0, .int .i64 a0_1, .int .i64 a0_2, .int .i64 a0_3, .int .i64 a0_4], .int .i64 a1] w fun e w' => e = .returned (.int .i64 r) ∧ Below w.heap.size w w' := by
 have hu34 := Tryz.underlying34
 have Ee := am hr0_0
 have Ef := am hc0_0
 clear hr0_0 hc0_0
 have HB := am (Below.refl w.heap.size w)
 have H := h
 clear h
 unfold dM.f at H
 revert H; refine bj fun t512 A3 H => ?_
 revert H; refine iDb (fun Eg H => ?_) fun Eg H => ?_
 ·obtain rfl := Option.some.inj H
  go_enter Tryz.func16, Tryz.ntmps16
  go_wp2_with (first | ((with_reducible refine g_ 2 ?_); refine bx 2 #[.slice A0_0 l0_0.length c0_0, .int .i64 a0_1, .int .i64 a0_2, .int .i64 a0_3, .int .i64 a0_4] 34 ?_; intro Dz hg w5 hbox hb; have Du := am hbox; have Ea := am (bsz hg : w.heap.size ≤ Dz); have Eh := Ea; replace HB := ho hb; clear hb hbox hg; have Z6 := dG Du.out) | ((with_reducible refine c_ 39 ?_); refine gc 39 (some 8) Tryz.func39 (aT.calls _ _ _ _ _ _ _ ?Eb ?Ec A3.out) ?_; (case Eb => exact cb Ee.out); (case Ec => exact Ef.out); rintro e w7 ⟨rfl, hb⟩; refine ⟨_, rfl, ?_⟩; replace Du := bo Du hb; replace HB := ho hb; clear hb))
  go_ret
  exact ⟨er, bl⟩
 obtain rfl := Option.some.inj H
 go_enter Tryz.func16, Tryz.ntmps16
 go_wp2_with (first | ((with_reducible refine g_ 2 ?_); refine bx 2 #[.slice A0_0 l0_0.length c0_0, .int .i64 a0_1, .int .i64 a0_2, .int .i64 a0_3, .int .i64 a0_4] 34 ?_; intro Dz hg w8 hbox hb; have Du := am hbox; have Ea := am (bsz hg : w.heap.size ≤ Dz); have Eh := Ea; replace HB := ho hb; clear hb hbox hg; have Z9 := dG Du.out) | ((with_reducible refine c_ 39 ?_); refine gc 39 (some 8) Tryz.func39 (aT.calls _ _ _ _ _ _ _ ?Eb ?Ec A3.out) ?_; (case Eb => exact cb Ee.out); (case Ec => exact Ef.out); rintro e w10 ⟨rfl, hb⟩; refine ⟨_, rfl, ?_⟩; replace Du := bo Du hb; replace HB := ho hb; clear hb))
 go_ret
 exact ⟨er, bl⟩
end Go.Proofs.YthpjnjplgmaofaaGreatDoor.PFnExactVmNamed
