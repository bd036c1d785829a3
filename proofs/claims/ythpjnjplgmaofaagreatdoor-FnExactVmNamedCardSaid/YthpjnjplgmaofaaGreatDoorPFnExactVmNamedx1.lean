import Derived.Test.YthpjnjplgmaofaaGreatDoorQMin
import Derived.Test.YthpjnjplgmaofaaGreatDoorQAut
import Derived.Test.YthpjnjplgmaofaaGreatDoorQBlk
import Derived.Test.YthpjnjplgmaofaaGreatDoorPFnExactVmNamedx0
namespace Go.Proofs.YthpjnjplgmaofaaGreatDoor.PFnExactVmNamed
open Go.RowKit Go.Proofs.YthpjnjplgmaofaaGreatDoorW.PrintWords Go.Proofs.YthpjnjplgmaofaaGreatDoorW.PrintLast Go.Proofs.YthpjnjplgmaofaaGreatDoorW.PrintMore
attribute [local go_sem] max2_int min2_int max_two min_two max_three min_three max_four min_four   -- for this text's walks alone
set_option maxHeartbeats 8000000
set_option maxRecDepth 100000
set_option linter.unusedVariables false
set_option linter.unusedSimpArgs false
def bL.l0 : Nat → List ByteArray → Int → Int → Option (Int)
 | 0, _, _, _ => none
 | k + 1, x0, x1, x5 => if x5 < (x0.length : Int) then (if 0 ≤ x5 then (if (wrap64 (x1 - ((fG ByteArray.empty x0 x5).size : Int))) < 0 then (some (-1)) else (bL.l0 k x0 (wrap64 (x1 - ((fG ByteArray.empty x0 x5).size : Int))) (wrap64 (x5 + 1)))) else (none)) else (some x1)
def bL.f (k : Nat) (l0 : List ByteArray) (a1 : Int) : Option (Int) := if (wrap64 (a1 - (l0.length : Int))) < 0 then (some (-1)) else (bL.l0 k l0 (wrap64 (a1 - (l0.length : Int))) 0)
theorem bL.bI : ∀ k, (∀ y0 y1 y2, LeO (bL.l0 k y0 y1 y2) (bL.l0 (k + 1) y0 y1 y2))
 | 0 => fun _ _ _ r h => by simp [bL.l0] at h
 | k + 1 => by
  have ih0 := bL.bI k
  ·intro y0 y1 y2
   unfold bL.l0
   exact mo
theorem bL.mono : ∀ a0 a1 k, LeO (bL.f k a0 a1) (bL.f (k + 1) a0 a1) := by
 intro a0 a1 k
 have ih0 := bL.bI k
 unfold bL.f
 exact mo
theorem bL.calls (k : Nat) (A0 : Option Addr) (c0 : Nat) (l0 : List ByteArray) (a1 : Int) (r : Int) (w : World) (hr0 : Kd.C Kd.string w A0 l0.length l0) (hc0 : l0.length ≤ c0) (h : bL.f k l0 a1 = some r) :
  Calls Tryz.prog 17 #[.slice A0 l0.length c0, .int .i64 a1] w fun e w' => e = .returned (.int .i64 r) ∧ eT w w' := by
 have Ec := am hr0
 have Et := am hc0
 clear hr0 hc0
 have H := h
 clear h
 unfold bL.f at H
 revert H; refine iDb (fun Cb H => ?_) fun Cb H => ?_
 ·obtain rfl := Option.some.inj H
  go_enter Tryz.func17, Tryz.ntmps17
  go_wp2
  go_ret
  exact ⟨rs, dr⟩
 have H' := am H; clear H
 go_enter Tryz.func17, Tryz.ntmps17
 go_wp2
 go_loopg [1, 5] k (fun kq v1 v5 w' => ∃ (x1_1 : Int) (x5_1 : Int), v1 = .int .i64 x1_1 ∧ v5 = .int .i64 x5_1 ∧ aa (bL.l0 kq l0 x1_1 x5_1 = some r) ∧ aa (kq ≤ k) ∧ eT w w')
 case atStart => exact ⟨(wrap64 (a1 - (l0.length : Int))), (0), rs, rs, H', ⟨Nat.le_refl _⟩, dr⟩
 case round =>
  clear H'
  try clear Cb
  obtain ⟨x1_1, x5_1, rfl, rfl, HA, Ee, ⟨m1, rfl⟩⟩ := hrel
  cases gk with
  | zero => exact absurd HA.out (by simp [bL.l0])
  | succ k1 =>
   have H := HA.out
   clear HA
   simp only [bL.l0] at H
   revert H; refine iDb (fun Dj H => ?_) fun Dj H => ?_
   ·revert H; refine i1 fun Ek H => ?_
    revert H; refine iDb (fun Ei H => ?_) fun Ei H => ?_
    ·obtain rfl := Option.some.inj H
     have Dk : 0 ≤ (x5_1 : Int) := ode
     have Dl : x5_1 < (l0.length : Int) := ode
     obtain ⟨Em, e101, Ed⟩ := Kd.eQ Ec.out x5_1 Dk Dl
     cases e101
     replace Dk := eq_true Dk
     replace Dl := eq_true Dl
     go_wp2
     go_ret
     exact ⟨rs, dr⟩
    have H' := am H; clear H
    have Dk : 0 ≤ (x5_1 : Int) := ode
    have Dl : x5_1 < (l0.length : Int) := ode
    obtain ⟨Em, e101, Ed⟩ := Kd.eQ Ec.out x5_1 Dk Dl
    cases e101
    replace Dk := eq_true Dk
    replace Dl := eq_true Dl
    go_wp2
    go_roundg k1
    case measure => have := Ee.out; omega
    case rel => exact ⟨(wrap64 (x1_1 - ((fG ByteArray.empty l0 x5_1).size : Int))), (wrap64 (x5_1 + 1)), rs, rs, H', ⟨by have := Ee.out; omega⟩, dr⟩
   obtain rfl := Option.some.inj H
   go_wp2
   go_ret
   exact ⟨rs, dr⟩
def gH.f (a0_0 : ByteArray) (a0_1 : Int) (a0_2 : Int) (a0_3 : Int) (a1 : Int) : Option (Int) := if (wrap64 (a1 - (a0_0.size : Int))) < 0 then (some (-1)) else (some (wrap64 (a1 - (a0_0.size : Int))))
theorem gH.calls (a0_0 : ByteArray) (a0_1 : Int) (a0_2 : Int) (a0_3 : Int) (a1 : Int) (r : Int) (w : World) (h : gH.f a0_0 a0_1 a0_2 a0_3 a1 = some r) :
  Calls Tryz.prog 40 #[.agg #[.string a0_0, .int .i64 a0_1, .int .i64 a0_2, .int .i64 a0_3], .int .i64 a1] w fun e w' => e = .returned (.int .i64 r) ∧ Below w.heap.size w w' := by
 have hu78 := Tryz.underlying78
 have HB := am (Below.refl w.heap.size w)
 have H := h
 clear h
 unfold gH.f at H
 revert H; refine iDb (fun Cb H => ?_) fun Cb H => ?_
 ·obtain rfl := Option.some.inj H
  go_enter Tryz.func40, Tryz.ntmps40
  go_wp2_with (first | ((with_reducible refine g_ 2 ?_); refine bx 2 #[.string a0_0, .int .i64 a0_1, .int .i64 a0_2, .int .i64 a0_3] 78 ?_; intro Du hg w4 hbox hb; have Dv := am hbox; have Dw := am (bsz hg : w.heap.size ≤ Du); have En := Dw; replace HB := ho hb; clear hb hbox hg; have Z5 := jw Dv.out))
  go_ret
  exact ⟨er, bl⟩
 obtain rfl := Option.some.inj H
 go_enter Tryz.func40, Tryz.ntmps40
 go_wp2_with (first | ((with_reducible refine g_ 2 ?_); refine bx 2 #[.string a0_0, .int .i64 a0_1, .int .i64 a0_2, .int .i64 a0_3] 78 ?_; intro Du hg w6 hbox hb; have Dv := am hbox; have Dw := am (bsz hg : w.heap.size ≤ Du); have En := Dw; replace HB := ho hb; clear hb hbox hg; have Z7 := jw Dv.out))
 go_ret
 exact ⟨er, bl⟩
def cu.l0 : Nat → List (S78) → Int → Int → Option (Int)
 | 0, _, _, _ => none
 | k + 1, x0, x1, x5 => if x5 < (x0.length : Int) then (if 0 ≤ x5 then ((gH.f ((iZ x0 x5).f0) ((iZ x0 x5).f1) ((iZ x0 x5).f2) ((iZ x0 x5).f3) x1).bind fun t104 => (if t104 < 0 then (some (-1)) else (cu.l0 k x0 t104 (wrap64 (x5 + 1))))) else (none)) else (some x1)
def cu.f (k : Nat) (l0 : List (S78)) (a1 : Int) : Option (Int) := if (wrap64 (a1 - (l0.length : Int))) < 0 then (some (-1)) else (cu.l0 k l0 (wrap64 (a1 - (l0.length : Int))) 0)
theorem cu.bI : ∀ k, (∀ y0 y1 y2, LeO (cu.l0 k y0 y1 y2) (cu.l0 (k + 1) y0 y1 y2))
 | 0 => fun _ _ _ r h => by simp [cu.l0] at h
 | k + 1 => by
  have ih0 := cu.bI k
  ·intro y0 y1 y2
   unfold cu.l0
   exact mo
theorem cu.mono : ∀ a0 a1 k, LeO (cu.f k a0 a1) (cu.f (k + 1) a0 a1) := by
 intro a0 a1 k
 have ih0 := cu.bI k
 unfold cu.f
 exact mo
theorem cu.calls (k : Nat) (A0 : Option Addr) (c0 : Nat) (l0 : List (S78)) (a1 : Int) (r : Int) (w : World) (hr0 : Kd.C k78 w A0 l0.length l0) (hc0 : l0.length ≤ c0) (h : cu.f k l0 a1 = some r) :
  Calls Tryz.prog 18 #[.slice A0 l0.length c0, .int .i64 a1] w fun e w' => e = .returned (.int .i64 r) ∧ Below w.heap.size w w' := by
 have hu78 := Tryz.underlying78
 have Ec := am hr0
 have Et := am hc0
 clear hr0 hc0
 have HB := am (Below.refl w.heap.size w)
 have H := h
 clear h
 unfold cu.f at H
 revert H; refine iDb (fun Cb H => ?_) fun Cb H => ?_
 ·obtain rfl := Option.some.inj H
  go_enter Tryz.func18, Tryz.ntmps18
  go_wp2
  go_ret
  exact ⟨er, bl⟩
 have H' := am H; clear H
 go_enter Tryz.func18, Tryz.ntmps18
 go_wp2
 go_loopg [1, 5] k (fun kq v1 v5 w' => ∃ (x1_1 : Int) (x5_1 : Int), v1 = .int .i64 x1_1 ∧ v5 = .int .i64 x5_1 ∧ aa (cu.l0 kq l0 x1_1 x5_1 = some r) ∧ aa (kq ≤ k) ∧ aa (Below w.heap.size w w'))
 case atStart => exact ⟨(wrap64 (a1 - (l0.length : Int))), (0), rs, rs, H', ⟨Nat.le_refl _⟩, ⟨bl⟩⟩
 case round =>
  clear H'
  try clear Cb
  obtain ⟨x1_1, x5_1, rfl, rfl, HA, Ee, HB⟩ := hrel
  cases gk with
  | zero => exact absurd HA.out (by simp [cu.l0])
  | succ k1 =>
   have H := HA.out
   clear HA
   simp only [cu.l0] at H
   revert H; refine iDb (fun Dj H => ?_) fun Dj H => ?_
   ·revert H; refine i1 fun Ek H => ?_
    revert H; refine bj fun t104 A6 H => ?_
    revert H; refine iDb (fun Ej H => ?_) fun Ej H => ?_
    ·obtain rfl := Option.some.inj H
     have Dn : 0 ≤ (x5_1 : Int) := ode
     have Dp : x5_1 < (l0.length : Int) := ode
     obtain ⟨Eo, e103, Cc, Cd, Ce, Cf⟩ := rG Ec.out x5_1 Dn Dp
     cases e103
     obtain ⟨Cc, Cd, Ce, Cf⟩ := hb4 HB.out Cc Cd Ce Cf
     replace Dn := eq_true Dn
     replace Dp := eq_true Dp
     go_wp2_with (first | ((with_reducible refine c_ 40 ?_); refine gc 40 (some 23) Tryz.func40 (gH.calls _ _ _ _ _ _ _ A6.out) ?_; rintro e w8 ⟨rfl, hb⟩; refine ⟨_, rfl, ?_⟩; replace HB := ho hb; clear hb))
     go_ret
     exact ⟨er, bl⟩
    have H' := am H; clear H
    have Dn : 0 ≤ (x5_1 : Int) := ode
    have Dp : x5_1 < (l0.length : Int) := ode
    obtain ⟨Eo, e103, Cc, Cd, Ce, Cf⟩ := rG Ec.out x5_1 Dn Dp
    cases e103
    obtain ⟨Cc, Cd, Ce, Cf⟩ := hb4 HB.out Cc Cd Ce Cf
    replace Dn := eq_true Dn
    replace Dp := eq_true Dp
    go_wp2_with (first | ((with_reducible refine c_ 40 ?_); refine gc 40 (some 23) Tryz.func40 (gH.calls _ _ _ _ _ _ _ A6.out) ?_; rintro e w9 ⟨rfl, hb⟩; refine ⟨_, rfl, ?_⟩; replace HB := ho hb; clear hb))
    go_roundg k1
    case measure => have := Ee.out; omega
    case rel => exact ⟨(t104), (wrap64 (x5_1 + 1)), rs, rs, H', ⟨by have := Ee.out; omega⟩, ⟨bl⟩⟩
   obtain rfl := Option.some.inj H
   go_wp2
   go_ret
   exact ⟨er, bl⟩
def gI.f (a0_0 : Int) (a0_1 : ByteArray) (a0_2 : ByteArray) (a0_3 : Int) (a0_4 : Int) (a1 : Int) : Option (Int) := if (wrap64 (a1 - (a0_1.size : Int))) < 0 then (some (-1)) else (if (wrap64 ((wrap64 (a1 - (a0_1.size : Int))) - (a0_2.size : Int))) < 0 then (some (-1)) else (some (wrap64 ((wrap64 (a1 - (a0_1.size : Int))) - (a0_2.size : Int)))))
theorem gI.calls (a0_0 : Int) (a0_1 : ByteArray) (a0_2 : ByteArray) (a0_3 : Int) (a0_4 : Int) (a1 : Int) (r : Int) (w : World) (h : gI.f a0_0 a0_1 a0_2 a0_3 a0_4 a1 = some r) :
  Calls Tryz.prog 41 #[.agg #[.int .i64 a0_0, .string a0_1, .string a0_2, .int .i64 a0_3, .int .i64 a0_4], .int .i64 a1] w fun e w' => e = .returned (.int .i64 r) ∧ Below w.heap.size w w' := by
 have hu81 := Tryz.underlying81
 have HB := am (Below.refl w.heap.size w)
 have H := h
 clear h
 unfold gI.f at H
 revert H; refine iDb (fun Cb H => ?_) fun Cb H => ?_
 ·obtain rfl := Option.some.inj H
  go_enter Tryz.func41, Tryz.ntmps41
  go_wp2_with (first | ((with_reducible refine g_ 2 ?_); refine bx 2 #[.int .i64 a0_0, .string a0_1, .string a0_2, .int .i64 a0_3, .int .i64 a0_4] 81 ?_; intro Df hg w4 hbox hb; have Dh := am hbox; have Di := am (bsz hg : w.heap.size ≤ Df); have Ef := Di; replace HB := ho hb; clear hb hbox hg; have Z5 := dG Dh.out))
  go_ret
  exact ⟨er, bl⟩
 revert H; refine iDb (fun Ei H => ?_) fun Ei H => ?_
 ·obtain rfl := Option.some.inj H
  go_enter Tryz.func41, Tryz.ntmps41
  go_wp2_with (first | ((with_reducible refine g_ 2 ?_); refine bx 2 #[.int .i64 a0_0, .string a0_1, .string a0_2, .int .i64 a0_3, .int .i64 a0_4] 81 ?_; intro Df hg w7 hbox hb; have Dh := am hbox; have Di := am (bsz hg : w.heap.size ≤ Df); have Ef := Di; replace HB := ho hb; clear hb hbox hg; have Z8 := dG Dh.out))
  go_ret
  exact ⟨er, bl⟩
 obtain rfl := Option.some.inj H
 go_enter Tryz.func41, Tryz.ntmps41
 go_wp2_with (first | ((with_reducible refine g_ 2 ?_); refine bx 2 #[.int .i64 a0_0, .string a0_1, .string a0_2, .int .i64 a0_3, .int .i64 a0_4] 81 ?_; intro Df hg w9 hbox hb; have Dh := am hbox; have Di := am (bsz hg : w.heap.size ≤ Df); have Ef := Di; replace HB := ho hb; clear hb hbox hg; have Eu := dG Dh.out))
 go_ret
 exact ⟨er, bl⟩
def bX.l0 : Nat → List (S81) → Int → Int → Option (Int)
 | 0, _, _, _ => none
 | k + 1, x0, x1, x5 => if x5 < (x0.length : Int) then (if 0 ≤ x5 then ((gI.f ((iA x0 x5).f0) ((iA x0 x5).f1) ((iA x0 x5).f2) ((iA x0 x5).f3) ((iA x0 x5).f4) x1).bind fun t107 => (if t107 < 0 then (some (-1)) else (bX.l0 k x0 t107 (wrap64 (x5 + 1))))) else (none)) else (some x1)
def bX.f (k : Nat) (l0 : List (S81)) (a1 : Int) : Option (Int) := if (wrap64 (a1 - (l0.length : Int))) < 0 then (some (-1)) else (bX.l0 k l0 (wrap64 (a1 - (l0.length : Int))) 0)
theorem bX.bI : ∀ k, (∀ y0 y1 y2, LeO (bX.l0 k y0 y1 y2) (bX.l0 (k + 1) y0 y1 y2))
 | 0 => fun _ _ _ r h => by simp [bX.l0] at h
 | k + 1 => by
  have ih0 := bX.bI k
  ·intro y0 y1 y2
   unfold bX.l0
   exact mo
theorem bX.mono : ∀ a0 a1 k, LeO (bX.f k a0 a1) (bX.f (k + 1) a0 a1) := by
 intro a0 a1 k
 have ih0 := bX.bI k
 unfold bX.f
 exact mo
theorem bX.calls (k : Nat) (A0 : Option Addr) (c0 : Nat) (l0 : List (S81)) (a1 : Int) (r : Int) (w : World) (hr0 : Kd.C k81 w A0 l0.length l0) (hc0 : l0.length ≤ c0) (h : bX.f k l0 a1 = some r) :
  Calls Tryz.prog 19 #[.slice A0 l0.length c0, .int .i64 a1] w fun e w' => e = .returned (.int .i64 r) ∧ Below w.heap.size w w' := by
 have hu81 := Tryz.underlying81
 have Ec := am hr0
 have Et := am hc0
 clear hr0 hc0
 have HB := am (Below.refl w.heap.size w)
 have H := h
 clear h
 unfold bX.f at H
 revert H; refine iDb (fun Cb H => ?_) fun Cb H => ?_
 ·obtain rfl := Option.some.inj H
  go_enter Tryz.func19, Tryz.ntmps19
  go_wp2
  go_ret
  exact ⟨er, bl⟩
 have H' := am H; clear H
 go_enter Tryz.func19, Tryz.ntmps19
 go_wp2
 go_loopg [1, 5] k (fun kq v1 v5 w' => ∃ (x1_1 : Int) (x5_1 : Int), v1 = .int .i64 x1_1 ∧ v5 = .int .i64 x5_1 ∧ aa (bX.l0 kq l0 x1_1 x5_1 = some r) ∧ aa (kq ≤ k) ∧ aa (Below w.heap.size w w'))
 case atStart => exact ⟨(wrap64 (a1 - (l0.length : Int))), (0), rs, rs, H', ⟨Nat.le_refl _⟩, ⟨bl⟩⟩
 case round =>
  clear H'
  try clear Cb
  obtain ⟨x1_1, x5_1, rfl, rfl, HA, Ee, HB⟩ := hrel
  cases gk with
  | zero => exact absurd HA.out (by simp [bX.l0])
  | succ k1 =>
   have H := HA.out
   clear HA
   simp only [bX.l0] at H
   revert H; refine iDb (fun Dj H => ?_) fun Dj H => ?_
   ·revert H; refine i1 fun Ek H => ?_
    revert H; refine bj fun t107 A6 H => ?_
    revert H; refine iDb (fun Ej H => ?_) fun Ej H => ?_
    ·obtain rfl := Option.some.inj H
     have Dq : 0 ≤ (x5_1 : Int) := ode
     have Dt : x5_1 < (l0.length : Int) := ode
     obtain ⟨Ep, e106, Ci, Cj, Cm, Cn, Dc⟩ := rF Ec.out x5_1 Dq Dt
     cases e106
     obtain ⟨Ci, Cj, Cm, Cn, Dc⟩ := hb5 HB.out Ci Cj Cm Cn Dc
     replace Dq := eq_true Dq
     replace Dt := eq_true Dt
     go_wp2_with (first | ((with_reducible refine c_ 41 ?_); refine gc 41 (some 23) Tryz.func41 (gI.calls _ _ _ _ _ _ _ _ A6.out) ?_; rintro e w8 ⟨rfl, hb⟩; refine ⟨_, rfl, ?_⟩; replace HB := ho hb; clear hb))
     go_ret
     exact ⟨er, bl⟩
    have H' := am H; clear H
    have Dq : 0 ≤ (x5_1 : Int) := ode
    have Dt : x5_1 < (l0.length : Int) := ode
    obtain ⟨Ep, e106, Ci, Cj, Cm, Cn, Dc⟩ := rF Ec.out x5_1 Dq Dt
    cases e106
    obtain ⟨Ci, Cj, Cm, Cn, Dc⟩ := hb5 HB.out Ci Cj Cm Cn Dc
    replace Dq := eq_true Dq
    replace Dt := eq_true Dt
    go_wp2_with (first | ((with_reducible refine c_ 41 ?_); refine gc 41 (some 23) Tryz.func41 (gI.calls _ _ _ _ _ _ _ _ A6.out) ?_; rintro e w9 ⟨rfl, hb⟩; refine ⟨_, rfl, ?_⟩; replace HB := ho hb; clear hb))
    go_roundg k1
    case measure => have := Ee.out; omega
    case rel => exact ⟨(t107), (wrap64 (x5_1 + 1)), rs, rs, H', ⟨by have := Ee.out; omega⟩, ⟨bl⟩⟩
   obtain rfl := Option.some.inj H
   go_wp2
   go_ret
   exact ⟨er, bl⟩
def bG.f (k : Nat) (a0_0 : ByteArray) (a0_1 : Int) (l0_2 : List ByteArray) (l0_3 : List ByteArray) (l0_4 : List (S78)) (l0_5 : List (S81)) (l0_6 : List (S81)) (l0_7 : List (S81)) (a1 : Int) : Option Int := if (wrap64 (a1 - (a0_0.size : Int))) < 0 then (some (-1)) else ((bL.f k l0_2 (wrap64 (a1 - (a0_0.size : Int)))).bind fun t2 => (if t2 < 0 then (some (-1)) else ((bL.f k l0_3 t2).bind fun t3 => (if t3 < 0 then (some (-1)) else ((cu.f k l0_4 t3).bind fun t4 => (if t4 < 0 then (some (-1)) else ((bX.f k l0_5 t4).bind fun t5 => (if t5 < 0 then (some (-1)) else ((bX.f k l0_6 t5).bind fun t6 => (if t6 < 0 then (some (-1)) else ((bX.f k l0_7 t6).bind fun t7 => (if t7 < 0 then (some (-1)) else (some t7)))))))))))))
theorem bG.mono : ∀ x0 x1 x2 x3 x4 x5 x6 x7 x8 k, LeO (bG.f k x0 x1 x2 x3 x4 x5 x6 x7 x8) (bG.f (k + 1) x0 x1 x2 x3 x4 x5 x6 x7 x8) := by
 intro x0 x1 x2 x3 x4 x5 x6 x7 x8 k
 unfold bG.f
 repeat' (with_reducible first | exact bL.mono .. | exact cu.mono .. | exact bX.mono .. | exact LeO.refl _ | refine LeO.ite ?_ ?_ | refine LeO.bind ?_ (fun _ => ?_))
theorem bG.fst (w : World) (o : Obj) : (w.alloc o).heap[w.heap.size]? = some o := by
 show (w.heap.push _)[w.heap.size]? = _
 simp
theorem bG.cells {w : World} {g : Nat} {t : TypeId} {v0 v1 v2 v3 v4 v5 v6 v7 : Value} (h : w.heap[g]? = some (.cells #[v0, v1, v2, v3, v4, v5, v6, v7] t (0, 0))) : w.cell? ⟨g, 0, none⟩ = some v0 ∧ w.cell? ⟨g, 1, none⟩ = some v1 ∧ w.cell? ⟨g, 2, none⟩ = some v2 ∧ w.cell? ⟨g, 3, none⟩ = some v3 ∧ w.cell? ⟨g, 4, none⟩ = some v4 ∧ w.cell? ⟨g, 5, none⟩ = some v5 ∧ w.cell? ⟨g, 6, none⟩ = some v6 ∧ w.cell? ⟨g, 7, none⟩ = some v7 := ⟨(ae h 0).trans rfl, (ae h 1).trans rfl, (ae h 2).trans rfl, (ae h 3).trans rfl, (ae h 4).trans rfl, (ae h 5).trans rfl, (ae h 6).trans rfl, (ae h 7).trans rfl⟩
theorem bG.calls (k : Nat) (a0_0 : ByteArray) (a0_1 : Int) (A0_2 : Option Addr) (c0_2 : Nat) (l0_2 : List ByteArray) (A0_3 : Option Addr) (c0_3 : Nat) (l0_3 : List ByteArray) (A0_4 : Option Addr) (c0_4 : Nat) (l0_4 : List (S78)) (A0_5 : Option Addr) (c0_5 : Nat) (l0_5 : List (S81)) (A0_6 : Option Addr) (c0_6 : Nat) (l0_6 : List (S81)) (A0_7 : Option Addr) (c0_7 : Nat) (l0_7 : List (S81)) (a1 : Int) (r : Int) (w : World) (hr0_2 : Kd.C Kd.string w A0_2 l0_2.length l0_2) (hc0_2 : l0_2.length ≤ c0_2) (hr0_3 : Kd.C Kd.string w A0_3 l0_3.length l0_3) (hc0_3 : l0_3.length ≤ c0_3) (hr0_4 : Kd.C k78 w A0_4 l0_4.length l0_4) (hc0_4 : l0_4.length ≤ c0_4) (hr0_5 : Kd.C k81 w A0_5 l0_5.length l0_5) (hc0_5 : l0_5.length ≤ c0_5) (hr0_6 : Kd.C k81 w A0_6 l0_6.length l0_6) (hc0_6 : l0_6.length ≤ c0_6) (hr0_7 : Kd.C k81 w A0_7 l0_7.length l0_7) (hc0_7 : l0_7.length ≤ c0_7) (h : bG.f k a0_0 a0_1 l0_2 l0_3 l0_4 l0_5 l0_6 l0_7 a1 = some r) :
  Calls Tryz.prog 4 #[.agg #[.string a0_0, .int .i64 a0_1, .slice A0_2 l0_2.length c0_2, .slice A0_3 l0_3.length c0_3, .slice A0_4 l0_4.length c0_4, .slice A0_5 l0_5.length c0_5, .slice A0_6 l0_6.length c0_6, .slice A0_7 l0_7.length c0_7], .int .i64 a1] w fun e w' => e = .returned (.int .i64 r) ∧ Below w.heap.size w w' := by
 obtain ⟨v, hv⟩ : ∃ v, IntKind.i64.wrap (a1 - (a0_0.size : Int)) = v := ⟨_, rfl⟩
 have hv' : wrap64 (a1 - (a0_0.size : Int)) = v := (bu _).symm.trans hv
 unfold bG.f at h
 rw [hv'] at h
 clear hv'
 have hu := Tryz.underlying26
 have Q1 : ∀ {X W : World}, Below X.heap.size X W → Below w.heap.size w X → Below w.heap.size w W := fun a b => b.trans (a.mono (az b))
 by_cases n1 : v < 0
 ·rw [if_pos n1] at h
  obtain rfl := Option.some.inj h
  replace n1 := decide_eq_true n1
  clear h
  go_enter Tryz.func4, Tryz.ntmps4
  go_wp2
  go_ret
  exact ⟨rfl, by repeat (first | exact Below.refl _ _ | apply aZ)⟩
 rw [if_neg n1] at h
 replace n1 := decide_eq_false n1
 obtain ⟨t2, e2, h⟩ := Option.bind_eq_some_iff.mp h
 have q2 := fun W (hb : Below w.heap.size w W) => bL.calls k A0_2 c0_2 l0_2 v t2 W (Kd.dK hr0_2 hb) hc0_2 e2
 clear hr0_2 hc0_2 e2
 by_cases m2 : t2 < 0
 ·rw [if_pos m2] at h
  obtain rfl := Option.some.inj h
  replace m2 := decide_eq_true m2
  clear h
  clear hr0_3 hc0_3 hr0_4 hc0_4 hr0_5 hc0_5 hr0_6 hc0_6 hr0_7 hc0_7
  go_enter Tryz.func4, Tryz.ntmps4
  go_wp2_with (first | (go_at_call 17; (with_reducible first | refine (q2 _ ?hbl).mono ?_); (case hbl => (repeat (first | exact HB.out | exact Below.refl _ _ | apply aZ | apply aJ | apply bZ))); rintro e w1 ⟨rfl, hd⟩; obtain ⟨nd, rfl⟩ := hd.out))
  go_ret
  exact ⟨rfl, by repeat (first | exact HB.out | exact Below.refl _ _ | apply aZ | apply aJ | apply bZ)⟩
 rw [if_neg m2] at h
 replace m2 := decide_eq_false m2
 obtain ⟨t3, e3, h⟩ := Option.bind_eq_some_iff.mp h
 have q3 := fun W (hb : Below w.heap.size w W) => bL.calls k A0_3 c0_3 l0_3 t2 t3 W (Kd.dK hr0_3 hb) hc0_3 e3
 clear hr0_3 hc0_3 e3
 by_cases m3 : t3 < 0
 ·rw [if_pos m3] at h
  obtain rfl := Option.some.inj h
  replace m3 := decide_eq_true m3
  clear h
  clear hr0_4 hc0_4 hr0_5 hc0_5 hr0_6 hc0_6 hr0_7 hc0_7
  go_enter Tryz.func4, Tryz.ntmps4
  go_wp2_with (first | (go_at_call 17; (with_reducible first | refine (q2 _ ?hbl).mono ?_ | refine (q3 _ ?hbl).mono ?_); (case hbl => (repeat (first | exact HB.out | exact Below.refl _ _ | apply aZ | apply aJ | apply bZ))); rintro e w1 ⟨rfl, hd⟩; obtain ⟨nd, rfl⟩ := hd.out))
  go_ret
  exact ⟨rfl, by repeat (first | exact HB.out | exact Below.refl _ _ | apply aZ | apply aJ | apply bZ)⟩
 rw [if_neg m3] at h
 replace m3 := decide_eq_false m3
 obtain ⟨t4, e4, h⟩ := Option.bind_eq_some_iff.mp h
 have q4 := fun W (hb : Below w.heap.size w W) => cu.calls k A0_4 c0_4 l0_4 t3 t4 W (Kd.dK hr0_4 hb) hc0_4 e4
 clear hr0_4 hc0_4 e4
 by_cases m4 : t4 < 0
 ·rw [if_pos m4] at h
  obtain rfl := Option.some.inj h
  replace m4 := decide_eq_true m4
  clear h
  clear hr0_5 hc0_5 hr0_6 hc0_6 hr0_7 hc0_7
  go_enter Tryz.func4, Tryz.ntmps4
  go_wp2_with (first | (go_at_call 17; (with_reducible first | refine (q2 _ ?hbl).mono ?_ | refine (q3 _ ?hbl).mono ?_); (case hbl => (repeat (first | exact HB.out | exact Below.refl _ _ | apply aZ | apply aJ | apply bZ))); rintro e w1 ⟨rfl, hd⟩; obtain ⟨nd, rfl⟩ := hd.out) | (go_at_call 18; (with_reducible refine (q4 _ ?hbl).mono ?_); (case hbl => (repeat (first | exact HB.out | exact Below.refl _ _ | apply aZ | apply aJ | apply bZ))); rintro e w1 ⟨rfl, hb⟩; have n1_ := bQ (g := w.heap.size) (by (with_reducible repeat (first | refine fo ?_ _ | refine bB ?_)); first | exact B1.out | exact bG.fst _ _) hb; have n3_ := am (Q1 hb (by repeat (first | exact HB.out | exact Below.refl _ _ | apply aZ | apply aJ | apply bZ))); (try clear B1 HB); (try clear z0 z1 z2 z3 z4 z5 z6 z7); obtain ⟨z0, z1, z2, z3, z4, z5, z6, z7⟩ := bG.cells n1_; have B1 := aa.mk n1_; have HB := n3_; clear n1_ n3_ hb))
  go_ret
  exact ⟨rfl, by repeat (first | exact HB.out | exact Below.refl _ _ | apply aZ | apply aJ | apply bZ)⟩
 rw [if_neg m4] at h
 replace m4 := decide_eq_false m4
 obtain ⟨t5, e5, h⟩ := Option.bind_eq_some_iff.mp h
 have q5 := fun W (hb : Below w.heap.size w W) => bX.calls k A0_5 c0_5 l0_5 t4 t5 W (Kd.dK hr0_5 hb) hc0_5 e5
 clear hr0_5 hc0_5 e5
 by_cases m5 : t5 < 0
 ·rw [if_pos m5] at h
  obtain rfl := Option.some.inj h
  replace m5 := decide_eq_true m5
  clear h
  clear hr0_6 hc0_6 hr0_7 hc0_7
  go_enter Tryz.func4, Tryz.ntmps4
  go_wp2_with (first | (go_at_call 17; (with_reducible first | refine (q2 _ ?hbl).mono ?_ | refine (q3 _ ?hbl).mono ?_); (case hbl => (repeat (first | exact HB.out | exact Below.refl _ _ | apply aZ | apply aJ | apply bZ))); rintro e w1 ⟨rfl, hd⟩; obtain ⟨nd, rfl⟩ := hd.out) | (go_at_call 18; (with_reducible refine (q4 _ ?hbl).mono ?_); (case hbl => (repeat (first | exact HB.out | exact Below.refl _ _ | apply aZ | apply aJ | apply bZ))); rintro e w1 ⟨rfl, hb⟩; have n1_ := bQ (g := w.heap.size) (by (with_reducible repeat (first | refine fo ?_ _ | refine bB ?_)); first | exact B1.out | exact bG.fst _ _) hb; have n3_ := am (Q1 hb (by repeat (first | exact HB.out | exact Below.refl _ _ | apply aZ | apply aJ | apply bZ))); (try clear B1 HB); (try clear z0 z1 z2 z3 z4 z5 z6 z7); obtain ⟨z0, z1, z2, z3, z4, z5, z6, z7⟩ := bG.cells n1_; have B1 := aa.mk n1_; have HB := n3_; clear n1_ n3_ hb) | (go_at_call 19; (with_reducible first | refine (q5 _ ?hbl).mono ?_); (case hbl => (repeat (first | exact HB.out | exact Below.refl _ _ | apply aZ | apply aJ | apply bZ))); rintro e w1 ⟨rfl, hb⟩; have n1_ := bQ (g := w.heap.size) (by (with_reducible repeat (first | refine fo ?_ _ | refine bB ?_)); first | exact B1.out | exact bG.fst _ _) hb; have n3_ := am (Q1 hb (by repeat (first | exact HB.out | exact Below.refl _ _ | apply aZ | apply aJ | apply bZ))); (try clear B1 HB); (try clear z0 z1 z2 z3 z4 z5 z6 z7); obtain ⟨z0, z1, z2, z3, z4, z5, z6, z7⟩ := bG.cells n1_; have B1 := aa.mk n1_; have HB := n3_; clear n1_ n3_ hb))
  go_ret
  exact ⟨rfl, by repeat (first | exact HB.out | exact Below.refl _ _ | apply aZ | apply aJ | apply bZ)⟩
 rw [if_neg m5] at h
 replace m5 := decide_eq_false m5
 obtain ⟨t6, e6, h⟩ := Option.bind_eq_some_iff.mp h
 have q6 := fun W (hb : Below w.heap.size w W) => bX.calls k A0_6 c0_6 l0_6 t5 t6 W (Kd.dK hr0_6 hb) hc0_6 e6
 clear hr0_6 hc0_6 e6
 by_cases m6 : t6 < 0
 ·rw [if_pos m6] at h
  obtain rfl := Option.some.inj h
  replace m6 := decide_eq_true m6
  clear h
  clear hr0_7 hc0_7
  go_enter Tryz.func4, Tryz.ntmps4
  go_wp2_with (first | (go_at_call 17; (with_reducible first | refine (q2 _ ?hbl).mono ?_ | refine (q3 _ ?hbl).mono ?_); (case hbl => (repeat (first | exact HB.out | exact Below.refl _ _ | apply aZ | apply aJ | apply bZ))); rintro e w1 ⟨rfl, hd⟩; obtain ⟨nd, rfl⟩ := hd.out) | (go_at_call 18; (with_reducible refine (q4 _ ?hbl).mono ?_); (case hbl => (repeat (first | exact HB.out | exact Below.refl _ _ | apply aZ | apply aJ | apply bZ))); rintro e w1 ⟨rfl, hb⟩; have n1_ := bQ (g := w.heap.size) (by (with_reducible repeat (first | refine fo ?_ _ | refine bB ?_)); first | exact B1.out | exact bG.fst _ _) hb; have n3_ := am (Q1 hb (by repeat (first | exact HB.out | exact Below.refl _ _ | apply aZ | apply aJ | apply bZ))); (try clear B1 HB); (try clear z0 z1 z2 z3 z4 z5 z6 z7); obtain ⟨z0, z1, z2, z3, z4, z5, z6, z7⟩ := bG.cells n1_; have B1 := aa.mk n1_; have HB := n3_; clear n1_ n3_ hb) | (go_at_call 19; (with_reducible first | refine (q5 _ ?hbl).mono ?_ | refine (q6 _ ?hbl).mono ?_); (case hbl => (repeat (first | exact HB.out | exact Below.refl _ _ | apply aZ | apply aJ | apply bZ))); rintro e w1 ⟨rfl, hb⟩; have n1_ := bQ (g := w.heap.size) (by (with_reducible repeat (first | refine fo ?_ _ | refine bB ?_)); first | exact B1.out | exact bG.fst _ _) hb; have n3_ := am (Q1 hb (by repeat (first | exact HB.out | exact Below.refl _ _ | apply aZ | apply aJ | apply bZ))); (try clear B1 HB); (try clear z0 z1 z2 z3 z4 z5 z6 z7); obtain ⟨z0, z1, z2, z3, z4, z5, z6, z7⟩ := bG.cells n1_; have B1 := aa.mk n1_; have HB := n3_; clear n1_ n3_ hb))
  go_ret
  exact ⟨rfl, by repeat (first | exact HB.out | exact Below.refl _ _ | apply aZ | apply aJ | apply bZ)⟩
 rw [if_neg m6] at h
 replace m6 := decide_eq_false m6
 obtain ⟨t7, e7, h⟩ := Option.bind_eq_some_iff.mp h
 have q7 := fun W (hb : Below w.heap.size w W) => bX.calls k A0_7 c0_7 l0_7 t6 t7 W (Kd.dK hr0_7 hb) hc0_7 e7
 clear hr0_7 hc0_7 e7
 by_cases m7 : t7 < 0
 ·rw [if_pos m7] at h
  obtain rfl := Option.some.inj h
  replace m7 := decide_eq_true m7
  clear h
  go_enter Tryz.func4, Tryz.ntmps4
  go_wp2_with (first | (go_at_call 17; (with_reducible first | refine (q2 _ ?hbl).mono ?_ | refine (q3 _ ?hbl).mono ?_); (case hbl => (repeat (first | exact HB.out | exact Below.refl _ _ | apply aZ | apply aJ | apply bZ))); rintro e w1 ⟨rfl, hd⟩; obtain ⟨nd, rfl⟩ := hd.out) | (go_at_call 18; (with_reducible refine (q4 _ ?hbl).mono ?_); (case hbl => (repeat (first | exact HB.out | exact Below.refl _ _ | apply aZ | apply aJ | apply bZ))); rintro e w1 ⟨rfl, hb⟩; have n1_ := bQ (g := w.heap.size) (by (with_reducible repeat (first | refine fo ?_ _ | refine bB ?_)); first | exact B1.out | exact bG.fst _ _) hb; have n3_ := am (Q1 hb (by repeat (first | exact HB.out | exact Below.refl _ _ | apply aZ | apply aJ | apply bZ))); (try clear B1 HB); (try clear z0 z1 z2 z3 z4 z5 z6 z7); obtain ⟨z0, z1, z2, z3, z4, z5, z6, z7⟩ := bG.cells n1_; have B1 := aa.mk n1_; have HB := n3_; clear n1_ n3_ hb) | (go_at_call 19; (with_reducible first | refine (q5 _ ?hbl).mono ?_ | refine (q6 _ ?hbl).mono ?_ | refine (q7 _ ?hbl).mono ?_); (case hbl => (repeat (first | exact HB.out | exact Below.refl _ _ | apply aZ | apply aJ | apply bZ))); rintro e w1 ⟨rfl, hb⟩; have n1_ := bQ (g := w.heap.size) (by (with_reducible repeat (first | refine fo ?_ _ | refine bB ?_)); first | exact B1.out | exact bG.fst _ _) hb; have n3_ := am (Q1 hb (by repeat (first | exact HB.out | exact Below.refl _ _ | apply aZ | apply aJ | apply bZ))); (try clear B1 HB); (try clear z0 z1 z2 z3 z4 z5 z6 z7); obtain ⟨z0, z1, z2, z3, z4, z5, z6, z7⟩ := bG.cells n1_; have B1 := aa.mk n1_; have HB := n3_; clear n1_ n3_ hb))
  go_ret
  exact ⟨rfl, by repeat (first | exact HB.out | exact Below.refl _ _ | apply aZ | apply aJ | apply bZ)⟩
 rw [if_neg m7] at h
 replace m7 := decide_eq_false m7
 obtain rfl := Option.some.inj h
 clear h
 go_enter Tryz.func4, Tryz.ntmps4
 go_wp2_with (first | (go_at_call 17; (with_reducible first | refine (q2 _ ?hbl).mono ?_ | refine (q3 _ ?hbl).mono ?_); (case hbl => (repeat (first | exact HB.out | exact Below.refl _ _ | apply aZ | apply aJ | apply bZ))); rintro e w1 ⟨rfl, hd⟩; obtain ⟨nd, rfl⟩ := hd.out) | (go_at_call 18; (with_reducible refine (q4 _ ?hbl).mono ?_); (case hbl => (repeat (first | exact HB.out | exact Below.refl _ _ | apply aZ | apply aJ | apply bZ))); rintro e w1 ⟨rfl, hb⟩; have n1_ := bQ (g := w.heap.size) (by (with_reducible repeat (first | refine fo ?_ _ | refine bB ?_)); first | exact B1.out | exact bG.fst _ _) hb; have n3_ := am (Q1 hb (by repeat (first | exact HB.out | exact Below.refl _ _ | apply aZ | apply aJ | apply bZ))); (try clear B1 HB); (try clear z0 z1 z2 z3 z4 z5 z6 z7); obtain ⟨z0, z1, z2, z3, z4, z5, z6, z7⟩ := bG.cells n1_; have B1 := aa.mk n1_; have HB := n3_; clear n1_ n3_ hb) | (go_at_call 19; (with_reducible first | refine (q5 _ ?hbl).mono ?_ | refine (q6 _ ?hbl).mono ?_ | refine (q7 _ ?hbl).mono ?_); (case hbl => (repeat (first | exact HB.out | exact Below.refl _ _ | apply aZ | apply aJ | apply bZ))); rintro e w1 ⟨rfl, hb⟩; have n1_ := bQ (g := w.heap.size) (by (with_reducible repeat (first | refine fo ?_ _ | refine bB ?_)); first | exact B1.out | exact bG.fst _ _) hb; have n3_ := am (Q1 hb (by repeat (first | exact HB.out | exact Below.refl _ _ | apply aZ | apply aJ | apply bZ))); (try clear B1 HB); (try clear z0 z1 z2 z3 z4 z5 z6 z7); obtain ⟨z0, z1, z2, z3, z4, z5, z6, z7⟩ := bG.cells n1_; have B1 := aa.mk n1_; have HB := n3_; clear n1_ n3_ hb))
 go_ret
 exact ⟨rfl, by repeat (first | exact HB.out | exact Below.refl _ _ | apply aZ | apply aJ | apply bZ)⟩
def gu.f (l0 : List (S91)) (a1 : Int) : Option (Int) := if (wrap64 (a1 - (l0.length : Int))) < 0 then (some (-1)) else (some (wrap64 (a1 - (l0.length : Int))))
theorem gu.calls (A0 : Option Addr) (c0 : Nat) (l0 : List (S91)) (a1 : Int) (r : Int) (w : World) (hr0 : Kd.C k91 w A0 l0.length l0) (hc0 : l0.length ≤ c0) (h : gu.f l0 a1 = some r) :
  Calls Tryz.prog 20 #[.slice A0 l0.length c0, .int .i64 a1] w fun e w' => e = .returned (.int .i64 r) ∧ eT w w' := by
 have Ec := am hr0
 have Et := am hc0
 clear hr0 hc0
 have H := h
 clear h
 unfold gu.f at H
 revert H; refine iDb (fun Cb H => ?_) fun Cb H => ?_
 ·obtain rfl := Option.some.inj H
  go_enter Tryz.func20, Tryz.ntmps20
  go_wp2
  go_ret
  exact ⟨rs, dr⟩
 obtain rfl := Option.some.inj H
 go_enter Tryz.func20, Tryz.ntmps20
 go_wp2
 go_ret
 exact ⟨rs, dr⟩
def gG.f (l0_0 : List (S91)) (a0_1 : Int) (a0_2 : Int) (a0_3 : Int) (a0_4 : Int) (a1 : Int) : Option (Int) := (gu.f l0_0 a1).bind fun t109 => (if t109 < 0 then (some (-1)) else (some t109))
theorem gG.calls (A0_0 : Option Addr) (c0_0 : Nat) (l0_0 : List (S91)) (a0_1 : Int) (a0_2 : Int) (a0_3 : Int) (a0_4 : Int) (a1 : Int) (r : Int) (w : World) (hr0_0 : Kd.C k91 w A0_0 l0_0.length l0_0) (hc0_0 : l0_0.length ≤ c0_0) (h : gG.f l0_0 a0_1 a0_2 a0_3 a0_4 a1 = some r) :
  Calls Tryz.prog 5 #[.agg #[.slice A0_0 l0_0.length c0_0, .int .i64 a0_1, .int .i64 a0_2, .int .i64 a0_3, .int .i64 a0_4], .int .i64 a1] w fun e w' => e = .returned (.int .i64 r) ∧ Below w.heap.size w w' := by
 have hu29 := Tryz.underlying29
 have Eg := am hr0_0
 have Eh := am hc0_0
 clear hr0_0 hc0_0
 have HB := am (Below.refl w.heap.size w)
 have H := h
 clear h
 unfold gG.f at H
 revert H; refine bj fun t109 A3 H => ?_
 revert H; refine iDb (fun Dj H => ?_) fun Dj H => ?_
 ·obtain rfl := Option.some.inj H
  go_enter Tryz.func5, Tryz.ntmps5
  go_wp2_with (first | ((with_reducible refine g_ 2 ?_); refine bx 2 #[.slice A0_0 l0_0.length c0_0, .int .i64 a0_1, .int .i64 a0_2, .int .i64 a0_3, .int .i64 a0_4] 29 ?_; intro Dx hg w5 hbox hb; have Dy := am hbox; have Dz := am (bsz hg : w.heap.size ≤ Dx); have Es := Dz; replace HB := ho hb; clear hb hbox hg; have Z6 := dG Dy.out) | ((with_reducible refine c_ 20 ?_); refine gc 20 (some 8) Tryz.func20 (gu.calls _ _ _ _ _ _ ?Ea ?Eb A3.out) ?_; (case Ea => exact cb Eg.out); (case Eb => exact Eh.out); rintro e w' ⟨rfl, ⟨nd, rfl⟩⟩; refine ⟨_, rfl, ?_⟩))
  go_ret
  exact ⟨er, bl⟩
 obtain rfl := Option.some.inj H
 go_enter Tryz.func5, Tryz.ntmps5
 go_wp2_with (first | ((with_reducible refine g_ 2 ?_); refine bx 2 #[.slice A0_0 l0_0.length c0_0, .int .i64 a0_1, .int .i64 a0_2, .int .i64 a0_3, .int .i64 a0_4] 29 ?_; intro Dx hg w7 hbox hb; have Dy := am hbox; have Dz := am (bsz hg : w.heap.size ≤ Dx); have Es := Dz; replace HB := ho hb; clear hb hbox hg; have Z8 := dG Dy.out) | ((with_reducible refine c_ 20 ?_); refine gc 20 (some 8) Tryz.func20 (gu.calls _ _ _ _ _ _ ?Ea ?Eb A3.out) ?_; (case Ea => exact cb Eg.out); (case Eb => exact Eh.out); rintro e w' ⟨rfl, ⟨nd, rfl⟩⟩; refine ⟨_, rfl, ?_⟩))
 go_ret
 exact ⟨er, bl⟩
mutual
def aU.j0 : Nat → ByteArray → Bool → Option (Bool)
 | 0, _, _ => none
 | k + 1, x0, x12 => if x12 = true then (some false) else (aU.l0 k x0 0)
def aU.l0 : Nat → ByteArray → Int → Option (Bool)
 | 0, _, _ => none
 | k + 1, x0, x3 => if x3 < (x0.size : Int) then (if 0 ≤ x3 then (if (bt x0 x3) ≥ 97 then (if ((bt x0 x3) ≤ 122) then (aU.l0 k x0 (wrap64 (x3 + 1))) else (if x3 = 0 then (some false) else (if (bt x0 x3) ≥ 48 then (if ((bt x0 x3) ≤ 57) then (aU.l0 k x0 (wrap64 (x3 + 1))) else (if (bt x0 x3) = 95 then (aU.l0 k x0 (wrap64 (x3 + 1))) else (some false))) else (if (bt x0 x3) = 95 then (aU.l0 k x0 (wrap64 (x3 + 1))) else (some false))))) else (if x3 = 0 then (some false) else (if (bt x0 x3) ≥ 48 then (if ((bt x0 x3) ≤ 57) then (aU.l0 k x0 (wrap64 (x3 + 1))) else (if (bt x0 x3) = 95 then (aU.l0 k x0 (wrap64 (x3 + 1))) else (some false))) else (if (bt x0 x3) = 95 then (aU.l0 k x0 (wrap64 (x3 + 1))) else (some false))))) else (none)) else (some true)
end
def aU.f (k : Nat) (a0 : ByteArray) : Option (Bool) := if (a0.size : Int) < 1 then (aU.j0 k a0 true) else (aU.j0 k a0 (decide ((a0.size : Int) > 20)))
theorem aU.bI : ∀ k, (∀ y0 y1, LeO (aU.j0 k y0 y1) (aU.j0 (k + 1) y0 y1)) ∧ (∀ y0 y1, LeO (aU.l0 k y0 y1) (aU.l0 (k + 1) y0 y1))
 | 0 => ⟨fun _ _ r h => by simp [aU.j0] at h, fun _ _ r h => by simp [aU.l0] at h⟩
 | k + 1 => by
  obtain ⟨ih0, ih1⟩ := aU.bI k
  refine ⟨?_, ?_⟩
  ·intro y0 y1
   unfold aU.j0
   repeat' (with_reducible first | exact ih0 .. | exact ih1 .. | exact LeO.refl _ | exact LeO.none _ | refine LeO.ite ?_ ?_ | refine LeO.bind ?_ (fun _ => ?_))
  intro y0 y1
  unfold aU.l0
  repeat' (with_reducible first | exact ih0 .. | exact ih1 .. | exact LeO.refl _ | exact LeO.none _ | refine LeO.ite ?_ ?_ | refine LeO.bind ?_ (fun _ => ?_))
theorem aU.mono : ∀ a0 k, LeO (aU.f k a0) (aU.f (k + 1) a0) := by
 intro a0 k
 obtain ⟨ih0, ih1⟩ := aU.bI k
 unfold aU.f
 repeat' (with_reducible first | exact ih0 .. | exact ih1 .. | exact LeO.refl _ | exact LeO.none _ | refine LeO.ite ?_ ?_ | refine LeO.bind ?_ (fun _ => ?_))
theorem aU.calls (k : Nat) (a0 : ByteArray) (r : Bool) (w : World) (h : aU.f k a0 = some r) :
  Calls Tryz.prog 60 #[.string a0] w fun e w' => e = .returned (.bool r) ∧ eT w w' := by
 have H := h
 clear h
 unfold aU.f at H
 have Ej := am H; clear H
 go_enter Tryz.func60, Tryz.ntmps60
 go_upto_region 1 with (fail)
 go_cut [12] (fun v12 wc => ∃ (kq : Nat) (x12_1 : Bool), v12 = .bool x12_1 ∧ aa (aU.j0 kq a0 x12_1 = some r) ∧ aa (kq ≤ k) ∧ eT w wc)
 case first =>
  have H := Ej.out
  clear Ej
  revert H; refine iDn (fun c3 Cb H => ?_) fun c3 Cb H => ?_
  ·have Ek : decide (a0.size < 1) = true := decide_eq_true (by omega)
   clear c3
   (first | rw [Cb] | (simp only [bu, bv]; rw [Cb]) | skip)
   have H' := am H; clear H
   go_wp2
   go_meet
   case rel => exact ⟨_, (true), rs, H', ⟨by first | omega | exact Nat.le_refl _⟩, dr⟩
  have Ek : decide (a0.size < 1) = false := decide_eq_false (by omega)
  clear c3
  (first | rw [Cb] | (simp only [bu, bv]; rw [Cb]) | skip)
  have H' := am H; clear H
  go_wp2
  go_meet
  case rel => exact ⟨_, (decide ((a0.size : Int) > 20)), rs, H', ⟨by first | omega | exact Nat.le_refl _⟩, dr⟩
 case rest =>
  clear Ej
  obtain ⟨kq, x12_1, rfl, HA, Ce, ⟨mc1, rfl⟩⟩ := hcut
  cases kq with
  | zero => exact absurd HA.out (by simp [aU.j0])
  | succ kj1 =>
   have H := HA.out
   clear HA
   simp only [aU.j0] at H
   replace H := iT H; rcases H with ⟨rfl, H⟩ | ⟨rfl, H⟩
   ·obtain rfl := Option.some.inj H
    go_wp2
    go_ret
    exact ⟨rs, dr⟩
   have H' := am H; clear H
   go_wp2
   go_loopg [3] kj1 (fun kq v3 w' => ∃ (x3_2 : Int), v3 = .int .i64 x3_2 ∧ aa (aU.l0 kq a0 x3_2 = some r) ∧ aa (kq ≤ kj1) ∧ eT w w')
   case atStart => exact ⟨(0), rs, H', ⟨Nat.le_refl _⟩, dr⟩
   case round =>
    clear H'
    obtain ⟨x3_2, rfl, HA, Cf, ⟨m2, rfl⟩⟩ := hrel
    cases gk with
    | zero => exact absurd HA.out (by simp [aU.l0])
    | succ k2 =>
     have H := HA.out
     clear HA
     simp only [aU.l0] at H
     revert H; refine iDb (fun Dj H => ?_) fun Dj H => ?_
     ·revert H; refine i1 fun Ez H => ?_
      revert H; refine iDb (fun Em H => ?_) fun Em H => ?_
      ·revert H; refine iDb (fun Dk H => ?_) fun Dk H => ?_
       ·have H' := am H; clear H
        have p7 : 0 ≤ (x3_2 : Int) := ode
        have q7 : x3_2 < (a0.size : Int) := ode
        have Cj := iI a0 x3_2
        replace p7 := eq_true p7
        replace q7 := eq_true q7
        go_wp2
        go_roundg k2
        case measure => have := Ce.out; have := Cf.out; omega
        case rel => exact ⟨(wrap64 (x3_2 + 1)), rs, H', ⟨by have := Ce.out; have := Cf.out; omega⟩, dr⟩
       revert H; refine iQ (fun Dl Dn H => ?_) fun c10 Dl Dn H => ?_
       ·obtain rfl := Option.some.inj H
        have p7 : 0 ≤ (x3_2 : Int) := ode
        have q7 : x3_2 < (a0.size : Int) := ode
        have Cj := iI a0 x3_2
        replace p7 := eq_true p7
        replace q7 := eq_true q7
        go_wp2
        go_ret
        exact ⟨rs, dr⟩
       revert H; refine iDb (fun Cm H => ?_) fun Cm H => ?_
       ·revert H; refine iDb (fun Cn H => ?_) fun Cn H => ?_
        ·have H' := am H; clear H
         have p7 : 0 ≤ (x3_2 : Int) := ode
         have q7 : x3_2 < (a0.size : Int) := ode
         have Cj := iI a0 x3_2
         replace p7 := eq_true p7
         replace q7 := eq_true q7
         go_wp2
         go_roundg k2
         case measure => have := Ce.out; have := Cf.out; omega
         case rel => exact ⟨(wrap64 (x3_2 + 1)), rs, H', ⟨by have := Ce.out; have := Cf.out; omega⟩, dr⟩
        revert H; refine iQ (fun Dp Dq H => ?_) fun Gh Dp Dq H => ?_
        ·have H' := am H; clear H
         have p7 : 0 ≤ (x3_2 : Int) := ode
         have q7 : x3_2 < (a0.size : Int) := ode
         have Cj := iI a0 x3_2
         replace p7 := eq_true p7
         replace q7 := eq_true q7
         go_wp2
         go_roundg k2
         case measure => have := Ce.out; have := Cf.out; omega
         case rel => exact ⟨(wrap64 (x3_2 + 1)), rs, H', ⟨by have := Ce.out; have := Cf.out; omega⟩, dr⟩
        obtain rfl := Option.some.inj H
        have p7 : 0 ≤ (x3_2 : Int) := ode
        have q7 : x3_2 < (a0.size : Int) := ode
        have Cj := iI a0 x3_2
        replace p7 := eq_true p7
        replace q7 := eq_true q7
        go_wp2
        go_ret
        exact ⟨rs, dr⟩
       revert H; refine iQ (fun Dt Du H => ?_) fun Gi Dt Du H => ?_
       ·have H' := am H; clear H
        have p7 : 0 ≤ (x3_2 : Int) := ode
        have q7 : x3_2 < (a0.size : Int) := ode
        have Cj := iI a0 x3_2
        replace p7 := eq_true p7
        replace q7 := eq_true q7
        go_wp2
        go_roundg k2
        case measure => have := Ce.out; have := Cf.out; omega
        case rel => exact ⟨(wrap64 (x3_2 + 1)), rs, H', ⟨by have := Ce.out; have := Cf.out; omega⟩, dr⟩
       obtain rfl := Option.some.inj H
       have p7 : 0 ≤ (x3_2 : Int) := ode
       have q7 : x3_2 < (a0.size : Int) := ode
       have Cj := iI a0 x3_2
       replace p7 := eq_true p7
       replace q7 := eq_true q7
       go_wp2
       go_ret
       exact ⟨rs, dr⟩
      revert H; refine iQ (fun Dv Dw H => ?_) fun Gj Dv Dw H => ?_
      ·obtain rfl := Option.some.inj H
       have p7 : 0 ≤ (x3_2 : Int) := ode
       have q7 : x3_2 < (a0.size : Int) := ode
       have Cj := iI a0 x3_2
       replace p7 := eq_true p7
       replace q7 := eq_true q7
       go_wp2
       go_ret
       exact ⟨rs, dr⟩
      revert H; refine iDb (fun Dx H => ?_) fun Dx H => ?_
      ·revert H; refine iDb (fun Dy H => ?_) fun Dy H => ?_
       ·have H' := am H; clear H
        have p7 : 0 ≤ (x3_2 : Int) := ode
        have q7 : x3_2 < (a0.size : Int) := ode
        have Cj := iI a0 x3_2
        replace p7 := eq_true p7
        replace q7 := eq_true q7
        go_wp2
        go_roundg k2
        case measure => have := Ce.out; have := Cf.out; omega
        case rel => exact ⟨(wrap64 (x3_2 + 1)), rs, H', ⟨by have := Ce.out; have := Cf.out; omega⟩, dr⟩
       revert H; refine iQ (fun Dz Ea H => ?_) fun Gk Dz Ea H => ?_
       ·have H' := am H; clear H
        have p7 : 0 ≤ (x3_2 : Int) := ode
        have q7 : x3_2 < (a0.size : Int) := ode
        have Cj := iI a0 x3_2
        replace p7 := eq_true p7
        replace q7 := eq_true q7
        go_wp2
        go_roundg k2
        case measure => have := Ce.out; have := Cf.out; omega
        case rel => exact ⟨(wrap64 (x3_2 + 1)), rs, H', ⟨by have := Ce.out; have := Cf.out; omega⟩, dr⟩
       obtain rfl := Option.some.inj H
       have p7 : 0 ≤ (x3_2 : Int) := ode
       have q7 : x3_2 < (a0.size : Int) := ode
       have Cj := iI a0 x3_2
       replace p7 := eq_true p7
       replace q7 := eq_true q7
       go_wp2
       go_ret
       exact ⟨rs, dr⟩
      revert H; refine iQ (fun Eb Ec H => ?_) fun Gl Eb Ec H => ?_
      ·have H' := am H; clear H
       have p7 : 0 ≤ (x3_2 : Int) := ode
       have q7 : x3_2 < (a0.size : Int) := ode
       have Cj := iI a0 x3_2
       replace p7 := eq_true p7
       replace q7 := eq_true q7
       go_wp2
       go_roundg k2
       case measure => have := Ce.out; have := Cf.out; omega
       case rel => exact ⟨(wrap64 (x3_2 + 1)), rs, H', ⟨by have := Ce.out; have := Cf.out; omega⟩, dr⟩
      obtain rfl := Option.some.inj H
      have p7 : 0 ≤ (x3_2 : Int) := ode
      have q7 : x3_2 < (a0.size : Int) := ode
      have Cj := iI a0 x3_2
      replace p7 := eq_true p7
      replace q7 := eq_true q7
      go_wp2
      go_ret
      exact ⟨rs, dr⟩
     obtain rfl := Option.some.inj H
     go_wp2
     go_ret
     exact ⟨rs, dr⟩
def bY.l0 : Nat → List ByteArray → ByteArray → Int → Option (Bool)
 | 0, _, _, _ => none
 | k + 1, x0, x1, x5 => if x5 < (x0.length : Int) then (if 0 ≤ x5 then (if (fG ByteArray.empty x0 x5).toList = x1.toList then (some true) else (bY.l0 k x0 x1 (wrap64 (x5 + 1)))) else (none)) else (some false)
def bY.f (k : Nat) (l0 : List ByteArray) (a1 : ByteArray) : Option (Bool) := bY.l0 k l0 a1 0
theorem bY.bI : ∀ k, (∀ y0 y1 y2, LeO (bY.l0 k y0 y1 y2) (bY.l0 (k + 1) y0 y1 y2))
 | 0 => fun _ _ _ r h => by simp [bY.l0] at h
 | k + 1 => by
  have ih0 := bY.bI k
  ·intro y0 y1 y2
   unfold bY.l0
   exact mo
theorem bY.mono : ∀ a0 a1 k, LeO (bY.f k a0 a1) (bY.f (k + 1) a0 a1) := by
 intro a0 a1 k
 have ih0 := bY.bI k
 unfold bY.f
 exact mo
theorem bY.calls (k : Nat) (A0 : Option Addr) (c0 : Nat) (l0 : List ByteArray) (a1 : ByteArray) (r : Bool) (w : World) (hr0 : Kd.C Kd.string w A0 l0.length l0) (hc0 : l0.length ≤ c0) (h : bY.f k l0 a1 = some r) :
  Calls Tryz.prog 44 #[.slice A0 l0.length c0, .string a1] w fun e w' => e = .returned (.bool r) ∧ eT w w' := by
 have Ew := am hr0
 have Gm := am hc0
 clear hr0 hc0
 have H := h
 clear h
 unfold bY.f at H
 have H' := am H; clear H
 go_enter Tryz.func44, Tryz.ntmps44
 go_wp2
 go_loopg [5] k (fun kq v5 w' => ∃ (x5_1 : Int), v5 = .int .i64 x5_1 ∧ aa (bY.l0 kq l0 a1 x5_1 = some r) ∧ aa (kq ≤ k) ∧ eT w w')
 case atStart => exact ⟨(0), rs, H', ⟨Nat.le_refl _⟩, dr⟩
 case round =>
  clear H'
  obtain ⟨x5_1, rfl, HA, Ey, ⟨m1, rfl⟩⟩ := hrel
  cases gk with
  | zero => exact absurd HA.out (by simp [bY.l0])
  | succ k1 =>
   have H := HA.out
   clear HA
   simp only [bY.l0] at H
   revert H; refine iDb (fun Cb H => ?_) fun Cb H => ?_
   ·revert H; refine i1 fun Ci H => ?_
    revert H; refine iQ (fun Dj En H => ?_) fun c5 Dj En H => ?_
    ·obtain rfl := Option.some.inj H
     have Cc : 0 ≤ (x5_1 : Int) := ode
     have Cd : x5_1 < (l0.length : Int) := ode
     obtain ⟨Ed, e110, Dh⟩ := Kd.eQ Ew.out x5_1 Cc Cd
     cases e110
     replace Cc := eq_true Cc
     replace Cd := eq_true Cd
     go_wp2
     go_ret
     exact ⟨rs, dr⟩
    have H' := am H; clear H
    have Cc : 0 ≤ (x5_1 : Int) := ode
    have Cd : x5_1 < (l0.length : Int) := ode
    obtain ⟨Ed, e110, Dh⟩ := Kd.eQ Ew.out x5_1 Cc Cd
    cases e110
    replace Cc := eq_true Cc
    replace Cd := eq_true Cd
    go_wp2
    go_roundg k1
    case measure => have := Ey.out; omega
    case rel => exact ⟨(wrap64 (x5_1 + 1)), rs, H', ⟨by have := Ey.out; omega⟩, dr⟩
   obtain rfl := Option.some.inj H
   go_wp2
   go_ret
   exact ⟨rs, dr⟩
def gK.f  : Option (List ByteArray) := some (([(⟨#[97, 110, 100]⟩ : ByteArray), (⟨#[97, 109, 111, 117, 110, 116]⟩ : ByteArray), (⟨#[98, 97, 108]⟩ : ByteArray), (⟨#[98, 97, 110, 107]⟩ : ByteArray), (⟨#[98, 97, 115, 105, 115]⟩ : ByteArray), (⟨#[98, 111, 111, 108]⟩ : ByteArray), (⟨#[99, 111, 110, 116, 114, 97]⟩ : ByteArray), (⟨#[99, 111, 117, 110, 116]⟩ : ByteArray), (⟨#[100, 97, 116, 101]⟩ : ByteArray), (⟨#[100, 97, 121, 115]⟩ : ByteArray), (⟨#[101, 108, 115, 101]⟩ : ByteArray), (⟨#[102, 97, 108, 115, 101]⟩ : ByteArray), (⟨#[102, 114, 111, 109]⟩ : ByteArray), (⟨#[105, 102]⟩ : ByteArray), (⟨#[105, 110, 115, 116, 97, 108, 109, 101, 110, 116]⟩ : ByteArray), (⟨#[105, 110, 116]⟩ : ByteArray), (⟨#[105, 110, 116, 101, 114, 101, 115, 116]⟩ : ByteArray), (⟨#[108, 97, 116, 101, 114]⟩ : ByteArray), (⟨#[108, 101, 97, 115, 116]⟩ : ByteArray), (⟨#[108, 101, 116]⟩ : ByteArray), (⟨#[109, 111, 110, 101, 121]⟩ : ByteArray), (⟨#[109, 111, 115, 116]⟩ : ByteArray), (⟨#[110, 101, 120, 116]⟩ : ByteArray), (⟨#[110, 111, 116]⟩ : ByteArray), (⟨#[111, 112, 101, 110]⟩ : ByteArray), (⟨#[111, 114]⟩ : ByteArray), (⟨#[112, 97, 114, 97, 109]⟩ : ByteArray), (⟨#[112, 97, 121]⟩ : ByteArray), (⟨#[112, 111, 115, 116]⟩ : ByteArray), (⟨#[112, 114, 111, 100, 117, 99, 116]⟩ : ByteArray), (⟨#[114, 97, 116, 101]⟩ : ByteArray), (⟨#[114, 101, 106, 101, 99, 116]⟩ : ByteArray), (⟨#[114, 101, 112, 101, 97, 116]⟩ : ByteArray), (⟨#[115, 101, 116]⟩ : ByteArray), (⟨#[115, 104, 97, 114, 101]⟩ : ByteArray), (⟨#[115, 105, 110, 99, 101]⟩ : ByteArray), (⟨#[115, 108, 111, 116]⟩ : ByteArray), (⟨#[116, 105, 99, 107]⟩ : ByteArray), (⟨#[116, 111]⟩ : ByteArray), (⟨#[116, 111, 100, 97, 121]⟩ : ByteArray), (⟨#[116, 114, 117, 101]⟩ : ByteArray)] : List ByteArray))
theorem gK.calls  (r : List ByteArray) (w : World) (h : gK.f  = some r) :
  Calls Tryz.prog 72 #[] w fun e w' => ∃ v0_ : Value, e = .returned (v0_) ∧ Kd.R Kd.string 9 w' w.heap.size (fun _ => True) v0_ r ∧ Below w.heap.size w w' := by
 have HB := am (Below.refl w.heap.size w)
 have H := h
 clear h
 unfold gK.f at H
 generalize h_ : ((([(⟨#[97, 110, 100]⟩ : ByteArray), (⟨#[97, 109, 111, 117, 110, 116]⟩ : ByteArray), (⟨#[98, 97, 108]⟩ : ByteArray), (⟨#[98, 97, 110, 107]⟩ : ByteArray), (⟨#[98, 97, 115, 105, 115]⟩ : ByteArray), (⟨#[98, 111, 111, 108]⟩ : ByteArray), (⟨#[99, 111, 110, 116, 114, 97]⟩ : ByteArray), (⟨#[99, 111, 117, 110, 116]⟩ : ByteArray), (⟨#[100, 97, 116, 101]⟩ : ByteArray), (⟨#[100, 97, 121, 115]⟩ : ByteArray), (⟨#[101, 108, 115, 101]⟩ : ByteArray), (⟨#[102, 97, 108, 115, 101]⟩ : ByteArray), (⟨#[102, 114, 111, 109]⟩ : ByteArray), (⟨#[105, 102]⟩ : ByteArray), (⟨#[105, 110, 115, 116, 97, 108, 109, 101, 110, 116]⟩ : ByteArray), (⟨#[105, 110, 116]⟩ : ByteArray), (⟨#[105, 110, 116, 101, 114, 101, 115, 116]⟩ : ByteArray), (⟨#[108, 97, 116, 101, 114]⟩ : ByteArray), (⟨#[108, 101, 97, 115, 116]⟩ : ByteArray), (⟨#[108, 101, 116]⟩ : ByteArray), (⟨#[109, 111, 110, 101, 121]⟩ : ByteArray), (⟨#[109, 111, 115, 116]⟩ : ByteArray), (⟨#[110, 101, 120, 116]⟩ : ByteArray), (⟨#[110, 111, 116]⟩ : ByteArray), (⟨#[111, 112, 101, 110]⟩ : ByteArray), (⟨#[111, 114]⟩ : ByteArray), (⟨#[112, 97, 114, 97, 109]⟩ : ByteArray), (⟨#[112, 97, 121]⟩ : ByteArray), (⟨#[112, 111, 115, 116]⟩ : ByteArray), (⟨#[112, 114, 111, 100, 117, 99, 116]⟩ : ByteArray), (⟨#[114, 97, 116, 101]⟩ : ByteArray), (⟨#[114, 101, 106, 101, 99, 116]⟩ : ByteArray), (⟨#[114, 101, 112, 101, 97, 116]⟩ : ByteArray), (⟨#[115, 101, 116]⟩ : ByteArray), (⟨#[115, 104, 97, 114, 101]⟩ : ByteArray), (⟨#[115, 105, 110, 99, 101]⟩ : ByteArray), (⟨#[115, 108, 111, 116]⟩ : ByteArray), (⟨#[116, 105, 99, 107]⟩ : ByteArray), (⟨#[116, 111]⟩ : ByteArray), (⟨#[116, 111, 100, 97, 121]⟩ : ByteArray), (⟨#[116, 114, 117, 101]⟩ : ByteArray)] : List ByteArray)) : List ByteArray) = Ga at H
 have Di := am h_.symm; clear h_; try rw [Option.bind_some] at H
 obtain rfl := Option.some.inj H
 go_enter Tryz.func72, Tryz.ntmps72
 go_wp2_with (first | ((with_reducible refine dH (N := 1) rfl ?_); refine Kd.nz Kd.string _ 9 ?hg (N := 1) ?hd (xs := ([(⟨#[97, 110, 100]⟩ : ByteArray), (⟨#[97, 109, 111, 117, 110, 116]⟩ : ByteArray), (⟨#[98, 97, 108]⟩ : ByteArray), (⟨#[98, 97, 110, 107]⟩ : ByteArray), (⟨#[98, 97, 115, 105, 115]⟩ : ByteArray), (⟨#[98, 111, 111, 108]⟩ : ByteArray), (⟨#[99, 111, 110, 116, 114, 97]⟩ : ByteArray), (⟨#[99, 111, 117, 110, 116]⟩ : ByteArray), (⟨#[100, 97, 116, 101]⟩ : ByteArray), (⟨#[100, 97, 121, 115]⟩ : ByteArray), (⟨#[101, 108, 115, 101]⟩ : ByteArray), (⟨#[102, 97, 108, 115, 101]⟩ : ByteArray), (⟨#[102, 114, 111, 109]⟩ : ByteArray), (⟨#[105, 102]⟩ : ByteArray), (⟨#[105, 110, 115, 116, 97, 108, 109, 101, 110, 116]⟩ : ByteArray), (⟨#[105, 110, 116]⟩ : ByteArray), (⟨#[105, 110, 116, 101, 114, 101, 115, 116]⟩ : ByteArray), (⟨#[108, 97, 116, 101, 114]⟩ : ByteArray), (⟨#[108, 101, 97, 115, 116]⟩ : ByteArray), (⟨#[108, 101, 116]⟩ : ByteArray), (⟨#[109, 111, 110, 101, 121]⟩ : ByteArray), (⟨#[109, 111, 115, 116]⟩ : ByteArray), (⟨#[110, 101, 120, 116]⟩ : ByteArray), (⟨#[110, 111, 116]⟩ : ByteArray), (⟨#[111, 112, 101, 110]⟩ : ByteArray), (⟨#[111, 114]⟩ : ByteArray), (⟨#[112, 97, 114, 97, 109]⟩ : ByteArray), (⟨#[112, 97, 121]⟩ : ByteArray), (⟨#[112, 111, 115, 116]⟩ : ByteArray), (⟨#[112, 114, 111, 100, 117, 99, 116]⟩ : ByteArray), (⟨#[114, 97, 116, 101]⟩ : ByteArray), (⟨#[114, 101, 106, 101, 99, 116]⟩ : ByteArray), (⟨#[114, 101, 112, 101, 97, 116]⟩ : ByteArray), (⟨#[115, 101, 116]⟩ : ByteArray), (⟨#[115, 104, 97, 114, 101]⟩ : ByteArray), (⟨#[115, 105, 110, 99, 101]⟩ : ByteArray), (⟨#[115, 108, 111, 116]⟩ : ByteArray), (⟨#[116, 105, 99, 107]⟩ : ByteArray), (⟨#[116, 111]⟩ : ByteArray), (⟨#[116, 111, 100, 97, 121]⟩ : ByteArray), (⟨#[116, 114, 117, 101]⟩ : ByteArray)] : List ByteArray)) (inner := [.string (⟨#[97, 110, 100]⟩ : ByteArray), .string (⟨#[97, 109, 111, 117, 110, 116]⟩ : ByteArray), .string (⟨#[98, 97, 108]⟩ : ByteArray), .string (⟨#[98, 97, 110, 107]⟩ : ByteArray), .string (⟨#[98, 97, 115, 105, 115]⟩ : ByteArray), .string (⟨#[98, 111, 111, 108]⟩ : ByteArray), .string (⟨#[99, 111, 110, 116, 114, 97]⟩ : ByteArray), .string (⟨#[99, 111, 117, 110, 116]⟩ : ByteArray), .string (⟨#[100, 97, 116, 101]⟩ : ByteArray), .string (⟨#[100, 97, 121, 115]⟩ : ByteArray), .string (⟨#[101, 108, 115, 101]⟩ : ByteArray), .string (⟨#[102, 97, 108, 115, 101]⟩ : ByteArray), .string (⟨#[102, 114, 111, 109]⟩ : ByteArray), .string (⟨#[105, 102]⟩ : ByteArray), .string (⟨#[105, 110, 115, 116, 97, 108, 109, 101, 110, 116]⟩ : ByteArray), .string (⟨#[105, 110, 116]⟩ : ByteArray), .string (⟨#[105, 110, 116, 101, 114, 101, 115, 116]⟩ : ByteArray), .string (⟨#[108, 97, 116, 101, 114]⟩ : ByteArray), .string (⟨#[108, 101, 97, 115, 116]⟩ : ByteArray), .string (⟨#[108, 101, 116]⟩ : ByteArray), .string (⟨#[109, 111, 110, 101, 121]⟩ : ByteArray), .string (⟨#[109, 111, 115, 116]⟩ : ByteArray), .string (⟨#[110, 101, 120, 116]⟩ : ByteArray), .string (⟨#[110, 111, 116]⟩ : ByteArray), .string (⟨#[111, 112, 101, 110]⟩ : ByteArray), .string (⟨#[111, 114]⟩ : ByteArray), .string (⟨#[112, 97, 114, 97, 109]⟩ : ByteArray), .string (⟨#[112, 97, 121]⟩ : ByteArray), .string (⟨#[112, 111, 115, 116]⟩ : ByteArray), .string (⟨#[112, 114, 111, 100, 117, 99, 116]⟩ : ByteArray), .string (⟨#[114, 97, 116, 101]⟩ : ByteArray), .string (⟨#[114, 101, 106, 101, 99, 116]⟩ : ByteArray), .string (⟨#[114, 101, 112, 101, 97, 116]⟩ : ByteArray), .string (⟨#[115, 101, 116]⟩ : ByteArray), .string (⟨#[115, 104, 97, 114, 101]⟩ : ByteArray), .string (⟨#[115, 105, 110, 99, 101]⟩ : ByteArray), .string (⟨#[115, 108, 111, 116]⟩ : ByteArray), .string (⟨#[116, 105, 99, 107]⟩ : ByteArray), .string (⟨#[116, 111]⟩ : ByteArray), .string (⟨#[116, 111, 100, 97, 121]⟩ : ByteArray), .string (⟨#[116, 114, 117, 101]⟩ : ByteArray)]) (ok := fun _ => True) (okp := fun _ => True) ?hr ?hp (fun _ hk => hk) trivial (Below.refl _ _) (Nat.le_refl _) (by simp) ?_; (case hd => rfl); (case hg => rfl); (case hr => first | (go_simp; done) | (go_simp; rfl)); (case hp => exact (dw.one (show Kd.M Kd.string _ _ _ (⟨#[97, 110, 100]⟩ : ByteArray) [.string (⟨#[97, 110, 100]⟩ : ByteArray)] from rfl) (dw.one (show Kd.M Kd.string _ _ _ (⟨#[97, 109, 111, 117, 110, 116]⟩ : ByteArray) [.string (⟨#[97, 109, 111, 117, 110, 116]⟩ : ByteArray)] from rfl) (dw.one (show Kd.M Kd.string _ _ _ (⟨#[98, 97, 108]⟩ : ByteArray) [.string (⟨#[98, 97, 108]⟩ : ByteArray)] from rfl) (dw.one (show Kd.M Kd.string _ _ _ (⟨#[98, 97, 110, 107]⟩ : ByteArray) [.string (⟨#[98, 97, 110, 107]⟩ : ByteArray)] from rfl) (dw.one (show Kd.M Kd.string _ _ _ (⟨#[98, 97, 115, 105, 115]⟩ : ByteArray) [.string (⟨#[98, 97, 115, 105, 115]⟩ : ByteArray)] from rfl) (dw.one (show Kd.M Kd.string _ _ _ (⟨#[98, 111, 111, 108]⟩ : ByteArray) [.string (⟨#[98, 111, 111, 108]⟩ : ByteArray)] from rfl) (dw.one (show Kd.M Kd.string _ _ _ (⟨#[99, 111, 110, 116, 114, 97]⟩ : ByteArray) [.string (⟨#[99, 111, 110, 116, 114, 97]⟩ : ByteArray)] from rfl) (dw.one (show Kd.M Kd.string _ _ _ (⟨#[99, 111, 117, 110, 116]⟩ : ByteArray) [.string (⟨#[99, 111, 117, 110, 116]⟩ : ByteArray)] from rfl) (dw.one (show Kd.M Kd.string _ _ _ (⟨#[100, 97, 116, 101]⟩ : ByteArray) [.string (⟨#[100, 97, 116, 101]⟩ : ByteArray)] from rfl) (dw.one (show Kd.M Kd.string _ _ _ (⟨#[100, 97, 121, 115]⟩ : ByteArray) [.string (⟨#[100, 97, 121, 115]⟩ : ByteArray)] from rfl) (dw.one (show Kd.M Kd.string _ _ _ (⟨#[101, 108, 115, 101]⟩ : ByteArray) [.string (⟨#[101, 108, 115, 101]⟩ : ByteArray)] from rfl) (dw.one (show Kd.M Kd.string _ _ _ (⟨#[102, 97, 108, 115, 101]⟩ : ByteArray) [.string (⟨#[102, 97, 108, 115, 101]⟩ : ByteArray)] from rfl) (dw.one (show Kd.M Kd.string _ _ _ (⟨#[102, 114, 111, 109]⟩ : ByteArray) [.string (⟨#[102, 114, 111, 109]⟩ : ByteArray)] from rfl) (dw.one (show Kd.M Kd.string _ _ _ (⟨#[105, 102]⟩ : ByteArray) [.string (⟨#[105, 102]⟩ : ByteArray)] from rfl) (dw.one (show Kd.M Kd.string _ _ _ (⟨#[105, 110, 115, 116, 97, 108, 109, 101, 110, 116]⟩ : ByteArray) [.string (⟨#[105, 110, 115, 116, 97, 108, 109, 101, 110, 116]⟩ : ByteArray)] from rfl) (dw.one (show Kd.M Kd.string _ _ _ (⟨#[105, 110, 116]⟩ : ByteArray) [.string (⟨#[105, 110, 116]⟩ : ByteArray)] from rfl) (dw.one (show Kd.M Kd.string _ _ _ (⟨#[105, 110, 116, 101, 114, 101, 115, 116]⟩ : ByteArray) [.string (⟨#[105, 110, 116, 101, 114, 101, 115, 116]⟩ : ByteArray)] from rfl) (dw.one (show Kd.M Kd.string _ _ _ (⟨#[108, 97, 116, 101, 114]⟩ : ByteArray) [.string (⟨#[108, 97, 116, 101, 114]⟩ : ByteArray)] from rfl) (dw.one (show Kd.M Kd.string _ _ _ (⟨#[108, 101, 97, 115, 116]⟩ : ByteArray) [.string (⟨#[108, 101, 97, 115, 116]⟩ : ByteArray)] from rfl) (dw.one (show Kd.M Kd.string _ _ _ (⟨#[108, 101, 116]⟩ : ByteArray) [.string (⟨#[108, 101, 116]⟩ : ByteArray)] from rfl) (dw.one (show Kd.M Kd.string _ _ _ (⟨#[109, 111, 110, 101, 121]⟩ : ByteArray) [.string (⟨#[109, 111, 110, 101, 121]⟩ : ByteArray)] from rfl) (dw.one (show Kd.M Kd.string _ _ _ (⟨#[109, 111, 115, 116]⟩ : ByteArray) [.string (⟨#[109, 111, 115, 116]⟩ : ByteArray)] from rfl) (dw.one (show Kd.M Kd.string _ _ _ (⟨#[110, 101, 120, 116]⟩ : ByteArray) [.string (⟨#[110, 101, 120, 116]⟩ : ByteArray)] from rfl) (dw.one (show Kd.M Kd.string _ _ _ (⟨#[110, 111, 116]⟩ : ByteArray) [.string (⟨#[110, 111, 116]⟩ : ByteArray)] from rfl) (dw.one (show Kd.M Kd.string _ _ _ (⟨#[111, 112, 101, 110]⟩ : ByteArray) [.string (⟨#[111, 112, 101, 110]⟩ : ByteArray)] from rfl) (dw.one (show Kd.M Kd.string _ _ _ (⟨#[111, 114]⟩ : ByteArray) [.string (⟨#[111, 114]⟩ : ByteArray)] from rfl) (dw.one (show Kd.M Kd.string _ _ _ (⟨#[112, 97, 114, 97, 109]⟩ : ByteArray) [.string (⟨#[112, 97, 114, 97, 109]⟩ : ByteArray)] from rfl) (dw.one (show Kd.M Kd.string _ _ _ (⟨#[112, 97, 121]⟩ : ByteArray) [.string (⟨#[112, 97, 121]⟩ : ByteArray)] from rfl) (dw.one (show Kd.M Kd.string _ _ _ (⟨#[112, 111, 115, 116]⟩ : ByteArray) [.string (⟨#[112, 111, 115, 116]⟩ : ByteArray)] from rfl) (dw.one (show Kd.M Kd.string _ _ _ (⟨#[112, 114, 111, 100, 117, 99, 116]⟩ : ByteArray) [.string (⟨#[112, 114, 111, 100, 117, 99, 116]⟩ : ByteArray)] from rfl) (dw.one (show Kd.M Kd.string _ _ _ (⟨#[114, 97, 116, 101]⟩ : ByteArray) [.string (⟨#[114, 97, 116, 101]⟩ : ByteArray)] from rfl) (dw.one (show Kd.M Kd.string _ _ _ (⟨#[114, 101, 106, 101, 99, 116]⟩ : ByteArray) [.string (⟨#[114, 101, 106, 101, 99, 116]⟩ : ByteArray)] from rfl) (dw.one (show Kd.M Kd.string _ _ _ (⟨#[114, 101, 112, 101, 97, 116]⟩ : ByteArray) [.string (⟨#[114, 101, 112, 101, 97, 116]⟩ : ByteArray)] from rfl) (dw.one (show Kd.M Kd.string _ _ _ (⟨#[115, 101, 116]⟩ : ByteArray) [.string (⟨#[115, 101, 116]⟩ : ByteArray)] from rfl) (dw.one (show Kd.M Kd.string _ _ _ (⟨#[115, 104, 97, 114, 101]⟩ : ByteArray) [.string (⟨#[115, 104, 97, 114, 101]⟩ : ByteArray)] from rfl) (dw.one (show Kd.M Kd.string _ _ _ (⟨#[115, 105, 110, 99, 101]⟩ : ByteArray) [.string (⟨#[115, 105, 110, 99, 101]⟩ : ByteArray)] from rfl) (dw.one (show Kd.M Kd.string _ _ _ (⟨#[115, 108, 111, 116]⟩ : ByteArray) [.string (⟨#[115, 108, 111, 116]⟩ : ByteArray)] from rfl) (dw.one (show Kd.M Kd.string _ _ _ (⟨#[116, 105, 99, 107]⟩ : ByteArray) [.string (⟨#[116, 105, 99, 107]⟩ : ByteArray)] from rfl) (dw.one (show Kd.M Kd.string _ _ _ (⟨#[116, 111]⟩ : ByteArray) [.string (⟨#[116, 111]⟩ : ByteArray)] from rfl) (dw.one (show Kd.M Kd.string _ _ _ (⟨#[116, 111, 100, 97, 121]⟩ : ByteArray) [.string (⟨#[116, 111, 100, 97, 121]⟩ : ByteArray)] from rfl) (dw.one (show Kd.M Kd.string _ _ _ (⟨#[116, 114, 117, 101]⟩ : ByteArray) [.string (⟨#[116, 114, 117, 101]⟩ : ByteArray)] from rfl) (dw.none _ _))))))))))))))))))))))))))))))))))))))))))); intro v112 w1 ho2 hb hg_ hnew_; clear hg_ hnew_; (first | rw [← Di.out] at ho2 | (simp only [Int.reduceToNat] at ho2; rw [← Di.out] at ho2)); have Ee := am (Kd.bz ho2 (az bl)); replace HB := ho hb; clear hb ho2))
 go_ret
 exact ⟨_, er, kr Ee.out, bl⟩
def fw.f (k : Nat) (a0 : ByteArray) : Option (Bool) := (gK.f).bind fun t114 => ((bY.f k t114 a0).bind fun t117 => (some t117))
theorem fw.mono : ∀ a0 k, LeO (fw.f k a0) (fw.f (k + 1) a0) := by
 intro a0 k
 unfold fw.f
 repeat' (with_reducible first | exact bY.mono .. | exact LeO.refl _ | exact LeO.none _ | refine LeO.ite ?_ ?_ | refine LeO.bind ?_ (fun _ => ?_))
theorem fw.calls (k : Nat) (a0 : ByteArray) (r : Bool) (w : World) (h : fw.f k a0 = some r) :
  Calls Tryz.prog 61 #[.string a0] w fun e w' => e = .returned (.bool r) ∧ Below w.heap.size w w' := by
 have HB := am (Below.refl w.heap.size w)
 have H := h
 clear h
 unfold fw.f at H
 revert H; refine bj fun t114 A2 H => ?_
 revert H; refine bj fun t117 A3 H => ?_
 obtain rfl := Option.some.inj H
 go_enter Tryz.func61, Tryz.ntmps61
 go_wp2_with (first | ((with_reducible refine c_ 72 ?_); refine gc 72 (some 3) Tryz.func72 (gK.calls _ _ A2.out) ?_; rintro e w4 ⟨v115, rfl, ho0, hb⟩; refine ⟨_, rfl, ?_⟩; have Dc := am (Kd.bz ho0 (az bl)); replace HB := ho hb; clear hb ho0; obtain ⟨Gn, Gp, Gf⟩ := Kd.aI Dc.out; subst Gf) | ((with_reducible refine c_ 44 ?_); refine gc 44 (some 5) Tryz.func44 (bY.calls _ _ _ _ _ _ _ ?Ef ?Eg A3.out) ?_; (case Ef => exact cc (Kd.af Dc.out).2.2); (case Eg => exact (Kd.af Dc.out).2.1); rintro e w' ⟨rfl, ⟨nd, rfl⟩⟩; refine ⟨_, rfl, ?_⟩))
 go_ret
 exact ⟨er, bl⟩
def bn.f (k : Nat) (a0 : ByteArray) : Option (Bool) := (aU.f k a0).bind fun t118 => (if t118 = true then ((fw.f k a0).bind fun t119 => (some (!t119))) else (some false))
theorem bn.mono : ∀ a0 k, LeO (bn.f k a0) (bn.f (k + 1) a0) := by
 intro a0 k
 unfold bn.f
 repeat' (with_reducible first | exact aU.mono .. | exact fw.mono .. | exact LeO.refl _ | exact LeO.none _ | refine LeO.ite ?_ ?_ | refine LeO.bind ?_ (fun _ => ?_))
theorem bn.calls (k : Nat) (a0 : ByteArray) (r : Bool) (w : World) (h : bn.f k a0 = some r) :
  Calls Tryz.prog 42 #[.string a0] w fun e w' => e = .returned (.bool r) ∧ Below w.heap.size w w' := by
 have HB := am (Below.refl w.heap.size w)
 have H := h
 clear h
 unfold bn.f at H
 revert H; refine bj fun t118 A2 H => ?_
 replace H := iT H; rcases H with ⟨rfl, H⟩ | ⟨rfl, H⟩
 ·revert H; refine bj fun t119 A4 H => ?_
  obtain rfl := Option.some.inj H
  go_enter Tryz.func42, Tryz.ntmps42
  go_wp2_with (first | ((with_reducible refine c_ 60 ?_); refine gc 60 (some 4) Tryz.func60 (aU.calls _ _ _ _ A2.out) ?_; rintro e w' ⟨rfl, ⟨nd, rfl⟩⟩; refine ⟨_, rfl, ?_⟩) | (go_at_call 61; (with_reducible refine (fw.calls _ _ _ _ A4.out).mono ?_); rintro e w5 ⟨rfl, hb⟩; replace HB := ho hb; clear hb))
  go_ret
  exact ⟨er, bl⟩
 obtain rfl := Option.some.inj H
 go_enter Tryz.func42, Tryz.ntmps42
 go_wp2_with (first | ((with_reducible refine c_ 60 ?_); refine gc 60 (some 4) Tryz.func60 (aU.calls _ _ _ _ A2.out) ?_; rintro e w' ⟨rfl, ⟨nd, rfl⟩⟩; refine ⟨_, rfl, ?_⟩))
 go_ret
 exact ⟨er, bl⟩
def fD.f (a0 : Int) : Option (Bool) := if a0 ≥ (-1000000000000) then (some (decide (a0 ≤ 1000000000000))) else (some false)
theorem fD.calls (a0 : Int) (r : Bool) (w : World) (h : fD.f a0 = some r) :
  Calls Tryz.prog 73 #[.int .i64 a0] w fun e w' => e = .returned (.bool r) ∧ eT w w' := by
 have H := h
 clear h
 unfold fD.f at H
 revert H; refine iDb (fun Df H => ?_) fun Df H => ?_
 ·obtain rfl := Option.some.inj H
  go_enter Tryz.func73, Tryz.ntmps73
  go_wp2
  go_ret
  exact ⟨rs, dr⟩
 obtain rfl := Option.some.inj H
 go_enter Tryz.func73, Tryz.ntmps73
 go_wp2
 go_ret
 exact ⟨rs, dr⟩
def gW.f (a0 : Int) : Option (Bool) := if a0 ≥ 0 then (some (decide (a0 ≤ 1000000))) else (some false)
theorem gW.calls (a0 : Int) (r : Bool) (w : World) (h : gW.f a0 = some r) :
  Calls Tryz.prog 74 #[.int .i64 a0] w fun e w' => e = .returned (.bool r) ∧ eT w w' := by
 have H := h
 clear h
 unfold gW.f at H
 revert H; refine iDb (fun Df H => ?_) fun Df H => ?_
 ·obtain rfl := Option.some.inj H
  go_enter Tryz.func74, Tryz.ntmps74
  go_wp2
  go_ret
  exact ⟨rs, dr⟩
 obtain rfl := Option.some.inj H
 go_enter Tryz.func74, Tryz.ntmps74
 go_wp2
 go_ret
 exact ⟨rs, dr⟩
def gL.f (a0 : Int) : Option (Bool) := if a0 ≥ 0 then (some (decide (a0 ≤ 36524))) else (some false)
theorem gL.calls (a0 : Int) (r : Bool) (w : World) (h : gL.f a0 = some r) :
  Calls Tryz.prog 75 #[.int .i64 a0] w fun e w' => e = .returned (.bool r) ∧ eT w w' := by
 have H := h
 clear h
 unfold gL.f at H
 revert H; refine iDb (fun Df H => ?_) fun Df H => ?_
 ·obtain rfl := Option.some.inj H
  go_enter Tryz.func75, Tryz.ntmps75
  go_wp2
  go_ret
  exact ⟨rs, dr⟩
 obtain rfl := Option.some.inj H
 go_enter Tryz.func75, Tryz.ntmps75
 go_wp2
 go_ret
 exact ⟨rs, dr⟩
def bC.j0 : Nat → Int → Int → Int → Bool → Option (Bool)
 | 0, _, _, _, _ => none
 | k + 1, x0, x1, x5, x6 => if x6 = true then ((fD.f x1).bind fun t120 => (some t120)) else (if x5 = 3 then ((gW.f x1).bind fun t121 => (some t121)) else (if x5 = 4 then ((gL.f x1).bind fun t122 => (some t122)) else (if x0 = 5 then (if x1 = 0 then (some true) else (some (x1 == 1))) else (some false))))
def bC.f (k : Nat) (a0 : Int) (a1 : Int) : Option (Bool) := if a0 = 1 then (bC.j0 k a0 a1 a0 (a0 == 1)) else (bC.j0 k a0 a1 a0 (a0 == 2))
theorem bC.bI : ∀ k, (∀ y0 y1 y2 y3, LeO (bC.j0 k y0 y1 y2 y3) (bC.j0 (k + 1) y0 y1 y2 y3))
 | 0 => fun _ _ _ _ r h => by simp [bC.j0] at h
 | k + 1 => by
  have ih0 := bC.bI k
  ·intro y0 y1 y2 y3
   unfold bC.j0
   exact mo
theorem bC.mono : ∀ a0 a1 k, LeO (bC.f k a0 a1) (bC.f (k + 1) a0 a1) := by
 intro a0 a1 k
 have ih0 := bC.bI k
 unfold bC.f
 exact mo
theorem bC.calls (k : Nat) (a0 : Int) (a1 : Int) (r : Bool) (w : World) (h : bC.f k a0 a1 = some r) :
  Calls Tryz.prog 62 #[.int .i64 a0, .int .i64 a1] w fun e w' => e = .returned (.bool r) ∧ eT w w' := by
 have H := h
 clear h
 unfold bC.f at H
 have Eo := am H; clear H
 go_enter Tryz.func62, Tryz.ntmps62
 go_upto_if 6 with (fail)
 go_cut [6] (fun v6 wc => ∃ (kq : Nat) (x6_2 : Bool), v6 = .bool x6_2 ∧ aa (bC.j0 kq a0 a1 a0 x6_2 = some r) ∧ aa (kq ≤ k) ∧ eT w wc)
 case first =>
  have H := Eo.out
  clear Eo
  revert H; refine iQ (fun Ci Ep H => ?_) fun c4 Ci Ep H => ?_
  ·(first | rw [Ci] | (simp only [bu, bv]; rw [Ci]) | skip)
   have H' := am H; clear H
   go_wp2
   go_meet
   case rel => exact ⟨_, ((a0 == 1)), rs, H', ⟨by first | omega | exact Nat.le_refl _⟩, dr⟩
  (first | rw [Ci] | (simp only [bu, bv]; rw [Ci]) | skip)
  have H' := am H; clear H
  go_wp2
  go_meet
  case rel => exact ⟨_, ((a0 == 2)), rs, H', ⟨by first | omega | exact Nat.le_refl _⟩, dr⟩
 case rest =>
  clear Eo
  obtain ⟨kq, x6_2, rfl, HA, Gq, ⟨mc2, rfl⟩⟩ := hcut
  cases kq with
  | zero => exact absurd HA.out (by simp [bC.j0])
  | succ kj2 =>
   have H := HA.out
   clear HA
   simp only [bC.j0] at H
   replace H := iT H; rcases H with ⟨rfl, H⟩ | ⟨rfl, H⟩
   ·revert H; refine bj fun t120 A6 H => ?_
    obtain rfl := Option.some.inj H
    go_wp2_with (first | ((with_reducible refine c_ 73 ?_); refine gc 73 (some 10) Tryz.func73 (fD.calls _ _ _ A6.out) ?_; rintro e w' ⟨rfl, ⟨nd, rfl⟩⟩; refine ⟨_, rfl, ?_⟩))
    go_ret
    exact ⟨rs, dr⟩
   revert H; refine iQ (fun Es Et H => ?_) fun c7 Es Et H => ?_
   ·revert H; refine bj fun t121 A8 H => ?_
    obtain rfl := Option.some.inj H
    go_wp2_with (first | ((with_reducible refine c_ 74 ?_); refine gc 74 (some 14) Tryz.func74 (gW.calls _ _ _ A8.out) ?_; rintro e w' ⟨rfl, ⟨nd, rfl⟩⟩; refine ⟨_, rfl, ?_⟩))
    go_ret
    exact ⟨rs, dr⟩
   revert H; refine iQ (fun Dk Eu H => ?_) fun c9 Dk Eu H => ?_
   ·revert H; refine bj fun t122 Gg H => ?_
    obtain rfl := Option.some.inj H
    go_wp2_with (first | ((with_reducible refine c_ 75 ?_); refine gc 75 (some 18) Tryz.func75 (gL.calls _ _ _ Gg.out) ?_; rintro e w' ⟨rfl, ⟨nd, rfl⟩⟩; refine ⟨_, rfl, ?_⟩))
    go_ret
    exact ⟨rs, dr⟩
   revert H; refine iQ (fun Cm Eh H => ?_) fun Gs Cm Eh H => ?_
   ·revert H; refine iQ (fun Cn Ei H => ?_) fun Gu Cn Ei H => ?_
    ·obtain rfl := Option.some.inj H
     go_wp2
     go_ret
     exact ⟨rs, dr⟩
    obtain rfl := Option.some.inj H
    go_wp2
    go_ret
    exact ⟨rs, dr⟩
   obtain rfl := Option.some.inj H
   go_wp2
   go_ret
   exact ⟨rs, dr⟩
def dC.f (k : Nat) (a0_0 : ByteArray) (a0_1 : Int) (a0_2 : Int) (a0_3 : Int) : Option (Bool) := (bC.f k a0_1 a0_2).bind fun t124 => (if t124 = true then ((bC.f k a0_1 a0_3).bind fun t125 => (if t125 = true then (some (decide (a0_2 ≤ a0_3))) else (some false))) else (some false))
theorem dC.mono : ∀ a0 a1 a2 a3 k, LeO (dC.f k a0 a1 a2 a3) (dC.f (k + 1) a0 a1 a2 a3) := by
 intro a0 a1 a2 a3 k
 unfold dC.f
 repeat' (with_reducible first | exact bC.mono .. | exact LeO.refl _ | exact LeO.none _ | refine LeO.ite ?_ ?_ | refine LeO.bind ?_ (fun _ => ?_))
theorem dC.calls (k : Nat) (a0_0 : ByteArray) (a0_1 : Int) (a0_2 : Int) (a0_3 : Int) (r : Bool) (w : World) (h : dC.f k a0_0 a0_1 a0_2 a0_3 = some r) :
  Calls Tryz.prog 43 #[.agg #[.string a0_0, .int .i64 a0_1, .int .i64 a0_2, .int .i64 a0_3]] w fun e w' => e = .returned (.bool r) ∧ Below w.heap.size w w' := by
 have hu83 := Tryz.underlying83
 have HB := am (Below.refl w.heap.size w)
 have H := h
 clear h
 unfold dC.f at H
 revert H; refine bj fun t124 A2 H => ?_
 replace H := iT H; rcases H with ⟨rfl, H⟩ | ⟨rfl, H⟩
 ·revert H; refine bj fun t125 A4 H => ?_
  replace H := iT H; rcases H with ⟨rfl, H⟩ | ⟨rfl, H⟩
  ·obtain rfl := Option.some.inj H
   go_enter Tryz.func43, Tryz.ntmps43
   go_wp2_with (first | ((with_reducible refine g_ 1 ?_); refine bx 1 #[.string a0_0, .int .i64 a0_1, .int .i64 a0_2, .int .i64 a0_3] 83 ?_; intro Cb hg w6 hbox hb; have Cc := am hbox; have Cd := am (bsz hg : w.heap.size ≤ Cb); have Cm := Cd; replace HB := ho hb; clear hb hbox hg; have Z7 := jw Cc.out) | ((with_reducible refine c_ 62 ?_); refine gc 62 (some 7) Tryz.func62 (bC.calls _ _ _ _ _ A2.out) ?_; rintro e w' ⟨rfl, ⟨nd, rfl⟩⟩; refine ⟨_, rfl, ?_⟩) | (go_at_call 62; (with_reducible refine (bC.calls _ _ _ _ _ A4.out).mono ?_); rintro e w' ⟨rfl, ⟨nd, rfl⟩⟩))
   go_ret
   exact ⟨er, bl⟩
  obtain rfl := Option.some.inj H
  go_enter Tryz.func43, Tryz.ntmps43
  go_wp2_with (first | ((with_reducible refine g_ 1 ?_); refine bx 1 #[.string a0_0, .int .i64 a0_1, .int .i64 a0_2, .int .i64 a0_3] 83 ?_; intro Cb hg w8 hbox hb; have Cc := am hbox; have Cd := am (bsz hg : w.heap.size ≤ Cb); have Cm := Cd; replace HB := ho hb; clear hb hbox hg; have Z9 := jw Cc.out) | ((with_reducible refine c_ 62 ?_); refine gc 62 (some 7) Tryz.func62 (bC.calls _ _ _ _ _ A2.out) ?_; rintro e w' ⟨rfl, ⟨nd, rfl⟩⟩; refine ⟨_, rfl, ?_⟩) | (go_at_call 62; (with_reducible refine (bC.calls _ _ _ _ _ A4.out).mono ?_); rintro e w' ⟨rfl, ⟨nd, rfl⟩⟩))
  go_ret
  exact ⟨er, bl⟩
 obtain rfl := Option.some.inj H
 go_enter Tryz.func43, Tryz.ntmps43
 go_wp2_with (first | ((with_reducible refine g_ 1 ?_); refine bx 1 #[.string a0_0, .int .i64 a0_1, .int .i64 a0_2, .int .i64 a0_3] 83 ?_; intro Cb hg w10 hbox hb; have Cc := am hbox; have Cd := am (bsz hg : w.heap.size ≤ Cb); have Cm := Cd; replace HB := ho hb; clear hb hbox hg; have Dl := jw Cc.out) | ((with_reducible refine c_ 62 ?_); refine gc 62 (some 7) Tryz.func62 (bC.calls _ _ _ _ _ A2.out) ?_; rintro e w' ⟨rfl, ⟨nd, rfl⟩⟩; refine ⟨_, rfl, ?_⟩))
 go_ret
 exact ⟨er, bl⟩
def eO.f (k : Nat) (a0 : ByteArray) : Option (Bool) := (bY.f k (([(⟨#[43]⟩ : ByteArray), (⟨#[45]⟩ : ByteArray), (⟨#[42]⟩ : ByteArray), (⟨#[60]⟩ : ByteArray), (⟨#[60, 61]⟩ : ByteArray), (⟨#[61]⟩ : ByteArray), (⟨#[97, 110, 100]⟩ : ByteArray), (⟨#[111, 114]⟩ : ByteArray)] : List ByteArray)) a0).bind fun t129 => (some t129)
theorem eO.mono : ∀ a0 k, LeO (eO.f k a0) (eO.f (k + 1) a0) := by
 intro a0 k
 unfold eO.f
 repeat' (with_reducible first | exact bY.mono .. | exact LeO.refl _ | exact LeO.none _ | refine LeO.ite ?_ ?_ | refine LeO.bind ?_ (fun _ => ?_))
theorem eO.calls (k : Nat) (a0 : ByteArray) (r : Bool) (w : World) (h : eO.f k a0 = some r) :
  Calls Tryz.prog 84 #[.string a0] w fun e w' => e = .returned (.bool r) ∧ Below w.heap.size w w' := by
 have HB := am (Below.refl w.heap.size w)
 have H := h
 clear h
 unfold eO.f at H
 generalize h_ : ((([(⟨#[43]⟩ : ByteArray), (⟨#[45]⟩ : ByteArray), (⟨#[42]⟩ : ByteArray), (⟨#[60]⟩ : ByteArray), (⟨#[60, 61]⟩ : ByteArray), (⟨#[61]⟩ : ByteArray), (⟨#[97, 110, 100]⟩ : ByteArray), (⟨#[111, 114]⟩ : ByteArray)] : List ByteArray)) : List ByteArray) = Dh at H
 have Cn := am h_.symm; clear h_; try rw [Option.bind_some] at H
 revert H; refine bj fun t129 A2 H => ?_
 obtain rfl := Option.some.inj H
 go_enter Tryz.func84, Tryz.ntmps84
 go_wp2_with (first | ((with_reducible refine dH (N := 3) rfl ?_); refine Kd.nz Kd.string _ 9 ?hg (N := 3) ?hd (xs := ([(⟨#[43]⟩ : ByteArray), (⟨#[45]⟩ : ByteArray), (⟨#[42]⟩ : ByteArray), (⟨#[60]⟩ : ByteArray), (⟨#[60, 61]⟩ : ByteArray), (⟨#[61]⟩ : ByteArray), (⟨#[97, 110, 100]⟩ : ByteArray), (⟨#[111, 114]⟩ : ByteArray)] : List ByteArray)) (inner := [.string (⟨#[43]⟩ : ByteArray), .string (⟨#[45]⟩ : ByteArray), .string (⟨#[42]⟩ : ByteArray), .string (⟨#[60]⟩ : ByteArray), .string (⟨#[60, 61]⟩ : ByteArray), .string (⟨#[61]⟩ : ByteArray), .string (⟨#[97, 110, 100]⟩ : ByteArray), .string (⟨#[111, 114]⟩ : ByteArray)]) (ok := fun _ => True) (okp := fun _ => True) ?hr ?hp (fun _ hk => hk) trivial (Below.refl _ _) (Nat.le_refl _) (by simp) ?_; (case hd => rfl); (case hg => rfl); (case hr => first | (go_simp; done) | (go_simp; rfl)); (case hp => exact (dw.one (show Kd.M Kd.string _ _ _ (⟨#[43]⟩ : ByteArray) [.string (⟨#[43]⟩ : ByteArray)] from rfl) (dw.one (show Kd.M Kd.string _ _ _ (⟨#[45]⟩ : ByteArray) [.string (⟨#[45]⟩ : ByteArray)] from rfl) (dw.one (show Kd.M Kd.string _ _ _ (⟨#[42]⟩ : ByteArray) [.string (⟨#[42]⟩ : ByteArray)] from rfl) (dw.one (show Kd.M Kd.string _ _ _ (⟨#[60]⟩ : ByteArray) [.string (⟨#[60]⟩ : ByteArray)] from rfl) (dw.one (show Kd.M Kd.string _ _ _ (⟨#[60, 61]⟩ : ByteArray) [.string (⟨#[60, 61]⟩ : ByteArray)] from rfl) (dw.one (show Kd.M Kd.string _ _ _ (⟨#[61]⟩ : ByteArray) [.string (⟨#[61]⟩ : ByteArray)] from rfl) (dw.one (show Kd.M Kd.string _ _ _ (⟨#[97, 110, 100]⟩ : ByteArray) [.string (⟨#[97, 110, 100]⟩ : ByteArray)] from rfl) (dw.one (show Kd.M Kd.string _ _ _ (⟨#[111, 114]⟩ : ByteArray) [.string (⟨#[111, 114]⟩ : ByteArray)] from rfl) (dw.none _ _)))))))))); intro v127 w3 ho4 hb hg_ hnew_; clear hg_ hnew_; (first | rw [← Cn.out] at ho4 | (simp only [Int.reduceToNat] at ho4; rw [← Cn.out] at ho4)); have Ce := am (Kd.bz ho4 (az bl)); replace HB := ho hb; clear hb ho4; obtain ⟨Di, Dj, Df⟩ := Kd.aI Ce.out; subst Df) | ((with_reducible refine c_ 44 ?_); refine gc 44 (some 5) Tryz.func44 (bY.calls _ _ _ _ _ _ _ ?Cf ?Ci A2.out) ?_; (case Cf => exact cc (Kd.af Ce.out).2.2); (case Ci => exact (Kd.af Ce.out).2.1); rintro e w' ⟨rfl, ⟨nd, rfl⟩⟩; refine ⟨_, rfl, ?_⟩))
 go_ret
 exact ⟨er, bl⟩
def dO.f (k : Nat) (a0 : ByteArray) : Option (Bool) := (bY.f k (([(⟨#[105, 110, 116, 101, 114, 101, 115, 116]⟩ : ByteArray), (⟨#[105, 110, 115, 116, 97, 108, 109, 101, 110, 116]⟩ : ByteArray), (⟨#[108, 97, 116, 101, 114]⟩ : ByteArray), (⟨#[100, 97, 121, 115]⟩ : ByteArray), (⟨#[108, 101, 97, 115, 116]⟩ : ByteArray), (⟨#[109, 111, 115, 116]⟩ : ByteArray), (⟨#[115, 104, 97, 114, 101]⟩ : ByteArray)] : List ByteArray)) a0).bind fun t133 => (some t133)
theorem dO.mono : ∀ a0 k, LeO (dO.f k a0) (dO.f (k + 1) a0) := by
 intro a0 k
 unfold dO.f
 repeat' (with_reducible first | exact bY.mono .. | exact LeO.refl _ | exact LeO.none _ | refine LeO.ite ?_ ?_ | refine LeO.bind ?_ (fun _ => ?_))
theorem dO.calls (k : Nat) (a0 : ByteArray) (r : Bool) (w : World) (h : dO.f k a0 = some r) :
  Calls Tryz.prog 85 #[.string a0] w fun e w' => e = .returned (.bool r) ∧ Below w.heap.size w w' := by
 have HB := am (Below.refl w.heap.size w)
 have H := h
 clear h
 unfold dO.f at H
 generalize h_ : ((([(⟨#[105, 110, 116, 101, 114, 101, 115, 116]⟩ : ByteArray), (⟨#[105, 110, 115, 116, 97, 108, 109, 101, 110, 116]⟩ : ByteArray), (⟨#[108, 97, 116, 101, 114]⟩ : ByteArray), (⟨#[100, 97, 121, 115]⟩ : ByteArray), (⟨#[108, 101, 97, 115, 116]⟩ : ByteArray), (⟨#[109, 111, 115, 116]⟩ : ByteArray), (⟨#[115, 104, 97, 114, 101]⟩ : ByteArray)] : List ByteArray)) : List ByteArray) = Dk at H
 have Dc := am h_.symm; clear h_; try rw [Option.bind_some] at H
 revert H; refine bj fun t133 A2 H => ?_
 obtain rfl := Option.some.inj H
 go_enter Tryz.func85, Tryz.ntmps85
 go_wp2_with (first | ((with_reducible refine dH (N := 3) rfl ?_); refine Kd.nz Kd.string _ 9 ?hg (N := 3) ?hd (xs := ([(⟨#[105, 110, 116, 101, 114, 101, 115, 116]⟩ : ByteArray), (⟨#[105, 110, 115, 116, 97, 108, 109, 101, 110, 116]⟩ : ByteArray), (⟨#[108, 97, 116, 101, 114]⟩ : ByteArray), (⟨#[100, 97, 121, 115]⟩ : ByteArray), (⟨#[108, 101, 97, 115, 116]⟩ : ByteArray), (⟨#[109, 111, 115, 116]⟩ : ByteArray), (⟨#[115, 104, 97, 114, 101]⟩ : ByteArray)] : List ByteArray)) (inner := [.string (⟨#[105, 110, 116, 101, 114, 101, 115, 116]⟩ : ByteArray), .string (⟨#[105, 110, 115, 116, 97, 108, 109, 101, 110, 116]⟩ : ByteArray), .string (⟨#[108, 97, 116, 101, 114]⟩ : ByteArray), .string (⟨#[100, 97, 121, 115]⟩ : ByteArray), .string (⟨#[108, 101, 97, 115, 116]⟩ : ByteArray), .string (⟨#[109, 111, 115, 116]⟩ : ByteArray), .string (⟨#[115, 104, 97, 114, 101]⟩ : ByteArray)]) (ok := fun _ => True) (okp := fun _ => True) ?hr ?hp (fun _ hk => hk) trivial (Below.refl _ _) (Nat.le_refl _) (by simp) ?_; (case hd => rfl); (case hg => rfl); (case hr => first | (go_simp; done) | (go_simp; rfl)); (case hp => exact (dw.one (show Kd.M Kd.string _ _ _ (⟨#[105, 110, 116, 101, 114, 101, 115, 116]⟩ : ByteArray) [.string (⟨#[105, 110, 116, 101, 114, 101, 115, 116]⟩ : ByteArray)] from rfl) (dw.one (show Kd.M Kd.string _ _ _ (⟨#[105, 110, 115, 116, 97, 108, 109, 101, 110, 116]⟩ : ByteArray) [.string (⟨#[105, 110, 115, 116, 97, 108, 109, 101, 110, 116]⟩ : ByteArray)] from rfl) (dw.one (show Kd.M Kd.string _ _ _ (⟨#[108, 97, 116, 101, 114]⟩ : ByteArray) [.string (⟨#[108, 97, 116, 101, 114]⟩ : ByteArray)] from rfl) (dw.one (show Kd.M Kd.string _ _ _ (⟨#[100, 97, 121, 115]⟩ : ByteArray) [.string (⟨#[100, 97, 121, 115]⟩ : ByteArray)] from rfl) (dw.one (show Kd.M Kd.string _ _ _ (⟨#[108, 101, 97, 115, 116]⟩ : ByteArray) [.string (⟨#[108, 101, 97, 115, 116]⟩ : ByteArray)] from rfl) (dw.one (show Kd.M Kd.string _ _ _ (⟨#[109, 111, 115, 116]⟩ : ByteArray) [.string (⟨#[109, 111, 115, 116]⟩ : ByteArray)] from rfl) (dw.one (show Kd.M Kd.string _ _ _ (⟨#[115, 104, 97, 114, 101]⟩ : ByteArray) [.string (⟨#[115, 104, 97, 114, 101]⟩ : ByteArray)] from rfl) (dw.none _ _))))))))); intro v131 w3 ho4 hb hg_ hnew_; clear hg_ hnew_; (first | rw [← Dc.out] at ho4 | (simp only [Int.reduceToNat] at ho4; rw [← Dc.out] at ho4)); have Cj := am (Kd.bz ho4 (az bl)); replace HB := ho hb; clear hb ho4; obtain ⟨Di, Dj, Df⟩ := Kd.aI Cj.out; subst Df) | ((with_reducible refine c_ 44 ?_); refine gc 44 (some 5) Tryz.func44 (bY.calls _ _ _ _ _ _ _ ?Cf ?Ci A2.out) ?_; (case Cf => exact cc (Kd.af Cj.out).2.2); (case Ci => exact (Kd.af Cj.out).2.1); rintro e w' ⟨rfl, ⟨nd, rfl⟩⟩; refine ⟨_, rfl, ?_⟩))
 go_ret
 exact ⟨er, bl⟩
mutual
def au.j0 : Nat → ByteArray → Int → Int → Bool → Int → ByteArray → ByteArray → Int → Int → Option (Bool)
 | 0, _, _, _, _, _, _, _, _, _ => none
 | k + 1, x3, x4, x5, x19, x135000, x135001, x135002, x135003, x135004 => if x19 = true then (some false) else (if x135000 = 1 then (au.j1 k x3 x4 x5 x135000 (x135000 == 1) x135000 x135001 x135002 x135003 x135004) else (if x135000 = 2 then (au.j1 k x3 x4 x5 x135000 (x135000 == 2) x135000 x135001 x135002 x135003 x135004) else (if x135000 = 3 then (au.j1 k x3 x4 x5 x135000 (x135000 == 3) x135000 x135001 x135002 x135003 x135004) else (if x135000 = 4 then (au.j1 k x3 x4 x5 x135000 (x135000 == 4) x135000 x135001 x135002 x135003 x135004) else (au.j1 k x3 x4 x5 x135000 (x135000 == 5) x135000 x135001 x135002 x135003 x135004)))))
def au.j1 : Nat → ByteArray → Int → Int → Int → Bool → Int → ByteArray → ByteArray → Int → Int → Option (Bool)
 | 0, _, _, _, _, _, _, _, _, _, _ => none
 | k + 1, x3, x4, x5, x21, x22, x135000, x135001, x135002, x135003, x135004 => if x22 = true then (if x3.toList = ([] : List UInt8) then (if x5 = 0 then ((bC.f k x135000 x4).bind fun t135 => (some t135)) else (some false)) else (some false)) else (if x21 = 6 then (au.j2 k x3 x4 x5 x21 (x21 == 6) x135000 x135001 x135002 x135003 x135004) else (au.j2 k x3 x4 x5 x21 (x21 == 7) x135000 x135001 x135002 x135003 x135004))
def au.j2 : Nat → ByteArray → Int → Int → Int → Bool → Int → ByteArray → ByteArray → Int → Int → Option (Bool)
 | 0, _, _, _, _, _, _, _, _, _, _ => none
 | k + 1, x3, x4, x5, x21, x40, x135000, x135001, x135002, x135003, x135004 => if x40 = true then ((bn.f k x3).bind fun t136 => (if t136 = true then (if x4 = 0 then (some (x5 == 0)) else (some false)) else (some false))) else (if x21 = 8 then (au.j3 k x3 x4 x5 x21 (x21 == 8) x135000 x135001 x135002 x135003 x135004) else (if x21 = 9 then (au.j3 k x3 x4 x5 x21 (x21 == 9) x135000 x135001 x135002 x135003 x135004) else (if x21 = 10 then (au.j3 k x3 x4 x5 x21 (x21 == 10) x135000 x135001 x135002 x135003 x135004) else (au.j3 k x3 x4 x5 x21 (x21 == 11) x135000 x135001 x135002 x135003 x135004))))
def au.j3 : Nat → ByteArray → Int → Int → Int → Bool → Int → ByteArray → ByteArray → Int → Int → Option (Bool)
 | 0, _, _, _, _, _, _, _, _, _, _ => none
 | k + 1, x3, x4, x5, x21, x53, x135000, x135001, x135002, x135003, x135004 => if x53 = true then (if x3.toList = ([] : List UInt8) then (if x4 = 0 then (some (x5 == 0)) else (some false)) else (some false)) else (if x21 = 12 then ((eO.f k x3).bind fun t137 => (if t137 = true then (if x4 = 0 then (some (x5 == 2)) else (some false)) else (some false))) else (if x21 = 13 then (au.j4 k x3 x4 x5 x21 (x21 == 13) x135000 x135001 x135002 x135003 x135004) else (au.j4 k x3 x4 x5 x21 (x21 == 25) x135000 x135001 x135002 x135003 x135004)))
def au.j4 : Nat → ByteArray → Int → Int → Int → Bool → Int → ByteArray → ByteArray → Int → Int → Option (Bool)
 | 0, _, _, _, _, _, _, _, _, _, _ => none
 | k + 1, x3, x4, x5, x21, x80, x135000, x135001, x135002, x135003, x135004 => if x80 = true then (if x3.toList = ([] : List UInt8) then (if x4 = 0 then (some (x5 == 1)) else (some false)) else (some false)) else (if x21 = 14 then ((dO.f k x3).bind fun t138 => (if t138 = true then (if x4 = 0 then (if x5 ≥ 1 then (some (decide (x5 ≤ 4))) else (some false)) else (some false)) else (some false))) else (if x21 = 20 then (au.j5 k x3 x4 x5 x21 (x21 == 20) x135000 x135001 x135002 x135003 x135004) else (au.j5 k x3 x4 x5 x21 (x21 == 21) x135000 x135001 x135002 x135003 x135004)))
def au.j5 : Nat → ByteArray → Int → Int → Int → Bool → Int → ByteArray → ByteArray → Int → Int → Option (Bool)
 | 0, _, _, _, _, _, _, _, _, _, _ => none
 | k + 1, x3, x4, x5, x21, x109, x135000, x135001, x135002, x135003, x135004 => if x109 = true then ((bn.f k x3).bind fun t139 => (if t139 = true then (if x4 = 0 then (some (x5 == 1)) else (some false)) else (some false))) else (if x21 = 22 then (if x3.toList = ([] : List UInt8) then (if x4 = 0 then (some (x5 == 3)) else (some false)) else (some false)) else (if x21 = 23 then ((bn.f k x3).bind fun t140 => (if t140 = true then ((bn.f k x135002).bind fun t141 => (if t141 = true then (if x4 = 0 then (some (x5 == 1)) else (some false)) else (some false))) else (some false))) else (if x21 = 24 then (if x3.toList = ([] : List UInt8) then (if x4 ≥ 1 then (if x4 ≤ 99 then (some (x5 == 0)) else (some false)) else (some false)) else (some false)) else (if x21 = 26 then (if x3.toList = ([] : List UInt8) then (if x4 = 0 then (some (x5 == 2)) else (some false)) else (some false)) else (if x135000 = 27 then (if x3.toList = ([] : List UInt8) then (if x4 = 0 then (if x5 ≥ 0 then (some (decide (x5 ≤ 40))) else (some false)) else (some false)) else (some false)) else (some false))))))
end
def au.f (k : Nat) (a0_0 : Int) (a0_1 : ByteArray) (a0_2 : ByteArray) (a0_3 : Int) (a0_4 : Int) : Option (Bool) := if a0_0 = 23 then (au.j0 k a0_1 a0_3 a0_4 false a0_0 a0_1 a0_2 a0_3 a0_4) else (au.j0 k a0_1 a0_3 a0_4 (a0_2.toList != ([] : List UInt8)) a0_0 a0_1 a0_2 a0_3 a0_4)
theorem au.bI : ∀ k, (∀ y0 y1 y2 y3 y4 y5 y6 y7 y8, LeO (au.j0 k y0 y1 y2 y3 y4 y5 y6 y7 y8) (au.j0 (k + 1) y0 y1 y2 y3 y4 y5 y6 y7 y8)) ∧ (∀ y0 y1 y2 y3 y4 y5 y6 y7 y8 y9, LeO (au.j1 k y0 y1 y2 y3 y4 y5 y6 y7 y8 y9) (au.j1 (k + 1) y0 y1 y2 y3 y4 y5 y6 y7 y8 y9)) ∧ (∀ y0 y1 y2 y3 y4 y5 y6 y7 y8 y9, LeO (au.j2 k y0 y1 y2 y3 y4 y5 y6 y7 y8 y9) (au.j2 (k + 1) y0 y1 y2 y3 y4 y5 y6 y7 y8 y9)) ∧ (∀ y0 y1 y2 y3 y4 y5 y6 y7 y8 y9, LeO (au.j3 k y0 y1 y2 y3 y4 y5 y6 y7 y8 y9) (au.j3 (k + 1) y0 y1 y2 y3 y4 y5 y6 y7 y8 y9)) ∧ (∀ y0 y1 y2 y3 y4 y5 y6 y7 y8 y9, LeO (au.j4 k y0 y1 y2 y3 y4 y5 y6 y7 y8 y9) (au.j4 (k + 1) y0 y1 y2 y3 y4 y5 y6 y7 y8 y9)) ∧ (∀ y0 y1 y2 y3 y4 y5 y6 y7 y8 y9, LeO (au.j5 k y0 y1 y2 y3 y4 y5 y6 y7 y8 y9) (au.j5 (k + 1) y0 y1 y2 y3 y4 y5 y6 y7 y8 y9))
 | 0 => ⟨fun _ _ _ _ _ _ _ _ _ r h => by simp [au.j0] at h, fun _ _ _ _ _ _ _ _ _ _ r h => by simp [au.j1] at h, fun _ _ _ _ _ _ _ _ _ _ r h => by simp [au.j2] at h, fun _ _ _ _ _ _ _ _ _ _ r h => by simp [au.j3] at h, fun _ _ _ _ _ _ _ _ _ _ r h => by simp [au.j4] at h, fun _ _ _ _ _ _ _ _ _ _ r h => by simp [au.j5] at h⟩
 | k + 1 => by
  obtain ⟨ih0, ih1, ih2, ih3, ih4, ih5⟩ := au.bI k
  refine ⟨?_, ?_, ?_, ?_, ?_, ?_⟩
  ·intro y0 y1 y2 y3 y4 y5 y6 y7 y8
   unfold au.j0
   repeat' (with_reducible first | exact ih0 .. | exact ih1 .. | exact ih2 .. | exact ih3 .. | exact ih4 .. | exact ih5 .. | exact bC.mono .. | exact dO.mono .. | exact bn.mono .. | exact eO.mono .. | exact LeO.refl _ | exact LeO.none _ | refine LeO.ite ?_ ?_ | refine LeO.bind ?_ (fun _ => ?_))
  ·intro y0 y1 y2 y3 y4 y5 y6 y7 y8 y9
   unfold au.j1
   repeat' (with_reducible first | exact ih0 .. | exact ih1 .. | exact ih2 .. | exact ih3 .. | exact ih4 .. | exact ih5 .. | exact bC.mono .. | exact dO.mono .. | exact bn.mono .. | exact eO.mono .. | exact LeO.refl _ | exact LeO.none _ | refine LeO.ite ?_ ?_ | refine LeO.bind ?_ (fun _ => ?_))
  ·intro y0 y1 y2 y3 y4 y5 y6 y7 y8 y9
   unfold au.j2
   repeat' (with_reducible first | exact ih0 .. | exact ih1 .. | exact ih2 .. | exact ih3 .. | exact ih4 .. | exact ih5 .. | exact bC.mono .. | exact dO.mono .. | exact bn.mono .. | exact eO.mono .. | exact LeO.refl _ | exact LeO.none _ | refine LeO.ite ?_ ?_ | refine LeO.bind ?_ (fun _ => ?_))
  ·intro y0 y1 y2 y3 y4 y5 y6 y7 y8 y9
   unfold au.j3
   repeat' (with_reducible first | exact ih0 .. | exact ih1 .. | exact ih2 .. | exact ih3 .. | exact ih4 .. | exact ih5 .. | exact bC.mono .. | exact dO.mono .. | exact bn.mono .. | exact eO.mono .. | exact LeO.refl _ | exact LeO.none _ | refine LeO.ite ?_ ?_ | refine LeO.bind ?_ (fun _ => ?_))
  ·intro y0 y1 y2 y3 y4 y5 y6 y7 y8 y9
   unfold au.j4
   repeat' (with_reducible first | exact ih0 .. | exact ih1 .. | exact ih2 .. | exact ih3 .. | exact ih4 .. | exact ih5 .. | exact bC.mono .. | exact dO.mono .. | exact bn.mono .. | exact eO.mono .. | exact LeO.refl _ | exact LeO.none _ | refine LeO.ite ?_ ?_ | refine LeO.bind ?_ (fun _ => ?_))
  intro y0 y1 y2 y3 y4 y5 y6 y7 y8 y9
  unfold au.j5
  repeat' (with_reducible first | exact ih0 .. | exact ih1 .. | exact ih2 .. | exact ih3 .. | exact ih4 .. | exact ih5 .. | exact bC.mono .. | exact dO.mono .. | exact bn.mono .. | exact eO.mono .. | exact LeO.refl _ | exact LeO.none _ | refine LeO.ite ?_ ?_ | refine LeO.bind ?_ (fun _ => ?_))
theorem au.mono : ∀ a0 a1 a2 a3 a4 k, LeO (au.f k a0 a1 a2 a3 a4) (au.f (k + 1) a0 a1 a2 a3 a4) := by
 intro a0 a1 a2 a3 a4 k
 obtain ⟨ih0, ih1, ih2, ih3, ih4, ih5⟩ := au.bI k
 unfold au.f
 repeat' (with_reducible first | exact ih0 .. | exact ih1 .. | exact ih2 .. | exact ih3 .. | exact ih4 .. | exact ih5 .. | exact bC.mono .. | exact dO.mono .. | exact bn.mono .. | exact eO.mono .. | exact LeO.refl _ | exact LeO.none _ | refine LeO.ite ?_ ?_ | refine LeO.bind ?_ (fun _ => ?_))
set_option maxHeartbeats 8000000 in
set_option maxRecDepth 100000 in
theorem au.calls (k : Nat) (a0_0 : Int) (a0_1 : ByteArray) (a0_2 : ByteArray) (a0_3 : Int) (a0_4 : Int) (r : Bool) (w : World) (h : au.f k a0_0 a0_1 a0_2 a0_3 a0_4 = some r) :
  Calls Tryz.prog 76 #[.agg #[.int .i64 a0_0, .string a0_1, .string a0_2, .int .i64 a0_3, .int .i64 a0_4]] w fun e w' => e = .returned (.bool r) ∧ Below w.heap.size w w' := by
 have hu88 := Tryz.underlying88
 have HB := am (Below.refl w.heap.size w)
 have H := h
 clear h
 unfold au.f at H
 have Jl := am H; clear H
 go_enter Tryz.func76, Tryz.ntmps76
 go_upto_region 4 with (first | ((with_reducible refine g_ 1 ?_); refine bx 1 #[.int .i64 a0_0, .string a0_1, .string a0_2, .int .i64 a0_3, .int .i64 a0_4] 88 ?_; intro Cc hg w3 hbox hb; have Cb := am hbox; have Du := am (bsz hg : w.heap.size ≤ Cc); have Js := Du; replace HB := ho hb; clear hb hbox hg; have Z4 := dG Cb.out))
 (try simp only [Act.put, z1, z2, z3])
 go_cut [19] (fun v19 wc => ∃ (kq : Nat) (x19_1 : Bool), v19 = .bool x19_1 ∧ aa (au.j0 kq a0_1 a0_3 a0_4 x19_1 a0_0 a0_1 a0_2 a0_3 a0_4 = some r) ∧ aa (kq ≤ k) ∧ aa (wc.heap[Cc]? = some (.cells #[.int .i64 a0_0, .string a0_1, .string a0_2, .int .i64 a0_3, .int .i64 a0_4] 88 (0, 0))) ∧ aa (Below w.heap.size w wc))
 case first =>
  have H := Jl.out
  clear Jl
  revert H; refine iQ (fun Dc Jm H => ?_) fun c5 Dc Jm H => ?_
  ·(first | rw [Dc] | (simp only [bu, bv]; rw [Dc]) | skip)
   have H' := am H; clear H
   have Z6 := dG Cb.out
   go_wp2
   go_meet
   case rel => exact ⟨_, (false), rs, H', ⟨by first | omega | exact Nat.le_refl _⟩, ⟨bk Cb.out⟩, ⟨bl⟩⟩
  (first | rw [Dc] | (simp only [bu, bv]; rw [Dc]) | skip)
  have H' := am H; clear H
  have Z7 := dG Cb.out
  go_wp2
  go_meet
  case rel => exact ⟨_, ((a0_2.toList != ([] : List UInt8))), rs, H', ⟨by first | omega | exact Nat.le_refl _⟩, ⟨bk Cb.out⟩, ⟨bl⟩⟩
 case rest => as_aux_lemma =>
  clear Jl
  try clear Z4
  obtain ⟨kq, x19_1, rfl, HA, Cn, Cb, HB⟩ := hcut
  cases kq with
  | zero => exact absurd HA.out (by simp [au.j0])
  | succ kj1 =>
   have H := HA.out
   clear HA
   simp only [au.j0] at H
   replace H := iT H; rcases H with ⟨rfl, H⟩ | ⟨rfl, H⟩
   ·obtain rfl := Option.some.inj H
    go_wp2
    go_ret
    exact ⟨er, bl⟩
   have Jn := am H; clear H
   have Dv := dG Cb.out
   go_upto_if 22 with (fail)
   go_cut [22] (fun v22 wc => ∃ (kq : Nat) (x22_8 : Bool), v22 = .bool x22_8 ∧ aa (au.j1 kq a0_1 a0_3 a0_4 a0_0 x22_8 a0_0 a0_1 a0_2 a0_3 a0_4 = some r) ∧ aa (kq ≤ kj1) ∧ aa (wc.heap[Cc]? = some (.cells #[.int .i64 a0_0, .string a0_1, .string a0_2, .int .i64 a0_3, .int .i64 a0_4] 88 (0, 0))) ∧ aa (Below w.heap.size w wc))
   case first =>
    have H := Jn.out
    clear Jn
    revert H; refine iQ (fun Cd Dw H => ?_) fun Jy Cd Dw H => ?_
    ·(first | rw [Cd] | (simp only [bu, bv]; rw [Cd]) | skip)
     have H' := am H; clear H
     go_wp2
     go_meet
     case rel => exact ⟨_, ((a0_0 == 1)), rs, H', ⟨by have := Cn.out; first | omega | exact Nat.le_refl _⟩, ⟨bk Cb.out⟩, ⟨bl⟩⟩
    (first | rw [Cd] | (simp only [bu, bv]; rw [Cd]) | skip)
    revert H; refine iQ (fun Dx Dy H => ?_) fun Jz Dx Dy H => ?_
    ·have H' := am H; clear H
     go_wp2
     go_meet
     case rel => exact ⟨_, ((a0_0 == 2)), rs, H', ⟨by have := Cn.out; first | omega | exact Nat.le_refl _⟩, ⟨bk Cb.out⟩, ⟨bl⟩⟩
    revert H; refine iQ (fun Dz Ea H => ?_) fun Ka Dz Ea H => ?_
    ·have H' := am H; clear H
     go_wp2
     go_meet
     case rel => exact ⟨_, ((a0_0 == 3)), rs, H', ⟨by have := Cn.out; first | omega | exact Nat.le_refl _⟩, ⟨bk Cb.out⟩, ⟨bl⟩⟩
    revert H; refine iQ (fun Eb Ec H => ?_) fun Kb Eb Ec H => ?_
    ·have H' := am H; clear H
     go_wp2
     go_meet
     case rel => exact ⟨_, ((a0_0 == 4)), rs, H', ⟨by have := Cn.out; first | omega | exact Nat.le_refl _⟩, ⟨bk Cb.out⟩, ⟨bl⟩⟩
    have H' := am H; clear H
    go_wp2
    go_meet
    case rel => exact ⟨_, ((a0_0 == 5)), rs, H', ⟨by have := Cn.out; first | omega | exact Nat.le_refl _⟩, ⟨bk Cb.out⟩, ⟨bl⟩⟩
   case rest => as_aux_lemma =>
    clear Jn
    try clear Dv; try clear Z4
    obtain ⟨kq, x22_8, rfl, HA, Di, Cb, HB⟩ := hcut
    cases kq with
    | zero => exact absurd HA.out (by simp [au.j1])
    | succ kj8 =>
     have H := HA.out
     clear HA
     simp only [au.j1] at H
     replace H := iT H; rcases H with ⟨rfl, H⟩ | ⟨rfl, H⟩
     ·revert H; refine iL (fun Ed Ee Ef H => ?_) fun Ke Ed Ee Ef H => ?_
      ·revert H; refine iQ (fun Eg Eh H => ?_) fun Kf Eg Eh H => ?_
       ·revert H; refine bj fun t135 Ju H => ?_
        obtain rfl := Option.some.inj H
        have Kg := dG Cb.out
        go_wp2_with (first | (go_at_call 62; (with_reducible refine (bC.calls _ _ _ _ _ Ju.out).mono ?_); rintro e w' ⟨rfl, ⟨nd, rfl⟩⟩))
        go_ret
        exact ⟨er, bl⟩
       obtain rfl := Option.some.inj H
       go_wp2
       go_ret
       exact ⟨er, bl⟩
      obtain rfl := Option.some.inj H
      go_wp2
      go_ret
      exact ⟨er, bl⟩
     have Dn := am H; clear H
     go_upto_if 40 with (fail)
     go_cut [40] (fun v40 wc => ∃ (kq : Nat) (x40_19 : Bool), v40 = .bool x40_19 ∧ aa (au.j2 kq a0_1 a0_3 a0_4 a0_0 x40_19 a0_0 a0_1 a0_2 a0_3 a0_4 = some r) ∧ aa (kq ≤ kj8) ∧ aa (wc.heap[Cc]? = some (.cells #[.int .i64 a0_0, .string a0_1, .string a0_2, .int .i64 a0_3, .int .i64 a0_4] 88 (0, 0))) ∧ aa (Below w.heap.size w wc))
     case first =>
      have H := Dn.out
      clear Dn
      revert H; refine iQ (fun Ce Ei H => ?_) fun Kh Ce Ei H => ?_
      ·(first | rw [Ce] | (simp only [bu, bv]; rw [Ce]) | skip)
       have H' := am H; clear H
       go_wp2
       go_meet
       case rel => exact ⟨_, ((a0_0 == 6)), rs, H', ⟨by have := Cn.out; have := Di.out; first | omega | exact Nat.le_refl _⟩, ⟨bk Cb.out⟩, ⟨bl⟩⟩
      (first | rw [Ce] | (simp only [bu, bv]; rw [Ce]) | skip)
      have H' := am H; clear H
      go_wp2
      go_meet
      case rel => exact ⟨_, ((a0_0 == 7)), rs, H', ⟨by have := Cn.out; have := Di.out; first | omega | exact Nat.le_refl _⟩, ⟨bk Cb.out⟩, ⟨bl⟩⟩
     case rest => as_aux_lemma =>
      clear Dn
      try clear Dv; try clear Z4
      obtain ⟨kq, x40_19, rfl, HA, Cf, Cb, HB⟩ := hcut
      cases kq with
      | zero => exact absurd HA.out (by simp [au.j2])
      | succ kj19 =>
       have H := HA.out
       clear HA
       simp only [au.j2] at H
       replace H := iT H; rcases H with ⟨rfl, H⟩ | ⟨rfl, H⟩
       ·revert H; refine bj fun t136 Jo H => ?_
        replace H := iT H; rcases H with ⟨rfl, H⟩ | ⟨rfl, H⟩
        ·revert H; refine iQ (fun Ej Ek H => ?_) fun Ki Ej Ek H => ?_
         ·obtain rfl := Option.some.inj H
          go_wp2_with (first | ((with_reducible refine c_ 42 ?_); refine gc 42 (some 44) Tryz.func42 (bn.calls _ _ _ _ Jo.out) ?_; rintro e w26 ⟨rfl, hb⟩; refine ⟨_, rfl, ?_⟩; replace Cb := bo Cb hb; replace HB := ho hb; clear hb))
          go_ret
          exact ⟨er, bl⟩
         obtain rfl := Option.some.inj H
         go_wp2_with (first | ((with_reducible refine c_ 42 ?_); refine gc 42 (some 44) Tryz.func42 (bn.calls _ _ _ _ Jo.out) ?_; rintro e w27 ⟨rfl, hb⟩; refine ⟨_, rfl, ?_⟩; replace Cb := bo Cb hb; replace HB := ho hb; clear hb))
         go_ret
         exact ⟨er, bl⟩
        obtain rfl := Option.some.inj H
        go_wp2_with (first | ((with_reducible refine c_ 42 ?_); refine gc 42 (some 44) Tryz.func42 (bn.calls _ _ _ _ Jo.out) ?_; rintro e w28 ⟨rfl, hb⟩; refine ⟨_, rfl, ?_⟩; replace Cb := bo Cb hb; replace HB := ho hb; clear hb))
        go_ret
        exact ⟨er, bl⟩
       have Dp := am H; clear H
       go_upto_if 53 with (fail)
       go_cut [53] (fun v53 wc => ∃ (kq : Nat) (x53_28 : Bool), v53 = .bool x53_28 ∧ aa (au.j3 kq a0_1 a0_3 a0_4 a0_0 x53_28 a0_0 a0_1 a0_2 a0_3 a0_4 = some r) ∧ aa (kq ≤ kj19) ∧ aa (wc.heap[Cc]? = some (.cells #[.int .i64 a0_0, .string a0_1, .string a0_2, .int .i64 a0_3, .int .i64 a0_4] 88 (0, 0))) ∧ aa (Below w.heap.size w wc))
       case first =>
        have H := Dp.out
        clear Dp
        revert H; refine iQ (fun Ci Em H => ?_) fun Kj Ci Em H => ?_
        ·(first | rw [Ci] | (simp only [bu, bv]; rw [Ci]) | skip)
         have H' := am H; clear H
         go_wp2
         go_meet
         case rel => exact ⟨_, ((a0_0 == 8)), rs, H', ⟨by have := Cn.out; have := Di.out; have := Cf.out; first | omega | exact Nat.le_refl _⟩, ⟨bk Cb.out⟩, ⟨bl⟩⟩
        (first | rw [Ci] | (simp only [bu, bv]; rw [Ci]) | skip)
        revert H; refine iQ (fun En Eo H => ?_) fun Kk En Eo H => ?_
        ·have H' := am H; clear H
         go_wp2
         go_meet
         case rel => exact ⟨_, ((a0_0 == 9)), rs, H', ⟨by have := Cn.out; have := Di.out; have := Cf.out; first | omega | exact Nat.le_refl _⟩, ⟨bk Cb.out⟩, ⟨bl⟩⟩
        revert H; refine iQ (fun Ep Es H => ?_) fun Kl Ep Es H => ?_
        ·have H' := am H; clear H
         go_wp2
         go_meet
         case rel => exact ⟨_, ((a0_0 == 10)), rs, H', ⟨by have := Cn.out; have := Di.out; have := Cf.out; first | omega | exact Nat.le_refl _⟩, ⟨bk Cb.out⟩, ⟨bl⟩⟩
        have H' := am H; clear H
        go_wp2
        go_meet
        case rel => exact ⟨_, ((a0_0 == 11)), rs, H', ⟨by have := Cn.out; have := Di.out; have := Cf.out; first | omega | exact Nat.le_refl _⟩, ⟨bk Cb.out⟩, ⟨bl⟩⟩
       case rest => as_aux_lemma =>
        clear Dp
        try clear Dv; try clear Z4
        obtain ⟨kq, x53_28, rfl, HA, Dj, Cb, HB⟩ := hcut
        cases kq with
        | zero => exact absurd HA.out (by simp [au.j3])
        | succ kj28 =>
         have H := HA.out
         clear HA
         simp only [au.j3] at H
         replace H := iT H; rcases H with ⟨rfl, H⟩ | ⟨rfl, H⟩
         ·revert H; refine iL (fun Et Eu Ew H => ?_) fun Km Et Eu Ew H => ?_
          ·revert H; refine iQ (fun Ey Ez H => ?_) fun Kn Ey Ez H => ?_
           ·obtain rfl := Option.some.inj H
            go_wp2
            go_ret
            exact ⟨er, bl⟩
           obtain rfl := Option.some.inj H
           go_wp2
           go_ret
           exact ⟨er, bl⟩
          obtain rfl := Option.some.inj H
          go_wp2
          go_ret
          exact ⟨er, bl⟩
         revert H; refine iQ (fun Df Dh H => ?_) fun Jt Df Dh H => ?_
         ·revert H; refine bj fun t137 Jp H => ?_
          replace H := iT H; rcases H with ⟨rfl, H⟩ | ⟨rfl, H⟩
          ·revert H; refine iQ (fun Ga Gf H => ?_) fun Ko Ga Gf H => ?_
           ·obtain rfl := Option.some.inj H
            go_wp2_with (first | ((with_reducible refine c_ 84 ?_); refine gc 84 (some 71) Tryz.func84 (eO.calls _ _ _ _ Jp.out) ?_; rintro e w40 ⟨rfl, hb⟩; refine ⟨_, rfl, ?_⟩; replace Cb := bo Cb hb; replace HB := ho hb; clear hb))
            go_ret
            exact ⟨er, bl⟩
           obtain rfl := Option.some.inj H
           go_wp2_with (first | ((with_reducible refine c_ 84 ?_); refine gc 84 (some 71) Tryz.func84 (eO.calls _ _ _ _ Jp.out) ?_; rintro e w41 ⟨rfl, hb⟩; refine ⟨_, rfl, ?_⟩; replace Cb := bo Cb hb; replace HB := ho hb; clear hb))
           go_ret
           exact ⟨er, bl⟩
          obtain rfl := Option.some.inj H
          go_wp2_with (first | ((with_reducible refine c_ 84 ?_); refine gc 84 (some 71) Tryz.func84 (eO.calls _ _ _ _ Jp.out) ?_; rintro e w42 ⟨rfl, hb⟩; refine ⟨_, rfl, ?_⟩; replace Cb := bo Cb hb; replace HB := ho hb; clear hb))
          go_ret
          exact ⟨er, bl⟩
         have Dq := am H; clear H
         go_upto_if 80 with (fail)
         go_cut [80] (fun v80 wc => ∃ (kq : Nat) (x80_42 : Bool), v80 = .bool x80_42 ∧ aa (au.j4 kq a0_1 a0_3 a0_4 a0_0 x80_42 a0_0 a0_1 a0_2 a0_3 a0_4 = some r) ∧ aa (kq ≤ kj28) ∧ aa (wc.heap[Cc]? = some (.cells #[.int .i64 a0_0, .string a0_1, .string a0_2, .int .i64 a0_3, .int .i64 a0_4] 88 (0, 0))) ∧ aa (Below w.heap.size w wc))
         case first =>
          have H := Dq.out
          clear Dq
          revert H; refine iQ (fun Cj Gg H => ?_) fun Kp Cj Gg H => ?_
          ·(first | rw [Cj] | (simp only [bu, bv]; rw [Cj]) | skip)
           have H' := am H; clear H
           go_wp2
           go_meet
           case rel => exact ⟨_, ((a0_0 == 13)), rs, H', ⟨by have := Cn.out; have := Di.out; have := Cf.out; have := Dj.out; first | omega | exact Nat.le_refl _⟩, ⟨bk Cb.out⟩, ⟨bl⟩⟩
          (first | rw [Cj] | (simp only [bu, bv]; rw [Cj]) | skip)
          have H' := am H; clear H
          go_wp2
          go_meet
          case rel => exact ⟨_, ((a0_0 == 25)), rs, H', ⟨by have := Cn.out; have := Di.out; have := Cf.out; have := Dj.out; first | omega | exact Nat.le_refl _⟩, ⟨bk Cb.out⟩, ⟨bl⟩⟩
         case rest => as_aux_lemma =>
          clear Dq
          try clear Jt; try clear Df; try clear Dh; try clear Dv; try clear Z4
          obtain ⟨kq, x80_42, rfl, HA, Gh, Cb, HB⟩ := hcut
          cases kq with
          | zero => exact absurd HA.out (by simp [au.j4])
          | succ kj42 =>
           have H := HA.out
           clear HA
           simp only [au.j4] at H
           replace H := iT H; rcases H with ⟨rfl, H⟩ | ⟨rfl, H⟩
           ·revert H; refine iL (fun Gi Gj Gk H => ?_) fun Kq Gi Gj Gk H => ?_
            ·revert H; refine iQ (fun Gl Gm H => ?_) fun Kr Gl Gm H => ?_
             ·obtain rfl := Option.some.inj H
              go_wp2
              go_ret
              exact ⟨er, bl⟩
             obtain rfl := Option.some.inj H
             go_wp2
             go_ret
             exact ⟨er, bl⟩
            obtain rfl := Option.some.inj H
            go_wp2
            go_ret
            exact ⟨er, bl⟩
           revert H; refine iQ (fun Dk Dl H => ?_) fun Jv Dk Dl H => ?_
           ·revert H; refine bj fun t138 Jj H => ?_
            replace H := iT H; rcases H with ⟨rfl, H⟩ | ⟨rfl, H⟩
            ·revert H; refine iQ (fun Gn Gp H => ?_) fun Ks Gn Gp H => ?_
             ·revert H; refine iDb (fun Gq H => ?_) fun Gq H => ?_
              ·obtain rfl := Option.some.inj H
               go_wp2_with (first | ((with_reducible refine c_ 85 ?_); refine gc 85 (some 96) Tryz.func85 (dO.calls _ _ _ _ Jj.out) ?_; rintro e w53 ⟨rfl, hb⟩; refine ⟨_, rfl, ?_⟩; replace Cb := bo Cb hb; replace HB := ho hb; clear hb))
               go_ret
               exact ⟨er, bl⟩
              obtain rfl := Option.some.inj H
              go_wp2_with (first | ((with_reducible refine c_ 85 ?_); refine gc 85 (some 96) Tryz.func85 (dO.calls _ _ _ _ Jj.out) ?_; rintro e w54 ⟨rfl, hb⟩; refine ⟨_, rfl, ?_⟩; replace Cb := bo Cb hb; replace HB := ho hb; clear hb))
              go_ret
              exact ⟨er, bl⟩
             obtain rfl := Option.some.inj H
             go_wp2_with (first | ((with_reducible refine c_ 85 ?_); refine gc 85 (some 96) Tryz.func85 (dO.calls _ _ _ _ Jj.out) ?_; rintro e w55 ⟨rfl, hb⟩; refine ⟨_, rfl, ?_⟩; replace Cb := bo Cb hb; replace HB := ho hb; clear hb))
             go_ret
             exact ⟨er, bl⟩
            obtain rfl := Option.some.inj H
            go_wp2_with (first | ((with_reducible refine c_ 85 ?_); refine gc 85 (some 96) Tryz.func85 (dO.calls _ _ _ _ Jj.out) ?_; rintro e w56 ⟨rfl, hb⟩; refine ⟨_, rfl, ?_⟩; replace Cb := bo Cb hb; replace HB := ho hb; clear hb))
            go_ret
            exact ⟨er, bl⟩
           have Dt := am H; clear H
           go_upto_if 109 with (fail)
           go_cut [109] (fun v109 wc => ∃ (kq : Nat) (x109_56 : Bool), v109 = .bool x109_56 ∧ aa (au.j5 kq a0_1 a0_3 a0_4 a0_0 x109_56 a0_0 a0_1 a0_2 a0_3 a0_4 = some r) ∧ aa (kq ≤ kj42) ∧ aa (wc.heap[Cc]? = some (.cells #[.int .i64 a0_0, .string a0_1, .string a0_2, .int .i64 a0_3, .int .i64 a0_4] 88 (0, 0))) ∧ aa (Below w.heap.size w wc))
           case first =>
            have H := Dt.out
            clear Dt
            revert H; refine iQ (fun Cm Gs H => ?_) fun Kt Cm Gs H => ?_
            ·(first | rw [Cm] | (simp only [bu, bv]; rw [Cm]) | skip)
             have H' := am H; clear H
             go_wp2
             go_meet
             case rel => exact ⟨_, ((a0_0 == 20)), rs, H', ⟨by have := Cn.out; have := Di.out; have := Cf.out; have := Dj.out; have := Gh.out; first | omega | exact Nat.le_refl _⟩, ⟨bk Cb.out⟩, ⟨bl⟩⟩
            (first | rw [Cm] | (simp only [bu, bv]; rw [Cm]) | skip)
            have H' := am H; clear H
            go_wp2
            go_meet
            case rel => exact ⟨_, ((a0_0 == 21)), rs, H', ⟨by have := Cn.out; have := Di.out; have := Cf.out; have := Dj.out; have := Gh.out; first | omega | exact Nat.le_refl _⟩, ⟨bk Cb.out⟩, ⟨bl⟩⟩
           case rest => as_aux_lemma =>
            clear Dt
            try clear Jt; try clear Df; try clear Dh; try clear Jv; try clear Dk; try clear Dl; try clear Dv; try clear Z4
            obtain ⟨kq, x109_56, rfl, HA, Jw, Cb, HB⟩ := hcut
            cases kq with
            | zero => exact absurd HA.out (by simp [au.j5])
            | succ kj56 =>
             have H := HA.out
             clear HA
             simp only [au.j5] at H
             replace H := iT H; rcases H with ⟨rfl, H⟩ | ⟨rfl, H⟩
             ·revert H; refine bj fun t139 Jq H => ?_
              replace H := iT H; rcases H with ⟨rfl, H⟩ | ⟨rfl, H⟩
              ·revert H; refine iQ (fun Gu Gv H => ?_) fun Ku Gu Gv H => ?_
               ·obtain rfl := Option.some.inj H
                go_wp2_with (first | ((with_reducible refine c_ 42 ?_); refine gc 42 (some 113) Tryz.func42 (bn.calls _ _ _ _ Jq.out) ?_; rintro e w63 ⟨rfl, hb⟩; refine ⟨_, rfl, ?_⟩; replace Cb := bo Cb hb; replace HB := ho hb; clear hb))
                go_ret
                exact ⟨er, bl⟩
               obtain rfl := Option.some.inj H
               go_wp2_with (first | ((with_reducible refine c_ 42 ?_); refine gc 42 (some 113) Tryz.func42 (bn.calls _ _ _ _ Jq.out) ?_; rintro e w64 ⟨rfl, hb⟩; refine ⟨_, rfl, ?_⟩; replace Cb := bo Cb hb; replace HB := ho hb; clear hb))
               go_ret
               exact ⟨er, bl⟩
              obtain rfl := Option.some.inj H
              go_wp2_with (first | ((with_reducible refine c_ 42 ?_); refine gc 42 (some 113) Tryz.func42 (bn.calls _ _ _ _ Jq.out) ?_; rintro e w65 ⟨rfl, hb⟩; refine ⟨_, rfl, ?_⟩; replace Cb := bo Cb hb; replace HB := ho hb; clear hb))
              go_ret
              exact ⟨er, bl⟩
             revert H; refine iQ (fun Gw Gx H => ?_) fun Kv Gw Gx H => ?_
             ·revert H; refine iL (fun Gy Gz Ia H => ?_) fun Kw Gy Gz Ia H => ?_
              ·revert H; refine iQ (fun Ib Ic H => ?_) fun Kx Ib Ic H => ?_
               ·obtain rfl := Option.some.inj H
                go_wp2
                go_ret
                exact ⟨er, bl⟩
               obtain rfl := Option.some.inj H
               go_wp2
               go_ret
               exact ⟨er, bl⟩
              obtain rfl := Option.some.inj H
              go_wp2
              go_ret
              exact ⟨er, bl⟩
             revert H; refine iQ (fun Ie Ig H => ?_) fun Ky Ie Ig H => ?_
             ·revert H; refine bj fun t140 Jk H => ?_
              replace H := iT H; rcases H with ⟨rfl, H⟩ | ⟨rfl, H⟩
              ·revert H; refine bj fun t141 Jr H => ?_
               replace H := iT H; rcases H with ⟨rfl, H⟩ | ⟨rfl, H⟩
               ·revert H; refine iQ (fun Ih Ii H => ?_) fun Kz Ih Ii H => ?_
                ·obtain rfl := Option.some.inj H
                 go_wp2_with (first | ((with_reducible refine c_ 42 ?_); refine gc 42 (some 137) Tryz.func42 (bn.calls _ _ _ _ Jk.out) ?_; rintro e w75 ⟨rfl, hb⟩; refine ⟨_, rfl, ?_⟩; replace Cb := bo Cb hb; replace HB := ho hb; clear hb; have La := dG Cb.out) | (go_at_call 42; (with_reducible refine (bn.calls _ _ _ _ Jr.out).mono ?_); rintro e w77 ⟨rfl, hb⟩; replace Cb := bo Cb hb; replace HB := ho hb; clear hb))
                 go_ret
                 exact ⟨er, bl⟩
                obtain rfl := Option.some.inj H
                go_wp2_with (first | ((with_reducible refine c_ 42 ?_); refine gc 42 (some 137) Tryz.func42 (bn.calls _ _ _ _ Jk.out) ?_; rintro e w78 ⟨rfl, hb⟩; refine ⟨_, rfl, ?_⟩; replace Cb := bo Cb hb; replace HB := ho hb; clear hb; have Lc := dG Cb.out) | (go_at_call 42; (with_reducible refine (bn.calls _ _ _ _ Jr.out).mono ?_); rintro e w80 ⟨rfl, hb⟩; replace Cb := bo Cb hb; replace HB := ho hb; clear hb))
                go_ret
                exact ⟨er, bl⟩
               obtain rfl := Option.some.inj H
               go_wp2_with (first | ((with_reducible refine c_ 42 ?_); refine gc 42 (some 137) Tryz.func42 (bn.calls _ _ _ _ Jk.out) ?_; rintro e w81 ⟨rfl, hb⟩; refine ⟨_, rfl, ?_⟩; replace Cb := bo Cb hb; replace HB := ho hb; clear hb; have Ld := dG Cb.out) | (go_at_call 42; (with_reducible refine (bn.calls _ _ _ _ Jr.out).mono ?_); rintro e w83 ⟨rfl, hb⟩; replace Cb := bo Cb hb; replace HB := ho hb; clear hb))
               go_ret
               exact ⟨er, bl⟩
              obtain rfl := Option.some.inj H
              go_wp2_with (first | ((with_reducible refine c_ 42 ?_); refine gc 42 (some 137) Tryz.func42 (bn.calls _ _ _ _ Jk.out) ?_; rintro e w84 ⟨rfl, hb⟩; refine ⟨_, rfl, ?_⟩; replace Cb := bo Cb hb; replace HB := ho hb; clear hb))
              go_ret
              exact ⟨er, bl⟩
             revert H; refine iQ (fun Ij Ik H => ?_) fun Lh Ij Ik H => ?_
             ·revert H; refine iL (fun Il Im Io H => ?_) fun Lj Il Im Io H => ?_
              ·revert H; refine iDb (fun Ip H => ?_) fun Ip H => ?_
               ·revert H; refine iDb (fun Iq H => ?_) fun Iq H => ?_
                ·obtain rfl := Option.some.inj H
                 go_wp2
                 go_ret
                 exact ⟨er, bl⟩
                obtain rfl := Option.some.inj H
                go_wp2
                go_ret
                exact ⟨er, bl⟩
               obtain rfl := Option.some.inj H
               go_wp2
               go_ret
               exact ⟨er, bl⟩
              obtain rfl := Option.some.inj H
              go_wp2
              go_ret
              exact ⟨er, bl⟩
             revert H; refine iQ (fun Ir Iu H => ?_) fun Ll Ir Iu H => ?_
             ·revert H; refine iL (fun Iw Ix Iy H => ?_) fun Lm Iw Ix Iy H => ?_
              ·revert H; refine iQ (fun Iz Ja H => ?_) fun Ln Iz Ja H => ?_
               ·obtain rfl := Option.some.inj H
                go_wp2
                go_ret
                exact ⟨er, bl⟩
               obtain rfl := Option.some.inj H
               go_wp2
               go_ret
               exact ⟨er, bl⟩
              obtain rfl := Option.some.inj H
              go_wp2
              go_ret
              exact ⟨er, bl⟩
             revert H; refine iQ (fun Jb Jc H => ?_) fun Lp Jb Jc H => ?_
             ·revert H; refine iL (fun Jd Je Jf H => ?_) fun Lq Jd Je Jf H => ?_
              ·revert H; refine iQ (fun Jg Jh H => ?_) fun Lr Jg Jh H => ?_
               ·revert H; refine iDb (fun Ji H => ?_) fun Ji H => ?_
                ·obtain rfl := Option.some.inj H
                 have Ls := dG Cb.out
                 go_wp2
                 go_ret
                 exact ⟨er, bl⟩
                obtain rfl := Option.some.inj H
                have Lu := dG Cb.out
                go_wp2
                go_ret
                exact ⟨er, bl⟩
               obtain rfl := Option.some.inj H
               have Ly := dG Cb.out
               go_wp2
               go_ret
               exact ⟨er, bl⟩
              obtain rfl := Option.some.inj H
              have Ma := dG Cb.out
              go_wp2
              go_ret
              exact ⟨er, bl⟩
             obtain rfl := Option.some.inj H
             have Jx := dG Cb.out
             go_wp2
             go_ret
             exact ⟨er, bl⟩
def iN.f (a0 : Int) (a1 : Int) : Option (Bool) := if a1 = 1 then (some (decide (a0 < 20))) else (if a1 = 2 then (if a0 ≥ 20 then (if a0 < 27 then (some true) else (some (a0 == 27))) else (some (a0 == 27))) else (some (a0 == 27)))
theorem iN.calls (a0 : Int) (a1 : Int) (r : Bool) (w : World) (h : iN.f a0 a1 = some r) :
  Calls Tryz.prog 77 #[.int .i64 a0, .int .i64 a1] w fun e w' => e = .returned (.bool r) ∧ eT w w' := by
 have H := h
 clear h
 unfold iN.f at H
 revert H; refine iQ (fun Ec Ed H => ?_) fun c3 Ec Ed H => ?_
 ·obtain rfl := Option.some.inj H
  go_enter Tryz.func77, Tryz.ntmps77
  go_wp2
  go_ret
  exact ⟨rs, dr⟩
 revert H; refine iQ (fun Ee Ef H => ?_) fun c4 Ee Ef H => ?_
 ·revert H; refine iDb (fun Eg H => ?_) fun Eg H => ?_
  ·revert H; refine iDb (fun Dh H => ?_) fun Dh H => ?_
   ·obtain rfl := Option.some.inj H
    go_enter Tryz.func77, Tryz.ntmps77
    go_wp2
    go_ret
    exact ⟨rs, dr⟩
   obtain rfl := Option.some.inj H
   go_enter Tryz.func77, Tryz.ntmps77
   go_wp2
   go_ret
   exact ⟨rs, dr⟩
  obtain rfl := Option.some.inj H
  go_enter Tryz.func77, Tryz.ntmps77
  go_wp2
  go_ret
  exact ⟨rs, dr⟩
 obtain rfl := Option.some.inj H
 go_enter Tryz.func77, Tryz.ntmps77
 go_wp2
 go_ret
 exact ⟨rs, dr⟩
def gV.f (a0 : Int) (a1 : Int) : Option (Int) := if a0 = 27 then (some 2) else (if a0 = 22 then (if a1 > 0 then (some 3) else (if a0 = 26 then (some 1) else (some 1))) else (if a0 = 26 then (if a1 > 0 then (some 3) else (some 1)) else (some 1)))
theorem gV.calls (a0 : Int) (a1 : Int) (r : Int) (w : World) (h : gV.f a0 a1 = some r) :
  Calls Tryz.prog 78 #[.int .i64 a0, .int .i64 a1] w fun e w' => e = .returned (.int .i64 r) ∧ eT w w' := by
 have H := h
 clear h
 unfold gV.f at H
 revert H; refine iQ (fun Ec Ed H => ?_) fun c3 Ec Ed H => ?_
 ·obtain rfl := Option.some.inj H
  go_enter Tryz.func78, Tryz.ntmps78
  go_wp2
  go_ret
  exact ⟨rs, dr⟩
 revert H; refine iQ (fun Ee Ef H => ?_) fun c4 Ee Ef H => ?_
 ·revert H; refine iDb (fun Eg H => ?_) fun Eg H => ?_
  ·obtain rfl := Option.some.inj H
   go_enter Tryz.func78, Tryz.ntmps78
   go_wp2
   go_ret
   exact ⟨rs, dr⟩
  revert H; refine iQ (fun Dh Ew H => ?_) fun c6 Dh Ew H => ?_
  ·obtain rfl := Option.some.inj H
   go_enter Tryz.func78, Tryz.ntmps78
   go_wp2
   go_ret
   exact ⟨rs, dr⟩
  obtain rfl := Option.some.inj H
  go_enter Tryz.func78, Tryz.ntmps78
  go_wp2
  go_ret
  exact ⟨rs, dr⟩
 revert H; refine iQ (fun Eh Ey H => ?_) fun c7 Eh Ey H => ?_
 ·revert H; refine iDb (fun Eo H => ?_) fun Eo H => ?_
  ·obtain rfl := Option.some.inj H
   go_enter Tryz.func78, Tryz.ntmps78
   go_wp2
   go_ret
   exact ⟨rs, dr⟩
  obtain rfl := Option.some.inj H
  go_enter Tryz.func78, Tryz.ntmps78
  go_wp2
  go_ret
  exact ⟨rs, dr⟩
 obtain rfl := Option.some.inj H
 go_enter Tryz.func78, Tryz.ntmps78
 go_wp2
 go_ret
 exact ⟨rs, dr⟩
mutual
def aM.j0 : Nat → List (S88) → Int → Int → Bool → Option (Int)
 | 0, _, _, _, _ => none
 | k + 1, x0, x1, x3, x36 => if x36 = true then (some (-1)) else (if 0 ≤ x1 then (if x1 < (x0.length : Int) then (aM.l0 k x0 (wrap64 (x1 + 1)) x3 0 ((av x0 x1).f0) ((av x0 x1).f1) ((av x0 x1).f2) ((av x0 x1).f3) ((av x0 x1).f4)) else (none)) else (none))
def aM.l0 : Nat → List (S88) → Int → Int → Int → Int → ByteArray → ByteArray → Int → Int → Option (Int)
 | 0, _, _, _, _, _, _, _, _, _ => none
 | k + 1, x0, x1, x3, x10, x148000, x148001, x148002, x148003, x148004 => if x10 < x148004 then (aM.j2 k x0 x1 x3 x10 (decide (x1 ≥ 0)) x148000 x148001 x148002 x148003 x148004) else (aM.j2 k x0 x1 x3 x10 false x148000 x148001 x148002 x148003 x148004)
def aM.j2 : Nat → List (S88) → Int → Int → Int → Bool → Int → ByteArray → ByteArray → Int → Int → Option (Int)
 | 0, _, _, _, _, _, _, _, _, _, _ => none
 | k + 1, x0, x1, x3, x10, x50, x148000, x148001, x148002, x148003, x148004 => if x50 = true then ((gV.f x148000 x10).bind fun t148 => ((aM.f k x0 x1 t148 (wrap64 (x3 + 1))).bind fun t149 => (aM.l0 k x0 t149 x3 (wrap64 (x10 + 1)) x148000 x148001 x148002 x148003 x148004))) else (some x1)
def aM.f : Nat → List (S88) → Int → Int → Int → Option (Int)
 | 0, _, _, _, _ => none
 | k + 1, l0, a1, a2, a3 => if a1 ≥ (l0.length : Int) then (aM.j0 k l0 a1 a3 true) else (if a3 > 20 then (aM.j0 k l0 a1 a3 true) else (if 0 ≤ a1 then (if a1 < (l0.length : Int) then ((au.f k ((av l0 a1).f0) ((av l0 a1).f1) ((av l0 a1).f2) ((av l0 a1).f3) ((av l0 a1).f4)).bind fun t143 => (if t143 = true then ((iN.f ((av l0 a1).f0) a2).bind fun t145 => (aM.j0 k l0 a1 a3 (!t145))) else (aM.j0 k l0 a1 a3 true))) else (none)) else (none)))
end
theorem aM.bI : ∀ k, (∀ y0 y1 y2 y3, LeO (aM.f k y0 y1 y2 y3) (aM.f (k + 1) y0 y1 y2 y3)) ∧ (∀ y0 y1 y2 y3, LeO (aM.j0 k y0 y1 y2 y3) (aM.j0 (k + 1) y0 y1 y2 y3)) ∧ (∀ y0 y1 y2 y3 y4 y5 y6 y7 y8, LeO (aM.l0 k y0 y1 y2 y3 y4 y5 y6 y7 y8) (aM.l0 (k + 1) y0 y1 y2 y3 y4 y5 y6 y7 y8)) ∧ (∀ y0 y1 y2 y3 y4 y5 y6 y7 y8 y9, LeO (aM.j2 k y0 y1 y2 y3 y4 y5 y6 y7 y8 y9) (aM.j2 (k + 1) y0 y1 y2 y3 y4 y5 y6 y7 y8 y9))
 | 0 => ⟨fun _ _ _ _ r h => by simp [aM.f] at h, fun _ _ _ _ r h => by simp [aM.j0] at h, fun _ _ _ _ _ _ _ _ _ r h => by simp [aM.l0] at h, fun _ _ _ _ _ _ _ _ _ _ r h => by simp [aM.j2] at h⟩
 | k + 1 => by
  obtain ⟨ih0, ih1, ih2, ih3⟩ := aM.bI k
  refine ⟨?_, ?_, ?_, ?_⟩
  ·intro y0 y1 y2 y3
   unfold aM.f
   repeat' (with_reducible first | exact ih0 .. | exact ih1 .. | exact ih2 .. | exact ih3 .. | exact au.mono .. | exact LeO.refl _ | exact LeO.none _ | refine LeO.ite ?_ ?_ | refine LeO.bind ?_ (fun _ => ?_))
  ·intro y0 y1 y2 y3
   unfold aM.j0
   repeat' (with_reducible first | exact ih0 .. | exact ih1 .. | exact ih2 .. | exact ih3 .. | exact au.mono .. | exact LeO.refl _ | exact LeO.none _ | refine LeO.ite ?_ ?_ | refine LeO.bind ?_ (fun _ => ?_))
  ·intro y0 y1 y2 y3 y4 y5 y6 y7 y8
   unfold aM.l0
   repeat' (with_reducible first | exact ih0 .. | exact ih1 .. | exact ih2 .. | exact ih3 .. | exact au.mono .. | exact LeO.refl _ | exact LeO.none _ | refine LeO.ite ?_ ?_ | refine LeO.bind ?_ (fun _ => ?_))
  intro y0 y1 y2 y3 y4 y5 y6 y7 y8 y9
  unfold aM.j2
  repeat' (with_reducible first | exact ih0 .. | exact ih1 .. | exact ih2 .. | exact ih3 .. | exact au.mono .. | exact LeO.refl _ | exact LeO.none _ | refine LeO.ite ?_ ?_ | refine LeO.bind ?_ (fun _ => ?_))
theorem aM.mono : ∀ a0 a1 a2 a3 k, LeO (aM.f k a0 a1 a2 a3) (aM.f (k + 1) a0 a1 a2 a3) := by
 intro a0 a1 a2 a3 k
 obtain ⟨ih0, ih1, ih2, ih3⟩ := aM.bI k
 exact ih0 a0 a1 a2 a3
theorem aM.calls (k : Nat) : ∀ (A0 : Option Addr) (c0 : Nat) (l0 : List (S88)) (a1 : Int) (a2 : Int) (a3 : Int) (r : Int) (w : World) (hr0 : Kd.C k88 w A0 l0.length l0) (hc0 : l0.length ≤ c0) (h : aM.f k l0 a1 a2 a3 = some r),
  Calls Tryz.prog 63 #[.slice A0 l0.length c0, .int .i64 a1, .int .i64 a2, .int .i64 a3] w fun e w' => e = .returned (.int .i64 r) ∧ Below w.heap.size w w' := by
 induction k using Nat.strongRecOn with
 | _ k ih =>
 intro A0 c0 l0 a1 a2 a3 r w hr0 hc0 h
 cases k with
 | zero => exact absurd h (by simp [aM.f])
 | succ k =>
 simp only [aM.f] at h
 have hu88 := Tryz.underlying88
 have Ei := am hr0
 have Ez := am hc0
 clear hr0 hc0
 have HB := am (Below.refl w.heap.size w)
 have H := h
 clear h
 have Ga := am H; clear H
 go_enter Tryz.func63, Tryz.ntmps63
 go_upto_region 1 with (fail)
 go_cut [36] (fun v36 wc => ∃ (kq : Nat) (x36_4 : Bool), v36 = .bool x36_4 ∧ aa (aM.j0 kq l0 a1 a3 x36_4 = some r) ∧ aa (kq ≤ k) ∧ aa (Below w.heap.size w wc))
 case first =>
  have H := Ga.out
  clear Ga
  revert H; refine iDb (fun Dh H => ?_) fun Dh H => ?_
  ·(first | rw [Dh] | (simp only [bu, bv]; rw [Dh]) | skip)
   have H' := am H; clear H
   go_wp2
   go_meet
   case rel => exact ⟨_, (true), rs, H', ⟨by first | omega | exact Nat.le_refl _⟩, ⟨bl⟩⟩
  (first | rw [Dh] | (simp only [bu, bv]; rw [Dh]) | skip)
  revert H; refine iDb (fun Eh H => ?_) fun Eh H => ?_
  ·have H' := am H; clear H
   go_wp2
   go_meet
   case rel => exact ⟨_, (true), rs, H', ⟨by first | omega | exact Nat.le_refl _⟩, ⟨bl⟩⟩
  revert H; refine i1 fun Eo H => ?_
  revert H; refine i1 fun Gl H => ?_
  revert H; refine bj fun t143 Gh H => ?_
  replace H := iT H; rcases H with ⟨rfl, H⟩ | ⟨rfl, H⟩
  ·revert H; refine bj fun t145 Gm H => ?_
   have H' := am H; clear H
   have Dj : 0 ≤ (a1 : Int) := ode
   have Dk : a1 < (l0.length : Int) := ode
   obtain ⟨Dz, e142, Cc, Cd, Ce, Cf, Ci⟩ := ko Ei.out a1 Dj Dk
   cases e142
   obtain ⟨Cc, Cd, Ce, Cf, Ci⟩ := hb5 HB.out Cc Cd Ce Cf Ci
   replace Dj := eq_true Dj
   replace Dk := eq_true Dk
   go_wp2_with (first | (go_at_call 76; (with_reducible refine (au.calls _ _ _ _ _ _ _ _ Gh.out).mono ?_); rintro e w13 ⟨rfl, hb⟩; replace HB := ho hb; clear hb; have Ej : 0 ≤ (a1 : Int) := ode; have Ek : a1 < (l0.length : Int) := ode; obtain ⟨Ep, e144, Dl, Dn, Dp, Dq, Dt⟩ := ko Ei.out a1 Ej Ek; obtain rfl : Dz = Ep := (by injection e144); replace Dl := hbc HB.out Dl; replace Dn := hbc HB.out Dn; replace Dp := hbc HB.out Dp; replace Dq := hbc HB.out Dq; replace Dt := hbc HB.out Dt; replace Ej := eq_true Ej; replace Ek := eq_true Ek) | (go_at_call 77; (with_reducible refine (iN.calls _ _ _ _ Gm.out).mono ?_); rintro e w' ⟨rfl, ⟨nd, rfl⟩⟩))
   go_meet
   case rel => exact ⟨_, (!t145), rs, H', ⟨by first | omega | exact Nat.le_refl _⟩, ⟨bl⟩⟩
  have H' := am H; clear H
  have Dj : 0 ≤ (a1 : Int) := ode
  have Dk : a1 < (l0.length : Int) := ode
  obtain ⟨Dz, e142, Cc, Cd, Ce, Cf, Ci⟩ := ko Ei.out a1 Dj Dk
  cases e142
  obtain ⟨Cc, Cd, Ce, Cf, Ci⟩ := hb5 HB.out Cc Cd Ce Cf Ci
  replace Dj := eq_true Dj
  replace Dk := eq_true Dk
  go_wp2_with (first | (go_at_call 76; (with_reducible refine (au.calls _ _ _ _ _ _ _ _ Gh.out).mono ?_); rintro e w14 ⟨rfl, hb⟩; replace HB := ho hb; clear hb))
  go_meet
  case rel => exact ⟨_, (true), rs, H', ⟨by first | omega | exact Nat.le_refl _⟩, ⟨bl⟩⟩
 case rest =>
  clear Ga
  obtain ⟨kq, x36_4, rfl, HA, Es, HB⟩ := hcut
  cases kq with
  | zero => exact absurd HA.out (by simp [aM.j0])
  | succ kj4 =>
   have H := HA.out
   clear HA
   simp only [aM.j0] at H
   replace H := iT H; rcases H with ⟨rfl, H⟩ | ⟨rfl, H⟩
   ·obtain rfl := Option.some.inj H
    go_wp2
    go_ret
    exact ⟨er, bl⟩
   revert H; refine i1 fun Ea H => ?_
   revert H; refine i1 fun Eb H => ?_
   have H' := am H; clear H
   have Du : 0 ≤ (a1 : Int) := ode
   have Dv : a1 < (l0.length : Int) := ode
   obtain ⟨Gi, e146, Cj, Cm, Cn, Dc, Df⟩ := ko Ei.out a1 Du Dv
   cases e146
   obtain ⟨Cj, Cm, Cn, Dc, Df⟩ := hb5 HB.out Cj Cm Cn Dc Df
   replace Du := eq_true Du
   replace Dv := eq_true Dv
   go_wp2_with (first | ((with_reducible refine g_ 9 ?_); refine bx 9 #[.int .i64 0, .string (⟨#[]⟩ : ByteArray), .string (⟨#[]⟩ : ByteArray), .int .i64 0, .int .i64 0] 88 ?_; intro Dw hg w18 hbox hb; have Cb := am hbox; have Et := am (bsz hg : w.heap.size ≤ Dw); have Gj := Et; replace HB := ho hb; clear hb hbox hg; have Gk := dG Cb.out))
   go_loopg [1, 10] kj4 (fun kq v1 v10 w' => ∃ (x1_2 : Int) (x10_2 : Int), v1 = .int .i64 x1_2 ∧ v10 = .int .i64 x10_2 ∧ aa (aM.l0 kq l0 x1_2 a3 x10_2 ((av l0 a1).f0) ((av l0 a1).f1) ((av l0 a1).f2) ((av l0 a1).f3) ((av l0 a1).f4) = some r) ∧ aa (kq ≤ kj4) ∧ aa (w'.heap[Dw]? = some (.cells #[.int .i64 ((av l0 a1).f0), .string ((av l0 a1).f1), .string ((av l0 a1).f2), .int .i64 ((av l0 a1).f3), .int .i64 ((av l0 a1).f4)] 88 (0, 0))) ∧ aa (Below w.heap.size w w'))
   case atStart => exact ⟨(wrap64 (a1 + 1)), (0), rs, rs, H', ⟨Nat.le_refl _⟩, ⟨bp Cb.out⟩, ⟨bl⟩⟩
   case round =>
    clear H'
    try clear Ea; try clear Eb; try clear Gk; try clear Cj; try clear Cm; try clear Cn; try clear Dc; try clear Df; try clear Du; try clear Dv
    obtain ⟨x1_2, x10_2, rfl, rfl, HA, Eu, Cb, HB⟩ := hrel
    cases gk with
    | zero => exact absurd HA.out (by simp [aM.l0])
    | succ k2 =>
     have H := HA.out
     clear HA
     simp only [aM.l0] at H
     have Em := am H; clear H
     go_upto_region 6 with (fail)
     go_cut [50] (fun v50 wc => ∃ (kq : Nat) (x50_19 : Bool), v50 = .bool x50_19 ∧ aa (aM.j2 kq l0 x1_2 a3 x10_2 x50_19 ((av l0 a1).f0) ((av l0 a1).f1) ((av l0 a1).f2) ((av l0 a1).f3) ((av l0 a1).f4) = some r) ∧ aa (kq ≤ k2) ∧ aa (wc.heap[Dw]? = some (.cells #[.int .i64 ((av l0 a1).f0), .string ((av l0 a1).f1), .string ((av l0 a1).f2), .int .i64 ((av l0 a1).f3), .int .i64 ((av l0 a1).f4)] 88 (0, 0))) ∧ aa (Below w.heap.size w wc))
     case first =>
      have H := Em.out
      clear Em
      revert H; refine iDb (fun Di H => ?_) fun Di H => ?_
      ·(first | rw [Di] | (simp only [bu, bv]; rw [Di]) | skip)
       have H' := am H; clear H
       have Gq := dG Cb.out
       go_wp2
       go_meet
       case rel => exact ⟨_, (decide (x1_2 ≥ 0)), rs, H', ⟨by have := Es.out; have := Eu.out; first | omega | exact Nat.le_refl _⟩, ⟨bk Cb.out⟩, ⟨bl⟩⟩
      (first | rw [Di] | (simp only [bu, bv]; rw [Di]) | skip)
      have H' := am H; clear H
      have Gs := dG Cb.out
      go_wp2
      go_meet
      case rel => exact ⟨_, (false), rs, H', ⟨by have := Es.out; have := Eu.out; first | omega | exact Nat.le_refl _⟩, ⟨bk Cb.out⟩, ⟨bl⟩⟩
     case rest =>
      clear Em
      try clear Ea; try clear Eb; try clear Gk; try clear Cj; try clear Cm; try clear Cn; try clear Dc; try clear Df; try clear Du; try clear Dv
      obtain ⟨kq, x50_19, rfl, HA, En, Cb, HB⟩ := hcut
      cases kq with
      | zero => exact absurd HA.out (by simp [aM.j2])
      | succ kj19 =>
       have H := HA.out
       clear HA
       simp only [aM.j2] at H
       replace H := iT H; rcases H with ⟨rfl, H⟩ | ⟨rfl, H⟩
       ·revert H; refine bj fun t148 Gn H => ?_
        revert H; refine bj fun t149 Gp H => ?_
        have H' := am H; clear H
        have Gu := dG Cb.out
        go_wp2_with (first | ((with_reducible refine c_ 78 ?_); refine gc 78 (some 58) Tryz.func78 (gV.calls _ _ _ _ Gn.out) ?_; rintro e w' ⟨rfl, ⟨nd, rfl⟩⟩; refine ⟨_, rfl, ?_⟩) | ((with_reducible refine c_ 63 ?_); refine gc 63 (some 61) Tryz.func63 (ih kj19 (by have := Es.out; have := Eu.out; have := En.out; omega) _ _ l0 x1_2 t148 (wrap64 (a3 + 1)) t149 _ ?Dx ?Dy Gp.out) ?_; (case Dx => exact Kd.dK Ei.out bl); (case Dy => exact Ez.out); rintro e w28 ⟨rfl, hb⟩; refine ⟨_, rfl, ?_⟩; replace Cb := bo Cb hb; replace HB := ho hb; clear hb))
        go_roundg kj19
        case measure => have := Es.out; have := Eu.out; have := En.out; omega
        case rel => exact ⟨(t149), (wrap64 (x10_2 + 1)), rs, rs, H', ⟨by have := Es.out; have := Eu.out; have := En.out; omega⟩, ⟨bk Cb.out⟩, ⟨bl⟩⟩
       obtain rfl := Option.some.inj H
       go_wp2
       go_ret
       exact ⟨er, bl⟩
def cz.f (k : Nat) (l0 : List (S88)) : Option (Bool) := if (l0.length : Int) ≤ 150 then ((aM.f k l0 0 3 1).bind fun t150 => (some (t150 == (l0.length : Int)))) else (some false)
theorem cz.mono : ∀ a0 k, LeO (cz.f k a0) (cz.f (k + 1) a0) := by
 intro a0 k
 unfold cz.f
 repeat' (with_reducible first | exact aM.mono .. | exact LeO.refl _ | exact LeO.none _ | refine LeO.ite ?_ ?_ | refine LeO.bind ?_ (fun _ => ?_))
theorem cz.calls (k : Nat) (A0 : Option Addr) (c0 : Nat) (l0 : List (S88)) (r : Bool) (w : World) (hr0 : Kd.C k88 w A0 l0.length l0) (hc0 : l0.length ≤ c0) (h : cz.f k l0 = some r) :
  Calls Tryz.prog 45 #[.slice A0 l0.length c0] w fun e w' => e = .returned (.bool r) ∧ Below w.heap.size w w' := by
 have Ei := am hr0
 have Ez := am hc0
 clear hr0 hc0
 have HB := am (Below.refl w.heap.size w)
 have H := h
 clear h
 unfold cz.f at H
 revert H; refine iDn (fun c2 Gf H => ?_) fun c2 Gf H => ?_
 ·have Gg : decide (l0.length ≤ 150) = true := decide_eq_true (by omega)
  clear c2
  revert H; refine bj fun t150 A3 H => ?_
  obtain rfl := Option.some.inj H
  go_enter Tryz.func45, Tryz.ntmps45
  go_wp2_with (first | (go_at_call 63; (with_reducible refine (aM.calls _ _ _ _ _ _ _ _ _ ?Dx ?Dy A3.out).mono ?_); (case Dx => repeat (first | exact Ei.out | (with_reducible refine Kd.fV ?_ _) | (with_reducible refine Kd.fU ?_ _) | (with_reducible refine Kd.gU ?_))); (case Dy => exact Ez.out); rintro e w4 ⟨rfl, hb⟩; replace HB := ho hb; clear hb))
  go_ret
  exact ⟨er, bl⟩
 have Gg : decide (l0.length ≤ 150) = false := decide_eq_false (by omega)
 clear c2
 obtain rfl := Option.some.inj H
 go_enter Tryz.func45, Tryz.ntmps45
 go_wp2
 go_ret
 exact ⟨er, bl⟩
mutual
def ai.j0 : Nat → Bool → ByteArray → Int → List ByteArray → List ByteArray → List (S83) → List (S88) → List (S88) → List (S88) → Option (Bool)
 | 0, _, _, _, _, _, _, _, _, _ => none
 | k + 1, x43, x152000, x152001, x152002, x152003, x152004, x152005, x152006, x152007 => if x43 = true then (some false) else ((some (([] : List ByteArray) : List ByteArray)).bind fun y153 => (if y153.length + x152002.length < 8796093022208 then ((some (y153 ++ x152002 : List ByteArray)).bind fun y156 => (if y156.length + x152003.length < 8796093022208 then (ai.l0 k (y156 ++ x152003) 0 x152000 x152001 x152002 x152003 x152004 x152005 x152006 x152007) else (none))) else (none)))
def ai.l0 : Nat → List ByteArray → Int → ByteArray → Int → List ByteArray → List ByteArray → List (S83) → List (S88) → List (S88) → List (S88) → Option (Bool)
 | 0, _, _, _, _, _, _, _, _, _, _ => none
 | k + 1, x3, x4, x152000, x152001, x152002, x152003, x152004, x152005, x152006, x152007 => if x4 < (x152004.length : Int) then (if 0 ≤ x4 then (if x3.length < 8796093022208 then ((dC.f k ((aX x152004 x4).f0) ((aX x152004 x4).f1) ((aX x152004 x4).f2) ((aX x152004 x4).f3)).bind fun t167 => (if t167 = true then (ai.l0 k (x3 ++ [(aX x152004 x4).f0]) (wrap64 (x4 + 1)) x152000 x152001 x152002 x152003 x152004 x152005 x152006 x152007) else (some false))) else (none)) else (none)) else (ai.l1 k x3 0 x152000 x152001 x152002 x152003 x152004 x152005 x152006 x152007)
def ai.l1 : Nat → List ByteArray → Int → ByteArray → Int → List ByteArray → List ByteArray → List (S83) → List (S88) → List (S88) → List (S88) → Option (Bool)
 | 0, _, _, _, _, _, _, _, _, _, _ => none
 | k + 1, x3, x5, x152000, x152001, x152002, x152003, x152004, x152005, x152006, x152007 => if x5 < (x3.length : Int) then (if 0 ≤ x5 then ((bn.f k (fG ByteArray.empty x3 x5)).bind fun t172 => (if t172 = true then (if x5 ≤ (x3.length : Int) then ((bY.f k (x3.take (x5 : Int).toNat) (fG ByteArray.empty x3 x5)).bind fun t178 => (if t178 = true then (some false) else (ai.l1 k x3 (wrap64 (x5 + 1)) x152000 x152001 x152002 x152003 x152004 x152005 x152006 x152007))) else (none)) else (some false))) else (none)) else ((cz.f k x152005).bind fun t168 => (if t168 = true then ((cz.f k x152006).bind fun t169 => (if t169 = true then ((cz.f k x152007).bind fun t170 => (some t170)) else (some false))) else (some false)))
end
def ai.f (k : Nat) (a0_0 : ByteArray) (a0_1 : Int) (l0_2 : List ByteArray) (l0_3 : List ByteArray) (l0_4 : List (S83)) (l0_5 : List (S88)) (l0_6 : List (S88)) (l0_7 : List (S88)) : Option (Bool) := (bn.f k a0_0).bind fun t152 => (if t152 = true then (if a0_1 < 1 then (ai.j0 k true a0_0 a0_1 l0_2 l0_3 l0_4 l0_5 l0_6 l0_7) else (if a0_1 > 3 then (ai.j0 k true a0_0 a0_1 l0_2 l0_3 l0_4 l0_5 l0_6 l0_7) else (if (l0_2.length : Int) > 4 then (ai.j0 k true a0_0 a0_1 l0_2 l0_3 l0_4 l0_5 l0_6 l0_7) else (if (l0_3.length : Int) < 1 then (ai.j0 k true a0_0 a0_1 l0_2 l0_3 l0_4 l0_5 l0_6 l0_7) else (if (l0_3.length : Int) > 6 then (ai.j0 k true a0_0 a0_1 l0_2 l0_3 l0_4 l0_5 l0_6 l0_7) else (ai.j0 k (decide ((l0_4.length : Int) > 8)) a0_0 a0_1 l0_2 l0_3 l0_4 l0_5 l0_6 l0_7)))))) else (ai.j0 k true a0_0 a0_1 l0_2 l0_3 l0_4 l0_5 l0_6 l0_7))
theorem ai.bI : ∀ k, (∀ y0 y1 y2 y3 y4 y5 y6 y7 y8, LeO (ai.j0 k y0 y1 y2 y3 y4 y5 y6 y7 y8) (ai.j0 (k + 1) y0 y1 y2 y3 y4 y5 y6 y7 y8)) ∧ (∀ y0 y1 y2 y3 y4 y5 y6 y7 y8 y9, LeO (ai.l0 k y0 y1 y2 y3 y4 y5 y6 y7 y8 y9) (ai.l0 (k + 1) y0 y1 y2 y3 y4 y5 y6 y7 y8 y9)) ∧ (∀ y0 y1 y2 y3 y4 y5 y6 y7 y8 y9, LeO (ai.l1 k y0 y1 y2 y3 y4 y5 y6 y7 y8 y9) (ai.l1 (k + 1) y0 y1 y2 y3 y4 y5 y6 y7 y8 y9))
 | 0 => ⟨fun _ _ _ _ _ _ _ _ _ r h => by simp [ai.j0] at h, fun _ _ _ _ _ _ _ _ _ _ r h => by simp [ai.l0] at h, fun _ _ _ _ _ _ _ _ _ _ r h => by simp [ai.l1] at h⟩
 | k + 1 => by
  obtain ⟨ih0, ih1, ih2⟩ := ai.bI k
  refine ⟨?_, ?_, ?_⟩
  ·intro y0 y1 y2 y3 y4 y5 y6 y7 y8
   unfold ai.j0
   repeat' (with_reducible first | exact ih0 .. | exact ih1 .. | exact ih2 .. | exact cz.mono .. | exact bY.mono .. | exact bn.mono .. | exact dC.mono .. | exact LeO.refl _ | exact LeO.none _ | refine LeO.ite ?_ ?_ | refine LeO.bind ?_ (fun _ => ?_))
  ·intro y0 y1 y2 y3 y4 y5 y6 y7 y8 y9
   unfold ai.l0
   repeat' (with_reducible first | exact ih0 .. | exact ih1 .. | exact ih2 .. | exact cz.mono .. | exact bY.mono .. | exact bn.mono .. | exact dC.mono .. | exact LeO.refl _ | exact LeO.none _ | refine LeO.ite ?_ ?_ | refine LeO.bind ?_ (fun _ => ?_))
  intro y0 y1 y2 y3 y4 y5 y6 y7 y8 y9
  unfold ai.l1
  repeat' (with_reducible first | exact ih0 .. | exact ih1 .. | exact ih2 .. | exact cz.mono .. | exact bY.mono .. | exact bn.mono .. | exact dC.mono .. | exact LeO.refl _ | exact LeO.none _ | refine LeO.ite ?_ ?_ | refine LeO.bind ?_ (fun _ => ?_))
theorem ai.mono : ∀ a0 a1 a2 a3 a4 a5 a6 a7 k, LeO (ai.f k a0 a1 a2 a3 a4 a5 a6 a7) (ai.f (k + 1) a0 a1 a2 a3 a4 a5 a6 a7) := by
 intro a0 a1 a2 a3 a4 a5 a6 a7 k
 obtain ⟨ih0, ih1, ih2⟩ := ai.bI k
 unfold ai.f
 repeat' (with_reducible first | exact ih0 .. | exact ih1 .. | exact ih2 .. | exact cz.mono .. | exact bY.mono .. | exact bn.mono .. | exact dC.mono .. | exact LeO.refl _ | exact LeO.none _ | refine LeO.ite ?_ ?_ | refine LeO.bind ?_ (fun _ => ?_))
def ai.T3 : Bool × List (List Nat × List Nat) := (true, [([], []), ([], []), ([1], [1]), ([0, 2], [0, 2]), ([], []), ([4], [4]), ([3, 5, 3], [3, 5]), ([6, 6, 0, 1, 2, 3, 4, 5, 6], [6])])
def ai.B3 : List Nat := [0, 0, 2, 7, 0, 16, 63, 127]
theorem ai.tab3 : iy .any (opsOf Tryz.f21 3) = ai.T3 := by kernel_rfl
theorem ai.bits3 : gm ai.T3.2 ai.B3 = true := by kernel_rfl
def ai.T13 : Bool × List (List Nat × List Nat) := (true, [([], []), ([], []), ([0, 1], [0, 1]), ([2], [2]), ([3], [3]), ([4], [4]), ([5, 4], [5]), ([6], [6]), ([6], [6]), ([7, 8, 6], [6, 7, 8]), ([6], [6]), ([6], [6]), ([10, 11, 6], [6, 10, 11]), ([12, 6], [6, 12]), ([9, 13, 6, 6], [6, 9, 13]), ([6, 14], [6, 14])])
def ai.B13 : List Nat := [0, 0, 3, 7, 15, 31, 63, 127, 127, 511, 127, 127, 3199, 7295, 16383, 32767]
theorem ai.uy : iy .any (opsOf Tryz.f21 13) = ai.T13 := by kernel_rfl
theorem ai.rC : gm ai.T13.2 ai.B13 = true := by kernel_rfl
set_option maxHeartbeats 8000000 in
set_option maxRecDepth 100000 in
theorem ai.calls (k : Nat) (a0_0 : ByteArray) (a0_1 : Int) (A0_2 : Option Addr) (c0_2 : Nat) (l0_2 : List ByteArray) (A0_3 : Option Addr) (c0_3 : Nat) (l0_3 : List ByteArray) (A0_4 : Option Addr) (c0_4 : Nat) (l0_4 : List (S83)) (A0_5 : Option Addr) (c0_5 : Nat) (l0_5 : List (S88)) (A0_6 : Option Addr) (c0_6 : Nat) (l0_6 : List (S88)) (A0_7 : Option Addr) (c0_7 : Nat) (l0_7 : List (S88)) (r : Bool) (w : World) (hr0_2 : Kd.C Kd.string w A0_2 l0_2.length l0_2) (hc0_2 : l0_2.length ≤ c0_2) (hr0_3 : Kd.C Kd.string w A0_3 l0_3.length l0_3) (hc0_3 : l0_3.length ≤ c0_3) (hr0_4 : Kd.C k83 w A0_4 l0_4.length l0_4) (hc0_4 : l0_4.length ≤ c0_4) (hr0_5 : Kd.C k88 w A0_5 l0_5.length l0_5) (hc0_5 : l0_5.length ≤ c0_5) (hr0_6 : Kd.C k88 w A0_6 l0_6.length l0_6) (hc0_6 : l0_6.length ≤ c0_6) (hr0_7 : Kd.C k88 w A0_7 l0_7.length l0_7) (hc0_7 : l0_7.length ≤ c0_7) (h : ai.f k a0_0 a0_1 l0_2 l0_3 l0_4 l0_5 l0_6 l0_7 = some r) :
  Calls Tryz.prog 21 #[.agg #[.string a0_0, .int .i64 a0_1, .slice A0_2 l0_2.length c0_2, .slice A0_3 l0_3.length c0_3, .slice A0_4 l0_4.length c0_4, .slice A0_5 l0_5.length c0_5, .slice A0_6 l0_6.length c0_6, .slice A0_7 l0_7.length c0_7]] w fun e w' => e = .returned (.bool r) ∧ Below w.heap.size w w' := by
 have hu39 := Tryz.underlying39
 have hu83 := Tryz.underlying83
 have Gg := am hr0_2
 have Iz := am hc0_2
 clear hr0_2 hc0_2
 have Gh := am hr0_3
 have Ja := am hc0_3
 clear hr0_3 hc0_3
 have Eb := am hr0_4
 have Jb := am hc0_4
 clear hr0_4 hc0_4
 have Ed := am hr0_5
 have Ee := am hc0_5
 clear hr0_5 hc0_5
 have En := am hr0_6
 have Eo := am hc0_6
 clear hr0_6 hc0_6
 have Gi := am hr0_7
 have Gj := am hc0_7
 clear hr0_7 hc0_7
 have HB := am (Below.refl w.heap.size w)
 have H := h
 clear h
 unfold ai.f at H
 have Ie := am H; clear H
 go_enter Tryz.func21, Tryz.ntmps21
 go_upto_region 1 with (first | ((with_reducible refine dH (N := 1) rfl ?_); (try (refine dz (by rfl) ?_; dsimp only)); refine dR ?hg (N := 1) ?hd (cs := #[.string a0_0, .int .i64 a0_1, .slice A0_2 l0_2.length c0_2, .slice A0_3 l0_3.length c0_3, .slice A0_4 l0_4.length c0_4, .slice A0_5 l0_5.length c0_5, .slice A0_6 l0_6.length c0_6, .slice A0_7 l0_7.length c0_7]) (t := 39) ?hr ?_; (case hd => rfl); (case hg => rfl); (case hr => first | (go_simp; done) | (go_simp; rfl)); intro Cj hg w3 hbox hb; have Cb := am hbox; have Gk := am (bsz hg : w.heap.size ≤ Cj); have Jc := Gk; replace HB := ho hb; clear hb hbox hg))
 (try simp only [Act.put, z1, z2, z3])
 go_cut [43] (fun v43 wc => ∃ (kq : Nat) (x43_1 : Bool), v43 = .bool x43_1 ∧ aa (ai.j0 kq x43_1 a0_0 a0_1 l0_2 l0_3 l0_4 l0_5 l0_6 l0_7 = some r) ∧ aa (kq ≤ k) ∧ aa (wc.heap[Cj]? = some (.cells #[.string a0_0, .int .i64 a0_1, (.slice A0_2 l0_2.length c0_2), (.slice A0_3 l0_3.length c0_3), (.slice A0_4 l0_4.length c0_4), (.slice A0_5 l0_5.length c0_5), (.slice A0_6 l0_6.length c0_6), (.slice A0_7 l0_7.length c0_7)] 39 (0, 0))) ∧ aa (Below w.heap.size w wc))
 case first =>
  have H := Ie.out
  clear Ie
  revert H; refine bj fun t152 A4 H => ?_
  replace H := iT H; rcases H with ⟨rfl, H⟩ | ⟨rfl, H⟩
  ·revert H; refine iDb (fun Ef H => ?_) fun Ef H => ?_
   ·(first | rw [Ef] | (simp only [bu, bv]; rw [Ef]) | skip)
    have H' := am H; clear H
    have Z7 := dD Cb.out
    go_wp2_with (first | ((with_reducible refine c_ 42 ?_); refine gc 42 (some 8) Tryz.func42 (bn.calls _ _ _ _ A4.out) ?_; rintro e w8 ⟨rfl, hb⟩; refine ⟨_, rfl, ?_⟩; replace Cb := bo Cb hb; replace HB := ho hb; clear hb; have Z9 := dD Cb.out))
    go_meet
    case rel => exact ⟨_, (true), rs, H', ⟨by first | omega | exact Nat.le_refl _⟩, ⟨bk Cb.out⟩, ⟨bl⟩⟩
   (first | rw [Ef] | (simp only [bu, bv]; rw [Ef]) | skip)
   revert H; refine iDb (fun Gl H => ?_) fun Gl H => ?_
   ·have H' := am H; clear H
    have Jz := dD Cb.out
    go_wp2_with (first | ((with_reducible refine c_ 42 ?_); refine gc 42 (some 8) Tryz.func42 (bn.calls _ _ _ _ A4.out) ?_; rintro e w12 ⟨rfl, hb⟩; refine ⟨_, rfl, ?_⟩; replace Cb := bo Cb hb; replace HB := ho hb; clear hb; have Ka := dD Cb.out))
    go_meet
    case rel => exact ⟨_, (true), rs, H', ⟨by first | omega | exact Nat.le_refl _⟩, ⟨bk Cb.out⟩, ⟨bl⟩⟩
   revert H; refine iDn (fun Ig Gm H => ?_) fun Ig Gm H => ?_
   ·have Gn : decide (4 < l0_2.length) = true := decide_eq_true (by omega)
    clear Ig
    have H' := am H; clear H
    have Kb := dD Cb.out
    go_wp2_with (first | ((with_reducible refine c_ 42 ?_); refine gc 42 (some 8) Tryz.func42 (bn.calls _ _ _ _ A4.out) ?_; rintro e w16 ⟨rfl, hb⟩; refine ⟨_, rfl, ?_⟩; replace Cb := bo Cb hb; replace HB := ho hb; clear hb; have Ke := dD Cb.out))
    go_meet
    case rel => exact ⟨_, (true), rs, H', ⟨by first | omega | exact Nat.le_refl _⟩, ⟨bk Cb.out⟩, ⟨bl⟩⟩
   have Gn : decide (4 < l0_2.length) = false := decide_eq_false (by omega)
   clear Ig
   revert H; refine iDn (fun Ih Gp H => ?_) fun Ih Gp H => ?_
   ·have Gq : decide (l0_3.length < 1) = true := decide_eq_true (by omega)
    clear Ih
    have H' := am H; clear H
    have Kf := dD Cb.out
    go_wp2_with (first | ((with_reducible refine c_ 42 ?_); refine gc 42 (some 8) Tryz.func42 (bn.calls _ _ _ _ A4.out) ?_; rintro e w20 ⟨rfl, hb⟩; refine ⟨_, rfl, ?_⟩; replace Cb := bo Cb hb; replace HB := ho hb; clear hb; have Kg := dD Cb.out))
    go_meet
    case rel => exact ⟨_, (true), rs, H', ⟨by first | omega | exact Nat.le_refl _⟩, ⟨bk Cb.out⟩, ⟨bl⟩⟩
   have Gq : decide (l0_3.length < 1) = false := decide_eq_false (by omega)
   clear Ih
   revert H; refine iDn (fun Ii Gs H => ?_) fun Ii Gs H => ?_
   ·have Gu : decide (6 < l0_3.length) = true := decide_eq_true (by omega)
    clear Ii
    have H' := am H; clear H
    have Kh := dD Cb.out
    go_wp2_with (first | ((with_reducible refine c_ 42 ?_); refine gc 42 (some 8) Tryz.func42 (bn.calls _ _ _ _ A4.out) ?_; rintro e w24 ⟨rfl, hb⟩; refine ⟨_, rfl, ?_⟩; replace Cb := bo Cb hb; replace HB := ho hb; clear hb; have Ki := dD Cb.out))
    go_meet
    case rel => exact ⟨_, (true), rs, H', ⟨by first | omega | exact Nat.le_refl _⟩, ⟨bk Cb.out⟩, ⟨bl⟩⟩
   have Gu : decide (6 < l0_3.length) = false := decide_eq_false (by omega)
   clear Ii
   have H' := am H; clear H
   have Kj := dD Cb.out
   go_wp2_with (first | ((with_reducible refine c_ 42 ?_); refine gc 42 (some 8) Tryz.func42 (bn.calls _ _ _ _ A4.out) ?_; rintro e w27 ⟨rfl, hb⟩; refine ⟨_, rfl, ?_⟩; replace Cb := bo Cb hb; replace HB := ho hb; clear hb; have Kk := dD Cb.out))
   go_meet
   case rel => exact ⟨_, (decide ((l0_4.length : Int) > 8)), rs, H', ⟨by first | omega | exact Nat.le_refl _⟩, ⟨bk Cb.out⟩, ⟨bl⟩⟩
  have H' := am H; clear H
  have Kl := dD Cb.out
  go_wp2_with (first | ((with_reducible refine c_ 42 ?_); refine gc 42 (some 8) Tryz.func42 (bn.calls _ _ _ _ A4.out) ?_; rintro e w30 ⟨rfl, hb⟩; refine ⟨_, rfl, ?_⟩; replace Cb := bo Cb hb; replace HB := ho hb; clear hb))
  go_meet
  case rel => exact ⟨_, (true), rs, H', ⟨by first | omega | exact Nat.le_refl _⟩, ⟨bk Cb.out⟩, ⟨bl⟩⟩
 case rest =>
  clear Ie
  obtain ⟨kq, x43_1, rfl, HA, Gz, Cb, HB⟩ := hcut
  cases kq with
  | zero => exact absurd HA.out (by simp [ai.j0])
  | succ kj1 =>
   have H := HA.out
   clear HA
   simp only [ai.j0] at H
   replace H := iT H; rcases H with ⟨rfl, H⟩ | ⟨rfl, H⟩
   ·obtain rfl := Option.some.inj H
    go_wp2
    go_ret
    exact ⟨er, bl⟩
   generalize h_ : ((([] : List ByteArray)) : List ByteArray) = y153 at H
   have Ep := am h_.symm; clear h_; try rw [Option.bind_some] at H
   revert H; refine i0 fun Ia H => ?_
   have LMc32 := am Ia; clear Ia
   generalize h_ : ((y153 ++ l0_2) : List ByteArray) = y156 at H
   have Gv := am h_.symm; clear h_; try rw [Option.bind_some] at H
   revert H; refine i0 fun Ib H => ?_
   have LMc33 := am Ib; clear Ib
   generalize h_ : ((y156 ++ l0_3) : List ByteArray) = Ij at H
   have Gw := am h_.symm; clear h_; try rw [Option.bind_some] at H
   have H' := am H; clear H
   try go_wp2
   replace Cb := am (bB Cb.out); replace HB := am (bg HB.out)
   refine eH (n := 8) (S := Sb8 Cj (.string a0_0) (.int .i64 a0_1) (.slice A0_2 l0_2.length c0_2) (.slice A0_3 l0_3.length c0_3) (.slice A0_4 l0_4.length c0_4) (.slice A0_5 l0_5.length c0_5) (.slice A0_6 l0_6.length c0_6) (.slice A0_7 l0_7.length c0_7)) (ds := []) #[F_, F_, F_, F_, F_, F_, F_, F_] (by kernel_rfl) rfl rfl ⟨(ae Cb.out 0).trans rfl, (ae Cb.out 1).trans rfl, (ae Cb.out 2).trans rfl, (ae Cb.out 3).trans rfl, (ae Cb.out 4).trans rfl, (ae Cb.out 5).trans rfl, (ae Cb.out 6).trans rfl, (ae Cb.out 7).trans rfl⟩ (fun hHeld => ?_); refine dJ ai.tab3 ai.bits3 (fun HT_ HW_ => ?_)
   generalize wc.drew = w34 at Cb HB hHeld ⊢
   refine pv 1 45 ?_
   refine pv 4 48 ?_
   refine tv8 2 46 hHeld ?_
   refine tv8 5 49 hHeld ?_
   refine ov 0 44 (fun K hK => ?_)
   refine Kd.oq Kd.string _ 9 ?hg (N := 44) ?hd (xs := ([] : List ByteArray)) (inner := []) (ok := fun _ => True) (okp := fun _ => True) ?hr ?hp (fun _ hk => hk) trivial (Below.refl _ _) (Nat.le_refl _) (by simp) ?_; (case hd => rfl); (case hg => rfl); (case hr => first | (go_simp; done) | (go_simp; rfl)); (case hp => exact (dw.none _ _))
   intro v154 w35 ho36 hb hg_ hnew_
   clear hg_ hnew_
   (first | rw [← Ep.out] at ho36 | (simp only [Int.reduceToNat] at ho36; rw [← Ep.out] at ho36))
   have Eg := am (Kd.bz ho36 (az bl)); replace Cb := bo Cb hb; replace HB := ho hb
   clear hb ho36
   refine hK.out _ _ (gQ Cb.out) (fun hHeld => ?_)
   clear hK K
   refine dn (a' := ?_) ?_ ?_
   rotate_left
   ·show Act.put _ (some 44) _ = _
    simp only [Act.put, z1, z2, z3, bu, bv]
    rfl
   refine ov 3 47 (fun K hK => ?_)
   refine Kd.ig Kd.string (w0 := w) w.heap.size (by rfl) (.tmp 44) (.tmp 46) 22 9 (.string ⟨#[]⟩) 16 rfl Tryz.underlying22 jq rfl (by decide) (by omega) v154 y153 l0_2 _ _ _ (fun _ => True) (fun _ => False) rfl rfl ?aO ?aR (fun _ _ h => h) (fun _ h => h.elim) ?aF ?aB ?aS ?aL ?_
   (case aR => repeat (first | exact (Kd.dK Gg.out HB.out) | (with_reducible refine Kd.fV ?_ _) | (with_reducible refine Kd.fU ?_ _) | (with_reducible refine Kd.gU ?_)))
   (case aB => exact bl)
   (case aF => exact (fun _ _ => trivial))
   (case aO => exact (kr Eg.out))
   (case aS => exact (az bl))
   (case aL => have := LMc32.out; omega)
   intro v157 w37 ho hb hg hat
   rw [← Gv.out] at ho
   have n0_ := am (dN (g := Cj) (o := .cells #[.string a0_0, .int .i64 a0_1, .slice A0_2 l0_2.length c0_2, .slice A0_3 l0_3.length c0_3, .slice A0_4 l0_4.length c0_4, .slice A0_5 l0_5.length c0_5, .slice A0_6 l0_6.length c0_6, .slice A0_7 l0_7.length c0_7] 39 (0, 0)) (bk Cb.out) hg (Kd.eG Eg.out Cb.out (by decide)))
   have n1_ := am (hb)
   have n2_ := am (ho)
   clear Cb
   clear HB
   clear Eg
   have Cb := n0_
   have HB := n1_
   have Eh := n2_
   clear n0_ n1_ n2_
   clear ho hb hg hat
   refine hK.out _ _ (gQ Cb.out) (fun hHeld => ?_)
   clear hK K
   refine dn (a' := ?_) ?_ ?_
   rotate_left
   ·show Act.put _ (some 47) _ = _
    simp only [Act.put, z1, z2, z3, bu, bv]
    rfl
   refine ov 6 50 (fun K hK => ?_)
   refine Kd.ig Kd.string (w0 := w) w.heap.size (by rfl) (.tmp 47) (.tmp 49) 22 9 (.string ⟨#[]⟩) 16 rfl Tryz.underlying22 jq rfl (by decide) (by omega) v157 y156 l0_3 _ _ _ (fun _ => True) (fun _ => False) rfl rfl ?aO ?aR (fun _ _ h => h) (fun _ h => h.elim) ?aF ?aB ?aS ?aL ?_
   (case aR => repeat (first | exact (Kd.dK Gh.out HB.out) | (with_reducible refine Kd.fV ?_ _) | (with_reducible refine Kd.fU ?_ _) | (with_reducible refine Kd.gU ?_)))
   (case aB => exact bl)
   (case aF => exact (fun _ _ => trivial))
   (case aO => exact (kr Eh.out))
   (case aS => exact (az bl))
   (case aL => have := LMc33.out; omega)
   intro v160 w38 ho hb hg hat
   rw [← Gw.out] at ho
   have n0_ := am (dN (g := Cj) (o := .cells #[.string a0_0, .int .i64 a0_1, .slice A0_2 l0_2.length c0_2, .slice A0_3 l0_3.length c0_3, .slice A0_4 l0_4.length c0_4, .slice A0_5 l0_5.length c0_5, .slice A0_6 l0_6.length c0_6, .slice A0_7 l0_7.length c0_7] 39 (0, 0)) (bk Cb.out) hg (Kd.eG Eh.out Cb.out (by decide)))
   have n1_ := am (hb)
   have n2_ := am (ho)
   clear Cb
   clear HB
   clear Eh
   have Cb := n0_
   have HB := n1_
   have Gx := n2_
   clear n0_ n1_ n2_
   clear ho hb hg hat
   refine hK.out _ _ (gQ Cb.out) (fun hHeld => ?_)
   clear hK K
   refine dn (a' := ?_) ?_ ?_
   rotate_left
   ·show Act.put _ (some 50) _ = _
    simp only [Act.put, z1, z2, z3, bu, bv]
    rfl
   refine pv 7 3 ?_
   refine fF (eF HT_.out (by kernel_rfl)) ?_
   try go_wp2
   go_loopg [3, 4] kj1 (fun kq v3 v4 w' => ∃ (x3_2 : List ByteArray) (x4_2 : Int), v4 = .int .i64 x4_2 ∧ aa (ai.l0 kq x3_2 x4_2 a0_0 a0_1 l0_2 l0_3 l0_4 l0_5 l0_6 l0_7 = some r) ∧ aa (kq ≤ kj1) ∧ aa (Kd.R Kd.string 9 w' w.heap.size (fun _ => True) v3 x3_2) ∧ aa (w'.heap[Cj]? = some (.cells #[.string a0_0, .int .i64 a0_1, (.slice A0_2 l0_2.length c0_2), (.slice A0_3 l0_3.length c0_3), (.slice A0_4 l0_4.length c0_4), (.slice A0_5 l0_5.length c0_5), (.slice A0_6 l0_6.length c0_6), (.slice A0_7 l0_7.length c0_7)] 39 (0, 0))) ∧ aa (Below w.heap.size w w'))
   case atStart => exact ⟨(Ij), (0), rs, H', ⟨Nat.le_refl _⟩, ⟨kr Gx.out⟩, ⟨bk Cb.out⟩, ⟨bl⟩⟩
   case round =>
    clear H'
    try clear Ia; try clear Ib
    obtain ⟨x3_2, x4_2, rfl, HA, Ic, Cc, Cb, HB⟩ := hrel
    cases gk with
    | zero => exact absurd HA.out (by simp [ai.l0])
    | succ k2 =>
     have H := HA.out
     clear HA
     simp only [ai.l0] at H
     revert H; refine iDb (fun Es H => ?_) fun Es H => ?_
     ·revert H; refine i1 fun Jd H => ?_
      revert H; refine i0 fun Je H => ?_
      have LMc41 := am Je; clear Je
      generalize h_ : ((x3_2 ++ [(aX l0_4 x4_2).f0]) : List ByteArray) = Ik at H
      have Et := am h_.symm; clear h_; try rw [Option.bind_some] at H
      revert H; refine bj fun t167 Jf H => ?_
      replace H := iT H; rcases H with ⟨rfl, H⟩ | ⟨rfl, H⟩
      ·have H' := am H; clear H
       have Km := dD Cb.out
       have Dv : 0 ≤ (x4_2 : Int) := ode
       have Dw : x4_2 < (l0_4.length : Int) := ode
       obtain ⟨Dt, e162, Cm, Cn, Dc, Df⟩ := jE Eb.out x4_2 Dv Dw
       cases e162
       obtain ⟨Cm, Cn, Dc, Df⟩ := hb4 HB.out Cm Cn Dc Df
       replace Dv := eq_true Dv
       replace Dw := eq_true Dw
       go_wp2_with (first | ((with_reducible refine gZ (b := .append) (xs := #[.tmp 58, .tmp 65]) rfl ?_); (try (refine dz (by rfl) ?_; dsimp only)); at_builtin; refine Kd.kF Kd.string (w0 := w) w.heap.size rfl (.tmp 58) (.tmp 65) 22 9 (.string ⟨#[]⟩) 16 rfl Tryz.underlying22 jq rfl (by decide) (by omega) u3 x3_2 ((aX l0_4 x4_2).f0) [.string ((aX l0_4 x4_2).f0)] (fun _ => True) (fun _ => False) rfl rfl ?aP (fun _ hk => hk.elim) ?aF ?aO ?aB ?aS ?aL ?_; (case aP => exact rfl); (case aB => exact bl); (case aF => exact (fun _ _ => trivial)); (case aO => exact (kr Cc.out)); (case aS => exact (az bl)); (case aL => have := LMc41.out; omega); intro v164 w45 ho hb hg hat; rw [← Et.out] at ho; have n0_ := am (dN (g := Cj) (o := .cells #[.string a0_0, .int .i64 a0_1, .slice A0_2 l0_2.length c0_2, .slice A0_3 l0_3.length c0_3, .slice (some Dt) l0_4.length c0_4, .slice A0_5 l0_5.length c0_5, .slice A0_6 l0_6.length c0_6, .slice A0_7 l0_7.length c0_7] 39 (0, 0)) (bk Cb.out) hg (Kd.eG Cc.out Cb.out (by decide))); have n1_ := am (hb); have n2_ := am (ho); clear Cb; clear HB; clear Cc; have Cb := n0_; have HB := n1_; have Dn := n2_; clear n0_ n1_ n2_; clear ho hb hg hat; have Kn := dD Cb.out; have Dx : 0 ≤ (x4_2 : Int) := ode; have Dy : x4_2 < (l0_4.length : Int) := ode; obtain ⟨Ei, e166, Dh, Di, Dj, Dk⟩ := jE Eb.out x4_2 Dx Dy; obtain rfl : Dt = Ei := (by injection e166); replace Dh := hbc HB.out Dh; replace Di := hbc HB.out Di; replace Dj := hbc HB.out Dj; replace Dk := hbc HB.out Dk; replace Dx := eq_true Dx; replace Dy := eq_true Dy) | ((with_reducible refine c_ 43 ?_); refine gc 43 (some 72) Tryz.func43 (dC.calls _ _ _ _ _ _ _ Jf.out) ?_; rintro e w47 ⟨rfl, hb⟩; refine ⟨_, rfl, ?_⟩; refine r2_ hb Dn Cb ?_; clear Dn Cb; intro Dn Cb; replace HB := ho hb; clear hb))
       go_roundg k2
       case measure => have := Gz.out; have := Ic.out; omega
       case rel => exact ⟨(Ik), (wrap64 (x4_2 + 1)), rs, H', ⟨by have := Gz.out; have := Ic.out; omega⟩, ⟨kr Dn.out⟩, ⟨bk Cb.out⟩, ⟨bl⟩⟩
      obtain rfl := Option.some.inj H
      have Ko := dD Cb.out
      have Dv : 0 ≤ (x4_2 : Int) := ode
      have Dw : x4_2 < (l0_4.length : Int) := ode
      obtain ⟨Dt, e162, Cm, Cn, Dc, Df⟩ := jE Eb.out x4_2 Dv Dw
      cases e162
      obtain ⟨Cm, Cn, Dc, Df⟩ := hb4 HB.out Cm Cn Dc Df
      replace Dv := eq_true Dv
      replace Dw := eq_true Dw
      go_wp2_with (first | ((with_reducible refine gZ (b := .append) (xs := #[.tmp 58, .tmp 65]) rfl ?_); (try (refine dz (by rfl) ?_; dsimp only)); at_builtin; refine Kd.kF Kd.string (w0 := w) w.heap.size rfl (.tmp 58) (.tmp 65) 22 9 (.string ⟨#[]⟩) 16 rfl Tryz.underlying22 jq rfl (by decide) (by omega) u3 x3_2 ((aX l0_4 x4_2).f0) [.string ((aX l0_4 x4_2).f0)] (fun _ => True) (fun _ => False) rfl rfl ?aP (fun _ hk => hk.elim) ?aF ?aO ?aB ?aS ?aL ?_; (case aP => exact rfl); (case aB => exact bl); (case aF => exact (fun _ _ => trivial)); (case aO => exact (kr Cc.out)); (case aS => exact (az bl)); (case aL => have := LMc41.out; omega); intro v164 w49 ho hb hg hat; rw [← Et.out] at ho; have n0_ := am (dN (g := Cj) (o := .cells #[.string a0_0, .int .i64 a0_1, .slice A0_2 l0_2.length c0_2, .slice A0_3 l0_3.length c0_3, .slice (some Dt) l0_4.length c0_4, .slice A0_5 l0_5.length c0_5, .slice A0_6 l0_6.length c0_6, .slice A0_7 l0_7.length c0_7] 39 (0, 0)) (bk Cb.out) hg (Kd.eG Cc.out Cb.out (by decide))); have n1_ := am (hb); have n2_ := am (ho); clear Cb; clear HB; clear Cc; have Cb := n0_; have HB := n1_; have Dn := n2_; clear n0_ n1_ n2_; clear ho hb hg hat; have Kp := dD Cb.out; have Dx : 0 ≤ (x4_2 : Int) := ode; have Dy : x4_2 < (l0_4.length : Int) := ode; obtain ⟨Ei, e166, Dh, Di, Dj, Dk⟩ := jE Eb.out x4_2 Dx Dy; obtain rfl : Dt = Ei := (by injection e166); replace Dh := hbc HB.out Dh; replace Di := hbc HB.out Di; replace Dj := hbc HB.out Dj; replace Dk := hbc HB.out Dk; replace Dx := eq_true Dx; replace Dy := eq_true Dy) | ((with_reducible refine c_ 43 ?_); refine gc 43 (some 72) Tryz.func43 (dC.calls _ _ _ _ _ _ _ Jf.out) ?_; rintro e w51 ⟨rfl, hb⟩; refine ⟨_, rfl, ?_⟩; refine r2_ hb Dn Cb ?_; clear Dn Cb; intro Dn Cb; replace HB := ho hb; clear hb))
      go_ret
      exact ⟨er, bl⟩
     have H' := am H; clear H
     have Jn := dD Cb.out
     go_wp2
     go_loopg [5] k2 (fun kq v5 w' => ∃ (x5_3 : Int), v5 = .int .i64 x5_3 ∧ aa (ai.l1 kq x3_2 x5_3 a0_0 a0_1 l0_2 l0_3 l0_4 l0_5 l0_6 l0_7 = some r) ∧ aa (kq ≤ k2) ∧ aa (Kd.R Kd.string 9 w' w.heap.size (fun _ => True) u3 x3_2) ∧ aa (w'.heap[Cj]? = some (.cells #[.string a0_0, .int .i64 a0_1, (.slice A0_2 l0_2.length c0_2), (.slice A0_3 l0_3.length c0_3), (.slice A0_4 l0_4.length c0_4), (.slice A0_5 l0_5.length c0_5), (.slice A0_6 l0_6.length c0_6), (.slice A0_7 l0_7.length c0_7)] 39 (0, 0))) ∧ aa (Below w.heap.size w w'))
     case atStart => exact ⟨(0), rs, H', ⟨Nat.le_refl _⟩, ⟨kr Cc.out⟩, ⟨bk Cb.out⟩, ⟨bl⟩⟩
     case round =>
      clear H'
      try clear Ia; try clear Ib; try clear Es; try clear Jn
      obtain ⟨x5_3, rfl, HA, Jg, Cc, Cb, HB⟩ := hrel
      cases gk with
      | zero => exact absurd HA.out (by simp [ai.l1])
      | succ k3 =>
       have H := HA.out
       clear HA
       simp only [ai.l1] at H
       revert H; refine iDb (fun Gy H => ?_) fun Gy H => ?_
       ·revert H; refine i1 fun Jh H => ?_
        revert H; refine bj fun t172 Il H => ?_
        replace H := iT H; rcases H with ⟨rfl, H⟩ | ⟨rfl, H⟩
        ·have Ji := eq_true (ode : 0 ≤ x5_3)
         revert H; refine i2 fun Jj Jk H => ?_
         generalize h_ : ((x3_2.take (x5_3 : Int).toNat) : List ByteArray) = Em at H
         have Ec := am h_.symm; clear h_; try rw [Option.bind_some] at H
         revert H; refine bj fun t178 Jl H => ?_
         replace H := iT H; rcases H with ⟨rfl, H⟩ | ⟨rfl, H⟩
         ·obtain rfl := Option.some.inj H
          obtain ⟨Jo, Ey, Im⟩ := Kd.aI Cc.out
          subst Im
          try go_wp2
          replace Cc := am (Kd.dx Cc.out); replace Cb := am (bB Cb.out); replace HB := am (bg HB.out)
          have Dp : 0 ≤ (x5_3 : Int) := ode
          have Dq : x5_3 < (x3_2.length : Int) := ode
          obtain ⟨Ci, e171, Cf⟩ := Kd.eQ (Kd.af Cc.out).2.2 x5_3 Dp Dq
          cases e171
          replace Dp := eq_true Dp
          replace Dq := eq_true Dq
          have Dz : 0 ≤ (x5_3 : Int) := ode
          have Ea : x5_3 < (x3_2.length : Int) := ode
          obtain ⟨Ej, e177, Dl⟩ := Kd.eQ (Kd.af Cc.out).2.2 x5_3 Dz Ea
          obtain rfl : Ci = Ej := (by injection e177)
          replace Dz := eq_true Dz
          replace Ea := eq_true Ea
          refine eH (n := 16) (S := Sa1a1 (Ci.add (x5_3).toNat) (.string (fG ByteArray.empty x3_2 x5_3)) (Ci.add (x5_3).toNat) (.string (fG ByteArray.empty x3_2 x5_3))) (ds := []) #[F_, F_, F_, F_, F_, F_, F_, F_, F_, F_, F_, F_, F_, F_, F_, F_] (by kernel_rfl) rfl rfl ⟨Cf, Dl⟩ (fun hHeld => ?_); refine dJ ai.uy ai.rC (fun HT_ HW_ => ?_)
          generalize wr.drew = w62 at Cc Cb HB Cf Dl hHeld ⊢
          refine pv 0 80 ?_
          refine pv 1 81 ?_
          refine pv 2 82 ?_
          refine tv2 3 83 hHeld ?_
          refine ov 4 84 (fun K hK => ?_)
          refine gk Tryz.func42 (bn.calls _ _ _ _ Il.out) ?_
          rintro e w63 ⟨rfl, hb⟩
          have HS0_ := (hb.cell (World.block_lt_of_cell? _ _ (hHeld.1))).trans (hHeld.1)
          have HS1_ := (hb.cell (World.block_lt_of_cell? _ _ (hHeld.2))).trans (hHeld.2)
          refine ⟨_, rfl, ?_⟩
          refine r2_ hb Cc Cb ?_; clear Cc Cb; intro Cc Cb; replace HB := ho hb
          have Io : (x5_3 : Int) ≤ ((x3_2.length : Int) : Int) := ode
          obtain ⟨i064, Eu, _, hsz64, _⟩ := info_parts jq
          have hroom64 : x3_2.length ≤ Ey := (Kd.af Cc.out).2.1
          have hC64 : Kd.C Kd.string _ (some Ci) x3_2.length x3_2 := (Kd.af Cc.out).2.2
          have hcut64 := pm (P := Tryz.prog) 22 9 .i64 Tryz.underlying22 Eu (some Ci) x3_2.length Ey x5_3 (ode) Io hroom64
          have hr64 := Kd.rO (m := (x5_3 : Int).toNat) hC64 (by omega)
          have Ez : Em.length = (x5_3 : Int).toNat := (by rw [Ec.out, List.length_take]; omega)
          rw [← Ec.out] at hr64
          rw [← Ez] at hcut64
          have Du := am hr64
          have Ek := am (show Em.length ≤ Ey from by omega)
          clear hr64 hC64 hroom64 Eu hsz64
          have KY64 := am Ez; clear Ez
          have KL64 := am (show (x5_3 : Int).toNat ≤ x3_2.length from by omega)
          replace Io := eq_true Io
          refine hK.out _ _ ⟨HS0_, HS1_⟩ (fun hHeld => ?_)
          clear hK K
          refine dn (a' := ?_) ?_ ?_
          rotate_left
          ·show Act.put _ (some 84) _ = _
           simp only [Act.put, z1, z2, z3, bu, bv]
           rfl
          refine pv 5 85 ?_
          refine pv 6 86 ?_
          refine pv 7 87 ?_
          refine pv 8 88 ?_
          refine pv 9 89 ?_
          refine pv 10 90 ?_
          refine pv 11 91 ?_
          refine pv 12 92 ?_
          refine tv2 13 93 hHeld ?_
          refine ov 14 94 (fun K hK => ?_)
          refine gk Tryz.func44 (bY.calls _ _ _ _ _ _ _ ?Cd ?Ce Jl.out) ?_
          (case Cd => repeat (first | exact (by repeat (first | (with_reducible exact Du.out) | (with_reducible refine Kd.fV ?_ _) | (with_reducible refine Kd.fU ?_ _) | (with_reducible refine Kd.gU ?_) | exact Du.out)) | (with_reducible refine Kd.fV ?_ _) | (with_reducible refine Kd.fU ?_ _) | (with_reducible refine Kd.gU ?_)))
          (case Ce => exact Ek.out)
          rintro e w' ⟨rfl, ⟨nd, rfl⟩⟩
          refine ⟨_, rfl, ?_⟩
          refine hK.out _ _ ⟨hHeld.1, hHeld.2⟩ (fun hHeld => ?_)
          clear hK K
          refine dn (a' := ?_) ?_ ?_
          rotate_left
          ·show Act.put _ (some 94) _ = _
           simp only [Act.put, z1, z2, z3, bu, bv]
           rfl
          refine pv 15 95 ?_
          refine fF (eF HT_.out (by kernel_rfl)) ?_
          try go_wp2
          go_ret
          exact ⟨er, bl⟩
         have H' := am H; clear H
         obtain ⟨Jp, Ga, Ip⟩ := Kd.aI Cc.out
         subst Ip
         try go_wp2
         replace Cc := am (Kd.dx Cc.out); replace Cb := am (bB Cb.out); replace HB := am (bg HB.out)
         have Dp : 0 ≤ (x5_3 : Int) := ode
         have Dq : x5_3 < (x3_2.length : Int) := ode
         obtain ⟨Ci, e171, Cf⟩ := Kd.eQ (Kd.af Cc.out).2.2 x5_3 Dp Dq
         cases e171
         replace Dp := eq_true Dp
         replace Dq := eq_true Dq
         have Dz : 0 ≤ (x5_3 : Int) := ode
         have Ea : x5_3 < (x3_2.length : Int) := ode
         obtain ⟨Ej, e177, Dl⟩ := Kd.eQ (Kd.af Cc.out).2.2 x5_3 Dz Ea
         obtain rfl : Ci = Ej := (by injection e177)
         replace Dz := eq_true Dz
         replace Ea := eq_true Ea
         refine eH (n := 16) (S := Sa1a1 (Ci.add (x5_3).toNat) (.string (fG ByteArray.empty x3_2 x5_3)) (Ci.add (x5_3).toNat) (.string (fG ByteArray.empty x3_2 x5_3))) (ds := []) #[F_, F_, F_, F_, F_, F_, F_, F_, F_, F_, F_, F_, F_, F_, F_, F_] (by kernel_rfl) rfl rfl ⟨Cf, Dl⟩ (fun hHeld => ?_); refine dJ ai.uy ai.rC (fun HT_ HW_ => ?_)
         generalize wr.drew = w66 at Cc Cb HB Cf Dl hHeld ⊢
         refine pv 0 80 ?_
         refine pv 1 81 ?_
         refine pv 2 82 ?_
         refine tv2 3 83 hHeld ?_
         refine ov 4 84 (fun K hK => ?_)
         refine gk Tryz.func42 (bn.calls _ _ _ _ Il.out) ?_
         rintro e w67 ⟨rfl, hb⟩
         have HS0_ := (hb.cell (World.block_lt_of_cell? _ _ (hHeld.1))).trans (hHeld.1)
         have HS1_ := (hb.cell (World.block_lt_of_cell? _ _ (hHeld.2))).trans (hHeld.2)
         refine ⟨_, rfl, ?_⟩
         refine r2_ hb Cc Cb ?_; clear Cc Cb; intro Cc Cb; replace HB := ho hb
         have Iq : (x5_3 : Int) ≤ ((x3_2.length : Int) : Int) := ode
         obtain ⟨i068, Ew, _, hsz68, _⟩ := info_parts jq
         have hroom68 : x3_2.length ≤ Ga := (Kd.af Cc.out).2.1
         have hC68 : Kd.C Kd.string _ (some Ci) x3_2.length x3_2 := (Kd.af Cc.out).2.2
         have hcut68 := pm (P := Tryz.prog) 22 9 .i64 Tryz.underlying22 Ew (some Ci) x3_2.length Ga x5_3 (ode) Iq hroom68
         have hr68 := Kd.rO (m := (x5_3 : Int).toNat) hC68 (by omega)
         have Gf : Em.length = (x5_3 : Int).toNat := (by rw [Ec.out, List.length_take]; omega)
         rw [← Ec.out] at hr68
         rw [← Gf] at hcut68
         have Du := am hr68
         have Ek := am (show Em.length ≤ Ga from by omega)
         clear hr68 hC68 hroom68 Ew hsz68
         have KY68 := am Gf; clear Gf
         have KL68 := am (show (x5_3 : Int).toNat ≤ x3_2.length from by omega)
         replace Iq := eq_true Iq
         refine hK.out _ _ ⟨HS0_, HS1_⟩ (fun hHeld => ?_)
         clear hK K
         refine dn (a' := ?_) ?_ ?_
         rotate_left
         ·show Act.put _ (some 84) _ = _
          simp only [Act.put, z1, z2, z3, bu, bv]
          rfl
         refine pv 5 85 ?_
         refine pv 6 86 ?_
         refine pv 7 87 ?_
         refine pv 8 88 ?_
         refine pv 9 89 ?_
         refine pv 10 90 ?_
         refine pv 11 91 ?_
         refine pv 12 92 ?_
         refine tv2 13 93 hHeld ?_
         refine ov 14 94 (fun K hK => ?_)
         refine gk Tryz.func44 (bY.calls _ _ _ _ _ _ _ ?Cd ?Ce Jl.out) ?_
         (case Cd => repeat (first | exact (by repeat (first | (with_reducible exact Du.out) | (with_reducible refine Kd.fV ?_ _) | (with_reducible refine Kd.fU ?_ _) | (with_reducible refine Kd.gU ?_) | exact Du.out)) | (with_reducible refine Kd.fV ?_ _) | (with_reducible refine Kd.fU ?_ _) | (with_reducible refine Kd.gU ?_)))
         (case Ce => exact Ek.out)
         rintro e w' ⟨rfl, ⟨nd, rfl⟩⟩
         refine ⟨_, rfl, ?_⟩
         refine hK.out _ _ ⟨hHeld.1, hHeld.2⟩ (fun hHeld => ?_)
         clear hK K
         refine dn (a' := ?_) ?_ ?_
         rotate_left
         ·show Act.put _ (some 94) _ = _
          simp only [Act.put, z1, z2, z3, bu, bv]
          rfl
         refine pv 15 95 ?_
         refine fF (eF HT_.out (by kernel_rfl)) ?_
         try go_wp2
         go_roundg k3
         case measure => have := Gz.out; have := Ic.out; have := Jg.out; omega
         case rel => exact ⟨(wrap64 (x5_3 + 1)), rs, H', ⟨by have := Gz.out; have := Ic.out; have := Jg.out; omega⟩, ⟨kr Cc.out⟩, ⟨bk Cb.out⟩, ⟨bl⟩⟩
        obtain rfl := Option.some.inj H
        obtain ⟨Jq, Jr, Ir⟩ := Kd.aI Cc.out
        subst Ir
        try go_wp2
        replace Cc := am (Kd.dx Cc.out); replace Cb := am (bB Cb.out); replace HB := am (bg HB.out)
        have Dp : 0 ≤ (x5_3 : Int) := ode
        have Dq : x5_3 < (x3_2.length : Int) := ode
        obtain ⟨Ci, e171, Cf⟩ := Kd.eQ (Kd.af Cc.out).2.2 x5_3 Dp Dq
        cases e171
        replace Dp := eq_true Dp
        replace Dq := eq_true Dq
        refine eH (n := 16) (S := fun w' => w'.cell? (Ci.add (x5_3).toNat) = some (.string (fG ByteArray.empty x3_2 x5_3))) (ds := []) #[F_, F_, F_, F_, F_, F_, F_, F_, F_, F_, F_, F_, F_, F_, F_, F_] (by kernel_rfl) rfl rfl (Cf) (fun hHeld => ?_); refine dJ ai.uy ai.rC (fun HT_ HW_ => ?_)
        generalize wr.drew = w70 at Cc Cb HB Cf hHeld ⊢
        refine pv 0 80 ?_
        refine pv 1 81 ?_
        refine pv 2 82 ?_
        refine lq (i := 3) (N := some 83) (v := ?_) (a' := ?_) #[T_, T_, T_, T_, F_, F_, F_, F_, F_, F_, F_, F_, F_, F_, F_, F_] rfl rfl (iY HT_.out HW_.out (by kernel_rfl)) (fun _ _ _ h => h) (Or.inl ⟨by rfl, ?_⟩) hHeld ?_ ?_
        rotate_left
        ·intro w' s0
         go_simp
         with_reducible rfl
        rotate_left
        ·simp only [Act.put, z1, z2, z3, bu, bv]
         rfl
        refine ov 4 84 (fun K hK => ?_)
        refine gk Tryz.func42 (bn.calls _ _ _ _ Il.out) ?_
        rintro e w71 ⟨rfl, hb⟩
        have HS0_ := (hb.cell (World.block_lt_of_cell? _ _ (hHeld))).trans (hHeld)
        refine ⟨_, rfl, ?_⟩
        refine r2_ hb Cc Cb ?_; clear Cc Cb; intro Cc Cb; replace HB := ho hb
        refine hK.out _ _ (HS0_) (fun hHeld => ?_)
        clear hK K
        refine dn (a' := ?_) ?_ ?_
        rotate_left
        ·show Act.put _ (some 84) _ = _
         simp only [Act.put, z1, z2, z3, bu, bv]
         rfl
        refine pv 5 85 ?_
        refine pv 6 86 ?_
        refine kz (i := 7) (N := some 87) (v := undef) (a' := ?_) #[T_, T_, T_, T_, T_, T_, T_, T_, F_, F_, F_, F_, F_, F_, F_, F_] rfl rfl (jb HT_.out (by kernel_rfl)) (fun _ _ _ h => h) (Or.inr ⟨by rfl, rfl⟩) ?_ ?_
        rotate_left
        ·simp only [Act.put, z1, z2, z3, bu, bv]
         rfl
        refine kz (i := 8) (N := some 88) (v := undef) (a' := ?_) #[T_, T_, T_, T_, T_, T_, T_, T_, T_, F_, F_, F_, F_, F_, F_, F_] rfl rfl (jb HT_.out (by kernel_rfl)) (fun _ _ _ h => h) (Or.inr ⟨by rfl, rfl⟩) ?_ ?_
        rotate_left
        ·simp only [Act.put, z1, z2, z3, bu, bv]
         rfl
        refine kz (i := 9) (N := some 89) (v := undef) (a' := ?_) #[T_, T_, T_, T_, T_, T_, T_, T_, T_, T_, F_, F_, F_, F_, F_, F_] rfl rfl (jb HT_.out (by kernel_rfl)) (fun _ _ _ h => h) (Or.inr ⟨by rfl, rfl⟩) ?_ ?_
        rotate_left
        ·simp only [Act.put, z1, z2, z3, bu, bv]
         rfl
        refine kz (i := 10) (N := some 90) (v := undef) (a' := ?_) #[T_, T_, T_, T_, T_, T_, T_, T_, T_, T_, T_, F_, F_, F_, F_, F_] rfl rfl (jb HT_.out (by kernel_rfl)) (fun _ _ _ h => h) (Or.inr ⟨by rfl, rfl⟩) ?_ ?_
        rotate_left
        ·simp only [Act.put, z1, z2, z3, bu, bv]
         rfl
        refine kz (i := 11) (N := some 91) (v := undef) (a' := ?_) #[T_, T_, T_, T_, T_, T_, T_, T_, T_, T_, T_, T_, F_, F_, F_, F_] rfl rfl (jb HT_.out (by kernel_rfl)) (fun _ _ _ h => h) (Or.inr ⟨by rfl, rfl⟩) ?_ ?_
        rotate_left
        ·simp only [Act.put, z1, z2, z3, bu, bv]
         rfl
        refine kz (i := 12) (N := some 92) (v := undef) (a' := ?_) #[T_, T_, T_, T_, T_, T_, T_, T_, T_, T_, T_, T_, T_, F_, F_, F_] rfl rfl (jb HT_.out (by kernel_rfl)) (fun _ _ _ h => h) (Or.inr ⟨by rfl, rfl⟩) ?_ ?_
        rotate_left
        ·simp only [Act.put, z1, z2, z3, bu, bv]
         rfl
        refine kz (i := 13) (N := some 93) (v := undef) (a' := ?_) #[T_, T_, T_, T_, T_, T_, T_, T_, T_, T_, T_, T_, T_, T_, F_, F_] rfl rfl (jb HT_.out (by kernel_rfl)) (fun _ _ _ h => h) (Or.inr ⟨by rfl, rfl⟩) ?_ ?_
        rotate_left
        ·simp only [Act.put, z1, z2, z3, bu, bv]
         rfl
        refine kz (i := 14) (N := some 94) (v := undef) (a' := ?_) #[T_, T_, T_, T_, T_, T_, T_, T_, T_, T_, T_, T_, T_, T_, T_, F_] rfl rfl (jb HT_.out (by kernel_rfl)) (fun _ _ _ h => h) (Or.inr ⟨by rfl, rfl⟩) ?_ ?_
        rotate_left
        ·simp only [Act.put, z1, z2, z3, bu, bv]
         rfl
        refine pv 15 95 ?_
        refine fF (eF HT_.out (by kernel_rfl)) ?_
        try go_wp2
        go_ret
        exact ⟨er, bl⟩
       revert H; refine bj fun t168 Iu H => ?_
       replace H := iT H; rcases H with ⟨rfl, H⟩ | ⟨rfl, H⟩
       ·revert H; refine bj fun t169 Jm H => ?_
        replace H := iT H; rcases H with ⟨rfl, H⟩ | ⟨rfl, H⟩
        ·revert H; refine bj fun t170 Js H => ?_
         obtain rfl := Option.some.inj H
         obtain ⟨Jt, Ju, Iw⟩ := Kd.aI Cc.out
         subst Iw
         have Kq := dD Cb.out
         go_wp2_with (first | ((with_reducible refine c_ 45 ?_); refine gc 45 (some 98) Tryz.func45 (cz.calls _ _ _ _ _ _ ?Cd ?Ce Iu.out) ?_; (case Cd => exact cb Ed.out); (case Ce => exact Ee.out); rintro e w79 ⟨rfl, hb⟩; refine ⟨_, rfl, ?_⟩; refine r2_ hb Cc Cb ?_; clear Cc Cb; intro Cc Cb; replace HB := ho hb; clear hb; have Kr := dD Cb.out) | (go_at_call 45; (with_reducible refine (cz.calls _ _ _ _ _ _ ?Cd ?Ce Jm.out).mono ?_); (case Cd => exact cb En.out); (case Ce => exact Eo.out); rintro e w81 ⟨rfl, hb⟩; refine r2_ hb Cc Cb ?_; clear Cc Cb; intro Cc Cb; replace HB := ho hb; clear hb; have Ks := dD Cb.out) | (go_at_call 45; (with_reducible refine (cz.calls _ _ _ _ _ _ ?Cd ?Ce Js.out).mono ?_); (case Cd => exact cb Gi.out); (case Ce => exact Gj.out); rintro e w83 ⟨rfl, hb⟩; refine r2_ hb Cc Cb ?_; clear Cc Cb; intro Cc Cb; replace HB := ho hb; clear hb))
         go_ret
         exact ⟨er, bl⟩
        obtain rfl := Option.some.inj H
        obtain ⟨Jv, Jw, Ix⟩ := Kd.aI Cc.out
        subst Ix
        have Kt := dD Cb.out
        go_wp2_with (first | ((with_reducible refine c_ 45 ?_); refine gc 45 (some 98) Tryz.func45 (cz.calls _ _ _ _ _ _ ?Cd ?Ce Iu.out) ?_; (case Cd => exact cb Ed.out); (case Ce => exact Ee.out); rintro e w86 ⟨rfl, hb⟩; refine ⟨_, rfl, ?_⟩; refine r2_ hb Cc Cb ?_; clear Cc Cb; intro Cc Cb; replace HB := ho hb; clear hb; have Ku := dD Cb.out) | (go_at_call 45; (with_reducible refine (cz.calls _ _ _ _ _ _ ?Cd ?Ce Jm.out).mono ?_); (case Cd => exact cb En.out); (case Ce => exact Eo.out); rintro e w88 ⟨rfl, hb⟩; refine r2_ hb Cc Cb ?_; clear Cc Cb; intro Cc Cb; replace HB := ho hb; clear hb))
        go_ret
        exact ⟨er, bl⟩
       obtain rfl := Option.some.inj H
       obtain ⟨Jx, Jy, Iy⟩ := Kd.aI Cc.out
       subst Iy
       have Kv := dD Cb.out
       go_wp2_with (first | ((with_reducible refine c_ 45 ?_); refine gc 45 (some 98) Tryz.func45 (cz.calls _ _ _ _ _ _ ?Cd ?Ce Iu.out) ?_; (case Cd => exact cb Ed.out); (case Ce => exact Ee.out); rintro e w91 ⟨rfl, hb⟩; refine ⟨_, rfl, ?_⟩; refine r2_ hb Cc Cb ?_; clear Cc Cb; intro Cc Cb; replace HB := ho hb; clear hb))
       go_ret
       exact ⟨er, bl⟩
mutual
def aQ.j0 : Nat → List ByteArray → Bool → List (S58) → Int → Int → Int → Int → Option ((List (S60)) × Int × Int × Int × Int)
 | 0, _, _, _, _, _, _, _ => none
 | k + 1, x5, x24, x181000, x181001, x181002, x181003, x181004 => if x24 = true then (some (([] : List (S60)), 0, 0, 0, 0)) else (aQ.l0 k x5 0 x181000 x181001 x181002 x181003 x181004 ([] : List (S60)) x181001 x181002 x181003 x181004)
def aQ.l0 : Nat → List ByteArray → Int → List (S58) → Int → Int → Int → Int → List (S60) → Int → Int → Int → Int → Option ((List (S60)) × Int × Int × Int × Int)
 | 0, _, _, _, _, _, _, _, _, _, _, _, _ => none
 | k + 1, x5, x7, x181000, x181001, x181002, x181003, x181004, x193000, x193001, x193002, x193003, x193004 => if x7 < (x181000.length : Int) then (if 0 ≤ x7 then (if ((aD x181000 x7).f0) < 0 then (some (([] : List (S60)), 0, 0, 0, 0)) else (if ((aD x181000 x7).f1) < 0 then (some (([] : List (S60)), 0, 0, 0, 0)) else (if ((aD x181000 x7).f0) ≥ (x5.length : Int) then (some (([] : List (S60)), 0, 0, 0, 0)) else (if ((aD x181000 x7).f1) ≥ (x5.length : Int) then (some (([] : List (S60)), 0, 0, 0, 0)) else (if 0 ≤ ((aD x181000 x7).f0) then (if ((aD x181000 x7).f0) < (x5.length : Int) then (if 0 ≤ ((aD x181000 x7).f1) then (if ((aD x181000 x7).f1) < (x5.length : Int) then (if x193000.length < 3518437208883 then (aQ.l0 k x5 (wrap64 (x7 + 1)) x181000 x181001 x181002 x181003 x181004 (x193000 ++ [(⟨fG ByteArray.empty x5 ((aD x181000 x7).f0), fG ByteArray.empty x5 ((aD x181000 x7).f1), (aD x181000 x7).f2⟩ : S60)]) x193001 x193002 x193003 x193004) else (none)) else (none)) else (none)) else (none)) else (none)))))) else (none)) else (some (x193000, x193001, x193002, x193003, x193004))
end
def aQ.f (k : Nat) (a0_0 : ByteArray) (a0_1 : Int) (l0_2 : List ByteArray) (l0_3 : List ByteArray) (l0_4 : List (S83)) (l0_5 : List (S88)) (l0_6 : List (S88)) (l0_7 : List (S88)) (l1_0 : List (S58)) (a1_1 : Int) (a1_2 : Int) (a1_3 : Int) (a1_4 : Int) : Option ((List (S60)) × Int × Int × Int × Int) := (some (([] : List ByteArray) : List ByteArray)).bind fun y182 => (if y182.length + l0_3.length < 8796093022208 then ((some (y182 ++ l0_3 : List ByteArray)).bind fun y185 => (if y185.length + l0_2.length < 8796093022208 then ((some (y185 ++ l0_2 : List ByteArray)).bind fun y188 => ((ai.f k a0_0 a0_1 l0_2 l0_3 l0_4 l0_5 l0_6 l0_7).bind fun t191 => (if t191 = true then (aQ.j0 k y188 (decide ((l1_0.length : Int) > 20)) l1_0 a1_1 a1_2 a1_3 a1_4) else (aQ.j0 k y188 true l1_0 a1_1 a1_2 a1_3 a1_4)))) else (none))) else (none))
theorem aQ.bI : ∀ k, (∀ y0 y1 y2 y3 y4 y5 y6, LeO (aQ.j0 k y0 y1 y2 y3 y4 y5 y6) (aQ.j0 (k + 1) y0 y1 y2 y3 y4 y5 y6)) ∧ (∀ y0 y1 y2 y3 y4 y5 y6 y7 y8 y9 y10 y11, LeO (aQ.l0 k y0 y1 y2 y3 y4 y5 y6 y7 y8 y9 y10 y11) (aQ.l0 (k + 1) y0 y1 y2 y3 y4 y5 y6 y7 y8 y9 y10 y11))
 | 0 => ⟨fun _ _ _ _ _ _ _ r h => by simp [aQ.j0] at h, fun _ _ _ _ _ _ _ _ _ _ _ _ r h => by simp [aQ.l0] at h⟩
 | k + 1 => by
  obtain ⟨ih0, ih1⟩ := aQ.bI k
  refine ⟨?_, ?_⟩
  ·intro y0 y1 y2 y3 y4 y5 y6
   unfold aQ.j0
   repeat' (with_reducible first | exact ih0 .. | exact ih1 .. | exact ai.mono .. | exact LeO.refl _ | exact LeO.none _ | refine LeO.ite ?_ ?_ | refine LeO.bind ?_ (fun _ => ?_))
  intro y0 y1 y2 y3 y4 y5 y6 y7 y8 y9 y10 y11
  unfold aQ.l0
  repeat' (with_reducible first | exact ih0 .. | exact ih1 .. | exact ai.mono .. | exact LeO.refl _ | exact LeO.none _ | refine LeO.ite ?_ ?_ | refine LeO.bind ?_ (fun _ => ?_))
theorem aQ.mono : ∀ a0 a1 a2 a3 a4 a5 a6 a7 a8 a9 a10 a11 a12 k, LeO (aQ.f k a0 a1 a2 a3 a4 a5 a6 a7 a8 a9 a10 a11 a12) (aQ.f (k + 1) a0 a1 a2 a3 a4 a5 a6 a7 a8 a9 a10 a11 a12) := by
 intro a0 a1 a2 a3 a4 a5 a6 a7 a8 a9 a10 a11 a12 k
 obtain ⟨ih0, ih1⟩ := aQ.bI k
 unfold aQ.f
 repeat' (with_reducible first | exact ih0 .. | exact ih1 .. | exact ai.mono .. | exact LeO.refl _ | exact LeO.none _ | refine LeO.ite ?_ ?_ | refine LeO.bind ?_ (fun _ => ?_))
def aQ.T1 : Bool × List (List Nat × List Nat) := (true, [([], []), ([], []), ([1], [1]), ([0, 2], [0, 2]), ([], []), ([4], [4]), ([3, 5, 3], [3, 5]), ([6, 6, 0, 1, 2, 3, 4, 5, 6], [6])])
def aQ.B1 : List Nat := [0, 0, 2, 7, 0, 16, 63, 127]
theorem aQ.uz : iy .any (opsOf Tryz.f6 1) = aQ.T1 := by kernel_rfl
theorem aQ.qD : gm aQ.T1.2 aQ.B1 = true := by kernel_rfl
def aQ.T11 : Bool × List (List Nat × List Nat) := (true, [([], []), ([0], [0]), ([], []), ([], []), ([3], [3]), ([2, 4], [2, 4]), ([5], [5]), ([], []), ([], []), ([8], [8]), ([7, 9], [7, 9]), ([10], [10]), ([], []), ([12], [12]), ([6, 11, 13], [6, 11, 13]), ([14], [14]), ([1, 15], [1, 15]), ([0, 1, 2, 3, 4, 5, 6, 7, 8, 9, 10, 11, 12, 13, 14, 15, 16], []), ([17, 16, 16, 0, 1, 2, 3, 4, 5, 6, 7, 8, 9, 10, 11, 12, 13, 14, 15, 16], [16, 17])])
def aQ.B11 : List Nat := [0, 1, 0, 0, 8, 28, 60, 0, 0, 256, 896, 1920, 0, 4096, 16380, 32764, 65535, 131071, 262143]
theorem aQ.mZ : iy .any (opsOf Tryz.f6 11) = aQ.T11 := by kernel_rfl
theorem aQ.kW : gm aQ.T11.2 aQ.B11 = true := by kernel_rfl
set_option maxHeartbeats 8000000 in
set_option maxRecDepth 100000 in
theorem aQ.calls (k : Nat) (a0_0 : ByteArray) (a0_1 : Int) (A0_2 : Option Addr) (c0_2 : Nat) (l0_2 : List ByteArray) (A0_3 : Option Addr) (c0_3 : Nat) (l0_3 : List ByteArray) (A0_4 : Option Addr) (c0_4 : Nat) (l0_4 : List (S83)) (A0_5 : Option Addr) (c0_5 : Nat) (l0_5 : List (S88)) (A0_6 : Option Addr) (c0_6 : Nat) (l0_6 : List (S88)) (A0_7 : Option Addr) (c0_7 : Nat) (l0_7 : List (S88)) (A1_0 : Option Addr) (c1_0 : Nat) (l1_0 : List (S58)) (a1_1 : Int) (a1_2 : Int) (a1_3 : Int) (a1_4 : Int) (r1 : List (S60)) (r2 : Int) (r3 : Int) (r4 : Int) (r5 : Int) (w : World) (hr0_2 : Kd.C Kd.string w A0_2 l0_2.length l0_2) (hc0_2 : l0_2.length ≤ c0_2) (hr0_3 : Kd.C Kd.string w A0_3 l0_3.length l0_3) (hc0_3 : l0_3.length ≤ c0_3) (hr0_4 : Kd.C k83 w A0_4 l0_4.length l0_4) (hc0_4 : l0_4.length ≤ c0_4) (hr0_5 : Kd.C k88 w A0_5 l0_5.length l0_5) (hc0_5 : l0_5.length ≤ c0_5) (hr0_6 : Kd.C k88 w A0_6 l0_6.length l0_6) (hc0_6 : l0_6.length ≤ c0_6) (hr0_7 : Kd.C k88 w A0_7 l0_7.length l0_7) (hc0_7 : l0_7.length ≤ c0_7) (hr1_0 : Kd.C k58 w A1_0 l1_0.length l1_0) (hc1_0 : l1_0.length ≤ c1_0) (h : aQ.f k a0_0 a0_1 l0_2 l0_3 l0_4 l0_5 l0_6 l0_7 l1_0 a1_1 a1_2 a1_3 a1_4 = some (r1, r2, r3, r4, r5)) :
  Calls Tryz.prog 6 #[.agg #[.string a0_0, .int .i64 a0_1, .slice A0_2 l0_2.length c0_2, .slice A0_3 l0_3.length c0_3, .slice A0_4 l0_4.length c0_4, .slice A0_5 l0_5.length c0_5, .slice A0_6 l0_6.length c0_6, .slice A0_7 l0_7.length c0_7], .agg #[.slice A1_0 l1_0.length c1_0, .int .i64 a1_1, .int .i64 a1_2, .int .i64 a1_3, .int .i64 a1_4]] w fun e w' => ∃ v0_ : Value, e = .returned (.agg #[v0_, .int .i64 r2, .int .i64 r3, .int .i64 r4, .int .i64 r5]) ∧ Kd.R k60 60 w' w.heap.size (fun _ => True) v0_ r1 ∧ Below w.heap.size w w' := by
 have hu39 := Tryz.underlying39
 have hu43 := Tryz.underlying43
 have hu34 := Tryz.underlying34
 have hu58 := Tryz.underlying58
 have hu60 := Tryz.underlying60
 have Gg := am hr0_2
 have Gv := am hc0_2
 clear hr0_2 hc0_2
 have Gh := am hr0_3
 have Gw := am hc0_3
 clear hr0_3 hc0_3
 have Gx := am hr0_4
 have Gy := am hc0_4
 clear hr0_4 hc0_4
 have Gz := am hr0_5
 have Ia := am hc0_5
 clear hr0_5 hc0_5
 have Ib := am hr0_6
 have Ic := am hc0_6
 clear hr0_6 hc0_6
 have Ie := am hr0_7
 have Ig := am hc0_7
 clear hr0_7 hc0_7
 have Ep := am hr1_0
 have La := am hc1_0
 clear hr1_0 hc1_0
 have HB := am (Below.refl w.heap.size w)
 have H := h
 clear h
 unfold aQ.f at H
 generalize h_ : ((([] : List ByteArray)) : List ByteArray) = y182 at H
 have Ih := am h_.symm; clear h_; try rw [Option.bind_some] at H
 revert H; refine i0 fun c3 H => ?_
 have LMc3 := am c3; clear c3
 generalize h_ : ((y182 ++ l0_3) : List ByteArray) = y185 at H
 have Ip := am h_.symm; clear h_; try rw [Option.bind_some] at H
 revert H; refine i0 fun c4 H => ?_
 have LMc4 := am c4; clear c4
 generalize h_ : ((y185 ++ l0_2) : List ByteArray) = y188 at H
 have Iq := am h_.symm; clear h_; try rw [Option.bind_some] at H
 have Jt := am H; clear H
 go_enter Tryz.func6, Tryz.ntmps6
 try go_wp2_with (first | ((with_reducible refine dH (N := 2) rfl ?_); (try (refine dz (by rfl) ?_; dsimp only)); refine dR ?hg (N := 2) ?hd (cs := #[.string a0_0, .int .i64 a0_1, .slice A0_2 l0_2.length c0_2, .slice A0_3 l0_3.length c0_3, .slice A0_4 l0_4.length c0_4, .slice A0_5 l0_5.length c0_5, .slice A0_6 l0_6.length c0_6, .slice A0_7 l0_7.length c0_7]) (t := 39) ?hr ?_; (case hd => rfl); (case hg => rfl); (case hr => first | (go_simp; done) | (go_simp; rfl)); intro Ej hg w6 hbox hb; have Cc := am hbox; have Ir := am (bsz hg : w.heap.size ≤ Ej); have Lc := Ir; replace HB := ho hb; clear hb hbox hg) | ((with_reducible refine dH (N := 3) rfl ?_); (try (refine dz (by rfl) ?_; dsimp only)); refine dR ?hg (N := 3) ?hd (cs := #[.slice A1_0 l1_0.length c1_0, .int .i64 a1_1, .int .i64 a1_2, .int .i64 a1_3, .int .i64 a1_4]) (t := 43) ?hr ?_; (case hd => rfl); (case hg => rfl); (case hr => first | (go_simp; done) | (go_simp; rfl)); intro Em hg w7 hbox hb; have Ce := am hbox; have Iu := am (bsz hg : w.heap.size ≤ Em); have Ld := Iu; have Di := no hg Cc; have Dt := am Di.out.symm; replace Cc := bo Cc hb; replace HB := ho hb; clear hb hbox hg) | ((with_reducible refine dH (N := 4) rfl ?_); (try (refine dz (by rfl) ?_; dsimp only)); refine dR ?hg (N := 4) ?hd (cs := #[.slice none 0 0, .int .i64 0, .int .i64 0, .int .i64 0, .int .i64 0]) (t := 34) ?hr ?_; (case hd => rfl); (case hg => rfl); (case hr => first | (go_simp; done) | (go_simp; rfl)); intro Ee hg w8 hbox hb; have Cd := am hbox; have Iw := am (bsz hg : w.heap.size ≤ Ee); have Lh := Iw; have Du := no hg Cc; have Ea := am Du.out.symm; replace Cc := bo Cc hb; have Dj := no hg Ce; have Dv := am Dj.out.symm; replace Ce := bo Ce hb; replace HB := ho hb; clear hb hbox hg))
 replace Cc := am (bB Cc.out); replace Ce := am (bB Ce.out); replace Cd := am (bB Cd.out); replace HB := am (bg HB.out)
 refine eH (n := 8) (S := Sb8 Ej (.string a0_0) (.int .i64 a0_1) (.slice A0_2 l0_2.length c0_2) (.slice A0_3 l0_3.length c0_3) (.slice A0_4 l0_4.length c0_4) (.slice A0_5 l0_5.length c0_5) (.slice A0_6 l0_6.length c0_6) (.slice A0_7 l0_7.length c0_7)) (ds := []) #[F_, F_, F_, F_, F_, F_, F_, F_] (by kernel_rfl) rfl rfl ⟨(ae Cc.out 0).trans rfl, (ae Cc.out 1).trans rfl, (ae Cc.out 2).trans rfl, (ae Cc.out 3).trans rfl, (ae Cc.out 4).trans rfl, (ae Cc.out 5).trans rfl, (ae Cc.out 6).trans rfl, (ae Cc.out 7).trans rfl⟩ (fun hHeld => ?_); refine dJ aQ.uz aQ.qD (fun HT_ HW_ => ?_)
 generalize w8.drew = w9 at Cc Ce Cd HB hHeld ⊢
 refine pv 1 10 ?_
 refine pv 4 13 ?_
 refine tv8 2 11 hHeld ?_
 refine tv8 5 14 hHeld ?_
 refine ov 0 9 (fun K hK => ?_)
 refine Kd.oq Kd.string _ 9 ?hg (N := 9) ?hd (xs := ([] : List ByteArray)) (inner := []) (ok := fun _ => True) (okp := fun _ => True) ?hr ?hp (fun _ hk => hk) trivial (Below.refl _ _) (Nat.le_refl _) (by simp) ?_; (case hd => rfl); (case hg => rfl); (case hr => first | (go_simp; done) | (go_simp; rfl)); (case hp => exact (dw.none _ _))
 intro v183 w10 ho11 hb hg_ hnew_
 clear hg_ hnew_
 (first | rw [← Ih.out] at ho11 | (simp only [Int.reduceToNat] at ho11; rw [← Ih.out] at ho11))
 have Es := am (Kd.bz ho11 (az bl)); refine r3_ hb Cc Ce Cd ?_; clear Cc Ce Cd; intro Cc Ce Cd; replace HB := ho hb
 clear hb ho11
 refine hK.out _ _ (gQ Cc.out) (fun hHeld => ?_)
 clear hK K
 refine dn (a' := ?_) ?_ ?_
 rotate_left
 ·show Act.put _ (some 9) _ = _
  simp only [Act.put, z1, z2, z3, bu, bv]
  rfl
 refine ov 3 12 (fun K hK => ?_)
 refine Kd.ig Kd.string (w0 := w) w.heap.size (by rfl) (.tmp 9) (.tmp 11) 22 9 (.string ⟨#[]⟩) 16 rfl Tryz.underlying22 jq rfl (by decide) (by omega) v183 y182 l0_3 _ _ _ (fun _ => True) (fun _ => False) rfl rfl ?aO ?aR (fun _ _ h => h) (fun _ h => h.elim) ?aF ?aB ?aS ?aL ?_
 (case aR => repeat (first | exact (Kd.dK Gh.out HB.out) | (with_reducible refine Kd.fV ?_ _) | (with_reducible refine Kd.fU ?_ _) | (with_reducible refine Kd.gU ?_)))
 (case aB => exact bl)
 (case aF => exact (fun _ _ => trivial))
 (case aO => exact (kr Es.out))
 (case aS => exact (az bl))
 (case aL => have := LMc3.out; omega)
 intro v186 w12 ho hb hg hat
 rw [← Ip.out] at ho
 have n0_ := am (dN (g := Ej) (o := .cells #[.string a0_0, .int .i64 a0_1, .slice A0_2 l0_2.length c0_2, .slice A0_3 l0_3.length c0_3, .slice A0_4 l0_4.length c0_4, .slice A0_5 l0_5.length c0_5, .slice A0_6 l0_6.length c0_6, .slice A0_7 l0_7.length c0_7] 39 (0, 0)) (bk Cc.out) hg (Kd.eG Es.out Cc.out (by decide)))
 have n1_ := am (dN (g := Em) (o := .cells #[.slice A1_0 l1_0.length c1_0, .int .i64 a1_1, .int .i64 a1_2, .int .i64 a1_3, .int .i64 a1_4] 43 (0, 0)) (bk Ce.out) hg (Kd.eG Es.out Ce.out (by decide)))
 have n2_ := am (dN (g := Ee) (o := .cells #[.slice none 0 0, .int .i64 0, .int .i64 0, .int .i64 0, .int .i64 0] 34 (0, 0)) (bk Cd.out) hg (Kd.eG Es.out Cd.out (by decide)))
 have n3_ := am (hb)
 have n4_ := am (ho)
 clear Cc
 clear Ce
 clear Cd
 clear HB
 clear Es
 have Cc := n0_
 have Ce := n1_
 have Cd := n2_
 have HB := n3_
 have Et := n4_
 clear n0_ n1_ n2_ n3_ n4_
 clear ho hb hg hat
 refine hK.out _ _ (gQ Cc.out) (fun hHeld => ?_)
 clear hK K
 refine dn (a' := ?_) ?_ ?_
 rotate_left
 ·show Act.put _ (some 12) _ = _
  simp only [Act.put, z1, z2, z3, bu, bv]
  rfl
 refine ov 6 15 (fun K hK => ?_)
 refine Kd.ig Kd.string (w0 := w) w.heap.size (by rfl) (.tmp 12) (.tmp 14) 22 9 (.string ⟨#[]⟩) 16 rfl Tryz.underlying22 jq rfl (by decide) (by omega) v186 y185 l0_2 _ _ _ (fun _ => True) (fun _ => False) rfl rfl ?aO ?aR (fun _ _ h => h) (fun _ h => h.elim) ?aF ?aB ?aS ?aL ?_
 (case aR => repeat (first | exact (Kd.dK Gg.out HB.out) | (with_reducible refine Kd.fV ?_ _) | (with_reducible refine Kd.fU ?_ _) | (with_reducible refine Kd.gU ?_)))
 (case aB => exact bl)
 (case aF => exact (fun _ _ => trivial))
 (case aO => exact (kr Et.out))
 (case aS => exact (az bl))
 (case aL => have := LMc4.out; omega)
 intro v189 w13 ho hb hg hat
 rw [← Iq.out] at ho
 have n0_ := am (dN (g := Ej) (o := .cells #[.string a0_0, .int .i64 a0_1, .slice A0_2 l0_2.length c0_2, .slice A0_3 l0_3.length c0_3, .slice A0_4 l0_4.length c0_4, .slice A0_5 l0_5.length c0_5, .slice A0_6 l0_6.length c0_6, .slice A0_7 l0_7.length c0_7] 39 (0, 0)) (bk Cc.out) hg (Kd.eG Et.out Cc.out (by decide)))
 have n1_ := am (dN (g := Em) (o := .cells #[.slice A1_0 l1_0.length c1_0, .int .i64 a1_1, .int .i64 a1_2, .int .i64 a1_3, .int .i64 a1_4] 43 (0, 0)) (bk Ce.out) hg (Kd.eG Et.out Ce.out (by decide)))
 have n2_ := am (dN (g := Ee) (o := .cells #[.slice none 0 0, .int .i64 0, .int .i64 0, .int .i64 0, .int .i64 0] 34 (0, 0)) (bk Cd.out) hg (Kd.eG Et.out Cd.out (by decide)))
 have n3_ := am (hb)
 have n4_ := am (ho)
 clear Cc
 clear Ce
 clear Cd
 clear HB
 clear Et
 have Cc := n0_
 have Ce := n1_
 have Cd := n2_
 have HB := n3_
 have Ek := n4_
 clear n0_ n1_ n2_ n3_ n4_
 clear ho hb hg hat
 refine hK.out _ _ (gQ Cc.out) (fun hHeld => ?_)
 clear hK K
 refine dn (a' := ?_) ?_ ?_
 rotate_left
 ·show Act.put _ (some 15) _ = _
  simp only [Act.put, z1, z2, z3, bu, bv]
  rfl
 refine pv 7 5 ?_
 refine fF (eF HT_.out (by kernel_rfl)) ?_
 go_upto_region 2 with (fail)
 go_cut [24] (fun v24 wc => ∃ (kq : Nat) (x24_4 : Bool), v24 = .bool x24_4 ∧ aa (aQ.j0 kq y188 x24_4 l1_0 a1_1 a1_2 a1_3 a1_4 = some (r1, r2, r3, r4, r5)) ∧ aa (kq ≤ k) ∧ aa (Kd.R Kd.string 9 wc w.heap.size (fun _ => True) v189 y188) ∧ aa (wc.heap[Ej]? = some (.cells #[.string a0_0, .int .i64 a0_1, (.slice A0_2 l0_2.length c0_2), (.slice A0_3 l0_3.length c0_3), (.slice A0_4 l0_4.length c0_4), (.slice A0_5 l0_5.length c0_5), (.slice A0_6 l0_6.length c0_6), (.slice A0_7 l0_7.length c0_7)] 39 (0, 0))) ∧ aa (wc.heap[Em]? = some (.cells #[(.slice A1_0 l1_0.length c1_0), .int .i64 a1_1, .int .i64 a1_2, .int .i64 a1_3, .int .i64 a1_4] 43 (0, 0))) ∧ aa (wc.heap[Ee]? = some (.cells #[(.slice none 0 0), .int .i64 0, .int .i64 0, .int .i64 0, .int .i64 0] 34 (0, 0))) ∧ aa (Below w.heap.size w wc))
 case first =>
  have H := Jt.out
  clear Jt
  revert H; refine bj fun t191 Lj H => ?_
  replace H := iT H; rcases H with ⟨rfl, H⟩ | ⟨rfl, H⟩
  ·have H' := am H; clear H
   have Ll := Di.out
   have Lm := Dt.out
   have Ln := Du.out
   have Lp := Ea.out
   have Sf := dD Cc.out
   go_wp2_with (first | ((with_reducible refine c_ 21 ?_); refine gc 21 (some 17) Tryz.func21 (ai.calls _ _ _ _ _ _ _ _ _ _ _ _ _ _ _ _ _ _ _ _ _ _ _ ?Gi ?Gj ?Gk ?Gl ?Gm ?Gn ?Gp ?Gq ?Gs ?Eu ?Ew ?Ey Lj.out) ?_; (case Gi => exact cb Gg.out); (case Gj => exact Gv.out); (case Gk => exact cb Gh.out); (case Gl => exact Gw.out); (case Gm => exact cb Gx.out); (case Gn => exact Gy.out); (case Gp => exact cb Gz.out); (case Gq => exact Ia.out); (case Gs => exact cb Ib.out); (case Eu => exact Ic.out); (case Ew => exact cb Ie.out); (case Ey => exact Ig.out); rintro e w19 ⟨rfl, hb⟩; refine ⟨_, rfl, ?_⟩; refine r4_ hb Ek Cc Ce Cd ?_; clear Ek Cc Ce Cd; intro Ek Cc Ce Cd; replace HB := ho hb; clear hb; have Lq := Dj.out; have Lr := Dv.out; have Sg := dG Ce.out))
   go_meet
   case rel => exact ⟨_, (decide ((l1_0.length : Int) > 20)), rs, H', ⟨by first | omega | exact Nat.le_refl _⟩, ⟨kr Ek.out⟩, ⟨bk Cc.out⟩, ⟨bk Ce.out⟩, ⟨bk Cd.out⟩, ⟨bl⟩⟩
  have H' := am H; clear H
  have Ls := Di.out
  have Lu := Dt.out
  have Ly := Du.out
  have Ma := Ea.out
  have Si := dD Cc.out
  go_wp2_with (first | ((with_reducible refine c_ 21 ?_); refine gc 21 (some 17) Tryz.func21 (ai.calls _ _ _ _ _ _ _ _ _ _ _ _ _ _ _ _ _ _ _ _ _ _ _ ?Gi ?Gj ?Gk ?Gl ?Gm ?Gn ?Gp ?Gq ?Gs ?Eu ?Ew ?Ey Lj.out) ?_; (case Gi => exact cb Gg.out); (case Gj => exact Gv.out); (case Gk => exact cb Gh.out); (case Gl => exact Gw.out); (case Gm => exact cb Gx.out); (case Gn => exact Gy.out); (case Gp => exact cb Gz.out); (case Gq => exact Ia.out); (case Gs => exact cb Ib.out); (case Eu => exact Ic.out); (case Ew => exact cb Ie.out); (case Ey => exact Ig.out); rintro e w25 ⟨rfl, hb⟩; refine ⟨_, rfl, ?_⟩; refine r4_ hb Ek Cc Ce Cd ?_; clear Ek Cc Ce Cd; intro Ek Cc Ce Cd; replace HB := ho hb; clear hb))
  go_meet
  case rel => exact ⟨_, (true), rs, H', ⟨by first | omega | exact Nat.le_refl _⟩, ⟨kr Ek.out⟩, ⟨bk Cc.out⟩, ⟨bk Ce.out⟩, ⟨bk Cd.out⟩, ⟨bl⟩⟩
 case rest =>
  clear Jt
  try clear c3; try clear c4
  obtain ⟨kq, x24_4, rfl, HA, Mc, Dw, Cc, Ce, Cd, HB⟩ := hcut
  cases kq with
  | zero => exact absurd HA.out (by simp [aQ.j0])
  | succ kj4 =>
   have H := HA.out
   clear HA
   simp only [aQ.j0] at H
   replace H := iT H; rcases H with ⟨rfl, H⟩ | ⟨rfl, H⟩
   ·simp only [Option.some.injEq, Prod.mk.injEq] at H
    obtain ⟨rfl, rfl, rfl, rfl, rfl⟩ := H
    have Md := Ea.out
    have Me := Du.out
    have Mj := Dv.out
    have Mo := Dj.out
    have Sj := dG Cd.out
    go_wp2
    refine bodyPost_ret (results_cell_row rfl _ _ Ee 34 #[.slice none 0 0, .int .i64 0, .int .i64 0, .int .i64 0, .int .i64 0] (0, 0) _ rfl (bp Cd.out) Tryz.underlying34 rfl (by kernel_rfl)) rfl ?_
    exact ⟨_, er, by first | exact Kd.je _ _ _ _ _ | exact Kd.jY _ _ _ _ _ | exact Kd.jU _ _ _ _ _ | exact Kd.jX _ _ _ _ _ | exact Kd.jV _ _ _ _ _, bl⟩
   have H' := am H; clear H
   have Mp := Dt.out
   have Mq := Di.out
   have Mv := Dj.out
   have My := Dv.out
   have Rm := dG Ce.out
   go_wp2_with (first | ((with_reducible refine dH (N := 6) rfl ?_); (try (refine dz (by rfl) ?_; dsimp only)); refine dR ?hg (N := 6) ?hd (cs := #[.slice none 0 0, .int .i64 0, .int .i64 0, .int .i64 0, .int .i64 0]) (t := 34) ?hr ?_; (case hd => rfl); (case hg => rfl); (case hr => first | (go_simp; done) | (go_simp; rfl)); intro En hg w33 hbox hb; replace Dw := ro Dw hb; have Ci := am hbox; have Ix := am (bsz hg : w.heap.size ≤ En); have Na := Ix; have Ed := no hg Cc; have Ei := am Ed.out.symm; replace Cc := bo Cc hb; have Df := no hg Ce; have Eb := am Df.out.symm; replace Ce := bo Ce hb; have Dk := no hg Cd; have Ec := am Dk.out.symm; replace Cd := bo Cd hb; replace HB := ho hb; clear hb hbox hg; have Nb := Ei.out; have Nc := Ed.out; have Nh := Eb.out; have Nl := Df.out; have Np := Ec.out; have Nr := Dk.out; have Rn := dG Ci.out))
   go_loopg [7] kj4 (fun kq v7 w' => ∃ (x7_2 : Int) (x182001_2 : Int) (x182002_2 : Int) (x182003_2 : Int) (x182004_2 : Int) (x193000_2 : List (S60)) (u193000 : Value), v7 = .int .i64 x7_2 ∧ aa (aQ.l0 kq y188 x7_2 l1_0 a1_1 a1_2 a1_3 a1_4 x193000_2 a1_1 a1_2 a1_3 a1_4 = some (r1, r2, r3, r4, r5)) ∧ aa (kq ≤ kj4) ∧ aa (Kd.R Kd.string 9 w' w.heap.size (fun _ => True) v189 y188) ∧ aa (Kd.R k60 60 w' w.heap.size (fun _ => True) u193000 x193000_2) ∧ aa (w'.heap[Ej]? = some (.cells #[.string a0_0, .int .i64 a0_1, (.slice A0_2 l0_2.length c0_2), (.slice A0_3 l0_3.length c0_3), (.slice A0_4 l0_4.length c0_4), (.slice A0_5 l0_5.length c0_5), (.slice A0_6 l0_6.length c0_6), (.slice A0_7 l0_7.length c0_7)] 39 (0, 0))) ∧ aa (w'.heap[Em]? = some (.cells #[(.slice A1_0 l1_0.length c1_0), .int .i64 a1_1, .int .i64 a1_2, .int .i64 a1_3, .int .i64 a1_4] 43 (0, 0))) ∧ aa (w'.heap[Ee]? = some (.cells #[(.slice none 0 0), .int .i64 x182001_2, .int .i64 x182002_2, .int .i64 x182003_2, .int .i64 x182004_2] 34 (0, 0))) ∧ aa (w'.heap[En]? = some (.cells #[u193000, .int .i64 a1_1, .int .i64 a1_2, .int .i64 a1_3, .int .i64 a1_4] 34 (0, 0))) ∧ aa (Below w.heap.size w w'))
   case atStart => exact ⟨(0), (0), (0), (0), (0), (([] : List (S60))), (.slice none 0 0), rs, H', ⟨Nat.le_refl _⟩, ⟨by exact Kd.ax (eU (Kd.aG Dw.out Ci.out (by decide))) (fun _ hk => trivial)⟩, ⟨by first | exact Kd.je _ _ _ _ _ | exact Kd.jY _ _ _ _ _ | exact Kd.jU _ _ _ _ _ | exact Kd.jX _ _ _ _ _ | exact Kd.jV _ _ _ _ _⟩, ⟨bf Cc.out Ed.out⟩, ⟨bf Ce.out Df.out⟩, ⟨bf Cd.out Dk.out⟩, ⟨bp Ci.out⟩, ⟨bl⟩⟩
   case round =>
    clear H'
    try clear c3; try clear c4; try clear Rm; try clear Rn
    obtain ⟨x7_2, x182001_2, x182002_2, x182003_2, x182004_2, x193000_2, u193000, rfl, HA, Ns, Dw, Cb, Cc, Ce, Cd, Ci, HB⟩ := hrel
    cases gk with
    | zero => exact absurd HA.out (by simp [aQ.l0])
    | succ k2 =>
     have H := HA.out
     clear HA
     simp only [aQ.l0] at H
     revert H; refine iDb (fun Iy H => ?_) fun Iy H => ?_
     ·revert H; refine i1 fun Nu H => ?_
      revert H; refine iDb (fun Iz H => ?_) fun Iz H => ?_
      ·simp only [Option.some.injEq, Prod.mk.injEq] at H
       obtain ⟨rfl, rfl, rfl, rfl, rfl⟩ := H
       have Nv := Dt.out
       have Nw := Di.out
       have Nx := Dj.out
       have Ny := Dv.out
       have Nz := Df.out
       have Oa := Eb.out
       have Sl := dG Ce.out
       have Ef : 0 ≤ (x7_2 : Int) := ode
       have Eg : x7_2 < (l1_0.length : Int) := ode
       obtain ⟨Eo, e193, Dn, Dp, Dq⟩ := jF Ep.out x7_2 Ef Eg
       cases e193
       obtain ⟨Dn, Dp, Dq⟩ := hb3 HB.out Dn Dp Dq
       replace Ef := eq_true Ef
       replace Eg := eq_true Eg
       go_wp2_with (first | ((with_reducible refine dH (N := 8) rfl ?_); (try (refine dz (by rfl) ?_; dsimp only)); refine dR ?hg (N := 8) ?hd (cs := #[.int .i64 0, .int .i64 0, .int .i64 0]) (t := 58) ?hr ?_; (case hd => rfl); (case hg => rfl); (case hr => first | (go_simp; done) | (go_simp; rfl)); intro Cj hg w45 hbox hb; refine r2_ hb Dw Cb ?_; clear Dw Cb; intro Dw Cb; have Dh := am hbox; have Eh := am (bsz hg : w.heap.size ≤ Cj); have Ez := Eh; have Cn := no hg Cc; have Dx := am Cn.out.symm; replace Cc := bo Cc hb; have Dc := no hg Ce; have Dy := am Dc.out.symm; replace Ce := bo Ce hb; have Cf := no hg Cd; have Dz := am Cf.out.symm; replace Cd := bo Cd hb; have Cm := no hg Ci; have Dl := am Cm.out.symm; replace Ci := bo Ci hb; replace HB := ho hb; clear hb hbox hg; have Ob := Dx.out; have Oc := Cn.out; have Od := Dy.out; have Oe := Dc.out; have Og := Dz.out; have Oh := Cf.out; have Oi := Dl.out; have Oj := Cm.out; have Sm := jk Dh.out; have Ol := Ea.out; have Om := Du.out; have Oo := Dk.out; have Oq := Ec.out; have Sp := dG Cd.out))
       refine bodyPost_ret (results_cell_row rfl _ _ Ee 34 #[.slice none 0 0, .int .i64 0, .int .i64 0, .int .i64 0, .int .i64 0] (0, 0) _ rfl (bpf Cd.out Cf.out) Tryz.underlying34 rfl (by kernel_rfl)) rfl ?_
       exact ⟨_, er, by first | exact Kd.je _ _ _ _ _ | exact Kd.jY _ _ _ _ _ | exact Kd.jU _ _ _ _ _ | exact Kd.jX _ _ _ _ _ | exact Kd.jV _ _ _ _ _, bl⟩
      revert H; refine iDb (fun Ja H => ?_) fun Ja H => ?_
      ·simp only [Option.some.injEq, Prod.mk.injEq] at H
       obtain ⟨rfl, rfl, rfl, rfl, rfl⟩ := H
       have Ot := Dt.out
       have Ou := Di.out
       have Ov := Dj.out
       have Ox := Dv.out
       have Oy := Df.out
       have Oz := Eb.out
       have Sr := dG Ce.out
       have Ef : 0 ≤ (x7_2 : Int) := ode
       have Eg : x7_2 < (l1_0.length : Int) := ode
       obtain ⟨Eo, e193, Dn, Dp, Dq⟩ := jF Ep.out x7_2 Ef Eg
       cases e193
       obtain ⟨Dn, Dp, Dq⟩ := hb3 HB.out Dn Dp Dq
       replace Ef := eq_true Ef
       replace Eg := eq_true Eg
       go_wp2_with (first | ((with_reducible refine dH (N := 8) rfl ?_); (try (refine dz (by rfl) ?_; dsimp only)); refine dR ?hg (N := 8) ?hd (cs := #[.int .i64 0, .int .i64 0, .int .i64 0]) (t := 58) ?hr ?_; (case hd => rfl); (case hg => rfl); (case hr => first | (go_simp; done) | (go_simp; rfl)); intro Cj hg w59 hbox hb; refine r2_ hb Dw Cb ?_; clear Dw Cb; intro Dw Cb; have Dh := am hbox; have Eh := am (bsz hg : w.heap.size ≤ Cj); have Ez := Eh; have Cn := no hg Cc; have Dx := am Cn.out.symm; replace Cc := bo Cc hb; have Dc := no hg Ce; have Dy := am Dc.out.symm; replace Ce := bo Ce hb; have Cf := no hg Cd; have Dz := am Cf.out.symm; replace Cd := bo Cd hb; have Cm := no hg Ci; have Dl := am Cm.out.symm; replace Ci := bo Ci hb; replace HB := ho hb; clear hb hbox hg; have Pc := Dx.out; have Pd := Cn.out; have Pe := Dy.out; have Pg := Dc.out; have Ph := Dz.out; have Pi := Cf.out; have Pj := Dl.out; have Pk := Cm.out; have Ss := jk Dh.out; have Pm := Ea.out; have Pn := Du.out; have Po := Dk.out; have Pp := Ec.out; have Su := dG Cd.out))
       refine bodyPost_ret (results_cell_row rfl _ _ Ee 34 #[.slice none 0 0, .int .i64 0, .int .i64 0, .int .i64 0, .int .i64 0] (0, 0) _ rfl (bpf Cd.out Cf.out) Tryz.underlying34 rfl (by kernel_rfl)) rfl ?_
       exact ⟨_, er, by first | exact Kd.je _ _ _ _ _ | exact Kd.jY _ _ _ _ _ | exact Kd.jU _ _ _ _ _ | exact Kd.jX _ _ _ _ _ | exact Kd.jV _ _ _ _ _, bl⟩
      revert H; refine iDb (fun Jb H => ?_) fun Jb H => ?_
      ·simp only [Option.some.injEq, Prod.mk.injEq] at H
       obtain ⟨rfl, rfl, rfl, rfl, rfl⟩ := H
       have Pq := Dt.out
       have Pv := Di.out
       have Px := Dj.out
       have Py := Dv.out
       have Pz := Df.out
       have Qa := Eb.out
       have Sv := dG Ce.out
       have Ef : 0 ≤ (x7_2 : Int) := ode
       have Eg : x7_2 < (l1_0.length : Int) := ode
       obtain ⟨Eo, e193, Dn, Dp, Dq⟩ := jF Ep.out x7_2 Ef Eg
       cases e193
       obtain ⟨Dn, Dp, Dq⟩ := hb3 HB.out Dn Dp Dq
       replace Ef := eq_true Ef
       replace Eg := eq_true Eg
       go_wp2_with (first | ((with_reducible refine dH (N := 8) rfl ?_); (try (refine dz (by rfl) ?_; dsimp only)); refine dR ?hg (N := 8) ?hd (cs := #[.int .i64 0, .int .i64 0, .int .i64 0]) (t := 58) ?hr ?_; (case hd => rfl); (case hg => rfl); (case hr => first | (go_simp; done) | (go_simp; rfl)); intro Cj hg w73 hbox hb; refine r2_ hb Dw Cb ?_; clear Dw Cb; intro Dw Cb; have Dh := am hbox; have Eh := am (bsz hg : w.heap.size ≤ Cj); have Ez := Eh; have Cn := no hg Cc; have Dx := am Cn.out.symm; replace Cc := bo Cc hb; have Dc := no hg Ce; have Dy := am Dc.out.symm; replace Ce := bo Ce hb; have Cf := no hg Cd; have Dz := am Cf.out.symm; replace Cd := bo Cd hb; have Cm := no hg Ci; have Dl := am Cm.out.symm; replace Ci := bo Ci hb; replace HB := ho hb; clear hb hbox hg; have Qb := Dx.out; have Qc := Cn.out; have Qd := Dy.out; have Qe := Dc.out; have Qf := Dz.out; have Qg := Cf.out; have Qh := Dl.out; have Qi := Cm.out; have Sz := jk Dh.out; obtain ⟨Ro, Rq, Ju⟩ := Kd.aI Dw.out; subst Ju; have Qj := Ea.out; have Qk := Du.out; have Ql := Dk.out; have Qm := Ec.out; have Ta := dG Cd.out))
       refine bodyPost_ret (results_cell_row rfl _ _ Ee 34 #[.slice none 0 0, .int .i64 0, .int .i64 0, .int .i64 0, .int .i64 0] (0, 0) _ rfl (bpf Cd.out Cf.out) Tryz.underlying34 rfl (by kernel_rfl)) rfl ?_
       exact ⟨_, er, by first | exact Kd.je _ _ _ _ _ | exact Kd.jY _ _ _ _ _ | exact Kd.jU _ _ _ _ _ | exact Kd.jX _ _ _ _ _ | exact Kd.jV _ _ _ _ _, bl⟩
      revert H; refine iDb (fun Jc H => ?_) fun Jc H => ?_
      ·simp only [Option.some.injEq, Prod.mk.injEq] at H
       obtain ⟨rfl, rfl, rfl, rfl, rfl⟩ := H
       have Qn := Dt.out
       have Qo := Di.out
       have Qp := Dj.out
       have Qq := Dv.out
       have Qr := Df.out
       have Qs := Eb.out
       have Tc := dG Ce.out
       have Ef : 0 ≤ (x7_2 : Int) := ode
       have Eg : x7_2 < (l1_0.length : Int) := ode
       obtain ⟨Eo, e193, Dn, Dp, Dq⟩ := jF Ep.out x7_2 Ef Eg
       cases e193
       obtain ⟨Dn, Dp, Dq⟩ := hb3 HB.out Dn Dp Dq
       replace Ef := eq_true Ef
       replace Eg := eq_true Eg
       go_wp2_with (first | ((with_reducible refine dH (N := 8) rfl ?_); (try (refine dz (by rfl) ?_; dsimp only)); refine dR ?hg (N := 8) ?hd (cs := #[.int .i64 0, .int .i64 0, .int .i64 0]) (t := 58) ?hr ?_; (case hd => rfl); (case hg => rfl); (case hr => first | (go_simp; done) | (go_simp; rfl)); intro Cj hg w88 hbox hb; refine r2_ hb Dw Cb ?_; clear Dw Cb; intro Dw Cb; have Dh := am hbox; have Eh := am (bsz hg : w.heap.size ≤ Cj); have Ez := Eh; have Cn := no hg Cc; have Dx := am Cn.out.symm; replace Cc := bo Cc hb; have Dc := no hg Ce; have Dy := am Dc.out.symm; replace Ce := bo Ce hb; have Cf := no hg Cd; have Dz := am Cf.out.symm; replace Cd := bo Cd hb; have Cm := no hg Ci; have Dl := am Cm.out.symm; replace Ci := bo Ci hb; replace HB := ho hb; clear hb hbox hg; have Qt := Dx.out; have Qu := Cn.out; have Qv := Dy.out; have Qw := Dc.out; have Qx := Dz.out; have Qy := Cf.out; have Qz := Dl.out; have Rb := Cm.out; have Td := jk Dh.out; obtain ⟨Rt, Ru, Jv⟩ := Kd.aI Dw.out; subst Jv; have Re := Ea.out; have Rf := Du.out; have Rh := Dk.out; have Ri := Ec.out; have Tf := dG Cd.out))
       refine bodyPost_ret (results_cell_row rfl _ _ Ee 34 #[.slice none 0 0, .int .i64 0, .int .i64 0, .int .i64 0, .int .i64 0] (0, 0) _ rfl (bpf Cd.out Cf.out) Tryz.underlying34 rfl (by kernel_rfl)) rfl ?_
       exact ⟨_, er, by first | exact Kd.je _ _ _ _ _ | exact Kd.jY _ _ _ _ _ | exact Kd.jU _ _ _ _ _ | exact Kd.jX _ _ _ _ _ | exact Kd.jV _ _ _ _ _, bl⟩
      revert H; refine i1 fun Rj H => ?_
      revert H; refine i1 fun Rk H => ?_
      revert H; refine i1 fun Jw H => ?_
      revert H; refine i1 fun Jx H => ?_
      revert H; refine i0 fun Jd H => ?_
      have LMc102 := am Jd; clear Jd
      generalize h_ : ((x193000_2 ++ [(⟨fG ByteArray.empty y188 ((aD l1_0 x7_2).f0), fG ByteArray.empty y188 ((aD l1_0 x7_2).f1), (aD l1_0 x7_2).f2⟩ : S60)]) : List (S60)) = Je at H
      have Jf := am h_.symm; clear h_; try rw [Option.bind_some] at H
      have H' := am H; clear H
      have Jy := Dt.out
      have Jz := Di.out
      have Ka := Dj.out
      have Kb := Dv.out
      have Ke := Df.out
      have Kf := Eb.out
      have Rw := dG Ce.out
      have Ef : 0 ≤ (x7_2 : Int) := ode
      have Eg : x7_2 < (l1_0.length : Int) := ode
      obtain ⟨Eo, e193, Dn, Dp, Dq⟩ := jF Ep.out x7_2 Ef Eg
      cases e193
      obtain ⟨Dn, Dp, Dq⟩ := hb3 HB.out Dn Dp Dq
      replace Ef := eq_true Ef
      replace Eg := eq_true Eg
      try go_wp2_with (first | ((with_reducible refine dH (N := 8) rfl ?_); (try (refine dz (by rfl) ?_; dsimp only)); refine dR ?hg (N := 8) ?hd (cs := #[.int .i64 0, .int .i64 0, .int .i64 0]) (t := 58) ?hr ?_; (case hd => rfl); (case hg => rfl); (case hr => first | (go_simp; done) | (go_simp; rfl)); intro Cj hg w107 hbox hb; refine r2_ hb Dw Cb ?_; clear Dw Cb; intro Dw Cb; have Dh := am hbox; have Eh := am (bsz hg : w.heap.size ≤ Cj); have Ez := Eh; have Cn := no hg Cc; have Dx := am Cn.out.symm; replace Cc := bo Cc hb; have Dc := no hg Ce; have Dy := am Dc.out.symm; replace Ce := bo Ce hb; have Cf := no hg Cd; have Dz := am Cf.out.symm; replace Cd := bo Cd hb; have Cm := no hg Ci; have Dl := am Cm.out.symm; replace Ci := bo Ci hb; replace HB := ho hb; clear hb hbox hg; have Kg := Dx.out; have Kh := Cn.out; have Ki := Dy.out; have Kj := Dc.out; have Kk := Dz.out; have Kl := Cf.out; have Km := Dl.out; have Kn := Cm.out; have Rx := jk Dh.out; obtain ⟨Jg, Jh, Ji⟩ := Kd.aI Dw.out; subst Ji))
      have n0_ : aa (Kd.R Kd.string 9 (((w107.setCell ⟨Cj, 0, none⟩ (.int .i64 ((aD l1_0 x7_2).f0))).setCell ⟨Cj, 1, none⟩ (.int .i64 ((aD l1_0 x7_2).f1))).setCell ⟨Cj, 2, none⟩ (.int .i64 ((aD l1_0 x7_2).f2))) w.heap.size (fun _ => True) (.slice Jg y188.length Jh) y188) := ⟨by exact Kd.ax (eU (Kd.aG Dw.out Dh.out (by decide))) (fun _ hk => trivial)⟩
      have n1_ : aa (Kd.R k60 60 (((w107.setCell ⟨Cj, 0, none⟩ (.int .i64 ((aD l1_0 x7_2).f0))).setCell ⟨Cj, 1, none⟩ (.int .i64 ((aD l1_0 x7_2).f1))).setCell ⟨Cj, 2, none⟩ (.int .i64 ((aD l1_0 x7_2).f2))) w.heap.size (fun _ => True) u193000 x193000_2) := ⟨by exact Kd.ax (eU (Kd.aG Cb.out Dh.out (by decide))) (fun _ hk => trivial)⟩
      have n2_ : aa ((((w107.setCell ⟨Cj, 0, none⟩ (.int .i64 ((aD l1_0 x7_2).f0))).setCell ⟨Cj, 1, none⟩ (.int .i64 ((aD l1_0 x7_2).f1))).setCell ⟨Cj, 2, none⟩ (.int .i64 ((aD l1_0 x7_2).f2))).heap[Ej]? = some (.cells #[.string a0_0, .int .i64 a0_1, .slice A0_2 l0_2.length c0_2, .slice A0_3 l0_3.length c0_3, .slice A0_4 l0_4.length c0_4, .slice A0_5 l0_5.length c0_5, .slice A0_6 l0_6.length c0_6, .slice A0_7 l0_7.length c0_7] 39 (0, 0))) := ⟨bf Cc.out Cn.out⟩
      have n3_ : aa ((((w107.setCell ⟨Cj, 0, none⟩ (.int .i64 ((aD l1_0 x7_2).f0))).setCell ⟨Cj, 1, none⟩ (.int .i64 ((aD l1_0 x7_2).f1))).setCell ⟨Cj, 2, none⟩ (.int .i64 ((aD l1_0 x7_2).f2))).heap[Em]? = some (.cells #[.slice (some Eo) l1_0.length c1_0, .int .i64 a1_1, .int .i64 a1_2, .int .i64 a1_3, .int .i64 a1_4] 43 (0, 0))) := ⟨bf Ce.out Dc.out⟩
      have n4_ : aa ((((w107.setCell ⟨Cj, 0, none⟩ (.int .i64 ((aD l1_0 x7_2).f0))).setCell ⟨Cj, 1, none⟩ (.int .i64 ((aD l1_0 x7_2).f1))).setCell ⟨Cj, 2, none⟩ (.int .i64 ((aD l1_0 x7_2).f2))).heap[Ee]? = some (.cells #[.slice none 0 0, .int .i64 x182001_2, .int .i64 x182002_2, .int .i64 x182003_2, .int .i64 x182004_2] 34 (0, 0))) := ⟨bf Cd.out Cf.out⟩
      have n5_ : aa ((((w107.setCell ⟨Cj, 0, none⟩ (.int .i64 ((aD l1_0 x7_2).f0))).setCell ⟨Cj, 1, none⟩ (.int .i64 ((aD l1_0 x7_2).f1))).setCell ⟨Cj, 2, none⟩ (.int .i64 ((aD l1_0 x7_2).f2))).heap[En]? = some (.cells #[u193000, .int .i64 a1_1, .int .i64 a1_2, .int .i64 a1_3, .int .i64 a1_4] 34 (0, 0))) := ⟨bf Ci.out Cm.out⟩
      have n6_ : aa ((((w107.setCell ⟨Cj, 0, none⟩ (.int .i64 ((aD l1_0 x7_2).f0))).setCell ⟨Cj, 1, none⟩ (.int .i64 ((aD l1_0 x7_2).f1))).setCell ⟨Cj, 2, none⟩ (.int .i64 ((aD l1_0 x7_2).f2))).heap[Cj]? = some (.cells #[.int .i64 ((aD l1_0 x7_2).f0), .int .i64 ((aD l1_0 x7_2).f1), .int .i64 ((aD l1_0 x7_2).f2)] 58 (0, 0))) := ⟨bp Dh.out⟩
      have n7_ : aa (Below w.heap.size w (((w107.setCell ⟨Cj, 0, none⟩ (.int .i64 ((aD l1_0 x7_2).f0))).setCell ⟨Cj, 1, none⟩ (.int .i64 ((aD l1_0 x7_2).f1))).setCell ⟨Cj, 2, none⟩ (.int .i64 ((aD l1_0 x7_2).f2)))) := ⟨bl⟩
      (try clear Dw)
      (try clear Cb)
      (try clear Cc)
      (try clear Ce)
      (try clear Cd)
      (try clear Ci)
      (try clear Dh)
      (try clear HB)
      generalize (((w107.setCell ⟨Cj, 0, none⟩ (.int .i64 ((aD l1_0 x7_2).f0))).setCell ⟨Cj, 1, none⟩ (.int .i64 ((aD l1_0 x7_2).f1))).setCell ⟨Cj, 2, none⟩ (.int .i64 ((aD l1_0 x7_2).f2))) = w114 at n0_ n1_ n2_ n3_ n4_ n5_ n6_ n7_ ⊢
      have Dw := n0_
      have Cb := n1_
      have Cc := n2_
      have Ce := n3_
      have Cd := n4_
      have Ci := n5_
      have Dh := n6_
      have HB := n7_
      clear n0_ n1_ n2_ n3_ n4_ n5_ n6_ n7_
      replace Dw := am (Kd.dx Dw.out); replace Cb := am (Kd.dx Cb.out); replace Cc := am (bB Cc.out); replace Ce := am (bB Ce.out); replace Cd := am (bB Cd.out); replace Ci := am (bB Ci.out); replace Dh := am (bB Dh.out); replace HB := am (bg HB.out)
      have Ik : 0 ≤ (((aD l1_0 x7_2).f0) : Int) := ode
      have Il : ((aD l1_0 x7_2).f0) < (y188.length : Int) := ode
      obtain ⟨Gu, e195, Ga⟩ := Kd.eQ (Kd.af Dw.out).2.2 ((aD l1_0 x7_2).f0) Ik Il
      cases e195
      replace Ik := eq_true Ik
      replace Il := eq_true Il
      have Im : 0 ≤ (((aD l1_0 x7_2).f1) : Int) := ode
      have Io : ((aD l1_0 x7_2).f1) < (y188.length : Int) := ode
      obtain ⟨Jj, e196, Gf⟩ := Kd.eQ (Kd.af Dw.out).2.2 ((aD l1_0 x7_2).f1) Im Io
      obtain rfl : Gu = Jj := (by injection e196)
      replace Im := eq_true Im
      replace Io := eq_true Io
      refine eH (n := 19) (S := oW En (u193000) (.int .i64 a1_1) (.int .i64 a1_2) (.int .i64 a1_3) (.int .i64 a1_4) Cj (.int .i64 ((aD l1_0 x7_2).f0)) (.int .i64 ((aD l1_0 x7_2).f1)) (.int .i64 ((aD l1_0 x7_2).f2)) (Gu.add (((aD l1_0 x7_2).f0)).toNat) (.string (fG ByteArray.empty y188 ((aD l1_0 x7_2).f0))) (Gu.add (((aD l1_0 x7_2).f1)).toNat) (.string (fG ByteArray.empty y188 ((aD l1_0 x7_2).f1)))) (ds := [16, 18]) #[F_, F_, F_, F_, F_, F_, F_, F_, F_, F_, F_, F_, F_, F_, F_, F_, F_, F_, F_] (by kernel_rfl) rfl rfl ⟨(ae Ci.out 0).trans rfl, (ae Ci.out 1).trans rfl, (ae Ci.out 2).trans rfl, (ae Ci.out 3).trans rfl, (ae Ci.out 4).trans rfl, (ae Dh.out 0).trans rfl, (ae Dh.out 1).trans rfl, (ae Dh.out 2).trans rfl, Ga, Gf⟩ (fun hHeld => ?_); refine dJ aQ.mZ aQ.kW (fun HT_ HW_ => ?_)
      generalize w114.drew = w115 at Dw Cb Cc Ce Cd Ci Dh HB Ga Gf hHeld ⊢
      refine pv 0 70 ?_
      refine pv 2 72 ?_
      refine pv 3 73 ?_
      refine pv 7 77 ?_
      refine pv 8 78 ?_
      refine pv 12 82 ?_
      refine kK 1 71 hHeld ?_
      refine kK 4 74 hHeld ?_
      refine pv 5 75 ?_
      refine kK 6 76 hHeld ?_
      refine kK 9 79 hHeld ?_
      refine pv 10 80 ?_
      refine kK 11 81 hHeld ?_
      refine kK 13 83 hHeld ?_
      refine pv 14 84 ?_
      refine ov 15 85 (fun K hK => ?_)
      refine qI (w1 := ?_) (v := ?_) (by rfl) rfl ?_ ?_
      rotate_left 2
      ·go_simp
       constructor
       ·rfl
       rfl
      refine hK.out _ _ ⟨(ae (dB Ci.out _) 0).trans rfl, (ae (dB Ci.out _) 1).trans rfl, (ae (dB Ci.out _) 2).trans rfl, (ae (dB Ci.out _) 3).trans rfl, (ae (dB Ci.out _) 4).trans rfl, (ae (dB Dh.out _) 0).trans rfl, (ae (dB Dh.out _) 1).trans rfl, (ae (dB Dh.out _) 2).trans rfl, (World.cell?_alloc_lt _ _ _ (World.block_lt_of_cell? _ _ (hHeld.2.2.2.2.2.2.2.2.1))).trans (hHeld.2.2.2.2.2.2.2.2.1), (World.cell?_alloc_lt _ _ _ (World.block_lt_of_cell? _ _ (hHeld.2.2.2.2.2.2.2.2.2))).trans (hHeld.2.2.2.2.2.2.2.2.2)⟩ (fun hHeld => ?_)
      clear hK K
      refine dn (a' := ?_) ?_ ?_
      rotate_left
      ·show Act.put _ (some 85) _ = _
       simp only [Act.put, z1, z2, z3, bu, bv]
       rfl
      refine rT (i := 16) (N := some 86) #[T_, T_, T_, T_, T_, T_, T_, T_, T_, T_, T_, T_, T_, T_, T_, T_, T_, F_, F_] rfl rfl (nV HT_.out (by kernel_rfl)) (by decide) (fun K hK => ?_)
      refine Kd.ku k60 (w0 := w) w.heap.size (by rfl) (.tmp 71) (.tmp 85) 32 60 (.agg #[(.string ⟨#[]⟩), (.string ⟨#[]⟩), (.int .i64 0)]) 40 rfl Tryz.underlying32 vG rfl (by decide) (by omega) u193000 x193000_2 (⟨fG ByteArray.empty y188 ((aD l1_0 x7_2).f0), fG ByteArray.empty y188 ((aD l1_0 x7_2).f1), (aD l1_0 x7_2).f2⟩ : S60) [.string (fG ByteArray.empty y188 ((aD l1_0 x7_2).f0)), .string (fG ByteArray.empty y188 ((aD l1_0 x7_2).f1)), .int .i64 ((aD l1_0 x7_2).f2)] (fun _ => True) (fun _ => False) rfl rfl ?aP (fun _ hk => hk.elim) ?aF ?aO ?aB ?aS ?aL ?_
      (case aP => exact lX _ _ _ (⟨fG ByteArray.empty y188 ((aD l1_0 x7_2).f0), fG ByteArray.empty y188 ((aD l1_0 x7_2).f1), (aD l1_0 x7_2).f2⟩ : S60))
      (case aB => exact bl)
      (case aF => exact (fun _ _ => trivial))
      (case aO => exact (kr Cb.out))
      (case aS => exact (az bl))
      (case aL => have := LMc102.out; omega)
      intro v198 w116 ho hb hg hat
      rw [← Jf.out] at ho
      have n0_ := am (Kd.sI (kr Dw.out) (Kd.aH (kr Cb.out)) (by decide) hg)
      have n1_ := am (dN (g := Ej) (o := .cells #[.string a0_0, .int .i64 a0_1, .slice A0_2 l0_2.length c0_2, .slice A0_3 l0_3.length c0_3, .slice A0_4 l0_4.length c0_4, .slice A0_5 l0_5.length c0_5, .slice A0_6 l0_6.length c0_6, .slice A0_7 l0_7.length c0_7] 39 (0, 0)) (bk Cc.out) hg (Kd.eG Cb.out Cc.out (by decide)))
      have n2_ := am (dN (g := Em) (o := .cells #[.slice (some Eo) l1_0.length c1_0, .int .i64 a1_1, .int .i64 a1_2, .int .i64 a1_3, .int .i64 a1_4] 43 (0, 0)) (bk Ce.out) hg (Kd.eG Cb.out Ce.out (by decide)))
      have n3_ := am (dN (g := Ee) (o := .cells #[.slice none 0 0, .int .i64 x182001_2, .int .i64 x182002_2, .int .i64 x182003_2, .int .i64 x182004_2] 34 (0, 0)) (bk Cd.out) hg (Kd.eG Cb.out Cd.out (by decide)))
      have n4_ := am (dN (g := En) (o := .cells #[u193000, .int .i64 a1_1, .int .i64 a1_2, .int .i64 a1_3, .int .i64 a1_4] 34 (0, 0)) (bk Ci.out) hg (Kd.eG Cb.out Ci.out (by decide)))
      have n5_ := am (dN (g := Cj) (o := .cells #[.int .i64 ((aD l1_0 x7_2).f0), .int .i64 ((aD l1_0 x7_2).f1), .int .i64 ((aD l1_0 x7_2).f2)] 58 (0, 0)) (bk Dh.out) hg (Kd.eG Cb.out Dh.out (by decide)))
      have n6_ := am (hb)
      have n7_ := am (ho)
      clear Dw
      clear Cc
      clear Ce
      clear Cd
      clear Ci
      clear Dh
      clear HB
      clear Cb
      have Dw := n0_
      have Cc := n1_
      have Ce := n2_
      have Cd := n3_
      have Ci := n4_
      have Dh := n5_
      have HB := n6_
      have Ii := n7_
      clear n0_ n1_ n2_ n3_ n4_ n5_ n6_ n7_
      clear ho hb hg hat
      obtain ⟨Jk, Jl, Ij⟩ := Kd.aI Ii.out
      (first | subst Ij | (injection Ij with f1_ f2_ f3_; have f4_ := f1_.symm; have f5_ := f3_.symm; clear f1_ f2_ f3_; subst f4_; subst f5_))
      refine hK.out _ _ ?_
      clear hK K
      refine dn (a' := ?_) ?_ ?_
      rotate_left
      ·show Act.put _ (some 86) _ = _
       simp only [Act.put, z1, z2, z3, bu, bv]
       rfl
      refine pv 17 87 ?_
      refine rT (i := 18) (N := none) #[T_, T_, T_, T_, T_, T_, T_, T_, T_, T_, T_, T_, T_, T_, T_, T_, T_, T_, T_] rfl rfl (nV HT_.out (by kernel_rfl)) (by decide) (fun K hK => ?_)
      have Rl : w116.cell? ⟨En, 0, none⟩ = some (u193000) := (ae Ci.out 0).trans rfl
      have hfs118 := dA Ci.out 0
      have Jm := Ed.out
      have Jn := Df.out
      have Jo := Dk.out
      have Jp := Dl.out
      have hms118_0 := Ei.out
      have hms118_1 := Eb.out
      have hms118_2 := Ec.out
      have hms118_4 := Cm.out
      refine oJ (w1 := ?_) (by rfl) rfl ?_ ?_
      rotate_left
      ·go_simp
       rfl
      refine hK.out _ _ ?_
      clear hK K
      refine fF (eF HT_.out (by kernel_rfl)) ?_
      try go_wp2
      go_roundg k2
      case measure => have := Mc.out; have := Ns.out; omega
      case rel => exact ⟨(wrap64 (x7_2 + 1)), (x182001_2), (x182002_2), (x182003_2), (x182004_2), (Je), (.slice Jk Je.length Jl), rs, H', ⟨by have := Mc.out; have := Ns.out; omega⟩, ⟨by exact Kd.ax (eU (Kd.aG Dw.out Ci.out (by decide))) (fun _ hk => trivial)⟩, ⟨by exact Kd.ax (eU (Kd.aG Ii.out Ci.out (by decide))) (fun _ hk => trivial)⟩, ⟨bf Cc.out Ed.out⟩, ⟨bf Ce.out Df.out⟩, ⟨bf Cd.out Dk.out⟩, ⟨bp Ci.out⟩, ⟨bl⟩⟩
     simp only [Option.some.injEq, Prod.mk.injEq] at H
     obtain ⟨rfl, rfl, rfl, rfl, rfl⟩ := H
     have Ko := Dt.out
     have Kp := Di.out
     have Kq := Dj.out
     have Kr := Dv.out
     have Ks := Df.out
     have Kt := Eb.out
     have Ry := dG Ce.out
     have Ku := Ei.out
     have Kv := Ed.out
     have Kw := Ec.out
     have Kx := Dk.out
     have Rz := dG Ci.out
     obtain ⟨Jq, Jr, Js⟩ := Kd.aI Cb.out
     subst Js
     have Ky := Ea.out
     have Kz := Du.out
     have Sa := dG Cd.out
     go_wp2
     refine bodyPost_ret (results_cell_row rfl _ _ Ee 34 #[.slice Jq x193000_2.length Jr, .int .i64 a1_1, .int .i64 a1_2, .int .i64 a1_3, .int .i64 a1_4] (0, 0) _ rfl (bp Cd.out) Tryz.underlying34 rfl (by kernel_rfl)) rfl ?_
     exact ⟨_, er, by (with_reducible repeat (first | apply Kd.fM | apply Kd.fK | apply Kd.dx)); exact Kd.ax (eU (Kd.aG Cb.out Cd.out (by decide))) (fun _ hk => trivial), bl⟩
end Go.Proofs.YthpjnjplgmaofaaGreatDoor.PFnExactVmNamed
