import Derived.Test.YthpjnjplgmaofaaGreatDoorQMin
import Derived.Test.YthpjnjplgmaofaaGreatDoorQAut
import Derived.Test.YthpjnjplgmaofaaGreatDoorQBlk
import Derived.Test.YthpjnjplgmaofaaGreatDoorPFnExactVmNamedx0
import Derived.Test.YthpjnjplgmaofaaGreatDoorPFnExactVmNamedx2
namespace Go.Proofs.YthpjnjplgmaofaaGreatDoor.PFnExactVmNamed
open Go.RowKit Go.Proofs.YthpjnjplgmaofaaGreatDoorW.PrintWords Go.Proofs.YthpjnjplgmaofaaGreatDoorW.PrintLast Go.Proofs.YthpjnjplgmaofaaGreatDoorW.PrintMore
attribute [local go_sem] max2_int min2_int max_two min_two max_three min_three max_four min_four   -- for this text's walks alone
set_option maxHeartbeats 8000000
set_option maxRecDepth 100000
set_option linter.unusedVariables false
set_option linter.unusedSimpArgs false
mutual
def ag.l0 : Nat → ByteArray → List (dS) → Int → Int → Option (Bool)
 | 0, _, _, _, _ => none
 | k + 1, x1, x14, x15, x16 => if x16 < x15 then (if 0 ≤ x16 then (if x16 < (x14.length : Int) then (if x16 < (x1.size : Int) then (if (bt x1 x16) = 101 then ((ah.f (ag.f k) k ((bR x14 x16).f0.f0) ((bR x14 x16).f0.f1) ((bR x14 x16).f0.f2) ((bR x14 x16).f0.f3) ((bR x14 x16).f0.f4) ((bR x14 x16).f1) ((bR x14 x16).f2) ((bR x14 x16).f3)).bind fun t370 => (ag.j1 k x1 x16 x14 x15 x16 (!t370) ((bR x14 x16).f0.f0) ((bR x14 x16).f0.f1) ((bR x14 x16).f0.f2) ((bR x14 x16).f0.f3) ((bR x14 x16).f0.f4) ((bR x14 x16).f1) ((bR x14 x16).f2) ((bR x14 x16).f3))) else (ag.j1 k x1 x16 x14 x15 x16 false ((bR x14 x16).f0.f0) ((bR x14 x16).f0.f1) ((bR x14 x16).f0.f2) ((bR x14 x16).f0.f3) ((bR x14 x16).f0.f4) ((bR x14 x16).f1) ((bR x14 x16).f2) ((bR x14 x16).f3))) else (none)) else (none)) else (none)) else (some true)
def ag.j1 : Nat → ByteArray → Int → List (dS) → Int → Int → Bool → Int → ByteArray → ByteArray → Int → Int → Int → List (dS) → Int → Option (Bool)
 | 0, _, _, _, _, _, _, _, _, _, _, _, _, _, _ => none
 | k + 1, x1, x5, x14, x15, x16, x21, x370000, x370001, x370002, x370003, x370004, x370005, x370006, x370007 => if x21 = true then (some false) else (if 0 ≤ x5 then (if x5 < (x1.size : Int) then (if (bt x1 x5) = 115 then ((ak.f (ag.f k) k x370000 x370001 x370002 x370003 x370004 x370005 x370006 x370007).bind fun t371 => (ag.j2 k x1 x5 x14 x15 x16 (!t371) x370000 x370001 x370002 x370003 x370004 x370005 x370006 x370007)) else (ag.j2 k x1 x5 x14 x15 x16 false x370000 x370001 x370002 x370003 x370004 x370005 x370006 x370007)) else (none)) else (none))
def ag.j2 : Nat → ByteArray → Int → List (dS) → Int → Int → Bool → Int → ByteArray → ByteArray → Int → Int → Int → List (dS) → Int → Option (Bool)
 | 0, _, _, _, _, _, _, _, _, _, _, _, _, _, _ => none
 | k + 1, x1, x5, x14, x15, x16, x21, x370000, x370001, x370002, x370003, x370004, x370005, x370006, x370007 => if x21 = true then (some false) else (if 0 ≤ x5 then (if x5 < (x1.size : Int) then (if (bt x1 x5) = 98 then (if x370000 = 27 then ((ak.f (ag.f k) k x370000 x370001 x370002 x370003 x370004 x370005 x370006 x370007).bind fun t372 => (if t372 = true then (ag.l0 k x1 x14 x15 (wrap64 (x16 + 1))) else (some false))) else (some false)) else (ag.l0 k x1 x14 x15 (wrap64 (x16 + 1)))) else (none)) else (none))
def ag.f : Nat → Int → ByteArray → ByteArray → Int → Int → Int → List (dS) → Int → ByteArray → Option (Bool)
 | 0, _, _, _, _, _, _, _, _, _ => none
 | k + 1, a0_0, a0_1, a0_2, a0_3, a0_4, a0_5, l0_6, a0_7, a1 => if (l0_6.length : Int) = (a1.size : Int) then (ag.l0 k a1 l0_6 (l0_6.length : Int) 0) else (some false)
end
theorem ag.bI : ∀ k, (∀ y0 y1 y2 y3 y4 y5 y6 y7 y8, LeO (ag.f k y0 y1 y2 y3 y4 y5 y6 y7 y8) (ag.f (k + 1) y0 y1 y2 y3 y4 y5 y6 y7 y8)) ∧ (∀ y0 y1 y2 y3, LeO (ag.l0 k y0 y1 y2 y3) (ag.l0 (k + 1) y0 y1 y2 y3)) ∧ (∀ y0 y1 y2 y3 y4 y5 y6 y7 y8 y9 y10 y11 y12 y13, LeO (ag.j1 k y0 y1 y2 y3 y4 y5 y6 y7 y8 y9 y10 y11 y12 y13) (ag.j1 (k + 1) y0 y1 y2 y3 y4 y5 y6 y7 y8 y9 y10 y11 y12 y13)) ∧ (∀ y0 y1 y2 y3 y4 y5 y6 y7 y8 y9 y10 y11 y12 y13, LeO (ag.j2 k y0 y1 y2 y3 y4 y5 y6 y7 y8 y9 y10 y11 y12 y13) (ag.j2 (k + 1) y0 y1 y2 y3 y4 y5 y6 y7 y8 y9 y10 y11 y12 y13))
 | 0 => ⟨fun _ _ _ _ _ _ _ _ _ r h => by simp [ag.f] at h, fun _ _ _ _ r h => by simp [ag.l0] at h, fun _ _ _ _ _ _ _ _ _ _ _ _ _ _ r h => by simp [ag.j1] at h, fun _ _ _ _ _ _ _ _ _ _ _ _ _ _ r h => by simp [ag.j2] at h⟩
 | k + 1 => by
  obtain ⟨ih0, ih1, ih2, ih3⟩ := ag.bI k
  refine ⟨?_, ?_, ?_, ?_⟩
  ·intro y0 y1 y2 y3 y4 y5 y6 y7 y8
   unfold ag.f
   repeat' (with_reducible first | exact ih0 .. | exact ih1 .. | exact ih2 .. | exact ih3 .. | exact ah.mono _ _ ih0 _ _ _ _ _ _ _ _ _ | exact ak.mono _ _ ih0 _ _ _ _ _ _ _ _ _ | exact LeO.refl _ | exact LeO.none _ | refine LeO.ite ?_ ?_ | refine LeO.bind ?_ (fun _ => ?_))
  ·intro y0 y1 y2 y3
   unfold ag.l0
   repeat' (with_reducible first | exact ih0 .. | exact ih1 .. | exact ih2 .. | exact ih3 .. | exact ah.mono _ _ ih0 _ _ _ _ _ _ _ _ _ | exact ak.mono _ _ ih0 _ _ _ _ _ _ _ _ _ | exact LeO.refl _ | exact LeO.none _ | refine LeO.ite ?_ ?_ | refine LeO.bind ?_ (fun _ => ?_))
  ·intro y0 y1 y2 y3 y4 y5 y6 y7 y8 y9 y10 y11 y12 y13
   unfold ag.j1
   repeat' (with_reducible first | exact ih0 .. | exact ih1 .. | exact ih2 .. | exact ih3 .. | exact ah.mono _ _ ih0 _ _ _ _ _ _ _ _ _ | exact ak.mono _ _ ih0 _ _ _ _ _ _ _ _ _ | exact LeO.refl _ | exact LeO.none _ | refine LeO.ite ?_ ?_ | refine LeO.bind ?_ (fun _ => ?_))
  intro y0 y1 y2 y3 y4 y5 y6 y7 y8 y9 y10 y11 y12 y13
  unfold ag.j2
  repeat' (with_reducible first | exact ih0 .. | exact ih1 .. | exact ih2 .. | exact ih3 .. | exact ah.mono _ _ ih0 _ _ _ _ _ _ _ _ _ | exact ak.mono _ _ ih0 _ _ _ _ _ _ _ _ _ | exact LeO.refl _ | exact LeO.none _ | refine LeO.ite ?_ ?_ | refine LeO.bind ?_ (fun _ => ?_))
theorem ag.mono : ∀ a0 a1 a2 a3 a4 a5 a6 a7 a8 k, LeO (ag.f k a0 a1 a2 a3 a4 a5 a6 a7 a8) (ag.f (k + 1) a0 a1 a2 a3 a4 a5 a6 a7 a8) := by
 intro a0 a1 a2 a3 a4 a5 a6 a7 a8 k
 obtain ⟨ih0, ih1, ih2, ih3⟩ := ag.bI k
 exact ih0 a0 a1 a2 a3 a4 a5 a6 a7 a8
theorem ag.calls (k : Nat) : ∀ (a0_0 : Int) (a0_1 : ByteArray) (a0_2 : ByteArray) (a0_3 : Int) (a0_4 : Int) (a0_5 : Int) (A0_6 : Option Addr) (c0_6 : Nat) (l0_6 : List (dS)) (a0_7 : Int) (a1 : ByteArray) (r : Bool) (w : World) (hr0_6 : Kd.C jo w A0_6 l0_6.length l0_6) (hc0_6 : l0_6.length ≤ c0_6) (hsh : Sh w) (h : ag.f k a0_0 a0_1 a0_2 a0_3 a0_4 a0_5 l0_6 a0_7 a1 = some r),
  Calls Tryz.prog 83 #[.agg #[.int .i64 a0_0, .string a0_1, .string a0_2, .int .i64 a0_3, .int .i64 a0_4, .int .i64 a0_5, .slice A0_6 l0_6.length c0_6, .int .i64 a0_7], .string a1] w fun e w' => e = .returned (.bool r) ∧ Below w.heap.size w w' := by
 induction k using Nat.strongRecOn with
 | _ k ih =>
 intro a0_0 a0_1 a0_2 a0_3 a0_4 a0_5 A0_6 c0_6 l0_6 a0_7 a1 r w hr0_6 hc0_6 hsh h
 cases k with
 | zero => exact absurd h (by simp [ag.f])
 | succ k =>
 simp only [ag.f] at h
 have hu105 := Tryz.underlying105
 have Ey := am hr0_6
 have Ih := am hc0_6
 clear hr0_6 hc0_6
 have HSH := am hsh; clear hsh
 have HB := am (Below.refl w.heap.size w)
 have H := h
 clear h
 revert H; refine iQn (fun c3 Ej Ek H => ?_) fun c3 Ej Ek H => ?_
 ·have Em : (l0_6.length == a1.size) = true := by first | simpa using c3 | (simp at c3 ⊢; omega)
  clear c3
  have H' := am H; clear H
  go_enter Tryz.func83, Tryz.ntmps83
  go_wp2_with (first | ((with_reducible refine g_ 2 ?_); refine bx 2 #[.int .i64 a0_0, .string a0_1, .string a0_2, .int .i64 a0_3, .int .i64 a0_4, .int .i64 a0_5, .slice A0_6 l0_6.length c0_6, .int .i64 a0_7] 105 ?_; intro Dt hg w4 hbox hb; have Cb := am hbox; have Ed := am (bsz hg : w.heap.size ≤ Dt); have Ez := Ed; replace HB := ho hb; clear hb hbox hg; have Z5 := dD Cb.out))
  go_loopg [16] k (fun kq v16 w' => ∃ (x16_1 : Int), v16 = .int .i64 x16_1 ∧ aa (ag.l0 kq a1 l0_6 (l0_6.length : Int) x16_1 = some r) ∧ aa (kq ≤ k) ∧ aa (w'.heap[Dt]? = some (.cells #[.int .i64 a0_0, .string a0_1, .string a0_2, .int .i64 a0_3, .int .i64 a0_4, .int .i64 a0_5, (.slice A0_6 l0_6.length c0_6), .int .i64 a0_7] 105 (0, 0))) ∧ aa (Below w.heap.size w w'))
  case atStart => exact ⟨(0), rs, H', ⟨Nat.le_refl _⟩, ⟨bk Cb.out⟩, ⟨bl⟩⟩
  case round =>
   clear H'
   try clear c3; try clear Ej; try clear Ek; try clear Em; try clear Z5
   obtain ⟨x16_1, rfl, HA, Ec, Cb, HB⟩ := hrel
   cases gk with
   | zero => exact absurd HA.out (by simp [ag.l0])
   | succ k1 =>
    have H := HA.out
    clear HA
    simp only [ag.l0] at H
    revert H; refine iDb (fun Et H => ?_) fun Et H => ?_
    ·revert H; refine i1 fun Ga H => ?_
     revert H; refine i1 fun Gf H => ?_
     have Gw := am H; clear H
     have Ee : 0 ≤ (x16_1 : Int) := ode
     have Ef : x16_1 < (l0_6.length : Int) := ode
     obtain ⟨Eg, Dw, Dx, e368, Dc, Df, Dh, Di, Dj, Dk, Dl, Dn, Dy, Dz⟩ := at_T105 Ey.out x16_1 Ee Ef
     cases e368
     obtain ⟨Dc, Df, Dh, Di, Dj, Dk, Dl, Dn⟩ := hb8 HB.out Dc Df Dh Di Dj Dk Dl Dn
     have Dp := am Dz
     have Dq := am Dy
     clear Dz Dy
     replace Ee := eq_true Ee
     replace Ef := eq_true Ef
     go_upto_region 6 with (first | ((with_reducible refine g_ 6 ?_); refine bx 6 #[.int .i64 0, .string (⟨#[]⟩ : ByteArray), .string (⟨#[]⟩ : ByteArray), .int .i64 0, .int .i64 0, .int .i64 0, .slice none 0 0, .int .i64 0] 105 ?_; intro Ea hg w10 hbox hb; have Cc := am hbox; have Gg := am (bsz hg : w.heap.size ≤ Ea); have Ii := Gg; have Cd := no hg Cb; have Ce := am Cd.out.symm; replace Cb := bo Cb hb; replace HB := ho hb; clear hb hbox hg; have Ij := Ce.out; have Ik := Cd.out; have Il := dD Cc.out))
     (try simp only [Act.put, z1, z2, z3])
     go_cut [21] (fun v21 wc => ∃ (kq : Nat) (x21_8 : Bool), v21 = .bool x21_8 ∧ aa (ag.j1 kq a1 x16_1 l0_6 (l0_6.length : Int) x16_1 x21_8 ((bR l0_6 x16_1).f0.f0) ((bR l0_6 x16_1).f0.f1) ((bR l0_6 x16_1).f0.f2) ((bR l0_6 x16_1).f0.f3) ((bR l0_6 x16_1).f0.f4) ((bR l0_6 x16_1).f1) ((bR l0_6 x16_1).f2) ((bR l0_6 x16_1).f3) = some r) ∧ aa (kq ≤ k1) ∧ aa (wc.heap[Dt]? = some (.cells #[.int .i64 a0_0, .string a0_1, .string a0_2, .int .i64 a0_3, .int .i64 a0_4, .int .i64 a0_5, (.slice (some Eg) l0_6.length c0_6), .int .i64 a0_7] 105 (0, 0))) ∧ aa (wc.heap[Ea]? = some (.cells #[.int .i64 ((bR l0_6 x16_1).f0.f0), .string ((bR l0_6 x16_1).f0.f1), .string ((bR l0_6 x16_1).f0.f2), .int .i64 ((bR l0_6 x16_1).f0.f3), .int .i64 ((bR l0_6 x16_1).f0.f4), .int .i64 ((bR l0_6 x16_1).f1), (.slice Dw ((bR l0_6 x16_1).f2).length Dx), .int .i64 ((bR l0_6 x16_1).f3)] 105 (0, 0))) ∧ aa (Below w.heap.size w wc))
     case first =>
      have H := Gw.out
      clear Gw
      revert H; refine i1 fun Eo H => ?_
      (first | rw [Eo] | (simp only [bu, bv]; rw [Eo]) | skip)
      revert H; refine iQ (fun Gh Gi H => ?_) fun Jn Gh Gi H => ?_
      ·revert H; refine bj fun t370 Jf H => ?_
       have H' := am H; clear H
       have Gj : 0 ≤ (x16_1 : Int) := ode
       have Gk : x16_1 < (a1.size : Int) := ode
       have Gx := iI a1 x16_1
       replace Gj := eq_true Gj
       replace Gk := eq_true Gk
       have Im := Ce.out
       have Io := Cd.out
       have Jo := dD Cc.out
       go_wp2_with (first | (go_at_call 94; (with_reducible refine (ah.calls ⟨ag.f k1, ih k1 (by have := Ec.out; omega)⟩ _ _ _ _ _ _ _ _ _ _ _ _ _ ?Cf ?Ci ?Cn Jf.out).mono ?_); (case Cf => exact Kd.dK Dp.out bl); (case Ci => exact Dq.out); (case Cn => exact Sh.below HSH.out bl); rintro e w19 ⟨rfl, hb⟩; replace Cb := am (bQ (g := Dt) (o := .cells #[.int .i64 a0_0, .string a0_1, .string a0_2, .int .i64 a0_3, .int .i64 a0_4, .int .i64 a0_5, .slice (some Eg) l0_6.length c0_6, .int .i64 a0_7] 105 (0, 0)) (bf Cb.out Cd.out) hb); replace Cc := am (bQ (g := Ea) (o := .cells #[.int .i64 ((bR l0_6 x16_1).f0.f0), .string ((bR l0_6 x16_1).f0.f1), .string ((bR l0_6 x16_1).f0.f2), .int .i64 ((bR l0_6 x16_1).f0.f3), .int .i64 ((bR l0_6 x16_1).f0.f4), .int .i64 ((bR l0_6 x16_1).f1), .slice Dw ((bR l0_6 x16_1).f2).length Dx, .int .i64 ((bR l0_6 x16_1).f3)] 105 (0, 0)) (bp Cc.out) hb); replace HB := ho hb; clear hb))
       go_meet
       case rel => exact ⟨_, (!t370), rs, H', ⟨by have := Ec.out; first | omega | exact Nat.le_refl _⟩, ⟨bk Cb.out⟩, ⟨bk Cc.out⟩, ⟨bl⟩⟩
      have H' := am H; clear H
      have Gj : 0 ≤ (x16_1 : Int) := ode
      have Gk : x16_1 < (a1.size : Int) := ode
      have Gx := iI a1 x16_1
      replace Gj := eq_true Gj
      replace Gk := eq_true Gk
      go_wp2
      go_meet
      case rel => exact ⟨_, (false), rs, H', ⟨by have := Ec.out; first | omega | exact Nat.le_refl _⟩, ⟨bf Cb.out Cd.out⟩, ⟨bp Cc.out⟩, ⟨bl⟩⟩
     case rest =>
      clear Gw
      try clear c3; try clear Ej; try clear Ek; try clear Em; try clear Et; try clear Ga; try clear Gf; try clear Il; try clear Z5; try clear Dc; try clear Df; try clear Dh; try clear Di; try clear Dj; try clear Dk; try clear Dl; try clear Dn; try clear Ee; try clear Ef
      obtain ⟨kq, x21_8, rfl, HA, En, Cb, Cc, HB⟩ := hcut
      cases kq with
      | zero => exact absurd HA.out (by simp [ag.j1])
      | succ kj8 =>
       have H := HA.out
       clear HA
       simp only [ag.j1] at H
       replace H := iT H; rcases H with ⟨rfl, H⟩ | ⟨rfl, H⟩
       ·obtain rfl := Option.some.inj H
        go_wp2
        go_ret
        exact ⟨er, bl⟩
       have Eu := am H; clear H
       go_upto_region 7 with (fail)
       go_cut [21] (fun v21 wc => ∃ (kq : Nat) (x21_20 : Bool), v21 = .bool x21_20 ∧ aa (ag.j2 kq a1 x16_1 l0_6 (l0_6.length : Int) x16_1 x21_20 ((bR l0_6 x16_1).f0.f0) ((bR l0_6 x16_1).f0.f1) ((bR l0_6 x16_1).f0.f2) ((bR l0_6 x16_1).f0.f3) ((bR l0_6 x16_1).f0.f4) ((bR l0_6 x16_1).f1) ((bR l0_6 x16_1).f2) ((bR l0_6 x16_1).f3) = some r) ∧ aa (kq ≤ kj8) ∧ aa (wc.heap[Dt]? = some (.cells #[.int .i64 a0_0, .string a0_1, .string a0_2, .int .i64 a0_3, .int .i64 a0_4, .int .i64 a0_5, (.slice (some Eg) l0_6.length c0_6), .int .i64 a0_7] 105 (0, 0))) ∧ aa (wc.heap[Ea]? = some (.cells #[.int .i64 ((bR l0_6 x16_1).f0.f0), .string ((bR l0_6 x16_1).f0.f1), .string ((bR l0_6 x16_1).f0.f2), .int .i64 ((bR l0_6 x16_1).f0.f3), .int .i64 ((bR l0_6 x16_1).f0.f4), .int .i64 ((bR l0_6 x16_1).f1), (.slice Dw ((bR l0_6 x16_1).f2).length Dx), .int .i64 ((bR l0_6 x16_1).f3)] 105 (0, 0))) ∧ aa (Below w.heap.size w wc))
       case first =>
        have H := Eu.out
        clear Eu
        revert H; refine i1 fun Ep H => ?_
        (first | rw [Ep] | (simp only [bu, bv]; rw [Ep]) | skip)
        revert H; refine i1 fun Ip H => ?_
        revert H; refine iQ (fun Gl Gm H => ?_) fun Jp Gl Gm H => ?_
        ·revert H; refine bj fun t371 Jg H => ?_
         have H' := am H; clear H
         have Gn : 0 ≤ (x16_1 : Int) := ode
         have Gp : x16_1 < (a1.size : Int) := ode
         have Gy := iI a1 x16_1
         replace Gn := eq_true Gn
         replace Gp := eq_true Gp
         have Iq := Ce.out
         have Ir := Cd.out
         have Jq := dD Cc.out
         go_wp2_with (first | (go_at_call 71; (with_reducible refine (ak.calls ⟨ag.f kj8, ih kj8 (by have := Ec.out; have := En.out; omega)⟩ _ _ _ _ _ _ _ _ _ _ _ _ _ ?Cf ?Ci ?Cn Jg.out).mono ?_); (case Cf => exact cb Dp.out); (case Ci => exact Dq.out); (case Cn => exact Sh.below HSH.out bl); rintro e w29 ⟨rfl, hb⟩; refine r2_ hb Cb Cc ?_; clear Cb Cc; intro Cb Cc; replace HB := ho hb; clear hb))
         go_meet
         case rel => exact ⟨_, (!t371), rs, H', ⟨by have := Ec.out; have := En.out; first | omega | exact Nat.le_refl _⟩, ⟨bk Cb.out⟩, ⟨bk Cc.out⟩, ⟨bl⟩⟩
        have H' := am H; clear H
        have Gn : 0 ≤ (x16_1 : Int) := ode
        have Gp : x16_1 < (a1.size : Int) := ode
        have Gy := iI a1 x16_1
        replace Gn := eq_true Gn
        replace Gp := eq_true Gp
        go_wp2
        go_meet
        case rel => exact ⟨_, (false), rs, H', ⟨by have := Ec.out; have := En.out; first | omega | exact Nat.le_refl _⟩, ⟨bk Cb.out⟩, ⟨bk Cc.out⟩, ⟨bl⟩⟩
       case rest =>
        clear Eu
        try clear c3; try clear Ej; try clear Ek; try clear Em; try clear Et; try clear Ga; try clear Gf; try clear Il; try clear Z5; try clear Dc; try clear Df; try clear Dh; try clear Di; try clear Dj; try clear Dk; try clear Dl; try clear Dn; try clear Ee; try clear Ef
        obtain ⟨kq, x21_20, rfl, HA, Eb, Cb, Cc, HB⟩ := hcut
        cases kq with
        | zero => exact absurd HA.out (by simp [ag.j2])
        | succ kj20 =>
         have H := HA.out
         clear HA
         simp only [ag.j2] at H
         replace H := iT H; rcases H with ⟨rfl, H⟩ | ⟨rfl, H⟩
         ·obtain rfl := Option.some.inj H
          go_wp2
          go_ret
          exact ⟨er, bl⟩
         revert H; refine i1 fun Iu H => ?_
         revert H; refine i1 fun Iw H => ?_
         revert H; refine iQ (fun Gq Gs H => ?_) fun Jr Gq Gs H => ?_
         ·revert H; refine iQ (fun Gu Gv H => ?_) fun Js Gu Gv H => ?_
          ·revert H; refine bj fun t372 Ix H => ?_
           replace H := iT H; rcases H with ⟨rfl, H⟩ | ⟨rfl, H⟩
           ·have H' := am H; clear H
            have Eh : 0 ≤ (x16_1 : Int) := ode
            have Ei : x16_1 < (a1.size : Int) := ode
            have Ew := iI a1 x16_1
            replace Eh := eq_true Eh
            replace Ei := eq_true Ei
            have Iy := Ce.out
            have Iz := Cd.out
            have Jt := dD Cc.out
            go_wp2_with (first | (go_at_call 71; (with_reducible refine (ak.calls ⟨ag.f kj20, ih kj20 (by have := Ec.out; have := En.out; have := Eb.out; omega)⟩ _ _ _ _ _ _ _ _ _ _ _ _ _ ?Cf ?Ci ?Cn Ix.out).mono ?_); (case Cf => exact cb Dp.out); (case Ci => exact Dq.out); (case Cn => exact Sh.below HSH.out bl); rintro e w40 ⟨rfl, hb⟩; refine r2_ hb Cb Cc ?_; clear Cb Cc; intro Cb Cc; replace HB := ho hb; clear hb))
            go_roundg kj20
            case measure => have := Ec.out; have := En.out; have := Eb.out; omega
            case rel => exact ⟨(wrap64 (x16_1 + 1)), rs, H', ⟨by have := Ec.out; have := En.out; have := Eb.out; omega⟩, ⟨bk Cb.out⟩, ⟨bl⟩⟩
           obtain rfl := Option.some.inj H
           have Eh : 0 ≤ (x16_1 : Int) := ode
           have Ei : x16_1 < (a1.size : Int) := ode
           have Ew := iI a1 x16_1
           replace Eh := eq_true Eh
           replace Ei := eq_true Ei
           have Ja := Ce.out
           have Jb := Cd.out
           have Ju := dD Cc.out
           go_wp2_with (first | (go_at_call 71; (with_reducible refine (ak.calls ⟨ag.f kj20, ih kj20 (by have := Ec.out; have := En.out; have := Eb.out; omega)⟩ _ _ _ _ _ _ _ _ _ _ _ _ _ ?Cf ?Ci ?Cn Ix.out).mono ?_); (case Cf => exact cb Dp.out); (case Ci => exact Dq.out); (case Cn => exact Sh.below HSH.out bl); rintro e w43 ⟨rfl, hb⟩; refine r2_ hb Cb Cc ?_; clear Cb Cc; intro Cb Cc; replace HB := ho hb; clear hb))
           go_ret
           exact ⟨er, bl⟩
          obtain rfl := Option.some.inj H
          have Eh : 0 ≤ (x16_1 : Int) := ode
          have Ei : x16_1 < (a1.size : Int) := ode
          have Ew := iI a1 x16_1
          replace Eh := eq_true Eh
          replace Ei := eq_true Ei
          have Jc := Ce.out
          have Jd := Cd.out
          have Jv := dD Cc.out
          go_wp2
          go_ret
          exact ⟨er, bl⟩
         have H' := am H; clear H
         have Eh : 0 ≤ (x16_1 : Int) := ode
         have Ei : x16_1 < (a1.size : Int) := ode
         have Ew := iI a1 x16_1
         replace Eh := eq_true Eh
         replace Ei := eq_true Ei
         go_wp2
         go_roundg kj20
         case measure => have := Ec.out; have := En.out; have := Eb.out; omega
         case rel => exact ⟨(wrap64 (x16_1 + 1)), rs, H', ⟨by have := Ec.out; have := En.out; have := Eb.out; omega⟩, ⟨bk Cb.out⟩, ⟨bl⟩⟩
    obtain rfl := Option.some.inj H
    go_wp2
    go_ret
    exact ⟨er, bl⟩
 have Em : (l0_6.length == a1.size) = false := by first | simpa using c3 | (simp at c3 ⊢; omega)
 obtain rfl := Option.some.inj H
 go_enter Tryz.func83, Tryz.ntmps83
 go_wp2_with (first | ((with_reducible refine g_ 2 ?_); refine bx 2 #[.int .i64 a0_0, .string a0_1, .string a0_2, .int .i64 a0_3, .int .i64 a0_4, .int .i64 a0_5, .slice A0_6 l0_6.length c0_6, .int .i64 a0_7] 105 ?_; intro Dt hg w46 hbox hb; have Cb := am hbox; have Ed := am (bsz hg : w.heap.size ≤ Dt); have Ez := Ed; replace HB := ho hb; clear hb hbox hg; have Jw := dD Cb.out))
 go_ret
 exact ⟨er, bl⟩
def gB.f (k : Nat) (a0_0 : Int) (a0_1 : ByteArray) (a0_2 : ByteArray) (a0_3 : Int) (a0_4 : Int) (a0_5 : Int) (l0_6 : List (dS)) (a0_7 : Int) : Option (Bool) := ah.f (ag.f k) k a0_0 a0_1 a0_2 a0_3 a0_4 a0_5 l0_6 a0_7
theorem gB.mono : ∀ a0 a1 a2 a3 a4 a5 a6 a7 k, LeO (gB.f k a0 a1 a2 a3 a4 a5 a6 a7) (gB.f (k + 1) a0 a1 a2 a3 a4 a5 a6 a7) := fun a0 a1 a2 a3 a4 a5 a6 a7 k => ah.mono _ _ (fun y0 y1 y2 y3 y4 y5 y6 y7 y8 => ag.mono y0 y1 y2 y3 y4 y5 y6 y7 y8 k) a0 a1 a2 a3 a4 a5 a6 a7 k
theorem gB.calls (k : Nat) (a0_0 : Int) (a0_1 : ByteArray) (a0_2 : ByteArray) (a0_3 : Int) (a0_4 : Int) (a0_5 : Int) (A0_6 : Option Addr) (c0_6 : Nat) (l0_6 : List (dS)) (a0_7 : Int) (r : Bool) (w : World) (hr0_6 : Kd.C jo w A0_6 l0_6.length l0_6) (hc0_6 : l0_6.length ≤ c0_6) (hsh : Sh w) (h : gB.f k a0_0 a0_1 a0_2 a0_3 a0_4 a0_5 l0_6 a0_7 = some r) :
  Calls Tryz.prog 94 #[.agg #[.int .i64 a0_0, .string a0_1, .string a0_2, .int .i64 a0_3, .int .i64 a0_4, .int .i64 a0_5, .slice A0_6 l0_6.length c0_6, .int .i64 a0_7]] w fun e w' => e = .returned (.bool r) ∧ Below w.heap.size w w' :=
 ah.calls ⟨ag.f k, ag.calls k⟩ k a0_0 a0_1 a0_2 a0_3 a0_4 a0_5 A0_6 c0_6 l0_6 a0_7 r w hr0_6 hc0_6 hsh h
def dQ.f (k : Nat) (a0_0 : Int) (a0_1 : ByteArray) (a0_2 : ByteArray) (a0_3 : Int) (a0_4 : Int) (a0_5 : Int) (l0_6 : List (dS)) (a0_7 : Int) : Option (Bool) := ak.f (ag.f k) k a0_0 a0_1 a0_2 a0_3 a0_4 a0_5 l0_6 a0_7
theorem dQ.mono : ∀ a0 a1 a2 a3 a4 a5 a6 a7 k, LeO (dQ.f k a0 a1 a2 a3 a4 a5 a6 a7) (dQ.f (k + 1) a0 a1 a2 a3 a4 a5 a6 a7) := fun a0 a1 a2 a3 a4 a5 a6 a7 k => ak.mono _ _ (fun y0 y1 y2 y3 y4 y5 y6 y7 y8 => ag.mono y0 y1 y2 y3 y4 y5 y6 y7 y8 k) a0 a1 a2 a3 a4 a5 a6 a7 k
theorem dQ.calls (k : Nat) (a0_0 : Int) (a0_1 : ByteArray) (a0_2 : ByteArray) (a0_3 : Int) (a0_4 : Int) (a0_5 : Int) (A0_6 : Option Addr) (c0_6 : Nat) (l0_6 : List (dS)) (a0_7 : Int) (r : Bool) (w : World) (hr0_6 : Kd.C jo w A0_6 l0_6.length l0_6) (hc0_6 : l0_6.length ≤ c0_6) (hsh : Sh w) (h : dQ.f k a0_0 a0_1 a0_2 a0_3 a0_4 a0_5 l0_6 a0_7 = some r) :
  Calls Tryz.prog 71 #[.agg #[.int .i64 a0_0, .string a0_1, .string a0_2, .int .i64 a0_3, .int .i64 a0_4, .int .i64 a0_5, .slice A0_6 l0_6.length c0_6, .int .i64 a0_7]] w fun e w' => e = .returned (.bool r) ∧ Below w.heap.size w w' :=
 ak.calls ⟨ag.f k, ag.calls k⟩ k a0_0 a0_1 a0_2 a0_3 a0_4 a0_5 A0_6 c0_6 l0_6 a0_7 r w hr0_6 hc0_6 hsh h
def cB.f (k : Nat) (l0 : List (S88)) : Option (Bool) := (fE.f k l0).bind fun bt373 => (if bt373.2.2.2.2.2.2.2.2 = true then (if bt373.1 = 27 then ((dQ.f k bt373.1 bt373.2.1 bt373.2.2.1 bt373.2.2.2.1 bt373.2.2.2.2.1 bt373.2.2.2.2.2.1 bt373.2.2.2.2.2.2.1 bt373.2.2.2.2.2.2.2.1).bind fun t385 => (some t385)) else (some false)) else (some false))
theorem cB.mono : ∀ a0 k, LeO (cB.f k a0) (cB.f (k + 1) a0) := by
 intro a0 k
 unfold cB.f
 repeat' (with_reducible first | exact fE.mono .. | exact dQ.mono .. | exact LeO.refl _ | exact LeO.none _ | refine LeO.ite ?_ ?_ | refine LeO.bind ?_ (fun _ => ?_))
theorem cB.calls (k : Nat) (A0 : Option Addr) (c0 : Nat) (l0 : List (S88)) (r : Bool) (w : World) (hr0 : Kd.C k88 w A0 l0.length l0) (hc0 : l0.length ≤ c0) (hsh : Sh w) (h : cB.f k l0 = some r) :
  Calls Tryz.prog 53 #[.slice A0 l0.length c0] w fun e w' => e = .returned (.bool r) ∧ Below w.heap.size w w' := by
 have hu105 := Tryz.underlying105
 have Gz := am hr0
 have Ia := am hc0
 clear hr0 hc0
 have HSH := am hsh; clear hsh
 have HB := am (Below.refl w.heap.size w)
 have H := h
 clear h
 unfold cB.f at H
 replace H := bi H; obtain ⟨⟨t373, t374, t375, t376, t377, t378, t379, t382, t383⟩, A2, H⟩ := H; dsimp only at H
 replace H := iT H; rcases H with ⟨rfl, H⟩ | ⟨rfl, H⟩
 ·revert H; refine iQ (fun Ib Ic H => ?_) fun c4 Ib Ic H => ?_
  ·revert H; refine bj fun t385 A5 H => ?_
   obtain rfl := Option.some.inj H
   go_enter Tryz.func53, Tryz.ntmps53
   go_wp2_with (first | ((with_reducible refine c_ 70 ?_); refine gc 70 (some 7) Tryz.func70 (fE.calls _ _ _ _ _ _ _ _ _ _ _ _ _ _ ?Cf ?Ci A2.out) ?_; (case Cf => repeat (first | exact Gz.out | (with_reducible refine Kd.fV ?_ _) | (with_reducible refine Kd.fU ?_ _) | (with_reducible refine Kd.gU ?_))); (case Ci => exact Ia.out); rintro e w6 ⟨v380, rfl, ho0, hb⟩; refine ⟨_, rfl, ?_⟩; have Cj := am (Kd.bz ho0 (az bl)); replace HB := ho hb; clear hb ho0) | ((with_reducible refine g_ 3 ?_); refine bx 3 #[.int .i64 0, .string (⟨#[]⟩ : ByteArray), .string (⟨#[]⟩ : ByteArray), .int .i64 0, .int .i64 0, .int .i64 0, .slice none 0 0, .int .i64 0] 105 ?_; intro Cm hg w7 hbox hb; replace Cj := am (Kd.gP (Kd.jc (kr Cj.out) Cm (Nat.le_of_eq hg.symm)) hb); have Du := am hbox; have Dv := am (bsz hg : w.heap.size ≤ Cm); have Es := Dv; replace HB := ho hb; clear hb hbox hg; have Z8 := dD Du.out; obtain ⟨Jh, Je, Ji⟩ := Kd.aI Cj.out; subst Ji) | (go_at_call 71; (with_reducible refine (dQ.calls _ _ _ _ _ _ _ _ _ _ _ _ _ ?Cf ?Ci ?Cn A5.out).mono ?_); (case Cf => refine (Kd.af (e := 105) (base := w.heap.size) (ok := fun k_ => (True ∧ k_ ≠ Cm)) (n := t379.length) (c := Je) ?_).2.2; exact (by exact (Kd.ax (eU (Kd.ax Cj.out (fun k_ hk => (⟨hk, hk.2⟩ : _ ∧ k_ ≠ Cm)))) (fun _ h_ => h_.1)))); (case Ci => exact (Kd.af Cj.out).2.1); (case Cn => exact Sh.below HSH.out bl); rintro e w10 ⟨rfl, hb⟩; replace Cj := am (Kd.gP (by exact (Kd.ax (eU (Kd.ax Cj.out (fun k_ hk => (⟨hk, hk.2⟩ : _ ∧ k_ ≠ Cm)))) (fun _ h_ => h_.1))) hb); replace Du := am (bQ (g := Cm) (o := .cells #[.int .i64 t373, .string t374, .string t375, .int .i64 t376, .int .i64 t377, .int .i64 t378, .slice Jh t379.length Je, .int .i64 t382] 105 (0, 0)) (bp Du.out) hb); replace HB := ho hb; clear hb))
   go_ret
   exact ⟨er, bl⟩
  obtain rfl := Option.some.inj H
  go_enter Tryz.func53, Tryz.ntmps53
  go_wp2_with (first | ((with_reducible refine c_ 70 ?_); refine gc 70 (some 7) Tryz.func70 (fE.calls _ _ _ _ _ _ _ _ _ _ _ _ _ _ ?Cf ?Ci A2.out) ?_; (case Cf => repeat (first | exact Gz.out | (with_reducible refine Kd.fV ?_ _) | (with_reducible refine Kd.fU ?_ _) | (with_reducible refine Kd.gU ?_))); (case Ci => exact Ia.out); rintro e w11 ⟨v380, rfl, ho0, hb⟩; refine ⟨_, rfl, ?_⟩; have Cj := am (Kd.bz ho0 (az bl)); replace HB := ho hb; clear hb ho0) | ((with_reducible refine g_ 3 ?_); refine bx 3 #[.int .i64 0, .string (⟨#[]⟩ : ByteArray), .string (⟨#[]⟩ : ByteArray), .int .i64 0, .int .i64 0, .int .i64 0, .slice none 0 0, .int .i64 0] 105 ?_; intro Cm hg w12 hbox hb; replace Cj := am (Kd.gP (Kd.jc (kr Cj.out) Cm (Nat.le_of_eq hg.symm)) hb); have Du := am hbox; have Dv := am (bsz hg : w.heap.size ≤ Cm); have Es := Dv; replace HB := ho hb; clear hb hbox hg; have Jx := dD Du.out; obtain ⟨Jj, Jk, Ie⟩ := Kd.aI Cj.out; subst Ie))
  go_ret
  exact ⟨er, bl⟩
 obtain rfl := Option.some.inj H
 go_enter Tryz.func53, Tryz.ntmps53
 go_wp2_with (first | ((with_reducible refine c_ 70 ?_); refine gc 70 (some 7) Tryz.func70 (fE.calls _ _ _ _ _ _ _ _ _ _ _ _ _ _ ?Cf ?Ci A2.out) ?_; (case Cf => repeat (first | exact Gz.out | (with_reducible refine Kd.fV ?_ _) | (with_reducible refine Kd.fU ?_ _) | (with_reducible refine Kd.gU ?_))); (case Ci => exact Ia.out); rintro e w15 ⟨v380, rfl, ho0, hb⟩; refine ⟨_, rfl, ?_⟩; have Cj := am (Kd.bz ho0 (az bl)); replace HB := ho hb; clear hb ho0) | ((with_reducible refine g_ 3 ?_); refine bx 3 #[.int .i64 0, .string (⟨#[]⟩ : ByteArray), .string (⟨#[]⟩ : ByteArray), .int .i64 0, .int .i64 0, .int .i64 0, .slice none 0 0, .int .i64 0] 105 ?_; intro Cm hg w16 hbox hb; replace Cj := am (Kd.gP (Kd.jc (kr Cj.out) Cm (Nat.le_of_eq hg.symm)) hb); have Du := am hbox; have Dv := am (bsz hg : w.heap.size ≤ Cm); have Es := Dv; replace HB := ho hb; clear hb hbox hg; have Jy := dD Du.out; obtain ⟨Jl, Jm, Ig⟩ := Kd.aI Cj.out; subst Ig))
 go_ret
 exact ⟨er, bl⟩
mutual
def aA.j0 : Nat → Bool → ByteArray → Int → List ByteArray → List ByteArray → List (S83) → List (S88) → List (S88) → List (S88) → Option (Bool)
 | 0, _, _, _, _, _, _, _, _, _ => none
 | k + 1, x36, x387000, x387001, x387002, x387003, x387004, x387005, x387006, x387007 => if x36 = true then (some false) else ((aj.f k (([x387002, x387003] : List (List ByteArray)))).bind fun t393 => (aA.l0 k t393 x387004 (x387004.length : Int) 0 x387000 x387001 x387002 x387003 x387004 x387005 x387006 x387007))
def aA.l0 : Nat → List ByteArray → List (S83) → Int → Int → ByteArray → Int → List ByteArray → List ByteArray → List (S83) → List (S88) → List (S88) → List (S88) → Option (Bool)
 | 0, _, _, _, _, _, _, _, _, _, _, _, _ => none
 | k + 1, x3, x44, x45, x46, x387000, x387001, x387002, x387003, x387004, x387005, x387006, x387007 => if x46 < x45 then (if 0 ≤ x46 then (if x46 < (x44.length : Int) then (if x3.length < 8796093022208 then ((bE.f k ((aX x44 x46).f1) ((aX x44 x46).f2)).bind fun t401 => (if t401 = true then ((bE.f k ((aX x44 x46).f1) ((aX x44 x46).f3)).bind fun t402 => (if t402 = true then (if ((aX x44 x46).f2) > ((aX x44 x46).f3) then (some false) else (aA.l0 k (x3 ++ [(aX x44 x46).f0]) x44 x45 (wrap64 (x46 + 1)) x387000 x387001 x387002 x387003 x387004 x387005 x387006 x387007)) else (some false))) else (some false))) else (none)) else (none)) else (none)) else (aA.l1 k x3 x3 (x3.length : Int) 0 x387000 x387001 x387002 x387003 x387004 x387005 x387006 x387007)
def aA.l1 : Nat → List ByteArray → List ByteArray → Int → Int → ByteArray → Int → List ByteArray → List ByteArray → List (S83) → List (S88) → List (S88) → List (S88) → Option (Bool)
 | 0, _, _, _, _, _, _, _, _, _, _, _, _ => none
 | k + 1, x3, x77, x78, x79, x387000, x387001, x387002, x387003, x387004, x387005, x387006, x387007 => if x79 < x78 then (if 0 ≤ x79 then (if x79 < (x77.length : Int) then ((df.f (fG ByteArray.empty x77 x79)).bind fun t407 => (if t407 = true then (if x79 ≤ (x3.length : Int) then ((ay.f k (x3.take (x79 : Int).toNat) (fG ByteArray.empty x77 x79)).bind fun t413 => (if t413 = true then (some false) else (aA.l1 k x3 x77 x78 (wrap64 (x79 + 1)) x387000 x387001 x387002 x387003 x387004 x387005 x387006 x387007))) else (none)) else (some false))) else (none)) else (none)) else ((cB.f k x387005).bind fun t403 => (if t403 = true then ((cB.f k x387006).bind fun t404 => (if t404 = true then ((cB.f k x387007).bind fun t405 => (some t405)) else (some false))) else (some false)))
end
def aA.f (k : Nat) (a0_0 : ByteArray) (a0_1 : Int) (l0_2 : List ByteArray) (l0_3 : List ByteArray) (l0_4 : List (S83)) (l0_5 : List (S88)) (l0_6 : List (S88)) (l0_7 : List (S88)) : Option (Bool) := (df.f a0_0).bind fun t387 => (if t387 = true then ((gq.f a0_1).bind fun t388 => (if t388 = true then (if (l0_2.length : Int) > 4 then (aA.j0 k true a0_0 a0_1 l0_2 l0_3 l0_4 l0_5 l0_6 l0_7) else ((dZ.f (l0_3.length : Int) 1 6).bind fun t389 => (if t389 = true then (aA.j0 k (decide ((l0_4.length : Int) > 8)) a0_0 a0_1 l0_2 l0_3 l0_4 l0_5 l0_6 l0_7) else (aA.j0 k true a0_0 a0_1 l0_2 l0_3 l0_4 l0_5 l0_6 l0_7)))) else (aA.j0 k true a0_0 a0_1 l0_2 l0_3 l0_4 l0_5 l0_6 l0_7))) else (aA.j0 k true a0_0 a0_1 l0_2 l0_3 l0_4 l0_5 l0_6 l0_7))
theorem aA.bI : ∀ k, (∀ y0 y1 y2 y3 y4 y5 y6 y7 y8, LeO (aA.j0 k y0 y1 y2 y3 y4 y5 y6 y7 y8) (aA.j0 (k + 1) y0 y1 y2 y3 y4 y5 y6 y7 y8)) ∧ (∀ y0 y1 y2 y3 y4 y5 y6 y7 y8 y9 y10 y11, LeO (aA.l0 k y0 y1 y2 y3 y4 y5 y6 y7 y8 y9 y10 y11) (aA.l0 (k + 1) y0 y1 y2 y3 y4 y5 y6 y7 y8 y9 y10 y11)) ∧ (∀ y0 y1 y2 y3 y4 y5 y6 y7 y8 y9 y10 y11, LeO (aA.l1 k y0 y1 y2 y3 y4 y5 y6 y7 y8 y9 y10 y11) (aA.l1 (k + 1) y0 y1 y2 y3 y4 y5 y6 y7 y8 y9 y10 y11))
 | 0 => ⟨fun _ _ _ _ _ _ _ _ _ r h => by simp [aA.j0] at h, fun _ _ _ _ _ _ _ _ _ _ _ _ r h => by simp [aA.l0] at h, fun _ _ _ _ _ _ _ _ _ _ _ _ r h => by simp [aA.l1] at h⟩
 | k + 1 => by
  obtain ⟨ih0, ih1, ih2⟩ := aA.bI k
  refine ⟨?_, ?_, ?_⟩
  ·intro y0 y1 y2 y3 y4 y5 y6 y7 y8
   unfold aA.j0
   repeat' (with_reducible first | exact ih0 .. | exact ih1 .. | exact ih2 .. | exact cB.mono .. | exact bE.mono .. | exact aj.mono .. | exact ay.mono .. | exact LeO.refl _ | exact LeO.none _ | refine LeO.ite ?_ ?_ | refine LeO.bind ?_ (fun _ => ?_))
  ·intro y0 y1 y2 y3 y4 y5 y6 y7 y8 y9 y10 y11
   unfold aA.l0
   repeat' (with_reducible first | exact ih0 .. | exact ih1 .. | exact ih2 .. | exact cB.mono .. | exact bE.mono .. | exact aj.mono .. | exact ay.mono .. | exact LeO.refl _ | exact LeO.none _ | refine LeO.ite ?_ ?_ | refine LeO.bind ?_ (fun _ => ?_))
  intro y0 y1 y2 y3 y4 y5 y6 y7 y8 y9 y10 y11
  unfold aA.l1
  repeat' (with_reducible first | exact ih0 .. | exact ih1 .. | exact ih2 .. | exact cB.mono .. | exact bE.mono .. | exact aj.mono .. | exact ay.mono .. | exact LeO.refl _ | exact LeO.none _ | refine LeO.ite ?_ ?_ | refine LeO.bind ?_ (fun _ => ?_))
theorem aA.mono : ∀ a0 a1 a2 a3 a4 a5 a6 a7 k, LeO (aA.f k a0 a1 a2 a3 a4 a5 a6 a7) (aA.f (k + 1) a0 a1 a2 a3 a4 a5 a6 a7) := by
 intro a0 a1 a2 a3 a4 a5 a6 a7 k
 obtain ⟨ih0, ih1, ih2⟩ := aA.bI k
 unfold aA.f
 repeat' (with_reducible first | exact ih0 .. | exact ih1 .. | exact ih2 .. | exact cB.mono .. | exact bE.mono .. | exact aj.mono .. | exact ay.mono .. | exact LeO.refl _ | exact LeO.none _ | refine LeO.ite ?_ ?_ | refine LeO.bind ?_ (fun _ => ?_))
set_option maxHeartbeats 8000000 in
set_option maxRecDepth 100000 in
theorem aA.calls (k : Nat) (a0_0 : ByteArray) (a0_1 : Int) (P0_2_ : Nat → Prop) (A0_2 : Option Addr) (c0_2 : Nat) (l0_2 : List ByteArray) (P0_3_ : Nat → Prop) (A0_3 : Option Addr) (c0_3 : Nat) (l0_3 : List ByteArray) (A0_4 : Option Addr) (c0_4 : Nat) (l0_4 : List (S83)) (A0_5 : Option Addr) (c0_5 : Nat) (l0_5 : List (S88)) (A0_6 : Option Addr) (c0_6 : Nat) (l0_6 : List (S88)) (A0_7 : Option Addr) (c0_7 : Nat) (l0_7 : List (S88)) (r : Bool) (w : World) (hs0_2 : Kd.V Kd.string 9 w w.heap.size (fun k_ => P0_2_ k_) (.slice A0_2 l0_2.length c0_2) l0_2) (hs0_3 : Kd.V Kd.string 9 w w.heap.size (fun k_ => P0_3_ k_) (.slice A0_3 l0_3.length c0_3) l0_3) (hr0_4 : Kd.C k83 w A0_4 l0_4.length l0_4) (hc0_4 : l0_4.length ≤ c0_4) (hr0_5 : Kd.C k88 w A0_5 l0_5.length l0_5) (hc0_5 : l0_5.length ≤ c0_5) (hr0_6 : Kd.C k88 w A0_6 l0_6.length l0_6) (hc0_6 : l0_6.length ≤ c0_6) (hr0_7 : Kd.C k88 w A0_7 l0_7.length l0_7) (hc0_7 : l0_7.length ≤ c0_7) (hsh : Sh w) (h : aA.f k a0_0 a0_1 l0_2 l0_3 l0_4 l0_5 l0_6 l0_7 = some r) :
  Calls Tryz.prog 26 #[.agg #[.string a0_0, .int .i64 a0_1, .slice A0_2 l0_2.length c0_2, .slice A0_3 l0_3.length c0_3, .slice A0_4 l0_4.length c0_4, .slice A0_5 l0_5.length c0_5, .slice A0_6 l0_6.length c0_6, .slice A0_7 l0_7.length c0_7]] w fun e w' => e = .returned (.bool r) ∧ Below w.heap.size w w' := by
 have hu39 := Tryz.underlying39
 have hu83 := Tryz.underlying83
 have Dl := am (show Kd.V Kd.string 9 w w.heap.size (fun k_ => ((P0_2_ k_ ∨ P0_3_ k_) ∨ w.heap.size ≤ k_)) (.slice A0_2 l0_2.length c0_2) l0_2 from Kd.dL hs0_2 (fun k_ hk => .inl (.inl hk)))
 have Dn := am (show Kd.V Kd.string 9 w w.heap.size (fun k_ => ((P0_2_ k_ ∨ P0_3_ k_) ∨ w.heap.size ≤ k_)) (.slice A0_3 l0_3.length c0_3) l0_3 from Kd.dL hs0_3 (fun k_ hk => .inl (.inr hk)))
 have Ee := am hr0_4
 have Ic := am hc0_4
 clear hr0_4 hc0_4
 have Ek := am hr0_5
 have Em := am hc0_5
 clear hr0_5 hc0_5
 have Ep := am hr0_6
 have Es := am hc0_6
 clear hr0_6 hc0_6
 have Gf := am hr0_7
 have Gg := am hc0_7
 clear hr0_7 hc0_7
 have HSH := am hsh; clear hsh
 have HB := am (Below.refl w.heap.size w)
 have H := h
 clear h
 unfold aA.f at H
 have Gq := am H; clear H
 go_enter Tryz.func26, Tryz.ntmps26
 go_upto_region 1 with (first | ((with_reducible refine dH (N := 1) rfl ?_); (try (refine dz (by rfl) ?_; dsimp only)); refine dR ?hg (N := 1) ?hd (cs := #[.string a0_0, .int .i64 a0_1, .slice A0_2 l0_2.length c0_2, .slice A0_3 l0_3.length c0_3, .slice A0_4 l0_4.length c0_4, .slice A0_5 l0_5.length c0_5, .slice A0_6 l0_6.length c0_6, .slice A0_7 l0_7.length c0_7]) (t := 39) ?hr ?_; (case hd => rfl); (case hg => rfl); (case hr => first | (go_simp; done) | (go_simp; rfl)); intro Cj hg w3 hbox hb; replace Dl := ve Dl Cj hg hb; replace Dn := ve Dn Cj hg hb; have Cd := am hbox; have Gh := am (bsz hg : w.heap.size ≤ Cj); have Ie := Gh; replace HB := ho hb; clear hb hbox hg))
 (try simp only [Act.put, z1, z2, z3])
 go_cut [36] (fun v36 wc => ∃ (kq : Nat) (x36_1 : Bool), v36 = .bool x36_1 ∧ aa (aA.j0 kq x36_1 a0_0 a0_1 l0_2 l0_3 l0_4 l0_5 l0_6 l0_7 = some r) ∧ aa (kq ≤ k) ∧ aa (Kd.V Kd.string 9 wc w.heap.size (fun k_ => ((P0_2_ k_ ∨ P0_3_ k_) ∨ w.heap.size ≤ k_) ∧ k_ ≠ Cj) (.slice A0_2 l0_2.length c0_2) l0_2) ∧ aa (Kd.V Kd.string 9 wc w.heap.size (fun k_ => ((P0_2_ k_ ∨ P0_3_ k_) ∨ w.heap.size ≤ k_) ∧ k_ ≠ Cj) (.slice A0_3 l0_3.length c0_3) l0_3) ∧ aa (wc.heap[Cj]? = some (.cells #[.string a0_0, .int .i64 a0_1, (.slice A0_2 l0_2.length c0_2), (.slice A0_3 l0_3.length c0_3), (.slice A0_4 l0_4.length c0_4), (.slice A0_5 l0_5.length c0_5), (.slice A0_6 l0_6.length c0_6), (.slice A0_7 l0_7.length c0_7)] 39 (0, 0))) ∧ aa (Below w.heap.size w wc))
 case first =>
  have H := Gq.out
  clear Gq
  revert H; refine bj fun t387 A4 H => ?_
  replace H := iT H; rcases H with ⟨rfl, H⟩ | ⟨rfl, H⟩
  ·revert H; refine bj fun t388 A6 H => ?_
   replace H := iT H; rcases H with ⟨rfl, H⟩ | ⟨rfl, H⟩
   ·revert H; refine iDn (fun c8 En H => ?_) fun c8 En H => ?_
    ·have Gs : decide (4 < l0_2.length) = true := decide_eq_true (by omega)
     clear c8
     (first | rw [En] | (simp only [bu, bv]; rw [En]) | skip)
     have H' := am H; clear H
     have Z9 := dD Cd.out
     go_wp2_with (first | ((with_reducible refine c_ 49 ?_); refine gc 49 (some 10) Tryz.func49 (df.calls _ _ _ ?Cm A4.out) ?_; (case Cm => exact Sh.below HSH.out bl); rintro e w10 ⟨rfl, hb⟩; refine ⟨_, rfl, ?_⟩; replace Dl := vb Dl hb; replace Dn := vb Dn hb; replace Cd := bo Cd hb; replace HB := ho hb; clear hb; have Jl := dD Cd.out) | (go_at_call 50; (with_reducible refine (gq.calls _ _ _ A6.out).mono ?_); rintro e w' ⟨rfl, ⟨nd, rfl⟩⟩))
     go_meet
     case rel => exact ⟨_, (true), rs, H', ⟨by first | omega | exact Nat.le_refl _⟩, ⟨kv Dl.out⟩, ⟨kv Dn.out⟩, ⟨bk Cd.out⟩, ⟨bl⟩⟩
    have Gs : decide (4 < l0_2.length) = false := decide_eq_false (by omega)
    clear c8
    (first | rw [En] | (simp only [bu, bv]; rw [En]) | skip)
    revert H; refine bj fun t389 Ig H => ?_
    replace H := iT H; rcases H with ⟨rfl, H⟩ | ⟨rfl, H⟩
    ·have H' := am H; clear H
     have Jm := dD Cd.out
     go_wp2_with (first | ((with_reducible refine c_ 49 ?_); refine gc 49 (some 10) Tryz.func49 (df.calls _ _ _ ?Cm A4.out) ?_; (case Cm => exact Sh.below HSH.out bl); rintro e w15 ⟨rfl, hb⟩; refine ⟨_, rfl, ?_⟩; replace Dl := vb Dl hb; replace Dn := vb Dn hb; replace Cd := bo Cd hb; replace HB := ho hb; clear hb; have Jn := dD Cd.out) | (go_at_call 50; (with_reducible refine (gq.calls _ _ _ A6.out).mono ?_); rintro e w' ⟨rfl, ⟨nd, rfl⟩⟩) | (go_at_call 28; (with_reducible refine (dZ.calls _ _ _ _ _ Ig.out).mono ?_); rintro e w' ⟨rfl, ⟨nd, rfl⟩⟩))
     go_meet
     case rel => exact ⟨_, (decide ((l0_4.length : Int) > 8)), rs, H', ⟨by first | omega | exact Nat.le_refl _⟩, ⟨kv Dl.out⟩, ⟨kv Dn.out⟩, ⟨bk Cd.out⟩, ⟨bl⟩⟩
    have H' := am H; clear H
    have Jo := dD Cd.out
    go_wp2_with (first | ((with_reducible refine c_ 49 ?_); refine gc 49 (some 10) Tryz.func49 (df.calls _ _ _ ?Cm A4.out) ?_; (case Cm => exact Sh.below HSH.out bl); rintro e w18 ⟨rfl, hb⟩; refine ⟨_, rfl, ?_⟩; replace Dl := vb Dl hb; replace Dn := vb Dn hb; replace Cd := bo Cd hb; replace HB := ho hb; clear hb; have Jp := dD Cd.out) | (go_at_call 50; (with_reducible refine (gq.calls _ _ _ A6.out).mono ?_); rintro e w' ⟨rfl, ⟨nd, rfl⟩⟩) | (go_at_call 28; (with_reducible refine (dZ.calls _ _ _ _ _ Ig.out).mono ?_); rintro e w' ⟨rfl, ⟨nd, rfl⟩⟩))
    go_meet
    case rel => exact ⟨_, (true), rs, H', ⟨by first | omega | exact Nat.le_refl _⟩, ⟨kv Dl.out⟩, ⟨kv Dn.out⟩, ⟨bk Cd.out⟩, ⟨bl⟩⟩
   have H' := am H; clear H
   have Jq := dD Cd.out
   go_wp2_with (first | ((with_reducible refine c_ 49 ?_); refine gc 49 (some 10) Tryz.func49 (df.calls _ _ _ ?Cm A4.out) ?_; (case Cm => exact Sh.below HSH.out bl); rintro e w21 ⟨rfl, hb⟩; refine ⟨_, rfl, ?_⟩; replace Dl := vb Dl hb; replace Dn := vb Dn hb; replace Cd := bo Cd hb; replace HB := ho hb; clear hb; have Jr := dD Cd.out) | (go_at_call 50; (with_reducible refine (gq.calls _ _ _ A6.out).mono ?_); rintro e w' ⟨rfl, ⟨nd, rfl⟩⟩))
   go_meet
   case rel => exact ⟨_, (true), rs, H', ⟨by first | omega | exact Nat.le_refl _⟩, ⟨kv Dl.out⟩, ⟨kv Dn.out⟩, ⟨bk Cd.out⟩, ⟨bl⟩⟩
  have H' := am H; clear H
  have Js := dD Cd.out
  go_wp2_with (first | ((with_reducible refine c_ 49 ?_); refine gc 49 (some 10) Tryz.func49 (df.calls _ _ _ ?Cm A4.out) ?_; (case Cm => exact Sh.below HSH.out bl); rintro e w24 ⟨rfl, hb⟩; refine ⟨_, rfl, ?_⟩; replace Dl := vb Dl hb; replace Dn := vb Dn hb; replace Cd := bo Cd hb; replace HB := ho hb; clear hb))
  go_meet
  case rel => exact ⟨_, (true), rs, H', ⟨by first | omega | exact Nat.le_refl _⟩, ⟨kv Dl.out⟩, ⟨kv Dn.out⟩, ⟨bk Cd.out⟩, ⟨bl⟩⟩
 case rest =>
  clear Gq
  obtain ⟨kq, x36_1, rfl, HA, Gm, Cb, Cc, Cd, HB⟩ := hcut
  cases kq with
  | zero => exact absurd HA.out (by simp [aA.j0])
  | succ kj1 =>
   have H := HA.out
   clear HA
   simp only [aA.j0] at H
   replace H := iT H; rcases H with ⟨rfl, H⟩ | ⟨rfl, H⟩
   ·obtain rfl := Option.some.inj H
    go_wp2
    go_ret
    exact ⟨er, bl⟩
   generalize h_ : ((([l0_2, l0_3] : List (List ByteArray))) : List (List ByteArray)) = Jg at H
   have Et := am h_.symm; clear h_; try rw [Option.bind_some] at H
   revert H; refine bj fun t393 Jh H => ?_
   have H' := am H; clear H
   have Ih := dD Cd.out
   go_wp2_with (first | ((with_reducible refine dH (N := 41) rfl ?_); (try (refine dz (by rfl) ?_; dsimp only)); refine Kd.N_lit (Kd.slice 9 Kd.string) _ 22 ?hg (N' := 41) ?hd (xs := ([l0_2, l0_3] : List (List ByteArray))) (inner := [.slice A0_2 l0_2.length c0_2, .slice A0_3 l0_3.length c0_3]) (ok := (fun k_ => ((P0_2_ k_ ∨ P0_3_ k_) ∨ w.heap.size ≤ k_) ∧ k_ ≠ Cj)) (okp := (fun k_ => ((P0_2_ k_ ∨ P0_3_ k_) ∨ w.heap.size ≤ k_) ∧ k_ ≠ Cj)) ?hr ?hp (fun _ hk => hk) ((show ∀ k_, wc.heap.size ≤ k_ → (fun k_ => ((P0_2_ k_ ∨ P0_3_ k_) ∨ w.heap.size ≤ k_) ∧ k_ ≠ Cj) k_ from fun k_ hk => ⟨(.inr (Nat.le_trans (az bl) hk)), Kd.lI (g := Cj) (o := .cells #[.string a0_0, .int .i64 a0_1, .slice A0_2 l0_2.length c0_2, .slice A0_3 l0_3.length c0_3, .slice A0_4 l0_4.length c0_4, .slice A0_5 l0_5.length c0_5, .slice A0_6 l0_6.length c0_6, .slice A0_7 l0_7.length c0_7] 39 (0, 0)) (bk Cd.out) k_ hk⟩) _ (Nat.le_refl _)) (Below.refl _ _) (Nat.le_refl _) (by simp) ?_; (case hd => rfl); (case hg => rfl); (case hr => first | (go_simp; done) | (go_simp; rfl)); (case hp => exact (dw.one (show Kd.FK (Kd.slice 9 Kd.string) _ _ l0_2 [.slice A0_2 l0_2.length c0_2] from (Kd.jZ (Kd.jy (Kd.dL (ok' := (fun k_ => ((P0_2_ k_ ∨ P0_3_ k_) ∨ w.heap.size ≤ k_) ∧ k_ ≠ Cj)) (Cb.out) (fun k_ hk => ⟨hk.1, hk.2⟩))).2.1 (Kd.V_F (Kd.dL (ok' := (fun k_ => ((P0_2_ k_ ∨ P0_3_ k_) ∨ w.heap.size ≤ k_) ∧ k_ ≠ Cj)) (Cb.out) (fun k_ hk => ⟨hk.1, hk.2⟩))))) (dw.one (show Kd.FK (Kd.slice 9 Kd.string) _ _ l0_3 [.slice A0_3 l0_3.length c0_3] from (Kd.jZ (Kd.jy (Kd.dL (ok' := (fun k_ => ((P0_2_ k_ ∨ P0_3_ k_) ∨ w.heap.size ≤ k_) ∧ k_ ≠ Cj)) (Cc.out) (fun k_ hk => ⟨hk.1, hk.2⟩))).2.1 (Kd.V_F (Kd.dL (ok' := (fun k_ => ((P0_2_ k_ ∨ P0_3_ k_) ∨ w.heap.size ≤ k_) ∧ k_ ≠ Cj)) (Cc.out) (fun k_ hk => ⟨hk.1, hk.2⟩))))) (dw.none _ _)))); intro v391 w28 ho29 hb hg_ hnew_; clear hg_ hnew_; (first | rw [← Et.out] at ho29 | (simp only [Int.reduceToNat] at ho29; rw [← Et.out] at ho29)); replace Cb := am (Kd.jA (kv Cb.out) (Kd.pM ho29) hb); replace Cc := am (Kd.jA (kv Cc.out) (Kd.pM ho29) hb); have Eb := am (Kd.sK ho29 (az bl)); replace Cd := bo Cd hb; replace HB := ho hb; clear hb ho29; obtain ⟨Ji, Jj, Gu⟩ := Kd.sJ Eb.out; subst Gu) | ((with_reducible refine c_ 27 ?_); refine gc 27 (some 42) Tryz.func27 (aj.calls _ _ _ _ _ _ ?Cm ?Dp Jh.out) ?_; (case Cm => repeat (first | exact (Kd.mf Eb.out).2.2 | (with_reducible refine Kd.fV ?_ _) | (with_reducible refine Kd.fU ?_ _) | (with_reducible refine Kd.gU ?_))); (case Dp => exact (Kd.mf Eb.out).2.1); rintro e w31 ⟨v394, rfl, ho0, hb⟩; refine ⟨_, rfl, ?_⟩; replace Cb := am (Kd.jA (kv Cb.out) (Kd.bO ho0) hb); replace Cc := am (Kd.jA (kv Cc.out) (Kd.bO ho0) hb); replace Eb := am (Kd.qF (by (with_reducible repeat (first | apply Kd.pO | apply Kd.pK | apply Kd.rM)); exact Eb.out) (Kd.bO ho0) hb); have Gi := am (Kd.bz (Kd.vU (M := fun k_ => (w.heap.size ≤ k_)) ho0 (az bl) (fun k_ h_ => h_)) (az bl)); replace Cd := bo Cd hb; replace HB := ho hb; clear hb ho0; have Ii := dD Cd.out))
   go_loopg [3, 46] kj1 (fun kq v3 v46 w' => ∃ (x3_2 : List ByteArray) (x46_2 : Int), v46 = .int .i64 x46_2 ∧ aa (aA.l0 kq x3_2 l0_4 (l0_4.length : Int) x46_2 a0_0 a0_1 l0_2 l0_3 l0_4 l0_5 l0_6 l0_7 = some r) ∧ aa (kq ≤ kj1) ∧ aa (Kd.R Kd.string 9 w' w.heap.size (fun k_ => (w.heap.size ≤ k_)) v3 x3_2) ∧ aa (Kd.V Kd.string 9 w' w.heap.size (fun k_ => ((P0_2_ k_ ∨ P0_3_ k_) ∨ w.heap.size ≤ k_) ∧ some k_ ≠ (v3 : Value).ownBlock ∧ k_ ≠ Cj) (.slice A0_2 l0_2.length c0_2) l0_2) ∧ aa (Kd.V Kd.string 9 w' w.heap.size (fun k_ => ((P0_2_ k_ ∨ P0_3_ k_) ∨ w.heap.size ≤ k_) ∧ some k_ ≠ (v3 : Value).ownBlock ∧ k_ ≠ Cj) (.slice A0_3 l0_3.length c0_3) l0_3) ∧ aa (w'.heap[Cj]? = some (.cells #[.string a0_0, .int .i64 a0_1, (.slice A0_2 l0_2.length c0_2), (.slice A0_3 l0_3.length c0_3), (.slice A0_4 l0_4.length c0_4), (.slice A0_5 l0_5.length c0_5), (.slice A0_6 l0_6.length c0_6), (.slice A0_7 l0_7.length c0_7)] 39 (0, 0))) ∧ aa (Below w.heap.size w w'))
   case atStart => exact ⟨(t393), (0), rs, H', ⟨Nat.le_refl _⟩, ⟨by exact Kd.ax (kr Gi.out) (fun _ hk => hk.1)⟩, ⟨by exact Kd.dL (kv Cb.out) (fun _ hk => ⟨hk.1.1.1, ⟨hk.2, hk.1.1.2⟩⟩)⟩, ⟨by exact Kd.dL (kv Cc.out) (fun _ hk => ⟨hk.1.1.1, ⟨hk.2, hk.1.1.2⟩⟩)⟩, ⟨bk Cd.out⟩, ⟨bl⟩⟩
   case round =>
    clear H'
    try clear Ih; try clear Ii
    obtain ⟨x3_2, x46_2, rfl, HA, Gn, Ce, Cb, Cc, Cd, HB⟩ := hrel
    cases gk with
    | zero => exact absurd HA.out (by simp [aA.l0])
    | succ k2 =>
     have H := HA.out
     clear HA
     simp only [aA.l0] at H
     revert H; refine iDb (fun Eu H => ?_) fun Eu H => ?_
     ·revert H; refine i1 fun Ij H => ?_
      revert H; refine i1 fun Ik H => ?_
      revert H; refine i0 fun Il H => ?_
      have LMc36 := am Il; clear Il
      generalize h_ : ((x3_2 ++ [(aX l0_4 x46_2).f0]) : List ByteArray) = Gv at H
      have Ef := am h_.symm; clear h_; try rw [Option.bind_some] at H
      revert H; refine bj fun t401 Gp H => ?_
      replace H := iT H; rcases H with ⟨rfl, H⟩ | ⟨rfl, H⟩
      ·revert H; refine bj fun t402 Gw H => ?_
       replace H := iT H; rcases H with ⟨rfl, H⟩ | ⟨rfl, H⟩
       ·revert H; refine iDb (fun Gj H => ?_) fun Gj H => ?_
        ·obtain rfl := Option.some.inj H
         have Dt : 0 ≤ (x46_2 : Int) := ode
         have Du : x46_2 < (l0_4.length : Int) := ode
         obtain ⟨Dx, e396, Df, Dh, Di, Dj⟩ := jE Ee.out x46_2 Dt Du
         cases e396
         obtain ⟨Df, Dh, Di, Dj⟩ := hb4 HB.out Df Dh Di Dj
         replace Dt := eq_true Dt
         replace Du := eq_true Du
         go_wp2_with (first | ((with_reducible refine dH (N := 5) rfl ?_); (try (refine dz (by rfl) ?_; dsimp only)); refine dR ?hg (N := 5) ?hd (cs := #[.string (⟨#[]⟩ : ByteArray), .int .i64 0, .int .i64 0, .int .i64 0]) (t := 83) ?hr ?_; (case hd => rfl); (case hg => rfl); (case hr => first | (go_simp; done) | (go_simp; rfl)); intro Ci hg w42 hbox hb; replace Ce := ro Ce hb; replace Cb := ve Cb Ci hg hb; replace Cc := ve Cc Ci hg hb; have Cn := am hbox; have Dy := am (bsz hg : w.heap.size ≤ Ci); have Eo := Dy; have Cf := no hg Cd; have Dk := am Cf.out.symm; replace Cd := bo Cd hb; replace HB := ho hb; clear hb hbox hg; have Im := Dk.out; have Io := Cf.out; have Jt := jw Cn.out) | ((with_reducible refine gZ (b := .append) (xs := #[.tmp 50, .tmp 53]) rfl ?_); (try (refine dz (by rfl) ?_; dsimp only)); at_builtin; refine Kd.kF Kd.string (w0 := w) w.heap.size rfl (.tmp 50) (.tmp 53) 22 9 (.string ⟨#[]⟩) 16 rfl Tryz.underlying22 jq rfl (by decide) (by omega) u3 x3_2 ((aX l0_4 x46_2).f0) [.string ((aX l0_4 x46_2).f0)] (fun k_ => (w.heap.size ≤ k_)) (fun _ => False) rfl (by first | (go_simp; done) | (go_simp; rfl)) ?aP (fun _ hk => hk.elim) ?aF ?aO ?aB ?aS ?aL ?_; (case aP => exact rfl); (case aB => exact bl); (case aF => exact (fun k_ hk => (Nat.le_trans (az bl) hk))); (case aO => exact (by exact Kd.ax (eU (Kd.aG Ce.out Cn.out (by decide))) (fun _ hk => hk.1))); (case aS => exact (az bl)); (case aL => have := LMc36.out; omega); intro v399 w45 ho hb hg hat; rw [← Ef.out] at ho; have n0_ := am (Kd.iJ (ok := (fun k_ => ((P0_2_ k_ ∨ P0_3_ k_) ∨ w.heap.size ≤ k_) ∧ k_ ≠ Cj ∧ k_ ≠ Ci)) (by exact Kd.dL (lL (Kd.dL Cb.out (fun k_ hk => (⟨hk, hk.2⟩ : _ ∧ k_ ≠ Ci)))) (fun _ hk => ⟨⟨hk.1.1.1, ⟨hk.1.1.2.2, hk.1.2⟩⟩, hk.1.1.2.1⟩)) hg hat); have n1_ := am (Kd.iJ (ok := (fun k_ => ((P0_2_ k_ ∨ P0_3_ k_) ∨ w.heap.size ≤ k_) ∧ k_ ≠ Cj ∧ k_ ≠ Ci)) (by exact Kd.dL (lL (Kd.dL Cc.out (fun k_ hk => (⟨hk, hk.2⟩ : _ ∧ k_ ≠ Ci)))) (fun _ hk => ⟨⟨hk.1.1.1, ⟨hk.1.1.2.2, hk.1.2⟩⟩, hk.1.1.2.1⟩)) hg hat); have n2_ := am (dN (g := Cj) (o := .cells #[.string a0_0, .int .i64 a0_1, .slice A0_2 l0_2.length c0_2, .slice A0_3 l0_3.length c0_3, .slice (some Dx) l0_4.length c0_4, .slice A0_5 l0_5.length c0_5, .slice A0_6 l0_6.length c0_6, .slice A0_7 l0_7.length c0_7] 39 (0, 0)) (bf Cd.out Cf.out) hg (Kd.eG Ce.out Cd.out (by decide))); have n3_ := am (dN (g := Ci) (o := .cells #[.string ((aX l0_4 x46_2).f0), .int .i64 ((aX l0_4 x46_2).f1), .int .i64 ((aX l0_4 x46_2).f2), .int .i64 ((aX l0_4 x46_2).f3)] 83 (0, 0)) (bp Cn.out) hg (Kd.eG Ce.out Cn.out (by decide))); have n4_ := am (hb); have n5_ := am (ho); clear Cb; clear Cc; clear Cd; clear Cn; clear HB; clear Ce; have Cb := n0_; have Cc := n1_; have Cd := n2_; have Cn := n3_; have HB := n4_; have Eg := n5_; clear n0_ n1_ n2_ n3_ n4_ n5_; clear ho hb hg hat; have Ju := jw Cn.out) | ((with_reducible refine c_ 51 ?_); refine gc 51 (some 59) Tryz.func51 (bE.calls _ _ _ _ _ Gp.out) ?_; rintro e w' ⟨rfl, ⟨nd, rfl⟩⟩; refine ⟨_, rfl, ?_⟩) | (go_at_call 51; (with_reducible refine (bE.calls _ _ _ _ _ Gw.out).mono ?_); rintro e w' ⟨rfl, ⟨nd, rfl⟩⟩))
         go_ret
         exact ⟨er, bl⟩
        have H' := am H; clear H
        have Dt : 0 ≤ (x46_2 : Int) := ode
        have Du : x46_2 < (l0_4.length : Int) := ode
        obtain ⟨Dx, e396, Df, Dh, Di, Dj⟩ := jE Ee.out x46_2 Dt Du
        cases e396
        obtain ⟨Df, Dh, Di, Dj⟩ := hb4 HB.out Df Dh Di Dj
        replace Dt := eq_true Dt
        replace Du := eq_true Du
        go_wp2_with (first | ((with_reducible refine dH (N := 5) rfl ?_); (try (refine dz (by rfl) ?_; dsimp only)); refine dR ?hg (N := 5) ?hd (cs := #[.string (⟨#[]⟩ : ByteArray), .int .i64 0, .int .i64 0, .int .i64 0]) (t := 83) ?hr ?_; (case hd => rfl); (case hg => rfl); (case hr => first | (go_simp; done) | (go_simp; rfl)); intro Ci hg w47 hbox hb; replace Ce := ro Ce hb; replace Cb := ve Cb Ci hg hb; replace Cc := ve Cc Ci hg hb; have Cn := am hbox; have Dy := am (bsz hg : w.heap.size ≤ Ci); have Eo := Dy; have Cf := no hg Cd; have Dk := am Cf.out.symm; replace Cd := bo Cd hb; replace HB := ho hb; clear hb hbox hg; have Ip := Dk.out; have Iq := Cf.out; have Jv := jw Cn.out) | ((with_reducible refine gZ (b := .append) (xs := #[.tmp 50, .tmp 53]) rfl ?_); (try (refine dz (by rfl) ?_; dsimp only)); at_builtin; refine Kd.kF Kd.string (w0 := w) w.heap.size rfl (.tmp 50) (.tmp 53) 22 9 (.string ⟨#[]⟩) 16 rfl Tryz.underlying22 jq rfl (by decide) (by omega) u3 x3_2 ((aX l0_4 x46_2).f0) [.string ((aX l0_4 x46_2).f0)] (fun k_ => (w.heap.size ≤ k_)) (fun _ => False) rfl (by first | (go_simp; done) | (go_simp; rfl)) ?aP (fun _ hk => hk.elim) ?aF ?aO ?aB ?aS ?aL ?_; (case aP => exact rfl); (case aB => exact bl); (case aF => exact (fun k_ hk => (Nat.le_trans (az bl) hk))); (case aO => exact (by exact Kd.ax (eU (Kd.aG Ce.out Cn.out (by decide))) (fun _ hk => hk.1))); (case aS => exact (az bl)); (case aL => have := LMc36.out; omega); intro v399 w50 ho hb hg hat; rw [← Ef.out] at ho; have n0_ := am (Kd.iJ (ok := (fun k_ => ((P0_2_ k_ ∨ P0_3_ k_) ∨ w.heap.size ≤ k_) ∧ k_ ≠ Cj ∧ k_ ≠ Ci)) (by exact Kd.dL (lL (Kd.dL Cb.out (fun k_ hk => (⟨hk, hk.2⟩ : _ ∧ k_ ≠ Ci)))) (fun _ hk => ⟨⟨hk.1.1.1, ⟨hk.1.1.2.2, hk.1.2⟩⟩, hk.1.1.2.1⟩)) hg hat); have n1_ := am (Kd.iJ (ok := (fun k_ => ((P0_2_ k_ ∨ P0_3_ k_) ∨ w.heap.size ≤ k_) ∧ k_ ≠ Cj ∧ k_ ≠ Ci)) (by exact Kd.dL (lL (Kd.dL Cc.out (fun k_ hk => (⟨hk, hk.2⟩ : _ ∧ k_ ≠ Ci)))) (fun _ hk => ⟨⟨hk.1.1.1, ⟨hk.1.1.2.2, hk.1.2⟩⟩, hk.1.1.2.1⟩)) hg hat); have n2_ := am (dN (g := Cj) (o := .cells #[.string a0_0, .int .i64 a0_1, .slice A0_2 l0_2.length c0_2, .slice A0_3 l0_3.length c0_3, .slice (some Dx) l0_4.length c0_4, .slice A0_5 l0_5.length c0_5, .slice A0_6 l0_6.length c0_6, .slice A0_7 l0_7.length c0_7] 39 (0, 0)) (bf Cd.out Cf.out) hg (Kd.eG Ce.out Cd.out (by decide))); have n3_ := am (dN (g := Ci) (o := .cells #[.string ((aX l0_4 x46_2).f0), .int .i64 ((aX l0_4 x46_2).f1), .int .i64 ((aX l0_4 x46_2).f2), .int .i64 ((aX l0_4 x46_2).f3)] 83 (0, 0)) (bp Cn.out) hg (Kd.eG Ce.out Cn.out (by decide))); have n4_ := am (hb); have n5_ := am (ho); clear Cb; clear Cc; clear Cd; clear Cn; clear HB; clear Ce; have Cb := n0_; have Cc := n1_; have Cd := n2_; have Cn := n3_; have HB := n4_; have Eg := n5_; clear n0_ n1_ n2_ n3_ n4_ n5_; clear ho hb hg hat; have Jw := jw Cn.out) | ((with_reducible refine c_ 51 ?_); refine gc 51 (some 59) Tryz.func51 (bE.calls _ _ _ _ _ Gp.out) ?_; rintro e w' ⟨rfl, ⟨nd, rfl⟩⟩; refine ⟨_, rfl, ?_⟩) | (go_at_call 51; (with_reducible refine (bE.calls _ _ _ _ _ Gw.out).mono ?_); rintro e w' ⟨rfl, ⟨nd, rfl⟩⟩))
        go_roundg k2
        case measure => have := Gm.out; have := Gn.out; omega
        case rel => exact ⟨(Gv), (wrap64 (x46_2 + 1)), rs, H', ⟨by have := Gm.out; have := Gn.out; omega⟩, ⟨kr Eg.out⟩, ⟨by exact Kd.dL (kv Cb.out) (fun _ hk => ⟨hk.1.1, ⟨hk.2, hk.1.2.1⟩⟩)⟩, ⟨by exact Kd.dL (kv Cc.out) (fun _ hk => ⟨hk.1.1, ⟨hk.2, hk.1.2.1⟩⟩)⟩, ⟨bk Cd.out⟩, ⟨bl⟩⟩
       obtain rfl := Option.some.inj H
       have Dt : 0 ≤ (x46_2 : Int) := ode
       have Du : x46_2 < (l0_4.length : Int) := ode
       obtain ⟨Dx, e396, Df, Dh, Di, Dj⟩ := jE Ee.out x46_2 Dt Du
       cases e396
       obtain ⟨Df, Dh, Di, Dj⟩ := hb4 HB.out Df Dh Di Dj
       replace Dt := eq_true Dt
       replace Du := eq_true Du
       go_wp2_with (first | ((with_reducible refine dH (N := 5) rfl ?_); (try (refine dz (by rfl) ?_; dsimp only)); refine dR ?hg (N := 5) ?hd (cs := #[.string (⟨#[]⟩ : ByteArray), .int .i64 0, .int .i64 0, .int .i64 0]) (t := 83) ?hr ?_; (case hd => rfl); (case hg => rfl); (case hr => first | (go_simp; done) | (go_simp; rfl)); intro Ci hg w52 hbox hb; replace Ce := ro Ce hb; replace Cb := ve Cb Ci hg hb; replace Cc := ve Cc Ci hg hb; have Cn := am hbox; have Dy := am (bsz hg : w.heap.size ≤ Ci); have Eo := Dy; have Cf := no hg Cd; have Dk := am Cf.out.symm; replace Cd := bo Cd hb; replace HB := ho hb; clear hb hbox hg; have Ir := Dk.out; have Iu := Cf.out; have Jx := jw Cn.out) | ((with_reducible refine gZ (b := .append) (xs := #[.tmp 50, .tmp 53]) rfl ?_); (try (refine dz (by rfl) ?_; dsimp only)); at_builtin; refine Kd.kF Kd.string (w0 := w) w.heap.size rfl (.tmp 50) (.tmp 53) 22 9 (.string ⟨#[]⟩) 16 rfl Tryz.underlying22 jq rfl (by decide) (by omega) u3 x3_2 ((aX l0_4 x46_2).f0) [.string ((aX l0_4 x46_2).f0)] (fun k_ => (w.heap.size ≤ k_)) (fun _ => False) rfl (by first | (go_simp; done) | (go_simp; rfl)) ?aP (fun _ hk => hk.elim) ?aF ?aO ?aB ?aS ?aL ?_; (case aP => exact rfl); (case aB => exact bl); (case aF => exact (fun k_ hk => (Nat.le_trans (az bl) hk))); (case aO => exact (by exact Kd.ax (eU (Kd.aG Ce.out Cn.out (by decide))) (fun _ hk => hk.1))); (case aS => exact (az bl)); (case aL => have := LMc36.out; omega); intro v399 w55 ho hb hg hat; rw [← Ef.out] at ho; have n0_ := am (Kd.iJ (ok := (fun k_ => ((P0_2_ k_ ∨ P0_3_ k_) ∨ w.heap.size ≤ k_) ∧ k_ ≠ Cj ∧ k_ ≠ Ci)) (by exact Kd.dL (lL (Kd.dL Cb.out (fun k_ hk => (⟨hk, hk.2⟩ : _ ∧ k_ ≠ Ci)))) (fun _ hk => ⟨⟨hk.1.1.1, ⟨hk.1.1.2.2, hk.1.2⟩⟩, hk.1.1.2.1⟩)) hg hat); have n1_ := am (Kd.iJ (ok := (fun k_ => ((P0_2_ k_ ∨ P0_3_ k_) ∨ w.heap.size ≤ k_) ∧ k_ ≠ Cj ∧ k_ ≠ Ci)) (by exact Kd.dL (lL (Kd.dL Cc.out (fun k_ hk => (⟨hk, hk.2⟩ : _ ∧ k_ ≠ Ci)))) (fun _ hk => ⟨⟨hk.1.1.1, ⟨hk.1.1.2.2, hk.1.2⟩⟩, hk.1.1.2.1⟩)) hg hat); have n2_ := am (dN (g := Cj) (o := .cells #[.string a0_0, .int .i64 a0_1, .slice A0_2 l0_2.length c0_2, .slice A0_3 l0_3.length c0_3, .slice (some Dx) l0_4.length c0_4, .slice A0_5 l0_5.length c0_5, .slice A0_6 l0_6.length c0_6, .slice A0_7 l0_7.length c0_7] 39 (0, 0)) (bf Cd.out Cf.out) hg (Kd.eG Ce.out Cd.out (by decide))); have n3_ := am (dN (g := Ci) (o := .cells #[.string ((aX l0_4 x46_2).f0), .int .i64 ((aX l0_4 x46_2).f1), .int .i64 ((aX l0_4 x46_2).f2), .int .i64 ((aX l0_4 x46_2).f3)] 83 (0, 0)) (bp Cn.out) hg (Kd.eG Ce.out Cn.out (by decide))); have n4_ := am (hb); have n5_ := am (ho); clear Cb; clear Cc; clear Cd; clear Cn; clear HB; clear Ce; have Cb := n0_; have Cc := n1_; have Cd := n2_; have Cn := n3_; have HB := n4_; have Eg := n5_; clear n0_ n1_ n2_ n3_ n4_ n5_; clear ho hb hg hat; have Jy := jw Cn.out) | ((with_reducible refine c_ 51 ?_); refine gc 51 (some 59) Tryz.func51 (bE.calls _ _ _ _ _ Gp.out) ?_; rintro e w' ⟨rfl, ⟨nd, rfl⟩⟩; refine ⟨_, rfl, ?_⟩) | (go_at_call 51; (with_reducible refine (bE.calls _ _ _ _ _ Gw.out).mono ?_); rintro e w' ⟨rfl, ⟨nd, rfl⟩⟩))
       go_ret
       exact ⟨er, bl⟩
      obtain rfl := Option.some.inj H
      have Dt : 0 ≤ (x46_2 : Int) := ode
      have Du : x46_2 < (l0_4.length : Int) := ode
      obtain ⟨Dx, e396, Df, Dh, Di, Dj⟩ := jE Ee.out x46_2 Dt Du
      cases e396
      obtain ⟨Df, Dh, Di, Dj⟩ := hb4 HB.out Df Dh Di Dj
      replace Dt := eq_true Dt
      replace Du := eq_true Du
      go_wp2_with (first | ((with_reducible refine dH (N := 5) rfl ?_); (try (refine dz (by rfl) ?_; dsimp only)); refine dR ?hg (N := 5) ?hd (cs := #[.string (⟨#[]⟩ : ByteArray), .int .i64 0, .int .i64 0, .int .i64 0]) (t := 83) ?hr ?_; (case hd => rfl); (case hg => rfl); (case hr => first | (go_simp; done) | (go_simp; rfl)); intro Ci hg w57 hbox hb; replace Ce := ro Ce hb; replace Cb := ve Cb Ci hg hb; replace Cc := ve Cc Ci hg hb; have Cn := am hbox; have Dy := am (bsz hg : w.heap.size ≤ Ci); have Eo := Dy; have Cf := no hg Cd; have Dk := am Cf.out.symm; replace Cd := bo Cd hb; replace HB := ho hb; clear hb hbox hg; have Iw := Dk.out; have Ix := Cf.out; have Jz := jw Cn.out) | ((with_reducible refine gZ (b := .append) (xs := #[.tmp 50, .tmp 53]) rfl ?_); (try (refine dz (by rfl) ?_; dsimp only)); at_builtin; refine Kd.kF Kd.string (w0 := w) w.heap.size rfl (.tmp 50) (.tmp 53) 22 9 (.string ⟨#[]⟩) 16 rfl Tryz.underlying22 jq rfl (by decide) (by omega) u3 x3_2 ((aX l0_4 x46_2).f0) [.string ((aX l0_4 x46_2).f0)] (fun k_ => (w.heap.size ≤ k_)) (fun _ => False) rfl (by first | (go_simp; done) | (go_simp; rfl)) ?aP (fun _ hk => hk.elim) ?aF ?aO ?aB ?aS ?aL ?_; (case aP => exact rfl); (case aB => exact bl); (case aF => exact (fun k_ hk => (Nat.le_trans (az bl) hk))); (case aO => exact (by exact Kd.ax (eU (Kd.aG Ce.out Cn.out (by decide))) (fun _ hk => hk.1))); (case aS => exact (az bl)); (case aL => have := LMc36.out; omega); intro v399 w60 ho hb hg hat; rw [← Ef.out] at ho; have n0_ := am (Kd.iJ (ok := (fun k_ => ((P0_2_ k_ ∨ P0_3_ k_) ∨ w.heap.size ≤ k_) ∧ k_ ≠ Cj ∧ k_ ≠ Ci)) (by exact Kd.dL (lL (Kd.dL Cb.out (fun k_ hk => (⟨hk, hk.2⟩ : _ ∧ k_ ≠ Ci)))) (fun _ hk => ⟨⟨hk.1.1.1, ⟨hk.1.1.2.2, hk.1.2⟩⟩, hk.1.1.2.1⟩)) hg hat); have n1_ := am (Kd.iJ (ok := (fun k_ => ((P0_2_ k_ ∨ P0_3_ k_) ∨ w.heap.size ≤ k_) ∧ k_ ≠ Cj ∧ k_ ≠ Ci)) (by exact Kd.dL (lL (Kd.dL Cc.out (fun k_ hk => (⟨hk, hk.2⟩ : _ ∧ k_ ≠ Ci)))) (fun _ hk => ⟨⟨hk.1.1.1, ⟨hk.1.1.2.2, hk.1.2⟩⟩, hk.1.1.2.1⟩)) hg hat); have n2_ := am (dN (g := Cj) (o := .cells #[.string a0_0, .int .i64 a0_1, .slice A0_2 l0_2.length c0_2, .slice A0_3 l0_3.length c0_3, .slice (some Dx) l0_4.length c0_4, .slice A0_5 l0_5.length c0_5, .slice A0_6 l0_6.length c0_6, .slice A0_7 l0_7.length c0_7] 39 (0, 0)) (bf Cd.out Cf.out) hg (Kd.eG Ce.out Cd.out (by decide))); have n3_ := am (dN (g := Ci) (o := .cells #[.string ((aX l0_4 x46_2).f0), .int .i64 ((aX l0_4 x46_2).f1), .int .i64 ((aX l0_4 x46_2).f2), .int .i64 ((aX l0_4 x46_2).f3)] 83 (0, 0)) (bp Cn.out) hg (Kd.eG Ce.out Cn.out (by decide))); have n4_ := am (hb); have n5_ := am (ho); clear Cb; clear Cc; clear Cd; clear Cn; clear HB; clear Ce; have Cb := n0_; have Cc := n1_; have Cd := n2_; have Cn := n3_; have HB := n4_; have Eg := n5_; clear n0_ n1_ n2_ n3_ n4_ n5_; clear ho hb hg hat; have Ka := jw Cn.out) | ((with_reducible refine c_ 51 ?_); refine gc 51 (some 59) Tryz.func51 (bE.calls _ _ _ _ _ Gp.out) ?_; rintro e w' ⟨rfl, ⟨nd, rfl⟩⟩; refine ⟨_, rfl, ?_⟩))
      go_ret
      exact ⟨er, bl⟩
     have H' := am H; clear H
     obtain ⟨Ej, Dv, Gx⟩ := Kd.aI Ce.out
     subst Gx
     go_wp2
     go_loopg [79] k2 (fun kq v79 w' => ∃ (x79_3 : Int), v79 = .int .i64 x79_3 ∧ aa (aA.l1 kq x3_2 x3_2 (x3_2.length : Int) x79_3 a0_0 a0_1 l0_2 l0_3 l0_4 l0_5 l0_6 l0_7 = some r) ∧ aa (kq ≤ k2) ∧ aa (Kd.R Kd.string 9 w' w.heap.size (fun k_ => (w.heap.size ≤ k_)) (.slice Ej x3_2.length Dv) x3_2) ∧ aa (Kd.R Kd.string 9 w' w.heap.size (fun k_ => (w.heap.size ≤ k_)) (.slice Ej x3_2.length Dv) x3_2) ∧ aa (Kd.V Kd.string 9 w' w.heap.size (fun k_ => ((P0_2_ k_ ∨ P0_3_ k_) ∨ w.heap.size ≤ k_) ∧ some k_ ≠ ((.slice Ej x3_2.length Dv) : Value).ownBlock ∧ some k_ ≠ ((.slice Ej x3_2.length Dv) : Value).ownBlock ∧ k_ ≠ Cj) (.slice A0_2 l0_2.length c0_2) l0_2) ∧ aa (Kd.V Kd.string 9 w' w.heap.size (fun k_ => ((P0_2_ k_ ∨ P0_3_ k_) ∨ w.heap.size ≤ k_) ∧ some k_ ≠ ((.slice Ej x3_2.length Dv) : Value).ownBlock ∧ some k_ ≠ ((.slice Ej x3_2.length Dv) : Value).ownBlock ∧ k_ ≠ Cj) (.slice A0_3 l0_3.length c0_3) l0_3) ∧ aa (w'.heap[Cj]? = some (.cells #[.string a0_0, .int .i64 a0_1, (.slice A0_2 l0_2.length c0_2), (.slice A0_3 l0_3.length c0_3), (.slice A0_4 l0_4.length c0_4), (.slice A0_5 l0_5.length c0_5), (.slice A0_6 l0_6.length c0_6), (.slice A0_7 l0_7.length c0_7)] 39 (0, 0))) ∧ aa (Below w.heap.size w w'))
     case atStart => exact ⟨(0), rs, H', ⟨Nat.le_refl _⟩, ⟨kr Ce.out⟩, ⟨kr Ce.out⟩, ⟨by exact Kd.dL (kv Cb.out) (fun _ hk => ⟨hk.1, ⟨hk.2.1, ⟨hk.2.1, hk.2.2⟩⟩⟩)⟩, ⟨by exact Kd.dL (kv Cc.out) (fun _ hk => ⟨hk.1, ⟨hk.2.1, ⟨hk.2.1, hk.2.2⟩⟩⟩)⟩, ⟨bk Cd.out⟩, ⟨bl⟩⟩
     case round =>
      clear H'
      try clear Eu; try clear Ih; try clear Ii
      obtain ⟨x79_3, rfl, HA, Iy, Ce, Dc, Cb, Cc, Cd, HB⟩ := hrel
      cases gk with
      | zero => exact absurd HA.out (by simp [aA.l1])
      | succ k3 =>
       have H := HA.out
       clear HA
       simp only [aA.l1] at H
       revert H; refine iDb (fun Gk H => ?_) fun Gk H => ?_
       ·revert H; refine i1 fun Iz H => ?_
        revert H; refine i1 fun Ja H => ?_
        revert H; refine bj fun t407 Gy H => ?_
        replace H := iT H; rcases H with ⟨rfl, H⟩ | ⟨rfl, H⟩
        ·have Jb := eq_true (ode : 0 ≤ x79_3)
         revert H; refine i2 fun Jc Jd H => ?_
         generalize h_ : ((x3_2.take (x79_3 : Int).toNat) : List ByteArray) = Ec at H
         have Eh := am h_.symm; clear h_; try rw [Option.bind_some] at H
         revert H; refine bj fun t413 Je H => ?_
         replace H := iT H; rcases H with ⟨rfl, H⟩ | ⟨rfl, H⟩
         ·obtain rfl := Option.some.inj H
          have Dz : 0 ≤ (x79_3 : Int) := ode
          have Ea : x79_3 < (x3_2.length : Int) := ode
          obtain ⟨Dw, e406, Ei⟩ := Kd.eQ (Kd.af Dc.out).2.2 x79_3 Dz Ea
          cases e406
          replace Dz := eq_true Dz
          replace Ea := eq_true Ea
          go_wp2_with (first | ((with_reducible refine c_ 49 ?_); refine gc 49 (some 85) Tryz.func49 (df.calls _ _ _ ?Cm Gy.out) ?_; (case Cm => exact Sh.below HSH.out bl); rintro e w72 ⟨rfl, hb⟩; refine ⟨_, rfl, ?_⟩; refine r2_ hb Ce Dc ?_; clear Ce Dc; intro Ce Dc; replace Cb := vb Cb hb; replace Cc := vb Cc hb; replace Cd := bo Cd hb; replace HB := ho hb; clear hb; have Gz : (x79_3 : Int) ≤ ((x3_2.length : Int) : Int) := ode; obtain ⟨i073, Ew, _, hsz73, _⟩ := info_parts jq; have hroom73 : x3_2.length ≤ Dv := (Kd.af Ce.out).2.1; have hC73 : Kd.F Kd.string _ _ (some Dw) x3_2.length x3_2 := (Kd.ui (base := w.heap.size) (Kd.dL (ok' := (fun k_ => (((P0_2_ k_ ∨ P0_3_ k_) ∨ w.heap.size ≤ k_) ∧ k_ ≠ Cj))) (Kd.R_V (Kd.aG (Ce.out) Cd.out (by decide))) (fun k_ hk => ⟨(.inr (hk.1)), hk.2⟩))).2.2; have hcut73 := pm (P := Tryz.prog) 22 9 .i64 Tryz.underlying22 Ew (some Dw) x3_2.length Dv x79_3 (ode) Gz hroom73; have hr73 := Kd.wh (m := (x79_3 : Int).toNat) hC73 (by omega); have Ez : Ec.length = (x79_3 : Int).toNat := (by rw [Eh.out, List.length_take]; omega); rw [← Eh.out] at hr73; rw [← Ez] at hcut73; have Ed := am (show Kd.V Kd.string 9 _ w.heap.size _ (.slice (some Dw) Ec.length Dv) Ec from Kd.V_mk (by omega) hr73); have Gl := am (show Ec.length ≤ Dv from by omega); clear hr73 hC73 hroom73 Ew hsz73; have KY73 := aa.mk Ez; clear Ez; replace Gz := eq_true Gz) | (go_at_call 52; (with_reducible refine (ay.calls _ _ _ _ _ _ _ ?Cm ?Dp Je.out).mono ?_); (case Cm => repeat (first | exact (Kd.jy Ed.out).2.2 | (with_reducible refine Kd.fV ?_ _) | (with_reducible refine Kd.fU ?_ _) | (with_reducible refine Kd.gU ?_))); (case Dp => exact (Kd.jy Ed.out).2.1); rintro e w' ⟨rfl, ⟨nd, rfl⟩⟩))
          go_ret
          exact ⟨er, bl⟩
         have H' := am H; clear H
         have Dz : 0 ≤ (x79_3 : Int) := ode
         have Ea : x79_3 < (x3_2.length : Int) := ode
         obtain ⟨Dw, e406, Ei⟩ := Kd.eQ (Kd.af Dc.out).2.2 x79_3 Dz Ea
         cases e406
         replace Dz := eq_true Dz
         replace Ea := eq_true Ea
         go_wp2_with (first | ((with_reducible refine c_ 49 ?_); refine gc 49 (some 85) Tryz.func49 (df.calls _ _ _ ?Cm Gy.out) ?_; (case Cm => exact Sh.below HSH.out bl); rintro e w74 ⟨rfl, hb⟩; refine ⟨_, rfl, ?_⟩; refine r2_ hb Ce Dc ?_; clear Ce Dc; intro Ce Dc; replace Cb := vb Cb hb; replace Cc := vb Cc hb; replace Cd := bo Cd hb; replace HB := ho hb; clear hb; have Ia : (x79_3 : Int) ≤ ((x3_2.length : Int) : Int) := ode; obtain ⟨i075, Ey, _, hsz75, _⟩ := info_parts jq; have hroom75 : x3_2.length ≤ Dv := (Kd.af Ce.out).2.1; have hC75 : Kd.F Kd.string _ _ (some Dw) x3_2.length x3_2 := (Kd.ui (base := w.heap.size) (Kd.dL (ok' := (fun k_ => (((P0_2_ k_ ∨ P0_3_ k_) ∨ w.heap.size ≤ k_) ∧ k_ ≠ Cj))) (Kd.R_V (Kd.aG (Ce.out) Cd.out (by decide))) (fun k_ hk => ⟨(.inr (hk.1)), hk.2⟩))).2.2; have hcut75 := pm (P := Tryz.prog) 22 9 .i64 Tryz.underlying22 Ey (some Dw) x3_2.length Dv x79_3 (ode) Ia hroom75; have hr75 := Kd.wh (m := (x79_3 : Int).toNat) hC75 (by omega); have Ga : Ec.length = (x79_3 : Int).toNat := (by rw [Eh.out, List.length_take]; omega); rw [← Eh.out] at hr75; rw [← Ga] at hcut75; have Ed := am (show Kd.V Kd.string 9 _ w.heap.size _ (.slice (some Dw) Ec.length Dv) Ec from Kd.V_mk (by omega) hr75); have Gl := am (show Ec.length ≤ Dv from by omega); clear hr75 hC75 hroom75 Ey hsz75; have KY75 := aa.mk Ga; clear Ga; replace Ia := eq_true Ia) | (go_at_call 52; (with_reducible refine (ay.calls _ _ _ _ _ _ _ ?Cm ?Dp Je.out).mono ?_); (case Cm => repeat (first | exact (Kd.jy Ed.out).2.2 | (with_reducible refine Kd.fV ?_ _) | (with_reducible refine Kd.fU ?_ _) | (with_reducible refine Kd.gU ?_))); (case Dp => exact (Kd.jy Ed.out).2.1); rintro e w' ⟨rfl, ⟨nd, rfl⟩⟩))
         go_roundg k3
         case measure => have := Gm.out; have := Gn.out; have := Iy.out; omega
         case rel => exact ⟨(wrap64 (x79_3 + 1)), rs, H', ⟨by have := Gm.out; have := Gn.out; have := Iy.out; omega⟩, ⟨kr Ce.out⟩, ⟨kr Dc.out⟩, ⟨kv Cb.out⟩, ⟨kv Cc.out⟩, ⟨bk Cd.out⟩, ⟨bl⟩⟩
        obtain rfl := Option.some.inj H
        have Dz : 0 ≤ (x79_3 : Int) := ode
        have Ea : x79_3 < (x3_2.length : Int) := ode
        obtain ⟨Dw, e406, Ei⟩ := Kd.eQ (Kd.af Dc.out).2.2 x79_3 Dz Ea
        cases e406
        replace Dz := eq_true Dz
        replace Ea := eq_true Ea
        go_wp2_with (first | ((with_reducible refine c_ 49 ?_); refine gc 49 (some 85) Tryz.func49 (df.calls _ _ _ ?Cm Gy.out) ?_; (case Cm => exact Sh.below HSH.out bl); rintro e w76 ⟨rfl, hb⟩; refine ⟨_, rfl, ?_⟩; refine r2_ hb Ce Dc ?_; clear Ce Dc; intro Ce Dc; replace Cb := vb Cb hb; replace Cc := vb Cc hb; replace Cd := bo Cd hb; replace HB := ho hb; clear hb))
        go_ret
        exact ⟨er, bl⟩
       revert H; refine bj fun t403 Ib H => ?_
       replace H := iT H; rcases H with ⟨rfl, H⟩ | ⟨rfl, H⟩
       ·revert H; refine bj fun t404 Jf H => ?_
        replace H := iT H; rcases H with ⟨rfl, H⟩ | ⟨rfl, H⟩
        ·revert H; refine bj fun t405 Jk H => ?_
         obtain rfl := Option.some.inj H
         have Kb := dD Cd.out
         go_wp2_with (first | ((with_reducible refine c_ 53 ?_); refine gc 53 (some 97) Tryz.func53 (cB.calls _ _ _ _ _ _ ?Cm ?Dp ?Dq Ib.out) ?_; (case Cm => exact cb Ek.out); (case Dp => exact Em.out); (case Dq => exact Sh.below HSH.out bl); rintro e w83 ⟨rfl, hb⟩; refine ⟨_, rfl, ?_⟩; refine r2_ hb Ce Dc ?_; clear Ce Dc; intro Ce Dc; replace Cb := vb Cb hb; replace Cc := vb Cc hb; replace Cd := bo Cd hb; replace HB := ho hb; clear hb; have Ke := dD Cd.out) | (go_at_call 53; (with_reducible refine (cB.calls _ _ _ _ _ _ ?Cm ?Dp ?Dq Jf.out).mono ?_); (case Cm => exact cb Ep.out); (case Dp => exact Es.out); (case Dq => exact Sh.below HSH.out bl); rintro e w85 ⟨rfl, hb⟩; refine r2_ hb Ce Dc ?_; clear Ce Dc; intro Ce Dc; replace Cb := vb Cb hb; replace Cc := vb Cc hb; replace Cd := bo Cd hb; replace HB := ho hb; clear hb; have Kf := dD Cd.out) | (go_at_call 53; (with_reducible refine (cB.calls _ _ _ _ _ _ ?Cm ?Dp ?Dq Jk.out).mono ?_); (case Cm => exact cb Gf.out); (case Dp => exact Gg.out); (case Dq => exact Sh.below HSH.out bl); rintro e w87 ⟨rfl, hb⟩; refine r2_ hb Ce Dc ?_; clear Ce Dc; intro Ce Dc; replace Cb := vb Cb hb; replace Cc := vb Cc hb; replace Cd := bo Cd hb; replace HB := ho hb; clear hb))
         go_ret
         exact ⟨er, bl⟩
        obtain rfl := Option.some.inj H
        have Kg := dD Cd.out
        go_wp2_with (first | ((with_reducible refine c_ 53 ?_); refine gc 53 (some 97) Tryz.func53 (cB.calls _ _ _ _ _ _ ?Cm ?Dp ?Dq Ib.out) ?_; (case Cm => exact cb Ek.out); (case Dp => exact Em.out); (case Dq => exact Sh.below HSH.out bl); rintro e w89 ⟨rfl, hb⟩; refine ⟨_, rfl, ?_⟩; refine r2_ hb Ce Dc ?_; clear Ce Dc; intro Ce Dc; replace Cb := vb Cb hb; replace Cc := vb Cc hb; replace Cd := bo Cd hb; replace HB := ho hb; clear hb; have Kh := dD Cd.out) | (go_at_call 53; (with_reducible refine (cB.calls _ _ _ _ _ _ ?Cm ?Dp ?Dq Jf.out).mono ?_); (case Cm => exact cb Ep.out); (case Dp => exact Es.out); (case Dq => exact Sh.below HSH.out bl); rintro e w91 ⟨rfl, hb⟩; refine r2_ hb Ce Dc ?_; clear Ce Dc; intro Ce Dc; replace Cb := vb Cb hb; replace Cc := vb Cc hb; replace Cd := bo Cd hb; replace HB := ho hb; clear hb))
        go_ret
        exact ⟨er, bl⟩
       obtain rfl := Option.some.inj H
       have Ki := dD Cd.out
       go_wp2_with (first | ((with_reducible refine c_ 53 ?_); refine gc 53 (some 97) Tryz.func53 (cB.calls _ _ _ _ _ _ ?Cm ?Dp ?Dq Ib.out) ?_; (case Cm => exact cb Ek.out); (case Dp => exact Em.out); (case Dq => exact Sh.below HSH.out bl); rintro e w93 ⟨rfl, hb⟩; refine ⟨_, rfl, ?_⟩; refine r2_ hb Ce Dc ?_; clear Ce Dc; intro Ce Dc; replace Cb := vb Cb hb; replace Cc := vb Cc hb; replace Cd := bo Cd hb; replace HB := ho hb; clear hb))
       go_ret
       exact ⟨er, bl⟩
mutual
def aY.j0 : Nat → Bool → ByteArray → Int → List ByteArray → List ByteArray → List (S83) → List (S88) → List (S88) → List (S88) → List (S58) → Int → Int → Int → Int → Option ((List (S60)) × Int × Int × Int × Int)
 | 0, _, _, _, _, _, _, _, _, _, _, _, _, _, _ => none
 | k + 1, x18, x415000, x415001, x415002, x415003, x415004, x415005, x415006, x415007, x416000, x416001, x416002, x416003, x416004 => if x18 = true then (some (([] : List (S60)), 0, 0, 0, 0)) else ((aj.f k (([x415003, x415002] : List (List ByteArray)))).bind fun t421 => (aY.l0 k t421 x416000 (x416000.length : Int) 0 ([] : List (S60)) x416001 x416002 x416003 x416004))
def aY.l0 : Nat → List ByteArray → List (S58) → Int → Int → List (S60) → Int → Int → Int → Int → Option ((List (S60)) × Int × Int × Int × Int)
 | 0, _, _, _, _, _, _, _, _, _ => none
 | k + 1, x5, x36, x37, x38, x425000, x425001, x425002, x425003, x425004 => if x38 < x37 then (if 0 ≤ x38 then (if x38 < (x36.length : Int) then ((dZ.f ((aD x36 x38).f0) 0 (wrap64 ((x5.length : Int) - 1))).bind fun t427 => (if t427 = true then ((dZ.f ((aD x36 x38).f1) 0 (wrap64 ((x5.length : Int) - 1))).bind fun t428 => (if t428 = true then (if 0 ≤ ((aD x36 x38).f0) then (if ((aD x36 x38).f0) < (x5.length : Int) then (if 0 ≤ ((aD x36 x38).f1) then (if ((aD x36 x38).f1) < (x5.length : Int) then (if x425000.length < 3518437208883 then (aY.l0 k x5 x36 x37 (wrap64 (x38 + 1)) (x425000 ++ [(⟨fG ByteArray.empty x5 ((aD x36 x38).f0), fG ByteArray.empty x5 ((aD x36 x38).f1), (aD x36 x38).f2⟩ : S60)]) x425001 x425002 x425003 x425004) else (none)) else (none)) else (none)) else (none)) else (none)) else (some (([] : List (S60)), 0, 0, 0, 0)))) else (some (([] : List (S60)), 0, 0, 0, 0)))) else (none)) else (none)) else (some (x425000, x425001, x425002, x425003, x425004))
end
def aY.f (k : Nat) (a0_0 : ByteArray) (a0_1 : Int) (l0_2 : List ByteArray) (l0_3 : List ByteArray) (l0_4 : List (S83)) (l0_5 : List (S88)) (l0_6 : List (S88)) (l0_7 : List (S88)) (l1_0 : List (S58)) (a1_1 : Int) (a1_2 : Int) (a1_3 : Int) (a1_4 : Int) : Option ((List (S60)) × Int × Int × Int × Int) := (aA.f k a0_0 a0_1 l0_2 l0_3 l0_4 l0_5 l0_6 l0_7).bind fun t417 => (if t417 = true then (aY.j0 k (decide ((l1_0.length : Int) > 20)) a0_0 a0_1 l0_2 l0_3 l0_4 l0_5 l0_6 l0_7 l1_0 a1_1 a1_2 a1_3 a1_4) else (aY.j0 k true a0_0 a0_1 l0_2 l0_3 l0_4 l0_5 l0_6 l0_7 l1_0 a1_1 a1_2 a1_3 a1_4))
theorem aY.bI : ∀ k, (∀ y0 y1 y2 y3 y4 y5 y6 y7 y8 y9 y10 y11 y12 y13, LeO (aY.j0 k y0 y1 y2 y3 y4 y5 y6 y7 y8 y9 y10 y11 y12 y13) (aY.j0 (k + 1) y0 y1 y2 y3 y4 y5 y6 y7 y8 y9 y10 y11 y12 y13)) ∧ (∀ y0 y1 y2 y3 y4 y5 y6 y7 y8, LeO (aY.l0 k y0 y1 y2 y3 y4 y5 y6 y7 y8) (aY.l0 (k + 1) y0 y1 y2 y3 y4 y5 y6 y7 y8))
 | 0 => ⟨fun _ _ _ _ _ _ _ _ _ _ _ _ _ _ r h => by simp [aY.j0] at h, fun _ _ _ _ _ _ _ _ _ r h => by simp [aY.l0] at h⟩
 | k + 1 => by
  obtain ⟨ih0, ih1⟩ := aY.bI k
  refine ⟨?_, ?_⟩
  ·intro y0 y1 y2 y3 y4 y5 y6 y7 y8 y9 y10 y11 y12 y13
   unfold aY.j0
   repeat' (with_reducible first | exact ih0 .. | exact ih1 .. | exact aA.mono .. | exact aj.mono .. | exact LeO.refl _ | exact LeO.none _ | refine LeO.ite ?_ ?_ | refine LeO.bind ?_ (fun _ => ?_))
  intro y0 y1 y2 y3 y4 y5 y6 y7 y8
  unfold aY.l0
  repeat' (with_reducible first | exact ih0 .. | exact ih1 .. | exact aA.mono .. | exact aj.mono .. | exact LeO.refl _ | exact LeO.none _ | refine LeO.ite ?_ ?_ | refine LeO.bind ?_ (fun _ => ?_))
theorem aY.mono : ∀ a0 a1 a2 a3 a4 a5 a6 a7 a8 a9 a10 a11 a12 k, LeO (aY.f k a0 a1 a2 a3 a4 a5 a6 a7 a8 a9 a10 a11 a12) (aY.f (k + 1) a0 a1 a2 a3 a4 a5 a6 a7 a8 a9 a10 a11 a12) := by
 intro a0 a1 a2 a3 a4 a5 a6 a7 a8 a9 a10 a11 a12 k
 obtain ⟨ih0, ih1⟩ := aY.bI k
 unfold aY.f
 repeat' (with_reducible first | exact ih0 .. | exact ih1 .. | exact aA.mono .. | exact aj.mono .. | exact LeO.refl _ | exact LeO.none _ | refine LeO.ite ?_ ?_ | refine LeO.bind ?_ (fun _ => ?_))
def aY.T11 : Bool × List (List Nat × List Nat) := (true, [([], []), ([0], [0]), ([], []), ([], []), ([3], [3]), ([2, 4], [2, 4]), ([5], [5]), ([], []), ([], []), ([8], [8]), ([7, 9], [7, 9]), ([10], [10]), ([], []), ([12], [12]), ([6, 11, 13], [6, 11, 13]), ([14], [14]), ([1, 15], [1, 15]), ([0, 1, 2, 3, 4, 5, 6, 7, 8, 9, 10, 11, 12, 13, 14, 15, 16], []), ([17, 16, 16, 0, 1, 2, 3, 4, 5, 6, 7, 8, 9, 10, 11, 12, 13, 14, 15, 16], [16, 17])])
def aY.B11 : List Nat := [0, 1, 0, 0, 8, 28, 60, 0, 0, 256, 896, 1920, 0, 4096, 16380, 32764, 65535, 131071, 262143]
theorem aY.mZ : iy .any (opsOf Tryz.f9 11) = aY.T11 := by kernel_rfl
theorem aY.kW : gm aY.T11.2 aY.B11 = true := by kernel_rfl
set_option maxHeartbeats 8000000 in
set_option maxRecDepth 100000 in
theorem aY.calls (k : Nat) (a0_0 : ByteArray) (a0_1 : Int) (P0_2_ : Nat → Prop) (A0_2 : Option Addr) (c0_2 : Nat) (l0_2 : List ByteArray) (P0_3_ : Nat → Prop) (A0_3 : Option Addr) (c0_3 : Nat) (l0_3 : List ByteArray) (A0_4 : Option Addr) (c0_4 : Nat) (l0_4 : List (S83)) (A0_5 : Option Addr) (c0_5 : Nat) (l0_5 : List (S88)) (A0_6 : Option Addr) (c0_6 : Nat) (l0_6 : List (S88)) (A0_7 : Option Addr) (c0_7 : Nat) (l0_7 : List (S88)) (A1_0 : Option Addr) (c1_0 : Nat) (l1_0 : List (S58)) (a1_1 : Int) (a1_2 : Int) (a1_3 : Int) (a1_4 : Int) (r1 : List (S60)) (r2 : Int) (r3 : Int) (r4 : Int) (r5 : Int) (w : World) (hs0_2 : Kd.V Kd.string 9 w w.heap.size (fun k_ => P0_2_ k_) (.slice A0_2 l0_2.length c0_2) l0_2) (hs0_3 : Kd.V Kd.string 9 w w.heap.size (fun k_ => P0_3_ k_) (.slice A0_3 l0_3.length c0_3) l0_3) (hr0_4 : Kd.C k83 w A0_4 l0_4.length l0_4) (hc0_4 : l0_4.length ≤ c0_4) (hr0_5 : Kd.C k88 w A0_5 l0_5.length l0_5) (hc0_5 : l0_5.length ≤ c0_5) (hr0_6 : Kd.C k88 w A0_6 l0_6.length l0_6) (hc0_6 : l0_6.length ≤ c0_6) (hr0_7 : Kd.C k88 w A0_7 l0_7.length l0_7) (hc0_7 : l0_7.length ≤ c0_7) (hr1_0 : Kd.C k58 w A1_0 l1_0.length l1_0) (hc1_0 : l1_0.length ≤ c1_0) (hsh : Sh w) (h : aY.f k a0_0 a0_1 l0_2 l0_3 l0_4 l0_5 l0_6 l0_7 l1_0 a1_1 a1_2 a1_3 a1_4 = some (r1, r2, r3, r4, r5)) :
  Calls Tryz.prog 9 #[.agg #[.string a0_0, .int .i64 a0_1, .slice A0_2 l0_2.length c0_2, .slice A0_3 l0_3.length c0_3, .slice A0_4 l0_4.length c0_4, .slice A0_5 l0_5.length c0_5, .slice A0_6 l0_6.length c0_6, .slice A0_7 l0_7.length c0_7], .agg #[.slice A1_0 l1_0.length c1_0, .int .i64 a1_1, .int .i64 a1_2, .int .i64 a1_3, .int .i64 a1_4]] w fun e w' => ∃ v0_ : Value, e = .returned (.agg #[v0_, .int .i64 r2, .int .i64 r3, .int .i64 r4, .int .i64 r5]) ∧ Kd.R k60 60 w' w.heap.size (fun k_ => (w.heap.size ≤ k_)) v0_ r1 ∧ Below w.heap.size w w' := by
 have hu39 := Tryz.underlying39
 have hu43 := Tryz.underlying43
 have hu34 := Tryz.underlying34
 have hu58 := Tryz.underlying58
 have hu60 := Tryz.underlying60
 have Ea := am (show Kd.V Kd.string 9 w w.heap.size (fun k_ => ((P0_2_ k_ ∨ P0_3_ k_) ∨ w.heap.size ≤ k_)) (.slice A0_2 l0_2.length c0_2) l0_2 from Kd.dL hs0_2 (fun k_ hk => .inl (.inl hk)))
 have Eb := am (show Kd.V Kd.string 9 w w.heap.size (fun k_ => ((P0_2_ k_ ∨ P0_3_ k_) ∨ w.heap.size ≤ k_)) (.slice A0_3 l0_3.length c0_3) l0_3 from Kd.dL hs0_3 (fun k_ hk => .inl (.inr hk)))
 have Gw := am hr0_4
 have Gx := am hc0_4
 clear hr0_4 hc0_4
 have Gy := am hr0_5
 have Gz := am hc0_5
 clear hr0_5 hc0_5
 have Ia := am hr0_6
 have Ib := am hc0_6
 clear hr0_6 hc0_6
 have Ic := am hr0_7
 have Ie := am hc0_7
 clear hr0_7 hc0_7
 have Gk := am hr1_0
 have Jp := am hc1_0
 clear hr1_0 hc1_0
 have HSH := am hsh; clear hsh
 have HB := am (Below.refl w.heap.size w)
 have H := h
 clear h
 unfold aY.f at H
 have Je := am H; clear H
 go_enter Tryz.func9, Tryz.ntmps9
 go_upto_region 1 with (first | ((with_reducible refine dH (N := 2) rfl ?_); (try (refine dz (by rfl) ?_; dsimp only)); refine dR ?hg (N := 2) ?hd (cs := #[.string a0_0, .int .i64 a0_1, .slice A0_2 l0_2.length c0_2, .slice A0_3 l0_3.length c0_3, .slice A0_4 l0_4.length c0_4, .slice A0_5 l0_5.length c0_5, .slice A0_6 l0_6.length c0_6, .slice A0_7 l0_7.length c0_7]) (t := 39) ?hr ?_; (case hd => rfl); (case hg => rfl); (case hr => first | (go_simp; done) | (go_simp; rfl)); intro Dc hg w4 hbox hb; replace Ea := ve Ea Dc hg hb; replace Eb := ve Eb Dc hg hb; have Cf := am hbox; have Io := am (bsz hg : w.heap.size ≤ Dc); have Jq := Io; replace HB := ho hb; clear hb hbox hg) | ((with_reducible refine dH (N := 3) rfl ?_); (try (refine dz (by rfl) ?_; dsimp only)); refine dR ?hg (N := 3) ?hd (cs := #[.slice A1_0 l1_0.length c1_0, .int .i64 a1_1, .int .i64 a1_2, .int .i64 a1_3, .int .i64 a1_4]) (t := 43) ?hr ?_; (case hd => rfl); (case hg => rfl); (case hr => first | (go_simp; done) | (go_simp; rfl)); intro Df hg w5 hbox hb; replace Ea := ve Ea Df hg hb; replace Eb := ve Eb Df hg hb; have Cj := am hbox; have Ip := am (bsz hg : w.heap.size ≤ Df); have Jr := Ip; have Ej := no hg Cf; have Ek := am Ej.out.symm; replace Cf := bo Cf hb; replace HB := ho hb; clear hb hbox hg) | ((with_reducible refine dH (N := 4) rfl ?_); (try (refine dz (by rfl) ?_; dsimp only)); refine dR ?hg (N := 4) ?hd (cs := #[.slice none 0 0, .int .i64 0, .int .i64 0, .int .i64 0, .int .i64 0]) (t := 34) ?hr ?_; (case hd => rfl); (case hg => rfl); (case hr => first | (go_simp; done) | (go_simp; rfl)); intro Cn hg w6 hbox hb; replace Ea := ve Ea Cn hg hb; replace Eb := ve Eb Cn hg hb; have Ci := am hbox; have Iq := am (bsz hg : w.heap.size ≤ Cn); have Js := Iq; have Dp := no hg Cf; have Dt := am Dp.out.symm; replace Cf := bo Cf hb; have Du := no hg Cj; have Dw := am Du.out.symm; replace Cj := bo Cj hb; replace HB := ho hb; clear hb hbox hg))
 (try simp only [Act.put, z1, z2, z3])
 go_cut [18] (fun v18 wc => ∃ (kq : Nat) (x18_2 : Bool), v18 = .bool x18_2 ∧ aa (aY.j0 kq x18_2 a0_0 a0_1 l0_2 l0_3 l0_4 l0_5 l0_6 l0_7 l1_0 a1_1 a1_2 a1_3 a1_4 = some (r1, r2, r3, r4, r5)) ∧ aa (kq ≤ k) ∧ aa (Kd.V Kd.string 9 wc w.heap.size (fun k_ => ((P0_2_ k_ ∨ P0_3_ k_) ∨ w.heap.size ≤ k_) ∧ k_ ≠ Dc ∧ k_ ≠ Df ∧ k_ ≠ Cn) (.slice A0_2 l0_2.length c0_2) l0_2) ∧ aa (Kd.V Kd.string 9 wc w.heap.size (fun k_ => ((P0_2_ k_ ∨ P0_3_ k_) ∨ w.heap.size ≤ k_) ∧ k_ ≠ Dc ∧ k_ ≠ Df ∧ k_ ≠ Cn) (.slice A0_3 l0_3.length c0_3) l0_3) ∧ aa (wc.heap[Dc]? = some (.cells #[.string a0_0, .int .i64 a0_1, (.slice A0_2 l0_2.length c0_2), (.slice A0_3 l0_3.length c0_3), (.slice A0_4 l0_4.length c0_4), (.slice A0_5 l0_5.length c0_5), (.slice A0_6 l0_6.length c0_6), (.slice A0_7 l0_7.length c0_7)] 39 (0, 0))) ∧ aa (wc.heap[Df]? = some (.cells #[(.slice A1_0 l1_0.length c1_0), .int .i64 a1_1, .int .i64 a1_2, .int .i64 a1_3, .int .i64 a1_4] 43 (0, 0))) ∧ aa (wc.heap[Cn]? = some (.cells #[(.slice none 0 0), .int .i64 0, .int .i64 0, .int .i64 0, .int .i64 0] 34 (0, 0))) ∧ aa (Below w.heap.size w wc))
 case first =>
  have H := Je.out
  clear Je
  revert H; refine bj fun t417 A7 H => ?_
  replace H := iT H; rcases H with ⟨rfl, H⟩ | ⟨rfl, H⟩
  ·have H' := am H; clear H
   have Oq := Ej.out
   have Ot := Ek.out
   have Jt := Dp.out
   have Ju := Dt.out
   have Pm := dD Cf.out
   go_wp2_with (first | ((with_reducible refine c_ 26 ?_); refine gc 26 (some 11) Tryz.func26 (aA.calls _ _ _ (fun k_ => (((((P0_2_ k_ ∨ P0_3_ k_) ∨ w.heap.size ≤ k_) ∧ k_ ≠ Dc) ∧ k_ ≠ Df) ∧ k_ ≠ Cn)) _ _ _ (fun k_ => (((((P0_2_ k_ ∨ P0_3_ k_) ∨ w.heap.size ≤ k_) ∧ k_ ≠ Dc) ∧ k_ ≠ Df) ∧ k_ ≠ Cn)) _ _ _ _ _ _ _ _ _ _ _ _ _ _ _ _ _ ?Et ?Eu ?Gl ?Gm ?Gn ?Gp ?Gq ?Gs ?Gu ?Gf ?Gg A7.out) ?_; (case Et => exact Ea.out); (case Eu => exact Eb.out); (case Gl => exact cb Gw.out); (case Gm => exact Gx.out); (case Gn => exact cb Gy.out); (case Gp => exact Gz.out); (case Gq => exact cb Ia.out); (case Gs => exact Ib.out); (case Gu => exact cb Ic.out); (case Gf => exact Ie.out); (case Gg => exact Sh.below HSH.out bl); rintro e w12 ⟨rfl, hb⟩; refine ⟨_, rfl, ?_⟩; replace Ea := vb Ea hb; replace Eb := vb Eb hb; refine r3_ hb Cf Cj Ci ?_; clear Cf Cj Ci; intro Cf Cj Ci; replace HB := ho hb; clear hb; have Jv := Du.out; have Jw := Dw.out; have Pn := dG Cj.out))
   go_meet
   case rel => exact ⟨_, (decide ((l1_0.length : Int) > 20)), rs, H', ⟨by first | omega | exact Nat.le_refl _⟩, ⟨by exact Kd.dL (kv Ea.out) (fun _ hk => ⟨hk.1.1.1, ⟨hk.1.1.2, ⟨hk.1.2, hk.2⟩⟩⟩)⟩, ⟨by exact Kd.dL (kv Eb.out) (fun _ hk => ⟨hk.1.1.1, ⟨hk.1.1.2, ⟨hk.1.2, hk.2⟩⟩⟩)⟩, ⟨bk Cf.out⟩, ⟨bk Cj.out⟩, ⟨bk Ci.out⟩, ⟨bl⟩⟩
  have H' := am H; clear H
  have Jx := Ej.out
  have Jy := Ek.out
  have Jz := Dp.out
  have Ka := Dt.out
  have Po := dD Cf.out
  go_wp2_with (first | ((with_reducible refine c_ 26 ?_); refine gc 26 (some 11) Tryz.func26 (aA.calls _ _ _ (fun k_ => (((((P0_2_ k_ ∨ P0_3_ k_) ∨ w.heap.size ≤ k_) ∧ k_ ≠ Dc) ∧ k_ ≠ Df) ∧ k_ ≠ Cn)) _ _ _ (fun k_ => (((((P0_2_ k_ ∨ P0_3_ k_) ∨ w.heap.size ≤ k_) ∧ k_ ≠ Dc) ∧ k_ ≠ Df) ∧ k_ ≠ Cn)) _ _ _ _ _ _ _ _ _ _ _ _ _ _ _ _ _ ?Et ?Eu ?Gl ?Gm ?Gn ?Gp ?Gq ?Gs ?Gu ?Gf ?Gg A7.out) ?_; (case Et => exact Ea.out); (case Eu => exact Eb.out); (case Gl => exact cb Gw.out); (case Gm => exact Gx.out); (case Gn => exact cb Gy.out); (case Gp => exact Gz.out); (case Gq => exact cb Ia.out); (case Gs => exact Ib.out); (case Gu => exact cb Ic.out); (case Gf => exact Ie.out); (case Gg => exact Sh.below HSH.out bl); rintro e w18 ⟨rfl, hb⟩; refine ⟨_, rfl, ?_⟩; replace Ea := vb Ea hb; replace Eb := vb Eb hb; refine r3_ hb Cf Cj Ci ?_; clear Cf Cj Ci; intro Cf Cj Ci; replace HB := ho hb; clear hb))
  go_meet
  case rel => exact ⟨_, (true), rs, H', ⟨by first | omega | exact Nat.le_refl _⟩, ⟨by exact Kd.dL (kv Ea.out) (fun _ hk => ⟨hk.1.1.1, ⟨hk.1.1.2, ⟨hk.1.2, hk.2⟩⟩⟩)⟩, ⟨by exact Kd.dL (kv Eb.out) (fun _ hk => ⟨hk.1.1.1, ⟨hk.1.1.2, ⟨hk.1.2, hk.2⟩⟩⟩)⟩, ⟨bk Cf.out⟩, ⟨bk Cj.out⟩, ⟨bk Ci.out⟩, ⟨bl⟩⟩
 case rest =>
  clear Je
  obtain ⟨kq, x18_2, rfl, HA, Kb, Cb, Cc, Cf, Cj, Ci, HB⟩ := hcut
  cases kq with
  | zero => exact absurd HA.out (by simp [aY.j0])
  | succ kj2 =>
   have H := HA.out
   clear HA
   simp only [aY.j0] at H
   replace H := iT H; rcases H with ⟨rfl, H⟩ | ⟨rfl, H⟩
   ·simp only [Option.some.injEq, Prod.mk.injEq] at H
    obtain ⟨rfl, rfl, rfl, rfl, rfl⟩ := H
    have Ke := Dt.out
    have Kf := Dp.out
    have Kg := Dw.out
    have Kh := Du.out
    have Pp := dG Ci.out
    go_wp2
    refine bodyPost_ret (results_cell_row rfl _ _ Cn 34 #[.slice none 0 0, .int .i64 0, .int .i64 0, .int .i64 0, .int .i64 0] (0, 0) _ rfl (bp Ci.out) Tryz.underlying34 rfl (by kernel_rfl)) rfl ?_
    exact ⟨_, er, by first | exact Kd.je _ _ _ _ _ | exact Kd.jY _ _ _ _ _ | exact Kd.jU _ _ _ _ _ | exact Kd.jX _ _ _ _ _ | exact Kd.jV _ _ _ _ _, bl⟩
   generalize h_ : ((([l0_3, l0_2] : List (List ByteArray))) : List (List ByteArray)) = Ou at H
   have Ig := am h_.symm; clear h_; try rw [Option.bind_some] at H
   revert H; refine bj fun t421 Ov H => ?_
   have H' := am H; clear H
   have Ki := Ej.out
   have Kj := Ek.out
   have Kk := Dp.out
   have Kl := Dt.out
   have Ox := dD Cf.out
   go_wp2_with (first | ((with_reducible refine dH (N := 24) rfl ?_); (try (refine dz (by rfl) ?_; dsimp only)); refine Kd.N_lit (Kd.slice 9 Kd.string) _ 22 ?hg (N' := 24) ?hd (xs := ([l0_3, l0_2] : List (List ByteArray))) (inner := [.slice A0_3 l0_3.length c0_3, .slice A0_2 l0_2.length c0_2]) (ok := (fun k_ => ((P0_2_ k_ ∨ P0_3_ k_) ∨ w.heap.size ≤ k_) ∧ k_ ≠ Dc ∧ k_ ≠ Df ∧ k_ ≠ Cn)) (okp := (fun k_ => ((P0_2_ k_ ∨ P0_3_ k_) ∨ w.heap.size ≤ k_) ∧ k_ ≠ Dc ∧ k_ ≠ Df ∧ k_ ≠ Cn)) ?hr ?hp (fun _ hk => hk) ((show ∀ k_, wc.heap.size ≤ k_ → (fun k_ => ((P0_2_ k_ ∨ P0_3_ k_) ∨ w.heap.size ≤ k_) ∧ k_ ≠ Dc ∧ k_ ≠ Df ∧ k_ ≠ Cn) k_ from fun k_ hk => ⟨(.inr (Nat.le_trans (az bl) hk)), Kd.lI (g := Dc) (o := .cells #[.string a0_0, .int .i64 a0_1, .slice A0_2 l0_2.length c0_2, .slice A0_3 l0_3.length c0_3, .slice A0_4 l0_4.length c0_4, .slice A0_5 l0_5.length c0_5, .slice A0_6 l0_6.length c0_6, .slice A0_7 l0_7.length c0_7] 39 (0, 0)) (bk Cf.out) k_ hk, Kd.lI (g := Df) (o := .cells #[.slice A1_0 l1_0.length c1_0, .int .i64 a1_1, .int .i64 a1_2, .int .i64 a1_3, .int .i64 a1_4] 43 (0, 0)) (bk Cj.out) k_ hk, Kd.lI (g := Cn) (o := .cells #[.slice none 0 0, .int .i64 0, .int .i64 0, .int .i64 0, .int .i64 0] 34 (0, 0)) (bk Ci.out) k_ hk⟩) _ (Nat.le_refl _)) (Below.refl _ _) (Nat.le_refl _) (by simp) ?_; (case hd => rfl); (case hg => rfl); (case hr => first | (go_simp; done) | (go_simp; rfl)); (case hp => exact (dw.one (show Kd.FK (Kd.slice 9 Kd.string) _ _ l0_3 [.slice A0_3 l0_3.length c0_3] from (Kd.jZ (Kd.jy (Kd.dL (ok' := (fun k_ => ((P0_2_ k_ ∨ P0_3_ k_) ∨ w.heap.size ≤ k_) ∧ k_ ≠ Dc ∧ k_ ≠ Df ∧ k_ ≠ Cn)) (Cc.out) (fun k_ hk => ⟨hk.1, ⟨hk.2.1, ⟨hk.2.2.1, hk.2.2.2⟩⟩⟩))).2.1 (Kd.V_F (Kd.dL (ok' := (fun k_ => ((P0_2_ k_ ∨ P0_3_ k_) ∨ w.heap.size ≤ k_) ∧ k_ ≠ Dc ∧ k_ ≠ Df ∧ k_ ≠ Cn)) (Cc.out) (fun k_ hk => ⟨hk.1, ⟨hk.2.1, ⟨hk.2.2.1, hk.2.2.2⟩⟩⟩))))) (dw.one (show Kd.FK (Kd.slice 9 Kd.string) _ _ l0_2 [.slice A0_2 l0_2.length c0_2] from (Kd.jZ (Kd.jy (Kd.dL (ok' := (fun k_ => ((P0_2_ k_ ∨ P0_3_ k_) ∨ w.heap.size ≤ k_) ∧ k_ ≠ Dc ∧ k_ ≠ Df ∧ k_ ≠ Cn)) (Cb.out) (fun k_ hk => ⟨hk.1, ⟨hk.2.1, ⟨hk.2.2.1, hk.2.2.2⟩⟩⟩))).2.1 (Kd.V_F (Kd.dL (ok' := (fun k_ => ((P0_2_ k_ ∨ P0_3_ k_) ∨ w.heap.size ≤ k_) ∧ k_ ≠ Dc ∧ k_ ≠ Df ∧ k_ ≠ Cn)) (Cb.out) (fun k_ hk => ⟨hk.1, ⟨hk.2.1, ⟨hk.2.2.1, hk.2.2.2⟩⟩⟩))))) (dw.none _ _)))); intro v419 w27 ho28 hb hg_ hnew_; clear hg_ hnew_; (first | rw [← Ig.out] at ho28 | (simp only [Int.reduceToNat] at ho28; rw [← Ig.out] at ho28)); replace Cb := am (Kd.jA (kv Cb.out) (Kd.pM ho28) hb); replace Cc := am (Kd.jA (kv Cc.out) (Kd.pM ho28) hb); have Eo := am (Kd.sK ho28 (az bl)); refine r3_ hb Cf Cj Ci ?_; clear Cf Cj Ci; intro Cf Cj Ci; replace HB := ho hb; clear hb ho28; obtain ⟨Oy, Oz, Jf⟩ := Kd.sJ Eo.out; subst Jf) | ((with_reducible refine c_ 27 ?_); refine gc 27 (some 25) Tryz.func27 (aj.calls _ _ _ _ _ _ ?Et ?Eu Ov.out) ?_; (case Et => repeat (first | exact (Kd.mf Eo.out).2.2 | (with_reducible refine Kd.fV ?_ _) | (with_reducible refine Kd.fU ?_ _) | (with_reducible refine Kd.gU ?_))); (case Eu => exact (Kd.mf Eo.out).2.1); rintro e w30 ⟨v422, rfl, ho0, hb⟩; refine ⟨_, rfl, ?_⟩; replace Cb := am (Kd.jA (kv Cb.out) (Kd.bO ho0) hb); replace Cc := am (Kd.jA (kv Cc.out) (Kd.bO ho0) hb); replace Eo := am (Kd.qF (by (with_reducible repeat (first | apply Kd.pO | apply Kd.pK | apply Kd.rM)); exact Eo.out) (Kd.bO ho0) hb); have Gv := am (Kd.bz (Kd.vU (M := fun k_ => (w.heap.size ≤ k_)) ho0 (az bl) (fun k_ h_ => h_)) (az bl)); refine r3_ hb Cf Cj Ci ?_; clear Cf Cj Ci; intro Cf Cj Ci; replace HB := ho hb; clear hb ho0; have Km := Du.out; have Kn := Dw.out; have Pc := dG Cj.out) | ((with_reducible refine dH (N := 6) rfl ?_); (try (refine dz (by rfl) ?_; dsimp only)); refine dR ?hg (N := 6) ?hd (cs := #[.slice none 0 0, .int .i64 0, .int .i64 0, .int .i64 0, .int .i64 0]) (t := 34) ?hr ?_; (case hd => rfl); (case hg => rfl); (case hr => first | (go_simp; done) | (go_simp; rfl)); intro Dn hg w33 hbox hb; replace Cb := ve Cb Dn hg hb; replace Cc := ve Cc Dn hg hb; replace Eo := am (Kd.mg (Kd.vY (by (with_reducible repeat (first | apply Kd.pO | apply Kd.pK | apply Kd.rM)); exact Eo.out) Dn (Nat.le_of_eq hg.symm)) hb); replace Gv := ro Gv hb; have Cm := am hbox; have Ir := am (bsz hg : w.heap.size ≤ Dn); have Ko := Ir; have Dx := no hg Cf; have Em := am Dx.out.symm; replace Cf := bo Cf hb; have Dy := no hg Cj; have En := am Dy.out.symm; replace Cj := bo Cj hb; have Dq := no hg Ci; have Ef := am Dq.out.symm; replace Ci := bo Ci hb; replace HB := ho hb; clear hb hbox hg; have Kp := Em.out; have Kq := Dx.out; have Kr := En.out; have Ks := Dy.out; have Kt := Ef.out; have Ku := Dq.out; have Pd := dG Cm.out; have Pe := dG Cj.out))
   go_loopg [38] kj2 (fun kq v38 w' => ∃ (x38_2 : Int) (x417001_2 : Int) (x417002_2 : Int) (x417003_2 : Int) (x417004_2 : Int) (x425000_2 : List (S60)) (u425000 : Value), v38 = .int .i64 x38_2 ∧ aa (aY.l0 kq t421 l1_0 (l1_0.length : Int) x38_2 x425000_2 a1_1 a1_2 a1_3 a1_4 = some (r1, r2, r3, r4, r5)) ∧ aa (kq ≤ kj2) ∧ aa (Kd.R Kd.string 9 w' w.heap.size (fun k_ => (w.heap.size ≤ k_)) v422 t421) ∧ aa (Kd.V Kd.string 9 w' w.heap.size (fun k_ => ((P0_2_ k_ ∨ P0_3_ k_) ∨ w.heap.size ≤ k_) ∧ some k_ ≠ (v422 : Value).ownBlock ∧ some k_ ≠ (u425000 : Value).ownBlock ∧ k_ ≠ Dc ∧ k_ ≠ Df ∧ k_ ≠ Cn ∧ k_ ≠ Dn) (.slice A0_2 l0_2.length c0_2) l0_2) ∧ aa (Kd.V Kd.string 9 w' w.heap.size (fun k_ => ((P0_2_ k_ ∨ P0_3_ k_) ∨ w.heap.size ≤ k_) ∧ some k_ ≠ (v422 : Value).ownBlock ∧ some k_ ≠ (u425000 : Value).ownBlock ∧ k_ ≠ Dc ∧ k_ ≠ Df ∧ k_ ≠ Cn ∧ k_ ≠ Dn) (.slice A0_3 l0_3.length c0_3) l0_3) ∧ aa (Kd.R k60 60 w' w.heap.size (fun k_ => (w.heap.size ≤ k_)) u425000 x425000_2) ∧ aa (w'.heap[Dc]? = some (.cells #[.string a0_0, .int .i64 a0_1, (.slice A0_2 l0_2.length c0_2), (.slice A0_3 l0_3.length c0_3), (.slice A0_4 l0_4.length c0_4), (.slice A0_5 l0_5.length c0_5), (.slice A0_6 l0_6.length c0_6), (.slice A0_7 l0_7.length c0_7)] 39 (0, 0))) ∧ aa (w'.heap[Df]? = some (.cells #[(.slice A1_0 l1_0.length c1_0), .int .i64 a1_1, .int .i64 a1_2, .int .i64 a1_3, .int .i64 a1_4] 43 (0, 0))) ∧ aa (w'.heap[Cn]? = some (.cells #[(.slice none 0 0), .int .i64 x417001_2, .int .i64 x417002_2, .int .i64 x417003_2, .int .i64 x417004_2] 34 (0, 0))) ∧ aa (w'.heap[Dn]? = some (.cells #[u425000, .int .i64 a1_1, .int .i64 a1_2, .int .i64 a1_3, .int .i64 a1_4] 34 (0, 0))) ∧ aa (Below w.heap.size w w'))
   case atStart => exact ⟨(0), (0), (0), (0), (0), (([] : List (S60))), (.slice none 0 0), rs, H', ⟨Nat.le_refl _⟩, ⟨by exact Kd.ax (eU (Kd.aG Gv.out Cm.out (by decide))) (fun _ hk => hk.1.1)⟩, ⟨by exact Kd.dL (lL (Kd.dL Cb.out (fun k_ hk => (⟨hk, hk.2⟩ : _ ∧ k_ ≠ Dn)))) (fun _ hk => ⟨hk.1.1.1.1.1, ⟨hk.1.1.2, ⟨(by simp [Value.ownBlock]), ⟨hk.1.1.1.1.2.1, ⟨hk.1.1.1.1.2.2.1, ⟨hk.1.1.1.1.2.2.2, hk.1.2⟩⟩⟩⟩⟩⟩)⟩, ⟨by exact Kd.dL (lL (Kd.dL Cc.out (fun k_ hk => (⟨hk, hk.2⟩ : _ ∧ k_ ≠ Dn)))) (fun _ hk => ⟨hk.1.1.1.1.1, ⟨hk.1.1.2, ⟨(by simp [Value.ownBlock]), ⟨hk.1.1.1.1.2.1, ⟨hk.1.1.1.1.2.2.1, ⟨hk.1.1.1.1.2.2.2, hk.1.2⟩⟩⟩⟩⟩⟩)⟩, ⟨by first | exact Kd.je _ _ _ _ _ | exact Kd.jY _ _ _ _ _ | exact Kd.jU _ _ _ _ _ | exact Kd.jX _ _ _ _ _ | exact Kd.jV _ _ _ _ _⟩, ⟨bf Cf.out Dx.out⟩, ⟨bf Cj.out Dy.out⟩, ⟨bf Ci.out Dq.out⟩, ⟨bp Cm.out⟩, ⟨bl⟩⟩
   case round =>
    clear H'
    try clear Ox; try clear Pc; try clear Pd; try clear Pe
    obtain ⟨x38_2, x417001_2, x417002_2, x417003_2, x417004_2, x425000_2, u425000, rfl, HA, Kv, Dv, Cb, Cc, Cd, Cf, Cj, Ci, Cm, HB⟩ := hrel
    cases gk with
    | zero => exact absurd HA.out (by simp [aY.l0])
    | succ k2 =>
     have H := HA.out
     clear HA
     simp only [aY.l0] at H
     revert H; refine iDb (fun Iu H => ?_) fun Iu H => ?_
     ·revert H; refine i1 fun Kw H => ?_
      revert H; refine i1 fun Kx H => ?_
      revert H; refine bj fun t427 Jg H => ?_
      replace H := iT H; rcases H with ⟨rfl, H⟩ | ⟨rfl, H⟩
      ·revert H; refine bj fun t428 Ky H => ?_
       replace H := iT H; rcases H with ⟨rfl, H⟩ | ⟨rfl, H⟩
       ·revert H; refine i1 fun Kz H => ?_
        revert H; refine i1 fun La H => ?_
        revert H; refine i1 fun Lc H => ?_
        revert H; refine i1 fun Ld H => ?_
        revert H; refine i0 fun Lh H => ?_
        have LMc50 := am Lh; clear Lh
        generalize h_ : ((x425000_2 ++ [(⟨fG ByteArray.empty t421 ((aD l1_0 x38_2).f0), fG ByteArray.empty t421 ((aD l1_0 x38_2).f1), (aD l1_0 x38_2).f2⟩ : S60)]) : List (S60)) = Iw at H
        have Ix := am h_.symm; clear h_; try rw [Option.bind_some] at H
        have H' := am H; clear H
        have Ep : 0 ≤ (x38_2 : Int) := ode
        have Es : x38_2 < (l1_0.length : Int) := ode
        obtain ⟨Ew, e425, Ec, Ed, Ee⟩ := jF Gk.out x38_2 Ep Es
        cases e425
        obtain ⟨Ec, Ed, Ee⟩ := hb3 HB.out Ec Ed Ee
        replace Ep := eq_true Ep
        replace Es := eq_true Es
        try go_wp2_with (first | ((with_reducible refine dH (N := 8) rfl ?_); (try (refine dz (by rfl) ?_; dsimp only)); refine dR ?hg (N := 8) ?hd (cs := #[.int .i64 0, .int .i64 0, .int .i64 0]) (t := 58) ?hr ?_; (case hd => rfl); (case hg => rfl); (case hr => first | (go_simp; done) | (go_simp; rfl)); intro Ce hg w51 hbox hb; replace Dv := ro Dv hb; replace Cb := ve Cb Ce hg hb; replace Cc := ve Cc Ce hg hb; replace Cd := ro Cd hb; have Di := am hbox; have Ey := am (bsz hg : w.heap.size ≤ Ce); have Ih := Ey; have Dk := no hg Cf; have Eg := am Dk.out.symm; replace Cf := bo Cf hb; have Dl := no hg Cj; have Eh := am Dl.out.symm; replace Cj := bo Cj hb; have Dh := no hg Ci; have Ei := am Dh.out.symm; replace Ci := bo Ci hb; have Dj := no hg Cm; have Dz := am Dj.out.symm; replace Cm := bo Cm hb; replace HB := ho hb; clear hb hbox hg; have Lj := Eg.out; have Ll := Dk.out; have Lm := Eh.out; have Ln := Dl.out; have Lp := Ei.out; have Lq := Dh.out; have Lr := Dz.out; have Ls := Dj.out; have Pq := jk Di.out; obtain ⟨Gj, Ez, Jh⟩ := Kd.aI Dv.out; subst Jh) | ((with_reducible refine c_ 28 ?_); refine gc 28 (some 48) Tryz.func28 (dZ.calls _ _ _ _ _ Jg.out) ?_; rintro e w' ⟨rfl, ⟨nd, rfl⟩⟩; refine ⟨_, rfl, ?_⟩) | (go_at_call 28; (with_reducible refine (dZ.calls _ _ _ _ _ Ky.out).mono ?_); rintro e w' ⟨rfl, ⟨nd, rfl⟩⟩))
        have n0_ : aa (Kd.R Kd.string 9 (((w51.setCell ⟨Ce, 0, none⟩ (.int .i64 ((aD l1_0 x38_2).f0))).setCell ⟨Ce, 1, none⟩ (.int .i64 ((aD l1_0 x38_2).f1))).setCell ⟨Ce, 2, none⟩ (.int .i64 ((aD l1_0 x38_2).f2))) w.heap.size (fun k_ => (w.heap.size ≤ k_)) (.slice Gj t421.length Ez) t421) := ⟨by exact Kd.ax (eU (Kd.aG Dv.out Di.out (by decide))) (fun _ hk => hk.1)⟩
        have n1_ : aa (Kd.V Kd.string 9 (((w51.setCell ⟨Ce, 0, none⟩ (.int .i64 ((aD l1_0 x38_2).f0))).setCell ⟨Ce, 1, none⟩ (.int .i64 ((aD l1_0 x38_2).f1))).setCell ⟨Ce, 2, none⟩ (.int .i64 ((aD l1_0 x38_2).f2))) w.heap.size (fun k_ => ((P0_2_ k_ ∨ P0_3_ k_) ∨ w.heap.size ≤ k_) ∧ some k_ ≠ (.slice Gj t421.length Ez : Value).ownBlock ∧ some k_ ≠ (u425000 : Value).ownBlock ∧ k_ ≠ Dc ∧ k_ ≠ Df ∧ k_ ≠ Cn ∧ k_ ≠ Dn ∧ k_ ≠ Ce) (.slice A0_2 l0_2.length c0_2) l0_2) := ⟨by exact Kd.dL (lL (Kd.dL Cb.out (fun k_ hk => (⟨hk, hk.2⟩ : _ ∧ k_ ≠ Ce)))) (fun _ hk => ⟨hk.1.1.1, ⟨hk.1.1.2.1, ⟨hk.1.1.2.2.1, ⟨hk.1.1.2.2.2.1, ⟨hk.1.1.2.2.2.2.1, ⟨hk.1.1.2.2.2.2.2.1, ⟨hk.1.1.2.2.2.2.2.2, hk.1.2⟩⟩⟩⟩⟩⟩⟩)⟩
        have n2_ : aa (Kd.V Kd.string 9 (((w51.setCell ⟨Ce, 0, none⟩ (.int .i64 ((aD l1_0 x38_2).f0))).setCell ⟨Ce, 1, none⟩ (.int .i64 ((aD l1_0 x38_2).f1))).setCell ⟨Ce, 2, none⟩ (.int .i64 ((aD l1_0 x38_2).f2))) w.heap.size (fun k_ => ((P0_2_ k_ ∨ P0_3_ k_) ∨ w.heap.size ≤ k_) ∧ some k_ ≠ (.slice Gj t421.length Ez : Value).ownBlock ∧ some k_ ≠ (u425000 : Value).ownBlock ∧ k_ ≠ Dc ∧ k_ ≠ Df ∧ k_ ≠ Cn ∧ k_ ≠ Dn ∧ k_ ≠ Ce) (.slice A0_3 l0_3.length c0_3) l0_3) := ⟨by exact Kd.dL (lL (Kd.dL Cc.out (fun k_ hk => (⟨hk, hk.2⟩ : _ ∧ k_ ≠ Ce)))) (fun _ hk => ⟨hk.1.1.1, ⟨hk.1.1.2.1, ⟨hk.1.1.2.2.1, ⟨hk.1.1.2.2.2.1, ⟨hk.1.1.2.2.2.2.1, ⟨hk.1.1.2.2.2.2.2.1, ⟨hk.1.1.2.2.2.2.2.2, hk.1.2⟩⟩⟩⟩⟩⟩⟩)⟩
        have n3_ : aa (Kd.R k60 60 (((w51.setCell ⟨Ce, 0, none⟩ (.int .i64 ((aD l1_0 x38_2).f0))).setCell ⟨Ce, 1, none⟩ (.int .i64 ((aD l1_0 x38_2).f1))).setCell ⟨Ce, 2, none⟩ (.int .i64 ((aD l1_0 x38_2).f2))) w.heap.size (fun k_ => (w.heap.size ≤ k_)) u425000 x425000_2) := ⟨by exact Kd.ax (eU (Kd.aG Cd.out Di.out (by decide))) (fun _ hk => hk.1)⟩
        have n4_ : aa ((((w51.setCell ⟨Ce, 0, none⟩ (.int .i64 ((aD l1_0 x38_2).f0))).setCell ⟨Ce, 1, none⟩ (.int .i64 ((aD l1_0 x38_2).f1))).setCell ⟨Ce, 2, none⟩ (.int .i64 ((aD l1_0 x38_2).f2))).heap[Dc]? = some (.cells #[.string a0_0, .int .i64 a0_1, .slice A0_2 l0_2.length c0_2, .slice A0_3 l0_3.length c0_3, .slice A0_4 l0_4.length c0_4, .slice A0_5 l0_5.length c0_5, .slice A0_6 l0_6.length c0_6, .slice A0_7 l0_7.length c0_7] 39 (0, 0))) := ⟨bf Cf.out Dk.out⟩
        have n5_ : aa ((((w51.setCell ⟨Ce, 0, none⟩ (.int .i64 ((aD l1_0 x38_2).f0))).setCell ⟨Ce, 1, none⟩ (.int .i64 ((aD l1_0 x38_2).f1))).setCell ⟨Ce, 2, none⟩ (.int .i64 ((aD l1_0 x38_2).f2))).heap[Df]? = some (.cells #[.slice (some Ew) l1_0.length c1_0, .int .i64 a1_1, .int .i64 a1_2, .int .i64 a1_3, .int .i64 a1_4] 43 (0, 0))) := ⟨bf Cj.out Dl.out⟩
        have n6_ : aa ((((w51.setCell ⟨Ce, 0, none⟩ (.int .i64 ((aD l1_0 x38_2).f0))).setCell ⟨Ce, 1, none⟩ (.int .i64 ((aD l1_0 x38_2).f1))).setCell ⟨Ce, 2, none⟩ (.int .i64 ((aD l1_0 x38_2).f2))).heap[Cn]? = some (.cells #[.slice none 0 0, .int .i64 x417001_2, .int .i64 x417002_2, .int .i64 x417003_2, .int .i64 x417004_2] 34 (0, 0))) := ⟨bf Ci.out Dh.out⟩
        have n7_ : aa ((((w51.setCell ⟨Ce, 0, none⟩ (.int .i64 ((aD l1_0 x38_2).f0))).setCell ⟨Ce, 1, none⟩ (.int .i64 ((aD l1_0 x38_2).f1))).setCell ⟨Ce, 2, none⟩ (.int .i64 ((aD l1_0 x38_2).f2))).heap[Dn]? = some (.cells #[u425000, .int .i64 a1_1, .int .i64 a1_2, .int .i64 a1_3, .int .i64 a1_4] 34 (0, 0))) := ⟨bf Cm.out Dj.out⟩
        have n8_ : aa ((((w51.setCell ⟨Ce, 0, none⟩ (.int .i64 ((aD l1_0 x38_2).f0))).setCell ⟨Ce, 1, none⟩ (.int .i64 ((aD l1_0 x38_2).f1))).setCell ⟨Ce, 2, none⟩ (.int .i64 ((aD l1_0 x38_2).f2))).heap[Ce]? = some (.cells #[.int .i64 ((aD l1_0 x38_2).f0), .int .i64 ((aD l1_0 x38_2).f1), .int .i64 ((aD l1_0 x38_2).f2)] 58 (0, 0))) := ⟨bp Di.out⟩
        have n9_ : aa (Below w.heap.size w (((w51.setCell ⟨Ce, 0, none⟩ (.int .i64 ((aD l1_0 x38_2).f0))).setCell ⟨Ce, 1, none⟩ (.int .i64 ((aD l1_0 x38_2).f1))).setCell ⟨Ce, 2, none⟩ (.int .i64 ((aD l1_0 x38_2).f2)))) := ⟨bl⟩
        (try clear Dv)
        (try clear Cb)
        (try clear Cc)
        (try clear Cd)
        (try clear Cf)
        (try clear Cj)
        (try clear Ci)
        (try clear Cm)
        (try clear Di)
        (try clear HB)
        generalize (((w51.setCell ⟨Ce, 0, none⟩ (.int .i64 ((aD l1_0 x38_2).f0))).setCell ⟨Ce, 1, none⟩ (.int .i64 ((aD l1_0 x38_2).f1))).setCell ⟨Ce, 2, none⟩ (.int .i64 ((aD l1_0 x38_2).f2))) = w58 at n0_ n1_ n2_ n3_ n4_ n5_ n6_ n7_ n8_ n9_ ⊢
        have Dv := n0_
        have Cb := n1_
        have Cc := n2_
        have Cd := n3_
        have Cf := n4_
        have Cj := n5_
        have Ci := n6_
        have Cm := n7_
        have Di := n8_
        have HB := n9_
        clear n0_ n1_ n2_ n3_ n4_ n5_ n6_ n7_ n8_ n9_
        (try (rw [rz w58]; generalize hq_ : World.drewN w58 _ = w58; have n0_ : aa (Kd.V Kd.string 9 w58 w.heap.size (fun k_ => ((P0_2_ k_ ∨ P0_3_ k_) ∨ w.heap.size ≤ k_) ∧ some k_ ≠ (u425000 : Value).ownBlock ∧ some k_ ≠ (.slice Gj t421.length Ez : Value).ownBlock ∧ k_ ≠ Dc ∧ k_ ≠ Df ∧ k_ ≠ Cn ∧ k_ ≠ Dn ∧ k_ ≠ Ce) (.slice A0_2 l0_2.length c0_2) l0_2) := ⟨by rw [← hq_]; exact (by exact Kd.dL (kv Cb.out) (fun _ hk => ⟨hk.1, ⟨hk.2.2.1, ⟨hk.2.1, ⟨hk.2.2.2.1, ⟨hk.2.2.2.2.1, ⟨hk.2.2.2.2.2.1, ⟨hk.2.2.2.2.2.2.1, hk.2.2.2.2.2.2.2⟩⟩⟩⟩⟩⟩⟩))⟩; have n1_ : aa (Kd.V Kd.string 9 w58 w.heap.size (fun k_ => ((P0_2_ k_ ∨ P0_3_ k_) ∨ w.heap.size ≤ k_) ∧ some k_ ≠ (u425000 : Value).ownBlock ∧ some k_ ≠ (.slice Gj t421.length Ez : Value).ownBlock ∧ k_ ≠ Dc ∧ k_ ≠ Df ∧ k_ ≠ Cn ∧ k_ ≠ Dn ∧ k_ ≠ Ce) (.slice A0_3 l0_3.length c0_3) l0_3) := ⟨by rw [← hq_]; exact (by exact Kd.dL (kv Cc.out) (fun _ hk => ⟨hk.1, ⟨hk.2.2.1, ⟨hk.2.1, ⟨hk.2.2.2.1, ⟨hk.2.2.2.2.1, ⟨hk.2.2.2.2.2.1, ⟨hk.2.2.2.2.2.2.1, hk.2.2.2.2.2.2.2⟩⟩⟩⟩⟩⟩⟩))⟩; have n2_ : aa (Kd.R k60 60 w58 w.heap.size (fun k_ => (w.heap.size ≤ k_)) u425000 x425000_2) := ⟨by rw [← hq_]; exact (kr Cd.out)⟩; have n3_ : aa (Kd.R Kd.string 9 w58 w.heap.size (fun k_ => (w.heap.size ≤ k_)) (.slice Gj t421.length Ez) t421) := ⟨by rw [← hq_]; exact (kr Dv.out)⟩; have n4_ : aa (w58.heap[Dc]? = some (.cells #[.string a0_0, .int .i64 a0_1, .slice A0_2 l0_2.length c0_2, .slice A0_3 l0_3.length c0_3, .slice A0_4 l0_4.length c0_4, .slice A0_5 l0_5.length c0_5, .slice A0_6 l0_6.length c0_6, .slice A0_7 l0_7.length c0_7] 39 (0, 0))) := ⟨by rw [← hq_]; exact (bk Cf.out)⟩; have n5_ : aa (w58.heap[Df]? = some (.cells #[.slice (some Ew) l1_0.length c1_0, .int .i64 a1_1, .int .i64 a1_2, .int .i64 a1_3, .int .i64 a1_4] 43 (0, 0))) := ⟨by rw [← hq_]; exact (bk Cj.out)⟩; have n6_ : aa (w58.heap[Cn]? = some (.cells #[.slice none 0 0, .int .i64 x417001_2, .int .i64 x417002_2, .int .i64 x417003_2, .int .i64 x417004_2] 34 (0, 0))) := ⟨by rw [← hq_]; exact (bk Ci.out)⟩; have n7_ : aa (w58.heap[Dn]? = some (.cells #[u425000, .int .i64 a1_1, .int .i64 a1_2, .int .i64 a1_3, .int .i64 a1_4] 34 (0, 0))) := ⟨by rw [← hq_]; exact (bk Cm.out)⟩; have n8_ : aa (w58.heap[Ce]? = some (.cells #[.int .i64 ((aD l1_0 x38_2).f0), .int .i64 ((aD l1_0 x38_2).f1), .int .i64 ((aD l1_0 x38_2).f2)] 58 (0, 0))) := ⟨by rw [← hq_]; exact (bk Di.out)⟩; have n9_ : aa (Below w.heap.size w w58) := ⟨by rw [← hq_]; exact bl⟩; clear Cb Cc Cd Dv Cf Cj Ci Cm Di HB hq_; have Cb := n0_; have Cc := n1_; have Cd := n2_; have Dv := n3_; have Cf := n4_; have Cj := n5_; have Ci := n6_; have Cm := n7_; have Di := n8_; have HB := n9_; clear n0_ n1_ n2_ n3_ n4_ n5_ n6_ n7_ n8_ n9_))
        replace Dv := am (Kd.dx Dv.out); replace Cb := am (Kd.mU Cb.out); replace Cc := am (Kd.mU Cc.out); replace Cd := am (Kd.dx Cd.out); replace Cf := am (bB Cf.out); replace Cj := am (bB Cj.out); replace Ci := am (bB Ci.out); replace Cm := am (bB Cm.out); replace Di := am (bB Di.out); replace HB := am (bg HB.out)
        have Ij : 0 ≤ (((aD l1_0 x38_2).f0) : Int) := ode
        have Ik : ((aD l1_0 x38_2).f0) < (t421.length : Int) := ode
        obtain ⟨Ga, e429, Gh⟩ := Kd.eQ (Kd.af Dv.out).2.2 ((aD l1_0 x38_2).f0) Ij Ik
        cases e429
        replace Ij := eq_true Ij
        replace Ik := eq_true Ik
        have Il : 0 ≤ (((aD l1_0 x38_2).f1) : Int) := ode
        have Im : ((aD l1_0 x38_2).f1) < (t421.length : Int) := ode
        obtain ⟨Iy, e430, Gi⟩ := Kd.eQ (Kd.af Dv.out).2.2 ((aD l1_0 x38_2).f1) Il Im
        obtain rfl : Ga = Iy := (by injection e430)
        replace Il := eq_true Il
        replace Im := eq_true Im
        refine eH (n := 19) (S := oW Dn (u425000) (.int .i64 a1_1) (.int .i64 a1_2) (.int .i64 a1_3) (.int .i64 a1_4) Ce (.int .i64 ((aD l1_0 x38_2).f0)) (.int .i64 ((aD l1_0 x38_2).f1)) (.int .i64 ((aD l1_0 x38_2).f2)) (Ga.add (((aD l1_0 x38_2).f0)).toNat) (.string (fG ByteArray.empty t421 ((aD l1_0 x38_2).f0))) (Ga.add (((aD l1_0 x38_2).f1)).toNat) (.string (fG ByteArray.empty t421 ((aD l1_0 x38_2).f1)))) (ds := [16, 18]) #[F_, F_, F_, F_, F_, F_, F_, F_, F_, F_, F_, F_, F_, F_, F_, F_, F_, F_, F_] (by kernel_rfl) rfl rfl ⟨(ae Cm.out 0).trans rfl, (ae Cm.out 1).trans rfl, (ae Cm.out 2).trans rfl, (ae Cm.out 3).trans rfl, (ae Cm.out 4).trans rfl, (ae Di.out 0).trans rfl, (ae Di.out 1).trans rfl, (ae Di.out 2).trans rfl, Gh, Gi⟩ (fun hHeld => ?_); refine dJ aY.mZ aY.kW (fun HT_ HW_ => ?_)
        generalize w58.drew = w59 at Dv Cb Cc Cd Cf Cj Ci Cm Di HB Gh Gi hHeld ⊢
        refine pv 0 58 ?_
        refine pv 2 60 ?_
        refine pv 3 61 ?_
        refine pv 7 65 ?_
        refine pv 8 66 ?_
        refine pv 12 70 ?_
        refine kK 1 59 hHeld ?_
        refine kK 4 62 hHeld ?_
        refine pv 5 63 ?_
        refine kK 6 64 hHeld ?_
        refine kK 9 67 hHeld ?_
        refine pv 10 68 ?_
        refine kK 11 69 hHeld ?_
        refine kK 13 71 hHeld ?_
        refine pv 14 72 ?_
        refine ov 15 73 (fun K hK => ?_)
        refine qI (w1 := ?_) (v := ?_) (by rfl) rfl ?_ ?_
        rotate_left 2
        ·go_simp
         constructor
         ·rfl
         rfl
        refine hK.out _ _ ⟨(ae (dB Cm.out _) 0).trans rfl, (ae (dB Cm.out _) 1).trans rfl, (ae (dB Cm.out _) 2).trans rfl, (ae (dB Cm.out _) 3).trans rfl, (ae (dB Cm.out _) 4).trans rfl, (ae (dB Di.out _) 0).trans rfl, (ae (dB Di.out _) 1).trans rfl, (ae (dB Di.out _) 2).trans rfl, (World.cell?_alloc_lt _ _ _ (World.block_lt_of_cell? _ _ (hHeld.2.2.2.2.2.2.2.2.1))).trans (hHeld.2.2.2.2.2.2.2.2.1), (World.cell?_alloc_lt _ _ _ (World.block_lt_of_cell? _ _ (hHeld.2.2.2.2.2.2.2.2.2))).trans (hHeld.2.2.2.2.2.2.2.2.2)⟩ (fun hHeld => ?_)
        clear hK K
        refine dn (a' := ?_) ?_ ?_
        rotate_left
        ·show Act.put _ (some 73) _ = _
         simp only [Act.put, z1, z2, z3, bu, bv]
         rfl
        refine rT (i := 16) (N := some 74) #[T_, T_, T_, T_, T_, T_, T_, T_, T_, T_, T_, T_, T_, T_, T_, T_, T_, F_, F_] rfl rfl (nV HT_.out (by kernel_rfl)) (by decide) (fun K hK => ?_)
        refine Kd.ku k60 (w0 := w) w.heap.size (by rfl) (.tmp 59) (.tmp 73) 32 60 (.agg #[(.string ⟨#[]⟩), (.string ⟨#[]⟩), (.int .i64 0)]) 40 rfl Tryz.underlying32 vG rfl (by decide) (by omega) u425000 x425000_2 (⟨fG ByteArray.empty t421 ((aD l1_0 x38_2).f0), fG ByteArray.empty t421 ((aD l1_0 x38_2).f1), (aD l1_0 x38_2).f2⟩ : S60) [.string (fG ByteArray.empty t421 ((aD l1_0 x38_2).f0)), .string (fG ByteArray.empty t421 ((aD l1_0 x38_2).f1)), .int .i64 ((aD l1_0 x38_2).f2)] (fun k_ => (w.heap.size ≤ k_)) (fun _ => False) rfl rfl ?aP (fun _ hk => hk.elim) ?aF ?aO ?aB ?aS ?aL ?_
        (case aP => exact lX _ _ _ (⟨fG ByteArray.empty t421 ((aD l1_0 x38_2).f0), fG ByteArray.empty t421 ((aD l1_0 x38_2).f1), (aD l1_0 x38_2).f2⟩ : S60))
        (case aB => exact bl)
        (case aF => exact (fun k_ hk => (Nat.le_trans (az bl) hk)))
        (case aO => exact (kr Cd.out))
        (case aS => exact (az bl))
        (case aL => have := LMc50.out; omega)
        intro v432 w60 ho hb hg hat
        rw [← Ix.out] at ho
        have n0_ := am (Kd.sI (kr Dv.out) (Kd.aH (kr Cd.out)) (by decide) hg)
        have n1_ := am (Kd.iJ (ok := (fun k_ => ((P0_2_ k_ ∨ P0_3_ k_) ∨ w.heap.size ≤ k_) ∧ some k_ ≠ (.slice (some Ga) t421.length Ez : Value).ownBlock ∧ k_ ≠ Dc ∧ k_ ≠ Df ∧ k_ ≠ Cn ∧ k_ ≠ Dn ∧ k_ ≠ Ce)) (by exact Kd.dL (kv Cb.out) (fun _ hk => by first | exact ⟨⟨hk.1, ⟨hk.2.1, ⟨hk.2.2.2.1, ⟨hk.2.2.2.2.1, ⟨hk.2.2.2.2.2.1, ⟨hk.2.2.2.2.2.2.1, hk.2.2.2.2.2.2.2⟩⟩⟩⟩⟩⟩, hk.2.2.1⟩ | grind)) hg hat)
        have n2_ := am (Kd.iJ (ok := (fun k_ => ((P0_2_ k_ ∨ P0_3_ k_) ∨ w.heap.size ≤ k_) ∧ some k_ ≠ (.slice (some Ga) t421.length Ez : Value).ownBlock ∧ k_ ≠ Dc ∧ k_ ≠ Df ∧ k_ ≠ Cn ∧ k_ ≠ Dn ∧ k_ ≠ Ce)) (by exact Kd.dL (kv Cc.out) (fun _ hk => by first | exact ⟨⟨hk.1, ⟨hk.2.1, ⟨hk.2.2.2.1, ⟨hk.2.2.2.2.1, ⟨hk.2.2.2.2.2.1, ⟨hk.2.2.2.2.2.2.1, hk.2.2.2.2.2.2.2⟩⟩⟩⟩⟩⟩, hk.2.2.1⟩ | grind)) hg hat)
        have n3_ := am (dN (g := Dc) (o := .cells #[.string a0_0, .int .i64 a0_1, .slice A0_2 l0_2.length c0_2, .slice A0_3 l0_3.length c0_3, .slice A0_4 l0_4.length c0_4, .slice A0_5 l0_5.length c0_5, .slice A0_6 l0_6.length c0_6, .slice A0_7 l0_7.length c0_7] 39 (0, 0)) (bk Cf.out) hg (Kd.eG Cd.out Cf.out (by decide)))
        have n4_ := am (dN (g := Df) (o := .cells #[.slice (some Ew) l1_0.length c1_0, .int .i64 a1_1, .int .i64 a1_2, .int .i64 a1_3, .int .i64 a1_4] 43 (0, 0)) (bk Cj.out) hg (Kd.eG Cd.out Cj.out (by decide)))
        have n5_ := am (dN (g := Cn) (o := .cells #[.slice none 0 0, .int .i64 x417001_2, .int .i64 x417002_2, .int .i64 x417003_2, .int .i64 x417004_2] 34 (0, 0)) (bk Ci.out) hg (Kd.eG Cd.out Ci.out (by decide)))
        have n6_ := am (dN (g := Dn) (o := .cells #[u425000, .int .i64 a1_1, .int .i64 a1_2, .int .i64 a1_3, .int .i64 a1_4] 34 (0, 0)) (bk Cm.out) hg (Kd.eG Cd.out Cm.out (by decide)))
        have n7_ := am (dN (g := Ce) (o := .cells #[.int .i64 ((aD l1_0 x38_2).f0), .int .i64 ((aD l1_0 x38_2).f1), .int .i64 ((aD l1_0 x38_2).f2)] 58 (0, 0)) (bk Di.out) hg (Kd.eG Cd.out Di.out (by decide)))
        have n8_ := am (hb)
        have n9_ := am (ho)
        clear Dv
        clear Cb
        clear Cc
        clear Cf
        clear Cj
        clear Ci
        clear Cm
        clear Di
        clear HB
        clear Cd
        have Dv := n0_
        have Cb := n1_
        have Cc := n2_
        have Cf := n3_
        have Cj := n4_
        have Ci := n5_
        have Cm := n6_
        have Di := n7_
        have HB := n8_
        have Ii := n9_
        clear n0_ n1_ n2_ n3_ n4_ n5_ n6_ n7_ n8_ n9_
        clear ho hb hg hat
        obtain ⟨Ji, Jj, Iz⟩ := Kd.aI Ii.out
        (first | subst Iz | (injection Iz with f1_ f2_ f3_; have f4_ := f1_.symm; have f5_ := f3_.symm; clear f1_ f2_ f3_; subst f4_; subst f5_))
        refine hK.out _ _ ?_
        clear hK K
        refine dn (a' := ?_) ?_ ?_
        rotate_left
        ·show Act.put _ (some 74) _ = _
         simp only [Act.put, z1, z2, z3, bu, bv]
         rfl
        refine pv 17 75 ?_
        refine rT (i := 18) (N := none) #[T_, T_, T_, T_, T_, T_, T_, T_, T_, T_, T_, T_, T_, T_, T_, T_, T_, T_, T_] rfl rfl (nV HT_.out (by kernel_rfl)) (by decide) (fun K hK => ?_)
        have Pg : w60.cell? ⟨Dn, 0, none⟩ = some (u425000) := (ae Cm.out 0).trans rfl
        have hfs62 := dA Cm.out 0
        have Ja := Dx.out
        have Jb := Dy.out
        have Jc := Dq.out
        have Jd := Dz.out
        have hms62_0 := Em.out
        have hms62_1 := En.out
        have hms62_2 := Ef.out
        have hms62_4 := Dj.out
        refine oJ (w1 := ?_) (by rfl) rfl ?_ ?_
        rotate_left
        ·go_simp
         rfl
        refine hK.out _ _ ?_
        clear hK K
        refine fF (eF HT_.out (by kernel_rfl)) ?_
        try go_wp2
        go_roundg k2
        case measure => have := Kb.out; have := Kv.out; omega
        case rel => exact ⟨(wrap64 (x38_2 + 1)), (x417001_2), (x417002_2), (x417003_2), (x417004_2), (Iw), (.slice Ji Iw.length Jj), rs, H', ⟨by have := Kb.out; have := Kv.out; omega⟩, ⟨by exact Kd.ax (eU (Kd.aG Dv.out Cm.out (by decide))) (fun _ hk => hk.1)⟩, ⟨by exact Kd.dL (lL (Kd.dL Cb.out (fun k_ hk => (⟨hk, hk.1.2.2.2.2.2.1⟩ : _ ∧ k_ ≠ Dn)))) (fun _ hk => ⟨hk.1.1.1, ⟨hk.1.1.2.1, ⟨hk.1.2, ⟨hk.1.1.2.2.1, ⟨hk.1.1.2.2.2.1, ⟨hk.1.1.2.2.2.2.1, hk.1.1.2.2.2.2.2.1⟩⟩⟩⟩⟩⟩)⟩, ⟨by exact Kd.dL (lL (Kd.dL Cc.out (fun k_ hk => (⟨hk, hk.1.2.2.2.2.2.1⟩ : _ ∧ k_ ≠ Dn)))) (fun _ hk => ⟨hk.1.1.1, ⟨hk.1.1.2.1, ⟨hk.1.2, ⟨hk.1.1.2.2.1, ⟨hk.1.1.2.2.2.1, ⟨hk.1.1.2.2.2.2.1, hk.1.1.2.2.2.2.2.1⟩⟩⟩⟩⟩⟩)⟩, ⟨by exact Kd.ax (eU (Kd.aG Ii.out Cm.out (by decide))) (fun _ hk => hk.1)⟩, ⟨bf Cf.out Dx.out⟩, ⟨bf Cj.out Dy.out⟩, ⟨bf Ci.out Dq.out⟩, ⟨bp Cm.out⟩, ⟨bl⟩⟩
       simp only [Option.some.injEq, Prod.mk.injEq] at H
       obtain ⟨rfl, rfl, rfl, rfl, rfl⟩ := H
       have Ep : 0 ≤ (x38_2 : Int) := ode
       have Es : x38_2 < (l1_0.length : Int) := ode
       obtain ⟨Ew, e425, Ec, Ed, Ee⟩ := jF Gk.out x38_2 Ep Es
       cases e425
       obtain ⟨Ec, Ed, Ee⟩ := hb3 HB.out Ec Ed Ee
       replace Ep := eq_true Ep
       replace Es := eq_true Es
       go_wp2_with (first | ((with_reducible refine dH (N := 8) rfl ?_); (try (refine dz (by rfl) ?_; dsimp only)); refine dR ?hg (N := 8) ?hd (cs := #[.int .i64 0, .int .i64 0, .int .i64 0]) (t := 58) ?hr ?_; (case hd => rfl); (case hg => rfl); (case hr => first | (go_simp; done) | (go_simp; rfl)); intro Ce hg w63 hbox hb; replace Dv := ro Dv hb; replace Cb := ve Cb Ce hg hb; replace Cc := ve Cc Ce hg hb; replace Cd := ro Cd hb; have Di := am hbox; have Ey := am (bsz hg : w.heap.size ≤ Ce); have Ih := Ey; have Dk := no hg Cf; have Eg := am Dk.out.symm; replace Cf := bo Cf hb; have Dl := no hg Cj; have Eh := am Dl.out.symm; replace Cj := bo Cj hb; have Dh := no hg Ci; have Ei := am Dh.out.symm; replace Ci := bo Ci hb; have Dj := no hg Cm; have Dz := am Dj.out.symm; replace Cm := bo Cm hb; replace HB := ho hb; clear hb hbox hg; have Lu := Eg.out; have Ly := Dk.out; have Ma := Eh.out; have Mc := Dl.out; have Md := Ei.out; have Me := Dh.out; have Mj := Dz.out; have Mo := Dj.out; have Pv := jk Di.out; obtain ⟨Ph, Pi, Jk⟩ := Kd.aI Dv.out; subst Jk) | ((with_reducible refine c_ 28 ?_); refine gc 28 (some 48) Tryz.func28 (dZ.calls _ _ _ _ _ Jg.out) ?_; rintro e w' ⟨rfl, ⟨nd, rfl⟩⟩; refine ⟨_, rfl, ?_⟩) | (go_at_call 28; (with_reducible refine (dZ.calls _ _ _ _ _ Ky.out).mono ?_); rintro e w' ⟨rfl, ⟨nd, rfl⟩⟩; have Mp := Dt.out; have Mq := Dp.out; have Mv := Dw.out; have My := Du.out; have Na := Dq.out; have Nb := Ef.out; have Px := dG Ci.out))
       refine bodyPost_ret (results_cell_row rfl _ _ Cn 34 #[.slice none 0 0, .int .i64 0, .int .i64 0, .int .i64 0, .int .i64 0] (0, 0) _ rfl (bpf Ci.out Dh.out) Tryz.underlying34 rfl (by kernel_rfl)) rfl ?_
       exact ⟨_, er, by first | exact Kd.je _ _ _ _ _ | exact Kd.jY _ _ _ _ _ | exact Kd.jU _ _ _ _ _ | exact Kd.jX _ _ _ _ _ | exact Kd.jV _ _ _ _ _, bl⟩
      simp only [Option.some.injEq, Prod.mk.injEq] at H
      obtain ⟨rfl, rfl, rfl, rfl, rfl⟩ := H
      have Ep : 0 ≤ (x38_2 : Int) := ode
      have Es : x38_2 < (l1_0.length : Int) := ode
      obtain ⟨Ew, e425, Ec, Ed, Ee⟩ := jF Gk.out x38_2 Ep Es
      cases e425
      obtain ⟨Ec, Ed, Ee⟩ := hb3 HB.out Ec Ed Ee
      replace Ep := eq_true Ep
      replace Es := eq_true Es
      go_wp2_with (first | ((with_reducible refine dH (N := 8) rfl ?_); (try (refine dz (by rfl) ?_; dsimp only)); refine dR ?hg (N := 8) ?hd (cs := #[.int .i64 0, .int .i64 0, .int .i64 0]) (t := 58) ?hr ?_; (case hd => rfl); (case hg => rfl); (case hr => first | (go_simp; done) | (go_simp; rfl)); intro Ce hg w74 hbox hb; replace Dv := ro Dv hb; replace Cb := ve Cb Ce hg hb; replace Cc := ve Cc Ce hg hb; replace Cd := ro Cd hb; have Di := am hbox; have Ey := am (bsz hg : w.heap.size ≤ Ce); have Ih := Ey; have Dk := no hg Cf; have Eg := am Dk.out.symm; replace Cf := bo Cf hb; have Dl := no hg Cj; have Eh := am Dl.out.symm; replace Cj := bo Cj hb; have Dh := no hg Ci; have Ei := am Dh.out.symm; replace Ci := bo Ci hb; have Dj := no hg Cm; have Dz := am Dj.out.symm; replace Cm := bo Cm hb; replace HB := ho hb; clear hb hbox hg; have Nc := Eg.out; have Nh := Dk.out; have Nl := Eh.out; have Np := Dl.out; have Nr := Ei.out; have Ns := Dh.out; have Nu := Dz.out; have Nv := Dj.out; have Py := jk Di.out; obtain ⟨Pj, Pk, Jl⟩ := Kd.aI Dv.out; subst Jl) | ((with_reducible refine c_ 28 ?_); refine gc 28 (some 48) Tryz.func28 (dZ.calls _ _ _ _ _ Jg.out) ?_; rintro e w' ⟨rfl, ⟨nd, rfl⟩⟩; refine ⟨_, rfl, ?_⟩; have Nw := Dt.out; have Nx := Dp.out; have Ny := Dw.out; have Nz := Du.out; have Oa := Dq.out; have Ob := Ef.out; have Pz := dG Ci.out))
      refine bodyPost_ret (results_cell_row rfl _ _ Cn 34 #[.slice none 0 0, .int .i64 0, .int .i64 0, .int .i64 0, .int .i64 0] (0, 0) _ rfl (bpf Ci.out Dh.out) Tryz.underlying34 rfl (by kernel_rfl)) rfl ?_
      exact ⟨_, er, by first | exact Kd.je _ _ _ _ _ | exact Kd.jY _ _ _ _ _ | exact Kd.jU _ _ _ _ _ | exact Kd.jX _ _ _ _ _ | exact Kd.jV _ _ _ _ _, bl⟩
     simp only [Option.some.injEq, Prod.mk.injEq] at H
     obtain ⟨rfl, rfl, rfl, rfl, rfl⟩ := H
     have Oc := Em.out
     have Od := Dx.out
     have Oe := En.out
     have Og := Dy.out
     have Oh := Ef.out
     have Oi := Dq.out
     have Qa := dG Cm.out
     obtain ⟨Jm, Jn, Jo⟩ := Kd.aI Cd.out
     subst Jo
     have Oj := Dt.out
     have Ol := Dp.out
     have Om := Dw.out
     have Oo := Du.out
     have Qb := dG Ci.out
     go_wp2
     refine bodyPost_ret (results_cell_row rfl _ _ Cn 34 #[.slice Jm x425000_2.length Jn, .int .i64 a1_1, .int .i64 a1_2, .int .i64 a1_3, .int .i64 a1_4] (0, 0) _ rfl (bp Ci.out) Tryz.underlying34 rfl (by kernel_rfl)) rfl ?_
     exact ⟨_, er, by (with_reducible repeat (first | apply Kd.fM | apply Kd.fK | apply Kd.dx)); exact Kd.ax (eU (Kd.aG Cd.out Ci.out (by decide))) (fun _ hk => hk.1), bl⟩
end Go.Proofs.YthpjnjplgmaofaaGreatDoor.PFnExactVmNamed
