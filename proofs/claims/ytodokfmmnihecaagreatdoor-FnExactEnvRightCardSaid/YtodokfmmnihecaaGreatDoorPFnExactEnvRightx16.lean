-- laid by seedprint.py, a program of this session, over contracts that it gives by hand; Lean checks it
-- dented
import Derived.Test.YtodokfmmnihecaaGreatDoorQMin
import Derived.Test.YtodokfmmnihecaaGreatDoorQAut
import Derived.Test.YtodokfmmnihecaaGreatDoorQBlk
import Derived.Test.YtodokfmmnihecaaGreatDoorPFnExactEnvRightx0
import Derived.Test.YtodokfmmnihecaaGreatDoorPFnExactEnvRightx13
import Derived.Test.YtodokfmmnihecaaGreatDoorPFnExactEnvRightx14
import Derived.Test.YtodokfmmnihecaaGreatDoorPFnExactEnvRightx15
namespace Go.Proofs.YtodokfmmnihecaaGreatDoor.PFnExactEnvRight
open Go.RowKit Go.Proofs.YtodokfmmnihecaaGreatDoorW.PrintWords Go.Proofs.YtodokfmmnihecaaGreatDoorW.PrintLast Go.Proofs.YtodokfmmnihecaaGreatDoorW.PrintMore
attribute [local go_sem] max2_int min2_int max_two min_two max_three min_three max_four min_four   -- for this text's walks alone
set_option maxHeartbeats 8000000
set_option maxRecDepth 100000
set_option linter.unusedVariables false
set_option linter.unusedSimpArgs false

/-! ### impl_tree_kidsAre: function 185 -/
mutual
def impl_tree_kidsAre.l0 : Nat → ByteArray → List (S161) → Int → Int → Option (Bool)
 | 0, _, _, _, _ => none
 | k + 1, x1, x14, x15, x16 => if x16 < x15 then (if 0 ≤ x16 then (if x16 < (x14.length : Int) then (if x16 < (x1.size : Int) then (if (bt x1 x16) = 101 then ((impl_tree_isExpr.f (impl_tree_kidsAre.f k) k ((rd_T161 x14 x16).f0.f0) ((rd_T161 x14 x16).f0.f1) ((rd_T161 x14 x16).f0.f2) ((rd_T161 x14 x16).f0.f3) ((rd_T161 x14 x16).f0.f4) ((rd_T161 x14 x16).f1) ((rd_T161 x14 x16).f2) ((rd_T161 x14 x16).f3)).bind fun t373 => (impl_tree_kidsAre.j1 k x1 x16 x14 x15 x16 (!t373) ((rd_T161 x14 x16).f0.f0) ((rd_T161 x14 x16).f0.f1) ((rd_T161 x14 x16).f0.f2) ((rd_T161 x14 x16).f0.f3) ((rd_T161 x14 x16).f0.f4) ((rd_T161 x14 x16).f1) ((rd_T161 x14 x16).f2) ((rd_T161 x14 x16).f3))) else (impl_tree_kidsAre.j1 k x1 x16 x14 x15 x16 false ((rd_T161 x14 x16).f0.f0) ((rd_T161 x14 x16).f0.f1) ((rd_T161 x14 x16).f0.f2) ((rd_T161 x14 x16).f0.f3) ((rd_T161 x14 x16).f0.f4) ((rd_T161 x14 x16).f1) ((rd_T161 x14 x16).f2) ((rd_T161 x14 x16).f3))) else (none)) else (none)) else (none)) else (some true)
def impl_tree_kidsAre.j1 : Nat → ByteArray → Int → List (S161) → Int → Int → Bool → Int → ByteArray → ByteArray → Int → Int → Int → List (S161) → Int → Option (Bool)
 | 0, _, _, _, _, _, _, _, _, _, _, _, _, _, _ => none
 | k + 1, x1, x5, x14, x15, x16, x21, x373000, x373001, x373002, x373003, x373004, x373005, x373006, x373007 => if x21 = true then (some false) else (if 0 ≤ x5 then (if x5 < (x1.size : Int) then (if (bt x1 x5) = 115 then ((impl_tree_isStatement.f (impl_tree_kidsAre.f k) k x373000 x373001 x373002 x373003 x373004 x373005 x373006 x373007).bind fun t374 => (impl_tree_kidsAre.j2 k x1 x5 x14 x15 x16 (!t374) x373000 x373001 x373002 x373003 x373004 x373005 x373006 x373007)) else (impl_tree_kidsAre.j2 k x1 x5 x14 x15 x16 false x373000 x373001 x373002 x373003 x373004 x373005 x373006 x373007)) else (none)) else (none))
def impl_tree_kidsAre.j2 : Nat → ByteArray → Int → List (S161) → Int → Int → Bool → Int → ByteArray → ByteArray → Int → Int → Int → List (S161) → Int → Option (Bool)
 | 0, _, _, _, _, _, _, _, _, _, _, _, _, _, _ => none
 | k + 1, x1, x5, x14, x15, x16, x21, x373000, x373001, x373002, x373003, x373004, x373005, x373006, x373007 => if x21 = true then (some false) else (if 0 ≤ x5 then (if x5 < (x1.size : Int) then (if (bt x1 x5) = 98 then (if x373000 = 27 then ((impl_tree_isStatement.f (impl_tree_kidsAre.f k) k x373000 x373001 x373002 x373003 x373004 x373005 x373006 x373007).bind fun t375 => (if t375 = true then (impl_tree_kidsAre.l0 k x1 x14 x15 (wrap64 (x16 + 1))) else (some false))) else (some false)) else (impl_tree_kidsAre.l0 k x1 x14 x15 (wrap64 (x16 + 1)))) else (none)) else (none))
def impl_tree_kidsAre.f : Nat → Int → ByteArray → ByteArray → Int → Int → Int → List (S161) → Int → ByteArray → Option (Bool)
 | 0, _, _, _, _, _, _, _, _, _ => none
 | k + 1, a0_0, a0_1, a0_2, a0_3, a0_4, a0_5, l0_6, a0_7, a1 => if (l0_6.length : Int) = (a1.size : Int) then (impl_tree_kidsAre.l0 k a1 l0_6 (l0_6.length : Int) 0) else (some false)
end
theorem impl_tree_kidsAre.mono_l : ∀ k, (∀ y0 y1 y2 y3 y4 y5 y6 y7 y8, LeO (impl_tree_kidsAre.f k y0 y1 y2 y3 y4 y5 y6 y7 y8) (impl_tree_kidsAre.f (k + 1) y0 y1 y2 y3 y4 y5 y6 y7 y8)) ∧ (∀ y0 y1 y2 y3, LeO (impl_tree_kidsAre.l0 k y0 y1 y2 y3) (impl_tree_kidsAre.l0 (k + 1) y0 y1 y2 y3)) ∧ (∀ y0 y1 y2 y3 y4 y5 y6 y7 y8 y9 y10 y11 y12 y13, LeO (impl_tree_kidsAre.j1 k y0 y1 y2 y3 y4 y5 y6 y7 y8 y9 y10 y11 y12 y13) (impl_tree_kidsAre.j1 (k + 1) y0 y1 y2 y3 y4 y5 y6 y7 y8 y9 y10 y11 y12 y13)) ∧ (∀ y0 y1 y2 y3 y4 y5 y6 y7 y8 y9 y10 y11 y12 y13, LeO (impl_tree_kidsAre.j2 k y0 y1 y2 y3 y4 y5 y6 y7 y8 y9 y10 y11 y12 y13) (impl_tree_kidsAre.j2 (k + 1) y0 y1 y2 y3 y4 y5 y6 y7 y8 y9 y10 y11 y12 y13))
 | 0 => ⟨fun _ _ _ _ _ _ _ _ _ r h => by simp [impl_tree_kidsAre.f] at h, fun _ _ _ _ r h => by simp [impl_tree_kidsAre.l0] at h, fun _ _ _ _ _ _ _ _ _ _ _ _ _ _ r h => by simp [impl_tree_kidsAre.j1] at h, fun _ _ _ _ _ _ _ _ _ _ _ _ _ _ r h => by simp [impl_tree_kidsAre.j2] at h⟩
 | k + 1 => by
  obtain ⟨ih0, ih1, ih2, ih3⟩ := impl_tree_kidsAre.mono_l k
  refine ⟨?_, ?_, ?_, ?_⟩
  ·intro y0 y1 y2 y3 y4 y5 y6 y7 y8
   unfold impl_tree_kidsAre.f
   repeat' (with_reducible first | exact ih0 .. | exact ih1 .. | exact ih2 .. | exact ih3 .. | exact impl_tree_isExpr.mono _ _ ih0 _ _ _ _ _ _ _ _ _ | exact impl_tree_isStatement.mono _ _ ih0 _ _ _ _ _ _ _ _ _ | exact LeO.refl _ | exact LeO.none _ | refine LeO.ite ?_ ?_ | refine LeO.bind ?_ (fun _ => ?_))
  ·intro y0 y1 y2 y3
   unfold impl_tree_kidsAre.l0
   repeat' (with_reducible first | exact ih0 .. | exact ih1 .. | exact ih2 .. | exact ih3 .. | exact impl_tree_isExpr.mono _ _ ih0 _ _ _ _ _ _ _ _ _ | exact impl_tree_isStatement.mono _ _ ih0 _ _ _ _ _ _ _ _ _ | exact LeO.refl _ | exact LeO.none _ | refine LeO.ite ?_ ?_ | refine LeO.bind ?_ (fun _ => ?_))
  ·intro y0 y1 y2 y3 y4 y5 y6 y7 y8 y9 y10 y11 y12 y13
   unfold impl_tree_kidsAre.j1
   repeat' (with_reducible first | exact ih0 .. | exact ih1 .. | exact ih2 .. | exact ih3 .. | exact impl_tree_isExpr.mono _ _ ih0 _ _ _ _ _ _ _ _ _ | exact impl_tree_isStatement.mono _ _ ih0 _ _ _ _ _ _ _ _ _ | exact LeO.refl _ | exact LeO.none _ | refine LeO.ite ?_ ?_ | refine LeO.bind ?_ (fun _ => ?_))
  intro y0 y1 y2 y3 y4 y5 y6 y7 y8 y9 y10 y11 y12 y13
  unfold impl_tree_kidsAre.j2
  repeat' (with_reducible first | exact ih0 .. | exact ih1 .. | exact ih2 .. | exact ih3 .. | exact impl_tree_isExpr.mono _ _ ih0 _ _ _ _ _ _ _ _ _ | exact impl_tree_isStatement.mono _ _ ih0 _ _ _ _ _ _ _ _ _ | exact LeO.refl _ | exact LeO.none _ | refine LeO.ite ?_ ?_ | refine LeO.bind ?_ (fun _ => ?_))
theorem impl_tree_kidsAre.mono : ∀ a0 a1 a2 a3 a4 a5 a6 a7 a8 k, LeO (impl_tree_kidsAre.f k a0 a1 a2 a3 a4 a5 a6 a7 a8) (impl_tree_kidsAre.f (k + 1) a0 a1 a2 a3 a4 a5 a6 a7 a8) := by
 intro a0 a1 a2 a3 a4 a5 a6 a7 a8 k
 obtain ⟨ih0, ih1, ih2, ih3⟩ := impl_tree_kidsAre.mono_l k
 exact ih0 a0 a1 a2 a3 a4 a5 a6 a7 a8
theorem impl_tree_kidsAre.calls (k : Nat) : ∀ (a0_0 : Int) (a0_1 : ByteArray) (a0_2 : ByteArray) (a0_3 : Int) (a0_4 : Int) (a0_5 : Int) (A0_6 : Option Addr) (c0_6 : Nat) (l0_6 : List (S161)) (a0_7 : Int) (a1 : ByteArray) (r : Bool) (w : World) (hr0_6 : Kd.C k161 w A0_6 l0_6.length l0_6) (hc0_6 : l0_6.length ≤ c0_6) (hsh : Sh w) (h : impl_tree_kidsAre.f k a0_0 a0_1 a0_2 a0_3 a0_4 a0_5 l0_6 a0_7 a1 = some r),
  Calls Tryz.prog 185 #[.agg #[.int .i64 a0_0, .string a0_1, .string a0_2, .int .i64 a0_3, .int .i64 a0_4, .int .i64 a0_5, .slice A0_6 l0_6.length c0_6, .int .i64 a0_7], .string a1] w fun e w' => e = .returned (.bool r) ∧ Below w.heap.size w w' := by
 induction k using Nat.strongRecOn with
 | _ k ih =>
 intro a0_0 a0_1 a0_2 a0_3 a0_4 a0_5 A0_6 c0_6 l0_6 a0_7 a1 r w hr0_6 hc0_6 hsh h
 cases k with
 | zero => exact absurd h (by simp [impl_tree_kidsAre.f])
 | succ k =>
 simp only [impl_tree_kidsAre.f] at h
 have hu161 := Tryz.underlying161
 have HR0_6 := am hr0_6
 have HC0_6 := am hc0_6
 clear hr0_6 hc0_6
 have HSH := am hsh; clear hsh
 have HB := am (Below.refl w.heap.size w)
 have H := h
 clear h
 revert H; refine iQn (fun c3 c3b0 c3b1 H => ?_) fun c3 c3b0 c3b1 H => ?_
 ·have c3b2 : (l0_6.length == a1.size) = true := by first | simpa using c3 | (simp at c3 ⊢; omega)
  clear c3
  have H' := am H; clear H
  go_enter Tryz.func185, Tryz.ntmps185
  go_wp2_with (first | (refine bx 2 #[.int .i64 a0_0, .string a0_1, .string a0_2, .int .i64 a0_3, .int .i64 a0_4, .int .i64 a0_5, .slice A0_6 l0_6.length c0_6, .int .i64 a0_7] 161 ?_; intro gb370 hg w4 hbox hb; have BK370 := am (hbox); have GW370 := am (bsz hg : w.heap.size ≤ gb370); have GE370 := GW370; replace HB := am (below_step bl hb); clear hb hbox hg; obtain ⟨z5_0, z5_1, z5_2, z5_3, z5_4, z5_5, z5_6, z5_7, y5_0, y5_1, y5_2, y5_3, y5_4, y5_5, y5_6, y5_7⟩ := blk8 BK370.out))
  go_loopg [16] k (fun kq v16 w' => ∃ (x16_1 : Int), v16 = .int .i64 x16_1 ∧ Aside0 (impl_tree_kidsAre.l0 kq a1 l0_6 (l0_6.length : Int) x16_1 = some r) ∧ Aside0 (kq ≤ k) ∧ Aside0 (w'.heap[gb370]? = some (.cells #[.int .i64 a0_0, .string a0_1, .string a0_2, .int .i64 a0_3, .int .i64 a0_4, .int .i64 a0_5, (.slice A0_6 l0_6.length c0_6), .int .i64 a0_7] 161 (0, 0))) ∧ Aside0 (Below w.heap.size w w'))
  case atStart => exact ⟨(0), rs, H', ⟨Nat.le_refl _⟩, ⟨bk BK370.out⟩, ⟨bl⟩⟩
  case round =>
   clear H'
   try clear c3; try clear c3b0; try clear c3b1; try clear c3b2; try clear z5_0 z5_1 z5_2 z5_3 z5_4 z5_5 z5_6 z5_7; try clear y5_0 y5_1 y5_2 y5_3 y5_4 y5_5 y5_6 y5_7
   obtain ⟨x16_1, rfl, HA, HK1, BK370, HB⟩ := hrel
   cases gk with
   | zero => exact absurd HA.out (by simp [impl_tree_kidsAre.l0])
   | succ k1 =>
    have H := HA.out
    clear HA
    simp only [impl_tree_kidsAre.l0] at H
    revert H; refine iDb (fun c6b0 H => ?_) fun c6b0 H => ?_
    ·revert H; refine i1 fun c7b0 H => ?_
     revert H; refine i1 fun c8b0 H => ?_
     have HC9 := am H; clear H
     have p371 : 0 ≤ (x16_1 : Int) := ode
     have q371 : x16_1 < (l0_6.length : Int) := ode
     obtain ⟨ad371, A371_6, c371_6, e371, hx371_0, hx371_1, hx371_2, hx371_3, hx371_4, hx371_5, hx371_6, hx371_7, hl371_6, hi371_6⟩ := at_T161 HR0_6.out x16_1 p371 q371
     cases e371
     obtain ⟨hx371_0, hx371_1, hx371_2, hx371_3, hx371_4, hx371_5, hx371_6, hx371_7⟩ := hb8 HB.out hx371_0 hx371_1 hx371_2 hx371_3 hx371_4 hx371_5 hx371_6 hx371_7
     have HR371_6 := am hi371_6
     have HC371_6 := am hl371_6
     clear hi371_6 hl371_6
     replace p371 := eq_true p371
     replace q371 := eq_true q371
     go_upto_region 6 with (first | (refine bx 6 #[.int .i64 0, .string (⟨#[]⟩ : ByteArray), .string (⟨#[]⟩ : ByteArray), .int .i64 0, .int .i64 0, .int .i64 0, .slice none 0 0, .int .i64 0] 161 ?_; intro gb372 hg w10 hbox hb; have BK372 := am (hbox); have GW372 := am (bsz hg : w.heap.size ≤ gb372); have GE372 := GW372; have NB370_372 := am (ne1 hg BK370.out); have NB372_370 := am NB370_372.out.symm; replace BK370 := am (bkb BK370.out hb); replace HB := am (below_step bl hb); clear hb hbox hg; have hnb11 := NB372_370.out; have hnc11 := NB370_372.out; obtain ⟨z12_0, z12_1, z12_2, z12_3, z12_4, z12_5, z12_6, z12_7, y12_0, y12_1, y12_2, y12_3, y12_4, y12_5, y12_6, y12_7⟩ := blk8 BK372.out))
     (try simp only [Act.put, z1, z2, z3])
     go_cut [21] (fun v21 wc => ∃ (kq : Nat) (x21_8 : Bool), v21 = .bool x21_8 ∧ Aside0 (impl_tree_kidsAre.j1 kq a1 x16_1 l0_6 (l0_6.length : Int) x16_1 x21_8 ((rd_T161 l0_6 x16_1).f0.f0) ((rd_T161 l0_6 x16_1).f0.f1) ((rd_T161 l0_6 x16_1).f0.f2) ((rd_T161 l0_6 x16_1).f0.f3) ((rd_T161 l0_6 x16_1).f0.f4) ((rd_T161 l0_6 x16_1).f1) ((rd_T161 l0_6 x16_1).f2) ((rd_T161 l0_6 x16_1).f3) = some r) ∧ Aside0 (kq ≤ k1) ∧ Aside0 (wc.heap[gb370]? = some (.cells #[.int .i64 a0_0, .string a0_1, .string a0_2, .int .i64 a0_3, .int .i64 a0_4, .int .i64 a0_5, (.slice (some ad371) l0_6.length c0_6), .int .i64 a0_7] 161 (0, 0))) ∧ Aside0 (wc.heap[gb372]? = some (.cells #[.int .i64 ((rd_T161 l0_6 x16_1).f0.f0), .string ((rd_T161 l0_6 x16_1).f0.f1), .string ((rd_T161 l0_6 x16_1).f0.f2), .int .i64 ((rd_T161 l0_6 x16_1).f0.f3), .int .i64 ((rd_T161 l0_6 x16_1).f0.f4), .int .i64 ((rd_T161 l0_6 x16_1).f1), (.slice A371_6 ((rd_T161 l0_6 x16_1).f2).length c371_6), .int .i64 ((rd_T161 l0_6 x16_1).f3)] 161 (0, 0))) ∧ Aside0 (Below w.heap.size w wc))
     case first =>
      have H := HC9.out
      clear HC9
      revert H; refine i1 fun c13b0 H => ?_
      (first | rw [c13b0] | (simp only [i64_w, i32_w]; rw [c13b0]) | skip)
      revert H; refine iQ (fun c15b0 c15b1 H => ?_) fun c15 c15b0 c15b1 H => ?_
      ·revert H; refine bj fun t373 A16 H => ?_
       have H' := am H; clear H
       have p14 : 0 ≤ (x16_1 : Int) := ode
       have q14 : x16_1 < (a1.size : Int) := ode
       have hx14 := bt_at a1 x16_1
       replace p14 := eq_true p14
       replace q14 := eq_true q14
       have hnb17 := NB372_370.out
       have hnc17 := NB370_372.out
       obtain ⟨z18_0, z18_1, z18_2, z18_3, z18_4, z18_5, z18_6, z18_7, y18_0, y18_1, y18_2, y18_3, y18_4, y18_5, y18_6, y18_7⟩ := blk8 BK372.out
       go_wp2_with (first | (go_at_call 220; (with_reducible refine (impl_tree_isExpr.calls ⟨impl_tree_kidsAre.f k1, ih k1 (by have := HK1.out; omega)⟩ _ _ _ _ _ _ _ _ _ _ _ _ _ ?side1 ?side2 ?side3 A16.out).mono ?_); (case side1 => exact Kd.C_below HR371_6.out bl); (case side2 => exact HC371_6.out); (case side3 => exact Sh.below HSH.out bl); rintro e w19 ⟨rfl, hb⟩; replace BK370 := am (blk_below (g := gb370) (o := .cells #[.int .i64 a0_0, .string a0_1, .string a0_2, .int .i64 a0_3, .int .i64 a0_4, .int .i64 a0_5, .slice (some ad371) l0_6.length c0_6, .int .i64 a0_7] 161 (0, 0)) (bf BK370.out NB370_372.out) hb); replace BK372 := am (blk_below (g := gb372) (o := .cells #[.int .i64 ((rd_T161 l0_6 x16_1).f0.f0), .string ((rd_T161 l0_6 x16_1).f0.f1), .string ((rd_T161 l0_6 x16_1).f0.f2), .int .i64 ((rd_T161 l0_6 x16_1).f0.f3), .int .i64 ((rd_T161 l0_6 x16_1).f0.f4), .int .i64 ((rd_T161 l0_6 x16_1).f1), .slice A371_6 ((rd_T161 l0_6 x16_1).f2).length c371_6, .int .i64 ((rd_T161 l0_6 x16_1).f3)] 161 (0, 0)) (bp BK372.out) hb); replace HB := am (below_step bl hb); clear hb))
       go_meet
       case rel => exact ⟨_, (!t373), rs, H', ⟨by have := HK1.out; first | omega | exact Nat.le_refl _⟩, ⟨bk BK370.out⟩, ⟨bk BK372.out⟩, ⟨bl⟩⟩
      have H' := am H; clear H
      have p14 : 0 ≤ (x16_1 : Int) := ode
      have q14 : x16_1 < (a1.size : Int) := ode
      have hx14 := bt_at a1 x16_1
      replace p14 := eq_true p14
      replace q14 := eq_true q14
      go_wp2
      go_meet
      case rel => exact ⟨_, (false), rs, H', ⟨by have := HK1.out; first | omega | exact Nat.le_refl _⟩, ⟨bf BK370.out NB370_372.out⟩, ⟨bp BK372.out⟩, ⟨bl⟩⟩
     case rest =>
      clear HC9
      try clear c3; try clear c3b0; try clear c3b1; try clear c3b2; try clear c6b0; try clear c7b0; try clear c8b0; try clear z12_0 z12_1 z12_2 z12_3 z12_4 z12_5 z12_6 z12_7; try clear z5_0 z5_1 z5_2 z5_3 z5_4 z5_5 z5_6 z5_7; try clear y12_0 y12_1 y12_2 y12_3 y12_4 y12_5 y12_6 y12_7; try clear y5_0 y5_1 y5_2 y5_3 y5_4 y5_5 y5_6 y5_7; try clear hx371_0; try clear hx371_1; try clear hx371_2; try clear hx371_3; try clear hx371_4; try clear hx371_5; try clear hx371_6; try clear hx371_7; try clear p371; try clear q371
      obtain ⟨kq, x21_8, rfl, HA, HJ8, BK370, BK372, HB⟩ := hcut
      cases kq with
      | zero => exact absurd HA.out (by simp [impl_tree_kidsAre.j1])
      | succ kj8 =>
       have H := HA.out
       clear HA
       simp only [impl_tree_kidsAre.j1] at H
       replace H := iT H; rcases H with ⟨rfl, H⟩ | ⟨rfl, H⟩
       ·obtain rfl := Option.some.inj H
        go_wp2
        go_ret
        exact ⟨er, bl⟩
       have HC21 := am H; clear H
       go_upto_region 7 with (fail)
       go_cut [21] (fun v21 wc => ∃ (kq : Nat) (x21_20 : Bool), v21 = .bool x21_20 ∧ Aside0 (impl_tree_kidsAre.j2 kq a1 x16_1 l0_6 (l0_6.length : Int) x16_1 x21_20 ((rd_T161 l0_6 x16_1).f0.f0) ((rd_T161 l0_6 x16_1).f0.f1) ((rd_T161 l0_6 x16_1).f0.f2) ((rd_T161 l0_6 x16_1).f0.f3) ((rd_T161 l0_6 x16_1).f0.f4) ((rd_T161 l0_6 x16_1).f1) ((rd_T161 l0_6 x16_1).f2) ((rd_T161 l0_6 x16_1).f3) = some r) ∧ Aside0 (kq ≤ kj8) ∧ Aside0 (wc.heap[gb370]? = some (.cells #[.int .i64 a0_0, .string a0_1, .string a0_2, .int .i64 a0_3, .int .i64 a0_4, .int .i64 a0_5, (.slice (some ad371) l0_6.length c0_6), .int .i64 a0_7] 161 (0, 0))) ∧ Aside0 (wc.heap[gb372]? = some (.cells #[.int .i64 ((rd_T161 l0_6 x16_1).f0.f0), .string ((rd_T161 l0_6 x16_1).f0.f1), .string ((rd_T161 l0_6 x16_1).f0.f2), .int .i64 ((rd_T161 l0_6 x16_1).f0.f3), .int .i64 ((rd_T161 l0_6 x16_1).f0.f4), .int .i64 ((rd_T161 l0_6 x16_1).f1), (.slice A371_6 ((rd_T161 l0_6 x16_1).f2).length c371_6), .int .i64 ((rd_T161 l0_6 x16_1).f3)] 161 (0, 0))) ∧ Aside0 (Below w.heap.size w wc))
       case first =>
        have H := HC21.out
        clear HC21
        revert H; refine i1 fun c22b0 H => ?_
        (first | rw [c22b0] | (simp only [i64_w, i32_w]; rw [c22b0]) | skip)
        revert H; refine i1 fun c23b0 H => ?_
        revert H; refine iQ (fun c25b0 c25b1 H => ?_) fun c25 c25b0 c25b1 H => ?_
        ·revert H; refine bj fun t374 A26 H => ?_
         have H' := am H; clear H
         have p24 : 0 ≤ (x16_1 : Int) := ode
         have q24 : x16_1 < (a1.size : Int) := ode
         have hx24 := bt_at a1 x16_1
         replace p24 := eq_true p24
         replace q24 := eq_true q24
         have hnb27 := NB372_370.out
         have hnc27 := NB370_372.out
         obtain ⟨z28_0, z28_1, z28_2, z28_3, z28_4, z28_5, z28_6, z28_7, y28_0, y28_1, y28_2, y28_3, y28_4, y28_5, y28_6, y28_7⟩ := blk8 BK372.out
         go_wp2_with (first | (go_at_call 137; (with_reducible refine (impl_tree_isStatement.calls ⟨impl_tree_kidsAre.f kj8, ih kj8 (by have := HK1.out; have := HJ8.out; omega)⟩ _ _ _ _ _ _ _ _ _ _ _ _ _ ?side1 ?side2 ?side3 A26.out).mono ?_); (case side1 => exact cb HR371_6.out); (case side2 => exact HC371_6.out); (case side3 => exact Sh.below HSH.out bl); rintro e w29 ⟨rfl, hb⟩; replace BK370 := am (bkb BK370.out hb); replace BK372 := am (bkb BK372.out hb); replace HB := am (below_step bl hb); clear hb))
         go_meet
         case rel => exact ⟨_, (!t374), rs, H', ⟨by have := HK1.out; have := HJ8.out; first | omega | exact Nat.le_refl _⟩, ⟨bk BK370.out⟩, ⟨bk BK372.out⟩, ⟨bl⟩⟩
        have H' := am H; clear H
        have p24 : 0 ≤ (x16_1 : Int) := ode
        have q24 : x16_1 < (a1.size : Int) := ode
        have hx24 := bt_at a1 x16_1
        replace p24 := eq_true p24
        replace q24 := eq_true q24
        go_wp2
        go_meet
        case rel => exact ⟨_, (false), rs, H', ⟨by have := HK1.out; have := HJ8.out; first | omega | exact Nat.le_refl _⟩, ⟨bk BK370.out⟩, ⟨bk BK372.out⟩, ⟨bl⟩⟩
       case rest =>
        clear HC21
        try clear c3; try clear c3b0; try clear c3b1; try clear c3b2; try clear c6b0; try clear c7b0; try clear c8b0; try clear z12_0 z12_1 z12_2 z12_3 z12_4 z12_5 z12_6 z12_7; try clear z5_0 z5_1 z5_2 z5_3 z5_4 z5_5 z5_6 z5_7; try clear y12_0 y12_1 y12_2 y12_3 y12_4 y12_5 y12_6 y12_7; try clear y5_0 y5_1 y5_2 y5_3 y5_4 y5_5 y5_6 y5_7; try clear hx371_0; try clear hx371_1; try clear hx371_2; try clear hx371_3; try clear hx371_4; try clear hx371_5; try clear hx371_6; try clear hx371_7; try clear p371; try clear q371
        obtain ⟨kq, x21_20, rfl, HA, HJ20, BK370, BK372, HB⟩ := hcut
        cases kq with
        | zero => exact absurd HA.out (by simp [impl_tree_kidsAre.j2])
        | succ kj20 =>
         have H := HA.out
         clear HA
         simp only [impl_tree_kidsAre.j2] at H
         replace H := iT H; rcases H with ⟨rfl, H⟩ | ⟨rfl, H⟩
         ·obtain rfl := Option.some.inj H
          go_wp2
          go_ret
          exact ⟨er, bl⟩
         revert H; refine i1 fun c31b0 H => ?_
         revert H; refine i1 fun c32b0 H => ?_
         revert H; refine iQ (fun c34b0 c34b1 H => ?_) fun c34 c34b0 c34b1 H => ?_
         ·revert H; refine iQ (fun c35b0 c35b1 H => ?_) fun c35 c35b0 c35b1 H => ?_
          ·revert H; refine bj fun t375 A36 H => ?_
           replace H := iT H; rcases H with ⟨rfl, H⟩ | ⟨rfl, H⟩
           ·have H' := am H; clear H
            have p33 : 0 ≤ (x16_1 : Int) := ode
            have q33 : x16_1 < (a1.size : Int) := ode
            have hx33 := bt_at a1 x16_1
            replace p33 := eq_true p33
            replace q33 := eq_true q33
            have hnb38 := NB372_370.out
            have hnc38 := NB370_372.out
            obtain ⟨z39_0, z39_1, z39_2, z39_3, z39_4, z39_5, z39_6, z39_7, y39_0, y39_1, y39_2, y39_3, y39_4, y39_5, y39_6, y39_7⟩ := blk8 BK372.out
            go_wp2_with (first | (go_at_call 137; (with_reducible refine (impl_tree_isStatement.calls ⟨impl_tree_kidsAre.f kj20, ih kj20 (by have := HK1.out; have := HJ8.out; have := HJ20.out; omega)⟩ _ _ _ _ _ _ _ _ _ _ _ _ _ ?side1 ?side2 ?side3 A36.out).mono ?_); (case side1 => exact cb HR371_6.out); (case side2 => exact HC371_6.out); (case side3 => exact Sh.below HSH.out bl); rintro e w40 ⟨rfl, hb⟩; replace BK370 := am (bkb BK370.out hb); replace BK372 := am (bkb BK372.out hb); replace HB := am (below_step bl hb); clear hb))
            go_roundg kj20
            case measure => have := HK1.out; have := HJ8.out; have := HJ20.out; omega
            case rel => exact ⟨(wrap64 (x16_1 + 1)), rs, H', ⟨by have := HK1.out; have := HJ8.out; have := HJ20.out; omega⟩, ⟨bk BK370.out⟩, ⟨bl⟩⟩
           obtain rfl := Option.some.inj H
           have p33 : 0 ≤ (x16_1 : Int) := ode
           have q33 : x16_1 < (a1.size : Int) := ode
           have hx33 := bt_at a1 x16_1
           replace p33 := eq_true p33
           replace q33 := eq_true q33
           have hnb41 := NB372_370.out
           have hnc41 := NB370_372.out
           obtain ⟨z42_0, z42_1, z42_2, z42_3, z42_4, z42_5, z42_6, z42_7, y42_0, y42_1, y42_2, y42_3, y42_4, y42_5, y42_6, y42_7⟩ := blk8 BK372.out
           go_wp2_with (first | (go_at_call 137; (with_reducible refine (impl_tree_isStatement.calls ⟨impl_tree_kidsAre.f kj20, ih kj20 (by have := HK1.out; have := HJ8.out; have := HJ20.out; omega)⟩ _ _ _ _ _ _ _ _ _ _ _ _ _ ?side1 ?side2 ?side3 A36.out).mono ?_); (case side1 => exact cb HR371_6.out); (case side2 => exact HC371_6.out); (case side3 => exact Sh.below HSH.out bl); rintro e w43 ⟨rfl, hb⟩; replace BK370 := am (bkb BK370.out hb); replace BK372 := am (bkb BK372.out hb); replace HB := am (below_step bl hb); clear hb))
           go_ret
           exact ⟨er, bl⟩
          obtain rfl := Option.some.inj H
          have p33 : 0 ≤ (x16_1 : Int) := ode
          have q33 : x16_1 < (a1.size : Int) := ode
          have hx33 := bt_at a1 x16_1
          replace p33 := eq_true p33
          replace q33 := eq_true q33
          have hnb44 := NB372_370.out
          have hnc44 := NB370_372.out
          obtain ⟨z45_0, z45_1, z45_2, z45_3, z45_4, z45_5, z45_6, z45_7, y45_0, y45_1, y45_2, y45_3, y45_4, y45_5, y45_6, y45_7⟩ := blk8 BK372.out
          go_wp2
          go_ret
          exact ⟨er, bl⟩
         have H' := am H; clear H
         have p33 : 0 ≤ (x16_1 : Int) := ode
         have q33 : x16_1 < (a1.size : Int) := ode
         have hx33 := bt_at a1 x16_1
         replace p33 := eq_true p33
         replace q33 := eq_true q33
         go_wp2
         go_roundg kj20
         case measure => have := HK1.out; have := HJ8.out; have := HJ20.out; omega
         case rel => exact ⟨(wrap64 (x16_1 + 1)), rs, H', ⟨by have := HK1.out; have := HJ8.out; have := HJ20.out; omega⟩, ⟨bk BK370.out⟩, ⟨bl⟩⟩
    obtain rfl := Option.some.inj H
    go_wp2
    go_ret
    exact ⟨er, bl⟩
 have c3b2 : (l0_6.length == a1.size) = false := by first | simpa using c3 | (simp at c3 ⊢; omega)
 obtain rfl := Option.some.inj H
 go_enter Tryz.func185, Tryz.ntmps185
 go_wp2_with (first | (refine bx 2 #[.int .i64 a0_0, .string a0_1, .string a0_2, .int .i64 a0_3, .int .i64 a0_4, .int .i64 a0_5, .slice A0_6 l0_6.length c0_6, .int .i64 a0_7] 161 ?_; intro gb370 hg w46 hbox hb; have BK370 := am (hbox); have GW370 := am (bsz hg : w.heap.size ≤ gb370); have GE370 := GW370; replace HB := am (below_step bl hb); clear hb hbox hg; obtain ⟨z47_0, z47_1, z47_2, z47_3, z47_4, z47_5, z47_6, z47_7, y47_0, y47_1, y47_2, y47_3, y47_4, y47_5, y47_6, y47_7⟩ := blk8 BK370.out))
 go_ret
 exact ⟨er, bl⟩

/-! ### impl_tree_isExpr_o: function 220, for callers outside its group -/
def impl_tree_isExpr_o.f (k : Nat) (a0_0 : Int) (a0_1 : ByteArray) (a0_2 : ByteArray) (a0_3 : Int) (a0_4 : Int) (a0_5 : Int) (l0_6 : List (S161)) (a0_7 : Int) : Option (Bool) := impl_tree_isExpr.f (impl_tree_kidsAre.f k) k a0_0 a0_1 a0_2 a0_3 a0_4 a0_5 l0_6 a0_7
theorem impl_tree_isExpr_o.mono : ∀ a0 a1 a2 a3 a4 a5 a6 a7 k, LeO (impl_tree_isExpr_o.f k a0 a1 a2 a3 a4 a5 a6 a7) (impl_tree_isExpr_o.f (k + 1) a0 a1 a2 a3 a4 a5 a6 a7) := fun a0 a1 a2 a3 a4 a5 a6 a7 k => impl_tree_isExpr.mono _ _ (fun y0 y1 y2 y3 y4 y5 y6 y7 y8 => impl_tree_kidsAre.mono y0 y1 y2 y3 y4 y5 y6 y7 y8 k) a0 a1 a2 a3 a4 a5 a6 a7 k
theorem impl_tree_isExpr_o.calls (k : Nat) (a0_0 : Int) (a0_1 : ByteArray) (a0_2 : ByteArray) (a0_3 : Int) (a0_4 : Int) (a0_5 : Int) (A0_6 : Option Addr) (c0_6 : Nat) (l0_6 : List (S161)) (a0_7 : Int) (r : Bool) (w : World) (hr0_6 : Kd.C k161 w A0_6 l0_6.length l0_6) (hc0_6 : l0_6.length ≤ c0_6) (hsh : Sh w) (h : impl_tree_isExpr_o.f k a0_0 a0_1 a0_2 a0_3 a0_4 a0_5 l0_6 a0_7 = some r) :
  Calls Tryz.prog 220 #[.agg #[.int .i64 a0_0, .string a0_1, .string a0_2, .int .i64 a0_3, .int .i64 a0_4, .int .i64 a0_5, .slice A0_6 l0_6.length c0_6, .int .i64 a0_7]] w fun e w' => e = .returned (.bool r) ∧ Below w.heap.size w w' :=
 impl_tree_isExpr.calls ⟨impl_tree_kidsAre.f k, impl_tree_kidsAre.calls k⟩ k a0_0 a0_1 a0_2 a0_3 a0_4 a0_5 A0_6 c0_6 l0_6 a0_7 r w hr0_6 hc0_6 hsh h
/-! ### impl_tree_isStatement_o: function 137, for callers outside its group -/
def impl_tree_isStatement_o.f (k : Nat) (a0_0 : Int) (a0_1 : ByteArray) (a0_2 : ByteArray) (a0_3 : Int) (a0_4 : Int) (a0_5 : Int) (l0_6 : List (S161)) (a0_7 : Int) : Option (Bool) := impl_tree_isStatement.f (impl_tree_kidsAre.f k) k a0_0 a0_1 a0_2 a0_3 a0_4 a0_5 l0_6 a0_7
theorem impl_tree_isStatement_o.mono : ∀ a0 a1 a2 a3 a4 a5 a6 a7 k, LeO (impl_tree_isStatement_o.f k a0 a1 a2 a3 a4 a5 a6 a7) (impl_tree_isStatement_o.f (k + 1) a0 a1 a2 a3 a4 a5 a6 a7) := fun a0 a1 a2 a3 a4 a5 a6 a7 k => impl_tree_isStatement.mono _ _ (fun y0 y1 y2 y3 y4 y5 y6 y7 y8 => impl_tree_kidsAre.mono y0 y1 y2 y3 y4 y5 y6 y7 y8 k) a0 a1 a2 a3 a4 a5 a6 a7 k
theorem impl_tree_isStatement_o.calls (k : Nat) (a0_0 : Int) (a0_1 : ByteArray) (a0_2 : ByteArray) (a0_3 : Int) (a0_4 : Int) (a0_5 : Int) (A0_6 : Option Addr) (c0_6 : Nat) (l0_6 : List (S161)) (a0_7 : Int) (r : Bool) (w : World) (hr0_6 : Kd.C k161 w A0_6 l0_6.length l0_6) (hc0_6 : l0_6.length ≤ c0_6) (hsh : Sh w) (h : impl_tree_isStatement_o.f k a0_0 a0_1 a0_2 a0_3 a0_4 a0_5 l0_6 a0_7 = some r) :
  Calls Tryz.prog 137 #[.agg #[.int .i64 a0_0, .string a0_1, .string a0_2, .int .i64 a0_3, .int .i64 a0_4, .int .i64 a0_5, .slice A0_6 l0_6.length c0_6, .int .i64 a0_7]] w fun e w' => e = .returned (.bool r) ∧ Below w.heap.size w w' :=
 impl_tree_isStatement.calls ⟨impl_tree_kidsAre.f k, impl_tree_kidsAre.calls k⟩ k a0_0 a0_1 a0_2 a0_3 a0_4 a0_5 A0_6 c0_6 l0_6 a0_7 r w hr0_6 hc0_6 hsh h
/-! ### impl_NodesRight: function 70 -/
def impl_NodesRight.f (k : Nat) (l0 : List (S73)) : Option (Bool) := (impl_treeOf.f k l0).bind fun bt376 => (if bt376.2.2.2.2.2.2.2.2 = true then (if bt376.1 = 27 then ((impl_tree_isStatement_o.f k bt376.1 bt376.2.1 bt376.2.2.1 bt376.2.2.2.1 bt376.2.2.2.2.1 bt376.2.2.2.2.2.1 bt376.2.2.2.2.2.2.1 bt376.2.2.2.2.2.2.2.1).bind fun t388 => (some t388)) else (some false)) else (some false))
theorem impl_NodesRight.mono : ∀ a0 k, LeO (impl_NodesRight.f k a0) (impl_NodesRight.f (k + 1) a0) := by
 intro a0 k
 unfold impl_NodesRight.f
 repeat' (with_reducible first | exact impl_treeOf.mono .. | exact impl_tree_isStatement_o.mono .. | exact LeO.refl _ | exact LeO.none _ | refine LeO.ite ?_ ?_ | refine LeO.bind ?_ (fun _ => ?_))
theorem impl_NodesRight.calls (k : Nat) (A0 : Option Addr) (c0 : Nat) (l0 : List (S73)) (r : Bool) (w : World) (hr0 : Kd.C k73 w A0 l0.length l0) (hc0 : l0.length ≤ c0) (hsh : Sh w) (h : impl_NodesRight.f k l0 = some r) :
  Calls Tryz.prog 70 #[.slice A0 l0.length c0] w fun e w' => e = .returned (.bool r) ∧ Below w.heap.size w w' := by
 have hu161 := Tryz.underlying161
 have HR0 := am hr0
 have HC0 := am hc0
 clear hr0 hc0
 have HSH := am hsh; clear hsh
 have HB := am (Below.refl w.heap.size w)
 have H := h
 clear h
 unfold impl_NodesRight.f at H
 replace H := bi H; obtain ⟨⟨t376, t377, t378, t379, t380, t381, t382, t385, t386⟩, A2, H⟩ := H; dsimp only at H
 replace H := iT H; rcases H with ⟨rfl, H⟩ | ⟨rfl, H⟩
 ·revert H; refine iQ (fun c4b0 c4b1 H => ?_) fun c4 c4b0 c4b1 H => ?_
  ·revert H; refine bj fun t388 A5 H => ?_
   obtain rfl := Option.some.inj H
   go_enter Tryz.func70, Tryz.ntmps70
   go_wp2_with (first | (refine gc 111 (some 7) Tryz.func111 (impl_treeOf.calls _ _ _ _ _ _ _ _ _ _ _ _ _ _ ?side1 ?side2 A2.out) ?_; (case side1 => repeat (first | exact HR0.out | (with_reducible refine Kd.C_alloc ?_ _) | (with_reducible refine Kd.C_drewN ?_ _) | (with_reducible refine Kd.C_drew ?_))); (case side2 => exact HC0.out); rintro e w6 ⟨v383, rfl, ho0, hb⟩; refine ⟨_, rfl, ?_⟩; have HO384 := am (Kd.R_lower ho0 (below_size bl)); replace HB := am (below_step bl hb); clear hb ho0) | (refine bx 3 #[.int .i64 0, .string (⟨#[]⟩ : ByteArray), .string (⟨#[]⟩ : ByteArray), .int .i64 0, .int .i64 0, .int .i64 0, .slice none 0 0, .int .i64 0] 161 ?_; intro gb387 hg w7 hbox hb; replace HO384 := am (Kd.R_below (Kd.R_elderB (kr HO384.out) gb387 (Nat.le_of_eq hg.symm)) hb); have BK387 := am (hbox); have GW387 := am (bsz hg : w.heap.size ≤ gb387); have GE387 := GW387; replace HB := am (below_step bl hb); clear hb hbox hg; obtain ⟨z8_0, z8_1, z8_2, z8_3, z8_4, z8_5, z8_6, z8_7, y8_0, y8_1, y8_2, y8_3, y8_4, y8_5, y8_6, y8_7⟩ := blk8 BK387.out; obtain ⟨Ao9, co9, eo9⟩ := Kd.R_slice HO384.out; subst eo9) | (go_at_call 137; (with_reducible refine (impl_tree_isStatement_o.calls _ _ _ _ _ _ _ _ _ _ _ _ _ ?side1 ?side2 ?side3 A5.out).mono ?_); (case side1 => refine (Kd.R_reads' (e := 161) (base := w.heap.size) (ok := fun k_ => (True ∧ k_ ≠ gb387)) (n := t382.length) (c := co9) ?_).2.2; exact (by (with_reducible repeat (first | apply Kd.R_alloc | apply Kd.R_drewN | apply Kd.R_drew)); exact (Kd.R_mono (Kd.R_far (p := ⟨gb387, 7, none⟩) (Kd.R_far (p := ⟨gb387, 6, none⟩) (Kd.R_far (p := ⟨gb387, 5, none⟩) (Kd.R_far (p := ⟨gb387, 4, none⟩) (Kd.R_far (p := ⟨gb387, 3, none⟩) (Kd.R_far (p := ⟨gb387, 2, none⟩) (Kd.R_far (p := ⟨gb387, 1, none⟩) (Kd.R_far (p := ⟨gb387, 0, none⟩) (Kd.R_mono HO384.out (fun k_ hk => (⟨hk, hk.2⟩ : _ ∧ k_ ≠ gb387))) (fun _ hk => hk.2) (.int .i64 t376)) (fun _ hk => hk.2) (.string t377)) (fun _ hk => hk.2) (.string t378)) (fun _ hk => hk.2) (.int .i64 t379)) (fun _ hk => hk.2) (.int .i64 t380)) (fun _ hk => hk.2) (.int .i64 t381)) (fun _ hk => hk.2) (.slice Ao9 t382.length co9)) (fun _ hk => hk.2) (.int .i64 t385)) (fun _ h_ => h_.1)))); (case side2 => exact (Kd.R_reads' HO384.out).2.1); (case side3 => exact Sh.below HSH.out bl); rintro e w10 ⟨rfl, hb⟩; replace HO384 := am (Kd.R_below (by (with_reducible repeat (first | apply Kd.R_alloc | apply Kd.R_drewN | apply Kd.R_drew)); exact (Kd.R_mono (Kd.R_far (p := ⟨gb387, 7, none⟩) (Kd.R_far (p := ⟨gb387, 6, none⟩) (Kd.R_far (p := ⟨gb387, 5, none⟩) (Kd.R_far (p := ⟨gb387, 4, none⟩) (Kd.R_far (p := ⟨gb387, 3, none⟩) (Kd.R_far (p := ⟨gb387, 2, none⟩) (Kd.R_far (p := ⟨gb387, 1, none⟩) (Kd.R_far (p := ⟨gb387, 0, none⟩) (Kd.R_mono HO384.out (fun k_ hk => (⟨hk, hk.2⟩ : _ ∧ k_ ≠ gb387))) (fun _ hk => hk.2) (.int .i64 t376)) (fun _ hk => hk.2) (.string t377)) (fun _ hk => hk.2) (.string t378)) (fun _ hk => hk.2) (.int .i64 t379)) (fun _ hk => hk.2) (.int .i64 t380)) (fun _ hk => hk.2) (.int .i64 t381)) (fun _ hk => hk.2) (.slice Ao9 t382.length co9)) (fun _ hk => hk.2) (.int .i64 t385)) (fun _ h_ => h_.1))) hb); replace BK387 := am (blk_below (g := gb387) (o := .cells #[.int .i64 t376, .string t377, .string t378, .int .i64 t379, .int .i64 t380, .int .i64 t381, .slice Ao9 t382.length co9, .int .i64 t385] 161 (0, 0)) (bp BK387.out) hb); replace HB := am (below_step bl hb); clear hb))
   go_ret
   exact ⟨er, bl⟩
  obtain rfl := Option.some.inj H
  go_enter Tryz.func70, Tryz.ntmps70
  go_wp2_with (first | (refine gc 111 (some 7) Tryz.func111 (impl_treeOf.calls _ _ _ _ _ _ _ _ _ _ _ _ _ _ ?side1 ?side2 A2.out) ?_; (case side1 => repeat (first | exact HR0.out | (with_reducible refine Kd.C_alloc ?_ _) | (with_reducible refine Kd.C_drewN ?_ _) | (with_reducible refine Kd.C_drew ?_))); (case side2 => exact HC0.out); rintro e w11 ⟨v383, rfl, ho0, hb⟩; refine ⟨_, rfl, ?_⟩; have HO384 := am (Kd.R_lower ho0 (below_size bl)); replace HB := am (below_step bl hb); clear hb ho0) | (refine bx 3 #[.int .i64 0, .string (⟨#[]⟩ : ByteArray), .string (⟨#[]⟩ : ByteArray), .int .i64 0, .int .i64 0, .int .i64 0, .slice none 0 0, .int .i64 0] 161 ?_; intro gb387 hg w12 hbox hb; replace HO384 := am (Kd.R_below (Kd.R_elderB (kr HO384.out) gb387 (Nat.le_of_eq hg.symm)) hb); have BK387 := am (hbox); have GW387 := am (bsz hg : w.heap.size ≤ gb387); have GE387 := GW387; replace HB := am (below_step bl hb); clear hb hbox hg; obtain ⟨z13_0, z13_1, z13_2, z13_3, z13_4, z13_5, z13_6, z13_7, y13_0, y13_1, y13_2, y13_3, y13_4, y13_5, y13_6, y13_7⟩ := blk8 BK387.out; obtain ⟨Ao14, co14, eo14⟩ := Kd.R_slice HO384.out; subst eo14))
  go_ret
  exact ⟨er, bl⟩
 obtain rfl := Option.some.inj H
 go_enter Tryz.func70, Tryz.ntmps70
 go_wp2_with (first | (refine gc 111 (some 7) Tryz.func111 (impl_treeOf.calls _ _ _ _ _ _ _ _ _ _ _ _ _ _ ?side1 ?side2 A2.out) ?_; (case side1 => repeat (first | exact HR0.out | (with_reducible refine Kd.C_alloc ?_ _) | (with_reducible refine Kd.C_drewN ?_ _) | (with_reducible refine Kd.C_drew ?_))); (case side2 => exact HC0.out); rintro e w15 ⟨v383, rfl, ho0, hb⟩; refine ⟨_, rfl, ?_⟩; have HO384 := am (Kd.R_lower ho0 (below_size bl)); replace HB := am (below_step bl hb); clear hb ho0) | (refine bx 3 #[.int .i64 0, .string (⟨#[]⟩ : ByteArray), .string (⟨#[]⟩ : ByteArray), .int .i64 0, .int .i64 0, .int .i64 0, .slice none 0 0, .int .i64 0] 161 ?_; intro gb387 hg w16 hbox hb; replace HO384 := am (Kd.R_below (Kd.R_elderB (kr HO384.out) gb387 (Nat.le_of_eq hg.symm)) hb); have BK387 := am (hbox); have GW387 := am (bsz hg : w.heap.size ≤ gb387); have GE387 := GW387; replace HB := am (below_step bl hb); clear hb hbox hg; obtain ⟨z17_0, z17_1, z17_2, z17_3, z17_4, z17_5, z17_6, z17_7, y17_0, y17_1, y17_2, y17_3, y17_4, y17_5, y17_6, y17_7⟩ := blk8 BK387.out; obtain ⟨Ao18, co18, eo18⟩ := Kd.R_slice HO384.out; subst eo18))
 go_ret
 exact ⟨er, bl⟩

end Go.Proofs.YtodokfmmnihecaaGreatDoor.PFnExactEnvRight
