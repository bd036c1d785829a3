-- laid by seedprint.py, a program of this session, over contracts that it gives by hand; Lean checks it
-- dented
import Derived.Test.YtodokfmmnihecaaGreatDoorQMin
import Derived.Test.YtodokfmmnihecaaGreatDoorQAut
import Derived.Test.YtodokfmmnihecaaGreatDoorQBlk
import Derived.Test.YtodokfmmnihecaaGreatDoorPFnExactEnvRightx0
import Derived.Test.YtodokfmmnihecaaGreatDoorPFnExactEnvRightx4
import Derived.Test.YtodokfmmnihecaaGreatDoorPFnExactEnvRightx5
import Derived.Test.YtodokfmmnihecaaGreatDoorPFnExactEnvRightx7
namespace Go.Proofs.YtodokfmmnihecaaGreatDoor.PFnExactEnvRight
open Go.RowKit Go.Proofs.YtodokfmmnihecaaGreatDoorW.PrintWords Go.Proofs.YtodokfmmnihecaaGreatDoorW.PrintLast Go.Proofs.YtodokfmmnihecaaGreatDoorW.PrintMore
attribute [local go_sem] max2_int min2_int max_two min_two max_three min_three max_four min_four   -- for this text's walks alone
set_option linter.unusedVariables false
set_option linter.unusedSimpArgs false

/-! ### spec_ProductRight: function 14 -/
mutual
def spec_ProductRight.j0 : Nat → Bool → ByteArray → Int → List ByteArray → List ByteArray → List (S75) → List (S73) → List (S73) → List (S73) → Option (Bool)
 | 0, _, _, _, _, _, _, _, _, _ => none
 | k + 1, x43, x216000, x216001, x216002, x216003, x216004, x216005, x216006, x216007 => if x43 = true then (some false) else ((some (([] : List ByteArray) : List ByteArray)).bind fun y217 => (if y217.length + x216002.length < 8796093022208 then ((some (y217 ++ x216002 : List ByteArray)).bind fun y220 => (if y220.length + x216003.length < 8796093022208 then (spec_ProductRight.l0 k (y220 ++ x216003) 0 x216000 x216001 x216002 x216003 x216004 x216005 x216006 x216007) else (none))) else (none)))
def spec_ProductRight.l0 : Nat → List ByteArray → Int → ByteArray → Int → List ByteArray → List ByteArray → List (S75) → List (S73) → List (S73) → List (S73) → Option (Bool)
 | 0, _, _, _, _, _, _, _, _, _, _ => none
 | k + 1, x3, x4, x216000, x216001, x216002, x216003, x216004, x216005, x216006, x216007 => if x4 < (x216004.length : Int) then (if 0 ≤ x4 then (if x3.length < 8796093022208 then ((spec_l07ParamRight.f k ((rd_T75 x216004 x4).f0) ((rd_T75 x216004 x4).f1) ((rd_T75 x216004 x4).f2) ((rd_T75 x216004 x4).f3)).bind fun t231 => (if t231 = true then (spec_ProductRight.l0 k (x3 ++ [(rd_T75 x216004 x4).f0]) (wrap64 (x4 + 1)) x216000 x216001 x216002 x216003 x216004 x216005 x216006 x216007) else (some false))) else (none)) else (none)) else (spec_ProductRight.l1 k x3 0 x216000 x216001 x216002 x216003 x216004 x216005 x216006 x216007)
def spec_ProductRight.l1 : Nat → List ByteArray → Int → ByteArray → Int → List ByteArray → List ByteArray → List (S75) → List (S73) → List (S73) → List (S73) → Option (Bool)
 | 0, _, _, _, _, _, _, _, _, _, _ => none
 | k + 1, x3, x5, x216000, x216001, x216002, x216003, x216004, x216005, x216006, x216007 => if x5 < (x3.length : Int) then (if 0 ≤ x5 then ((spec_l07Name.f k (rdOf ByteArray.empty x3 x5)).bind fun t236 => (if t236 = true then (if x5 ≤ (x3.length : Int) then ((spec_l05In.f k (x3.take (x5 : Int).toNat) (rdOf ByteArray.empty x3 x5)).bind fun t242 => (if t242 = true then (some false) else (spec_ProductRight.l1 k x3 (wrap64 (x5 + 1)) x216000 x216001 x216002 x216003 x216004 x216005 x216006 x216007))) else (none)) else (some false))) else (none)) else ((spec_NodesRight.f k x216005).bind fun t232 => (if t232 = true then ((spec_NodesRight.f k x216006).bind fun t233 => (if t233 = true then ((spec_NodesRight.f k x216007).bind fun t234 => (some t234)) else (some false))) else (some false)))
end
def spec_ProductRight.f (k : Nat) (a0_0 : ByteArray) (a0_1 : Int) (l0_2 : List ByteArray) (l0_3 : List ByteArray) (l0_4 : List (S75)) (l0_5 : List (S73)) (l0_6 : List (S73)) (l0_7 : List (S73)) : Option (Bool) := (spec_l07Name.f k a0_0).bind fun t216 => (if t216 = true then (if a0_1 < 1 then (spec_ProductRight.j0 k true a0_0 a0_1 l0_2 l0_3 l0_4 l0_5 l0_6 l0_7) else (if a0_1 > 3 then (spec_ProductRight.j0 k true a0_0 a0_1 l0_2 l0_3 l0_4 l0_5 l0_6 l0_7) else (if (l0_2.length : Int) > 4 then (spec_ProductRight.j0 k true a0_0 a0_1 l0_2 l0_3 l0_4 l0_5 l0_6 l0_7) else (if (l0_3.length : Int) < 1 then (spec_ProductRight.j0 k true a0_0 a0_1 l0_2 l0_3 l0_4 l0_5 l0_6 l0_7) else (if (l0_3.length : Int) > 6 then (spec_ProductRight.j0 k true a0_0 a0_1 l0_2 l0_3 l0_4 l0_5 l0_6 l0_7) else (spec_ProductRight.j0 k (decide ((l0_4.length : Int) > 8)) a0_0 a0_1 l0_2 l0_3 l0_4 l0_5 l0_6 l0_7)))))) else (spec_ProductRight.j0 k true a0_0 a0_1 l0_2 l0_3 l0_4 l0_5 l0_6 l0_7))
theorem spec_ProductRight.mono_l : ∀ k, (∀ y0 y1 y2 y3 y4 y5 y6 y7 y8, LeO (spec_ProductRight.j0 k y0 y1 y2 y3 y4 y5 y6 y7 y8) (spec_ProductRight.j0 (k + 1) y0 y1 y2 y3 y4 y5 y6 y7 y8)) ∧ (∀ y0 y1 y2 y3 y4 y5 y6 y7 y8 y9, LeO (spec_ProductRight.l0 k y0 y1 y2 y3 y4 y5 y6 y7 y8 y9) (spec_ProductRight.l0 (k + 1) y0 y1 y2 y3 y4 y5 y6 y7 y8 y9)) ∧ (∀ y0 y1 y2 y3 y4 y5 y6 y7 y8 y9, LeO (spec_ProductRight.l1 k y0 y1 y2 y3 y4 y5 y6 y7 y8 y9) (spec_ProductRight.l1 (k + 1) y0 y1 y2 y3 y4 y5 y6 y7 y8 y9))
 | 0 => ⟨fun _ _ _ _ _ _ _ _ _ r h => by simp [spec_ProductRight.j0] at h, fun _ _ _ _ _ _ _ _ _ _ r h => by simp [spec_ProductRight.l0] at h, fun _ _ _ _ _ _ _ _ _ _ r h => by simp [spec_ProductRight.l1] at h⟩
 | k + 1 => by
  obtain ⟨ih0, ih1, ih2⟩ := spec_ProductRight.mono_l k
  refine ⟨?_, ?_, ?_⟩
  ·intro y0 y1 y2 y3 y4 y5 y6 y7 y8
   unfold spec_ProductRight.j0
   repeat' (with_reducible first | exact ih0 .. | exact ih1 .. | exact ih2 .. | exact spec_NodesRight.mono .. | exact spec_l05In.mono .. | exact spec_l07Name.mono .. | exact spec_l07ParamRight.mono .. | exact LeO.refl _ | exact LeO.none _ | refine LeO.ite ?_ ?_ | refine LeO.bind ?_ (fun _ => ?_))
  ·intro y0 y1 y2 y3 y4 y5 y6 y7 y8 y9
   unfold spec_ProductRight.l0
   repeat' (with_reducible first | exact ih0 .. | exact ih1 .. | exact ih2 .. | exact spec_NodesRight.mono .. | exact spec_l05In.mono .. | exact spec_l07Name.mono .. | exact spec_l07ParamRight.mono .. | exact LeO.refl _ | exact LeO.none _ | refine LeO.ite ?_ ?_ | refine LeO.bind ?_ (fun _ => ?_))
  intro y0 y1 y2 y3 y4 y5 y6 y7 y8 y9
  unfold spec_ProductRight.l1
  repeat' (with_reducible first | exact ih0 .. | exact ih1 .. | exact ih2 .. | exact spec_NodesRight.mono .. | exact spec_l05In.mono .. | exact spec_l07Name.mono .. | exact spec_l07ParamRight.mono .. | exact LeO.refl _ | exact LeO.none _ | refine LeO.ite ?_ ?_ | refine LeO.bind ?_ (fun _ => ?_))
theorem spec_ProductRight.mono : ∀ a0 a1 a2 a3 a4 a5 a6 a7 k, LeO (spec_ProductRight.f k a0 a1 a2 a3 a4 a5 a6 a7) (spec_ProductRight.f (k + 1) a0 a1 a2 a3 a4 a5 a6 a7) := by
 intro a0 a1 a2 a3 a4 a5 a6 a7 k
 obtain ⟨ih0, ih1, ih2⟩ := spec_ProductRight.mono_l k
 unfold spec_ProductRight.f
 repeat' (with_reducible first | exact ih0 .. | exact ih1 .. | exact ih2 .. | exact spec_NodesRight.mono .. | exact spec_l05In.mono .. | exact spec_l07Name.mono .. | exact spec_l07ParamRight.mono .. | exact LeO.refl _ | exact LeO.none _ | refine LeO.ite ?_ ?_ | refine LeO.bind ?_ (fun _ => ?_))
def spec_ProductRight.T3 : Bool × List (List Nat × List Nat) := (true, [([], []), ([], []), ([1], [1]), ([0, 2], [0, 2]), ([], []), ([4], [4]), ([3, 5, 3], [3, 5]), ([6, 6, 0, 1, 2, 3, 4, 5, 6], [6])])
def spec_ProductRight.B3 : List Nat := [0, 0, 2, 7, 0, 16, 63, 127]
theorem spec_ProductRight.tab3 : rtab .any (opsOf Tryz.f14 3) = spec_ProductRight.T3 := by kernel_rfl
theorem spec_ProductRight.bits3 : waitsOk spec_ProductRight.T3.2 spec_ProductRight.B3 = true := by kernel_rfl
def spec_ProductRight.T13 : Bool × List (List Nat × List Nat) := (true, [([], []), ([], []), ([0, 1], [0, 1]), ([2], [2]), ([3], [3]), ([4], [4]), ([5, 4], [5]), ([6], [6]), ([6], [6]), ([7, 8, 6], [6, 7, 8]), ([6], [6]), ([6], [6]), ([10, 11, 6], [6, 10, 11]), ([12, 6], [6, 12]), ([9, 13, 6, 6], [6, 9, 13]), ([6, 14], [6, 14])])
def spec_ProductRight.B13 : List Nat := [0, 0, 3, 7, 15, 31, 63, 127, 127, 511, 127, 127, 3199, 7295, 16383, 32767]
theorem spec_ProductRight.tab13 : rtab .any (opsOf Tryz.f14 13) = spec_ProductRight.T13 := by kernel_rfl
theorem spec_ProductRight.bits13 : waitsOk spec_ProductRight.T13.2 spec_ProductRight.B13 = true := by kernel_rfl
set_option maxHeartbeats 8000000 in
set_option maxRecDepth 100000 in
theorem spec_ProductRight.calls (k : Nat) (a0_0 : ByteArray) (a0_1 : Int) (A0_2 : Option Addr) (c0_2 : Nat) (l0_2 : List ByteArray) (A0_3 : Option Addr) (c0_3 : Nat) (l0_3 : List ByteArray) (A0_4 : Option Addr) (c0_4 : Nat) (l0_4 : List (S75)) (A0_5 : Option Addr) (c0_5 : Nat) (l0_5 : List (S73)) (A0_6 : Option Addr) (c0_6 : Nat) (l0_6 : List (S73)) (A0_7 : Option Addr) (c0_7 : Nat) (l0_7 : List (S73)) (r : Bool) (w : World) (hr0_2 : Kd.C Kd.string w A0_2 l0_2.length l0_2) (hc0_2 : l0_2.length ≤ c0_2) (hr0_3 : Kd.C Kd.string w A0_3 l0_3.length l0_3) (hc0_3 : l0_3.length ≤ c0_3) (hr0_4 : Kd.C k75 w A0_4 l0_4.length l0_4) (hc0_4 : l0_4.length ≤ c0_4) (hr0_5 : Kd.C k73 w A0_5 l0_5.length l0_5) (hc0_5 : l0_5.length ≤ c0_5) (hr0_6 : Kd.C k73 w A0_6 l0_6.length l0_6) (hc0_6 : l0_6.length ≤ c0_6) (hr0_7 : Kd.C k73 w A0_7 l0_7.length l0_7) (hc0_7 : l0_7.length ≤ c0_7) (h : spec_ProductRight.f k a0_0 a0_1 l0_2 l0_3 l0_4 l0_5 l0_6 l0_7 = some r) :
  Calls Tryz.prog 14 #[.agg #[.string a0_0, .int .i64 a0_1, .slice A0_2 l0_2.length c0_2, .slice A0_3 l0_3.length c0_3, .slice A0_4 l0_4.length c0_4, .slice A0_5 l0_5.length c0_5, .slice A0_6 l0_6.length c0_6, .slice A0_7 l0_7.length c0_7]] w fun e w' => e = .returned (.bool r) ∧ Below w.heap.size w w' := by
 have hu32 := Tryz.underlying32
 have hu75 := Tryz.underlying75
 have HR0_2 := am hr0_2
 have HC0_2 := am hc0_2
 clear hr0_2 hc0_2
 have HR0_3 := am hr0_3
 have HC0_3 := am hc0_3
 clear hr0_3 hc0_3
 have HR0_4 := am hr0_4
 have HC0_4 := am hc0_4
 clear hr0_4 hc0_4
 have HR0_5 := am hr0_5
 have HC0_5 := am hc0_5
 clear hr0_5 hc0_5
 have HR0_6 := am hr0_6
 have HC0_6 := am hc0_6
 clear hr0_6 hc0_6
 have HR0_7 := am hr0_7
 have HC0_7 := am hc0_7
 clear hr0_7 hc0_7
 have HB := am (Below.refl w.heap.size w)
 have H := h
 clear h
 unfold spec_ProductRight.f at H
 have HC2 := am H; clear H
 go_enter Tryz.func14, Tryz.ntmps14
 go_upto_region 1 with (first | ((with_reducible refine gate_dst (N := 1) rfl ?_); (try (refine gate_guard (by rfl) ?_; dsimp only)); refine box_event ?hg (N := 1) ?hd (cs := #[.string a0_0, .int .i64 a0_1, .slice A0_2 l0_2.length c0_2, .slice A0_3 l0_3.length c0_3, .slice A0_4 l0_4.length c0_4, .slice A0_5 l0_5.length c0_5, .slice A0_6 l0_6.length c0_6, .slice A0_7 l0_7.length c0_7]) (t := 32) ?hr ?_; (case hd => rfl); (case hg => rfl); (case hr => first | (go_simp; done) | (go_simp; rfl)); intro gb215 hg w3 hbox hb; have BK215 := am (hbox); have GW215 := am (bsz hg : w.heap.size ≤ gb215); have GE215 := GW215; replace HB := am (below_step bl hb); clear hb hbox hg))
 (try simp only [Act.put, z1, z2, z3])
 go_cut [43] (fun v43 wc => ∃ (kq : Nat) (x43_1 : Bool), v43 = .bool x43_1 ∧ Aside0 (spec_ProductRight.j0 kq x43_1 a0_0 a0_1 l0_2 l0_3 l0_4 l0_5 l0_6 l0_7 = some r) ∧ Aside0 (kq ≤ k) ∧ Aside0 (wc.heap[gb215]? = some (.cells #[.string a0_0, .int .i64 a0_1, (.slice A0_2 l0_2.length c0_2), (.slice A0_3 l0_3.length c0_3), (.slice A0_4 l0_4.length c0_4), (.slice A0_5 l0_5.length c0_5), (.slice A0_6 l0_6.length c0_6), (.slice A0_7 l0_7.length c0_7)] 32 (0, 0))) ∧ Aside0 (Below w.heap.size w wc))
 case first =>
  have H := HC2.out
  clear HC2
  revert H; refine bj fun t216 A4 H => ?_
  replace H := iT H; rcases H with ⟨rfl, H⟩ | ⟨rfl, H⟩
  ·revert H; refine iDb (fun c6b0 H => ?_) fun c6b0 H => ?_
   ·(first | rw [c6b0] | (simp only [i64_w, i32_w]; rw [c6b0]) | skip)
    have H' := am H; clear H
    obtain ⟨z7_0, z7_1, z7_2, z7_3, z7_4, z7_5, z7_6, z7_7, y7_0, y7_1, y7_2, y7_3, y7_4, y7_5, y7_6, y7_7⟩ := blk8 BK215.out
    go_wp2_with (first | (refine gc 57 (some 8) Tryz.func57 (spec_l07Name.calls _ _ _ _ A4.out) ?_; rintro e w8 ⟨rfl, hb⟩; refine ⟨_, rfl, ?_⟩; replace BK215 := am (bkb BK215.out hb); replace HB := am (below_step bl hb); clear hb; obtain ⟨z9_0, z9_1, z9_2, z9_3, z9_4, z9_5, z9_6, z9_7, y9_0, y9_1, y9_2, y9_3, y9_4, y9_5, y9_6, y9_7⟩ := blk8 BK215.out))
    go_meet
    case rel => exact ⟨_, (true), rs, H', ⟨by first | omega | exact Nat.le_refl _⟩, ⟨bk BK215.out⟩, ⟨bl⟩⟩
   (first | rw [c6b0] | (simp only [i64_w, i32_w]; rw [c6b0]) | skip)
   revert H; refine iDb (fun c10b0 H => ?_) fun c10b0 H => ?_
   ·have H' := am H; clear H
    obtain ⟨z11_0, z11_1, z11_2, z11_3, z11_4, z11_5, z11_6, z11_7, y11_0, y11_1, y11_2, y11_3, y11_4, y11_5, y11_6, y11_7⟩ := blk8 BK215.out
    go_wp2_with (first | (refine gc 57 (some 8) Tryz.func57 (spec_l07Name.calls _ _ _ _ A4.out) ?_; rintro e w12 ⟨rfl, hb⟩; refine ⟨_, rfl, ?_⟩; replace BK215 := am (bkb BK215.out hb); replace HB := am (below_step bl hb); clear hb; obtain ⟨z13_0, z13_1, z13_2, z13_3, z13_4, z13_5, z13_6, z13_7, y13_0, y13_1, y13_2, y13_3, y13_4, y13_5, y13_6, y13_7⟩ := blk8 BK215.out))
    go_meet
    case rel => exact ⟨_, (true), rs, H', ⟨by first | omega | exact Nat.le_refl _⟩, ⟨bk BK215.out⟩, ⟨bl⟩⟩
   revert H; refine iDn (fun c14 c14b0 H => ?_) fun c14 c14b0 H => ?_
   ·have c14b1 : decide (4 < l0_2.length) = true := decide_eq_true (by omega)
    clear c14
    have H' := am H; clear H
    obtain ⟨z15_0, z15_1, z15_2, z15_3, z15_4, z15_5, z15_6, z15_7, y15_0, y15_1, y15_2, y15_3, y15_4, y15_5, y15_6, y15_7⟩ := blk8 BK215.out
    go_wp2_with (first | (refine gc 57 (some 8) Tryz.func57 (spec_l07Name.calls _ _ _ _ A4.out) ?_; rintro e w16 ⟨rfl, hb⟩; refine ⟨_, rfl, ?_⟩; replace BK215 := am (bkb BK215.out hb); replace HB := am (below_step bl hb); clear hb; obtain ⟨z17_0, z17_1, z17_2, z17_3, z17_4, z17_5, z17_6, z17_7, y17_0, y17_1, y17_2, y17_3, y17_4, y17_5, y17_6, y17_7⟩ := blk8 BK215.out))
    go_meet
    case rel => exact ⟨_, (true), rs, H', ⟨by first | omega | exact Nat.le_refl _⟩, ⟨bk BK215.out⟩, ⟨bl⟩⟩
   have c14b1 : decide (4 < l0_2.length) = false := decide_eq_false (by omega)
   clear c14
   revert H; refine iDn (fun c18 c18b0 H => ?_) fun c18 c18b0 H => ?_
   ·have c18b1 : decide (l0_3.length < 1) = true := decide_eq_true (by omega)
    clear c18
    have H' := am H; clear H
    obtain ⟨z19_0, z19_1, z19_2, z19_3, z19_4, z19_5, z19_6, z19_7, y19_0, y19_1, y19_2, y19_3, y19_4, y19_5, y19_6, y19_7⟩ := blk8 BK215.out
    go_wp2_with (first | (refine gc 57 (some 8) Tryz.func57 (spec_l07Name.calls _ _ _ _ A4.out) ?_; rintro e w20 ⟨rfl, hb⟩; refine ⟨_, rfl, ?_⟩; replace BK215 := am (bkb BK215.out hb); replace HB := am (below_step bl hb); clear hb; obtain ⟨z21_0, z21_1, z21_2, z21_3, z21_4, z21_5, z21_6, z21_7, y21_0, y21_1, y21_2, y21_3, y21_4, y21_5, y21_6, y21_7⟩ := blk8 BK215.out))
    go_meet
    case rel => exact ⟨_, (true), rs, H', ⟨by first | omega | exact Nat.le_refl _⟩, ⟨bk BK215.out⟩, ⟨bl⟩⟩
   have c18b1 : decide (l0_3.length < 1) = false := decide_eq_false (by omega)
   clear c18
   revert H; refine iDn (fun c22 c22b0 H => ?_) fun c22 c22b0 H => ?_
   ·have c22b1 : decide (6 < l0_3.length) = true := decide_eq_true (by omega)
    clear c22
    have H' := am H; clear H
    obtain ⟨z23_0, z23_1, z23_2, z23_3, z23_4, z23_5, z23_6, z23_7, y23_0, y23_1, y23_2, y23_3, y23_4, y23_5, y23_6, y23_7⟩ := blk8 BK215.out
    go_wp2_with (first | (refine gc 57 (some 8) Tryz.func57 (spec_l07Name.calls _ _ _ _ A4.out) ?_; rintro e w24 ⟨rfl, hb⟩; refine ⟨_, rfl, ?_⟩; replace BK215 := am (bkb BK215.out hb); replace HB := am (below_step bl hb); clear hb; obtain ⟨z25_0, z25_1, z25_2, z25_3, z25_4, z25_5, z25_6, z25_7, y25_0, y25_1, y25_2, y25_3, y25_4, y25_5, y25_6, y25_7⟩ := blk8 BK215.out))
    go_meet
    case rel => exact ⟨_, (true), rs, H', ⟨by first | omega | exact Nat.le_refl _⟩, ⟨bk BK215.out⟩, ⟨bl⟩⟩
   have c22b1 : decide (6 < l0_3.length) = false := decide_eq_false (by omega)
   clear c22
   have H' := am H; clear H
   obtain ⟨z26_0, z26_1, z26_2, z26_3, z26_4, z26_5, z26_6, z26_7, y26_0, y26_1, y26_2, y26_3, y26_4, y26_5, y26_6, y26_7⟩ := blk8 BK215.out
   go_wp2_with (first | (refine gc 57 (some 8) Tryz.func57 (spec_l07Name.calls _ _ _ _ A4.out) ?_; rintro e w27 ⟨rfl, hb⟩; refine ⟨_, rfl, ?_⟩; replace BK215 := am (bkb BK215.out hb); replace HB := am (below_step bl hb); clear hb; obtain ⟨z28_0, z28_1, z28_2, z28_3, z28_4, z28_5, z28_6, z28_7, y28_0, y28_1, y28_2, y28_3, y28_4, y28_5, y28_6, y28_7⟩ := blk8 BK215.out))
   go_meet
   case rel => exact ⟨_, (decide ((l0_4.length : Int) > 8)), rs, H', ⟨by first | omega | exact Nat.le_refl _⟩, ⟨bk BK215.out⟩, ⟨bl⟩⟩
  have H' := am H; clear H
  obtain ⟨z29_0, z29_1, z29_2, z29_3, z29_4, z29_5, z29_6, z29_7, y29_0, y29_1, y29_2, y29_3, y29_4, y29_5, y29_6, y29_7⟩ := blk8 BK215.out
  go_wp2_with (first | (refine gc 57 (some 8) Tryz.func57 (spec_l07Name.calls _ _ _ _ A4.out) ?_; rintro e w30 ⟨rfl, hb⟩; refine ⟨_, rfl, ?_⟩; replace BK215 := am (bkb BK215.out hb); replace HB := am (below_step bl hb); clear hb))
  go_meet
  case rel => exact ⟨_, (true), rs, H', ⟨by first | omega | exact Nat.le_refl _⟩, ⟨bk BK215.out⟩, ⟨bl⟩⟩
 case rest =>
  clear HC2
  obtain ⟨kq, x43_1, rfl, HA, HJ1, BK215, HB⟩ := hcut
  cases kq with
  | zero => exact absurd HA.out (by simp [spec_ProductRight.j0])
  | succ kj1 =>
   have H := HA.out
   clear HA
   simp only [spec_ProductRight.j0] at H
   replace H := iT H; rcases H with ⟨rfl, H⟩ | ⟨rfl, H⟩
   ·obtain rfl := Option.some.inj H
    go_wp2
    go_ret
    exact ⟨er, bl⟩
   generalize h_ : (([] : List ByteArray)) = y217 at H
   have Ny217 := am h_.symm; clear h_
   revert H; refine i0 fun c32 H => ?_
   have LMc32 := am c32; clear c32
   generalize h_ : (y217 ++ l0_2) = y220 at H
   have Ny220 := am h_.symm; clear h_
   revert H; refine i0 fun c33 H => ?_
   have LMc33 := am c33; clear c33
   generalize h_ : (y220 ++ l0_3) = y223 at H
   have Ny223 := am h_.symm; clear h_
   have H' := am H; clear H
   try go_wp2
   have n0_ := am (blk_drew BK215.out)
   have n1_ := am (below_drew1 HB.out)
   clear BK215
   clear HB
   have BK215 := n0_
   have HB := n1_
   clear n0_ n1_
   refine start_ (n := 8) (S := fun w' => w'.cell? ⟨gb215, 0, none⟩ = some (.string a0_0) ∧ w'.cell? ⟨gb215, 1, none⟩ = some (.int .i64 a0_1) ∧ w'.cell? ⟨gb215, 2, none⟩ = some (.slice A0_2 l0_2.length c0_2) ∧ w'.cell? ⟨gb215, 3, none⟩ = some (.slice A0_3 l0_3.length c0_3) ∧ w'.cell? ⟨gb215, 4, none⟩ = some (.slice A0_4 l0_4.length c0_4) ∧ w'.cell? ⟨gb215, 5, none⟩ = some (.slice A0_5 l0_5.length c0_5) ∧ w'.cell? ⟨gb215, 6, none⟩ = some (.slice A0_6 l0_6.length c0_6) ∧ w'.cell? ⟨gb215, 7, none⟩ = some (.slice A0_7 l0_7.length c0_7)) (ds := []) #[F_, F_, F_, F_, F_, F_, F_, F_] (by kernel_rfl) rfl rfl ⟨(blk_cell BK215.out 0).trans rfl, (blk_cell BK215.out 1).trans rfl, (blk_cell BK215.out 2).trans rfl, (blk_cell BK215.out 3).trans rfl, (blk_cell BK215.out 4).trans rfl, (blk_cell BK215.out 5).trans rfl, (blk_cell BK215.out 6).trans rfl, (blk_cell BK215.out 7).trans rfl⟩ (fun hHeld => ?_); refine with_tabW spec_ProductRight.tab3 spec_ProductRight.bits3 (fun HT_ HW_ => ?_)
   generalize wc.drew = w34 at BK215 HB hHeld ⊢
   refine pv 1 45 ?_
   refine pv 4 48 ?_
   refine tv8 2 46 hHeld ?_
   refine tv8 5 49 hHeld ?_
   refine ov 0 44 (fun K hK => ?_)
   refine Kd.R_lit_step Kd.string _ 9 ?hg (N := 44) ?hd (xs := ([] : List ByteArray)) (inner := []) (ok := fun _ => True) (okp := fun _ => True) ?hr ?hp (fun _ hk => hk) trivial (Below.refl _ _) (Nat.le_refl _) (by simp) ?_; (case hd => rfl); (case hg => rfl); (case hr => first | (go_simp; done) | (go_simp; rfl)); (case hp => exact (Reps.none _ _))
   intro v218 w35 ho36 hb hg_ hnew_
   clear hg_ hnew_
   (first | rw [← Ny217.out] at ho36 | (simp only [Int.reduceToNat] at ho36; rw [← Ny217.out] at ho36))
   have n0_ := am (Kd.R_lower ho36 (below_size bl))
   have n1_ := am (bkb BK215.out hb)
   have n2_ := am (below_step bl hb)
   clear BK215
   clear HB
   have HO219 := n0_
   have BK215 := n1_
   have HB := n2_
   clear n0_ n1_ n2_
   clear hb ho36
   refine hK.out _ _ (cel8 BK215.out) (fun hHeld => ?_)
   clear hK K
   refine norm_ (a' := ?_) ?_ ?_
   rotate_left
   ·show Act.put _ (some 44) _ = _
    simp only [Act.put, z1, z2, z3, i64_w, i32_w]
    rfl
   refine ov 3 47 (fun K hK => ?_)
   refine Kd.R_append_rows_step Kd.string (w0 := w) w.heap.size (by rfl) (.tmp 44) (.tmp 46) 22 9 (.string ⟨#[]⟩) 16 rfl Tryz.underlying22 info9 rfl (by decide) (by omega) v218 y217 l0_2 _ _ _ (fun _ => True) (fun _ => False) rfl rfl ?aO ?aR (fun _ _ h => h) (fun _ h => h.elim) ?aF ?aB ?aS ?aL ?_
   (case aR => repeat (first | exact (Kd.C_below HR0_2.out HB.out) | (with_reducible refine Kd.C_alloc ?_ _) | (with_reducible refine Kd.C_drewN ?_ _) | (with_reducible refine Kd.C_drew ?_)))
   (case aB => exact bl)
   (case aF => exact (fun _ _ => trivial))
   (case aO => exact (kr HO219.out))
   (case aS => exact (below_size bl))
   (case aL => have := LMc32.out; omega)
   intro v221 w37 ho hb hg hat
   rw [← Ny220.out] at ho
   have n0_ := am (blk_grown (g := gb215) (o := .cells #[.string a0_0, .int .i64 a0_1, .slice A0_2 l0_2.length c0_2, .slice A0_3 l0_3.length c0_3, .slice A0_4 l0_4.length c0_4, .slice A0_5 l0_5.length c0_5, .slice A0_6 l0_6.length c0_6, .slice A0_7 l0_7.length c0_7] 32 (0, 0)) (bk BK215.out) hg (Kd.R_ne HO219.out BK215.out (by decide)))
   have n1_ := am (hb)
   have n2_ := am (ho)
   clear BK215
   clear HB
   clear HO219
   have BK215 := n0_
   have HB := n1_
   have HO222 := n2_
   clear n0_ n1_ n2_
   clear ho hb hg hat
   refine hK.out _ _ (cel8 BK215.out) (fun hHeld => ?_)
   clear hK K
   refine norm_ (a' := ?_) ?_ ?_
   rotate_left
   ·show Act.put _ (some 47) _ = _
    simp only [Act.put, z1, z2, z3, i64_w, i32_w]
    rfl
   refine ov 6 50 (fun K hK => ?_)
   refine Kd.R_append_rows_step Kd.string (w0 := w) w.heap.size (by rfl) (.tmp 47) (.tmp 49) 22 9 (.string ⟨#[]⟩) 16 rfl Tryz.underlying22 info9 rfl (by decide) (by omega) v221 y220 l0_3 _ _ _ (fun _ => True) (fun _ => False) rfl rfl ?aO ?aR (fun _ _ h => h) (fun _ h => h.elim) ?aF ?aB ?aS ?aL ?_
   (case aR => repeat (first | exact (Kd.C_below HR0_3.out HB.out) | (with_reducible refine Kd.C_alloc ?_ _) | (with_reducible refine Kd.C_drewN ?_ _) | (with_reducible refine Kd.C_drew ?_)))
   (case aB => exact bl)
   (case aF => exact (fun _ _ => trivial))
   (case aO => exact (kr HO222.out))
   (case aS => exact (below_size bl))
   (case aL => have := LMc33.out; omega)
   intro v224 w38 ho hb hg hat
   rw [← Ny223.out] at ho
   have n0_ := am (blk_grown (g := gb215) (o := .cells #[.string a0_0, .int .i64 a0_1, .slice A0_2 l0_2.length c0_2, .slice A0_3 l0_3.length c0_3, .slice A0_4 l0_4.length c0_4, .slice A0_5 l0_5.length c0_5, .slice A0_6 l0_6.length c0_6, .slice A0_7 l0_7.length c0_7] 32 (0, 0)) (bk BK215.out) hg (Kd.R_ne HO222.out BK215.out (by decide)))
   have n1_ := am (hb)
   have n2_ := am (ho)
   clear BK215
   clear HB
   clear HO222
   have BK215 := n0_
   have HB := n1_
   have HO225 := n2_
   clear n0_ n1_ n2_
   clear ho hb hg hat
   refine hK.out _ _ (cel8 BK215.out) (fun hHeld => ?_)
   clear hK K
   refine norm_ (a' := ?_) ?_ ?_
   rotate_left
   ·show Act.put _ (some 50) _ = _
    simp only [Act.put, z1, z2, z3, i64_w, i32_w]
    rfl
   refine pv 7 3 ?_
   refine done_ (done_of HT_.out (by kernel_rfl)) ?_
   try go_wp2
   go_loopg [3, 4] kj1 (fun kq v3 v4 w' => ∃ (x3_2 : List ByteArray) (x4_2 : Int), v4 = .int .i64 x4_2 ∧ Aside0 (spec_ProductRight.l0 kq x3_2 x4_2 a0_0 a0_1 l0_2 l0_3 l0_4 l0_5 l0_6 l0_7 = some r) ∧ Aside0 (kq ≤ kj1) ∧ Aside0 (Kd.R Kd.string 9 w' w.heap.size (fun _ => True) v3 x3_2) ∧ Aside0 (w'.heap[gb215]? = some (.cells #[.string a0_0, .int .i64 a0_1, (.slice A0_2 l0_2.length c0_2), (.slice A0_3 l0_3.length c0_3), (.slice A0_4 l0_4.length c0_4), (.slice A0_5 l0_5.length c0_5), (.slice A0_6 l0_6.length c0_6), (.slice A0_7 l0_7.length c0_7)] 32 (0, 0))) ∧ Aside0 (Below w.heap.size w w'))
   case atStart => exact ⟨(y223), (0), rs, H', ⟨Nat.le_refl _⟩, ⟨kr HO225.out⟩, ⟨bk BK215.out⟩, ⟨bl⟩⟩
   case round =>
    clear H'
    try clear c32; try clear c33
    obtain ⟨x3_2, x4_2, rfl, HA, HK2, HO_3, BK215, HB⟩ := hrel
    cases gk with
    | zero => exact absurd HA.out (by simp [spec_ProductRight.l0])
    | succ k2 =>
     have H := HA.out
     clear HA
     simp only [spec_ProductRight.l0] at H
     revert H; refine iDb (fun c39b0 H => ?_) fun c39b0 H => ?_
     ·revert H; refine i1 fun c40b0 H => ?_
      revert H; refine i0 fun c41 H => ?_
      have LMc41 := am c41; clear c41
      generalize h_ : (x3_2 ++ [(rd_T75 l0_4 x4_2).f0]) = y227 at H
      have Ny227 := am h_.symm; clear h_
      revert H; refine bj fun t231 A42 H => ?_
      replace H := iT H; rcases H with ⟨rfl, H⟩ | ⟨rfl, H⟩
      ·have H' := am H; clear H
       obtain ⟨z44_0, z44_1, z44_2, z44_3, z44_4, z44_5, z44_6, z44_7, y44_0, y44_1, y44_2, y44_3, y44_4, y44_5, y44_6, y44_7⟩ := blk8 BK215.out
       have p226 : 0 ≤ (x4_2 : Int) := ode
       have q226 : x4_2 < (l0_4.length : Int) := ode
       obtain ⟨ad226, e226, hx226_0, hx226_1, hx226_2, hx226_3⟩ := at_T75 HR0_4.out x4_2 p226 q226
       cases e226
       obtain ⟨hx226_0, hx226_1, hx226_2, hx226_3⟩ := hb4 HB.out hx226_0 hx226_1 hx226_2 hx226_3
       replace p226 := eq_true p226
       replace q226 := eq_true q226
       go_wp2_with (first | ((with_reducible refine gate_builtin (b := .append) (xs := #[.tmp 58, .tmp 65]) rfl ?_); (try (refine gate_guard (by rfl) ?_; dsimp only)); at_builtin; refine Kd.R_append Kd.string (w0 := w) w.heap.size rfl (.tmp 58) (.tmp 65) 22 9 (.string ⟨#[]⟩) 16 rfl Tryz.underlying22 info9 rfl (by decide) (by omega) u3 x3_2 ((rd_T75 l0_4 x4_2).f0) [.string ((rd_T75 l0_4 x4_2).f0)] (fun _ => True) (fun _ => False) rfl rfl ?aP (fun _ hk => hk.elim) ?aF ?aO ?aB ?aS ?aL ?_; (case aP => exact rfl); (case aB => exact bl); (case aF => exact (fun _ _ => trivial)); (case aO => exact (kr HO_3.out)); (case aS => exact (below_size bl)); (case aL => have := LMc41.out; omega); intro v228 w45 ho hb hg hat; rw [← Ny227.out] at ho; have n0_ := am (blk_grown (g := gb215) (o := .cells #[.string a0_0, .int .i64 a0_1, .slice A0_2 l0_2.length c0_2, .slice A0_3 l0_3.length c0_3, .slice (some ad226) l0_4.length c0_4, .slice A0_5 l0_5.length c0_5, .slice A0_6 l0_6.length c0_6, .slice A0_7 l0_7.length c0_7] 32 (0, 0)) (bk BK215.out) hg (Kd.R_ne HO_3.out BK215.out (by decide))); have n1_ := am (hb); have n2_ := am (ho); clear BK215; clear HB; clear HO_3; have BK215 := n0_; have HB := n1_; have HO229 := n2_; clear n0_ n1_ n2_; clear ho hb hg hat; obtain ⟨z46_0, z46_1, z46_2, z46_3, z46_4, z46_5, z46_6, z46_7, y46_0, y46_1, y46_2, y46_3, y46_4, y46_5, y46_6, y46_7⟩ := blk8 BK215.out; have p230 : 0 ≤ (x4_2 : Int) := ode; have q230 : x4_2 < (l0_4.length : Int) := ode; obtain ⟨ad230, e230, hx230_0, hx230_1, hx230_2, hx230_3⟩ := at_T75 HR0_4.out x4_2 p230 q230; obtain rfl : ad226 = ad230 := (by injection e230); replace hx230_0 := hbc HB.out hx230_0; replace hx230_1 := hbc HB.out hx230_1; replace hx230_2 := hbc HB.out hx230_2; replace hx230_3 := hbc HB.out hx230_3; replace p230 := eq_true p230; replace q230 := eq_true q230) | (refine gc 58 (some 72) Tryz.func58 (spec_l07ParamRight.calls _ _ _ _ _ _ _ A42.out) ?_; rintro e w47 ⟨rfl, hb⟩; refine ⟨_, rfl, ?_⟩; replace HO229 := am (rb HO229.out hb); replace BK215 := am (bkb BK215.out hb); replace HB := am (below_step bl hb); clear hb))
       go_roundg k2
       case measure => have := HJ1.out; have := HK2.out; omega
       case rel => exact ⟨(y227), (wrap64 (x4_2 + 1)), rs, H', ⟨by have := HJ1.out; have := HK2.out; omega⟩, ⟨kr HO229.out⟩, ⟨bk BK215.out⟩, ⟨bl⟩⟩
      obtain rfl := Option.some.inj H
      obtain ⟨z48_0, z48_1, z48_2, z48_3, z48_4, z48_5, z48_6, z48_7, y48_0, y48_1, y48_2, y48_3, y48_4, y48_5, y48_6, y48_7⟩ := blk8 BK215.out
      have p226 : 0 ≤ (x4_2 : Int) := ode
      have q226 : x4_2 < (l0_4.length : Int) := ode
      obtain ⟨ad226, e226, hx226_0, hx226_1, hx226_2, hx226_3⟩ := at_T75 HR0_4.out x4_2 p226 q226
      cases e226
      obtain ⟨hx226_0, hx226_1, hx226_2, hx226_3⟩ := hb4 HB.out hx226_0 hx226_1 hx226_2 hx226_3
      replace p226 := eq_true p226
      replace q226 := eq_true q226
      go_wp2_with (first | ((with_reducible refine gate_builtin (b := .append) (xs := #[.tmp 58, .tmp 65]) rfl ?_); (try (refine gate_guard (by rfl) ?_; dsimp only)); at_builtin; refine Kd.R_append Kd.string (w0 := w) w.heap.size rfl (.tmp 58) (.tmp 65) 22 9 (.string ⟨#[]⟩) 16 rfl Tryz.underlying22 info9 rfl (by decide) (by omega) u3 x3_2 ((rd_T75 l0_4 x4_2).f0) [.string ((rd_T75 l0_4 x4_2).f0)] (fun _ => True) (fun _ => False) rfl rfl ?aP (fun _ hk => hk.elim) ?aF ?aO ?aB ?aS ?aL ?_; (case aP => exact rfl); (case aB => exact bl); (case aF => exact (fun _ _ => trivial)); (case aO => exact (kr HO_3.out)); (case aS => exact (below_size bl)); (case aL => have := LMc41.out; omega); intro v228 w49 ho hb hg hat; rw [← Ny227.out] at ho; have n0_ := am (blk_grown (g := gb215) (o := .cells #[.string a0_0, .int .i64 a0_1, .slice A0_2 l0_2.length c0_2, .slice A0_3 l0_3.length c0_3, .slice (some ad226) l0_4.length c0_4, .slice A0_5 l0_5.length c0_5, .slice A0_6 l0_6.length c0_6, .slice A0_7 l0_7.length c0_7] 32 (0, 0)) (bk BK215.out) hg (Kd.R_ne HO_3.out BK215.out (by decide))); have n1_ := am (hb); have n2_ := am (ho); clear BK215; clear HB; clear HO_3; have BK215 := n0_; have HB := n1_; have HO229 := n2_; clear n0_ n1_ n2_; clear ho hb hg hat; obtain ⟨z50_0, z50_1, z50_2, z50_3, z50_4, z50_5, z50_6, z50_7, y50_0, y50_1, y50_2, y50_3, y50_4, y50_5, y50_6, y50_7⟩ := blk8 BK215.out; have p230 : 0 ≤ (x4_2 : Int) := ode; have q230 : x4_2 < (l0_4.length : Int) := ode; obtain ⟨ad230, e230, hx230_0, hx230_1, hx230_2, hx230_3⟩ := at_T75 HR0_4.out x4_2 p230 q230; obtain rfl : ad226 = ad230 := (by injection e230); replace hx230_0 := hbc HB.out hx230_0; replace hx230_1 := hbc HB.out hx230_1; replace hx230_2 := hbc HB.out hx230_2; replace hx230_3 := hbc HB.out hx230_3; replace p230 := eq_true p230; replace q230 := eq_true q230) | (refine gc 58 (some 72) Tryz.func58 (spec_l07ParamRight.calls _ _ _ _ _ _ _ A42.out) ?_; rintro e w51 ⟨rfl, hb⟩; refine ⟨_, rfl, ?_⟩; replace HO229 := am (rb HO229.out hb); replace BK215 := am (bkb BK215.out hb); replace HB := am (below_step bl hb); clear hb))
      go_ret
      exact ⟨er, bl⟩
     have H' := am H; clear H
     obtain ⟨z52_0, z52_1, z52_2, z52_3, z52_4, z52_5, z52_6, z52_7, y52_0, y52_1, y52_2, y52_3, y52_4, y52_5, y52_6, y52_7⟩ := blk8 BK215.out
     go_wp2
     go_loopg [5] k2 (fun kq v5 w' => ∃ (x5_3 : Int), v5 = .int .i64 x5_3 ∧ Aside0 (spec_ProductRight.l1 kq x3_2 x5_3 a0_0 a0_1 l0_2 l0_3 l0_4 l0_5 l0_6 l0_7 = some r) ∧ Aside0 (kq ≤ k2) ∧ Aside0 (Kd.R Kd.string 9 w' w.heap.size (fun _ => True) u3 x3_2) ∧ Aside0 (w'.heap[gb215]? = some (.cells #[.string a0_0, .int .i64 a0_1, (.slice A0_2 l0_2.length c0_2), (.slice A0_3 l0_3.length c0_3), (.slice A0_4 l0_4.length c0_4), (.slice A0_5 l0_5.length c0_5), (.slice A0_6 l0_6.length c0_6), (.slice A0_7 l0_7.length c0_7)] 32 (0, 0))) ∧ Aside0 (Below w.heap.size w w'))
     case atStart => exact ⟨(0), rs, H', ⟨Nat.le_refl _⟩, ⟨kr HO_3.out⟩, ⟨bk BK215.out⟩, ⟨bl⟩⟩
     case round =>
      clear H'
      try clear c32; try clear c33; try clear c39b0; try clear z52_0 z52_1 z52_2 z52_3 z52_4 z52_5 z52_6 z52_7; try clear y52_0 y52_1 y52_2 y52_3 y52_4 y52_5 y52_6 y52_7
      obtain ⟨x5_3, rfl, HA, HK3, HO_3, BK215, HB⟩ := hrel
      cases gk with
      | zero => exact absurd HA.out (by simp [spec_ProductRight.l1])
      | succ k3 =>
       have H := HA.out
       clear HA
       simp only [spec_ProductRight.l1] at H
       revert H; refine iDb (fun c53b0 H => ?_) fun c53b0 H => ?_
       ·revert H; refine i1 fun c54b0 H => ?_
        revert H; refine bj fun t236 A55 H => ?_
        replace H := iT H; rcases H with ⟨rfl, H⟩ | ⟨rfl, H⟩
        ·have c57b0 := eq_true (ode : 0 ≤ x5_3)
         revert H; refine i2 fun c58b0 c58b1 H => ?_
         generalize h_ : (x3_2.take (x5_3 : Int).toNat) = y237 at H
         have Ny237 := am h_.symm; clear h_
         revert H; refine bj fun t242 A59 H => ?_
         replace H := iT H; rcases H with ⟨rfl, H⟩ | ⟨rfl, H⟩
         ·obtain rfl := Option.some.inj H
          obtain ⟨Ao61, co61, eo61⟩ := Kd.R_slice HO_3.out
          subst eo61
          try go_wp2
          have n0_ := am (Kd.R_drew HO_3.out)
          have n1_ := am (blk_drew BK215.out)
          have n2_ := am (below_drew1 HB.out)
          clear HO_3
          clear BK215
          clear HB
          have HO_3 := n0_
          have BK215 := n1_
          have HB := n2_
          clear n0_ n1_ n2_
          have p235 : 0 ≤ (x5_3 : Int) := ode
          have q235 : x5_3 < (x3_2.length : Int) := ode
          obtain ⟨ad235, e235, hx235_0⟩ := Kd.at_string (Kd.R_reads' HO_3.out).2.2 x5_3 p235 q235
          cases e235
          replace p235 := eq_true p235
          replace q235 := eq_true q235
          have p241 : 0 ≤ (x5_3 : Int) := ode
          have q241 : x5_3 < (x3_2.length : Int) := ode
          obtain ⟨ad241, e241, hx241_0⟩ := Kd.at_string (Kd.R_reads' HO_3.out).2.2 x5_3 p241 q241
          obtain rfl : ad235 = ad241 := (by injection e241)
          replace p241 := eq_true p241
          replace q241 := eq_true q241
          refine start_ (n := 16) (S := fun w' => w'.cell? (ad235.add (x5_3).toNat) = some (.string (rdOf ByteArray.empty x3_2 x5_3)) ∧ w'.cell? (ad235.add (x5_3).toNat) = some (.string (rdOf ByteArray.empty x3_2 x5_3))) (ds := []) #[F_, F_, F_, F_, F_, F_, F_, F_, F_, F_, F_, F_, F_, F_, F_, F_] (by kernel_rfl) rfl rfl ⟨hx235_0, hx241_0⟩ (fun hHeld => ?_); refine with_tabW spec_ProductRight.tab13 spec_ProductRight.bits13 (fun HT_ HW_ => ?_)
          generalize wr.drew = w62 at HO_3 BK215 HB hx235_0 hx241_0 hHeld ⊢
          refine pv 0 80 ?_
          refine pv 1 81 ?_
          refine pv 2 82 ?_
          refine tv2 3 83 hHeld ?_
          refine ov 4 84 (fun K hK => ?_)
          refine gk Tryz.func57 (spec_l07Name.calls _ _ _ _ A55.out) ?_
          rintro e w63 ⟨rfl, hb⟩
          have HS0_ := (hb.cell (World.block_lt_of_cell? _ _ (hHeld.1))).trans (hHeld.1)
          have HS1_ := (hb.cell (World.block_lt_of_cell? _ _ (hHeld.2))).trans (hHeld.2)
          refine ⟨_, rfl, ?_⟩
          have n0_ := am (rb HO_3.out hb)
          have n1_ := am (bkb BK215.out hb)
          have n2_ := am (below_step bl hb)
          clear HO_3
          clear BK215
          clear HB
          have HO_3 := n0_
          have BK215 := n1_
          have HB := n2_
          clear n0_ n1_ n2_
          skip
          skip
          skip
          skip
          have q64 : (x5_3 : Int) ≤ ((x3_2.length : Int) : Int) := ode
          obtain ⟨i064, hi064, _, hsz64, _⟩ := info_parts info9
          have hroom64 : x3_2.length ≤ co61 := (Kd.R_reads' HO_3.out).2.1
          have hC64 : Kd.C Kd.string _ (some ad235) x3_2.length x3_2 := (Kd.R_reads' HO_3.out).2.2
          have hcut64 := cut_to (P := Tryz.prog) 22 9 .i64 Tryz.underlying22 hi064 (some ad235) x3_2.length co61 x5_3 (ode) q64 hroom64
          have hr64 := Kd.C_take (m := (x5_3 : Int).toNat) hC64 (by omega)
          have hy64 : y237.length = (x5_3 : Int).toNat := (by rw [Ny237.out, List.length_take]; omega)
          rw [← Ny237.out] at hr64
          rw [← hy64] at hcut64
          have HR240 := am hr64
          have HC240 := am (show y237.length ≤ co61 from by omega)
          clear hr64 hC64 hroom64 hi064 hsz64
          have KY64 := am hy64; clear hy64
          have KL64 := am (show (x5_3 : Int).toNat ≤ x3_2.length from by omega)
          replace q64 := eq_true q64
          refine hK.out _ _ ⟨HS0_, HS1_⟩ (fun hHeld => ?_)
          clear hK K
          refine norm_ (a' := ?_) ?_ ?_
          rotate_left
          ·show Act.put _ (some 84) _ = _
           simp only [Act.put, z1, z2, z3, i64_w, i32_w]
           rfl
          refine pv 5 85 ?_
          refine pv 6 86 ?_
          refine pv 7 87 ?_
          refine pv 8 88 ?_
          refine pv 9 89 ?_
          refine pv 10 90 ?_
          refine pv 11 91 ?_
          refine pv 12 92 ?_
          refine tv2 13 93 hHeld ?_
          refine ov 14 94 (fun K hK => ?_)
          refine gk Tryz.func59 (spec_l05In.calls _ _ _ _ _ _ _ ?side1 ?side2 A59.out) ?_
          (case side1 => repeat (first | exact (by repeat (first | (with_reducible exact HR240.out) | (with_reducible refine Kd.C_alloc ?_ _) | (with_reducible refine Kd.C_drewN ?_ _) | (with_reducible refine Kd.C_drew ?_) | exact HR240.out)) | (with_reducible refine Kd.C_alloc ?_ _) | (with_reducible refine Kd.C_drewN ?_ _) | (with_reducible refine Kd.C_drew ?_)))
          (case side2 => exact HC240.out)
          rintro e w' ⟨rfl, ⟨nd, rfl⟩⟩
          refine ⟨_, rfl, ?_⟩
          refine hK.out _ _ ⟨hHeld.1, hHeld.2⟩ (fun hHeld => ?_)
          clear hK K
          refine norm_ (a' := ?_) ?_ ?_
          rotate_left
          ·show Act.put _ (some 94) _ = _
           simp only [Act.put, z1, z2, z3, i64_w, i32_w]
           rfl
          refine pv 15 95 ?_
          refine done_ (done_of HT_.out (by kernel_rfl)) ?_
          try go_wp2
          go_ret
          exact ⟨er, bl⟩
         have H' := am H; clear H
         obtain ⟨Ao65, co65, eo65⟩ := Kd.R_slice HO_3.out
         subst eo65
         try go_wp2
         have n0_ := am (Kd.R_drew HO_3.out)
         have n1_ := am (blk_drew BK215.out)
         have n2_ := am (below_drew1 HB.out)
         clear HO_3
         clear BK215
         clear HB
         have HO_3 := n0_
         have BK215 := n1_
         have HB := n2_
         clear n0_ n1_ n2_
         have p235 : 0 ≤ (x5_3 : Int) := ode
         have q235 : x5_3 < (x3_2.length : Int) := ode
         obtain ⟨ad235, e235, hx235_0⟩ := Kd.at_string (Kd.R_reads' HO_3.out).2.2 x5_3 p235 q235
         cases e235
         replace p235 := eq_true p235
         replace q235 := eq_true q235
         have p241 : 0 ≤ (x5_3 : Int) := ode
         have q241 : x5_3 < (x3_2.length : Int) := ode
         obtain ⟨ad241, e241, hx241_0⟩ := Kd.at_string (Kd.R_reads' HO_3.out).2.2 x5_3 p241 q241
         obtain rfl : ad235 = ad241 := (by injection e241)
         replace p241 := eq_true p241
         replace q241 := eq_true q241
         refine start_ (n := 16) (S := fun w' => w'.cell? (ad235.add (x5_3).toNat) = some (.string (rdOf ByteArray.empty x3_2 x5_3)) ∧ w'.cell? (ad235.add (x5_3).toNat) = some (.string (rdOf ByteArray.empty x3_2 x5_3))) (ds := []) #[F_, F_, F_, F_, F_, F_, F_, F_, F_, F_, F_, F_, F_, F_, F_, F_] (by kernel_rfl) rfl rfl ⟨hx235_0, hx241_0⟩ (fun hHeld => ?_); refine with_tabW spec_ProductRight.tab13 spec_ProductRight.bits13 (fun HT_ HW_ => ?_)
         generalize wr.drew = w66 at HO_3 BK215 HB hx235_0 hx241_0 hHeld ⊢
         refine pv 0 80 ?_
         refine pv 1 81 ?_
         refine pv 2 82 ?_
         refine tv2 3 83 hHeld ?_
         refine ov 4 84 (fun K hK => ?_)
         refine gk Tryz.func57 (spec_l07Name.calls _ _ _ _ A55.out) ?_
         rintro e w67 ⟨rfl, hb⟩
         have HS0_ := (hb.cell (World.block_lt_of_cell? _ _ (hHeld.1))).trans (hHeld.1)
         have HS1_ := (hb.cell (World.block_lt_of_cell? _ _ (hHeld.2))).trans (hHeld.2)
         refine ⟨_, rfl, ?_⟩
         have n0_ := am (rb HO_3.out hb)
         have n1_ := am (bkb BK215.out hb)
         have n2_ := am (below_step bl hb)
         clear HO_3
         clear BK215
         clear HB
         have HO_3 := n0_
         have BK215 := n1_
         have HB := n2_
         clear n0_ n1_ n2_
         skip
         skip
         skip
         skip
         have q68 : (x5_3 : Int) ≤ ((x3_2.length : Int) : Int) := ode
         obtain ⟨i068, hi068, _, hsz68, _⟩ := info_parts info9
         have hroom68 : x3_2.length ≤ co65 := (Kd.R_reads' HO_3.out).2.1
         have hC68 : Kd.C Kd.string _ (some ad235) x3_2.length x3_2 := (Kd.R_reads' HO_3.out).2.2
         have hcut68 := cut_to (P := Tryz.prog) 22 9 .i64 Tryz.underlying22 hi068 (some ad235) x3_2.length co65 x5_3 (ode) q68 hroom68
         have hr68 := Kd.C_take (m := (x5_3 : Int).toNat) hC68 (by omega)
         have hy68 : y237.length = (x5_3 : Int).toNat := (by rw [Ny237.out, List.length_take]; omega)
         rw [← Ny237.out] at hr68
         rw [← hy68] at hcut68
         have HR240 := am hr68
         have HC240 := am (show y237.length ≤ co65 from by omega)
         clear hr68 hC68 hroom68 hi068 hsz68
         have KY68 := am hy68; clear hy68
         have KL68 := am (show (x5_3 : Int).toNat ≤ x3_2.length from by omega)
         replace q68 := eq_true q68
         refine hK.out _ _ ⟨HS0_, HS1_⟩ (fun hHeld => ?_)
         clear hK K
         refine norm_ (a' := ?_) ?_ ?_
         rotate_left
         ·show Act.put _ (some 84) _ = _
          simp only [Act.put, z1, z2, z3, i64_w, i32_w]
          rfl
         refine pv 5 85 ?_
         refine pv 6 86 ?_
         refine pv 7 87 ?_
         refine pv 8 88 ?_
         refine pv 9 89 ?_
         refine pv 10 90 ?_
         refine pv 11 91 ?_
         refine pv 12 92 ?_
         refine tv2 13 93 hHeld ?_
         refine ov 14 94 (fun K hK => ?_)
         refine gk Tryz.func59 (spec_l05In.calls _ _ _ _ _ _ _ ?side1 ?side2 A59.out) ?_
         (case side1 => repeat (first | exact (by repeat (first | (with_reducible exact HR240.out) | (with_reducible refine Kd.C_alloc ?_ _) | (with_reducible refine Kd.C_drewN ?_ _) | (with_reducible refine Kd.C_drew ?_) | exact HR240.out)) | (with_reducible refine Kd.C_alloc ?_ _) | (with_reducible refine Kd.C_drewN ?_ _) | (with_reducible refine Kd.C_drew ?_)))
         (case side2 => exact HC240.out)
         rintro e w' ⟨rfl, ⟨nd, rfl⟩⟩
         refine ⟨_, rfl, ?_⟩
         refine hK.out _ _ ⟨hHeld.1, hHeld.2⟩ (fun hHeld => ?_)
         clear hK K
         refine norm_ (a' := ?_) ?_ ?_
         rotate_left
         ·show Act.put _ (some 94) _ = _
          simp only [Act.put, z1, z2, z3, i64_w, i32_w]
          rfl
         refine pv 15 95 ?_
         refine done_ (done_of HT_.out (by kernel_rfl)) ?_
         try go_wp2
         go_roundg k3
         case measure => have := HJ1.out; have := HK2.out; have := HK3.out; omega
         case rel => exact ⟨(wrap64 (x5_3 + 1)), rs, H', ⟨by have := HJ1.out; have := HK2.out; have := HK3.out; omega⟩, ⟨kr HO_3.out⟩, ⟨bk BK215.out⟩, ⟨bl⟩⟩
        obtain rfl := Option.some.inj H
        obtain ⟨Ao69, co69, eo69⟩ := Kd.R_slice HO_3.out
        subst eo69
        try go_wp2
        have n0_ := am (Kd.R_drew HO_3.out)
        have n1_ := am (blk_drew BK215.out)
        have n2_ := am (below_drew1 HB.out)
        clear HO_3
        clear BK215
        clear HB
        have HO_3 := n0_
        have BK215 := n1_
        have HB := n2_
        clear n0_ n1_ n2_
        have p235 : 0 ≤ (x5_3 : Int) := ode
        have q235 : x5_3 < (x3_2.length : Int) := ode
        obtain ⟨ad235, e235, hx235_0⟩ := Kd.at_string (Kd.R_reads' HO_3.out).2.2 x5_3 p235 q235
        cases e235
        replace p235 := eq_true p235
        replace q235 := eq_true q235
        refine start_ (n := 16) (S := fun w' => w'.cell? (ad235.add (x5_3).toNat) = some (.string (rdOf ByteArray.empty x3_2 x5_3))) (ds := []) #[F_, F_, F_, F_, F_, F_, F_, F_, F_, F_, F_, F_, F_, F_, F_, F_] (by kernel_rfl) rfl rfl (hx235_0) (fun hHeld => ?_); refine with_tabW spec_ProductRight.tab13 spec_ProductRight.bits13 (fun HT_ HW_ => ?_)
        generalize wr.drew = w70 at HO_3 BK215 HB hx235_0 hHeld ⊢
        refine pv 0 80 ?_
        refine pv 1 81 ?_
        refine pv 2 82 ?_
        refine take_ (i := 3) (N := some 83) (v := ?_) (a' := ?_) #[T_, T_, T_, T_, F_, F_, F_, F_, F_, F_, F_, F_, F_, F_, F_, F_] rfl rfl (take_ofW HT_.out HW_.out (by kernel_rfl)) (fun _ _ _ h => h) (Or.inl ⟨by rfl, ?_⟩) hHeld ?_ ?_
        rotate_left
        ·intro w' s0
         go_simp
         with_reducible rfl
        rotate_left
        ·simp only [Act.put, z1, z2, z3, i64_w, i32_w]
         rfl
        refine ov 4 84 (fun K hK => ?_)
        refine gk Tryz.func57 (spec_l07Name.calls _ _ _ _ A55.out) ?_
        rintro e w71 ⟨rfl, hb⟩
        have HS0_ := (hb.cell (World.block_lt_of_cell? _ _ (hHeld))).trans (hHeld)
        refine ⟨_, rfl, ?_⟩
        have n0_ := am (rb HO_3.out hb)
        have n1_ := am (bkb BK215.out hb)
        have n2_ := am (below_step bl hb)
        clear HO_3
        clear BK215
        clear HB
        have HO_3 := n0_
        have BK215 := n1_
        have HB := n2_
        clear n0_ n1_ n2_
        skip
        skip
        skip
        skip
        refine hK.out _ _ (HS0_) (fun hHeld => ?_)
        clear hK K
        refine norm_ (a' := ?_) ?_ ?_
        rotate_left
        ·show Act.put _ (some 84) _ = _
         simp only [Act.put, z1, z2, z3, i64_w, i32_w]
         rfl
        refine pv 5 85 ?_
        refine pv 6 86 ?_
        refine pure_ (i := 7) (N := some 87) (v := undef) (a' := ?_) #[T_, T_, T_, T_, T_, T_, T_, T_, F_, F_, F_, F_, F_, F_, F_, F_] rfl rfl (any_of HT_.out (by kernel_rfl)) (fun _ _ _ h => h) (Or.inr ⟨by rfl, rfl⟩) ?_ ?_
        rotate_left
        ·simp only [Act.put, z1, z2, z3, i64_w, i32_w]
         rfl
        refine pure_ (i := 8) (N := some 88) (v := undef) (a' := ?_) #[T_, T_, T_, T_, T_, T_, T_, T_, T_, F_, F_, F_, F_, F_, F_, F_] rfl rfl (any_of HT_.out (by kernel_rfl)) (fun _ _ _ h => h) (Or.inr ⟨by rfl, rfl⟩) ?_ ?_
        rotate_left
        ·simp only [Act.put, z1, z2, z3, i64_w, i32_w]
         rfl
        refine pure_ (i := 9) (N := some 89) (v := undef) (a' := ?_) #[T_, T_, T_, T_, T_, T_, T_, T_, T_, T_, F_, F_, F_, F_, F_, F_] rfl rfl (any_of HT_.out (by kernel_rfl)) (fun _ _ _ h => h) (Or.inr ⟨by rfl, rfl⟩) ?_ ?_
        rotate_left
        ·simp only [Act.put, z1, z2, z3, i64_w, i32_w]
         rfl
        refine pure_ (i := 10) (N := some 90) (v := undef) (a' := ?_) #[T_, T_, T_, T_, T_, T_, T_, T_, T_, T_, T_, F_, F_, F_, F_, F_] rfl rfl (any_of HT_.out (by kernel_rfl)) (fun _ _ _ h => h) (Or.inr ⟨by rfl, rfl⟩) ?_ ?_
        rotate_left
        ·simp only [Act.put, z1, z2, z3, i64_w, i32_w]
         rfl
        refine pure_ (i := 11) (N := some 91) (v := undef) (a' := ?_) #[T_, T_, T_, T_, T_, T_, T_, T_, T_, T_, T_, T_, F_, F_, F_, F_] rfl rfl (any_of HT_.out (by kernel_rfl)) (fun _ _ _ h => h) (Or.inr ⟨by rfl, rfl⟩) ?_ ?_
        rotate_left
        ·simp only [Act.put, z1, z2, z3, i64_w, i32_w]
         rfl
        refine pure_ (i := 12) (N := some 92) (v := undef) (a' := ?_) #[T_, T_, T_, T_, T_, T_, T_, T_, T_, T_, T_, T_, T_, F_, F_, F_] rfl rfl (any_of HT_.out (by kernel_rfl)) (fun _ _ _ h => h) (Or.inr ⟨by rfl, rfl⟩) ?_ ?_
        rotate_left
        ·simp only [Act.put, z1, z2, z3, i64_w, i32_w]
         rfl
        refine pure_ (i := 13) (N := some 93) (v := undef) (a' := ?_) #[T_, T_, T_, T_, T_, T_, T_, T_, T_, T_, T_, T_, T_, T_, F_, F_] rfl rfl (any_of HT_.out (by kernel_rfl)) (fun _ _ _ h => h) (Or.inr ⟨by rfl, rfl⟩) ?_ ?_
        rotate_left
        ·simp only [Act.put, z1, z2, z3, i64_w, i32_w]
         rfl
        refine pure_ (i := 14) (N := some 94) (v := undef) (a' := ?_) #[T_, T_, T_, T_, T_, T_, T_, T_, T_, T_, T_, T_, T_, T_, T_, F_] rfl rfl (any_of HT_.out (by kernel_rfl)) (fun _ _ _ h => h) (Or.inr ⟨by rfl, rfl⟩) ?_ ?_
        rotate_left
        ·simp only [Act.put, z1, z2, z3, i64_w, i32_w]
         rfl
        refine pv 15 95 ?_
        refine done_ (done_of HT_.out (by kernel_rfl)) ?_
        try go_wp2
        go_ret
        exact ⟨er, bl⟩
       revert H; refine bj fun t232 A72 H => ?_
       replace H := iT H; rcases H with ⟨rfl, H⟩ | ⟨rfl, H⟩
       ·revert H; refine bj fun t233 A74 H => ?_
        replace H := iT H; rcases H with ⟨rfl, H⟩ | ⟨rfl, H⟩
        ·revert H; refine bj fun t234 A76 H => ?_
         obtain rfl := Option.some.inj H
         obtain ⟨Ao77, co77, eo77⟩ := Kd.R_slice HO_3.out
         subst eo77
         obtain ⟨z78_0, z78_1, z78_2, z78_3, z78_4, z78_5, z78_6, z78_7, y78_0, y78_1, y78_2, y78_3, y78_4, y78_5, y78_6, y78_7⟩ := blk8 BK215.out
         go_wp2_with (first | (refine gc 60 (some 98) Tryz.func60 (spec_NodesRight.calls _ _ _ _ _ _ ?side1 ?side2 A72.out) ?_; (case side1 => exact cb HR0_5.out); (case side2 => exact HC0_5.out); rintro e w79 ⟨rfl, hb⟩; refine ⟨_, rfl, ?_⟩; replace HO_3 := am (rb HO_3.out hb); replace BK215 := am (bkb BK215.out hb); replace HB := am (below_step bl hb); clear hb; obtain ⟨z80_0, z80_1, z80_2, z80_3, z80_4, z80_5, z80_6, z80_7, y80_0, y80_1, y80_2, y80_3, y80_4, y80_5, y80_6, y80_7⟩ := blk8 BK215.out) | (go_at_call 60; (with_reducible refine (spec_NodesRight.calls _ _ _ _ _ _ ?side1 ?side2 A74.out).mono ?_); (case side1 => exact cb HR0_6.out); (case side2 => exact HC0_6.out); rintro e w81 ⟨rfl, hb⟩; replace HO_3 := am (rb HO_3.out hb); replace BK215 := am (bkb BK215.out hb); replace HB := am (below_step bl hb); clear hb; obtain ⟨z82_0, z82_1, z82_2, z82_3, z82_4, z82_5, z82_6, z82_7, y82_0, y82_1, y82_2, y82_3, y82_4, y82_5, y82_6, y82_7⟩ := blk8 BK215.out) | (go_at_call 60; (with_reducible refine (spec_NodesRight.calls _ _ _ _ _ _ ?side1 ?side2 A76.out).mono ?_); (case side1 => exact cb HR0_7.out); (case side2 => exact HC0_7.out); rintro e w83 ⟨rfl, hb⟩; replace HO_3 := am (rb HO_3.out hb); replace BK215 := am (bkb BK215.out hb); replace HB := am (below_step bl hb); clear hb))
         go_ret
         exact ⟨er, bl⟩
        obtain rfl := Option.some.inj H
        obtain ⟨Ao84, co84, eo84⟩ := Kd.R_slice HO_3.out
        subst eo84
        obtain ⟨z85_0, z85_1, z85_2, z85_3, z85_4, z85_5, z85_6, z85_7, y85_0, y85_1, y85_2, y85_3, y85_4, y85_5, y85_6, y85_7⟩ := blk8 BK215.out
        go_wp2_with (first | (refine gc 60 (some 98) Tryz.func60 (spec_NodesRight.calls _ _ _ _ _ _ ?side1 ?side2 A72.out) ?_; (case side1 => exact cb HR0_5.out); (case side2 => exact HC0_5.out); rintro e w86 ⟨rfl, hb⟩; refine ⟨_, rfl, ?_⟩; replace HO_3 := am (rb HO_3.out hb); replace BK215 := am (bkb BK215.out hb); replace HB := am (below_step bl hb); clear hb; obtain ⟨z87_0, z87_1, z87_2, z87_3, z87_4, z87_5, z87_6, z87_7, y87_0, y87_1, y87_2, y87_3, y87_4, y87_5, y87_6, y87_7⟩ := blk8 BK215.out) | (go_at_call 60; (with_reducible refine (spec_NodesRight.calls _ _ _ _ _ _ ?side1 ?side2 A74.out).mono ?_); (case side1 => exact cb HR0_6.out); (case side2 => exact HC0_6.out); rintro e w88 ⟨rfl, hb⟩; replace HO_3 := am (rb HO_3.out hb); replace BK215 := am (bkb BK215.out hb); replace HB := am (below_step bl hb); clear hb))
        go_ret
        exact ⟨er, bl⟩
       obtain rfl := Option.some.inj H
       obtain ⟨Ao89, co89, eo89⟩ := Kd.R_slice HO_3.out
       subst eo89
       obtain ⟨z90_0, z90_1, z90_2, z90_3, z90_4, z90_5, z90_6, z90_7, y90_0, y90_1, y90_2, y90_3, y90_4, y90_5, y90_6, y90_7⟩ := blk8 BK215.out
       go_wp2_with (first | (refine gc 60 (some 98) Tryz.func60 (spec_NodesRight.calls _ _ _ _ _ _ ?side1 ?side2 A72.out) ?_; (case side1 => exact cb HR0_5.out); (case side2 => exact HC0_5.out); rintro e w91 ⟨rfl, hb⟩; refine ⟨_, rfl, ?_⟩; replace HO_3 := am (rb HO_3.out hb); replace BK215 := am (bkb BK215.out hb); replace HB := am (below_step bl hb); clear hb))
       go_ret
       exact ⟨er, bl⟩

end Go.Proofs.YtodokfmmnihecaaGreatDoor.PFnExactEnvRight
