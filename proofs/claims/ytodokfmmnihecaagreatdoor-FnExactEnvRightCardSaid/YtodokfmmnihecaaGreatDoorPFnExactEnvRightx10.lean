-- laid by seedprint.py, a program of this session, over contracts that it gives by hand; Lean checks it
-- dented
import Derived.Test.YtodokfmmnihecaaGreatDoorQMin
import Derived.Test.YtodokfmmnihecaaGreatDoorQAut
import Derived.Test.YtodokfmmnihecaaGreatDoorQBlk
import Derived.Test.YtodokfmmnihecaaGreatDoorPFnExactEnvRightx0
import Derived.Test.YtodokfmmnihecaaGreatDoorPFnExactEnvRightx8
import Derived.Test.YtodokfmmnihecaaGreatDoorPFnExactEnvRightx9
namespace Go.Proofs.YtodokfmmnihecaaGreatDoor.PFnExactEnvRight
open Go.RowKit Go.Proofs.YtodokfmmnihecaaGreatDoorW.PrintWords Go.Proofs.YtodokfmmnihecaaGreatDoorW.PrintLast Go.Proofs.YtodokfmmnihecaaGreatDoorW.PrintMore
attribute [local go_sem] max2_int min2_int max_two min_two max_three min_three max_four min_four   -- for this text's walks alone
set_option linter.unusedVariables false
set_option linter.unusedSimpArgs false

/-! ### spec_EnvRight: function 19 -/
mutual
def spec_EnvRight.j0 : Nat → Bool → ByteArray → Int → List ByteArray → List ByteArray → List (S75) → List (S73) → List (S73) → List (S73) → List Int → List Int → Int → Int → Int → Int → Int → Option (Bool)
 | 0, _, _, _, _, _, _, _, _, _, _, _, _, _, _, _, _ => none
 | k + 1, x31, x250000, x250001, x250002, x250003, x250004, x250005, x250006, x250007, x251000, x251001, x251002, x251003, x251004, x251005, x251006 => if x31 = true then (some false) else (spec_EnvRight.l0 k 0 x250000 x250001 x250002 x250003 x250004 x250005 x250006 x250007 x251000 x251001 x251002 x251003 x251004 x251005 x251006)
def spec_EnvRight.l0 : Nat → Int → ByteArray → Int → List ByteArray → List ByteArray → List (S75) → List (S73) → List (S73) → List (S73) → List Int → List Int → Int → Int → Int → Int → Int → Option (Bool)
 | 0, _, _, _, _, _, _, _, _, _, _, _, _, _, _, _, _ => none
 | k + 1, x5, x250000, x250001, x250002, x250003, x250004, x250005, x250006, x250007, x251000, x251001, x251002, x251003, x251004, x251005, x251006 => if x5 < (x251000.length : Int) then (if 0 ≤ x5 then (if x5 < (x250004.length : Int) then (if (rd x251000 x5) < ((rd_T75 x250004 x5).f2) then (some false) else (if (rd x251000 x5) > ((rd_T75 x250004 x5).f3) then (some false) else (spec_EnvRight.l0 k (wrap64 (x5 + 1)) x250000 x250001 x250002 x250003 x250004 x250005 x250006 x250007 x251000 x251001 x251002 x251003 x251004 x251005 x251006))) else (none)) else (none)) else (some true)
end
def spec_EnvRight.f (k : Nat) (a0_0 : ByteArray) (a0_1 : Int) (l0_2 : List ByteArray) (l0_3 : List ByteArray) (l0_4 : List (S75)) (l0_5 : List (S73)) (l0_6 : List (S73)) (l0_7 : List (S73)) (l1_0 : List Int) (l1_1 : List Int) (a1_2 : Int) (a1_3 : Int) (a1_4 : Int) (a1_5 : Int) (a1_6 : Int) : Option (Bool) := (spec_ProductRight.f k a0_0 a0_1 l0_2 l0_3 l0_4 l0_5 l0_6 l0_7).bind fun t251 => (if t251 = true then (if (l1_0.length : Int) = (l0_4.length : Int) then (if (l1_1.length : Int) = (l0_3.length : Int) then ((spec_l09Rest.f k l1_0 l1_1 a1_2 a1_3 a1_4 a1_5 a1_6).bind fun t252 => (spec_EnvRight.j0 k (!t252) a0_0 a0_1 l0_2 l0_3 l0_4 l0_5 l0_6 l0_7 l1_0 l1_1 a1_2 a1_3 a1_4 a1_5 a1_6)) else (spec_EnvRight.j0 k true a0_0 a0_1 l0_2 l0_3 l0_4 l0_5 l0_6 l0_7 l1_0 l1_1 a1_2 a1_3 a1_4 a1_5 a1_6)) else (spec_EnvRight.j0 k true a0_0 a0_1 l0_2 l0_3 l0_4 l0_5 l0_6 l0_7 l1_0 l1_1 a1_2 a1_3 a1_4 a1_5 a1_6)) else (spec_EnvRight.j0 k true a0_0 a0_1 l0_2 l0_3 l0_4 l0_5 l0_6 l0_7 l1_0 l1_1 a1_2 a1_3 a1_4 a1_5 a1_6))
theorem spec_EnvRight.mono_l : ∀ k, (∀ y0 y1 y2 y3 y4 y5 y6 y7 y8 y9 y10 y11 y12 y13 y14 y15, LeO (spec_EnvRight.j0 k y0 y1 y2 y3 y4 y5 y6 y7 y8 y9 y10 y11 y12 y13 y14 y15) (spec_EnvRight.j0 (k + 1) y0 y1 y2 y3 y4 y5 y6 y7 y8 y9 y10 y11 y12 y13 y14 y15)) ∧ (∀ y0 y1 y2 y3 y4 y5 y6 y7 y8 y9 y10 y11 y12 y13 y14 y15, LeO (spec_EnvRight.l0 k y0 y1 y2 y3 y4 y5 y6 y7 y8 y9 y10 y11 y12 y13 y14 y15) (spec_EnvRight.l0 (k + 1) y0 y1 y2 y3 y4 y5 y6 y7 y8 y9 y10 y11 y12 y13 y14 y15))
 | 0 => ⟨fun _ _ _ _ _ _ _ _ _ _ _ _ _ _ _ _ r h => by simp [spec_EnvRight.j0] at h, fun _ _ _ _ _ _ _ _ _ _ _ _ _ _ _ _ r h => by simp [spec_EnvRight.l0] at h⟩
 | k + 1 => by
  obtain ⟨ih0, ih1⟩ := spec_EnvRight.mono_l k
  refine ⟨?_, ?_⟩
  ·intro y0 y1 y2 y3 y4 y5 y6 y7 y8 y9 y10 y11 y12 y13 y14 y15
   unfold spec_EnvRight.j0
   repeat' (with_reducible first | exact ih0 .. | exact ih1 .. | exact spec_ProductRight.mono .. | exact spec_l09Rest.mono .. | exact LeO.refl _ | exact LeO.none _ | refine LeO.ite ?_ ?_ | refine LeO.bind ?_ (fun _ => ?_))
  intro y0 y1 y2 y3 y4 y5 y6 y7 y8 y9 y10 y11 y12 y13 y14 y15
  unfold spec_EnvRight.l0
  repeat' (with_reducible first | exact ih0 .. | exact ih1 .. | exact spec_ProductRight.mono .. | exact spec_l09Rest.mono .. | exact LeO.refl _ | exact LeO.none _ | refine LeO.ite ?_ ?_ | refine LeO.bind ?_ (fun _ => ?_))
theorem spec_EnvRight.mono : ∀ a0 a1 a2 a3 a4 a5 a6 a7 a8 a9 a10 a11 a12 a13 a14 k, LeO (spec_EnvRight.f k a0 a1 a2 a3 a4 a5 a6 a7 a8 a9 a10 a11 a12 a13 a14) (spec_EnvRight.f (k + 1) a0 a1 a2 a3 a4 a5 a6 a7 a8 a9 a10 a11 a12 a13 a14) := by
 intro a0 a1 a2 a3 a4 a5 a6 a7 a8 a9 a10 a11 a12 a13 a14 k
 obtain ⟨ih0, ih1⟩ := spec_EnvRight.mono_l k
 unfold spec_EnvRight.f
 repeat' (with_reducible first | exact ih0 .. | exact ih1 .. | exact spec_ProductRight.mono .. | exact spec_l09Rest.mono .. | exact LeO.refl _ | exact LeO.none _ | refine LeO.ite ?_ ?_ | refine LeO.bind ?_ (fun _ => ?_))
set_option maxHeartbeats 8000000 in
set_option maxRecDepth 100000 in
theorem spec_EnvRight.calls (k : Nat) (a0_0 : ByteArray) (a0_1 : Int) (A0_2 : Option Addr) (c0_2 : Nat) (l0_2 : List ByteArray) (A0_3 : Option Addr) (c0_3 : Nat) (l0_3 : List ByteArray) (A0_4 : Option Addr) (c0_4 : Nat) (l0_4 : List (S75)) (A0_5 : Option Addr) (c0_5 : Nat) (l0_5 : List (S73)) (A0_6 : Option Addr) (c0_6 : Nat) (l0_6 : List (S73)) (A0_7 : Option Addr) (c0_7 : Nat) (l0_7 : List (S73)) (A1_0 : Option Addr) (c1_0 : Nat) (l1_0 : List Int) (A1_1 : Option Addr) (c1_1 : Nat) (l1_1 : List Int) (a1_2 : Int) (a1_3 : Int) (a1_4 : Int) (a1_5 : Int) (a1_6 : Int) (r : Bool) (w : World) (hr0_2 : Kd.C Kd.string w A0_2 l0_2.length l0_2) (hc0_2 : l0_2.length ≤ c0_2) (hr0_3 : Kd.C Kd.string w A0_3 l0_3.length l0_3) (hc0_3 : l0_3.length ≤ c0_3) (hr0_4 : Kd.C k75 w A0_4 l0_4.length l0_4) (hc0_4 : l0_4.length ≤ c0_4) (hr0_5 : Kd.C k73 w A0_5 l0_5.length l0_5) (hc0_5 : l0_5.length ≤ c0_5) (hr0_6 : Kd.C k73 w A0_6 l0_6.length l0_6) (hc0_6 : l0_6.length ≤ c0_6) (hr0_7 : Kd.C k73 w A0_7 l0_7.length l0_7) (hc0_7 : l0_7.length ≤ c0_7) (hr1_0 : Kd.C (Kd.int .i64) w A1_0 l1_0.length l1_0) (hc1_0 : l1_0.length ≤ c1_0) (hr1_1 : Kd.C (Kd.int .i64) w A1_1 l1_1.length l1_1) (hc1_1 : l1_1.length ≤ c1_1) (h : spec_EnvRight.f k a0_0 a0_1 l0_2 l0_3 l0_4 l0_5 l0_6 l0_7 l1_0 l1_1 a1_2 a1_3 a1_4 a1_5 a1_6 = some r) :
  Calls Tryz.prog 19 #[.agg #[.string a0_0, .int .i64 a0_1, .slice A0_2 l0_2.length c0_2, .slice A0_3 l0_3.length c0_3, .slice A0_4 l0_4.length c0_4, .slice A0_5 l0_5.length c0_5, .slice A0_6 l0_6.length c0_6, .slice A0_7 l0_7.length c0_7], .agg #[.slice A1_0 l1_0.length c1_0, .slice A1_1 l1_1.length c1_1, .int .i64 a1_2, .int .i64 a1_3, .int .i64 a1_4, .int .i64 a1_5, .int .i64 a1_6]] w fun e w' => e = .returned (.bool r) ∧ Below w.heap.size w w' := by
 have hu32 := Tryz.underlying32
 have hu41 := Tryz.underlying41
 have HR0_2 := am hr0_2
 have HC0_2 := am hc0_2
 clear hr0_2 hc0_2
 have HR0_3 := am hr0_3
 have HC0_3 := am hc0_3
 clear hr0_3 hc0_3
 have HR0_4 := am hr0_4
 have HC0_4 := am hc0_4
 clear hr0_4 hc0_4
 have HR0_5 := am hr0_5
 have HC0_5 := am hc0_5
 clear hr0_5 hc0_5
 have HR0_6 := am hr0_6
 have HC0_6 := am hc0_6
 clear hr0_6 hc0_6
 have HR0_7 := am hr0_7
 have HC0_7 := am hc0_7
 clear hr0_7 hc0_7
 have HR1_0 := am hr1_0
 have HC1_0 := am hc1_0
 clear hr1_0 hc1_0
 have HR1_1 := am hr1_1
 have HC1_1 := am hc1_1
 clear hr1_1 hc1_1
 have HB := am (Below.refl w.heap.size w)
 have H := h
 clear h
 unfold spec_EnvRight.f at H
 have HC3 := am H; clear H
 go_enter Tryz.func19, Tryz.ntmps19
 go_upto_region 1 with (first | ((with_reducible refine gate_dst (N := 2) rfl ?_); (try (refine gate_guard (by rfl) ?_; dsimp only)); refine box_event ?hg (N := 2) ?hd (cs := #[.string a0_0, .int .i64 a0_1, .slice A0_2 l0_2.length c0_2, .slice A0_3 l0_3.length c0_3, .slice A0_4 l0_4.length c0_4, .slice A0_5 l0_5.length c0_5, .slice A0_6 l0_6.length c0_6, .slice A0_7 l0_7.length c0_7]) (t := 32) ?hr ?_; (case hd => rfl); (case hg => rfl); (case hr => first | (go_simp; done) | (go_simp; rfl)); intro gb249 hg w4 hbox hb; have BK249 := am (hbox); have GW249 := am (bsz hg : w.heap.size ≤ gb249); have GE249 := GW249; replace HB := am (below_step bl hb); clear hb hbox hg) | ((with_reducible refine gate_dst (N := 3) rfl ?_); (try (refine gate_guard (by rfl) ?_; dsimp only)); refine box_event ?hg (N := 3) ?hd (cs := #[.slice A1_0 l1_0.length c1_0, .slice A1_1 l1_1.length c1_1, .int .i64 a1_2, .int .i64 a1_3, .int .i64 a1_4, .int .i64 a1_5, .int .i64 a1_6]) (t := 41) ?hr ?_; (case hd => rfl); (case hg => rfl); (case hr => first | (go_simp; done) | (go_simp; rfl)); intro gb250 hg w5 hbox hb; have BK250 := am (hbox); have GW250 := am (bsz hg : w.heap.size ≤ gb250); have GE250 := GW250; have NB249_250 := am (ne1 hg BK249.out); have NB250_249 := am NB249_250.out.symm; replace BK249 := am (bkb BK249.out hb); replace HB := am (below_step bl hb); clear hb hbox hg))
 repeat (go_quiet (first | ((with_reducible refine gate_dst (N := 2) rfl ?_); (try (refine gate_guard (by rfl) ?_; dsimp only)); refine box_event ?hg (N := 2) ?hd (cs := #[.string a0_0, .int .i64 a0_1, .slice A0_2 l0_2.length c0_2, .slice A0_3 l0_3.length c0_3, .slice A0_4 l0_4.length c0_4, .slice A0_5 l0_5.length c0_5, .slice A0_6 l0_6.length c0_6, .slice A0_7 l0_7.length c0_7]) (t := 32) ?hr ?_; (case hd => rfl); (case hg => rfl); (case hr => first | (go_simp; done) | (go_simp; rfl)); intro gb249 hg w4 hbox hb; have BK249 := am (hbox); have GW249 := am (bsz hg : w.heap.size ≤ gb249); have GE249 := GW249; replace HB := am (below_step bl hb); clear hb hbox hg) | ((with_reducible refine gate_dst (N := 3) rfl ?_); (try (refine gate_guard (by rfl) ?_; dsimp only)); refine box_event ?hg (N := 3) ?hd (cs := #[.slice A1_0 l1_0.length c1_0, .slice A1_1 l1_1.length c1_1, .int .i64 a1_2, .int .i64 a1_3, .int .i64 a1_4, .int .i64 a1_5, .int .i64 a1_6]) (t := 41) ?hr ?_; (case hd => rfl); (case hg => rfl); (case hr => first | (go_simp; done) | (go_simp; rfl)); intro gb250 hg w5 hbox hb; have BK250 := am (hbox); have GW250 := am (bsz hg : w.heap.size ≤ gb250); have GE250 := GW250; have NB249_250 := am (ne1 hg BK249.out); have NB250_249 := am NB249_250.out.symm; replace BK249 := am (bkb BK249.out hb); replace HB := am (below_step bl hb); clear hb hbox hg)); go_upto_region 1 with (first | ((with_reducible refine gate_dst (N := 2) rfl ?_); (try (refine gate_guard (by rfl) ?_; dsimp only)); refine box_event ?hg (N := 2) ?hd (cs := #[.string a0_0, .int .i64 a0_1, .slice A0_2 l0_2.length c0_2, .slice A0_3 l0_3.length c0_3, .slice A0_4 l0_4.length c0_4, .slice A0_5 l0_5.length c0_5, .slice A0_6 l0_6.length c0_6, .slice A0_7 l0_7.length c0_7]) (t := 32) ?hr ?_; (case hd => rfl); (case hg => rfl); (case hr => first | (go_simp; done) | (go_simp; rfl)); intro gb249 hg w4 hbox hb; have BK249 := am (hbox); have GW249 := am (bsz hg : w.heap.size ≤ gb249); have GE249 := GW249; replace HB := am (below_step bl hb); clear hb hbox hg) | ((with_reducible refine gate_dst (N := 3) rfl ?_); (try (refine gate_guard (by rfl) ?_; dsimp only)); refine box_event ?hg (N := 3) ?hd (cs := #[.slice A1_0 l1_0.length c1_0, .slice A1_1 l1_1.length c1_1, .int .i64 a1_2, .int .i64 a1_3, .int .i64 a1_4, .int .i64 a1_5, .int .i64 a1_6]) (t := 41) ?hr ?_; (case hd => rfl); (case hg => rfl); (case hr => first | (go_simp; done) | (go_simp; rfl)); intro gb250 hg w5 hbox hb; have BK250 := am (hbox); have GW250 := am (bsz hg : w.heap.size ≤ gb250); have GE250 := GW250; have NB249_250 := am (ne1 hg BK249.out); have NB250_249 := am NB249_250.out.symm; replace BK249 := am (bkb BK249.out hb); replace HB := am (below_step bl hb); clear hb hbox hg)))
 (try simp only [Act.put, z1, z2, z3])
 go_cut [31] (fun v31 wc => ∃ (kq : Nat) (x31_2 : Bool), v31 = .bool x31_2 ∧ Aside0 (spec_EnvRight.j0 kq x31_2 a0_0 a0_1 l0_2 l0_3 l0_4 l0_5 l0_6 l0_7 l1_0 l1_1 a1_2 a1_3 a1_4 a1_5 a1_6 = some r) ∧ Aside0 (kq ≤ k) ∧ Aside0 (wc.heap[gb249]? = some (.cells #[.string a0_0, .int .i64 a0_1, (.slice A0_2 l0_2.length c0_2), (.slice A0_3 l0_3.length c0_3), (.slice A0_4 l0_4.length c0_4), (.slice A0_5 l0_5.length c0_5), (.slice A0_6 l0_6.length c0_6), (.slice A0_7 l0_7.length c0_7)] 32 (0, 0))) ∧ Aside0 (wc.heap[gb250]? = some (.cells #[(.slice A1_0 l1_0.length c1_0), (.slice A1_1 l1_1.length c1_1), .int .i64 a1_2, .int .i64 a1_3, .int .i64 a1_4, .int .i64 a1_5, .int .i64 a1_6] 41 (0, 0))) ∧ Aside0 (Below w.heap.size w wc))
 case first =>
  have H := HC3.out
  clear HC3
  revert H; refine bj fun t251 A6 H => ?_
  replace H := iT H; rcases H with ⟨rfl, H⟩ | ⟨rfl, H⟩
  ·revert H; refine iQn (fun c8 c8b0 c8b1 H => ?_) fun c8 c8b0 c8b1 H => ?_
   ·have c8b2 : (l1_0.length == l0_4.length) = true := by first | simpa using c8 | (simp at c8 ⊢; omega)
    clear c8
    (first | rw [c8b0] | (simp only [i64_w, i32_w]; rw [c8b0]) | skip)
    revert H; refine iQn (fun c9 c9b0 c9b1 H => ?_) fun c9 c9b0 c9b1 H => ?_
    ·have c9b2 : (l1_1.length == l0_3.length) = true := by first | simpa using c9 | (simp at c9 ⊢; omega)
     clear c9
     revert H; refine bj fun t252 A10 H => ?_
     have H' := am H; clear H
     have hnb11 := NB249_250.out
     have hnc11 := NB250_249.out
     obtain ⟨z12_0, z12_1, z12_2, z12_3, z12_4, z12_5, z12_6, z12_7, y12_0, y12_1, y12_2, y12_3, y12_4, y12_5, y12_6, y12_7⟩ := blk8 BK249.out
     go_wp2_with (first | (go_at_call 14; (with_reducible refine (spec_ProductRight.calls _ _ _ _ _ _ _ _ _ _ _ _ _ _ _ _ _ _ _ _ _ _ _ ?side1 ?side2 ?side3 ?side4 ?side5 ?side6 ?side7 ?side8 ?side9 ?side10 ?side11 ?side12 A6.out).mono ?_); (case side1 => exact cb HR0_2.out); (case side2 => exact HC0_2.out); (case side3 => exact cb HR0_3.out); (case side4 => exact HC0_3.out); (case side5 => exact cb HR0_4.out); (case side6 => exact HC0_4.out); (case side7 => exact cb HR0_5.out); (case side8 => exact HC0_5.out); (case side9 => exact cb HR0_6.out); (case side10 => exact HC0_6.out); (case side11 => exact cb HR0_7.out); (case side12 => exact HC0_7.out); rintro e w13 ⟨rfl, hb⟩; replace BK249 := am (bkb BK249.out hb); replace BK250 := am (bkb BK250.out hb); replace HB := am (below_step bl hb); clear hb; obtain ⟨z14_0, z14_1, z14_2, z14_3, z14_4, z14_5, z14_6, y14_0, y14_1, y14_2, y14_3, y14_4, y14_5, y14_6⟩ := blk7 BK250.out; obtain ⟨z15_0, z15_1, z15_2, z15_3, z15_4, z15_5, z15_6, z15_7, y15_0, y15_1, y15_2, y15_3, y15_4, y15_5, y15_6, y15_7⟩ := blk8 BK249.out) | (go_at_call 75; (with_reducible refine (spec_l09Rest.calls _ _ _ _ _ _ _ _ _ _ _ _ _ _ ?side1 ?side2 ?side3 ?side4 A10.out).mono ?_); (case side1 => exact cb HR1_0.out); (case side2 => exact HC1_0.out); (case side3 => exact cb HR1_1.out); (case side4 => exact HC1_1.out); rintro e w16 ⟨rfl, hb⟩; replace BK249 := am (bkb BK249.out hb); replace BK250 := am (bkb BK250.out hb); replace HB := am (below_step bl hb); clear hb))
     repeat (go_quiet (first | (go_at_call 14; (with_reducible refine (spec_ProductRight.calls _ _ _ _ _ _ _ _ _ _ _ _ _ _ _ _ _ _ _ _ _ _ _ ?side1 ?side2 ?side3 ?side4 ?side5 ?side6 ?side7 ?side8 ?side9 ?side10 ?side11 ?side12 A6.out).mono ?_); (case side1 => exact cb HR0_2.out); (case side2 => exact HC0_2.out); (case side3 => exact cb HR0_3.out); (case side4 => exact HC0_3.out); (case side5 => exact cb HR0_4.out); (case side6 => exact HC0_4.out); (case side7 => exact cb HR0_5.out); (case side8 => exact HC0_5.out); (case side9 => exact cb HR0_6.out); (case side10 => exact HC0_6.out); (case side11 => exact cb HR0_7.out); (case side12 => exact HC0_7.out); rintro e w13 ⟨rfl, hb⟩; replace BK249 := am (bkb BK249.out hb); replace BK250 := am (bkb BK250.out hb); replace HB := am (below_step bl hb); clear hb; obtain ⟨z14_0, z14_1, z14_2, z14_3, z14_4, z14_5, z14_6, y14_0, y14_1, y14_2, y14_3, y14_4, y14_5, y14_6⟩ := blk7 BK250.out; obtain ⟨z15_0, z15_1, z15_2, z15_3, z15_4, z15_5, z15_6, z15_7, y15_0, y15_1, y15_2, y15_3, y15_4, y15_5, y15_6, y15_7⟩ := blk8 BK249.out) | (go_at_call 75; (with_reducible refine (spec_l09Rest.calls _ _ _ _ _ _ _ _ _ _ _ _ _ _ ?side1 ?side2 ?side3 ?side4 A10.out).mono ?_); (case side1 => exact cb HR1_0.out); (case side2 => exact HC1_0.out); (case side3 => exact cb HR1_1.out); (case side4 => exact HC1_1.out); rintro e w16 ⟨rfl, hb⟩; replace BK249 := am (bkb BK249.out hb); replace BK250 := am (bkb BK250.out hb); replace HB := am (below_step bl hb); clear hb)); try go_wp2_with (first | (go_at_call 14; (with_reducible refine (spec_ProductRight.calls _ _ _ _ _ _ _ _ _ _ _ _ _ _ _ _ _ _ _ _ _ _ _ ?side1 ?side2 ?side3 ?side4 ?side5 ?side6 ?side7 ?side8 ?side9 ?side10 ?side11 ?side12 A6.out).mono ?_); (case side1 => exact cb HR0_2.out); (case side2 => exact HC0_2.out); (case side3 => exact cb HR0_3.out); (case side4 => exact HC0_3.out); (case side5 => exact cb HR0_4.out); (case side6 => exact HC0_4.out); (case side7 => exact cb HR0_5.out); (case side8 => exact HC0_5.out); (case side9 => exact cb HR0_6.out); (case side10 => exact HC0_6.out); (case side11 => exact cb HR0_7.out); (case side12 => exact HC0_7.out); rintro e w13 ⟨rfl, hb⟩; replace BK249 := am (bkb BK249.out hb); replace BK250 := am (bkb BK250.out hb); replace HB := am (below_step bl hb); clear hb; obtain ⟨z14_0, z14_1, z14_2, z14_3, z14_4, z14_5, z14_6, y14_0, y14_1, y14_2, y14_3, y14_4, y14_5, y14_6⟩ := blk7 BK250.out; obtain ⟨z15_0, z15_1, z15_2, z15_3, z15_4, z15_5, z15_6, z15_7, y15_0, y15_1, y15_2, y15_3, y15_4, y15_5, y15_6, y15_7⟩ := blk8 BK249.out) | (go_at_call 75; (with_reducible refine (spec_l09Rest.calls _ _ _ _ _ _ _ _ _ _ _ _ _ _ ?side1 ?side2 ?side3 ?side4 A10.out).mono ?_); (case side1 => exact cb HR1_0.out); (case side2 => exact HC1_0.out); (case side3 => exact cb HR1_1.out); (case side4 => exact HC1_1.out); rintro e w16 ⟨rfl, hb⟩; replace BK249 := am (bkb BK249.out hb); replace BK250 := am (bkb BK250.out hb); replace HB := am (below_step bl hb); clear hb)))
     go_meet
     case rel => exact ⟨_, (!t252), rs, H', ⟨by first | omega | exact Nat.le_refl _⟩, ⟨bk BK249.out⟩, ⟨bk BK250.out⟩, ⟨bl⟩⟩
    have c9b2 : (l1_1.length == l0_3.length) = false := by first | simpa using c9 | (simp at c9 ⊢; omega)
    have H' := am H; clear H
    have hnb17 := NB249_250.out
    have hnc17 := NB250_249.out
    obtain ⟨z18_0, z18_1, z18_2, z18_3, z18_4, z18_5, z18_6, z18_7, y18_0, y18_1, y18_2, y18_3, y18_4, y18_5, y18_6, y18_7⟩ := blk8 BK249.out
    go_wp2_with (first | (go_at_call 14; (with_reducible refine (spec_ProductRight.calls _ _ _ _ _ _ _ _ _ _ _ _ _ _ _ _ _ _ _ _ _ _ _ ?side1 ?side2 ?side3 ?side4 ?side5 ?side6 ?side7 ?side8 ?side9 ?side10 ?side11 ?side12 A6.out).mono ?_); (case side1 => exact cb HR0_2.out); (case side2 => exact HC0_2.out); (case side3 => exact cb HR0_3.out); (case side4 => exact HC0_3.out); (case side5 => exact cb HR0_4.out); (case side6 => exact HC0_4.out); (case side7 => exact cb HR0_5.out); (case side8 => exact HC0_5.out); (case side9 => exact cb HR0_6.out); (case side10 => exact HC0_6.out); (case side11 => exact cb HR0_7.out); (case side12 => exact HC0_7.out); rintro e w19 ⟨rfl, hb⟩; replace BK249 := am (bkb BK249.out hb); replace BK250 := am (bkb BK250.out hb); replace HB := am (below_step bl hb); clear hb; obtain ⟨z20_0, z20_1, z20_2, z20_3, z20_4, z20_5, z20_6, y20_0, y20_1, y20_2, y20_3, y20_4, y20_5, y20_6⟩ := blk7 BK250.out; obtain ⟨z21_0, z21_1, z21_2, z21_3, z21_4, z21_5, z21_6, z21_7, y21_0, y21_1, y21_2, y21_3, y21_4, y21_5, y21_6, y21_7⟩ := blk8 BK249.out))
    repeat (go_quiet (first | (go_at_call 14; (with_reducible refine (spec_ProductRight.calls _ _ _ _ _ _ _ _ _ _ _ _ _ _ _ _ _ _ _ _ _ _ _ ?side1 ?side2 ?side3 ?side4 ?side5 ?side6 ?side7 ?side8 ?side9 ?side10 ?side11 ?side12 A6.out).mono ?_); (case side1 => exact cb HR0_2.out); (case side2 => exact HC0_2.out); (case side3 => exact cb HR0_3.out); (case side4 => exact HC0_3.out); (case side5 => exact cb HR0_4.out); (case side6 => exact HC0_4.out); (case side7 => exact cb HR0_5.out); (case side8 => exact HC0_5.out); (case side9 => exact cb HR0_6.out); (case side10 => exact HC0_6.out); (case side11 => exact cb HR0_7.out); (case side12 => exact HC0_7.out); rintro e w19 ⟨rfl, hb⟩; replace BK249 := am (bkb BK249.out hb); replace BK250 := am (bkb BK250.out hb); replace HB := am (below_step bl hb); clear hb; obtain ⟨z20_0, z20_1, z20_2, z20_3, z20_4, z20_5, z20_6, y20_0, y20_1, y20_2, y20_3, y20_4, y20_5, y20_6⟩ := blk7 BK250.out; obtain ⟨z21_0, z21_1, z21_2, z21_3, z21_4, z21_5, z21_6, z21_7, y21_0, y21_1, y21_2, y21_3, y21_4, y21_5, y21_6, y21_7⟩ := blk8 BK249.out)); try go_wp2_with (first | (go_at_call 14; (with_reducible refine (spec_ProductRight.calls _ _ _ _ _ _ _ _ _ _ _ _ _ _ _ _ _ _ _ _ _ _ _ ?side1 ?side2 ?side3 ?side4 ?side5 ?side6 ?side7 ?side8 ?side9 ?side10 ?side11 ?side12 A6.out).mono ?_); (case side1 => exact cb HR0_2.out); (case side2 => exact HC0_2.out); (case side3 => exact cb HR0_3.out); (case side4 => exact HC0_3.out); (case side5 => exact cb HR0_4.out); (case side6 => exact HC0_4.out); (case side7 => exact cb HR0_5.out); (case side8 => exact HC0_5.out); (case side9 => exact cb HR0_6.out); (case side10 => exact HC0_6.out); (case side11 => exact cb HR0_7.out); (case side12 => exact HC0_7.out); rintro e w19 ⟨rfl, hb⟩; replace BK249 := am (bkb BK249.out hb); replace BK250 := am (bkb BK250.out hb); replace HB := am (below_step bl hb); clear hb; obtain ⟨z20_0, z20_1, z20_2, z20_3, z20_4, z20_5, z20_6, y20_0, y20_1, y20_2, y20_3, y20_4, y20_5, y20_6⟩ := blk7 BK250.out; obtain ⟨z21_0, z21_1, z21_2, z21_3, z21_4, z21_5, z21_6, z21_7, y21_0, y21_1, y21_2, y21_3, y21_4, y21_5, y21_6, y21_7⟩ := blk8 BK249.out)))
    go_meet
    case rel => exact ⟨_, (true), rs, H', ⟨by first | omega | exact Nat.le_refl _⟩, ⟨bk BK249.out⟩, ⟨bk BK250.out⟩, ⟨bl⟩⟩
   have c8b2 : (l1_0.length == l0_4.length) = false := by first | simpa using c8 | (simp at c8 ⊢; omega)
   (first | rw [c8b0] | (simp only [i64_w, i32_w]; rw [c8b0]) | skip)
   have H' := am H; clear H
   have hnb22 := NB249_250.out
   have hnc22 := NB250_249.out
   obtain ⟨z23_0, z23_1, z23_2, z23_3, z23_4, z23_5, z23_6, z23_7, y23_0, y23_1, y23_2, y23_3, y23_4, y23_5, y23_6, y23_7⟩ := blk8 BK249.out
   go_wp2_with (first | (go_at_call 14; (with_reducible refine (spec_ProductRight.calls _ _ _ _ _ _ _ _ _ _ _ _ _ _ _ _ _ _ _ _ _ _ _ ?side1 ?side2 ?side3 ?side4 ?side5 ?side6 ?side7 ?side8 ?side9 ?side10 ?side11 ?side12 A6.out).mono ?_); (case side1 => exact cb HR0_2.out); (case side2 => exact HC0_2.out); (case side3 => exact cb HR0_3.out); (case side4 => exact HC0_3.out); (case side5 => exact cb HR0_4.out); (case side6 => exact HC0_4.out); (case side7 => exact cb HR0_5.out); (case side8 => exact HC0_5.out); (case side9 => exact cb HR0_6.out); (case side10 => exact HC0_6.out); (case side11 => exact cb HR0_7.out); (case side12 => exact HC0_7.out); rintro e w24 ⟨rfl, hb⟩; replace BK249 := am (bkb BK249.out hb); replace BK250 := am (bkb BK250.out hb); replace HB := am (below_step bl hb); clear hb; obtain ⟨z25_0, z25_1, z25_2, z25_3, z25_4, z25_5, z25_6, y25_0, y25_1, y25_2, y25_3, y25_4, y25_5, y25_6⟩ := blk7 BK250.out; obtain ⟨z26_0, z26_1, z26_2, z26_3, z26_4, z26_5, z26_6, z26_7, y26_0, y26_1, y26_2, y26_3, y26_4, y26_5, y26_6, y26_7⟩ := blk8 BK249.out))
   repeat (go_quiet (first | (go_at_call 14; (with_reducible refine (spec_ProductRight.calls _ _ _ _ _ _ _ _ _ _ _ _ _ _ _ _ _ _ _ _ _ _ _ ?side1 ?side2 ?side3 ?side4 ?side5 ?side6 ?side7 ?side8 ?side9 ?side10 ?side11 ?side12 A6.out).mono ?_); (case side1 => exact cb HR0_2.out); (case side2 => exact HC0_2.out); (case side3 => exact cb HR0_3.out); (case side4 => exact HC0_3.out); (case side5 => exact cb HR0_4.out); (case side6 => exact HC0_4.out); (case side7 => exact cb HR0_5.out); (case side8 => exact HC0_5.out); (case side9 => exact cb HR0_6.out); (case side10 => exact HC0_6.out); (case side11 => exact cb HR0_7.out); (case side12 => exact HC0_7.out); rintro e w24 ⟨rfl, hb⟩; replace BK249 := am (bkb BK249.out hb); replace BK250 := am (bkb BK250.out hb); replace HB := am (below_step bl hb); clear hb; obtain ⟨z25_0, z25_1, z25_2, z25_3, z25_4, z25_5, z25_6, y25_0, y25_1, y25_2, y25_3, y25_4, y25_5, y25_6⟩ := blk7 BK250.out; obtain ⟨z26_0, z26_1, z26_2, z26_3, z26_4, z26_5, z26_6, z26_7, y26_0, y26_1, y26_2, y26_3, y26_4, y26_5, y26_6, y26_7⟩ := blk8 BK249.out)); try go_wp2_with (first | (go_at_call 14; (with_reducible refine (spec_ProductRight.calls _ _ _ _ _ _ _ _ _ _ _ _ _ _ _ _ _ _ _ _ _ _ _ ?side1 ?side2 ?side3 ?side4 ?side5 ?side6 ?side7 ?side8 ?side9 ?side10 ?side11 ?side12 A6.out).mono ?_); (case side1 => exact cb HR0_2.out); (case side2 => exact HC0_2.out); (case side3 => exact cb HR0_3.out); (case side4 => exact HC0_3.out); (case side5 => exact cb HR0_4.out); (case side6 => exact HC0_4.out); (case side7 => exact cb HR0_5.out); (case side8 => exact HC0_5.out); (case side9 => exact cb HR0_6.out); (case side10 => exact HC0_6.out); (case side11 => exact cb HR0_7.out); (case side12 => exact HC0_7.out); rintro e w24 ⟨rfl, hb⟩; replace BK249 := am (bkb BK249.out hb); replace BK250 := am (bkb BK250.out hb); replace HB := am (below_step bl hb); clear hb; obtain ⟨z25_0, z25_1, z25_2, z25_3, z25_4, z25_5, z25_6, y25_0, y25_1, y25_2, y25_3, y25_4, y25_5, y25_6⟩ := blk7 BK250.out; obtain ⟨z26_0, z26_1, z26_2, z26_3, z26_4, z26_5, z26_6, z26_7, y26_0, y26_1, y26_2, y26_3, y26_4, y26_5, y26_6, y26_7⟩ := blk8 BK249.out)))
   go_meet
   case rel => exact ⟨_, (true), rs, H', ⟨by first | omega | exact Nat.le_refl _⟩, ⟨bk BK249.out⟩, ⟨bk BK250.out⟩, ⟨bl⟩⟩
  have H' := am H; clear H
  have hnb27 := NB249_250.out
  have hnc27 := NB250_249.out
  obtain ⟨z28_0, z28_1, z28_2, z28_3, z28_4, z28_5, z28_6, z28_7, y28_0, y28_1, y28_2, y28_3, y28_4, y28_5, y28_6, y28_7⟩ := blk8 BK249.out
  go_wp2_with (first | (go_at_call 14; (with_reducible refine (spec_ProductRight.calls _ _ _ _ _ _ _ _ _ _ _ _ _ _ _ _ _ _ _ _ _ _ _ ?side1 ?side2 ?side3 ?side4 ?side5 ?side6 ?side7 ?side8 ?side9 ?side10 ?side11 ?side12 A6.out).mono ?_); (case side1 => exact cb HR0_2.out); (case side2 => exact HC0_2.out); (case side3 => exact cb HR0_3.out); (case side4 => exact HC0_3.out); (case side5 => exact cb HR0_4.out); (case side6 => exact HC0_4.out); (case side7 => exact cb HR0_5.out); (case side8 => exact HC0_5.out); (case side9 => exact cb HR0_6.out); (case side10 => exact HC0_6.out); (case side11 => exact cb HR0_7.out); (case side12 => exact HC0_7.out); rintro e w29 ⟨rfl, hb⟩; replace BK249 := am (bkb BK249.out hb); replace BK250 := am (bkb BK250.out hb); replace HB := am (below_step bl hb); clear hb))
  repeat (go_quiet (first | (go_at_call 14; (with_reducible refine (spec_ProductRight.calls _ _ _ _ _ _ _ _ _ _ _ _ _ _ _ _ _ _ _ _ _ _ _ ?side1 ?side2 ?side3 ?side4 ?side5 ?side6 ?side7 ?side8 ?side9 ?side10 ?side11 ?side12 A6.out).mono ?_); (case side1 => exact cb HR0_2.out); (case side2 => exact HC0_2.out); (case side3 => exact cb HR0_3.out); (case side4 => exact HC0_3.out); (case side5 => exact cb HR0_4.out); (case side6 => exact HC0_4.out); (case side7 => exact cb HR0_5.out); (case side8 => exact HC0_5.out); (case side9 => exact cb HR0_6.out); (case side10 => exact HC0_6.out); (case side11 => exact cb HR0_7.out); (case side12 => exact HC0_7.out); rintro e w29 ⟨rfl, hb⟩; replace BK249 := am (bkb BK249.out hb); replace BK250 := am (bkb BK250.out hb); replace HB := am (below_step bl hb); clear hb)); try go_wp2_with (first | (go_at_call 14; (with_reducible refine (spec_ProductRight.calls _ _ _ _ _ _ _ _ _ _ _ _ _ _ _ _ _ _ _ _ _ _ _ ?side1 ?side2 ?side3 ?side4 ?side5 ?side6 ?side7 ?side8 ?side9 ?side10 ?side11 ?side12 A6.out).mono ?_); (case side1 => exact cb HR0_2.out); (case side2 => exact HC0_2.out); (case side3 => exact cb HR0_3.out); (case side4 => exact HC0_3.out); (case side5 => exact cb HR0_4.out); (case side6 => exact HC0_4.out); (case side7 => exact cb HR0_5.out); (case side8 => exact HC0_5.out); (case side9 => exact cb HR0_6.out); (case side10 => exact HC0_6.out); (case side11 => exact cb HR0_7.out); (case side12 => exact HC0_7.out); rintro e w29 ⟨rfl, hb⟩; replace BK249 := am (bkb BK249.out hb); replace BK250 := am (bkb BK250.out hb); replace HB := am (below_step bl hb); clear hb)))
  go_meet
  case rel => exact ⟨_, (true), rs, H', ⟨by first | omega | exact Nat.le_refl _⟩, ⟨bk BK249.out⟩, ⟨bk BK250.out⟩, ⟨bl⟩⟩
 case rest =>
  clear HC3
  obtain ⟨kq, x31_2, rfl, HA, HJ2, BK249, BK250, HB⟩ := hcut
  cases kq with
  | zero => exact absurd HA.out (by simp [spec_EnvRight.j0])
  | succ kj2 =>
   have H := HA.out
   clear HA
   simp only [spec_EnvRight.j0] at H
   replace H := iT H; rcases H with ⟨rfl, H⟩ | ⟨rfl, H⟩
   ·obtain rfl := Option.some.inj H
    go_wp2
    repeat (go_quiet (fail); try go_wp2)
    go_ret
    exact ⟨er, bl⟩
   have H' := am H; clear H
   go_wp2
   repeat (go_quiet (fail); try go_wp2)
   go_loopg [5] kj2 (fun kq v5 w' => ∃ (x5_2 : Int), v5 = .int .i64 x5_2 ∧ Aside0 (spec_EnvRight.l0 kq x5_2 a0_0 a0_1 l0_2 l0_3 l0_4 l0_5 l0_6 l0_7 l1_0 l1_1 a1_2 a1_3 a1_4 a1_5 a1_6 = some r) ∧ Aside0 (kq ≤ kj2) ∧ Aside0 (w'.heap[gb249]? = some (.cells #[.string a0_0, .int .i64 a0_1, (.slice A0_2 l0_2.length c0_2), (.slice A0_3 l0_3.length c0_3), (.slice A0_4 l0_4.length c0_4), (.slice A0_5 l0_5.length c0_5), (.slice A0_6 l0_6.length c0_6), (.slice A0_7 l0_7.length c0_7)] 32 (0, 0))) ∧ Aside0 (w'.heap[gb250]? = some (.cells #[(.slice A1_0 l1_0.length c1_0), (.slice A1_1 l1_1.length c1_1), .int .i64 a1_2, .int .i64 a1_3, .int .i64 a1_4, .int .i64 a1_5, .int .i64 a1_6] 41 (0, 0))) ∧ Aside0 (Below w.heap.size w w'))
   case atStart => exact ⟨(0), rs, H', ⟨Nat.le_refl _⟩, ⟨bk BK249.out⟩, ⟨bk BK250.out⟩, ⟨bl⟩⟩
   case round =>
    clear H'
    obtain ⟨x5_2, rfl, HA, HK2, BK249, BK250, HB⟩ := hrel
    cases gk with
    | zero => exact absurd HA.out (by simp [spec_EnvRight.l0])
    | succ k2 =>
     have H := HA.out
     clear HA
     simp only [spec_EnvRight.l0] at H
     revert H; refine iDb (fun c31b0 H => ?_) fun c31b0 H => ?_
     ·revert H; refine i1 fun c32b0 H => ?_
      revert H; refine i1 fun c33b0 H => ?_
      revert H; refine iDb (fun c34b0 H => ?_) fun c34b0 H => ?_
      ·obtain rfl := Option.some.inj H
       have hnb35 := NB250_249.out
       have hnc35 := NB249_250.out
       obtain ⟨z36_0, z36_1, z36_2, z36_3, z36_4, z36_5, z36_6, y36_0, y36_1, y36_2, y36_3, y36_4, y36_5, y36_6⟩ := blk7 BK250.out
       have p253 : 0 ≤ (x5_2 : Int) := ode
       have q253 : x5_2 < (l1_0.length : Int) := ode
       obtain ⟨ad253, e253, hx253_0⟩ := Kd.at_int HR1_0.out x5_2 p253 q253
       cases e253
       replace hx253_0 := hbc HB.out hx253_0
       replace p253 := eq_true p253
       replace q253 := eq_true q253
       obtain ⟨z37_0, z37_1, z37_2, z37_3, z37_4, z37_5, z37_6, z37_7, y37_0, y37_1, y37_2, y37_3, y37_4, y37_5, y37_6, y37_7⟩ := blk8 BK249.out
       have p254 : 0 ≤ (x5_2 : Int) := ode
       have q254 : x5_2 < (l0_4.length : Int) := ode
       obtain ⟨ad254, e254, hx254_0, hx254_1, hx254_2, hx254_3⟩ := at_T75 HR0_4.out x5_2 p254 q254
       cases e254
       obtain ⟨hx254_0, hx254_1, hx254_2, hx254_3⟩ := hb4 HB.out hx254_0 hx254_1 hx254_2 hx254_3
       replace p254 := eq_true p254
       replace q254 := eq_true q254
       go_wp2
       repeat (go_quiet (fail); try go_wp2)
       go_ret
       exact ⟨er, bl⟩
      revert H; refine iDb (fun c38b0 H => ?_) fun c38b0 H => ?_
      ·obtain rfl := Option.some.inj H
       have hnb39 := NB250_249.out
       have hnc39 := NB249_250.out
       obtain ⟨z40_0, z40_1, z40_2, z40_3, z40_4, z40_5, z40_6, y40_0, y40_1, y40_2, y40_3, y40_4, y40_5, y40_6⟩ := blk7 BK250.out
       have p253 : 0 ≤ (x5_2 : Int) := ode
       have q253 : x5_2 < (l1_0.length : Int) := ode
       obtain ⟨ad253, e253, hx253_0⟩ := Kd.at_int HR1_0.out x5_2 p253 q253
       cases e253
       replace hx253_0 := hbc HB.out hx253_0
       replace p253 := eq_true p253
       replace q253 := eq_true q253
       obtain ⟨z41_0, z41_1, z41_2, z41_3, z41_4, z41_5, z41_6, z41_7, y41_0, y41_1, y41_2, y41_3, y41_4, y41_5, y41_6, y41_7⟩ := blk8 BK249.out
       have p254 : 0 ≤ (x5_2 : Int) := ode
       have q254 : x5_2 < (l0_4.length : Int) := ode
       obtain ⟨ad254, e254, hx254_0, hx254_1, hx254_2, hx254_3⟩ := at_T75 HR0_4.out x5_2 p254 q254
       cases e254
       obtain ⟨hx254_0, hx254_1, hx254_2, hx254_3⟩ := hb4 HB.out hx254_0 hx254_1 hx254_2 hx254_3
       replace p254 := eq_true p254
       replace q254 := eq_true q254
       have p255 : 0 ≤ (x5_2 : Int) := ode
       have q255 : x5_2 < (l1_0.length : Int) := ode
       obtain ⟨ad255, e255, hx255_0⟩ := Kd.at_int HR1_0.out x5_2 p255 q255
       obtain rfl : ad253 = ad255 := (by injection e255)
       replace hx255_0 := hbc HB.out hx255_0
       replace p255 := eq_true p255
       replace q255 := eq_true q255
       have p256 : 0 ≤ (x5_2 : Int) := ode
       have q256 : x5_2 < (l0_4.length : Int) := ode
       obtain ⟨ad256, e256, hx256_0, hx256_1, hx256_2, hx256_3⟩ := at_T75 HR0_4.out x5_2 p256 q256
       obtain rfl : ad254 = ad256 := (by injection e256)
       obtain ⟨hx256_0, hx256_1, hx256_2, hx256_3⟩ := hb4 HB.out hx256_0 hx256_1 hx256_2 hx256_3
       replace p256 := eq_true p256
       replace q256 := eq_true q256
       go_wp2
       repeat (go_quiet (fail); try go_wp2)
       go_ret
       exact ⟨er, bl⟩
      have H' := am H; clear H
      have hnb42 := NB250_249.out
      have hnc42 := NB249_250.out
      obtain ⟨z43_0, z43_1, z43_2, z43_3, z43_4, z43_5, z43_6, y43_0, y43_1, y43_2, y43_3, y43_4, y43_5, y43_6⟩ := blk7 BK250.out
      have p253 : 0 ≤ (x5_2 : Int) := ode
      have q253 : x5_2 < (l1_0.length : Int) := ode
      obtain ⟨ad253, e253, hx253_0⟩ := Kd.at_int HR1_0.out x5_2 p253 q253
      cases e253
      replace hx253_0 := hbc HB.out hx253_0
      replace p253 := eq_true p253
      replace q253 := eq_true q253
      obtain ⟨z44_0, z44_1, z44_2, z44_3, z44_4, z44_5, z44_6, z44_7, y44_0, y44_1, y44_2, y44_3, y44_4, y44_5, y44_6, y44_7⟩ := blk8 BK249.out
      have p254 : 0 ≤ (x5_2 : Int) := ode
      have q254 : x5_2 < (l0_4.length : Int) := ode
      obtain ⟨ad254, e254, hx254_0, hx254_1, hx254_2, hx254_3⟩ := at_T75 HR0_4.out x5_2 p254 q254
      cases e254
      obtain ⟨hx254_0, hx254_1, hx254_2, hx254_3⟩ := hb4 HB.out hx254_0 hx254_1 hx254_2 hx254_3
      replace p254 := eq_true p254
      replace q254 := eq_true q254
      have p255 : 0 ≤ (x5_2 : Int) := ode
      have q255 : x5_2 < (l1_0.length : Int) := ode
      obtain ⟨ad255, e255, hx255_0⟩ := Kd.at_int HR1_0.out x5_2 p255 q255
      obtain rfl : ad253 = ad255 := (by injection e255)
      replace hx255_0 := hbc HB.out hx255_0
      replace p255 := eq_true p255
      replace q255 := eq_true q255
      have p256 : 0 ≤ (x5_2 : Int) := ode
      have q256 : x5_2 < (l0_4.length : Int) := ode
      obtain ⟨ad256, e256, hx256_0, hx256_1, hx256_2, hx256_3⟩ := at_T75 HR0_4.out x5_2 p256 q256
      obtain rfl : ad254 = ad256 := (by injection e256)
      obtain ⟨hx256_0, hx256_1, hx256_2, hx256_3⟩ := hb4 HB.out hx256_0 hx256_1 hx256_2 hx256_3
      replace p256 := eq_true p256
      replace q256 := eq_true q256
      go_wp2
      repeat (go_quiet (fail); try go_wp2)
      go_roundg k2
      case measure => have := HJ2.out; have := HK2.out; omega
      case rel => exact ⟨(wrap64 (x5_2 + 1)), rs, H', ⟨by have := HJ2.out; have := HK2.out; omega⟩, ⟨bk BK249.out⟩, ⟨bk BK250.out⟩, ⟨bl⟩⟩
     obtain rfl := Option.some.inj H
     have hnb45 := NB250_249.out
     have hnc45 := NB249_250.out
     obtain ⟨z46_0, z46_1, z46_2, z46_3, z46_4, z46_5, z46_6, y46_0, y46_1, y46_2, y46_3, y46_4, y46_5, y46_6⟩ := blk7 BK250.out
     go_wp2
     repeat (go_quiet (fail); try go_wp2)
     go_ret
     exact ⟨er, bl⟩

end Go.Proofs.YtodokfmmnihecaaGreatDoor.PFnExactEnvRight
