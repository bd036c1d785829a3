-- laid by seedprint.py, a program of this session, over contracts that it gives by hand; Lean checks it
-- dented
import Derived.Test.YtpblcdafmpfemaaQMin
import Derived.Test.YtpblcdafmpfemaaQAut
import Derived.Test.YtpblcdafmpfemaaQBlk
import Derived.Test.YtpblcdafmpfemaaPFnExactProductSamex0
import Derived.Test.YtpblcdafmpfemaaPFnExactProductSamex1
import Derived.Test.YtpblcdafmpfemaaPFnExactProductSamex3
namespace Go.Proofs.Ytpblcdafmpfemaa.PFnExactProductSame
open Go.RowKit Go.Proofs.YtpblcdafmpfemaaW.PrintWords Go.Proofs.YtpblcdafmpfemaaW.PrintLast Go.Proofs.YtpblcdafmpfemaaW.PrintMore
attribute [local go_sem] max2_int min2_int max_two min_two max_three min_three max_four min_four   -- for this text's walks alone
set_option linter.unusedVariables false
set_option linter.unusedSimpArgs false

attribute [local go_sem high] eqA82
/-! ### spec_ProductSame: function 19 -/
mutual
def spec_ProductSame.j0 : Nat → Bool → ByteArray → Int → List ByteArray → List ByteArray → List (S82) → List (S88) → List (S88) → List (S88) → ByteArray → Int → List ByteArray → List ByteArray → List (S82) → List (S88) → List (S88) → List (S88) → Option (Bool)
 | 0, _, _, _, _, _, _, _, _, _, _, _, _, _, _, _, _, _ => none
 | k + 1, x42, x113000, x113001, x113002, x113003, x113004, x113005, x113006, x113007, x114000, x114001, x114002, x114003, x114004, x114005, x114006, x114007 => if x42 = true then (some false) else (spec_ProductSame.l0 k 0 x113000 x113001 x113002 x113003 x113004 x113005 x113006 x113007 x114000 x114001 x114002 x114003 x114004 x114005 x114006 x114007)
def spec_ProductSame.l0 : Nat → Int → ByteArray → Int → List ByteArray → List ByteArray → List (S82) → List (S88) → List (S88) → List (S88) → ByteArray → Int → List ByteArray → List ByteArray → List (S82) → List (S88) → List (S88) → List (S88) → Option (Bool)
 | 0, _, _, _, _, _, _, _, _, _, _, _, _, _, _, _, _, _ => none
 | k + 1, x5, x113000, x113001, x113002, x113003, x113004, x113005, x113006, x113007, x114000, x114001, x114002, x114003, x114004, x114005, x114006, x114007 => if x5 < (x113004.length : Int) then (if 0 ≤ x5 then (if x5 < (x114004.length : Int) then (if (!((((rd_T82 x113004 x5).f0).toList) == (((rd_T82 x114004 x5).f0).toList)) || (!(((rd_T82 x113004 x5).f1) == ((rd_T82 x114004 x5).f1)) || (!(((rd_T82 x113004 x5).f2) == ((rd_T82 x114004 x5).f2)) || (!(((rd_T82 x113004 x5).f3) == ((rd_T82 x114004 x5).f3)))))) = true then (some false) else (spec_ProductSame.l0 k (wrap64 (x5 + 1)) x113000 x113001 x113002 x113003 x113004 x113005 x113006 x113007 x114000 x114001 x114002 x114003 x114004 x114005 x114006 x114007)) else (none)) else (none)) else ((spec_l07SameNodes.f k x113005 x114005).bind fun t118 => (if t118 = true then ((spec_l07SameNodes.f k x113006 x114006).bind fun t119 => (if t119 = true then ((spec_l07SameNodes.f k x113007 x114007).bind fun t120 => (some t120)) else (some false))) else (some false)))
end
def spec_ProductSame.f (k : Nat) (a0_0 : ByteArray) (a0_1 : Int) (l0_2 : List ByteArray) (l0_3 : List ByteArray) (l0_4 : List (S82)) (l0_5 : List (S88)) (l0_6 : List (S88)) (l0_7 : List (S88)) (a1_0 : ByteArray) (a1_1 : Int) (l1_2 : List ByteArray) (l1_3 : List ByteArray) (l1_4 : List (S82)) (l1_5 : List (S88)) (l1_6 : List (S88)) (l1_7 : List (S88)) : Option (Bool) := if a0_0.toList = a1_0.toList then (if a0_1 = a1_1 then ((spec_l07SameTexts.f k l0_2 l1_2).bind fun t114 => (if t114 = true then ((spec_l07SameTexts.f k l0_3 l1_3).bind fun t115 => (if t115 = true then (spec_ProductSame.j0 k ((l0_4.length : Int) != (l1_4.length : Int)) a0_0 a0_1 l0_2 l0_3 l0_4 l0_5 l0_6 l0_7 a1_0 a1_1 l1_2 l1_3 l1_4 l1_5 l1_6 l1_7) else (spec_ProductSame.j0 k true a0_0 a0_1 l0_2 l0_3 l0_4 l0_5 l0_6 l0_7 a1_0 a1_1 l1_2 l1_3 l1_4 l1_5 l1_6 l1_7))) else (spec_ProductSame.j0 k true a0_0 a0_1 l0_2 l0_3 l0_4 l0_5 l0_6 l0_7 a1_0 a1_1 l1_2 l1_3 l1_4 l1_5 l1_6 l1_7))) else (spec_ProductSame.j0 k true a0_0 a0_1 l0_2 l0_3 l0_4 l0_5 l0_6 l0_7 a1_0 a1_1 l1_2 l1_3 l1_4 l1_5 l1_6 l1_7)) else (spec_ProductSame.j0 k true a0_0 a0_1 l0_2 l0_3 l0_4 l0_5 l0_6 l0_7 a1_0 a1_1 l1_2 l1_3 l1_4 l1_5 l1_6 l1_7)
theorem spec_ProductSame.mono_l : ∀ k, (∀ y0 y1 y2 y3 y4 y5 y6 y7 y8 y9 y10 y11 y12 y13 y14 y15 y16, LeO (spec_ProductSame.j0 k y0 y1 y2 y3 y4 y5 y6 y7 y8 y9 y10 y11 y12 y13 y14 y15 y16) (spec_ProductSame.j0 (k + 1) y0 y1 y2 y3 y4 y5 y6 y7 y8 y9 y10 y11 y12 y13 y14 y15 y16)) ∧ (∀ y0 y1 y2 y3 y4 y5 y6 y7 y8 y9 y10 y11 y12 y13 y14 y15 y16, LeO (spec_ProductSame.l0 k y0 y1 y2 y3 y4 y5 y6 y7 y8 y9 y10 y11 y12 y13 y14 y15 y16) (spec_ProductSame.l0 (k + 1) y0 y1 y2 y3 y4 y5 y6 y7 y8 y9 y10 y11 y12 y13 y14 y15 y16))
 | 0 => ⟨fun _ _ _ _ _ _ _ _ _ _ _ _ _ _ _ _ _ r h => by simp [spec_ProductSame.j0] at h, fun _ _ _ _ _ _ _ _ _ _ _ _ _ _ _ _ _ r h => by simp [spec_ProductSame.l0] at h⟩
 | k + 1 => by
  obtain ⟨ih0, ih1⟩ := spec_ProductSame.mono_l k
  refine ⟨?_, ?_⟩
  ·intro y0 y1 y2 y3 y4 y5 y6 y7 y8 y9 y10 y11 y12 y13 y14 y15 y16
   unfold spec_ProductSame.j0
   repeat' (with_reducible first | exact ih0 .. | exact ih1 .. | exact spec_l07SameNodes.mono .. | exact spec_l07SameTexts.mono .. | exact LeO.refl _ | exact LeO.none _ | refine LeO.ite ?_ ?_ | refine LeO.bind ?_ (fun _ => ?_))
  intro y0 y1 y2 y3 y4 y5 y6 y7 y8 y9 y10 y11 y12 y13 y14 y15 y16
  unfold spec_ProductSame.l0
  repeat' (with_reducible first | exact ih0 .. | exact ih1 .. | exact spec_l07SameNodes.mono .. | exact spec_l07SameTexts.mono .. | exact LeO.refl _ | exact LeO.none _ | refine LeO.ite ?_ ?_ | refine LeO.bind ?_ (fun _ => ?_))
theorem spec_ProductSame.mono : ∀ a0 a1 a2 a3 a4 a5 a6 a7 a8 a9 a10 a11 a12 a13 a14 a15 k, LeO (spec_ProductSame.f k a0 a1 a2 a3 a4 a5 a6 a7 a8 a9 a10 a11 a12 a13 a14 a15) (spec_ProductSame.f (k + 1) a0 a1 a2 a3 a4 a5 a6 a7 a8 a9 a10 a11 a12 a13 a14 a15) := by
 intro a0 a1 a2 a3 a4 a5 a6 a7 a8 a9 a10 a11 a12 a13 a14 a15 k
 obtain ⟨ih0, ih1⟩ := spec_ProductSame.mono_l k
 unfold spec_ProductSame.f
 repeat' (with_reducible first | exact ih0 .. | exact ih1 .. | exact spec_l07SameNodes.mono .. | exact spec_l07SameTexts.mono .. | exact LeO.refl _ | exact LeO.none _ | refine LeO.ite ?_ ?_ | refine LeO.bind ?_ (fun _ => ?_))
set_option maxHeartbeats 8000000 in
set_option maxRecDepth 100000 in
theorem spec_ProductSame.calls (k : Nat) (a0_0 : ByteArray) (a0_1 : Int) (A0_2 : Option Addr) (c0_2 : Nat) (l0_2 : List ByteArray) (A0_3 : Option Addr) (c0_3 : Nat) (l0_3 : List ByteArray) (A0_4 : Option Addr) (c0_4 : Nat) (l0_4 : List (S82)) (A0_5 : Option Addr) (c0_5 : Nat) (l0_5 : List (S88)) (A0_6 : Option Addr) (c0_6 : Nat) (l0_6 : List (S88)) (A0_7 : Option Addr) (c0_7 : Nat) (l0_7 : List (S88)) (a1_0 : ByteArray) (a1_1 : Int) (A1_2 : Option Addr) (c1_2 : Nat) (l1_2 : List ByteArray) (A1_3 : Option Addr) (c1_3 : Nat) (l1_3 : List ByteArray) (A1_4 : Option Addr) (c1_4 : Nat) (l1_4 : List (S82)) (A1_5 : Option Addr) (c1_5 : Nat) (l1_5 : List (S88)) (A1_6 : Option Addr) (c1_6 : Nat) (l1_6 : List (S88)) (A1_7 : Option Addr) (c1_7 : Nat) (l1_7 : List (S88)) (r : Bool) (w : World) (hr0_2 : Kd.C Kd.string w A0_2 l0_2.length l0_2) (hc0_2 : l0_2.length ≤ c0_2) (hr0_3 : Kd.C Kd.string w A0_3 l0_3.length l0_3) (hc0_3 : l0_3.length ≤ c0_3) (hr0_4 : Kd.C k82 w A0_4 l0_4.length l0_4) (hc0_4 : l0_4.length ≤ c0_4) (hr0_5 : Kd.C k88 w A0_5 l0_5.length l0_5) (hc0_5 : l0_5.length ≤ c0_5) (hr0_6 : Kd.C k88 w A0_6 l0_6.length l0_6) (hc0_6 : l0_6.length ≤ c0_6) (hr0_7 : Kd.C k88 w A0_7 l0_7.length l0_7) (hc0_7 : l0_7.length ≤ c0_7) (hr1_2 : Kd.C Kd.string w A1_2 l1_2.length l1_2) (hc1_2 : l1_2.length ≤ c1_2) (hr1_3 : Kd.C Kd.string w A1_3 l1_3.length l1_3) (hc1_3 : l1_3.length ≤ c1_3) (hr1_4 : Kd.C k82 w A1_4 l1_4.length l1_4) (hc1_4 : l1_4.length ≤ c1_4) (hr1_5 : Kd.C k88 w A1_5 l1_5.length l1_5) (hc1_5 : l1_5.length ≤ c1_5) (hr1_6 : Kd.C k88 w A1_6 l1_6.length l1_6) (hc1_6 : l1_6.length ≤ c1_6) (hr1_7 : Kd.C k88 w A1_7 l1_7.length l1_7) (hc1_7 : l1_7.length ≤ c1_7) (h : spec_ProductSame.f k a0_0 a0_1 l0_2 l0_3 l0_4 l0_5 l0_6 l0_7 a1_0 a1_1 l1_2 l1_3 l1_4 l1_5 l1_6 l1_7 = some r) :
  Calls Try.prog 19 #[.agg #[.string a0_0, .int .i64 a0_1, .slice A0_2 l0_2.length c0_2, .slice A0_3 l0_3.length c0_3, .slice A0_4 l0_4.length c0_4, .slice A0_5 l0_5.length c0_5, .slice A0_6 l0_6.length c0_6, .slice A0_7 l0_7.length c0_7], .agg #[.string a1_0, .int .i64 a1_1, .slice A1_2 l1_2.length c1_2, .slice A1_3 l1_3.length c1_3, .slice A1_4 l1_4.length c1_4, .slice A1_5 l1_5.length c1_5, .slice A1_6 l1_6.length c1_6, .slice A1_7 l1_7.length c1_7]] w fun e w' => e = .returned (.bool r) ∧ Below w.heap.size w w' := by
 have hu41 := Try.underlying41
 have hu82 := Try.underlying82
 have HR0_2 := am hr0_2
 have HC0_2 := am hc0_2
 clear hr0_2 hc0_2
 have HR0_3 := am hr0_3
 have HC0_3 := am hc0_3
 clear hr0_3 hc0_3
 have HR0_4 := am hr0_4
 have HC0_4 := am hc0_4
 clear hr0_4 hc0_4
 have HR0_5 := am hr0_5
 have HC0_5 := am hc0_5
 clear hr0_5 hc0_5
 have HR0_6 := am hr0_6
 have HC0_6 := am hc0_6
 clear hr0_6 hc0_6
 have HR0_7 := am hr0_7
 have HC0_7 := am hc0_7
 clear hr0_7 hc0_7
 have HR1_2 := am hr1_2
 have HC1_2 := am hc1_2
 clear hr1_2 hc1_2
 have HR1_3 := am hr1_3
 have HC1_3 := am hc1_3
 clear hr1_3 hc1_3
 have HR1_4 := am hr1_4
 have HC1_4 := am hc1_4
 clear hr1_4 hc1_4
 have HR1_5 := am hr1_5
 have HC1_5 := am hc1_5
 clear hr1_5 hc1_5
 have HR1_6 := am hr1_6
 have HC1_6 := am hc1_6
 clear hr1_6 hc1_6
 have HR1_7 := am hr1_7
 have HC1_7 := am hc1_7
 clear hr1_7 hc1_7
 have HB := am (Below.refl w.heap.size w)
 have H := h
 clear h
 unfold spec_ProductSame.f at H
 have HC3 := am H; clear H
 go_enter Try.func19, Try.ntmps19
 go_upto_region 1 with (first | ((with_reducible refine gate_dst (N := 2) rfl ?_); (try (refine gate_guard (by rfl) ?_; dsimp only)); refine box_event ?hg (N := 2) ?hd (cs := #[.string a0_0, .int .i64 a0_1, .slice A0_2 l0_2.length c0_2, .slice A0_3 l0_3.length c0_3, .slice A0_4 l0_4.length c0_4, .slice A0_5 l0_5.length c0_5, .slice A0_6 l0_6.length c0_6, .slice A0_7 l0_7.length c0_7]) (t := 41) ?hr ?_; (case hd => rfl); (case hg => rfl); (case hr => first | (go_simp; done) | (go_simp; rfl)); intro gb112 hg w4 hbox hb; have BK112 := am (hbox); have GW112 := am (bsz hg : w.heap.size ≤ gb112); have GE112 := GW112; replace HB := am (below_step bl hb); clear hb hbox hg) | ((with_reducible refine gate_dst (N := 3) rfl ?_); (try (refine gate_guard (by rfl) ?_; dsimp only)); refine box_event ?hg (N := 3) ?hd (cs := #[.string a1_0, .int .i64 a1_1, .slice A1_2 l1_2.length c1_2, .slice A1_3 l1_3.length c1_3, .slice A1_4 l1_4.length c1_4, .slice A1_5 l1_5.length c1_5, .slice A1_6 l1_6.length c1_6, .slice A1_7 l1_7.length c1_7]) (t := 41) ?hr ?_; (case hd => rfl); (case hg => rfl); (case hr => first | (go_simp; done) | (go_simp; rfl)); intro gb113 hg w5 hbox hb; have BK113 := am (hbox); have GW113 := am (bsz hg : w.heap.size ≤ gb113); have GE113 := GW113; have NB112_113 := am (ne1 hg BK112.out); have NB113_112 := am NB112_113.out.symm; replace BK112 := am (bkb BK112.out hb); replace HB := am (below_step bl hb); clear hb hbox hg))
 repeat (go_quiet (first | ((with_reducible refine gate_dst (N := 2) rfl ?_); (try (refine gate_guard (by rfl) ?_; dsimp only)); refine box_event ?hg (N := 2) ?hd (cs := #[.string a0_0, .int .i64 a0_1, .slice A0_2 l0_2.length c0_2, .slice A0_3 l0_3.length c0_3, .slice A0_4 l0_4.length c0_4, .slice A0_5 l0_5.length c0_5, .slice A0_6 l0_6.length c0_6, .slice A0_7 l0_7.length c0_7]) (t := 41) ?hr ?_; (case hd => rfl); (case hg => rfl); (case hr => first | (go_simp; done) | (go_simp; rfl)); intro gb112 hg w4 hbox hb; have BK112 := am (hbox); have GW112 := am (bsz hg : w.heap.size ≤ gb112); have GE112 := GW112; replace HB := am (below_step bl hb); clear hb hbox hg) | ((with_reducible refine gate_dst (N := 3) rfl ?_); (try (refine gate_guard (by rfl) ?_; dsimp only)); refine box_event ?hg (N := 3) ?hd (cs := #[.string a1_0, .int .i64 a1_1, .slice A1_2 l1_2.length c1_2, .slice A1_3 l1_3.length c1_3, .slice A1_4 l1_4.length c1_4, .slice A1_5 l1_5.length c1_5, .slice A1_6 l1_6.length c1_6, .slice A1_7 l1_7.length c1_7]) (t := 41) ?hr ?_; (case hd => rfl); (case hg => rfl); (case hr => first | (go_simp; done) | (go_simp; rfl)); intro gb113 hg w5 hbox hb; have BK113 := am (hbox); have GW113 := am (bsz hg : w.heap.size ≤ gb113); have GE113 := GW113; have NB112_113 := am (ne1 hg BK112.out); have NB113_112 := am NB112_113.out.symm; replace BK112 := am (bkb BK112.out hb); replace HB := am (below_step bl hb); clear hb hbox hg)); go_upto_region 1 with (first | ((with_reducible refine gate_dst (N := 2) rfl ?_); (try (refine gate_guard (by rfl) ?_; dsimp only)); refine box_event ?hg (N := 2) ?hd (cs := #[.string a0_0, .int .i64 a0_1, .slice A0_2 l0_2.length c0_2, .slice A0_3 l0_3.length c0_3, .slice A0_4 l0_4.length c0_4, .slice A0_5 l0_5.length c0_5, .slice A0_6 l0_6.length c0_6, .slice A0_7 l0_7.length c0_7]) (t := 41) ?hr ?_; (case hd => rfl); (case hg => rfl); (case hr => first | (go_simp; done) | (go_simp; rfl)); intro gb112 hg w4 hbox hb; have BK112 := am (hbox); have GW112 := am (bsz hg : w.heap.size ≤ gb112); have GE112 := GW112; replace HB := am (below_step bl hb); clear hb hbox hg) | ((with_reducible refine gate_dst (N := 3) rfl ?_); (try (refine gate_guard (by rfl) ?_; dsimp only)); refine box_event ?hg (N := 3) ?hd (cs := #[.string a1_0, .int .i64 a1_1, .slice A1_2 l1_2.length c1_2, .slice A1_3 l1_3.length c1_3, .slice A1_4 l1_4.length c1_4, .slice A1_5 l1_5.length c1_5, .slice A1_6 l1_6.length c1_6, .slice A1_7 l1_7.length c1_7]) (t := 41) ?hr ?_; (case hd => rfl); (case hg => rfl); (case hr => first | (go_simp; done) | (go_simp; rfl)); intro gb113 hg w5 hbox hb; have BK113 := am (hbox); have GW113 := am (bsz hg : w.heap.size ≤ gb113); have GE113 := GW113; have NB112_113 := am (ne1 hg BK112.out); have NB113_112 := am NB112_113.out.symm; replace BK112 := am (bkb BK112.out hb); replace HB := am (below_step bl hb); clear hb hbox hg)))
 (try simp only [Act.put, z1, z2, z3])
 go_cut [42] (fun v42 wc => ∃ (kq : Nat) (x42_2 : Bool), v42 = .bool x42_2 ∧ Aside0 (spec_ProductSame.j0 kq x42_2 a0_0 a0_1 l0_2 l0_3 l0_4 l0_5 l0_6 l0_7 a1_0 a1_1 l1_2 l1_3 l1_4 l1_5 l1_6 l1_7 = some r) ∧ Aside0 (kq ≤ k) ∧ Aside0 (wc.heap[gb112]? = some (.cells #[.string a0_0, .int .i64 a0_1, (.slice A0_2 l0_2.length c0_2), (.slice A0_3 l0_3.length c0_3), (.slice A0_4 l0_4.length c0_4), (.slice A0_5 l0_5.length c0_5), (.slice A0_6 l0_6.length c0_6), (.slice A0_7 l0_7.length c0_7)] 41 (0, 0))) ∧ Aside0 (wc.heap[gb113]? = some (.cells #[.string a1_0, .int .i64 a1_1, (.slice A1_2 l1_2.length c1_2), (.slice A1_3 l1_3.length c1_3), (.slice A1_4 l1_4.length c1_4), (.slice A1_5 l1_5.length c1_5), (.slice A1_6 l1_6.length c1_6), (.slice A1_7 l1_7.length c1_7)] 41 (0, 0))) ∧ Aside0 (Below w.heap.size w wc))
 case first =>
  have H := HC3.out
  clear HC3
  revert H; refine iQ (fun c6b0 c6b1 H => ?_) fun c6 c6b0 c6b1 H => ?_
  ·(first | rw [c6b0] | (simp only [i64_w, i32_w]; rw [c6b0]) | skip)
   revert H; refine iQ (fun c7b0 c7b1 H => ?_) fun c7 c7b0 c7b1 H => ?_
   ·revert H; refine bj fun t114 A8 H => ?_
    replace H := iT H; rcases H with ⟨rfl, H⟩ | ⟨rfl, H⟩
    ·revert H; refine bj fun t115 A10 H => ?_
     replace H := iT H; rcases H with ⟨rfl, H⟩ | ⟨rfl, H⟩
     ·have H' := am H; clear H
      have hnb12 := NB112_113.out
      have hnc12 := NB113_112.out
      obtain ⟨z13_0, z13_1, z13_2, z13_3, z13_4, z13_5, z13_6, z13_7, y13_0, y13_1, y13_2, y13_3, y13_4, y13_5, y13_6, y13_7⟩ := blk8 BK112.out
      obtain ⟨z14_0, z14_1, z14_2, z14_3, z14_4, z14_5, z14_6, z14_7, y14_0, y14_1, y14_2, y14_3, y14_4, y14_5, y14_6, y14_7⟩ := blk8 BK113.out
      go_wp2_with (first | (go_at_call 53; (with_reducible refine (spec_l07SameTexts.calls _ _ _ _ _ _ _ _ _ ?side1 ?side2 ?side3 ?side4 A8.out).mono ?_); (case side1 => exact cb HR0_2.out); (case side2 => exact HC0_2.out); (case side3 => exact cb HR1_2.out); (case side4 => exact HC1_2.out); rintro e w' ⟨rfl, ⟨nd, rfl⟩⟩; (try first | exact ⟨rfl, _, dd1 _ _ _⟩ | exact ⟨rfl, _, dd2 _ _ _ _⟩)) | (go_at_call 53; (with_reducible refine (spec_l07SameTexts.calls _ _ _ _ _ _ _ _ _ ?side1 ?side2 ?side3 ?side4 A10.out).mono ?_); (case side1 => exact Kd.C_below HR0_3.out bl); (case side2 => exact HC0_3.out); (case side3 => exact Kd.C_below HR1_3.out bl); (case side4 => exact HC1_3.out); rintro e w' ⟨rfl, ⟨nd, rfl⟩⟩; (try first | exact ⟨rfl, _, dd1 _ _ _⟩ | exact ⟨rfl, _, dd2 _ _ _ _⟩)))
      repeat (go_quiet (first | (go_at_call 53; (with_reducible refine (spec_l07SameTexts.calls _ _ _ _ _ _ _ _ _ ?side1 ?side2 ?side3 ?side4 A8.out).mono ?_); (case side1 => exact cb HR0_2.out); (case side2 => exact HC0_2.out); (case side3 => exact cb HR1_2.out); (case side4 => exact HC1_2.out); rintro e w' ⟨rfl, ⟨nd, rfl⟩⟩; (try first | exact ⟨rfl, _, dd1 _ _ _⟩ | exact ⟨rfl, _, dd2 _ _ _ _⟩)) | (go_at_call 53; (with_reducible refine (spec_l07SameTexts.calls _ _ _ _ _ _ _ _ _ ?side1 ?side2 ?side3 ?side4 A10.out).mono ?_); (case side1 => exact Kd.C_below HR0_3.out bl); (case side2 => exact HC0_3.out); (case side3 => exact Kd.C_below HR1_3.out bl); (case side4 => exact HC1_3.out); rintro e w' ⟨rfl, ⟨nd, rfl⟩⟩; (try first | exact ⟨rfl, _, dd1 _ _ _⟩ | exact ⟨rfl, _, dd2 _ _ _ _⟩))); try go_wp2_with (first | (go_at_call 53; (with_reducible refine (spec_l07SameTexts.calls _ _ _ _ _ _ _ _ _ ?side1 ?side2 ?side3 ?side4 A8.out).mono ?_); (case side1 => exact cb HR0_2.out); (case side2 => exact HC0_2.out); (case side3 => exact cb HR1_2.out); (case side4 => exact HC1_2.out); rintro e w' ⟨rfl, ⟨nd, rfl⟩⟩; (try first | exact ⟨rfl, _, dd1 _ _ _⟩ | exact ⟨rfl, _, dd2 _ _ _ _⟩)) | (go_at_call 53; (with_reducible refine (spec_l07SameTexts.calls _ _ _ _ _ _ _ _ _ ?side1 ?side2 ?side3 ?side4 A10.out).mono ?_); (case side1 => exact Kd.C_below HR0_3.out bl); (case side2 => exact HC0_3.out); (case side3 => exact Kd.C_below HR1_3.out bl); (case side4 => exact HC1_3.out); rintro e w' ⟨rfl, ⟨nd, rfl⟩⟩; (try first | exact ⟨rfl, _, dd1 _ _ _⟩ | exact ⟨rfl, _, dd2 _ _ _ _⟩))))
      go_meet
      case rel => exact ⟨_, (((l0_4.length : Int) != (l1_4.length : Int))), (by first | rfl | (simp; done) | (simp [*]; done)), H', ⟨by first | omega | exact Nat.le_refl _⟩, ⟨bk BK112.out⟩, ⟨bk BK113.out⟩, ⟨bl⟩⟩
     have H' := am H; clear H
     have hnb15 := NB112_113.out
     have hnc15 := NB113_112.out
     obtain ⟨z16_0, z16_1, z16_2, z16_3, z16_4, z16_5, z16_6, z16_7, y16_0, y16_1, y16_2, y16_3, y16_4, y16_5, y16_6, y16_7⟩ := blk8 BK112.out
     obtain ⟨z17_0, z17_1, z17_2, z17_3, z17_4, z17_5, z17_6, z17_7, y17_0, y17_1, y17_2, y17_3, y17_4, y17_5, y17_6, y17_7⟩ := blk8 BK113.out
     go_wp2_with (first | (go_at_call 53; (with_reducible refine (spec_l07SameTexts.calls _ _ _ _ _ _ _ _ _ ?side1 ?side2 ?side3 ?side4 A8.out).mono ?_); (case side1 => exact cb HR0_2.out); (case side2 => exact HC0_2.out); (case side3 => exact cb HR1_2.out); (case side4 => exact HC1_2.out); rintro e w' ⟨rfl, ⟨nd, rfl⟩⟩; (try first | exact ⟨rfl, _, dd1 _ _ _⟩ | exact ⟨rfl, _, dd2 _ _ _ _⟩)) | (go_at_call 53; (with_reducible refine (spec_l07SameTexts.calls _ _ _ _ _ _ _ _ _ ?side1 ?side2 ?side3 ?side4 A10.out).mono ?_); (case side1 => exact Kd.C_below HR0_3.out bl); (case side2 => exact HC0_3.out); (case side3 => exact Kd.C_below HR1_3.out bl); (case side4 => exact HC1_3.out); rintro e w' ⟨rfl, ⟨nd, rfl⟩⟩; (try first | exact ⟨rfl, _, dd1 _ _ _⟩ | exact ⟨rfl, _, dd2 _ _ _ _⟩)))
     repeat (go_quiet (first | (go_at_call 53; (with_reducible refine (spec_l07SameTexts.calls _ _ _ _ _ _ _ _ _ ?side1 ?side2 ?side3 ?side4 A8.out).mono ?_); (case side1 => exact cb HR0_2.out); (case side2 => exact HC0_2.out); (case side3 => exact cb HR1_2.out); (case side4 => exact HC1_2.out); rintro e w' ⟨rfl, ⟨nd, rfl⟩⟩; (try first | exact ⟨rfl, _, dd1 _ _ _⟩ | exact ⟨rfl, _, dd2 _ _ _ _⟩)) | (go_at_call 53; (with_reducible refine (spec_l07SameTexts.calls _ _ _ _ _ _ _ _ _ ?side1 ?side2 ?side3 ?side4 A10.out).mono ?_); (case side1 => exact Kd.C_below HR0_3.out bl); (case side2 => exact HC0_3.out); (case side3 => exact Kd.C_below HR1_3.out bl); (case side4 => exact HC1_3.out); rintro e w' ⟨rfl, ⟨nd, rfl⟩⟩; (try first | exact ⟨rfl, _, dd1 _ _ _⟩ | exact ⟨rfl, _, dd2 _ _ _ _⟩))); try go_wp2_with (first | (go_at_call 53; (with_reducible refine (spec_l07SameTexts.calls _ _ _ _ _ _ _ _ _ ?side1 ?side2 ?side3 ?side4 A8.out).mono ?_); (case side1 => exact cb HR0_2.out); (case side2 => exact HC0_2.out); (case side3 => exact cb HR1_2.out); (case side4 => exact HC1_2.out); rintro e w' ⟨rfl, ⟨nd, rfl⟩⟩; (try first | exact ⟨rfl, _, dd1 _ _ _⟩ | exact ⟨rfl, _, dd2 _ _ _ _⟩)) | (go_at_call 53; (with_reducible refine (spec_l07SameTexts.calls _ _ _ _ _ _ _ _ _ ?side1 ?side2 ?side3 ?side4 A10.out).mono ?_); (case side1 => exact Kd.C_below HR0_3.out bl); (case side2 => exact HC0_3.out); (case side3 => exact Kd.C_below HR1_3.out bl); (case side4 => exact HC1_3.out); rintro e w' ⟨rfl, ⟨nd, rfl⟩⟩; (try first | exact ⟨rfl, _, dd1 _ _ _⟩ | exact ⟨rfl, _, dd2 _ _ _ _⟩))))
     go_meet
     case rel => exact ⟨_, (true), (by first | rfl | (simp; done) | (simp [*]; done)), H', ⟨by first | omega | exact Nat.le_refl _⟩, ⟨bk BK112.out⟩, ⟨bk BK113.out⟩, ⟨bl⟩⟩
    have H' := am H; clear H
    have hnb18 := NB112_113.out
    have hnc18 := NB113_112.out
    obtain ⟨z19_0, z19_1, z19_2, z19_3, z19_4, z19_5, z19_6, z19_7, y19_0, y19_1, y19_2, y19_3, y19_4, y19_5, y19_6, y19_7⟩ := blk8 BK112.out
    obtain ⟨z20_0, z20_1, z20_2, z20_3, z20_4, z20_5, z20_6, z20_7, y20_0, y20_1, y20_2, y20_3, y20_4, y20_5, y20_6, y20_7⟩ := blk8 BK113.out
    go_wp2_with (first | (go_at_call 53; (with_reducible refine (spec_l07SameTexts.calls _ _ _ _ _ _ _ _ _ ?side1 ?side2 ?side3 ?side4 A8.out).mono ?_); (case side1 => exact cb HR0_2.out); (case side2 => exact HC0_2.out); (case side3 => exact cb HR1_2.out); (case side4 => exact HC1_2.out); rintro e w' ⟨rfl, ⟨nd, rfl⟩⟩; (try first | exact ⟨rfl, _, dd1 _ _ _⟩ | exact ⟨rfl, _, dd2 _ _ _ _⟩)))
    repeat (go_quiet (first | (go_at_call 53; (with_reducible refine (spec_l07SameTexts.calls _ _ _ _ _ _ _ _ _ ?side1 ?side2 ?side3 ?side4 A8.out).mono ?_); (case side1 => exact cb HR0_2.out); (case side2 => exact HC0_2.out); (case side3 => exact cb HR1_2.out); (case side4 => exact HC1_2.out); rintro e w' ⟨rfl, ⟨nd, rfl⟩⟩; (try first | exact ⟨rfl, _, dd1 _ _ _⟩ | exact ⟨rfl, _, dd2 _ _ _ _⟩))); try go_wp2_with (first | (go_at_call 53; (with_reducible refine (spec_l07SameTexts.calls _ _ _ _ _ _ _ _ _ ?side1 ?side2 ?side3 ?side4 A8.out).mono ?_); (case side1 => exact cb HR0_2.out); (case side2 => exact HC0_2.out); (case side3 => exact cb HR1_2.out); (case side4 => exact HC1_2.out); rintro e w' ⟨rfl, ⟨nd, rfl⟩⟩; (try first | exact ⟨rfl, _, dd1 _ _ _⟩ | exact ⟨rfl, _, dd2 _ _ _ _⟩))))
    go_meet
    case rel => exact ⟨_, (true), (by first | rfl | (simp; done) | (simp [*]; done)), H', ⟨by first | omega | exact Nat.le_refl _⟩, ⟨bk BK112.out⟩, ⟨bk BK113.out⟩, ⟨bl⟩⟩
   have H' := am H; clear H
   have hnb21 := NB112_113.out
   have hnc21 := NB113_112.out
   obtain ⟨z22_0, z22_1, z22_2, z22_3, z22_4, z22_5, z22_6, z22_7, y22_0, y22_1, y22_2, y22_3, y22_4, y22_5, y22_6, y22_7⟩ := blk8 BK112.out
   obtain ⟨z23_0, z23_1, z23_2, z23_3, z23_4, z23_5, z23_6, z23_7, y23_0, y23_1, y23_2, y23_3, y23_4, y23_5, y23_6, y23_7⟩ := blk8 BK113.out
   go_wp2
   repeat (go_quiet (fail); try go_wp2)
   go_meet
   case rel => exact ⟨_, (true), (by first | rfl | (simp; done) | (simp [*]; done)), H', ⟨by first | omega | exact Nat.le_refl _⟩, ⟨bk BK112.out⟩, ⟨bk BK113.out⟩, ⟨bl⟩⟩
  (first | rw [c6b0] | (simp only [i64_w, i32_w]; rw [c6b0]) | skip)
  have H' := am H; clear H
  have hnb24 := NB112_113.out
  have hnc24 := NB113_112.out
  obtain ⟨z25_0, z25_1, z25_2, z25_3, z25_4, z25_5, z25_6, z25_7, y25_0, y25_1, y25_2, y25_3, y25_4, y25_5, y25_6, y25_7⟩ := blk8 BK112.out
  obtain ⟨z26_0, z26_1, z26_2, z26_3, z26_4, z26_5, z26_6, z26_7, y26_0, y26_1, y26_2, y26_3, y26_4, y26_5, y26_6, y26_7⟩ := blk8 BK113.out
  go_wp2
  repeat (go_quiet (fail); try go_wp2)
  go_meet
  case rel => exact ⟨_, (true), (by first | rfl | (simp; done) | (simp [*]; done)), H', ⟨by first | omega | exact Nat.le_refl _⟩, ⟨bk BK112.out⟩, ⟨bk BK113.out⟩, ⟨bl⟩⟩
 case rest =>
  clear HC3
  obtain ⟨kq, x42_2, rfl, HA, HJ2, BK112, BK113, HB⟩ := hcut
  cases kq with
  | zero => exact absurd HA.out (by simp [spec_ProductSame.j0])
  | succ kj2 =>
   have H := HA.out
   clear HA
   simp only [spec_ProductSame.j0] at H
   replace H := iT H; rcases H with ⟨rfl, H⟩ | ⟨rfl, H⟩
   ·obtain rfl := Option.some.inj H
    go_wp2
    repeat (go_quiet (fail); try go_wp2)
    go_ret
    exact ⟨er, bl⟩
   have H' := am H; clear H
   go_wp2
   repeat (go_quiet (fail); try go_wp2)
   go_loopg [5] kj2 (fun kq v5 w' => ∃ (x5_2 : Int), v5 = .int .i64 x5_2 ∧ Aside0 (spec_ProductSame.l0 kq x5_2 a0_0 a0_1 l0_2 l0_3 l0_4 l0_5 l0_6 l0_7 a1_0 a1_1 l1_2 l1_3 l1_4 l1_5 l1_6 l1_7 = some r) ∧ Aside0 (kq ≤ kj2) ∧ Aside0 (w'.heap[gb112]? = some (.cells #[.string a0_0, .int .i64 a0_1, (.slice A0_2 l0_2.length c0_2), (.slice A0_3 l0_3.length c0_3), (.slice A0_4 l0_4.length c0_4), (.slice A0_5 l0_5.length c0_5), (.slice A0_6 l0_6.length c0_6), (.slice A0_7 l0_7.length c0_7)] 41 (0, 0))) ∧ Aside0 (w'.heap[gb113]? = some (.cells #[.string a1_0, .int .i64 a1_1, (.slice A1_2 l1_2.length c1_2), (.slice A1_3 l1_3.length c1_3), (.slice A1_4 l1_4.length c1_4), (.slice A1_5 l1_5.length c1_5), (.slice A1_6 l1_6.length c1_6), (.slice A1_7 l1_7.length c1_7)] 41 (0, 0))) ∧ Aside0 (Below w.heap.size w w'))
   case atStart => exact ⟨(0), (by first | rfl | (simp; done) | (simp [*]; done)), H', ⟨Nat.le_refl _⟩, ⟨bk BK112.out⟩, ⟨bk BK113.out⟩, ⟨bl⟩⟩
   case round =>
    clear H'
    obtain ⟨x5_2, rfl, HA, HK2, BK112, BK113, HB⟩ := hrel
    cases gk with
    | zero => exact absurd HA.out (by simp [spec_ProductSame.l0])
    | succ k2 =>
     have H := HA.out
     clear HA
     simp only [spec_ProductSame.l0] at H
     revert H; refine iDb (fun c28b0 H => ?_) fun c28b0 H => ?_
     ·revert H; refine i1 fun c29b0 H => ?_
      revert H; refine i1 fun c30b0 H => ?_
      revert H; refine iB (fun c31 H => ?_) fun c31 H => ?_
      ·have c31b0 : (!((((rd_T82 l0_4 x5_2).f0).toList) == (((rd_T82 l1_4 x5_2).f0).toList)) || (!(((rd_T82 l0_4 x5_2).f1) == ((rd_T82 l1_4 x5_2).f1)) || (!(((rd_T82 l0_4 x5_2).f2) == ((rd_T82 l1_4 x5_2).f2)) || (!(((rd_T82 l0_4 x5_2).f3) == ((rd_T82 l1_4 x5_2).f3)))))) = true := c31
       clear c31
       obtain rfl := Option.some.inj H
       have hnb32 := NB112_113.out
       have hnc32 := NB113_112.out
       obtain ⟨z33_0, z33_1, z33_2, z33_3, z33_4, z33_5, z33_6, z33_7, y33_0, y33_1, y33_2, y33_3, y33_4, y33_5, y33_6, y33_7⟩ := blk8 BK112.out
       have p116 : 0 ≤ (x5_2 : Int) := ode
       have q116 : x5_2 < (l0_4.length : Int) := ode
       obtain ⟨ad116, e116, hx116_0, hx116_1, hx116_2, hx116_3⟩ := at_T82 HR0_4.out x5_2 p116 q116
       cases e116
       obtain ⟨hx116_0, hx116_1, hx116_2, hx116_3⟩ := hb4 HB.out hx116_0 hx116_1 hx116_2 hx116_3
       replace p116 := eq_true p116
       replace q116 := eq_true q116
       obtain ⟨z34_0, z34_1, z34_2, z34_3, z34_4, z34_5, z34_6, z34_7, y34_0, y34_1, y34_2, y34_3, y34_4, y34_5, y34_6, y34_7⟩ := blk8 BK113.out
       have p117 : 0 ≤ (x5_2 : Int) := ode
       have q117 : x5_2 < (l1_4.length : Int) := ode
       obtain ⟨ad117, e117, hx117_0, hx117_1, hx117_2, hx117_3⟩ := at_T82 HR1_4.out x5_2 p117 q117
       cases e117
       obtain ⟨hx117_0, hx117_1, hx117_2, hx117_3⟩ := hb4 HB.out hx117_0 hx117_1 hx117_2 hx117_3
       replace p117 := eq_true p117
       replace q117 := eq_true q117
       go_wp2
       repeat (go_quiet (fail); try go_wp2)
       go_ret
       exact ⟨er, bl⟩
      have c31b0 : (!((((rd_T82 l0_4 x5_2).f0).toList) == (((rd_T82 l1_4 x5_2).f0).toList)) || (!(((rd_T82 l0_4 x5_2).f1) == ((rd_T82 l1_4 x5_2).f1)) || (!(((rd_T82 l0_4 x5_2).f2) == ((rd_T82 l1_4 x5_2).f2)) || (!(((rd_T82 l0_4 x5_2).f3) == ((rd_T82 l1_4 x5_2).f3)))))) = false := by simpa using c31
      clear c31
      have H' := am H; clear H
      have hnb35 := NB112_113.out
      have hnc35 := NB113_112.out
      obtain ⟨z36_0, z36_1, z36_2, z36_3, z36_4, z36_5, z36_6, z36_7, y36_0, y36_1, y36_2, y36_3, y36_4, y36_5, y36_6, y36_7⟩ := blk8 BK112.out
      have p116 : 0 ≤ (x5_2 : Int) := ode
      have q116 : x5_2 < (l0_4.length : Int) := ode
      obtain ⟨ad116, e116, hx116_0, hx116_1, hx116_2, hx116_3⟩ := at_T82 HR0_4.out x5_2 p116 q116
      cases e116
      obtain ⟨hx116_0, hx116_1, hx116_2, hx116_3⟩ := hb4 HB.out hx116_0 hx116_1 hx116_2 hx116_3
      replace p116 := eq_true p116
      replace q116 := eq_true q116
      obtain ⟨z37_0, z37_1, z37_2, z37_3, z37_4, z37_5, z37_6, z37_7, y37_0, y37_1, y37_2, y37_3, y37_4, y37_5, y37_6, y37_7⟩ := blk8 BK113.out
      have p117 : 0 ≤ (x5_2 : Int) := ode
      have q117 : x5_2 < (l1_4.length : Int) := ode
      obtain ⟨ad117, e117, hx117_0, hx117_1, hx117_2, hx117_3⟩ := at_T82 HR1_4.out x5_2 p117 q117
      cases e117
      obtain ⟨hx117_0, hx117_1, hx117_2, hx117_3⟩ := hb4 HB.out hx117_0 hx117_1 hx117_2 hx117_3
      replace p117 := eq_true p117
      replace q117 := eq_true q117
      go_wp2
      repeat (go_quiet (fail); try go_wp2)
      go_roundg k2
      case measure => have := HJ2.out; have := HK2.out; omega
      case rel => exact ⟨(wrap64 (x5_2 + 1)), (by first | rfl | (simp; done) | (simp [*]; done)), H', ⟨by have := HJ2.out; have := HK2.out; omega⟩, ⟨bk BK112.out⟩, ⟨bk BK113.out⟩, ⟨bl⟩⟩
     revert H; refine bj fun t118 A38 H => ?_
     replace H := iT H; rcases H with ⟨rfl, H⟩ | ⟨rfl, H⟩
     ·revert H; refine bj fun t119 A40 H => ?_
      replace H := iT H; rcases H with ⟨rfl, H⟩ | ⟨rfl, H⟩
      ·revert H; refine bj fun t120 A42 H => ?_
       obtain rfl := Option.some.inj H
       have hnb43 := NB112_113.out
       have hnc43 := NB113_112.out
       obtain ⟨z44_0, z44_1, z44_2, z44_3, z44_4, z44_5, z44_6, z44_7, y44_0, y44_1, y44_2, y44_3, y44_4, y44_5, y44_6, y44_7⟩ := blk8 BK112.out
       obtain ⟨z45_0, z45_1, z45_2, z45_3, z45_4, z45_5, z45_6, z45_7, y45_0, y45_1, y45_2, y45_3, y45_4, y45_5, y45_6, y45_7⟩ := blk8 BK113.out
       go_wp2_with (first | (go_at_call 54; (with_reducible refine (spec_l07SameNodes.calls _ _ _ _ _ _ _ _ _ ?side1 ?side2 ?side3 ?side4 A38.out).mono ?_); (case side1 => exact cb HR0_5.out); (case side2 => exact HC0_5.out); (case side3 => exact cb HR1_5.out); (case side4 => exact HC1_5.out); rintro e w' ⟨rfl, ⟨nd, rfl⟩⟩; (try first | exact ⟨rfl, _, dd1 _ _ _⟩ | exact ⟨rfl, _, dd2 _ _ _ _⟩)) | (go_at_call 54; (with_reducible refine (spec_l07SameNodes.calls _ _ _ _ _ _ _ _ _ ?side1 ?side2 ?side3 ?side4 A40.out).mono ?_); (case side1 => exact Kd.C_below HR0_6.out bl); (case side2 => exact HC0_6.out); (case side3 => exact Kd.C_below HR1_6.out bl); (case side4 => exact HC1_6.out); rintro e w' ⟨rfl, ⟨nd, rfl⟩⟩; (try first | exact ⟨rfl, _, dd1 _ _ _⟩ | exact ⟨rfl, _, dd2 _ _ _ _⟩)) | (go_at_call 54; (with_reducible refine (spec_l07SameNodes.calls _ _ _ _ _ _ _ _ _ ?side1 ?side2 ?side3 ?side4 A42.out).mono ?_); (case side1 => exact Kd.C_below HR0_7.out bl); (case side2 => exact HC0_7.out); (case side3 => exact Kd.C_below HR1_7.out bl); (case side4 => exact HC1_7.out); rintro e w' ⟨rfl, ⟨nd, rfl⟩⟩; (try first | exact ⟨rfl, _, dd1 _ _ _⟩ | exact ⟨rfl, _, dd2 _ _ _ _⟩)))
       repeat (go_quiet (first | (go_at_call 54; (with_reducible refine (spec_l07SameNodes.calls _ _ _ _ _ _ _ _ _ ?side1 ?side2 ?side3 ?side4 A38.out).mono ?_); (case side1 => exact cb HR0_5.out); (case side2 => exact HC0_5.out); (case side3 => exact cb HR1_5.out); (case side4 => exact HC1_5.out); rintro e w' ⟨rfl, ⟨nd, rfl⟩⟩; (try first | exact ⟨rfl, _, dd1 _ _ _⟩ | exact ⟨rfl, _, dd2 _ _ _ _⟩)) | (go_at_call 54; (with_reducible refine (spec_l07SameNodes.calls _ _ _ _ _ _ _ _ _ ?side1 ?side2 ?side3 ?side4 A40.out).mono ?_); (case side1 => exact Kd.C_below HR0_6.out bl); (case side2 => exact HC0_6.out); (case side3 => exact Kd.C_below HR1_6.out bl); (case side4 => exact HC1_6.out); rintro e w' ⟨rfl, ⟨nd, rfl⟩⟩; (try first | exact ⟨rfl, _, dd1 _ _ _⟩ | exact ⟨rfl, _, dd2 _ _ _ _⟩)) | (go_at_call 54; (with_reducible refine (spec_l07SameNodes.calls _ _ _ _ _ _ _ _ _ ?side1 ?side2 ?side3 ?side4 A42.out).mono ?_); (case side1 => exact Kd.C_below HR0_7.out bl); (case side2 => exact HC0_7.out); (case side3 => exact Kd.C_below HR1_7.out bl); (case side4 => exact HC1_7.out); rintro e w' ⟨rfl, ⟨nd, rfl⟩⟩; (try first | exact ⟨rfl, _, dd1 _ _ _⟩ | exact ⟨rfl, _, dd2 _ _ _ _⟩))); try go_wp2_with (first | (go_at_call 54; (with_reducible refine (spec_l07SameNodes.calls _ _ _ _ _ _ _ _ _ ?side1 ?side2 ?side3 ?side4 A38.out).mono ?_); (case side1 => exact cb HR0_5.out); (case side2 => exact HC0_5.out); (case side3 => exact cb HR1_5.out); (case side4 => exact HC1_5.out); rintro e w' ⟨rfl, ⟨nd, rfl⟩⟩; (try first | exact ⟨rfl, _, dd1 _ _ _⟩ | exact ⟨rfl, _, dd2 _ _ _ _⟩)) | (go_at_call 54; (with_reducible refine (spec_l07SameNodes.calls _ _ _ _ _ _ _ _ _ ?side1 ?side2 ?side3 ?side4 A40.out).mono ?_); (case side1 => exact Kd.C_below HR0_6.out bl); (case side2 => exact HC0_6.out); (case side3 => exact Kd.C_below HR1_6.out bl); (case side4 => exact HC1_6.out); rintro e w' ⟨rfl, ⟨nd, rfl⟩⟩; (try first | exact ⟨rfl, _, dd1 _ _ _⟩ | exact ⟨rfl, _, dd2 _ _ _ _⟩)) | (go_at_call 54; (with_reducible refine (spec_l07SameNodes.calls _ _ _ _ _ _ _ _ _ ?side1 ?side2 ?side3 ?side4 A42.out).mono ?_); (case side1 => exact Kd.C_below HR0_7.out bl); (case side2 => exact HC0_7.out); (case side3 => exact Kd.C_below HR1_7.out bl); (case side4 => exact HC1_7.out); rintro e w' ⟨rfl, ⟨nd, rfl⟩⟩; (try first | exact ⟨rfl, _, dd1 _ _ _⟩ | exact ⟨rfl, _, dd2 _ _ _ _⟩))))
       go_ret
       exact ⟨er, bl⟩
      obtain rfl := Option.some.inj H
      have hnb46 := NB112_113.out
      have hnc46 := NB113_112.out
      obtain ⟨z47_0, z47_1, z47_2, z47_3, z47_4, z47_5, z47_6, z47_7, y47_0, y47_1, y47_2, y47_3, y47_4, y47_5, y47_6, y47_7⟩ := blk8 BK112.out
      obtain ⟨z48_0, z48_1, z48_2, z48_3, z48_4, z48_5, z48_6, z48_7, y48_0, y48_1, y48_2, y48_3, y48_4, y48_5, y48_6, y48_7⟩ := blk8 BK113.out
      go_wp2_with (first | (go_at_call 54; (with_reducible refine (spec_l07SameNodes.calls _ _ _ _ _ _ _ _ _ ?side1 ?side2 ?side3 ?side4 A38.out).mono ?_); (case side1 => exact cb HR0_5.out); (case side2 => exact HC0_5.out); (case side3 => exact cb HR1_5.out); (case side4 => exact HC1_5.out); rintro e w' ⟨rfl, ⟨nd, rfl⟩⟩; (try first | exact ⟨rfl, _, dd1 _ _ _⟩ | exact ⟨rfl, _, dd2 _ _ _ _⟩)) | (go_at_call 54; (with_reducible refine (spec_l07SameNodes.calls _ _ _ _ _ _ _ _ _ ?side1 ?side2 ?side3 ?side4 A40.out).mono ?_); (case side1 => exact Kd.C_below HR0_6.out bl); (case side2 => exact HC0_6.out); (case side3 => exact Kd.C_below HR1_6.out bl); (case side4 => exact HC1_6.out); rintro e w' ⟨rfl, ⟨nd, rfl⟩⟩; (try first | exact ⟨rfl, _, dd1 _ _ _⟩ | exact ⟨rfl, _, dd2 _ _ _ _⟩)))
      repeat (go_quiet (first | (go_at_call 54; (with_reducible refine (spec_l07SameNodes.calls _ _ _ _ _ _ _ _ _ ?side1 ?side2 ?side3 ?side4 A38.out).mono ?_); (case side1 => exact cb HR0_5.out); (case side2 => exact HC0_5.out); (case side3 => exact cb HR1_5.out); (case side4 => exact HC1_5.out); rintro e w' ⟨rfl, ⟨nd, rfl⟩⟩; (try first | exact ⟨rfl, _, dd1 _ _ _⟩ | exact ⟨rfl, _, dd2 _ _ _ _⟩)) | (go_at_call 54; (with_reducible refine (spec_l07SameNodes.calls _ _ _ _ _ _ _ _ _ ?side1 ?side2 ?side3 ?side4 A40.out).mono ?_); (case side1 => exact Kd.C_below HR0_6.out bl); (case side2 => exact HC0_6.out); (case side3 => exact Kd.C_below HR1_6.out bl); (case side4 => exact HC1_6.out); rintro e w' ⟨rfl, ⟨nd, rfl⟩⟩; (try first | exact ⟨rfl, _, dd1 _ _ _⟩ | exact ⟨rfl, _, dd2 _ _ _ _⟩))); try go_wp2_with (first | (go_at_call 54; (with_reducible refine (spec_l07SameNodes.calls _ _ _ _ _ _ _ _ _ ?side1 ?side2 ?side3 ?side4 A38.out).mono ?_); (case side1 => exact cb HR0_5.out); (case side2 => exact HC0_5.out); (case side3 => exact cb HR1_5.out); (case side4 => exact HC1_5.out); rintro e w' ⟨rfl, ⟨nd, rfl⟩⟩; (try first | exact ⟨rfl, _, dd1 _ _ _⟩ | exact ⟨rfl, _, dd2 _ _ _ _⟩)) | (go_at_call 54; (with_reducible refine (spec_l07SameNodes.calls _ _ _ _ _ _ _ _ _ ?side1 ?side2 ?side3 ?side4 A40.out).mono ?_); (case side1 => exact Kd.C_below HR0_6.out bl); (case side2 => exact HC0_6.out); (case side3 => exact Kd.C_below HR1_6.out bl); (case side4 => exact HC1_6.out); rintro e w' ⟨rfl, ⟨nd, rfl⟩⟩; (try first | exact ⟨rfl, _, dd1 _ _ _⟩ | exact ⟨rfl, _, dd2 _ _ _ _⟩))))
      go_ret
      exact ⟨er, bl⟩
     obtain rfl := Option.some.inj H
     have hnb49 := NB112_113.out
     have hnc49 := NB113_112.out
     obtain ⟨z50_0, z50_1, z50_2, z50_3, z50_4, z50_5, z50_6, z50_7, y50_0, y50_1, y50_2, y50_3, y50_4, y50_5, y50_6, y50_7⟩ := blk8 BK112.out
     obtain ⟨z51_0, z51_1, z51_2, z51_3, z51_4, z51_5, z51_6, z51_7, y51_0, y51_1, y51_2, y51_3, y51_4, y51_5, y51_6, y51_7⟩ := blk8 BK113.out
     go_wp2_with (first | (go_at_call 54; (with_reducible refine (spec_l07SameNodes.calls _ _ _ _ _ _ _ _ _ ?side1 ?side2 ?side3 ?side4 A38.out).mono ?_); (case side1 => exact cb HR0_5.out); (case side2 => exact HC0_5.out); (case side3 => exact cb HR1_5.out); (case side4 => exact HC1_5.out); rintro e w' ⟨rfl, ⟨nd, rfl⟩⟩; (try first | exact ⟨rfl, _, dd1 _ _ _⟩ | exact ⟨rfl, _, dd2 _ _ _ _⟩)))
     repeat (go_quiet (first | (go_at_call 54; (with_reducible refine (spec_l07SameNodes.calls _ _ _ _ _ _ _ _ _ ?side1 ?side2 ?side3 ?side4 A38.out).mono ?_); (case side1 => exact cb HR0_5.out); (case side2 => exact HC0_5.out); (case side3 => exact cb HR1_5.out); (case side4 => exact HC1_5.out); rintro e w' ⟨rfl, ⟨nd, rfl⟩⟩; (try first | exact ⟨rfl, _, dd1 _ _ _⟩ | exact ⟨rfl, _, dd2 _ _ _ _⟩))); try go_wp2_with (first | (go_at_call 54; (with_reducible refine (spec_l07SameNodes.calls _ _ _ _ _ _ _ _ _ ?side1 ?side2 ?side3 ?side4 A38.out).mono ?_); (case side1 => exact cb HR0_5.out); (case side2 => exact HC0_5.out); (case side3 => exact cb HR1_5.out); (case side4 => exact HC1_5.out); rintro e w' ⟨rfl, ⟨nd, rfl⟩⟩; (try first | exact ⟨rfl, _, dd1 _ _ _⟩ | exact ⟨rfl, _, dd2 _ _ _ _⟩))))
     go_ret
     exact ⟨er, bl⟩

end Go.Proofs.Ytpblcdafmpfemaa.PFnExactProductSame
