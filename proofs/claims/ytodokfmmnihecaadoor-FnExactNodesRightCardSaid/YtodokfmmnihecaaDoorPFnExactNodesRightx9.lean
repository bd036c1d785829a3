-- laid by seedprint.py, a program of this session, over contracts that it gives by hand; Lean checks it
-- dented
import Derived.Test.YtodokfmmnihecaaDoorPFnExactNodesRightx0
import Derived.Test.YtodokfmmnihecaaDoorPFnExactNodesRightx5
import Derived.Test.YtodokfmmnihecaaDoorPFnExactNodesRightx7
import Derived.Test.YtodokfmmnihecaaDoorPFnExactNodesRightx8
namespace Go.Proofs.YtodokfmmnihecaaDoor.PFnExactNodesRight
open Go.RowKit Go.Proofs.YtodokfmmnihecaaDoorW.PrintWords Go.Proofs.YtodokfmmnihecaaDoorW.PrintLast Go.Proofs.YtodokfmmnihecaaDoorW.PrintMore
attribute [local go_sem] max2_int min2_int max_two min_two max_three min_three max_four min_four   -- for this text's walks alone
set_option linter.unusedVariables false
set_option linter.unusedSimpArgs false

/-! ### impl_tree_kidsAre: function 22 -/
mutual
def impl_tree_kidsAre.l0 : Nat → ByteArray → List (S37) → Int → Int → Option (Bool)
 | 0, _, _, _, _ => none
 | k + 1, x1, x14, x15, x16 => if x16 < x15 then (if 0 ≤ x16 then (if x16 < (x14.length : Int) then (if x16 < (x1.size : Int) then (if (bt x1 x16) = 101 then ((impl_tree_isExpr.f (impl_tree_kidsAre.f k) k ((rd_T37 x14 x16).f0.f0) ((rd_T37 x14 x16).f0.f1) ((rd_T37 x14 x16).f0.f2) ((rd_T37 x14 x16).f0.f3) ((rd_T37 x14 x16).f0.f4) ((rd_T37 x14 x16).f1) ((rd_T37 x14 x16).f2) ((rd_T37 x14 x16).f3)).bind fun t248 => (impl_tree_kidsAre.j1 k x1 x16 x14 x15 x16 (!t248) ((rd_T37 x14 x16).f0.f0) ((rd_T37 x14 x16).f0.f1) ((rd_T37 x14 x16).f0.f2) ((rd_T37 x14 x16).f0.f3) ((rd_T37 x14 x16).f0.f4) ((rd_T37 x14 x16).f1) ((rd_T37 x14 x16).f2) ((rd_T37 x14 x16).f3))) else (impl_tree_kidsAre.j1 k x1 x16 x14 x15 x16 false ((rd_T37 x14 x16).f0.f0) ((rd_T37 x14 x16).f0.f1) ((rd_T37 x14 x16).f0.f2) ((rd_T37 x14 x16).f0.f3) ((rd_T37 x14 x16).f0.f4) ((rd_T37 x14 x16).f1) ((rd_T37 x14 x16).f2) ((rd_T37 x14 x16).f3))) else (none)) else (none)) else (none)) else (some true)
def impl_tree_kidsAre.j1 : Nat → ByteArray → Int → List (S37) → Int → Int → Bool → Int → ByteArray → ByteArray → Int → Int → Int → List (S37) → Int → Option (Bool)
 | 0, _, _, _, _, _, _, _, _, _, _, _, _, _, _ => none
 | k + 1, x1, x5, x14, x15, x16, x21, x248000, x248001, x248002, x248003, x248004, x248005, x248006, x248007 => if x21 = true then (some false) else (if 0 ≤ x5 then (if x5 < (x1.size : Int) then (if (bt x1 x5) = 115 then ((impl_tree_isStatement.f (impl_tree_kidsAre.f k) k x248000 x248001 x248002 x248003 x248004 x248005 x248006 x248007).bind fun t249 => (impl_tree_kidsAre.j2 k x1 x5 x14 x15 x16 (!t249) x248000 x248001 x248002 x248003 x248004 x248005 x248006 x248007)) else (impl_tree_kidsAre.j2 k x1 x5 x14 x15 x16 false x248000 x248001 x248002 x248003 x248004 x248005 x248006 x248007)) else (none)) else (none))
def impl_tree_kidsAre.j2 : Nat → ByteArray → Int → List (S37) → Int → Int → Bool → Int → ByteArray → ByteArray → Int → Int → Int → List (S37) → Int → Option (Bool)
 | 0, _, _, _, _, _, _, _, _, _, _, _, _, _, _ => none
 | k + 1, x1, x5, x14, x15, x16, x21, x248000, x248001, x248002, x248003, x248004, x248005, x248006, x248007 => if x21 = true then (some false) else (if 0 ≤ x5 then (if x5 < (x1.size : Int) then (if (bt x1 x5) = 98 then (if x248000 = 27 then ((impl_tree_isStatement.f (impl_tree_kidsAre.f k) k x248000 x248001 x248002 x248003 x248004 x248005 x248006 x248007).bind fun t250 => (if t250 = true then (impl_tree_kidsAre.l0 k x1 x14 x15 (wrap64 (x16 + 1))) else (some false))) else (some false)) else (impl_tree_kidsAre.l0 k x1 x14 x15 (wrap64 (x16 + 1)))) else (none)) else (none))
def impl_tree_kidsAre.f : Nat → Int → ByteArray → ByteArray → Int → Int → Int → List (S37) → Int → ByteArray → Option (Bool)
 | 0, _, _, _, _, _, _, _, _, _ => none
 | k + 1, a0_0, a0_1, a0_2, a0_3, a0_4, a0_5, l0_6, a0_7, a1 => if (l0_6.length : Int) = (a1.size : Int) then (impl_tree_kidsAre.l0 k a1 l0_6 (l0_6.length : Int) 0) else (some false)
end
theorem impl_tree_kidsAre.mono_l : ∀ k, (∀ y0 y1 y2 y3 y4 y5 y6 y7 y8, LeO (impl_tree_kidsAre.f k y0 y1 y2 y3 y4 y5 y6 y7 y8) (impl_tree_kidsAre.f (k + 1) y0 y1 y2 y3 y4 y5 y6 y7 y8)) ∧ (∀ y0 y1 y2 y3, LeO (impl_tree_kidsAre.l0 k y0 y1 y2 y3) (impl_tree_kidsAre.l0 (k + 1) y0 y1 y2 y3)) ∧ (∀ y0 y1 y2 y3 y4 y5 y6 y7 y8 y9 y10 y11 y12 y13, LeO (impl_tree_kidsAre.j1 k y0 y1 y2 y3 y4 y5 y6 y7 y8 y9 y10 y11 y12 y13) (impl_tree_kidsAre.j1 (k + 1) y0 y1 y2 y3 y4 y5 y6 y7 y8 y9 y10 y11 y12 y13)) ∧ (∀ y0 y1 y2 y3 y4 y5 y6 y7 y8 y9 y10 y11 y12 y13, LeO (impl_tree_kidsAre.j2 k y0 y1 y2 y3 y4 y5 y6 y7 y8 y9 y10 y11 y12 y13) (impl_tree_kidsAre.j2 (k + 1) y0 y1 y2 y3 y4 y5 y6 y7 y8 y9 y10 y11 y12 y13))
 | 0 => ⟨fun _ _ _ _ _ _ _ _ _ r h => by simp [impl_tree_kidsAre.f] at h, fun _ _ _ _ r h => by simp [impl_tree_kidsAre.l0] at h, fun _ _ _ _ _ _ _ _ _ _ _ _ _ _ r h => by simp [impl_tree_kidsAre.j1] at h, fun _ _ _ _ _ _ _ _ _ _ _ _ _ _ r h => by simp [impl_tree_kidsAre.j2] at h⟩
 | k + 1 => by
  obtain ⟨ih0, ih1, ih2, ih3⟩ := impl_tree_kidsAre.mono_l k
  refine ⟨?_, ?_, ?_, ?_⟩
  ·intro y0 y1 y2 y3 y4 y5 y6 y7 y8
   unfold impl_tree_kidsAre.f
   repeat' first
   | (with_reducible exact ih0 _ _ _ _ _ _ _ _ _)
   | (with_reducible exact ih1 _ _ _ _)
   | (with_reducible exact ih2 _ _ _ _ _ _ _ _ _ _ _ _ _ _)
   | (with_reducible exact ih3 _ _ _ _ _ _ _ _ _ _ _ _ _ _)
   | (with_reducible exact impl_tree_isExpr.mono _ _ ih0 _ _ _ _ _ _ _ _ _)
   | (with_reducible exact impl_tree_isStatement.mono _ _ ih0 _ _ _ _ _ _ _ _ _)
   | (with_reducible exact LeO.refl _)
   | (with_reducible exact LeO.none _)
   | (with_reducible refine LeO.ite ?_ ?_)
   | (with_reducible refine LeO.bind ?_ (fun _ => ?_))
   | exact ih0 _ _ _ _ _ _ _ _ _
   | exact ih1 _ _ _ _
   | exact ih2 _ _ _ _ _ _ _ _ _ _ _ _ _ _
   | exact ih3 _ _ _ _ _ _ _ _ _ _ _ _ _ _
   | exact impl_tree_isExpr.mono _ _ ih0 _ _ _ _ _ _ _ _ _
   | exact impl_tree_isStatement.mono _ _ ih0 _ _ _ _ _ _ _ _ _
   | exact LeO.none _
   | refine LeO.ite ?_ ?_
   | refine LeO.bind ?_ (fun _ => ?_)
  ·intro y0 y1 y2 y3
   unfold impl_tree_kidsAre.l0
   repeat' first
   | (with_reducible exact ih0 _ _ _ _ _ _ _ _ _)
   | (with_reducible exact ih1 _ _ _ _)
   | (with_reducible exact ih2 _ _ _ _ _ _ _ _ _ _ _ _ _ _)
   | (with_reducible exact ih3 _ _ _ _ _ _ _ _ _ _ _ _ _ _)
   | (with_reducible exact impl_tree_isExpr.mono _ _ ih0 _ _ _ _ _ _ _ _ _)
   | (with_reducible exact impl_tree_isStatement.mono _ _ ih0 _ _ _ _ _ _ _ _ _)
   | (with_reducible exact LeO.refl _)
   | (with_reducible exact LeO.none _)
   | (with_reducible refine LeO.ite ?_ ?_)
   | (with_reducible refine LeO.bind ?_ (fun _ => ?_))
   | exact ih0 _ _ _ _ _ _ _ _ _
   | exact ih1 _ _ _ _
   | exact ih2 _ _ _ _ _ _ _ _ _ _ _ _ _ _
   | exact ih3 _ _ _ _ _ _ _ _ _ _ _ _ _ _
   | exact impl_tree_isExpr.mono _ _ ih0 _ _ _ _ _ _ _ _ _
   | exact impl_tree_isStatement.mono _ _ ih0 _ _ _ _ _ _ _ _ _
   | exact LeO.none _
   | refine LeO.ite ?_ ?_
   | refine LeO.bind ?_ (fun _ => ?_)
  ·intro y0 y1 y2 y3 y4 y5 y6 y7 y8 y9 y10 y11 y12 y13
   unfold impl_tree_kidsAre.j1
   repeat' first
   | (with_reducible exact ih0 _ _ _ _ _ _ _ _ _)
   | (with_reducible exact ih1 _ _ _ _)
   | (with_reducible exact ih2 _ _ _ _ _ _ _ _ _ _ _ _ _ _)
   | (with_reducible exact ih3 _ _ _ _ _ _ _ _ _ _ _ _ _ _)
   | (with_reducible exact impl_tree_isExpr.mono _ _ ih0 _ _ _ _ _ _ _ _ _)
   | (with_reducible exact impl_tree_isStatement.mono _ _ ih0 _ _ _ _ _ _ _ _ _)
   | (with_reducible exact LeO.refl _)
   | (with_reducible exact LeO.none _)
   | (with_reducible refine LeO.ite ?_ ?_)
   | (with_reducible refine LeO.bind ?_ (fun _ => ?_))
   | exact ih0 _ _ _ _ _ _ _ _ _
   | exact ih1 _ _ _ _
   | exact ih2 _ _ _ _ _ _ _ _ _ _ _ _ _ _
   | exact ih3 _ _ _ _ _ _ _ _ _ _ _ _ _ _
   | exact impl_tree_isExpr.mono _ _ ih0 _ _ _ _ _ _ _ _ _
   | exact impl_tree_isStatement.mono _ _ ih0 _ _ _ _ _ _ _ _ _
   | exact LeO.none _
   | refine LeO.ite ?_ ?_
   | refine LeO.bind ?_ (fun _ => ?_)
  ·intro y0 y1 y2 y3 y4 y5 y6 y7 y8 y9 y10 y11 y12 y13
   unfold impl_tree_kidsAre.j2
   repeat' first
   | (with_reducible exact ih0 _ _ _ _ _ _ _ _ _)
   | (with_reducible exact ih1 _ _ _ _)
   | (with_reducible exact ih2 _ _ _ _ _ _ _ _ _ _ _ _ _ _)
   | (with_reducible exact ih3 _ _ _ _ _ _ _ _ _ _ _ _ _ _)
   | (with_reducible exact impl_tree_isExpr.mono _ _ ih0 _ _ _ _ _ _ _ _ _)
   | (with_reducible exact impl_tree_isStatement.mono _ _ ih0 _ _ _ _ _ _ _ _ _)
   | (with_reducible exact LeO.refl _)
   | (with_reducible exact LeO.none _)
   | (with_reducible refine LeO.ite ?_ ?_)
   | (with_reducible refine LeO.bind ?_ (fun _ => ?_))
   | exact ih0 _ _ _ _ _ _ _ _ _
   | exact ih1 _ _ _ _
   | exact ih2 _ _ _ _ _ _ _ _ _ _ _ _ _ _
   | exact ih3 _ _ _ _ _ _ _ _ _ _ _ _ _ _
   | exact impl_tree_isExpr.mono _ _ ih0 _ _ _ _ _ _ _ _ _
   | exact impl_tree_isStatement.mono _ _ ih0 _ _ _ _ _ _ _ _ _
   | exact LeO.none _
   | refine LeO.ite ?_ ?_
   | refine LeO.bind ?_ (fun _ => ?_)
theorem impl_tree_kidsAre.mono : ∀ a0 a1 a2 a3 a4 a5 a6 a7 a8 k, LeO (impl_tree_kidsAre.f k a0 a1 a2 a3 a4 a5 a6 a7 a8) (impl_tree_kidsAre.f (k + 1) a0 a1 a2 a3 a4 a5 a6 a7 a8) := by
 intro a0 a1 a2 a3 a4 a5 a6 a7 a8 k
 obtain ⟨ih0, ih1, ih2, ih3⟩ := impl_tree_kidsAre.mono_l k
 exact ih0 a0 a1 a2 a3 a4 a5 a6 a7 a8
set_option maxHeartbeats 8000000 in
set_option maxRecDepth 100000 in
theorem impl_tree_kidsAre.calls (k : Nat) : ∀ (a0_0 : Int) (a0_1 : ByteArray) (a0_2 : ByteArray) (a0_3 : Int) (a0_4 : Int) (a0_5 : Int) (A0_6 : Option Addr) (c0_6 : Nat) (l0_6 : List (S37)) (a0_7 : Int) (a1 : ByteArray) (r : Bool) (w : World) (hr0_6 : Kd.C k37 w A0_6 l0_6.length l0_6) (hc0_6 : l0_6.length ≤ c0_6) (hsh : Sh w) (h : impl_tree_kidsAre.f k a0_0 a0_1 a0_2 a0_3 a0_4 a0_5 l0_6 a0_7 a1 = some r),
  Calls Tryd.prog 22 #[.agg #[.int .i64 a0_0, .string a0_1, .string a0_2, .int .i64 a0_3, .int .i64 a0_4, .int .i64 a0_5, .slice A0_6 l0_6.length c0_6, .int .i64 a0_7], .string a1] w fun e w' => e = .returned (.bool r) ∧ Below w.heap.size w w' := by
 induction k using Nat.strongRecOn with
 | _ k ih =>
 intro a0_0 a0_1 a0_2 a0_3 a0_4 a0_5 A0_6 c0_6 l0_6 a0_7 a1 r w hr0_6 hc0_6 hsh h
 cases k with
 | zero => exact absurd h (by simp [impl_tree_kidsAre.f])
 | succ k =>
 simp only [impl_tree_kidsAre.f] at h
 have hu37 := Tryd.underlying37
 have HR0_6 := Aside0.mk hr0_6
 have HC0_6 := Aside0.mk hc0_6
 clear hr0_6 hc0_6
 have HSH := Aside0.mk hsh
 clear hsh
 have HB := Aside0.mk (Below.refl w.heap.size w)
 have H : (if (l0_6.length : Int) = (a1.size : Int) then (impl_tree_kidsAre.l0 k a1 l0_6 (l0_6.length : Int) 0) else (some false)) = some r := h
 clear h
 by_cases c3 : (l0_6.length : Int) = (a1.size : Int)
 ·rw [if_pos c3] at H
  have c3b0 : ((l0_6.length : Int) == (a1.size : Int)) = true := beq_iff_eq.mpr c3
  have c3b1 : ((l0_6.length : Int) != (a1.size : Int)) = false := bne_eq_false_iff_eq.mpr c3
  have c3b2 : (l0_6.length == a1.size) = true := by first | simpa using c3 | (simp at c3 ⊢; omega)
  clear c3
  have H' := Aside0.mk H
  clear H
  go_enter Tryd.func22, Tryd.ntmps22
  go_wp2_with (first | ((with_reducible refine gate_dst (N := 2) rfl ?_); refine box_event ?hg (N := 2) ?hd (cs := #[.int .i64 a0_0, .string a0_1, .string a0_2, .int .i64 a0_3, .int .i64 a0_4, .int .i64 a0_5, .slice A0_6 l0_6.length c0_6, .int .i64 a0_7]) (t := 37) ?hr ?_; (case hd => rfl); (case hg => rfl); (case hr => first | (go_simp; done) | (go_simp; rfl)); intro gb245 hg w4 hbox hb; have n0_ := Aside0.mk (below_step (by repeat (first | (with_reducible first | exact HB.out | apply below_alloc | apply pw_below_drewN | apply below_drew1) | exact HB.out)) hb); have n1_ := Aside0.mk (hbox); have n2_ := Aside0.mk ((by rw [hg]; exact (below_size (by repeat (first | (with_reducible first | exact HB.out | apply below_alloc | apply pw_below_drewN | apply below_drew1) | exact HB.out))) : w.heap.size ≤ gb245)); have n3_ := Aside0.mk ((by rw [hg]; exact (below_size (by repeat (first | (with_reducible first | exact HB.out | apply below_alloc | apply pw_below_drewN | apply below_drew1) | exact HB.out))) : w.heap.size ≤ gb245)); clear HB; have HB := n0_; have BK245 := n1_; have GW245 := n2_; have GE245 := n3_; clear n0_ n1_ n2_ n3_; clear hb hbox hg; have hcz5_0 : w4.cell? ⟨gb245, 0, none⟩ = some (.int .i64 a0_0) := (blk_cell BK245.out 0).trans rfl; have hcz5_1 : w4.cell? ⟨gb245, 1, none⟩ = some (.string a0_1) := (blk_cell BK245.out 1).trans rfl; have hcz5_2 : w4.cell? ⟨gb245, 2, none⟩ = some (.string a0_2) := (blk_cell BK245.out 2).trans rfl; have hcz5_3 : w4.cell? ⟨gb245, 3, none⟩ = some (.int .i64 a0_3) := (blk_cell BK245.out 3).trans rfl; have hcz5_4 : w4.cell? ⟨gb245, 4, none⟩ = some (.int .i64 a0_4) := (blk_cell BK245.out 4).trans rfl; have hcz5_5 : w4.cell? ⟨gb245, 5, none⟩ = some (.int .i64 a0_5) := (blk_cell BK245.out 5).trans rfl; have hcz5_6 : w4.cell? ⟨gb245, 6, none⟩ = some (.slice A0_6 l0_6.length c0_6) := (blk_cell BK245.out 6).trans rfl; have hcz5_7 : w4.cell? ⟨gb245, 7, none⟩ = some (.int .i64 a0_7) := (blk_cell BK245.out 7).trans rfl; have hfz5_0 := blk_frozen BK245.out 0; have hfz5_1 := blk_frozen BK245.out 1; have hfz5_2 := blk_frozen BK245.out 2; have hfz5_3 := blk_frozen BK245.out 3; have hfz5_4 := blk_frozen BK245.out 4; have hfz5_5 := blk_frozen BK245.out 5; have hfz5_6 := blk_frozen BK245.out 6; have hfz5_7 := blk_frozen BK245.out 7))
  go_loopg [16] k (fun kq v16 w' => ∃ (x16_1 : Int), v16 = .int .i64 x16_1 ∧ Aside0 (impl_tree_kidsAre.l0 kq a1 l0_6 (l0_6.length : Int) x16_1 = some r) ∧ Aside0 (kq ≤ k) ∧ Aside0 (w'.heap[gb245]? = some (.cells #[.int .i64 a0_0, .string a0_1, .string a0_2, .int .i64 a0_3, .int .i64 a0_4, .int .i64 a0_5, (.slice A0_6 l0_6.length c0_6), .int .i64 a0_7] 37 (0, 0))) ∧ Aside0 (Below w.heap.size w w'))
  case atStart => exact ⟨(0), (by first | rfl | (simp; done) | (simp [*]; done) | (simp [isE_bne]; done)), H', ⟨Nat.le_refl _⟩, ⟨by (with_reducible repeat (first | refine blk_drewN ?_ _ | refine blk_drew ?_ | refine blk_alloc ?_ _)); exact BK245.out⟩, ⟨by repeat (first | (with_reducible first | exact HB.out | apply below_alloc | apply pw_below_drewN | apply below_drew1 | refine below_set ?_ GE245.out) | exact HB.out)⟩⟩
  case round =>
   clear H'
   try clear c2
   try clear p2
   try clear c3
   try clear c3b0
   try clear c3b1
   try clear c3b2
   try clear hcz5_0
   try clear hcz5_1
   try clear hcz5_2
   try clear hcz5_3
   try clear hcz5_4
   try clear hcz5_5
   try clear hcz5_6
   try clear hcz5_7
   try clear hfz5_0
   try clear hfz5_1
   try clear hfz5_2
   try clear hfz5_3
   try clear hfz5_4
   try clear hfz5_5
   try clear hfz5_6
   try clear hfz5_7
   obtain ⟨x16_1, rfl, HA, HK1, BK245, HB⟩ := hrel
   cases gk with
   | zero => exact absurd HA.out (by simp [impl_tree_kidsAre.l0])
   | succ k1 =>
    have H := HA.out
    clear HA
    simp only [impl_tree_kidsAre.l0] at H
    by_cases c6 : x16_1 < (l0_6.length : Int)
    ·rw [if_pos c6] at H
     have c6b0 : decide (x16_1 < (l0_6.length : Int)) = true := decide_eq_true c6
     clear c6
     by_cases c7 : 0 ≤ x16_1
     ·rw [if_pos c7] at H
      have c7b0 : decide (0 ≤ x16_1) = true := decide_eq_true c7
      clear c7
      by_cases c8 : x16_1 < (l0_6.length : Int)
      ·rw [if_pos c8] at H
       have c8b0 : decide (x16_1 < (l0_6.length : Int)) = true := decide_eq_true c8
       clear c8
       have HC9 := Aside0.mk H
       clear H
       have p246 : 0 ≤ (x16_1 : Int) := of_decide_eq_true (by first | (with_reducible assumption) | assumption)
       have q246 : x16_1 < (l0_6.length : Int) := of_decide_eq_true (by first | (with_reducible assumption) | assumption)
       obtain ⟨ad246, A246_6, c246_6, e246, hx246_0, hx246_1, hx246_2, hx246_3, hx246_4, hx246_5, hx246_6, hx246_7, hl246_6, hi246_6⟩ := at_T37 HR0_6.out x16_1 p246 q246
       cases e246
       replace hx246_0 := (HB.out.cell (World.block_lt_of_cell? _ _ hx246_0)).trans hx246_0
       replace hx246_1 := (HB.out.cell (World.block_lt_of_cell? _ _ hx246_1)).trans hx246_1
       replace hx246_2 := (HB.out.cell (World.block_lt_of_cell? _ _ hx246_2)).trans hx246_2
       replace hx246_3 := (HB.out.cell (World.block_lt_of_cell? _ _ hx246_3)).trans hx246_3
       replace hx246_4 := (HB.out.cell (World.block_lt_of_cell? _ _ hx246_4)).trans hx246_4
       replace hx246_5 := (HB.out.cell (World.block_lt_of_cell? _ _ hx246_5)).trans hx246_5
       replace hx246_6 := (HB.out.cell (World.block_lt_of_cell? _ _ hx246_6)).trans hx246_6
       replace hx246_7 := (HB.out.cell (World.block_lt_of_cell? _ _ hx246_7)).trans hx246_7
       have HR246_6 := Aside0.mk hi246_6
       have HC246_6 := Aside0.mk hl246_6
       clear hi246_6 hl246_6
       replace p246 := eq_true p246
       replace q246 := eq_true q246
       go_upto_region 6 with (first | ((with_reducible refine gate_dst (N := 6) rfl ?_); refine box_event ?hg (N := 6) ?hd (cs := #[.int .i64 0, .string (⟨#[]⟩ : ByteArray), .string (⟨#[]⟩ : ByteArray), .int .i64 0, .int .i64 0, .int .i64 0, .slice none 0 0, .int .i64 0]) (t := 37) ?hr ?_; (case hd => rfl); (case hg => rfl); (case hr => first | (go_simp; done) | (go_simp; rfl)); intro gb247 hg w10 hbox hb; have n0_ := Aside0.mk (blk_below (g := gb245) (o := .cells #[.int .i64 a0_0, .string a0_1, .string a0_2, .int .i64 a0_3, .int .i64 a0_4, .int .i64 a0_5, .slice (some ad246) l0_6.length c0_6, .int .i64 a0_7] 37 (0, 0)) (by (with_reducible repeat (first | refine blk_drewN ?_ _ | refine blk_drew ?_ | refine blk_alloc ?_ _)); exact BK245.out) hb); have n1_ := Aside0.mk (below_step (by repeat (first | (with_reducible first | exact HB.out | apply below_alloc | apply pw_below_drewN | apply below_drew1 | refine below_set ?_ GE245.out) | exact HB.out)) hb); have n2_ := Aside0.mk (hbox); have n3_ := Aside0.mk ((by rw [hg]; exact (below_size (by repeat (first | (with_reducible first | exact HB.out | apply below_alloc | apply pw_below_drewN | apply below_drew1 | refine below_set ?_ GE245.out) | exact HB.out))) : w.heap.size ≤ gb247)); have n4_ := Aside0.mk ((by rw [hg]; exact (below_size (by repeat (first | (with_reducible first | exact HB.out | apply below_alloc | apply pw_below_drewN | apply below_drew1 | refine below_set ?_ GE245.out) | exact HB.out))) : w.heap.size ≤ gb247)); have n5_ := Aside0.mk ((by rw [hg]; exact Nat.ne_of_lt (blk_lt (g := gb245) (o := .cells #[.int .i64 a0_0, .string a0_1, .string a0_2, .int .i64 a0_3, .int .i64 a0_4, .int .i64 a0_5, .slice (some ad246) l0_6.length c0_6, .int .i64 a0_7] 37 (0, 0)) (by (with_reducible repeat (first | refine blk_drewN ?_ _ | refine blk_drew ?_ | refine blk_alloc ?_ _)); exact BK245.out)) : gb245 ≠ gb247)); have n6_ := Aside0.mk ((by rw [hg]; exact Nat.ne_of_gt (blk_lt (g := gb245) (o := .cells #[.int .i64 a0_0, .string a0_1, .string a0_2, .int .i64 a0_3, .int .i64 a0_4, .int .i64 a0_5, .slice (some ad246) l0_6.length c0_6, .int .i64 a0_7] 37 (0, 0)) (by (with_reducible repeat (first | refine blk_drewN ?_ _ | refine blk_drew ?_ | refine blk_alloc ?_ _)); exact BK245.out)) : gb247 ≠ gb245)); clear BK245; clear HB; have BK245 := n0_; have HB := n1_; have BK247 := n2_; have GW247 := n3_; have GE247 := n4_; have NB245_247 := n5_; have NB247_245 := n6_; clear n0_ n1_ n2_ n3_ n4_ n5_ n6_; clear hb hbox hg; have hnb11 := NB247_245.out; have hnc11 := NB245_247.out; have hcz12_0 : w10.cell? ⟨gb247, 0, none⟩ = some (.int .i64 0) := (blk_cell BK247.out 0).trans rfl; have hcz12_1 : w10.cell? ⟨gb247, 1, none⟩ = some (.string (⟨#[]⟩ : ByteArray)) := (blk_cell BK247.out 1).trans rfl; have hcz12_2 : w10.cell? ⟨gb247, 2, none⟩ = some (.string (⟨#[]⟩ : ByteArray)) := (blk_cell BK247.out 2).trans rfl; have hcz12_3 : w10.cell? ⟨gb247, 3, none⟩ = some (.int .i64 0) := (blk_cell BK247.out 3).trans rfl; have hcz12_4 : w10.cell? ⟨gb247, 4, none⟩ = some (.int .i64 0) := (blk_cell BK247.out 4).trans rfl; have hcz12_5 : w10.cell? ⟨gb247, 5, none⟩ = some (.int .i64 0) := (blk_cell BK247.out 5).trans rfl; have hcz12_6 : w10.cell? ⟨gb247, 6, none⟩ = some (.slice none 0 0) := (blk_cell BK247.out 6).trans rfl; have hcz12_7 : w10.cell? ⟨gb247, 7, none⟩ = some (.int .i64 0) := (blk_cell BK247.out 7).trans rfl; have hfz12_0 := blk_frozen BK247.out 0; have hfz12_1 := blk_frozen BK247.out 1; have hfz12_2 := blk_frozen BK247.out 2; have hfz12_3 := blk_frozen BK247.out 3; have hfz12_4 := blk_frozen BK247.out 4; have hfz12_5 := blk_frozen BK247.out 5; have hfz12_6 := blk_frozen BK247.out 6; have hfz12_7 := blk_frozen BK247.out 7))
       (try simp only [Act.put, List.setIfInBounds_toArray, List.set_cons_zero, List.set_cons_succ])
       go_cut [21] (fun v21 wc => ∃ (kq : Nat) (x21_8 : Bool), v21 = .bool x21_8 ∧ Aside0 (impl_tree_kidsAre.j1 kq a1 x16_1 l0_6 (l0_6.length : Int) x16_1 x21_8 ((rd_T37 l0_6 x16_1).f0.f0) ((rd_T37 l0_6 x16_1).f0.f1) ((rd_T37 l0_6 x16_1).f0.f2) ((rd_T37 l0_6 x16_1).f0.f3) ((rd_T37 l0_6 x16_1).f0.f4) ((rd_T37 l0_6 x16_1).f1) ((rd_T37 l0_6 x16_1).f2) ((rd_T37 l0_6 x16_1).f3) = some r) ∧ Aside0 (kq ≤ k1) ∧ Aside0 (wc.heap[gb245]? = some (.cells #[.int .i64 a0_0, .string a0_1, .string a0_2, .int .i64 a0_3, .int .i64 a0_4, .int .i64 a0_5, (.slice (some ad246) l0_6.length c0_6), .int .i64 a0_7] 37 (0, 0))) ∧ Aside0 (wc.heap[gb247]? = some (.cells #[.int .i64 ((rd_T37 l0_6 x16_1).f0.f0), .string ((rd_T37 l0_6 x16_1).f0.f1), .string ((rd_T37 l0_6 x16_1).f0.f2), .int .i64 ((rd_T37 l0_6 x16_1).f0.f3), .int .i64 ((rd_T37 l0_6 x16_1).f0.f4), .int .i64 ((rd_T37 l0_6 x16_1).f1), (.slice A246_6 ((rd_T37 l0_6 x16_1).f2).length c246_6), .int .i64 ((rd_T37 l0_6 x16_1).f3)] 37 (0, 0))) ∧ Aside0 (Below w.heap.size w wc))
       case first =>
        have H := HC9.out
        clear HC9
        by_cases c13 : x16_1 < (a1.size : Int)
        ·rw [if_pos c13] at H
         have c13b0 : decide (x16_1 < (a1.size : Int)) = true := decide_eq_true c13
         clear c13
         (first | rw [c13b0] | (simp only [i64_w, i32_w]; rw [c13b0]) | skip)
         by_cases c15 : (bt a1 x16_1) = 101
         ·rw [if_pos c15] at H
          have c15b0 : ((bt a1 x16_1) == 101) = true := beq_iff_eq.mpr c15
          have c15b1 : ((bt a1 x16_1) != 101) = false := bne_eq_false_iff_eq.mpr c15
          clear c15
          replace H := Option.bind_eq_some_iff.mp H
          obtain ⟨t248, A160, H⟩ := H
          replace H : (impl_tree_kidsAre.j1 k1 a1 x16_1 l0_6 (l0_6.length : Int) x16_1 (!t248) ((rd_T37 l0_6 x16_1).f0.f0) ((rd_T37 l0_6 x16_1).f0.f1) ((rd_T37 l0_6 x16_1).f0.f2) ((rd_T37 l0_6 x16_1).f0.f3) ((rd_T37 l0_6 x16_1).f0.f4) ((rd_T37 l0_6 x16_1).f1) ((rd_T37 l0_6 x16_1).f2) ((rd_T37 l0_6 x16_1).f3)) = some r := H
          have A16 := Aside0.mk A160
          clear A160
          have H' := Aside0.mk H
          clear H
          have p14 : 0 ≤ (x16_1 : Int) := of_decide_eq_true (by first | (with_reducible assumption) | assumption)
          have q14 : x16_1 < (a1.size : Int) := of_decide_eq_true (by first | (with_reducible assumption) | assumption)
          have hx14 := bt_at a1 x16_1
          replace p14 := eq_true p14
          replace q14 := eq_true q14
          have hnb17 := NB247_245.out
          have hnc17 := NB245_247.out
          have hcz18_0 : w10.cell? ⟨gb247, 0, none⟩ = some (.int .i64 0) := (blk_cell BK247.out 0).trans rfl
          have hcz18_1 : w10.cell? ⟨gb247, 1, none⟩ = some (.string (⟨#[]⟩ : ByteArray)) := (blk_cell BK247.out 1).trans rfl
          have hcz18_2 : w10.cell? ⟨gb247, 2, none⟩ = some (.string (⟨#[]⟩ : ByteArray)) := (blk_cell BK247.out 2).trans rfl
          have hcz18_3 : w10.cell? ⟨gb247, 3, none⟩ = some (.int .i64 0) := (blk_cell BK247.out 3).trans rfl
          have hcz18_4 : w10.cell? ⟨gb247, 4, none⟩ = some (.int .i64 0) := (blk_cell BK247.out 4).trans rfl
          have hcz18_5 : w10.cell? ⟨gb247, 5, none⟩ = some (.int .i64 0) := (blk_cell BK247.out 5).trans rfl
          have hcz18_6 : w10.cell? ⟨gb247, 6, none⟩ = some (.slice none 0 0) := (blk_cell BK247.out 6).trans rfl
          have hcz18_7 : w10.cell? ⟨gb247, 7, none⟩ = some (.int .i64 0) := (blk_cell BK247.out 7).trans rfl
          have hfz18_0 := blk_frozen BK247.out 0
          have hfz18_1 := blk_frozen BK247.out 1
          have hfz18_2 := blk_frozen BK247.out 2
          have hfz18_3 := blk_frozen BK247.out 3
          have hfz18_4 := blk_frozen BK247.out 4
          have hfz18_5 := blk_frozen BK247.out 5
          have hfz18_6 := blk_frozen BK247.out 6
          have hfz18_7 := blk_frozen BK247.out 7
          go_wp2_with (first | (go_at_call 35; (with_reducible refine (impl_tree_isExpr.calls ⟨impl_tree_kidsAre.f k1, ih k1 (by have := HK1.out; omega)⟩ k1 ((rd_T37 l0_6 x16_1).f0.f0) ((rd_T37 l0_6 x16_1).f0.f1) ((rd_T37 l0_6 x16_1).f0.f2) ((rd_T37 l0_6 x16_1).f0.f3) ((rd_T37 l0_6 x16_1).f0.f4) ((rd_T37 l0_6 x16_1).f1) _ _ ((rd_T37 l0_6 x16_1).f2) ((rd_T37 l0_6 x16_1).f3) t248 _ ?side1 ?side2 ?side3 A16.out).mono ?_); (case side1 => exact Kd.C_below HR246_6.out (by repeat (first | (with_reducible first | exact HB.out | apply below_alloc | apply pw_below_drewN | apply below_drew1 | refine below_set ?_ GE245.out | refine below_set ?_ GE247.out) | exact HB.out))); (case side2 => exact HC246_6.out); (case side3 => exact Sh.below HSH.out (by repeat (first | (with_reducible first | exact HB.out | apply below_alloc | apply pw_below_drewN | apply below_drew1 | refine below_set ?_ GE245.out | refine below_set ?_ GE247.out) | exact HB.out))); rintro e w19 ⟨rfl, hb⟩; have n0_ := Aside0.mk (blk_below (g := gb245) (o := .cells #[.int .i64 a0_0, .string a0_1, .string a0_2, .int .i64 a0_3, .int .i64 a0_4, .int .i64 a0_5, .slice (some ad246) l0_6.length c0_6, .int .i64 a0_7] 37 (0, 0)) (by (with_reducible repeat (first | refine blk_drewN ?_ _ | refine blk_drew ?_ | refine blk_alloc ?_ _)); refine blk_far ?_ NB245_247.out _; (with_reducible repeat (first | refine blk_drewN ?_ _ | refine blk_drew ?_ | refine blk_alloc ?_ _)); refine blk_far ?_ NB245_247.out _; (with_reducible repeat (first | refine blk_drewN ?_ _ | refine blk_drew ?_ | refine blk_alloc ?_ _)); refine blk_far ?_ NB245_247.out _; (with_reducible repeat (first | refine blk_drewN ?_ _ | refine blk_drew ?_ | refine blk_alloc ?_ _)); refine blk_far ?_ NB245_247.out _; (with_reducible repeat (first | refine blk_drewN ?_ _ | refine blk_drew ?_ | refine blk_alloc ?_ _)); refine blk_far ?_ NB245_247.out _; (with_reducible repeat (first | refine blk_drewN ?_ _ | refine blk_drew ?_ | refine blk_alloc ?_ _)); refine blk_far ?_ NB245_247.out _; (with_reducible repeat (first | refine blk_drewN ?_ _ | refine blk_drew ?_ | refine blk_alloc ?_ _)); refine blk_far ?_ NB245_247.out _; (with_reducible repeat (first | refine blk_drewN ?_ _ | refine blk_drew ?_ | refine blk_alloc ?_ _)); refine blk_far ?_ NB245_247.out _; (with_reducible repeat (first | refine blk_drewN ?_ _ | refine blk_drew ?_ | refine blk_alloc ?_ _)); exact BK245.out) hb); have n1_ := Aside0.mk (blk_below (g := gb247) (o := .cells #[.int .i64 ((rd_T37 l0_6 x16_1).f0.f0), .string ((rd_T37 l0_6 x16_1).f0.f1), .string ((rd_T37 l0_6 x16_1).f0.f2), .int .i64 ((rd_T37 l0_6 x16_1).f0.f3), .int .i64 ((rd_T37 l0_6 x16_1).f0.f4), .int .i64 ((rd_T37 l0_6 x16_1).f1), .slice A246_6 ((rd_T37 l0_6 x16_1).f2).length c246_6, .int .i64 ((rd_T37 l0_6 x16_1).f3)] 37 (0, 0)) (by (with_reducible repeat (first | refine blk_drewN ?_ _ | refine blk_drew ?_ | refine blk_alloc ?_ _)); refine blk_put (cs := #[.int .i64 ((rd_T37 l0_6 x16_1).f0.f0), .string ((rd_T37 l0_6 x16_1).f0.f1), .string ((rd_T37 l0_6 x16_1).f0.f2), .int .i64 ((rd_T37 l0_6 x16_1).f0.f3), .int .i64 ((rd_T37 l0_6 x16_1).f0.f4), .int .i64 ((rd_T37 l0_6 x16_1).f1), .slice A246_6 ((rd_T37 l0_6 x16_1).f2).length c246_6, .int .i64 0]) ?_ 7 _ rfl; (with_reducible repeat (first | refine blk_drewN ?_ _ | refine blk_drew ?_ | refine blk_alloc ?_ _)); refine blk_put (cs := #[.int .i64 ((rd_T37 l0_6 x16_1).f0.f0), .string ((rd_T37 l0_6 x16_1).f0.f1), .string ((rd_T37 l0_6 x16_1).f0.f2), .int .i64 ((rd_T37 l0_6 x16_1).f0.f3), .int .i64 ((rd_T37 l0_6 x16_1).f0.f4), .int .i64 ((rd_T37 l0_6 x16_1).f1), .slice none 0 0, .int .i64 0]) ?_ 6 _ rfl; (with_reducible repeat (first | refine blk_drewN ?_ _ | refine blk_drew ?_ | refine blk_alloc ?_ _)); refine blk_put (cs := #[.int .i64 ((rd_T37 l0_6 x16_1).f0.f0), .string ((rd_T37 l0_6 x16_1).f0.f1), .string ((rd_T37 l0_6 x16_1).f0.f2), .int .i64 ((rd_T37 l0_6 x16_1).f0.f3), .int .i64 ((rd_T37 l0_6 x16_1).f0.f4), .int .i64 0, .slice none 0 0, .int .i64 0]) ?_ 5 _ rfl; (with_reducible repeat (first | refine blk_drewN ?_ _ | refine blk_drew ?_ | refine blk_alloc ?_ _)); refine blk_put (cs := #[.int .i64 ((rd_T37 l0_6 x16_1).f0.f0), .string ((rd_T37 l0_6 x16_1).f0.f1), .string ((rd_T37 l0_6 x16_1).f0.f2), .int .i64 ((rd_T37 l0_6 x16_1).f0.f3), .int .i64 0, .int .i64 0, .slice none 0 0, .int .i64 0]) ?_ 4 _ rfl; (with_reducible repeat (first | refine blk_drewN ?_ _ | refine blk_drew ?_ | refine blk_alloc ?_ _)); refine blk_put (cs := #[.int .i64 ((rd_T37 l0_6 x16_1).f0.f0), .string ((rd_T37 l0_6 x16_1).f0.f1), .string ((rd_T37 l0_6 x16_1).f0.f2), .int .i64 0, .int .i64 0, .int .i64 0, .slice none 0 0, .int .i64 0]) ?_ 3 _ rfl; (with_reducible repeat (first | refine blk_drewN ?_ _ | refine blk_drew ?_ | refine blk_alloc ?_ _)); refine blk_put (cs := #[.int .i64 ((rd_T37 l0_6 x16_1).f0.f0), .string ((rd_T37 l0_6 x16_1).f0.f1), .string (⟨#[]⟩ : ByteArray), .int .i64 0, .int .i64 0, .int .i64 0, .slice none 0 0, .int .i64 0]) ?_ 2 _ rfl; (with_reducible repeat (first | refine blk_drewN ?_ _ | refine blk_drew ?_ | refine blk_alloc ?_ _)); refine blk_put (cs := #[.int .i64 ((rd_T37 l0_6 x16_1).f0.f0), .string (⟨#[]⟩ : ByteArray), .string (⟨#[]⟩ : ByteArray), .int .i64 0, .int .i64 0, .int .i64 0, .slice none 0 0, .int .i64 0]) ?_ 1 _ rfl; (with_reducible repeat (first | refine blk_drewN ?_ _ | refine blk_drew ?_ | refine blk_alloc ?_ _)); refine blk_put (cs := #[.int .i64 0, .string (⟨#[]⟩ : ByteArray), .string (⟨#[]⟩ : ByteArray), .int .i64 0, .int .i64 0, .int .i64 0, .slice none 0 0, .int .i64 0]) ?_ 0 _ rfl; (with_reducible repeat (first | refine blk_drewN ?_ _ | refine blk_drew ?_ | refine blk_alloc ?_ _)); exact BK247.out) hb); have n2_ := Aside0.mk (below_step (by repeat (first | (with_reducible first | exact HB.out | apply below_alloc | apply pw_below_drewN | apply below_drew1 | refine below_set ?_ GE245.out | refine below_set ?_ GE247.out) | exact HB.out)) hb); clear BK245; clear BK247; clear HB; have BK245 := n0_; have BK247 := n1_; have HB := n2_; clear n0_ n1_ n2_; (try clear hb); (try clear hb2); (try clear hk); (try clear hi)))
          go_meet
          case rel => exact ⟨_, (!t248), (by first | rfl | (simp; done) | (simp [*]; done) | (simp [isE_bne]; done)), H', ⟨by have := HK1.out; first | omega | exact Nat.le_refl _⟩, ⟨by (with_reducible repeat (first | refine blk_drewN ?_ _ | refine blk_drew ?_ | refine blk_alloc ?_ _)); exact BK245.out⟩, ⟨by (with_reducible repeat (first | refine blk_drewN ?_ _ | refine blk_drew ?_ | refine blk_alloc ?_ _)); exact BK247.out⟩, ⟨by repeat (first | (with_reducible first | exact HB.out | apply below_alloc | apply pw_below_drewN | apply below_drew1 | refine below_set ?_ GE245.out | refine below_set ?_ GE247.out) | exact HB.out)⟩⟩
         ·rw [if_neg c15] at H
          have c15b0 : ((bt a1 x16_1) == 101) = false := beq_eq_false_iff_ne.mpr c15
          have c15b1 : ((bt a1 x16_1) != 101) = true := bne_iff_ne.mpr c15
          have H' := Aside0.mk H
          clear H
          have p14 : 0 ≤ (x16_1 : Int) := of_decide_eq_true (by first | (with_reducible assumption) | assumption)
          have q14 : x16_1 < (a1.size : Int) := of_decide_eq_true (by first | (with_reducible assumption) | assumption)
          have hx14 := bt_at a1 x16_1
          replace p14 := eq_true p14
          replace q14 := eq_true q14
          go_wp2
          go_meet
          case rel => exact ⟨_, (false), (by first | rfl | (simp; done) | (simp [*]; done) | (simp [isE_bne]; done)), H', ⟨by have := HK1.out; first | omega | exact Nat.le_refl _⟩, ⟨by (with_reducible repeat (first | refine blk_drewN ?_ _ | refine blk_drew ?_ | refine blk_alloc ?_ _)); refine blk_far ?_ NB245_247.out _; (with_reducible repeat (first | refine blk_drewN ?_ _ | refine blk_drew ?_ | refine blk_alloc ?_ _)); refine blk_far ?_ NB245_247.out _; (with_reducible repeat (first | refine blk_drewN ?_ _ | refine blk_drew ?_ | refine blk_alloc ?_ _)); refine blk_far ?_ NB245_247.out _; (with_reducible repeat (first | refine blk_drewN ?_ _ | refine blk_drew ?_ | refine blk_alloc ?_ _)); refine blk_far ?_ NB245_247.out _; (with_reducible repeat (first | refine blk_drewN ?_ _ | refine blk_drew ?_ | refine blk_alloc ?_ _)); refine blk_far ?_ NB245_247.out _; (with_reducible repeat (first | refine blk_drewN ?_ _ | refine blk_drew ?_ | refine blk_alloc ?_ _)); refine blk_far ?_ NB245_247.out _; (with_reducible repeat (first | refine blk_drewN ?_ _ | refine blk_drew ?_ | refine blk_alloc ?_ _)); refine blk_far ?_ NB245_247.out _; (with_reducible repeat (first | refine blk_drewN ?_ _ | refine blk_drew ?_ | refine blk_alloc ?_ _)); refine blk_far ?_ NB245_247.out _; (with_reducible repeat (first | refine blk_drewN ?_ _ | refine blk_drew ?_ | refine blk_alloc ?_ _)); exact BK245.out⟩, ⟨by (with_reducible repeat (first | refine blk_drewN ?_ _ | refine blk_drew ?_ | refine blk_alloc ?_ _)); refine blk_put (cs := #[.int .i64 ((rd_T37 l0_6 x16_1).f0.f0), .string ((rd_T37 l0_6 x16_1).f0.f1), .string ((rd_T37 l0_6 x16_1).f0.f2), .int .i64 ((rd_T37 l0_6 x16_1).f0.f3), .int .i64 ((rd_T37 l0_6 x16_1).f0.f4), .int .i64 ((rd_T37 l0_6 x16_1).f1), .slice A246_6 ((rd_T37 l0_6 x16_1).f2).length c246_6, .int .i64 0]) ?_ 7 _ rfl; (with_reducible repeat (first | refine blk_drewN ?_ _ | refine blk_drew ?_ | refine blk_alloc ?_ _)); refine blk_put (cs := #[.int .i64 ((rd_T37 l0_6 x16_1).f0.f0), .string ((rd_T37 l0_6 x16_1).f0.f1), .string ((rd_T37 l0_6 x16_1).f0.f2), .int .i64 ((rd_T37 l0_6 x16_1).f0.f3), .int .i64 ((rd_T37 l0_6 x16_1).f0.f4), .int .i64 ((rd_T37 l0_6 x16_1).f1), .slice none 0 0, .int .i64 0]) ?_ 6 _ rfl; (with_reducible repeat (first | refine blk_drewN ?_ _ | refine blk_drew ?_ | refine blk_alloc ?_ _)); refine blk_put (cs := #[.int .i64 ((rd_T37 l0_6 x16_1).f0.f0), .string ((rd_T37 l0_6 x16_1).f0.f1), .string ((rd_T37 l0_6 x16_1).f0.f2), .int .i64 ((rd_T37 l0_6 x16_1).f0.f3), .int .i64 ((rd_T37 l0_6 x16_1).f0.f4), .int .i64 0, .slice none 0 0, .int .i64 0]) ?_ 5 _ rfl; (with_reducible repeat (first | refine blk_drewN ?_ _ | refine blk_drew ?_ | refine blk_alloc ?_ _)); refine blk_put (cs := #[.int .i64 ((rd_T37 l0_6 x16_1).f0.f0), .string ((rd_T37 l0_6 x16_1).f0.f1), .string ((rd_T37 l0_6 x16_1).f0.f2), .int .i64 ((rd_T37 l0_6 x16_1).f0.f3), .int .i64 0, .int .i64 0, .slice none 0 0, .int .i64 0]) ?_ 4 _ rfl; (with_reducible repeat (first | refine blk_drewN ?_ _ | refine blk_drew ?_ | refine blk_alloc ?_ _)); refine blk_put (cs := #[.int .i64 ((rd_T37 l0_6 x16_1).f0.f0), .string ((rd_T37 l0_6 x16_1).f0.f1), .string ((rd_T37 l0_6 x16_1).f0.f2), .int .i64 0, .int .i64 0, .int .i64 0, .slice none 0 0, .int .i64 0]) ?_ 3 _ rfl; (with_reducible repeat (first | refine blk_drewN ?_ _ | refine blk_drew ?_ | refine blk_alloc ?_ _)); refine blk_put (cs := #[.int .i64 ((rd_T37 l0_6 x16_1).f0.f0), .string ((rd_T37 l0_6 x16_1).f0.f1), .string (⟨#[]⟩ : ByteArray), .int .i64 0, .int .i64 0, .int .i64 0, .slice none 0 0, .int .i64 0]) ?_ 2 _ rfl; (with_reducible repeat (first | refine blk_drewN ?_ _ | refine blk_drew ?_ | refine blk_alloc ?_ _)); refine blk_put (cs := #[.int .i64 ((rd_T37 l0_6 x16_1).f0.f0), .string (⟨#[]⟩ : ByteArray), .string (⟨#[]⟩ : ByteArray), .int .i64 0, .int .i64 0, .int .i64 0, .slice none 0 0, .int .i64 0]) ?_ 1 _ rfl; (with_reducible repeat (first | refine blk_drewN ?_ _ | refine blk_drew ?_ | refine blk_alloc ?_ _)); refine blk_put (cs := #[.int .i64 0, .string (⟨#[]⟩ : ByteArray), .string (⟨#[]⟩ : ByteArray), .int .i64 0, .int .i64 0, .int .i64 0, .slice none 0 0, .int .i64 0]) ?_ 0 _ rfl; (with_reducible repeat (first | refine blk_drewN ?_ _ | refine blk_drew ?_ | refine blk_alloc ?_ _)); exact BK247.out⟩, ⟨by repeat (first | (with_reducible first | exact HB.out | apply below_alloc | apply pw_below_drewN | apply below_drew1 | refine below_set ?_ GE245.out | refine below_set ?_ GE247.out) | exact HB.out)⟩⟩
        ·rw [if_neg c13] at H
         exact absurd H (by simp)
       case rest =>
        clear HC9
        try clear c1
        try clear p1
        try clear q1
        try clear hx1
        try clear c2
        try clear p2
        try clear q2
        try clear hx2
        try clear c3
        try clear c3b0
        try clear c3b1
        try clear c3b2
        try clear c6
        try clear c6b0
        try clear c7
        try clear c7b0
        try clear c8
        try clear c8b0
        try clear c11
        try clear c13
        try clear c13b0
        try clear p14
        try clear q14
        try clear hx14
        try clear c15
        try clear c15b0
        try clear c15b1
        try clear c17
        try clear hcz12_0
        try clear hcz12_1
        try clear hcz12_2
        try clear hcz12_3
        try clear hcz12_4
        try clear hcz12_5
        try clear hcz12_6
        try clear hcz12_7
        try clear hcz18_0
        try clear hcz18_1
        try clear hcz18_2
        try clear hcz18_3
        try clear hcz18_4
        try clear hcz18_5
        try clear hcz18_6
        try clear hcz18_7
        try clear hcz5_0
        try clear hcz5_1
        try clear hcz5_2
        try clear hcz5_3
        try clear hcz5_4
        try clear hcz5_5
        try clear hcz5_6
        try clear hcz5_7
        try clear hfz12_0
        try clear hfz12_1
        try clear hfz12_2
        try clear hfz12_3
        try clear hfz12_4
        try clear hfz12_5
        try clear hfz12_6
        try clear hfz12_7
        try clear hfz18_0
        try clear hfz18_1
        try clear hfz18_2
        try clear hfz18_3
        try clear hfz18_4
        try clear hfz18_5
        try clear hfz18_6
        try clear hfz18_7
        try clear hfz5_0
        try clear hfz5_1
        try clear hfz5_2
        try clear hfz5_3
        try clear hfz5_4
        try clear hfz5_5
        try clear hfz5_6
        try clear hfz5_7
        try clear hx246_0
        try clear hx246_1
        try clear hx246_2
        try clear hx246_3
        try clear hx246_4
        try clear hx246_5
        try clear hx246_6
        try clear hx246_7
        try clear p14
        try clear p2
        try clear p246
        try clear q14
        try clear q246
        obtain ⟨kq, x21_8, rfl, HA, HJ8, BK245, BK247, HB⟩ := hcut
        cases kq with
        | zero => exact absurd HA.out (by simp [impl_tree_kidsAre.j1])
        | succ kj8 =>
         have H := HA.out
         clear HA
         simp only [impl_tree_kidsAre.j1] at H
         by_cases c20 : x21_8 = true
         ·subst c20
          have H1 : (some false) = some r := by rw [if_pos rfl] at H; exact H
          clear H
          have H := H1
          clear H1
          obtain rfl := Option.some.inj H
          go_wp2
          go_ret
          exact ⟨by first | rfl | (simp [errW_none, errW_some] <;> rfl) | (simp [*, errW_none, errW_some] <;> rfl), by repeat (first | (with_reducible first | exact HB.out | apply below_alloc | apply pw_below_drewN | apply below_drew1 | refine below_set ?_ GE245.out | refine below_set ?_ GE247.out) | exact HB.out)⟩
         ·replace c20 := Bool.eq_false_iff.mpr c20
          subst c20
          have H1 : (if 0 ≤ x16_1 then (if x16_1 < (a1.size : Int) then (if (bt a1 x16_1) = 115 then ((impl_tree_isStatement.f (impl_tree_kidsAre.f kj8) kj8 ((rd_T37 l0_6 x16_1).f0.f0) ((rd_T37 l0_6 x16_1).f0.f1) ((rd_T37 l0_6 x16_1).f0.f2) ((rd_T37 l0_6 x16_1).f0.f3) ((rd_T37 l0_6 x16_1).f0.f4) ((rd_T37 l0_6 x16_1).f1) ((rd_T37 l0_6 x16_1).f2) ((rd_T37 l0_6 x16_1).f3)).bind fun t249 => (impl_tree_kidsAre.j2 kj8 a1 x16_1 l0_6 (l0_6.length : Int) x16_1 (!t249) ((rd_T37 l0_6 x16_1).f0.f0) ((rd_T37 l0_6 x16_1).f0.f1) ((rd_T37 l0_6 x16_1).f0.f2) ((rd_T37 l0_6 x16_1).f0.f3) ((rd_T37 l0_6 x16_1).f0.f4) ((rd_T37 l0_6 x16_1).f1) ((rd_T37 l0_6 x16_1).f2) ((rd_T37 l0_6 x16_1).f3))) else (impl_tree_kidsAre.j2 kj8 a1 x16_1 l0_6 (l0_6.length : Int) x16_1 false ((rd_T37 l0_6 x16_1).f0.f0) ((rd_T37 l0_6 x16_1).f0.f1) ((rd_T37 l0_6 x16_1).f0.f2) ((rd_T37 l0_6 x16_1).f0.f3) ((rd_T37 l0_6 x16_1).f0.f4) ((rd_T37 l0_6 x16_1).f1) ((rd_T37 l0_6 x16_1).f2) ((rd_T37 l0_6 x16_1).f3))) else (none)) else (none)) = some r := by rw [if_neg (show ¬ (false = true) by decide)] at H; exact H
          clear H
          have H := H1
          clear H1
          have HC21 := Aside0.mk H
          clear H
          go_upto_region 7 with (fail)
          go_cut [21] (fun v21 wc => ∃ (kq : Nat) (x21_20 : Bool), v21 = .bool x21_20 ∧ Aside0 (impl_tree_kidsAre.j2 kq a1 x16_1 l0_6 (l0_6.length : Int) x16_1 x21_20 ((rd_T37 l0_6 x16_1).f0.f0) ((rd_T37 l0_6 x16_1).f0.f1) ((rd_T37 l0_6 x16_1).f0.f2) ((rd_T37 l0_6 x16_1).f0.f3) ((rd_T37 l0_6 x16_1).f0.f4) ((rd_T37 l0_6 x16_1).f1) ((rd_T37 l0_6 x16_1).f2) ((rd_T37 l0_6 x16_1).f3) = some r) ∧ Aside0 (kq ≤ kj8) ∧ Aside0 (wc.heap[gb245]? = some (.cells #[.int .i64 a0_0, .string a0_1, .string a0_2, .int .i64 a0_3, .int .i64 a0_4, .int .i64 a0_5, (.slice (some ad246) l0_6.length c0_6), .int .i64 a0_7] 37 (0, 0))) ∧ Aside0 (wc.heap[gb247]? = some (.cells #[.int .i64 ((rd_T37 l0_6 x16_1).f0.f0), .string ((rd_T37 l0_6 x16_1).f0.f1), .string ((rd_T37 l0_6 x16_1).f0.f2), .int .i64 ((rd_T37 l0_6 x16_1).f0.f3), .int .i64 ((rd_T37 l0_6 x16_1).f0.f4), .int .i64 ((rd_T37 l0_6 x16_1).f1), (.slice A246_6 ((rd_T37 l0_6 x16_1).f2).length c246_6), .int .i64 ((rd_T37 l0_6 x16_1).f3)] 37 (0, 0))) ∧ Aside0 (Below w.heap.size w wc))
          case first =>
           have H := HC21.out
           clear HC21
           by_cases c22 : 0 ≤ x16_1
           ·rw [if_pos c22] at H
            have c22b0 : decide (0 ≤ x16_1) = true := decide_eq_true c22
            clear c22
            (first | rw [c22b0] | (simp only [i64_w, i32_w]; rw [c22b0]) | skip)
            by_cases c23 : x16_1 < (a1.size : Int)
            ·rw [if_pos c23] at H
             have c23b0 : decide (x16_1 < (a1.size : Int)) = true := decide_eq_true c23
             clear c23
             by_cases c25 : (bt a1 x16_1) = 115
             ·rw [if_pos c25] at H
              have c25b0 : ((bt a1 x16_1) == 115) = true := beq_iff_eq.mpr c25
              have c25b1 : ((bt a1 x16_1) != 115) = false := bne_eq_false_iff_eq.mpr c25
              clear c25
              replace H := Option.bind_eq_some_iff.mp H
              obtain ⟨t249, A260, H⟩ := H
              replace H : (impl_tree_kidsAre.j2 kj8 a1 x16_1 l0_6 (l0_6.length : Int) x16_1 (!t249) ((rd_T37 l0_6 x16_1).f0.f0) ((rd_T37 l0_6 x16_1).f0.f1) ((rd_T37 l0_6 x16_1).f0.f2) ((rd_T37 l0_6 x16_1).f0.f3) ((rd_T37 l0_6 x16_1).f0.f4) ((rd_T37 l0_6 x16_1).f1) ((rd_T37 l0_6 x16_1).f2) ((rd_T37 l0_6 x16_1).f3)) = some r := H
              have A26 := Aside0.mk A260
              clear A260
              have H' := Aside0.mk H
              clear H
              have p24 : 0 ≤ (x16_1 : Int) := of_decide_eq_true (by first | (with_reducible assumption) | assumption)
              have q24 : x16_1 < (a1.size : Int) := of_decide_eq_true (by first | (with_reducible assumption) | assumption)
              have hx24 := bt_at a1 x16_1
              replace p24 := eq_true p24
              replace q24 := eq_true q24
              have hnb27 := NB247_245.out
              have hnc27 := NB245_247.out
              have hcz28_0 : wc.cell? ⟨gb247, 0, none⟩ = some (.int .i64 ((rd_T37 l0_6 x16_1).f0.f0)) := (blk_cell BK247.out 0).trans rfl
              have hcz28_1 : wc.cell? ⟨gb247, 1, none⟩ = some (.string ((rd_T37 l0_6 x16_1).f0.f1)) := (blk_cell BK247.out 1).trans rfl
              have hcz28_2 : wc.cell? ⟨gb247, 2, none⟩ = some (.string ((rd_T37 l0_6 x16_1).f0.f2)) := (blk_cell BK247.out 2).trans rfl
              have hcz28_3 : wc.cell? ⟨gb247, 3, none⟩ = some (.int .i64 ((rd_T37 l0_6 x16_1).f0.f3)) := (blk_cell BK247.out 3).trans rfl
              have hcz28_4 : wc.cell? ⟨gb247, 4, none⟩ = some (.int .i64 ((rd_T37 l0_6 x16_1).f0.f4)) := (blk_cell BK247.out 4).trans rfl
              have hcz28_5 : wc.cell? ⟨gb247, 5, none⟩ = some (.int .i64 ((rd_T37 l0_6 x16_1).f1)) := (blk_cell BK247.out 5).trans rfl
              have hcz28_6 : wc.cell? ⟨gb247, 6, none⟩ = some (.slice A246_6 ((rd_T37 l0_6 x16_1).f2).length c246_6) := (blk_cell BK247.out 6).trans rfl
              have hcz28_7 : wc.cell? ⟨gb247, 7, none⟩ = some (.int .i64 ((rd_T37 l0_6 x16_1).f3)) := (blk_cell BK247.out 7).trans rfl
              have hfz28_0 := blk_frozen BK247.out 0
              have hfz28_1 := blk_frozen BK247.out 1
              have hfz28_2 := blk_frozen BK247.out 2
              have hfz28_3 := blk_frozen BK247.out 3
              have hfz28_4 := blk_frozen BK247.out 4
              have hfz28_5 := blk_frozen BK247.out 5
              have hfz28_6 := blk_frozen BK247.out 6
              have hfz28_7 := blk_frozen BK247.out 7
              go_wp2_with (first | (go_at_call 13; (with_reducible refine (impl_tree_isStatement.calls ⟨impl_tree_kidsAre.f kj8, ih kj8 (by have := HK1.out; have := HJ8.out; omega)⟩ kj8 ((rd_T37 l0_6 x16_1).f0.f0) ((rd_T37 l0_6 x16_1).f0.f1) ((rd_T37 l0_6 x16_1).f0.f2) ((rd_T37 l0_6 x16_1).f0.f3) ((rd_T37 l0_6 x16_1).f0.f4) ((rd_T37 l0_6 x16_1).f1) _ _ ((rd_T37 l0_6 x16_1).f2) ((rd_T37 l0_6 x16_1).f3) t249 _ ?side1 ?side2 ?side3 A26.out).mono ?_); (case side1 => repeat (first | exact (Kd.C_below HR246_6.out HB.out) | (with_reducible refine Kd.C_alloc ?_ _) | (with_reducible refine Kd.C_drewN ?_ _) | (with_reducible refine Kd.C_drew ?_))); (case side2 => exact HC246_6.out); (case side3 => exact Sh.below HSH.out (by repeat (first | (with_reducible first | exact HB.out | apply below_alloc | apply pw_below_drewN | apply below_drew1 | refine below_set ?_ GE245.out | refine below_set ?_ GE247.out) | exact HB.out))); rintro e w29 ⟨rfl, hb⟩; have n0_ := Aside0.mk (blk_below (g := gb245) (o := .cells #[.int .i64 a0_0, .string a0_1, .string a0_2, .int .i64 a0_3, .int .i64 a0_4, .int .i64 a0_5, .slice (some ad246) l0_6.length c0_6, .int .i64 a0_7] 37 (0, 0)) (by (with_reducible repeat (first | refine blk_drewN ?_ _ | refine blk_drew ?_ | refine blk_alloc ?_ _)); exact BK245.out) hb); have n1_ := Aside0.mk (blk_below (g := gb247) (o := .cells #[.int .i64 ((rd_T37 l0_6 x16_1).f0.f0), .string ((rd_T37 l0_6 x16_1).f0.f1), .string ((rd_T37 l0_6 x16_1).f0.f2), .int .i64 ((rd_T37 l0_6 x16_1).f0.f3), .int .i64 ((rd_T37 l0_6 x16_1).f0.f4), .int .i64 ((rd_T37 l0_6 x16_1).f1), .slice A246_6 ((rd_T37 l0_6 x16_1).f2).length c246_6, .int .i64 ((rd_T37 l0_6 x16_1).f3)] 37 (0, 0)) (by (with_reducible repeat (first | refine blk_drewN ?_ _ | refine blk_drew ?_ | refine blk_alloc ?_ _)); exact BK247.out) hb); have n2_ := Aside0.mk (below_step (by repeat (first | (with_reducible first | exact HB.out | apply below_alloc | apply pw_below_drewN | apply below_drew1 | refine below_set ?_ GE245.out | refine below_set ?_ GE247.out) | exact HB.out)) hb); clear BK245; clear BK247; clear HB; have BK245 := n0_; have BK247 := n1_; have HB := n2_; clear n0_ n1_ n2_; (try clear hb); (try clear hb2); (try clear hk); (try clear hi)))
              go_meet
              case rel => exact ⟨_, (!t249), (by first | rfl | (simp; done) | (simp [*]; done) | (simp [isE_bne]; done)), H', ⟨by have := HK1.out; have := HJ8.out; first | omega | exact Nat.le_refl _⟩, ⟨by (with_reducible repeat (first | refine blk_drewN ?_ _ | refine blk_drew ?_ | refine blk_alloc ?_ _)); exact BK245.out⟩, ⟨by (with_reducible repeat (first | refine blk_drewN ?_ _ | refine blk_drew ?_ | refine blk_alloc ?_ _)); exact BK247.out⟩, ⟨by repeat (first | (with_reducible first | exact HB.out | apply below_alloc | apply pw_below_drewN | apply below_drew1 | refine below_set ?_ GE245.out | refine below_set ?_ GE247.out) | exact HB.out)⟩⟩
             ·rw [if_neg c25] at H
              have c25b0 : ((bt a1 x16_1) == 115) = false := beq_eq_false_iff_ne.mpr c25
              have c25b1 : ((bt a1 x16_1) != 115) = true := bne_iff_ne.mpr c25
              have H' := Aside0.mk H
              clear H
              have p24 : 0 ≤ (x16_1 : Int) := of_decide_eq_true (by first | (with_reducible assumption) | assumption)
              have q24 : x16_1 < (a1.size : Int) := of_decide_eq_true (by first | (with_reducible assumption) | assumption)
              have hx24 := bt_at a1 x16_1
              replace p24 := eq_true p24
              replace q24 := eq_true q24
              go_wp2
              go_meet
              case rel => exact ⟨_, (false), (by first | rfl | (simp; done) | (simp [*]; done) | (simp [isE_bne]; done)), H', ⟨by have := HK1.out; have := HJ8.out; first | omega | exact Nat.le_refl _⟩, ⟨by (with_reducible repeat (first | refine blk_drewN ?_ _ | refine blk_drew ?_ | refine blk_alloc ?_ _)); exact BK245.out⟩, ⟨by (with_reducible repeat (first | refine blk_drewN ?_ _ | refine blk_drew ?_ | refine blk_alloc ?_ _)); exact BK247.out⟩, ⟨by repeat (first | (with_reducible first | exact HB.out | apply below_alloc | apply pw_below_drewN | apply below_drew1 | refine below_set ?_ GE245.out | refine below_set ?_ GE247.out) | exact HB.out)⟩⟩
            ·rw [if_neg c23] at H
             exact absurd H (by simp)
           ·rw [if_neg c22] at H
            exact absurd H (by simp)
          case rest =>
           clear HC21
           try clear c1
           try clear p1
           try clear q1
           try clear hx1
           try clear c2
           try clear p2
           try clear q2
           try clear hx2
           try clear c3
           try clear c3b0
           try clear c3b1
           try clear c3b2
           try clear c6
           try clear c6b0
           try clear c7
           try clear c7b0
           try clear c8
           try clear c8b0
           try clear c11
           try clear c13
           try clear c13b0
           try clear p14
           try clear q14
           try clear hx14
           try clear c15
           try clear c15b0
           try clear c15b1
           try clear c17
           try clear c20
           try clear c22
           try clear c22b0
           try clear c23
           try clear c23b0
           try clear c24
           try clear p24
           try clear q24
           try clear hx24
           try clear c25
           try clear c25b0
           try clear c25b1
           try clear c27
           try clear hcz12_0
           try clear hcz12_1
           try clear hcz12_2
           try clear hcz12_3
           try clear hcz12_4
           try clear hcz12_5
           try clear hcz12_6
           try clear hcz12_7
           try clear hcz18_0
           try clear hcz18_1
           try clear hcz18_2
           try clear hcz18_3
           try clear hcz18_4
           try clear hcz18_5
           try clear hcz18_6
           try clear hcz18_7
           try clear hcz28_0
           try clear hcz28_1
           try clear hcz28_2
           try clear hcz28_3
           try clear hcz28_4
           try clear hcz28_5
           try clear hcz28_6
           try clear hcz28_7
           try clear hcz5_0
           try clear hcz5_1
           try clear hcz5_2
           try clear hcz5_3
           try clear hcz5_4
           try clear hcz5_5
           try clear hcz5_6
           try clear hcz5_7
           try clear hfz12_0
           try clear hfz12_1
           try clear hfz12_2
           try clear hfz12_3
           try clear hfz12_4
           try clear hfz12_5
           try clear hfz12_6
           try clear hfz12_7
           try clear hfz18_0
           try clear hfz18_1
           try clear hfz18_2
           try clear hfz18_3
           try clear hfz18_4
           try clear hfz18_5
           try clear hfz18_6
           try clear hfz18_7
           try clear hfz28_0
           try clear hfz28_1
           try clear hfz28_2
           try clear hfz28_3
           try clear hfz28_4
           try clear hfz28_5
           try clear hfz28_6
           try clear hfz28_7
           try clear hfz5_0
           try clear hfz5_1
           try clear hfz5_2
           try clear hfz5_3
           try clear hfz5_4
           try clear hfz5_5
           try clear hfz5_6
           try clear hfz5_7
           try clear hx246_0
           try clear hx246_1
           try clear hx246_2
           try clear hx246_3
           try clear hx246_4
           try clear hx246_5
           try clear hx246_6
           try clear hx246_7
           try clear p1
           try clear p14
           try clear p2
           try clear p24
           try clear p246
           try clear q1
           try clear q14
           try clear q2
           try clear q24
           try clear q246
           obtain ⟨kq, x21_20, rfl, HA, HJ20, BK245, BK247, HB⟩ := hcut
           cases kq with
           | zero => exact absurd HA.out (by simp [impl_tree_kidsAre.j2])
           | succ kj20 =>
            have H := HA.out
            clear HA
            simp only [impl_tree_kidsAre.j2] at H
            by_cases c30 : x21_20 = true
            ·subst c30
             have H1 : (some false) = some r := by rw [if_pos rfl] at H; exact H
             clear H
             have H := H1
             clear H1
             obtain rfl := Option.some.inj H
             go_wp2
             go_ret
             exact ⟨by first | rfl | (simp [errW_none, errW_some] <;> rfl) | (simp [*, errW_none, errW_some] <;> rfl), by repeat (first | (with_reducible first | exact HB.out | apply below_alloc | apply pw_below_drewN | apply below_drew1 | refine below_set ?_ GE245.out | refine below_set ?_ GE247.out) | exact HB.out)⟩
            ·replace c30 := Bool.eq_false_iff.mpr c30
             subst c30
             have H1 : (if 0 ≤ x16_1 then (if x16_1 < (a1.size : Int) then (if (bt a1 x16_1) = 98 then (if ((rd_T37 l0_6 x16_1).f0.f0) = 27 then ((impl_tree_isStatement.f (impl_tree_kidsAre.f kj20) kj20 ((rd_T37 l0_6 x16_1).f0.f0) ((rd_T37 l0_6 x16_1).f0.f1) ((rd_T37 l0_6 x16_1).f0.f2) ((rd_T37 l0_6 x16_1).f0.f3) ((rd_T37 l0_6 x16_1).f0.f4) ((rd_T37 l0_6 x16_1).f1) ((rd_T37 l0_6 x16_1).f2) ((rd_T37 l0_6 x16_1).f3)).bind fun t250 => (if t250 = true then (impl_tree_kidsAre.l0 kj20 a1 l0_6 (l0_6.length : Int) (wrap64 (x16_1 + 1))) else (some false))) else (some false)) else (impl_tree_kidsAre.l0 kj20 a1 l0_6 (l0_6.length : Int) (wrap64 (x16_1 + 1)))) else (none)) else (none)) = some r := by rw [if_neg (show ¬ (false = true) by decide)] at H; exact H
             clear H
             have H := H1
             clear H1
             by_cases c31 : 0 ≤ x16_1
             ·rw [if_pos c31] at H
              have c31b0 : decide (0 ≤ x16_1) = true := decide_eq_true c31
              clear c31
              by_cases c32 : x16_1 < (a1.size : Int)
              ·rw [if_pos c32] at H
               have c32b0 : decide (x16_1 < (a1.size : Int)) = true := decide_eq_true c32
               clear c32
               by_cases c34 : (bt a1 x16_1) = 98
               ·rw [if_pos c34] at H
                have c34b0 : ((bt a1 x16_1) == 98) = true := beq_iff_eq.mpr c34
                have c34b1 : ((bt a1 x16_1) != 98) = false := bne_eq_false_iff_eq.mpr c34
                clear c34
                by_cases c35 : ((rd_T37 l0_6 x16_1).f0.f0) = 27
                ·rw [if_pos c35] at H
                 have c35b0 : (((rd_T37 l0_6 x16_1).f0.f0) == 27) = true := beq_iff_eq.mpr c35
                 have c35b1 : (((rd_T37 l0_6 x16_1).f0.f0) != 27) = false := bne_eq_false_iff_eq.mpr c35
                 clear c35
                 replace H := Option.bind_eq_some_iff.mp H
                 obtain ⟨t250, A360, H⟩ := H
                 replace H : (if t250 = true then (impl_tree_kidsAre.l0 kj20 a1 l0_6 (l0_6.length : Int) (wrap64 (x16_1 + 1))) else (some false)) = some r := H
                 have A36 := Aside0.mk A360
                 clear A360
                 by_cases c37 : t250 = true
                 ·subst c37
                  have H1 : (impl_tree_kidsAre.l0 kj20 a1 l0_6 (l0_6.length : Int) (wrap64 (x16_1 + 1))) = some r := by rw [if_pos rfl] at H; exact H
                  clear H
                  have H := H1
                  clear H1
                  have H' := Aside0.mk H
                  clear H
                  have p33 : 0 ≤ (x16_1 : Int) := of_decide_eq_true (by first | (with_reducible assumption) | assumption)
                  have q33 : x16_1 < (a1.size : Int) := of_decide_eq_true (by first | (with_reducible assumption) | assumption)
                  have hx33 := bt_at a1 x16_1
                  replace p33 := eq_true p33
                  replace q33 := eq_true q33
                  have hnb38 := NB247_245.out
                  have hnc38 := NB245_247.out
                  have hcz39_0 : wc.cell? ⟨gb247, 0, none⟩ = some (.int .i64 ((rd_T37 l0_6 x16_1).f0.f0)) := (blk_cell BK247.out 0).trans rfl
                  have hcz39_1 : wc.cell? ⟨gb247, 1, none⟩ = some (.string ((rd_T37 l0_6 x16_1).f0.f1)) := (blk_cell BK247.out 1).trans rfl
                  have hcz39_2 : wc.cell? ⟨gb247, 2, none⟩ = some (.string ((rd_T37 l0_6 x16_1).f0.f2)) := (blk_cell BK247.out 2).trans rfl
                  have hcz39_3 : wc.cell? ⟨gb247, 3, none⟩ = some (.int .i64 ((rd_T37 l0_6 x16_1).f0.f3)) := (blk_cell BK247.out 3).trans rfl
                  have hcz39_4 : wc.cell? ⟨gb247, 4, none⟩ = some (.int .i64 ((rd_T37 l0_6 x16_1).f0.f4)) := (blk_cell BK247.out 4).trans rfl
                  have hcz39_5 : wc.cell? ⟨gb247, 5, none⟩ = some (.int .i64 ((rd_T37 l0_6 x16_1).f1)) := (blk_cell BK247.out 5).trans rfl
                  have hcz39_6 : wc.cell? ⟨gb247, 6, none⟩ = some (.slice A246_6 ((rd_T37 l0_6 x16_1).f2).length c246_6) := (blk_cell BK247.out 6).trans rfl
                  have hcz39_7 : wc.cell? ⟨gb247, 7, none⟩ = some (.int .i64 ((rd_T37 l0_6 x16_1).f3)) := (blk_cell BK247.out 7).trans rfl
                  have hfz39_0 := blk_frozen BK247.out 0
                  have hfz39_1 := blk_frozen BK247.out 1
                  have hfz39_2 := blk_frozen BK247.out 2
                  have hfz39_3 := blk_frozen BK247.out 3
                  have hfz39_4 := blk_frozen BK247.out 4
                  have hfz39_5 := blk_frozen BK247.out 5
                  have hfz39_6 := blk_frozen BK247.out 6
                  have hfz39_7 := blk_frozen BK247.out 7
                  go_wp2_with (first | (go_at_call 13; (with_reducible refine (impl_tree_isStatement.calls ⟨impl_tree_kidsAre.f kj20, ih kj20 (by have := HK1.out; have := HJ8.out; have := HJ20.out; omega)⟩ kj20 ((rd_T37 l0_6 x16_1).f0.f0) ((rd_T37 l0_6 x16_1).f0.f1) ((rd_T37 l0_6 x16_1).f0.f2) ((rd_T37 l0_6 x16_1).f0.f3) ((rd_T37 l0_6 x16_1).f0.f4) ((rd_T37 l0_6 x16_1).f1) _ _ ((rd_T37 l0_6 x16_1).f2) ((rd_T37 l0_6 x16_1).f3) true _ ?side1 ?side2 ?side3 A36.out).mono ?_); (case side1 => repeat (first | exact (Kd.C_below HR246_6.out HB.out) | (with_reducible refine Kd.C_alloc ?_ _) | (with_reducible refine Kd.C_drewN ?_ _) | (with_reducible refine Kd.C_drew ?_))); (case side2 => exact HC246_6.out); (case side3 => exact Sh.below HSH.out (by repeat (first | (with_reducible first | exact HB.out | apply below_alloc | apply pw_below_drewN | apply below_drew1 | refine below_set ?_ GE245.out | refine below_set ?_ GE247.out) | exact HB.out))); rintro e w40 ⟨rfl, hb⟩; have n0_ := Aside0.mk (blk_below (g := gb245) (o := .cells #[.int .i64 a0_0, .string a0_1, .string a0_2, .int .i64 a0_3, .int .i64 a0_4, .int .i64 a0_5, .slice (some ad246) l0_6.length c0_6, .int .i64 a0_7] 37 (0, 0)) (by (with_reducible repeat (first | refine blk_drewN ?_ _ | refine blk_drew ?_ | refine blk_alloc ?_ _)); exact BK245.out) hb); have n1_ := Aside0.mk (blk_below (g := gb247) (o := .cells #[.int .i64 ((rd_T37 l0_6 x16_1).f0.f0), .string ((rd_T37 l0_6 x16_1).f0.f1), .string ((rd_T37 l0_6 x16_1).f0.f2), .int .i64 ((rd_T37 l0_6 x16_1).f0.f3), .int .i64 ((rd_T37 l0_6 x16_1).f0.f4), .int .i64 ((rd_T37 l0_6 x16_1).f1), .slice A246_6 ((rd_T37 l0_6 x16_1).f2).length c246_6, .int .i64 ((rd_T37 l0_6 x16_1).f3)] 37 (0, 0)) (by (with_reducible repeat (first | refine blk_drewN ?_ _ | refine blk_drew ?_ | refine blk_alloc ?_ _)); exact BK247.out) hb); have n2_ := Aside0.mk (below_step (by repeat (first | (with_reducible first | exact HB.out | apply below_alloc | apply pw_below_drewN | apply below_drew1 | refine below_set ?_ GE245.out | refine below_set ?_ GE247.out) | exact HB.out)) hb); clear BK245; clear BK247; clear HB; have BK245 := n0_; have BK247 := n1_; have HB := n2_; clear n0_ n1_ n2_; (try clear hb); (try clear hb2); (try clear hk); (try clear hi)))
                  go_roundg kj20
                  case measure => have := HK1.out; have := HJ8.out; have := HJ20.out; omega
                  case rel => exact ⟨(wrap64 (x16_1 + 1)), (by first | rfl | (simp; done) | (simp [*]; done) | (simp [isE_bne]; done)), H', ⟨by have := HK1.out; have := HJ8.out; have := HJ20.out; omega⟩, ⟨by (with_reducible repeat (first | refine blk_drewN ?_ _ | refine blk_drew ?_ | refine blk_alloc ?_ _)); exact BK245.out⟩, ⟨by repeat (first | (with_reducible first | exact HB.out | apply below_alloc | apply pw_below_drewN | apply below_drew1 | refine below_set ?_ GE245.out | refine below_set ?_ GE247.out) | exact HB.out)⟩⟩
                 ·replace c37 := Bool.eq_false_iff.mpr c37
                  subst c37
                  have H1 : (some false) = some r := by rw [if_neg (show ¬ (false = true) by decide)] at H; exact H
                  clear H
                  have H := H1
                  clear H1
                  obtain rfl := Option.some.inj H
                  have p33 : 0 ≤ (x16_1 : Int) := of_decide_eq_true (by first | (with_reducible assumption) | assumption)
                  have q33 : x16_1 < (a1.size : Int) := of_decide_eq_true (by first | (with_reducible assumption) | assumption)
                  have hx33 := bt_at a1 x16_1
                  replace p33 := eq_true p33
                  replace q33 := eq_true q33
                  have hnb41 := NB247_245.out
                  have hnc41 := NB245_247.out
                  have hcz42_0 : wc.cell? ⟨gb247, 0, none⟩ = some (.int .i64 ((rd_T37 l0_6 x16_1).f0.f0)) := (blk_cell BK247.out 0).trans rfl
                  have hcz42_1 : wc.cell? ⟨gb247, 1, none⟩ = some (.string ((rd_T37 l0_6 x16_1).f0.f1)) := (blk_cell BK247.out 1).trans rfl
                  have hcz42_2 : wc.cell? ⟨gb247, 2, none⟩ = some (.string ((rd_T37 l0_6 x16_1).f0.f2)) := (blk_cell BK247.out 2).trans rfl
                  have hcz42_3 : wc.cell? ⟨gb247, 3, none⟩ = some (.int .i64 ((rd_T37 l0_6 x16_1).f0.f3)) := (blk_cell BK247.out 3).trans rfl
                  have hcz42_4 : wc.cell? ⟨gb247, 4, none⟩ = some (.int .i64 ((rd_T37 l0_6 x16_1).f0.f4)) := (blk_cell BK247.out 4).trans rfl
                  have hcz42_5 : wc.cell? ⟨gb247, 5, none⟩ = some (.int .i64 ((rd_T37 l0_6 x16_1).f1)) := (blk_cell BK247.out 5).trans rfl
                  have hcz42_6 : wc.cell? ⟨gb247, 6, none⟩ = some (.slice A246_6 ((rd_T37 l0_6 x16_1).f2).length c246_6) := (blk_cell BK247.out 6).trans rfl
                  have hcz42_7 : wc.cell? ⟨gb247, 7, none⟩ = some (.int .i64 ((rd_T37 l0_6 x16_1).f3)) := (blk_cell BK247.out 7).trans rfl
                  have hfz42_0 := blk_frozen BK247.out 0
                  have hfz42_1 := blk_frozen BK247.out 1
                  have hfz42_2 := blk_frozen BK247.out 2
                  have hfz42_3 := blk_frozen BK247.out 3
                  have hfz42_4 := blk_frozen BK247.out 4
                  have hfz42_5 := blk_frozen BK247.out 5
                  have hfz42_6 := blk_frozen BK247.out 6
                  have hfz42_7 := blk_frozen BK247.out 7
                  go_wp2_with (first | (go_at_call 13; (with_reducible refine (impl_tree_isStatement.calls ⟨impl_tree_kidsAre.f kj20, ih kj20 (by have := HK1.out; have := HJ8.out; have := HJ20.out; omega)⟩ kj20 ((rd_T37 l0_6 x16_1).f0.f0) ((rd_T37 l0_6 x16_1).f0.f1) ((rd_T37 l0_6 x16_1).f0.f2) ((rd_T37 l0_6 x16_1).f0.f3) ((rd_T37 l0_6 x16_1).f0.f4) ((rd_T37 l0_6 x16_1).f1) _ _ ((rd_T37 l0_6 x16_1).f2) ((rd_T37 l0_6 x16_1).f3) false _ ?side1 ?side2 ?side3 A36.out).mono ?_); (case side1 => repeat (first | exact (Kd.C_below HR246_6.out HB.out) | (with_reducible refine Kd.C_alloc ?_ _) | (with_reducible refine Kd.C_drewN ?_ _) | (with_reducible refine Kd.C_drew ?_))); (case side2 => exact HC246_6.out); (case side3 => exact Sh.below HSH.out (by repeat (first | (with_reducible first | exact HB.out | apply below_alloc | apply pw_below_drewN | apply below_drew1 | refine below_set ?_ GE245.out | refine below_set ?_ GE247.out) | exact HB.out))); rintro e w43 ⟨rfl, hb⟩; have n0_ := Aside0.mk (blk_below (g := gb245) (o := .cells #[.int .i64 a0_0, .string a0_1, .string a0_2, .int .i64 a0_3, .int .i64 a0_4, .int .i64 a0_5, .slice (some ad246) l0_6.length c0_6, .int .i64 a0_7] 37 (0, 0)) (by (with_reducible repeat (first | refine blk_drewN ?_ _ | refine blk_drew ?_ | refine blk_alloc ?_ _)); exact BK245.out) hb); have n1_ := Aside0.mk (blk_below (g := gb247) (o := .cells #[.int .i64 ((rd_T37 l0_6 x16_1).f0.f0), .string ((rd_T37 l0_6 x16_1).f0.f1), .string ((rd_T37 l0_6 x16_1).f0.f2), .int .i64 ((rd_T37 l0_6 x16_1).f0.f3), .int .i64 ((rd_T37 l0_6 x16_1).f0.f4), .int .i64 ((rd_T37 l0_6 x16_1).f1), .slice A246_6 ((rd_T37 l0_6 x16_1).f2).length c246_6, .int .i64 ((rd_T37 l0_6 x16_1).f3)] 37 (0, 0)) (by (with_reducible repeat (first | refine blk_drewN ?_ _ | refine blk_drew ?_ | refine blk_alloc ?_ _)); exact BK247.out) hb); have n2_ := Aside0.mk (below_step (by repeat (first | (with_reducible first | exact HB.out | apply below_alloc | apply pw_below_drewN | apply below_drew1 | refine below_set ?_ GE245.out | refine below_set ?_ GE247.out) | exact HB.out)) hb); clear BK245; clear BK247; clear HB; have BK245 := n0_; have BK247 := n1_; have HB := n2_; clear n0_ n1_ n2_; (try clear hb); (try clear hb2); (try clear hk); (try clear hi)))
                  go_ret
                  exact ⟨by first | rfl | (simp [errW_none, errW_some] <;> rfl) | (simp [*, errW_none, errW_some] <;> rfl), by repeat (first | (with_reducible first | exact HB.out | apply below_alloc | apply pw_below_drewN | apply below_drew1 | refine below_set ?_ GE245.out | refine below_set ?_ GE247.out) | exact HB.out)⟩
                ·rw [if_neg c35] at H
                 have c35b0 : (((rd_T37 l0_6 x16_1).f0.f0) == 27) = false := beq_eq_false_iff_ne.mpr c35
                 have c35b1 : (((rd_T37 l0_6 x16_1).f0.f0) != 27) = true := bne_iff_ne.mpr c35
                 obtain rfl := Option.some.inj H
                 have p33 : 0 ≤ (x16_1 : Int) := of_decide_eq_true (by first | (with_reducible assumption) | assumption)
                 have q33 : x16_1 < (a1.size : Int) := of_decide_eq_true (by first | (with_reducible assumption) | assumption)
                 have hx33 := bt_at a1 x16_1
                 replace p33 := eq_true p33
                 replace q33 := eq_true q33
                 have hnb44 := NB247_245.out
                 have hnc44 := NB245_247.out
                 have hcz45_0 : wc.cell? ⟨gb247, 0, none⟩ = some (.int .i64 ((rd_T37 l0_6 x16_1).f0.f0)) := (blk_cell BK247.out 0).trans rfl
                 have hcz45_1 : wc.cell? ⟨gb247, 1, none⟩ = some (.string ((rd_T37 l0_6 x16_1).f0.f1)) := (blk_cell BK247.out 1).trans rfl
                 have hcz45_2 : wc.cell? ⟨gb247, 2, none⟩ = some (.string ((rd_T37 l0_6 x16_1).f0.f2)) := (blk_cell BK247.out 2).trans rfl
                 have hcz45_3 : wc.cell? ⟨gb247, 3, none⟩ = some (.int .i64 ((rd_T37 l0_6 x16_1).f0.f3)) := (blk_cell BK247.out 3).trans rfl
                 have hcz45_4 : wc.cell? ⟨gb247, 4, none⟩ = some (.int .i64 ((rd_T37 l0_6 x16_1).f0.f4)) := (blk_cell BK247.out 4).trans rfl
                 have hcz45_5 : wc.cell? ⟨gb247, 5, none⟩ = some (.int .i64 ((rd_T37 l0_6 x16_1).f1)) := (blk_cell BK247.out 5).trans rfl
                 have hcz45_6 : wc.cell? ⟨gb247, 6, none⟩ = some (.slice A246_6 ((rd_T37 l0_6 x16_1).f2).length c246_6) := (blk_cell BK247.out 6).trans rfl
                 have hcz45_7 : wc.cell? ⟨gb247, 7, none⟩ = some (.int .i64 ((rd_T37 l0_6 x16_1).f3)) := (blk_cell BK247.out 7).trans rfl
                 have hfz45_0 := blk_frozen BK247.out 0
                 have hfz45_1 := blk_frozen BK247.out 1
                 have hfz45_2 := blk_frozen BK247.out 2
                 have hfz45_3 := blk_frozen BK247.out 3
                 have hfz45_4 := blk_frozen BK247.out 4
                 have hfz45_5 := blk_frozen BK247.out 5
                 have hfz45_6 := blk_frozen BK247.out 6
                 have hfz45_7 := blk_frozen BK247.out 7
                 go_wp2
                 go_ret
                 exact ⟨by first | rfl | (simp [errW_none, errW_some] <;> rfl) | (simp [*, errW_none, errW_some] <;> rfl), by repeat (first | (with_reducible first | exact HB.out | apply below_alloc | apply pw_below_drewN | apply below_drew1 | refine below_set ?_ GE245.out | refine below_set ?_ GE247.out) | exact HB.out)⟩
               ·rw [if_neg c34] at H
                have c34b0 : ((bt a1 x16_1) == 98) = false := beq_eq_false_iff_ne.mpr c34
                have c34b1 : ((bt a1 x16_1) != 98) = true := bne_iff_ne.mpr c34
                have H' := Aside0.mk H
                clear H
                have p33 : 0 ≤ (x16_1 : Int) := of_decide_eq_true (by first | (with_reducible assumption) | assumption)
                have q33 : x16_1 < (a1.size : Int) := of_decide_eq_true (by first | (with_reducible assumption) | assumption)
                have hx33 := bt_at a1 x16_1
                replace p33 := eq_true p33
                replace q33 := eq_true q33
                go_wp2
                go_roundg kj20
                case measure => have := HK1.out; have := HJ8.out; have := HJ20.out; omega
                case rel => exact ⟨(wrap64 (x16_1 + 1)), (by first | rfl | (simp; done) | (simp [*]; done) | (simp [isE_bne]; done)), H', ⟨by have := HK1.out; have := HJ8.out; have := HJ20.out; omega⟩, ⟨by (with_reducible repeat (first | refine blk_drewN ?_ _ | refine blk_drew ?_ | refine blk_alloc ?_ _)); exact BK245.out⟩, ⟨by repeat (first | (with_reducible first | exact HB.out | apply below_alloc | apply pw_below_drewN | apply below_drew1 | refine below_set ?_ GE245.out | refine below_set ?_ GE247.out) | exact HB.out)⟩⟩
              ·rw [if_neg c32] at H
               exact absurd H (by simp)
             ·rw [if_neg c31] at H
              exact absurd H (by simp)
      ·rw [if_neg c8] at H
       exact absurd H (by simp)
     ·rw [if_neg c7] at H
      exact absurd H (by simp)
    ·rw [if_neg c6] at H
     have c6b0 : decide (x16_1 < (l0_6.length : Int)) = false := decide_eq_false c6
     clear c6
     obtain rfl := Option.some.inj H
     go_wp2
     go_ret
     exact ⟨by first | rfl | (simp [errW_none, errW_some] <;> rfl) | (simp [*, errW_none, errW_some] <;> rfl), by repeat (first | (with_reducible first | exact HB.out | apply below_alloc | apply pw_below_drewN | apply below_drew1 | refine below_set ?_ GE245.out) | exact HB.out)⟩
 ·rw [if_neg c3] at H
  have c3b0 : ((l0_6.length : Int) == (a1.size : Int)) = false := beq_eq_false_iff_ne.mpr c3
  have c3b1 : ((l0_6.length : Int) != (a1.size : Int)) = true := bne_iff_ne.mpr c3
  have c3b2 : (l0_6.length == a1.size) = false := by first | simpa using c3 | (simp at c3 ⊢; omega)
  obtain rfl := Option.some.inj H
  go_enter Tryd.func22, Tryd.ntmps22
  go_wp2_with (first | ((with_reducible refine gate_dst (N := 2) rfl ?_); refine box_event ?hg (N := 2) ?hd (cs := #[.int .i64 a0_0, .string a0_1, .string a0_2, .int .i64 a0_3, .int .i64 a0_4, .int .i64 a0_5, .slice A0_6 l0_6.length c0_6, .int .i64 a0_7]) (t := 37) ?hr ?_; (case hd => rfl); (case hg => rfl); (case hr => first | (go_simp; done) | (go_simp; rfl)); intro gb245 hg w46 hbox hb; have n0_ := Aside0.mk (below_step (by repeat (first | (with_reducible first | exact HB.out | apply below_alloc | apply pw_below_drewN | apply below_drew1) | exact HB.out)) hb); have n1_ := Aside0.mk (hbox); have n2_ := Aside0.mk ((by rw [hg]; exact (below_size (by repeat (first | (with_reducible first | exact HB.out | apply below_alloc | apply pw_below_drewN | apply below_drew1) | exact HB.out))) : w.heap.size ≤ gb245)); have n3_ := Aside0.mk ((by rw [hg]; exact (below_size (by repeat (first | (with_reducible first | exact HB.out | apply below_alloc | apply pw_below_drewN | apply below_drew1) | exact HB.out))) : w.heap.size ≤ gb245)); clear HB; have HB := n0_; have BK245 := n1_; have GW245 := n2_; have GE245 := n3_; clear n0_ n1_ n2_ n3_; clear hb hbox hg; have hcz47_0 : w46.cell? ⟨gb245, 0, none⟩ = some (.int .i64 a0_0) := (blk_cell BK245.out 0).trans rfl; have hcz47_1 : w46.cell? ⟨gb245, 1, none⟩ = some (.string a0_1) := (blk_cell BK245.out 1).trans rfl; have hcz47_2 : w46.cell? ⟨gb245, 2, none⟩ = some (.string a0_2) := (blk_cell BK245.out 2).trans rfl; have hcz47_3 : w46.cell? ⟨gb245, 3, none⟩ = some (.int .i64 a0_3) := (blk_cell BK245.out 3).trans rfl; have hcz47_4 : w46.cell? ⟨gb245, 4, none⟩ = some (.int .i64 a0_4) := (blk_cell BK245.out 4).trans rfl; have hcz47_5 : w46.cell? ⟨gb245, 5, none⟩ = some (.int .i64 a0_5) := (blk_cell BK245.out 5).trans rfl; have hcz47_6 : w46.cell? ⟨gb245, 6, none⟩ = some (.slice A0_6 l0_6.length c0_6) := (blk_cell BK245.out 6).trans rfl; have hcz47_7 : w46.cell? ⟨gb245, 7, none⟩ = some (.int .i64 a0_7) := (blk_cell BK245.out 7).trans rfl; have hfz47_0 := blk_frozen BK245.out 0; have hfz47_1 := blk_frozen BK245.out 1; have hfz47_2 := blk_frozen BK245.out 2; have hfz47_3 := blk_frozen BK245.out 3; have hfz47_4 := blk_frozen BK245.out 4; have hfz47_5 := blk_frozen BK245.out 5; have hfz47_6 := blk_frozen BK245.out 6; have hfz47_7 := blk_frozen BK245.out 7))
  go_ret
  exact ⟨by first | rfl | (simp [errW_none, errW_some] <;> rfl) | (simp [*, errW_none, errW_some] <;> rfl), by repeat (first | (with_reducible first | exact HB.out | apply below_alloc | apply pw_below_drewN | apply below_drew1 | refine below_set ?_ GE245.out) | exact HB.out)⟩

/-! ### impl_tree_isExpr_o: function 35, for callers outside its group -/
def impl_tree_isExpr_o.f (k : Nat) (a0_0 : Int) (a0_1 : ByteArray) (a0_2 : ByteArray) (a0_3 : Int) (a0_4 : Int) (a0_5 : Int) (l0_6 : List (S37)) (a0_7 : Int) : Option (Bool) := impl_tree_isExpr.f (impl_tree_kidsAre.f k) k a0_0 a0_1 a0_2 a0_3 a0_4 a0_5 l0_6 a0_7
theorem impl_tree_isExpr_o.mono : ∀ a0 a1 a2 a3 a4 a5 a6 a7 k, LeO (impl_tree_isExpr_o.f k a0 a1 a2 a3 a4 a5 a6 a7) (impl_tree_isExpr_o.f (k + 1) a0 a1 a2 a3 a4 a5 a6 a7) := fun a0 a1 a2 a3 a4 a5 a6 a7 k => impl_tree_isExpr.mono _ _ (fun y0 y1 y2 y3 y4 y5 y6 y7 y8 => impl_tree_kidsAre.mono y0 y1 y2 y3 y4 y5 y6 y7 y8 k) a0 a1 a2 a3 a4 a5 a6 a7 k
theorem impl_tree_isExpr_o.calls (k : Nat) (a0_0 : Int) (a0_1 : ByteArray) (a0_2 : ByteArray) (a0_3 : Int) (a0_4 : Int) (a0_5 : Int) (A0_6 : Option Addr) (c0_6 : Nat) (l0_6 : List (S37)) (a0_7 : Int) (r : Bool) (w : World) (hr0_6 : Kd.C k37 w A0_6 l0_6.length l0_6) (hc0_6 : l0_6.length ≤ c0_6) (hsh : Sh w) (h : impl_tree_isExpr_o.f k a0_0 a0_1 a0_2 a0_3 a0_4 a0_5 l0_6 a0_7 = some r) :
  Calls Tryd.prog 35 #[.agg #[.int .i64 a0_0, .string a0_1, .string a0_2, .int .i64 a0_3, .int .i64 a0_4, .int .i64 a0_5, .slice A0_6 l0_6.length c0_6, .int .i64 a0_7]] w fun e w' => e = .returned (.bool r) ∧ Below w.heap.size w w' :=
 impl_tree_isExpr.calls ⟨impl_tree_kidsAre.f k, impl_tree_kidsAre.calls k⟩ k a0_0 a0_1 a0_2 a0_3 a0_4 a0_5 A0_6 c0_6 l0_6 a0_7 r w hr0_6 hc0_6 hsh h
/-! ### impl_tree_isStatement_o: function 13, for callers outside its group -/
def impl_tree_isStatement_o.f (k : Nat) (a0_0 : Int) (a0_1 : ByteArray) (a0_2 : ByteArray) (a0_3 : Int) (a0_4 : Int) (a0_5 : Int) (l0_6 : List (S37)) (a0_7 : Int) : Option (Bool) := impl_tree_isStatement.f (impl_tree_kidsAre.f k) k a0_0 a0_1 a0_2 a0_3 a0_4 a0_5 l0_6 a0_7
theorem impl_tree_isStatement_o.mono : ∀ a0 a1 a2 a3 a4 a5 a6 a7 k, LeO (impl_tree_isStatement_o.f k a0 a1 a2 a3 a4 a5 a6 a7) (impl_tree_isStatement_o.f (k + 1) a0 a1 a2 a3 a4 a5 a6 a7) := fun a0 a1 a2 a3 a4 a5 a6 a7 k => impl_tree_isStatement.mono _ _ (fun y0 y1 y2 y3 y4 y5 y6 y7 y8 => impl_tree_kidsAre.mono y0 y1 y2 y3 y4 y5 y6 y7 y8 k) a0 a1 a2 a3 a4 a5 a6 a7 k
theorem impl_tree_isStatement_o.calls (k : Nat) (a0_0 : Int) (a0_1 : ByteArray) (a0_2 : ByteArray) (a0_3 : Int) (a0_4 : Int) (a0_5 : Int) (A0_6 : Option Addr) (c0_6 : Nat) (l0_6 : List (S37)) (a0_7 : Int) (r : Bool) (w : World) (hr0_6 : Kd.C k37 w A0_6 l0_6.length l0_6) (hc0_6 : l0_6.length ≤ c0_6) (hsh : Sh w) (h : impl_tree_isStatement_o.f k a0_0 a0_1 a0_2 a0_3 a0_4 a0_5 l0_6 a0_7 = some r) :
  Calls Tryd.prog 13 #[.agg #[.int .i64 a0_0, .string a0_1, .string a0_2, .int .i64 a0_3, .int .i64 a0_4, .int .i64 a0_5, .slice A0_6 l0_6.length c0_6, .int .i64 a0_7]] w fun e w' => e = .returned (.bool r) ∧ Below w.heap.size w w' :=
 impl_tree_isStatement.calls ⟨impl_tree_kidsAre.f k, impl_tree_kidsAre.calls k⟩ k a0_0 a0_1 a0_2 a0_3 a0_4 a0_5 A0_6 c0_6 l0_6 a0_7 r w hr0_6 hc0_6 hsh h
/-! ### impl_NodesRight: function 7 -/
def impl_NodesRight.f (k : Nat) (l0 : List (S33)) : Option (Bool) := (impl_treeOf.f k l0).bind fun bt251 => (if bt251.2.2.2.2.2.2.2.2 = true then (if bt251.1 = 27 then ((impl_tree_isStatement_o.f k bt251.1 bt251.2.1 bt251.2.2.1 bt251.2.2.2.1 bt251.2.2.2.2.1 bt251.2.2.2.2.2.1 bt251.2.2.2.2.2.2.1 bt251.2.2.2.2.2.2.2.1).bind fun t263 => (some t263)) else (some false)) else (some false))
theorem impl_NodesRight.mono : ∀ a0 k, LeO (impl_NodesRight.f k a0) (impl_NodesRight.f (k + 1) a0) := by
 intro a0 k
 unfold impl_NodesRight.f
 repeat' first
   | (with_reducible exact impl_treeOf.mono _ _)
   | (with_reducible exact impl_tree_isStatement_o.mono _ _ _ _ _ _ _ _ _)
   | (with_reducible exact LeO.refl _)
   | (with_reducible exact LeO.none _)
   | (with_reducible refine LeO.ite ?_ ?_)
   | (with_reducible refine LeO.bind ?_ (fun _ => ?_))
   | exact impl_treeOf.mono _ _
   | exact impl_tree_isStatement_o.mono _ _ _ _ _ _ _ _ _
   | exact LeO.none _
   | refine LeO.ite ?_ ?_
   | refine LeO.bind ?_ (fun _ => ?_)
set_option maxHeartbeats 8000000 in
set_option maxRecDepth 100000 in
theorem impl_NodesRight.calls (k : Nat) (A0 : Option Addr) (c0 : Nat) (l0 : List (S33)) (r : Bool) (w : World) (hr0 : Kd.C k33 w A0 l0.length l0) (hc0 : l0.length ≤ c0) (hsh : Sh w) (h : impl_NodesRight.f k l0 = some r) :
  Calls Tryd.prog 7 #[.slice A0 l0.length c0] w fun e w' => e = .returned (.bool r) ∧ Below w.heap.size w w' := by
 have hu37 := Tryd.underlying37
 have HR0 := Aside0.mk hr0
 have HC0 := Aside0.mk hc0
 clear hr0 hc0
 have HSH := Aside0.mk hsh
 clear hsh
 have HB := Aside0.mk (Below.refl w.heap.size w)
 have H : ((impl_treeOf.f k l0).bind fun bt251 => (if bt251.2.2.2.2.2.2.2.2 = true then (if bt251.1 = 27 then ((impl_tree_isStatement_o.f k bt251.1 bt251.2.1 bt251.2.2.1 bt251.2.2.2.1 bt251.2.2.2.2.1 bt251.2.2.2.2.2.1 bt251.2.2.2.2.2.2.1 bt251.2.2.2.2.2.2.2.1).bind fun t263 => (some t263)) else (some false)) else (some false))) = some r := h
 clear h
 replace H := Option.bind_eq_some_iff.mp H
 obtain ⟨⟨t251, t252, t253, t254, t255, t256, t257, t260, t261⟩, A20, H⟩ := H
 replace H : (if t261 = true then (if t251 = 27 then ((impl_tree_isStatement_o.f k t251 t252 t253 t254 t255 t256 t257 t260).bind fun t263 => (some t263)) else (some false)) else (some false)) = some r := H
 have A2 := Aside0.mk A20
 clear A20
 by_cases c3 : t261 = true
 ·subst c3
  have H1 : (if t251 = 27 then ((impl_tree_isStatement_o.f k t251 t252 t253 t254 t255 t256 t257 t260).bind fun t263 => (some t263)) else (some false)) = some r := by rw [if_pos rfl] at H; exact H
  clear H
  have H := H1
  clear H1
  by_cases c4 : t251 = 27
  ·rw [if_pos c4] at H
   have c4b0 : (t251 == 27) = true := beq_iff_eq.mpr c4
   have c4b1 : (t251 != 27) = false := bne_eq_false_iff_eq.mpr c4
   clear c4
   replace H := Option.bind_eq_some_iff.mp H
   obtain ⟨t263, A50, H⟩ := H
   replace H : (some t263) = some r := H
   have A5 := Aside0.mk A50
   clear A50
   obtain rfl := Option.some.inj H
   go_enter Tryd.func7, Tryd.ntmps7
   go_wp2_with (first | ((with_reducible refine gate_callee (f := 12) rfl ?_); refine goesL_ (some 7) rfl rfl Tryd.func12 (by kernel_rfl) rfl #[.slice A0 l0.length c0] rfl (by (try simp only [List.map_toArray, List.map_cons, List.map_nil]); first | done | rfl | (simp only [List.length_drop, List.length_take]; rfl)) ?_; (with_reducible refine (impl_treeOf.calls k _ _ l0 t251 t252 t253 t254 t255 t256 t257 t260 true _ ?side1 ?side2 A2.out).mono ?_); (case side1 => repeat (first | exact HR0.out | (with_reducible refine Kd.C_alloc ?_ _) | (with_reducible refine Kd.C_drewN ?_ _) | (with_reducible refine Kd.C_drew ?_))); (case side2 => exact HC0.out); rintro e w6 ⟨v258, rfl, ho0, hb⟩; refine ⟨_, rfl, ?_⟩; have n0_ := Aside0.mk (Kd.R_lower ho0 (below_size (by repeat (first | (with_reducible first | exact HB.out | apply below_alloc | apply pw_below_drewN | apply below_drew1) | exact HB.out)))); have n1_ := Aside0.mk (below_step (by repeat (first | (with_reducible first | exact HB.out | apply below_alloc | apply pw_below_drewN | apply below_drew1) | exact HB.out)) hb); clear HB; have HO259 := n0_; have HB := n1_; clear n0_ n1_; (try clear hb); (try clear hb2); (try clear hk); (try clear hi); (try clear ho0)) | ((with_reducible refine gate_dst (N := 3) rfl ?_); refine box_event ?hg (N := 3) ?hd (cs := #[.int .i64 0, .string (⟨#[]⟩ : ByteArray), .string (⟨#[]⟩ : ByteArray), .int .i64 0, .int .i64 0, .int .i64 0, .slice none 0 0, .int .i64 0]) (t := 37) ?hr ?_; (case hd => rfl); (case hg => rfl); (case hr => first | (go_simp; done) | (go_simp; rfl)); intro gb262 hg w7 hbox hb; have n0_ := Aside0.mk (Kd.R_below (Kd.R_elderB (by (with_reducible repeat (first | apply Kd.R_alloc | apply Kd.R_drewN | apply Kd.R_drew)); exact HO259.out) gb262 (Nat.le_of_eq hg.symm)) hb); have n1_ := Aside0.mk (below_step (by repeat (first | (with_reducible first | exact HB.out | apply below_alloc | apply pw_below_drewN | apply below_drew1) | exact HB.out)) hb); have n2_ := Aside0.mk (hbox); have n3_ := Aside0.mk ((by rw [hg]; exact (below_size (by repeat (first | (with_reducible first | exact HB.out | apply below_alloc | apply pw_below_drewN | apply below_drew1) | exact HB.out))) : w.heap.size ≤ gb262)); have n4_ := Aside0.mk ((by rw [hg]; exact (below_size (by repeat (first | (with_reducible first | exact HB.out | apply below_alloc | apply pw_below_drewN | apply below_drew1) | exact HB.out))) : w.heap.size ≤ gb262)); clear HO259; clear HB; have HO259 := n0_; have HB := n1_; have BK262 := n2_; have GW262 := n3_; have GE262 := n4_; clear n0_ n1_ n2_ n3_ n4_; clear hb hbox hg; have hcz8_0 : w7.cell? ⟨gb262, 0, none⟩ = some (.int .i64 0) := (blk_cell BK262.out 0).trans rfl; have hcz8_1 : w7.cell? ⟨gb262, 1, none⟩ = some (.string (⟨#[]⟩ : ByteArray)) := (blk_cell BK262.out 1).trans rfl; have hcz8_2 : w7.cell? ⟨gb262, 2, none⟩ = some (.string (⟨#[]⟩ : ByteArray)) := (blk_cell BK262.out 2).trans rfl; have hcz8_3 : w7.cell? ⟨gb262, 3, none⟩ = some (.int .i64 0) := (blk_cell BK262.out 3).trans rfl; have hcz8_4 : w7.cell? ⟨gb262, 4, none⟩ = some (.int .i64 0) := (blk_cell BK262.out 4).trans rfl; have hcz8_5 : w7.cell? ⟨gb262, 5, none⟩ = some (.int .i64 0) := (blk_cell BK262.out 5).trans rfl; have hcz8_6 : w7.cell? ⟨gb262, 6, none⟩ = some (.slice none 0 0) := (blk_cell BK262.out 6).trans rfl; have hcz8_7 : w7.cell? ⟨gb262, 7, none⟩ = some (.int .i64 0) := (blk_cell BK262.out 7).trans rfl; have hfz8_0 := blk_frozen BK262.out 0; have hfz8_1 := blk_frozen BK262.out 1; have hfz8_2 := blk_frozen BK262.out 2; have hfz8_3 := blk_frozen BK262.out 3; have hfz8_4 := blk_frozen BK262.out 4; have hfz8_5 := blk_frozen BK262.out 5; have hfz8_6 := blk_frozen BK262.out 6; have hfz8_7 := blk_frozen BK262.out 7; obtain ⟨Ao9, co9, eo9⟩ := Kd.R_slice HO259.out; subst eo9) | (go_at_call 13; (with_reducible refine (impl_tree_isStatement_o.calls k t251 t252 t253 t254 t255 t256 _ _ t257 t260 t263 _ ?side1 ?side2 ?side3 A5.out).mono ?_); (case side1 => refine (Kd.R_reads' (e := 37) (base := w.heap.size) (ok := fun k_ => (True ∧ k_ ≠ gb262)) (n := t257.length) (c := co9) ?_).2.2; exact (by (with_reducible repeat (first | apply Kd.R_alloc | apply Kd.R_drewN | apply Kd.R_drew)); exact (Kd.R_mono (Kd.R_far (p := ⟨gb262, 7, none⟩) (Kd.R_far (p := ⟨gb262, 6, none⟩) (Kd.R_far (p := ⟨gb262, 5, none⟩) (Kd.R_far (p := ⟨gb262, 4, none⟩) (Kd.R_far (p := ⟨gb262, 3, none⟩) (Kd.R_far (p := ⟨gb262, 2, none⟩) (Kd.R_far (p := ⟨gb262, 1, none⟩) (Kd.R_far (p := ⟨gb262, 0, none⟩) (Kd.R_mono HO259.out (fun k_ hk => (⟨hk, hk.2⟩ : _ ∧ k_ ≠ gb262))) (fun _ hk => hk.2) (.int .i64 t251)) (fun _ hk => hk.2) (.string t252)) (fun _ hk => hk.2) (.string t253)) (fun _ hk => hk.2) (.int .i64 t254)) (fun _ hk => hk.2) (.int .i64 t255)) (fun _ hk => hk.2) (.int .i64 t256)) (fun _ hk => hk.2) (.slice Ao9 t257.length co9)) (fun _ hk => hk.2) (.int .i64 t260)) (fun _ h_ => h_.1)))); (case side2 => exact (Kd.R_reads' HO259.out).2.1); (case side3 => exact Sh.below HSH.out (by repeat (first | (with_reducible first | exact HB.out | apply below_alloc | apply pw_below_drewN | apply below_drew1 | refine below_set ?_ GE262.out) | exact HB.out))); rintro e w10 ⟨rfl, hb⟩; have n0_ := Aside0.mk (Kd.R_below (by (with_reducible repeat (first | apply Kd.R_alloc | apply Kd.R_drewN | apply Kd.R_drew)); exact (Kd.R_mono (Kd.R_far (p := ⟨gb262, 7, none⟩) (Kd.R_far (p := ⟨gb262, 6, none⟩) (Kd.R_far (p := ⟨gb262, 5, none⟩) (Kd.R_far (p := ⟨gb262, 4, none⟩) (Kd.R_far (p := ⟨gb262, 3, none⟩) (Kd.R_far (p := ⟨gb262, 2, none⟩) (Kd.R_far (p := ⟨gb262, 1, none⟩) (Kd.R_far (p := ⟨gb262, 0, none⟩) (Kd.R_mono HO259.out (fun k_ hk => (⟨hk, hk.2⟩ : _ ∧ k_ ≠ gb262))) (fun _ hk => hk.2) (.int .i64 t251)) (fun _ hk => hk.2) (.string t252)) (fun _ hk => hk.2) (.string t253)) (fun _ hk => hk.2) (.int .i64 t254)) (fun _ hk => hk.2) (.int .i64 t255)) (fun _ hk => hk.2) (.int .i64 t256)) (fun _ hk => hk.2) (.slice Ao9 t257.length co9)) (fun _ hk => hk.2) (.int .i64 t260)) (fun _ h_ => h_.1))) hb); have n1_ := Aside0.mk (blk_below (g := gb262) (o := .cells #[.int .i64 t251, .string t252, .string t253, .int .i64 t254, .int .i64 t255, .int .i64 t256, .slice Ao9 t257.length co9, .int .i64 t260] 37 (0, 0)) (by (with_reducible repeat (first | refine blk_drewN ?_ _ | refine blk_drew ?_ | refine blk_alloc ?_ _)); refine blk_put (cs := #[.int .i64 t251, .string t252, .string t253, .int .i64 t254, .int .i64 t255, .int .i64 t256, .slice Ao9 t257.length co9, .int .i64 0]) ?_ 7 _ rfl; (with_reducible repeat (first | refine blk_drewN ?_ _ | refine blk_drew ?_ | refine blk_alloc ?_ _)); refine blk_put (cs := #[.int .i64 t251, .string t252, .string t253, .int .i64 t254, .int .i64 t255, .int .i64 t256, .slice none 0 0, .int .i64 0]) ?_ 6 _ rfl; (with_reducible repeat (first | refine blk_drewN ?_ _ | refine blk_drew ?_ | refine blk_alloc ?_ _)); refine blk_put (cs := #[.int .i64 t251, .string t252, .string t253, .int .i64 t254, .int .i64 t255, .int .i64 0, .slice none 0 0, .int .i64 0]) ?_ 5 _ rfl; (with_reducible repeat (first | refine blk_drewN ?_ _ | refine blk_drew ?_ | refine blk_alloc ?_ _)); refine blk_put (cs := #[.int .i64 t251, .string t252, .string t253, .int .i64 t254, .int .i64 0, .int .i64 0, .slice none 0 0, .int .i64 0]) ?_ 4 _ rfl; (with_reducible repeat (first | refine blk_drewN ?_ _ | refine blk_drew ?_ | refine blk_alloc ?_ _)); refine blk_put (cs := #[.int .i64 t251, .string t252, .string t253, .int .i64 0, .int .i64 0, .int .i64 0, .slice none 0 0, .int .i64 0]) ?_ 3 _ rfl; (with_reducible repeat (first | refine blk_drewN ?_ _ | refine blk_drew ?_ | refine blk_alloc ?_ _)); refine blk_put (cs := #[.int .i64 t251, .string t252, .string (⟨#[]⟩ : ByteArray), .int .i64 0, .int .i64 0, .int .i64 0, .slice none 0 0, .int .i64 0]) ?_ 2 _ rfl; (with_reducible repeat (first | refine blk_drewN ?_ _ | refine blk_drew ?_ | refine blk_alloc ?_ _)); refine blk_put (cs := #[.int .i64 t251, .string (⟨#[]⟩ : ByteArray), .string (⟨#[]⟩ : ByteArray), .int .i64 0, .int .i64 0, .int .i64 0, .slice none 0 0, .int .i64 0]) ?_ 1 _ rfl; (with_reducible repeat (first | refine blk_drewN ?_ _ | refine blk_drew ?_ | refine blk_alloc ?_ _)); refine blk_put (cs := #[.int .i64 0, .string (⟨#[]⟩ : ByteArray), .string (⟨#[]⟩ : ByteArray), .int .i64 0, .int .i64 0, .int .i64 0, .slice none 0 0, .int .i64 0]) ?_ 0 _ rfl; (with_reducible repeat (first | refine blk_drewN ?_ _ | refine blk_drew ?_ | refine blk_alloc ?_ _)); exact BK262.out) hb); have n2_ := Aside0.mk (below_step (by repeat (first | (with_reducible first | exact HB.out | apply below_alloc | apply pw_below_drewN | apply below_drew1 | refine below_set ?_ GE262.out) | exact HB.out)) hb); clear HO259; clear BK262; clear HB; have HO259 := n0_; have BK262 := n1_; have HB := n2_; clear n0_ n1_ n2_; (try clear hb); (try clear hb2); (try clear hk); (try clear hi)))
   go_ret
   exact ⟨by first | rfl | (simp [errW_none, errW_some] <;> rfl) | (simp [*, errW_none, errW_some] <;> rfl), by repeat (first | (with_reducible first | exact HB.out | apply below_alloc | apply pw_below_drewN | apply below_drew1 | refine below_set ?_ GE262.out) | exact HB.out)⟩
  ·rw [if_neg c4] at H
   have c4b0 : (t251 == 27) = false := beq_eq_false_iff_ne.mpr c4
   have c4b1 : (t251 != 27) = true := bne_iff_ne.mpr c4
   obtain rfl := Option.some.inj H
   go_enter Tryd.func7, Tryd.ntmps7
   go_wp2_with (first | ((with_reducible refine gate_callee (f := 12) rfl ?_); refine goesL_ (some 7) rfl rfl Tryd.func12 (by kernel_rfl) rfl #[.slice A0 l0.length c0] rfl (by (try simp only [List.map_toArray, List.map_cons, List.map_nil]); first | done | rfl | (simp only [List.length_drop, List.length_take]; rfl)) ?_; (with_reducible refine (impl_treeOf.calls k _ _ l0 t251 t252 t253 t254 t255 t256 t257 t260 true _ ?side1 ?side2 A2.out).mono ?_); (case side1 => repeat (first | exact HR0.out | (with_reducible refine Kd.C_alloc ?_ _) | (with_reducible refine Kd.C_drewN ?_ _) | (with_reducible refine Kd.C_drew ?_))); (case side2 => exact HC0.out); rintro e w11 ⟨v258, rfl, ho0, hb⟩; refine ⟨_, rfl, ?_⟩; have n0_ := Aside0.mk (Kd.R_lower ho0 (below_size (by repeat (first | (with_reducible first | exact HB.out | apply below_alloc | apply pw_below_drewN | apply below_drew1) | exact HB.out)))); have n1_ := Aside0.mk (below_step (by repeat (first | (with_reducible first | exact HB.out | apply below_alloc | apply pw_below_drewN | apply below_drew1) | exact HB.out)) hb); clear HB; have HO259 := n0_; have HB := n1_; clear n0_ n1_; (try clear hb); (try clear hb2); (try clear hk); (try clear hi); (try clear ho0)) | ((with_reducible refine gate_dst (N := 3) rfl ?_); refine box_event ?hg (N := 3) ?hd (cs := #[.int .i64 0, .string (⟨#[]⟩ : ByteArray), .string (⟨#[]⟩ : ByteArray), .int .i64 0, .int .i64 0, .int .i64 0, .slice none 0 0, .int .i64 0]) (t := 37) ?hr ?_; (case hd => rfl); (case hg => rfl); (case hr => first | (go_simp; done) | (go_simp; rfl)); intro gb262 hg w12 hbox hb; have n0_ := Aside0.mk (Kd.R_below (Kd.R_elderB (by (with_reducible repeat (first | apply Kd.R_alloc | apply Kd.R_drewN | apply Kd.R_drew)); exact HO259.out) gb262 (Nat.le_of_eq hg.symm)) hb); have n1_ := Aside0.mk (below_step (by repeat (first | (with_reducible first | exact HB.out | apply below_alloc | apply pw_below_drewN | apply below_drew1) | exact HB.out)) hb); have n2_ := Aside0.mk (hbox); have n3_ := Aside0.mk ((by rw [hg]; exact (below_size (by repeat (first | (with_reducible first | exact HB.out | apply below_alloc | apply pw_below_drewN | apply below_drew1) | exact HB.out))) : w.heap.size ≤ gb262)); have n4_ := Aside0.mk ((by rw [hg]; exact (below_size (by repeat (first | (with_reducible first | exact HB.out | apply below_alloc | apply pw_below_drewN | apply below_drew1) | exact HB.out))) : w.heap.size ≤ gb262)); clear HO259; clear HB; have HO259 := n0_; have HB := n1_; have BK262 := n2_; have GW262 := n3_; have GE262 := n4_; clear n0_ n1_ n2_ n3_ n4_; clear hb hbox hg; have hcz13_0 : w12.cell? ⟨gb262, 0, none⟩ = some (.int .i64 0) := (blk_cell BK262.out 0).trans rfl; have hcz13_1 : w12.cell? ⟨gb262, 1, none⟩ = some (.string (⟨#[]⟩ : ByteArray)) := (blk_cell BK262.out 1).trans rfl; have hcz13_2 : w12.cell? ⟨gb262, 2, none⟩ = some (.string (⟨#[]⟩ : ByteArray)) := (blk_cell BK262.out 2).trans rfl; have hcz13_3 : w12.cell? ⟨gb262, 3, none⟩ = some (.int .i64 0) := (blk_cell BK262.out 3).trans rfl; have hcz13_4 : w12.cell? ⟨gb262, 4, none⟩ = some (.int .i64 0) := (blk_cell BK262.out 4).trans rfl; have hcz13_5 : w12.cell? ⟨gb262, 5, none⟩ = some (.int .i64 0) := (blk_cell BK262.out 5).trans rfl; have hcz13_6 : w12.cell? ⟨gb262, 6, none⟩ = some (.slice none 0 0) := (blk_cell BK262.out 6).trans rfl; have hcz13_7 : w12.cell? ⟨gb262, 7, none⟩ = some (.int .i64 0) := (blk_cell BK262.out 7).trans rfl; have hfz13_0 := blk_frozen BK262.out 0; have hfz13_1 := blk_frozen BK262.out 1; have hfz13_2 := blk_frozen BK262.out 2; have hfz13_3 := blk_frozen BK262.out 3; have hfz13_4 := blk_frozen BK262.out 4; have hfz13_5 := blk_frozen BK262.out 5; have hfz13_6 := blk_frozen BK262.out 6; have hfz13_7 := blk_frozen BK262.out 7; obtain ⟨Ao14, co14, eo14⟩ := Kd.R_slice HO259.out; subst eo14))
   go_ret
   exact ⟨by first | rfl | (simp [errW_none, errW_some] <;> rfl) | (simp [*, errW_none, errW_some] <;> rfl), by repeat (first | (with_reducible first | exact HB.out | apply below_alloc | apply pw_below_drewN | apply below_drew1 | refine below_set ?_ GE262.out) | exact HB.out)⟩
 ·replace c3 := Bool.eq_false_iff.mpr c3
  subst c3
  have H1 : (some false) = some r := by rw [if_neg (show ¬ (false = true) by decide)] at H; exact H
  clear H
  have H := H1
  clear H1
  obtain rfl := Option.some.inj H
  go_enter Tryd.func7, Tryd.ntmps7
  go_wp2_with (first | ((with_reducible refine gate_callee (f := 12) rfl ?_); refine goesL_ (some 7) rfl rfl Tryd.func12 (by kernel_rfl) rfl #[.slice A0 l0.length c0] rfl (by (try simp only [List.map_toArray, List.map_cons, List.map_nil]); first | done | rfl | (simp only [List.length_drop, List.length_take]; rfl)) ?_; (with_reducible refine (impl_treeOf.calls k _ _ l0 t251 t252 t253 t254 t255 t256 t257 t260 false _ ?side1 ?side2 A2.out).mono ?_); (case side1 => repeat (first | exact HR0.out | (with_reducible refine Kd.C_alloc ?_ _) | (with_reducible refine Kd.C_drewN ?_ _) | (with_reducible refine Kd.C_drew ?_))); (case side2 => exact HC0.out); rintro e w15 ⟨v258, rfl, ho0, hb⟩; refine ⟨_, rfl, ?_⟩; have n0_ := Aside0.mk (Kd.R_lower ho0 (below_size (by repeat (first | (with_reducible first | exact HB.out | apply below_alloc | apply pw_below_drewN | apply below_drew1) | exact HB.out)))); have n1_ := Aside0.mk (below_step (by repeat (first | (with_reducible first | exact HB.out | apply below_alloc | apply pw_below_drewN | apply below_drew1) | exact HB.out)) hb); clear HB; have HO259 := n0_; have HB := n1_; clear n0_ n1_; (try clear hb); (try clear hb2); (try clear hk); (try clear hi); (try clear ho0)) | ((with_reducible refine gate_dst (N := 3) rfl ?_); refine box_event ?hg (N := 3) ?hd (cs := #[.int .i64 0, .string (⟨#[]⟩ : ByteArray), .string (⟨#[]⟩ : ByteArray), .int .i64 0, .int .i64 0, .int .i64 0, .slice none 0 0, .int .i64 0]) (t := 37) ?hr ?_; (case hd => rfl); (case hg => rfl); (case hr => first | (go_simp; done) | (go_simp; rfl)); intro gb262 hg w16 hbox hb; have n0_ := Aside0.mk (Kd.R_below (Kd.R_elderB (by (with_reducible repeat (first | apply Kd.R_alloc | apply Kd.R_drewN | apply Kd.R_drew)); exact HO259.out) gb262 (Nat.le_of_eq hg.symm)) hb); have n1_ := Aside0.mk (below_step (by repeat (first | (with_reducible first | exact HB.out | apply below_alloc | apply pw_below_drewN | apply below_drew1) | exact HB.out)) hb); have n2_ := Aside0.mk (hbox); have n3_ := Aside0.mk ((by rw [hg]; exact (below_size (by repeat (first | (with_reducible first | exact HB.out | apply below_alloc | apply pw_below_drewN | apply below_drew1) | exact HB.out))) : w.heap.size ≤ gb262)); have n4_ := Aside0.mk ((by rw [hg]; exact (below_size (by repeat (first | (with_reducible first | exact HB.out | apply below_alloc | apply pw_below_drewN | apply below_drew1) | exact HB.out))) : w.heap.size ≤ gb262)); clear HO259; clear HB; have HO259 := n0_; have HB := n1_; have BK262 := n2_; have GW262 := n3_; have GE262 := n4_; clear n0_ n1_ n2_ n3_ n4_; clear hb hbox hg; have hcz17_0 : w16.cell? ⟨gb262, 0, none⟩ = some (.int .i64 0) := (blk_cell BK262.out 0).trans rfl; have hcz17_1 : w16.cell? ⟨gb262, 1, none⟩ = some (.string (⟨#[]⟩ : ByteArray)) := (blk_cell BK262.out 1).trans rfl; have hcz17_2 : w16.cell? ⟨gb262, 2, none⟩ = some (.string (⟨#[]⟩ : ByteArray)) := (blk_cell BK262.out 2).trans rfl; have hcz17_3 : w16.cell? ⟨gb262, 3, none⟩ = some (.int .i64 0) := (blk_cell BK262.out 3).trans rfl; have hcz17_4 : w16.cell? ⟨gb262, 4, none⟩ = some (.int .i64 0) := (blk_cell BK262.out 4).trans rfl; have hcz17_5 : w16.cell? ⟨gb262, 5, none⟩ = some (.int .i64 0) := (blk_cell BK262.out 5).trans rfl; have hcz17_6 : w16.cell? ⟨gb262, 6, none⟩ = some (.slice none 0 0) := (blk_cell BK262.out 6).trans rfl; have hcz17_7 : w16.cell? ⟨gb262, 7, none⟩ = some (.int .i64 0) := (blk_cell BK262.out 7).trans rfl; have hfz17_0 := blk_frozen BK262.out 0; have hfz17_1 := blk_frozen BK262.out 1; have hfz17_2 := blk_frozen BK262.out 2; have hfz17_3 := blk_frozen BK262.out 3; have hfz17_4 := blk_frozen BK262.out 4; have hfz17_5 := blk_frozen BK262.out 5; have hfz17_6 := blk_frozen BK262.out 6; have hfz17_7 := blk_frozen BK262.out 7; obtain ⟨Ao18, co18, eo18⟩ := Kd.R_slice HO259.out; subst eo18))
  go_ret
  exact ⟨by first | rfl | (simp [errW_none, errW_some] <;> rfl) | (simp [*, errW_none, errW_some] <;> rfl), by repeat (first | (with_reducible first | exact HB.out | apply below_alloc | apply pw_below_drewN | apply below_drew1 | refine below_set ?_ GE262.out) | exact HB.out)⟩

end Go.Proofs.YtodokfmmnihecaaDoor.PFnExactNodesRight
