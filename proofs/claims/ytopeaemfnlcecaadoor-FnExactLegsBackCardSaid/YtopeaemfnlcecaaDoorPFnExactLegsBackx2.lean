-- laid by seedprint.py, a program of this session, over contracts that it gives by hand; Lean checks it
-- dented
import Derived.Test.YtopeaemfnlcecaaDoorQMin
import Derived.Test.YtopeaemfnlcecaaDoorQAut
import Derived.Test.YtopeaemfnlcecaaDoorQBlk
import Derived.Test.YtopeaemfnlcecaaDoorPFnExactLegsBackx0
import Derived.Test.YtopeaemfnlcecaaDoorPFnExactLegsBackx1
namespace Go.Proofs.YtopeaemfnlcecaaDoor.PFnExactLegsBack
open Go.RowKit Go.Proofs.YtopeaemfnlcecaaDoorW.PrintWords Go.Proofs.YtopeaemfnlcecaaDoorW.PrintLast Go.Proofs.YtopeaemfnlcecaaDoorW.PrintMore
attribute [local go_sem] max2_int min2_int max_two min_two max_three min_three max_four min_four   -- for this text's walks alone
set_option maxHeartbeats 8000000
set_option maxRecDepth 100000
set_option linter.unusedVariables false
set_option linter.unusedSimpArgs false

/-! ### spec_LegsBack: function 5 -/
def spec_LegsBack.l0 : Nat → List (S38) → List (S38) → Int → Option ((List (S38)))
 | 0, _, _, _ => none
 | k + 1, x0, x3, x4 => if x4 ≥ 0 then (if 0 ≤ x4 then (if x4 < (x0.length : Int) then (if x3.length < 1954687338268 then (spec_LegsBack.l0 k x0 (x3 ++ [(⟨(⟨(rd_T38 x0 x4).f1.f0, (rd_T38 x0 x4).f1.f1⟩ : S36), (⟨(rd_T38 x0 x4).f0.f0, (rd_T38 x0 x4).f0.f1⟩ : S36), (rd_T38 x0 x4).f2⟩ : S38)]) (wrap64 (x4 - 1))) else (none)) else (none)) else (none)) else (some x3)
def spec_LegsBack.f (k : Nat) (l0 : List (S38)) : Option ((List (S38))) := (some (([] : List (S38)) : List (S38))).bind fun y116 => ((spec_LegsRight.f k l0).bind fun t119 => (if t119 = true then (spec_LegsBack.l0 k l0 y116 (wrap64 ((l0.length : Int) - 1))) else (some y116)))
theorem spec_LegsBack.mono_l : ∀ k, (∀ y0 y1 y2, LeO (spec_LegsBack.l0 k y0 y1 y2) (spec_LegsBack.l0 (k + 1) y0 y1 y2))
 | 0 => fun _ _ _ r h => by simp [spec_LegsBack.l0] at h
 | k + 1 => by
  have ih0 := spec_LegsBack.mono_l k
  ·intro y0 y1 y2
   unfold spec_LegsBack.l0
   repeat' (with_reducible first | exact ih0 .. | exact spec_LegsRight.mono .. | exact LeO.refl _ | exact LeO.none _ | refine LeO.ite ?_ ?_ | refine LeO.bind ?_ (fun _ => ?_))
theorem spec_LegsBack.mono : ∀ a0 k, LeO (spec_LegsBack.f k a0) (spec_LegsBack.f (k + 1) a0) := by
 intro a0 k
 have ih0 := spec_LegsBack.mono_l k
 unfold spec_LegsBack.f
 repeat' (with_reducible first | exact ih0 .. | exact spec_LegsRight.mono .. | exact LeO.refl _ | exact LeO.none _ | refine LeO.ite ?_ ?_ | refine LeO.bind ?_ (fun _ => ?_))
def spec_LegsBack.T7 : Bool × List (List Nat × List Nat) := (true, [([], []), ([], []), ([], []), ([1, 2], [1, 2]), ([3], [3]), ([4], [4]), ([], []), ([], []), ([6, 7], [6, 7]), ([8], [8]), ([9], [9]), ([], []), ([], []), ([11, 12], [11, 12]), ([13], [13]), ([14], [14]), ([5, 10, 15], [5, 10, 15]), ([16], [16]), ([0, 17], [0, 17]), ([18, 18, 0, 1, 2, 3, 4, 5, 6, 7, 8, 9, 10, 11, 12, 13, 14, 15, 16, 17, 18], [0, 18])])
def spec_LegsBack.B7 : List Nat := [0, 0, 0, 6, 14, 30, 0, 0, 192, 448, 960, 0, 0, 6144, 14336, 30720, 65534, 131070, 262143, 524287]
theorem spec_LegsBack.tab7 : rtab .any (opsOf Tryd.f5 7) = spec_LegsBack.T7 := by kernel_rfl
theorem spec_LegsBack.bits7 : waitsOk spec_LegsBack.T7.2 spec_LegsBack.B7 = true := by kernel_rfl
theorem spec_LegsBack.calls (k : Nat) (A0 : Option Addr) (c0 : Nat) (l0 : List (S38)) (r : List (S38)) (w : World) (hr0 : Kd.C k38 w A0 l0.length l0) (hc0 : l0.length ≤ c0) (h : spec_LegsBack.f k l0 = some r) :
  Calls Tryd.prog 5 #[.slice A0 l0.length c0] w fun e w' => ∃ v0_ : Value, e = .returned (v0_) ∧ Kd.R k38 38 w' w.heap.size (fun _ => True) v0_ r ∧ Below w.heap.size w w' := by
 have hu36 := Tryd.underlying36
 have hu38 := Tryd.underlying38
 have HR0 := am hr0
 have HC0 := am hc0
 clear hr0 hc0
 have HB := am (Below.refl w.heap.size w)
 have H := h
 clear h
 unfold spec_LegsBack.f at H
 generalize h_ : ((([] : List (S38))) : List (S38)) = y116 at H
 have Ny116 := am h_.symm; clear h_; try rw [Option.bind_some] at H
 revert H; refine bj fun t119 A2 H => ?_
 replace H := iT H; rcases H with ⟨rfl, H⟩ | ⟨rfl, H⟩
 ·have H' := am H; clear H
  go_enter Tryd.func5, Tryd.ntmps5
  go_wp2_with (first | ((with_reducible refine gate_dst (N := 5) rfl ?_); refine Kd.R_lit k38 _ 38 ?hg (N := 5) ?hd (xs := ([] : List (S38))) (inner := []) (ok := fun _ => True) (okp := fun _ => True) ?hr ?hp (fun _ hk => hk) trivial (Below.refl _ _) (Nat.le_refl _) (by simp) ?_; (case hd => rfl); (case hg => rfl); (case hr => first | (go_simp; done) | (go_simp; rfl)); (case hp => exact (Reps.none _ _)); intro v117 w4 ho5 hb hg_ hnew_; clear hg_ hnew_; (first | rw [← Ny116.out] at ho5 | (simp only [Int.reduceToNat] at ho5; rw [← Ny116.out] at ho5)); have HO118 := am (Kd.R_lower ho5 (below_size bl)); replace HB := ho hb; clear hb ho5) | ((with_reducible refine c_ 12 ?_); refine gc 12 (some 7) Tryd.func12 (spec_LegsRight.calls _ _ _ _ _ _ ?side1 ?side2 A2.out) ?_; (case side1 => exact cb HR0.out); (case side2 => exact HC0.out); rintro e w6 ⟨rfl, hb⟩; refine ⟨_, rfl, ?_⟩; replace HO118 := ro HO118 hb; replace HB := ho hb; clear hb))
  go_loopg [3, 4] k (fun kq v3 v4 w' => ∃ (x3_1 : List (S38)) (x4_1 : Int), v4 = .int .i64 x4_1 ∧ Aside0 (spec_LegsBack.l0 kq l0 x3_1 x4_1 = some r) ∧ Aside0 (kq ≤ k) ∧ Aside0 (Kd.R k38 38 w' w.heap.size (fun _ => True) v3 x3_1) ∧ Aside0 (Below w.heap.size w w'))
  case atStart => exact ⟨(y116), (wrap64 ((l0.length : Int) - 1)), rs, H', ⟨Nat.le_refl _⟩, ⟨kr HO118.out⟩, ⟨bl⟩⟩
  case round =>
   clear H'
   obtain ⟨x3_1, x4_1, rfl, HA, HK1, HO_3, HB⟩ := hrel
   cases gk with
   | zero => exact absurd HA.out (by simp [spec_LegsBack.l0])
   | succ k1 =>
    have H := HA.out
    clear HA
    simp only [spec_LegsBack.l0] at H
    revert H; refine iDb (fun c7b0 H => ?_) fun c7b0 H => ?_
    ·revert H; refine i1 fun c8b0 H => ?_
     revert H; refine i1 fun c9b0 H => ?_
     revert H; refine i0 fun c10 H => ?_
     have LMc10 := am c10; clear c10
     generalize h_ : ((x3_1 ++ [(⟨(⟨(rd_T38 l0 x4_1).f1.f0, (rd_T38 l0 x4_1).f1.f1⟩ : S36), (⟨(rd_T38 l0 x4_1).f0.f0, (rd_T38 l0 x4_1).f0.f1⟩ : S36), (rd_T38 l0 x4_1).f2⟩ : S38)]) : List (S38)) = y123 at H
     have Ny123 := am h_.symm; clear h_; try rw [Option.bind_some] at H
     have H' := am H; clear H
     try go_wp2
     replace HO_3 := am (Kd.R_drew HO_3.out); replace HB := am (below_drew1 HB.out)
     have p120 : 0 ≤ (x4_1 : Int) := ode
     have q120 : x4_1 < (l0.length : Int) := ode
     obtain ⟨ad120, e120, hx120_0, hx120_1, hx120_2, hx120_3, hx120_4⟩ := at_T38 HR0.out x4_1 p120 q120
     have hw120_4 := hx120_4
     have hw120_3 := hx120_3
     have hw120_2 := hx120_2
     have hw120_1 := hx120_1
     have hw120_0 := hx120_0
     cases e120
     obtain ⟨hx120_0, hx120_1, hx120_2, hx120_3, hx120_4⟩ := hb5 HB.out hx120_0 hx120_1 hx120_2 hx120_3 hx120_4
     replace p120 := eq_true p120
     replace q120 := eq_true q120
     have p121 : 0 ≤ (x4_1 : Int) := ode
     have q121 : x4_1 < (l0.length : Int) := ode
     obtain ⟨ad121, e121, hx121_0, hx121_1, hx121_2, hx121_3, hx121_4⟩ := at_T38 HR0.out x4_1 p121 q121
     have hw121_4 := hx121_4
     have hw121_3 := hx121_3
     have hw121_2 := hx121_2
     have hw121_1 := hx121_1
     have hw121_0 := hx121_0
     obtain rfl : ad120 = ad121 := (by injection e121)
     obtain ⟨hx121_0, hx121_1, hx121_2, hx121_3, hx121_4⟩ := hb5 HB.out hx121_0 hx121_1 hx121_2 hx121_3 hx121_4
     replace p121 := eq_true p121
     replace q121 := eq_true q121
     have p122 : 0 ≤ (x4_1 : Int) := ode
     have q122 : x4_1 < (l0.length : Int) := ode
     obtain ⟨ad122, e122, hx122_0, hx122_1, hx122_2, hx122_3, hx122_4⟩ := at_T38 HR0.out x4_1 p122 q122
     have hw122_4 := hx122_4
     have hw122_3 := hx122_3
     have hw122_2 := hx122_2
     have hw122_1 := hx122_1
     have hw122_0 := hx122_0
     obtain rfl : ad120 = ad122 := (by injection e122)
     obtain ⟨hx122_0, hx122_1, hx122_2, hx122_3, hx122_4⟩ := hb5 HB.out hx122_0 hx122_1 hx122_2 hx122_3 hx122_4
     replace p122 := eq_true p122
     replace q122 := eq_true q122
     refine start_ (n := 20) (S := Sa5a5a5 (ad120.add ((x4_1).toNat * 5)) (.string ((rd_T38 l0 x4_1).f0.f0)) (.string ((rd_T38 l0 x4_1).f0.f1)) (.string ((rd_T38 l0 x4_1).f1.f0)) (.string ((rd_T38 l0 x4_1).f1.f1)) (.int .i64 ((rd_T38 l0 x4_1).f2)) (ad120.add ((x4_1).toNat * 5)) (.string ((rd_T38 l0 x4_1).f0.f0)) (.string ((rd_T38 l0 x4_1).f0.f1)) (.string ((rd_T38 l0 x4_1).f1.f0)) (.string ((rd_T38 l0 x4_1).f1.f1)) (.int .i64 ((rd_T38 l0 x4_1).f2)) (ad120.add ((x4_1).toNat * 5)) (.string ((rd_T38 l0 x4_1).f0.f0)) (.string ((rd_T38 l0 x4_1).f0.f1)) (.string ((rd_T38 l0 x4_1).f1.f0)) (.string ((rd_T38 l0 x4_1).f1.f1)) (.int .i64 ((rd_T38 l0 x4_1).f2))) (ds := []) #[F_, F_, F_, F_, F_, F_, F_, F_, F_, F_, F_, F_, F_, F_, F_, F_, F_, F_, F_, F_] (by kernel_rfl) rfl rfl ⟨(hbc HB.out hw120_0), (hbc HB.out hw120_1), (hbc HB.out hw120_2), (hbc HB.out hw120_3), (hbc HB.out hw120_4), (hbc HB.out hw121_0), (hbc HB.out hw121_1), (hbc HB.out hw121_2), (hbc HB.out hw121_3), (hbc HB.out hw121_4), (hbc HB.out hw122_0), (hbc HB.out hw122_1), (hbc HB.out hw122_2), (hbc HB.out hw122_3), (hbc HB.out hw122_4)⟩ (fun hHeld => ?_); refine with_tabW spec_LegsBack.tab7 spec_LegsBack.bits7 (fun HT_ HW_ => ?_)
     generalize wr.drew = w11 at HO_3 HB hx120_0 hx120_1 hx120_2 hx120_3 hx120_4 hx121_0 hx121_1 hx121_2 hx121_3 hx121_4 hx122_0 hx122_1 hx122_2 hx122_3 hx122_4 hHeld ⊢
     refine pv 0 17 ?_
     refine pv 1 18 ?_
     refine pv 2 19 ?_
     refine pv 3 20 ?_
     refine pv 4 21 ?_
     refine pv 6 23 ?_
     refine pv 7 24 ?_
     refine pv 8 25 ?_
     refine pv 9 26 ?_
     refine pv 11 28 ?_
     refine pv 12 29 ?_
     refine pv 13 30 ?_
     refine pv 14 31 ?_
     refine tv15 5 22 hHeld ?_
     refine tv15 10 27 hHeld ?_
     refine tv15 15 32 hHeld ?_
     refine pv 16 33 ?_
     refine ov 17 34 (fun K hK => ?_)
     refine value_ (w1 := ?_) (v := ?_) (by rfl) rfl ?_ ?_
     rotate_left 2
     ·go_simp
      constructor
      ·rfl
      rfl
     refine hK.out _ _ ⟨(World.cell?_alloc_lt _ _ _ (World.block_lt_of_cell? _ _ ((hbc HB.out hw120_0)))).trans ((hbc HB.out hw120_0)), (World.cell?_alloc_lt _ _ _ (World.block_lt_of_cell? _ _ ((hbc HB.out hw120_1)))).trans ((hbc HB.out hw120_1)), (World.cell?_alloc_lt _ _ _ (World.block_lt_of_cell? _ _ ((hbc HB.out hw120_2)))).trans ((hbc HB.out hw120_2)), (World.cell?_alloc_lt _ _ _ (World.block_lt_of_cell? _ _ ((hbc HB.out hw120_3)))).trans ((hbc HB.out hw120_3)), (World.cell?_alloc_lt _ _ _ (World.block_lt_of_cell? _ _ ((hbc HB.out hw120_4)))).trans ((hbc HB.out hw120_4)), (World.cell?_alloc_lt _ _ _ (World.block_lt_of_cell? _ _ ((hbc HB.out hw121_0)))).trans ((hbc HB.out hw121_0)), (World.cell?_alloc_lt _ _ _ (World.block_lt_of_cell? _ _ ((hbc HB.out hw121_1)))).trans ((hbc HB.out hw121_1)), (World.cell?_alloc_lt _ _ _ (World.block_lt_of_cell? _ _ ((hbc HB.out hw121_2)))).trans ((hbc HB.out hw121_2)), (World.cell?_alloc_lt _ _ _ (World.block_lt_of_cell? _ _ ((hbc HB.out hw121_3)))).trans ((hbc HB.out hw121_3)), (World.cell?_alloc_lt _ _ _ (World.block_lt_of_cell? _ _ ((hbc HB.out hw121_4)))).trans ((hbc HB.out hw121_4)), (World.cell?_alloc_lt _ _ _ (World.block_lt_of_cell? _ _ ((hbc HB.out hw122_0)))).trans ((hbc HB.out hw122_0)), (World.cell?_alloc_lt _ _ _ (World.block_lt_of_cell? _ _ ((hbc HB.out hw122_1)))).trans ((hbc HB.out hw122_1)), (World.cell?_alloc_lt _ _ _ (World.block_lt_of_cell? _ _ ((hbc HB.out hw122_2)))).trans ((hbc HB.out hw122_2)), (World.cell?_alloc_lt _ _ _ (World.block_lt_of_cell? _ _ ((hbc HB.out hw122_3)))).trans ((hbc HB.out hw122_3)), (World.cell?_alloc_lt _ _ _ (World.block_lt_of_cell? _ _ ((hbc HB.out hw122_4)))).trans ((hbc HB.out hw122_4))⟩ (fun hHeld => ?_)
     clear hK K
     refine norm_ (a' := ?_) ?_ ?_
     rotate_left
     ·show Act.put _ (some 34) _ = _
      simp only [Act.put, z1, z2, z3, i64_w, i32_w]
      rfl
     refine ov 18 35 (fun K hK => ?_)
     refine Kd.R_append_step k38 (w0 := w) w.heap.size (by rfl) (.tmp 17) (.tmp 34) 24 38 (.agg #[(.string ⟨#[]⟩), (.string ⟨#[]⟩), (.string ⟨#[]⟩), (.string ⟨#[]⟩), (.int .i64 0)]) 72 rfl Tryd.underlying24 info38 rfl (by decide) (by omega) u3 x3_1 (⟨(⟨(rd_T38 l0 x4_1).f1.f0, (rd_T38 l0 x4_1).f1.f1⟩ : S36), (⟨(rd_T38 l0 x4_1).f0.f0, (rd_T38 l0 x4_1).f0.f1⟩ : S36), (rd_T38 l0 x4_1).f2⟩ : S38) [.string ((rd_T38 l0 x4_1).f1.f0), .string ((rd_T38 l0 x4_1).f1.f1), .string ((rd_T38 l0 x4_1).f0.f0), .string ((rd_T38 l0 x4_1).f0.f1), .int .i64 ((rd_T38 l0 x4_1).f2)] (fun _ => True) (fun _ => False) rfl rfl ?aP (fun _ hk => hk.elim) ?aF ?aO ?aB ?aS ?aL ?_
     (case aP => exact k38_mkM _ _ _ (⟨(⟨(rd_T38 l0 x4_1).f1.f0, (rd_T38 l0 x4_1).f1.f1⟩ : S36), (⟨(rd_T38 l0 x4_1).f0.f0, (rd_T38 l0 x4_1).f0.f1⟩ : S36), (rd_T38 l0 x4_1).f2⟩ : S38))
     (case aB => exact bl)
     (case aF => exact (fun _ _ => trivial))
     (case aO => exact (kr HO_3.out))
     (case aS => exact (below_size bl))
     (case aL => have := LMc10.out; omega)
     intro v124 w12 ho hb hg hat
     rw [← Ny123.out] at ho
     have n0_ := am (hb)
     have n1_ := am (ho)
     clear HB
     clear HO_3
     have HB := n0_
     have HO125 := n1_
     clear n0_ n1_
     clear ho hb hg hat
     refine hK.out _ _ ⟨(hbc HB.out hw120_0), (hbc HB.out hw120_1), (hbc HB.out hw120_2), (hbc HB.out hw120_3), (hbc HB.out hw120_4), (hbc HB.out hw121_0), (hbc HB.out hw121_1), (hbc HB.out hw121_2), (hbc HB.out hw121_3), (hbc HB.out hw121_4), (hbc HB.out hw122_0), (hbc HB.out hw122_1), (hbc HB.out hw122_2), (hbc HB.out hw122_3), (hbc HB.out hw122_4)⟩ (fun hHeld => ?_)
     clear hK K
     refine norm_ (a' := ?_) ?_ ?_
     rotate_left
     ·show Act.put _ (some 35) _ = _
      simp only [Act.put, z1, z2, z3, i64_w, i32_w]
      rfl
     refine pv 19 3 ?_
     refine done_ (done_of HT_.out (by kernel_rfl)) ?_
     try go_wp2
     go_roundg k1
     case measure => have := HK1.out; omega
     case rel => exact ⟨(y123), (wrap64 (x4_1 - 1)), rs, H', ⟨by have := HK1.out; omega⟩, ⟨kr HO125.out⟩, ⟨bl⟩⟩
    obtain rfl := Option.some.inj H
    go_wp2
    go_ret
    exact ⟨_, er, kr HO_3.out, bl⟩
 obtain rfl := Option.some.inj H
 go_enter Tryd.func5, Tryd.ntmps5
 go_wp2_with (first | ((with_reducible refine gate_dst (N := 5) rfl ?_); refine Kd.R_lit k38 _ 38 ?hg (N := 5) ?hd (xs := ([] : List (S38))) (inner := []) (ok := fun _ => True) (okp := fun _ => True) ?hr ?hp (fun _ hk => hk) trivial (Below.refl _ _) (Nat.le_refl _) (by simp) ?_; (case hd => rfl); (case hg => rfl); (case hr => first | (go_simp; done) | (go_simp; rfl)); (case hp => exact (Reps.none _ _)); intro v117 w13 ho14 hb hg_ hnew_; clear hg_ hnew_; (first | rw [← Ny116.out] at ho14 | (simp only [Int.reduceToNat] at ho14; rw [← Ny116.out] at ho14)); have HO118 := am (Kd.R_lower ho14 (below_size bl)); replace HB := ho hb; clear hb ho14) | ((with_reducible refine c_ 12 ?_); refine gc 12 (some 7) Tryd.func12 (spec_LegsRight.calls _ _ _ _ _ _ ?side1 ?side2 A2.out) ?_; (case side1 => exact cb HR0.out); (case side2 => exact HC0.out); rintro e w15 ⟨rfl, hb⟩; refine ⟨_, rfl, ?_⟩; replace HO118 := ro HO118 hb; replace HB := ho hb; clear hb))
 go_ret
 exact ⟨_, er, kr HO118.out, bl⟩

/-! ### laws_toSpot: function 20 -/
def laws_toSpot.f (a0_0 : ByteArray) (a0_1 : ByteArray) : Option (ByteArray × ByteArray) := some (a0_0, a0_1)
theorem laws_toSpot.calls (a0_0 : ByteArray) (a0_1 : ByteArray) (r1 : ByteArray) (r2 : ByteArray) (w : World) (h : laws_toSpot.f a0_0 a0_1 = some (r1, r2)) :
  Calls Tryd.prog 20 #[.agg #[.string a0_0, .string a0_1]] w fun e w' => e = .returned (.agg #[.string r1, .string r2]) ∧ Below w.heap.size w w' := by
 have hu32 := Tryd.underlying32
 have hu36 := Tryd.underlying36
 have HB := am (Below.refl w.heap.size w)
 have H := h
 clear h
 unfold laws_toSpot.f at H
 simp only [Option.some.injEq, Prod.mk.injEq] at H
 obtain ⟨rfl, rfl⟩ := H
 go_enter Tryd.func20, Tryd.ntmps20
 go_wp2_with (first | ((with_reducible refine g_ 1 ?_); refine bx 1 #[.string a0_0, .string a0_1] 32 ?_; intro gb126 hg w2 hbox hb; have BK126 := am hbox; have GW126 := am (bsz hg : w.heap.size ≤ gb126); have GE126 := GW126; replace HB := ho hb; clear hb hbox hg) | ((with_reducible refine g_ 2 ?_); refine bx 2 #[.string (⟨#[]⟩ : ByteArray), .string (⟨#[]⟩ : ByteArray)] 36 ?_; intro gb127 hg w3 hbox hb; have BK127 := am hbox; have GW127 := am (bsz hg : w.heap.size ≤ gb127); have GE127 := GW127; have NB126_127 := no hg BK126; have NB127_126 := am NB126_127.out.symm; replace BK126 := bo BK126 hb; replace HB := ho hb; clear hb hbox hg) | ((with_reducible refine g_ 3 ?_); refine bx 3 #[.string (⟨#[]⟩ : ByteArray), .string (⟨#[]⟩ : ByteArray)] 36 ?_; intro gb128 hg w4 hbox hb; have BK128 := am hbox; have GW128 := am (bsz hg : w.heap.size ≤ gb128); have GE128 := GW128; have NB126_128 := no hg BK126; have NB128_126 := am NB126_128.out.symm; replace BK126 := bo BK126 hb; have NB127_128 := no hg BK127; have NB128_127 := am NB127_128.out.symm; replace BK127 := bo BK127 hb; replace HB := ho hb; clear hb hbox hg; have hnb5 := NB126_127.out; have hnc5 := NB127_126.out; have hnb6 := NB126_128.out; have hnc6 := NB128_126.out; have Z7 := blk2 BK126.out; have hnb8 := NB128_127.out; have hnc8 := NB127_128.out; have Z9 := blk2 BK128.out; have Z10 := blk2 BK127.out))
 refine bodyPost_ret (results_cell_row rfl _ _ gb127 36 #[.string a0_0, .string a0_1] (0, 0) _ rfl (bpf BK127.out NB127_128.out) Tryd.underlying36 rfl (by kernel_rfl)) rfl ?_
 exact ⟨er, bl⟩

/-! ### laws_toLeg: function 13 -/
def laws_toLeg.f (a0_0 : ByteArray) (a0_1 : ByteArray) (a0_2 : ByteArray) (a0_3 : ByteArray) (a0_4 : Int) : Option (ByteArray × ByteArray × ByteArray × ByteArray × Int) := (laws_toSpot.f a0_0 a0_1).bind fun bt132 => ((laws_toSpot.f a0_2 a0_3).bind fun bt134 => (some (bt132.1, bt132.2, bt134.1, bt134.2, a0_4)))
theorem laws_toLeg.calls (a0_0 : ByteArray) (a0_1 : ByteArray) (a0_2 : ByteArray) (a0_3 : ByteArray) (a0_4 : Int) (r1 : ByteArray) (r2 : ByteArray) (r3 : ByteArray) (r4 : ByteArray) (r5 : Int) (w : World) (h : laws_toLeg.f a0_0 a0_1 a0_2 a0_3 a0_4 = some (r1, r2, r3, r4, r5)) :
  Calls Tryd.prog 13 #[.agg #[.string a0_0, .string a0_1, .string a0_2, .string a0_3, .int .i64 a0_4]] w fun e w' => e = .returned (.agg #[.string r1, .string r2, .string r3, .string r4, .int .i64 r5]) ∧ Below w.heap.size w w' := by
 have hu34 := Tryd.underlying34
 have hu38 := Tryd.underlying38
 have hu32 := Tryd.underlying32
 have hu36 := Tryd.underlying36
 have HB := am (Below.refl w.heap.size w)
 have H := h
 clear h
 unfold laws_toLeg.f at H
 replace H := bi H; obtain ⟨⟨t132, t133⟩, A2, H⟩ := H; dsimp only at H
 replace H := bi H; obtain ⟨⟨t134, t135⟩, A3, H⟩ := H; dsimp only at H
 simp only [Option.some.injEq, Prod.mk.injEq] at H
 obtain ⟨rfl, rfl, rfl, rfl, rfl⟩ := H
 go_enter Tryd.func13, Tryd.ntmps13
 go_wp2_with (first | ((with_reducible refine g_ 1 ?_); refine bx 1 #[.string a0_0, .string a0_1, .string a0_2, .string a0_3, .int .i64 a0_4] 34 ?_; intro gb129 hg w4 hbox hb; have BK129 := am hbox; have GW129 := am (bsz hg : w.heap.size ≤ gb129); have GE129 := GW129; replace HB := ho hb; clear hb hbox hg) | ((with_reducible refine g_ 2 ?_); refine bx 2 #[.string (⟨#[]⟩ : ByteArray), .string (⟨#[]⟩ : ByteArray), .string (⟨#[]⟩ : ByteArray), .string (⟨#[]⟩ : ByteArray), .int .i64 0] 38 ?_; intro gb130 hg w5 hbox hb; have BK130 := am hbox; have GW130 := am (bsz hg : w.heap.size ≤ gb130); have GE130 := GW130; have NB129_130 := no hg BK129; have NB130_129 := am NB129_130.out.symm; replace BK129 := bo BK129 hb; replace HB := ho hb; clear hb hbox hg) | ((with_reducible refine g_ 3 ?_); refine bx 3 #[.string (⟨#[]⟩ : ByteArray), .string (⟨#[]⟩ : ByteArray), .string (⟨#[]⟩ : ByteArray), .string (⟨#[]⟩ : ByteArray), .int .i64 0] 38 ?_; intro gb131 hg w6 hbox hb; have BK131 := am hbox; have GW131 := am (bsz hg : w.heap.size ≤ gb131); have GE131 := GW131; have NB129_131 := no hg BK129; have NB131_129 := am NB129_131.out.symm; replace BK129 := bo BK129 hb; have NB130_131 := no hg BK130; have NB131_130 := am NB130_131.out.symm; replace BK130 := bo BK130 hb; replace HB := ho hb; clear hb hbox hg; have hnb7 := NB129_130.out; have hnc7 := NB130_129.out; have hnb8 := NB129_131.out; have hnc8 := NB131_129.out; have Z9 := blk5 BK129.out) | ((with_reducible refine c_ 20 ?_); refine gc 20 (some 6) Tryd.func20 (laws_toSpot.calls _ _ _ _ _ A2.out) ?_; rintro e w10 ⟨rfl, hb⟩; refine ⟨_, rfl, ?_⟩; refine r3_ hb BK129 BK130 BK131 ?_; clear BK129 BK130 BK131; intro BK129 BK130 BK131; replace HB := ho hb; clear hb; have hnb11 := NB131_130.out; have hnc11 := NB130_131.out; have Z12 := blk5 BK131.out; have Z13 := blk5 BK129.out) | ((with_reducible refine c_ 20 ?_); refine gc 20 (some 10) Tryd.func20 (laws_toSpot.calls _ _ _ _ _ A3.out) ?_; rintro e w14 ⟨rfl, hb⟩; refine ⟨_, rfl, ?_⟩; replace BK129 := am (blk_below (g := gb129) (o := .cells #[.string a0_0, .string a0_1, .string a0_2, .string a0_3, .int .i64 a0_4] 34 (0, 0)) (bf BK129.out NB129_131.out) hb); replace BK130 := am (blk_below (g := gb130) (o := .cells #[.string (⟨#[]⟩ : ByteArray), .string (⟨#[]⟩ : ByteArray), .string (⟨#[]⟩ : ByteArray), .string (⟨#[]⟩ : ByteArray), .int .i64 0] 38 (0, 0)) (bf BK130.out NB130_131.out) hb); replace BK131 := am (blk_below (g := gb131) (o := .cells #[.string t132, .string t133, .string (⟨#[]⟩ : ByteArray), .string (⟨#[]⟩ : ByteArray), .int .i64 0] 38 (0, 0)) (bp BK131.out) hb); replace HB := ho hb; clear hb; have Z15 := blk5 BK131.out; have Z16 := blk5 BK129.out; have Z17 := blk5 BK130.out))
 refine bodyPost_ret (results_cell_row rfl _ _ gb130 38 #[.string t132, .string t133, .string t134, .string t135, .int .i64 a0_4] (0, 0) _ rfl (bpf BK130.out NB130_131.out) Tryd.underlying38 rfl (by kernel_rfl)) rfl ?_
 exact ⟨er, bl⟩

/-! ### laws_toLegS: function 6 -/
def laws_toLegS.l0 : Nat → List (S34) → List (S38) → Int → Option ((List (S38)))
 | 0, _, _, _ => none
 | k + 1, x0, x3, x4 => if x4 < (x0.length : Int) then (if 0 ≤ x4 then ((laws_toLeg.f ((rd_T34 x0 x4).f0.f0) ((rd_T34 x0 x4).f0.f1) ((rd_T34 x0 x4).f1.f0) ((rd_T34 x0 x4).f1.f1) ((rd_T34 x0 x4).f2)).bind fun bt140 => (if x4 < (x3.length : Int) then (laws_toLegS.l0 k x0 (x3.set (x4 : Int).toNat (⟨(⟨bt140.1, bt140.2.1⟩ : S36), (⟨bt140.2.2.1, bt140.2.2.2.1⟩ : S36), bt140.2.2.2.2⟩ : S38)) (wrap64 (x4 + 1))) else (none))) else (none)) else (some x3)
def laws_toLegS.f (k : Nat) (l0 : List (S34)) : Option ((List (S38))) := if 0 ≤ (l0.length : Int) then (if ((l0.length : Int) : Int).toNat ≤ 3909374676536 then (laws_toLegS.l0 k l0 (List.replicate ((l0.length : Int) : Int).toNat z38) 0) else (none)) else (none)
theorem laws_toLegS.mono_l : ∀ k, (∀ y0 y1 y2, LeO (laws_toLegS.l0 k y0 y1 y2) (laws_toLegS.l0 (k + 1) y0 y1 y2))
 | 0 => fun _ _ _ r h => by simp [laws_toLegS.l0] at h
 | k + 1 => by
  have ih0 := laws_toLegS.mono_l k
  ·intro y0 y1 y2
   unfold laws_toLegS.l0
   exact mo
theorem laws_toLegS.mono : ∀ a0 k, LeO (laws_toLegS.f k a0) (laws_toLegS.f (k + 1) a0) := by
 intro a0 k
 have ih0 := laws_toLegS.mono_l k
 unfold laws_toLegS.f
 exact mo
theorem laws_toLegS.calls (k : Nat) (A0 : Option Addr) (c0 : Nat) (l0 : List (S34)) (r : List (S38)) (w : World) (hr0 : Kd.C k34 w A0 l0.length l0) (hc0 : l0.length ≤ c0) (h : laws_toLegS.f k l0 = some r) :
  Calls Tryd.prog 6 #[.slice A0 l0.length c0] w fun e w' => ∃ v0_ : Value, e = .returned (v0_) ∧ Kd.R k38 38 w' w.heap.size (fun _ => True) v0_ r ∧ Below w.heap.size w w' := by
 have hu34 := Tryd.underlying34
 have hu38 := Tryd.underlying38
 have HR0 := am hr0
 have HC0 := am hc0
 clear hr0 hc0
 have HB := am (Below.refl w.heap.size w)
 have H := h
 clear h
 unfold laws_toLegS.f at H
 revert H; refine i2 fun c2b0 c2b1 H => ?_
 revert H; refine i2 fun c3b0 c3b1 H => ?_
 generalize h_ : ((List.replicate ((l0.length : Int) : Int).toNat z38) : List (S38)) = y136 at H
 have Ny136 := am h_.symm; clear h_; try rw [Option.bind_some] at H
 have H' := am H; clear H
 go_enter Tryd.func6, Tryd.ntmps6
 go_wp2_with (first | ((with_reducible refine gate_dst (N := 7) rfl ?_); refine Kd.R_make k38 _ 38 rfl (N := 7) rfl 24 _ _ rfl (l0.length : Int) rfl rfl Tryd.underlying24 (.agg #[(.string ⟨#[]⟩), (.string ⟨#[]⟩), (.string ⟨#[]⟩), (.string ⟨#[]⟩), (.int .i64 0)]) 72 info38 rfl (by decide) (by omega) z38 (ok := fun _ => True) (okp := fun _ => True) (k38_mkM _ _ _ z38 ) (fun _ hk => hk) trivial (ode) (Nat.le_trans (Nat.mul_le_mul_right _ (ode : (l0.length : Int).toNat ≤ 3909374676536)) (by omega)) (Below.refl _ _) (Nat.le_refl _) ?_; intro v137 w4 ho5 hb hg_ hnew_; clear hg_ hnew_; (first | rw [← Ny136.out] at ho5 | (simp only [Int.reduceToNat] at ho5; rw [← Ny136.out] at ho5)); have HO138 := am (Kd.R_lower ho5 (below_size bl)); replace HB := ho hb; clear hb ho5))
 go_loopg [4] k (fun kq v4 w' => ∃ (x3_1 : List (S38)) (x4_1 : Int), v4 = .int .i64 x4_1 ∧ Aside0 (laws_toLegS.l0 kq l0 x3_1 x4_1 = some r) ∧ Aside0 (kq ≤ k) ∧ Aside0 (Kd.R k38 38 w' w.heap.size (fun _ => True) v137 x3_1) ∧ Aside0 (Below w.heap.size w w'))
 case atStart => exact ⟨(y136), (0), rs, H', ⟨Nat.le_refl _⟩, ⟨kr HO138.out⟩, ⟨bl⟩⟩
 case round =>
  clear H'
  try clear c2b0; try clear c2b1; try clear c3b0; try clear c3b1
  obtain ⟨x3_1, x4_1, rfl, HA, HK1, HO_3, HB⟩ := hrel
  cases gk with
  | zero => exact absurd HA.out (by simp [laws_toLegS.l0])
  | succ k1 =>
   have H := HA.out
   clear HA
   simp only [laws_toLegS.l0] at H
   revert H; refine iDb (fun c6b0 H => ?_) fun c6b0 H => ?_
   ·revert H; refine i1 fun c7b0 H => ?_
    replace H := bi H; obtain ⟨⟨t140, t141, t142, t143, t144⟩, A8, H⟩ := H; dsimp only at H
    revert H; refine i1 fun c9b0 H => ?_
    generalize h_ : ((x3_1.set (x4_1 : Int).toNat (⟨(⟨t140, t141⟩ : S36), (⟨t142, t143⟩ : S36), t144⟩ : S38)) : List (S38)) = y145 at H
    have Ny145 := am h_.symm; clear h_; try rw [Option.bind_some] at H
    have H' := am H; clear H
    have p139 : 0 ≤ (x4_1 : Int) := ode
    have q139 : x4_1 < (l0.length : Int) := ode
    obtain ⟨ad139, e139, hx139_0, hx139_1, hx139_2, hx139_3, hx139_4⟩ := at_T34 HR0.out x4_1 p139 q139
    cases e139
    obtain ⟨hx139_0, hx139_1, hx139_2, hx139_3, hx139_4⟩ := hb5 HB.out hx139_0 hx139_1 hx139_2 hx139_3 hx139_4
    replace p139 := eq_true p139
    replace q139 := eq_true q139
    go_wp2_with (first | ((with_reducible refine c_ 13 ?_); refine gc 13 (some 20) Tryd.func13 (laws_toLeg.calls _ _ _ _ _ _ _ _ _ _ _ A8.out) ?_; rintro e w11 ⟨rfl, hb⟩; refine ⟨_, rfl, ?_⟩; replace HO_3 := ro HO_3 hb; replace HB := ho hb; clear hb; have p10 : 0 ≤ (x4_1 : Int) := ode; have q10 : (x4_1 : Int) < ((x3_1.length : Int) : Int) := ode; obtain ⟨go10, co10, eo10, gb10, gl10, cl10, HG10⟩ := Kd.R_form HO_3.out (by omega); (first | cases eo10 | (injection eo10 with ea_ en_ ec_; (first | subst ea_ | (injection ea_ with ea_; subst ea_)); subst ec_; clear en_)); have GB10 := Aside0.mk gb10; have GG10 := Aside0.mk HG10; clear gb10 gl10 HG10; obtain ⟨ce10, hcl10, hM10, hcc10, hfr10⟩ := Kd.R_elem HO_3.out z38 (x4_1 : Int) p10 q10; obtain rfl := k38_openM hM10; have hx10_0 : w11.cell? ⟨go10, (x4_1 : Int).toNat * 5, none⟩ = some (.string ((rd_T38 x3_1 x4_1).f0.f0)) := hcc10 0 _ rfl; have hx10_1 : w11.cell? ⟨go10, (x4_1 : Int).toNat * 5 + 1, none⟩ = some (.string ((rd_T38 x3_1 x4_1).f0.f1)) := hcc10 1 _ rfl; have hx10_2 : w11.cell? ⟨go10, (x4_1 : Int).toNat * 5 + 2, none⟩ = some (.string ((rd_T38 x3_1 x4_1).f1.f0)) := hcc10 2 _ rfl; have hx10_3 : w11.cell? ⟨go10, (x4_1 : Int).toNat * 5 + 3, none⟩ = some (.string ((rd_T38 x3_1 x4_1).f1.f1)) := hcc10 3 _ rfl; have hx10_4 : w11.cell? ⟨go10, (x4_1 : Int).toNat * 5 + 4, none⟩ = some (.int .i64 ((rd_T38 x3_1 x4_1).f2)) := hcc10 4 _ rfl; have hf10_0 : w11.frozen? ⟨go10, (x4_1 : Int).toNat * 5, none⟩ = false := hfr10 0; have hf10_1 : w11.frozen? ⟨go10, (x4_1 : Int).toNat * 5 + 1, none⟩ = false := hfr10 1; have hf10_2 : w11.frozen? ⟨go10, (x4_1 : Int).toNat * 5 + 2, none⟩ = false := hfr10 2; have hf10_3 : w11.frozen? ⟨go10, (x4_1 : Int).toNat * 5 + 3, none⟩ = false := hfr10 3; have hf10_4 : w11.frozen? ⟨go10, (x4_1 : Int).toNat * 5 + 4, none⟩ = false := hfr10 4; clear hcl10 hcc10 hfr10 hM10; replace p10 := eq_true p10; replace q10 := eq_true q10; have HX12 := am (show Kd.R k38 38 w11 w.heap.size (fun _ => True) (.slice (some ⟨go10, 0, none⟩) x3_1.length co10) x3_1 from (kr HO_3.out)); obtain ⟨ce12, hcl12, hM12, hcc12, hfr12⟩ := Kd.R_elem HX12.out z38 (x4_1 : Int) (ode) (by have h_ : (x4_1 : Int) < ((x3_1.length : Int) : Int) := ode; first | exact h_ | (have e_ := (Kd.R_reads' HO_3.out).1; omega) | simpa using h_); obtain rfl := k38_openM hM12; have HP12 := Kd.R_seg HX12.out (x4_1 : Int) (ode) (by have h_ : (x4_1 : Int) < ((x3_1.length : Int) : Int) := ode; first | exact h_ | (have e_ := (Kd.R_reads' HO_3.out).1; omega) | simpa using h_) (seg := [.string t140, .string t141, .string t142, .string t143, .int .i64 t144]) (j := 0) hcl12 hcc12 (show 5 ≤ 5 from by decide) (x' := (⟨(⟨t140, t141⟩ : S36), (⟨t142, t143⟩ : S36), t144⟩ : S38)) (k38_mkM _ _ _ (⟨(⟨t140, t141⟩ : S36), (⟨t142, t143⟩ : S36), t144⟩ : S38) ) (fun _ hk => hk); have hx12_0 := hcc12 0 _ rfl; (try simp only [show (k38).sz = 5 from rfl, Nat.mul_one, Nat.add_zero] at hx12_0); have hf12_0 := hfr12 0; (try simp only [show (k38).sz = 5 from rfl, Nat.mul_one, Nat.add_zero] at hf12_0); have hx12_1 := hcc12 1 _ rfl; (try simp only [show (k38).sz = 5 from rfl, Nat.mul_one, Nat.add_zero] at hx12_1); have hf12_1 := hfr12 1; (try simp only [show (k38).sz = 5 from rfl, Nat.mul_one, Nat.add_zero] at hf12_1); have hx12_2 := hcc12 2 _ rfl; (try simp only [show (k38).sz = 5 from rfl, Nat.mul_one, Nat.add_zero] at hx12_2); have hf12_2 := hfr12 2; (try simp only [show (k38).sz = 5 from rfl, Nat.mul_one, Nat.add_zero] at hf12_2); have hx12_3 := hcc12 3 _ rfl; (try simp only [show (k38).sz = 5 from rfl, Nat.mul_one, Nat.add_zero] at hx12_3); have hf12_3 := hfr12 3; (try simp only [show (k38).sz = 5 from rfl, Nat.mul_one, Nat.add_zero] at hf12_3); have hx12_4 := hcc12 4 _ rfl; (try simp only [show (k38).sz = 5 from rfl, Nat.mul_one, Nat.add_zero] at hx12_4); have hf12_4 := hfr12 4; (try simp only [show (k38).sz = 5 from rfl, Nat.mul_one, Nat.add_zero] at hf12_4); clear hcl12 hcc12 hfr12 hM12) | ((with_reducible refine gate_store (t := 38) (p := 21) rfl ?_); refine store_event (t := 38) (p := 21) (v := ?vo_w13) (w1 := (((((w11.setCell ⟨go10, (x4_1 : Int).toNat * 5, none⟩ (.string t140)).setCell ⟨go10, (x4_1 : Int).toNat * 5 + 1, none⟩ (.string t141)).setCell ⟨go10, (x4_1 : Int).toNat * 5 + 2, none⟩ (.string t142)).setCell ⟨go10, (x4_1 : Int).toNat * 5 + 3, none⟩ (.string t143)).setCell ⟨go10, (x4_1 : Int).toNat * 5 + 4, none⟩ (.int .i64 t144))) ?hg ?ho ?hn ?hr ?_; (case ho => rfl); (case hg => rfl); (case hn => rfl); (case hr => first | (go_simp; done) | (go_simp; rfl)); intro w13 hw; have hg : w11.grownBy w13 (some go10) := (by rw [hw]; exact HP12.2); have hp_ : Kd.R k38 38 w13 w.heap.size (fun _ => True) (.slice (some ⟨go10, 0, none⟩) x3_1.length co10) y145 := (by rw [hw, Ny145.out]; exact HP12.1); clear HP12; replace HO_3 := am (hp_); replace HB := am ((by rw [hw]; exact below_set (below_set (below_set (below_set (below_set (HB.out) GB10.out) GB10.out) GB10.out) GB10.out) GB10.out : Below w.heap.size w w13)); clear hg hw hp_))
    go_roundg k1
    case measure => have := HK1.out; omega
    case rel => exact ⟨(y145), (wrap64 (x4_1 + 1)), rs, H', ⟨by have := HK1.out; omega⟩, ⟨kr HO_3.out⟩, ⟨bl⟩⟩
   obtain rfl := Option.some.inj H
   go_wp2
   go_ret
   exact ⟨_, er, kr HO_3.out, bl⟩

/-! ### strings_Trim: function 31 -/
def strings_Trim.f (a0 a1 : ByteArray) : Option ByteArray := if a0.size ≤ 9223372036854775807 ∧ a1.size < 4294967281 ∧ a1.data.toList.all (fun b => decide (b.toNat < 128)) = true then some ⟨(Lib.trimS a0.data.toList a1.data.toList).toArray⟩ else none
theorem strings_Trim.calls (a0 : ByteArray) (a1 : ByteArray) (r : ByteArray) (w : World) (h : strings_Trim.f a0 a1 = some r) :
  Calls Tryd.prog 31 #[.string a0, .string a1] w fun e w' => e = .returned (.string r) ∧ Below w.heap.size w w' := by
 unfold strings_Trim.f at h
 by_cases hd : a0.size ≤ 9223372036854775807 ∧ a1.size < 4294967281 ∧ a1.data.toList.all (fun b => decide (b.toNat < 128)) = true
 ·rw [if_pos hd] at h
  cases h
  exact Any.strings_Trim_laid Tryd.trim160 (by kernel_rfl) a0 a1 w hd.1 hd.2.1 (ascii_of_all hd.2.2)
 rw [if_neg hd] at h; cases h

/-! ### impl_isWord: function 30 -/
def impl_isWord.f (a0 : ByteArray) : Option (Bool) := if a0.toList = ([] : List UInt8) then (some false) else (if 0 ≤ 1 then (if 1 ≤ (a0.size : Int) then ((strings_Trim.f (a0.extract 0 1) (⟨#[97, 98, 99, 100, 101, 102, 103, 104, 105, 106, 107, 108, 109, 110, 111, 112, 113, 114, 115, 116, 117, 118, 119, 120, 121, 122]⟩ : ByteArray)).bind fun t146 => (if t146.toList = ([] : List UInt8) then ((strings_Trim.f a0 (⟨#[97, 98, 99, 100, 101, 102, 103, 104, 105, 106, 107, 108, 109, 110, 111, 112, 113, 114, 115, 116, 117, 118, 119, 120, 121, 122, 48, 49, 50, 51, 52, 53, 54, 55, 56, 57, 95]⟩ : ByteArray)).bind fun t147 => (some (t147.toList == ([] : List UInt8)))) else (some false))) else (none)) else (none))
theorem impl_isWord.calls (a0 : ByteArray) (r : Bool) (w : World) (h : impl_isWord.f a0 = some r) :
  Calls Tryd.prog 30 #[.string a0] w fun e w' => e = .returned (.bool r) ∧ Below w.heap.size w w' := by
 have HB := am (Below.refl w.heap.size w)
 have H := h
 clear h
 unfold impl_isWord.f at H
 revert H; refine iL (fun c2b0 c2b3 c2b1 H => ?_) fun c2 c2b0 c2b3 c2b1 H => ?_
 ·obtain rfl := Option.some.inj H
  go_enter Tryd.func30, Tryd.ntmps30
  go_wp2
  go_ret
  exact ⟨er, bl⟩
 revert H; refine i2 fun c3b0 c3b1 H => ?_
 revert H; refine i2 fun c4b0 c4b1 H => ?_
 revert H; refine bj fun t146 A5 H => ?_
 revert H; refine iL (fun c6b0 c6b3 c6b1 H => ?_) fun c6 c6b0 c6b3 c6b1 H => ?_
 ·revert H; refine bj fun t147 A7 H => ?_
  obtain rfl := Option.some.inj H
  go_enter Tryd.func30, Tryd.ntmps30
  go_wp2_with (first | (go_at_call 31; (with_reducible refine (strings_Trim.calls _ _ _ _ A5.out).mono ?_); rintro e w8 ⟨rfl, hb⟩; replace HB := ho hb; clear hb) | (go_at_call 31; (with_reducible refine (strings_Trim.calls _ _ _ _ A7.out).mono ?_); rintro e w9 ⟨rfl, hb⟩; replace HB := ho hb; clear hb))
  go_ret
  exact ⟨er, bl⟩
 obtain rfl := Option.some.inj H
 go_enter Tryd.func30, Tryd.ntmps30
 go_wp2_with (first | (go_at_call 31; (with_reducible refine (strings_Trim.calls _ _ _ _ A5.out).mono ?_); rintro e w10 ⟨rfl, hb⟩; replace HB := ho hb; clear hb))
 go_ret
 exact ⟨er, bl⟩

/-! ### impl_NameRight: function 29 -/
def impl_NameRight.f (a0 : ByteArray) : Option (Bool) := if (a0.size : Int) ≤ 20 then ((impl_isWord.f a0).bind fun t148 => (some t148)) else (some false)
theorem impl_NameRight.calls (a0 : ByteArray) (r : Bool) (w : World) (h : impl_NameRight.f a0 = some r) :
  Calls Tryd.prog 29 #[.string a0] w fun e w' => e = .returned (.bool r) ∧ Below w.heap.size w w' := by
 have HB := am (Below.refl w.heap.size w)
 have H := h
 clear h
 unfold impl_NameRight.f at H
 revert H; refine iDn (fun c2 c2b0 H => ?_) fun c2 c2b0 H => ?_
 ·have c2b1 : decide (a0.size ≤ 20) = true := decide_eq_true (by omega)
  clear c2
  revert H; refine bj fun t148 A3 H => ?_
  obtain rfl := Option.some.inj H
  go_enter Tryd.func29, Tryd.ntmps29
  go_wp2_with (first | (go_at_call 30; (with_reducible refine (impl_isWord.calls _ _ _ A3.out).mono ?_); rintro e w4 ⟨rfl, hb⟩; replace HB := ho hb; clear hb))
  go_ret
  exact ⟨er, bl⟩
 have c2b1 : decide (a0.size ≤ 20) = false := decide_eq_false (by omega)
 clear c2
 obtain rfl := Option.some.inj H
 go_enter Tryd.func29, Tryd.ntmps29
 go_wp2
 go_ret
 exact ⟨er, bl⟩

/-! ### impl_Spot_isRight: function 23 -/
def impl_Spot_isRight.f (a0_0 : ByteArray) (a0_1 : ByteArray) : Option (Bool) := (impl_NameRight.f a0_0).bind fun t150 => (if t150 = true then ((impl_NameRight.f a0_1).bind fun t151 => (some t151)) else (some false))
theorem impl_Spot_isRight.calls (a0_0 : ByteArray) (a0_1 : ByteArray) (r : Bool) (w : World) (h : impl_Spot_isRight.f a0_0 a0_1 = some r) :
  Calls Tryd.prog 23 #[.agg #[.string a0_0, .string a0_1]] w fun e w' => e = .returned (.bool r) ∧ Below w.heap.size w w' := by
 have hu36 := Tryd.underlying36
 have HB := am (Below.refl w.heap.size w)
 have H := h
 clear h
 unfold impl_Spot_isRight.f at H
 revert H; refine bj fun t150 A2 H => ?_
 replace H := iT H; rcases H with ⟨rfl, H⟩ | ⟨rfl, H⟩
 ·revert H; refine bj fun t151 A4 H => ?_
  obtain rfl := Option.some.inj H
  go_enter Tryd.func23, Tryd.ntmps23
  go_wp2_with (first | ((with_reducible refine g_ 1 ?_); refine bx 1 #[.string a0_0, .string a0_1] 36 ?_; intro gb149 hg w5 hbox hb; have BK149 := am hbox; have GW149 := am (bsz hg : w.heap.size ≤ gb149); have GE149 := GW149; replace HB := ho hb; clear hb hbox hg; have Z6 := blk2 BK149.out) | ((with_reducible refine c_ 29 ?_); refine gc 29 (some 5) Tryd.func29 (impl_NameRight.calls _ _ _ A2.out) ?_; rintro e w7 ⟨rfl, hb⟩; refine ⟨_, rfl, ?_⟩; replace BK149 := bo BK149 hb; replace HB := ho hb; clear hb; have Z8 := blk2 BK149.out) | (go_at_call 29; (with_reducible refine (impl_NameRight.calls _ _ _ A4.out).mono ?_); rintro e w9 ⟨rfl, hb⟩; replace BK149 := bo BK149 hb; replace HB := ho hb; clear hb))
  go_ret
  exact ⟨er, bl⟩
 obtain rfl := Option.some.inj H
 go_enter Tryd.func23, Tryd.ntmps23
 go_wp2_with (first | ((with_reducible refine g_ 1 ?_); refine bx 1 #[.string a0_0, .string a0_1] 36 ?_; intro gb149 hg w10 hbox hb; have BK149 := am hbox; have GW149 := am (bsz hg : w.heap.size ≤ gb149); have GE149 := GW149; replace HB := ho hb; clear hb hbox hg; have Z11 := blk2 BK149.out) | ((with_reducible refine c_ 29 ?_); refine gc 29 (some 5) Tryd.func29 (impl_NameRight.calls _ _ _ A2.out) ?_; rintro e w12 ⟨rfl, hb⟩; refine ⟨_, rfl, ?_⟩; replace BK149 := bo BK149 hb; replace HB := ho hb; clear hb))
 go_ret
 exact ⟨er, bl⟩

/-! ### impl_in: function 24 -/
def impl_in.f (a0 : Int) (a1 : Int) (a2 : Int) : Option (Bool) := if a1 ≤ a0 then (some (decide (a0 ≤ a2))) else (some false)
theorem impl_in.calls (a0 : Int) (a1 : Int) (a2 : Int) (r : Bool) (w : World) (h : impl_in.f a0 a1 a2 = some r) :
  Calls Tryd.prog 24 #[.int .i64 a0, .int .i64 a1, .int .i64 a2] w fun e w' => e = .returned (.bool r) ∧ Drawn0 w w' := by
 have H := h
 clear h
 unfold impl_in.f at H
 revert H; refine iDb (fun c4b0 H => ?_) fun c4b0 H => ?_
 ·obtain rfl := Option.some.inj H
  go_enter Tryd.func24, Tryd.ntmps24
  go_wp2
  go_ret
  exact ⟨rs, dr⟩
 obtain rfl := Option.some.inj H
 go_enter Tryd.func24, Tryd.ntmps24
 go_wp2
 go_ret
 exact ⟨rs, dr⟩

/-! ### impl_LegsRight_1: function 22 -/
def impl_LegsRight_1.f (a0_0 : ByteArray) (a0_1 : ByteArray) (a0_2 : ByteArray) (a0_3 : ByteArray) (a0_4 : Int) : Option (Bool) := (impl_Spot_isRight.f a0_0 a0_1).bind fun t153 => (if t153 = true then ((impl_Spot_isRight.f a0_2 a0_3).bind fun t154 => (if t154 = true then ((impl_in.f a0_4 0 1000000000000).bind fun t155 => (some (!t155))) else (some true))) else (some true))
theorem impl_LegsRight_1.calls (a0_0 : ByteArray) (a0_1 : ByteArray) (a0_2 : ByteArray) (a0_3 : ByteArray) (a0_4 : Int) (r : Bool) (w : World) (h : impl_LegsRight_1.f a0_0 a0_1 a0_2 a0_3 a0_4 = some r) :
  Calls Tryd.prog 22 #[.agg #[.string a0_0, .string a0_1, .string a0_2, .string a0_3, .int .i64 a0_4]] w fun e w' => e = .returned (.bool r) ∧ Below w.heap.size w w' := by
 have hu38 := Tryd.underlying38
 have hu36 := Tryd.underlying36
 have HB := am (Below.refl w.heap.size w)
 have H := h
 clear h
 unfold impl_LegsRight_1.f at H
 revert H; refine bj fun t153 A2 H => ?_
 replace H := iT H; rcases H with ⟨rfl, H⟩ | ⟨rfl, H⟩
 ·revert H; refine bj fun t154 A4 H => ?_
  replace H := iT H; rcases H with ⟨rfl, H⟩ | ⟨rfl, H⟩
  ·revert H; refine bj fun t155 A6 H => ?_
   obtain rfl := Option.some.inj H
   go_enter Tryd.func22, Tryd.ntmps22
   go_wp2_with (first | ((with_reducible refine g_ 1 ?_); refine bx 1 #[.string a0_0, .string a0_1, .string a0_2, .string a0_3, .int .i64 a0_4] 38 ?_; intro gb152 hg w7 hbox hb; have BK152 := am hbox; have GW152 := am (bsz hg : w.heap.size ≤ gb152); have GE152 := GW152; replace HB := ho hb; clear hb hbox hg; have Z8 := blk5 BK152.out) | ((with_reducible refine c_ 23 ?_); refine gc 23 (some 5) Tryd.func23 (impl_Spot_isRight.calls _ _ _ _ A2.out) ?_; rintro e w9 ⟨rfl, hb⟩; refine ⟨_, rfl, ?_⟩; replace BK152 := bo BK152 hb; replace HB := ho hb; clear hb; have Z10 := blk5 BK152.out) | (go_at_call 23; (with_reducible refine (impl_Spot_isRight.calls _ _ _ _ A4.out).mono ?_); rintro e w11 ⟨rfl, hb⟩; replace BK152 := bo BK152 hb; replace HB := ho hb; clear hb; have Z12 := blk5 BK152.out) | (go_at_call 24; (with_reducible refine (impl_in.calls _ _ _ _ _ A6.out).mono ?_); rintro e w' ⟨rfl, ⟨nd, rfl⟩⟩))
   go_ret
   exact ⟨er, bl⟩
  obtain rfl := Option.some.inj H
  go_enter Tryd.func22, Tryd.ntmps22
  go_wp2_with (first | ((with_reducible refine g_ 1 ?_); refine bx 1 #[.string a0_0, .string a0_1, .string a0_2, .string a0_3, .int .i64 a0_4] 38 ?_; intro gb152 hg w13 hbox hb; have BK152 := am hbox; have GW152 := am (bsz hg : w.heap.size ≤ gb152); have GE152 := GW152; replace HB := ho hb; clear hb hbox hg; have Z14 := blk5 BK152.out) | ((with_reducible refine c_ 23 ?_); refine gc 23 (some 5) Tryd.func23 (impl_Spot_isRight.calls _ _ _ _ A2.out) ?_; rintro e w15 ⟨rfl, hb⟩; refine ⟨_, rfl, ?_⟩; replace BK152 := bo BK152 hb; replace HB := ho hb; clear hb; have Z16 := blk5 BK152.out) | (go_at_call 23; (with_reducible refine (impl_Spot_isRight.calls _ _ _ _ A4.out).mono ?_); rintro e w17 ⟨rfl, hb⟩; replace BK152 := bo BK152 hb; replace HB := ho hb; clear hb))
  go_ret
  exact ⟨er, bl⟩
 obtain rfl := Option.some.inj H
 go_enter Tryd.func22, Tryd.ntmps22
 go_wp2_with (first | ((with_reducible refine g_ 1 ?_); refine bx 1 #[.string a0_0, .string a0_1, .string a0_2, .string a0_3, .int .i64 a0_4] 38 ?_; intro gb152 hg w18 hbox hb; have BK152 := am hbox; have GW152 := am (bsz hg : w.heap.size ≤ gb152); have GE152 := GW152; replace HB := ho hb; clear hb hbox hg; have Z19 := blk5 BK152.out) | ((with_reducible refine c_ 23 ?_); refine gc 23 (some 5) Tryd.func23 (impl_Spot_isRight.calls _ _ _ _ A2.out) ?_; rintro e w20 ⟨rfl, hb⟩; refine ⟨_, rfl, ?_⟩; replace BK152 := bo BK152 hb; replace HB := ho hb; clear hb))
 go_ret
 exact ⟨er, bl⟩

end Go.Proofs.YtopeaemfnlcecaaDoor.PFnExactLegsBack
