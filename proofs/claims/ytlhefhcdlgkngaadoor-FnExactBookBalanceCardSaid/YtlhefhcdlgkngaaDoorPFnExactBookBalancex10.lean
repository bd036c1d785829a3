-- laid by seedprint.py, a program of this session, over contracts that it gives by hand; Lean checks it
-- dented
import Derived.Test.YtlhefhcdlgkngaaDoorQMin
import Derived.Test.YtlhefhcdlgkngaaDoorQAut
import Derived.Test.YtlhefhcdlgkngaaDoorQBlk
import Derived.Test.YtlhefhcdlgkngaaDoorPFnExactBookBalancex0
import Derived.Test.YtlhefhcdlgkngaaDoorPFnExactBookBalancex2
import Derived.Test.YtlhefhcdlgkngaaDoorPFnExactBookBalancex5
import Derived.Test.YtlhefhcdlgkngaaDoorPFnExactBookBalancex8
import Derived.Test.YtlhefhcdlgkngaaDoorPFnExactBookBalancex9
namespace Go.Proofs.YtlhefhcdlgkngaaDoor.PFnExactBookBalance
open Go.RowKit Go.Proofs.YtlhefhcdlgkngaaDoorW.PrintWords Go.Proofs.YtlhefhcdlgkngaaDoorW.PrintLast Go.Proofs.YtlhefhcdlgkngaaDoorW.PrintMore
attribute [local go_sem] max2_int min2_int max_two min_two max_three min_three max_four min_four   -- for this text's walks alone
set_option linter.unusedVariables false
set_option linter.unusedSimpArgs false

/-! ### laws_FnExactBookBalance: function 4 -/
def laws_FnExactBookBalance.f (k : Nat) (l0_0 : List (S85)) (l0_1 : List ByteArray) (a1_0 : ByteArray) (a1_1 : ByteArray) : Option (Bool) := (laws_szBook.f k l0_0 l0_1 1048576).bind fun t225 => (if t225 < 0 then (some true) else ((laws_szSpot.f a1_0 a1_1 t225).bind fun t226 => (if t226 < 0 then (some true) else ((laws_toBook.f k l0_0 l0_1).bind fun bt227 => ((laws_toSpot.f a1_0 a1_1).bind fun bt233 => ((spec_BookBalance.f k bt227.1 bt227.2 bt233.1 bt233.2).bind fun bt235 => ((laws_toBook.f k l0_0 l0_1).bind fun bt238 => ((laws_toSpot.f a1_0 a1_1).bind fun bt245 => ((impl_BookBalance.f k bt238.1 bt238.2 bt245.1 bt245.2).bind fun bt247 => ((laws_eqMoneyOut.f bt247.1 bt247.2 bt235.1 bt235.2).bind fun t250 => (if t250 = true then ((laws_toBook.f k l0_0 l0_1).bind fun bt251 => ((laws_eqBook.f k bt238.1 bt238.2 bt251.1 bt251.2).bind fun t257 => (if t257 = true then (some true) else (none)))) else (none))))))))))))
theorem laws_FnExactBookBalance.mono : ∀ a0 a1 a2 a3 k, LeO (laws_FnExactBookBalance.f k a0 a1 a2 a3) (laws_FnExactBookBalance.f (k + 1) a0 a1 a2 a3) := by
 intro a0 a1 a2 a3 k
 unfold laws_FnExactBookBalance.f
 repeat' (with_reducible first | exact impl_BookBalance.mono .. | exact laws_eqBook.mono .. | exact laws_szBook.mono .. | exact laws_toBook.mono .. | exact spec_BookBalance.mono .. | exact LeO.refl _ | exact LeO.none _ | refine LeO.ite ?_ ?_ | refine LeO.bind ?_ (fun _ => ?_))
set_option maxHeartbeats 8000000 in
set_option maxRecDepth 100000 in
theorem laws_FnExactBookBalance.calls (k : Nat) (A0_0 : Option Addr) (c0_0 : Nat) (l0_0 : List (S85)) (A0_1 : Option Addr) (c0_1 : Nat) (l0_1 : List ByteArray) (a1_0 : ByteArray) (a1_1 : ByteArray) (r : Bool) (w : World) (hr0_0 : Kd.C k85 w A0_0 l0_0.length l0_0) (hc0_0 : l0_0.length ≤ c0_0) (hr0_1 : Kd.C Kd.string w A0_1 l0_1.length l0_1) (hc0_1 : l0_1.length ≤ c0_1) (h : laws_FnExactBookBalance.f k l0_0 l0_1 a1_0 a1_1 = some r) :
  Calls Tryd.prog 4 #[.agg #[.slice A0_0 l0_0.length c0_0, .slice A0_1 l0_1.length c0_1], .agg #[.string a1_0, .string a1_1]] w fun e w' => e = .returned (.bool r) ∧ Below w.heap.size w w' := by
 have hu33 := Tryd.underlying33
 have hu35 := Tryd.underlying35
 have hu39 := Tryd.underlying39
 have hu43 := Tryd.underlying43
 have HR0_0 := am hr0_0
 have HC0_0 := am hc0_0
 clear hr0_0 hc0_0
 have HR0_1 := am hr0_1
 have HC0_1 := am hc0_1
 clear hr0_1 hc0_1
 have HB := am (Below.refl w.heap.size w)
 have H := h
 clear h
 unfold laws_FnExactBookBalance.f at H
 revert H; refine bj fun t225 A3 H => ?_
 revert H; refine iDb (fun c4b0 H => ?_) fun c4b0 H => ?_
 ·obtain rfl := Option.some.inj H
  go_enter Tryd.func4, Tryd.ntmps4
  go_wp2_with (first | ((with_reducible refine g_ 2 ?_); refine bx 2 #[.slice A0_0 l0_0.length c0_0, .slice A0_1 l0_1.length c0_1] 33 ?_; intro gb223 hg w5 hbox hb; have BK223 := am (hbox); have GW223 := am (bsz hg : w.heap.size ≤ gb223); have GE223 := GW223; replace HB := am (below_step bl hb); clear hb hbox hg) | ((with_reducible refine g_ 3 ?_); refine bx 3 #[.string a1_0, .string a1_1] 35 ?_; intro gb224 hg w6 hbox hb; have BK224 := am (hbox); have GW224 := am (bsz hg : w.heap.size ≤ gb224); have GE224 := GW224; have NB223_224 := am (ne1 hg BK223.out); have NB224_223 := am NB223_224.out.symm; replace BK223 := am (bkb BK223.out hb); replace HB := am (below_step bl hb); clear hb hbox hg; have hnb7 := NB223_224.out; have hnc7 := NB224_223.out; obtain ⟨z8_0, z8_1, y8_0, y8_1⟩ := blk2 BK223.out) | ((with_reducible refine c_ 12 ?_); refine gc 12 (some 11) Tryd.func12 (laws_szBook.calls _ _ _ _ _ _ _ _ _ _ ?side1 ?side2 ?side3 ?side4 A3.out) ?_; (case side1 => exact cb HR0_0.out); (case side2 => exact HC0_0.out); (case side3 => exact cb HR0_1.out); (case side4 => exact HC0_1.out); rintro e w9 ⟨rfl, hb⟩; refine ⟨_, rfl, ?_⟩; replace BK223 := am (bkb BK223.out hb); replace BK224 := am (bkb BK224.out hb); replace HB := am (below_step bl hb); clear hb))
  go_ret
  exact ⟨er, bl⟩
 revert H; refine bj fun t226 A10 H => ?_
 revert H; refine iDb (fun c11b0 H => ?_) fun c11b0 H => ?_
 ·obtain rfl := Option.some.inj H
  go_enter Tryd.func4, Tryd.ntmps4
  go_wp2_with (first | ((with_reducible refine g_ 2 ?_); refine bx 2 #[.slice A0_0 l0_0.length c0_0, .slice A0_1 l0_1.length c0_1] 33 ?_; intro gb223 hg w12 hbox hb; have BK223 := am (hbox); have GW223 := am (bsz hg : w.heap.size ≤ gb223); have GE223 := GW223; replace HB := am (below_step bl hb); clear hb hbox hg) | ((with_reducible refine g_ 3 ?_); refine bx 3 #[.string a1_0, .string a1_1] 35 ?_; intro gb224 hg w13 hbox hb; have BK224 := am (hbox); have GW224 := am (bsz hg : w.heap.size ≤ gb224); have GE224 := GW224; have NB223_224 := am (ne1 hg BK223.out); have NB224_223 := am NB223_224.out.symm; replace BK223 := am (bkb BK223.out hb); replace HB := am (below_step bl hb); clear hb hbox hg; have hnb14 := NB223_224.out; have hnc14 := NB224_223.out; obtain ⟨z15_0, z15_1, y15_0, y15_1⟩ := blk2 BK223.out) | ((with_reducible refine c_ 12 ?_); refine gc 12 (some 11) Tryd.func12 (laws_szBook.calls _ _ _ _ _ _ _ _ _ _ ?side1 ?side2 ?side3 ?side4 A3.out) ?_; (case side1 => exact cb HR0_0.out); (case side2 => exact HC0_0.out); (case side3 => exact cb HR0_1.out); (case side4 => exact HC0_1.out); rintro e w16 ⟨rfl, hb⟩; refine ⟨_, rfl, ?_⟩; replace BK223 := am (bkb BK223.out hb); replace BK224 := am (bkb BK224.out hb); replace HB := am (below_step bl hb); clear hb; obtain ⟨z17_0, z17_1, y17_0, y17_1⟩ := blk2 BK224.out) | ((with_reducible refine c_ 13 ?_); refine gc 13 (some 16) Tryd.func13 (laws_szSpot.calls _ _ _ _ _ A10.out) ?_; rintro e w18 ⟨rfl, hb⟩; refine ⟨_, rfl, ?_⟩; replace BK223 := am (bkb BK223.out hb); replace BK224 := am (bkb BK224.out hb); replace HB := am (below_step bl hb); clear hb))
  go_ret
  exact ⟨er, bl⟩
 replace H := bi H; obtain ⟨⟨t227, t230⟩, A19, H⟩ := H; dsimp only at H
 replace H := bi H; obtain ⟨⟨t233, t234⟩, A20, H⟩ := H; dsimp only at H
 replace H := bi H; obtain ⟨⟨t235, t236⟩, A21, H⟩ := H; dsimp only at H
 replace H := bi H; obtain ⟨⟨t238, t241⟩, A22, H⟩ := H; dsimp only at H
 replace H := bi H; obtain ⟨⟨t245, t246⟩, A23, H⟩ := H; dsimp only at H
 replace H := bi H; obtain ⟨⟨t247, t248⟩, A24, H⟩ := H; dsimp only at H
 revert H; refine bj fun t250 A25 H => ?_
 replace H := j0 H; obtain ⟨rfl, H⟩ := H
 replace H := bi H; obtain ⟨⟨t251, t254⟩, A27, H⟩ := H; dsimp only at H
 revert H; refine bj fun t257 A28 H => ?_
 replace H := j0 H; obtain ⟨rfl, H⟩ := H
 obtain rfl := Option.some.inj H
 go_enter Tryd.func4, Tryd.ntmps4
 try go_wp2_with (first | ((with_reducible refine g_ 2 ?_); refine bx 2 #[.slice A0_0 l0_0.length c0_0, .slice A0_1 l0_1.length c0_1] 33 ?_; intro gb223 hg w30 hbox hb; have BK223 := am (hbox); have GW223 := am (bsz hg : w.heap.size ≤ gb223); have GE223 := GW223; replace HB := am (below_step bl hb); clear hb hbox hg) | ((with_reducible refine g_ 3 ?_); refine bx 3 #[.string a1_0, .string a1_1] 35 ?_; intro gb224 hg w31 hbox hb; have BK224 := am (hbox); have GW224 := am (bsz hg : w.heap.size ≤ gb224); have GE224 := GW224; have NB223_224 := am (ne1 hg BK223.out); have NB224_223 := am NB223_224.out.symm; replace BK223 := am (bkb BK223.out hb); replace HB := am (below_step bl hb); clear hb hbox hg; have hnb32 := NB223_224.out; have hnc32 := NB224_223.out; obtain ⟨z33_0, z33_1, y33_0, y33_1⟩ := blk2 BK223.out) | ((with_reducible refine c_ 12 ?_); refine gc 12 (some 11) Tryd.func12 (laws_szBook.calls _ _ _ _ _ _ _ _ _ _ ?side1 ?side2 ?side3 ?side4 A3.out) ?_; (case side1 => exact cb HR0_0.out); (case side2 => exact HC0_0.out); (case side3 => exact cb HR0_1.out); (case side4 => exact HC0_1.out); rintro e w34 ⟨rfl, hb⟩; refine ⟨_, rfl, ?_⟩; replace BK223 := am (bkb BK223.out hb); replace BK224 := am (bkb BK224.out hb); replace HB := am (below_step bl hb); clear hb; obtain ⟨z35_0, z35_1, y35_0, y35_1⟩ := blk2 BK224.out) | ((with_reducible refine c_ 13 ?_); refine gc 13 (some 16) Tryd.func13 (laws_szSpot.calls _ _ _ _ _ A10.out) ?_; rintro e w36 ⟨rfl, hb⟩; refine ⟨_, rfl, ?_⟩; replace BK223 := am (bkb BK223.out hb); replace BK224 := am (bkb BK224.out hb); replace HB := am (below_step bl hb); clear hb))
 have n0_ := am (blk_drew BK223.out)
 have n1_ := am (blk_drew BK224.out)
 have n2_ := am (below_drew1 HB.out)
 clear BK223
 clear BK224
 clear HB
 have BK223 := n0_
 have BK224 := n1_
 have HB := n2_
 clear n0_ n1_ n2_
 refine start_ (n := 7) (S := fun w' => w'.cell? ⟨gb223, 0, none⟩ = some (.slice A0_0 l0_0.length c0_0) ∧ w'.cell? ⟨gb223, 1, none⟩ = some (.slice A0_1 l0_1.length c0_1) ∧ w'.cell? ⟨gb224, 0, none⟩ = some (.string a1_0) ∧ w'.cell? ⟨gb224, 1, none⟩ = some (.string a1_1)) (ds := []) #[F_, F_, F_, F_, F_, F_, F_] (by kernel_rfl) rfl rfl ⟨(blk_cell BK223.out 0).trans rfl, (blk_cell BK223.out 1).trans rfl, (blk_cell BK224.out 0).trans rfl, (blk_cell BK224.out 1).trans rfl⟩ (fun hHeld => ?_)
 generalize w36.drew = w37 at BK223 BK224 HB hHeld ⊢
 refine tv4 0 19 hHeld ?_
 refine tv4 2 21 hHeld ?_
 refine join_ (σ := Value × Value × Nat) 1 #[T_, T_, T_, T_, T_, T_, F_] (fun s_ => [(20, .agg #[s_.1, s_.2.1]), (22, .agg #[.string t233, .string t234]), (23, .agg #[.int .i64 t235, .int .i64 t236]), (6, .pointer (some ⟨s_.2.2, 0, none⟩))]) (fun s_ w' => (w'.cell? ⟨gb223, 0, none⟩ = some (.slice A0_0 l0_0.length c0_0) ∧ w'.cell? ⟨gb223, 1, none⟩ = some (.slice A0_1 l0_1.length c0_1) ∧ w'.cell? ⟨gb224, 0, none⟩ = some (.string a1_0) ∧ w'.cell? ⟨gb224, 1, none⟩ = some (.string a1_1)) ∧ (Kd.R k67 67 w' w.heap.size (fun _ => True) s_.1 t227) ∧ (Kd.R Kd.string 9 w' w.heap.size (fun _ => True) s_.2.1 t230) ∧ (w'.heap[gb223]? = some (.cells #[.slice A0_0 l0_0.length c0_0, .slice A0_1 l0_1.length c0_1] 33 (0, 0))) ∧ (w'.heap[gb224]? = some (.cells #[.string a1_0, .string a1_1] 35 (0, 0))) ∧ (w'.heap[s_.2.2]? = some (.cells #[.int .i64 0, .int .i64 0] 39 (0, 0))) ∧ (w.heap.size ≤ s_.2.2) ∧ (w.heap.size ≤ s_.2.2) ∧ (gb223 ≠ s_.2.2) ∧ (s_.2.2 ≠ gb223) ∧ (gb224 ≠ s_.2.2) ∧ (s_.2.2 ≠ gb224) ∧ (Below w.heap.size w w')) ?_ ?_
 rotate_left
 ·intro hCont
  refine two_ (i := 1) (j := 5) (Ni := some 20) (Nj := some 6) #[T_, T_, T_, F_, F_, F_, F_] #[T_, F_, T_, F_, F_, T_, F_] rfl rfl rfl rfl (by kernel_rfl) (by decide) (by decide) (fun K hK => ?_) (fun K hK => ?_)
  ·skip
   refine gk Tryd.func15 (laws_toBook.calls _ _ _ _ _ _ _ _ _ _ ?side1 ?side2 ?side3 ?side4 A19.out) ?_
   (case side1 => exact cb HR0_0.out)
   (case side2 => exact HC0_0.out)
   (case side3 => exact cb HR0_1.out)
   (case side4 => exact HC0_1.out)
   rintro e w38 ⟨v228, v231, rfl, ho0, ho1, hb⟩
   refine ⟨_, rfl, ?_⟩
   have n0_ := am (Kd.R_lower ho0 (below_size bl))
   have n1_ := am (Kd.R_lower ho1 (below_size bl))
   have n2_ := am (bkb BK223.out hb)
   have n3_ := am (bkb BK224.out hb)
   have n4_ := am (below_step bl hb)
   clear BK223
   clear BK224
   clear HB
   have HO229 := n0_
   have HO232 := n1_
   have BK223 := n2_
   have BK224 := n3_
   have HB := n4_
   clear n0_ n1_ n2_ n3_ n4_
   skip
   skip
   skip
   skip
   skip
   skip
   refine hK.out _ _ ⟨(blk_cell BK223.out 0).trans rfl, (blk_cell BK223.out 1).trans rfl, (blk_cell BK224.out 0).trans rfl, (blk_cell BK224.out 1).trans rfl⟩ (fun hHeld => ?_)
   clear hK K
   refine norm_ (a' := ?_) ?_ ?_
   rotate_left
   ·show Act.put _ (some 20) _ = _
    simp only [Act.put, z1, z2, z3, i64_w, i32_w]
    rfl
   refine two_ (i := 3) (j := 5) (Ni := some 22) (Nj := some 6) #[T_, T_, T_, T_, F_, F_, F_] #[T_, T_, T_, F_, F_, T_, F_] rfl rfl rfl rfl (by kernel_rfl) (by decide) (by decide) (fun K hK => ?_) (fun K hK => ?_)
   ·skip
    refine gk Tryd.func16 (laws_toSpot.calls _ _ _ _ _ A20.out) ?_
    rintro e w39 ⟨rfl, hb⟩
    refine ⟨_, rfl, ?_⟩
    have n0_ := am (rb HO229.out hb)
    have n1_ := am (rb HO232.out hb)
    have n2_ := am (bkb BK223.out hb)
    have n3_ := am (bkb BK224.out hb)
    have n4_ := am (below_step bl hb)
    clear HO229
    clear HO232
    clear BK223
    clear BK224
    clear HB
    have HO229 := n0_
    have HO232 := n1_
    have BK223 := n2_
    have BK224 := n3_
    have HB := n4_
    clear n0_ n1_ n2_ n3_ n4_
    skip
    skip
    skip
    skip
    obtain ⟨Ao40, co40, eo40⟩ := Kd.R_slice HO229.out
    (first | subst eo40 | (injection eo40 with f1_ f2_ f3_; have f4_ := f1_.symm; have f5_ := f3_.symm; clear f1_ f2_ f3_; subst f4_; subst f5_))
    obtain ⟨Ao41, co41, eo41⟩ := Kd.R_slice HO232.out
    (first | subst eo41 | (injection eo41 with f1_ f2_ f3_; have f4_ := f1_.symm; have f5_ := f3_.symm; clear f1_ f2_ f3_; subst f4_; subst f5_))
    refine hK.out _ _ ⟨(blk_cell BK223.out 0).trans rfl, (blk_cell BK223.out 1).trans rfl, (blk_cell BK224.out 0).trans rfl, (blk_cell BK224.out 1).trans rfl⟩ (fun hHeld => ?_)
    clear hK K
    refine norm_ (a' := ?_) ?_ ?_
    rotate_left
    ·show Act.put _ (some 22) _ = _
     simp only [Act.put, z1, z2, z3, i64_w, i32_w]
     rfl
    refine two_ (i := 4) (j := 5) (Ni := some 23) (Nj := some 6) #[T_, T_, T_, T_, T_, F_, F_] #[T_, T_, T_, T_, F_, T_, F_] rfl rfl rfl rfl (by kernel_rfl) (by decide) (by decide) (fun K hK => ?_) (fun K hK => ?_)
    ·skip
     refine gk Tryd.func14 (spec_BookBalance.calls _ _ _ _ _ _ _ _ _ _ _ _ ?side1 ?side2 ?side3 ?side4 A21.out) ?_
     (case side1 => exact cc (Kd.R_reads' HO229.out).2.2)
     (case side2 => exact (Kd.R_reads' HO229.out).2.1)
     (case side3 => exact cc (Kd.R_reads' HO232.out).2.2)
     (case side4 => exact (Kd.R_reads' HO232.out).2.1)
     rintro e w42 ⟨rfl, hb⟩
     refine ⟨_, rfl, ?_⟩
     have n0_ := am (rb HO229.out hb)
     have n1_ := am (rb HO232.out hb)
     have n2_ := am (bkb BK223.out hb)
     have n3_ := am (bkb BK224.out hb)
     have n4_ := am (below_step bl hb)
     clear HO229
     clear HO232
     clear BK223
     clear BK224
     clear HB
     have HO229 := n0_
     have HO232 := n1_
     have BK223 := n2_
     have BK224 := n3_
     have HB := n4_
     clear n0_ n1_ n2_ n3_ n4_
     skip
     skip
     skip
     skip
     refine hK.out _ _ ⟨(blk_cell BK223.out 0).trans rfl, (blk_cell BK223.out 1).trans rfl, (blk_cell BK224.out 0).trans rfl, (blk_cell BK224.out 1).trans rfl⟩ (fun hHeld => ?_)
     clear hK K
     refine norm_ (a' := ?_) ?_ ?_
     rotate_left
     ·show Act.put _ (some 23) _ = _
      simp only [Act.put, z1, z2, z3, i64_w, i32_w]
      rfl
     refine ov 5 6 (fun K hK => ?_)
     refine box_step ?hg (N := 6) ?hd (cs := #[.int .i64 0, .int .i64 0]) (t := 39) ?hr ?_; (case hd => rfl); (case hg => rfl); (case hr => first | (go_simp; done) | (go_simp; rfl))
     intro gb237 hg w43 hbox hb
     have n0_ := am (rb HO229.out hb)
     have n1_ := am (rb HO232.out hb)
     have n2_ := am (bkb BK223.out hb)
     have n3_ := am (bkb BK224.out hb)
     have n4_ := am (below_step bl hb)
     have n5_ := am (hbox)
     have n6_ := am ((bsz hg : w.heap.size ≤ gb237))
     have n7_ := am ((bsz hg : w.heap.size ≤ gb237))
     have n8_ := am ((by rw [hg]; exact Nat.ne_of_lt (bkl BK223.out) : gb223 ≠ gb237))
     have n9_ := am ((by rw [hg]; exact Nat.ne_of_gt (bkl BK223.out) : gb237 ≠ gb223))
     have n10_ := am ((by rw [hg]; exact Nat.ne_of_lt (bkl BK224.out) : gb224 ≠ gb237))
     have n11_ := am ((by rw [hg]; exact Nat.ne_of_gt (bkl BK224.out) : gb237 ≠ gb224))
     clear HO229
     clear HO232
     clear BK223
     clear BK224
     clear HB
     have HO229 := n0_
     have HO232 := n1_
     have BK223 := n2_
     have BK224 := n3_
     have HB := n4_
     have BK237 := n5_
     have GW237 := n6_
     have GE237 := n7_
     have NB223_237 := n8_
     have NB237_223 := n9_
     have NB224_237 := n10_
     have NB237_224 := n11_
     clear n0_ n1_ n2_ n3_ n4_ n5_ n6_ n7_ n8_ n9_ n10_ n11_
     clear hb hbox hg
     refine hK.out _ _ ⟨(blk_cell BK223.out 0).trans rfl, (blk_cell BK223.out 1).trans rfl, (blk_cell BK224.out 0).trans rfl, (blk_cell BK224.out 1).trans rfl⟩ (fun hHeld => ?_)
     clear hK K
     refine norm_ (a' := ?_) ?_ ?_
     rotate_left
     ·show Act.put _ (some 6) _ = _
      simp only [Act.put, z1, z2, z3, i64_w, i32_w]
      rfl
     exact norm_ (by simp only [putAll, Act.put, z1, z2, z3]) (hCont (.slice Ao40 t227.length co40, .slice Ao41 t230.length co41, gb237) _ ⟨hHeld, (kr HO229.out), (kr HO232.out), (bk BK223.out), (bk BK224.out), (bk BK237.out), GW237.out, GE237.out, NB223_237.out, NB237_223.out, NB224_237.out, NB237_224.out, bl⟩)
    skip
    refine box_step ?hg (N := 6) ?hd (cs := #[.int .i64 0, .int .i64 0]) (t := 39) ?hr ?_; (case hd => rfl); (case hg => rfl); (case hr => first | (go_simp; done) | (go_simp; rfl))
    intro gb237 hg w40 hbox hb
    have n0_ := am (rb HO229.out hb)
    have n1_ := am (rb HO232.out hb)
    have n2_ := am (bkb BK223.out hb)
    have n3_ := am (bkb BK224.out hb)
    have n4_ := am (below_step bl hb)
    have n5_ := am (hbox)
    have n6_ := am ((bsz hg : w.heap.size ≤ gb237))
    have n7_ := am ((bsz hg : w.heap.size ≤ gb237))
    have n8_ := am ((by rw [hg]; exact Nat.ne_of_lt (bkl BK223.out) : gb223 ≠ gb237))
    have n9_ := am ((by rw [hg]; exact Nat.ne_of_gt (bkl BK223.out) : gb237 ≠ gb223))
    have n10_ := am ((by rw [hg]; exact Nat.ne_of_lt (bkl BK224.out) : gb224 ≠ gb237))
    have n11_ := am ((by rw [hg]; exact Nat.ne_of_gt (bkl BK224.out) : gb237 ≠ gb224))
    clear HO229
    clear HO232
    clear BK223
    clear BK224
    clear HB
    have HO229 := n0_
    have HO232 := n1_
    have BK223 := n2_
    have BK224 := n3_
    have HB := n4_
    have BK237 := n5_
    have GW237 := n6_
    have GE237 := n7_
    have NB223_237 := n8_
    have NB237_223 := n9_
    have NB224_237 := n10_
    have NB237_224 := n11_
    clear n0_ n1_ n2_ n3_ n4_ n5_ n6_ n7_ n8_ n9_ n10_ n11_
    clear hb hbox hg
    obtain ⟨Ao41, co41, eo41⟩ := Kd.R_slice HO229.out
    (first | subst eo41 | (injection eo41 with f1_ f2_ f3_; have f4_ := f1_.symm; have f5_ := f3_.symm; clear f1_ f2_ f3_; subst f4_; subst f5_))
    obtain ⟨Ao42, co42, eo42⟩ := Kd.R_slice HO232.out
    (first | subst eo42 | (injection eo42 with f1_ f2_ f3_; have f4_ := f1_.symm; have f5_ := f3_.symm; clear f1_ f2_ f3_; subst f4_; subst f5_))
    refine hK.out _ _ ⟨(blk_cell BK223.out 0).trans rfl, (blk_cell BK223.out 1).trans rfl, (blk_cell BK224.out 0).trans rfl, (blk_cell BK224.out 1).trans rfl⟩ (fun hHeld => ?_)
    clear hK K
    refine norm_ (a' := ?_) ?_ ?_
    rotate_left
    ·show Act.put _ (some 6) _ = _
     simp only [Act.put, z1, z2, z3, i64_w, i32_w]
     rfl
    refine ov 4 23 (fun K hK => ?_)
    refine gk Tryd.func14 (spec_BookBalance.calls _ _ _ _ _ _ _ _ _ _ _ _ ?side1 ?side2 ?side3 ?side4 A21.out) ?_
    (case side1 => exact cc (Kd.R_reads' HO229.out).2.2)
    (case side2 => exact (Kd.R_reads' HO229.out).2.1)
    (case side3 => exact cc (Kd.R_reads' HO232.out).2.2)
    (case side4 => exact (Kd.R_reads' HO232.out).2.1)
    rintro e w43 ⟨rfl, hb⟩
    refine ⟨_, rfl, ?_⟩
    have n0_ := am (rb HO229.out hb)
    have n1_ := am (rb HO232.out hb)
    have n2_ := am (bkb BK223.out hb)
    have n3_ := am (bkb BK224.out hb)
    have n4_ := am (bkb BK237.out hb)
    have n5_ := am (below_step bl hb)
    clear HO229
    clear HO232
    clear BK223
    clear BK224
    clear BK237
    clear HB
    have HO229 := n0_
    have HO232 := n1_
    have BK223 := n2_
    have BK224 := n3_
    have BK237 := n4_
    have HB := n5_
    clear n0_ n1_ n2_ n3_ n4_ n5_
    skip
    skip
    skip
    skip
    refine hK.out _ _ ⟨(blk_cell BK223.out 0).trans rfl, (blk_cell BK223.out 1).trans rfl, (blk_cell BK224.out 0).trans rfl, (blk_cell BK224.out 1).trans rfl⟩ (fun hHeld => ?_)
    clear hK K
    refine norm_ (a' := ?_) ?_ ?_
    rotate_left
    ·show Act.put _ (some 23) _ = _
     simp only [Act.put, z1, z2, z3, i64_w, i32_w]
     rfl
    exact norm_ (by simp only [putAll, Act.put, z1, z2, z3]) (hCont (.slice Ao41 t227.length co41, .slice Ao42 t230.length co42, gb237) _ ⟨hHeld, (kr HO229.out), (kr HO232.out), (bk BK223.out), (bk BK224.out), (bk BK237.out), GW237.out, GE237.out, NB223_237.out, NB237_223.out, NB224_237.out, NB237_224.out, bl⟩)
   skip
   refine box_step ?hg (N := 6) ?hd (cs := #[.int .i64 0, .int .i64 0]) (t := 39) ?hr ?_; (case hd => rfl); (case hg => rfl); (case hr => first | (go_simp; done) | (go_simp; rfl))
   intro gb237 hg w39 hbox hb
   have n0_ := am (rb HO229.out hb)
   have n1_ := am (rb HO232.out hb)
   have n2_ := am (bkb BK223.out hb)
   have n3_ := am (bkb BK224.out hb)
   have n4_ := am (below_step bl hb)
   have n5_ := am (hbox)
   have n6_ := am ((bsz hg : w.heap.size ≤ gb237))
   have n7_ := am ((bsz hg : w.heap.size ≤ gb237))
   have n8_ := am ((by rw [hg]; exact Nat.ne_of_lt (bkl BK223.out) : gb223 ≠ gb237))
   have n9_ := am ((by rw [hg]; exact Nat.ne_of_gt (bkl BK223.out) : gb237 ≠ gb223))
   have n10_ := am ((by rw [hg]; exact Nat.ne_of_lt (bkl BK224.out) : gb224 ≠ gb237))
   have n11_ := am ((by rw [hg]; exact Nat.ne_of_gt (bkl BK224.out) : gb237 ≠ gb224))
   clear HO229
   clear HO232
   clear BK223
   clear BK224
   clear HB
   have HO229 := n0_
   have HO232 := n1_
   have BK223 := n2_
   have BK224 := n3_
   have HB := n4_
   have BK237 := n5_
   have GW237 := n6_
   have GE237 := n7_
   have NB223_237 := n8_
   have NB237_223 := n9_
   have NB224_237 := n10_
   have NB237_224 := n11_
   clear n0_ n1_ n2_ n3_ n4_ n5_ n6_ n7_ n8_ n9_ n10_ n11_
   clear hb hbox hg
   refine hK.out _ _ ⟨(blk_cell BK223.out 0).trans rfl, (blk_cell BK223.out 1).trans rfl, (blk_cell BK224.out 0).trans rfl, (blk_cell BK224.out 1).trans rfl⟩ (fun hHeld => ?_)
   clear hK K
   refine norm_ (a' := ?_) ?_ ?_
   rotate_left
   ·show Act.put _ (some 6) _ = _
    simp only [Act.put, z1, z2, z3, i64_w, i32_w]
    rfl
   refine ov 3 22 (fun K hK => ?_)
   refine gk Tryd.func16 (laws_toSpot.calls _ _ _ _ _ A20.out) ?_
   rintro e w40 ⟨rfl, hb⟩
   refine ⟨_, rfl, ?_⟩
   have n0_ := am (rb HO229.out hb)
   have n1_ := am (rb HO232.out hb)
   have n2_ := am (bkb BK223.out hb)
   have n3_ := am (bkb BK224.out hb)
   have n4_ := am (bkb BK237.out hb)
   have n5_ := am (below_step bl hb)
   clear HO229
   clear HO232
   clear BK223
   clear BK224
   clear BK237
   clear HB
   have HO229 := n0_
   have HO232 := n1_
   have BK223 := n2_
   have BK224 := n3_
   have BK237 := n4_
   have HB := n5_
   clear n0_ n1_ n2_ n3_ n4_ n5_
   skip
   skip
   skip
   skip
   obtain ⟨Ao41, co41, eo41⟩ := Kd.R_slice HO229.out
   (first | subst eo41 | (injection eo41 with f1_ f2_ f3_; have f4_ := f1_.symm; have f5_ := f3_.symm; clear f1_ f2_ f3_; subst f4_; subst f5_))
   obtain ⟨Ao42, co42, eo42⟩ := Kd.R_slice HO232.out
   (first | subst eo42 | (injection eo42 with f1_ f2_ f3_; have f4_ := f1_.symm; have f5_ := f3_.symm; clear f1_ f2_ f3_; subst f4_; subst f5_))
   refine hK.out _ _ ⟨(blk_cell BK223.out 0).trans rfl, (blk_cell BK223.out 1).trans rfl, (blk_cell BK224.out 0).trans rfl, (blk_cell BK224.out 1).trans rfl⟩ (fun hHeld => ?_)
   clear hK K
   refine norm_ (a' := ?_) ?_ ?_
   rotate_left
   ·show Act.put _ (some 22) _ = _
    simp only [Act.put, z1, z2, z3, i64_w, i32_w]
    rfl
   refine ov 4 23 (fun K hK => ?_)
   refine gk Tryd.func14 (spec_BookBalance.calls _ _ _ _ _ _ _ _ _ _ _ _ ?side1 ?side2 ?side3 ?side4 A21.out) ?_
   (case side1 => exact cc (Kd.R_reads' HO229.out).2.2)
   (case side2 => exact (Kd.R_reads' HO229.out).2.1)
   (case side3 => exact cc (Kd.R_reads' HO232.out).2.2)
   (case side4 => exact (Kd.R_reads' HO232.out).2.1)
   rintro e w43 ⟨rfl, hb⟩
   refine ⟨_, rfl, ?_⟩
   have n0_ := am (rb HO229.out hb)
   have n1_ := am (rb HO232.out hb)
   have n2_ := am (bkb BK223.out hb)
   have n3_ := am (bkb BK224.out hb)
   have n4_ := am (bkb BK237.out hb)
   have n5_ := am (below_step bl hb)
   clear HO229
   clear HO232
   clear BK223
   clear BK224
   clear BK237
   clear HB
   have HO229 := n0_
   have HO232 := n1_
   have BK223 := n2_
   have BK224 := n3_
   have BK237 := n4_
   have HB := n5_
   clear n0_ n1_ n2_ n3_ n4_ n5_
   skip
   skip
   skip
   skip
   refine hK.out _ _ ⟨(blk_cell BK223.out 0).trans rfl, (blk_cell BK223.out 1).trans rfl, (blk_cell BK224.out 0).trans rfl, (blk_cell BK224.out 1).trans rfl⟩ (fun hHeld => ?_)
   clear hK K
   refine norm_ (a' := ?_) ?_ ?_
   rotate_left
   ·show Act.put _ (some 23) _ = _
    simp only [Act.put, z1, z2, z3, i64_w, i32_w]
    rfl
   exact norm_ (by simp only [putAll, Act.put, z1, z2, z3]) (hCont (.slice Ao41 t227.length co41, .slice Ao42 t230.length co42, gb237) _ ⟨hHeld, (kr HO229.out), (kr HO232.out), (bk BK223.out), (bk BK224.out), (bk BK237.out), GW237.out, GE237.out, NB223_237.out, NB237_223.out, NB224_237.out, NB237_224.out, bl⟩)
  skip
  refine box_step ?hg (N := 6) ?hd (cs := #[.int .i64 0, .int .i64 0]) (t := 39) ?hr ?_; (case hd => rfl); (case hg => rfl); (case hr => first | (go_simp; done) | (go_simp; rfl))
  intro gb237 hg w38 hbox hb
  have n0_ := am (bkb BK223.out hb)
  have n1_ := am (bkb BK224.out hb)
  have n2_ := am (below_step bl hb)
  have n3_ := am (hbox)
  have n4_ := am ((bsz hg : w.heap.size ≤ gb237))
  have n5_ := am ((bsz hg : w.heap.size ≤ gb237))
  have n6_ := am ((by rw [hg]; exact Nat.ne_of_lt (bkl BK223.out) : gb223 ≠ gb237))
  have n7_ := am ((by rw [hg]; exact Nat.ne_of_gt (bkl BK223.out) : gb237 ≠ gb223))
  have n8_ := am ((by rw [hg]; exact Nat.ne_of_lt (bkl BK224.out) : gb224 ≠ gb237))
  have n9_ := am ((by rw [hg]; exact Nat.ne_of_gt (bkl BK224.out) : gb237 ≠ gb224))
  clear BK223
  clear BK224
  clear HB
  have BK223 := n0_
  have BK224 := n1_
  have HB := n2_
  have BK237 := n3_
  have GW237 := n4_
  have GE237 := n5_
  have NB223_237 := n6_
  have NB237_223 := n7_
  have NB224_237 := n8_
  have NB237_224 := n9_
  clear n0_ n1_ n2_ n3_ n4_ n5_ n6_ n7_ n8_ n9_
  clear hb hbox hg
  refine hK.out _ _ ⟨(blk_cell BK223.out 0).trans rfl, (blk_cell BK223.out 1).trans rfl, (blk_cell BK224.out 0).trans rfl, (blk_cell BK224.out 1).trans rfl⟩ (fun hHeld => ?_)
  clear hK K
  refine norm_ (a' := ?_) ?_ ?_
  rotate_left
  ·show Act.put _ (some 6) _ = _
   simp only [Act.put, z1, z2, z3, i64_w, i32_w]
   rfl
  refine ov 1 20 (fun K hK => ?_)
  refine gk Tryd.func15 (laws_toBook.calls _ _ _ _ _ _ _ _ _ _ ?side1 ?side2 ?side3 ?side4 A19.out) ?_
  (case side1 => exact cb HR0_0.out)
  (case side2 => exact HC0_0.out)
  (case side3 => exact cb HR0_1.out)
  (case side4 => exact HC0_1.out)
  rintro e w39 ⟨v228, v231, rfl, ho0, ho1, hb⟩
  refine ⟨_, rfl, ?_⟩
  have n0_ := am (Kd.R_lower ho0 (below_size bl))
  have n1_ := am (Kd.R_lower ho1 (below_size bl))
  have n2_ := am (bkb BK223.out hb)
  have n3_ := am (bkb BK224.out hb)
  have n4_ := am (bkb BK237.out hb)
  have n5_ := am (below_step bl hb)
  clear BK223
  clear BK224
  clear BK237
  clear HB
  have HO229 := n0_
  have HO232 := n1_
  have BK223 := n2_
  have BK224 := n3_
  have BK237 := n4_
  have HB := n5_
  clear n0_ n1_ n2_ n3_ n4_ n5_
  skip
  skip
  skip
  skip
  skip
  skip
  refine hK.out _ _ ⟨(blk_cell BK223.out 0).trans rfl, (blk_cell BK223.out 1).trans rfl, (blk_cell BK224.out 0).trans rfl, (blk_cell BK224.out 1).trans rfl⟩ (fun hHeld => ?_)
  clear hK K
  refine norm_ (a' := ?_) ?_ ?_
  rotate_left
  ·show Act.put _ (some 20) _ = _
   simp only [Act.put, z1, z2, z3, i64_w, i32_w]
   rfl
  refine ov 3 22 (fun K hK => ?_)
  refine gk Tryd.func16 (laws_toSpot.calls _ _ _ _ _ A20.out) ?_
  rintro e w40 ⟨rfl, hb⟩
  refine ⟨_, rfl, ?_⟩
  have n0_ := am (rb HO229.out hb)
  have n1_ := am (rb HO232.out hb)
  have n2_ := am (bkb BK223.out hb)
  have n3_ := am (bkb BK224.out hb)
  have n4_ := am (bkb BK237.out hb)
  have n5_ := am (below_step bl hb)
  clear HO229
  clear HO232
  clear BK223
  clear BK224
  clear BK237
  clear HB
  have HO229 := n0_
  have HO232 := n1_
  have BK223 := n2_
  have BK224 := n3_
  have BK237 := n4_
  have HB := n5_
  clear n0_ n1_ n2_ n3_ n4_ n5_
  skip
  skip
  skip
  skip
  obtain ⟨Ao41, co41, eo41⟩ := Kd.R_slice HO229.out
  (first | subst eo41 | (injection eo41 with f1_ f2_ f3_; have f4_ := f1_.symm; have f5_ := f3_.symm; clear f1_ f2_ f3_; subst f4_; subst f5_))
  obtain ⟨Ao42, co42, eo42⟩ := Kd.R_slice HO232.out
  (first | subst eo42 | (injection eo42 with f1_ f2_ f3_; have f4_ := f1_.symm; have f5_ := f3_.symm; clear f1_ f2_ f3_; subst f4_; subst f5_))
  refine hK.out _ _ ⟨(blk_cell BK223.out 0).trans rfl, (blk_cell BK223.out 1).trans rfl, (blk_cell BK224.out 0).trans rfl, (blk_cell BK224.out 1).trans rfl⟩ (fun hHeld => ?_)
  clear hK K
  refine norm_ (a' := ?_) ?_ ?_
  rotate_left
  ·show Act.put _ (some 22) _ = _
   simp only [Act.put, z1, z2, z3, i64_w, i32_w]
   rfl
  refine ov 4 23 (fun K hK => ?_)
  refine gk Tryd.func14 (spec_BookBalance.calls _ _ _ _ _ _ _ _ _ _ _ _ ?side1 ?side2 ?side3 ?side4 A21.out) ?_
  (case side1 => exact cc (Kd.R_reads' HO229.out).2.2)
  (case side2 => exact (Kd.R_reads' HO229.out).2.1)
  (case side3 => exact cc (Kd.R_reads' HO232.out).2.2)
  (case side4 => exact (Kd.R_reads' HO232.out).2.1)
  rintro e w43 ⟨rfl, hb⟩
  refine ⟨_, rfl, ?_⟩
  have n0_ := am (rb HO229.out hb)
  have n1_ := am (rb HO232.out hb)
  have n2_ := am (bkb BK223.out hb)
  have n3_ := am (bkb BK224.out hb)
  have n4_ := am (bkb BK237.out hb)
  have n5_ := am (below_step bl hb)
  clear HO229
  clear HO232
  clear BK223
  clear BK224
  clear BK237
  clear HB
  have HO229 := n0_
  have HO232 := n1_
  have BK223 := n2_
  have BK224 := n3_
  have BK237 := n4_
  have HB := n5_
  clear n0_ n1_ n2_ n3_ n4_ n5_
  skip
  skip
  skip
  skip
  refine hK.out _ _ ⟨(blk_cell BK223.out 0).trans rfl, (blk_cell BK223.out 1).trans rfl, (blk_cell BK224.out 0).trans rfl, (blk_cell BK224.out 1).trans rfl⟩ (fun hHeld => ?_)
  clear hK K
  refine norm_ (a' := ?_) ?_ ?_
  rotate_left
  ·show Act.put _ (some 23) _ = _
   simp only [Act.put, z1, z2, z3, i64_w, i32_w]
   rfl
  exact norm_ (by simp only [putAll, Act.put, z1, z2, z3]) (hCont (.slice Ao41 t227.length co41, .slice Ao42 t230.length co42, gb237) _ ⟨hHeld, (kr HO229.out), (kr HO232.out), (bk BK223.out), (bk BK224.out), (bk BK237.out), GW237.out, GE237.out, NB223_237.out, NB237_223.out, NB224_237.out, NB237_224.out, bl⟩)
 rintro ⟨v228, v231, gb237⟩ w44 ⟨hS_, h0_, h1_, h2_, h3_, h4_, h5_, h6_, h7_, h8_, h9_, h10_, h11_⟩
 have n0_ : Aside0 (Kd.R k67 67 w44 w.heap.size (fun _ => True) v228 t227) := ⟨h0_⟩
 have n1_ : Aside0 (Kd.R Kd.string 9 w44 w.heap.size (fun _ => True) v231 t230) := ⟨h1_⟩
 have n2_ : Aside0 (w44.heap[gb223]? = some (.cells #[.slice A0_0 l0_0.length c0_0, .slice A0_1 l0_1.length c0_1] 33 (0, 0))) := ⟨h2_⟩
 have n3_ : Aside0 (w44.heap[gb224]? = some (.cells #[.string a1_0, .string a1_1] 35 (0, 0))) := ⟨h3_⟩
 have n4_ : Aside0 (w44.heap[gb237]? = some (.cells #[.int .i64 0, .int .i64 0] 39 (0, 0))) := ⟨h4_⟩
 have n5_ : Aside0 (w.heap.size ≤ gb237) := ⟨h5_⟩
 have n6_ : Aside0 (w.heap.size ≤ gb237) := ⟨h6_⟩
 have n7_ : Aside0 (gb223 ≠ gb237) := ⟨h7_⟩
 have n8_ : Aside0 (gb237 ≠ gb223) := ⟨h8_⟩
 have n9_ : Aside0 (gb224 ≠ gb237) := ⟨h9_⟩
 have n10_ : Aside0 (gb237 ≠ gb224) := ⟨h10_⟩
 have n11_ : Aside0 (Below w.heap.size w w44) := ⟨h11_⟩
 clear BK223
 clear BK224
 clear HB
 clear h0_ h1_ h2_ h3_ h4_ h5_ h6_ h7_ h8_ h9_ h10_ h11_
 have HO229 := n0_
 have HO232 := n1_
 have BK223 := n2_
 have BK224 := n3_
 have BK237 := n4_
 have GW237 := n5_
 have GE237 := n6_
 have NB223_237 := n7_
 have NB237_223 := n8_
 have NB224_237 := n9_
 have NB237_224 := n10_
 have HB := n11_
 clear n0_ n1_ n2_ n3_ n4_ n5_ n6_ n7_ n8_ n9_ n10_ n11_
 have hHeld : w44.cell? ⟨gb223, 0, none⟩ = some (.slice A0_0 l0_0.length c0_0) ∧ w44.cell? ⟨gb223, 1, none⟩ = some (.slice A0_1 l0_1.length c0_1) ∧ w44.cell? ⟨gb224, 0, none⟩ = some (.string a1_0) ∧ w44.cell? ⟨gb224, 1, none⟩ = some (.string a1_1) := hS_
 refine norm_ (a' := ?_) ?_ ?_
 rotate_left
 ·simp only [putAll, Act.put, z1, z2, z3]
  rfl
 refine one_ (i := 6) (N := none) #[T_, T_, T_, T_, T_, T_, T_] rfl rfl (by kernel_rfl) (by decide) (fun K hK => ?_)
 have hs45 : w44.cell? ⟨gb237, 0, none⟩ = some (.int .i64 0) := (blk_cell BK237.out 0).trans rfl
 have hfs45 := blk_frozen BK237.out 0
 have hns45_0 := NB223_237.out
 have hns45_1 := NB224_237.out
 have hms45_0 := NB237_223.out
 have hms45_1 := NB237_224.out
 have hs46 : w44.cell? ⟨gb237, 1, none⟩ = some (.int .i64 0) := (blk_cell BK237.out 1).trans rfl
 have hfs46 := blk_frozen BK237.out 1
 have hns46_0 := NB223_237.out
 have hns46_1 := NB224_237.out
 have hms46_0 := NB237_223.out
 have hms46_1 := NB237_224.out
 refine skip_ (w1 := ?_) (by rfl) rfl ?_ ?_
 rotate_left
 ·go_simp
  rfl
 refine hK.out _ _ ⟨((cell_far (p := ⟨gb237, _, none⟩) NB223_237.out _).trans (((cell_far (p := ⟨gb237, _, none⟩) NB223_237.out _).trans (hHeld.1)))), ((cell_far (p := ⟨gb237, _, none⟩) NB223_237.out _).trans (((cell_far (p := ⟨gb237, _, none⟩) NB223_237.out _).trans (hHeld.2.1)))), ((cell_far (p := ⟨gb237, _, none⟩) NB224_237.out _).trans (((cell_far (p := ⟨gb237, _, none⟩) NB224_237.out _).trans (hHeld.2.2.1)))), ((cell_far (p := ⟨gb237, _, none⟩) NB224_237.out _).trans (((cell_far (p := ⟨gb237, _, none⟩) NB224_237.out _).trans (hHeld.2.2.2))))⟩ (fun hHeld => ?_)
 clear hK K
 refine done_ (by kernel_rfl) ?_
 have hnb47 := NB223_237.out
 have hnc47 := NB237_223.out
 obtain ⟨z48_0, z48_1, y48_0, y48_1⟩ := blk2 BK223.out
 try go_wp2_with (first | ((with_reducible refine c_ 15 ?_); refine gc 15 (some 25) Tryd.func15 (laws_toBook.calls _ _ _ _ _ _ _ _ _ _ ?side1 ?side2 ?side3 ?side4 A22.out) ?_; (case side1 => exact Kd.C_below HR0_0.out bl); (case side2 => exact HC0_0.out); (case side3 => exact Kd.C_below HR0_1.out bl); (case side4 => exact HC0_1.out); rintro e w49 ⟨v239, v242, rfl, ho0, ho1, hb⟩; refine ⟨_, rfl, ?_⟩; have HO240 := am (Kd.R_lower (Kd.R_new' ho0 (Kd.R_lt (by (with_reducible repeat (first | apply Kd.R_alloc | apply Kd.R_drewN | apply Kd.R_drew)); exact (Kd.R_mono (Kd.R_far (p := ⟨gb237, 1, none⟩) (Kd.R_far (p := ⟨gb237, 0, none⟩) (Kd.R_types HO229.out BK237.out (by decide)) (fun _ hk => hk.2) (.int .i64 t235)) (fun _ hk => hk.2) (.int .i64 t236)) (fun _ h_ => h_.1))))) (below_size bl)); replace HO229 := am (Kd.R_elder' (by (with_reducible repeat (first | apply Kd.R_alloc | apply Kd.R_drewN | apply Kd.R_drew)); exact (Kd.R_mono (Kd.R_far (p := ⟨gb237, 1, none⟩) (Kd.R_far (p := ⟨gb237, 0, none⟩) (Kd.R_types HO229.out BK237.out (by decide)) (fun _ hk => hk.2) (.int .i64 t235)) (fun _ hk => hk.2) (.int .i64 t236)) (fun _ h_ => h_.1))) (Kd.R_base ho0) hb); have HO243 := am (Kd.R_lower (Kd.R_new' ho1 (Kd.R_lt (by (with_reducible repeat (first | apply Kd.R_alloc | apply Kd.R_drewN | apply Kd.R_drew)); exact (Kd.R_mono (Kd.R_far (p := ⟨gb237, 1, none⟩) (Kd.R_far (p := ⟨gb237, 0, none⟩) (Kd.R_types HO232.out BK237.out (by decide)) (fun _ hk => hk.2) (.int .i64 t235)) (fun _ hk => hk.2) (.int .i64 t236)) (fun _ h_ => h_.1))))) (below_size bl)); replace HO232 := am (Kd.R_elder' (by (with_reducible repeat (first | apply Kd.R_alloc | apply Kd.R_drewN | apply Kd.R_drew)); exact (Kd.R_mono (Kd.R_far (p := ⟨gb237, 1, none⟩) (Kd.R_far (p := ⟨gb237, 0, none⟩) (Kd.R_types HO232.out BK237.out (by decide)) (fun _ hk => hk.2) (.int .i64 t235)) (fun _ hk => hk.2) (.int .i64 t236)) (fun _ h_ => h_.1))) (Kd.R_base ho1) hb); replace BK223 := am (blk_below (g := gb223) (o := .cells #[.slice A0_0 l0_0.length c0_0, .slice A0_1 l0_1.length c0_1] 33 (0, 0)) (bf BK223.out NB223_237.out) hb); replace BK224 := am (blk_below (g := gb224) (o := .cells #[.string a1_0, .string a1_1] 35 (0, 0)) (bf BK224.out NB224_237.out) hb); replace BK237 := am (blk_below (g := gb237) (o := .cells #[.int .i64 t235, .int .i64 t236] 39 (0, 0)) (bp BK237.out) hb); replace HB := am (below_step bl hb); clear hb ho0 ho1) | ((with_reducible refine g_ 7 ?_); refine bx 7 #[.slice none 0 0, .slice none 0 0] 43 ?_; intro gb244 hg w50 hbox hb; replace HO229 := am (rb HO229.out hb); replace HO232 := am (rb HO232.out hb); replace HO240 := am (rb HO240.out hb); replace HO243 := am (rb HO243.out hb); have BK244 := am (hbox); have GW244 := am (bsz hg : w.heap.size ≤ gb244); have GE244 := GW244; have NB223_244 := am (ne1 hg BK223.out); have NB244_223 := am NB223_244.out.symm; replace BK223 := am (bkb BK223.out hb); have NB224_244 := am (ne1 hg BK224.out); have NB244_224 := am NB224_244.out.symm; replace BK224 := am (bkb BK224.out hb); have NB237_244 := am (ne1 hg BK237.out); have NB244_237 := am NB237_244.out.symm; replace BK237 := am (bkb BK237.out hb); replace HB := am (below_step bl hb); clear hb hbox hg; obtain ⟨Ao51, co51, eo51⟩ := Kd.R_slice HO240.out; subst eo51; have hnb52 := NB244_223.out; have hnc52 := NB223_244.out; have hnb53 := NB244_224.out; have hnc53 := NB224_244.out; have hnb54 := NB244_237.out; have hnc54 := NB237_244.out; obtain ⟨z55_0, z55_1, y55_0, y55_1⟩ := blk2 BK244.out; obtain ⟨Ao56, co56, eo56⟩ := Kd.R_slice HO243.out; subst eo56))
 have n0_ : Aside0 (Kd.R k67 67 ((w50.setCell ⟨gb244, 0, none⟩ (.slice Ao51 t238.length co51)).setCell ⟨gb244, 1, none⟩ (.slice Ao56 t241.length co56)) w.heap.size (fun k_ => some k_ ≠ (.slice Ao51 t238.length co51 : Value).ownBlock) v228 t227) := ⟨by (with_reducible repeat (first | apply Kd.R_alloc | apply Kd.R_drewN | apply Kd.R_drew)); exact Kd.R_mono (Kd.R_far (p := ⟨gb244, 1, none⟩) (Kd.R_far (p := ⟨gb244, 0, none⟩) (Kd.R_types HO229.out BK244.out (by decide)) (fun _ hk => hk.2) (.slice Ao51 t238.length co51)) (fun _ hk => hk.2) (.slice Ao56 t241.length co56)) (fun _ hk => hk.1.2)⟩
 have n1_ : Aside0 (Kd.R Kd.string 9 ((w50.setCell ⟨gb244, 0, none⟩ (.slice Ao51 t238.length co51)).setCell ⟨gb244, 1, none⟩ (.slice Ao56 t241.length co56)) w.heap.size (fun k_ => some k_ ≠ (.slice Ao56 t241.length co56 : Value).ownBlock) v231 t230) := ⟨by (with_reducible repeat (first | apply Kd.R_alloc | apply Kd.R_drewN | apply Kd.R_drew)); exact Kd.R_mono (Kd.R_far (p := ⟨gb244, 1, none⟩) (Kd.R_far (p := ⟨gb244, 0, none⟩) (Kd.R_types HO232.out BK244.out (by decide)) (fun _ hk => hk.2) (.slice Ao51 t238.length co51)) (fun _ hk => hk.2) (.slice Ao56 t241.length co56)) (fun _ hk => hk.1.2)⟩
 have n2_ : Aside0 (Kd.R k67 67 ((w50.setCell ⟨gb244, 0, none⟩ (.slice Ao51 t238.length co51)).setCell ⟨gb244, 1, none⟩ (.slice Ao56 t241.length co56)) w.heap.size (fun k_ => some k_ ≠ (v228 : Value).ownBlock) (.slice Ao51 t238.length co51) t238) := ⟨by (with_reducible repeat (first | apply Kd.R_alloc | apply Kd.R_drewN | apply Kd.R_drew)); exact Kd.R_mono (Kd.R_far (p := ⟨gb244, 1, none⟩) (Kd.R_far (p := ⟨gb244, 0, none⟩) (Kd.R_types HO240.out BK244.out (by decide)) (fun _ hk => hk.2) (.slice Ao51 t238.length co51)) (fun _ hk => hk.2) (.slice Ao56 t241.length co56)) (fun _ hk => hk.1.2)⟩
 have n3_ : Aside0 (Kd.R Kd.string 9 ((w50.setCell ⟨gb244, 0, none⟩ (.slice Ao51 t238.length co51)).setCell ⟨gb244, 1, none⟩ (.slice Ao56 t241.length co56)) w.heap.size (fun k_ => some k_ ≠ (v231 : Value).ownBlock) (.slice Ao56 t241.length co56) t241) := ⟨by (with_reducible repeat (first | apply Kd.R_alloc | apply Kd.R_drewN | apply Kd.R_drew)); exact Kd.R_mono (Kd.R_far (p := ⟨gb244, 1, none⟩) (Kd.R_far (p := ⟨gb244, 0, none⟩) (Kd.R_types HO243.out BK244.out (by decide)) (fun _ hk => hk.2) (.slice Ao51 t238.length co51)) (fun _ hk => hk.2) (.slice Ao56 t241.length co56)) (fun _ hk => hk.1.2)⟩
 have n4_ : Aside0 (((w50.setCell ⟨gb244, 0, none⟩ (.slice Ao51 t238.length co51)).setCell ⟨gb244, 1, none⟩ (.slice Ao56 t241.length co56)).heap[gb223]? = some (.cells #[.slice A0_0 l0_0.length c0_0, .slice A0_1 l0_1.length c0_1] 33 (0, 0))) := ⟨bf BK223.out NB223_244.out⟩
 have n5_ : Aside0 (((w50.setCell ⟨gb244, 0, none⟩ (.slice Ao51 t238.length co51)).setCell ⟨gb244, 1, none⟩ (.slice Ao56 t241.length co56)).heap[gb224]? = some (.cells #[.string a1_0, .string a1_1] 35 (0, 0))) := ⟨bf BK224.out NB224_244.out⟩
 have n6_ : Aside0 (((w50.setCell ⟨gb244, 0, none⟩ (.slice Ao51 t238.length co51)).setCell ⟨gb244, 1, none⟩ (.slice Ao56 t241.length co56)).heap[gb237]? = some (.cells #[.int .i64 t235, .int .i64 t236] 39 (0, 0))) := ⟨bf BK237.out NB237_244.out⟩
 have n7_ : Aside0 (((w50.setCell ⟨gb244, 0, none⟩ (.slice Ao51 t238.length co51)).setCell ⟨gb244, 1, none⟩ (.slice Ao56 t241.length co56)).heap[gb244]? = some (.cells #[.slice Ao51 t238.length co51, .slice Ao56 t241.length co56] 43 (0, 0))) := ⟨bp BK244.out⟩
 have n8_ : Aside0 (Below w.heap.size w ((w50.setCell ⟨gb244, 0, none⟩ (.slice Ao51 t238.length co51)).setCell ⟨gb244, 1, none⟩ (.slice Ao56 t241.length co56))) := ⟨bl⟩
 (try clear HO229)
 (try clear HO232)
 (try clear HO240)
 (try clear HO243)
 (try clear BK223)
 (try clear BK224)
 (try clear BK237)
 (try clear BK244)
 (try clear HB)
 generalize ((w50.setCell ⟨gb244, 0, none⟩ (.slice Ao51 t238.length co51)).setCell ⟨gb244, 1, none⟩ (.slice Ao56 t241.length co56)) = w57 at n0_ n1_ n2_ n3_ n4_ n5_ n6_ n7_ n8_ ⊢
 have HO229 := n0_
 have HO232 := n1_
 have HO240 := n2_
 have HO243 := n3_
 have BK223 := n4_
 have BK224 := n5_
 have BK237 := n6_
 have BK244 := n7_
 have HB := n8_
 clear n0_ n1_ n2_ n3_ n4_ n5_ n6_ n7_ n8_
 have n0_ := am (Kd.R_drew HO229.out)
 have n1_ := am (Kd.R_drew HO232.out)
 have n2_ := am (Kd.R_drew HO240.out)
 have n3_ := am (Kd.R_drew HO243.out)
 have n4_ := am (blk_drew BK223.out)
 have n5_ := am (blk_drew BK224.out)
 have n6_ := am (blk_drew BK237.out)
 have n7_ := am (blk_drew BK244.out)
 have n8_ := am (below_drew1 HB.out)
 clear HO229
 clear HO232
 clear HO240
 clear HO243
 clear BK223
 clear BK224
 clear BK237
 clear BK244
 clear HB
 have HO229 := n0_
 have HO232 := n1_
 have HO240 := n2_
 have HO243 := n3_
 have BK223 := n4_
 have BK224 := n5_
 have BK237 := n6_
 have BK244 := n7_
 have HB := n8_
 clear n0_ n1_ n2_ n3_ n4_ n5_ n6_ n7_ n8_
 refine start_ (n := 6) (S := fun w' => w'.cell? ⟨gb244, 0, none⟩ = some (.slice Ao51 t238.length co51) ∧ w'.cell? ⟨gb244, 1, none⟩ = some (.slice Ao56 t241.length co56) ∧ w'.cell? ⟨gb224, 0, none⟩ = some (.string a1_0) ∧ w'.cell? ⟨gb224, 1, none⟩ = some (.string a1_1)) (ds := []) #[F_, F_, F_, F_, F_, F_] (by kernel_rfl) rfl rfl ⟨(blk_cell BK244.out 0).trans rfl, (blk_cell BK244.out 1).trans rfl, (blk_cell BK224.out 0).trans rfl, (blk_cell BK224.out 1).trans rfl⟩ (fun hHeld => ?_)
 generalize w57.drew = w58 at HO229 HO232 HO240 HO243 BK223 BK224 BK237 BK244 HB hHeld ⊢
 refine tv4 0 26 hHeld ?_
 refine tv4 1 27 hHeld ?_
 refine join_ (σ := Nat) 1 #[T_, T_, T_, T_, T_, F_] (fun s_ => [(28, .agg #[.string t245, .string t246]), (29, .agg #[.int .i64 t247, .int .i64 t248]), (8, .pointer (some ⟨s_, 0, none⟩))]) (fun s_ w' => (w'.cell? ⟨gb244, 0, none⟩ = some (.slice Ao51 t238.length co51) ∧ w'.cell? ⟨gb244, 1, none⟩ = some (.slice Ao56 t241.length co56) ∧ w'.cell? ⟨gb224, 0, none⟩ = some (.string a1_0) ∧ w'.cell? ⟨gb224, 1, none⟩ = some (.string a1_1)) ∧ (Kd.R k67 67 w' w.heap.size (fun k_ => some k_ ≠ (.slice Ao51 t238.length co51 : Value).ownBlock) v228 t227) ∧ (Kd.R Kd.string 9 w' w.heap.size (fun k_ => some k_ ≠ (.slice Ao56 t241.length co56 : Value).ownBlock) v231 t230) ∧ (Kd.R k67 67 w' w.heap.size (fun k_ => some k_ ≠ (v228 : Value).ownBlock) (.slice Ao51 t238.length co51) t238) ∧ (Kd.R Kd.string 9 w' w.heap.size (fun k_ => some k_ ≠ (v231 : Value).ownBlock) (.slice Ao56 t241.length co56) t241) ∧ (w'.heap[gb223]? = some (.cells #[.slice A0_0 l0_0.length c0_0, .slice A0_1 l0_1.length c0_1] 33 (0, 0))) ∧ (w'.heap[gb224]? = some (.cells #[.string a1_0, .string a1_1] 35 (0, 0))) ∧ (w'.heap[gb237]? = some (.cells #[.int .i64 t235, .int .i64 t236] 39 (0, 0))) ∧ (w'.heap[gb244]? = some (.cells #[.slice Ao51 t238.length co51, .slice Ao56 t241.length co56] 43 (0, 0))) ∧ (w'.heap[s_]? = some (.cells #[.int .i64 0, .int .i64 0] 39 (0, 0))) ∧ (w.heap.size ≤ s_) ∧ (w.heap.size ≤ s_) ∧ (gb223 ≠ s_) ∧ (s_ ≠ gb223) ∧ (gb224 ≠ s_) ∧ (s_ ≠ gb224) ∧ (gb237 ≠ s_) ∧ (s_ ≠ gb237) ∧ (gb244 ≠ s_) ∧ (s_ ≠ gb244) ∧ (Below w.heap.size w w')) ?_ ?_
 rotate_left
 ·intro hCont
  refine two_ (i := 2) (j := 4) (Ni := some 28) (Nj := some 8) #[T_, T_, T_, F_, F_, F_] #[T_, T_, F_, F_, T_, F_] rfl rfl rfl rfl (by kernel_rfl) (by decide) (by decide) (fun K hK => ?_) (fun K hK => ?_)
  ·skip
   refine gk Tryd.func16 (laws_toSpot.calls _ _ _ _ _ A23.out) ?_
   rintro e w59 ⟨rfl, hb⟩
   refine ⟨_, rfl, ?_⟩
   have n0_ := am (rb HO229.out hb)
   have n1_ := am (rb HO232.out hb)
   have n2_ := am (rb HO240.out hb)
   have n3_ := am (rb HO243.out hb)
   have n4_ := am (bkb BK223.out hb)
   have n5_ := am (bkb BK224.out hb)
   have n6_ := am (bkb BK237.out hb)
   have n7_ := am (bkb BK244.out hb)
   have n8_ := am (below_step bl hb)
   clear HO229
   clear HO232
   clear HO240
   clear HO243
   clear BK223
   clear BK224
   clear BK237
   clear BK244
   clear HB
   have HO229 := n0_
   have HO232 := n1_
   have HO240 := n2_
   have HO243 := n3_
   have BK223 := n4_
   have BK224 := n5_
   have BK237 := n6_
   have BK244 := n7_
   have HB := n8_
   clear n0_ n1_ n2_ n3_ n4_ n5_ n6_ n7_ n8_
   skip
   skip
   skip
   skip
   refine hK.out _ _ ⟨(blk_cell BK244.out 0).trans rfl, (blk_cell BK244.out 1).trans rfl, (blk_cell BK224.out 0).trans rfl, (blk_cell BK224.out 1).trans rfl⟩ (fun hHeld => ?_)
   clear hK K
   refine norm_ (a' := ?_) ?_ ?_
   rotate_left
   ·show Act.put _ (some 28) _ = _
    simp only [Act.put, z1, z2, z3, i64_w, i32_w]
    rfl
   refine two_ (i := 3) (j := 4) (Ni := some 29) (Nj := some 8) #[T_, T_, T_, T_, F_, F_] #[T_, T_, T_, F_, T_, F_] rfl rfl rfl rfl (by kernel_rfl) (by decide) (by decide) (fun K hK => ?_) (fun K hK => ?_)
   ·skip
    refine gk Tryd.func17 (impl_BookBalance.calls _ _ _ _ _ _ _ _ _ _ _ _ ?side1 ?side2 ?side3 ?side4 A24.out) ?_
    (case side1 => exact cc (Kd.R_reads' HO240.out).2.2)
    (case side2 => exact (Kd.R_reads' HO240.out).2.1)
    (case side3 => exact cc (Kd.R_reads' HO243.out).2.2)
    (case side4 => exact (Kd.R_reads' HO243.out).2.1)
    rintro e w60 ⟨rfl, hb⟩
    refine ⟨_, rfl, ?_⟩
    have n0_ := am (rb HO229.out hb)
    have n1_ := am (rb HO232.out hb)
    have n2_ := am (rb HO240.out hb)
    have n3_ := am (rb HO243.out hb)
    have n4_ := am (bkb BK223.out hb)
    have n5_ := am (bkb BK224.out hb)
    have n6_ := am (bkb BK237.out hb)
    have n7_ := am (bkb BK244.out hb)
    have n8_ := am (below_step bl hb)
    clear HO229
    clear HO232
    clear HO240
    clear HO243
    clear BK223
    clear BK224
    clear BK237
    clear BK244
    clear HB
    have HO229 := n0_
    have HO232 := n1_
    have HO240 := n2_
    have HO243 := n3_
    have BK223 := n4_
    have BK224 := n5_
    have BK237 := n6_
    have BK244 := n7_
    have HB := n8_
    clear n0_ n1_ n2_ n3_ n4_ n5_ n6_ n7_ n8_
    skip
    skip
    skip
    skip
    refine hK.out _ _ ⟨(blk_cell BK244.out 0).trans rfl, (blk_cell BK244.out 1).trans rfl, (blk_cell BK224.out 0).trans rfl, (blk_cell BK224.out 1).trans rfl⟩ (fun hHeld => ?_)
    clear hK K
    refine norm_ (a' := ?_) ?_ ?_
    rotate_left
    ·show Act.put _ (some 29) _ = _
     simp only [Act.put, z1, z2, z3, i64_w, i32_w]
     rfl
    refine ov 4 8 (fun K hK => ?_)
    refine box_step ?hg (N := 8) ?hd (cs := #[.int .i64 0, .int .i64 0]) (t := 39) ?hr ?_; (case hd => rfl); (case hg => rfl); (case hr => first | (go_simp; done) | (go_simp; rfl))
    intro gb249 hg w61 hbox hb
    have n0_ := am (rb HO229.out hb)
    have n1_ := am (rb HO232.out hb)
    have n2_ := am (rb HO240.out hb)
    have n3_ := am (rb HO243.out hb)
    have n4_ := am (bkb BK223.out hb)
    have n5_ := am (bkb BK224.out hb)
    have n6_ := am (bkb BK237.out hb)
    have n7_ := am (bkb BK244.out hb)
    have n8_ := am (below_step bl hb)
    have n9_ := am (hbox)
    have n10_ := am ((bsz hg : w.heap.size ≤ gb249))
    have n11_ := am ((bsz hg : w.heap.size ≤ gb249))
    have n12_ := am ((by rw [hg]; exact Nat.ne_of_lt (bkl BK223.out) : gb223 ≠ gb249))
    have n13_ := am ((by rw [hg]; exact Nat.ne_of_gt (bkl BK223.out) : gb249 ≠ gb223))
    have n14_ := am ((by rw [hg]; exact Nat.ne_of_lt (bkl BK224.out) : gb224 ≠ gb249))
    have n15_ := am ((by rw [hg]; exact Nat.ne_of_gt (bkl BK224.out) : gb249 ≠ gb224))
    have n16_ := am ((by rw [hg]; exact Nat.ne_of_lt (bkl BK237.out) : gb237 ≠ gb249))
    have n17_ := am ((by rw [hg]; exact Nat.ne_of_gt (bkl BK237.out) : gb249 ≠ gb237))
    have n18_ := am ((by rw [hg]; exact Nat.ne_of_lt (bkl BK244.out) : gb244 ≠ gb249))
    have n19_ := am ((by rw [hg]; exact Nat.ne_of_gt (bkl BK244.out) : gb249 ≠ gb244))
    clear HO229
    clear HO232
    clear HO240
    clear HO243
    clear BK223
    clear BK224
    clear BK237
    clear BK244
    clear HB
    have HO229 := n0_
    have HO232 := n1_
    have HO240 := n2_
    have HO243 := n3_
    have BK223 := n4_
    have BK224 := n5_
    have BK237 := n6_
    have BK244 := n7_
    have HB := n8_
    have BK249 := n9_
    have GW249 := n10_
    have GE249 := n11_
    have NB223_249 := n12_
    have NB249_223 := n13_
    have NB224_249 := n14_
    have NB249_224 := n15_
    have NB237_249 := n16_
    have NB249_237 := n17_
    have NB244_249 := n18_
    have NB249_244 := n19_
    clear n0_ n1_ n2_ n3_ n4_ n5_ n6_ n7_ n8_ n9_ n10_ n11_ n12_ n13_ n14_ n15_ n16_ n17_ n18_ n19_
    clear hb hbox hg
    refine hK.out _ _ ⟨(blk_cell BK244.out 0).trans rfl, (blk_cell BK244.out 1).trans rfl, (blk_cell BK224.out 0).trans rfl, (blk_cell BK224.out 1).trans rfl⟩ (fun hHeld => ?_)
    clear hK K
    refine norm_ (a' := ?_) ?_ ?_
    rotate_left
    ·show Act.put _ (some 8) _ = _
     simp only [Act.put, z1, z2, z3, i64_w, i32_w]
     rfl
    exact norm_ (by simp only [putAll, Act.put, z1, z2, z3]) (hCont (gb249) _ ⟨hHeld, (kr HO229.out), (kr HO232.out), (kr HO240.out), (kr HO243.out), (bk BK223.out), (bk BK224.out), (bk BK237.out), (bk BK244.out), (bk BK249.out), GW249.out, GE249.out, NB223_249.out, NB249_223.out, NB224_249.out, NB249_224.out, NB237_249.out, NB249_237.out, NB244_249.out, NB249_244.out, bl⟩)
   skip
   refine box_step ?hg (N := 8) ?hd (cs := #[.int .i64 0, .int .i64 0]) (t := 39) ?hr ?_; (case hd => rfl); (case hg => rfl); (case hr => first | (go_simp; done) | (go_simp; rfl))
   intro gb249 hg w60 hbox hb
   have n0_ := am (rb HO229.out hb)
   have n1_ := am (rb HO232.out hb)
   have n2_ := am (rb HO240.out hb)
   have n3_ := am (rb HO243.out hb)
   have n4_ := am (bkb BK223.out hb)
   have n5_ := am (bkb BK224.out hb)
   have n6_ := am (bkb BK237.out hb)
   have n7_ := am (bkb BK244.out hb)
   have n8_ := am (below_step bl hb)
   have n9_ := am (hbox)
   have n10_ := am ((bsz hg : w.heap.size ≤ gb249))
   have n11_ := am ((bsz hg : w.heap.size ≤ gb249))
   have n12_ := am ((by rw [hg]; exact Nat.ne_of_lt (bkl BK223.out) : gb223 ≠ gb249))
   have n13_ := am ((by rw [hg]; exact Nat.ne_of_gt (bkl BK223.out) : gb249 ≠ gb223))
   have n14_ := am ((by rw [hg]; exact Nat.ne_of_lt (bkl BK224.out) : gb224 ≠ gb249))
   have n15_ := am ((by rw [hg]; exact Nat.ne_of_gt (bkl BK224.out) : gb249 ≠ gb224))
   have n16_ := am ((by rw [hg]; exact Nat.ne_of_lt (bkl BK237.out) : gb237 ≠ gb249))
   have n17_ := am ((by rw [hg]; exact Nat.ne_of_gt (bkl BK237.out) : gb249 ≠ gb237))
   have n18_ := am ((by rw [hg]; exact Nat.ne_of_lt (bkl BK244.out) : gb244 ≠ gb249))
   have n19_ := am ((by rw [hg]; exact Nat.ne_of_gt (bkl BK244.out) : gb249 ≠ gb244))
   clear HO229
   clear HO232
   clear HO240
   clear HO243
   clear BK223
   clear BK224
   clear BK237
   clear BK244
   clear HB
   have HO229 := n0_
   have HO232 := n1_
   have HO240 := n2_
   have HO243 := n3_
   have BK223 := n4_
   have BK224 := n5_
   have BK237 := n6_
   have BK244 := n7_
   have HB := n8_
   have BK249 := n9_
   have GW249 := n10_
   have GE249 := n11_
   have NB223_249 := n12_
   have NB249_223 := n13_
   have NB224_249 := n14_
   have NB249_224 := n15_
   have NB237_249 := n16_
   have NB249_237 := n17_
   have NB244_249 := n18_
   have NB249_244 := n19_
   clear n0_ n1_ n2_ n3_ n4_ n5_ n6_ n7_ n8_ n9_ n10_ n11_ n12_ n13_ n14_ n15_ n16_ n17_ n18_ n19_
   clear hb hbox hg
   refine hK.out _ _ ⟨(blk_cell BK244.out 0).trans rfl, (blk_cell BK244.out 1).trans rfl, (blk_cell BK224.out 0).trans rfl, (blk_cell BK224.out 1).trans rfl⟩ (fun hHeld => ?_)
   clear hK K
   refine norm_ (a' := ?_) ?_ ?_
   rotate_left
   ·show Act.put _ (some 8) _ = _
    simp only [Act.put, z1, z2, z3, i64_w, i32_w]
    rfl
   refine ov 3 29 (fun K hK => ?_)
   refine gk Tryd.func17 (impl_BookBalance.calls _ _ _ _ _ _ _ _ _ _ _ _ ?side1 ?side2 ?side3 ?side4 A24.out) ?_
   (case side1 => exact cc (Kd.R_reads' HO240.out).2.2)
   (case side2 => exact (Kd.R_reads' HO240.out).2.1)
   (case side3 => exact cc (Kd.R_reads' HO243.out).2.2)
   (case side4 => exact (Kd.R_reads' HO243.out).2.1)
   rintro e w61 ⟨rfl, hb⟩
   refine ⟨_, rfl, ?_⟩
   have n0_ := am (rb HO229.out hb)
   have n1_ := am (rb HO232.out hb)
   have n2_ := am (rb HO240.out hb)
   have n3_ := am (rb HO243.out hb)
   have n4_ := am (bkb BK223.out hb)
   have n5_ := am (bkb BK224.out hb)
   have n6_ := am (bkb BK237.out hb)
   have n7_ := am (bkb BK244.out hb)
   have n8_ := am (bkb BK249.out hb)
   have n9_ := am (below_step bl hb)
   clear HO229
   clear HO232
   clear HO240
   clear HO243
   clear BK223
   clear BK224
   clear BK237
   clear BK244
   clear BK249
   clear HB
   have HO229 := n0_
   have HO232 := n1_
   have HO240 := n2_
   have HO243 := n3_
   have BK223 := n4_
   have BK224 := n5_
   have BK237 := n6_
   have BK244 := n7_
   have BK249 := n8_
   have HB := n9_
   clear n0_ n1_ n2_ n3_ n4_ n5_ n6_ n7_ n8_ n9_
   skip
   skip
   skip
   skip
   refine hK.out _ _ ⟨(blk_cell BK244.out 0).trans rfl, (blk_cell BK244.out 1).trans rfl, (blk_cell BK224.out 0).trans rfl, (blk_cell BK224.out 1).trans rfl⟩ (fun hHeld => ?_)
   clear hK K
   refine norm_ (a' := ?_) ?_ ?_
   rotate_left
   ·show Act.put _ (some 29) _ = _
    simp only [Act.put, z1, z2, z3, i64_w, i32_w]
    rfl
   exact norm_ (by simp only [putAll, Act.put, z1, z2, z3]) (hCont (gb249) _ ⟨hHeld, (kr HO229.out), (kr HO232.out), (kr HO240.out), (kr HO243.out), (bk BK223.out), (bk BK224.out), (bk BK237.out), (bk BK244.out), (bk BK249.out), GW249.out, GE249.out, NB223_249.out, NB249_223.out, NB224_249.out, NB249_224.out, NB237_249.out, NB249_237.out, NB244_249.out, NB249_244.out, bl⟩)
  skip
  refine box_step ?hg (N := 8) ?hd (cs := #[.int .i64 0, .int .i64 0]) (t := 39) ?hr ?_; (case hd => rfl); (case hg => rfl); (case hr => first | (go_simp; done) | (go_simp; rfl))
  intro gb249 hg w59 hbox hb
  have n0_ := am (rb HO229.out hb)
  have n1_ := am (rb HO232.out hb)
  have n2_ := am (rb HO240.out hb)
  have n3_ := am (rb HO243.out hb)
  have n4_ := am (bkb BK223.out hb)
  have n5_ := am (bkb BK224.out hb)
  have n6_ := am (bkb BK237.out hb)
  have n7_ := am (bkb BK244.out hb)
  have n8_ := am (below_step bl hb)
  have n9_ := am (hbox)
  have n10_ := am ((bsz hg : w.heap.size ≤ gb249))
  have n11_ := am ((bsz hg : w.heap.size ≤ gb249))
  have n12_ := am ((by rw [hg]; exact Nat.ne_of_lt (bkl BK223.out) : gb223 ≠ gb249))
  have n13_ := am ((by rw [hg]; exact Nat.ne_of_gt (bkl BK223.out) : gb249 ≠ gb223))
  have n14_ := am ((by rw [hg]; exact Nat.ne_of_lt (bkl BK224.out) : gb224 ≠ gb249))
  have n15_ := am ((by rw [hg]; exact Nat.ne_of_gt (bkl BK224.out) : gb249 ≠ gb224))
  have n16_ := am ((by rw [hg]; exact Nat.ne_of_lt (bkl BK237.out) : gb237 ≠ gb249))
  have n17_ := am ((by rw [hg]; exact Nat.ne_of_gt (bkl BK237.out) : gb249 ≠ gb237))
  have n18_ := am ((by rw [hg]; exact Nat.ne_of_lt (bkl BK244.out) : gb244 ≠ gb249))
  have n19_ := am ((by rw [hg]; exact Nat.ne_of_gt (bkl BK244.out) : gb249 ≠ gb244))
  clear HO229
  clear HO232
  clear HO240
  clear HO243
  clear BK223
  clear BK224
  clear BK237
  clear BK244
  clear HB
  have HO229 := n0_
  have HO232 := n1_
  have HO240 := n2_
  have HO243 := n3_
  have BK223 := n4_
  have BK224 := n5_
  have BK237 := n6_
  have BK244 := n7_
  have HB := n8_
  have BK249 := n9_
  have GW249 := n10_
  have GE249 := n11_
  have NB223_249 := n12_
  have NB249_223 := n13_
  have NB224_249 := n14_
  have NB249_224 := n15_
  have NB237_249 := n16_
  have NB249_237 := n17_
  have NB244_249 := n18_
  have NB249_244 := n19_
  clear n0_ n1_ n2_ n3_ n4_ n5_ n6_ n7_ n8_ n9_ n10_ n11_ n12_ n13_ n14_ n15_ n16_ n17_ n18_ n19_
  clear hb hbox hg
  refine hK.out _ _ ⟨(blk_cell BK244.out 0).trans rfl, (blk_cell BK244.out 1).trans rfl, (blk_cell BK224.out 0).trans rfl, (blk_cell BK224.out 1).trans rfl⟩ (fun hHeld => ?_)
  clear hK K
  refine norm_ (a' := ?_) ?_ ?_
  rotate_left
  ·show Act.put _ (some 8) _ = _
   simp only [Act.put, z1, z2, z3, i64_w, i32_w]
   rfl
  refine ov 2 28 (fun K hK => ?_)
  refine gk Tryd.func16 (laws_toSpot.calls _ _ _ _ _ A23.out) ?_
  rintro e w60 ⟨rfl, hb⟩
  refine ⟨_, rfl, ?_⟩
  have n0_ := am (rb HO229.out hb)
  have n1_ := am (rb HO232.out hb)
  have n2_ := am (rb HO240.out hb)
  have n3_ := am (rb HO243.out hb)
  have n4_ := am (bkb BK223.out hb)
  have n5_ := am (bkb BK224.out hb)
  have n6_ := am (bkb BK237.out hb)
  have n7_ := am (bkb BK244.out hb)
  have n8_ := am (bkb BK249.out hb)
  have n9_ := am (below_step bl hb)
  clear HO229
  clear HO232
  clear HO240
  clear HO243
  clear BK223
  clear BK224
  clear BK237
  clear BK244
  clear BK249
  clear HB
  have HO229 := n0_
  have HO232 := n1_
  have HO240 := n2_
  have HO243 := n3_
  have BK223 := n4_
  have BK224 := n5_
  have BK237 := n6_
  have BK244 := n7_
  have BK249 := n8_
  have HB := n9_
  clear n0_ n1_ n2_ n3_ n4_ n5_ n6_ n7_ n8_ n9_
  skip
  skip
  skip
  skip
  refine hK.out _ _ ⟨(blk_cell BK244.out 0).trans rfl, (blk_cell BK244.out 1).trans rfl, (blk_cell BK224.out 0).trans rfl, (blk_cell BK224.out 1).trans rfl⟩ (fun hHeld => ?_)
  clear hK K
  refine norm_ (a' := ?_) ?_ ?_
  rotate_left
  ·show Act.put _ (some 28) _ = _
   simp only [Act.put, z1, z2, z3, i64_w, i32_w]
   rfl
  refine ov 3 29 (fun K hK => ?_)
  refine gk Tryd.func17 (impl_BookBalance.calls _ _ _ _ _ _ _ _ _ _ _ _ ?side1 ?side2 ?side3 ?side4 A24.out) ?_
  (case side1 => exact cc (Kd.R_reads' HO240.out).2.2)
  (case side2 => exact (Kd.R_reads' HO240.out).2.1)
  (case side3 => exact cc (Kd.R_reads' HO243.out).2.2)
  (case side4 => exact (Kd.R_reads' HO243.out).2.1)
  rintro e w61 ⟨rfl, hb⟩
  refine ⟨_, rfl, ?_⟩
  have n0_ := am (rb HO229.out hb)
  have n1_ := am (rb HO232.out hb)
  have n2_ := am (rb HO240.out hb)
  have n3_ := am (rb HO243.out hb)
  have n4_ := am (bkb BK223.out hb)
  have n5_ := am (bkb BK224.out hb)
  have n6_ := am (bkb BK237.out hb)
  have n7_ := am (bkb BK244.out hb)
  have n8_ := am (bkb BK249.out hb)
  have n9_ := am (below_step bl hb)
  clear HO229
  clear HO232
  clear HO240
  clear HO243
  clear BK223
  clear BK224
  clear BK237
  clear BK244
  clear BK249
  clear HB
  have HO229 := n0_
  have HO232 := n1_
  have HO240 := n2_
  have HO243 := n3_
  have BK223 := n4_
  have BK224 := n5_
  have BK237 := n6_
  have BK244 := n7_
  have BK249 := n8_
  have HB := n9_
  clear n0_ n1_ n2_ n3_ n4_ n5_ n6_ n7_ n8_ n9_
  skip
  skip
  skip
  skip
  refine hK.out _ _ ⟨(blk_cell BK244.out 0).trans rfl, (blk_cell BK244.out 1).trans rfl, (blk_cell BK224.out 0).trans rfl, (blk_cell BK224.out 1).trans rfl⟩ (fun hHeld => ?_)
  clear hK K
  refine norm_ (a' := ?_) ?_ ?_
  rotate_left
  ·show Act.put _ (some 29) _ = _
   simp only [Act.put, z1, z2, z3, i64_w, i32_w]
   rfl
  exact norm_ (by simp only [putAll, Act.put, z1, z2, z3]) (hCont (gb249) _ ⟨hHeld, (kr HO229.out), (kr HO232.out), (kr HO240.out), (kr HO243.out), (bk BK223.out), (bk BK224.out), (bk BK237.out), (bk BK244.out), (bk BK249.out), GW249.out, GE249.out, NB223_249.out, NB249_223.out, NB224_249.out, NB249_224.out, NB237_249.out, NB249_237.out, NB244_249.out, NB249_244.out, bl⟩)
 rintro gb249 w62 ⟨hS_, h0_, h1_, h2_, h3_, h4_, h5_, h6_, h7_, h8_, h9_, h10_, h11_, h12_, h13_, h14_, h15_, h16_, h17_, h18_, h19_⟩
 have n0_ : Aside0 (Kd.R k67 67 w62 w.heap.size (fun k_ => some k_ ≠ (.slice Ao51 t238.length co51 : Value).ownBlock) v228 t227) := ⟨h0_⟩
 have n1_ : Aside0 (Kd.R Kd.string 9 w62 w.heap.size (fun k_ => some k_ ≠ (.slice Ao56 t241.length co56 : Value).ownBlock) v231 t230) := ⟨h1_⟩
 have n2_ : Aside0 (Kd.R k67 67 w62 w.heap.size (fun k_ => some k_ ≠ (v228 : Value).ownBlock) (.slice Ao51 t238.length co51) t238) := ⟨h2_⟩
 have n3_ : Aside0 (Kd.R Kd.string 9 w62 w.heap.size (fun k_ => some k_ ≠ (v231 : Value).ownBlock) (.slice Ao56 t241.length co56) t241) := ⟨h3_⟩
 have n4_ : Aside0 (w62.heap[gb223]? = some (.cells #[.slice A0_0 l0_0.length c0_0, .slice A0_1 l0_1.length c0_1] 33 (0, 0))) := ⟨h4_⟩
 have n5_ : Aside0 (w62.heap[gb224]? = some (.cells #[.string a1_0, .string a1_1] 35 (0, 0))) := ⟨h5_⟩
 have n6_ : Aside0 (w62.heap[gb237]? = some (.cells #[.int .i64 t235, .int .i64 t236] 39 (0, 0))) := ⟨h6_⟩
 have n7_ : Aside0 (w62.heap[gb244]? = some (.cells #[.slice Ao51 t238.length co51, .slice Ao56 t241.length co56] 43 (0, 0))) := ⟨h7_⟩
 have n8_ : Aside0 (w62.heap[gb249]? = some (.cells #[.int .i64 0, .int .i64 0] 39 (0, 0))) := ⟨h8_⟩
 have n9_ : Aside0 (w.heap.size ≤ gb249) := ⟨h9_⟩
 have n10_ : Aside0 (w.heap.size ≤ gb249) := ⟨h10_⟩
 have n11_ : Aside0 (gb223 ≠ gb249) := ⟨h11_⟩
 have n12_ : Aside0 (gb249 ≠ gb223) := ⟨h12_⟩
 have n13_ : Aside0 (gb224 ≠ gb249) := ⟨h13_⟩
 have n14_ : Aside0 (gb249 ≠ gb224) := ⟨h14_⟩
 have n15_ : Aside0 (gb237 ≠ gb249) := ⟨h15_⟩
 have n16_ : Aside0 (gb249 ≠ gb237) := ⟨h16_⟩
 have n17_ : Aside0 (gb244 ≠ gb249) := ⟨h17_⟩
 have n18_ : Aside0 (gb249 ≠ gb244) := ⟨h18_⟩
 have n19_ : Aside0 (Below w.heap.size w w62) := ⟨h19_⟩
 clear HO229
 clear HO232
 clear HO240
 clear HO243
 clear BK223
 clear BK224
 clear BK237
 clear BK244
 clear HB
 clear h0_ h1_ h2_ h3_ h4_ h5_ h6_ h7_ h8_ h9_ h10_ h11_ h12_ h13_ h14_ h15_ h16_ h17_ h18_ h19_
 have HO229 := n0_
 have HO232 := n1_
 have HO240 := n2_
 have HO243 := n3_
 have BK223 := n4_
 have BK224 := n5_
 have BK237 := n6_
 have BK244 := n7_
 have BK249 := n8_
 have GW249 := n9_
 have GE249 := n10_
 have NB223_249 := n11_
 have NB249_223 := n12_
 have NB224_249 := n13_
 have NB249_224 := n14_
 have NB237_249 := n15_
 have NB249_237 := n16_
 have NB244_249 := n17_
 have NB249_244 := n18_
 have HB := n19_
 clear n0_ n1_ n2_ n3_ n4_ n5_ n6_ n7_ n8_ n9_ n10_ n11_ n12_ n13_ n14_ n15_ n16_ n17_ n18_ n19_
 have hHeld : w62.cell? ⟨gb244, 0, none⟩ = some (.slice Ao51 t238.length co51) ∧ w62.cell? ⟨gb244, 1, none⟩ = some (.slice Ao56 t241.length co56) ∧ w62.cell? ⟨gb224, 0, none⟩ = some (.string a1_0) ∧ w62.cell? ⟨gb224, 1, none⟩ = some (.string a1_1) := hS_
 refine norm_ (a' := ?_) ?_ ?_
 rotate_left
 ·simp only [putAll, Act.put, z1, z2, z3]
  rfl
 refine one_ (i := 5) (N := none) #[T_, T_, T_, T_, T_, T_] rfl rfl (by kernel_rfl) (by decide) (fun K hK => ?_)
 have hs63 : w62.cell? ⟨gb249, 0, none⟩ = some (.int .i64 0) := (blk_cell BK249.out 0).trans rfl
 have hfs63 := blk_frozen BK249.out 0
 have hns63_0 := NB223_249.out
 have hns63_1 := NB224_249.out
 have hns63_2 := NB237_249.out
 have hns63_3 := NB244_249.out
 have hms63_0 := NB249_223.out
 have hms63_1 := NB249_224.out
 have hms63_2 := NB249_237.out
 have hms63_3 := NB249_244.out
 have hs64 : w62.cell? ⟨gb249, 1, none⟩ = some (.int .i64 0) := (blk_cell BK249.out 1).trans rfl
 have hfs64 := blk_frozen BK249.out 1
 have hns64_0 := NB223_249.out
 have hns64_1 := NB224_249.out
 have hns64_2 := NB237_249.out
 have hns64_3 := NB244_249.out
 have hms64_0 := NB249_223.out
 have hms64_1 := NB249_224.out
 have hms64_2 := NB249_237.out
 have hms64_3 := NB249_244.out
 refine skip_ (w1 := ?_) (by rfl) rfl ?_ ?_
 rotate_left
 ·go_simp
  rfl
 refine hK.out _ _ ⟨((cell_far (p := ⟨gb249, _, none⟩) NB244_249.out _).trans (((cell_far (p := ⟨gb249, _, none⟩) NB244_249.out _).trans (hHeld.1)))), ((cell_far (p := ⟨gb249, _, none⟩) NB244_249.out _).trans (((cell_far (p := ⟨gb249, _, none⟩) NB244_249.out _).trans (hHeld.2.1)))), ((cell_far (p := ⟨gb249, _, none⟩) NB224_249.out _).trans (((cell_far (p := ⟨gb249, _, none⟩) NB224_249.out _).trans (hHeld.2.2.1)))), ((cell_far (p := ⟨gb249, _, none⟩) NB224_249.out _).trans (((cell_far (p := ⟨gb249, _, none⟩) NB224_249.out _).trans (hHeld.2.2.2))))⟩ (fun hHeld => ?_)
 clear hK K
 refine done_ (by kernel_rfl) ?_
 have hnb65 := NB249_223.out
 have hnc65 := NB223_249.out
 have hnb66 := NB249_224.out
 have hnc66 := NB224_249.out
 have hnb67 := NB249_237.out
 have hnc67 := NB237_249.out
 have hnb68 := NB249_244.out
 have hnc68 := NB244_249.out
 obtain ⟨z69_0, z69_1, y69_0, y69_1⟩ := blk2 BK249.out
 have hnb70 := NB237_224.out
 have hnc70 := NB224_237.out
 obtain ⟨z71_0, z71_1, y71_0, y71_1⟩ := blk2 BK237.out
 try go_wp2_with (first | ((with_reducible refine c_ 18 ?_); refine gc 18 (some 32) Tryd.func18 (laws_eqMoneyOut.calls _ _ _ _ _ _ A25.out) ?_; rintro e w72 ⟨rfl, hb⟩; refine ⟨_, rfl, ?_⟩; replace HO229 := am (Kd.R_below (by (with_reducible repeat (first | apply Kd.R_alloc | apply Kd.R_drewN | apply Kd.R_drew)); exact (Kd.R_mono (Kd.R_far (p := ⟨gb249, 1, none⟩) (Kd.R_far (p := ⟨gb249, 0, none⟩) (Kd.R_types HO229.out BK249.out (by decide)) (fun _ hk => hk.2) (.int .i64 t247)) (fun _ hk => hk.2) (.int .i64 t248)) (fun _ h_ => h_.1))) hb); replace HO232 := am (Kd.R_below (by (with_reducible repeat (first | apply Kd.R_alloc | apply Kd.R_drewN | apply Kd.R_drew)); exact (Kd.R_mono (Kd.R_far (p := ⟨gb249, 1, none⟩) (Kd.R_far (p := ⟨gb249, 0, none⟩) (Kd.R_types HO232.out BK249.out (by decide)) (fun _ hk => hk.2) (.int .i64 t247)) (fun _ hk => hk.2) (.int .i64 t248)) (fun _ h_ => h_.1))) hb); replace HO240 := am (Kd.R_below (by (with_reducible repeat (first | apply Kd.R_alloc | apply Kd.R_drewN | apply Kd.R_drew)); exact (Kd.R_mono (Kd.R_far (p := ⟨gb249, 1, none⟩) (Kd.R_far (p := ⟨gb249, 0, none⟩) (Kd.R_types HO240.out BK249.out (by decide)) (fun _ hk => hk.2) (.int .i64 t247)) (fun _ hk => hk.2) (.int .i64 t248)) (fun _ h_ => h_.1))) hb); replace HO243 := am (Kd.R_below (by (with_reducible repeat (first | apply Kd.R_alloc | apply Kd.R_drewN | apply Kd.R_drew)); exact (Kd.R_mono (Kd.R_far (p := ⟨gb249, 1, none⟩) (Kd.R_far (p := ⟨gb249, 0, none⟩) (Kd.R_types HO243.out BK249.out (by decide)) (fun _ hk => hk.2) (.int .i64 t247)) (fun _ hk => hk.2) (.int .i64 t248)) (fun _ h_ => h_.1))) hb); replace BK223 := am (blk_below (g := gb223) (o := .cells #[.slice A0_0 l0_0.length c0_0, .slice A0_1 l0_1.length c0_1] 33 (0, 0)) (bf BK223.out NB223_249.out) hb); replace BK224 := am (blk_below (g := gb224) (o := .cells #[.string a1_0, .string a1_1] 35 (0, 0)) (bf BK224.out NB224_249.out) hb); replace BK237 := am (blk_below (g := gb237) (o := .cells #[.int .i64 t235, .int .i64 t236] 39 (0, 0)) (bf BK237.out NB237_249.out) hb); replace BK244 := am (blk_below (g := gb244) (o := .cells #[.slice Ao51 t238.length co51, .slice Ao56 t241.length co56] 43 (0, 0)) (bf BK244.out NB244_249.out) hb); replace BK249 := am (blk_below (g := gb249) (o := .cells #[.int .i64 t247, .int .i64 t248] 39 (0, 0)) (bp BK249.out) hb); replace HB := am (below_step bl hb); clear hb))
 have n0_ := am (Kd.R_drew HO229.out)
 have n1_ := am (Kd.R_drew HO232.out)
 have n2_ := am (Kd.R_drew HO240.out)
 have n3_ := am (Kd.R_drew HO243.out)
 have n4_ := am (blk_drew BK223.out)
 have n5_ := am (blk_drew BK224.out)
 have n6_ := am (blk_drew BK237.out)
 have n7_ := am (blk_drew BK244.out)
 have n8_ := am (blk_drew BK249.out)
 have n9_ := am (below_drew1 HB.out)
 clear HO229
 clear HO232
 clear HO240
 clear HO243
 clear BK223
 clear BK224
 clear BK237
 clear BK244
 clear BK249
 clear HB
 have HO229 := n0_
 have HO232 := n1_
 have HO240 := n2_
 have HO243 := n3_
 have BK223 := n4_
 have BK224 := n5_
 have BK237 := n6_
 have BK244 := n7_
 have BK249 := n8_
 have HB := n9_
 clear n0_ n1_ n2_ n3_ n4_ n5_ n6_ n7_ n8_ n9_
 refine start_ (n := 5) (S := fun w' => w'.cell? ⟨gb244, 0, none⟩ = some (.slice Ao51 t238.length co51) ∧ w'.cell? ⟨gb244, 1, none⟩ = some (.slice Ao56 t241.length co56) ∧ w'.cell? ⟨gb223, 0, none⟩ = some (.slice A0_0 l0_0.length c0_0) ∧ w'.cell? ⟨gb223, 1, none⟩ = some (.slice A0_1 l0_1.length c0_1)) (ds := []) #[F_, F_, F_, F_, F_] (by kernel_rfl) rfl rfl ⟨(blk_cell BK244.out 0).trans rfl, (blk_cell BK244.out 1).trans rfl, (blk_cell BK223.out 0).trans rfl, (blk_cell BK223.out 1).trans rfl⟩ (fun hHeld => ?_)
 generalize w72.drew = w73 at HO229 HO232 HO240 HO243 BK223 BK224 BK237 BK244 BK249 HB hHeld ⊢
 refine tv4 0 34 hHeld ?_
 refine tv4 1 35 hHeld ?_
 refine ov 2 36 (fun K hK => ?_)
 refine gk Tryd.func15 (laws_toBook.calls _ _ _ _ _ _ _ _ _ _ ?side1 ?side2 ?side3 ?side4 A27.out) ?_
 (case side1 => exact cb HR0_0.out)
 (case side2 => exact HC0_0.out)
 (case side3 => exact cb HR0_1.out)
 (case side4 => exact HC0_1.out)
 rintro e w74 ⟨v252, v255, rfl, ho0, ho1, hb⟩
 refine ⟨_, rfl, ?_⟩
 have n0_ := am (Kd.R_elder' (kr HO229.out) (Kd.R_base ho0) hb)
 have n1_ := am (Kd.R_elder' (kr HO232.out) (Kd.R_base ho1) hb)
 have n2_ := am (Kd.R_elder' (kr HO240.out) (Kd.R_base ho0) hb)
 have n3_ := am (Kd.R_elder' (kr HO243.out) (Kd.R_base ho1) hb)
 have n4_ := am (Kd.R_lower (Kd.R_new' (Kd.R_new' ho0 (Kd.R_lt (kr HO229.out))) (Kd.R_lt (kr HO240.out))) (below_size bl))
 have n5_ := am (Kd.R_lower (Kd.R_new' (Kd.R_new' ho1 (Kd.R_lt (kr HO232.out))) (Kd.R_lt (kr HO243.out))) (below_size bl))
 have n6_ := am (bkb BK223.out hb)
 have n7_ := am (bkb BK224.out hb)
 have n8_ := am (bkb BK237.out hb)
 have n9_ := am (bkb BK244.out hb)
 have n10_ := am (bkb BK249.out hb)
 have n11_ := am (below_step bl hb)
 clear HO229
 clear HO232
 clear HO240
 clear HO243
 clear BK223
 clear BK224
 clear BK237
 clear BK244
 clear BK249
 clear HB
 have HO229 := n0_
 have HO232 := n1_
 have HO240 := n2_
 have HO243 := n3_
 have HO253 := n4_
 have HO256 := n5_
 have BK223 := n6_
 have BK224 := n7_
 have BK237 := n8_
 have BK244 := n9_
 have BK249 := n10_
 have HB := n11_
 clear n0_ n1_ n2_ n3_ n4_ n5_ n6_ n7_ n8_ n9_ n10_ n11_
 skip
 skip
 skip
 skip
 skip
 skip
 obtain ⟨Ao75, co75, eo75⟩ := Kd.R_slice HO253.out
 (first | subst eo75 | (injection eo75 with f1_ f2_ f3_; have f4_ := f1_.symm; have f5_ := f3_.symm; clear f1_ f2_ f3_; subst f4_; subst f5_))
 obtain ⟨Ao76, co76, eo76⟩ := Kd.R_slice HO256.out
 (first | subst eo76 | (injection eo76 with f1_ f2_ f3_; have f4_ := f1_.symm; have f5_ := f3_.symm; clear f1_ f2_ f3_; subst f4_; subst f5_))
 refine hK.out _ _ ⟨(blk_cell BK244.out 0).trans rfl, (blk_cell BK244.out 1).trans rfl, (blk_cell BK223.out 0).trans rfl, (blk_cell BK223.out 1).trans rfl⟩ (fun hHeld => ?_)
 clear hK K
 refine norm_ (a' := ?_) ?_ ?_
 rotate_left
 ·show Act.put _ (some 36) _ = _
  simp only [Act.put, z1, z2, z3, i64_w, i32_w]
  rfl
 refine ov 3 37 (fun K hK => ?_)
 refine gk Tryd.func19 (laws_eqBook.calls _ _ _ _ _ _ _ _ _ _ _ _ _ _ _ ?side1 ?side2 ?side3 ?side4 ?side5 ?side6 ?side7 ?side8 A28.out) ?_
 (case side1 => exact cc (Kd.R_reads' HO240.out).2.2)
 (case side2 => exact (Kd.R_reads' HO240.out).2.1)
 (case side3 => exact cc (Kd.R_reads' HO243.out).2.2)
 (case side4 => exact (Kd.R_reads' HO243.out).2.1)
 (case side5 => exact cc (Kd.R_reads' HO253.out).2.2)
 (case side6 => exact (Kd.R_reads' HO253.out).2.1)
 (case side7 => exact cc (Kd.R_reads' HO256.out).2.2)
 (case side8 => exact (Kd.R_reads' HO256.out).2.1)
 rintro e w77 ⟨rfl, hb⟩
 refine ⟨_, rfl, ?_⟩
 have n0_ := am (rb HO229.out hb)
 have n1_ := am (rb HO232.out hb)
 have n2_ := am (rb HO240.out hb)
 have n3_ := am (rb HO243.out hb)
 have n4_ := am (rb HO253.out hb)
 have n5_ := am (rb HO256.out hb)
 have n6_ := am (bkb BK223.out hb)
 have n7_ := am (bkb BK224.out hb)
 have n8_ := am (bkb BK237.out hb)
 have n9_ := am (bkb BK244.out hb)
 have n10_ := am (bkb BK249.out hb)
 have n11_ := am (below_step bl hb)
 clear HO229
 clear HO232
 clear HO240
 clear HO243
 clear HO253
 clear HO256
 clear BK223
 clear BK224
 clear BK237
 clear BK244
 clear BK249
 clear HB
 have HO229 := n0_
 have HO232 := n1_
 have HO240 := n2_
 have HO243 := n3_
 have HO253 := n4_
 have HO256 := n5_
 have BK223 := n6_
 have BK224 := n7_
 have BK237 := n8_
 have BK244 := n9_
 have BK249 := n10_
 have HB := n11_
 clear n0_ n1_ n2_ n3_ n4_ n5_ n6_ n7_ n8_ n9_ n10_ n11_
 skip
 skip
 skip
 skip
 refine hK.out _ _ ⟨(blk_cell BK244.out 0).trans rfl, (blk_cell BK244.out 1).trans rfl, (blk_cell BK223.out 0).trans rfl, (blk_cell BK223.out 1).trans rfl⟩ (fun hHeld => ?_)
 clear hK K
 refine norm_ (a' := ?_) ?_ ?_
 rotate_left
 ·show Act.put _ (some 37) _ = _
  simp only [Act.put, z1, z2, z3, i64_w, i32_w]
  rfl
 refine pv 4 38 ?_
 refine done_ (by kernel_rfl) ?_
 try go_wp2
 go_ret
 exact ⟨er, bl⟩

def laws_FnExactBookBalance.Pure : Prop := ∀ (l0_0 : List (S85)) (l0_1 : List ByteArray) (a1_0 : ByteArray) (a1_1 : ByteArray), (l0_0.length ≤ maxLen ∧ ∀ x ∈ l0_0, ((x.f0.f0.size ≤ maxLen ∧ x.f0.f1.size ≤ maxLen) ∧ (Lit.int .i64 x.f1).wf = true)) → (l0_1.length ≤ maxLen ∧ ∀ x ∈ l0_1, x.size ≤ maxLen) → a1_0.size ≤ maxLen → a1_1.size ≤ maxLen → ∃ k, laws_FnExactBookBalance.f k l0_0 l0_1 a1_0 a1_1 = some true

end Go.Proofs.YtlhefhcdlgkngaaDoor.PFnExactBookBalance
