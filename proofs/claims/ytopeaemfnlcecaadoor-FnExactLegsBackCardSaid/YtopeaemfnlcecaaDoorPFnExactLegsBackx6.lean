-- laid by seedprint.py, a program of this session, over contracts that it gives by hand; Lean checks it
-- dented
import Derived.Test.YtopeaemfnlcecaaDoorQMin
import Derived.Test.YtopeaemfnlcecaaDoorQAut
import Derived.Test.YtopeaemfnlcecaaDoorPFnExactLegsBackx0
import Derived.Test.YtopeaemfnlcecaaDoorPFnExactLegsBackx1
import Derived.Test.YtopeaemfnlcecaaDoorPFnExactLegsBackx2
import Derived.Test.YtopeaemfnlcecaaDoorPFnExactLegsBackx3
import Derived.Test.YtopeaemfnlcecaaDoorPFnExactLegsBackx4
import Derived.Test.YtopeaemfnlcecaaDoorPFnExactLegsBackx5
namespace Go.Proofs.YtopeaemfnlcecaaDoor.PFnExactLegsBack
open Go.RowKit Go.Proofs.YtopeaemfnlcecaaDoorW.PrintWords Go.Proofs.YtopeaemfnlcecaaDoorW.PrintLast Go.Proofs.YtopeaemfnlcecaaDoorW.PrintMore
attribute [local go_sem] max2_int min2_int max_two min_two max_three min_three max_four min_four   -- for this text's walks alone
set_option linter.unusedVariables false
set_option linter.unusedSimpArgs false

/-! ### laws_FnExactLegsBack: function 3 -/
def laws_FnExactLegsBack.j0 : Nat → List (S34) → List (S38) → List (S38) → Bool → Option (Bool)
 | 0, _, _, _, _ => none
 | k + 1, x0, x4, x6, x42 => if x42 = true then (none) else ((laws_markLegS.f k x6 1).bind fun bt198 => ((laws_heldLegS.f k bt198.2 1).bind fun t200 => (if t200 < 0 then (none) else (if t200 = bt198.1 then ((laws_toLegS.f k x0).bind fun t201 => ((impl_LegsBack.f t201).bind fun t204 => ((laws_eqLegS.f k t204 x4).bind fun t207 => (if t207 = true then ((laws_heldLegS.f k bt198.2 1).bind fun t208 => (if t208 < 0 then (none) else (if t208 = bt198.1 then (some true) else (none)))) else (none))))) else (none)))))
def laws_FnExactLegsBack.f (k : Nat) (l0 : List (S34)) : Option (Bool) := (laws_szLegS.f k l0 1048576).bind fun t177 => (if t177 < 0 then (some true) else ((laws_toLegS.f k l0).bind fun t178 => ((spec_LegsBack.f k t178).bind fun t181 => ((laws_toLegS.f k l0).bind fun t184 => ((impl_LegsBack.f t184).bind fun t187 => ((laws_eqLegS.f k t187 t181).bind fun t190 => (if t190 = true then ((laws_toLegS.f k l0).bind fun t191 => ((laws_eqLegS.f k t184 t191).bind fun t194 => (if t194 = true then ((laws_markLegS.f k t184 1).bind fun bt195 => (if bt195.1 < 0 then (laws_FnExactLegsBack.j0 k l0 t181 t187 true) else ((laws_eqLegS.f k t187 t181).bind fun t197 => (laws_FnExactLegsBack.j0 k l0 t181 t187 (!t197))))) else (none)))) else (none))))))))
theorem laws_FnExactLegsBack.mono_l : ∀ k, (∀ y0 y1 y2 y3, LeO (laws_FnExactLegsBack.j0 k y0 y1 y2 y3) (laws_FnExactLegsBack.j0 (k + 1) y0 y1 y2 y3))
 | 0 => fun _ _ _ _ r h => by simp [laws_FnExactLegsBack.j0] at h
 | k + 1 => by
  have ih0 := laws_FnExactLegsBack.mono_l k
  ·intro y0 y1 y2 y3
   unfold laws_FnExactLegsBack.j0
   repeat' (with_reducible first | exact ih0 .. | exact laws_eqLegS.mono .. | exact laws_heldLegS.mono .. | exact laws_markLegS.mono .. | exact laws_szLegS.mono .. | exact laws_toLegS.mono .. | exact spec_LegsBack.mono .. | exact LeO.refl _ | exact LeO.none _ | refine LeO.ite ?_ ?_ | refine LeO.bind ?_ (fun _ => ?_))
theorem laws_FnExactLegsBack.mono : ∀ a0 k, LeO (laws_FnExactLegsBack.f k a0) (laws_FnExactLegsBack.f (k + 1) a0) := by
 intro a0 k
 have ih0 := laws_FnExactLegsBack.mono_l k
 unfold laws_FnExactLegsBack.f
 repeat' (with_reducible first | exact ih0 .. | exact laws_eqLegS.mono .. | exact laws_heldLegS.mono .. | exact laws_markLegS.mono .. | exact laws_szLegS.mono .. | exact laws_toLegS.mono .. | exact spec_LegsBack.mono .. | exact LeO.refl _ | exact LeO.none _ | refine LeO.ite ?_ ?_ | refine LeO.bind ?_ (fun _ => ?_))
set_option maxHeartbeats 8000000 in
set_option maxRecDepth 100000 in
theorem laws_FnExactLegsBack.calls (k : Nat) (A0 : Option Addr) (c0 : Nat) (l0 : List (S34)) (r : Bool) (w : World) (hr0 : Kd.C k34 w A0 l0.length l0) (hc0 : l0.length ≤ c0) (h : laws_FnExactLegsBack.f k l0 = some r) :
  Calls Tryd.prog 3 #[.slice A0 l0.length c0] w fun e w' => e = .returned (.bool r) ∧ Below w.heap.size w w' := by
 have HR0 := am hr0
 have HC0 := am hc0
 clear hr0 hc0
 have HB := am (Below.refl w.heap.size w)
 have H := h
 clear h
 unfold laws_FnExactLegsBack.f at H
 revert H; refine bj fun t177 A2 H => ?_
 revert H; refine iDb (fun c3b0 H => ?_) fun c3b0 H => ?_
 ·obtain rfl := Option.some.inj H
  go_enter Tryd.func3, Tryd.ntmps3
  go_wp2_with (first | ((with_reducible refine c_ 4 ?_); refine gc 4 (some 13) Tryd.func4 (laws_szLegS.calls _ _ _ _ _ _ _ ?side1 ?side2 A2.out) ?_; (case side1 => repeat (first | exact HR0.out | (with_reducible refine Kd.C_alloc ?_ _) | (with_reducible refine Kd.C_drewN ?_ _) | (with_reducible refine Kd.C_drew ?_))); (case side2 => exact HC0.out); rintro e w4 ⟨rfl, hb⟩; refine ⟨_, rfl, ?_⟩; replace HB := ho hb; clear hb))
  go_ret
  exact ⟨er, bl⟩
 revert H; refine bj fun t178 A5 H => ?_
 revert H; refine bj fun t181 A6 H => ?_
 revert H; refine bj fun t184 A7 H => ?_
 revert H; refine bj fun t187 A8 H => ?_
 revert H; refine bj fun t190 A9 H => ?_
 replace H := jz H; obtain ⟨rfl, H⟩ := H
 revert H; refine bj fun t191 A11 H => ?_
 revert H; refine bj fun t194 A12 H => ?_
 replace H := jz H; obtain ⟨rfl, H⟩ := H
 replace H := bi H; obtain ⟨⟨t195, t196⟩, A14, H⟩ := H; dsimp only at H
 have HC15 := am H; clear H
 go_enter Tryd.func3, Tryd.ntmps3
 go_upto_region 14 with (first | ((with_reducible refine c_ 4 ?_); refine gc 4 (some 13) Tryd.func4 (laws_szLegS.calls _ _ _ _ _ _ _ ?side1 ?side2 A2.out) ?_; (case side1 => repeat (first | exact HR0.out | (with_reducible refine Kd.C_alloc ?_ _) | (with_reducible refine Kd.C_drewN ?_ _) | (with_reducible refine Kd.C_drew ?_))); (case side2 => exact HC0.out); rintro e w16 ⟨rfl, hb⟩; refine ⟨_, rfl, ?_⟩; replace HB := ho hb; clear hb) | ((with_reducible refine c_ 6 ?_); refine gc 6 (some 17) Tryd.func6 (laws_toLegS.calls _ _ _ _ _ _ ?side1 ?side2 A5.out) ?_; (case side1 => exact cb HR0.out); (case side2 => exact HC0.out); rintro e w17 ⟨v179, rfl, ho0, hb⟩; refine ⟨_, rfl, ?_⟩; have HO180 := am (Kd.R_lower ho0 (below_size bl)); replace HB := ho hb; clear hb ho0; obtain ⟨Ao18, co18, eo18⟩ := Kd.R_slice HO180.out; subst eo18) | ((with_reducible refine c_ 5 ?_); refine gc 5 (some 18) Tryd.func5 (spec_LegsBack.calls _ _ _ _ _ _ ?side1 ?side2 A6.out) ?_; (case side1 => exact cc (Kd.R_reads' HO180.out).2.2); (case side2 => exact (Kd.R_reads' HO180.out).2.1); rintro e w19 ⟨v182, rfl, ho0, hb⟩; refine ⟨_, rfl, ?_⟩; have HO183 := am (Kd.R_lower (Kd.R_new' ho0 (Kd.R_lt (kr HO180.out))) (below_size bl)); replace HO180 := am (Kd.R_elder' (kr HO180.out) (Kd.R_base ho0) hb); replace HB := ho hb; clear hb ho0) | ((with_reducible refine c_ 6 ?_); refine gc 6 (some 20) Tryd.func6 (laws_toLegS.calls _ _ _ _ _ _ ?side1 ?side2 A7.out) ?_; (case side1 => exact cb HR0.out); (case side2 => exact HC0.out); rintro e w20 ⟨v185, rfl, ho0, hb⟩; refine ⟨_, rfl, ?_⟩; have HO186 := am (Kd.R_lower (Kd.R_new' (Kd.R_new' ho0 (Kd.R_lt (kr HO180.out))) (Kd.R_lt (kr HO183.out))) (below_size bl)); replace HO180 := am (Kd.R_elder' (kr HO180.out) (Kd.R_base ho0) hb); replace HO183 := am (Kd.R_elder' (kr HO183.out) (Kd.R_base ho0) hb); replace HB := ho hb; clear hb ho0; obtain ⟨Ao21, co21, eo21⟩ := Kd.R_slice HO186.out; subst eo21) | ((with_reducible refine c_ 7 ?_); refine gc 7 (some 22) Tryd.func7 (impl_LegsBack.calls _ _ _ _ _ ?side1 ?side2 A8.out) ?_; (case side1 => exact cc (Kd.R_reads' HO186.out).2.2); (case side2 => exact (Kd.R_reads' HO186.out).2.1); rintro e w22 ⟨v188, rfl, ho0, hb⟩; refine ⟨_, rfl, ?_⟩; have HO189 := am (Kd.R_lower (Kd.R_new' (Kd.R_new' (Kd.R_new' ho0 (Kd.R_lt (kr HO180.out))) (Kd.R_lt (kr HO183.out))) (Kd.R_lt (kr HO186.out))) (below_size bl)); replace HO180 := am (Kd.R_elder' (kr HO180.out) (Kd.R_base ho0) hb); replace HO183 := am (Kd.R_elder' (kr HO183.out) (Kd.R_base ho0) hb); replace HO186 := am (Kd.R_elder' (kr HO186.out) (Kd.R_base ho0) hb); replace HB := ho hb; clear hb ho0; obtain ⟨Ao23, co23, eo23⟩ := Kd.R_slice HO189.out; subst eo23; obtain ⟨Ao24, co24, eo24⟩ := Kd.R_slice HO183.out; subst eo24) | ((with_reducible refine c_ 8 ?_); refine gc 8 (some 25) Tryd.func8 (laws_eqLegS.calls _ _ _ _ _ _ _ _ _ ?side1 ?side2 ?side3 ?side4 A9.out) ?_; (case side1 => exact cc (Kd.R_reads' HO189.out).2.2); (case side2 => exact (Kd.R_reads' HO189.out).2.1); (case side3 => exact cc (Kd.R_reads' HO183.out).2.2); (case side4 => exact (Kd.R_reads' HO183.out).2.1); rintro e w25 ⟨rfl, hb⟩; refine ⟨_, rfl, ?_⟩; refine r4_ hb HO180 HO183 HO186 HO189 ?_; clear HO180 HO183 HO186 HO189; intro HO180 HO183 HO186 HO189; replace HB := ho hb; clear hb) | ((with_reducible refine c_ 6 ?_); refine gc 6 (some 29) Tryd.func6 (laws_toLegS.calls _ _ _ _ _ _ ?side1 ?side2 A11.out) ?_; (case side1 => exact cb HR0.out); (case side2 => exact HC0.out); rintro e w26 ⟨v192, rfl, ho0, hb⟩; refine ⟨_, rfl, ?_⟩; have HO193 := am (Kd.R_lower (Kd.R_new' (Kd.R_new' (Kd.R_new' (Kd.R_new' ho0 (Kd.R_lt (kr HO180.out))) (Kd.R_lt (kr HO183.out))) (Kd.R_lt (kr HO186.out))) (Kd.R_lt (kr HO189.out))) (below_size bl)); replace HO180 := am (Kd.R_elder' (kr HO180.out) (Kd.R_base ho0) hb); replace HO183 := am (Kd.R_elder' (kr HO183.out) (Kd.R_base ho0) hb); replace HO186 := am (Kd.R_elder' (kr HO186.out) (Kd.R_base ho0) hb); replace HO189 := am (Kd.R_elder' (kr HO189.out) (Kd.R_base ho0) hb); replace HB := ho hb; clear hb ho0; obtain ⟨Ao27, co27, eo27⟩ := Kd.R_slice HO193.out; subst eo27) | ((with_reducible refine c_ 8 ?_); refine gc 8 (some 30) Tryd.func8 (laws_eqLegS.calls _ _ _ _ _ _ _ _ _ ?side1 ?side2 ?side3 ?side4 A12.out) ?_; (case side1 => exact cc (Kd.R_reads' HO186.out).2.2); (case side2 => exact (Kd.R_reads' HO186.out).2.1); (case side3 => exact cc (Kd.R_reads' HO193.out).2.2); (case side4 => exact (Kd.R_reads' HO193.out).2.1); rintro e w28 ⟨rfl, hb⟩; refine ⟨_, rfl, ?_⟩; refine r5_ hb HO180 HO183 HO186 HO189 HO193 ?_; clear HO180 HO183 HO186 HO189 HO193; intro HO180 HO183 HO186 HO189 HO193; replace HB := ho hb; clear hb) | ((with_reducible refine c_ 9 ?_); refine gc 9 (some 34) Tryd.func9 (laws_markLegS.calls _ (fun k_ => some k_ = (.slice Ao21 t184.length co21 : Value).ownBlock) _ _ _ _ _ w _ ?side1 ?side2 A14.out) ?_; (case side1 => repeat (first | (with_reducible first | exact HB.out | apply below_alloc | apply pw_below_drewN | apply below_drew1) | exact HB.out)); (case side2 => exact Kd.R_tight rfl HO186.out); rintro e w29 ⟨rfl, hy0, hb, hkp⟩; refine ⟨_, rfl, ?_⟩; replace HO180 := kbo0 (fun k_ => some k_ ≠ (.slice Ao24 t181.length co24 : Value).ownBlock ∧ some k_ ≠ (.slice Ao21 t184.length co21 : Value).ownBlock ∧ some k_ ≠ (.slice Ao23 t187.length co23 : Value).ownBlock ∧ some k_ ≠ (.slice Ao27 t191.length co27 : Value).ownBlock) HO180 hkp; replace HO183 := kbo0 (fun k_ => some k_ ≠ (.slice Ao18 t178.length co18 : Value).ownBlock ∧ some k_ ≠ (.slice Ao21 t184.length co21 : Value).ownBlock ∧ some k_ ≠ (.slice Ao23 t187.length co23 : Value).ownBlock ∧ some k_ ≠ (.slice Ao27 t191.length co27 : Value).ownBlock) HO183 hkp; replace HO186 := am (Kd.R_reok rfl hy0 (fun k_ e_ => HO186.out.1 k_ e_)); replace HO189 := kbo0 (fun k_ => some k_ ≠ (.slice Ao18 t178.length co18 : Value).ownBlock ∧ some k_ ≠ (.slice Ao24 t181.length co24 : Value).ownBlock ∧ some k_ ≠ (.slice Ao21 t184.length co21 : Value).ownBlock ∧ some k_ ≠ (.slice Ao27 t191.length co27 : Value).ownBlock) HO189 hkp; replace HO193 := kbo0 (fun k_ => some k_ ≠ (.slice Ao18 t178.length co18 : Value).ownBlock ∧ some k_ ≠ (.slice Ao24 t181.length co24 : Value).ownBlock ∧ some k_ ≠ (.slice Ao21 t184.length co21 : Value).ownBlock ∧ some k_ ≠ (.slice Ao23 t187.length co23 : Value).ownBlock) HO193 hkp; replace HB := am (hb); clear hb hkp hy0))
 (try simp only [Act.put, z1, z2, z3])
 go_cut [42] (fun v42 wc => ∃ (kq : Nat) (x42_14 : Bool), v42 = .bool x42_14 ∧ Aside0 (laws_FnExactLegsBack.j0 kq l0 t181 t187 x42_14 = some r) ∧ Aside0 (kq ≤ k) ∧ Aside0 (Kd.R k38 38 wc w.heap.size (fun k_ => some k_ ≠ ((.slice Ao23 t187.length co23) : Value).ownBlock) (.slice Ao24 t181.length co24) t181) ∧ Aside0 (Kd.R k38 38 wc w.heap.size (fun k_ => some k_ ≠ ((.slice Ao24 t181.length co24) : Value).ownBlock) (.slice Ao23 t187.length co23) t187) ∧ Aside0 (Below w.heap.size w wc))
 case first =>
  have H := HC15.out
  clear HC15
  revert H; refine iDb (fun c30b0 H => ?_) fun c30b0 H => ?_
  ·(first | rw [c30b0] | (simp only [i64_w, i32_w]; rw [c30b0]) | skip)
   have H' := am H; clear H
   go_wp2
   go_meet
   case rel => exact ⟨_, (true), rs, H', ⟨by first | omega | exact Nat.le_refl _⟩, ⟨by (with_reducible repeat (first | apply Kd.R_alloc | apply Kd.R_drewN | apply Kd.R_drew)); exact Kd.R_mono HO183.out (fun _ hk => hk.2.2.1)⟩, ⟨by (with_reducible repeat (first | apply Kd.R_alloc | apply Kd.R_drewN | apply Kd.R_drew)); exact Kd.R_mono HO189.out (fun _ hk => hk.2.1)⟩, ⟨bl⟩⟩
  (first | rw [c30b0] | (simp only [i64_w, i32_w]; rw [c30b0]) | skip)
  revert H; refine bj fun t197 A31 H => ?_
  have H' := am H; clear H
  go_wp2_with (first | (go_at_call 8; (with_reducible refine (laws_eqLegS.calls _ _ _ _ _ _ _ _ _ ?side1 ?side2 ?side3 ?side4 A31.out).mono ?_); (case side1 => exact cc (Kd.R_reads' HO189.out).2.2); (case side2 => exact (Kd.R_reads' HO189.out).2.1); (case side3 => exact cc (Kd.R_reads' HO183.out).2.2); (case side4 => exact (Kd.R_reads' HO183.out).2.1); rintro e w32 ⟨rfl, hb⟩; refine r5_ hb HO180 HO183 HO186 HO189 HO193 ?_; clear HO180 HO183 HO186 HO189 HO193; intro HO180 HO183 HO186 HO189 HO193; replace HB := ho hb; clear hb))
  go_meet
  case rel => exact ⟨_, (!t197), rs, H', ⟨by first | omega | exact Nat.le_refl _⟩, ⟨by (with_reducible repeat (first | apply Kd.R_alloc | apply Kd.R_drewN | apply Kd.R_drew)); exact Kd.R_mono HO183.out (fun _ hk => hk.2.2.1)⟩, ⟨by (with_reducible repeat (first | apply Kd.R_alloc | apply Kd.R_drewN | apply Kd.R_drew)); exact Kd.R_mono HO189.out (fun _ hk => hk.2.1)⟩, ⟨bl⟩⟩
 case rest =>
  clear HC15
  try clear c3b0
  obtain ⟨kq, x42_14, rfl, HA, HJ14, HO_4, HO_6, HB⟩ := hcut
  cases kq with
  | zero => exact absurd HA.out (by simp [laws_FnExactLegsBack.j0])
  | succ kj14 =>
   have H := HA.out
   clear HA
   simp only [laws_FnExactLegsBack.j0] at H
   replace H := i8 H; obtain ⟨rfl, H⟩ := H
   replace H := bi H; obtain ⟨⟨t198, t199⟩, A34, H⟩ := H; dsimp only at H
   revert H; refine bj fun t200 A35 H => ?_
   revert H; refine i9 fun c36 H => ?_
   have c36b0 := decide_eq_false c36
   clear c36
   revert H; refine i0 fun c37 H => ?_
   have c37b0 := beq_iff_eq.mpr c37
   have c37b1 := bne_eq_false_iff_eq.mpr c37
   clear c37
   revert H; refine bj fun t201 A38 H => ?_
   revert H; refine bj fun t204 A39 H => ?_
   revert H; refine bj fun t207 A40 H => ?_
   replace H := jz H; obtain ⟨rfl, H⟩ := H
   revert H; refine bj fun t208 A42 H => ?_
   revert H; refine i9 fun c43 H => ?_
   have c43b0 := decide_eq_false c43
   clear c43
   revert H; refine i0 fun c44 H => ?_
   have c44b0 := beq_iff_eq.mpr c44
   have c44b1 := bne_eq_false_iff_eq.mpr c44
   clear c44
   obtain rfl := Option.some.inj H
   go_wp2_with (first | ((with_reducible refine c_ 9 ?_); refine gc 9 (some 45) Tryd.func9 (laws_markLegS.calls _ (fun k_ => some k_ = (.slice Ao23 t187.length co23 : Value).ownBlock) _ _ _ _ _ w _ ?side1 ?side2 A34.out) ?_; (case side1 => repeat (first | (with_reducible first | exact HB.out | apply below_alloc | apply pw_below_drewN | apply below_drew1) | exact HB.out)); (case side2 => exact Kd.R_tight rfl HO_6.out); rintro e w45 ⟨rfl, hy0, hb, hkp⟩; refine ⟨_, rfl, ?_⟩; replace HO_4 := kbo0 (fun k_ => some k_ ≠ (.slice Ao23 t187.length co23 : Value).ownBlock) HO_4 hkp; replace HO_6 := am (Kd.R_reok rfl hy0 (fun k_ e_ => HO_6.out.1 k_ e_)); replace HB := am (hb); clear hb hkp hy0) | ((with_reducible refine gate_callee (f := 10) rfl ?_); refine goesL_ (some 48) rfl rfl Tryd.func10 (by kernel_rfl) rfl #[.slice Ao23 t199.length co23, .int .i64 1] rfl (by (try simp only [List.map_toArray, List.map_cons, List.map_nil]); first | done | (rw [show t199.length = t187.length from (Kd.R_reads' HO_6.out).1.symm] <;> rfl) | rfl | (simp only [List.length_drop, List.length_take]; rfl)) ?_; (with_reducible refine (laws_heldLegS.calls kj14 _ _ t199 1 t200 _ ?side1 ?side2 A35.out).mono ?_); (case side1 => exact cc (Kd.R_reads' HO_6.out).2.2); (case side2 => rw [show t199.length = t187.length from (Kd.R_reads' HO_6.out).1.symm]; exact (Kd.R_reads' HO_6.out).2.1); rintro e w46 ⟨rfl, hb⟩; refine ⟨_, rfl, ?_⟩; refine r2_ hb HO_4 HO_6 ?_; clear HO_4 HO_6; intro HO_4 HO_6; replace HB := ho hb; clear hb) | ((with_reducible refine c_ 6 ?_); refine gc 6 (some 55) Tryd.func6 (laws_toLegS.calls _ _ _ _ _ _ ?side1 ?side2 A38.out) ?_; (case side1 => exact cb HR0.out); (case side2 => exact HC0.out); rintro e w47 ⟨v202, rfl, ho0, hb⟩; refine ⟨_, rfl, ?_⟩; have HO203 := am (Kd.R_lower (Kd.R_new' (Kd.R_new' ho0 (Kd.R_lt (kr HO_4.out))) (Kd.R_lt (kr HO_6.out))) (below_size bl)); replace HO_4 := am (Kd.R_elder' (kr HO_4.out) (Kd.R_base ho0) hb); replace HO_6 := am (Kd.R_elder' (kr HO_6.out) (Kd.R_base ho0) hb); replace HB := ho hb; clear hb ho0; obtain ⟨Ao48, co48, eo48⟩ := Kd.R_slice HO203.out; subst eo48) | ((with_reducible refine c_ 7 ?_); refine gc 7 (some 56) Tryd.func7 (impl_LegsBack.calls _ _ _ _ _ ?side1 ?side2 A39.out) ?_; (case side1 => exact cc (Kd.R_reads' HO203.out).2.2); (case side2 => exact (Kd.R_reads' HO203.out).2.1); rintro e w49 ⟨v205, rfl, ho0, hb⟩; refine ⟨_, rfl, ?_⟩; have HO206 := am (Kd.R_lower (Kd.R_new' (Kd.R_new' (Kd.R_new' ho0 (Kd.R_lt (kr HO_4.out))) (Kd.R_lt (kr HO_6.out))) (Kd.R_lt (kr HO203.out))) (below_size bl)); replace HO_4 := am (Kd.R_elder' (kr HO_4.out) (Kd.R_base ho0) hb); replace HO_6 := am (Kd.R_elder' (kr HO_6.out) (Kd.R_base ho0) hb); replace HO203 := am (Kd.R_elder' (kr HO203.out) (Kd.R_base ho0) hb); replace HB := ho hb; clear hb ho0; obtain ⟨Ao50, co50, eo50⟩ := Kd.R_slice HO206.out; subst eo50) | ((with_reducible refine c_ 8 ?_); refine gc 8 (some 59) Tryd.func8 (laws_eqLegS.calls _ _ _ _ _ _ _ _ _ ?side1 ?side2 ?side3 ?side4 A40.out) ?_; (case side1 => exact cc (Kd.R_reads' HO206.out).2.2); (case side2 => exact (Kd.R_reads' HO206.out).2.1); (case side3 => exact cc (Kd.R_reads' HO_4.out).2.2); (case side4 => exact (Kd.R_reads' HO_4.out).2.1); rintro e w51 ⟨rfl, hb⟩; refine ⟨_, rfl, ?_⟩; refine r4_ hb HO_4 HO_6 HO203 HO206 ?_; clear HO_4 HO_6 HO203 HO206; intro HO_4 HO_6 HO203 HO206; replace HB := ho hb; clear hb) | ((with_reducible refine gate_callee (f := 10) rfl ?_); refine goesL_ (some 63) rfl rfl Tryd.func10 (by kernel_rfl) rfl #[.slice Ao23 t199.length co23, .int .i64 1] rfl (by (try simp only [List.map_toArray, List.map_cons, List.map_nil]); first | done | (rw [show t199.length = t187.length from (Kd.R_reads' HO_6.out).1.symm] <;> rfl) | rfl | (simp only [List.length_drop, List.length_take]; rfl)) ?_; (with_reducible refine (laws_heldLegS.calls kj14 _ _ t199 1 t208 _ ?side1 ?side2 A42.out).mono ?_); (case side1 => exact cc (Kd.R_reads' HO_6.out).2.2); (case side2 => rw [show t199.length = t187.length from (Kd.R_reads' HO_6.out).1.symm]; exact (Kd.R_reads' HO_6.out).2.1); rintro e w52 ⟨rfl, hb⟩; refine ⟨_, rfl, ?_⟩; refine r4_ hb HO_4 HO_6 HO203 HO206 ?_; clear HO_4 HO_6 HO203 HO206; intro HO_4 HO_6 HO203 HO206; replace HB := ho hb; clear hb))
   go_ret
   exact ⟨er, bl⟩

def laws_FnExactLegsBack.Pure : Prop := ∀ (l0 : List (S34)), (l0.length ≤ maxLen ∧ ∀ x ∈ l0, ((x.f0.f0.size ≤ maxLen ∧ x.f0.f1.size ≤ maxLen) ∧ (x.f1.f0.size ≤ maxLen ∧ x.f1.f1.size ≤ maxLen) ∧ (Lit.int .i64 x.f2).wf = true)) → ∃ k, laws_FnExactLegsBack.f k l0 = some true

end Go.Proofs.YtopeaemfnlcecaaDoor.PFnExactLegsBack
