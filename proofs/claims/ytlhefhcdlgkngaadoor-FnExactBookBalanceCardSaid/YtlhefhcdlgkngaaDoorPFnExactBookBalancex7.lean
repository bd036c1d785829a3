-- laid by seedprint.py, a program of this session, over contracts that it gives by hand; Lean checks it
-- dented
import Derived.Test.YtlhefhcdlgkngaaDoorQMin
import Derived.Test.YtlhefhcdlgkngaaDoorQAut
import Derived.Test.YtlhefhcdlgkngaaDoorQBlk
import Derived.Test.YtlhefhcdlgkngaaDoorPFnExactBookBalancex0
import Derived.Test.YtlhefhcdlgkngaaDoorPFnExactBookBalancex5
import Derived.Test.YtlhefhcdlgkngaaDoorPFnExactBookBalancex6
namespace Go.Proofs.YtlhefhcdlgkngaaDoor.PFnExactBookBalance
open Go.RowKit Go.Proofs.YtlhefhcdlgkngaaDoorW.PrintWords Go.Proofs.YtlhefhcdlgkngaaDoorW.PrintLast Go.Proofs.YtlhefhcdlgkngaaDoorW.PrintMore
attribute [local go_sem] max2_int min2_int max_two min_two max_three min_three max_four min_four   -- for this text's walks alone
set_option linter.unusedVariables false
set_option linter.unusedSimpArgs false

/-! ### impl_BookRight: function 33 -/
mutual
def impl_BookRight.l0 : Nat → Int → List (S67) → Int → Int → List (S67) → List ByteArray → Option (Bool)
 | 0, _, _, _, _, _, _ => none
 | k + 1, x3, x9, x10, x11, x183000, x183001 => if x11 < x10 then (if 0 ≤ x11 then (if x11 < (x9.length : Int) then ((impl_Spot_isRight.f ((rd_T67 x9 x11).f0.f0) ((rd_T67 x9 x11).f0.f1)).bind fun t185 => (if t185 = true then ((impl_MoneyRight.f ((rd_T67 x9 x11).f1)).bind fun t186 => (if t186 = true then (if x11 > 0 then (if 0 ≤ (wrap64 (x11 - 1)) then (if (wrap64 (x11 - 1)) < (x183000.length : Int) then ((impl_Spot_order.f k ((rd_T67 x183000 (wrap64 (x11 - 1))).f0.f0) ((rd_T67 x183000 (wrap64 (x11 - 1))).f0.f1) ((rd_T67 x9 x11).f0.f0) ((rd_T67 x9 x11).f0.f1)).bind fun t188 => (if t188 ≥ 0 then (some false) else (if x11 ≥ 60 then (some false) else (impl_BookRight.l0 k (wrap64 (x3 + ((rd_T67 x9 x11).f1))) x9 x10 (wrap64 (x11 + 1)) x183000 x183001)))) else (none)) else (none)) else (if x11 ≥ 60 then (some false) else (impl_BookRight.l0 k (wrap64 (x3 + ((rd_T67 x9 x11).f1))) x9 x10 (wrap64 (x11 + 1)) x183000 x183001))) else (some false))) else (some false))) else (none)) else (none)) else (impl_BookRight.l1 k x3 x183001 (x183001.length : Int) 0 x183000 x183001)
def impl_BookRight.l1 : Nat → Int → List ByteArray → Int → Int → List (S67) → List ByteArray → Option (Bool)
 | 0, _, _, _, _, _, _ => none
 | k + 1, x3, x53, x54, x55, x183000, x183001 => if x55 < x54 then (if 0 ≤ x55 then (if x55 < (x53.length : Int) then ((impl_NameRight.f (rdOf ByteArray.empty x53 x55)).bind fun t190 => (if t190 = true then (if x55 > 0 then (if 0 ≤ (wrap64 (x55 - 1)) then (if (wrap64 (x55 - 1)) < (x183001.length : Int) then (if ((Op.bytesLess ((rdOf ByteArray.empty x183001 (wrap64 (x55 - 1))).toList) ((rdOf ByteArray.empty x53 x55).toList)) = true) then (impl_BookRight.l1 k x3 x53 x54 (wrap64 (x55 + 1)) x183000 x183001) else (some false)) else (none)) else (none)) else (impl_BookRight.l1 k x3 x53 x54 (wrap64 (x55 + 1)) x183000 x183001)) else (some false))) else (none)) else (none)) else (if x3 = 0 then (some (decide ((x183001.length : Int) ≤ 100))) else (some false))
end
def impl_BookRight.f (k : Nat) (l0_0 : List (S67)) (l0_1 : List ByteArray) : Option (Bool) := impl_BookRight.l0 k 0 l0_0 (l0_0.length : Int) 0 l0_0 l0_1
theorem impl_BookRight.mono_l : ∀ k, (∀ y0 y1 y2 y3 y4 y5, LeO (impl_BookRight.l0 k y0 y1 y2 y3 y4 y5) (impl_BookRight.l0 (k + 1) y0 y1 y2 y3 y4 y5)) ∧ (∀ y0 y1 y2 y3 y4 y5, LeO (impl_BookRight.l1 k y0 y1 y2 y3 y4 y5) (impl_BookRight.l1 (k + 1) y0 y1 y2 y3 y4 y5))
 | 0 => ⟨fun _ _ _ _ _ _ r h => by simp [impl_BookRight.l0] at h, fun _ _ _ _ _ _ r h => by simp [impl_BookRight.l1] at h⟩
 | k + 1 => by
  obtain ⟨ih0, ih1⟩ := impl_BookRight.mono_l k
  refine ⟨?_, ?_⟩
  ·intro y0 y1 y2 y3 y4 y5
   unfold impl_BookRight.l0
   repeat' (with_reducible first | exact ih0 .. | exact ih1 .. | exact impl_Spot_order.mono .. | exact LeO.refl _ | exact LeO.none _ | refine LeO.ite ?_ ?_ | refine LeO.bind ?_ (fun _ => ?_))
  intro y0 y1 y2 y3 y4 y5
  unfold impl_BookRight.l1
  repeat' (with_reducible first | exact ih0 .. | exact ih1 .. | exact impl_Spot_order.mono .. | exact LeO.refl _ | exact LeO.none _ | refine LeO.ite ?_ ?_ | refine LeO.bind ?_ (fun _ => ?_))
theorem impl_BookRight.mono : ∀ a0 a1 k, LeO (impl_BookRight.f k a0 a1) (impl_BookRight.f (k + 1) a0 a1) := by
 intro a0 a1 k
 obtain ⟨ih0, ih1⟩ := impl_BookRight.mono_l k
 unfold impl_BookRight.f
 repeat' (with_reducible first | exact ih0 .. | exact ih1 .. | exact impl_Spot_order.mono .. | exact LeO.refl _ | exact LeO.none _ | refine LeO.ite ?_ ?_ | refine LeO.bind ?_ (fun _ => ?_))
def impl_BookRight.T5 : Bool × List (List Nat × List Nat) := (true, [([], []), ([0], [0]), ([1], [1]), ([2], [2]), ([3, 2], [3]), ([4], [4]), ([5, 4], [4, 5]), ([6, 4, 4], [4, 6]), ([7, 4], [4, 7]), ([4, 8], [4, 8]), ([9, 7], [9]), ([10], [10]), ([11, 10], [10, 11]), ([12, 10, 10], [10, 12]), ([13], [13]), ([14, 13], [13, 14]), ([13], [13]), ([16, 13], [13, 16]), ([15, 17, 13], [13, 15, 17]), ([18, 13], [13, 18]), ([19, 13], [13, 19]), ([13], [13]), ([21, 13], [13, 21]), ([20, 22, 13, 13], [13, 20, 22]), ([23, 13], [13, 23]), ([13, 24, 10], [10, 13, 24]), ([10, 25], [10, 25]), ([26, 23], [26]), ([27], [27]), ([28, 27], [27, 28]), ([27, 29], [27, 29])])
def impl_BookRight.B5 : List Nat := [0, 1, 3, 7, 15, 31, 63, 127, 255, 511, 1023, 2047, 4095, 8191, 16383, 32767, 16383, 81919, 262143, 524287, 1048575, 16383, 2113535, 8388607, 16777215, 33554431, 67108863, 134217727, 268435455, 536870911, 1073741823]
theorem impl_BookRight.tab5 : rtab .any (opsOf Tryd.f33 5) = impl_BookRight.T5 := by kernel_rfl
theorem impl_BookRight.bits5 : waitsOk impl_BookRight.T5.2 impl_BookRight.B5 = true := by kernel_rfl
set_option maxHeartbeats 8000000 in
set_option maxRecDepth 100000 in
theorem impl_BookRight.calls (k : Nat) (A0_0 : Option Addr) (c0_0 : Nat) (l0_0 : List (S67)) (A0_1 : Option Addr) (c0_1 : Nat) (l0_1 : List ByteArray) (r : Bool) (w : World) (hr0_0 : Kd.C k67 w A0_0 l0_0.length l0_0) (hc0_0 : l0_0.length ≤ c0_0) (hr0_1 : Kd.C Kd.string w A0_1 l0_1.length l0_1) (hc0_1 : l0_1.length ≤ c0_1) (h : impl_BookRight.f k l0_0 l0_1 = some r) :
  Calls Tryd.prog 33 #[.agg #[.slice A0_0 l0_0.length c0_0, .slice A0_1 l0_1.length c0_1]] w fun e w' => e = .returned (.bool r) ∧ Below w.heap.size w w' := by
 have hu43 := Tryd.underlying43
 have hu67 := Tryd.underlying67
 have hu45 := Tryd.underlying45
 have HR0_0 := am hr0_0
 have HC0_0 := am hc0_0
 clear hr0_0 hc0_0
 have HR0_1 := am hr0_1
 have HC0_1 := am hc0_1
 clear hr0_1 hc0_1
 have HB := am (Below.refl w.heap.size w)
 have H := h
 clear h
 unfold impl_BookRight.f at H
 have H' := am H; clear H
 go_enter Tryd.func33, Tryd.ntmps33
 go_wp2_with (first | ((with_reducible refine gate_dst (N := 1) rfl ?_); (try (refine gate_guard (by rfl) ?_; dsimp only)); refine box_event ?hg (N := 1) ?hd (cs := #[.slice A0_0 l0_0.length c0_0, .slice A0_1 l0_1.length c0_1]) (t := 43) ?hr ?_; (case hd => rfl); (case hg => rfl); (case hr => first | (go_simp; done) | (go_simp; rfl)); intro gb182 hg w2 hbox hb; have BK182 := am (hbox); have GW182 := am (bsz hg : w.heap.size ≤ gb182); have GE182 := GW182; replace HB := am (below_step bl hb); clear hb hbox hg; obtain ⟨z3_0, z3_1, y3_0, y3_1⟩ := blk2 BK182.out))
 go_loopg [3, 11] k (fun kq v3 v11 w' => ∃ (x3_1 : Int) (x11_1 : Int), v3 = .int .i64 x3_1 ∧ v11 = .int .i64 x11_1 ∧ Aside0 (impl_BookRight.l0 kq x3_1 l0_0 (l0_0.length : Int) x11_1 l0_0 l0_1 = some r) ∧ Aside0 (kq ≤ k) ∧ Aside0 (w'.heap[gb182]? = some (.cells #[(.slice A0_0 l0_0.length c0_0), (.slice A0_1 l0_1.length c0_1)] 43 (0, 0))) ∧ Aside0 (Below w.heap.size w w'))
 case atStart => exact ⟨(0), (0), rs, rs, H', ⟨Nat.le_refl _⟩, ⟨bk BK182.out⟩, ⟨bl⟩⟩
 case round =>
  clear H'
  try clear z3_0 z3_1; try clear y3_0 y3_1
  obtain ⟨x3_1, x11_1, rfl, rfl, HA, HK1, BK182, HB⟩ := hrel
  cases gk with
  | zero => exact absurd HA.out (by simp [impl_BookRight.l0])
  | succ k1 =>
   have H := HA.out
   clear HA
   simp only [impl_BookRight.l0] at H
   revert H; refine iDb (fun c4b0 H => ?_) fun c4b0 H => ?_
   ·revert H; refine i1 fun c5b0 H => ?_
    revert H; refine i1 fun c6b0 H => ?_
    revert H; refine bj fun t185 A7 H => ?_
    replace H := iT H; rcases H with ⟨rfl, H⟩ | ⟨rfl, H⟩
    ·revert H; refine bj fun t186 A9 H => ?_
     replace H := iT H; rcases H with ⟨rfl, H⟩ | ⟨rfl, H⟩
     ·revert H; refine iDb (fun c11b0 H => ?_) fun c11b0 H => ?_
      ·obtain ⟨ji12, hji12⟩ : ∃ j_ : Int, (wrap64 (x11_1 - 1)) = j_ := ⟨_, rfl⟩
       replace H : (if 0 ≤ (ji12) then (if (ji12) < (l0_0.length : Int) then ((impl_Spot_order.f k1 ((rd_T67 l0_0 (ji12)).f0.f0) ((rd_T67 l0_0 (ji12)).f0.f1) ((rd_T67 l0_0 x11_1).f0.f0) ((rd_T67 l0_0 x11_1).f0.f1)).bind fun t188 => (if t188 ≥ 0 then (some false) else (if x11_1 ≥ 60 then (some false) else (impl_BookRight.l0 k1 (wrap64 (x3_1 + ((rd_T67 l0_0 x11_1).f1))) l0_0 (l0_0.length : Int) (wrap64 (x11_1 + 1)) l0_0 l0_1)))) else (none)) else (none)) = some r := by first | (rw [hji12] at H; exact H) | (simp only [hji12] at H ⊢; exact H)
       (try rw [hji12] at A7)
       (try rw [hji12] at A9)
       have hji12w : (IntKind.i64.wrap (x11_1 - 1)) = ji12 := (i64_w _).trans hji12
       revert H; refine i1 fun c13b0 H => ?_
       revert H; refine i1 fun c14b0 H => ?_
       revert H; refine bj fun t188 A15 H => ?_
       revert H; refine iDb (fun c16b0 H => ?_) fun c16b0 H => ?_
       ·obtain rfl := Option.some.inj H
        have p183 : 0 ≤ (x11_1 : Int) := ode
        have q183 : x11_1 < (l0_0.length : Int) := ode
        obtain ⟨ad183, e183, hx183_0, hx183_1, hx183_2⟩ := at_T67 HR0_0.out x11_1 p183 q183
        cases e183
        obtain ⟨hx183_0, hx183_1, hx183_2⟩ := hb3 HB.out hx183_0 hx183_1 hx183_2
        replace p183 := eq_true p183
        replace q183 := eq_true q183
        try go_wp2_with (first | ((with_reducible refine gate_dst (N := 5) rfl ?_); (try (refine gate_guard (by rfl) ?_; dsimp only)); refine box_event ?hg (N := 5) ?hd (cs := #[.string (⟨#[]⟩ : ByteArray), .string (⟨#[]⟩ : ByteArray), .int .i64 0]) (t := 67) ?hr ?_; (case hd => rfl); (case hg => rfl); (case hr => first | (go_simp; done) | (go_simp; rfl)); intro gb184 hg w17 hbox hb; have BK184 := am (hbox); have GW184 := am (bsz hg : w.heap.size ≤ gb184); have GE184 := GW184; have NB182_184 := am (ne1 hg BK182.out); have NB184_182 := am NB182_184.out.symm; replace BK182 := am (bkb BK182.out hb); replace HB := am (below_step bl hb); clear hb hbox hg; have hnb18 := NB184_182.out; have hnc18 := NB182_184.out; obtain ⟨z19_0, z19_1, z19_2, y19_0, y19_1, y19_2⟩ := blk3 BK184.out))
        have n0_ : Aside0 ((((w17.setCell ⟨gb184, 0, none⟩ (.string ((rd_T67 l0_0 x11_1).f0.f0))).setCell ⟨gb184, 1, none⟩ (.string ((rd_T67 l0_0 x11_1).f0.f1))).setCell ⟨gb184, 2, none⟩ (.int .i64 ((rd_T67 l0_0 x11_1).f1))).heap[gb182]? = some (.cells #[.slice (some ad183) l0_0.length c0_0, .slice A0_1 l0_1.length c0_1] 43 (0, 0))) := ⟨bf BK182.out NB182_184.out⟩
        have n1_ : Aside0 ((((w17.setCell ⟨gb184, 0, none⟩ (.string ((rd_T67 l0_0 x11_1).f0.f0))).setCell ⟨gb184, 1, none⟩ (.string ((rd_T67 l0_0 x11_1).f0.f1))).setCell ⟨gb184, 2, none⟩ (.int .i64 ((rd_T67 l0_0 x11_1).f1))).heap[gb184]? = some (.cells #[.string ((rd_T67 l0_0 x11_1).f0.f0), .string ((rd_T67 l0_0 x11_1).f0.f1), .int .i64 ((rd_T67 l0_0 x11_1).f1)] 67 (0, 0))) := ⟨bp BK184.out⟩
        have n2_ : Aside0 (Below w.heap.size w (((w17.setCell ⟨gb184, 0, none⟩ (.string ((rd_T67 l0_0 x11_1).f0.f0))).setCell ⟨gb184, 1, none⟩ (.string ((rd_T67 l0_0 x11_1).f0.f1))).setCell ⟨gb184, 2, none⟩ (.int .i64 ((rd_T67 l0_0 x11_1).f1)))) := ⟨bl⟩
        (try clear BK182)
        (try clear BK184)
        (try clear HB)
        generalize (((w17.setCell ⟨gb184, 0, none⟩ (.string ((rd_T67 l0_0 x11_1).f0.f0))).setCell ⟨gb184, 1, none⟩ (.string ((rd_T67 l0_0 x11_1).f0.f1))).setCell ⟨gb184, 2, none⟩ (.int .i64 ((rd_T67 l0_0 x11_1).f1))) = w20 at n0_ n1_ n2_ ⊢
        have BK182 := n0_
        have BK184 := n1_
        have HB := n2_
        clear n0_ n1_ n2_
        have n0_ := am (blk_drew BK182.out)
        have n1_ := am (blk_drew BK184.out)
        have n2_ := am (below_drew1 HB.out)
        clear BK182
        clear BK184
        clear HB
        have BK182 := n0_
        have BK184 := n1_
        have HB := n2_
        clear n0_ n1_ n2_
        have p187 : 0 ≤ ((ji12) : Int) := ode
        have q187 : (ji12) < (l0_0.length : Int) := ode
        obtain ⟨ad187, e187, hx187_0, hx187_1, hx187_2⟩ := at_T67 HR0_0.out (ji12) p187 q187
        have hw187_2 := hx187_2
        have hw187_1 := hx187_1
        have hw187_0 := hx187_0
        obtain rfl : ad183 = ad187 := (by injection e187)
        obtain ⟨hx187_0, hx187_1, hx187_2⟩ := hb3 HB.out hx187_0 hx187_1 hx187_2
        replace p187 := eq_true p187
        replace q187 := eq_true q187
        refine start_ (n := 31) (S := fun w' => w'.cell? ⟨gb184, 0, none⟩ = some (.string ((rd_T67 l0_0 x11_1).f0.f0)) ∧ w'.cell? ⟨gb184, 1, none⟩ = some (.string ((rd_T67 l0_0 x11_1).f0.f1)) ∧ w'.cell? ⟨gb184, 2, none⟩ = some (.int .i64 ((rd_T67 l0_0 x11_1).f1)) ∧ w'.cell? ⟨gb182, 0, none⟩ = some (.slice (some ad183) l0_0.length c0_0) ∧ w'.cell? ⟨gb182, 1, none⟩ = some (.slice A0_1 l0_1.length c0_1) ∧ w'.cell? (ad183.add (((ji12)).toNat * 3)) = some (.string ((rd_T67 l0_0 (ji12)).f0.f0)) ∧ w'.cell? ⟨(ad183.add (((ji12)).toNat * 3)).block, (ad183.add (((ji12)).toNat * 3)).off + 1, none⟩ = some (.string ((rd_T67 l0_0 (ji12)).f0.f1)) ∧ w'.cell? ⟨(ad183.add (((ji12)).toNat * 3)).block, (ad183.add (((ji12)).toNat * 3)).off + 2, none⟩ = some (.int .i64 ((rd_T67 l0_0 (ji12)).f1))) (ds := []) #[F_, F_, F_, F_, F_, F_, F_, F_, F_, F_, F_, F_, F_, F_, F_, F_, F_, F_, F_, F_, F_, F_, F_, F_, F_, F_, F_, F_, F_, F_, F_] (by kernel_rfl) rfl rfl ⟨(blk_cell BK184.out 0).trans rfl, (blk_cell BK184.out 1).trans rfl, (blk_cell BK184.out 2).trans rfl, (blk_cell BK182.out 0).trans rfl, (blk_cell BK182.out 1).trans rfl, (hbc HB.out hw187_0), (hbc HB.out hw187_1), (hbc HB.out hw187_2)⟩ (fun hHeld => ?_); refine with_tabW impl_BookRight.tab5 impl_BookRight.bits5 (fun HT_ HW_ => ?_)
        generalize w20.drew = w21 at BK182 BK184 HB hx187_0 hx187_1 hx187_2 hHeld ⊢
        refine pv 0 16 ?_
        refine tv8 1 17 hHeld ?_
        refine ov 2 18 (fun K hK => ?_)
        refine gk Tryd.func41 (impl_Spot_isRight.calls _ _ _ _ A7.out) ?_
        rintro e w22 ⟨rfl, hb⟩
        refine ⟨_, rfl, ?_⟩
        have n0_ := am (bkb BK182.out hb)
        have n1_ := am (bkb BK184.out hb)
        have n2_ := am (below_step bl hb)
        clear BK182
        clear BK184
        clear HB
        have BK182 := n0_
        have BK184 := n1_
        have HB := n2_
        clear n0_ n1_ n2_
        skip
        skip
        skip
        skip
        refine hK.out _ _ ⟨(blk_cell BK184.out 0).trans rfl, (blk_cell BK184.out 1).trans rfl, (blk_cell BK184.out 2).trans rfl, (blk_cell BK182.out 0).trans rfl, (blk_cell BK182.out 1).trans rfl, (hbc HB.out hw187_0), (hbc HB.out hw187_1), (hbc HB.out hw187_2)⟩ (fun hHeld => ?_)
        clear hK K
        refine norm_ (a' := ?_) ?_ ?_
        rotate_left
        ·show Act.put _ (some 18) _ = _
         simp only [Act.put, z1, z2, z3, i64_w, i32_w]
         rfl
        refine pv 3 19 ?_
        refine pv 4 20 ?_
        refine pv 5 21 ?_
        refine tv8 6 22 hHeld ?_
        refine ov 7 23 (fun K hK => ?_)
        refine gk Tryd.func50 (impl_MoneyRight.calls _ _ _ A9.out) ?_
        rintro e w' ⟨rfl, ⟨nd, rfl⟩⟩
        refine ⟨_, rfl, ?_⟩
        refine hK.out _ _ ⟨(blk_cell BK184.out 0).trans rfl, (blk_cell BK184.out 1).trans rfl, (blk_cell BK184.out 2).trans rfl, (blk_cell BK182.out 0).trans rfl, (blk_cell BK182.out 1).trans rfl, (hbc HB.out hw187_0), (hbc HB.out hw187_1), (hbc HB.out hw187_2)⟩ (fun hHeld => ?_)
        clear hK K
        refine norm_ (a' := ?_) ?_ ?_
        rotate_left
        ·show Act.put _ (some 23) _ = _
         simp only [Act.put, z1, z2, z3, i64_w, i32_w]
         rfl
        refine pv 8 24 ?_
        refine pv 9 25 ?_
        refine pv 10 26 ?_
        refine pv 11 27 ?_
        refine pv 12 28 ?_
        refine pv 13 29 ?_
        refine pv 14 30 ?_
        refine pv 16 32 ?_
        refine pv 17 33 ?_
        refine pv 21 37 ?_
        refine tv8 15 31 hHeld ?_
        refine pv 18 34 ?_
        refine pv 19 35 ?_
        refine tv8 20 36 hHeld ?_
        refine tv8 22 38 hHeld ?_
        refine ov 23 39 (fun K hK => ?_)
        refine goes_ Tryd.func51 (by kernel_rfl) rfl #[.agg #[.string ((rd_T67 l0_0 (ji12)).f0.f0), .string ((rd_T67 l0_0 (ji12)).f0.f1)], .agg #[.string ((rd_T67 l0_0 x11_1).f0.f0), .string ((rd_T67 l0_0 x11_1).f0.f1)]] (by rfl) rfl rfl (by (try simp only [List.map_toArray, List.map_cons, List.map_nil]); first | done | (simp only [hji12]; rfl) | rfl | (simp only [List.length_drop, List.length_take]; rfl)) ?_
        with_reducible refine (impl_Spot_order.calls k1 ((rd_T67 l0_0 (ji12)).f0.f0) ((rd_T67 l0_0 (ji12)).f0.f1) ((rd_T67 l0_0 x11_1).f0.f0) ((rd_T67 l0_0 x11_1).f0.f1) t188 _ A15.out).mono ?_
        rintro e w23 ⟨rfl, hb⟩
        refine ⟨_, rfl, ?_⟩
        have n0_ := am (bkb BK182.out hb)
        have n1_ := am (bkb BK184.out hb)
        have n2_ := am (below_step bl hb)
        clear BK182
        clear BK184
        clear HB
        have BK182 := n0_
        have BK184 := n1_
        have HB := n2_
        clear n0_ n1_ n2_
        skip
        skip
        skip
        skip
        refine hK.out _ _ ⟨(blk_cell BK184.out 0).trans rfl, (blk_cell BK184.out 1).trans rfl, (blk_cell BK184.out 2).trans rfl, (blk_cell BK182.out 0).trans rfl, (blk_cell BK182.out 1).trans rfl, (hbc HB.out hw187_0), (hbc HB.out hw187_1), (hbc HB.out hw187_2)⟩ (fun hHeld => ?_)
        clear hK K
        refine norm_ (a' := ?_) ?_ ?_
        rotate_left
        ·show Act.put _ (some 39) _ = _
         simp only [Act.put, z1, z2, z3, i64_w, i32_w]
         rfl
        refine pv 24 40 ?_
        refine pv 25 41 ?_
        refine pv 26 42 ?_
        refine pv 27 43 ?_
        refine pure_ (i := 28) (N := some 44) (v := undef) (a' := ?_) #[T_, T_, T_, T_, T_, T_, T_, T_, T_, T_, T_, T_, T_, T_, T_, T_, T_, T_, T_, T_, T_, T_, T_, T_, T_, T_, T_, T_, T_, F_, F_] rfl rfl (any_of HT_.out (by kernel_rfl)) (fun _ _ _ h => h) (Or.inr ⟨by rfl, rfl⟩) ?_ ?_
        rotate_left
        ·simp only [Act.put, z1, z2, z3, i64_w, i32_w]
         rfl
        refine pure_ (i := 29) (N := some 45) (v := undef) (a' := ?_) #[T_, T_, T_, T_, T_, T_, T_, T_, T_, T_, T_, T_, T_, T_, T_, T_, T_, T_, T_, T_, T_, T_, T_, T_, T_, T_, T_, T_, T_, T_, F_] rfl rfl (any_of HT_.out (by kernel_rfl)) (fun _ _ _ h => h) (Or.inr ⟨by rfl, rfl⟩) ?_ ?_
        rotate_left
        ·simp only [Act.put, z1, z2, z3, i64_w, i32_w]
         rfl
        refine pv 30 46 ?_
        refine done_ (done_of HT_.out (by kernel_rfl)) ?_
        try go_wp2
        go_ret
        exact ⟨by first | rfl | (simp [errW_none, errW_some] <;> rfl) | (simp only [← hji12]; first | rfl | (simp [errW_none, errW_some] <;> rfl)) | (simp [*, errW_none, errW_some] <;> rfl), bl⟩
       revert H; refine iDb (fun c24b0 H => ?_) fun c24b0 H => ?_
       ·obtain rfl := Option.some.inj H
        have p183 : 0 ≤ (x11_1 : Int) := ode
        have q183 : x11_1 < (l0_0.length : Int) := ode
        obtain ⟨ad183, e183, hx183_0, hx183_1, hx183_2⟩ := at_T67 HR0_0.out x11_1 p183 q183
        cases e183
        obtain ⟨hx183_0, hx183_1, hx183_2⟩ := hb3 HB.out hx183_0 hx183_1 hx183_2
        replace p183 := eq_true p183
        replace q183 := eq_true q183
        try go_wp2_with (first | ((with_reducible refine gate_dst (N := 5) rfl ?_); (try (refine gate_guard (by rfl) ?_; dsimp only)); refine box_event ?hg (N := 5) ?hd (cs := #[.string (⟨#[]⟩ : ByteArray), .string (⟨#[]⟩ : ByteArray), .int .i64 0]) (t := 67) ?hr ?_; (case hd => rfl); (case hg => rfl); (case hr => first | (go_simp; done) | (go_simp; rfl)); intro gb184 hg w25 hbox hb; have BK184 := am (hbox); have GW184 := am (bsz hg : w.heap.size ≤ gb184); have GE184 := GW184; have NB182_184 := am (ne1 hg BK182.out); have NB184_182 := am NB182_184.out.symm; replace BK182 := am (bkb BK182.out hb); replace HB := am (below_step bl hb); clear hb hbox hg; have hnb26 := NB184_182.out; have hnc26 := NB182_184.out; obtain ⟨z27_0, z27_1, z27_2, y27_0, y27_1, y27_2⟩ := blk3 BK184.out))
        have n0_ : Aside0 ((((w25.setCell ⟨gb184, 0, none⟩ (.string ((rd_T67 l0_0 x11_1).f0.f0))).setCell ⟨gb184, 1, none⟩ (.string ((rd_T67 l0_0 x11_1).f0.f1))).setCell ⟨gb184, 2, none⟩ (.int .i64 ((rd_T67 l0_0 x11_1).f1))).heap[gb182]? = some (.cells #[.slice (some ad183) l0_0.length c0_0, .slice A0_1 l0_1.length c0_1] 43 (0, 0))) := ⟨bf BK182.out NB182_184.out⟩
        have n1_ : Aside0 ((((w25.setCell ⟨gb184, 0, none⟩ (.string ((rd_T67 l0_0 x11_1).f0.f0))).setCell ⟨gb184, 1, none⟩ (.string ((rd_T67 l0_0 x11_1).f0.f1))).setCell ⟨gb184, 2, none⟩ (.int .i64 ((rd_T67 l0_0 x11_1).f1))).heap[gb184]? = some (.cells #[.string ((rd_T67 l0_0 x11_1).f0.f0), .string ((rd_T67 l0_0 x11_1).f0.f1), .int .i64 ((rd_T67 l0_0 x11_1).f1)] 67 (0, 0))) := ⟨bp BK184.out⟩
        have n2_ : Aside0 (Below w.heap.size w (((w25.setCell ⟨gb184, 0, none⟩ (.string ((rd_T67 l0_0 x11_1).f0.f0))).setCell ⟨gb184, 1, none⟩ (.string ((rd_T67 l0_0 x11_1).f0.f1))).setCell ⟨gb184, 2, none⟩ (.int .i64 ((rd_T67 l0_0 x11_1).f1)))) := ⟨bl⟩
        (try clear BK182)
        (try clear BK184)
        (try clear HB)
        generalize (((w25.setCell ⟨gb184, 0, none⟩ (.string ((rd_T67 l0_0 x11_1).f0.f0))).setCell ⟨gb184, 1, none⟩ (.string ((rd_T67 l0_0 x11_1).f0.f1))).setCell ⟨gb184, 2, none⟩ (.int .i64 ((rd_T67 l0_0 x11_1).f1))) = w28 at n0_ n1_ n2_ ⊢
        have BK182 := n0_
        have BK184 := n1_
        have HB := n2_
        clear n0_ n1_ n2_
        have n0_ := am (blk_drew BK182.out)
        have n1_ := am (blk_drew BK184.out)
        have n2_ := am (below_drew1 HB.out)
        clear BK182
        clear BK184
        clear HB
        have BK182 := n0_
        have BK184 := n1_
        have HB := n2_
        clear n0_ n1_ n2_
        have p187 : 0 ≤ ((ji12) : Int) := ode
        have q187 : (ji12) < (l0_0.length : Int) := ode
        obtain ⟨ad187, e187, hx187_0, hx187_1, hx187_2⟩ := at_T67 HR0_0.out (ji12) p187 q187
        have hw187_2 := hx187_2
        have hw187_1 := hx187_1
        have hw187_0 := hx187_0
        obtain rfl : ad183 = ad187 := (by injection e187)
        obtain ⟨hx187_0, hx187_1, hx187_2⟩ := hb3 HB.out hx187_0 hx187_1 hx187_2
        replace p187 := eq_true p187
        replace q187 := eq_true q187
        refine start_ (n := 31) (S := fun w' => w'.cell? ⟨gb184, 0, none⟩ = some (.string ((rd_T67 l0_0 x11_1).f0.f0)) ∧ w'.cell? ⟨gb184, 1, none⟩ = some (.string ((rd_T67 l0_0 x11_1).f0.f1)) ∧ w'.cell? ⟨gb184, 2, none⟩ = some (.int .i64 ((rd_T67 l0_0 x11_1).f1)) ∧ w'.cell? ⟨gb182, 0, none⟩ = some (.slice (some ad183) l0_0.length c0_0) ∧ w'.cell? ⟨gb182, 1, none⟩ = some (.slice A0_1 l0_1.length c0_1) ∧ w'.cell? (ad183.add (((ji12)).toNat * 3)) = some (.string ((rd_T67 l0_0 (ji12)).f0.f0)) ∧ w'.cell? ⟨(ad183.add (((ji12)).toNat * 3)).block, (ad183.add (((ji12)).toNat * 3)).off + 1, none⟩ = some (.string ((rd_T67 l0_0 (ji12)).f0.f1)) ∧ w'.cell? ⟨(ad183.add (((ji12)).toNat * 3)).block, (ad183.add (((ji12)).toNat * 3)).off + 2, none⟩ = some (.int .i64 ((rd_T67 l0_0 (ji12)).f1))) (ds := []) #[F_, F_, F_, F_, F_, F_, F_, F_, F_, F_, F_, F_, F_, F_, F_, F_, F_, F_, F_, F_, F_, F_, F_, F_, F_, F_, F_, F_, F_, F_, F_] (by kernel_rfl) rfl rfl ⟨(blk_cell BK184.out 0).trans rfl, (blk_cell BK184.out 1).trans rfl, (blk_cell BK184.out 2).trans rfl, (blk_cell BK182.out 0).trans rfl, (blk_cell BK182.out 1).trans rfl, (hbc HB.out hw187_0), (hbc HB.out hw187_1), (hbc HB.out hw187_2)⟩ (fun hHeld => ?_); refine with_tabW impl_BookRight.tab5 impl_BookRight.bits5 (fun HT_ HW_ => ?_)
        generalize w28.drew = w29 at BK182 BK184 HB hx187_0 hx187_1 hx187_2 hHeld ⊢
        refine pv 0 16 ?_
        refine tv8 1 17 hHeld ?_
        refine ov 2 18 (fun K hK => ?_)
        refine gk Tryd.func41 (impl_Spot_isRight.calls _ _ _ _ A7.out) ?_
        rintro e w30 ⟨rfl, hb⟩
        refine ⟨_, rfl, ?_⟩
        have n0_ := am (bkb BK182.out hb)
        have n1_ := am (bkb BK184.out hb)
        have n2_ := am (below_step bl hb)
        clear BK182
        clear BK184
        clear HB
        have BK182 := n0_
        have BK184 := n1_
        have HB := n2_
        clear n0_ n1_ n2_
        skip
        skip
        skip
        skip
        refine hK.out _ _ ⟨(blk_cell BK184.out 0).trans rfl, (blk_cell BK184.out 1).trans rfl, (blk_cell BK184.out 2).trans rfl, (blk_cell BK182.out 0).trans rfl, (blk_cell BK182.out 1).trans rfl, (hbc HB.out hw187_0), (hbc HB.out hw187_1), (hbc HB.out hw187_2)⟩ (fun hHeld => ?_)
        clear hK K
        refine norm_ (a' := ?_) ?_ ?_
        rotate_left
        ·show Act.put _ (some 18) _ = _
         simp only [Act.put, z1, z2, z3, i64_w, i32_w]
         rfl
        refine pv 3 19 ?_
        refine pv 4 20 ?_
        refine pv 5 21 ?_
        refine tv8 6 22 hHeld ?_
        refine ov 7 23 (fun K hK => ?_)
        refine gk Tryd.func50 (impl_MoneyRight.calls _ _ _ A9.out) ?_
        rintro e w' ⟨rfl, ⟨nd, rfl⟩⟩
        refine ⟨_, rfl, ?_⟩
        refine hK.out _ _ ⟨(blk_cell BK184.out 0).trans rfl, (blk_cell BK184.out 1).trans rfl, (blk_cell BK184.out 2).trans rfl, (blk_cell BK182.out 0).trans rfl, (blk_cell BK182.out 1).trans rfl, (hbc HB.out hw187_0), (hbc HB.out hw187_1), (hbc HB.out hw187_2)⟩ (fun hHeld => ?_)
        clear hK K
        refine norm_ (a' := ?_) ?_ ?_
        rotate_left
        ·show Act.put _ (some 23) _ = _
         simp only [Act.put, z1, z2, z3, i64_w, i32_w]
         rfl
        refine pv 8 24 ?_
        refine pv 9 25 ?_
        refine pv 10 26 ?_
        refine pv 11 27 ?_
        refine pv 12 28 ?_
        refine pv 13 29 ?_
        refine pv 14 30 ?_
        refine pv 16 32 ?_
        refine pv 17 33 ?_
        refine pv 21 37 ?_
        refine tv8 15 31 hHeld ?_
        refine pv 18 34 ?_
        refine pv 19 35 ?_
        refine tv8 20 36 hHeld ?_
        refine tv8 22 38 hHeld ?_
        refine ov 23 39 (fun K hK => ?_)
        refine goes_ Tryd.func51 (by kernel_rfl) rfl #[.agg #[.string ((rd_T67 l0_0 (ji12)).f0.f0), .string ((rd_T67 l0_0 (ji12)).f0.f1)], .agg #[.string ((rd_T67 l0_0 x11_1).f0.f0), .string ((rd_T67 l0_0 x11_1).f0.f1)]] (by rfl) rfl rfl (by (try simp only [List.map_toArray, List.map_cons, List.map_nil]); first | done | (simp only [hji12]; rfl) | rfl | (simp only [List.length_drop, List.length_take]; rfl)) ?_
        with_reducible refine (impl_Spot_order.calls k1 ((rd_T67 l0_0 (ji12)).f0.f0) ((rd_T67 l0_0 (ji12)).f0.f1) ((rd_T67 l0_0 x11_1).f0.f0) ((rd_T67 l0_0 x11_1).f0.f1) t188 _ A15.out).mono ?_
        rintro e w31 ⟨rfl, hb⟩
        refine ⟨_, rfl, ?_⟩
        have n0_ := am (bkb BK182.out hb)
        have n1_ := am (bkb BK184.out hb)
        have n2_ := am (below_step bl hb)
        clear BK182
        clear BK184
        clear HB
        have BK182 := n0_
        have BK184 := n1_
        have HB := n2_
        clear n0_ n1_ n2_
        skip
        skip
        skip
        skip
        refine hK.out _ _ ⟨(blk_cell BK184.out 0).trans rfl, (blk_cell BK184.out 1).trans rfl, (blk_cell BK184.out 2).trans rfl, (blk_cell BK182.out 0).trans rfl, (blk_cell BK182.out 1).trans rfl, (hbc HB.out hw187_0), (hbc HB.out hw187_1), (hbc HB.out hw187_2)⟩ (fun hHeld => ?_)
        clear hK K
        refine norm_ (a' := ?_) ?_ ?_
        rotate_left
        ·show Act.put _ (some 39) _ = _
         simp only [Act.put, z1, z2, z3, i64_w, i32_w]
         rfl
        refine pv 24 40 ?_
        refine pv 25 41 ?_
        refine pv 26 42 ?_
        refine pv 27 43 ?_
        refine pv 28 44 ?_
        refine pv 29 45 ?_
        refine pv 30 46 ?_
        refine done_ (done_of HT_.out (by kernel_rfl)) ?_
        try go_wp2
        go_ret
        exact ⟨by first | rfl | (simp [errW_none, errW_some] <;> rfl) | (simp only [← hji12]; first | rfl | (simp [errW_none, errW_some] <;> rfl)) | (simp [*, errW_none, errW_some] <;> rfl), bl⟩
       have H' := am H; clear H
       have p183 : 0 ≤ (x11_1 : Int) := ode
       have q183 : x11_1 < (l0_0.length : Int) := ode
       obtain ⟨ad183, e183, hx183_0, hx183_1, hx183_2⟩ := at_T67 HR0_0.out x11_1 p183 q183
       cases e183
       obtain ⟨hx183_0, hx183_1, hx183_2⟩ := hb3 HB.out hx183_0 hx183_1 hx183_2
       replace p183 := eq_true p183
       replace q183 := eq_true q183
       try go_wp2_with (first | ((with_reducible refine gate_dst (N := 5) rfl ?_); (try (refine gate_guard (by rfl) ?_; dsimp only)); refine box_event ?hg (N := 5) ?hd (cs := #[.string (⟨#[]⟩ : ByteArray), .string (⟨#[]⟩ : ByteArray), .int .i64 0]) (t := 67) ?hr ?_; (case hd => rfl); (case hg => rfl); (case hr => first | (go_simp; done) | (go_simp; rfl)); intro gb184 hg w32 hbox hb; have BK184 := am (hbox); have GW184 := am (bsz hg : w.heap.size ≤ gb184); have GE184 := GW184; have NB182_184 := am (ne1 hg BK182.out); have NB184_182 := am NB182_184.out.symm; replace BK182 := am (bkb BK182.out hb); replace HB := am (below_step bl hb); clear hb hbox hg; have hnb33 := NB184_182.out; have hnc33 := NB182_184.out; obtain ⟨z34_0, z34_1, z34_2, y34_0, y34_1, y34_2⟩ := blk3 BK184.out))
       have n0_ : Aside0 ((((w32.setCell ⟨gb184, 0, none⟩ (.string ((rd_T67 l0_0 x11_1).f0.f0))).setCell ⟨gb184, 1, none⟩ (.string ((rd_T67 l0_0 x11_1).f0.f1))).setCell ⟨gb184, 2, none⟩ (.int .i64 ((rd_T67 l0_0 x11_1).f1))).heap[gb182]? = some (.cells #[.slice (some ad183) l0_0.length c0_0, .slice A0_1 l0_1.length c0_1] 43 (0, 0))) := ⟨bf BK182.out NB182_184.out⟩
       have n1_ : Aside0 ((((w32.setCell ⟨gb184, 0, none⟩ (.string ((rd_T67 l0_0 x11_1).f0.f0))).setCell ⟨gb184, 1, none⟩ (.string ((rd_T67 l0_0 x11_1).f0.f1))).setCell ⟨gb184, 2, none⟩ (.int .i64 ((rd_T67 l0_0 x11_1).f1))).heap[gb184]? = some (.cells #[.string ((rd_T67 l0_0 x11_1).f0.f0), .string ((rd_T67 l0_0 x11_1).f0.f1), .int .i64 ((rd_T67 l0_0 x11_1).f1)] 67 (0, 0))) := ⟨bp BK184.out⟩
       have n2_ : Aside0 (Below w.heap.size w (((w32.setCell ⟨gb184, 0, none⟩ (.string ((rd_T67 l0_0 x11_1).f0.f0))).setCell ⟨gb184, 1, none⟩ (.string ((rd_T67 l0_0 x11_1).f0.f1))).setCell ⟨gb184, 2, none⟩ (.int .i64 ((rd_T67 l0_0 x11_1).f1)))) := ⟨bl⟩
       (try clear BK182)
       (try clear BK184)
       (try clear HB)
       generalize (((w32.setCell ⟨gb184, 0, none⟩ (.string ((rd_T67 l0_0 x11_1).f0.f0))).setCell ⟨gb184, 1, none⟩ (.string ((rd_T67 l0_0 x11_1).f0.f1))).setCell ⟨gb184, 2, none⟩ (.int .i64 ((rd_T67 l0_0 x11_1).f1))) = w35 at n0_ n1_ n2_ ⊢
       have BK182 := n0_
       have BK184 := n1_
       have HB := n2_
       clear n0_ n1_ n2_
       have n0_ := am (blk_drew BK182.out)
       have n1_ := am (blk_drew BK184.out)
       have n2_ := am (below_drew1 HB.out)
       clear BK182
       clear BK184
       clear HB
       have BK182 := n0_
       have BK184 := n1_
       have HB := n2_
       clear n0_ n1_ n2_
       have p187 : 0 ≤ ((ji12) : Int) := ode
       have q187 : (ji12) < (l0_0.length : Int) := ode
       obtain ⟨ad187, e187, hx187_0, hx187_1, hx187_2⟩ := at_T67 HR0_0.out (ji12) p187 q187
       have hw187_2 := hx187_2
       have hw187_1 := hx187_1
       have hw187_0 := hx187_0
       obtain rfl : ad183 = ad187 := (by injection e187)
       obtain ⟨hx187_0, hx187_1, hx187_2⟩ := hb3 HB.out hx187_0 hx187_1 hx187_2
       replace p187 := eq_true p187
       replace q187 := eq_true q187
       refine start_ (n := 31) (S := fun w' => w'.cell? ⟨gb184, 0, none⟩ = some (.string ((rd_T67 l0_0 x11_1).f0.f0)) ∧ w'.cell? ⟨gb184, 1, none⟩ = some (.string ((rd_T67 l0_0 x11_1).f0.f1)) ∧ w'.cell? ⟨gb184, 2, none⟩ = some (.int .i64 ((rd_T67 l0_0 x11_1).f1)) ∧ w'.cell? ⟨gb182, 0, none⟩ = some (.slice (some ad183) l0_0.length c0_0) ∧ w'.cell? ⟨gb182, 1, none⟩ = some (.slice A0_1 l0_1.length c0_1) ∧ w'.cell? (ad183.add (((ji12)).toNat * 3)) = some (.string ((rd_T67 l0_0 (ji12)).f0.f0)) ∧ w'.cell? ⟨(ad183.add (((ji12)).toNat * 3)).block, (ad183.add (((ji12)).toNat * 3)).off + 1, none⟩ = some (.string ((rd_T67 l0_0 (ji12)).f0.f1)) ∧ w'.cell? ⟨(ad183.add (((ji12)).toNat * 3)).block, (ad183.add (((ji12)).toNat * 3)).off + 2, none⟩ = some (.int .i64 ((rd_T67 l0_0 (ji12)).f1))) (ds := []) #[F_, F_, F_, F_, F_, F_, F_, F_, F_, F_, F_, F_, F_, F_, F_, F_, F_, F_, F_, F_, F_, F_, F_, F_, F_, F_, F_, F_, F_, F_, F_] (by kernel_rfl) rfl rfl ⟨(blk_cell BK184.out 0).trans rfl, (blk_cell BK184.out 1).trans rfl, (blk_cell BK184.out 2).trans rfl, (blk_cell BK182.out 0).trans rfl, (blk_cell BK182.out 1).trans rfl, (hbc HB.out hw187_0), (hbc HB.out hw187_1), (hbc HB.out hw187_2)⟩ (fun hHeld => ?_); refine with_tabW impl_BookRight.tab5 impl_BookRight.bits5 (fun HT_ HW_ => ?_)
       generalize w35.drew = w36 at BK182 BK184 HB hx187_0 hx187_1 hx187_2 hHeld ⊢
       refine pv 0 16 ?_
       refine tv8 1 17 hHeld ?_
       refine ov 2 18 (fun K hK => ?_)
       refine gk Tryd.func41 (impl_Spot_isRight.calls _ _ _ _ A7.out) ?_
       rintro e w37 ⟨rfl, hb⟩
       refine ⟨_, rfl, ?_⟩
       have n0_ := am (bkb BK182.out hb)
       have n1_ := am (bkb BK184.out hb)
       have n2_ := am (below_step bl hb)
       clear BK182
       clear BK184
       clear HB
       have BK182 := n0_
       have BK184 := n1_
       have HB := n2_
       clear n0_ n1_ n2_
       skip
       skip
       skip
       skip
       refine hK.out _ _ ⟨(blk_cell BK184.out 0).trans rfl, (blk_cell BK184.out 1).trans rfl, (blk_cell BK184.out 2).trans rfl, (blk_cell BK182.out 0).trans rfl, (blk_cell BK182.out 1).trans rfl, (hbc HB.out hw187_0), (hbc HB.out hw187_1), (hbc HB.out hw187_2)⟩ (fun hHeld => ?_)
       clear hK K
       refine norm_ (a' := ?_) ?_ ?_
       rotate_left
       ·show Act.put _ (some 18) _ = _
        simp only [Act.put, z1, z2, z3, i64_w, i32_w]
        rfl
       refine pv 3 19 ?_
       refine pv 4 20 ?_
       refine pv 5 21 ?_
       refine tv8 6 22 hHeld ?_
       refine ov 7 23 (fun K hK => ?_)
       refine gk Tryd.func50 (impl_MoneyRight.calls _ _ _ A9.out) ?_
       rintro e w' ⟨rfl, ⟨nd, rfl⟩⟩
       refine ⟨_, rfl, ?_⟩
       refine hK.out _ _ ⟨(blk_cell BK184.out 0).trans rfl, (blk_cell BK184.out 1).trans rfl, (blk_cell BK184.out 2).trans rfl, (blk_cell BK182.out 0).trans rfl, (blk_cell BK182.out 1).trans rfl, (hbc HB.out hw187_0), (hbc HB.out hw187_1), (hbc HB.out hw187_2)⟩ (fun hHeld => ?_)
       clear hK K
       refine norm_ (a' := ?_) ?_ ?_
       rotate_left
       ·show Act.put _ (some 23) _ = _
        simp only [Act.put, z1, z2, z3, i64_w, i32_w]
        rfl
       refine pv 8 24 ?_
       refine pv 9 25 ?_
       refine pv 10 26 ?_
       refine pv 11 27 ?_
       refine pv 12 28 ?_
       refine pv 13 29 ?_
       refine pv 14 30 ?_
       refine pv 16 32 ?_
       refine pv 17 33 ?_
       refine pv 21 37 ?_
       refine tv8 15 31 hHeld ?_
       refine pv 18 34 ?_
       refine pv 19 35 ?_
       refine tv8 20 36 hHeld ?_
       refine tv8 22 38 hHeld ?_
       refine ov 23 39 (fun K hK => ?_)
       refine goes_ Tryd.func51 (by kernel_rfl) rfl #[.agg #[.string ((rd_T67 l0_0 (ji12)).f0.f0), .string ((rd_T67 l0_0 (ji12)).f0.f1)], .agg #[.string ((rd_T67 l0_0 x11_1).f0.f0), .string ((rd_T67 l0_0 x11_1).f0.f1)]] (by rfl) rfl rfl (by (try simp only [List.map_toArray, List.map_cons, List.map_nil]); first | done | (simp only [hji12]; rfl) | rfl | (simp only [List.length_drop, List.length_take]; rfl)) ?_
       with_reducible refine (impl_Spot_order.calls k1 ((rd_T67 l0_0 (ji12)).f0.f0) ((rd_T67 l0_0 (ji12)).f0.f1) ((rd_T67 l0_0 x11_1).f0.f0) ((rd_T67 l0_0 x11_1).f0.f1) t188 _ A15.out).mono ?_
       rintro e w38 ⟨rfl, hb⟩
       refine ⟨_, rfl, ?_⟩
       have n0_ := am (bkb BK182.out hb)
       have n1_ := am (bkb BK184.out hb)
       have n2_ := am (below_step bl hb)
       clear BK182
       clear BK184
       clear HB
       have BK182 := n0_
       have BK184 := n1_
       have HB := n2_
       clear n0_ n1_ n2_
       skip
       skip
       skip
       skip
       refine hK.out _ _ ⟨(blk_cell BK184.out 0).trans rfl, (blk_cell BK184.out 1).trans rfl, (blk_cell BK184.out 2).trans rfl, (blk_cell BK182.out 0).trans rfl, (blk_cell BK182.out 1).trans rfl, (hbc HB.out hw187_0), (hbc HB.out hw187_1), (hbc HB.out hw187_2)⟩ (fun hHeld => ?_)
       clear hK K
       refine norm_ (a' := ?_) ?_ ?_
       rotate_left
       ·show Act.put _ (some 39) _ = _
        simp only [Act.put, z1, z2, z3, i64_w, i32_w]
        rfl
       refine pv 24 40 ?_
       refine pv 25 41 ?_
       refine pv 26 42 ?_
       refine pv 27 43 ?_
       refine pv 28 44 ?_
       refine pv 29 45 ?_
       refine pv 30 46 ?_
       refine done_ (done_of HT_.out (by kernel_rfl)) ?_
       obtain ⟨z39_0, z39_1, z39_2, y39_0, y39_1, y39_2⟩ := blk3 BK184.out
       try go_wp2
       go_roundg k1
       case measure => have := HK1.out; omega
       case rel => exact ⟨(wrap64 (x3_1 + ((rd_T67 l0_0 x11_1).f1))), (wrap64 (x11_1 + 1)), rs, rs, H', ⟨by have := HK1.out; omega⟩, ⟨bk BK182.out⟩, ⟨bl⟩⟩
      revert H; refine iDb (fun c40b0 H => ?_) fun c40b0 H => ?_
      ·obtain rfl := Option.some.inj H
       have p183 : 0 ≤ (x11_1 : Int) := ode
       have q183 : x11_1 < (l0_0.length : Int) := ode
       obtain ⟨ad183, e183, hx183_0, hx183_1, hx183_2⟩ := at_T67 HR0_0.out x11_1 p183 q183
       cases e183
       obtain ⟨hx183_0, hx183_1, hx183_2⟩ := hb3 HB.out hx183_0 hx183_1 hx183_2
       replace p183 := eq_true p183
       replace q183 := eq_true q183
       try go_wp2_with (first | ((with_reducible refine gate_dst (N := 5) rfl ?_); (try (refine gate_guard (by rfl) ?_; dsimp only)); refine box_event ?hg (N := 5) ?hd (cs := #[.string (⟨#[]⟩ : ByteArray), .string (⟨#[]⟩ : ByteArray), .int .i64 0]) (t := 67) ?hr ?_; (case hd => rfl); (case hg => rfl); (case hr => first | (go_simp; done) | (go_simp; rfl)); intro gb184 hg w41 hbox hb; have BK184 := am (hbox); have GW184 := am (bsz hg : w.heap.size ≤ gb184); have GE184 := GW184; have NB182_184 := am (ne1 hg BK182.out); have NB184_182 := am NB182_184.out.symm; replace BK182 := am (bkb BK182.out hb); replace HB := am (below_step bl hb); clear hb hbox hg; have hnb42 := NB184_182.out; have hnc42 := NB182_184.out; obtain ⟨z43_0, z43_1, z43_2, y43_0, y43_1, y43_2⟩ := blk3 BK184.out))
       have n0_ : Aside0 ((((w41.setCell ⟨gb184, 0, none⟩ (.string ((rd_T67 l0_0 x11_1).f0.f0))).setCell ⟨gb184, 1, none⟩ (.string ((rd_T67 l0_0 x11_1).f0.f1))).setCell ⟨gb184, 2, none⟩ (.int .i64 ((rd_T67 l0_0 x11_1).f1))).heap[gb182]? = some (.cells #[.slice (some ad183) l0_0.length c0_0, .slice A0_1 l0_1.length c0_1] 43 (0, 0))) := ⟨bf BK182.out NB182_184.out⟩
       have n1_ : Aside0 ((((w41.setCell ⟨gb184, 0, none⟩ (.string ((rd_T67 l0_0 x11_1).f0.f0))).setCell ⟨gb184, 1, none⟩ (.string ((rd_T67 l0_0 x11_1).f0.f1))).setCell ⟨gb184, 2, none⟩ (.int .i64 ((rd_T67 l0_0 x11_1).f1))).heap[gb184]? = some (.cells #[.string ((rd_T67 l0_0 x11_1).f0.f0), .string ((rd_T67 l0_0 x11_1).f0.f1), .int .i64 ((rd_T67 l0_0 x11_1).f1)] 67 (0, 0))) := ⟨bp BK184.out⟩
       have n2_ : Aside0 (Below w.heap.size w (((w41.setCell ⟨gb184, 0, none⟩ (.string ((rd_T67 l0_0 x11_1).f0.f0))).setCell ⟨gb184, 1, none⟩ (.string ((rd_T67 l0_0 x11_1).f0.f1))).setCell ⟨gb184, 2, none⟩ (.int .i64 ((rd_T67 l0_0 x11_1).f1)))) := ⟨bl⟩
       (try clear BK182)
       (try clear BK184)
       (try clear HB)
       generalize (((w41.setCell ⟨gb184, 0, none⟩ (.string ((rd_T67 l0_0 x11_1).f0.f0))).setCell ⟨gb184, 1, none⟩ (.string ((rd_T67 l0_0 x11_1).f0.f1))).setCell ⟨gb184, 2, none⟩ (.int .i64 ((rd_T67 l0_0 x11_1).f1))) = w44 at n0_ n1_ n2_ ⊢
       have BK182 := n0_
       have BK184 := n1_
       have HB := n2_
       clear n0_ n1_ n2_
       have n0_ := am (blk_drew BK182.out)
       have n1_ := am (blk_drew BK184.out)
       have n2_ := am (below_drew1 HB.out)
       clear BK182
       clear BK184
       clear HB
       have BK182 := n0_
       have BK184 := n1_
       have HB := n2_
       clear n0_ n1_ n2_
       refine start_ (n := 31) (S := fun w' => w'.cell? ⟨gb184, 0, none⟩ = some (.string ((rd_T67 l0_0 x11_1).f0.f0)) ∧ w'.cell? ⟨gb184, 1, none⟩ = some (.string ((rd_T67 l0_0 x11_1).f0.f1)) ∧ w'.cell? ⟨gb184, 2, none⟩ = some (.int .i64 ((rd_T67 l0_0 x11_1).f1))) (ds := []) #[F_, F_, F_, F_, F_, F_, F_, F_, F_, F_, F_, F_, F_, F_, F_, F_, F_, F_, F_, F_, F_, F_, F_, F_, F_, F_, F_, F_, F_, F_, F_] (by kernel_rfl) rfl rfl ⟨(blk_cell BK184.out 0).trans rfl, (blk_cell BK184.out 1).trans rfl, (blk_cell BK184.out 2).trans rfl⟩ (fun hHeld => ?_); refine with_tabW impl_BookRight.tab5 impl_BookRight.bits5 (fun HT_ HW_ => ?_)
       generalize w44.drew = w45 at BK182 BK184 HB hHeld ⊢
       refine pv 0 16 ?_
       refine tv3 1 17 hHeld ?_
       refine ov 2 18 (fun K hK => ?_)
       refine gk Tryd.func41 (impl_Spot_isRight.calls _ _ _ _ A7.out) ?_
       rintro e w46 ⟨rfl, hb⟩
       refine ⟨_, rfl, ?_⟩
       have n0_ := am (bkb BK182.out hb)
       have n1_ := am (bkb BK184.out hb)
       have n2_ := am (below_step bl hb)
       clear BK182
       clear BK184
       clear HB
       have BK182 := n0_
       have BK184 := n1_
       have HB := n2_
       clear n0_ n1_ n2_
       skip
       skip
       skip
       skip
       refine hK.out _ _ (cel3 BK184.out) (fun hHeld => ?_)
       clear hK K
       refine norm_ (a' := ?_) ?_ ?_
       rotate_left
       ·show Act.put _ (some 18) _ = _
        simp only [Act.put, z1, z2, z3, i64_w, i32_w]
        rfl
       refine pv 3 19 ?_
       refine pv 4 20 ?_
       refine pv 5 21 ?_
       refine tv3 6 22 hHeld ?_
       refine ov 7 23 (fun K hK => ?_)
       refine gk Tryd.func50 (impl_MoneyRight.calls _ _ _ A9.out) ?_
       rintro e w' ⟨rfl, ⟨nd, rfl⟩⟩
       refine ⟨_, rfl, ?_⟩
       refine hK.out _ _ (cel3 BK184.out) (fun hHeld => ?_)
       clear hK K
       refine norm_ (a' := ?_) ?_ ?_
       rotate_left
       ·show Act.put _ (some 23) _ = _
        simp only [Act.put, z1, z2, z3, i64_w, i32_w]
        rfl
       refine pv 8 24 ?_
       refine pv 9 25 ?_
       refine pv 10 26 ?_
       refine pv 11 27 ?_
       refine pv 12 28 ?_
       refine pv 13 29 ?_
       refine pure_ (i := 14) (N := some 30) (v := undef) (a' := ?_) #[T_, T_, T_, T_, T_, T_, T_, T_, T_, T_, T_, T_, T_, T_, T_, F_, F_, F_, F_, F_, F_, F_, F_, F_, F_, F_, F_, F_, F_, F_, F_] rfl rfl (any_of HT_.out (by kernel_rfl)) (fun _ _ _ h => h) (Or.inr ⟨by rfl, rfl⟩) ?_ ?_
       rotate_left
       ·simp only [Act.put, z1, z2, z3, i64_w, i32_w]
        rfl
       refine pure_ (i := 15) (N := some 31) (v := undef) (a' := ?_) #[T_, T_, T_, T_, T_, T_, T_, T_, T_, T_, T_, T_, T_, T_, T_, T_, F_, F_, F_, F_, F_, F_, F_, F_, F_, F_, F_, F_, F_, F_, F_] rfl rfl (any_of HT_.out (by kernel_rfl)) (fun _ _ _ h => h) (Or.inr ⟨by rfl, rfl⟩) ?_ ?_
       rotate_left
       ·simp only [Act.put, z1, z2, z3, i64_w, i32_w]
        rfl
       refine pure_ (i := 16) (N := some 32) (v := undef) (a' := ?_) #[T_, T_, T_, T_, T_, T_, T_, T_, T_, T_, T_, T_, T_, T_, T_, T_, T_, F_, F_, F_, F_, F_, F_, F_, F_, F_, F_, F_, F_, F_, F_] rfl rfl (any_of HT_.out (by kernel_rfl)) (fun _ _ _ h => h) (Or.inr ⟨by rfl, rfl⟩) ?_ ?_
       rotate_left
       ·simp only [Act.put, z1, z2, z3, i64_w, i32_w]
        rfl
       refine pure_ (i := 17) (N := some 33) (v := undef) (a' := ?_) #[T_, T_, T_, T_, T_, T_, T_, T_, T_, T_, T_, T_, T_, T_, T_, T_, T_, T_, F_, F_, F_, F_, F_, F_, F_, F_, F_, F_, F_, F_, F_] rfl rfl (any_of HT_.out (by kernel_rfl)) (fun _ _ _ h => h) (Or.inr ⟨by rfl, rfl⟩) ?_ ?_
       rotate_left
       ·simp only [Act.put, z1, z2, z3, i64_w, i32_w]
        rfl
       refine pure_ (i := 18) (N := some 34) (v := undef) (a' := ?_) #[T_, T_, T_, T_, T_, T_, T_, T_, T_, T_, T_, T_, T_, T_, T_, T_, T_, T_, T_, F_, F_, F_, F_, F_, F_, F_, F_, F_, F_, F_, F_] rfl rfl (any_of HT_.out (by kernel_rfl)) (fun _ _ _ h => h) (Or.inr ⟨by rfl, rfl⟩) ?_ ?_
       rotate_left
       ·simp only [Act.put, z1, z2, z3, i64_w, i32_w]
        rfl
       refine pure_ (i := 19) (N := some 35) (v := undef) (a' := ?_) #[T_, T_, T_, T_, T_, T_, T_, T_, T_, T_, T_, T_, T_, T_, T_, T_, T_, T_, T_, T_, F_, F_, F_, F_, F_, F_, F_, F_, F_, F_, F_] rfl rfl (any_of HT_.out (by kernel_rfl)) (fun _ _ _ h => h) (Or.inr ⟨by rfl, rfl⟩) ?_ ?_
       rotate_left
       ·simp only [Act.put, z1, z2, z3, i64_w, i32_w]
        rfl
       refine pure_ (i := 20) (N := some 36) (v := undef) (a' := ?_) #[T_, T_, T_, T_, T_, T_, T_, T_, T_, T_, T_, T_, T_, T_, T_, T_, T_, T_, T_, T_, T_, F_, F_, F_, F_, F_, F_, F_, F_, F_, F_] rfl rfl (any_of HT_.out (by kernel_rfl)) (fun _ _ _ h => h) (Or.inr ⟨by rfl, rfl⟩) ?_ ?_
       rotate_left
       ·simp only [Act.put, z1, z2, z3, i64_w, i32_w]
        rfl
       refine pure_ (i := 21) (N := some 37) (v := undef) (a' := ?_) #[T_, T_, T_, T_, T_, T_, T_, T_, T_, T_, T_, T_, T_, T_, T_, T_, T_, T_, T_, T_, T_, T_, F_, F_, F_, F_, F_, F_, F_, F_, F_] rfl rfl (any_of HT_.out (by kernel_rfl)) (fun _ _ _ h => h) (Or.inr ⟨by rfl, rfl⟩) ?_ ?_
       rotate_left
       ·simp only [Act.put, z1, z2, z3, i64_w, i32_w]
        rfl
       refine pure_ (i := 22) (N := some 38) (v := undef) (a' := ?_) #[T_, T_, T_, T_, T_, T_, T_, T_, T_, T_, T_, T_, T_, T_, T_, T_, T_, T_, T_, T_, T_, T_, T_, F_, F_, F_, F_, F_, F_, F_, F_] rfl rfl (any_of HT_.out (by kernel_rfl)) (fun _ _ _ h => h) (Or.inr ⟨by rfl, rfl⟩) ?_ ?_
       rotate_left
       ·simp only [Act.put, z1, z2, z3, i64_w, i32_w]
        rfl
       refine pure_ (i := 23) (N := some 39) (v := undef) (a' := ?_) #[T_, T_, T_, T_, T_, T_, T_, T_, T_, T_, T_, T_, T_, T_, T_, T_, T_, T_, T_, T_, T_, T_, T_, T_, F_, F_, F_, F_, F_, F_, F_] rfl rfl (any_of HT_.out (by kernel_rfl)) (fun _ _ _ h => h) (Or.inr ⟨by rfl, rfl⟩) ?_ ?_
       rotate_left
       ·simp only [Act.put, z1, z2, z3, i64_w, i32_w]
        rfl
       refine pure_ (i := 24) (N := some 40) (v := undef) (a' := ?_) #[T_, T_, T_, T_, T_, T_, T_, T_, T_, T_, T_, T_, T_, T_, T_, T_, T_, T_, T_, T_, T_, T_, T_, T_, T_, F_, F_, F_, F_, F_, F_] rfl rfl (any_of HT_.out (by kernel_rfl)) (fun _ _ _ h => h) (Or.inr ⟨by rfl, rfl⟩) ?_ ?_
       rotate_left
       ·simp only [Act.put, z1, z2, z3, i64_w, i32_w]
        rfl
       refine pv 25 41 ?_
       refine pv 26 42 ?_
       refine pv 27 43 ?_
       refine pv 28 44 ?_
       refine pv 29 45 ?_
       refine pv 30 46 ?_
       refine done_ (done_of HT_.out (by kernel_rfl)) ?_
       try go_wp2
       go_ret
       exact ⟨er, bl⟩
      have H' := am H; clear H
      have p183 : 0 ≤ (x11_1 : Int) := ode
      have q183 : x11_1 < (l0_0.length : Int) := ode
      obtain ⟨ad183, e183, hx183_0, hx183_1, hx183_2⟩ := at_T67 HR0_0.out x11_1 p183 q183
      cases e183
      obtain ⟨hx183_0, hx183_1, hx183_2⟩ := hb3 HB.out hx183_0 hx183_1 hx183_2
      replace p183 := eq_true p183
      replace q183 := eq_true q183
      try go_wp2_with (first | ((with_reducible refine gate_dst (N := 5) rfl ?_); (try (refine gate_guard (by rfl) ?_; dsimp only)); refine box_event ?hg (N := 5) ?hd (cs := #[.string (⟨#[]⟩ : ByteArray), .string (⟨#[]⟩ : ByteArray), .int .i64 0]) (t := 67) ?hr ?_; (case hd => rfl); (case hg => rfl); (case hr => first | (go_simp; done) | (go_simp; rfl)); intro gb184 hg w47 hbox hb; have BK184 := am (hbox); have GW184 := am (bsz hg : w.heap.size ≤ gb184); have GE184 := GW184; have NB182_184 := am (ne1 hg BK182.out); have NB184_182 := am NB182_184.out.symm; replace BK182 := am (bkb BK182.out hb); replace HB := am (below_step bl hb); clear hb hbox hg; have hnb48 := NB184_182.out; have hnc48 := NB182_184.out; obtain ⟨z49_0, z49_1, z49_2, y49_0, y49_1, y49_2⟩ := blk3 BK184.out))
      have n0_ : Aside0 ((((w47.setCell ⟨gb184, 0, none⟩ (.string ((rd_T67 l0_0 x11_1).f0.f0))).setCell ⟨gb184, 1, none⟩ (.string ((rd_T67 l0_0 x11_1).f0.f1))).setCell ⟨gb184, 2, none⟩ (.int .i64 ((rd_T67 l0_0 x11_1).f1))).heap[gb182]? = some (.cells #[.slice (some ad183) l0_0.length c0_0, .slice A0_1 l0_1.length c0_1] 43 (0, 0))) := ⟨bf BK182.out NB182_184.out⟩
      have n1_ : Aside0 ((((w47.setCell ⟨gb184, 0, none⟩ (.string ((rd_T67 l0_0 x11_1).f0.f0))).setCell ⟨gb184, 1, none⟩ (.string ((rd_T67 l0_0 x11_1).f0.f1))).setCell ⟨gb184, 2, none⟩ (.int .i64 ((rd_T67 l0_0 x11_1).f1))).heap[gb184]? = some (.cells #[.string ((rd_T67 l0_0 x11_1).f0.f0), .string ((rd_T67 l0_0 x11_1).f0.f1), .int .i64 ((rd_T67 l0_0 x11_1).f1)] 67 (0, 0))) := ⟨bp BK184.out⟩
      have n2_ : Aside0 (Below w.heap.size w (((w47.setCell ⟨gb184, 0, none⟩ (.string ((rd_T67 l0_0 x11_1).f0.f0))).setCell ⟨gb184, 1, none⟩ (.string ((rd_T67 l0_0 x11_1).f0.f1))).setCell ⟨gb184, 2, none⟩ (.int .i64 ((rd_T67 l0_0 x11_1).f1)))) := ⟨bl⟩
      (try clear BK182)
      (try clear BK184)
      (try clear HB)
      generalize (((w47.setCell ⟨gb184, 0, none⟩ (.string ((rd_T67 l0_0 x11_1).f0.f0))).setCell ⟨gb184, 1, none⟩ (.string ((rd_T67 l0_0 x11_1).f0.f1))).setCell ⟨gb184, 2, none⟩ (.int .i64 ((rd_T67 l0_0 x11_1).f1))) = w50 at n0_ n1_ n2_ ⊢
      have BK182 := n0_
      have BK184 := n1_
      have HB := n2_
      clear n0_ n1_ n2_
      have n0_ := am (blk_drew BK182.out)
      have n1_ := am (blk_drew BK184.out)
      have n2_ := am (below_drew1 HB.out)
      clear BK182
      clear BK184
      clear HB
      have BK182 := n0_
      have BK184 := n1_
      have HB := n2_
      clear n0_ n1_ n2_
      refine start_ (n := 31) (S := fun w' => w'.cell? ⟨gb184, 0, none⟩ = some (.string ((rd_T67 l0_0 x11_1).f0.f0)) ∧ w'.cell? ⟨gb184, 1, none⟩ = some (.string ((rd_T67 l0_0 x11_1).f0.f1)) ∧ w'.cell? ⟨gb184, 2, none⟩ = some (.int .i64 ((rd_T67 l0_0 x11_1).f1))) (ds := []) #[F_, F_, F_, F_, F_, F_, F_, F_, F_, F_, F_, F_, F_, F_, F_, F_, F_, F_, F_, F_, F_, F_, F_, F_, F_, F_, F_, F_, F_, F_, F_] (by kernel_rfl) rfl rfl ⟨(blk_cell BK184.out 0).trans rfl, (blk_cell BK184.out 1).trans rfl, (blk_cell BK184.out 2).trans rfl⟩ (fun hHeld => ?_); refine with_tabW impl_BookRight.tab5 impl_BookRight.bits5 (fun HT_ HW_ => ?_)
      generalize w50.drew = w51 at BK182 BK184 HB hHeld ⊢
      refine pv 0 16 ?_
      refine tv3 1 17 hHeld ?_
      refine ov 2 18 (fun K hK => ?_)
      refine gk Tryd.func41 (impl_Spot_isRight.calls _ _ _ _ A7.out) ?_
      rintro e w52 ⟨rfl, hb⟩
      refine ⟨_, rfl, ?_⟩
      have n0_ := am (bkb BK182.out hb)
      have n1_ := am (bkb BK184.out hb)
      have n2_ := am (below_step bl hb)
      clear BK182
      clear BK184
      clear HB
      have BK182 := n0_
      have BK184 := n1_
      have HB := n2_
      clear n0_ n1_ n2_
      skip
      skip
      skip
      skip
      refine hK.out _ _ (cel3 BK184.out) (fun hHeld => ?_)
      clear hK K
      refine norm_ (a' := ?_) ?_ ?_
      rotate_left
      ·show Act.put _ (some 18) _ = _
       simp only [Act.put, z1, z2, z3, i64_w, i32_w]
       rfl
      refine pv 3 19 ?_
      refine pv 4 20 ?_
      refine pv 5 21 ?_
      refine tv3 6 22 hHeld ?_
      refine ov 7 23 (fun K hK => ?_)
      refine gk Tryd.func50 (impl_MoneyRight.calls _ _ _ A9.out) ?_
      rintro e w' ⟨rfl, ⟨nd, rfl⟩⟩
      refine ⟨_, rfl, ?_⟩
      refine hK.out _ _ (cel3 BK184.out) (fun hHeld => ?_)
      clear hK K
      refine norm_ (a' := ?_) ?_ ?_
      rotate_left
      ·show Act.put _ (some 23) _ = _
       simp only [Act.put, z1, z2, z3, i64_w, i32_w]
       rfl
      refine pv 8 24 ?_
      refine pv 9 25 ?_
      refine pv 10 26 ?_
      refine pv 11 27 ?_
      refine pv 12 28 ?_
      refine pv 13 29 ?_
      refine pure_ (i := 14) (N := some 30) (v := undef) (a' := ?_) #[T_, T_, T_, T_, T_, T_, T_, T_, T_, T_, T_, T_, T_, T_, T_, F_, F_, F_, F_, F_, F_, F_, F_, F_, F_, F_, F_, F_, F_, F_, F_] rfl rfl (any_of HT_.out (by kernel_rfl)) (fun _ _ _ h => h) (Or.inr ⟨by rfl, rfl⟩) ?_ ?_
      rotate_left
      ·simp only [Act.put, z1, z2, z3, i64_w, i32_w]
       rfl
      refine pure_ (i := 15) (N := some 31) (v := undef) (a' := ?_) #[T_, T_, T_, T_, T_, T_, T_, T_, T_, T_, T_, T_, T_, T_, T_, T_, F_, F_, F_, F_, F_, F_, F_, F_, F_, F_, F_, F_, F_, F_, F_] rfl rfl (any_of HT_.out (by kernel_rfl)) (fun _ _ _ h => h) (Or.inr ⟨by rfl, rfl⟩) ?_ ?_
      rotate_left
      ·simp only [Act.put, z1, z2, z3, i64_w, i32_w]
       rfl
      refine pure_ (i := 16) (N := some 32) (v := undef) (a' := ?_) #[T_, T_, T_, T_, T_, T_, T_, T_, T_, T_, T_, T_, T_, T_, T_, T_, T_, F_, F_, F_, F_, F_, F_, F_, F_, F_, F_, F_, F_, F_, F_] rfl rfl (any_of HT_.out (by kernel_rfl)) (fun _ _ _ h => h) (Or.inr ⟨by rfl, rfl⟩) ?_ ?_
      rotate_left
      ·simp only [Act.put, z1, z2, z3, i64_w, i32_w]
       rfl
      refine pure_ (i := 17) (N := some 33) (v := undef) (a' := ?_) #[T_, T_, T_, T_, T_, T_, T_, T_, T_, T_, T_, T_, T_, T_, T_, T_, T_, T_, F_, F_, F_, F_, F_, F_, F_, F_, F_, F_, F_, F_, F_] rfl rfl (any_of HT_.out (by kernel_rfl)) (fun _ _ _ h => h) (Or.inr ⟨by rfl, rfl⟩) ?_ ?_
      rotate_left
      ·simp only [Act.put, z1, z2, z3, i64_w, i32_w]
       rfl
      refine pure_ (i := 18) (N := some 34) (v := undef) (a' := ?_) #[T_, T_, T_, T_, T_, T_, T_, T_, T_, T_, T_, T_, T_, T_, T_, T_, T_, T_, T_, F_, F_, F_, F_, F_, F_, F_, F_, F_, F_, F_, F_] rfl rfl (any_of HT_.out (by kernel_rfl)) (fun _ _ _ h => h) (Or.inr ⟨by rfl, rfl⟩) ?_ ?_
      rotate_left
      ·simp only [Act.put, z1, z2, z3, i64_w, i32_w]
       rfl
      refine pure_ (i := 19) (N := some 35) (v := undef) (a' := ?_) #[T_, T_, T_, T_, T_, T_, T_, T_, T_, T_, T_, T_, T_, T_, T_, T_, T_, T_, T_, T_, F_, F_, F_, F_, F_, F_, F_, F_, F_, F_, F_] rfl rfl (any_of HT_.out (by kernel_rfl)) (fun _ _ _ h => h) (Or.inr ⟨by rfl, rfl⟩) ?_ ?_
      rotate_left
      ·simp only [Act.put, z1, z2, z3, i64_w, i32_w]
       rfl
      refine pure_ (i := 20) (N := some 36) (v := undef) (a' := ?_) #[T_, T_, T_, T_, T_, T_, T_, T_, T_, T_, T_, T_, T_, T_, T_, T_, T_, T_, T_, T_, T_, F_, F_, F_, F_, F_, F_, F_, F_, F_, F_] rfl rfl (any_of HT_.out (by kernel_rfl)) (fun _ _ _ h => h) (Or.inr ⟨by rfl, rfl⟩) ?_ ?_
      rotate_left
      ·simp only [Act.put, z1, z2, z3, i64_w, i32_w]
       rfl
      refine pure_ (i := 21) (N := some 37) (v := undef) (a' := ?_) #[T_, T_, T_, T_, T_, T_, T_, T_, T_, T_, T_, T_, T_, T_, T_, T_, T_, T_, T_, T_, T_, T_, F_, F_, F_, F_, F_, F_, F_, F_, F_] rfl rfl (any_of HT_.out (by kernel_rfl)) (fun _ _ _ h => h) (Or.inr ⟨by rfl, rfl⟩) ?_ ?_
      rotate_left
      ·simp only [Act.put, z1, z2, z3, i64_w, i32_w]
       rfl
      refine pure_ (i := 22) (N := some 38) (v := undef) (a' := ?_) #[T_, T_, T_, T_, T_, T_, T_, T_, T_, T_, T_, T_, T_, T_, T_, T_, T_, T_, T_, T_, T_, T_, T_, F_, F_, F_, F_, F_, F_, F_, F_] rfl rfl (any_of HT_.out (by kernel_rfl)) (fun _ _ _ h => h) (Or.inr ⟨by rfl, rfl⟩) ?_ ?_
      rotate_left
      ·simp only [Act.put, z1, z2, z3, i64_w, i32_w]
       rfl
      refine pure_ (i := 23) (N := some 39) (v := undef) (a' := ?_) #[T_, T_, T_, T_, T_, T_, T_, T_, T_, T_, T_, T_, T_, T_, T_, T_, T_, T_, T_, T_, T_, T_, T_, T_, F_, F_, F_, F_, F_, F_, F_] rfl rfl (any_of HT_.out (by kernel_rfl)) (fun _ _ _ h => h) (Or.inr ⟨by rfl, rfl⟩) ?_ ?_
      rotate_left
      ·simp only [Act.put, z1, z2, z3, i64_w, i32_w]
       rfl
      refine pure_ (i := 24) (N := some 40) (v := undef) (a' := ?_) #[T_, T_, T_, T_, T_, T_, T_, T_, T_, T_, T_, T_, T_, T_, T_, T_, T_, T_, T_, T_, T_, T_, T_, T_, T_, F_, F_, F_, F_, F_, F_] rfl rfl (any_of HT_.out (by kernel_rfl)) (fun _ _ _ h => h) (Or.inr ⟨by rfl, rfl⟩) ?_ ?_
      rotate_left
      ·simp only [Act.put, z1, z2, z3, i64_w, i32_w]
       rfl
      refine pv 25 41 ?_
      refine pv 26 42 ?_
      refine pv 27 43 ?_
      refine pv 28 44 ?_
      refine pv 29 45 ?_
      refine pv 30 46 ?_
      refine done_ (done_of HT_.out (by kernel_rfl)) ?_
      obtain ⟨z53_0, z53_1, z53_2, y53_0, y53_1, y53_2⟩ := blk3 BK184.out
      try go_wp2
      go_roundg k1
      case measure => have := HK1.out; omega
      case rel => exact ⟨(wrap64 (x3_1 + ((rd_T67 l0_0 x11_1).f1))), (wrap64 (x11_1 + 1)), rs, rs, H', ⟨by have := HK1.out; omega⟩, ⟨bk BK182.out⟩, ⟨bl⟩⟩
     obtain rfl := Option.some.inj H
     have p183 : 0 ≤ (x11_1 : Int) := ode
     have q183 : x11_1 < (l0_0.length : Int) := ode
     obtain ⟨ad183, e183, hx183_0, hx183_1, hx183_2⟩ := at_T67 HR0_0.out x11_1 p183 q183
     cases e183
     obtain ⟨hx183_0, hx183_1, hx183_2⟩ := hb3 HB.out hx183_0 hx183_1 hx183_2
     replace p183 := eq_true p183
     replace q183 := eq_true q183
     try go_wp2_with (first | ((with_reducible refine gate_dst (N := 5) rfl ?_); (try (refine gate_guard (by rfl) ?_; dsimp only)); refine box_event ?hg (N := 5) ?hd (cs := #[.string (⟨#[]⟩ : ByteArray), .string (⟨#[]⟩ : ByteArray), .int .i64 0]) (t := 67) ?hr ?_; (case hd => rfl); (case hg => rfl); (case hr => first | (go_simp; done) | (go_simp; rfl)); intro gb184 hg w54 hbox hb; have BK184 := am (hbox); have GW184 := am (bsz hg : w.heap.size ≤ gb184); have GE184 := GW184; have NB182_184 := am (ne1 hg BK182.out); have NB184_182 := am NB182_184.out.symm; replace BK182 := am (bkb BK182.out hb); replace HB := am (below_step bl hb); clear hb hbox hg; have hnb55 := NB184_182.out; have hnc55 := NB182_184.out; obtain ⟨z56_0, z56_1, z56_2, y56_0, y56_1, y56_2⟩ := blk3 BK184.out))
     have n0_ : Aside0 ((((w54.setCell ⟨gb184, 0, none⟩ (.string ((rd_T67 l0_0 x11_1).f0.f0))).setCell ⟨gb184, 1, none⟩ (.string ((rd_T67 l0_0 x11_1).f0.f1))).setCell ⟨gb184, 2, none⟩ (.int .i64 ((rd_T67 l0_0 x11_1).f1))).heap[gb182]? = some (.cells #[.slice (some ad183) l0_0.length c0_0, .slice A0_1 l0_1.length c0_1] 43 (0, 0))) := ⟨bf BK182.out NB182_184.out⟩
     have n1_ : Aside0 ((((w54.setCell ⟨gb184, 0, none⟩ (.string ((rd_T67 l0_0 x11_1).f0.f0))).setCell ⟨gb184, 1, none⟩ (.string ((rd_T67 l0_0 x11_1).f0.f1))).setCell ⟨gb184, 2, none⟩ (.int .i64 ((rd_T67 l0_0 x11_1).f1))).heap[gb184]? = some (.cells #[.string ((rd_T67 l0_0 x11_1).f0.f0), .string ((rd_T67 l0_0 x11_1).f0.f1), .int .i64 ((rd_T67 l0_0 x11_1).f1)] 67 (0, 0))) := ⟨bp BK184.out⟩
     have n2_ : Aside0 (Below w.heap.size w (((w54.setCell ⟨gb184, 0, none⟩ (.string ((rd_T67 l0_0 x11_1).f0.f0))).setCell ⟨gb184, 1, none⟩ (.string ((rd_T67 l0_0 x11_1).f0.f1))).setCell ⟨gb184, 2, none⟩ (.int .i64 ((rd_T67 l0_0 x11_1).f1)))) := ⟨bl⟩
     (try clear BK182)
     (try clear BK184)
     (try clear HB)
     generalize (((w54.setCell ⟨gb184, 0, none⟩ (.string ((rd_T67 l0_0 x11_1).f0.f0))).setCell ⟨gb184, 1, none⟩ (.string ((rd_T67 l0_0 x11_1).f0.f1))).setCell ⟨gb184, 2, none⟩ (.int .i64 ((rd_T67 l0_0 x11_1).f1))) = w57 at n0_ n1_ n2_ ⊢
     have BK182 := n0_
     have BK184 := n1_
     have HB := n2_
     clear n0_ n1_ n2_
     have n0_ := am (blk_drew BK182.out)
     have n1_ := am (blk_drew BK184.out)
     have n2_ := am (below_drew1 HB.out)
     clear BK182
     clear BK184
     clear HB
     have BK182 := n0_
     have BK184 := n1_
     have HB := n2_
     clear n0_ n1_ n2_
     refine start_ (n := 31) (S := fun w' => w'.cell? ⟨gb184, 0, none⟩ = some (.string ((rd_T67 l0_0 x11_1).f0.f0)) ∧ w'.cell? ⟨gb184, 1, none⟩ = some (.string ((rd_T67 l0_0 x11_1).f0.f1)) ∧ w'.cell? ⟨gb184, 2, none⟩ = some (.int .i64 ((rd_T67 l0_0 x11_1).f1))) (ds := []) #[F_, F_, F_, F_, F_, F_, F_, F_, F_, F_, F_, F_, F_, F_, F_, F_, F_, F_, F_, F_, F_, F_, F_, F_, F_, F_, F_, F_, F_, F_, F_] (by kernel_rfl) rfl rfl ⟨(blk_cell BK184.out 0).trans rfl, (blk_cell BK184.out 1).trans rfl, (blk_cell BK184.out 2).trans rfl⟩ (fun hHeld => ?_); refine with_tabW impl_BookRight.tab5 impl_BookRight.bits5 (fun HT_ HW_ => ?_)
     generalize w57.drew = w58 at BK182 BK184 HB hHeld ⊢
     refine pv 0 16 ?_
     refine tv3 1 17 hHeld ?_
     refine ov 2 18 (fun K hK => ?_)
     refine gk Tryd.func41 (impl_Spot_isRight.calls _ _ _ _ A7.out) ?_
     rintro e w59 ⟨rfl, hb⟩
     refine ⟨_, rfl, ?_⟩
     have n0_ := am (bkb BK182.out hb)
     have n1_ := am (bkb BK184.out hb)
     have n2_ := am (below_step bl hb)
     clear BK182
     clear BK184
     clear HB
     have BK182 := n0_
     have BK184 := n1_
     have HB := n2_
     clear n0_ n1_ n2_
     skip
     skip
     skip
     skip
     refine hK.out _ _ (cel3 BK184.out) (fun hHeld => ?_)
     clear hK K
     refine norm_ (a' := ?_) ?_ ?_
     rotate_left
     ·show Act.put _ (some 18) _ = _
      simp only [Act.put, z1, z2, z3, i64_w, i32_w]
      rfl
     refine pv 3 19 ?_
     refine pv 4 20 ?_
     refine pv 5 21 ?_
     refine tv3 6 22 hHeld ?_
     refine ov 7 23 (fun K hK => ?_)
     refine gk Tryd.func50 (impl_MoneyRight.calls _ _ _ A9.out) ?_
     rintro e w' ⟨rfl, ⟨nd, rfl⟩⟩
     refine ⟨_, rfl, ?_⟩
     refine hK.out _ _ (cel3 BK184.out) (fun hHeld => ?_)
     clear hK K
     refine norm_ (a' := ?_) ?_ ?_
     rotate_left
     ·show Act.put _ (some 23) _ = _
      simp only [Act.put, z1, z2, z3, i64_w, i32_w]
      rfl
     refine pv 8 24 ?_
     refine pv 9 25 ?_
     refine pv 10 26 ?_
     refine pure_ (i := 11) (N := some 27) (v := undef) (a' := ?_) #[T_, T_, T_, T_, T_, T_, T_, T_, T_, T_, T_, T_, F_, F_, F_, F_, F_, F_, F_, F_, F_, F_, F_, F_, F_, F_, F_, F_, F_, F_, F_] rfl rfl (any_of HT_.out (by kernel_rfl)) (fun _ _ _ h => h) (Or.inr ⟨by rfl, rfl⟩) ?_ ?_
     rotate_left
     ·simp only [Act.put, z1, z2, z3, i64_w, i32_w]
      rfl
     refine pure_ (i := 12) (N := some 28) (v := undef) (a' := ?_) #[T_, T_, T_, T_, T_, T_, T_, T_, T_, T_, T_, T_, T_, F_, F_, F_, F_, F_, F_, F_, F_, F_, F_, F_, F_, F_, F_, F_, F_, F_, F_] rfl rfl (any_of HT_.out (by kernel_rfl)) (fun _ _ _ h => h) (Or.inr ⟨by rfl, rfl⟩) ?_ ?_
     rotate_left
     ·simp only [Act.put, z1, z2, z3, i64_w, i32_w]
      rfl
     refine pure_ (i := 13) (N := some 29) (v := undef) (a' := ?_) #[T_, T_, T_, T_, T_, T_, T_, T_, T_, T_, T_, T_, T_, T_, F_, F_, F_, F_, F_, F_, F_, F_, F_, F_, F_, F_, F_, F_, F_, F_, F_] rfl rfl (any_of HT_.out (by kernel_rfl)) (fun _ _ _ h => h) (Or.inr ⟨by rfl, rfl⟩) ?_ ?_
     rotate_left
     ·simp only [Act.put, z1, z2, z3, i64_w, i32_w]
      rfl
     refine pure_ (i := 14) (N := some 30) (v := undef) (a' := ?_) #[T_, T_, T_, T_, T_, T_, T_, T_, T_, T_, T_, T_, T_, T_, T_, F_, F_, F_, F_, F_, F_, F_, F_, F_, F_, F_, F_, F_, F_, F_, F_] rfl rfl (any_of HT_.out (by kernel_rfl)) (fun _ _ _ h => h) (Or.inr ⟨by rfl, rfl⟩) ?_ ?_
     rotate_left
     ·simp only [Act.put, z1, z2, z3, i64_w, i32_w]
      rfl
     refine pure_ (i := 15) (N := some 31) (v := undef) (a' := ?_) #[T_, T_, T_, T_, T_, T_, T_, T_, T_, T_, T_, T_, T_, T_, T_, T_, F_, F_, F_, F_, F_, F_, F_, F_, F_, F_, F_, F_, F_, F_, F_] rfl rfl (any_of HT_.out (by kernel_rfl)) (fun _ _ _ h => h) (Or.inr ⟨by rfl, rfl⟩) ?_ ?_
     rotate_left
     ·simp only [Act.put, z1, z2, z3, i64_w, i32_w]
      rfl
     refine pure_ (i := 16) (N := some 32) (v := undef) (a' := ?_) #[T_, T_, T_, T_, T_, T_, T_, T_, T_, T_, T_, T_, T_, T_, T_, T_, T_, F_, F_, F_, F_, F_, F_, F_, F_, F_, F_, F_, F_, F_, F_] rfl rfl (any_of HT_.out (by kernel_rfl)) (fun _ _ _ h => h) (Or.inr ⟨by rfl, rfl⟩) ?_ ?_
     rotate_left
     ·simp only [Act.put, z1, z2, z3, i64_w, i32_w]
      rfl
     refine pure_ (i := 17) (N := some 33) (v := undef) (a' := ?_) #[T_, T_, T_, T_, T_, T_, T_, T_, T_, T_, T_, T_, T_, T_, T_, T_, T_, T_, F_, F_, F_, F_, F_, F_, F_, F_, F_, F_, F_, F_, F_] rfl rfl (any_of HT_.out (by kernel_rfl)) (fun _ _ _ h => h) (Or.inr ⟨by rfl, rfl⟩) ?_ ?_
     rotate_left
     ·simp only [Act.put, z1, z2, z3, i64_w, i32_w]
      rfl
     refine pure_ (i := 18) (N := some 34) (v := undef) (a' := ?_) #[T_, T_, T_, T_, T_, T_, T_, T_, T_, T_, T_, T_, T_, T_, T_, T_, T_, T_, T_, F_, F_, F_, F_, F_, F_, F_, F_, F_, F_, F_, F_] rfl rfl (any_of HT_.out (by kernel_rfl)) (fun _ _ _ h => h) (Or.inr ⟨by rfl, rfl⟩) ?_ ?_
     rotate_left
     ·simp only [Act.put, z1, z2, z3, i64_w, i32_w]
      rfl
     refine pure_ (i := 19) (N := some 35) (v := undef) (a' := ?_) #[T_, T_, T_, T_, T_, T_, T_, T_, T_, T_, T_, T_, T_, T_, T_, T_, T_, T_, T_, T_, F_, F_, F_, F_, F_, F_, F_, F_, F_, F_, F_] rfl rfl (any_of HT_.out (by kernel_rfl)) (fun _ _ _ h => h) (Or.inr ⟨by rfl, rfl⟩) ?_ ?_
     rotate_left
     ·simp only [Act.put, z1, z2, z3, i64_w, i32_w]
      rfl
     refine pure_ (i := 20) (N := some 36) (v := undef) (a' := ?_) #[T_, T_, T_, T_, T_, T_, T_, T_, T_, T_, T_, T_, T_, T_, T_, T_, T_, T_, T_, T_, T_, F_, F_, F_, F_, F_, F_, F_, F_, F_, F_] rfl rfl (any_of HT_.out (by kernel_rfl)) (fun _ _ _ h => h) (Or.inr ⟨by rfl, rfl⟩) ?_ ?_
     rotate_left
     ·simp only [Act.put, z1, z2, z3, i64_w, i32_w]
      rfl
     refine pure_ (i := 21) (N := some 37) (v := undef) (a' := ?_) #[T_, T_, T_, T_, T_, T_, T_, T_, T_, T_, T_, T_, T_, T_, T_, T_, T_, T_, T_, T_, T_, T_, F_, F_, F_, F_, F_, F_, F_, F_, F_] rfl rfl (any_of HT_.out (by kernel_rfl)) (fun _ _ _ h => h) (Or.inr ⟨by rfl, rfl⟩) ?_ ?_
     rotate_left
     ·simp only [Act.put, z1, z2, z3, i64_w, i32_w]
      rfl
     refine pure_ (i := 22) (N := some 38) (v := undef) (a' := ?_) #[T_, T_, T_, T_, T_, T_, T_, T_, T_, T_, T_, T_, T_, T_, T_, T_, T_, T_, T_, T_, T_, T_, T_, F_, F_, F_, F_, F_, F_, F_, F_] rfl rfl (any_of HT_.out (by kernel_rfl)) (fun _ _ _ h => h) (Or.inr ⟨by rfl, rfl⟩) ?_ ?_
     rotate_left
     ·simp only [Act.put, z1, z2, z3, i64_w, i32_w]
      rfl
     refine pure_ (i := 23) (N := some 39) (v := undef) (a' := ?_) #[T_, T_, T_, T_, T_, T_, T_, T_, T_, T_, T_, T_, T_, T_, T_, T_, T_, T_, T_, T_, T_, T_, T_, T_, F_, F_, F_, F_, F_, F_, F_] rfl rfl (any_of HT_.out (by kernel_rfl)) (fun _ _ _ h => h) (Or.inr ⟨by rfl, rfl⟩) ?_ ?_
     rotate_left
     ·simp only [Act.put, z1, z2, z3, i64_w, i32_w]
      rfl
     refine pure_ (i := 24) (N := some 40) (v := undef) (a' := ?_) #[T_, T_, T_, T_, T_, T_, T_, T_, T_, T_, T_, T_, T_, T_, T_, T_, T_, T_, T_, T_, T_, T_, T_, T_, T_, F_, F_, F_, F_, F_, F_] rfl rfl (any_of HT_.out (by kernel_rfl)) (fun _ _ _ h => h) (Or.inr ⟨by rfl, rfl⟩) ?_ ?_
     rotate_left
     ·simp only [Act.put, z1, z2, z3, i64_w, i32_w]
      rfl
     refine pure_ (i := 25) (N := some 41) (v := undef) (a' := ?_) #[T_, T_, T_, T_, T_, T_, T_, T_, T_, T_, T_, T_, T_, T_, T_, T_, T_, T_, T_, T_, T_, T_, T_, T_, T_, T_, F_, F_, F_, F_, F_] rfl rfl (any_of HT_.out (by kernel_rfl)) (fun _ _ _ h => h) (Or.inr ⟨by rfl, rfl⟩) ?_ ?_
     rotate_left
     ·simp only [Act.put, z1, z2, z3, i64_w, i32_w]
      rfl
     refine pv 26 42 ?_
     refine pv 27 43 ?_
     refine pure_ (i := 28) (N := some 44) (v := undef) (a' := ?_) #[T_, T_, T_, T_, T_, T_, T_, T_, T_, T_, T_, T_, T_, T_, T_, T_, T_, T_, T_, T_, T_, T_, T_, T_, T_, T_, T_, T_, T_, F_, F_] rfl rfl (any_of HT_.out (by kernel_rfl)) (fun _ _ _ h => h) (Or.inr ⟨by rfl, rfl⟩) ?_ ?_
     rotate_left
     ·simp only [Act.put, z1, z2, z3, i64_w, i32_w]
      rfl
     refine pure_ (i := 29) (N := some 45) (v := undef) (a' := ?_) #[T_, T_, T_, T_, T_, T_, T_, T_, T_, T_, T_, T_, T_, T_, T_, T_, T_, T_, T_, T_, T_, T_, T_, T_, T_, T_, T_, T_, T_, T_, F_] rfl rfl (any_of HT_.out (by kernel_rfl)) (fun _ _ _ h => h) (Or.inr ⟨by rfl, rfl⟩) ?_ ?_
     rotate_left
     ·simp only [Act.put, z1, z2, z3, i64_w, i32_w]
      rfl
     refine pv 30 46 ?_
     refine done_ (done_of HT_.out (by kernel_rfl)) ?_
     try go_wp2
     go_ret
     exact ⟨er, bl⟩
    obtain rfl := Option.some.inj H
    have p183 : 0 ≤ (x11_1 : Int) := ode
    have q183 : x11_1 < (l0_0.length : Int) := ode
    obtain ⟨ad183, e183, hx183_0, hx183_1, hx183_2⟩ := at_T67 HR0_0.out x11_1 p183 q183
    cases e183
    obtain ⟨hx183_0, hx183_1, hx183_2⟩ := hb3 HB.out hx183_0 hx183_1 hx183_2
    replace p183 := eq_true p183
    replace q183 := eq_true q183
    try go_wp2_with (first | ((with_reducible refine gate_dst (N := 5) rfl ?_); (try (refine gate_guard (by rfl) ?_; dsimp only)); refine box_event ?hg (N := 5) ?hd (cs := #[.string (⟨#[]⟩ : ByteArray), .string (⟨#[]⟩ : ByteArray), .int .i64 0]) (t := 67) ?hr ?_; (case hd => rfl); (case hg => rfl); (case hr => first | (go_simp; done) | (go_simp; rfl)); intro gb184 hg w60 hbox hb; have BK184 := am (hbox); have GW184 := am (bsz hg : w.heap.size ≤ gb184); have GE184 := GW184; have NB182_184 := am (ne1 hg BK182.out); have NB184_182 := am NB182_184.out.symm; replace BK182 := am (bkb BK182.out hb); replace HB := am (below_step bl hb); clear hb hbox hg; have hnb61 := NB184_182.out; have hnc61 := NB182_184.out; obtain ⟨z62_0, z62_1, z62_2, y62_0, y62_1, y62_2⟩ := blk3 BK184.out))
    have n0_ : Aside0 ((((w60.setCell ⟨gb184, 0, none⟩ (.string ((rd_T67 l0_0 x11_1).f0.f0))).setCell ⟨gb184, 1, none⟩ (.string ((rd_T67 l0_0 x11_1).f0.f1))).setCell ⟨gb184, 2, none⟩ (.int .i64 ((rd_T67 l0_0 x11_1).f1))).heap[gb182]? = some (.cells #[.slice (some ad183) l0_0.length c0_0, .slice A0_1 l0_1.length c0_1] 43 (0, 0))) := ⟨bf BK182.out NB182_184.out⟩
    have n1_ : Aside0 ((((w60.setCell ⟨gb184, 0, none⟩ (.string ((rd_T67 l0_0 x11_1).f0.f0))).setCell ⟨gb184, 1, none⟩ (.string ((rd_T67 l0_0 x11_1).f0.f1))).setCell ⟨gb184, 2, none⟩ (.int .i64 ((rd_T67 l0_0 x11_1).f1))).heap[gb184]? = some (.cells #[.string ((rd_T67 l0_0 x11_1).f0.f0), .string ((rd_T67 l0_0 x11_1).f0.f1), .int .i64 ((rd_T67 l0_0 x11_1).f1)] 67 (0, 0))) := ⟨bp BK184.out⟩
    have n2_ : Aside0 (Below w.heap.size w (((w60.setCell ⟨gb184, 0, none⟩ (.string ((rd_T67 l0_0 x11_1).f0.f0))).setCell ⟨gb184, 1, none⟩ (.string ((rd_T67 l0_0 x11_1).f0.f1))).setCell ⟨gb184, 2, none⟩ (.int .i64 ((rd_T67 l0_0 x11_1).f1)))) := ⟨bl⟩
    (try clear BK182)
    (try clear BK184)
    (try clear HB)
    generalize (((w60.setCell ⟨gb184, 0, none⟩ (.string ((rd_T67 l0_0 x11_1).f0.f0))).setCell ⟨gb184, 1, none⟩ (.string ((rd_T67 l0_0 x11_1).f0.f1))).setCell ⟨gb184, 2, none⟩ (.int .i64 ((rd_T67 l0_0 x11_1).f1))) = w63 at n0_ n1_ n2_ ⊢
    have BK182 := n0_
    have BK184 := n1_
    have HB := n2_
    clear n0_ n1_ n2_
    have n0_ := am (blk_drew BK182.out)
    have n1_ := am (blk_drew BK184.out)
    have n2_ := am (below_drew1 HB.out)
    clear BK182
    clear BK184
    clear HB
    have BK182 := n0_
    have BK184 := n1_
    have HB := n2_
    clear n0_ n1_ n2_
    refine start_ (n := 31) (S := fun w' => w'.cell? ⟨gb184, 0, none⟩ = some (.string ((rd_T67 l0_0 x11_1).f0.f0)) ∧ w'.cell? ⟨gb184, 1, none⟩ = some (.string ((rd_T67 l0_0 x11_1).f0.f1)) ∧ w'.cell? ⟨gb184, 2, none⟩ = some (.int .i64 ((rd_T67 l0_0 x11_1).f1))) (ds := []) #[F_, F_, F_, F_, F_, F_, F_, F_, F_, F_, F_, F_, F_, F_, F_, F_, F_, F_, F_, F_, F_, F_, F_, F_, F_, F_, F_, F_, F_, F_, F_] (by kernel_rfl) rfl rfl ⟨(blk_cell BK184.out 0).trans rfl, (blk_cell BK184.out 1).trans rfl, (blk_cell BK184.out 2).trans rfl⟩ (fun hHeld => ?_); refine with_tabW impl_BookRight.tab5 impl_BookRight.bits5 (fun HT_ HW_ => ?_)
    generalize w63.drew = w64 at BK182 BK184 HB hHeld ⊢
    refine pv 0 16 ?_
    refine tv3 1 17 hHeld ?_
    refine ov 2 18 (fun K hK => ?_)
    refine gk Tryd.func41 (impl_Spot_isRight.calls _ _ _ _ A7.out) ?_
    rintro e w65 ⟨rfl, hb⟩
    refine ⟨_, rfl, ?_⟩
    have n0_ := am (bkb BK182.out hb)
    have n1_ := am (bkb BK184.out hb)
    have n2_ := am (below_step bl hb)
    clear BK182
    clear BK184
    clear HB
    have BK182 := n0_
    have BK184 := n1_
    have HB := n2_
    clear n0_ n1_ n2_
    skip
    skip
    skip
    skip
    refine hK.out _ _ (cel3 BK184.out) (fun hHeld => ?_)
    clear hK K
    refine norm_ (a' := ?_) ?_ ?_
    rotate_left
    ·show Act.put _ (some 18) _ = _
     simp only [Act.put, z1, z2, z3, i64_w, i32_w]
     rfl
    refine pv 3 19 ?_
    refine pv 4 20 ?_
    refine pure_ (i := 5) (N := some 21) (v := undef) (a' := ?_) #[T_, T_, T_, T_, T_, T_, F_, F_, F_, F_, F_, F_, F_, F_, F_, F_, F_, F_, F_, F_, F_, F_, F_, F_, F_, F_, F_, F_, F_, F_, F_] rfl rfl (any_of HT_.out (by kernel_rfl)) (fun _ _ _ h => h) (Or.inr ⟨by rfl, rfl⟩) ?_ ?_
    rotate_left
    ·simp only [Act.put, z1, z2, z3, i64_w, i32_w]
     rfl
    refine pure_ (i := 6) (N := some 22) (v := undef) (a' := ?_) #[T_, T_, T_, T_, T_, T_, T_, F_, F_, F_, F_, F_, F_, F_, F_, F_, F_, F_, F_, F_, F_, F_, F_, F_, F_, F_, F_, F_, F_, F_, F_] rfl rfl (any_of HT_.out (by kernel_rfl)) (fun _ _ _ h => h) (Or.inr ⟨by rfl, rfl⟩) ?_ ?_
    rotate_left
    ·simp only [Act.put, z1, z2, z3, i64_w, i32_w]
     rfl
    refine pure_ (i := 7) (N := some 23) (v := undef) (a' := ?_) #[T_, T_, T_, T_, T_, T_, T_, T_, F_, F_, F_, F_, F_, F_, F_, F_, F_, F_, F_, F_, F_, F_, F_, F_, F_, F_, F_, F_, F_, F_, F_] rfl rfl (any_of HT_.out (by kernel_rfl)) (fun _ _ _ h => h) (Or.inr ⟨by rfl, rfl⟩) ?_ ?_
    rotate_left
    ·simp only [Act.put, z1, z2, z3, i64_w, i32_w]
     rfl
    refine pure_ (i := 8) (N := some 24) (v := undef) (a' := ?_) #[T_, T_, T_, T_, T_, T_, T_, T_, T_, F_, F_, F_, F_, F_, F_, F_, F_, F_, F_, F_, F_, F_, F_, F_, F_, F_, F_, F_, F_, F_, F_] rfl rfl (any_of HT_.out (by kernel_rfl)) (fun _ _ _ h => h) (Or.inr ⟨by rfl, rfl⟩) ?_ ?_
    rotate_left
    ·simp only [Act.put, z1, z2, z3, i64_w, i32_w]
     rfl
    refine pv 9 25 ?_
    refine pv 10 26 ?_
    refine pure_ (i := 11) (N := some 27) (v := undef) (a' := ?_) #[T_, T_, T_, T_, T_, T_, T_, T_, T_, T_, T_, T_, F_, F_, F_, F_, F_, F_, F_, F_, F_, F_, F_, F_, F_, F_, F_, F_, F_, F_, F_] rfl rfl (any_of HT_.out (by kernel_rfl)) (fun _ _ _ h => h) (Or.inr ⟨by rfl, rfl⟩) ?_ ?_
    rotate_left
    ·simp only [Act.put, z1, z2, z3, i64_w, i32_w]
     rfl
    refine pure_ (i := 12) (N := some 28) (v := undef) (a' := ?_) #[T_, T_, T_, T_, T_, T_, T_, T_, T_, T_, T_, T_, T_, F_, F_, F_, F_, F_, F_, F_, F_, F_, F_, F_, F_, F_, F_, F_, F_, F_, F_] rfl rfl (any_of HT_.out (by kernel_rfl)) (fun _ _ _ h => h) (Or.inr ⟨by rfl, rfl⟩) ?_ ?_
    rotate_left
    ·simp only [Act.put, z1, z2, z3, i64_w, i32_w]
     rfl
    refine pure_ (i := 13) (N := some 29) (v := undef) (a' := ?_) #[T_, T_, T_, T_, T_, T_, T_, T_, T_, T_, T_, T_, T_, T_, F_, F_, F_, F_, F_, F_, F_, F_, F_, F_, F_, F_, F_, F_, F_, F_, F_] rfl rfl (any_of HT_.out (by kernel_rfl)) (fun _ _ _ h => h) (Or.inr ⟨by rfl, rfl⟩) ?_ ?_
    rotate_left
    ·simp only [Act.put, z1, z2, z3, i64_w, i32_w]
     rfl
    refine pure_ (i := 14) (N := some 30) (v := undef) (a' := ?_) #[T_, T_, T_, T_, T_, T_, T_, T_, T_, T_, T_, T_, T_, T_, T_, F_, F_, F_, F_, F_, F_, F_, F_, F_, F_, F_, F_, F_, F_, F_, F_] rfl rfl (any_of HT_.out (by kernel_rfl)) (fun _ _ _ h => h) (Or.inr ⟨by rfl, rfl⟩) ?_ ?_
    rotate_left
    ·simp only [Act.put, z1, z2, z3, i64_w, i32_w]
     rfl
    refine pure_ (i := 15) (N := some 31) (v := undef) (a' := ?_) #[T_, T_, T_, T_, T_, T_, T_, T_, T_, T_, T_, T_, T_, T_, T_, T_, F_, F_, F_, F_, F_, F_, F_, F_, F_, F_, F_, F_, F_, F_, F_] rfl rfl (any_of HT_.out (by kernel_rfl)) (fun _ _ _ h => h) (Or.inr ⟨by rfl, rfl⟩) ?_ ?_
    rotate_left
    ·simp only [Act.put, z1, z2, z3, i64_w, i32_w]
     rfl
    refine pure_ (i := 16) (N := some 32) (v := undef) (a' := ?_) #[T_, T_, T_, T_, T_, T_, T_, T_, T_, T_, T_, T_, T_, T_, T_, T_, T_, F_, F_, F_, F_, F_, F_, F_, F_, F_, F_, F_, F_, F_, F_] rfl rfl (any_of HT_.out (by kernel_rfl)) (fun _ _ _ h => h) (Or.inr ⟨by rfl, rfl⟩) ?_ ?_
    rotate_left
    ·simp only [Act.put, z1, z2, z3, i64_w, i32_w]
     rfl
    refine pure_ (i := 17) (N := some 33) (v := undef) (a' := ?_) #[T_, T_, T_, T_, T_, T_, T_, T_, T_, T_, T_, T_, T_, T_, T_, T_, T_, T_, F_, F_, F_, F_, F_, F_, F_, F_, F_, F_, F_, F_, F_] rfl rfl (any_of HT_.out (by kernel_rfl)) (fun _ _ _ h => h) (Or.inr ⟨by rfl, rfl⟩) ?_ ?_
    rotate_left
    ·simp only [Act.put, z1, z2, z3, i64_w, i32_w]
     rfl
    refine pure_ (i := 18) (N := some 34) (v := undef) (a' := ?_) #[T_, T_, T_, T_, T_, T_, T_, T_, T_, T_, T_, T_, T_, T_, T_, T_, T_, T_, T_, F_, F_, F_, F_, F_, F_, F_, F_, F_, F_, F_, F_] rfl rfl (any_of HT_.out (by kernel_rfl)) (fun _ _ _ h => h) (Or.inr ⟨by rfl, rfl⟩) ?_ ?_
    rotate_left
    ·simp only [Act.put, z1, z2, z3, i64_w, i32_w]
     rfl
    refine pure_ (i := 19) (N := some 35) (v := undef) (a' := ?_) #[T_, T_, T_, T_, T_, T_, T_, T_, T_, T_, T_, T_, T_, T_, T_, T_, T_, T_, T_, T_, F_, F_, F_, F_, F_, F_, F_, F_, F_, F_, F_] rfl rfl (any_of HT_.out (by kernel_rfl)) (fun _ _ _ h => h) (Or.inr ⟨by rfl, rfl⟩) ?_ ?_
    rotate_left
    ·simp only [Act.put, z1, z2, z3, i64_w, i32_w]
     rfl
    refine pure_ (i := 20) (N := some 36) (v := undef) (a' := ?_) #[T_, T_, T_, T_, T_, T_, T_, T_, T_, T_, T_, T_, T_, T_, T_, T_, T_, T_, T_, T_, T_, F_, F_, F_, F_, F_, F_, F_, F_, F_, F_] rfl rfl (any_of HT_.out (by kernel_rfl)) (fun _ _ _ h => h) (Or.inr ⟨by rfl, rfl⟩) ?_ ?_
    rotate_left
    ·simp only [Act.put, z1, z2, z3, i64_w, i32_w]
     rfl
    refine pure_ (i := 21) (N := some 37) (v := undef) (a' := ?_) #[T_, T_, T_, T_, T_, T_, T_, T_, T_, T_, T_, T_, T_, T_, T_, T_, T_, T_, T_, T_, T_, T_, F_, F_, F_, F_, F_, F_, F_, F_, F_] rfl rfl (any_of HT_.out (by kernel_rfl)) (fun _ _ _ h => h) (Or.inr ⟨by rfl, rfl⟩) ?_ ?_
    rotate_left
    ·simp only [Act.put, z1, z2, z3, i64_w, i32_w]
     rfl
    refine pure_ (i := 22) (N := some 38) (v := undef) (a' := ?_) #[T_, T_, T_, T_, T_, T_, T_, T_, T_, T_, T_, T_, T_, T_, T_, T_, T_, T_, T_, T_, T_, T_, T_, F_, F_, F_, F_, F_, F_, F_, F_] rfl rfl (any_of HT_.out (by kernel_rfl)) (fun _ _ _ h => h) (Or.inr ⟨by rfl, rfl⟩) ?_ ?_
    rotate_left
    ·simp only [Act.put, z1, z2, z3, i64_w, i32_w]
     rfl
    refine pure_ (i := 23) (N := some 39) (v := undef) (a' := ?_) #[T_, T_, T_, T_, T_, T_, T_, T_, T_, T_, T_, T_, T_, T_, T_, T_, T_, T_, T_, T_, T_, T_, T_, T_, F_, F_, F_, F_, F_, F_, F_] rfl rfl (any_of HT_.out (by kernel_rfl)) (fun _ _ _ h => h) (Or.inr ⟨by rfl, rfl⟩) ?_ ?_
    rotate_left
    ·simp only [Act.put, z1, z2, z3, i64_w, i32_w]
     rfl
    refine pure_ (i := 24) (N := some 40) (v := undef) (a' := ?_) #[T_, T_, T_, T_, T_, T_, T_, T_, T_, T_, T_, T_, T_, T_, T_, T_, T_, T_, T_, T_, T_, T_, T_, T_, T_, F_, F_, F_, F_, F_, F_] rfl rfl (any_of HT_.out (by kernel_rfl)) (fun _ _ _ h => h) (Or.inr ⟨by rfl, rfl⟩) ?_ ?_
    rotate_left
    ·simp only [Act.put, z1, z2, z3, i64_w, i32_w]
     rfl
    refine pure_ (i := 25) (N := some 41) (v := undef) (a' := ?_) #[T_, T_, T_, T_, T_, T_, T_, T_, T_, T_, T_, T_, T_, T_, T_, T_, T_, T_, T_, T_, T_, T_, T_, T_, T_, T_, F_, F_, F_, F_, F_] rfl rfl (any_of HT_.out (by kernel_rfl)) (fun _ _ _ h => h) (Or.inr ⟨by rfl, rfl⟩) ?_ ?_
    rotate_left
    ·simp only [Act.put, z1, z2, z3, i64_w, i32_w]
     rfl
    refine pv 26 42 ?_
    refine pv 27 43 ?_
    refine pure_ (i := 28) (N := some 44) (v := undef) (a' := ?_) #[T_, T_, T_, T_, T_, T_, T_, T_, T_, T_, T_, T_, T_, T_, T_, T_, T_, T_, T_, T_, T_, T_, T_, T_, T_, T_, T_, T_, T_, F_, F_] rfl rfl (any_of HT_.out (by kernel_rfl)) (fun _ _ _ h => h) (Or.inr ⟨by rfl, rfl⟩) ?_ ?_
    rotate_left
    ·simp only [Act.put, z1, z2, z3, i64_w, i32_w]
     rfl
    refine pure_ (i := 29) (N := some 45) (v := undef) (a' := ?_) #[T_, T_, T_, T_, T_, T_, T_, T_, T_, T_, T_, T_, T_, T_, T_, T_, T_, T_, T_, T_, T_, T_, T_, T_, T_, T_, T_, T_, T_, T_, F_] rfl rfl (any_of HT_.out (by kernel_rfl)) (fun _ _ _ h => h) (Or.inr ⟨by rfl, rfl⟩) ?_ ?_
    rotate_left
    ·simp only [Act.put, z1, z2, z3, i64_w, i32_w]
     rfl
    refine pv 30 46 ?_
    refine done_ (done_of HT_.out (by kernel_rfl)) ?_
    try go_wp2
    go_ret
    exact ⟨er, bl⟩
   have H' := am H; clear H
   obtain ⟨z66_0, z66_1, y66_0, y66_1⟩ := blk2 BK182.out
   go_wp2
   go_loopg [55] k1 (fun kq v55 w' => ∃ (x55_2 : Int), v55 = .int .i64 x55_2 ∧ Aside0 (impl_BookRight.l1 kq x3_1 l0_1 (l0_1.length : Int) x55_2 l0_0 l0_1 = some r) ∧ Aside0 (kq ≤ k1) ∧ Aside0 (w'.heap[gb182]? = some (.cells #[(.slice A0_0 l0_0.length c0_0), (.slice A0_1 l0_1.length c0_1)] 43 (0, 0))) ∧ Aside0 (Below w.heap.size w w'))
   case atStart => exact ⟨(0), rs, H', ⟨Nat.le_refl _⟩, ⟨bk BK182.out⟩, ⟨bl⟩⟩
   case round =>
    clear H'
    try clear c4b0; try clear z66_0 z66_1; try clear y66_0 y66_1
    obtain ⟨x55_2, rfl, HA, HK2, BK182, HB⟩ := hrel
    cases gk with
    | zero => exact absurd HA.out (by simp [impl_BookRight.l1])
    | succ k2 =>
     have H := HA.out
     clear HA
     simp only [impl_BookRight.l1] at H
     revert H; refine iDb (fun c67b0 H => ?_) fun c67b0 H => ?_
     ·revert H; refine i1 fun c68b0 H => ?_
      revert H; refine i1 fun c69b0 H => ?_
      revert H; refine bj fun t190 A70 H => ?_
      replace H := iT H; rcases H with ⟨rfl, H⟩ | ⟨rfl, H⟩
      ·revert H; refine iDb (fun c72b0 H => ?_) fun c72b0 H => ?_
       ·obtain ⟨ji73, hji73⟩ : ∃ j_ : Int, (wrap64 (x55_2 - 1)) = j_ := ⟨_, rfl⟩
        replace H : (if 0 ≤ (ji73) then (if (ji73) < (l0_1.length : Int) then (if ((Op.bytesLess ((rdOf ByteArray.empty l0_1 (ji73)).toList) ((rdOf ByteArray.empty l0_1 x55_2).toList)) = true) then (impl_BookRight.l1 k2 x3_1 l0_1 (l0_1.length : Int) (wrap64 (x55_2 + 1)) l0_0 l0_1) else (some false)) else (none)) else (none)) = some r := by first | (rw [hji73] at H; exact H) | (simp only [hji73] at H ⊢; exact H)
        (try rw [hji73] at A70)
        have hji73w : (IntKind.i64.wrap (x55_2 - 1)) = ji73 := (i64_w _).trans hji73
        revert H; refine i1 fun c74b0 H => ?_
        revert H; refine i1 fun c75b0 H => ?_
        revert H; refine iB (fun c76 H => ?_) fun c76 H => ?_
        ·have c76b0 : (Op.bytesLess ((rdOf ByteArray.empty l0_1 (ji73)).toList) ((rdOf ByteArray.empty l0_1 x55_2).toList)) = true := c76
         clear c76
         have H' := am H; clear H
         have p189 : 0 ≤ (x55_2 : Int) := ode
         have q189 : x55_2 < (l0_1.length : Int) := ode
         obtain ⟨ad189, e189, hx189_0⟩ := Kd.at_string HR0_1.out x55_2 p189 q189
         cases e189
         replace hx189_0 := hbc HB.out hx189_0
         replace p189 := eq_true p189
         replace q189 := eq_true q189
         go_wp2_with (first | ((with_reducible refine c_ 52 ?_); refine gc 52 (some 61) Tryd.func52 (impl_NameRight.calls _ _ _ A70.out) ?_; rintro e w77 ⟨rfl, hb⟩; refine ⟨_, rfl, ?_⟩; replace BK182 := am (bkb BK182.out hb); replace HB := am (below_step bl hb); clear hb; obtain ⟨z78_0, z78_1, y78_0, y78_1⟩ := blk2 BK182.out; have p191 : 0 ≤ ((ji73) : Int) := ode; have q191 : (ji73) < (l0_1.length : Int) := ode; obtain ⟨ad191, e191, hx191_0⟩ := Kd.at_string HR0_1.out (ji73) p191 q191; obtain rfl : ad189 = ad191 := (by injection e191); replace hx191_0 := hbc HB.out hx191_0; replace p191 := eq_true p191; replace q191 := eq_true q191))
         go_roundg k2
         case measure => have := HK1.out; have := HK2.out; omega
         case rel => exact ⟨(wrap64 (x55_2 + 1)), rs, H', ⟨by have := HK1.out; have := HK2.out; omega⟩, ⟨bk BK182.out⟩, ⟨bl⟩⟩
        have c76b0 : (Op.bytesLess ((rdOf ByteArray.empty l0_1 (ji73)).toList) ((rdOf ByteArray.empty l0_1 x55_2).toList)) = false := by simpa using c76
        clear c76
        obtain rfl := Option.some.inj H
        have p189 : 0 ≤ (x55_2 : Int) := ode
        have q189 : x55_2 < (l0_1.length : Int) := ode
        obtain ⟨ad189, e189, hx189_0⟩ := Kd.at_string HR0_1.out x55_2 p189 q189
        cases e189
        replace hx189_0 := hbc HB.out hx189_0
        replace p189 := eq_true p189
        replace q189 := eq_true q189
        go_wp2_with (first | ((with_reducible refine c_ 52 ?_); refine gc 52 (some 61) Tryd.func52 (impl_NameRight.calls _ _ _ A70.out) ?_; rintro e w79 ⟨rfl, hb⟩; refine ⟨_, rfl, ?_⟩; replace BK182 := am (bkb BK182.out hb); replace HB := am (below_step bl hb); clear hb; obtain ⟨z80_0, z80_1, y80_0, y80_1⟩ := blk2 BK182.out; have p191 : 0 ≤ ((ji73) : Int) := ode; have q191 : (ji73) < (l0_1.length : Int) := ode; obtain ⟨ad191, e191, hx191_0⟩ := Kd.at_string HR0_1.out (ji73) p191 q191; obtain rfl : ad189 = ad191 := (by injection e191); replace hx191_0 := hbc HB.out hx191_0; replace p191 := eq_true p191; replace q191 := eq_true q191))
        go_ret
        exact ⟨by first | rfl | (simp [errW_none, errW_some] <;> rfl) | (simp only [← hji73]; first | rfl | (simp [errW_none, errW_some] <;> rfl)) | (simp [*, errW_none, errW_some] <;> rfl), bl⟩
       have H' := am H; clear H
       have p189 : 0 ≤ (x55_2 : Int) := ode
       have q189 : x55_2 < (l0_1.length : Int) := ode
       obtain ⟨ad189, e189, hx189_0⟩ := Kd.at_string HR0_1.out x55_2 p189 q189
       cases e189
       replace hx189_0 := hbc HB.out hx189_0
       replace p189 := eq_true p189
       replace q189 := eq_true q189
       go_wp2_with (first | ((with_reducible refine c_ 52 ?_); refine gc 52 (some 61) Tryd.func52 (impl_NameRight.calls _ _ _ A70.out) ?_; rintro e w81 ⟨rfl, hb⟩; refine ⟨_, rfl, ?_⟩; replace BK182 := am (bkb BK182.out hb); replace HB := am (below_step bl hb); clear hb))
       go_roundg k2
       case measure => have := HK1.out; have := HK2.out; omega
       case rel => exact ⟨(wrap64 (x55_2 + 1)), rs, H', ⟨by have := HK1.out; have := HK2.out; omega⟩, ⟨bk BK182.out⟩, ⟨bl⟩⟩
      obtain rfl := Option.some.inj H
      have p189 : 0 ≤ (x55_2 : Int) := ode
      have q189 : x55_2 < (l0_1.length : Int) := ode
      obtain ⟨ad189, e189, hx189_0⟩ := Kd.at_string HR0_1.out x55_2 p189 q189
      cases e189
      replace hx189_0 := hbc HB.out hx189_0
      replace p189 := eq_true p189
      replace q189 := eq_true q189
      go_wp2_with (first | ((with_reducible refine c_ 52 ?_); refine gc 52 (some 61) Tryd.func52 (impl_NameRight.calls _ _ _ A70.out) ?_; rintro e w82 ⟨rfl, hb⟩; refine ⟨_, rfl, ?_⟩; replace BK182 := am (bkb BK182.out hb); replace HB := am (below_step bl hb); clear hb))
      go_ret
      exact ⟨er, bl⟩
     revert H; refine iQ (fun c83b0 c83b1 H => ?_) fun c83 c83b0 c83b1 H => ?_
     ·obtain rfl := Option.some.inj H
      obtain ⟨z84_0, z84_1, y84_0, y84_1⟩ := blk2 BK182.out
      go_wp2
      go_ret
      exact ⟨er, bl⟩
     obtain rfl := Option.some.inj H
     go_wp2
     go_ret
     exact ⟨er, bl⟩

end Go.Proofs.YtlhefhcdlgkngaaDoor.PFnExactBookBalance
