-- laid by seedprint.py, a program of this session, over contracts that it gives by hand; Lean checks it
-- dented
import Derived.Test.YtlhefhcdlgkngaaDoorQMin
import Derived.Test.YtlhefhcdlgkngaaDoorQAut
import Derived.Test.YtlhefhcdlgkngaaDoorQBlk
import Derived.Test.YtlhefhcdlgkngaaDoorPFnExactBookBalancex0
import Derived.Test.YtlhefhcdlgkngaaDoorPFnExactBookBalancex2
import Derived.Test.YtlhefhcdlgkngaaDoorPFnExactBookBalancex3
namespace Go.Proofs.YtlhefhcdlgkngaaDoor.PFnExactBookBalance
open Go.RowKit Go.Proofs.YtlhefhcdlgkngaaDoorW.PrintWords Go.Proofs.YtlhefhcdlgkngaaDoorW.PrintLast Go.Proofs.YtlhefhcdlgkngaaDoorW.PrintMore
attribute [local go_sem] max2_int min2_int max_two min_two max_three min_three max_four min_four   -- for this text's walks alone
set_option linter.unusedVariables false
set_option linter.unusedSimpArgs false

/-! ### spec_BookRight: function 29 -/
mutual
def spec_BookRight.j0 : Nat → Bool → List (S67) → List ByteArray → Option (Bool)
 | 0, _, _, _ => none
 | k + 1, x21, x120000, x120001 => if x21 = true then (some false) else (spec_BookRight.l0 k 0 0 x120000 x120001)
def spec_BookRight.l0 : Nat → Int → Int → List (S67) → List ByteArray → Option (Bool)
 | 0, _, _, _, _ => none
 | k + 1, x3, x4, x120000, x120001 => if x4 < (x120000.length : Int) then (if 0 ≤ x4 then ((spec_l05Names.f k ((rd_T67 x120000 x4).f0.f0) ((rd_T67 x120000 x4).f0.f1)).bind fun t123 => (if t123 = true then ((spec_MoneyRight.f ((rd_T67 x120000 x4).f1)).bind fun t124 => (if t124 = true then (if x4 > 0 then (if 0 ≤ (wrap64 (x4 - 1)) then (if (wrap64 (x4 - 1)) < (x120000.length : Int) then ((spec_l05Less.f ((rd_T67 x120000 (wrap64 (x4 - 1))).f0.f0) ((rd_T67 x120000 (wrap64 (x4 - 1))).f0.f1) ((rd_T67 x120000 x4).f0.f0) ((rd_T67 x120000 x4).f0.f1)).bind fun t126 => (if t126 = true then (spec_BookRight.l0 k (wrap64 (x3 + ((rd_T67 x120000 x4).f1))) (wrap64 (x4 + 1)) x120000 x120001) else (some false))) else (none)) else (none)) else (spec_BookRight.l0 k (wrap64 (x3 + ((rd_T67 x120000 x4).f1))) (wrap64 (x4 + 1)) x120000 x120001)) else (some false))) else (some false))) else (none)) else (some (x3 == 0))
end
def spec_BookRight.f (k : Nat) (l0_0 : List (S67)) (l0_1 : List ByteArray) : Option (Bool) := if (l0_0.length : Int) > 60 then (spec_BookRight.j0 k true l0_0 l0_1) else (if (l0_1.length : Int) > 100 then (spec_BookRight.j0 k true l0_0 l0_1) else ((spec_l05Ids.f k l0_1).bind fun t120 => (spec_BookRight.j0 k (!t120) l0_0 l0_1)))
theorem spec_BookRight.mono_l : ∀ k, (∀ y0 y1 y2, LeO (spec_BookRight.j0 k y0 y1 y2) (spec_BookRight.j0 (k + 1) y0 y1 y2)) ∧ (∀ y0 y1 y2 y3, LeO (spec_BookRight.l0 k y0 y1 y2 y3) (spec_BookRight.l0 (k + 1) y0 y1 y2 y3))
 | 0 => ⟨fun _ _ _ r h => by simp [spec_BookRight.j0] at h, fun _ _ _ _ r h => by simp [spec_BookRight.l0] at h⟩
 | k + 1 => by
  obtain ⟨ih0, ih1⟩ := spec_BookRight.mono_l k
  refine ⟨?_, ?_⟩
  ·intro y0 y1 y2
   unfold spec_BookRight.j0
   repeat' (with_reducible first | exact ih0 .. | exact ih1 .. | exact spec_l05Ids.mono .. | exact spec_l05Names.mono .. | exact LeO.refl _ | exact LeO.none _ | refine LeO.ite ?_ ?_ | refine LeO.bind ?_ (fun _ => ?_))
  intro y0 y1 y2 y3
  unfold spec_BookRight.l0
  repeat' (with_reducible first | exact ih0 .. | exact ih1 .. | exact spec_l05Ids.mono .. | exact spec_l05Names.mono .. | exact LeO.refl _ | exact LeO.none _ | refine LeO.ite ?_ ?_ | refine LeO.bind ?_ (fun _ => ?_))
theorem spec_BookRight.mono : ∀ a0 a1 k, LeO (spec_BookRight.f k a0 a1) (spec_BookRight.f (k + 1) a0 a1) := by
 intro a0 a1 k
 obtain ⟨ih0, ih1⟩ := spec_BookRight.mono_l k
 unfold spec_BookRight.f
 repeat' (with_reducible first | exact ih0 .. | exact ih1 .. | exact spec_l05Ids.mono .. | exact spec_l05Names.mono .. | exact LeO.refl _ | exact LeO.none _ | refine LeO.ite ?_ ?_ | refine LeO.bind ?_ (fun _ => ?_))
def spec_BookRight.T8 : Bool × List (List Nat × List Nat) := (true, [([], []), ([0], [0]), ([1], [1]), ([2], [2]), ([3, 2], [3]), ([4], [4]), ([5, 4], [4, 5]), ([6, 4, 4], [4, 6]), ([7, 4], [4, 7]), ([4, 8], [4, 8]), ([9, 7], [9]), ([10], [10]), ([11, 10], [10, 11]), ([12, 10, 10], [10, 12]), ([13], [13]), ([14, 13], [13, 14]), ([13], [13]), ([16, 13], [13, 16]), ([15, 17, 13], [13, 15, 17]), ([18, 13], [13, 18]), ([19, 13], [13, 19]), ([13], [13]), ([21, 13], [13, 21]), ([20, 22, 13, 13], [13, 20, 22]), ([23, 13], [13, 23]), ([13, 24, 10], [10, 13, 24]), ([10, 25], [10, 25])])
def spec_BookRight.B8 : List Nat := [0, 1, 3, 7, 15, 31, 63, 127, 255, 511, 1023, 2047, 4095, 8191, 16383, 32767, 16383, 81919, 262143, 524287, 1048575, 16383, 2113535, 8388607, 16777215, 33554431, 67108863]
theorem spec_BookRight.tab8 : rtab .any (opsOf Tryd.f29 8) = spec_BookRight.T8 := by kernel_rfl
theorem spec_BookRight.bits8 : waitsOk spec_BookRight.T8.2 spec_BookRight.B8 = true := by kernel_rfl
set_option maxHeartbeats 8000000 in
set_option maxRecDepth 100000 in
theorem spec_BookRight.calls (k : Nat) (A0_0 : Option Addr) (c0_0 : Nat) (l0_0 : List (S67)) (A0_1 : Option Addr) (c0_1 : Nat) (l0_1 : List ByteArray) (r : Bool) (w : World) (hr0_0 : Kd.C k67 w A0_0 l0_0.length l0_0) (hc0_0 : l0_0.length ≤ c0_0) (hr0_1 : Kd.C Kd.string w A0_1 l0_1.length l0_1) (hc0_1 : l0_1.length ≤ c0_1) (h : spec_BookRight.f k l0_0 l0_1 = some r) :
  Calls Tryd.prog 29 #[.agg #[.slice A0_0 l0_0.length c0_0, .slice A0_1 l0_1.length c0_1]] w fun e w' => e = .returned (.bool r) ∧ Below w.heap.size w w' := by
 have hu43 := Tryd.underlying43
 have hu67 := Tryd.underlying67
 have hu45 := Tryd.underlying45
 have HR0_0 := am hr0_0
 have HC0_0 := am hc0_0
 clear hr0_0 hc0_0
 have HR0_1 := am hr0_1
 have HC0_1 := am hc0_1
 clear hr0_1 hc0_1
 have HB := am (Below.refl w.heap.size w)
 have H := h
 clear h
 unfold spec_BookRight.f at H
 have HC2 := am H; clear H
 go_enter Tryd.func29, Tryd.ntmps29
 go_upto_region 1 with (first | ((with_reducible refine gate_dst (N := 1) rfl ?_); (try (refine gate_guard (by rfl) ?_; dsimp only)); refine box_event ?hg (N := 1) ?hd (cs := #[.slice A0_0 l0_0.length c0_0, .slice A0_1 l0_1.length c0_1]) (t := 43) ?hr ?_; (case hd => rfl); (case hg => rfl); (case hr => first | (go_simp; done) | (go_simp; rfl)); intro gb119 hg w3 hbox hb; have BK119 := am (hbox); have GW119 := am (bsz hg : w.heap.size ≤ gb119); have GE119 := GW119; replace HB := am (below_step bl hb); clear hb hbox hg))
 (try simp only [Act.put, z1, z2, z3])
 go_cut [21] (fun v21 wc => ∃ (kq : Nat) (x21_1 : Bool), v21 = .bool x21_1 ∧ Aside0 (spec_BookRight.j0 kq x21_1 l0_0 l0_1 = some r) ∧ Aside0 (kq ≤ k) ∧ Aside0 (wc.heap[gb119]? = some (.cells #[(.slice A0_0 l0_0.length c0_0), (.slice A0_1 l0_1.length c0_1)] 43 (0, 0))) ∧ Aside0 (Below w.heap.size w wc))
 case first =>
  have H := HC2.out
  clear HC2
  revert H; refine iDn (fun c4 c4b0 H => ?_) fun c4 c4b0 H => ?_
  ·have c4b1 : decide (60 < l0_0.length) = true := decide_eq_true (by omega)
   clear c4
   (first | rw [c4b0] | (simp only [i64_w, i32_w]; rw [c4b0]) | skip)
   have H' := am H; clear H
   obtain ⟨z5_0, z5_1, y5_0, y5_1⟩ := blk2 BK119.out
   go_wp2
   go_meet
   case rel => exact ⟨_, (true), rs, H', ⟨by first | omega | exact Nat.le_refl _⟩, ⟨bk BK119.out⟩, ⟨bl⟩⟩
  have c4b1 : decide (60 < l0_0.length) = false := decide_eq_false (by omega)
  clear c4
  (first | rw [c4b0] | (simp only [i64_w, i32_w]; rw [c4b0]) | skip)
  revert H; refine iDn (fun c6 c6b0 H => ?_) fun c6 c6b0 H => ?_
  ·have c6b1 : decide (100 < l0_1.length) = true := decide_eq_true (by omega)
   clear c6
   have H' := am H; clear H
   obtain ⟨z7_0, z7_1, y7_0, y7_1⟩ := blk2 BK119.out
   go_wp2
   go_meet
   case rel => exact ⟨_, (true), rs, H', ⟨by first | omega | exact Nat.le_refl _⟩, ⟨bk BK119.out⟩, ⟨bl⟩⟩
  have c6b1 : decide (100 < l0_1.length) = false := decide_eq_false (by omega)
  clear c6
  revert H; refine bj fun t120 A8 H => ?_
  have H' := am H; clear H
  obtain ⟨z9_0, z9_1, y9_0, y9_1⟩ := blk2 BK119.out
  go_wp2_with (first | (go_at_call 46; (with_reducible refine (spec_l05Ids.calls _ _ _ _ _ _ ?side1 ?side2 A8.out).mono ?_); (case side1 => exact cb HR0_1.out); (case side2 => exact HC0_1.out); rintro e w' ⟨rfl, ⟨nd, rfl⟩⟩))
  go_meet
  case rel => exact ⟨_, (!t120), rs, H', ⟨by first | omega | exact Nat.le_refl _⟩, ⟨bk BK119.out⟩, ⟨bl⟩⟩
 case rest =>
  clear HC2
  obtain ⟨kq, x21_1, rfl, HA, HJ1, BK119, HB⟩ := hcut
  cases kq with
  | zero => exact absurd HA.out (by simp [spec_BookRight.j0])
  | succ kj1 =>
   have H := HA.out
   clear HA
   simp only [spec_BookRight.j0] at H
   replace H := iT H; rcases H with ⟨rfl, H⟩ | ⟨rfl, H⟩
   ·obtain rfl := Option.some.inj H
    go_wp2
    go_ret
    exact ⟨er, bl⟩
   have H' := am H; clear H
   go_wp2
   go_loopg [3, 4] kj1 (fun kq v3 v4 w' => ∃ (x3_2 : Int) (x4_2 : Int), v3 = .int .i64 x3_2 ∧ v4 = .int .i64 x4_2 ∧ Aside0 (spec_BookRight.l0 kq x3_2 x4_2 l0_0 l0_1 = some r) ∧ Aside0 (kq ≤ kj1) ∧ Aside0 (w'.heap[gb119]? = some (.cells #[(.slice A0_0 l0_0.length c0_0), (.slice A0_1 l0_1.length c0_1)] 43 (0, 0))) ∧ Aside0 (Below w.heap.size w w'))
   case atStart => exact ⟨(0), (0), rs, rs, H', ⟨Nat.le_refl _⟩, ⟨bk BK119.out⟩, ⟨bl⟩⟩
   case round =>
    clear H'
    obtain ⟨x3_2, x4_2, rfl, rfl, HA, HK2, BK119, HB⟩ := hrel
    cases gk with
    | zero => exact absurd HA.out (by simp [spec_BookRight.l0])
    | succ k2 =>
     have H := HA.out
     clear HA
     simp only [spec_BookRight.l0] at H
     revert H; refine iDb (fun c11b0 H => ?_) fun c11b0 H => ?_
     ·revert H; refine i1 fun c12b0 H => ?_
      revert H; refine bj fun t123 A13 H => ?_
      replace H := iT H; rcases H with ⟨rfl, H⟩ | ⟨rfl, H⟩
      ·revert H; refine bj fun t124 A15 H => ?_
       replace H := iT H; rcases H with ⟨rfl, H⟩ | ⟨rfl, H⟩
       ·revert H; refine iDb (fun c17b0 H => ?_) fun c17b0 H => ?_
        ·obtain ⟨ji18, hji18⟩ : ∃ j_ : Int, (wrap64 (x4_2 - 1)) = j_ := ⟨_, rfl⟩
         replace H : (if 0 ≤ (ji18) then (if (ji18) < (l0_0.length : Int) then ((spec_l05Less.f ((rd_T67 l0_0 (ji18)).f0.f0) ((rd_T67 l0_0 (ji18)).f0.f1) ((rd_T67 l0_0 x4_2).f0.f0) ((rd_T67 l0_0 x4_2).f0.f1)).bind fun t126 => (if t126 = true then (spec_BookRight.l0 k2 (wrap64 (x3_2 + ((rd_T67 l0_0 x4_2).f1))) (wrap64 (x4_2 + 1)) l0_0 l0_1) else (some false))) else (none)) else (none)) = some r := by first | (rw [hji18] at H; exact H) | (simp only [hji18] at H ⊢; exact H)
         (try rw [hji18] at A13)
         (try rw [hji18] at A15)
         have hji18w : (IntKind.i64.wrap (x4_2 - 1)) = ji18 := (i64_w _).trans hji18
         revert H; refine i1 fun c19b0 H => ?_
         revert H; refine i1 fun c20b0 H => ?_
         revert H; refine bj fun t126 A21 H => ?_
         replace H := iT H; rcases H with ⟨rfl, H⟩ | ⟨rfl, H⟩
         ·have H' := am H; clear H
          obtain ⟨z23_0, z23_1, y23_0, y23_1⟩ := blk2 BK119.out
          have p121 : 0 ≤ (x4_2 : Int) := ode
          have q121 : x4_2 < (l0_0.length : Int) := ode
          obtain ⟨ad121, e121, hx121_0, hx121_1, hx121_2⟩ := at_T67 HR0_0.out x4_2 p121 q121
          cases e121
          obtain ⟨hx121_0, hx121_1, hx121_2⟩ := hb3 HB.out hx121_0 hx121_1 hx121_2
          replace p121 := eq_true p121
          replace q121 := eq_true q121
          try go_wp2_with (first | ((with_reducible refine gate_dst (N := 5) rfl ?_); (try (refine gate_guard (by rfl) ?_; dsimp only)); refine box_event ?hg (N := 5) ?hd (cs := #[.string (⟨#[]⟩ : ByteArray), .string (⟨#[]⟩ : ByteArray), .int .i64 0]) (t := 67) ?hr ?_; (case hd => rfl); (case hg => rfl); (case hr => first | (go_simp; done) | (go_simp; rfl)); intro gb122 hg w24 hbox hb; have BK122 := am (hbox); have GW122 := am (bsz hg : w.heap.size ≤ gb122); have GE122 := GW122; have NB119_122 := am (ne1 hg BK119.out); have NB122_119 := am NB119_122.out.symm; replace BK119 := am (bkb BK119.out hb); replace HB := am (below_step bl hb); clear hb hbox hg; have hnb25 := NB122_119.out; have hnc25 := NB119_122.out; obtain ⟨z26_0, z26_1, z26_2, y26_0, y26_1, y26_2⟩ := blk3 BK122.out))
          have n0_ : Aside0 ((((w24.setCell ⟨gb122, 0, none⟩ (.string ((rd_T67 l0_0 x4_2).f0.f0))).setCell ⟨gb122, 1, none⟩ (.string ((rd_T67 l0_0 x4_2).f0.f1))).setCell ⟨gb122, 2, none⟩ (.int .i64 ((rd_T67 l0_0 x4_2).f1))).heap[gb119]? = some (.cells #[.slice (some ad121) l0_0.length c0_0, .slice A0_1 l0_1.length c0_1] 43 (0, 0))) := ⟨bf BK119.out NB119_122.out⟩
          have n1_ : Aside0 ((((w24.setCell ⟨gb122, 0, none⟩ (.string ((rd_T67 l0_0 x4_2).f0.f0))).setCell ⟨gb122, 1, none⟩ (.string ((rd_T67 l0_0 x4_2).f0.f1))).setCell ⟨gb122, 2, none⟩ (.int .i64 ((rd_T67 l0_0 x4_2).f1))).heap[gb122]? = some (.cells #[.string ((rd_T67 l0_0 x4_2).f0.f0), .string ((rd_T67 l0_0 x4_2).f0.f1), .int .i64 ((rd_T67 l0_0 x4_2).f1)] 67 (0, 0))) := ⟨bp BK122.out⟩
          have n2_ : Aside0 (Below w.heap.size w (((w24.setCell ⟨gb122, 0, none⟩ (.string ((rd_T67 l0_0 x4_2).f0.f0))).setCell ⟨gb122, 1, none⟩ (.string ((rd_T67 l0_0 x4_2).f0.f1))).setCell ⟨gb122, 2, none⟩ (.int .i64 ((rd_T67 l0_0 x4_2).f1)))) := ⟨bl⟩
          (try clear BK119)
          (try clear BK122)
          (try clear HB)
          generalize (((w24.setCell ⟨gb122, 0, none⟩ (.string ((rd_T67 l0_0 x4_2).f0.f0))).setCell ⟨gb122, 1, none⟩ (.string ((rd_T67 l0_0 x4_2).f0.f1))).setCell ⟨gb122, 2, none⟩ (.int .i64 ((rd_T67 l0_0 x4_2).f1))) = w27 at n0_ n1_ n2_ ⊢
          have BK119 := n0_
          have BK122 := n1_
          have HB := n2_
          clear n0_ n1_ n2_
          have n0_ := am (blk_drew BK119.out)
          have n1_ := am (blk_drew BK122.out)
          have n2_ := am (below_drew1 HB.out)
          clear BK119
          clear BK122
          clear HB
          have BK119 := n0_
          have BK122 := n1_
          have HB := n2_
          clear n0_ n1_ n2_
          have p125 : 0 ≤ ((ji18) : Int) := ode
          have q125 : (ji18) < (l0_0.length : Int) := ode
          obtain ⟨ad125, e125, hx125_0, hx125_1, hx125_2⟩ := at_T67 HR0_0.out (ji18) p125 q125
          have hw125_2 := hx125_2
          have hw125_1 := hx125_1
          have hw125_0 := hx125_0
          obtain rfl : ad121 = ad125 := (by injection e125)
          obtain ⟨hx125_0, hx125_1, hx125_2⟩ := hb3 HB.out hx125_0 hx125_1 hx125_2
          replace p125 := eq_true p125
          replace q125 := eq_true q125
          refine start_ (n := 27) (S := fun w' => w'.cell? ⟨gb122, 0, none⟩ = some (.string ((rd_T67 l0_0 x4_2).f0.f0)) ∧ w'.cell? ⟨gb122, 1, none⟩ = some (.string ((rd_T67 l0_0 x4_2).f0.f1)) ∧ w'.cell? ⟨gb122, 2, none⟩ = some (.int .i64 ((rd_T67 l0_0 x4_2).f1)) ∧ w'.cell? ⟨gb119, 0, none⟩ = some (.slice (some ad121) l0_0.length c0_0) ∧ w'.cell? ⟨gb119, 1, none⟩ = some (.slice A0_1 l0_1.length c0_1) ∧ w'.cell? (ad121.add (((ji18)).toNat * 3)) = some (.string ((rd_T67 l0_0 (ji18)).f0.f0)) ∧ w'.cell? ⟨(ad121.add (((ji18)).toNat * 3)).block, (ad121.add (((ji18)).toNat * 3)).off + 1, none⟩ = some (.string ((rd_T67 l0_0 (ji18)).f0.f1)) ∧ w'.cell? ⟨(ad121.add (((ji18)).toNat * 3)).block, (ad121.add (((ji18)).toNat * 3)).off + 2, none⟩ = some (.int .i64 ((rd_T67 l0_0 (ji18)).f1))) (ds := []) #[F_, F_, F_, F_, F_, F_, F_, F_, F_, F_, F_, F_, F_, F_, F_, F_, F_, F_, F_, F_, F_, F_, F_, F_, F_, F_, F_] (by kernel_rfl) rfl rfl ⟨(blk_cell BK122.out 0).trans rfl, (blk_cell BK122.out 1).trans rfl, (blk_cell BK122.out 2).trans rfl, (blk_cell BK119.out 0).trans rfl, (blk_cell BK119.out 1).trans rfl, (hbc HB.out hw125_0), (hbc HB.out hw125_1), (hbc HB.out hw125_2)⟩ (fun hHeld => ?_); refine with_tabW spec_BookRight.tab8 spec_BookRight.bits8 (fun HT_ HW_ => ?_)
          generalize w27.drew = w28 at BK119 BK122 HB hx125_0 hx125_1 hx125_2 hHeld ⊢
          refine pv 0 34 ?_
          refine tv8 1 35 hHeld ?_
          refine ov 2 36 (fun K hK => ?_)
          refine gk Tryd.func38 (spec_l05Names.calls _ _ _ _ _ A13.out) ?_
          rintro e w29 ⟨rfl, hb⟩
          refine ⟨_, rfl, ?_⟩
          have n0_ := am (bkb BK119.out hb)
          have n1_ := am (bkb BK122.out hb)
          have n2_ := am (below_step bl hb)
          clear BK119
          clear BK122
          clear HB
          have BK119 := n0_
          have BK122 := n1_
          have HB := n2_
          clear n0_ n1_ n2_
          skip
          skip
          skip
          skip
          refine hK.out _ _ ⟨(blk_cell BK122.out 0).trans rfl, (blk_cell BK122.out 1).trans rfl, (blk_cell BK122.out 2).trans rfl, (blk_cell BK119.out 0).trans rfl, (blk_cell BK119.out 1).trans rfl, (hbc HB.out hw125_0), (hbc HB.out hw125_1), (hbc HB.out hw125_2)⟩ (fun hHeld => ?_)
          clear hK K
          refine norm_ (a' := ?_) ?_ ?_
          rotate_left
          ·show Act.put _ (some 36) _ = _
           simp only [Act.put, z1, z2, z3, i64_w, i32_w]
           rfl
          refine pv 3 37 ?_
          refine pv 4 38 ?_
          refine pv 5 39 ?_
          refine tv8 6 40 hHeld ?_
          refine ov 7 41 (fun K hK => ?_)
          refine gk Tryd.func47 (spec_MoneyRight.calls _ _ _ A15.out) ?_
          rintro e w' ⟨rfl, ⟨nd, rfl⟩⟩
          refine ⟨_, rfl, ?_⟩
          refine hK.out _ _ ⟨(blk_cell BK122.out 0).trans rfl, (blk_cell BK122.out 1).trans rfl, (blk_cell BK122.out 2).trans rfl, (blk_cell BK119.out 0).trans rfl, (blk_cell BK119.out 1).trans rfl, (hbc HB.out hw125_0), (hbc HB.out hw125_1), (hbc HB.out hw125_2)⟩ (fun hHeld => ?_)
          clear hK K
          refine norm_ (a' := ?_) ?_ ?_
          rotate_left
          ·show Act.put _ (some 41) _ = _
           simp only [Act.put, z1, z2, z3, i64_w, i32_w]
           rfl
          refine pv 8 42 ?_
          refine pv 9 43 ?_
          refine pv 10 44 ?_
          refine pv 11 45 ?_
          refine pv 12 46 ?_
          refine pv 13 47 ?_
          refine pv 14 48 ?_
          refine pv 16 50 ?_
          refine pv 17 51 ?_
          refine pv 21 55 ?_
          refine tv8 15 49 hHeld ?_
          refine pv 18 52 ?_
          refine pv 19 53 ?_
          refine tv8 20 54 hHeld ?_
          refine tv8 22 56 hHeld ?_
          refine ov 23 57 (fun K hK => ?_)
          refine goes_ Tryd.func48 (by kernel_rfl) rfl #[.agg #[.string ((rd_T67 l0_0 (ji18)).f0.f0), .string ((rd_T67 l0_0 (ji18)).f0.f1)], .agg #[.string ((rd_T67 l0_0 x4_2).f0.f0), .string ((rd_T67 l0_0 x4_2).f0.f1)]] (by rfl) rfl rfl (by (try simp only [List.map_toArray, List.map_cons, List.map_nil]); first | done | (simp only [hji18]; rfl) | rfl | (simp only [List.length_drop, List.length_take]; rfl)) ?_
          with_reducible refine (spec_l05Less.calls ((rd_T67 l0_0 (ji18)).f0.f0) ((rd_T67 l0_0 (ji18)).f0.f1) ((rd_T67 l0_0 x4_2).f0.f0) ((rd_T67 l0_0 x4_2).f0.f1) true _ A21.out).mono ?_
          rintro e w30 ⟨rfl, hb⟩
          refine ⟨_, rfl, ?_⟩
          have n0_ := am (bkb BK119.out hb)
          have n1_ := am (bkb BK122.out hb)
          have n2_ := am (below_step bl hb)
          clear BK119
          clear BK122
          clear HB
          have BK119 := n0_
          have BK122 := n1_
          have HB := n2_
          clear n0_ n1_ n2_
          skip
          skip
          skip
          skip
          refine hK.out _ _ ⟨(blk_cell BK122.out 0).trans rfl, (blk_cell BK122.out 1).trans rfl, (blk_cell BK122.out 2).trans rfl, (blk_cell BK119.out 0).trans rfl, (blk_cell BK119.out 1).trans rfl, (hbc HB.out hw125_0), (hbc HB.out hw125_1), (hbc HB.out hw125_2)⟩ (fun hHeld => ?_)
          clear hK K
          refine norm_ (a' := ?_) ?_ ?_
          rotate_left
          ·show Act.put _ (some 57) _ = _
           simp only [Act.put, z1, z2, z3, i64_w, i32_w]
           rfl
          refine pv 24 58 ?_
          refine pv 25 59 ?_
          refine pv 26 60 ?_
          refine done_ (done_of HT_.out (by kernel_rfl)) ?_
          obtain ⟨z31_0, z31_1, z31_2, y31_0, y31_1, y31_2⟩ := blk3 BK122.out
          try go_wp2
          go_roundg k2
          case measure => have := HJ1.out; have := HK2.out; omega
          case rel => exact ⟨(wrap64 (x3_2 + ((rd_T67 l0_0 x4_2).f1))), (wrap64 (x4_2 + 1)), rs, rs, H', ⟨by have := HJ1.out; have := HK2.out; omega⟩, ⟨bk BK119.out⟩, ⟨bl⟩⟩
         obtain rfl := Option.some.inj H
         obtain ⟨z32_0, z32_1, y32_0, y32_1⟩ := blk2 BK119.out
         have p121 : 0 ≤ (x4_2 : Int) := ode
         have q121 : x4_2 < (l0_0.length : Int) := ode
         obtain ⟨ad121, e121, hx121_0, hx121_1, hx121_2⟩ := at_T67 HR0_0.out x4_2 p121 q121
         cases e121
         obtain ⟨hx121_0, hx121_1, hx121_2⟩ := hb3 HB.out hx121_0 hx121_1 hx121_2
         replace p121 := eq_true p121
         replace q121 := eq_true q121
         try go_wp2_with (first | ((with_reducible refine gate_dst (N := 5) rfl ?_); (try (refine gate_guard (by rfl) ?_; dsimp only)); refine box_event ?hg (N := 5) ?hd (cs := #[.string (⟨#[]⟩ : ByteArray), .string (⟨#[]⟩ : ByteArray), .int .i64 0]) (t := 67) ?hr ?_; (case hd => rfl); (case hg => rfl); (case hr => first | (go_simp; done) | (go_simp; rfl)); intro gb122 hg w33 hbox hb; have BK122 := am (hbox); have GW122 := am (bsz hg : w.heap.size ≤ gb122); have GE122 := GW122; have NB119_122 := am (ne1 hg BK119.out); have NB122_119 := am NB119_122.out.symm; replace BK119 := am (bkb BK119.out hb); replace HB := am (below_step bl hb); clear hb hbox hg; have hnb34 := NB122_119.out; have hnc34 := NB119_122.out; obtain ⟨z35_0, z35_1, z35_2, y35_0, y35_1, y35_2⟩ := blk3 BK122.out))
         have n0_ : Aside0 ((((w33.setCell ⟨gb122, 0, none⟩ (.string ((rd_T67 l0_0 x4_2).f0.f0))).setCell ⟨gb122, 1, none⟩ (.string ((rd_T67 l0_0 x4_2).f0.f1))).setCell ⟨gb122, 2, none⟩ (.int .i64 ((rd_T67 l0_0 x4_2).f1))).heap[gb119]? = some (.cells #[.slice (some ad121) l0_0.length c0_0, .slice A0_1 l0_1.length c0_1] 43 (0, 0))) := ⟨bf BK119.out NB119_122.out⟩
         have n1_ : Aside0 ((((w33.setCell ⟨gb122, 0, none⟩ (.string ((rd_T67 l0_0 x4_2).f0.f0))).setCell ⟨gb122, 1, none⟩ (.string ((rd_T67 l0_0 x4_2).f0.f1))).setCell ⟨gb122, 2, none⟩ (.int .i64 ((rd_T67 l0_0 x4_2).f1))).heap[gb122]? = some (.cells #[.string ((rd_T67 l0_0 x4_2).f0.f0), .string ((rd_T67 l0_0 x4_2).f0.f1), .int .i64 ((rd_T67 l0_0 x4_2).f1)] 67 (0, 0))) := ⟨bp BK122.out⟩
         have n2_ : Aside0 (Below w.heap.size w (((w33.setCell ⟨gb122, 0, none⟩ (.string ((rd_T67 l0_0 x4_2).f0.f0))).setCell ⟨gb122, 1, none⟩ (.string ((rd_T67 l0_0 x4_2).f0.f1))).setCell ⟨gb122, 2, none⟩ (.int .i64 ((rd_T67 l0_0 x4_2).f1)))) := ⟨bl⟩
         (try clear BK119)
         (try clear BK122)
         (try clear HB)
         generalize (((w33.setCell ⟨gb122, 0, none⟩ (.string ((rd_T67 l0_0 x4_2).f0.f0))).setCell ⟨gb122, 1, none⟩ (.string ((rd_T67 l0_0 x4_2).f0.f1))).setCell ⟨gb122, 2, none⟩ (.int .i64 ((rd_T67 l0_0 x4_2).f1))) = w36 at n0_ n1_ n2_ ⊢
         have BK119 := n0_
         have BK122 := n1_
         have HB := n2_
         clear n0_ n1_ n2_
         have n0_ := am (blk_drew BK119.out)
         have n1_ := am (blk_drew BK122.out)
         have n2_ := am (below_drew1 HB.out)
         clear BK119
         clear BK122
         clear HB
         have BK119 := n0_
         have BK122 := n1_
         have HB := n2_
         clear n0_ n1_ n2_
         have p125 : 0 ≤ ((ji18) : Int) := ode
         have q125 : (ji18) < (l0_0.length : Int) := ode
         obtain ⟨ad125, e125, hx125_0, hx125_1, hx125_2⟩ := at_T67 HR0_0.out (ji18) p125 q125
         have hw125_2 := hx125_2
         have hw125_1 := hx125_1
         have hw125_0 := hx125_0
         obtain rfl : ad121 = ad125 := (by injection e125)
         obtain ⟨hx125_0, hx125_1, hx125_2⟩ := hb3 HB.out hx125_0 hx125_1 hx125_2
         replace p125 := eq_true p125
         replace q125 := eq_true q125
         refine start_ (n := 27) (S := fun w' => w'.cell? ⟨gb122, 0, none⟩ = some (.string ((rd_T67 l0_0 x4_2).f0.f0)) ∧ w'.cell? ⟨gb122, 1, none⟩ = some (.string ((rd_T67 l0_0 x4_2).f0.f1)) ∧ w'.cell? ⟨gb122, 2, none⟩ = some (.int .i64 ((rd_T67 l0_0 x4_2).f1)) ∧ w'.cell? ⟨gb119, 0, none⟩ = some (.slice (some ad121) l0_0.length c0_0) ∧ w'.cell? ⟨gb119, 1, none⟩ = some (.slice A0_1 l0_1.length c0_1) ∧ w'.cell? (ad121.add (((ji18)).toNat * 3)) = some (.string ((rd_T67 l0_0 (ji18)).f0.f0)) ∧ w'.cell? ⟨(ad121.add (((ji18)).toNat * 3)).block, (ad121.add (((ji18)).toNat * 3)).off + 1, none⟩ = some (.string ((rd_T67 l0_0 (ji18)).f0.f1)) ∧ w'.cell? ⟨(ad121.add (((ji18)).toNat * 3)).block, (ad121.add (((ji18)).toNat * 3)).off + 2, none⟩ = some (.int .i64 ((rd_T67 l0_0 (ji18)).f1))) (ds := []) #[F_, F_, F_, F_, F_, F_, F_, F_, F_, F_, F_, F_, F_, F_, F_, F_, F_, F_, F_, F_, F_, F_, F_, F_, F_, F_, F_] (by kernel_rfl) rfl rfl ⟨(blk_cell BK122.out 0).trans rfl, (blk_cell BK122.out 1).trans rfl, (blk_cell BK122.out 2).trans rfl, (blk_cell BK119.out 0).trans rfl, (blk_cell BK119.out 1).trans rfl, (hbc HB.out hw125_0), (hbc HB.out hw125_1), (hbc HB.out hw125_2)⟩ (fun hHeld => ?_); refine with_tabW spec_BookRight.tab8 spec_BookRight.bits8 (fun HT_ HW_ => ?_)
         generalize w36.drew = w37 at BK119 BK122 HB hx125_0 hx125_1 hx125_2 hHeld ⊢
         refine pv 0 34 ?_
         refine tv8 1 35 hHeld ?_
         refine ov 2 36 (fun K hK => ?_)
         refine gk Tryd.func38 (spec_l05Names.calls _ _ _ _ _ A13.out) ?_
         rintro e w38 ⟨rfl, hb⟩
         refine ⟨_, rfl, ?_⟩
         have n0_ := am (bkb BK119.out hb)
         have n1_ := am (bkb BK122.out hb)
         have n2_ := am (below_step bl hb)
         clear BK119
         clear BK122
         clear HB
         have BK119 := n0_
         have BK122 := n1_
         have HB := n2_
         clear n0_ n1_ n2_
         skip
         skip
         skip
         skip
         refine hK.out _ _ ⟨(blk_cell BK122.out 0).trans rfl, (blk_cell BK122.out 1).trans rfl, (blk_cell BK122.out 2).trans rfl, (blk_cell BK119.out 0).trans rfl, (blk_cell BK119.out 1).trans rfl, (hbc HB.out hw125_0), (hbc HB.out hw125_1), (hbc HB.out hw125_2)⟩ (fun hHeld => ?_)
         clear hK K
         refine norm_ (a' := ?_) ?_ ?_
         rotate_left
         ·show Act.put _ (some 36) _ = _
          simp only [Act.put, z1, z2, z3, i64_w, i32_w]
          rfl
         refine pv 3 37 ?_
         refine pv 4 38 ?_
         refine pv 5 39 ?_
         refine tv8 6 40 hHeld ?_
         refine ov 7 41 (fun K hK => ?_)
         refine gk Tryd.func47 (spec_MoneyRight.calls _ _ _ A15.out) ?_
         rintro e w' ⟨rfl, ⟨nd, rfl⟩⟩
         refine ⟨_, rfl, ?_⟩
         refine hK.out _ _ ⟨(blk_cell BK122.out 0).trans rfl, (blk_cell BK122.out 1).trans rfl, (blk_cell BK122.out 2).trans rfl, (blk_cell BK119.out 0).trans rfl, (blk_cell BK119.out 1).trans rfl, (hbc HB.out hw125_0), (hbc HB.out hw125_1), (hbc HB.out hw125_2)⟩ (fun hHeld => ?_)
         clear hK K
         refine norm_ (a' := ?_) ?_ ?_
         rotate_left
         ·show Act.put _ (some 41) _ = _
          simp only [Act.put, z1, z2, z3, i64_w, i32_w]
          rfl
         refine pv 8 42 ?_
         refine pv 9 43 ?_
         refine pv 10 44 ?_
         refine pv 11 45 ?_
         refine pv 12 46 ?_
         refine pv 13 47 ?_
         refine pv 14 48 ?_
         refine pv 16 50 ?_
         refine pv 17 51 ?_
         refine pv 21 55 ?_
         refine tv8 15 49 hHeld ?_
         refine pv 18 52 ?_
         refine pv 19 53 ?_
         refine tv8 20 54 hHeld ?_
         refine tv8 22 56 hHeld ?_
         refine ov 23 57 (fun K hK => ?_)
         refine goes_ Tryd.func48 (by kernel_rfl) rfl #[.agg #[.string ((rd_T67 l0_0 (ji18)).f0.f0), .string ((rd_T67 l0_0 (ji18)).f0.f1)], .agg #[.string ((rd_T67 l0_0 x4_2).f0.f0), .string ((rd_T67 l0_0 x4_2).f0.f1)]] (by rfl) rfl rfl (by (try simp only [List.map_toArray, List.map_cons, List.map_nil]); first | done | (simp only [hji18]; rfl) | rfl | (simp only [List.length_drop, List.length_take]; rfl)) ?_
         with_reducible refine (spec_l05Less.calls ((rd_T67 l0_0 (ji18)).f0.f0) ((rd_T67 l0_0 (ji18)).f0.f1) ((rd_T67 l0_0 x4_2).f0.f0) ((rd_T67 l0_0 x4_2).f0.f1) false _ A21.out).mono ?_
         rintro e w39 ⟨rfl, hb⟩
         refine ⟨_, rfl, ?_⟩
         have n0_ := am (bkb BK119.out hb)
         have n1_ := am (bkb BK122.out hb)
         have n2_ := am (below_step bl hb)
         clear BK119
         clear BK122
         clear HB
         have BK119 := n0_
         have BK122 := n1_
         have HB := n2_
         clear n0_ n1_ n2_
         skip
         skip
         skip
         skip
         refine hK.out _ _ ⟨(blk_cell BK122.out 0).trans rfl, (blk_cell BK122.out 1).trans rfl, (blk_cell BK122.out 2).trans rfl, (blk_cell BK119.out 0).trans rfl, (blk_cell BK119.out 1).trans rfl, (hbc HB.out hw125_0), (hbc HB.out hw125_1), (hbc HB.out hw125_2)⟩ (fun hHeld => ?_)
         clear hK K
         refine norm_ (a' := ?_) ?_ ?_
         rotate_left
         ·show Act.put _ (some 57) _ = _
          simp only [Act.put, z1, z2, z3, i64_w, i32_w]
          rfl
         refine pv 24 58 ?_
         refine pv 25 59 ?_
         refine pv 26 60 ?_
         refine done_ (done_of HT_.out (by kernel_rfl)) ?_
         try go_wp2
         go_ret
         exact ⟨by first | rfl | (simp [errW_none, errW_some] <;> rfl) | (simp only [← hji18]; first | rfl | (simp [errW_none, errW_some] <;> rfl)) | (simp [*, errW_none, errW_some] <;> rfl), bl⟩
        have H' := am H; clear H
        obtain ⟨z40_0, z40_1, y40_0, y40_1⟩ := blk2 BK119.out
        have p121 : 0 ≤ (x4_2 : Int) := ode
        have q121 : x4_2 < (l0_0.length : Int) := ode
        obtain ⟨ad121, e121, hx121_0, hx121_1, hx121_2⟩ := at_T67 HR0_0.out x4_2 p121 q121
        cases e121
        obtain ⟨hx121_0, hx121_1, hx121_2⟩ := hb3 HB.out hx121_0 hx121_1 hx121_2
        replace p121 := eq_true p121
        replace q121 := eq_true q121
        try go_wp2_with (first | ((with_reducible refine gate_dst (N := 5) rfl ?_); (try (refine gate_guard (by rfl) ?_; dsimp only)); refine box_event ?hg (N := 5) ?hd (cs := #[.string (⟨#[]⟩ : ByteArray), .string (⟨#[]⟩ : ByteArray), .int .i64 0]) (t := 67) ?hr ?_; (case hd => rfl); (case hg => rfl); (case hr => first | (go_simp; done) | (go_simp; rfl)); intro gb122 hg w41 hbox hb; have BK122 := am (hbox); have GW122 := am (bsz hg : w.heap.size ≤ gb122); have GE122 := GW122; have NB119_122 := am (ne1 hg BK119.out); have NB122_119 := am NB119_122.out.symm; replace BK119 := am (bkb BK119.out hb); replace HB := am (below_step bl hb); clear hb hbox hg; have hnb42 := NB122_119.out; have hnc42 := NB119_122.out; obtain ⟨z43_0, z43_1, z43_2, y43_0, y43_1, y43_2⟩ := blk3 BK122.out))
        have n0_ : Aside0 ((((w41.setCell ⟨gb122, 0, none⟩ (.string ((rd_T67 l0_0 x4_2).f0.f0))).setCell ⟨gb122, 1, none⟩ (.string ((rd_T67 l0_0 x4_2).f0.f1))).setCell ⟨gb122, 2, none⟩ (.int .i64 ((rd_T67 l0_0 x4_2).f1))).heap[gb119]? = some (.cells #[.slice (some ad121) l0_0.length c0_0, .slice A0_1 l0_1.length c0_1] 43 (0, 0))) := ⟨bf BK119.out NB119_122.out⟩
        have n1_ : Aside0 ((((w41.setCell ⟨gb122, 0, none⟩ (.string ((rd_T67 l0_0 x4_2).f0.f0))).setCell ⟨gb122, 1, none⟩ (.string ((rd_T67 l0_0 x4_2).f0.f1))).setCell ⟨gb122, 2, none⟩ (.int .i64 ((rd_T67 l0_0 x4_2).f1))).heap[gb122]? = some (.cells #[.string ((rd_T67 l0_0 x4_2).f0.f0), .string ((rd_T67 l0_0 x4_2).f0.f1), .int .i64 ((rd_T67 l0_0 x4_2).f1)] 67 (0, 0))) := ⟨bp BK122.out⟩
        have n2_ : Aside0 (Below w.heap.size w (((w41.setCell ⟨gb122, 0, none⟩ (.string ((rd_T67 l0_0 x4_2).f0.f0))).setCell ⟨gb122, 1, none⟩ (.string ((rd_T67 l0_0 x4_2).f0.f1))).setCell ⟨gb122, 2, none⟩ (.int .i64 ((rd_T67 l0_0 x4_2).f1)))) := ⟨bl⟩
        (try clear BK119)
        (try clear BK122)
        (try clear HB)
        generalize (((w41.setCell ⟨gb122, 0, none⟩ (.string ((rd_T67 l0_0 x4_2).f0.f0))).setCell ⟨gb122, 1, none⟩ (.string ((rd_T67 l0_0 x4_2).f0.f1))).setCell ⟨gb122, 2, none⟩ (.int .i64 ((rd_T67 l0_0 x4_2).f1))) = w44 at n0_ n1_ n2_ ⊢
        have BK119 := n0_
        have BK122 := n1_
        have HB := n2_
        clear n0_ n1_ n2_
        have n0_ := am (blk_drew BK119.out)
        have n1_ := am (blk_drew BK122.out)
        have n2_ := am (below_drew1 HB.out)
        clear BK119
        clear BK122
        clear HB
        have BK119 := n0_
        have BK122 := n1_
        have HB := n2_
        clear n0_ n1_ n2_
        refine start_ (n := 27) (S := fun w' => w'.cell? ⟨gb122, 0, none⟩ = some (.string ((rd_T67 l0_0 x4_2).f0.f0)) ∧ w'.cell? ⟨gb122, 1, none⟩ = some (.string ((rd_T67 l0_0 x4_2).f0.f1)) ∧ w'.cell? ⟨gb122, 2, none⟩ = some (.int .i64 ((rd_T67 l0_0 x4_2).f1))) (ds := []) #[F_, F_, F_, F_, F_, F_, F_, F_, F_, F_, F_, F_, F_, F_, F_, F_, F_, F_, F_, F_, F_, F_, F_, F_, F_, F_, F_] (by kernel_rfl) rfl rfl ⟨(blk_cell BK122.out 0).trans rfl, (blk_cell BK122.out 1).trans rfl, (blk_cell BK122.out 2).trans rfl⟩ (fun hHeld => ?_); refine with_tabW spec_BookRight.tab8 spec_BookRight.bits8 (fun HT_ HW_ => ?_)
        generalize w44.drew = w45 at BK119 BK122 HB hHeld ⊢
        refine pv 0 34 ?_
        refine tv3 1 35 hHeld ?_
        refine ov 2 36 (fun K hK => ?_)
        refine gk Tryd.func38 (spec_l05Names.calls _ _ _ _ _ A13.out) ?_
        rintro e w46 ⟨rfl, hb⟩
        refine ⟨_, rfl, ?_⟩
        have n0_ := am (bkb BK119.out hb)
        have n1_ := am (bkb BK122.out hb)
        have n2_ := am (below_step bl hb)
        clear BK119
        clear BK122
        clear HB
        have BK119 := n0_
        have BK122 := n1_
        have HB := n2_
        clear n0_ n1_ n2_
        skip
        skip
        skip
        skip
        refine hK.out _ _ (cel3 BK122.out) (fun hHeld => ?_)
        clear hK K
        refine norm_ (a' := ?_) ?_ ?_
        rotate_left
        ·show Act.put _ (some 36) _ = _
         simp only [Act.put, z1, z2, z3, i64_w, i32_w]
         rfl
        refine pv 3 37 ?_
        refine pv 4 38 ?_
        refine pv 5 39 ?_
        refine tv3 6 40 hHeld ?_
        refine ov 7 41 (fun K hK => ?_)
        refine gk Tryd.func47 (spec_MoneyRight.calls _ _ _ A15.out) ?_
        rintro e w' ⟨rfl, ⟨nd, rfl⟩⟩
        refine ⟨_, rfl, ?_⟩
        refine hK.out _ _ (cel3 BK122.out) (fun hHeld => ?_)
        clear hK K
        refine norm_ (a' := ?_) ?_ ?_
        rotate_left
        ·show Act.put _ (some 41) _ = _
         simp only [Act.put, z1, z2, z3, i64_w, i32_w]
         rfl
        refine pv 8 42 ?_
        refine pv 9 43 ?_
        refine pv 10 44 ?_
        refine pv 11 45 ?_
        refine pv 12 46 ?_
        refine pv 13 47 ?_
        refine pure_ (i := 14) (N := some 48) (v := undef) (a' := ?_) #[T_, T_, T_, T_, T_, T_, T_, T_, T_, T_, T_, T_, T_, T_, T_, F_, F_, F_, F_, F_, F_, F_, F_, F_, F_, F_, F_] rfl rfl (any_of HT_.out (by kernel_rfl)) (fun _ _ _ h => h) (Or.inr ⟨by rfl, rfl⟩) ?_ ?_
        rotate_left
        ·simp only [Act.put, z1, z2, z3, i64_w, i32_w]
         rfl
        refine pure_ (i := 15) (N := some 49) (v := undef) (a' := ?_) #[T_, T_, T_, T_, T_, T_, T_, T_, T_, T_, T_, T_, T_, T_, T_, T_, F_, F_, F_, F_, F_, F_, F_, F_, F_, F_, F_] rfl rfl (any_of HT_.out (by kernel_rfl)) (fun _ _ _ h => h) (Or.inr ⟨by rfl, rfl⟩) ?_ ?_
        rotate_left
        ·simp only [Act.put, z1, z2, z3, i64_w, i32_w]
         rfl
        refine pure_ (i := 16) (N := some 50) (v := undef) (a' := ?_) #[T_, T_, T_, T_, T_, T_, T_, T_, T_, T_, T_, T_, T_, T_, T_, T_, T_, F_, F_, F_, F_, F_, F_, F_, F_, F_, F_] rfl rfl (any_of HT_.out (by kernel_rfl)) (fun _ _ _ h => h) (Or.inr ⟨by rfl, rfl⟩) ?_ ?_
        rotate_left
        ·simp only [Act.put, z1, z2, z3, i64_w, i32_w]
         rfl
        refine pure_ (i := 17) (N := some 51) (v := undef) (a' := ?_) #[T_, T_, T_, T_, T_, T_, T_, T_, T_, T_, T_, T_, T_, T_, T_, T_, T_, T_, F_, F_, F_, F_, F_, F_, F_, F_, F_] rfl rfl (any_of HT_.out (by kernel_rfl)) (fun _ _ _ h => h) (Or.inr ⟨by rfl, rfl⟩) ?_ ?_
        rotate_left
        ·simp only [Act.put, z1, z2, z3, i64_w, i32_w]
         rfl
        refine pure_ (i := 18) (N := some 52) (v := undef) (a' := ?_) #[T_, T_, T_, T_, T_, T_, T_, T_, T_, T_, T_, T_, T_, T_, T_, T_, T_, T_, T_, F_, F_, F_, F_, F_, F_, F_, F_] rfl rfl (any_of HT_.out (by kernel_rfl)) (fun _ _ _ h => h) (Or.inr ⟨by rfl, rfl⟩) ?_ ?_
        rotate_left
        ·simp only [Act.put, z1, z2, z3, i64_w, i32_w]
         rfl
        refine pure_ (i := 19) (N := some 53) (v := undef) (a' := ?_) #[T_, T_, T_, T_, T_, T_, T_, T_, T_, T_, T_, T_, T_, T_, T_, T_, T_, T_, T_, T_, F_, F_, F_, F_, F_, F_, F_] rfl rfl (any_of HT_.out (by kernel_rfl)) (fun _ _ _ h => h) (Or.inr ⟨by rfl, rfl⟩) ?_ ?_
        rotate_left
        ·simp only [Act.put, z1, z2, z3, i64_w, i32_w]
         rfl
        refine pure_ (i := 20) (N := some 54) (v := undef) (a' := ?_) #[T_, T_, T_, T_, T_, T_, T_, T_, T_, T_, T_, T_, T_, T_, T_, T_, T_, T_, T_, T_, T_, F_, F_, F_, F_, F_, F_] rfl rfl (any_of HT_.out (by kernel_rfl)) (fun _ _ _ h => h) (Or.inr ⟨by rfl, rfl⟩) ?_ ?_
        rotate_left
        ·simp only [Act.put, z1, z2, z3, i64_w, i32_w]
         rfl
        refine pure_ (i := 21) (N := some 55) (v := undef) (a' := ?_) #[T_, T_, T_, T_, T_, T_, T_, T_, T_, T_, T_, T_, T_, T_, T_, T_, T_, T_, T_, T_, T_, T_, F_, F_, F_, F_, F_] rfl rfl (any_of HT_.out (by kernel_rfl)) (fun _ _ _ h => h) (Or.inr ⟨by rfl, rfl⟩) ?_ ?_
        rotate_left
        ·simp only [Act.put, z1, z2, z3, i64_w, i32_w]
         rfl
        refine pure_ (i := 22) (N := some 56) (v := undef) (a' := ?_) #[T_, T_, T_, T_, T_, T_, T_, T_, T_, T_, T_, T_, T_, T_, T_, T_, T_, T_, T_, T_, T_, T_, T_, F_, F_, F_, F_] rfl rfl (any_of HT_.out (by kernel_rfl)) (fun _ _ _ h => h) (Or.inr ⟨by rfl, rfl⟩) ?_ ?_
        rotate_left
        ·simp only [Act.put, z1, z2, z3, i64_w, i32_w]
         rfl
        refine pure_ (i := 23) (N := some 57) (v := undef) (a' := ?_) #[T_, T_, T_, T_, T_, T_, T_, T_, T_, T_, T_, T_, T_, T_, T_, T_, T_, T_, T_, T_, T_, T_, T_, T_, F_, F_, F_] rfl rfl (any_of HT_.out (by kernel_rfl)) (fun _ _ _ h => h) (Or.inr ⟨by rfl, rfl⟩) ?_ ?_
        rotate_left
        ·simp only [Act.put, z1, z2, z3, i64_w, i32_w]
         rfl
        refine pure_ (i := 24) (N := some 58) (v := undef) (a' := ?_) #[T_, T_, T_, T_, T_, T_, T_, T_, T_, T_, T_, T_, T_, T_, T_, T_, T_, T_, T_, T_, T_, T_, T_, T_, T_, F_, F_] rfl rfl (any_of HT_.out (by kernel_rfl)) (fun _ _ _ h => h) (Or.inr ⟨by rfl, rfl⟩) ?_ ?_
        rotate_left
        ·simp only [Act.put, z1, z2, z3, i64_w, i32_w]
         rfl
        refine pv 25 59 ?_
        refine pv 26 60 ?_
        refine done_ (done_of HT_.out (by kernel_rfl)) ?_
        obtain ⟨z47_0, z47_1, z47_2, y47_0, y47_1, y47_2⟩ := blk3 BK122.out
        try go_wp2
        go_roundg k2
        case measure => have := HJ1.out; have := HK2.out; omega
        case rel => exact ⟨(wrap64 (x3_2 + ((rd_T67 l0_0 x4_2).f1))), (wrap64 (x4_2 + 1)), rs, rs, H', ⟨by have := HJ1.out; have := HK2.out; omega⟩, ⟨bk BK119.out⟩, ⟨bl⟩⟩
       obtain rfl := Option.some.inj H
       obtain ⟨z48_0, z48_1, y48_0, y48_1⟩ := blk2 BK119.out
       have p121 : 0 ≤ (x4_2 : Int) := ode
       have q121 : x4_2 < (l0_0.length : Int) := ode
       obtain ⟨ad121, e121, hx121_0, hx121_1, hx121_2⟩ := at_T67 HR0_0.out x4_2 p121 q121
       cases e121
       obtain ⟨hx121_0, hx121_1, hx121_2⟩ := hb3 HB.out hx121_0 hx121_1 hx121_2
       replace p121 := eq_true p121
       replace q121 := eq_true q121
       try go_wp2_with (first | ((with_reducible refine gate_dst (N := 5) rfl ?_); (try (refine gate_guard (by rfl) ?_; dsimp only)); refine box_event ?hg (N := 5) ?hd (cs := #[.string (⟨#[]⟩ : ByteArray), .string (⟨#[]⟩ : ByteArray), .int .i64 0]) (t := 67) ?hr ?_; (case hd => rfl); (case hg => rfl); (case hr => first | (go_simp; done) | (go_simp; rfl)); intro gb122 hg w49 hbox hb; have BK122 := am (hbox); have GW122 := am (bsz hg : w.heap.size ≤ gb122); have GE122 := GW122; have NB119_122 := am (ne1 hg BK119.out); have NB122_119 := am NB119_122.out.symm; replace BK119 := am (bkb BK119.out hb); replace HB := am (below_step bl hb); clear hb hbox hg; have hnb50 := NB122_119.out; have hnc50 := NB119_122.out; obtain ⟨z51_0, z51_1, z51_2, y51_0, y51_1, y51_2⟩ := blk3 BK122.out))
       have n0_ : Aside0 ((((w49.setCell ⟨gb122, 0, none⟩ (.string ((rd_T67 l0_0 x4_2).f0.f0))).setCell ⟨gb122, 1, none⟩ (.string ((rd_T67 l0_0 x4_2).f0.f1))).setCell ⟨gb122, 2, none⟩ (.int .i64 ((rd_T67 l0_0 x4_2).f1))).heap[gb119]? = some (.cells #[.slice (some ad121) l0_0.length c0_0, .slice A0_1 l0_1.length c0_1] 43 (0, 0))) := ⟨bf BK119.out NB119_122.out⟩
       have n1_ : Aside0 ((((w49.setCell ⟨gb122, 0, none⟩ (.string ((rd_T67 l0_0 x4_2).f0.f0))).setCell ⟨gb122, 1, none⟩ (.string ((rd_T67 l0_0 x4_2).f0.f1))).setCell ⟨gb122, 2, none⟩ (.int .i64 ((rd_T67 l0_0 x4_2).f1))).heap[gb122]? = some (.cells #[.string ((rd_T67 l0_0 x4_2).f0.f0), .string ((rd_T67 l0_0 x4_2).f0.f1), .int .i64 ((rd_T67 l0_0 x4_2).f1)] 67 (0, 0))) := ⟨bp BK122.out⟩
       have n2_ : Aside0 (Below w.heap.size w (((w49.setCell ⟨gb122, 0, none⟩ (.string ((rd_T67 l0_0 x4_2).f0.f0))).setCell ⟨gb122, 1, none⟩ (.string ((rd_T67 l0_0 x4_2).f0.f1))).setCell ⟨gb122, 2, none⟩ (.int .i64 ((rd_T67 l0_0 x4_2).f1)))) := ⟨bl⟩
       (try clear BK119)
       (try clear BK122)
       (try clear HB)
       generalize (((w49.setCell ⟨gb122, 0, none⟩ (.string ((rd_T67 l0_0 x4_2).f0.f0))).setCell ⟨gb122, 1, none⟩ (.string ((rd_T67 l0_0 x4_2).f0.f1))).setCell ⟨gb122, 2, none⟩ (.int .i64 ((rd_T67 l0_0 x4_2).f1))) = w52 at n0_ n1_ n2_ ⊢
       have BK119 := n0_
       have BK122 := n1_
       have HB := n2_
       clear n0_ n1_ n2_
       have n0_ := am (blk_drew BK119.out)
       have n1_ := am (blk_drew BK122.out)
       have n2_ := am (below_drew1 HB.out)
       clear BK119
       clear BK122
       clear HB
       have BK119 := n0_
       have BK122 := n1_
       have HB := n2_
       clear n0_ n1_ n2_
       refine start_ (n := 27) (S := fun w' => w'.cell? ⟨gb122, 0, none⟩ = some (.string ((rd_T67 l0_0 x4_2).f0.f0)) ∧ w'.cell? ⟨gb122, 1, none⟩ = some (.string ((rd_T67 l0_0 x4_2).f0.f1)) ∧ w'.cell? ⟨gb122, 2, none⟩ = some (.int .i64 ((rd_T67 l0_0 x4_2).f1))) (ds := []) #[F_, F_, F_, F_, F_, F_, F_, F_, F_, F_, F_, F_, F_, F_, F_, F_, F_, F_, F_, F_, F_, F_, F_, F_, F_, F_, F_] (by kernel_rfl) rfl rfl ⟨(blk_cell BK122.out 0).trans rfl, (blk_cell BK122.out 1).trans rfl, (blk_cell BK122.out 2).trans rfl⟩ (fun hHeld => ?_); refine with_tabW spec_BookRight.tab8 spec_BookRight.bits8 (fun HT_ HW_ => ?_)
       generalize w52.drew = w53 at BK119 BK122 HB hHeld ⊢
       refine pv 0 34 ?_
       refine tv3 1 35 hHeld ?_
       refine ov 2 36 (fun K hK => ?_)
       refine gk Tryd.func38 (spec_l05Names.calls _ _ _ _ _ A13.out) ?_
       rintro e w54 ⟨rfl, hb⟩
       refine ⟨_, rfl, ?_⟩
       have n0_ := am (bkb BK119.out hb)
       have n1_ := am (bkb BK122.out hb)
       have n2_ := am (below_step bl hb)
       clear BK119
       clear BK122
       clear HB
       have BK119 := n0_
       have BK122 := n1_
       have HB := n2_
       clear n0_ n1_ n2_
       skip
       skip
       skip
       skip
       refine hK.out _ _ (cel3 BK122.out) (fun hHeld => ?_)
       clear hK K
       refine norm_ (a' := ?_) ?_ ?_
       rotate_left
       ·show Act.put _ (some 36) _ = _
        simp only [Act.put, z1, z2, z3, i64_w, i32_w]
        rfl
       refine pv 3 37 ?_
       refine pv 4 38 ?_
       refine pv 5 39 ?_
       refine tv3 6 40 hHeld ?_
       refine ov 7 41 (fun K hK => ?_)
       refine gk Tryd.func47 (spec_MoneyRight.calls _ _ _ A15.out) ?_
       rintro e w' ⟨rfl, ⟨nd, rfl⟩⟩
       refine ⟨_, rfl, ?_⟩
       refine hK.out _ _ (cel3 BK122.out) (fun hHeld => ?_)
       clear hK K
       refine norm_ (a' := ?_) ?_ ?_
       rotate_left
       ·show Act.put _ (some 41) _ = _
        simp only [Act.put, z1, z2, z3, i64_w, i32_w]
        rfl
       refine pv 8 42 ?_
       refine pv 9 43 ?_
       refine pv 10 44 ?_
       refine pure_ (i := 11) (N := some 45) (v := undef) (a' := ?_) #[T_, T_, T_, T_, T_, T_, T_, T_, T_, T_, T_, T_, F_, F_, F_, F_, F_, F_, F_, F_, F_, F_, F_, F_, F_, F_, F_] rfl rfl (any_of HT_.out (by kernel_rfl)) (fun _ _ _ h => h) (Or.inr ⟨by rfl, rfl⟩) ?_ ?_
       rotate_left
       ·simp only [Act.put, z1, z2, z3, i64_w, i32_w]
        rfl
       refine pure_ (i := 12) (N := some 46) (v := undef) (a' := ?_) #[T_, T_, T_, T_, T_, T_, T_, T_, T_, T_, T_, T_, T_, F_, F_, F_, F_, F_, F_, F_, F_, F_, F_, F_, F_, F_, F_] rfl rfl (any_of HT_.out (by kernel_rfl)) (fun _ _ _ h => h) (Or.inr ⟨by rfl, rfl⟩) ?_ ?_
       rotate_left
       ·simp only [Act.put, z1, z2, z3, i64_w, i32_w]
        rfl
       refine pure_ (i := 13) (N := some 47) (v := undef) (a' := ?_) #[T_, T_, T_, T_, T_, T_, T_, T_, T_, T_, T_, T_, T_, T_, F_, F_, F_, F_, F_, F_, F_, F_, F_, F_, F_, F_, F_] rfl rfl (any_of HT_.out (by kernel_rfl)) (fun _ _ _ h => h) (Or.inr ⟨by rfl, rfl⟩) ?_ ?_
       rotate_left
       ·simp only [Act.put, z1, z2, z3, i64_w, i32_w]
        rfl
       refine pure_ (i := 14) (N := some 48) (v := undef) (a' := ?_) #[T_, T_, T_, T_, T_, T_, T_, T_, T_, T_, T_, T_, T_, T_, T_, F_, F_, F_, F_, F_, F_, F_, F_, F_, F_, F_, F_] rfl rfl (any_of HT_.out (by kernel_rfl)) (fun _ _ _ h => h) (Or.inr ⟨by rfl, rfl⟩) ?_ ?_
       rotate_left
       ·simp only [Act.put, z1, z2, z3, i64_w, i32_w]
        rfl
       refine pure_ (i := 15) (N := some 49) (v := undef) (a' := ?_) #[T_, T_, T_, T_, T_, T_, T_, T_, T_, T_, T_, T_, T_, T_, T_, T_, F_, F_, F_, F_, F_, F_, F_, F_, F_, F_, F_] rfl rfl (any_of HT_.out (by kernel_rfl)) (fun _ _ _ h => h) (Or.inr ⟨by rfl, rfl⟩) ?_ ?_
       rotate_left
       ·simp only [Act.put, z1, z2, z3, i64_w, i32_w]
        rfl
       refine pure_ (i := 16) (N := some 50) (v := undef) (a' := ?_) #[T_, T_, T_, T_, T_, T_, T_, T_, T_, T_, T_, T_, T_, T_, T_, T_, T_, F_, F_, F_, F_, F_, F_, F_, F_, F_, F_] rfl rfl (any_of HT_.out (by kernel_rfl)) (fun _ _ _ h => h) (Or.inr ⟨by rfl, rfl⟩) ?_ ?_
       rotate_left
       ·simp only [Act.put, z1, z2, z3, i64_w, i32_w]
        rfl
       refine pure_ (i := 17) (N := some 51) (v := undef) (a' := ?_) #[T_, T_, T_, T_, T_, T_, T_, T_, T_, T_, T_, T_, T_, T_, T_, T_, T_, T_, F_, F_, F_, F_, F_, F_, F_, F_, F_] rfl rfl (any_of HT_.out (by kernel_rfl)) (fun _ _ _ h => h) (Or.inr ⟨by rfl, rfl⟩) ?_ ?_
       rotate_left
       ·simp only [Act.put, z1, z2, z3, i64_w, i32_w]
        rfl
       refine pure_ (i := 18) (N := some 52) (v := undef) (a' := ?_) #[T_, T_, T_, T_, T_, T_, T_, T_, T_, T_, T_, T_, T_, T_, T_, T_, T_, T_, T_, F_, F_, F_, F_, F_, F_, F_, F_] rfl rfl (any_of HT_.out (by kernel_rfl)) (fun _ _ _ h => h) (Or.inr ⟨by rfl, rfl⟩) ?_ ?_
       rotate_left
       ·simp only [Act.put, z1, z2, z3, i64_w, i32_w]
        rfl
       refine pure_ (i := 19) (N := some 53) (v := undef) (a' := ?_) #[T_, T_, T_, T_, T_, T_, T_, T_, T_, T_, T_, T_, T_, T_, T_, T_, T_, T_, T_, T_, F_, F_, F_, F_, F_, F_, F_] rfl rfl (any_of HT_.out (by kernel_rfl)) (fun _ _ _ h => h) (Or.inr ⟨by rfl, rfl⟩) ?_ ?_
       rotate_left
       ·simp only [Act.put, z1, z2, z3, i64_w, i32_w]
        rfl
       refine pure_ (i := 20) (N := some 54) (v := undef) (a' := ?_) #[T_, T_, T_, T_, T_, T_, T_, T_, T_, T_, T_, T_, T_, T_, T_, T_, T_, T_, T_, T_, T_, F_, F_, F_, F_, F_, F_] rfl rfl (any_of HT_.out (by kernel_rfl)) (fun _ _ _ h => h) (Or.inr ⟨by rfl, rfl⟩) ?_ ?_
       rotate_left
       ·simp only [Act.put, z1, z2, z3, i64_w, i32_w]
        rfl
       refine pure_ (i := 21) (N := some 55) (v := undef) (a' := ?_) #[T_, T_, T_, T_, T_, T_, T_, T_, T_, T_, T_, T_, T_, T_, T_, T_, T_, T_, T_, T_, T_, T_, F_, F_, F_, F_, F_] rfl rfl (any_of HT_.out (by kernel_rfl)) (fun _ _ _ h => h) (Or.inr ⟨by rfl, rfl⟩) ?_ ?_
       rotate_left
       ·simp only [Act.put, z1, z2, z3, i64_w, i32_w]
        rfl
       refine pure_ (i := 22) (N := some 56) (v := undef) (a' := ?_) #[T_, T_, T_, T_, T_, T_, T_, T_, T_, T_, T_, T_, T_, T_, T_, T_, T_, T_, T_, T_, T_, T_, T_, F_, F_, F_, F_] rfl rfl (any_of HT_.out (by kernel_rfl)) (fun _ _ _ h => h) (Or.inr ⟨by rfl, rfl⟩) ?_ ?_
       rotate_left
       ·simp only [Act.put, z1, z2, z3, i64_w, i32_w]
        rfl
       refine pure_ (i := 23) (N := some 57) (v := undef) (a' := ?_) #[T_, T_, T_, T_, T_, T_, T_, T_, T_, T_, T_, T_, T_, T_, T_, T_, T_, T_, T_, T_, T_, T_, T_, T_, F_, F_, F_] rfl rfl (any_of HT_.out (by kernel_rfl)) (fun _ _ _ h => h) (Or.inr ⟨by rfl, rfl⟩) ?_ ?_
       rotate_left
       ·simp only [Act.put, z1, z2, z3, i64_w, i32_w]
        rfl
       refine pure_ (i := 24) (N := some 58) (v := undef) (a' := ?_) #[T_, T_, T_, T_, T_, T_, T_, T_, T_, T_, T_, T_, T_, T_, T_, T_, T_, T_, T_, T_, T_, T_, T_, T_, T_, F_, F_] rfl rfl (any_of HT_.out (by kernel_rfl)) (fun _ _ _ h => h) (Or.inr ⟨by rfl, rfl⟩) ?_ ?_
       rotate_left
       ·simp only [Act.put, z1, z2, z3, i64_w, i32_w]
        rfl
       refine pure_ (i := 25) (N := some 59) (v := undef) (a' := ?_) #[T_, T_, T_, T_, T_, T_, T_, T_, T_, T_, T_, T_, T_, T_, T_, T_, T_, T_, T_, T_, T_, T_, T_, T_, T_, T_, F_] rfl rfl (any_of HT_.out (by kernel_rfl)) (fun _ _ _ h => h) (Or.inr ⟨by rfl, rfl⟩) ?_ ?_
       rotate_left
       ·simp only [Act.put, z1, z2, z3, i64_w, i32_w]
        rfl
       refine pv 26 60 ?_
       refine done_ (done_of HT_.out (by kernel_rfl)) ?_
       try go_wp2
       go_ret
       exact ⟨er, bl⟩
      obtain rfl := Option.some.inj H
      obtain ⟨z55_0, z55_1, y55_0, y55_1⟩ := blk2 BK119.out
      have p121 : 0 ≤ (x4_2 : Int) := ode
      have q121 : x4_2 < (l0_0.length : Int) := ode
      obtain ⟨ad121, e121, hx121_0, hx121_1, hx121_2⟩ := at_T67 HR0_0.out x4_2 p121 q121
      cases e121
      obtain ⟨hx121_0, hx121_1, hx121_2⟩ := hb3 HB.out hx121_0 hx121_1 hx121_2
      replace p121 := eq_true p121
      replace q121 := eq_true q121
      try go_wp2_with (first | ((with_reducible refine gate_dst (N := 5) rfl ?_); (try (refine gate_guard (by rfl) ?_; dsimp only)); refine box_event ?hg (N := 5) ?hd (cs := #[.string (⟨#[]⟩ : ByteArray), .string (⟨#[]⟩ : ByteArray), .int .i64 0]) (t := 67) ?hr ?_; (case hd => rfl); (case hg => rfl); (case hr => first | (go_simp; done) | (go_simp; rfl)); intro gb122 hg w56 hbox hb; have BK122 := am (hbox); have GW122 := am (bsz hg : w.heap.size ≤ gb122); have GE122 := GW122; have NB119_122 := am (ne1 hg BK119.out); have NB122_119 := am NB119_122.out.symm; replace BK119 := am (bkb BK119.out hb); replace HB := am (below_step bl hb); clear hb hbox hg; have hnb57 := NB122_119.out; have hnc57 := NB119_122.out; obtain ⟨z58_0, z58_1, z58_2, y58_0, y58_1, y58_2⟩ := blk3 BK122.out))
      have n0_ : Aside0 ((((w56.setCell ⟨gb122, 0, none⟩ (.string ((rd_T67 l0_0 x4_2).f0.f0))).setCell ⟨gb122, 1, none⟩ (.string ((rd_T67 l0_0 x4_2).f0.f1))).setCell ⟨gb122, 2, none⟩ (.int .i64 ((rd_T67 l0_0 x4_2).f1))).heap[gb119]? = some (.cells #[.slice (some ad121) l0_0.length c0_0, .slice A0_1 l0_1.length c0_1] 43 (0, 0))) := ⟨bf BK119.out NB119_122.out⟩
      have n1_ : Aside0 ((((w56.setCell ⟨gb122, 0, none⟩ (.string ((rd_T67 l0_0 x4_2).f0.f0))).setCell ⟨gb122, 1, none⟩ (.string ((rd_T67 l0_0 x4_2).f0.f1))).setCell ⟨gb122, 2, none⟩ (.int .i64 ((rd_T67 l0_0 x4_2).f1))).heap[gb122]? = some (.cells #[.string ((rd_T67 l0_0 x4_2).f0.f0), .string ((rd_T67 l0_0 x4_2).f0.f1), .int .i64 ((rd_T67 l0_0 x4_2).f1)] 67 (0, 0))) := ⟨bp BK122.out⟩
      have n2_ : Aside0 (Below w.heap.size w (((w56.setCell ⟨gb122, 0, none⟩ (.string ((rd_T67 l0_0 x4_2).f0.f0))).setCell ⟨gb122, 1, none⟩ (.string ((rd_T67 l0_0 x4_2).f0.f1))).setCell ⟨gb122, 2, none⟩ (.int .i64 ((rd_T67 l0_0 x4_2).f1)))) := ⟨bl⟩
      (try clear BK119)
      (try clear BK122)
      (try clear HB)
      generalize (((w56.setCell ⟨gb122, 0, none⟩ (.string ((rd_T67 l0_0 x4_2).f0.f0))).setCell ⟨gb122, 1, none⟩ (.string ((rd_T67 l0_0 x4_2).f0.f1))).setCell ⟨gb122, 2, none⟩ (.int .i64 ((rd_T67 l0_0 x4_2).f1))) = w59 at n0_ n1_ n2_ ⊢
      have BK119 := n0_
      have BK122 := n1_
      have HB := n2_
      clear n0_ n1_ n2_
      have n0_ := am (blk_drew BK119.out)
      have n1_ := am (blk_drew BK122.out)
      have n2_ := am (below_drew1 HB.out)
      clear BK119
      clear BK122
      clear HB
      have BK119 := n0_
      have BK122 := n1_
      have HB := n2_
      clear n0_ n1_ n2_
      refine start_ (n := 27) (S := fun w' => w'.cell? ⟨gb122, 0, none⟩ = some (.string ((rd_T67 l0_0 x4_2).f0.f0)) ∧ w'.cell? ⟨gb122, 1, none⟩ = some (.string ((rd_T67 l0_0 x4_2).f0.f1)) ∧ w'.cell? ⟨gb122, 2, none⟩ = some (.int .i64 ((rd_T67 l0_0 x4_2).f1))) (ds := []) #[F_, F_, F_, F_, F_, F_, F_, F_, F_, F_, F_, F_, F_, F_, F_, F_, F_, F_, F_, F_, F_, F_, F_, F_, F_, F_, F_] (by kernel_rfl) rfl rfl ⟨(blk_cell BK122.out 0).trans rfl, (blk_cell BK122.out 1).trans rfl, (blk_cell BK122.out 2).trans rfl⟩ (fun hHeld => ?_); refine with_tabW spec_BookRight.tab8 spec_BookRight.bits8 (fun HT_ HW_ => ?_)
      generalize w59.drew = w60 at BK119 BK122 HB hHeld ⊢
      refine pv 0 34 ?_
      refine tv3 1 35 hHeld ?_
      refine ov 2 36 (fun K hK => ?_)
      refine gk Tryd.func38 (spec_l05Names.calls _ _ _ _ _ A13.out) ?_
      rintro e w61 ⟨rfl, hb⟩
      refine ⟨_, rfl, ?_⟩
      have n0_ := am (bkb BK119.out hb)
      have n1_ := am (bkb BK122.out hb)
      have n2_ := am (below_step bl hb)
      clear BK119
      clear BK122
      clear HB
      have BK119 := n0_
      have BK122 := n1_
      have HB := n2_
      clear n0_ n1_ n2_
      skip
      skip
      skip
      skip
      refine hK.out _ _ (cel3 BK122.out) (fun hHeld => ?_)
      clear hK K
      refine norm_ (a' := ?_) ?_ ?_
      rotate_left
      ·show Act.put _ (some 36) _ = _
       simp only [Act.put, z1, z2, z3, i64_w, i32_w]
       rfl
      refine pv 3 37 ?_
      refine pv 4 38 ?_
      refine pure_ (i := 5) (N := some 39) (v := undef) (a' := ?_) #[T_, T_, T_, T_, T_, T_, F_, F_, F_, F_, F_, F_, F_, F_, F_, F_, F_, F_, F_, F_, F_, F_, F_, F_, F_, F_, F_] rfl rfl (any_of HT_.out (by kernel_rfl)) (fun _ _ _ h => h) (Or.inr ⟨by rfl, rfl⟩) ?_ ?_
      rotate_left
      ·simp only [Act.put, z1, z2, z3, i64_w, i32_w]
       rfl
      refine pure_ (i := 6) (N := some 40) (v := undef) (a' := ?_) #[T_, T_, T_, T_, T_, T_, T_, F_, F_, F_, F_, F_, F_, F_, F_, F_, F_, F_, F_, F_, F_, F_, F_, F_, F_, F_, F_] rfl rfl (any_of HT_.out (by kernel_rfl)) (fun _ _ _ h => h) (Or.inr ⟨by rfl, rfl⟩) ?_ ?_
      rotate_left
      ·simp only [Act.put, z1, z2, z3, i64_w, i32_w]
       rfl
      refine pure_ (i := 7) (N := some 41) (v := undef) (a' := ?_) #[T_, T_, T_, T_, T_, T_, T_, T_, F_, F_, F_, F_, F_, F_, F_, F_, F_, F_, F_, F_, F_, F_, F_, F_, F_, F_, F_] rfl rfl (any_of HT_.out (by kernel_rfl)) (fun _ _ _ h => h) (Or.inr ⟨by rfl, rfl⟩) ?_ ?_
      rotate_left
      ·simp only [Act.put, z1, z2, z3, i64_w, i32_w]
       rfl
      refine pure_ (i := 8) (N := some 42) (v := undef) (a' := ?_) #[T_, T_, T_, T_, T_, T_, T_, T_, T_, F_, F_, F_, F_, F_, F_, F_, F_, F_, F_, F_, F_, F_, F_, F_, F_, F_, F_] rfl rfl (any_of HT_.out (by kernel_rfl)) (fun _ _ _ h => h) (Or.inr ⟨by rfl, rfl⟩) ?_ ?_
      rotate_left
      ·simp only [Act.put, z1, z2, z3, i64_w, i32_w]
       rfl
      refine pv 9 43 ?_
      refine pv 10 44 ?_
      refine pure_ (i := 11) (N := some 45) (v := undef) (a' := ?_) #[T_, T_, T_, T_, T_, T_, T_, T_, T_, T_, T_, T_, F_, F_, F_, F_, F_, F_, F_, F_, F_, F_, F_, F_, F_, F_, F_] rfl rfl (any_of HT_.out (by kernel_rfl)) (fun _ _ _ h => h) (Or.inr ⟨by rfl, rfl⟩) ?_ ?_
      rotate_left
      ·simp only [Act.put, z1, z2, z3, i64_w, i32_w]
       rfl
      refine pure_ (i := 12) (N := some 46) (v := undef) (a' := ?_) #[T_, T_, T_, T_, T_, T_, T_, T_, T_, T_, T_, T_, T_, F_, F_, F_, F_, F_, F_, F_, F_, F_, F_, F_, F_, F_, F_] rfl rfl (any_of HT_.out (by kernel_rfl)) (fun _ _ _ h => h) (Or.inr ⟨by rfl, rfl⟩) ?_ ?_
      rotate_left
      ·simp only [Act.put, z1, z2, z3, i64_w, i32_w]
       rfl
      refine pure_ (i := 13) (N := some 47) (v := undef) (a' := ?_) #[T_, T_, T_, T_, T_, T_, T_, T_, T_, T_, T_, T_, T_, T_, F_, F_, F_, F_, F_, F_, F_, F_, F_, F_, F_, F_, F_] rfl rfl (any_of HT_.out (by kernel_rfl)) (fun _ _ _ h => h) (Or.inr ⟨by rfl, rfl⟩) ?_ ?_
      rotate_left
      ·simp only [Act.put, z1, z2, z3, i64_w, i32_w]
       rfl
      refine pure_ (i := 14) (N := some 48) (v := undef) (a' := ?_) #[T_, T_, T_, T_, T_, T_, T_, T_, T_, T_, T_, T_, T_, T_, T_, F_, F_, F_, F_, F_, F_, F_, F_, F_, F_, F_, F_] rfl rfl (any_of HT_.out (by kernel_rfl)) (fun _ _ _ h => h) (Or.inr ⟨by rfl, rfl⟩) ?_ ?_
      rotate_left
      ·simp only [Act.put, z1, z2, z3, i64_w, i32_w]
       rfl
      refine pure_ (i := 15) (N := some 49) (v := undef) (a' := ?_) #[T_, T_, T_, T_, T_, T_, T_, T_, T_, T_, T_, T_, T_, T_, T_, T_, F_, F_, F_, F_, F_, F_, F_, F_, F_, F_, F_] rfl rfl (any_of HT_.out (by kernel_rfl)) (fun _ _ _ h => h) (Or.inr ⟨by rfl, rfl⟩) ?_ ?_
      rotate_left
      ·simp only [Act.put, z1, z2, z3, i64_w, i32_w]
       rfl
      refine pure_ (i := 16) (N := some 50) (v := undef) (a' := ?_) #[T_, T_, T_, T_, T_, T_, T_, T_, T_, T_, T_, T_, T_, T_, T_, T_, T_, F_, F_, F_, F_, F_, F_, F_, F_, F_, F_] rfl rfl (any_of HT_.out (by kernel_rfl)) (fun _ _ _ h => h) (Or.inr ⟨by rfl, rfl⟩) ?_ ?_
      rotate_left
      ·simp only [Act.put, z1, z2, z3, i64_w, i32_w]
       rfl
      refine pure_ (i := 17) (N := some 51) (v := undef) (a' := ?_) #[T_, T_, T_, T_, T_, T_, T_, T_, T_, T_, T_, T_, T_, T_, T_, T_, T_, T_, F_, F_, F_, F_, F_, F_, F_, F_, F_] rfl rfl (any_of HT_.out (by kernel_rfl)) (fun _ _ _ h => h) (Or.inr ⟨by rfl, rfl⟩) ?_ ?_
      rotate_left
      ·simp only [Act.put, z1, z2, z3, i64_w, i32_w]
       rfl
      refine pure_ (i := 18) (N := some 52) (v := undef) (a' := ?_) #[T_, T_, T_, T_, T_, T_, T_, T_, T_, T_, T_, T_, T_, T_, T_, T_, T_, T_, T_, F_, F_, F_, F_, F_, F_, F_, F_] rfl rfl (any_of HT_.out (by kernel_rfl)) (fun _ _ _ h => h) (Or.inr ⟨by rfl, rfl⟩) ?_ ?_
      rotate_left
      ·simp only [Act.put, z1, z2, z3, i64_w, i32_w]
       rfl
      refine pure_ (i := 19) (N := some 53) (v := undef) (a' := ?_) #[T_, T_, T_, T_, T_, T_, T_, T_, T_, T_, T_, T_, T_, T_, T_, T_, T_, T_, T_, T_, F_, F_, F_, F_, F_, F_, F_] rfl rfl (any_of HT_.out (by kernel_rfl)) (fun _ _ _ h => h) (Or.inr ⟨by rfl, rfl⟩) ?_ ?_
      rotate_left
      ·simp only [Act.put, z1, z2, z3, i64_w, i32_w]
       rfl
      refine pure_ (i := 20) (N := some 54) (v := undef) (a' := ?_) #[T_, T_, T_, T_, T_, T_, T_, T_, T_, T_, T_, T_, T_, T_, T_, T_, T_, T_, T_, T_, T_, F_, F_, F_, F_, F_, F_] rfl rfl (any_of HT_.out (by kernel_rfl)) (fun _ _ _ h => h) (Or.inr ⟨by rfl, rfl⟩) ?_ ?_
      rotate_left
      ·simp only [Act.put, z1, z2, z3, i64_w, i32_w]
       rfl
      refine pure_ (i := 21) (N := some 55) (v := undef) (a' := ?_) #[T_, T_, T_, T_, T_, T_, T_, T_, T_, T_, T_, T_, T_, T_, T_, T_, T_, T_, T_, T_, T_, T_, F_, F_, F_, F_, F_] rfl rfl (any_of HT_.out (by kernel_rfl)) (fun _ _ _ h => h) (Or.inr ⟨by rfl, rfl⟩) ?_ ?_
      rotate_left
      ·simp only [Act.put, z1, z2, z3, i64_w, i32_w]
       rfl
      refine pure_ (i := 22) (N := some 56) (v := undef) (a' := ?_) #[T_, T_, T_, T_, T_, T_, T_, T_, T_, T_, T_, T_, T_, T_, T_, T_, T_, T_, T_, T_, T_, T_, T_, F_, F_, F_, F_] rfl rfl (any_of HT_.out (by kernel_rfl)) (fun _ _ _ h => h) (Or.inr ⟨by rfl, rfl⟩) ?_ ?_
      rotate_left
      ·simp only [Act.put, z1, z2, z3, i64_w, i32_w]
       rfl
      refine pure_ (i := 23) (N := some 57) (v := undef) (a' := ?_) #[T_, T_, T_, T_, T_, T_, T_, T_, T_, T_, T_, T_, T_, T_, T_, T_, T_, T_, T_, T_, T_, T_, T_, T_, F_, F_, F_] rfl rfl (any_of HT_.out (by kernel_rfl)) (fun _ _ _ h => h) (Or.inr ⟨by rfl, rfl⟩) ?_ ?_
      rotate_left
      ·simp only [Act.put, z1, z2, z3, i64_w, i32_w]
       rfl
      refine pure_ (i := 24) (N := some 58) (v := undef) (a' := ?_) #[T_, T_, T_, T_, T_, T_, T_, T_, T_, T_, T_, T_, T_, T_, T_, T_, T_, T_, T_, T_, T_, T_, T_, T_, T_, F_, F_] rfl rfl (any_of HT_.out (by kernel_rfl)) (fun _ _ _ h => h) (Or.inr ⟨by rfl, rfl⟩) ?_ ?_
      rotate_left
      ·simp only [Act.put, z1, z2, z3, i64_w, i32_w]
       rfl
      refine pure_ (i := 25) (N := some 59) (v := undef) (a' := ?_) #[T_, T_, T_, T_, T_, T_, T_, T_, T_, T_, T_, T_, T_, T_, T_, T_, T_, T_, T_, T_, T_, T_, T_, T_, T_, T_, F_] rfl rfl (any_of HT_.out (by kernel_rfl)) (fun _ _ _ h => h) (Or.inr ⟨by rfl, rfl⟩) ?_ ?_
      rotate_left
      ·simp only [Act.put, z1, z2, z3, i64_w, i32_w]
       rfl
      refine pv 26 60 ?_
      refine done_ (done_of HT_.out (by kernel_rfl)) ?_
      try go_wp2
      go_ret
      exact ⟨er, bl⟩
     obtain rfl := Option.some.inj H
     obtain ⟨z62_0, z62_1, y62_0, y62_1⟩ := blk2 BK119.out
     go_wp2
     go_ret
     exact ⟨er, bl⟩

end Go.Proofs.YtlhefhcdlgkngaaDoor.PFnExactBookBalance
