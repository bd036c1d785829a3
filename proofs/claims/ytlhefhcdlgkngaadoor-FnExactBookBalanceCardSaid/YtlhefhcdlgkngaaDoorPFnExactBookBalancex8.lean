-- laid by seedprint.py, a program of this session, over contracts that it gives by hand; Lean checks it
-- dented
import Derived.Test.YtlhefhcdlgkngaaDoorQMin
import Derived.Test.YtlhefhcdlgkngaaDoorQAut
import Derived.Test.YtlhefhcdlgkngaaDoorQBlk
import Derived.Test.YtlhefhcdlgkngaaDoorPFnExactBookBalancex0
import Derived.Test.YtlhefhcdlgkngaaDoorPFnExactBookBalancex6
import Derived.Test.YtlhefhcdlgkngaaDoorPFnExactBookBalancex7
namespace Go.Proofs.YtlhefhcdlgkngaaDoor.PFnExactBookBalance
open Go.RowKit Go.Proofs.YtlhefhcdlgkngaaDoorW.PrintWords Go.Proofs.YtlhefhcdlgkngaaDoorW.PrintLast Go.Proofs.YtlhefhcdlgkngaaDoorW.PrintMore
attribute [local go_sem] max2_int min2_int max_two min_two max_three min_three max_four min_four   -- for this text's walks alone
set_option maxHeartbeats 8000000
set_option maxRecDepth 100000
set_option linter.unusedVariables false
set_option linter.unusedSimpArgs false

/-! ### impl_Book_place_1: function 54 -/
def impl_Book_place_1.f (k : Nat) (a0_0 : ByteArray) (a0_1 : ByteArray) (a0_2 : Int) (a1_0 : ByteArray) (a1_1 : ByteArray) : Option (Int) := (impl_Spot_order.f k a0_0 a0_1 a1_0 a1_1).bind fun t194 => (some t194)
theorem impl_Book_place_1.mono : ∀ a0 a1 a2 a3 a4 k, LeO (impl_Book_place_1.f k a0 a1 a2 a3 a4) (impl_Book_place_1.f (k + 1) a0 a1 a2 a3 a4) := by
 intro a0 a1 a2 a3 a4 k
 unfold impl_Book_place_1.f
 repeat' (with_reducible first | exact impl_Spot_order.mono .. | exact LeO.refl _ | exact LeO.none _ | refine LeO.ite ?_ ?_ | refine LeO.bind ?_ (fun _ => ?_))
theorem impl_Book_place_1.calls (k : Nat) (a0_0 : ByteArray) (a0_1 : ByteArray) (a0_2 : Int) (a1_0 : ByteArray) (a1_1 : ByteArray) (r : Int) (w : World) (h : impl_Book_place_1.f k a0_0 a0_1 a0_2 a1_0 a1_1 = some r) :
  Calls Tryd.prog 54 #[.agg #[.string a0_0, .string a0_1, .int .i64 a0_2], .agg #[.string a1_0, .string a1_1]] w fun e w' => e = .returned (.int .i64 r) ∧ Below w.heap.size w w' := by
 have hu67 := Tryd.underlying67
 have hu45 := Tryd.underlying45
 have HB := am (Below.refl w.heap.size w)
 have H := h
 clear h
 unfold impl_Book_place_1.f at H
 revert H; refine bj fun t194 A3 H => ?_
 obtain rfl := Option.some.inj H
 go_enter Tryd.func54, Tryd.ntmps54
 go_wp2_with (first | ((with_reducible refine g_ 2 ?_); refine bx 2 #[.string a0_0, .string a0_1, .int .i64 a0_2] 67 ?_; intro gb192 hg w4 hbox hb; have BK192 := am (hbox); have GW192 := am (bsz hg : w.heap.size ≤ gb192); have GE192 := GW192; replace HB := am (below_step bl hb); clear hb hbox hg) | ((with_reducible refine g_ 3 ?_); refine bx 3 #[.string a1_0, .string a1_1] 45 ?_; intro gb193 hg w5 hbox hb; have BK193 := am (hbox); have GW193 := am (bsz hg : w.heap.size ≤ gb193); have GE193 := GW193; have NB192_193 := am (ne1 hg BK192.out); have NB193_192 := am NB192_193.out.symm; replace BK192 := am (bkb BK192.out hb); replace HB := am (below_step bl hb); clear hb hbox hg; have hnb6 := NB192_193.out; have hnc6 := NB193_192.out; obtain ⟨z7_0, z7_1, z7_2, y7_0, y7_1, y7_2⟩ := blk3 BK192.out; obtain ⟨z8_0, z8_1, y8_0, y8_1⟩ := blk2 BK193.out) | ((with_reducible refine c_ 51 ?_); refine gc 51 (some 8) Tryd.func51 (impl_Spot_order.calls _ _ _ _ _ _ _ A3.out) ?_; rintro e w9 ⟨rfl, hb⟩; refine ⟨_, rfl, ?_⟩; replace BK192 := am (bkb BK192.out hb); replace BK193 := am (bkb BK193.out hb); replace HB := am (below_step bl hb); clear hb))
 go_ret
 exact ⟨er, bl⟩

/-! ### impl_Book_place: function 34 -/
/-- What the comparison says of a line against the spot. -/
def impl_Book_place.ord (k : Nat) (x : S67) (t0 t1 : ByteArray) : Option Int := impl_Book_place_1.f k x.f0.f0 x.f0.f1 x.f1 t0 t1
/-- The search between i and j. -/
def impl_Book_place.l0 : Nat → List (S67) → ByteArray → ByteArray → Int → Int → Option (Int × Bool)
 | 0, _, _, _, _, _ => none
 | k + 1, l, t0, t1, i, j =>
  if i < j then (impl_Book_place.ord k (rd_T67 l ((i + j) / 2)) t0 t1).bind fun c => if c < 0 then impl_Book_place.l0 k l t0 t1 ((i + j) / 2 + 1) j else impl_Book_place.l0 k l t0 t1 i ((i + j) / 2)
  else if i < (l.length : Int) then (impl_Book_place.ord k (rd_T67 l i) t0 t1).bind fun c => some (i, c == 0) else some (i, false)
def impl_Book_place.f (k : Nat) (l0 : List (S67)) (_l1 : List ByteArray) (t0 t1 : ByteArray) : Option (Int × Bool) := impl_Book_place.l0 k l0 t0 t1 0 (l0.length : Int)
theorem impl_Book_place.mono_l : ∀ k, (∀ y0 y1 y2 y3 y4, LeO (impl_Book_place.l0 k y0 y1 y2 y3 y4) (impl_Book_place.l0 (k + 1) y0 y1 y2 y3 y4))
 | 0 => fun _ _ _ _ _ r h => by simp [impl_Book_place.l0] at h
 | k + 1 => by
  have ih0 := impl_Book_place.mono_l k
  intro y0 y1 y2 y3 y4
  unfold impl_Book_place.l0
  unfold impl_Book_place.ord
  repeat' (with_reducible first | exact ih0 .. | exact impl_Book_place_1.mono .. | exact LeO.refl _ | exact LeO.none _ | refine LeO.ite ?_ ?_ | refine LeO.bind ?_ (fun _ => ?_))
theorem impl_Book_place.mono : ∀ a0 a1 a2 a3 k, LeO (impl_Book_place.f k a0 a1 a2 a3) (impl_Book_place.f (k + 1) a0 a1 a2 a3) := fun a0 _ a2 a3 k => impl_Book_place.mono_l k a0 a2 a3 0 (a0.length : Int)
theorem impl_Book_place.search (k : Nat) (A0 : Option Addr) (c0 : Nat) (l0 : List (S67)) (t0 t1 : ByteArray) (r1 : Int) (r2 : Bool) (w : World) (hr0 : Kd.C k67 w A0 l0.length l0) (hc0 : l0.length ≤ c0)
  (h : impl_Book_place.l0 k l0 t0 t1 0 (l0.length : Int) = some (r1, r2)) :
  Calls Tryd.prog 53 #[.slice A0 l0.length c0, .agg #[.string t0, .string t1], .func (.func 54) #[] #[]] w fun e w' => e = .returned (.tuple #[.int .i64 r1, .bool r2]) ∧ Below w.heap.size w w' := by
 have HB := am (Below.refl w.heap.size w)
 have H' := am h; clear h
 go_enter Tryd.func53, Tryd.ntmps53
 go_wp2_with (first | ((with_reducible refine g_ 4 ?_); refine bx 4 #[.string t0, .string t1] 45 ?_; intro g hg w4 hbox hb; have BK := am hbox; have GW := am (bsz hg : w.heap.size ≤ g); have GE := GW; replace HB := am (below_step bl hb); clear hb hbox hg))
 have hb0 := hr0.2.1
 go_loopg [9, 10] k (fun kq v9 v10 w' => ∃ (i j : Int), v9 = .int .i64 i ∧ v10 = .int .i64 j ∧ Aside0 (impl_Book_place.l0 kq l0 t0 t1 i j = some (r1, r2)) ∧ Aside0 (kq ≤ k) ∧ Aside0 (0 ≤ i ∧ i ≤ j ∧ j ≤ (l0.length : Int)) ∧ Aside0 (w'.heap[g]? = some (.cells #[.string t0, .string t1] 45 (0, 0))) ∧ Aside0 (Below w.heap.size w w'))
 case atStart => exact ⟨0, (l0.length : Int), rfl, rfl, H', ⟨Nat.le_refl _⟩, ⟨by omega⟩, ⟨bk BK.out⟩, ⟨bl⟩⟩
 case round =>
  clear H' BK HB
  obtain ⟨i, j, rfl, rfl, HA, HK1, HI, BK, HB⟩ := hrel
  cases gk with
  | zero => exact absurd HA.out (by simp [impl_Book_place.l0])
  | succ k1 =>
   have H := HA.out
   clear HA
   simp only [impl_Book_place.l0] at H
   by_cases c : i < j
   ·rw [if_pos c] at H
    have cb : decide (i < j) = true := decide_eq_true c
    obtain ⟨cv, A, H⟩ := bi H
    have hi0 : 0 ≤ i ∧ i ≤ j ∧ j ≤ (l0.length : Int) := HI.out
    obtain ⟨h, eh⟩ : ∃ h : Int, h = (i + j) / 2 := ⟨_, rfl⟩
    rw [← eh] at A H
    have hm : wrap64 (IntKind.u64.wrap (wrap64 (i + j)) / 2) = h := by
     have e1 : IntKind.u64.wrap (wrap64 (i + j)) = i + j := by rw [IntKind.wrap_u64]; unfold wrap64; omega
     rw [e1, eh]; unfold wrap64; omega
    have p1 : 0 ≤ h := by omega
    have q1 : h < (l0.length : Int) := by omega
    obtain ⟨ad, ea, hx0, hx1, hx2⟩ := at_T67 hr0 h p1 q1
    cases ea
    have hj1 : h + 1 ≤ j := by omega
    have hjh : i ≤ h := by omega
    have EH := am eh; clear eh
    replace p1 := eq_true p1
    replace q1 := eq_true q1
    go_wp2
    try rw [hm]
    refine start_ (n := 8) (S := fun w' => w'.cell? (ad.add (h.toNat * 3)) = some (.string (rd_T67 l0 h).f0.f0) ∧ w'.cell? ⟨(ad.add (h.toNat * 3)).block, (ad.add (h.toNat * 3)).off + 1, none⟩ = some (.string (rd_T67 l0 h).f0.f1) ∧ w'.cell? ⟨(ad.add (h.toNat * 3)).block, (ad.add (h.toNat * 3)).off + 2, none⟩ = some (.int .i64 (rd_T67 l0 h).f1) ∧ w'.cell? ⟨g, 0, none⟩ = some (.string t0) ∧ w'.cell? ⟨g, 1, none⟩ = some (.string t1)) (ds := []) #[F_, F_, F_, F_, F_, F_, F_, F_] (by kernel_rfl) rfl rfl
     ⟨hbc HB.out hx0, hbc HB.out hx1, hbc HB.out hx2, (blk_cell BK.out 0).trans rfl, (blk_cell BK.out 1).trans rfl⟩ (fun hHeld => ?_)
    obtain ⟨W1, hW1⟩ : ∃ W, W = wr.drew := ⟨_, rfl⟩
    rw [← hW1] at hHeld ⊢
    replace HB : Aside0 (Below w.heap.size w W1) := ⟨by rw [hW1]; exact below_drew1 HB.out⟩
    replace BK : Aside0 (W1.heap[g]? = some (.cells #[.string t0, .string t1] 45 (0, 0))) := ⟨by rw [hW1]; exact BK.out⟩
    clear hW1
    refine pv 0 24 ?_
    refine pv 1 25 ?_
    refine pv 2 26 ?_
    refine pv 3 27 ?_
    refine tv5 4 28 hHeld ?_
    refine tv5 5 29 hHeld ?_
    refine ov 6 30 (fun K hK => ?_)
    refine call_ 54 #[.agg #[.string (rd_T67 l0 h).f0.f0, .string (rd_T67 l0 h).f0.f1, .int .i64 (rd_T67 l0 h).f1], .agg #[.string t0, .string t1]] (by rfl) rfl ?_ ((impl_Book_place_1.calls k1 _ _ _ _ _ cv _ A.out).mono ?_)
    ·have he := enters_ (P := Tryd.prog) Tryd.func54 (by kernel_rfl) rfl #[.agg #[.string (rd_T67 l0 h).f0.f0, .string (rd_T67 l0 h).f0.f1, .int .i64 (rd_T67 l0 h).f1], .agg #[.string t0, .string t1]] W1
     unfold execOp
     simp [resolve, Deferred.ofValue, invoke, Act.eval, he]
    rintro e w5 ⟨rfl, hb⟩
    refine ⟨_, rfl, ?_⟩
    replace BK := am (bkb BK.out hb)
    replace HB := am (below_step bl hb)
    clear hb
    refine hK.out _ _ ⟨hbc HB.out hx0, hbc HB.out hx1, hbc HB.out hx2, (blk_cell BK.out 0).trans rfl, (blk_cell BK.out 1).trans rfl⟩ (fun hHeld => ?_)
    refine norm_ (a' := ?_) ?_ ?_
    rotate_left
    ·simp only [Act.put, z1, z2, z3, i64_w, i32_w]
     rfl
    rotate_left
    refine pv 7 31 ?_
    refine done_ (by kernel_rfl) ?_
    clear hHeld hK
    by_cases cz : cv < 0
    ·rw [if_pos cz] at H
     have czb : decide (cv < 0) = true := decide_eq_true cz
     have hw : wrap64 (h + 1) = h + 1 := by unfold wrap64; omega
     go_wp2
     go_roundg k1
     case measure => have := HK1.out; omega
     case rel => exact ⟨h + 1, j, rfl, rfl, ⟨H⟩, ⟨by have := HK1.out; omega⟩, ⟨by omega⟩, ⟨bk BK.out⟩, ⟨bl⟩⟩
    rw [if_neg cz] at H
    have czb : decide (cv < 0) = false := decide_eq_false cz
    go_wp2
    go_roundg k1
    case measure => have := HK1.out; omega
    case rel => exact ⟨i, h, rfl, rfl, ⟨H⟩, ⟨by have := HK1.out; omega⟩, ⟨by omega⟩, ⟨bk BK.out⟩, ⟨bl⟩⟩
   rw [if_neg c] at H
   have cb : decide (i < j) = false := decide_eq_false c
   have hi0 : 0 ≤ i ∧ i ≤ j ∧ j ≤ (l0.length : Int) := HI.out
   have p1 : 0 ≤ i := hi0.1
   by_cases q1 : i < (l0.length : Int)
   ·rw [if_pos q1] at H
    have qb : decide (i < (l0.length : Int)) = true := decide_eq_true q1
    obtain ⟨cv, A, H⟩ := bi H
    simp only [Option.some.injEq, Prod.mk.injEq] at H
    obtain ⟨rfl, rfl⟩ := H
    obtain ⟨ad, ea, hx0, hx1, hx2⟩ := at_T67 hr0 i p1 q1
    cases ea
    replace p1 := eq_true p1
    replace q1 := eq_true q1
    go_wp2
    refine start_ (n := 16) (S := fun w' => w'.cell? (ad.add (i.toNat * 3)) = some (.string (rd_T67 l0 i).f0.f0) ∧ w'.cell? ⟨(ad.add (i.toNat * 3)).block, (ad.add (i.toNat * 3)).off + 1, none⟩ = some (.string (rd_T67 l0 i).f0.f1) ∧ w'.cell? ⟨(ad.add (i.toNat * 3)).block, (ad.add (i.toNat * 3)).off + 2, none⟩ = some (.int .i64 (rd_T67 l0 i).f1) ∧ w'.cell? ⟨g, 0, none⟩ = some (.string t0) ∧ w'.cell? ⟨g, 1, none⟩ = some (.string t1)) (ds := []) #[F_, F_, F_, F_, F_, F_, F_, F_, F_, F_, F_, F_, F_, F_, F_, F_] (by kernel_rfl) rfl rfl ⟨hbc HB.out hx0, hbc HB.out hx1, hbc HB.out hx2, (blk_cell BK.out 0).trans rfl, (blk_cell BK.out 1).trans rfl⟩ (fun hHeld => ?_)
    obtain ⟨W1, hW1⟩ : ∃ W, W = wr.drew := ⟨_, rfl⟩
    rw [← hW1] at hHeld ⊢
    replace HB : Aside0 (Below w.heap.size w W1) := ⟨by rw [hW1]; exact below_drew1 HB.out⟩
    replace BK : Aside0 (W1.heap[g]? = some (.cells #[.string t0, .string t1] 45 (0, 0))) := ⟨by rw [hW1]; exact BK.out⟩
    clear hW1
    refine pv 0 35 ?_
    refine pv 1 36 ?_
    refine pv 2 37 ?_
    refine pv 3 38 ?_
    refine pv 4 39 ?_
    refine pv 5 40 ?_
    refine pv 6 41 ?_
    refine pv 7 42 ?_
    refine pv 8 43 ?_
    refine tv5 9 44 hHeld ?_
    refine tv5 10 45 hHeld ?_
    refine ov 11 46 (fun K hK => ?_)
    refine call_ 54 #[.agg #[.string (rd_T67 l0 i).f0.f0, .string (rd_T67 l0 i).f0.f1, .int .i64 (rd_T67 l0 i).f1], .agg #[.string t0, .string t1]] (by rfl) rfl ?_ ((impl_Book_place_1.calls k1 _ _ _ _ _ cv _ A.out).mono ?_)
    ·have he := enters_ (P := Tryd.prog) Tryd.func54 (by kernel_rfl) rfl #[.agg #[.string (rd_T67 l0 i).f0.f0, .string (rd_T67 l0 i).f0.f1, .int .i64 (rd_T67 l0 i).f1], .agg #[.string t0, .string t1]] W1
     unfold execOp
     simp [resolve, Deferred.ofValue, invoke, Act.eval, he]
    rintro e w5 ⟨rfl, hb⟩
    refine ⟨_, rfl, ?_⟩
    replace BK := am (bkb BK.out hb)
    replace HB := am (below_step bl hb)
    clear hb
    refine hK.out _ _ ⟨hbc HB.out hx0, hbc HB.out hx1, hbc HB.out hx2, (blk_cell BK.out 0).trans rfl, (blk_cell BK.out 1).trans rfl⟩ (fun hHeld => ?_)
    refine norm_ (a' := ?_) ?_ ?_
    rotate_left
    ·simp only [Act.put, z1, z2, z3, i64_w, i32_w]
     rfl
    rotate_left
    refine pv 12 47 ?_
    refine pv 13 48 ?_
    refine pv 14 6 ?_
    refine pv 15 7 ?_
    refine done_ (by kernel_rfl) ?_
    clear hHeld hK
    go_wp2
    go_ret2
    exact ⟨rfl, bl⟩
   rw [if_neg q1] at H
   have qb : decide (i < (l0.length : Int)) = false := decide_eq_false q1
   simp only [Option.some.injEq, Prod.mk.injEq] at H
   obtain ⟨rfl, rfl⟩ := H
   go_wp2
   refine start_ (n := 16) (S := fun _ => True) (ds := []) #[F_, F_, F_, F_, F_, F_, F_, F_, F_, F_, F_, F_, F_, F_, F_, F_] (by kernel_rfl) rfl rfl trivial (fun _ => ?_)
   refine pv 0 35 ?_
   refine pv 1 36 ?_
   refine pv 2 37 ?_
   refine pv 3 38 ?_
   refine pv 4 39 ?_
   refine pure_ (i := 5) (N := some 40) (v := undef) (a' := ?_) #[T_, T_, T_, T_, T_, T_, F_, F_, F_, F_, F_, F_, F_, F_, F_, F_] rfl rfl (by kernel_rfl) (fun _ _ _ h => h) (Or.inr ⟨by rfl, rfl⟩) ?_ ?_
   rotate_left
   ·simp only [Act.put, z1, z2, z3, i64_w, i32_w]
    rfl
   refine pure_ (i := 6) (N := some 41) (v := undef) (a' := ?_) #[T_, T_, T_, T_, T_, T_, T_, F_, F_, F_, F_, F_, F_, F_, F_, F_] rfl rfl (by kernel_rfl) (fun _ _ _ h => h) (Or.inr ⟨by rfl, rfl⟩) ?_ ?_
   rotate_left
   ·simp only [Act.put, z1, z2, z3, i64_w, i32_w]
    rfl
   refine pure_ (i := 7) (N := some 42) (v := undef) (a' := ?_) #[T_, T_, T_, T_, T_, T_, T_, T_, F_, F_, F_, F_, F_, F_, F_, F_] rfl rfl (by kernel_rfl) (fun _ _ _ h => h) (Or.inr ⟨by rfl, rfl⟩) ?_ ?_
   rotate_left
   ·simp only [Act.put, z1, z2, z3, i64_w, i32_w]
    rfl
   refine pure_ (i := 8) (N := some 43) (v := undef) (a' := ?_) #[T_, T_, T_, T_, T_, T_, T_, T_, T_, F_, F_, F_, F_, F_, F_, F_] rfl rfl (by kernel_rfl) (fun _ _ _ h => h) (Or.inr ⟨by rfl, rfl⟩) ?_ ?_
   rotate_left
   ·simp only [Act.put, z1, z2, z3, i64_w, i32_w]
    rfl
   refine pure_ (i := 9) (N := some 44) (v := undef) (a' := ?_) #[T_, T_, T_, T_, T_, T_, T_, T_, T_, T_, F_, F_, F_, F_, F_, F_] rfl rfl (by kernel_rfl) (fun _ _ _ h => h) (Or.inr ⟨by rfl, rfl⟩) ?_ ?_
   rotate_left
   ·simp only [Act.put, z1, z2, z3, i64_w, i32_w]
    rfl
   refine pure_ (i := 10) (N := some 45) (v := undef) (a' := ?_) #[T_, T_, T_, T_, T_, T_, T_, T_, T_, T_, T_, F_, F_, F_, F_, F_] rfl rfl (by kernel_rfl) (fun _ _ _ h => h) (Or.inr ⟨by rfl, rfl⟩) ?_ ?_
   rotate_left
   ·simp only [Act.put, z1, z2, z3, i64_w, i32_w]
    rfl
   refine pure_ (i := 11) (N := some 46) (v := undef) (a' := ?_) #[T_, T_, T_, T_, T_, T_, T_, T_, T_, T_, T_, T_, F_, F_, F_, F_] rfl rfl (by kernel_rfl) (fun _ _ _ h => h) (Or.inr ⟨by rfl, rfl⟩) ?_ ?_
   rotate_left
   ·simp only [Act.put, z1, z2, z3, i64_w, i32_w]
    rfl
   refine pure_ (i := 12) (N := some 47) (v := undef) (a' := ?_) #[T_, T_, T_, T_, T_, T_, T_, T_, T_, T_, T_, T_, T_, F_, F_, F_] rfl rfl (by kernel_rfl) (fun _ _ _ h => h) (Or.inr ⟨by rfl, rfl⟩) ?_ ?_
   rotate_left
   ·simp only [Act.put, z1, z2, z3, i64_w, i32_w]
    rfl
   refine pv 13 48 ?_
   refine pv 14 6 ?_
   refine pv 15 7 ?_
   refine done_ (by kernel_rfl) ?_
   go_wp2
   go_ret2
   exact ⟨rfl, bl⟩
theorem impl_Book_place.calls (k : Nat) (A0_0 : Option Addr) (c0_0 : Nat) (l0_0 : List (S67)) (A0_1 : Option Addr) (c0_1 : Nat) (l0_1 : List ByteArray) (t0 t1 : ByteArray) (r1 : Int) (r2 : Bool) (w : World) (hr0 : Kd.C k67 w A0_0 l0_0.length l0_0) (hc0 : l0_0.length ≤ c0_0) (_hr1 : Kd.C Kd.string w A0_1 l0_1.length l0_1) (_hc1 : l0_1.length ≤ c0_1)
  (h : impl_Book_place.f k l0_0 l0_1 t0 t1 = some (r1, r2)) :
  Calls Tryd.prog 34 #[.agg #[.slice A0_0 l0_0.length c0_0, .slice A0_1 l0_1.length c0_1], .agg #[.string t0, .string t1]] w fun e w' => e = .returned (.tuple #[.int .i64 r1, .bool r2]) ∧ Below w.heap.size w w' := by
 have HB := am (Below.refl w.heap.size w)
 have HF := am h; clear h
 go_enter Tryd.func34, Tryd.ntmps34
 go_wp2_with (first | ((with_reducible refine g_ 2 ?_); refine bx 2 #[.slice A0_0 l0_0.length c0_0, .slice A0_1 l0_1.length c0_1] 43 ?_; intro g1 hg w4 hbox hb; have BK1 := am hbox; have GW1 := am (bsz hg : w.heap.size ≤ g1); replace HB := am (below_step bl hb); clear hb hbox hg) | ((with_reducible refine g_ 3 ?_); refine bx 3 #[.string t0, .string t1] 45 ?_; intro g2 hg w5 hbox hb; have BK2 := am hbox; replace BK1 := am (bkb BK1.out hb); replace HB := am (below_step bl hb); clear hb hbox hg; obtain ⟨z1_0, z1_1, y1_0, y1_1⟩ := blk2 BK1.out; obtain ⟨z2_0, z2_1, y2_0, y2_1⟩ := blk2 BK2.out) | ((with_reducible refine c_ 53 ?_); refine gc 53 (some 9) Tryd.func53 (impl_Book_place.search k A0_0 c0_0 l0_0 t0 t1 r1 r2 _ ?side1 hc0 HF.out) ?_; (case side1 => exact Kd.C_below hr0 bl); rintro e w6 ⟨rfl, hb⟩; refine ⟨_, rfl, ?_⟩; replace HB := am (below_step bl hb); clear hb))
 go_ret2
 exact ⟨rfl, bl⟩

/-! ### impl_Book_balance: function 35 -/
def impl_Book_balance.f (k : Nat) (l0_0 : List (S67)) (l0_1 : List ByteArray) (a1_0 : ByteArray) (a1_1 : ByteArray) : Option (Int) := (impl_Book_place.f k l0_0 l0_1 a1_0 a1_1).bind fun bt197 => (if bt197.2 = true then (if 0 ≤ bt197.1 then (if bt197.1 < (l0_0.length : Int) then (some ((rd_T67 l0_0 bt197.1).f1)) else (none)) else (none)) else (some 0))
theorem impl_Book_balance.mono : ∀ a0 a1 a2 a3 k, LeO (impl_Book_balance.f k a0 a1 a2 a3) (impl_Book_balance.f (k + 1) a0 a1 a2 a3) := by
 intro a0 a1 a2 a3 k
 unfold impl_Book_balance.f
 repeat' (with_reducible first | exact impl_Book_place.mono .. | exact LeO.refl _ | exact LeO.none _ | refine LeO.ite ?_ ?_ | refine LeO.bind ?_ (fun _ => ?_))
theorem impl_Book_balance.calls (k : Nat) (A0_0 : Option Addr) (c0_0 : Nat) (l0_0 : List (S67)) (A0_1 : Option Addr) (c0_1 : Nat) (l0_1 : List ByteArray) (a1_0 : ByteArray) (a1_1 : ByteArray) (r : Int) (w : World) (hr0_0 : Kd.C k67 w A0_0 l0_0.length l0_0) (hc0_0 : l0_0.length ≤ c0_0) (hr0_1 : Kd.C Kd.string w A0_1 l0_1.length l0_1) (hc0_1 : l0_1.length ≤ c0_1) (h : impl_Book_balance.f k l0_0 l0_1 a1_0 a1_1 = some r) :
  Calls Tryd.prog 35 #[.agg #[.slice A0_0 l0_0.length c0_0, .slice A0_1 l0_1.length c0_1], .agg #[.string a1_0, .string a1_1]] w fun e w' => e = .returned (.int .i64 r) ∧ Below w.heap.size w w' := by
 have hu43 := Tryd.underlying43
 have hu45 := Tryd.underlying45
 have HR0_0 := am hr0_0
 have HC0_0 := am hc0_0
 clear hr0_0 hc0_0
 have HR0_1 := am hr0_1
 have HC0_1 := am hc0_1
 clear hr0_1 hc0_1
 have HB := am (Below.refl w.heap.size w)
 have H := h
 clear h
 unfold impl_Book_balance.f at H
 replace H := bi H; obtain ⟨⟨t197, t198⟩, A3, H⟩ := H; dsimp only at H
 replace H := iT H; rcases H with ⟨rfl, H⟩ | ⟨rfl, H⟩
 ·revert H; refine i1 fun c5b0 H => ?_
  revert H; refine i1 fun c6b0 H => ?_
  obtain rfl := Option.some.inj H
  go_enter Tryd.func35, Tryd.ntmps35
  go_wp2_with (first | ((with_reducible refine g_ 2 ?_); refine bx 2 #[.slice A0_0 l0_0.length c0_0, .slice A0_1 l0_1.length c0_1] 43 ?_; intro gb195 hg w7 hbox hb; have BK195 := am (hbox); have GW195 := am (bsz hg : w.heap.size ≤ gb195); have GE195 := GW195; replace HB := am (below_step bl hb); clear hb hbox hg) | ((with_reducible refine g_ 3 ?_); refine bx 3 #[.string a1_0, .string a1_1] 45 ?_; intro gb196 hg w8 hbox hb; have BK196 := am (hbox); have GW196 := am (bsz hg : w.heap.size ≤ gb196); have GE196 := GW196; have NB195_196 := am (ne1 hg BK195.out); have NB196_195 := am NB195_196.out.symm; replace BK195 := am (bkb BK195.out hb); replace HB := am (below_step bl hb); clear hb hbox hg; have hnb9 := NB195_196.out; have hnc9 := NB196_195.out; obtain ⟨z10_0, z10_1, y10_0, y10_1⟩ := blk2 BK195.out; obtain ⟨z11_0, z11_1, y11_0, y11_1⟩ := blk2 BK196.out) | ((with_reducible refine c_ 34 ?_); refine gc 34 (some 10) Tryd.func34 (impl_Book_place.calls _ _ _ _ _ _ _ _ _ _ _ _ ?side1 ?side2 ?side3 ?side4 A3.out) ?_; (case side1 => exact cb HR0_0.out); (case side2 => exact HC0_0.out); (case side3 => exact cb HR0_1.out); (case side4 => exact HC0_1.out); rintro e w12 ⟨rfl, hb⟩; refine ⟨_, rfl, ?_⟩; replace BK195 := am (bkb BK195.out hb); replace BK196 := am (bkb BK196.out hb); replace HB := am (below_step bl hb); clear hb; obtain ⟨z13_0, z13_1, y13_0, y13_1⟩ := blk2 BK195.out; have p199 : 0 ≤ (t197 : Int) := ode; have q199 : t197 < (l0_0.length : Int) := ode; obtain ⟨ad199, e199, hx199_0, hx199_1, hx199_2⟩ := at_T67 HR0_0.out t197 p199 q199; cases e199; replace hx199_0 := hbc HB.out hx199_0; replace hx199_1 := hbc HB.out hx199_1; replace hx199_2 := hbc HB.out hx199_2; replace p199 := eq_true p199; replace q199 := eq_true q199))
  go_ret
  exact ⟨er, bl⟩
 obtain rfl := Option.some.inj H
 go_enter Tryd.func35, Tryd.ntmps35
 go_wp2_with (first | ((with_reducible refine g_ 2 ?_); refine bx 2 #[.slice A0_0 l0_0.length c0_0, .slice A0_1 l0_1.length c0_1] 43 ?_; intro gb195 hg w14 hbox hb; have BK195 := am (hbox); have GW195 := am (bsz hg : w.heap.size ≤ gb195); have GE195 := GW195; replace HB := am (below_step bl hb); clear hb hbox hg) | ((with_reducible refine g_ 3 ?_); refine bx 3 #[.string a1_0, .string a1_1] 45 ?_; intro gb196 hg w15 hbox hb; have BK196 := am (hbox); have GW196 := am (bsz hg : w.heap.size ≤ gb196); have GE196 := GW196; have NB195_196 := am (ne1 hg BK195.out); have NB196_195 := am NB195_196.out.symm; replace BK195 := am (bkb BK195.out hb); replace HB := am (below_step bl hb); clear hb hbox hg; have hnb16 := NB195_196.out; have hnc16 := NB196_195.out; obtain ⟨z17_0, z17_1, y17_0, y17_1⟩ := blk2 BK195.out; obtain ⟨z18_0, z18_1, y18_0, y18_1⟩ := blk2 BK196.out) | ((with_reducible refine c_ 34 ?_); refine gc 34 (some 10) Tryd.func34 (impl_Book_place.calls _ _ _ _ _ _ _ _ _ _ _ _ ?side1 ?side2 ?side3 ?side4 A3.out) ?_; (case side1 => exact cb HR0_0.out); (case side2 => exact HC0_0.out); (case side3 => exact cb HR0_1.out); (case side4 => exact HC0_1.out); rintro e w19 ⟨rfl, hb⟩; refine ⟨_, rfl, ?_⟩; replace BK195 := am (bkb BK195.out hb); replace BK196 := am (bkb BK196.out hb); replace HB := am (below_step bl hb); clear hb))
 go_ret
 exact ⟨er, bl⟩

/-! ### impl_BookBalance: function 17 -/
def impl_BookBalance.f (k : Nat) (l0_0 : List (S67)) (l0_1 : List ByteArray) (a1_0 : ByteArray) (a1_1 : ByteArray) : Option (Int × Int) := (impl_BookRight.f k l0_0 l0_1).bind fun t203 => (if t203 = true then ((impl_Book_place.f k l0_0 l0_1 a1_0 a1_1).bind fun bt204 => (if bt204.2 = true then ((impl_Book_balance.f k l0_0 l0_1 a1_0 a1_1).bind fun t206 => (some (t206, 0))) else (some (0, 8)))) else (some (0, 1)))
theorem impl_BookBalance.mono : ∀ a0 a1 a2 a3 k, LeO (impl_BookBalance.f k a0 a1 a2 a3) (impl_BookBalance.f (k + 1) a0 a1 a2 a3) := by
 intro a0 a1 a2 a3 k
 unfold impl_BookBalance.f
 repeat' (with_reducible first | exact impl_BookRight.mono .. | exact impl_Book_balance.mono .. | exact impl_Book_place.mono .. | exact LeO.refl _ | exact LeO.none _ | refine LeO.ite ?_ ?_ | refine LeO.bind ?_ (fun _ => ?_))
theorem impl_BookBalance.calls (k : Nat) (A0_0 : Option Addr) (c0_0 : Nat) (l0_0 : List (S67)) (A0_1 : Option Addr) (c0_1 : Nat) (l0_1 : List ByteArray) (a1_0 : ByteArray) (a1_1 : ByteArray) (r1 : Int) (r2 : Int) (w : World) (hr0_0 : Kd.C k67 w A0_0 l0_0.length l0_0) (hc0_0 : l0_0.length ≤ c0_0) (hr0_1 : Kd.C Kd.string w A0_1 l0_1.length l0_1) (hc0_1 : l0_1.length ≤ c0_1) (h : impl_BookBalance.f k l0_0 l0_1 a1_0 a1_1 = some (r1, r2)) :
  Calls Tryd.prog 17 #[.agg #[.slice A0_0 l0_0.length c0_0, .slice A0_1 l0_1.length c0_1], .agg #[.string a1_0, .string a1_1]] w fun e w' => e = .returned (.agg #[.int .i64 r1, .int .i64 r2]) ∧ Below w.heap.size w w' := by
 have hu43 := Tryd.underlying43
 have hu45 := Tryd.underlying45
 have hu39 := Tryd.underlying39
 have HR0_0 := am hr0_0
 have HC0_0 := am hc0_0
 clear hr0_0 hc0_0
 have HR0_1 := am hr0_1
 have HC0_1 := am hc0_1
 clear hr0_1 hc0_1
 have HB := am (Below.refl w.heap.size w)
 have H : ((impl_BookRight.f k l0_0 l0_1).bind fun t203 => (if t203 = true then ((impl_Book_place.f k l0_0 l0_1 a1_0 a1_1).bind fun bt204 => (if bt204.2 = true then ((impl_Book_balance.f k l0_0 l0_1 a1_0 a1_1).bind fun t206 => (some (t206, 0))) else (some (0, 8)))) else (some (0, 1)))) = some (r1, r2) := h
 clear h
 replace H := Option.bind_eq_some_iff.mp H
 obtain ⟨t203, A30, H⟩ := H
 replace H : (if t203 = true then ((impl_Book_place.f k l0_0 l0_1 a1_0 a1_1).bind fun bt204 => (if bt204.2 = true then ((impl_Book_balance.f k l0_0 l0_1 a1_0 a1_1).bind fun t206 => (some (t206, 0))) else (some (0, 8)))) else (some (0, 1))) = some (r1, r2) := H
 have A3 := am A30; clear A30
 by_cases c4 : t203 = true
 ·subst c4
  have H1 : ((impl_Book_place.f k l0_0 l0_1 a1_0 a1_1).bind fun bt204 => (if bt204.2 = true then ((impl_Book_balance.f k l0_0 l0_1 a1_0 a1_1).bind fun t206 => (some (t206, 0))) else (some (0, 8)))) = some (r1, r2) := by rw [if_pos rfl] at H; exact H
  clear H
  have H := H1
  clear H1
  replace H := Option.bind_eq_some_iff.mp H
  obtain ⟨⟨t204, t205⟩, A50, H⟩ := H
  replace H : (if t205 = true then ((impl_Book_balance.f k l0_0 l0_1 a1_0 a1_1).bind fun t206 => (some (t206, 0))) else (some (0, 8))) = some (r1, r2) := H
  have A5 := am A50; clear A50
  by_cases c6 : t205 = true
  ·subst c6
   have H1 : ((impl_Book_balance.f k l0_0 l0_1 a1_0 a1_1).bind fun t206 => (some (t206, 0))) = some (r1, r2) := by rw [if_pos rfl] at H; exact H
   clear H
   have H := H1
   clear H1
   replace H := Option.bind_eq_some_iff.mp H
   obtain ⟨t206, A70, H⟩ := H
   replace H : (some (t206, 0)) = some (r1, r2) := H
   have A7 := am A70; clear A70
   simp only [Option.some.injEq, Prod.mk.injEq] at H
   obtain ⟨rfl, rfl⟩ := H
   go_enter Tryd.func17, Tryd.ntmps17
   go_wp2_with (first | ((with_reducible refine g_ 2 ?_); refine bx 2 #[.slice A0_0 l0_0.length c0_0, .slice A0_1 l0_1.length c0_1] 43 ?_; intro gb200 hg w8 hbox hb; have BK200 := am (hbox); have GW200 := am (bsz hg : w.heap.size ≤ gb200); have GE200 := GW200; replace HB := am (below_step bl hb); clear hb hbox hg) | ((with_reducible refine g_ 3 ?_); refine bx 3 #[.string a1_0, .string a1_1] 45 ?_; intro gb201 hg w9 hbox hb; have BK201 := am (hbox); have GW201 := am (bsz hg : w.heap.size ≤ gb201); have GE201 := GW201; have NB200_201 := am (ne1 hg BK200.out); have NB201_200 := am NB200_201.out.symm; replace BK200 := am (bkb BK200.out hb); replace HB := am (below_step bl hb); clear hb hbox hg) | ((with_reducible refine g_ 4 ?_); refine bx 4 #[.int .i64 0, .int .i64 0] 39 ?_; intro gb202 hg w10 hbox hb; have BK202 := am (hbox); have GW202 := am (bsz hg : w.heap.size ≤ gb202); have GE202 := GW202; have NB200_202 := am (ne1 hg BK200.out); have NB202_200 := am NB200_202.out.symm; replace BK200 := am (bkb BK200.out hb); have NB201_202 := am (ne1 hg BK201.out); have NB202_201 := am NB201_202.out.symm; replace BK201 := am (bkb BK201.out hb); replace HB := am (below_step bl hb); clear hb hbox hg; have hnb11 := NB200_201.out; have hnc11 := NB201_200.out; have hnb12 := NB200_202.out; have hnc12 := NB202_200.out; obtain ⟨z13_0, z13_1, y13_0, y13_1⟩ := blk2 BK200.out) | ((with_reducible refine c_ 33 ?_); refine gc 33 (some 8) Tryd.func33 (impl_BookRight.calls _ _ _ _ _ _ _ _ _ ?side1 ?side2 ?side3 ?side4 A3.out) ?_; (case side1 => exact cb HR0_0.out); (case side2 => exact HC0_0.out); (case side3 => exact cb HR0_1.out); (case side4 => exact HC0_1.out); rintro e w14 ⟨rfl, hb⟩; refine ⟨_, rfl, ?_⟩; replace BK200 := am (bkb BK200.out hb); replace BK201 := am (bkb BK201.out hb); replace BK202 := am (bkb BK202.out hb); replace HB := am (below_step bl hb); clear hb; obtain ⟨z15_0, z15_1, y15_0, y15_1⟩ := blk2 BK200.out; have hnb16 := NB201_202.out; have hnc16 := NB202_201.out; obtain ⟨z17_0, z17_1, y17_0, y17_1⟩ := blk2 BK201.out) | ((with_reducible refine c_ 34 ?_); refine gc 34 (some 14) Tryd.func34 (impl_Book_place.calls _ _ _ _ _ _ _ _ _ _ _ _ ?side1 ?side2 ?side3 ?side4 A5.out) ?_; (case side1 => exact cb HR0_0.out); (case side2 => exact HC0_0.out); (case side3 => exact cb HR0_1.out); (case side4 => exact HC0_1.out); rintro e w18 ⟨rfl, hb⟩; refine ⟨_, rfl, ?_⟩; replace BK200 := am (bkb BK200.out hb); replace BK201 := am (bkb BK201.out hb); replace BK202 := am (bkb BK202.out hb); replace HB := am (below_step bl hb); clear hb; obtain ⟨z19_0, z19_1, y19_0, y19_1⟩ := blk2 BK200.out; obtain ⟨z20_0, z20_1, y20_0, y20_1⟩ := blk2 BK201.out) | ((with_reducible refine c_ 35 ?_); refine gc 35 (some 22) Tryd.func35 (impl_Book_balance.calls _ _ _ _ _ _ _ _ _ _ _ ?side1 ?side2 ?side3 ?side4 A7.out) ?_; (case side1 => exact cb HR0_0.out); (case side2 => exact HC0_0.out); (case side3 => exact cb HR0_1.out); (case side4 => exact HC0_1.out); rintro e w21 ⟨rfl, hb⟩; refine ⟨_, rfl, ?_⟩; replace BK200 := am (bkb BK200.out hb); replace BK201 := am (bkb BK201.out hb); replace BK202 := am (bkb BK202.out hb); replace HB := am (below_step bl hb); clear hb; obtain ⟨z22_0, z22_1, y22_0, y22_1⟩ := blk2 BK202.out))
   refine bodyPost_ret (results_cell_row rfl _ _ gb202 39 #[.int .i64 t206, .int .i64 0] (0, 0) _ rfl (bp BK202.out) Tryd.underlying39 rfl (by kernel_rfl)) rfl ?_
   exact ⟨er, bl⟩
  replace c6 := Bool.eq_false_iff.mpr c6
  subst c6
  have H1 : (some (0, 8)) = some (r1, r2) := by rw [if_neg (show ¬ (false = true) by decide)] at H; exact H
  clear H
  have H := H1
  clear H1
  simp only [Option.some.injEq, Prod.mk.injEq] at H
  obtain ⟨rfl, rfl⟩ := H
  go_enter Tryd.func17, Tryd.ntmps17
  go_wp2_with (first | ((with_reducible refine g_ 2 ?_); refine bx 2 #[.slice A0_0 l0_0.length c0_0, .slice A0_1 l0_1.length c0_1] 43 ?_; intro gb200 hg w23 hbox hb; have BK200 := am (hbox); have GW200 := am (bsz hg : w.heap.size ≤ gb200); have GE200 := GW200; replace HB := am (below_step bl hb); clear hb hbox hg) | ((with_reducible refine g_ 3 ?_); refine bx 3 #[.string a1_0, .string a1_1] 45 ?_; intro gb201 hg w24 hbox hb; have BK201 := am (hbox); have GW201 := am (bsz hg : w.heap.size ≤ gb201); have GE201 := GW201; have NB200_201 := am (ne1 hg BK200.out); have NB201_200 := am NB200_201.out.symm; replace BK200 := am (bkb BK200.out hb); replace HB := am (below_step bl hb); clear hb hbox hg) | ((with_reducible refine g_ 4 ?_); refine bx 4 #[.int .i64 0, .int .i64 0] 39 ?_; intro gb202 hg w25 hbox hb; have BK202 := am (hbox); have GW202 := am (bsz hg : w.heap.size ≤ gb202); have GE202 := GW202; have NB200_202 := am (ne1 hg BK200.out); have NB202_200 := am NB200_202.out.symm; replace BK200 := am (bkb BK200.out hb); have NB201_202 := am (ne1 hg BK201.out); have NB202_201 := am NB201_202.out.symm; replace BK201 := am (bkb BK201.out hb); replace HB := am (below_step bl hb); clear hb hbox hg; have hnb26 := NB200_201.out; have hnc26 := NB201_200.out; have hnb27 := NB200_202.out; have hnc27 := NB202_200.out; obtain ⟨z28_0, z28_1, y28_0, y28_1⟩ := blk2 BK200.out) | ((with_reducible refine c_ 33 ?_); refine gc 33 (some 8) Tryd.func33 (impl_BookRight.calls _ _ _ _ _ _ _ _ _ ?side1 ?side2 ?side3 ?side4 A3.out) ?_; (case side1 => exact cb HR0_0.out); (case side2 => exact HC0_0.out); (case side3 => exact cb HR0_1.out); (case side4 => exact HC0_1.out); rintro e w29 ⟨rfl, hb⟩; refine ⟨_, rfl, ?_⟩; replace BK200 := am (bkb BK200.out hb); replace BK201 := am (bkb BK201.out hb); replace BK202 := am (bkb BK202.out hb); replace HB := am (below_step bl hb); clear hb; obtain ⟨z30_0, z30_1, y30_0, y30_1⟩ := blk2 BK200.out; have hnb31 := NB201_202.out; have hnc31 := NB202_201.out; obtain ⟨z32_0, z32_1, y32_0, y32_1⟩ := blk2 BK201.out) | ((with_reducible refine c_ 34 ?_); refine gc 34 (some 14) Tryd.func34 (impl_Book_place.calls _ _ _ _ _ _ _ _ _ _ _ _ ?side1 ?side2 ?side3 ?side4 A5.out) ?_; (case side1 => exact cb HR0_0.out); (case side2 => exact HC0_0.out); (case side3 => exact cb HR0_1.out); (case side4 => exact HC0_1.out); rintro e w33 ⟨rfl, hb⟩; refine ⟨_, rfl, ?_⟩; replace BK200 := am (bkb BK200.out hb); replace BK201 := am (bkb BK201.out hb); replace BK202 := am (bkb BK202.out hb); replace HB := am (below_step bl hb); clear hb; obtain ⟨z34_0, z34_1, y34_0, y34_1⟩ := blk2 BK202.out))
  refine bodyPost_ret (results_cell_row rfl _ _ gb202 39 #[.int .i64 0, .int .i64 8] (0, 0) _ rfl (bp BK202.out) Tryd.underlying39 rfl (by kernel_rfl)) rfl ?_
  exact ⟨er, bl⟩
 replace c4 := Bool.eq_false_iff.mpr c4
 subst c4
 have H1 : (some (0, 1)) = some (r1, r2) := by rw [if_neg (show ¬ (false = true) by decide)] at H; exact H
 clear H
 have H := H1
 clear H1
 simp only [Option.some.injEq, Prod.mk.injEq] at H
 obtain ⟨rfl, rfl⟩ := H
 go_enter Tryd.func17, Tryd.ntmps17
 go_wp2_with (first | ((with_reducible refine g_ 2 ?_); refine bx 2 #[.slice A0_0 l0_0.length c0_0, .slice A0_1 l0_1.length c0_1] 43 ?_; intro gb200 hg w35 hbox hb; have BK200 := am (hbox); have GW200 := am (bsz hg : w.heap.size ≤ gb200); have GE200 := GW200; replace HB := am (below_step bl hb); clear hb hbox hg) | ((with_reducible refine g_ 3 ?_); refine bx 3 #[.string a1_0, .string a1_1] 45 ?_; intro gb201 hg w36 hbox hb; have BK201 := am (hbox); have GW201 := am (bsz hg : w.heap.size ≤ gb201); have GE201 := GW201; have NB200_201 := am (ne1 hg BK200.out); have NB201_200 := am NB200_201.out.symm; replace BK200 := am (bkb BK200.out hb); replace HB := am (below_step bl hb); clear hb hbox hg) | ((with_reducible refine g_ 4 ?_); refine bx 4 #[.int .i64 0, .int .i64 0] 39 ?_; intro gb202 hg w37 hbox hb; have BK202 := am (hbox); have GW202 := am (bsz hg : w.heap.size ≤ gb202); have GE202 := GW202; have NB200_202 := am (ne1 hg BK200.out); have NB202_200 := am NB200_202.out.symm; replace BK200 := am (bkb BK200.out hb); have NB201_202 := am (ne1 hg BK201.out); have NB202_201 := am NB201_202.out.symm; replace BK201 := am (bkb BK201.out hb); replace HB := am (below_step bl hb); clear hb hbox hg; have hnb38 := NB200_201.out; have hnc38 := NB201_200.out; have hnb39 := NB200_202.out; have hnc39 := NB202_200.out; obtain ⟨z40_0, z40_1, y40_0, y40_1⟩ := blk2 BK200.out) | ((with_reducible refine c_ 33 ?_); refine gc 33 (some 8) Tryd.func33 (impl_BookRight.calls _ _ _ _ _ _ _ _ _ ?side1 ?side2 ?side3 ?side4 A3.out) ?_; (case side1 => exact cb HR0_0.out); (case side2 => exact HC0_0.out); (case side3 => exact cb HR0_1.out); (case side4 => exact HC0_1.out); rintro e w41 ⟨rfl, hb⟩; refine ⟨_, rfl, ?_⟩; replace BK200 := am (bkb BK200.out hb); replace BK201 := am (bkb BK201.out hb); replace BK202 := am (bkb BK202.out hb); replace HB := am (below_step bl hb); clear hb; have hnb42 := NB202_201.out; have hnc42 := NB201_202.out; obtain ⟨z43_0, z43_1, y43_0, y43_1⟩ := blk2 BK202.out))
 refine bodyPost_ret (results_cell_row rfl _ _ gb202 39 #[.int .i64 0, .int .i64 1] (0, 0) _ rfl (bp BK202.out) Tryd.underlying39 rfl (by kernel_rfl)) rfl ?_
 exact ⟨er, bl⟩

/-! ### laws_eqMoneyOut: function 18 -/
def laws_eqMoneyOut.f (a0_0 : Int) (a0_1 : Int) (a1_0 : Int) (a1_1 : Int) : Option (Bool) := if a0_0 = a1_0 then (if a0_1 = a1_1 then (some true) else (some false)) else (some false)
theorem laws_eqMoneyOut.calls (a0_0 : Int) (a0_1 : Int) (a1_0 : Int) (a1_1 : Int) (r : Bool) (w : World) (h : laws_eqMoneyOut.f a0_0 a0_1 a1_0 a1_1 = some r) :
  Calls Tryd.prog 18 #[.agg #[.int .i64 a0_0, .int .i64 a0_1], .agg #[.int .i64 a1_0, .int .i64 a1_1]] w fun e w' => e = .returned (.bool r) ∧ Below w.heap.size w w' := by
 have hu39 := Tryd.underlying39
 have HB := am (Below.refl w.heap.size w)
 have H := h
 clear h
 unfold laws_eqMoneyOut.f at H
 revert H; refine iQ (fun c3b0 c3b1 H => ?_) fun c3 c3b0 c3b1 H => ?_
 ·revert H; refine iQ (fun c4b0 c4b1 H => ?_) fun c4 c4b0 c4b1 H => ?_
  ·obtain rfl := Option.some.inj H
   go_enter Tryd.func18, Tryd.ntmps18
   go_wp2_with (first | ((with_reducible refine g_ 2 ?_); refine bx 2 #[.int .i64 a0_0, .int .i64 a0_1] 39 ?_; intro gb207 hg w5 hbox hb; have BK207 := am (hbox); have GW207 := am (bsz hg : w.heap.size ≤ gb207); have GE207 := GW207; replace HB := am (below_step bl hb); clear hb hbox hg) | ((with_reducible refine g_ 3 ?_); refine bx 3 #[.int .i64 a1_0, .int .i64 a1_1] 39 ?_; intro gb208 hg w6 hbox hb; have BK208 := am (hbox); have GW208 := am (bsz hg : w.heap.size ≤ gb208); have GE208 := GW208; have NB207_208 := am (ne1 hg BK207.out); have NB208_207 := am NB207_208.out.symm; replace BK207 := am (bkb BK207.out hb); replace HB := am (below_step bl hb); clear hb hbox hg; have hnb7 := NB207_208.out; have hnc7 := NB208_207.out; obtain ⟨z8_0, z8_1, y8_0, y8_1⟩ := blk2 BK207.out; obtain ⟨z9_0, z9_1, y9_0, y9_1⟩ := blk2 BK208.out))
   go_ret
   exact ⟨er, bl⟩
  obtain rfl := Option.some.inj H
  go_enter Tryd.func18, Tryd.ntmps18
  go_wp2_with (first | ((with_reducible refine g_ 2 ?_); refine bx 2 #[.int .i64 a0_0, .int .i64 a0_1] 39 ?_; intro gb207 hg w10 hbox hb; have BK207 := am (hbox); have GW207 := am (bsz hg : w.heap.size ≤ gb207); have GE207 := GW207; replace HB := am (below_step bl hb); clear hb hbox hg) | ((with_reducible refine g_ 3 ?_); refine bx 3 #[.int .i64 a1_0, .int .i64 a1_1] 39 ?_; intro gb208 hg w11 hbox hb; have BK208 := am (hbox); have GW208 := am (bsz hg : w.heap.size ≤ gb208); have GE208 := GW208; have NB207_208 := am (ne1 hg BK207.out); have NB208_207 := am NB207_208.out.symm; replace BK207 := am (bkb BK207.out hb); replace HB := am (below_step bl hb); clear hb hbox hg; have hnb12 := NB207_208.out; have hnc12 := NB208_207.out; obtain ⟨z13_0, z13_1, y13_0, y13_1⟩ := blk2 BK207.out; obtain ⟨z14_0, z14_1, y14_0, y14_1⟩ := blk2 BK208.out))
  go_ret
  exact ⟨er, bl⟩
 obtain rfl := Option.some.inj H
 go_enter Tryd.func18, Tryd.ntmps18
 go_wp2_with (first | ((with_reducible refine g_ 2 ?_); refine bx 2 #[.int .i64 a0_0, .int .i64 a0_1] 39 ?_; intro gb207 hg w15 hbox hb; have BK207 := am (hbox); have GW207 := am (bsz hg : w.heap.size ≤ gb207); have GE207 := GW207; replace HB := am (below_step bl hb); clear hb hbox hg) | ((with_reducible refine g_ 3 ?_); refine bx 3 #[.int .i64 a1_0, .int .i64 a1_1] 39 ?_; intro gb208 hg w16 hbox hb; have BK208 := am (hbox); have GW208 := am (bsz hg : w.heap.size ≤ gb208); have GE208 := GW208; have NB207_208 := am (ne1 hg BK207.out); have NB208_207 := am NB207_208.out.symm; replace BK207 := am (bkb BK207.out hb); replace HB := am (below_step bl hb); clear hb hbox hg; have hnb17 := NB207_208.out; have hnc17 := NB208_207.out; obtain ⟨z18_0, z18_1, y18_0, y18_1⟩ := blk2 BK207.out; obtain ⟨z19_0, z19_1, y19_0, y19_1⟩ := blk2 BK208.out))
 go_ret
 exact ⟨er, bl⟩

/-! ### laws_eqSpot: function 44 -/
def laws_eqSpot.f (a0_0 : ByteArray) (a0_1 : ByteArray) (a1_0 : ByteArray) (a1_1 : ByteArray) : Option (Bool) := if a0_0.toList = a1_0.toList then (if a0_1.toList = a1_1.toList then (some true) else (some false)) else (some false)
theorem laws_eqSpot.calls (a0_0 : ByteArray) (a0_1 : ByteArray) (a1_0 : ByteArray) (a1_1 : ByteArray) (r : Bool) (w : World) (h : laws_eqSpot.f a0_0 a0_1 a1_0 a1_1 = some r) :
  Calls Tryd.prog 44 #[.agg #[.string a0_0, .string a0_1], .agg #[.string a1_0, .string a1_1]] w fun e w' => e = .returned (.bool r) ∧ Below w.heap.size w w' := by
 have hu45 := Tryd.underlying45
 have HB := am (Below.refl w.heap.size w)
 have H := h
 clear h
 unfold laws_eqSpot.f at H
 revert H; refine iQ (fun c3b0 c3b1 H => ?_) fun c3 c3b0 c3b1 H => ?_
 ·revert H; refine iQ (fun c4b0 c4b1 H => ?_) fun c4 c4b0 c4b1 H => ?_
  ·obtain rfl := Option.some.inj H
   go_enter Tryd.func44, Tryd.ntmps44
   go_wp2_with (first | ((with_reducible refine g_ 2 ?_); refine bx 2 #[.string a0_0, .string a0_1] 45 ?_; intro gb209 hg w5 hbox hb; have BK209 := am (hbox); have GW209 := am (bsz hg : w.heap.size ≤ gb209); have GE209 := GW209; replace HB := am (below_step bl hb); clear hb hbox hg) | ((with_reducible refine g_ 3 ?_); refine bx 3 #[.string a1_0, .string a1_1] 45 ?_; intro gb210 hg w6 hbox hb; have BK210 := am (hbox); have GW210 := am (bsz hg : w.heap.size ≤ gb210); have GE210 := GW210; have NB209_210 := am (ne1 hg BK209.out); have NB210_209 := am NB209_210.out.symm; replace BK209 := am (bkb BK209.out hb); replace HB := am (below_step bl hb); clear hb hbox hg; have hnb7 := NB209_210.out; have hnc7 := NB210_209.out; obtain ⟨z8_0, z8_1, y8_0, y8_1⟩ := blk2 BK209.out; obtain ⟨z9_0, z9_1, y9_0, y9_1⟩ := blk2 BK210.out))
   go_ret
   exact ⟨er, bl⟩
  obtain rfl := Option.some.inj H
  go_enter Tryd.func44, Tryd.ntmps44
  go_wp2_with (first | ((with_reducible refine g_ 2 ?_); refine bx 2 #[.string a0_0, .string a0_1] 45 ?_; intro gb209 hg w10 hbox hb; have BK209 := am (hbox); have GW209 := am (bsz hg : w.heap.size ≤ gb209); have GE209 := GW209; replace HB := am (below_step bl hb); clear hb hbox hg) | ((with_reducible refine g_ 3 ?_); refine bx 3 #[.string a1_0, .string a1_1] 45 ?_; intro gb210 hg w11 hbox hb; have BK210 := am (hbox); have GW210 := am (bsz hg : w.heap.size ≤ gb210); have GE210 := GW210; have NB209_210 := am (ne1 hg BK209.out); have NB210_209 := am NB209_210.out.symm; replace BK209 := am (bkb BK209.out hb); replace HB := am (below_step bl hb); clear hb hbox hg; have hnb12 := NB209_210.out; have hnc12 := NB210_209.out; obtain ⟨z13_0, z13_1, y13_0, y13_1⟩ := blk2 BK209.out; obtain ⟨z14_0, z14_1, y14_0, y14_1⟩ := blk2 BK210.out))
  go_ret
  exact ⟨er, bl⟩
 obtain rfl := Option.some.inj H
 go_enter Tryd.func44, Tryd.ntmps44
 go_wp2_with (first | ((with_reducible refine g_ 2 ?_); refine bx 2 #[.string a0_0, .string a0_1] 45 ?_; intro gb209 hg w15 hbox hb; have BK209 := am (hbox); have GW209 := am (bsz hg : w.heap.size ≤ gb209); have GE209 := GW209; replace HB := am (below_step bl hb); clear hb hbox hg) | ((with_reducible refine g_ 3 ?_); refine bx 3 #[.string a1_0, .string a1_1] 45 ?_; intro gb210 hg w16 hbox hb; have BK210 := am (hbox); have GW210 := am (bsz hg : w.heap.size ≤ gb210); have GE210 := GW210; have NB209_210 := am (ne1 hg BK209.out); have NB210_209 := am NB209_210.out.symm; replace BK209 := am (bkb BK209.out hb); replace HB := am (below_step bl hb); clear hb hbox hg; have hnb17 := NB209_210.out; have hnc17 := NB210_209.out; obtain ⟨z18_0, z18_1, y18_0, y18_1⟩ := blk2 BK209.out; obtain ⟨z19_0, z19_1, y19_0, y19_1⟩ := blk2 BK210.out))
 go_ret
 exact ⟨er, bl⟩

/-! ### laws_eqLine: function 55 -/
def laws_eqLine.f (a0_0 : ByteArray) (a0_1 : ByteArray) (a0_2 : Int) (a1_0 : ByteArray) (a1_1 : ByteArray) (a1_2 : Int) : Option (Bool) := (laws_eqSpot.f a0_0 a0_1 a1_0 a1_1).bind fun t213 => (if t213 = true then (if a0_2 = a1_2 then (some true) else (some false)) else (some false))
theorem laws_eqLine.calls (a0_0 : ByteArray) (a0_1 : ByteArray) (a0_2 : Int) (a1_0 : ByteArray) (a1_1 : ByteArray) (a1_2 : Int) (r : Bool) (w : World) (h : laws_eqLine.f a0_0 a0_1 a0_2 a1_0 a1_1 a1_2 = some r) :
  Calls Tryd.prog 55 #[.agg #[.string a0_0, .string a0_1, .int .i64 a0_2], .agg #[.string a1_0, .string a1_1, .int .i64 a1_2]] w fun e w' => e = .returned (.bool r) ∧ Below w.heap.size w w' := by
 have hu67 := Tryd.underlying67
 have hu45 := Tryd.underlying45
 have HB := am (Below.refl w.heap.size w)
 have H := h
 clear h
 unfold laws_eqLine.f at H
 revert H; refine bj fun t213 A3 H => ?_
 replace H := iT H; rcases H with ⟨rfl, H⟩ | ⟨rfl, H⟩
 ·revert H; refine iQ (fun c5b0 c5b1 H => ?_) fun c5 c5b0 c5b1 H => ?_
  ·obtain rfl := Option.some.inj H
   go_enter Tryd.func55, Tryd.ntmps55
   go_wp2_with (first | ((with_reducible refine g_ 2 ?_); refine bx 2 #[.string a0_0, .string a0_1, .int .i64 a0_2] 67 ?_; intro gb211 hg w6 hbox hb; have BK211 := am (hbox); have GW211 := am (bsz hg : w.heap.size ≤ gb211); have GE211 := GW211; replace HB := am (below_step bl hb); clear hb hbox hg) | ((with_reducible refine g_ 3 ?_); refine bx 3 #[.string a1_0, .string a1_1, .int .i64 a1_2] 67 ?_; intro gb212 hg w7 hbox hb; have BK212 := am (hbox); have GW212 := am (bsz hg : w.heap.size ≤ gb212); have GE212 := GW212; have NB211_212 := am (ne1 hg BK211.out); have NB212_211 := am NB211_212.out.symm; replace BK211 := am (bkb BK211.out hb); replace HB := am (below_step bl hb); clear hb hbox hg; have hnb8 := NB211_212.out; have hnc8 := NB212_211.out; obtain ⟨z9_0, z9_1, z9_2, y9_0, y9_1, y9_2⟩ := blk3 BK211.out; obtain ⟨z10_0, z10_1, z10_2, y10_0, y10_1, y10_2⟩ := blk3 BK212.out) | ((with_reducible refine c_ 44 ?_); refine gc 44 (some 9) Tryd.func44 (laws_eqSpot.calls _ _ _ _ _ _ A3.out) ?_; rintro e w11 ⟨rfl, hb⟩; refine ⟨_, rfl, ?_⟩; replace BK211 := am (bkb BK211.out hb); replace BK212 := am (bkb BK212.out hb); replace HB := am (below_step bl hb); clear hb; obtain ⟨z12_0, z12_1, z12_2, y12_0, y12_1, y12_2⟩ := blk3 BK211.out; obtain ⟨z13_0, z13_1, z13_2, y13_0, y13_1, y13_2⟩ := blk3 BK212.out))
   go_ret
   exact ⟨er, bl⟩
  obtain rfl := Option.some.inj H
  go_enter Tryd.func55, Tryd.ntmps55
  go_wp2_with (first | ((with_reducible refine g_ 2 ?_); refine bx 2 #[.string a0_0, .string a0_1, .int .i64 a0_2] 67 ?_; intro gb211 hg w14 hbox hb; have BK211 := am (hbox); have GW211 := am (bsz hg : w.heap.size ≤ gb211); have GE211 := GW211; replace HB := am (below_step bl hb); clear hb hbox hg) | ((with_reducible refine g_ 3 ?_); refine bx 3 #[.string a1_0, .string a1_1, .int .i64 a1_2] 67 ?_; intro gb212 hg w15 hbox hb; have BK212 := am (hbox); have GW212 := am (bsz hg : w.heap.size ≤ gb212); have GE212 := GW212; have NB211_212 := am (ne1 hg BK211.out); have NB212_211 := am NB211_212.out.symm; replace BK211 := am (bkb BK211.out hb); replace HB := am (below_step bl hb); clear hb hbox hg; have hnb16 := NB211_212.out; have hnc16 := NB212_211.out; obtain ⟨z17_0, z17_1, z17_2, y17_0, y17_1, y17_2⟩ := blk3 BK211.out; obtain ⟨z18_0, z18_1, z18_2, y18_0, y18_1, y18_2⟩ := blk3 BK212.out) | ((with_reducible refine c_ 44 ?_); refine gc 44 (some 9) Tryd.func44 (laws_eqSpot.calls _ _ _ _ _ _ A3.out) ?_; rintro e w19 ⟨rfl, hb⟩; refine ⟨_, rfl, ?_⟩; replace BK211 := am (bkb BK211.out hb); replace BK212 := am (bkb BK212.out hb); replace HB := am (below_step bl hb); clear hb; obtain ⟨z20_0, z20_1, z20_2, y20_0, y20_1, y20_2⟩ := blk3 BK211.out; obtain ⟨z21_0, z21_1, z21_2, y21_0, y21_1, y21_2⟩ := blk3 BK212.out))
  go_ret
  exact ⟨er, bl⟩
 obtain rfl := Option.some.inj H
 go_enter Tryd.func55, Tryd.ntmps55
 go_wp2_with (first | ((with_reducible refine g_ 2 ?_); refine bx 2 #[.string a0_0, .string a0_1, .int .i64 a0_2] 67 ?_; intro gb211 hg w22 hbox hb; have BK211 := am (hbox); have GW211 := am (bsz hg : w.heap.size ≤ gb211); have GE211 := GW211; replace HB := am (below_step bl hb); clear hb hbox hg) | ((with_reducible refine g_ 3 ?_); refine bx 3 #[.string a1_0, .string a1_1, .int .i64 a1_2] 67 ?_; intro gb212 hg w23 hbox hb; have BK212 := am (hbox); have GW212 := am (bsz hg : w.heap.size ≤ gb212); have GE212 := GW212; have NB211_212 := am (ne1 hg BK211.out); have NB212_211 := am NB211_212.out.symm; replace BK211 := am (bkb BK211.out hb); replace HB := am (below_step bl hb); clear hb hbox hg; have hnb24 := NB211_212.out; have hnc24 := NB212_211.out; obtain ⟨z25_0, z25_1, z25_2, y25_0, y25_1, y25_2⟩ := blk3 BK211.out; obtain ⟨z26_0, z26_1, z26_2, y26_0, y26_1, y26_2⟩ := blk3 BK212.out) | ((with_reducible refine c_ 44 ?_); refine gc 44 (some 9) Tryd.func44 (laws_eqSpot.calls _ _ _ _ _ _ A3.out) ?_; rintro e w27 ⟨rfl, hb⟩; refine ⟨_, rfl, ?_⟩; replace BK211 := am (bkb BK211.out hb); replace BK212 := am (bkb BK212.out hb); replace HB := am (below_step bl hb); clear hb))
 go_ret
 exact ⟨er, bl⟩

end Go.Proofs.YtlhefhcdlgkngaaDoor.PFnExactBookBalance
