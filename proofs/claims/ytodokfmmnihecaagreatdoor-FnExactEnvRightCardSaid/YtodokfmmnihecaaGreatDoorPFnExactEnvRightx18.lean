-- laid by seedprint.py, a program of this session, over contracts that it gives by hand; Lean checks it
-- dented
import Derived.Test.YtodokfmmnihecaaGreatDoorQMin
import Derived.Test.YtodokfmmnihecaaGreatDoorQAut
import Derived.Test.YtodokfmmnihecaaGreatDoorQBlk
import Derived.Test.YtodokfmmnihecaaGreatDoorPFnExactEnvRightx0
import Derived.Test.YtodokfmmnihecaaGreatDoorPFnExactEnvRightx11
import Derived.Test.YtodokfmmnihecaaGreatDoorPFnExactEnvRightx17
namespace Go.Proofs.YtodokfmmnihecaaGreatDoor.PFnExactEnvRight
open Go.RowKit Go.Proofs.YtodokfmmnihecaaGreatDoorW.PrintWords Go.Proofs.YtodokfmmnihecaaGreatDoorW.PrintLast Go.Proofs.YtodokfmmnihecaaGreatDoorW.PrintMore
attribute [local go_sem] max2_int min2_int max_two min_two max_three min_three max_four min_four   -- for this text's walks alone
set_option maxHeartbeats 8000000
set_option maxRecDepth 100000
set_option linter.unusedVariables false
set_option linter.unusedSimpArgs false

/-! ### impl_Product_paramsRight: function 77 -/
def impl_Product_paramsRight.l0 : Nat → List Int → List (S75) → Int → Int → Option (Bool)
 | 0, _, _, _, _ => none
 | k + 1, x1, x14, x15, x16 => if x16 < x15 then (if 0 ≤ x16 then (if x16 < (x14.length : Int) then (if x16 < (x1.length : Int) then ((impl_in.f (rd x1 x16) ((rd_T75 x14 x16).f2) ((rd_T75 x14 x16).f3)).bind fun t421 => (if t421 = true then (impl_Product_paramsRight.l0 k x1 x14 x15 (wrap64 (x16 + 1))) else (some false))) else (none)) else (none)) else (none)) else (some true)
def impl_Product_paramsRight.f (k : Nat) (a0_0 : ByteArray) (a0_1 : Int) (l0_2 : List ByteArray) (l0_3 : List ByteArray) (l0_4 : List (S75)) (l0_5 : List (S73)) (l0_6 : List (S73)) (l0_7 : List (S73)) (l1 : List Int) : Option (Bool) := if (l1.length : Int) = (l0_4.length : Int) then (impl_Product_paramsRight.l0 k l1 l0_4 (l0_4.length : Int) 0) else (some false)
theorem impl_Product_paramsRight.mono_l : ∀ k, (∀ y0 y1 y2 y3, LeO (impl_Product_paramsRight.l0 k y0 y1 y2 y3) (impl_Product_paramsRight.l0 (k + 1) y0 y1 y2 y3))
 | 0 => fun _ _ _ _ r h => by simp [impl_Product_paramsRight.l0] at h
 | k + 1 => by
  have ih0 := impl_Product_paramsRight.mono_l k
  ·intro y0 y1 y2 y3
   unfold impl_Product_paramsRight.l0
   exact mo
theorem impl_Product_paramsRight.mono : ∀ a0 a1 a2 a3 a4 a5 a6 a7 a8 k, LeO (impl_Product_paramsRight.f k a0 a1 a2 a3 a4 a5 a6 a7 a8) (impl_Product_paramsRight.f (k + 1) a0 a1 a2 a3 a4 a5 a6 a7 a8) := by
 intro a0 a1 a2 a3 a4 a5 a6 a7 a8 k
 have ih0 := impl_Product_paramsRight.mono_l k
 unfold impl_Product_paramsRight.f
 exact mo
theorem impl_Product_paramsRight.calls (k : Nat) (a0_0 : ByteArray) (a0_1 : Int) (A0_2 : Option Addr) (c0_2 : Nat) (l0_2 : List ByteArray) (A0_3 : Option Addr) (c0_3 : Nat) (l0_3 : List ByteArray) (A0_4 : Option Addr) (c0_4 : Nat) (l0_4 : List (S75)) (A0_5 : Option Addr) (c0_5 : Nat) (l0_5 : List (S73)) (A0_6 : Option Addr) (c0_6 : Nat) (l0_6 : List (S73)) (A0_7 : Option Addr) (c0_7 : Nat) (l0_7 : List (S73)) (A1 : Option Addr) (c1 : Nat) (l1 : List Int) (r : Bool) (w : World) (hr0_2 : Kd.C Kd.string w A0_2 l0_2.length l0_2) (hc0_2 : l0_2.length ≤ c0_2) (hr0_3 : Kd.C Kd.string w A0_3 l0_3.length l0_3) (hc0_3 : l0_3.length ≤ c0_3) (hr0_4 : Kd.C k75 w A0_4 l0_4.length l0_4) (hc0_4 : l0_4.length ≤ c0_4) (hr0_5 : Kd.C k73 w A0_5 l0_5.length l0_5) (hc0_5 : l0_5.length ≤ c0_5) (hr0_6 : Kd.C k73 w A0_6 l0_6.length l0_6) (hc0_6 : l0_6.length ≤ c0_6) (hr0_7 : Kd.C k73 w A0_7 l0_7.length l0_7) (hc0_7 : l0_7.length ≤ c0_7) (hr1 : Kd.C (Kd.int .i64) w A1 l1.length l1) (hc1 : l1.length ≤ c1) (h : impl_Product_paramsRight.f k a0_0 a0_1 l0_2 l0_3 l0_4 l0_5 l0_6 l0_7 l1 = some r) :
  Calls Tryz.prog 77 #[.agg #[.string a0_0, .int .i64 a0_1, .slice A0_2 l0_2.length c0_2, .slice A0_3 l0_3.length c0_3, .slice A0_4 l0_4.length c0_4, .slice A0_5 l0_5.length c0_5, .slice A0_6 l0_6.length c0_6, .slice A0_7 l0_7.length c0_7], .slice A1 l1.length c1] w fun e w' => e = .returned (.bool r) ∧ Below w.heap.size w w' := by
 have hu32 := Tryz.underlying32
 have hu75 := Tryz.underlying75
 have HR0_2 := am hr0_2
 have HC0_2 := am hc0_2
 clear hr0_2 hc0_2
 have HR0_3 := am hr0_3
 have HC0_3 := am hc0_3
 clear hr0_3 hc0_3
 have HR0_4 := am hr0_4
 have HC0_4 := am hc0_4
 clear hr0_4 hc0_4
 have HR0_5 := am hr0_5
 have HC0_5 := am hc0_5
 clear hr0_5 hc0_5
 have HR0_6 := am hr0_6
 have HC0_6 := am hc0_6
 clear hr0_6 hc0_6
 have HR0_7 := am hr0_7
 have HC0_7 := am hc0_7
 clear hr0_7 hc0_7
 have HR1 := am hr1
 have HC1 := am hc1
 clear hr1 hc1
 have HB := am (Below.refl w.heap.size w)
 have H := h
 clear h
 unfold impl_Product_paramsRight.f at H
 revert H; refine iQn (fun c3 c3b0 c3b1 H => ?_) fun c3 c3b0 c3b1 H => ?_
 ·have c3b2 : (l1.length == l0_4.length) = true := by first | simpa using c3 | (simp at c3 ⊢; omega)
  clear c3
  have H' := am H; clear H
  go_enter Tryz.func77, Tryz.ntmps77
  go_wp2_with (first | (refine bx 2 #[.string a0_0, .int .i64 a0_1, .slice A0_2 l0_2.length c0_2, .slice A0_3 l0_3.length c0_3, .slice A0_4 l0_4.length c0_4, .slice A0_5 l0_5.length c0_5, .slice A0_6 l0_6.length c0_6, .slice A0_7 l0_7.length c0_7] 32 ?_; intro gb417 hg w4 hbox hb; have BK417 := am (hbox); have GW417 := am (bsz hg : w.heap.size ≤ gb417); have GE417 := GW417; replace HB := am (below_step bl hb); clear hb hbox hg; obtain ⟨z5_0, z5_1, z5_2, z5_3, z5_4, z5_5, z5_6, z5_7, y5_0, y5_1, y5_2, y5_3, y5_4, y5_5, y5_6, y5_7⟩ := blk8 BK417.out))
  repeat (go_quiet (first | (refine bx 2 #[.string a0_0, .int .i64 a0_1, .slice A0_2 l0_2.length c0_2, .slice A0_3 l0_3.length c0_3, .slice A0_4 l0_4.length c0_4, .slice A0_5 l0_5.length c0_5, .slice A0_6 l0_6.length c0_6, .slice A0_7 l0_7.length c0_7] 32 ?_; intro gb417 hg w4 hbox hb; have BK417 := am (hbox); have GW417 := am (bsz hg : w.heap.size ≤ gb417); have GE417 := GW417; replace HB := am (below_step bl hb); clear hb hbox hg; obtain ⟨z5_0, z5_1, z5_2, z5_3, z5_4, z5_5, z5_6, z5_7, y5_0, y5_1, y5_2, y5_3, y5_4, y5_5, y5_6, y5_7⟩ := blk8 BK417.out)); try go_wp2_with (first | (refine bx 2 #[.string a0_0, .int .i64 a0_1, .slice A0_2 l0_2.length c0_2, .slice A0_3 l0_3.length c0_3, .slice A0_4 l0_4.length c0_4, .slice A0_5 l0_5.length c0_5, .slice A0_6 l0_6.length c0_6, .slice A0_7 l0_7.length c0_7] 32 ?_; intro gb417 hg w4 hbox hb; have BK417 := am (hbox); have GW417 := am (bsz hg : w.heap.size ≤ gb417); have GE417 := GW417; replace HB := am (below_step bl hb); clear hb hbox hg; obtain ⟨z5_0, z5_1, z5_2, z5_3, z5_4, z5_5, z5_6, z5_7, y5_0, y5_1, y5_2, y5_3, y5_4, y5_5, y5_6, y5_7⟩ := blk8 BK417.out)))
  go_loopg [16] k (fun kq v16 w' => ∃ (x16_1 : Int), v16 = .int .i64 x16_1 ∧ Aside0 (impl_Product_paramsRight.l0 kq l1 l0_4 (l0_4.length : Int) x16_1 = some r) ∧ Aside0 (kq ≤ k) ∧ Aside0 (w'.heap[gb417]? = some (.cells #[.string a0_0, .int .i64 a0_1, (.slice A0_2 l0_2.length c0_2), (.slice A0_3 l0_3.length c0_3), (.slice A0_4 l0_4.length c0_4), (.slice A0_5 l0_5.length c0_5), (.slice A0_6 l0_6.length c0_6), (.slice A0_7 l0_7.length c0_7)] 32 (0, 0))) ∧ Aside0 (Below w.heap.size w w'))
  case atStart => exact ⟨(0), rs, H', ⟨Nat.le_refl _⟩, ⟨bk BK417.out⟩, ⟨bl⟩⟩
  case round =>
   clear H'
   try clear c1; try clear c3; try clear c3b0; try clear c3b1; try clear c3b2; try clear z5_0 z5_1 z5_2 z5_3 z5_4 z5_5 z5_6 z5_7; try clear y5_0 y5_1 y5_2 y5_3 y5_4 y5_5 y5_6 y5_7
   obtain ⟨x16_1, rfl, HA, HK1, BK417, HB⟩ := hrel
   cases gk with
   | zero => exact absurd HA.out (by simp [impl_Product_paramsRight.l0])
   | succ k1 =>
    have H := HA.out
    clear HA
    simp only [impl_Product_paramsRight.l0] at H
    revert H; refine iDb (fun c6b0 H => ?_) fun c6b0 H => ?_
    ·revert H; refine i1 fun c7b0 H => ?_
     revert H; refine i1 fun c8b0 H => ?_
     revert H; refine i1 fun c9b0 H => ?_
     revert H; refine bj fun t421 A10 H => ?_
     replace H := iT H; rcases H with ⟨rfl, H⟩ | ⟨rfl, H⟩
     ·have H' := am H; clear H
      have p418 : 0 ≤ (x16_1 : Int) := ode
      have q418 : x16_1 < (l0_4.length : Int) := ode
      obtain ⟨ad418, e418, hx418_0, hx418_1, hx418_2, hx418_3⟩ := at_T75 HR0_4.out x16_1 p418 q418
      cases e418
      obtain ⟨hx418_0, hx418_1, hx418_2, hx418_3⟩ := hb4 HB.out hx418_0 hx418_1 hx418_2 hx418_3
      replace p418 := eq_true p418
      replace q418 := eq_true q418
      go_wp2_with (first | (refine bx 6 #[.string (⟨#[]⟩ : ByteArray), .int .i64 0, .int .i64 0, .int .i64 0] 75 ?_; intro gb419 hg w12 hbox hb; have BK419 := am (hbox); have GW419 := am (bsz hg : w.heap.size ≤ gb419); have GE419 := GW419; have NB417_419 := am (ne1 hg BK417.out); have NB419_417 := am NB417_419.out.symm; replace BK417 := am (bkb BK417.out hb); replace HB := am (below_step bl hb); clear hb hbox hg; have hnb13 := NB419_417.out; have hnc13 := NB417_419.out; obtain ⟨z14_0, z14_1, z14_2, z14_3, y14_0, y14_1, y14_2, y14_3⟩ := blk4 BK419.out; have p420 : 0 ≤ (x16_1 : Int) := ode; have q420 : x16_1 < (l1.length : Int) := ode; obtain ⟨ad420, e420, hx420_0⟩ := Kd.at_int HR1.out x16_1 p420 q420; cases e420; have hn420_0 : ad420.block ≠ gb419 := Nat.ne_of_lt (Nat.lt_of_lt_of_le (by have := World.block_lt_of_cell? _ _ hx420_0; first | rwa [add_block] at this | exact this) GW419.out); have hn420_1 : ad420.block ≠ gb419 := Nat.ne_of_lt (Nat.lt_of_lt_of_le (by have := World.block_lt_of_cell? _ _ hx420_0; first | rwa [add_block] at this | exact this) GW419.out); have hn420_2 : ad420.block ≠ gb419 := Nat.ne_of_lt (Nat.lt_of_lt_of_le (by have := World.block_lt_of_cell? _ _ hx420_0; first | rwa [add_block] at this | exact this) GW419.out); have hn420_3 : ad420.block ≠ gb419 := Nat.ne_of_lt (Nat.lt_of_lt_of_le (by have := World.block_lt_of_cell? _ _ hx420_0; first | rwa [add_block] at this | exact this) GW419.out); replace hx420_0 := hbc HB.out hx420_0; replace hx420_0 := (cell_far (p := ⟨gb419, 0, none⟩) (by first | (rw [add_block]; exact hn420_0) | (show (Addr.add _ _).block ≠ _; rw [add_block]; exact hn420_0) | exact hn420_0) (.string ((rd_T75 l0_4 x16_1).f0))).trans hx420_0; replace hx420_0 := (cell_far (p := ⟨gb419, 1, none⟩) (by first | (rw [add_block]; exact hn420_1) | (show (Addr.add _ _).block ≠ _; rw [add_block]; exact hn420_1) | exact hn420_1) (.int .i64 ((rd_T75 l0_4 x16_1).f1))).trans hx420_0; replace hx420_0 := (cell_far (p := ⟨gb419, 2, none⟩) (by first | (rw [add_block]; exact hn420_2) | (show (Addr.add _ _).block ≠ _; rw [add_block]; exact hn420_2) | exact hn420_2) (.int .i64 ((rd_T75 l0_4 x16_1).f2))).trans hx420_0; replace hx420_0 := (cell_far (p := ⟨gb419, 3, none⟩) (by first | (rw [add_block]; exact hn420_3) | (show (Addr.add _ _).block ≠ _; rw [add_block]; exact hn420_3) | exact hn420_3) (.int .i64 ((rd_T75 l0_4 x16_1).f3))).trans hx420_0; (try have hy420_0 := fun (n_ : Nat) => (show ((((((w12.drewN n_).setCell ⟨gb419, 0, none⟩ (.string ((rd_T75 l0_4 x16_1).f0))).setCell ⟨gb419, 1, none⟩ (.int .i64 ((rd_T75 l0_4 x16_1).f1))).setCell ⟨gb419, 2, none⟩ (.int .i64 ((rd_T75 l0_4 x16_1).f2))).setCell ⟨gb419, 3, none⟩ (.int .i64 ((rd_T75 l0_4 x16_1).f3)))).cell? _ = some _ from hx420_0)); clear hn420_0; clear hn420_1; clear hn420_2; clear hn420_3; replace p420 := eq_true p420; replace q420 := eq_true q420) | (go_at_call 66; (with_reducible refine (impl_in.calls _ _ _ _ _ A10.out).mono ?_); rintro e w' ⟨rfl, ⟨nd, rfl⟩⟩; (try first | exact ⟨rfl, _, dd1 _ _ _⟩ | exact ⟨rfl, _, dd2 _ _ _ _⟩)))
      repeat (go_quiet (first | (refine bx 6 #[.string (⟨#[]⟩ : ByteArray), .int .i64 0, .int .i64 0, .int .i64 0] 75 ?_; intro gb419 hg w12 hbox hb; have BK419 := am (hbox); have GW419 := am (bsz hg : w.heap.size ≤ gb419); have GE419 := GW419; have NB417_419 := am (ne1 hg BK417.out); have NB419_417 := am NB417_419.out.symm; replace BK417 := am (bkb BK417.out hb); replace HB := am (below_step bl hb); clear hb hbox hg; have hnb13 := NB419_417.out; have hnc13 := NB417_419.out; obtain ⟨z14_0, z14_1, z14_2, z14_3, y14_0, y14_1, y14_2, y14_3⟩ := blk4 BK419.out; have p420 : 0 ≤ (x16_1 : Int) := ode; have q420 : x16_1 < (l1.length : Int) := ode; obtain ⟨ad420, e420, hx420_0⟩ := Kd.at_int HR1.out x16_1 p420 q420; cases e420; have hn420_0 : ad420.block ≠ gb419 := Nat.ne_of_lt (Nat.lt_of_lt_of_le (by have := World.block_lt_of_cell? _ _ hx420_0; first | rwa [add_block] at this | exact this) GW419.out); have hn420_1 : ad420.block ≠ gb419 := Nat.ne_of_lt (Nat.lt_of_lt_of_le (by have := World.block_lt_of_cell? _ _ hx420_0; first | rwa [add_block] at this | exact this) GW419.out); have hn420_2 : ad420.block ≠ gb419 := Nat.ne_of_lt (Nat.lt_of_lt_of_le (by have := World.block_lt_of_cell? _ _ hx420_0; first | rwa [add_block] at this | exact this) GW419.out); have hn420_3 : ad420.block ≠ gb419 := Nat.ne_of_lt (Nat.lt_of_lt_of_le (by have := World.block_lt_of_cell? _ _ hx420_0; first | rwa [add_block] at this | exact this) GW419.out); replace hx420_0 := hbc HB.out hx420_0; replace hx420_0 := (cell_far (p := ⟨gb419, 0, none⟩) (by first | (rw [add_block]; exact hn420_0) | (show (Addr.add _ _).block ≠ _; rw [add_block]; exact hn420_0) | exact hn420_0) (.string ((rd_T75 l0_4 x16_1).f0))).trans hx420_0; replace hx420_0 := (cell_far (p := ⟨gb419, 1, none⟩) (by first | (rw [add_block]; exact hn420_1) | (show (Addr.add _ _).block ≠ _; rw [add_block]; exact hn420_1) | exact hn420_1) (.int .i64 ((rd_T75 l0_4 x16_1).f1))).trans hx420_0; replace hx420_0 := (cell_far (p := ⟨gb419, 2, none⟩) (by first | (rw [add_block]; exact hn420_2) | (show (Addr.add _ _).block ≠ _; rw [add_block]; exact hn420_2) | exact hn420_2) (.int .i64 ((rd_T75 l0_4 x16_1).f2))).trans hx420_0; replace hx420_0 := (cell_far (p := ⟨gb419, 3, none⟩) (by first | (rw [add_block]; exact hn420_3) | (show (Addr.add _ _).block ≠ _; rw [add_block]; exact hn420_3) | exact hn420_3) (.int .i64 ((rd_T75 l0_4 x16_1).f3))).trans hx420_0; (try have hy420_0 := fun (n_ : Nat) => (show ((((((w12.drewN n_).setCell ⟨gb419, 0, none⟩ (.string ((rd_T75 l0_4 x16_1).f0))).setCell ⟨gb419, 1, none⟩ (.int .i64 ((rd_T75 l0_4 x16_1).f1))).setCell ⟨gb419, 2, none⟩ (.int .i64 ((rd_T75 l0_4 x16_1).f2))).setCell ⟨gb419, 3, none⟩ (.int .i64 ((rd_T75 l0_4 x16_1).f3)))).cell? _ = some _ from hx420_0)); clear hn420_0; clear hn420_1; clear hn420_2; clear hn420_3; replace p420 := eq_true p420; replace q420 := eq_true q420) | (go_at_call 66; (with_reducible refine (impl_in.calls _ _ _ _ _ A10.out).mono ?_); rintro e w' ⟨rfl, ⟨nd, rfl⟩⟩; (try first | exact ⟨rfl, _, dd1 _ _ _⟩ | exact ⟨rfl, _, dd2 _ _ _ _⟩))); try go_wp2_with (first | (refine bx 6 #[.string (⟨#[]⟩ : ByteArray), .int .i64 0, .int .i64 0, .int .i64 0] 75 ?_; intro gb419 hg w12 hbox hb; have BK419 := am (hbox); have GW419 := am (bsz hg : w.heap.size ≤ gb419); have GE419 := GW419; have NB417_419 := am (ne1 hg BK417.out); have NB419_417 := am NB417_419.out.symm; replace BK417 := am (bkb BK417.out hb); replace HB := am (below_step bl hb); clear hb hbox hg; have hnb13 := NB419_417.out; have hnc13 := NB417_419.out; obtain ⟨z14_0, z14_1, z14_2, z14_3, y14_0, y14_1, y14_2, y14_3⟩ := blk4 BK419.out; have p420 : 0 ≤ (x16_1 : Int) := ode; have q420 : x16_1 < (l1.length : Int) := ode; obtain ⟨ad420, e420, hx420_0⟩ := Kd.at_int HR1.out x16_1 p420 q420; cases e420; have hn420_0 : ad420.block ≠ gb419 := Nat.ne_of_lt (Nat.lt_of_lt_of_le (by have := World.block_lt_of_cell? _ _ hx420_0; first | rwa [add_block] at this | exact this) GW419.out); have hn420_1 : ad420.block ≠ gb419 := Nat.ne_of_lt (Nat.lt_of_lt_of_le (by have := World.block_lt_of_cell? _ _ hx420_0; first | rwa [add_block] at this | exact this) GW419.out); have hn420_2 : ad420.block ≠ gb419 := Nat.ne_of_lt (Nat.lt_of_lt_of_le (by have := World.block_lt_of_cell? _ _ hx420_0; first | rwa [add_block] at this | exact this) GW419.out); have hn420_3 : ad420.block ≠ gb419 := Nat.ne_of_lt (Nat.lt_of_lt_of_le (by have := World.block_lt_of_cell? _ _ hx420_0; first | rwa [add_block] at this | exact this) GW419.out); replace hx420_0 := hbc HB.out hx420_0; replace hx420_0 := (cell_far (p := ⟨gb419, 0, none⟩) (by first | (rw [add_block]; exact hn420_0) | (show (Addr.add _ _).block ≠ _; rw [add_block]; exact hn420_0) | exact hn420_0) (.string ((rd_T75 l0_4 x16_1).f0))).trans hx420_0; replace hx420_0 := (cell_far (p := ⟨gb419, 1, none⟩) (by first | (rw [add_block]; exact hn420_1) | (show (Addr.add _ _).block ≠ _; rw [add_block]; exact hn420_1) | exact hn420_1) (.int .i64 ((rd_T75 l0_4 x16_1).f1))).trans hx420_0; replace hx420_0 := (cell_far (p := ⟨gb419, 2, none⟩) (by first | (rw [add_block]; exact hn420_2) | (show (Addr.add _ _).block ≠ _; rw [add_block]; exact hn420_2) | exact hn420_2) (.int .i64 ((rd_T75 l0_4 x16_1).f2))).trans hx420_0; replace hx420_0 := (cell_far (p := ⟨gb419, 3, none⟩) (by first | (rw [add_block]; exact hn420_3) | (show (Addr.add _ _).block ≠ _; rw [add_block]; exact hn420_3) | exact hn420_3) (.int .i64 ((rd_T75 l0_4 x16_1).f3))).trans hx420_0; (try have hy420_0 := fun (n_ : Nat) => (show ((((((w12.drewN n_).setCell ⟨gb419, 0, none⟩ (.string ((rd_T75 l0_4 x16_1).f0))).setCell ⟨gb419, 1, none⟩ (.int .i64 ((rd_T75 l0_4 x16_1).f1))).setCell ⟨gb419, 2, none⟩ (.int .i64 ((rd_T75 l0_4 x16_1).f2))).setCell ⟨gb419, 3, none⟩ (.int .i64 ((rd_T75 l0_4 x16_1).f3)))).cell? _ = some _ from hx420_0)); clear hn420_0; clear hn420_1; clear hn420_2; clear hn420_3; replace p420 := eq_true p420; replace q420 := eq_true q420) | (go_at_call 66; (with_reducible refine (impl_in.calls _ _ _ _ _ A10.out).mono ?_); rintro e w' ⟨rfl, ⟨nd, rfl⟩⟩; (try first | exact ⟨rfl, _, dd1 _ _ _⟩ | exact ⟨rfl, _, dd2 _ _ _ _⟩))))
      go_roundg k1
      case measure => have := HK1.out; omega
      case rel => exact ⟨(wrap64 (x16_1 + 1)), rs, H', ⟨by have := HK1.out; omega⟩, ⟨bf BK417.out NB417_419.out⟩, ⟨bl⟩⟩
     obtain rfl := Option.some.inj H
     have p418 : 0 ≤ (x16_1 : Int) := ode
     have q418 : x16_1 < (l0_4.length : Int) := ode
     obtain ⟨ad418, e418, hx418_0, hx418_1, hx418_2, hx418_3⟩ := at_T75 HR0_4.out x16_1 p418 q418
     cases e418
     obtain ⟨hx418_0, hx418_1, hx418_2, hx418_3⟩ := hb4 HB.out hx418_0 hx418_1 hx418_2 hx418_3
     replace p418 := eq_true p418
     replace q418 := eq_true q418
     go_wp2_with (first | (refine bx 6 #[.string (⟨#[]⟩ : ByteArray), .int .i64 0, .int .i64 0, .int .i64 0] 75 ?_; intro gb419 hg w15 hbox hb; have BK419 := am (hbox); have GW419 := am (bsz hg : w.heap.size ≤ gb419); have GE419 := GW419; have NB417_419 := am (ne1 hg BK417.out); have NB419_417 := am NB417_419.out.symm; replace BK417 := am (bkb BK417.out hb); replace HB := am (below_step bl hb); clear hb hbox hg; have hnb16 := NB419_417.out; have hnc16 := NB417_419.out; obtain ⟨z17_0, z17_1, z17_2, z17_3, y17_0, y17_1, y17_2, y17_3⟩ := blk4 BK419.out; have p420 : 0 ≤ (x16_1 : Int) := ode; have q420 : x16_1 < (l1.length : Int) := ode; obtain ⟨ad420, e420, hx420_0⟩ := Kd.at_int HR1.out x16_1 p420 q420; cases e420; have hn420_0 : ad420.block ≠ gb419 := Nat.ne_of_lt (Nat.lt_of_lt_of_le (by have := World.block_lt_of_cell? _ _ hx420_0; first | rwa [add_block] at this | exact this) GW419.out); have hn420_1 : ad420.block ≠ gb419 := Nat.ne_of_lt (Nat.lt_of_lt_of_le (by have := World.block_lt_of_cell? _ _ hx420_0; first | rwa [add_block] at this | exact this) GW419.out); have hn420_2 : ad420.block ≠ gb419 := Nat.ne_of_lt (Nat.lt_of_lt_of_le (by have := World.block_lt_of_cell? _ _ hx420_0; first | rwa [add_block] at this | exact this) GW419.out); have hn420_3 : ad420.block ≠ gb419 := Nat.ne_of_lt (Nat.lt_of_lt_of_le (by have := World.block_lt_of_cell? _ _ hx420_0; first | rwa [add_block] at this | exact this) GW419.out); replace hx420_0 := hbc HB.out hx420_0; replace hx420_0 := (cell_far (p := ⟨gb419, 0, none⟩) (by first | (rw [add_block]; exact hn420_0) | (show (Addr.add _ _).block ≠ _; rw [add_block]; exact hn420_0) | exact hn420_0) (.string ((rd_T75 l0_4 x16_1).f0))).trans hx420_0; replace hx420_0 := (cell_far (p := ⟨gb419, 1, none⟩) (by first | (rw [add_block]; exact hn420_1) | (show (Addr.add _ _).block ≠ _; rw [add_block]; exact hn420_1) | exact hn420_1) (.int .i64 ((rd_T75 l0_4 x16_1).f1))).trans hx420_0; replace hx420_0 := (cell_far (p := ⟨gb419, 2, none⟩) (by first | (rw [add_block]; exact hn420_2) | (show (Addr.add _ _).block ≠ _; rw [add_block]; exact hn420_2) | exact hn420_2) (.int .i64 ((rd_T75 l0_4 x16_1).f2))).trans hx420_0; replace hx420_0 := (cell_far (p := ⟨gb419, 3, none⟩) (by first | (rw [add_block]; exact hn420_3) | (show (Addr.add _ _).block ≠ _; rw [add_block]; exact hn420_3) | exact hn420_3) (.int .i64 ((rd_T75 l0_4 x16_1).f3))).trans hx420_0; (try have hy420_0 := fun (n_ : Nat) => (show ((((((w15.drewN n_).setCell ⟨gb419, 0, none⟩ (.string ((rd_T75 l0_4 x16_1).f0))).setCell ⟨gb419, 1, none⟩ (.int .i64 ((rd_T75 l0_4 x16_1).f1))).setCell ⟨gb419, 2, none⟩ (.int .i64 ((rd_T75 l0_4 x16_1).f2))).setCell ⟨gb419, 3, none⟩ (.int .i64 ((rd_T75 l0_4 x16_1).f3)))).cell? _ = some _ from hx420_0)); clear hn420_0; clear hn420_1; clear hn420_2; clear hn420_3; replace p420 := eq_true p420; replace q420 := eq_true q420) | (go_at_call 66; (with_reducible refine (impl_in.calls _ _ _ _ _ A10.out).mono ?_); rintro e w' ⟨rfl, ⟨nd, rfl⟩⟩; (try first | exact ⟨rfl, _, dd1 _ _ _⟩ | exact ⟨rfl, _, dd2 _ _ _ _⟩)))
     repeat (go_quiet (first | (refine bx 6 #[.string (⟨#[]⟩ : ByteArray), .int .i64 0, .int .i64 0, .int .i64 0] 75 ?_; intro gb419 hg w15 hbox hb; have BK419 := am (hbox); have GW419 := am (bsz hg : w.heap.size ≤ gb419); have GE419 := GW419; have NB417_419 := am (ne1 hg BK417.out); have NB419_417 := am NB417_419.out.symm; replace BK417 := am (bkb BK417.out hb); replace HB := am (below_step bl hb); clear hb hbox hg; have hnb16 := NB419_417.out; have hnc16 := NB417_419.out; obtain ⟨z17_0, z17_1, z17_2, z17_3, y17_0, y17_1, y17_2, y17_3⟩ := blk4 BK419.out; have p420 : 0 ≤ (x16_1 : Int) := ode; have q420 : x16_1 < (l1.length : Int) := ode; obtain ⟨ad420, e420, hx420_0⟩ := Kd.at_int HR1.out x16_1 p420 q420; cases e420; have hn420_0 : ad420.block ≠ gb419 := Nat.ne_of_lt (Nat.lt_of_lt_of_le (by have := World.block_lt_of_cell? _ _ hx420_0; first | rwa [add_block] at this | exact this) GW419.out); have hn420_1 : ad420.block ≠ gb419 := Nat.ne_of_lt (Nat.lt_of_lt_of_le (by have := World.block_lt_of_cell? _ _ hx420_0; first | rwa [add_block] at this | exact this) GW419.out); have hn420_2 : ad420.block ≠ gb419 := Nat.ne_of_lt (Nat.lt_of_lt_of_le (by have := World.block_lt_of_cell? _ _ hx420_0; first | rwa [add_block] at this | exact this) GW419.out); have hn420_3 : ad420.block ≠ gb419 := Nat.ne_of_lt (Nat.lt_of_lt_of_le (by have := World.block_lt_of_cell? _ _ hx420_0; first | rwa [add_block] at this | exact this) GW419.out); replace hx420_0 := hbc HB.out hx420_0; replace hx420_0 := (cell_far (p := ⟨gb419, 0, none⟩) (by first | (rw [add_block]; exact hn420_0) | (show (Addr.add _ _).block ≠ _; rw [add_block]; exact hn420_0) | exact hn420_0) (.string ((rd_T75 l0_4 x16_1).f0))).trans hx420_0; replace hx420_0 := (cell_far (p := ⟨gb419, 1, none⟩) (by first | (rw [add_block]; exact hn420_1) | (show (Addr.add _ _).block ≠ _; rw [add_block]; exact hn420_1) | exact hn420_1) (.int .i64 ((rd_T75 l0_4 x16_1).f1))).trans hx420_0; replace hx420_0 := (cell_far (p := ⟨gb419, 2, none⟩) (by first | (rw [add_block]; exact hn420_2) | (show (Addr.add _ _).block ≠ _; rw [add_block]; exact hn420_2) | exact hn420_2) (.int .i64 ((rd_T75 l0_4 x16_1).f2))).trans hx420_0; replace hx420_0 := (cell_far (p := ⟨gb419, 3, none⟩) (by first | (rw [add_block]; exact hn420_3) | (show (Addr.add _ _).block ≠ _; rw [add_block]; exact hn420_3) | exact hn420_3) (.int .i64 ((rd_T75 l0_4 x16_1).f3))).trans hx420_0; (try have hy420_0 := fun (n_ : Nat) => (show ((((((w15.drewN n_).setCell ⟨gb419, 0, none⟩ (.string ((rd_T75 l0_4 x16_1).f0))).setCell ⟨gb419, 1, none⟩ (.int .i64 ((rd_T75 l0_4 x16_1).f1))).setCell ⟨gb419, 2, none⟩ (.int .i64 ((rd_T75 l0_4 x16_1).f2))).setCell ⟨gb419, 3, none⟩ (.int .i64 ((rd_T75 l0_4 x16_1).f3)))).cell? _ = some _ from hx420_0)); clear hn420_0; clear hn420_1; clear hn420_2; clear hn420_3; replace p420 := eq_true p420; replace q420 := eq_true q420) | (go_at_call 66; (with_reducible refine (impl_in.calls _ _ _ _ _ A10.out).mono ?_); rintro e w' ⟨rfl, ⟨nd, rfl⟩⟩; (try first | exact ⟨rfl, _, dd1 _ _ _⟩ | exact ⟨rfl, _, dd2 _ _ _ _⟩))); try go_wp2_with (first | (refine bx 6 #[.string (⟨#[]⟩ : ByteArray), .int .i64 0, .int .i64 0, .int .i64 0] 75 ?_; intro gb419 hg w15 hbox hb; have BK419 := am (hbox); have GW419 := am (bsz hg : w.heap.size ≤ gb419); have GE419 := GW419; have NB417_419 := am (ne1 hg BK417.out); have NB419_417 := am NB417_419.out.symm; replace BK417 := am (bkb BK417.out hb); replace HB := am (below_step bl hb); clear hb hbox hg; have hnb16 := NB419_417.out; have hnc16 := NB417_419.out; obtain ⟨z17_0, z17_1, z17_2, z17_3, y17_0, y17_1, y17_2, y17_3⟩ := blk4 BK419.out; have p420 : 0 ≤ (x16_1 : Int) := ode; have q420 : x16_1 < (l1.length : Int) := ode; obtain ⟨ad420, e420, hx420_0⟩ := Kd.at_int HR1.out x16_1 p420 q420; cases e420; have hn420_0 : ad420.block ≠ gb419 := Nat.ne_of_lt (Nat.lt_of_lt_of_le (by have := World.block_lt_of_cell? _ _ hx420_0; first | rwa [add_block] at this | exact this) GW419.out); have hn420_1 : ad420.block ≠ gb419 := Nat.ne_of_lt (Nat.lt_of_lt_of_le (by have := World.block_lt_of_cell? _ _ hx420_0; first | rwa [add_block] at this | exact this) GW419.out); have hn420_2 : ad420.block ≠ gb419 := Nat.ne_of_lt (Nat.lt_of_lt_of_le (by have := World.block_lt_of_cell? _ _ hx420_0; first | rwa [add_block] at this | exact this) GW419.out); have hn420_3 : ad420.block ≠ gb419 := Nat.ne_of_lt (Nat.lt_of_lt_of_le (by have := World.block_lt_of_cell? _ _ hx420_0; first | rwa [add_block] at this | exact this) GW419.out); replace hx420_0 := hbc HB.out hx420_0; replace hx420_0 := (cell_far (p := ⟨gb419, 0, none⟩) (by first | (rw [add_block]; exact hn420_0) | (show (Addr.add _ _).block ≠ _; rw [add_block]; exact hn420_0) | exact hn420_0) (.string ((rd_T75 l0_4 x16_1).f0))).trans hx420_0; replace hx420_0 := (cell_far (p := ⟨gb419, 1, none⟩) (by first | (rw [add_block]; exact hn420_1) | (show (Addr.add _ _).block ≠ _; rw [add_block]; exact hn420_1) | exact hn420_1) (.int .i64 ((rd_T75 l0_4 x16_1).f1))).trans hx420_0; replace hx420_0 := (cell_far (p := ⟨gb419, 2, none⟩) (by first | (rw [add_block]; exact hn420_2) | (show (Addr.add _ _).block ≠ _; rw [add_block]; exact hn420_2) | exact hn420_2) (.int .i64 ((rd_T75 l0_4 x16_1).f2))).trans hx420_0; replace hx420_0 := (cell_far (p := ⟨gb419, 3, none⟩) (by first | (rw [add_block]; exact hn420_3) | (show (Addr.add _ _).block ≠ _; rw [add_block]; exact hn420_3) | exact hn420_3) (.int .i64 ((rd_T75 l0_4 x16_1).f3))).trans hx420_0; (try have hy420_0 := fun (n_ : Nat) => (show ((((((w15.drewN n_).setCell ⟨gb419, 0, none⟩ (.string ((rd_T75 l0_4 x16_1).f0))).setCell ⟨gb419, 1, none⟩ (.int .i64 ((rd_T75 l0_4 x16_1).f1))).setCell ⟨gb419, 2, none⟩ (.int .i64 ((rd_T75 l0_4 x16_1).f2))).setCell ⟨gb419, 3, none⟩ (.int .i64 ((rd_T75 l0_4 x16_1).f3)))).cell? _ = some _ from hx420_0)); clear hn420_0; clear hn420_1; clear hn420_2; clear hn420_3; replace p420 := eq_true p420; replace q420 := eq_true q420) | (go_at_call 66; (with_reducible refine (impl_in.calls _ _ _ _ _ A10.out).mono ?_); rintro e w' ⟨rfl, ⟨nd, rfl⟩⟩; (try first | exact ⟨rfl, _, dd1 _ _ _⟩ | exact ⟨rfl, _, dd2 _ _ _ _⟩))))
     go_ret
     exact ⟨er, bl⟩
    obtain rfl := Option.some.inj H
    go_wp2
    repeat (go_quiet (fail); try go_wp2)
    go_ret
    exact ⟨er, bl⟩
 have c3b2 : (l1.length == l0_4.length) = false := by first | simpa using c3 | (simp at c3 ⊢; omega)
 obtain rfl := Option.some.inj H
 go_enter Tryz.func77, Tryz.ntmps77
 go_wp2_with (first | (refine bx 2 #[.string a0_0, .int .i64 a0_1, .slice A0_2 l0_2.length c0_2, .slice A0_3 l0_3.length c0_3, .slice A0_4 l0_4.length c0_4, .slice A0_5 l0_5.length c0_5, .slice A0_6 l0_6.length c0_6, .slice A0_7 l0_7.length c0_7] 32 ?_; intro gb417 hg w18 hbox hb; have BK417 := am (hbox); have GW417 := am (bsz hg : w.heap.size ≤ gb417); have GE417 := GW417; replace HB := am (below_step bl hb); clear hb hbox hg; obtain ⟨z19_0, z19_1, z19_2, z19_3, z19_4, z19_5, z19_6, z19_7, y19_0, y19_1, y19_2, y19_3, y19_4, y19_5, y19_6, y19_7⟩ := blk8 BK417.out))
 repeat (go_quiet (first | (refine bx 2 #[.string a0_0, .int .i64 a0_1, .slice A0_2 l0_2.length c0_2, .slice A0_3 l0_3.length c0_3, .slice A0_4 l0_4.length c0_4, .slice A0_5 l0_5.length c0_5, .slice A0_6 l0_6.length c0_6, .slice A0_7 l0_7.length c0_7] 32 ?_; intro gb417 hg w18 hbox hb; have BK417 := am (hbox); have GW417 := am (bsz hg : w.heap.size ≤ gb417); have GE417 := GW417; replace HB := am (below_step bl hb); clear hb hbox hg; obtain ⟨z19_0, z19_1, z19_2, z19_3, z19_4, z19_5, z19_6, z19_7, y19_0, y19_1, y19_2, y19_3, y19_4, y19_5, y19_6, y19_7⟩ := blk8 BK417.out)); try go_wp2_with (first | (refine bx 2 #[.string a0_0, .int .i64 a0_1, .slice A0_2 l0_2.length c0_2, .slice A0_3 l0_3.length c0_3, .slice A0_4 l0_4.length c0_4, .slice A0_5 l0_5.length c0_5, .slice A0_6 l0_6.length c0_6, .slice A0_7 l0_7.length c0_7] 32 ?_; intro gb417 hg w18 hbox hb; have BK417 := am (hbox); have GW417 := am (bsz hg : w.heap.size ≤ gb417); have GE417 := GW417; replace HB := am (below_step bl hb); clear hb hbox hg; obtain ⟨z19_0, z19_1, z19_2, z19_3, z19_4, z19_5, z19_6, z19_7, y19_0, y19_1, y19_2, y19_3, y19_4, y19_5, y19_6, y19_7⟩ := blk8 BK417.out)))
 go_ret
 exact ⟨er, bl⟩

/-! ### impl_Env_isRight_1: function 143 -/
def impl_Env_isRight_1.f (a0 : Int) : Option (Bool) := (impl_MoneyRight.f a0).bind fun t422 => (some (!t422))
theorem impl_Env_isRight_1.calls (a0 : Int) (r : Bool) (w : World) (h : impl_Env_isRight_1.f a0 = some r) :
  Calls Tryz.prog 143 #[.int .i64 a0] w fun e w' => e = .returned (.bool r) ∧ Drawn0 w w' := by
 have H := h
 clear h
 unfold impl_Env_isRight_1.f at H
 revert H; refine bj fun t422 A2 H => ?_
 obtain rfl := Option.some.inj H
 go_enter Tryz.func143, Tryz.ntmps143
 go_wp2_with (first | (refine gc 133 (some 4) Tryz.func133 (impl_MoneyRight.calls _ _ _ A2.out) ?_; rintro e w' ⟨rfl, ⟨nd, rfl⟩⟩; refine ⟨_, rfl, ?_⟩))
 go_ret
 exact ⟨by first | rfl | (simp; done) | (simp [*]; done) | (simp [isE_bne]; done), by repeat (first | exact Drawn0.refl _ | apply Drawn0.step)⟩

/-! ### impl_Env_isRight: function 78 -/
def impl_Env_isRight.inB (lo hi x : Int) : Bool := decide (lo ≤ x) && decide (x ≤ hi)
def impl_Env_isRight.bad (n : Int) : Bool := !(impl_Env_isRight.inB (-1000000000000) 1000000000000 n)
theorem impl_Env_isRight.in_is (x lo hi : Int) : impl_in.f x lo hi = some (impl_Env_isRight.inB lo hi x) := by
 unfold impl_in.f impl_Env_isRight.inB
 by_cases h : lo ≤ x
 ·rw [if_pos h, decide_eq_true h, Bool.true_and]
 rw [if_neg h, decide_eq_false h, Bool.false_and]
theorem impl_Env_isRight.closure (x : Int) (W : World) : Calls Tryz.prog 143 #[.int .i64 x] W fun e w' => e = .returned (.bool (impl_Env_isRight.bad x)) ∧ ∃ n, w' = W.drewN n :=
 (impl_Env_isRight_1.calls x _ W (by unfold impl_Env_isRight_1.f impl_MoneyRight.f; rw [impl_Env_isRight.in_is]; rfl)).mono fun _ _ ⟨he, hd⟩ => ⟨he, hd.out⟩
theorem impl_Env_isRight.contains (A0 : Option Addr) (c0 : Nat) (l0 : List Int) (w : World) (hr0 : Kd.C (Kd.int .i64) w A0 l0.length l0) :
  Calls Tryz.prog 142 #[.slice A0 l0.length c0, .func (.func 143) #[] #[]] w fun e w' => e = .returned (.bool (l0.any impl_Env_isRight.bad)) ∧ ∃ q, w' = w.drewN q := by
 rcases Nat.eq_zero_or_pos l0.length with h0 | h0
 ·obtain rfl : l0 = [] := List.eq_nil_of_length_eq_zero h0
  exact (AnyE.slices_ContainsFunc_empty Tryz.cf142 A0 c0 _ w).mono fun e w' ⟨he, hw⟩ => ⟨he, 0, hw⟩
 obtain ⟨ad, e0, hx0⟩ := Kd.at_int hr0 0 (by omega) (by omega)
 subst e0
 have hat : ∀ j : Nat, j < l0.length → w.cell? (ad.add j) = some (.int .i64 l0[j]!) := by
  intro j hj
  obtain ⟨ad', e1, h1⟩ := Kd.at_int hr0 (j : Int) (by omega) (by omega)
  cases e1
  rw [Int.toNat_natCast] at h1
  rw [h1]
  unfold rd; rw [Int.toNat_natCast, getElem!_pos l0 j hj, List.getD_eq_getElem?_getD, List.getElem?_eq_getElem hj]; rfl
 obtain ⟨bk, o, s⟩ := ad
 have hz := hat 0 h0
 have hs : s = none := by
  cases s with
  | none => rfl
  | some q =>
   exfalso
   simp only [Addr.add, if_true] at hz
   unfold World.cell? at hz
   cases hh : w.heap[bk]? with
   | none => simp [hh] at hz
   | some ob => cases ob <;> simp [hh] at hz
 subst hs
 have hadd : ∀ j, (⟨bk, o, none⟩ : Addr).add j = ⟨bk, o + j, none⟩ := fun j => by unfold Addr.add; split <;> simp_all
 have key := AnyE.slices_ContainsFunc (α := Int) Tryz.cf142 (fun x => .int .i64 x) impl_Env_isRight.bad 143 #[] (fun args w => enters_of Tryz.func143 (by kernel_rfl) rfl args w) bk o l0.length c0 l0 w
  (fun W x hwW => impl_Env_isRight.closure x W) (Nat.le_refl _) hr0.2.1 (fun j hj => by rw [← hadd]; exact hat j hj)
 refine key.mono ?_
 rintro e w' ⟨rfl, hb⟩
 refine ⟨?_, hb⟩
 rw [List.take_of_length_le (Nat.le_refl _)]
/-- What it computes. -/
def impl_Env_isRight.f (l0_0 l0_1 : List Int) (a0_2 a0_3 a0_4 a0_5 a0_6 a1 : Int) : Option Bool :=
 some (decide ((l0_1.length : Int) = a1) && (!(l0_1.any impl_Env_isRight.bad) && (impl_Env_isRight.inB 0 36524 a0_2 && (impl_Env_isRight.inB 0 a0_2 a0_3 && (impl_Env_isRight.inB 0 1000 a0_4 && (impl_Env_isRight.inB 0 1000000000000 a0_5 && impl_Env_isRight.inB 0 2000 a0_6))))))
theorem impl_Env_isRight.in_calls (x lo hi : Int) (W : World) : Calls Tryz.prog 66 #[.int .i64 x, .int .i64 lo, .int .i64 hi] W fun e w' => e = .returned (.bool (impl_Env_isRight.inB lo hi x)) ∧ ∃ n, w' = W.drewN n :=
 (impl_in.calls x lo hi _ W (impl_Env_isRight.in_is x lo hi)).mono fun _ _ ⟨he, hd⟩ => ⟨he, hd.out⟩
theorem impl_Env_isRight.day_calls (x : Int) (W : World) : Calls Tryz.prog 135 #[.int .i64 x] W fun e w' => e = .returned (.bool (impl_Env_isRight.inB 0 36524 x)) ∧ ∃ n, w' = W.drewN n :=
 (impl_isDay.calls x _ W (by unfold impl_isDay.f; rw [impl_Env_isRight.in_is]; rfl)).mono fun _ _ ⟨he, hd⟩ => ⟨he, hd.out⟩
theorem impl_Env_isRight.seven (q0 q1 q2 q3 q4 q5 q6 : Bool) : q0 = false ∨ (q0 = true ∧ q1 = true) ∨ (q0 = true ∧ q1 = false ∧ q2 = false) ∨ (q0 = true ∧ q1 = false ∧ q2 = true ∧ q3 = false) ∨ (q0 = true ∧ q1 = false ∧ q2 = true ∧ q3 = true ∧ q4 = false) ∨ (q0 = true ∧ q1 = false ∧ q2 = true ∧ q3 = true ∧ q4 = true ∧ q5 = false) ∨ (q0 = true ∧ q1 = false ∧ q2 = true ∧ q3 = true ∧ q4 = true ∧ q5 = true) := by
 cases q0 <;> cases q1 <;> cases q2 <;> cases q3 <;> cases q4 <;> cases q5 <;> simp
theorem impl_Env_isRight.calls (A0_0 : Option Addr) (c0_0 : Nat) (l0_0 : List Int) (A0_1 : Option Addr) (c0_1 : Nat) (l0_1 : List Int) (a0_2 a0_3 a0_4 a0_5 a0_6 a1 : Int) (r : Bool) (w : World) (hr0_0 : Kd.C (Kd.int .i64) w A0_0 l0_0.length l0_0) (hc0_0 : l0_0.length ≤ c0_0) (hr0_1 : Kd.C (Kd.int .i64) w A0_1 l0_1.length l0_1) (hc0_1 : l0_1.length ≤ c0_1) (h : impl_Env_isRight.f l0_0 l0_1 a0_2 a0_3 a0_4 a0_5 a0_6 a1 = some r) :
  Calls Tryz.prog 78 #[.agg #[.slice A0_0 l0_0.length c0_0, .slice A0_1 l0_1.length c0_1, .int .i64 a0_2, .int .i64 a0_3, .int .i64 a0_4, .int .i64 a0_5, .int .i64 a0_6], .int .i64 a1] w fun e w' => e = .returned (.bool r) ∧ Below w.heap.size w w' := by
 obtain rfl := Option.some.inj h
 clear h hr0_0 hc0_0 hc0_1
 have hcf := fun W (hb : Below w.heap.size w W) => impl_Env_isRight.contains A0_1 c0_1 l0_1 W (Kd.C_below hr0_1 hb)
 have hD := impl_Env_isRight.day_calls a0_2
 have h3 := impl_Env_isRight.in_calls a0_3 0 a0_2
 have h4 := impl_Env_isRight.in_calls a0_4 0 1000
 have h5 := impl_Env_isRight.in_calls a0_5 0 1000000000000
 have h6 := impl_Env_isRight.in_calls a0_6 0 2000
 have hu := Tryz.underlying41
 have m0 : ((l0_1.length : Int) == a1) = decide ((l0_1.length : Int) = a1) := by rw [Bool.eq_iff_iff]; simp
 clear hr0_1
 generalize decide ((l0_1.length : Int) = a1) = q0 at *
 generalize l0_1.any impl_Env_isRight.bad = q1 at *
 generalize impl_Env_isRight.inB 0 36524 a0_2 = q2 at *
 generalize impl_Env_isRight.inB 0 a0_2 a0_3 = q3 at *
 generalize impl_Env_isRight.inB 0 1000 a0_4 = q4 at *
 generalize impl_Env_isRight.inB 0 1000000000000 a0_5 = q5 at *
 generalize impl_Env_isRight.inB 0 2000 a0_6 = q6 at *
 rcases impl_Env_isRight.seven q0 q1 q2 q3 q4 q5 q6 with rfl | ⟨rfl, rfl⟩ | ⟨rfl, rfl, rfl⟩ | ⟨rfl, rfl, rfl, rfl⟩ | ⟨rfl, rfl, rfl, rfl, rfl⟩ | ⟨rfl, rfl, rfl, rfl, rfl, rfl⟩ | ⟨rfl, rfl, rfl, rfl, rfl, rfl⟩
 all_goals go_enter Tryz.func78, Tryz.ntmps78
 all_goals go_wp2_with (first | (go_at_call 135; (with_reducible refine (hD _).mono ?_); rintro e w1 ⟨rfl, n1, rfl⟩) | (go_at_call 66; (with_reducible first | refine (h3 _).mono ?_ | refine (h4 _).mono ?_ | refine (h5 _).mono ?_ | refine (h6 _).mono ?_); rintro e w1 ⟨rfl, n1, rfl⟩) | (go_at_call 142; (with_reducible refine (hcf _ ?hbl).mono ?_); (case hbl => exact (by (repeat (first | exact Below.refl _ _ | apply below_alloc | apply pw_below_drewN | apply below_drew)))); rintro e w1 ⟨rfl, n1, rfl⟩))
 all_goals go_ret
 all_goals exact ⟨by first | rfl | simp, (show Below w.heap.size w _ from (by (repeat (first | exact Below.refl _ _ | apply below_alloc | apply pw_below_drewN | apply below_drew))))⟩

/-! ### impl_EnvRight: function 21 -/
def impl_EnvRight.f (k : Nat) (a0_0 : ByteArray) (a0_1 : Int) (l0_2 : List ByteArray) (l0_3 : List ByteArray) (l0_4 : List (S75)) (l0_5 : List (S73)) (l0_6 : List (S73)) (l0_7 : List (S73)) (l1_0 : List Int) (l1_1 : List Int) (a1_2 : Int) (a1_3 : Int) (a1_4 : Int) (a1_5 : Int) (a1_6 : Int) : Option (Bool) := (impl_ProductRight.f k a0_0 a0_1 l0_2 l0_3 l0_4 l0_5 l0_6 l0_7).bind fun t425 => (if t425 = true then ((impl_Product_paramsRight.f k a0_0 a0_1 l0_2 l0_3 l0_4 l0_5 l0_6 l0_7 l1_0).bind fun t426 => (if t426 = true then ((impl_Env_isRight.f l1_0 l1_1 a1_2 a1_3 a1_4 a1_5 a1_6 (l0_3.length : Int)).bind fun t427 => (some t427)) else (some false))) else (some false))
theorem impl_EnvRight.mono : ∀ a0 a1 a2 a3 a4 a5 a6 a7 a8 a9 a10 a11 a12 a13 a14 k, LeO (impl_EnvRight.f k a0 a1 a2 a3 a4 a5 a6 a7 a8 a9 a10 a11 a12 a13 a14) (impl_EnvRight.f (k + 1) a0 a1 a2 a3 a4 a5 a6 a7 a8 a9 a10 a11 a12 a13 a14) := by
 intro a0 a1 a2 a3 a4 a5 a6 a7 a8 a9 a10 a11 a12 a13 a14 k
 unfold impl_EnvRight.f
 repeat' (with_reducible first | exact impl_ProductRight.mono .. | exact impl_Product_paramsRight.mono .. | exact LeO.refl _ | exact LeO.none _ | refine LeO.ite ?_ ?_ | refine LeO.bind ?_ (fun _ => ?_))
theorem impl_EnvRight.calls (k : Nat) (a0_0 : ByteArray) (a0_1 : Int) (A0_2 : Option Addr) (c0_2 : Nat) (l0_2 : List ByteArray) (A0_3 : Option Addr) (c0_3 : Nat) (l0_3 : List ByteArray) (A0_4 : Option Addr) (c0_4 : Nat) (l0_4 : List (S75)) (A0_5 : Option Addr) (c0_5 : Nat) (l0_5 : List (S73)) (A0_6 : Option Addr) (c0_6 : Nat) (l0_6 : List (S73)) (A0_7 : Option Addr) (c0_7 : Nat) (l0_7 : List (S73)) (A1_0 : Option Addr) (c1_0 : Nat) (l1_0 : List Int) (A1_1 : Option Addr) (c1_1 : Nat) (l1_1 : List Int) (a1_2 : Int) (a1_3 : Int) (a1_4 : Int) (a1_5 : Int) (a1_6 : Int) (r : Bool) (w : World) (hr0_2 : Kd.C Kd.string w A0_2 l0_2.length l0_2) (hc0_2 : l0_2.length ≤ c0_2) (hr0_3 : Kd.C Kd.string w A0_3 l0_3.length l0_3) (hc0_3 : l0_3.length ≤ c0_3) (hr0_4 : Kd.C k75 w A0_4 l0_4.length l0_4) (hc0_4 : l0_4.length ≤ c0_4) (hr0_5 : Kd.C k73 w A0_5 l0_5.length l0_5) (hc0_5 : l0_5.length ≤ c0_5) (hr0_6 : Kd.C k73 w A0_6 l0_6.length l0_6) (hc0_6 : l0_6.length ≤ c0_6) (hr0_7 : Kd.C k73 w A0_7 l0_7.length l0_7) (hc0_7 : l0_7.length ≤ c0_7) (hr1_0 : Kd.C (Kd.int .i64) w A1_0 l1_0.length l1_0) (hc1_0 : l1_0.length ≤ c1_0) (hr1_1 : Kd.C (Kd.int .i64) w A1_1 l1_1.length l1_1) (hc1_1 : l1_1.length ≤ c1_1) (hsh : Sh w) (h : impl_EnvRight.f k a0_0 a0_1 l0_2 l0_3 l0_4 l0_5 l0_6 l0_7 l1_0 l1_1 a1_2 a1_3 a1_4 a1_5 a1_6 = some r) :
  Calls Tryz.prog 21 #[.agg #[.string a0_0, .int .i64 a0_1, .slice A0_2 l0_2.length c0_2, .slice A0_3 l0_3.length c0_3, .slice A0_4 l0_4.length c0_4, .slice A0_5 l0_5.length c0_5, .slice A0_6 l0_6.length c0_6, .slice A0_7 l0_7.length c0_7], .agg #[.slice A1_0 l1_0.length c1_0, .slice A1_1 l1_1.length c1_1, .int .i64 a1_2, .int .i64 a1_3, .int .i64 a1_4, .int .i64 a1_5, .int .i64 a1_6]] w fun e w' => e = .returned (.bool r) ∧ Below w.heap.size w w' := by
 have hu32 := Tryz.underlying32
 have hu41 := Tryz.underlying41
 have HR0_2 := am hr0_2
 have HC0_2 := am hc0_2
 clear hr0_2 hc0_2
 have HR0_3 := am hr0_3
 have HC0_3 := am hc0_3
 clear hr0_3 hc0_3
 have HR0_4 := am hr0_4
 have HC0_4 := am hc0_4
 clear hr0_4 hc0_4
 have HR0_5 := am hr0_5
 have HC0_5 := am hc0_5
 clear hr0_5 hc0_5
 have HR0_6 := am hr0_6
 have HC0_6 := am hc0_6
 clear hr0_6 hc0_6
 have HR0_7 := am hr0_7
 have HC0_7 := am hc0_7
 clear hr0_7 hc0_7
 have HR1_0 := am hr1_0
 have HC1_0 := am hc1_0
 clear hr1_0 hc1_0
 have HR1_1 := am hr1_1
 have HC1_1 := am hc1_1
 clear hr1_1 hc1_1
 have HSH := am hsh; clear hsh
 have HB := am (Below.refl w.heap.size w)
 have H := h
 clear h
 unfold impl_EnvRight.f at H
 revert H; refine bj fun t425 A3 H => ?_
 replace H := iT H; rcases H with ⟨rfl, H⟩ | ⟨rfl, H⟩
 ·revert H; refine bj fun t426 A5 H => ?_
  replace H := iT H; rcases H with ⟨rfl, H⟩ | ⟨rfl, H⟩
  ·revert H; refine bj fun t427 A7 H => ?_
   obtain rfl := Option.some.inj H
   go_enter Tryz.func21, Tryz.ntmps21
   go_wp2_with (first | ((with_reducible refine gate_dst (N := 2) rfl ?_); (try (refine gate_guard (by rfl) ?_; dsimp only)); refine box_event ?hg (N := 2) ?hd (cs := #[.string a0_0, .int .i64 a0_1, .slice A0_2 l0_2.length c0_2, .slice A0_3 l0_3.length c0_3, .slice A0_4 l0_4.length c0_4, .slice A0_5 l0_5.length c0_5, .slice A0_6 l0_6.length c0_6, .slice A0_7 l0_7.length c0_7]) (t := 32) ?hr ?_; (case hd => rfl); (case hg => rfl); (case hr => first | (go_simp; done) | (go_simp; rfl)); intro gb423 hg w8 hbox hb; have BK423 := am (hbox); have GW423 := am (bsz hg : w.heap.size ≤ gb423); have GE423 := GW423; replace HB := am (below_step bl hb); clear hb hbox hg) | ((with_reducible refine gate_dst (N := 3) rfl ?_); (try (refine gate_guard (by rfl) ?_; dsimp only)); refine box_event ?hg (N := 3) ?hd (cs := #[.slice A1_0 l1_0.length c1_0, .slice A1_1 l1_1.length c1_1, .int .i64 a1_2, .int .i64 a1_3, .int .i64 a1_4, .int .i64 a1_5, .int .i64 a1_6]) (t := 41) ?hr ?_; (case hd => rfl); (case hg => rfl); (case hr => first | (go_simp; done) | (go_simp; rfl)); intro gb424 hg w9 hbox hb; have BK424 := am (hbox); have GW424 := am (bsz hg : w.heap.size ≤ gb424); have GE424 := GW424; have NB423_424 := am (ne1 hg BK423.out); have NB424_423 := am NB423_424.out.symm; replace BK423 := am (bkb BK423.out hb); replace HB := am (below_step bl hb); clear hb hbox hg; have hnb10 := NB423_424.out; have hnc10 := NB424_423.out; obtain ⟨z11_0, z11_1, z11_2, z11_3, z11_4, z11_5, z11_6, z11_7, y11_0, y11_1, y11_2, y11_3, y11_4, y11_5, y11_6, y11_7⟩ := blk8 BK423.out) | (refine gc 16 (some 6) Tryz.func16 (impl_ProductRight.calls _ _ _ (fun k_ => k_ < w.heap.size) _ _ _ (fun k_ => k_ < w.heap.size) _ _ _ _ _ _ _ _ _ _ _ _ _ _ _ _ _ ?side1 ?side2 ?side3 ?side4 ?side5 ?side6 ?side7 ?side8 ?side9 ?side10 ?side11 A3.out) ?_; (case side1 => exact Kd.V_mk HC0_2.out (Kd.F_below (Kd.C_F Kd.heap_string HR0_2.out) bl)); (case side2 => exact Kd.V_mk HC0_3.out (Kd.F_below (Kd.C_F Kd.heap_string HR0_3.out) bl)); (case side3 => exact cb HR0_4.out); (case side4 => exact HC0_4.out); (case side5 => exact cb HR0_5.out); (case side6 => exact HC0_5.out); (case side7 => exact cb HR0_6.out); (case side8 => exact HC0_6.out); (case side9 => exact cb HR0_7.out); (case side10 => exact HC0_7.out); (case side11 => exact Sh.below HSH.out bl); rintro e w12 ⟨rfl, hb⟩; refine ⟨_, rfl, ?_⟩; replace BK423 := am (bkb BK423.out hb); replace BK424 := am (bkb BK424.out hb); replace HB := am (below_step bl hb); clear hb; obtain ⟨z13_0, z13_1, z13_2, z13_3, z13_4, z13_5, z13_6, z13_7, y13_0, y13_1, y13_2, y13_3, y13_4, y13_5, y13_6, y13_7⟩ := blk8 BK423.out; obtain ⟨z14_0, z14_1, z14_2, z14_3, z14_4, z14_5, z14_6, y14_0, y14_1, y14_2, y14_3, y14_4, y14_5, y14_6⟩ := blk7 BK424.out) | (go_at_call 77; (with_reducible refine (impl_Product_paramsRight.calls _ _ _ _ _ _ _ _ _ _ _ _ _ _ _ _ _ _ _ _ _ _ _ _ _ _ ?side1 ?side2 ?side3 ?side4 ?side5 ?side6 ?side7 ?side8 ?side9 ?side10 ?side11 ?side12 ?side13 ?side14 A5.out).mono ?_); (case side1 => exact cb HR0_2.out); (case side2 => exact HC0_2.out); (case side3 => exact cb HR0_3.out); (case side4 => exact HC0_3.out); (case side5 => exact cb HR0_4.out); (case side6 => exact HC0_4.out); (case side7 => exact cb HR0_5.out); (case side8 => exact HC0_5.out); (case side9 => exact cb HR0_6.out); (case side10 => exact HC0_6.out); (case side11 => exact cb HR0_7.out); (case side12 => exact HC0_7.out); (case side13 => exact cb HR1_0.out); (case side14 => exact HC1_0.out); rintro e w15 ⟨rfl, hb⟩; replace BK423 := am (bkb BK423.out hb); replace BK424 := am (bkb BK424.out hb); replace HB := am (below_step bl hb); clear hb; obtain ⟨z16_0, z16_1, z16_2, z16_3, z16_4, z16_5, z16_6, y16_0, y16_1, y16_2, y16_3, y16_4, y16_5, y16_6⟩ := blk7 BK424.out; obtain ⟨z17_0, z17_1, z17_2, z17_3, z17_4, z17_5, z17_6, z17_7, y17_0, y17_1, y17_2, y17_3, y17_4, y17_5, y17_6, y17_7⟩ := blk8 BK423.out) | (go_at_call 78; (with_reducible refine (impl_Env_isRight.calls _ _ _ _ _ _ _ _ _ _ _ _ _ _ ?side1 ?side2 ?side3 ?side4 A7.out).mono ?_); (case side1 => exact cb HR1_0.out); (case side2 => exact HC1_0.out); (case side3 => exact cb HR1_1.out); (case side4 => exact HC1_1.out); rintro e w18 ⟨rfl, hb⟩; replace BK423 := am (bkb BK423.out hb); replace BK424 := am (bkb BK424.out hb); replace HB := am (below_step bl hb); clear hb))
   go_ret
   exact ⟨er, bl⟩
  obtain rfl := Option.some.inj H
  go_enter Tryz.func21, Tryz.ntmps21
  go_wp2_with (first | ((with_reducible refine gate_dst (N := 2) rfl ?_); (try (refine gate_guard (by rfl) ?_; dsimp only)); refine box_event ?hg (N := 2) ?hd (cs := #[.string a0_0, .int .i64 a0_1, .slice A0_2 l0_2.length c0_2, .slice A0_3 l0_3.length c0_3, .slice A0_4 l0_4.length c0_4, .slice A0_5 l0_5.length c0_5, .slice A0_6 l0_6.length c0_6, .slice A0_7 l0_7.length c0_7]) (t := 32) ?hr ?_; (case hd => rfl); (case hg => rfl); (case hr => first | (go_simp; done) | (go_simp; rfl)); intro gb423 hg w19 hbox hb; have BK423 := am (hbox); have GW423 := am (bsz hg : w.heap.size ≤ gb423); have GE423 := GW423; replace HB := am (below_step bl hb); clear hb hbox hg) | ((with_reducible refine gate_dst (N := 3) rfl ?_); (try (refine gate_guard (by rfl) ?_; dsimp only)); refine box_event ?hg (N := 3) ?hd (cs := #[.slice A1_0 l1_0.length c1_0, .slice A1_1 l1_1.length c1_1, .int .i64 a1_2, .int .i64 a1_3, .int .i64 a1_4, .int .i64 a1_5, .int .i64 a1_6]) (t := 41) ?hr ?_; (case hd => rfl); (case hg => rfl); (case hr => first | (go_simp; done) | (go_simp; rfl)); intro gb424 hg w20 hbox hb; have BK424 := am (hbox); have GW424 := am (bsz hg : w.heap.size ≤ gb424); have GE424 := GW424; have NB423_424 := am (ne1 hg BK423.out); have NB424_423 := am NB423_424.out.symm; replace BK423 := am (bkb BK423.out hb); replace HB := am (below_step bl hb); clear hb hbox hg; have hnb21 := NB423_424.out; have hnc21 := NB424_423.out; obtain ⟨z22_0, z22_1, z22_2, z22_3, z22_4, z22_5, z22_6, z22_7, y22_0, y22_1, y22_2, y22_3, y22_4, y22_5, y22_6, y22_7⟩ := blk8 BK423.out) | (refine gc 16 (some 6) Tryz.func16 (impl_ProductRight.calls _ _ _ (fun k_ => k_ < w.heap.size) _ _ _ (fun k_ => k_ < w.heap.size) _ _ _ _ _ _ _ _ _ _ _ _ _ _ _ _ _ ?side1 ?side2 ?side3 ?side4 ?side5 ?side6 ?side7 ?side8 ?side9 ?side10 ?side11 A3.out) ?_; (case side1 => exact Kd.V_mk HC0_2.out (Kd.F_below (Kd.C_F Kd.heap_string HR0_2.out) bl)); (case side2 => exact Kd.V_mk HC0_3.out (Kd.F_below (Kd.C_F Kd.heap_string HR0_3.out) bl)); (case side3 => exact cb HR0_4.out); (case side4 => exact HC0_4.out); (case side5 => exact cb HR0_5.out); (case side6 => exact HC0_5.out); (case side7 => exact cb HR0_6.out); (case side8 => exact HC0_6.out); (case side9 => exact cb HR0_7.out); (case side10 => exact HC0_7.out); (case side11 => exact Sh.below HSH.out bl); rintro e w23 ⟨rfl, hb⟩; refine ⟨_, rfl, ?_⟩; replace BK423 := am (bkb BK423.out hb); replace BK424 := am (bkb BK424.out hb); replace HB := am (below_step bl hb); clear hb; obtain ⟨z24_0, z24_1, z24_2, z24_3, z24_4, z24_5, z24_6, z24_7, y24_0, y24_1, y24_2, y24_3, y24_4, y24_5, y24_6, y24_7⟩ := blk8 BK423.out; obtain ⟨z25_0, z25_1, z25_2, z25_3, z25_4, z25_5, z25_6, y25_0, y25_1, y25_2, y25_3, y25_4, y25_5, y25_6⟩ := blk7 BK424.out) | (go_at_call 77; (with_reducible refine (impl_Product_paramsRight.calls _ _ _ _ _ _ _ _ _ _ _ _ _ _ _ _ _ _ _ _ _ _ _ _ _ _ ?side1 ?side2 ?side3 ?side4 ?side5 ?side6 ?side7 ?side8 ?side9 ?side10 ?side11 ?side12 ?side13 ?side14 A5.out).mono ?_); (case side1 => exact cb HR0_2.out); (case side2 => exact HC0_2.out); (case side3 => exact cb HR0_3.out); (case side4 => exact HC0_3.out); (case side5 => exact cb HR0_4.out); (case side6 => exact HC0_4.out); (case side7 => exact cb HR0_5.out); (case side8 => exact HC0_5.out); (case side9 => exact cb HR0_6.out); (case side10 => exact HC0_6.out); (case side11 => exact cb HR0_7.out); (case side12 => exact HC0_7.out); (case side13 => exact cb HR1_0.out); (case side14 => exact HC1_0.out); rintro e w26 ⟨rfl, hb⟩; replace BK423 := am (bkb BK423.out hb); replace BK424 := am (bkb BK424.out hb); replace HB := am (below_step bl hb); clear hb))
  go_ret
  exact ⟨er, bl⟩
 obtain rfl := Option.some.inj H
 go_enter Tryz.func21, Tryz.ntmps21
 go_wp2_with (first | ((with_reducible refine gate_dst (N := 2) rfl ?_); (try (refine gate_guard (by rfl) ?_; dsimp only)); refine box_event ?hg (N := 2) ?hd (cs := #[.string a0_0, .int .i64 a0_1, .slice A0_2 l0_2.length c0_2, .slice A0_3 l0_3.length c0_3, .slice A0_4 l0_4.length c0_4, .slice A0_5 l0_5.length c0_5, .slice A0_6 l0_6.length c0_6, .slice A0_7 l0_7.length c0_7]) (t := 32) ?hr ?_; (case hd => rfl); (case hg => rfl); (case hr => first | (go_simp; done) | (go_simp; rfl)); intro gb423 hg w27 hbox hb; have BK423 := am (hbox); have GW423 := am (bsz hg : w.heap.size ≤ gb423); have GE423 := GW423; replace HB := am (below_step bl hb); clear hb hbox hg) | ((with_reducible refine gate_dst (N := 3) rfl ?_); (try (refine gate_guard (by rfl) ?_; dsimp only)); refine box_event ?hg (N := 3) ?hd (cs := #[.slice A1_0 l1_0.length c1_0, .slice A1_1 l1_1.length c1_1, .int .i64 a1_2, .int .i64 a1_3, .int .i64 a1_4, .int .i64 a1_5, .int .i64 a1_6]) (t := 41) ?hr ?_; (case hd => rfl); (case hg => rfl); (case hr => first | (go_simp; done) | (go_simp; rfl)); intro gb424 hg w28 hbox hb; have BK424 := am (hbox); have GW424 := am (bsz hg : w.heap.size ≤ gb424); have GE424 := GW424; have NB423_424 := am (ne1 hg BK423.out); have NB424_423 := am NB423_424.out.symm; replace BK423 := am (bkb BK423.out hb); replace HB := am (below_step bl hb); clear hb hbox hg; have hnb29 := NB423_424.out; have hnc29 := NB424_423.out; obtain ⟨z30_0, z30_1, z30_2, z30_3, z30_4, z30_5, z30_6, z30_7, y30_0, y30_1, y30_2, y30_3, y30_4, y30_5, y30_6, y30_7⟩ := blk8 BK423.out) | (refine gc 16 (some 6) Tryz.func16 (impl_ProductRight.calls _ _ _ (fun k_ => k_ < w.heap.size) _ _ _ (fun k_ => k_ < w.heap.size) _ _ _ _ _ _ _ _ _ _ _ _ _ _ _ _ _ ?side1 ?side2 ?side3 ?side4 ?side5 ?side6 ?side7 ?side8 ?side9 ?side10 ?side11 A3.out) ?_; (case side1 => exact Kd.V_mk HC0_2.out (Kd.F_below (Kd.C_F Kd.heap_string HR0_2.out) bl)); (case side2 => exact Kd.V_mk HC0_3.out (Kd.F_below (Kd.C_F Kd.heap_string HR0_3.out) bl)); (case side3 => exact cb HR0_4.out); (case side4 => exact HC0_4.out); (case side5 => exact cb HR0_5.out); (case side6 => exact HC0_5.out); (case side7 => exact cb HR0_6.out); (case side8 => exact HC0_6.out); (case side9 => exact cb HR0_7.out); (case side10 => exact HC0_7.out); (case side11 => exact Sh.below HSH.out bl); rintro e w31 ⟨rfl, hb⟩; refine ⟨_, rfl, ?_⟩; replace BK423 := am (bkb BK423.out hb); replace BK424 := am (bkb BK424.out hb); replace HB := am (below_step bl hb); clear hb))
 go_ret
 exact ⟨er, bl⟩

/-! ### laws_eqInt64S: function 79 -/
def laws_eqInt64S.l0 : Nat → List Int → List Int → Int → Option (Bool)
 | 0, _, _, _ => none
 | k + 1, x0, x1, x5 => if x5 < (x0.length : Int) then (if 0 ≤ x5 then (if x5 < (x1.length : Int) then (if (rd x0 x5) = (rd x1 x5) then (laws_eqInt64S.l0 k x0 x1 (wrap64 (x5 + 1))) else (some false)) else (none)) else (none)) else (some true)
def laws_eqInt64S.f (k : Nat) (l0 : List Int) (l1 : List Int) : Option (Bool) := if (l0.length : Int) = (l1.length : Int) then (laws_eqInt64S.l0 k l0 l1 0) else (some false)
theorem laws_eqInt64S.mono_l : ∀ k, (∀ y0 y1 y2, LeO (laws_eqInt64S.l0 k y0 y1 y2) (laws_eqInt64S.l0 (k + 1) y0 y1 y2))
 | 0 => fun _ _ _ r h => by simp [laws_eqInt64S.l0] at h
 | k + 1 => by
  have ih0 := laws_eqInt64S.mono_l k
  ·intro y0 y1 y2
   unfold laws_eqInt64S.l0
   exact mo
theorem laws_eqInt64S.mono : ∀ a0 a1 k, LeO (laws_eqInt64S.f k a0 a1) (laws_eqInt64S.f (k + 1) a0 a1) := by
 intro a0 a1 k
 have ih0 := laws_eqInt64S.mono_l k
 unfold laws_eqInt64S.f
 exact mo
theorem laws_eqInt64S.calls (k : Nat) (A0 : Option Addr) (c0 : Nat) (l0 : List Int) (A1 : Option Addr) (c1 : Nat) (l1 : List Int) (r : Bool) (w : World) (hr0 : Kd.C (Kd.int .i64) w A0 l0.length l0) (hc0 : l0.length ≤ c0) (hr1 : Kd.C (Kd.int .i64) w A1 l1.length l1) (hc1 : l1.length ≤ c1) (h : laws_eqInt64S.f k l0 l1 = some r) :
  Calls Tryz.prog 79 #[.slice A0 l0.length c0, .slice A1 l1.length c1] w fun e w' => e = .returned (.bool r) ∧ Drawn0 w w' := by
 have HR0 := am hr0
 have HC0 := am hc0
 clear hr0 hc0
 have HR1 := am hr1
 have HC1 := am hc1
 clear hr1 hc1
 have H := h
 clear h
 unfold laws_eqInt64S.f at H
 revert H; refine iQn (fun c3 c3b0 c3b1 H => ?_) fun c3 c3b0 c3b1 H => ?_
 ·have c3b2 : (l0.length == l1.length) = true := by first | simpa using c3 | (simp at c3 ⊢; omega)
  clear c3
  have H' := am H; clear H
  go_enter Tryz.func79, Tryz.ntmps79
  go_wp2
  repeat (go_quiet (fail); try go_wp2)
  go_loopg [5] k (fun kq v5 w' => ∃ (x5_1 : Int), v5 = .int .i64 x5_1 ∧ Aside0 (laws_eqInt64S.l0 kq l0 l1 x5_1 = some r) ∧ Aside0 (kq ≤ k) ∧ Drawn0 w w')
  case atStart => exact ⟨(0), rs, H', ⟨Nat.le_refl _⟩, by repeat (first | exact Drawn0.refl _ | apply Drawn0.step)⟩
  case round =>
   clear H'
   try clear c1; try clear c3; try clear c3b0; try clear c3b1; try clear c3b2
   obtain ⟨x5_1, rfl, HA, HK1, ⟨m1, rfl⟩⟩ := hrel
   cases gk with
   | zero => exact absurd HA.out (by simp [laws_eqInt64S.l0])
   | succ k1 =>
    have H := HA.out
    clear HA
    simp only [laws_eqInt64S.l0] at H
    revert H; refine iDb (fun c4b0 H => ?_) fun c4b0 H => ?_
    ·revert H; refine i1 fun c5b0 H => ?_
     revert H; refine i1 fun c6b0 H => ?_
     revert H; refine iQ (fun c7b0 c7b1 H => ?_) fun c7 c7b0 c7b1 H => ?_
     ·have H' := am H; clear H
      have p428 : 0 ≤ (x5_1 : Int) := ode
      have q428 : x5_1 < (l0.length : Int) := ode
      obtain ⟨ad428, e428, hx428_0⟩ := Kd.at_int HR0.out x5_1 p428 q428
      cases e428
      replace p428 := eq_true p428
      replace q428 := eq_true q428
      have p429 : 0 ≤ (x5_1 : Int) := ode
      have q429 : x5_1 < (l1.length : Int) := ode
      obtain ⟨ad429, e429, hx429_0⟩ := Kd.at_int HR1.out x5_1 p429 q429
      cases e429
      replace p429 := eq_true p429
      replace q429 := eq_true q429
      go_wp2
      repeat (go_quiet (fail); try go_wp2)
      go_roundg k1
      case measure => have := HK1.out; omega
      case rel => exact ⟨(wrap64 (x5_1 + 1)), rs, H', ⟨by have := HK1.out; omega⟩, by repeat (first | exact Drawn0.refl _ | apply Drawn0.step)⟩
     obtain rfl := Option.some.inj H
     have p428 : 0 ≤ (x5_1 : Int) := ode
     have q428 : x5_1 < (l0.length : Int) := ode
     obtain ⟨ad428, e428, hx428_0⟩ := Kd.at_int HR0.out x5_1 p428 q428
     cases e428
     replace p428 := eq_true p428
     replace q428 := eq_true q428
     have p429 : 0 ≤ (x5_1 : Int) := ode
     have q429 : x5_1 < (l1.length : Int) := ode
     obtain ⟨ad429, e429, hx429_0⟩ := Kd.at_int HR1.out x5_1 p429 q429
     cases e429
     replace p429 := eq_true p429
     replace q429 := eq_true q429
     go_wp2
     repeat (go_quiet (fail); try go_wp2)
     go_ret
     exact ⟨by first | rfl | (simp; done) | (simp [*]; done) | (simp [isE_bne]; done), by repeat (first | exact Drawn0.refl _ | apply Drawn0.step)⟩
    obtain rfl := Option.some.inj H
    go_wp2
    repeat (go_quiet (fail); try go_wp2)
    go_ret
    exact ⟨by first | rfl | (simp; done) | (simp [*]; done) | (simp [isE_bne]; done), by repeat (first | exact Drawn0.refl _ | apply Drawn0.step)⟩
 have c3b2 : (l0.length == l1.length) = false := by first | simpa using c3 | (simp at c3 ⊢; omega)
 obtain rfl := Option.some.inj H
 go_enter Tryz.func79, Tryz.ntmps79
 go_wp2
 repeat (go_quiet (fail); try go_wp2)
 go_ret
 exact ⟨by first | rfl | (simp; done) | (simp [*]; done) | (simp [isE_bne]; done), by repeat (first | exact Drawn0.refl _ | apply Drawn0.step)⟩

/-! ### laws_eqEnv: function 22 -/
def laws_eqEnv.f (k : Nat) (l0_0 : List Int) (l0_1 : List Int) (a0_2 : Int) (a0_3 : Int) (a0_4 : Int) (a0_5 : Int) (a0_6 : Int) (l1_0 : List Int) (l1_1 : List Int) (a1_2 : Int) (a1_3 : Int) (a1_4 : Int) (a1_5 : Int) (a1_6 : Int) : Option (Bool) := (laws_eqInt64S.f k l0_0 l1_0).bind fun t432 => (if t432 = true then ((laws_eqInt64S.f k l0_1 l1_1).bind fun t433 => (if t433 = true then (if a0_2 = a1_2 then (if a0_3 = a1_3 then (if a0_4 = a1_4 then (if a0_5 = a1_5 then (if a0_6 = a1_6 then (some true) else (some false)) else (some false)) else (some false)) else (some false)) else (some false)) else (some false))) else (some false))
theorem laws_eqEnv.mono : ∀ a0 a1 a2 a3 a4 a5 a6 a7 a8 a9 a10 a11 a12 a13 k, LeO (laws_eqEnv.f k a0 a1 a2 a3 a4 a5 a6 a7 a8 a9 a10 a11 a12 a13) (laws_eqEnv.f (k + 1) a0 a1 a2 a3 a4 a5 a6 a7 a8 a9 a10 a11 a12 a13) := by
 intro a0 a1 a2 a3 a4 a5 a6 a7 a8 a9 a10 a11 a12 a13 k
 unfold laws_eqEnv.f
 repeat' (with_reducible first | exact laws_eqInt64S.mono .. | exact LeO.refl _ | exact LeO.none _ | refine LeO.ite ?_ ?_ | refine LeO.bind ?_ (fun _ => ?_))
theorem laws_eqEnv.calls (k : Nat) (A0_0 : Option Addr) (c0_0 : Nat) (l0_0 : List Int) (A0_1 : Option Addr) (c0_1 : Nat) (l0_1 : List Int) (a0_2 : Int) (a0_3 : Int) (a0_4 : Int) (a0_5 : Int) (a0_6 : Int) (A1_0 : Option Addr) (c1_0 : Nat) (l1_0 : List Int) (A1_1 : Option Addr) (c1_1 : Nat) (l1_1 : List Int) (a1_2 : Int) (a1_3 : Int) (a1_4 : Int) (a1_5 : Int) (a1_6 : Int) (r : Bool) (w : World) (hr0_0 : Kd.C (Kd.int .i64) w A0_0 l0_0.length l0_0) (hc0_0 : l0_0.length ≤ c0_0) (hr0_1 : Kd.C (Kd.int .i64) w A0_1 l0_1.length l0_1) (hc0_1 : l0_1.length ≤ c0_1) (hr1_0 : Kd.C (Kd.int .i64) w A1_0 l1_0.length l1_0) (hc1_0 : l1_0.length ≤ c1_0) (hr1_1 : Kd.C (Kd.int .i64) w A1_1 l1_1.length l1_1) (hc1_1 : l1_1.length ≤ c1_1) (h : laws_eqEnv.f k l0_0 l0_1 a0_2 a0_3 a0_4 a0_5 a0_6 l1_0 l1_1 a1_2 a1_3 a1_4 a1_5 a1_6 = some r) :
  Calls Tryz.prog 22 #[.agg #[.slice A0_0 l0_0.length c0_0, .slice A0_1 l0_1.length c0_1, .int .i64 a0_2, .int .i64 a0_3, .int .i64 a0_4, .int .i64 a0_5, .int .i64 a0_6], .agg #[.slice A1_0 l1_0.length c1_0, .slice A1_1 l1_1.length c1_1, .int .i64 a1_2, .int .i64 a1_3, .int .i64 a1_4, .int .i64 a1_5, .int .i64 a1_6]] w fun e w' => e = .returned (.bool r) ∧ Below w.heap.size w w' := by
 have hu41 := Tryz.underlying41
 have HR0_0 := am hr0_0
 have HC0_0 := am hc0_0
 clear hr0_0 hc0_0
 have HR0_1 := am hr0_1
 have HC0_1 := am hc0_1
 clear hr0_1 hc0_1
 have HR1_0 := am hr1_0
 have HC1_0 := am hc1_0
 clear hr1_0 hc1_0
 have HR1_1 := am hr1_1
 have HC1_1 := am hc1_1
 clear hr1_1 hc1_1
 have HB := am (Below.refl w.heap.size w)
 have H := h
 clear h
 unfold laws_eqEnv.f at H
 revert H; refine bj fun t432 A3 H => ?_
 replace H := iT H; rcases H with ⟨rfl, H⟩ | ⟨rfl, H⟩
 ·revert H; refine bj fun t433 A5 H => ?_
  replace H := iT H; rcases H with ⟨rfl, H⟩ | ⟨rfl, H⟩
  ·revert H; refine iQ (fun c7b0 c7b1 H => ?_) fun c7 c7b0 c7b1 H => ?_
   ·revert H; refine iQ (fun c8b0 c8b1 H => ?_) fun c8 c8b0 c8b1 H => ?_
    ·revert H; refine iQ (fun c9b0 c9b1 H => ?_) fun c9 c9b0 c9b1 H => ?_
     ·revert H; refine iQ (fun c10b0 c10b1 H => ?_) fun c10 c10b0 c10b1 H => ?_
      ·revert H; refine iQ (fun c11b0 c11b1 H => ?_) fun c11 c11b0 c11b1 H => ?_
       ·obtain rfl := Option.some.inj H
        go_enter Tryz.func22, Tryz.ntmps22
        go_wp2_with (first | (refine bx 2 #[.slice A0_0 l0_0.length c0_0, .slice A0_1 l0_1.length c0_1, .int .i64 a0_2, .int .i64 a0_3, .int .i64 a0_4, .int .i64 a0_5, .int .i64 a0_6] 41 ?_; intro gb430 hg w12 hbox hb; have BK430 := am (hbox); have GW430 := am (bsz hg : w.heap.size ≤ gb430); have GE430 := GW430; replace HB := am (below_step bl hb); clear hb hbox hg) | (refine bx 3 #[.slice A1_0 l1_0.length c1_0, .slice A1_1 l1_1.length c1_1, .int .i64 a1_2, .int .i64 a1_3, .int .i64 a1_4, .int .i64 a1_5, .int .i64 a1_6] 41 ?_; intro gb431 hg w13 hbox hb; have BK431 := am (hbox); have GW431 := am (bsz hg : w.heap.size ≤ gb431); have GE431 := GW431; have NB430_431 := am (ne1 hg BK430.out); have NB431_430 := am NB430_431.out.symm; replace BK430 := am (bkb BK430.out hb); replace HB := am (below_step bl hb); clear hb hbox hg; have hnb14 := NB430_431.out; have hnc14 := NB431_430.out; obtain ⟨z15_0, z15_1, z15_2, z15_3, z15_4, z15_5, z15_6, y15_0, y15_1, y15_2, y15_3, y15_4, y15_5, y15_6⟩ := blk7 BK430.out; obtain ⟨z16_0, z16_1, z16_2, z16_3, z16_4, z16_5, z16_6, y16_0, y16_1, y16_2, y16_3, y16_4, y16_5, y16_6⟩ := blk7 BK431.out) | (refine gc 79 (some 9) Tryz.func79 (laws_eqInt64S.calls _ _ _ _ _ _ _ _ _ ?side1 ?side2 ?side3 ?side4 A3.out) ?_; (case side1 => exact cb HR0_0.out); (case side2 => exact HC0_0.out); (case side3 => exact cb HR1_0.out); (case side4 => exact HC1_0.out); rintro e w' ⟨rfl, ⟨nd, rfl⟩⟩; refine ⟨_, rfl, ?_⟩) | (refine gc 79 (some 15) Tryz.func79 (laws_eqInt64S.calls _ _ _ _ _ _ _ _ _ ?side1 ?side2 ?side3 ?side4 A5.out) ?_; (case side1 => exact Kd.C_below HR0_1.out bl); (case side2 => exact HC0_1.out); (case side3 => exact Kd.C_below HR1_1.out bl); (case side4 => exact HC1_1.out); rintro e w' ⟨rfl, ⟨nd, rfl⟩⟩; refine ⟨_, rfl, ?_⟩))
        go_ret
        exact ⟨er, bl⟩
       obtain rfl := Option.some.inj H
       go_enter Tryz.func22, Tryz.ntmps22
       go_wp2_with (first | (refine bx 2 #[.slice A0_0 l0_0.length c0_0, .slice A0_1 l0_1.length c0_1, .int .i64 a0_2, .int .i64 a0_3, .int .i64 a0_4, .int .i64 a0_5, .int .i64 a0_6] 41 ?_; intro gb430 hg w17 hbox hb; have BK430 := am (hbox); have GW430 := am (bsz hg : w.heap.size ≤ gb430); have GE430 := GW430; replace HB := am (below_step bl hb); clear hb hbox hg) | (refine bx 3 #[.slice A1_0 l1_0.length c1_0, .slice A1_1 l1_1.length c1_1, .int .i64 a1_2, .int .i64 a1_3, .int .i64 a1_4, .int .i64 a1_5, .int .i64 a1_6] 41 ?_; intro gb431 hg w18 hbox hb; have BK431 := am (hbox); have GW431 := am (bsz hg : w.heap.size ≤ gb431); have GE431 := GW431; have NB430_431 := am (ne1 hg BK430.out); have NB431_430 := am NB430_431.out.symm; replace BK430 := am (bkb BK430.out hb); replace HB := am (below_step bl hb); clear hb hbox hg; have hnb19 := NB430_431.out; have hnc19 := NB431_430.out; obtain ⟨z20_0, z20_1, z20_2, z20_3, z20_4, z20_5, z20_6, y20_0, y20_1, y20_2, y20_3, y20_4, y20_5, y20_6⟩ := blk7 BK430.out; obtain ⟨z21_0, z21_1, z21_2, z21_3, z21_4, z21_5, z21_6, y21_0, y21_1, y21_2, y21_3, y21_4, y21_5, y21_6⟩ := blk7 BK431.out) | (refine gc 79 (some 9) Tryz.func79 (laws_eqInt64S.calls _ _ _ _ _ _ _ _ _ ?side1 ?side2 ?side3 ?side4 A3.out) ?_; (case side1 => exact cb HR0_0.out); (case side2 => exact HC0_0.out); (case side3 => exact cb HR1_0.out); (case side4 => exact HC1_0.out); rintro e w' ⟨rfl, ⟨nd, rfl⟩⟩; refine ⟨_, rfl, ?_⟩) | (refine gc 79 (some 15) Tryz.func79 (laws_eqInt64S.calls _ _ _ _ _ _ _ _ _ ?side1 ?side2 ?side3 ?side4 A5.out) ?_; (case side1 => exact Kd.C_below HR0_1.out bl); (case side2 => exact HC0_1.out); (case side3 => exact Kd.C_below HR1_1.out bl); (case side4 => exact HC1_1.out); rintro e w' ⟨rfl, ⟨nd, rfl⟩⟩; refine ⟨_, rfl, ?_⟩))
       go_ret
       exact ⟨er, bl⟩
      obtain rfl := Option.some.inj H
      go_enter Tryz.func22, Tryz.ntmps22
      go_wp2_with (first | (refine bx 2 #[.slice A0_0 l0_0.length c0_0, .slice A0_1 l0_1.length c0_1, .int .i64 a0_2, .int .i64 a0_3, .int .i64 a0_4, .int .i64 a0_5, .int .i64 a0_6] 41 ?_; intro gb430 hg w22 hbox hb; have BK430 := am (hbox); have GW430 := am (bsz hg : w.heap.size ≤ gb430); have GE430 := GW430; replace HB := am (below_step bl hb); clear hb hbox hg) | (refine bx 3 #[.slice A1_0 l1_0.length c1_0, .slice A1_1 l1_1.length c1_1, .int .i64 a1_2, .int .i64 a1_3, .int .i64 a1_4, .int .i64 a1_5, .int .i64 a1_6] 41 ?_; intro gb431 hg w23 hbox hb; have BK431 := am (hbox); have GW431 := am (bsz hg : w.heap.size ≤ gb431); have GE431 := GW431; have NB430_431 := am (ne1 hg BK430.out); have NB431_430 := am NB430_431.out.symm; replace BK430 := am (bkb BK430.out hb); replace HB := am (below_step bl hb); clear hb hbox hg; have hnb24 := NB430_431.out; have hnc24 := NB431_430.out; obtain ⟨z25_0, z25_1, z25_2, z25_3, z25_4, z25_5, z25_6, y25_0, y25_1, y25_2, y25_3, y25_4, y25_5, y25_6⟩ := blk7 BK430.out; obtain ⟨z26_0, z26_1, z26_2, z26_3, z26_4, z26_5, z26_6, y26_0, y26_1, y26_2, y26_3, y26_4, y26_5, y26_6⟩ := blk7 BK431.out) | (refine gc 79 (some 9) Tryz.func79 (laws_eqInt64S.calls _ _ _ _ _ _ _ _ _ ?side1 ?side2 ?side3 ?side4 A3.out) ?_; (case side1 => exact cb HR0_0.out); (case side2 => exact HC0_0.out); (case side3 => exact cb HR1_0.out); (case side4 => exact HC1_0.out); rintro e w' ⟨rfl, ⟨nd, rfl⟩⟩; refine ⟨_, rfl, ?_⟩) | (refine gc 79 (some 15) Tryz.func79 (laws_eqInt64S.calls _ _ _ _ _ _ _ _ _ ?side1 ?side2 ?side3 ?side4 A5.out) ?_; (case side1 => exact Kd.C_below HR0_1.out bl); (case side2 => exact HC0_1.out); (case side3 => exact Kd.C_below HR1_1.out bl); (case side4 => exact HC1_1.out); rintro e w' ⟨rfl, ⟨nd, rfl⟩⟩; refine ⟨_, rfl, ?_⟩))
      go_ret
      exact ⟨er, bl⟩
     obtain rfl := Option.some.inj H
     go_enter Tryz.func22, Tryz.ntmps22
     go_wp2_with (first | (refine bx 2 #[.slice A0_0 l0_0.length c0_0, .slice A0_1 l0_1.length c0_1, .int .i64 a0_2, .int .i64 a0_3, .int .i64 a0_4, .int .i64 a0_5, .int .i64 a0_6] 41 ?_; intro gb430 hg w27 hbox hb; have BK430 := am (hbox); have GW430 := am (bsz hg : w.heap.size ≤ gb430); have GE430 := GW430; replace HB := am (below_step bl hb); clear hb hbox hg) | (refine bx 3 #[.slice A1_0 l1_0.length c1_0, .slice A1_1 l1_1.length c1_1, .int .i64 a1_2, .int .i64 a1_3, .int .i64 a1_4, .int .i64 a1_5, .int .i64 a1_6] 41 ?_; intro gb431 hg w28 hbox hb; have BK431 := am (hbox); have GW431 := am (bsz hg : w.heap.size ≤ gb431); have GE431 := GW431; have NB430_431 := am (ne1 hg BK430.out); have NB431_430 := am NB430_431.out.symm; replace BK430 := am (bkb BK430.out hb); replace HB := am (below_step bl hb); clear hb hbox hg; have hnb29 := NB430_431.out; have hnc29 := NB431_430.out; obtain ⟨z30_0, z30_1, z30_2, z30_3, z30_4, z30_5, z30_6, y30_0, y30_1, y30_2, y30_3, y30_4, y30_5, y30_6⟩ := blk7 BK430.out; obtain ⟨z31_0, z31_1, z31_2, z31_3, z31_4, z31_5, z31_6, y31_0, y31_1, y31_2, y31_3, y31_4, y31_5, y31_6⟩ := blk7 BK431.out) | (refine gc 79 (some 9) Tryz.func79 (laws_eqInt64S.calls _ _ _ _ _ _ _ _ _ ?side1 ?side2 ?side3 ?side4 A3.out) ?_; (case side1 => exact cb HR0_0.out); (case side2 => exact HC0_0.out); (case side3 => exact cb HR1_0.out); (case side4 => exact HC1_0.out); rintro e w' ⟨rfl, ⟨nd, rfl⟩⟩; refine ⟨_, rfl, ?_⟩) | (refine gc 79 (some 15) Tryz.func79 (laws_eqInt64S.calls _ _ _ _ _ _ _ _ _ ?side1 ?side2 ?side3 ?side4 A5.out) ?_; (case side1 => exact Kd.C_below HR0_1.out bl); (case side2 => exact HC0_1.out); (case side3 => exact Kd.C_below HR1_1.out bl); (case side4 => exact HC1_1.out); rintro e w' ⟨rfl, ⟨nd, rfl⟩⟩; refine ⟨_, rfl, ?_⟩))
     go_ret
     exact ⟨er, bl⟩
    obtain rfl := Option.some.inj H
    go_enter Tryz.func22, Tryz.ntmps22
    go_wp2_with (first | (refine bx 2 #[.slice A0_0 l0_0.length c0_0, .slice A0_1 l0_1.length c0_1, .int .i64 a0_2, .int .i64 a0_3, .int .i64 a0_4, .int .i64 a0_5, .int .i64 a0_6] 41 ?_; intro gb430 hg w32 hbox hb; have BK430 := am (hbox); have GW430 := am (bsz hg : w.heap.size ≤ gb430); have GE430 := GW430; replace HB := am (below_step bl hb); clear hb hbox hg) | (refine bx 3 #[.slice A1_0 l1_0.length c1_0, .slice A1_1 l1_1.length c1_1, .int .i64 a1_2, .int .i64 a1_3, .int .i64 a1_4, .int .i64 a1_5, .int .i64 a1_6] 41 ?_; intro gb431 hg w33 hbox hb; have BK431 := am (hbox); have GW431 := am (bsz hg : w.heap.size ≤ gb431); have GE431 := GW431; have NB430_431 := am (ne1 hg BK430.out); have NB431_430 := am NB430_431.out.symm; replace BK430 := am (bkb BK430.out hb); replace HB := am (below_step bl hb); clear hb hbox hg; have hnb34 := NB430_431.out; have hnc34 := NB431_430.out; obtain ⟨z35_0, z35_1, z35_2, z35_3, z35_4, z35_5, z35_6, y35_0, y35_1, y35_2, y35_3, y35_4, y35_5, y35_6⟩ := blk7 BK430.out; obtain ⟨z36_0, z36_1, z36_2, z36_3, z36_4, z36_5, z36_6, y36_0, y36_1, y36_2, y36_3, y36_4, y36_5, y36_6⟩ := blk7 BK431.out) | (refine gc 79 (some 9) Tryz.func79 (laws_eqInt64S.calls _ _ _ _ _ _ _ _ _ ?side1 ?side2 ?side3 ?side4 A3.out) ?_; (case side1 => exact cb HR0_0.out); (case side2 => exact HC0_0.out); (case side3 => exact cb HR1_0.out); (case side4 => exact HC1_0.out); rintro e w' ⟨rfl, ⟨nd, rfl⟩⟩; refine ⟨_, rfl, ?_⟩) | (refine gc 79 (some 15) Tryz.func79 (laws_eqInt64S.calls _ _ _ _ _ _ _ _ _ ?side1 ?side2 ?side3 ?side4 A5.out) ?_; (case side1 => exact Kd.C_below HR0_1.out bl); (case side2 => exact HC0_1.out); (case side3 => exact Kd.C_below HR1_1.out bl); (case side4 => exact HC1_1.out); rintro e w' ⟨rfl, ⟨nd, rfl⟩⟩; refine ⟨_, rfl, ?_⟩))
    go_ret
    exact ⟨er, bl⟩
   obtain rfl := Option.some.inj H
   go_enter Tryz.func22, Tryz.ntmps22
   go_wp2_with (first | (refine bx 2 #[.slice A0_0 l0_0.length c0_0, .slice A0_1 l0_1.length c0_1, .int .i64 a0_2, .int .i64 a0_3, .int .i64 a0_4, .int .i64 a0_5, .int .i64 a0_6] 41 ?_; intro gb430 hg w37 hbox hb; have BK430 := am (hbox); have GW430 := am (bsz hg : w.heap.size ≤ gb430); have GE430 := GW430; replace HB := am (below_step bl hb); clear hb hbox hg) | (refine bx 3 #[.slice A1_0 l1_0.length c1_0, .slice A1_1 l1_1.length c1_1, .int .i64 a1_2, .int .i64 a1_3, .int .i64 a1_4, .int .i64 a1_5, .int .i64 a1_6] 41 ?_; intro gb431 hg w38 hbox hb; have BK431 := am (hbox); have GW431 := am (bsz hg : w.heap.size ≤ gb431); have GE431 := GW431; have NB430_431 := am (ne1 hg BK430.out); have NB431_430 := am NB430_431.out.symm; replace BK430 := am (bkb BK430.out hb); replace HB := am (below_step bl hb); clear hb hbox hg; have hnb39 := NB430_431.out; have hnc39 := NB431_430.out; obtain ⟨z40_0, z40_1, z40_2, z40_3, z40_4, z40_5, z40_6, y40_0, y40_1, y40_2, y40_3, y40_4, y40_5, y40_6⟩ := blk7 BK430.out; obtain ⟨z41_0, z41_1, z41_2, z41_3, z41_4, z41_5, z41_6, y41_0, y41_1, y41_2, y41_3, y41_4, y41_5, y41_6⟩ := blk7 BK431.out) | (refine gc 79 (some 9) Tryz.func79 (laws_eqInt64S.calls _ _ _ _ _ _ _ _ _ ?side1 ?side2 ?side3 ?side4 A3.out) ?_; (case side1 => exact cb HR0_0.out); (case side2 => exact HC0_0.out); (case side3 => exact cb HR1_0.out); (case side4 => exact HC1_0.out); rintro e w' ⟨rfl, ⟨nd, rfl⟩⟩; refine ⟨_, rfl, ?_⟩) | (refine gc 79 (some 15) Tryz.func79 (laws_eqInt64S.calls _ _ _ _ _ _ _ _ _ ?side1 ?side2 ?side3 ?side4 A5.out) ?_; (case side1 => exact Kd.C_below HR0_1.out bl); (case side2 => exact HC0_1.out); (case side3 => exact Kd.C_below HR1_1.out bl); (case side4 => exact HC1_1.out); rintro e w' ⟨rfl, ⟨nd, rfl⟩⟩; refine ⟨_, rfl, ?_⟩))
   go_ret
   exact ⟨er, bl⟩
  obtain rfl := Option.some.inj H
  go_enter Tryz.func22, Tryz.ntmps22
  go_wp2_with (first | (refine bx 2 #[.slice A0_0 l0_0.length c0_0, .slice A0_1 l0_1.length c0_1, .int .i64 a0_2, .int .i64 a0_3, .int .i64 a0_4, .int .i64 a0_5, .int .i64 a0_6] 41 ?_; intro gb430 hg w42 hbox hb; have BK430 := am (hbox); have GW430 := am (bsz hg : w.heap.size ≤ gb430); have GE430 := GW430; replace HB := am (below_step bl hb); clear hb hbox hg) | (refine bx 3 #[.slice A1_0 l1_0.length c1_0, .slice A1_1 l1_1.length c1_1, .int .i64 a1_2, .int .i64 a1_3, .int .i64 a1_4, .int .i64 a1_5, .int .i64 a1_6] 41 ?_; intro gb431 hg w43 hbox hb; have BK431 := am (hbox); have GW431 := am (bsz hg : w.heap.size ≤ gb431); have GE431 := GW431; have NB430_431 := am (ne1 hg BK430.out); have NB431_430 := am NB430_431.out.symm; replace BK430 := am (bkb BK430.out hb); replace HB := am (below_step bl hb); clear hb hbox hg; have hnb44 := NB430_431.out; have hnc44 := NB431_430.out; obtain ⟨z45_0, z45_1, z45_2, z45_3, z45_4, z45_5, z45_6, y45_0, y45_1, y45_2, y45_3, y45_4, y45_5, y45_6⟩ := blk7 BK430.out; obtain ⟨z46_0, z46_1, z46_2, z46_3, z46_4, z46_5, z46_6, y46_0, y46_1, y46_2, y46_3, y46_4, y46_5, y46_6⟩ := blk7 BK431.out) | (refine gc 79 (some 9) Tryz.func79 (laws_eqInt64S.calls _ _ _ _ _ _ _ _ _ ?side1 ?side2 ?side3 ?side4 A3.out) ?_; (case side1 => exact cb HR0_0.out); (case side2 => exact HC0_0.out); (case side3 => exact cb HR1_0.out); (case side4 => exact HC1_0.out); rintro e w' ⟨rfl, ⟨nd, rfl⟩⟩; refine ⟨_, rfl, ?_⟩) | (refine gc 79 (some 15) Tryz.func79 (laws_eqInt64S.calls _ _ _ _ _ _ _ _ _ ?side1 ?side2 ?side3 ?side4 A5.out) ?_; (case side1 => exact Kd.C_below HR0_1.out bl); (case side2 => exact HC0_1.out); (case side3 => exact Kd.C_below HR1_1.out bl); (case side4 => exact HC1_1.out); rintro e w' ⟨rfl, ⟨nd, rfl⟩⟩; refine ⟨_, rfl, ?_⟩))
  go_ret
  exact ⟨er, bl⟩
 obtain rfl := Option.some.inj H
 go_enter Tryz.func22, Tryz.ntmps22
 go_wp2_with (first | (refine bx 2 #[.slice A0_0 l0_0.length c0_0, .slice A0_1 l0_1.length c0_1, .int .i64 a0_2, .int .i64 a0_3, .int .i64 a0_4, .int .i64 a0_5, .int .i64 a0_6] 41 ?_; intro gb430 hg w47 hbox hb; have BK430 := am (hbox); have GW430 := am (bsz hg : w.heap.size ≤ gb430); have GE430 := GW430; replace HB := am (below_step bl hb); clear hb hbox hg) | (refine bx 3 #[.slice A1_0 l1_0.length c1_0, .slice A1_1 l1_1.length c1_1, .int .i64 a1_2, .int .i64 a1_3, .int .i64 a1_4, .int .i64 a1_5, .int .i64 a1_6] 41 ?_; intro gb431 hg w48 hbox hb; have BK431 := am (hbox); have GW431 := am (bsz hg : w.heap.size ≤ gb431); have GE431 := GW431; have NB430_431 := am (ne1 hg BK430.out); have NB431_430 := am NB430_431.out.symm; replace BK430 := am (bkb BK430.out hb); replace HB := am (below_step bl hb); clear hb hbox hg; have hnb49 := NB430_431.out; have hnc49 := NB431_430.out; obtain ⟨z50_0, z50_1, z50_2, z50_3, z50_4, z50_5, z50_6, y50_0, y50_1, y50_2, y50_3, y50_4, y50_5, y50_6⟩ := blk7 BK430.out; obtain ⟨z51_0, z51_1, z51_2, z51_3, z51_4, z51_5, z51_6, y51_0, y51_1, y51_2, y51_3, y51_4, y51_5, y51_6⟩ := blk7 BK431.out) | (refine gc 79 (some 9) Tryz.func79 (laws_eqInt64S.calls _ _ _ _ _ _ _ _ _ ?side1 ?side2 ?side3 ?side4 A3.out) ?_; (case side1 => exact cb HR0_0.out); (case side2 => exact HC0_0.out); (case side3 => exact cb HR1_0.out); (case side4 => exact HC1_0.out); rintro e w' ⟨rfl, ⟨nd, rfl⟩⟩; refine ⟨_, rfl, ?_⟩))
 go_ret
 exact ⟨er, bl⟩

end Go.Proofs.YtodokfmmnihecaaGreatDoor.PFnExactEnvRight
