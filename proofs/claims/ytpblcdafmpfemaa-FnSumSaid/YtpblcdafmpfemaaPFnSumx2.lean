-- laid by seedprint.py, a program of this session, over contracts that it gives by hand; Lean checks it
-- dented
import Derived.Test.YtpblcdafmpfemaaQMin
import Derived.Test.YtpblcdafmpfemaaQAut
import Derived.Test.YtpblcdafmpfemaaPFnSumx0
import Derived.Test.YtpblcdafmpfemaaPFnSumx1
namespace Go.Proofs.Ytpblcdafmpfemaa.PFnSum
open Go.RowKit Go.Proofs.YtpblcdafmpfemaaW.PrintWords Go.Proofs.YtpblcdafmpfemaaW.PrintLast Go.Proofs.YtpblcdafmpfemaaW.PrintMore
attribute [local go_sem] max2_int min2_int max_two min_two max_three min_three max_four min_four   -- for this text's walks alone
set_option maxHeartbeats 8000000
set_option maxRecDepth 100000
set_option linter.unusedVariables false
set_option linter.unusedSimpArgs false

/-! ### spec_Sum: function 12 -/
def spec_Sum.l0 : Nat → ByteArray → Int → Int → Option (Int)
 | 0, _, _, _ => none
 | k + 1, x0, x3, x4 => if x4 < (x0.size : Int) then (if 0 ≤ x4 then (spec_Sum.l0 k x0 (Int.tmod (wrap64 ((wrap64 (257 * x3)) + (wrap64 (bt x0 x4)))) 4294967291) (wrap64 (x4 + 1))) else (none)) else (some x3)
def spec_Sum.f (k : Nat) (a0 : ByteArray) : Option (Int) := if (a0.size : Int) > 20000 then (some 0) else (spec_Sum.l0 k a0 7 0)
theorem spec_Sum.mono_l : ∀ k, (∀ y0 y1 y2, LeO (spec_Sum.l0 k y0 y1 y2) (spec_Sum.l0 (k + 1) y0 y1 y2))
 | 0 => fun _ _ _ r h => by simp [spec_Sum.l0] at h
 | k + 1 => by
  have ih0 := spec_Sum.mono_l k
  ·intro y0 y1 y2
   unfold spec_Sum.l0
   exact mo
theorem spec_Sum.mono : ∀ a0 k, LeO (spec_Sum.f k a0) (spec_Sum.f (k + 1) a0) := by
 intro a0 k
 have ih0 := spec_Sum.mono_l k
 unfold spec_Sum.f
 exact mo
theorem spec_Sum.calls (k : Nat) (a0 : ByteArray) (r : Int) (w : World) (h : spec_Sum.f k a0 = some r) :
  Calls Try.prog 12 #[.string a0] w fun e w' => e = .returned (.int .i64 r) ∧ Drawn0 w w' := by
 have H := h
 clear h
 unfold spec_Sum.f at H
 revert H; refine iDn (fun c2 c2b0 H => ?_) fun c2 c2b0 H => ?_
 ·have c2b1 : decide (20000 < a0.size) = true := decide_eq_true (by omega)
  clear c2
  obtain rfl := Option.some.inj H
  go_enter Try.func12, Try.ntmps12
  go_wp2
  go_ret
  exact ⟨by first | rfl | (simp; done) | (simp [*]; done), by repeat (first | exact Drawn0.refl _ | apply Drawn0.step)⟩
 have c2b1 : decide (20000 < a0.size) = false := decide_eq_false (by omega)
 clear c2
 have H' := am H; clear H
 go_enter Try.func12, Try.ntmps12
 go_wp2
 go_loopg [3, 4] k (fun kq v3 v4 w' => ∃ (x3_1 : Int) (x4_1 : Int), v3 = .int .i64 x3_1 ∧ v4 = .int .i64 x4_1 ∧ Aside0 (spec_Sum.l0 kq a0 x3_1 x4_1 = some r) ∧ Aside0 (kq ≤ k) ∧ Drawn0 w w')
 case atStart => exact ⟨(7), (0), (by first | rfl | (simp; done) | (simp [*]; done)), (by first | rfl | (simp; done) | (simp [*]; done)), H', ⟨Nat.le_refl _⟩, by repeat (first | exact Drawn0.refl _ | apply Drawn0.step)⟩
 case round =>
  clear H'
  try clear c2; try clear c2b0; try clear c2b1
  obtain ⟨x3_1, x4_1, rfl, rfl, HA, HK1, ⟨m1, rfl⟩⟩ := hrel
  cases gk with
  | zero => exact absurd HA.out (by simp [spec_Sum.l0])
  | succ k1 =>
   have H := HA.out
   clear HA
   simp only [spec_Sum.l0] at H
   revert H; refine iDb (fun c3b0 H => ?_) fun c3b0 H => ?_
   ·revert H; refine i1 fun c4b0 H => ?_
    have H' := am H; clear H
    have p5 : 0 ≤ (x4_1 : Int) := ode
    have q5 : x4_1 < (a0.size : Int) := ode
    have hx5 := bt_at a0 x4_1
    replace p5 := eq_true p5
    replace q5 := eq_true q5
    go_wp2
    go_roundg k1
    case measure => have := HK1.out; omega
    case rel => exact ⟨(Int.tmod (wrap64 ((wrap64 (257 * x3_1)) + (wrap64 (bt a0 x4_1)))) 4294967291), (wrap64 (x4_1 + 1)), (by first | rfl | (simp; done) | (simp [*]; done)), (by first | rfl | (simp; done) | (simp [*]; done)), H', ⟨by have := HK1.out; omega⟩, by repeat (first | exact Drawn0.refl _ | apply Drawn0.step)⟩
   obtain rfl := Option.some.inj H
   go_wp2
   go_ret
   exact ⟨by first | rfl | (simp; done) | (simp [*]; done), by repeat (first | exact Drawn0.refl _ | apply Drawn0.step)⟩

/-! ### laws_lwAt: function 13 -/
def laws_lwAt.f (l0 : List Int) (a1 : Int) (a2 : Int) : Option (Int) := if a2 ≤ 1 then (some 0) else (if (l0.length : Int) = 0 then (some 0) else (if 0 ≤ (Int.tmod a1 (l0.length : Int)) then (if (Int.tmod a1 (l0.length : Int)) < (l0.length : Int) then (if a2 = 0 then (none) else (some (Int.tmod (wrap64 (rd l0 (Int.tmod a1 (l0.length : Int)))) a2))) else (none)) else (none)))
theorem laws_lwAt.calls (A0 : Option Addr) (c0 : Nat) (l0 : List Int) (a1 : Int) (a2 : Int) (r : Int) (w : World) (hr0 : Kd.C (Kd.int .u8) w A0 l0.length l0) (hc0 : l0.length ≤ c0) (h : laws_lwAt.f l0 a1 a2 = some r) :
  Calls Try.prog 13 #[.slice A0 l0.length c0, .int .i64 a1, .int .i64 a2] w fun e w' => e = .returned (.int .i64 r) ∧ Drawn0 w w' := by
 have HR0 := am hr0
 have HC0 := am hc0
 clear hr0 hc0
 have H := h
 clear h
 unfold laws_lwAt.f at H
 revert H; refine iDb (fun c4b0 H => ?_) fun c4b0 H => ?_
 ·obtain rfl := Option.some.inj H
  go_enter Try.func13, Try.ntmps13
  go_wp2
  go_ret
  exact ⟨by first | rfl | (simp; done) | (simp [*]; done), by repeat (first | exact Drawn0.refl _ | apply Drawn0.step)⟩
 revert H; refine iQ (fun c5b0 c5b1 H => ?_) fun c5 c5b0 c5b1 H => ?_
 ·obtain rfl := Option.some.inj H
  go_enter Try.func13, Try.ntmps13
  go_wp2
  go_ret
  exact ⟨by first | rfl | (simp; done) | (simp [*]; done), by repeat (first | exact Drawn0.refl _ | apply Drawn0.step)⟩
 have c5b2 : ¬ (l0 = []) := fun h_ => c5 (by rw [h_]; rfl)
 obtain ⟨ji6, hji6⟩ : ∃ j_ : Int, (Int.tmod a1 (l0.length : Int)) = j_ := ⟨_, rfl⟩
 replace H : (if 0 ≤ (ji6) then (if (ji6) < (l0.length : Int) then (if a2 = 0 then (none) else (some (Int.tmod (wrap64 (rd l0 (ji6))) a2))) else (none)) else (none)) = some r := by first | (rw [hji6] at H; exact H) | (simp only [hji6] at H ⊢; exact H)
 revert H; refine i1 fun c7b0 H => ?_
 revert H; refine i1 fun c8b0 H => ?_
 revert H; refine i9 fun c9 H => ?_
 have c9b0 := beq_eq_false_iff_ne.mpr c9
 have c9b1 := bne_iff_ne.mpr c9
 obtain rfl := Option.some.inj H
 have p127 : 0 ≤ ((ji6) : Int) := ode
 have q127 : (ji6) < (l0.length : Int) := ode
 obtain ⟨ad127, e127, hx127_0⟩ := Kd.at_int HR0.out (ji6) p127 q127
 cases e127
 replace p127 := eq_true p127
 replace q127 := eq_true q127
 go_enter Try.func13, Try.ntmps13
 go_wp2
 go_ret
 exact ⟨by first | rfl | (simp; done) | (simp only [← hji6] <;> (first | rfl | simp)) | (simp [*]; done), by repeat (first | exact Drawn0.refl _ | apply Drawn0.step)⟩

/-! ### laws_FnSum: function 3 -/
/-- A text of which the byte at i is so much more, and one. -/
def laws_FnSum.put (t : ByteArray) (i x : Int) : ByteArray := ⟨(t.data.toList.set i.toNat (UInt8.ofNat ((bt t i + (1 + x)) % 256).toNat)).toArray⟩
def laws_FnSum.f (k : Nat) (l0 l1 : List Int) : Option Bool :=
 if (l0.length : Int) > 1048576 then some true else if (l1.length : Int) > 1048576 then some true else
 (spec_DrawSum.f k l0).bind fun t => (impl_Sum.f k t).bind fun n => (spec_Sum.f k t).bind fun m =>
 (if n = m then (if t.size = 0 then (if n = 7 then some true else none) else
  (laws_lwAt.f l1 0 (t.size : Int)).bind fun i => (laws_lwAt.f l1 1 255).bind fun x =>
  (if 0 ≤ i ∧ i < (t.size : Int) ∧ 0 ≤ x ∧ x ≤ 255 then (impl_Sum.f k (laws_FnSum.put t i x)).bind fun n2 => (if n2 = n then none else some true) else none)) else none)
theorem laws_FnSum.mono : ∀ a0 a1 k, LeO (laws_FnSum.f k a0 a1) (laws_FnSum.f (k + 1) a0 a1) := by
 intro a0 a1 k
 unfold laws_FnSum.f
 refine LeO.ite (LeO.refl _) (LeO.ite (LeO.refl _) ?_)
 refine LeO.bind (spec_DrawSum.mono _ k) (fun _ => LeO.bind (impl_Sum.mono _ k) (fun _ => LeO.bind (spec_Sum.mono _ k) (fun _ => LeO.ite (LeO.ite (LeO.refl _) ?_) (LeO.refl _))))
 refine LeO.bind (LeO.refl _) (fun _ => LeO.bind (LeO.refl _) (fun _ => LeO.ite (LeO.bind (impl_Sum.mono _ k) (fun _ => LeO.refl _)) (LeO.refl _)))
theorem laws_FnSum.calls_long (l0 l1 : List Int) (A0 : Option Addr) (c0 : Nat) (A1 : Option Addr) (c1 : Nat) (w : World) (h : (l0.length : Int) > 1048576 ∨ (¬ (l0.length : Int) > 1048576 ∧ (l1.length : Int) > 1048576)) :
  Calls Try.prog 3 #[.slice A0 l0.length c0, .slice A1 l1.length c1] w fun e w' => e = .returned (.bool true) ∧ Below w.heap.size w w' := by
 rcases h with h | ⟨h1, h2⟩
 ·have m0 : decide ((1048576 : Int) < (l0.length : Int)) = true := decide_eq_true (by omega)
  clear h
  go_enter Try.func3, Try.ntmps3
  go_wp2
  go_ret
  exact ⟨rfl, Below.refl _ _⟩
 have m0 : decide ((1048576 : Int) < (l0.length : Int)) = false := decide_eq_false (by omega)
 have m1 : decide ((1048576 : Int) < (l1.length : Int)) = true := decide_eq_true (by omega)
 clear h1 h2
 go_enter Try.func3, Try.ntmps3
 go_wp2
 go_ret
 exact ⟨rfl, Below.refl _ _⟩
theorem laws_FnSum.calls_empty (k : Nat) (l0 l1 : List Int) (t : ByteArray) (A0 : Option Addr) (c0 : Nat) (A1 : Option Addr) (c1 : Nat) (w : World) (hr0 : Kd.C (Kd.int .u8) w A0 l0.length l0) (hc0 : l0.length ≤ c0)
  (h0 : ¬ (l0.length : Int) > 1048576) (h1 : ¬ (l1.length : Int) > 1048576) (hd : spec_DrawSum.f k l0 = some t) (hs : impl_Sum.f k t = some 7) (hs2 : spec_Sum.f k t = some 7) (ht : t.size = 0) :
  Calls Try.prog 3 #[.slice A0 l0.length c0, .slice A1 l1.length c1] w fun e w' => e = .returned (.bool true) ∧ Below w.heap.size w w' := by
 have hdr := fun W (hb : Below w.heap.size w W) => spec_DrawSum.calls k A0 c0 l0 t W (Kd.C_below hr0 hb) hc0 hd
 have hsi := fun W => impl_Sum.calls k t 7 W hs
 have hss := fun W => spec_Sum.calls k t 7 W hs2
 have m0 : decide ((1048576 : Int) < (l0.length : Int)) = false := decide_eq_false (by omega)
 have m1 : decide ((1048576 : Int) < (l1.length : Int)) = false := decide_eq_false (by omega)
 obtain rfl : t = ByteArray.empty := by
  cases t with | mk d => cases d with | mk l => cases l with
   | nil => rfl
   | cons a b => simp [ByteArray.size] at ht
 clear h0 h1 hd hs hs2 ht hr0 hc0
 go_enter Try.func3, Try.ntmps3
 go_wp2_with (first | (go_at_call 10; (with_reducible refine (hdr _ ?hbl).mono ?_); (case hbl => (repeat (first | exact Below.refl _ _ | apply below_alloc | apply pw_below_drewN | apply below_drew))); rintro e w1 ⟨rfl, hb⟩; have HB := Aside0.mk hb; clear hb) | (go_at_call 11; (with_reducible refine (hsi _).mono ?_); rintro e w2 ⟨rfl, ⟨n2, rfl⟩⟩) | (go_at_call 12; (with_reducible refine (hss _).mono ?_); rintro e w2 ⟨rfl, ⟨n3, rfl⟩⟩))
 go_ret
 exact ⟨rfl, by (repeat (first | exact HB.out | apply pw_below_drewN | apply below_drew))⟩
theorem laws_FnSum.put_list (t : ByteArray) (j : Nat) (x : Int) : (laws_FnSum.put t (j : Int) x).data.toList = t.data.toList.set j (UInt8.ofNat ((bt t (j : Int) + (1 + x)) % 256).toNat) := by
 unfold laws_FnSum.put; simp
theorem laws_FnSum.row_at (t : ByteArray) (cap j : Nat) (h : j < t.size) : (bytesRow t cap)[j]? = some (.int .u8 (bt t (j : Int))) := by
 have hd : j < t.data.size := h
 unfold bytesRow bt
 rw [Array.getElem?_append_left (by simpa using hd)]
 simp only [Array.getElem?_map, Array.getElem?_eq_getElem hd, Option.map_some, Int.toNat_natCast, dif_pos h]
 rfl
theorem laws_FnSum.toL (s : ByteArray) : s.toList = s.data.toList := ByteArray.toList_eq s
theorem laws_FnSum.calls_main (k : Nat) (l0 l1 : List Int) (t : ByteArray) (n : Int) (j : Nat) (x v2 : Int) (A0 : Option Addr) (c0 : Nat) (A1 : Option Addr) (c1 : Nat) (w : World) (hr0 : Kd.C (Kd.int .u8) w A0 l0.length l0) (hc0 : l0.length ≤ c0) (hr1 : Kd.C (Kd.int .u8) w A1 l1.length l1) (hc1 : l1.length ≤ c1)
  (h0 : ¬ (l0.length : Int) > 1048576) (h1 : ¬ (l1.length : Int) > 1048576) (hd : spec_DrawSum.f k l0 = some t) (hs : impl_Sum.f k t = some n) (hs2 : spec_Sum.f k t = some n) (ht : ¬ t.size = 0)
  (hi : laws_lwAt.f l1 0 (t.size : Int) = some (j : Int)) (hx : laws_lwAt.f l1 1 255 = some x) (hb : j < t.size ∧ 0 ≤ x ∧ x ≤ 255) (hs3 : impl_Sum.f k (laws_FnSum.put t (j : Int) x) = some v2) (hn : ¬ v2 = n) :
  Calls Try.prog 3 #[.slice A0 l0.length c0, .slice A1 l1.length c1] w fun e w' => e = .returned (.bool true) ∧ Below w.heap.size w w' := by
 have hdr := fun W (hb : Below w.heap.size w W) => spec_DrawSum.calls k A0 c0 l0 t W (Kd.C_below hr0 hb) hc0 hd
 have hsi := fun W => impl_Sum.calls k t n W hs
 have hss := fun W => spec_Sum.calls k t n W hs2
 have hs3' := fun W => impl_Sum.calls k (laws_FnSum.put t (j : Int) x) v2 W hs3
 have hli := fun W (hb : Below w.heap.size w W) => laws_lwAt.calls A1 c1 l1 0 (t.size : Int) (j : Int) W (Kd.C_below hr1 hb) hc1 hi
 have hlx := fun W (hb : Below w.heap.size w W) => laws_lwAt.calls A1 c1 l1 1 255 x W (Kd.C_below hr1 hb) hc1 hx
 have hcv := fun W => run_bytes_of_string (P := Try.prog) W 9 22 5 t Try.underlying9 Try.underlying22 Try.underlying5
 have m0 : decide ((1048576 : Int) < (l0.length : Int)) = false := decide_eq_false (by omega)
 have m1 : decide ((1048576 : Int) < (l1.length : Int)) = false := decide_eq_false (by omega)
 have mt : (t.toList == ([] : List UInt8)) = false := by
  rw [beq_eq_false_iff_ne]
  intro z
  apply ht
  have := congrArg List.length z
  rw [laws_FnSum.toL, List.length_nil, Array.length_toList] at this
  exact this
 clear h0 h1 hd hs hs2 hr0 hc0 hr1 hc1 hi hx hs3
 go_enter Try.func3, Try.ntmps3
 go_wp2_with (first | (go_at_call 10; (with_reducible refine (hdr _ ?hbl).mono ?_); (case hbl => (repeat (first | exact Below.refl _ _ | apply below_alloc | apply pw_below_drewN | apply below_drew))); rintro e w1 ⟨rfl, hb1⟩; have HB := Aside0.mk hb1; clear hb1) | (go_at_call 11; (with_reducible refine (hsi _).mono ?_); rintro e w2 ⟨rfl, ⟨n2, rfl⟩⟩) | (go_at_call 12; (with_reducible refine (hss _).mono ?_); rintro e w2 ⟨rfl, ⟨n3, rfl⟩⟩) | (go_at_call 13; (with_reducible refine (hli _ ?hbl).mono ?_); (case hbl => exact (by (repeat (first | exact HB.out | apply below_alloc | apply pw_below_drewN | apply below_drew)))); rintro e w2 ⟨rfl, ⟨n4, rfl⟩⟩))
 clear hdr hsi hss hli hcv
 obtain ⟨cap, hcap⟩ : ∃ c, c = grownCap (w1.drewN (n2 + n3)) t.size 0 5 := ⟨_, rfl⟩
 rw [← hcap]
 clear hcap
 obtain ⟨W3, hW3⟩ : ∃ W, W = (((w1.drewN (n2 + n3 + 1)).alloc (Obj.cells (bytesRow t cap) 5 ((bytesRow t cap).size, (bytesRow t cap).size + 1))).drewN n4) := ⟨_, rfl⟩
 rw [← hW3]
 obtain ⟨g, hg⟩ : ∃ g, g = w1.heap.size := ⟨_, rfl⟩
 rw [← hg]
 have hlen : (bytesRow t cap).size ≥ t.size := by unfold bytesRow; simp
 have hcell : ∀ i, i < t.size → W3.cell? ⟨g, i, none⟩ = some (.int .u8 (bt t (i : Int))) := fun i hi => by
  rw [hW3, hg]
  exact (World.cell?_alloc_mark (w1.drewN (n2 + n3 + 1)) _ _ _ i).trans (laws_FnSum.row_at t cap i hi)
 have hblk : W3.heap[g]? = some (Obj.cells (bytesRow t cap) 5 ((bytesRow t cap).size, (bytesRow t cap).size + 1)) := by
  rw [hW3, hg]
  show (w1.heap.push _)[w1.heap.size]? = _
  simp
 have hfrz : W3.frozen? ⟨g, j, none⟩ = false := by
  unfold World.frozen?
  rw [hblk]
  simp
  omega
 have hge : w.heap.size ≤ g := by rw [hg]; exact HB.out.size
 have HB3 : Below w.heap.size w W3 := by
  rw [hW3]
  exact pw_below_drewN (below_alloc (pw_below_drewN HB.out _) _) _
 clear hW3 hg HB hblk
 have hj1 : (0 ≤ (j : Int)) = True := eq_true (by omega)
 have hj2 : ((j : Int) < (t.size : Int)) = True := eq_true (by omega)
 refine start_ (n := 13) (S := fun w' => w'.cell? ⟨g, j, none⟩ = some (.int .u8 (bt t (j : Int)))) (ds := [12]) #[F_, F_, F_, F_, F_, F_, F_, F_, F_, F_, F_, F_, F_] (by kernel_rfl) rfl rfl (hcell j hb.1) (fun hHeld => ?_)
 obtain ⟨W4, hW4⟩ : ∃ W, W = W3.drew := ⟨_, rfl⟩
 rw [← hW4] at hHeld ⊢
 have hcell4 : ∀ i, i < t.size → W4.cell? ⟨g, i, none⟩ = some (.int .u8 (bt t (i : Int))) := fun i hi => by rw [hW4]; exact hcell i hi
 have hfrz4 : W4.frozen? ⟨g, j, none⟩ = false := by rw [hW4]; exact hfrz
 have HB4 : Below w.heap.size w W4 := by rw [hW4]; exact below_drew1 HB3
 clear hW4 hcell hfrz HB3
 refine pv 0 35 ?_
 refine pv 1 36 ?_
 refine pv 2 37 ?_
 refine pv 3 38 ?_
 refine pv 4 39 ?_
 refine take_ (i := 5) (N := some 40) (v := ?_) (a' := ?_) #[T_, T_, T_, T_, T_, T_, F_, F_, F_, F_, F_, F_, F_] rfl rfl (by kernel_rfl) (fun _ _ _ h => h) (Or.inl ⟨by rfl, ?_⟩) hHeld ?_ ?_
 rotate_left
 ·rintro w' s0
  go_simp
  with_reducible rfl
 rotate_left
 ·simp only [Act.put, z1, z2, z3, i64_w, i32_w]
  rfl
 refine pv 6 41 ?_
 refine ov 7 42 (fun K hK => ?_)
 refine gk Try.func13 (hlx _ HB4) ?_
 rintro e w5 ⟨rfl, hd5⟩
 obtain ⟨nd, rfl⟩ := hd5
 refine ⟨_, rfl, ?_⟩
 refine hK.out _ _ hHeld (fun hHeld => ?_)
 refine norm_ (a' := ?_) ?_ ?_
 rotate_left
 ·simp only [Act.put, z1, z2, z3, i64_w, i32_w]
  rfl
 rotate_left
 refine pv 8 43 ?_
 refine pv 9 44 ?_
 refine pv 10 45 ?_
 refine pv 11 46 ?_
 obtain ⟨v, hv⟩ : ∃ v, v = IntKind.u8.wrap (bt t (j : Int) + IntKind.u8.wrap (wrap64 (1 + x))) := ⟨_, rfl⟩
 rw [← hv]
 have hz5 : (W4.drewN nd).cell? ⟨g, j, none⟩ = some (.int .u8 (bt t (j : Int))) := hHeld
 have hf5 : (W4.drewN nd).frozen? ⟨g, j, none⟩ = false := hfrz4
 refine last_ (i := 12) (N := none) #[T_, T_, T_, T_, T_, T_, T_, T_, T_, T_, T_, T_, T_] rfl rfl (by kernel_rfl) (by decide) (fun K hK => ?_)
 refine skip_ (w1 := (W4.drewN nd).setCell ⟨g, j, none⟩ (.int .u8 v)) (by rfl) rfl ?_ ?_
 ·first | (go_simp; done) | (go_simp; rfl)
 refine hK.out _ _ ?_
 refine done_ (by kernel_rfl) ?_
 have hvv : v = ((UInt8.ofNat ((bt t (j : Int) + (1 + x)) % 256).toNat).toNat : Int) := by
  have h1 : wrap64 (1 + x) = 1 + x := by unfold wrap64; omega
  have h0 : 0 ≤ bt t (j : Int) := by unfold bt; split <;> omega
  rw [hv, h1, IntKind.wrap_u8, IntKind.wrap_u8, UInt8.toNat_ofNat']
  omega
 have hpl : (laws_FnSum.put t (j : Int) x).data.toList.length = t.size := by rw [laws_FnSum.put_list, List.length_set]; exact Array.length_toList
 obtain ⟨W6, hW6⟩ : ∃ W, W = (W4.drewN nd).setCell ⟨g, j, none⟩ (.int .u8 v) := ⟨_, rfl⟩
 have HB6 : Below w.heap.size w W6 := by rw [hW6]; exact below_set (pw_below_drewN HB4 nd) hge
 have hcb : (convert 22 9 (.slice (some ⟨g, 0, none⟩) t.size cap)).run Try.prog W6 = .ok (.string (laws_FnSum.put t (j : Int) x)) W6 := by
  have h := run_convert_bytes_back (P := Try.prog) W6 22 9 5 ⟨g, 0, none⟩ cap (laws_FnSum.put t (j : Int) x).data.toList Try.underlying22 Try.underlying5 Try.underlying9 (fun i hi => by
   rw [hpl] at hi
   have ha : (Addr.add ⟨g, 0, none⟩ i) = ⟨g, i, none⟩ := by simp [Addr.add]; omega
   rw [ha, hW6]
   by_cases e : j = i
   ·subst e
    rw [World.cell?_setCell_same (h := hz5), hvv]
    simp only [laws_FnSum.put_list, List.getElem_set_self]
   rw [World.cell?_setCell_other (h := (fun h => e (by injection h) : (⟨g, j, none⟩ : Addr) ≠ ⟨g, i, none⟩)), show (W4.drewN nd).cell? ⟨g, i, none⟩ = some (.int .u8 (bt t (i : Int))) from hcell4 i hi]
   simp only [laws_FnSum.put_list, List.getElem_set_ne e]
   unfold bt
   rw [Int.toNat_natCast, dif_pos hi]
   rfl)
  rw [hpl] at h
  exact h
 rw [← hW6]
 clear hW6 hv hvv hz5 hf5 hHeld hcell4 hfrz4 HB4
 have mv : (v2 != n) = true := bne_iff_ne.mpr hn
 go_wp2_with (first | (go_at_call 11; (with_reducible refine (hs3' _).mono ?_); rintro e w6 ⟨rfl, ⟨n6, rfl⟩⟩))
 go_ret
 exact ⟨rfl, by (repeat (first | exact HB6 | apply pw_below_drewN | apply below_drew))⟩
theorem laws_FnSum.calls (k : Nat) (A0 : Option Addr) (c0 : Nat) (l0 : List Int) (A1 : Option Addr) (c1 : Nat) (l1 : List Int) (r : Bool) (w : World) (hr0 : Kd.C (Kd.int .u8) w A0 l0.length l0) (hc0 : l0.length ≤ c0) (hr1 : Kd.C (Kd.int .u8) w A1 l1.length l1) (hc1 : l1.length ≤ c1)
  (h : laws_FnSum.f k l0 l1 = some r) : Calls Try.prog 3 #[.slice A0 l0.length c0, .slice A1 l1.length c1] w fun e w' => e = .returned (.bool r) ∧ Below w.heap.size w w' := by
 unfold laws_FnSum.f at h
 by_cases h0 : (l0.length : Int) > 1048576
 ·rw [if_pos h0] at h
  obtain rfl := Option.some.inj h
  exact laws_FnSum.calls_long l0 l1 A0 c0 A1 c1 w (.inl h0)
 rw [if_neg h0] at h
 by_cases h1 : (l1.length : Int) > 1048576
 ·rw [if_pos h1] at h
  obtain rfl := Option.some.inj h
  exact laws_FnSum.calls_long l0 l1 A0 c0 A1 c1 w (.inr ⟨h0, h1⟩)
 rw [if_neg h1] at h
 obtain ⟨t, ht, h⟩ := Option.bind_eq_some_iff.mp h
 obtain ⟨n, hn, h⟩ := Option.bind_eq_some_iff.mp h
 obtain ⟨m, hm, h⟩ := Option.bind_eq_some_iff.mp h
 by_cases e : n = m
 ·rw [if_pos e] at h
  by_cases e0 : t.size = 0
  ·rw [if_pos e0] at h
   by_cases e7 : n = 7
   ·rw [if_pos e7] at h
    obtain rfl := Option.some.inj h
    rw [← e] at hm
    rw [e7] at hn hm
    exact laws_FnSum.calls_empty k l0 l1 t A0 c0 A1 c1 w hr0 hc0 h0 h1 ht hn hm e0
   rw [if_neg e7] at h; exact absurd h (by simp)
  rw [if_neg e0] at h
  rw [← e] at hm
  obtain ⟨i, hi, h⟩ := Option.bind_eq_some_iff.mp h
  obtain ⟨x, hx, h⟩ := Option.bind_eq_some_iff.mp h
  by_cases eb : 0 ≤ i ∧ i < (t.size : Int) ∧ 0 ≤ x ∧ x ≤ 255
  ·rw [if_pos eb] at h
   obtain ⟨j, rfl⟩ := Int.eq_ofNat_of_zero_le eb.1
   obtain ⟨n2, hn2, h⟩ := Option.bind_eq_some_iff.mp h
   by_cases e2 : n2 = n
   ·rw [if_pos e2] at h; exact absurd h (by simp)
   rw [if_neg e2] at h
   obtain rfl := Option.some.inj h
   exact laws_FnSum.calls_main k l0 l1 t n j x n2 A0 c0 A1 c1 w hr0 hc0 hr1 hc1 h0 h1 ht hn hm e0 hi hx ⟨by omega, eb.2.2.1, eb.2.2.2⟩ hn2 e2
  rw [if_neg eb] at h; exact absurd h (by simp)
 rw [if_neg e] at h; exact absurd h (by simp)

def laws_FnSum.Pure : Prop := ∀ (l0 : List Int) (l1 : List Int), (l0.length ≤ maxLen ∧ ∀ x ∈ l0, (Lit.int .u8 x).wf = true) → (l1.length ≤ maxLen ∧ ∀ x ∈ l1, (Lit.int .u8 x).wf = true) → ∃ k, laws_FnSum.f k l0 l1 = some true

end Go.Proofs.Ytpblcdafmpfemaa.PFnSum
