-- laid by seedprint.py, a program of this session, over contracts that it gives by hand; Lean checks it
-- dented
import Derived.Test.YtppeloepaihckaaQMin
import Derived.Test.YtppeloepaihckaaQAut
import Derived.Test.YtppeloepaihckaaPFnRecsx0
import Derived.Test.YtppeloepaihckaaPFnRecsx1
namespace Go.Proofs.Ytppeloepaihckaa.PFnRecs
open Go.RowKit Go.Proofs.YtppeloepaihckaaW.PrintWords Go.Proofs.YtppeloepaihckaaW.PrintLast Go.Proofs.YtppeloepaihckaaW.PrintMore
attribute [local go_sem] max2_int min2_int max_two min_two max_three min_three max_four min_four   -- for this text's walks alone
set_option maxHeartbeats 8000000
set_option maxRecDepth 100000
set_option linter.unusedVariables false
set_option linter.unusedSimpArgs false

/-! ### spec_PutNum: function 13 -/
def spec_PutNum.l0 : Nat → Int → List Int → Option (ByteArray)
 | 0, _, _ => none
 | k + 1, x3, x4 => if x3 ≥ 128 then (if x4.length < 140737488355328 then (spec_PutNum.l0 k (IntKind.u64.wrap (Int.tdiv x3 128)) (x4 ++ [(IntKind.u64.wrap ((Int.tmod x3 128) + 128)) % 256])) else (none)) else (if x4.length < 140737488355328 then (some (strOfNums (x4 ++ [(x3) % 256]))) else (none))
def spec_PutNum.f (k : Nat) (a0 : Int) : Option (ByteArray) := (spec_l01Fold.f a0).bind fun t141 => (spec_PutNum.l0 k t141 (([] : List Int)))
theorem spec_PutNum.mono_l : ∀ k, (∀ y0 y1, LeO (spec_PutNum.l0 k y0 y1) (spec_PutNum.l0 (k + 1) y0 y1))
 | 0 => fun _ _ r h => by simp [spec_PutNum.l0] at h
 | k + 1 => by
  have ih0 := spec_PutNum.mono_l k
  ·intro y0 y1
   unfold spec_PutNum.l0
   exact mo
theorem spec_PutNum.mono : ∀ a0 k, LeO (spec_PutNum.f k a0) (spec_PutNum.f (k + 1) a0) := by
 intro a0 k
 have ih0 := spec_PutNum.mono_l k
 unfold spec_PutNum.f
 exact mo
theorem spec_PutNum.calls (k : Nat) (a0 : Int) (r : ByteArray) (w : World) (h : spec_PutNum.f k a0 = some r) :
  Calls Try.prog 13 #[.int .i64 a0] w fun e w' => e = .returned (.string r) ∧ Below w.heap.size w w' := by
 have HB := am (Below.refl w.heap.size w)
 have H := h
 clear h
 unfold spec_PutNum.f at H
 revert H; refine bj fun t141 A2 H => ?_
 generalize h_ : ((([] : List Int)) : List Int) = y142 at H
 have Ny142 := am h_.symm; clear h_; try rw [Option.bind_some] at H
 have H' := am H; clear H
 go_enter Try.func13, Try.ntmps13
 go_wp2_with (first | ((with_reducible refine c_ 19 ?_); refine gc 19 (some 6) Try.func19 (spec_l01Fold.calls _ _ _ A2.out) ?_; rintro e w' ⟨rfl, ⟨nd, rfl⟩⟩; refine ⟨_, rfl, ?_⟩) | ((with_reducible refine gate_dst (N := 7) rfl ?_); refine Kd.R_lit (Kd.int .u8) _ 5 ?hg (N := 7) ?hd (xs := ([] : List Int)) (inner := []) (ok := fun _ => True) (okp := fun _ => True) ?hr ?hp (fun _ hk => hk) trivial (Below.refl _ _) (Nat.le_refl _) (by simp) ?_; (case hd => rfl); (case hg => rfl); (case hr => first | (go_simp; done) | (go_simp; rfl)); (case hp => exact (Reps.none _ _)); intro v143 w3 ho4 hb hg_ hnew_; clear hg_ hnew_; (first | rw [← Ny142.out] at ho4 | (simp only [Int.reduceToNat] at ho4; rw [← Ny142.out] at ho4)); have HO144 := am (Kd.R_lower ho4 (below_size bl)); replace HB := ho hb; clear hb ho4))
 go_loopg [3, 4] k (fun kq v3 v4 w' => ∃ (x3_1 : Int) (x4_1 : List Int), v3 = .int .u64 x3_1 ∧ Aside0 (spec_PutNum.l0 kq x3_1 x4_1 = some r) ∧ Aside0 (kq ≤ k) ∧ Aside0 (Kd.R (Kd.int .u8) 5 w' w.heap.size (fun _ => True) v4 x4_1) ∧ Aside0 (Below w.heap.size w w'))
 case atStart => exact ⟨(t141), (y142), (by first | rfl | (simp; done) | (simp [*]; done)), H', ⟨Nat.le_refl _⟩, ⟨kr HO144.out⟩, ⟨bl⟩⟩
 case round =>
  clear H'
  obtain ⟨x3_1, x4_1, rfl, HA, HK1, HO_4, HB⟩ := hrel
  cases gk with
  | zero => exact absurd HA.out (by simp [spec_PutNum.l0])
  | succ k1 =>
   have H := HA.out
   clear HA
   simp only [spec_PutNum.l0] at H
   revert H; refine iDb (fun c5b0 H => ?_) fun c5b0 H => ?_
   ·revert H; refine i0 fun c6 H => ?_
    have LMc6 := am c6; clear c6
    generalize h_ : ((x4_1 ++ [(IntKind.u64.wrap ((Int.tmod x3_1 128) + 128)) % 256]) : List Int) = y145 at H
    have Ny145 := am h_.symm; clear h_; try rw [Option.bind_some] at H
    have H' := am H; clear H
    go_wp2_with (first | ((with_reducible refine gate_builtin (b := .append) (xs := #[.tmp 10, .tmp 15]) rfl ?_); at_builtin; refine Kd.R_append (Kd.int .u8) (w0 := w) w.heap.size rfl (.tmp 10) (.tmp 15) 22 5 (.int .u8 0) 1 rfl Try.underlying22 info5 rfl (by decide) (by omega) u4 x4_1 ((IntKind.u64.wrap ((Int.tmod x3_1 128) + 128)) % 256) [.int .u8 ((IntKind.u64.wrap ((Int.tmod x3_1 128) + 128)) % 256)] (fun _ => True) (fun _ => False) rfl rfl ?aP (fun _ hk => hk.elim) ?aF ?aO ?aB ?aS ?aL ?_; (case aP => exact rfl); (case aB => exact bl); (case aF => exact (fun _ _ => trivial)); (case aO => exact (kr HO_4.out)); (case aS => exact (below_size bl)); (case aL => have := LMc6.out; omega); intro v146 w7 ho hb hg hat; rw [← Ny145.out] at ho; have n0_ := am (hb); have n1_ := am (ho); clear HB; clear HO_4; have HB := n0_; have HO147 := n1_; clear n0_ n1_; clear ho hb hg hat))
    go_roundg k1
    case measure => have := HK1.out; omega
    case rel => exact ⟨(IntKind.u64.wrap (Int.tdiv x3_1 128)), (y145), (by first | rfl | (simp; done) | (simp [*]; done)), H', ⟨by have := HK1.out; omega⟩, ⟨kr HO147.out⟩, ⟨bl⟩⟩
   revert H; refine i0 fun c8 H => ?_
   have LMc8 := am c8; clear c8
   generalize h_ : ((x4_1 ++ [(x3_1) % 256]) : List Int) = y148 at H
   have Ny148 := am h_.symm; clear h_; try rw [Option.bind_some] at H
   obtain rfl := Option.some.inj H
   go_wp2_with (first | ((with_reducible refine gate_builtin (b := .append) (xs := #[.tmp 19, .tmp 22]) rfl ?_); at_builtin; refine Kd.R_append (Kd.int .u8) (w0 := w) w.heap.size rfl (.tmp 19) (.tmp 22) 22 5 (.int .u8 0) 1 rfl Try.underlying22 info5 rfl (by decide) (by omega) u4 x4_1 ((x3_1) % 256) [.int .u8 ((x3_1) % 256)] (fun _ => True) (fun _ => False) rfl rfl ?aP (fun _ hk => hk.elim) ?aF ?aO ?aB ?aS ?aL ?_; (case aP => exact rfl); (case aB => exact bl); (case aF => exact (fun _ _ => trivial)); (case aO => exact (kr HO_4.out)); (case aS => exact (below_size bl)); (case aL => have := LMc8.out; omega); intro v149 w9 ho hb hg hat; rw [← Ny148.out] at ho; have n0_ := am (hb); have n1_ := am (ho); clear HB; clear HO_4; have HB := n0_; have HO150 := n1_; clear n0_ n1_; clear ho hb hg hat; have hcv10 := own_string (P := Try.prog) Try.underlying22 Try.underlying5 Try.underlying9 (Kd.own_of_R HO150.out)))
   go_ret
   exact ⟨er, bl⟩

/-! ### spec_Sum: function 14 -/
def spec_Sum.l0 : Nat → ByteArray → Int → Int → Option (Int)
 | 0, _, _, _ => none
 | k + 1, x0, x3, x4 => if x4 < (x0.size : Int) then (if 0 ≤ x4 then (spec_Sum.l0 k x0 (Int.tmod (wrap64 ((wrap64 (257 * x3)) + (wrap64 (bt x0 x4)))) 4294967291) (wrap64 (x4 + 1))) else (none)) else (some x3)
def spec_Sum.f (k : Nat) (a0 : ByteArray) : Option (Int) := if (a0.size : Int) > 20000 then (some 0) else (spec_Sum.l0 k a0 7 0)
theorem spec_Sum.mono_l : ∀ k, (∀ y0 y1 y2, LeO (spec_Sum.l0 k y0 y1 y2) (spec_Sum.l0 (k + 1) y0 y1 y2))
 | 0 => fun _ _ _ r h => by simp [spec_Sum.l0] at h
 | k + 1 => by
  have ih0 := spec_Sum.mono_l k
  ·intro y0 y1 y2
   unfold spec_Sum.l0
   exact mo
theorem spec_Sum.mono : ∀ a0 k, LeO (spec_Sum.f k a0) (spec_Sum.f (k + 1) a0) := by
 intro a0 k
 have ih0 := spec_Sum.mono_l k
 unfold spec_Sum.f
 exact mo
theorem spec_Sum.calls (k : Nat) (a0 : ByteArray) (r : Int) (w : World) (h : spec_Sum.f k a0 = some r) :
  Calls Try.prog 14 #[.string a0] w fun e w' => e = .returned (.int .i64 r) ∧ Drawn0 w w' := by
 have H := h
 clear h
 unfold spec_Sum.f at H
 revert H; refine iDn (fun c2 c2b0 H => ?_) fun c2 c2b0 H => ?_
 ·have c2b1 : decide (20000 < a0.size) = true := decide_eq_true (by omega)
  clear c2
  obtain rfl := Option.some.inj H
  go_enter Try.func14, Try.ntmps14
  go_wp2
  go_ret
  exact ⟨by first | rfl | (simp; done) | (simp [*]; done), dr⟩
 have c2b1 : decide (20000 < a0.size) = false := decide_eq_false (by omega)
 clear c2
 have H' := am H; clear H
 go_enter Try.func14, Try.ntmps14
 go_wp2
 go_loopg [3, 4] k (fun kq v3 v4 w' => ∃ (x3_1 : Int) (x4_1 : Int), v3 = .int .i64 x3_1 ∧ v4 = .int .i64 x4_1 ∧ Aside0 (spec_Sum.l0 kq a0 x3_1 x4_1 = some r) ∧ Aside0 (kq ≤ k) ∧ Drawn0 w w')
 case atStart => exact ⟨(7), (0), (by first | rfl | (simp; done) | (simp [*]; done)), (by first | rfl | (simp; done) | (simp [*]; done)), H', ⟨Nat.le_refl _⟩, dr⟩
 case round =>
  clear H'
  try clear c2; try clear c2b0; try clear c2b1
  obtain ⟨x3_1, x4_1, rfl, rfl, HA, HK1, ⟨m1, rfl⟩⟩ := hrel
  cases gk with
  | zero => exact absurd HA.out (by simp [spec_Sum.l0])
  | succ k1 =>
   have H := HA.out
   clear HA
   simp only [spec_Sum.l0] at H
   revert H; refine iDb (fun c3b0 H => ?_) fun c3b0 H => ?_
   ·revert H; refine i1 fun c4b0 H => ?_
    have H' := am H; clear H
    have p5 : 0 ≤ (x4_1 : Int) := ode
    have q5 : x4_1 < (a0.size : Int) := ode
    have hx5 := bt_at a0 x4_1
    replace p5 := eq_true p5
    replace q5 := eq_true q5
    go_wp2
    go_roundg k1
    case measure => have := HK1.out; omega
    case rel => exact ⟨(Int.tmod (wrap64 ((wrap64 (257 * x3_1)) + (wrap64 (bt a0 x4_1)))) 4294967291), (wrap64 (x4_1 + 1)), (by first | rfl | (simp; done) | (simp [*]; done)), (by first | rfl | (simp; done) | (simp [*]; done)), H', ⟨by have := HK1.out; omega⟩, dr⟩
   obtain rfl := Option.some.inj H
   go_wp2
   go_ret
   exact ⟨by first | rfl | (simp; done) | (simp [*]; done), dr⟩

/-! ### spec_RecBytes: function 5 -/
def spec_RecBytes.j0 : Nat → ByteArray → Bool → Option (ByteArray)
 | 0, _, _ => none
 | k + 1, x0, x11 => if x11 = true then (some (⟨#[]⟩ : ByteArray)) else ((spec_PutNum.f k (x0.size : Int)).bind fun t151 => (if t151.size + x0.size ≤ 9223372036854775807 then ((spec_Sum.f k (t151 ++ x0)).bind fun t152 => ((spec_PutNum.f k t152).bind fun t153 => (if t151.size + t153.size ≤ 9223372036854775807 then (if (t151 ++ t153).size + x0.size ≤ 9223372036854775807 then (some ((t151 ++ t153) ++ x0)) else (none)) else (none)))) else (none)))
def spec_RecBytes.f (k : Nat) (a0 : ByteArray) : Option (ByteArray) := if (a0.size : Int) < 1 then (spec_RecBytes.j0 k a0 true) else (spec_RecBytes.j0 k a0 (decide ((a0.size : Int) > 10000)))
theorem spec_RecBytes.mono_l : ∀ k, (∀ y0 y1, LeO (spec_RecBytes.j0 k y0 y1) (spec_RecBytes.j0 (k + 1) y0 y1))
 | 0 => fun _ _ r h => by simp [spec_RecBytes.j0] at h
 | k + 1 => by
  have ih0 := spec_RecBytes.mono_l k
  ·intro y0 y1
   unfold spec_RecBytes.j0
   repeat' (with_reducible first | exact ih0 .. | exact spec_PutNum.mono .. | exact spec_Sum.mono .. | exact LeO.refl _ | exact LeO.none _ | refine LeO.ite ?_ ?_ | refine LeO.bind ?_ (fun _ => ?_))
theorem spec_RecBytes.mono : ∀ a0 k, LeO (spec_RecBytes.f k a0) (spec_RecBytes.f (k + 1) a0) := by
 intro a0 k
 have ih0 := spec_RecBytes.mono_l k
 unfold spec_RecBytes.f
 repeat' (with_reducible first | exact ih0 .. | exact spec_PutNum.mono .. | exact spec_Sum.mono .. | exact LeO.refl _ | exact LeO.none _ | refine LeO.ite ?_ ?_ | refine LeO.bind ?_ (fun _ => ?_))
theorem spec_RecBytes.calls (k : Nat) (a0 : ByteArray) (r : ByteArray) (w : World) (h : spec_RecBytes.f k a0 = some r) :
  Calls Try.prog 5 #[.string a0] w fun e w' => e = .returned (.string r) ∧ Below w.heap.size w w' := by
 have HB := am (Below.refl w.heap.size w)
 have H := h
 clear h
 unfold spec_RecBytes.f at H
 have HC2 := am H; clear H
 go_enter Try.func5, Try.ntmps5
 go_upto_region 1 with (fail)
 go_cut [11] (fun v11 wc => ∃ (kq : Nat) (x11_1 : Bool), v11 = .bool x11_1 ∧ Aside0 (spec_RecBytes.j0 kq a0 x11_1 = some r) ∧ Aside0 (kq ≤ k) ∧ Aside0 (Below w.heap.size w wc))
 case first =>
  have H := HC2.out
  clear HC2
  revert H; refine iDn (fun c3 c3b0 H => ?_) fun c3 c3b0 H => ?_
  ·have c3b1 : decide (a0.size < 1) = true := decide_eq_true (by omega)
   clear c3
   (first | rw [c3b0] | (simp only [i64_w, i32_w]; rw [c3b0]) | skip)
   have H' := am H; clear H
   go_wp2
   go_meet
   case rel => exact ⟨_, (true), (by first | rfl | (simp; done) | (simp [*]; done)), H', ⟨by first | omega | exact Nat.le_refl _⟩, ⟨bl⟩⟩
  have c3b1 : decide (a0.size < 1) = false := decide_eq_false (by omega)
  clear c3
  (first | rw [c3b0] | (simp only [i64_w, i32_w]; rw [c3b0]) | skip)
  have H' := am H; clear H
  go_wp2
  go_meet
  case rel => exact ⟨_, (decide ((a0.size : Int) > 10000)), (by first | rfl | (simp; done) | (simp [*]; done)), H', ⟨by first | omega | exact Nat.le_refl _⟩, ⟨bl⟩⟩
 case rest =>
  clear HC2
  obtain ⟨kq, x11_1, rfl, HA, HJ1, HB⟩ := hcut
  cases kq with
  | zero => exact absurd HA.out (by simp [spec_RecBytes.j0])
  | succ kj1 =>
   have H := HA.out
   clear HA
   simp only [spec_RecBytes.j0] at H
   replace H := iT H; rcases H with ⟨rfl, H⟩ | ⟨rfl, H⟩
   ·obtain rfl := Option.some.inj H
    go_wp2
    go_ret
    exact ⟨er, bl⟩
   revert H; refine bj fun t151 A5 H => ?_
   revert H; refine i0 fun c6 H => ?_
   have c6b0 := eq_true c6
   have c6b1 := decide_eq_true c6
   try have c6b2 : (9223372036854775807 < t151.size + a0.size) = False := eq_false (Nat.not_lt.2 c6)
   revert H; refine bj fun t152 A7 H => ?_
   revert H; refine bj fun t153 A8 H => ?_
   revert H; refine i0 fun c9 H => ?_
   have c9b0 := eq_true c9
   have c9b1 := decide_eq_true c9
   try have c9b2 : (9223372036854775807 < t151.size + t153.size) = False := eq_false (Nat.not_lt.2 c9)
   revert H; refine i0 fun c10 H => ?_
   have c10b0 := eq_true c10
   have c10b1 := decide_eq_true c10
   try have c10b2 : (9223372036854775807 < (t151 ++ t153).size + a0.size) = False := eq_false (Nat.not_lt.2 c10)
   obtain rfl := Option.some.inj H
   go_wp2_with (first | ((with_reducible refine c_ 13 ?_); refine gc 13 (some 14) Try.func13 (spec_PutNum.calls _ _ _ _ A5.out) ?_; rintro e w11 ⟨rfl, hb⟩; refine ⟨_, rfl, ?_⟩; replace HB := ho hb; clear hb) | ((with_reducible refine c_ 14 ?_); refine gc 14 (some 19) Try.func14 (spec_Sum.calls _ _ _ _ A7.out) ?_; rintro e w' ⟨rfl, ⟨nd, rfl⟩⟩; refine ⟨_, rfl, ?_⟩) | ((with_reducible refine c_ 13 ?_); refine gc 13 (some 20) Try.func13 (spec_PutNum.calls _ _ _ _ A8.out) ?_; rintro e w12 ⟨rfl, hb⟩; refine ⟨_, rfl, ?_⟩; replace HB := ho hb; clear hb))
   go_ret
   exact ⟨er, bl⟩

/-! ### impl_in: function 15 -/
def impl_in.f (a0 : Int) (a1 : Int) (a2 : Int) : Option (Bool) := if a1 ≤ a0 then (some (decide (a0 ≤ a2))) else (some false)
theorem impl_in.calls (a0 : Int) (a1 : Int) (a2 : Int) (r : Bool) (w : World) (h : impl_in.f a0 a1 a2 = some r) :
  Calls Try.prog 15 #[.int .i64 a0, .int .i64 a1, .int .i64 a2] w fun e w' => e = .returned (.bool r) ∧ Drawn0 w w' := by
 have H := h
 clear h
 unfold impl_in.f at H
 revert H; refine iDb (fun c4b0 H => ?_) fun c4b0 H => ?_
 ·obtain rfl := Option.some.inj H
  go_enter Try.func15, Try.ntmps15
  go_wp2
  go_ret
  exact ⟨by first | rfl | (simp; done) | (simp [*]; done), dr⟩
 obtain rfl := Option.some.inj H
 go_enter Try.func15, Try.ntmps15
 go_wp2
 go_ret
 exact ⟨by first | rfl | (simp; done) | (simp [*]; done), dr⟩

/-! ### impl_numBytes: function 20 -/
def impl_numBytes.l0 : Nat → Int → List Int → Option (List Int)
 | 0, _, _ => none
 | k + 1, x3, x4 => if x3 > 127 then (if x4.length < 140737488355328 then (impl_numBytes.l0 k (x3 / 128) (x4 ++ [Go.bits .or .u8 ((x3) % 256) 128])) else (none)) else (if x4.length < 140737488355328 then (some (x4 ++ [(x3) % 256])) else (none))
def impl_numBytes.f (k : Nat) (a0 : Int) : Option (List Int) := impl_numBytes.l0 k (Go.bits .xor .u64 (IntKind.u64.wrap ((IntKind.u64.wrap (a0)) * 2)) (IntKind.u64.wrap (a0 / 9223372036854775808))) (([] : List Int))
theorem impl_numBytes.mono_l : ∀ k, (∀ y0 y1, LeO (impl_numBytes.l0 k y0 y1) (impl_numBytes.l0 (k + 1) y0 y1))
 | 0 => fun _ _ r h => by simp [impl_numBytes.l0] at h
 | k + 1 => by
  have ih0 := impl_numBytes.mono_l k
  ·intro y0 y1
   unfold impl_numBytes.l0
   exact mo
theorem impl_numBytes.mono : ∀ a0 k, LeO (impl_numBytes.f k a0) (impl_numBytes.f (k + 1) a0) := by
 intro a0 k
 have ih0 := impl_numBytes.mono_l k
 unfold impl_numBytes.f
 exact mo
theorem impl_numBytes.calls (k : Nat) (a0 : Int) (r : List Int) (w : World) (h : impl_numBytes.f k a0 = some r) :
  Calls Try.prog 20 #[.int .i64 a0] w fun e w' => ∃ v0_ : Value, e = .returned (v0_) ∧ Kd.R (Kd.int .u8) 5 w' w.heap.size (fun _ => True) v0_ r ∧ Below w.heap.size w w' := by
 have HB := am (Below.refl w.heap.size w)
 have H := h
 clear h
 unfold impl_numBytes.f at H
 generalize h_ : ((([] : List Int)) : List Int) = y154 at H
 have Ny154 := am h_.symm; clear h_; try rw [Option.bind_some] at H
 have H' := am H; clear H
 go_enter Try.func20, Try.ntmps20
 go_wp2_with (first | ((with_reducible refine gate_dst (N := 12) rfl ?_); refine Kd.R_lit (Kd.int .u8) _ 5 ?hg (N := 12) ?hd (xs := ([] : List Int)) (inner := []) (ok := fun _ => True) (okp := fun _ => True) ?hr ?hp (fun _ hk => hk) trivial (Below.refl _ _) (Nat.le_refl _) (by simp) ?_; (case hd => rfl); (case hg => rfl); (case hr => first | (go_simp; done) | (go_simp; rfl)); (case hp => exact (Reps.none _ _)); intro v155 w2 ho3 hb hg_ hnew_; clear hg_ hnew_; (first | rw [← Ny154.out] at ho3 | (simp only [Int.reduceToNat] at ho3; rw [← Ny154.out] at ho3)); have HO156 := am (Kd.R_lower ho3 (below_size bl)); replace HB := ho hb; clear hb ho3))
 go_loopg [3, 4] k (fun kq v3 v4 w' => ∃ (x3_1 : Int) (x4_1 : List Int), v3 = .int .u64 x3_1 ∧ Aside0 (impl_numBytes.l0 kq x3_1 x4_1 = some r) ∧ Aside0 (kq ≤ k) ∧ Aside0 (Kd.R (Kd.int .u8) 5 w' w.heap.size (fun _ => True) v4 x4_1) ∧ Aside0 (Below w.heap.size w w'))
 case atStart => exact ⟨(Go.bits .xor .u64 (IntKind.u64.wrap ((IntKind.u64.wrap (a0)) * 2)) (IntKind.u64.wrap (a0 / 9223372036854775808))), (y154), (by first | rfl | (simp; done) | (simp [*]; done)), H', ⟨Nat.le_refl _⟩, ⟨kr HO156.out⟩, ⟨bl⟩⟩
 case round =>
  clear H'
  obtain ⟨x3_1, x4_1, rfl, HA, HK1, HO_4, HB⟩ := hrel
  cases gk with
  | zero => exact absurd HA.out (by simp [impl_numBytes.l0])
  | succ k1 =>
   have H := HA.out
   clear HA
   simp only [impl_numBytes.l0] at H
   revert H; refine iDb (fun c4b0 H => ?_) fun c4b0 H => ?_
   ·revert H; refine i0 fun c5 H => ?_
    have LMc5 := am c5; clear c5
    generalize h_ : ((x4_1 ++ [Go.bits .or .u8 ((x3_1) % 256) 128]) : List Int) = y157 at H
    have Ny157 := am h_.symm; clear h_; try rw [Option.bind_some] at H
    have H' := am H; clear H
    go_wp2_with (first | ((with_reducible refine gate_builtin (b := .append) (xs := #[.tmp 15, .tmp 19]) rfl ?_); at_builtin; refine Kd.R_append (Kd.int .u8) (w0 := w) w.heap.size rfl (.tmp 15) (.tmp 19) 22 5 (.int .u8 0) 1 rfl Try.underlying22 info5 rfl (by decide) (by omega) u4 x4_1 (Go.bits .or .u8 ((x3_1) % 256) 128) [.int .u8 (Go.bits .or .u8 ((x3_1) % 256) 128)] (fun _ => True) (fun _ => False) rfl rfl ?aP (fun _ hk => hk.elim) ?aF ?aO ?aB ?aS ?aL ?_; (case aP => exact rfl); (case aB => exact bl); (case aF => exact (fun _ _ => trivial)); (case aO => exact (kr HO_4.out)); (case aS => exact (below_size bl)); (case aL => have := LMc5.out; omega); intro v158 w6 ho hb hg hat; rw [← Ny157.out] at ho; have n0_ := am (hb); have n1_ := am (ho); clear HB; clear HO_4; have HB := n0_; have HO159 := n1_; clear n0_ n1_; clear ho hb hg hat))
    go_roundg k1
    case measure => have := HK1.out; omega
    case rel => exact ⟨(x3_1 / 128), (y157), (by first | rfl | (simp; done) | (simp [*]; done)), H', ⟨by have := HK1.out; omega⟩, ⟨kr HO159.out⟩, ⟨bl⟩⟩
   revert H; refine i0 fun c7 H => ?_
   have LMc7 := am c7; clear c7
   generalize h_ : ((x4_1 ++ [(x3_1) % 256]) : List Int) = y160 at H
   have Ny160 := am h_.symm; clear h_; try rw [Option.bind_some] at H
   obtain rfl := Option.some.inj H
   go_wp2_with (first | ((with_reducible refine gate_builtin (b := .append) (xs := #[.tmp 23, .tmp 26]) rfl ?_); at_builtin; refine Kd.R_append (Kd.int .u8) (w0 := w) w.heap.size rfl (.tmp 23) (.tmp 26) 22 5 (.int .u8 0) 1 rfl Try.underlying22 info5 rfl (by decide) (by omega) u4 x4_1 ((x3_1) % 256) [.int .u8 ((x3_1) % 256)] (fun _ => True) (fun _ => False) rfl rfl ?aP (fun _ hk => hk.elim) ?aF ?aO ?aB ?aS ?aL ?_; (case aP => exact rfl); (case aB => exact bl); (case aF => exact (fun _ _ => trivial)); (case aO => exact (kr HO_4.out)); (case aS => exact (below_size bl)); (case aL => have := LMc7.out; omega); intro v161 w8 ho hb hg hat; rw [← Ny160.out] at ho; have n0_ := am (hb); have n1_ := am (ho); clear HB; clear HO_4; have HB := n0_; have HO162 := n1_; clear n0_ n1_; clear ho hb hg hat))
   go_ret
   exact ⟨_, er, kr HO162.out, bl⟩

/-! ### impl_PutNum: function 16 -/
def impl_PutNum.f (k : Nat) (a0 : Int) : Option (ByteArray) := (impl_numBytes.f k a0).bind fun t163 => (some (strOfNums t163))
theorem impl_PutNum.mono : ∀ a0 k, LeO (impl_PutNum.f k a0) (impl_PutNum.f (k + 1) a0) := by
 intro a0 k
 unfold impl_PutNum.f
 repeat' (with_reducible first | exact impl_numBytes.mono .. | exact LeO.refl _ | exact LeO.none _ | refine LeO.ite ?_ ?_ | refine LeO.bind ?_ (fun _ => ?_))
theorem impl_PutNum.calls (k : Nat) (a0 : Int) (r : ByteArray) (w : World) (h : impl_PutNum.f k a0 = some r) :
  Calls Try.prog 16 #[.int .i64 a0] w fun e w' => e = .returned (.string r) ∧ Below w.heap.size w w' := by
 have HB := am (Below.refl w.heap.size w)
 have H := h
 clear h
 unfold impl_PutNum.f at H
 revert H; refine bj fun t163 A2 H => ?_
 obtain rfl := Option.some.inj H
 go_enter Try.func16, Try.ntmps16
 go_wp2_with (first | ((with_reducible refine c_ 20 ?_); refine gc 20 (some 4) Try.func20 (impl_numBytes.calls _ _ _ _ A2.out) ?_; rintro e w3 ⟨v164, rfl, ho0, hb⟩; refine ⟨_, rfl, ?_⟩; have HO165 := am (Kd.R_lower ho0 (below_size bl)); replace HB := ho hb; clear hb ho0; have hcv4 := own_string (P := Try.prog) Try.underlying22 Try.underlying5 Try.underlying9 (Kd.own_of_R HO165.out)))
 go_ret
 exact ⟨er, bl⟩

/-! ### impl_sum: function 17 -/
def impl_sum.l0 : Nat → ByteArray → Int → Int → Int → Option (Int)
 | 0, _, _, _, _ => none
 | k + 1, x0, x3, x6, x7 => if x7 < x6 then (if 0 ≤ x7 then (if x7 < (x0.size : Int) then (impl_sum.l0 k x0 (Int.tmod (wrap64 ((wrap64 (257 * x3)) + (wrap64 (bt x0 x7)))) 4294967291) x6 (wrap64 (x7 + 1))) else (none)) else (none)) else (some x3)
def impl_sum.f (k : Nat) (a0 : ByteArray) : Option (Int) := impl_sum.l0 k a0 7 (a0.size : Int) 0
theorem impl_sum.mono_l : ∀ k, (∀ y0 y1 y2 y3, LeO (impl_sum.l0 k y0 y1 y2 y3) (impl_sum.l0 (k + 1) y0 y1 y2 y3))
 | 0 => fun _ _ _ _ r h => by simp [impl_sum.l0] at h
 | k + 1 => by
  have ih0 := impl_sum.mono_l k
  ·intro y0 y1 y2 y3
   unfold impl_sum.l0
   exact mo
theorem impl_sum.mono : ∀ a0 k, LeO (impl_sum.f k a0) (impl_sum.f (k + 1) a0) := by
 intro a0 k
 have ih0 := impl_sum.mono_l k
 unfold impl_sum.f
 exact mo
theorem impl_sum.calls (k : Nat) (a0 : ByteArray) (r : Int) (w : World) (h : impl_sum.f k a0 = some r) :
  Calls Try.prog 17 #[.string a0] w fun e w' => e = .returned (.int .i64 r) ∧ Drawn0 w w' := by
 have H := h
 clear h
 unfold impl_sum.f at H
 have H' := am H; clear H
 go_enter Try.func17, Try.ntmps17
 go_wp2
 go_loopg [3, 7] k (fun kq v3 v7 w' => ∃ (x3_1 : Int) (x7_1 : Int), v3 = .int .i64 x3_1 ∧ v7 = .int .i64 x7_1 ∧ Aside0 (impl_sum.l0 kq a0 x3_1 (a0.size : Int) x7_1 = some r) ∧ Aside0 (kq ≤ k) ∧ Drawn0 w w')
 case atStart => exact ⟨(7), (0), (by first | rfl | (simp; done) | (simp [*]; done)), (by first | rfl | (simp; done) | (simp [*]; done)), H', ⟨Nat.le_refl _⟩, dr⟩
 case round =>
  clear H'
  obtain ⟨x3_1, x7_1, rfl, rfl, HA, HK1, ⟨m1, rfl⟩⟩ := hrel
  cases gk with
  | zero => exact absurd HA.out (by simp [impl_sum.l0])
  | succ k1 =>
   have H := HA.out
   clear HA
   simp only [impl_sum.l0] at H
   revert H; refine iDb (fun c2b0 H => ?_) fun c2b0 H => ?_
   ·revert H; refine i1 fun c3b0 H => ?_
    revert H; refine i1 fun c4b0 H => ?_
    have H' := am H; clear H
    have p5 : 0 ≤ (x7_1 : Int) := ode
    have q5 : x7_1 < (a0.size : Int) := ode
    have hx5 := bt_at a0 x7_1
    replace p5 := eq_true p5
    replace q5 := eq_true q5
    go_wp2
    go_roundg k1
    case measure => have := HK1.out; omega
    case rel => exact ⟨(Int.tmod (wrap64 ((wrap64 (257 * x3_1)) + (wrap64 (bt a0 x7_1)))) 4294967291), (wrap64 (x7_1 + 1)), (by first | rfl | (simp; done) | (simp [*]; done)), (by first | rfl | (simp; done) | (simp [*]; done)), H', ⟨by have := HK1.out; omega⟩, dr⟩
   obtain rfl := Option.some.inj H
   go_wp2
   go_ret
   exact ⟨by first | rfl | (simp; done) | (simp [*]; done), dr⟩

/-! ### impl_RecBytes: function 6 -/
def impl_RecBytes.f (k : Nat) (a0 : ByteArray) : Option (ByteArray) := (impl_in.f (a0.size : Int) 1 10000).bind fun t166 => (if t166 = true then ((impl_PutNum.f k (a0.size : Int)).bind fun t167 => (if t167.size + a0.size ≤ 9223372036854775807 then ((impl_sum.f k (t167 ++ a0)).bind fun t168 => ((impl_PutNum.f k t168).bind fun t169 => (if t167.size + t169.size ≤ 9223372036854775807 then (if (t167 ++ t169).size + a0.size ≤ 9223372036854775807 then (some ((t167 ++ t169) ++ a0)) else (none)) else (none)))) else (none))) else (some (⟨#[]⟩ : ByteArray)))
theorem impl_RecBytes.mono : ∀ a0 k, LeO (impl_RecBytes.f k a0) (impl_RecBytes.f (k + 1) a0) := by
 intro a0 k
 unfold impl_RecBytes.f
 repeat' (with_reducible first | exact impl_PutNum.mono .. | exact impl_sum.mono .. | exact LeO.refl _ | exact LeO.none _ | refine LeO.ite ?_ ?_ | refine LeO.bind ?_ (fun _ => ?_))
theorem impl_RecBytes.calls (k : Nat) (a0 : ByteArray) (r : ByteArray) (w : World) (h : impl_RecBytes.f k a0 = some r) :
  Calls Try.prog 6 #[.string a0] w fun e w' => e = .returned (.string r) ∧ Below w.heap.size w w' := by
 have HB := am (Below.refl w.heap.size w)
 have H := h
 clear h
 unfold impl_RecBytes.f at H
 revert H; refine bj fun t166 A2 H => ?_
 replace H := iT H; rcases H with ⟨rfl, H⟩ | ⟨rfl, H⟩
 ·revert H; refine bj fun t167 A4 H => ?_
  revert H; refine i0 fun c5 H => ?_
  have c5b0 := eq_true c5
  have c5b1 := decide_eq_true c5
  try have c5b2 : (9223372036854775807 < t167.size + a0.size) = False := eq_false (Nat.not_lt.2 c5)
  revert H; refine bj fun t168 A6 H => ?_
  revert H; refine bj fun t169 A7 H => ?_
  revert H; refine i0 fun c8 H => ?_
  have c8b0 := eq_true c8
  have c8b1 := decide_eq_true c8
  try have c8b2 : (9223372036854775807 < t167.size + t169.size) = False := eq_false (Nat.not_lt.2 c8)
  revert H; refine i0 fun c9 H => ?_
  have c9b0 := eq_true c9
  have c9b1 := decide_eq_true c9
  try have c9b2 : (9223372036854775807 < (t167 ++ t169).size + a0.size) = False := eq_false (Nat.not_lt.2 c9)
  obtain rfl := Option.some.inj H
  go_enter Try.func6, Try.ntmps6
  go_wp2_with (first | ((with_reducible refine c_ 15 ?_); refine gc 15 (some 6) Try.func15 (impl_in.calls _ _ _ _ _ A2.out) ?_; rintro e w' ⟨rfl, ⟨nd, rfl⟩⟩; refine ⟨_, rfl, ?_⟩) | ((with_reducible refine c_ 16 ?_); refine gc 16 (some 10) Try.func16 (impl_PutNum.calls _ _ _ _ A4.out) ?_; rintro e w10 ⟨rfl, hb⟩; refine ⟨_, rfl, ?_⟩; replace HB := ho hb; clear hb) | ((with_reducible refine c_ 17 ?_); refine gc 17 (some 15) Try.func17 (impl_sum.calls _ _ _ _ A6.out) ?_; rintro e w' ⟨rfl, ⟨nd, rfl⟩⟩; refine ⟨_, rfl, ?_⟩) | ((with_reducible refine c_ 16 ?_); refine gc 16 (some 16) Try.func16 (impl_PutNum.calls _ _ _ _ A7.out) ?_; rintro e w11 ⟨rfl, hb⟩; refine ⟨_, rfl, ?_⟩; replace HB := ho hb; clear hb))
  go_ret
  exact ⟨er, bl⟩
 obtain rfl := Option.some.inj H
 go_enter Try.func6, Try.ntmps6
 go_wp2_with (first | ((with_reducible refine c_ 15 ?_); refine gc 15 (some 6) Try.func15 (impl_in.calls _ _ _ _ _ A2.out) ?_; rintro e w' ⟨rfl, ⟨nd, rfl⟩⟩; refine ⟨_, rfl, ?_⟩))
 go_ret
 exact ⟨er, bl⟩

end Go.Proofs.Ytppeloepaihckaa.PFnRecs
