-- laid by seedprint.py, a program of this session, over contracts that it gives by hand; Lean checks it
-- dented
import Derived.Test.YtodokfmmnihecaaGreatDoorQMin
import Derived.Test.YtodokfmmnihecaaGreatDoorQAut
import Derived.Test.YtodokfmmnihecaaGreatDoorPFnExactProductRightx0
import Derived.Test.YtodokfmmnihecaaGreatDoorPFnExactProductRightx7
namespace Go.Proofs.YtodokfmmnihecaaGreatDoor.PFnExactProductRight
open Go.RowKit Go.Proofs.YtodokfmmnihecaaGreatDoorW.PrintWords Go.Proofs.YtodokfmmnihecaaGreatDoorW.PrintLast Go.Proofs.YtodokfmmnihecaaGreatDoorW.PrintMore
attribute [local go_sem] max2_int min2_int max_two min_two max_three min_three max_four min_four   -- for this text's walks alone
set_option maxHeartbeats 8000000
set_option maxRecDepth 100000
set_option linter.unusedVariables false
set_option linter.unusedSimpArgs false

/-! ### slices_Concat_string_string: function 67 -/
mutual
def slices_Concat_string_string.l0 : Nat → List (List ByteArray) → Int → List (List ByteArray) → Int → Int → Option (List ByteArray)
 | 0, _, _, _, _, _ => none
 | k + 1, x0, x3, x9, x10, x11 => if x11 < x10 then (if 0 ≤ x11 then (if x11 < (x9.length : Int) then (if (wrap64 (x3 + ((rd_L6 x9 x11).length : Int))) < 0 then (none) else (slices_Concat_string_string.l0 k x0 (wrap64 (x3 + ((rd_L6 x9 x11).length : Int))) x9 x10 (wrap64 (x11 + 1)))) else (none)) else (none)) else ((slices_Grow_string_string.f ([] : List ByteArray) x3).bind fun t237 => (slices_Concat_string_string.l1 k t237 x0 (x0.length : Int) 0))
def slices_Concat_string_string.l1 : Nat → List ByteArray → List (List ByteArray) → Int → Int → Option (List ByteArray)
 | 0, _, _, _, _ => none
 | k + 1, x6, x25, x26, x27 => if x27 < x26 then (if 0 ≤ x27 then (if x27 < (x25.length : Int) then (if x6.length + (rd_L6 x25 x27).length < 8796093022208 then (slices_Concat_string_string.l1 k (x6 ++ (rd_L6 x25 x27)) x25 x26 (wrap64 (x27 + 1))) else (none)) else (none)) else (none)) else (some x6)
end
def slices_Concat_string_string.f (k : Nat) (l0 : List (List ByteArray)) : Option (List ByteArray) := slices_Concat_string_string.l0 k l0 0 l0 (l0.length : Int) 0
theorem slices_Concat_string_string.mono_l : ∀ k, (∀ y0 y1 y2 y3 y4, LeO (slices_Concat_string_string.l0 k y0 y1 y2 y3 y4) (slices_Concat_string_string.l0 (k + 1) y0 y1 y2 y3 y4)) ∧ (∀ y0 y1 y2 y3, LeO (slices_Concat_string_string.l1 k y0 y1 y2 y3) (slices_Concat_string_string.l1 (k + 1) y0 y1 y2 y3))
 | 0 => ⟨fun _ _ _ _ _ r h => by simp [slices_Concat_string_string.l0] at h, fun _ _ _ _ r h => by simp [slices_Concat_string_string.l1] at h⟩
 | k + 1 => by
  obtain ⟨ih0, ih1⟩ := slices_Concat_string_string.mono_l k
  refine ⟨?_, ?_⟩
  ·intro y0 y1 y2 y3 y4
   unfold slices_Concat_string_string.l0
   repeat' (with_reducible first | exact ih0 .. | exact ih1 .. | exact LeO.refl _ | exact LeO.none _ | refine LeO.ite ?_ ?_ | refine LeO.bind ?_ (fun _ => ?_))
  intro y0 y1 y2 y3
  unfold slices_Concat_string_string.l1
  repeat' (with_reducible first | exact ih0 .. | exact ih1 .. | exact LeO.refl _ | exact LeO.none _ | refine LeO.ite ?_ ?_ | refine LeO.bind ?_ (fun _ => ?_))
theorem slices_Concat_string_string.mono : ∀ a0 k, LeO (slices_Concat_string_string.f k a0) (slices_Concat_string_string.f (k + 1) a0) := by
 intro a0 k
 obtain ⟨ih0, ih1⟩ := slices_Concat_string_string.mono_l k
 unfold slices_Concat_string_string.f
 repeat' (with_reducible first | exact ih0 .. | exact ih1 .. | exact LeO.refl _ | exact LeO.none _ | refine LeO.ite ?_ ?_ | refine LeO.bind ?_ (fun _ => ?_))
theorem slices_Concat_string_string.calls (k : Nat) (A0 : Option Addr) (c0 : Nat) (l0 : List (List ByteArray)) (r : List ByteArray) (w : World) (hr0 : Kd.C (Kd.slice 9 Kd.string) w A0 l0.length l0) (hc0 : l0.length ≤ c0) (h : slices_Concat_string_string.f k l0 = some r) :
  Calls Tryz.prog 67 #[.slice A0 l0.length c0] w fun e w' => ∃ v0_ : Value, e = .returned (v0_) ∧ Kd.R Kd.string 9 w' w.heap.size (fun _ => True) v0_ r ∧ Below w.heap.size w w' := by
 have HR0 := am hr0
 have HC0 := am hc0
 clear hr0 hc0
 have HB := am (Below.refl w.heap.size w)
 have H := h
 clear h
 unfold slices_Concat_string_string.f at H
 have H' := am H; clear H
 go_enter Tryz.func67, Tryz.ntmps67
 go_wp2
 go_loopg [3, 11] k (fun kq v3 v11 w' => ∃ (x3_1 : Int) (x11_1 : Int), v3 = .int .i64 x3_1 ∧ v11 = .int .i64 x11_1 ∧ Aside0 (slices_Concat_string_string.l0 kq l0 x3_1 l0 (l0.length : Int) x11_1 = some r) ∧ Aside0 (kq ≤ k) ∧ Aside0 (Below w.heap.size w w'))
 case atStart => exact ⟨(0), (0), rs, rs, H', ⟨Nat.le_refl _⟩, ⟨bl⟩⟩
 case round =>
  clear H'
  obtain ⟨x3_1, x11_1, rfl, rfl, HA, HK1, HB⟩ := hrel
  cases gk with
  | zero => exact absurd HA.out (by simp [slices_Concat_string_string.l0])
  | succ k1 =>
   have H := HA.out
   clear HA
   simp only [slices_Concat_string_string.l0] at H
   revert H; refine iDb (fun c2b0 H => ?_) fun c2b0 H => ?_
   ·revert H; refine i1 fun c3b0 H => ?_
    revert H; refine i1 fun c4b0 H => ?_
    revert H; refine i9 fun c5 H => ?_
    have c5b0 := decide_eq_false c5
    clear c5
    have H' := am H; clear H
    have p236 : 0 ≤ (x11_1 : Int) := ode
    have q236 : x11_1 < (l0.length : Int) := ode
    obtain ⟨ad236, A236_0, c236_0, e236, hx236_0, hl236_0, hi236_0⟩ := at_L6 HR0.out x11_1 p236 q236
    cases e236
    replace hx236_0 := hbc HB.out hx236_0
    have HR236_0 := am hi236_0
    have HC236_0 := am hl236_0
    clear hi236_0 hl236_0
    replace p236 := eq_true p236
    replace q236 := eq_true q236
    go_wp2
    go_roundg k1
    case measure => have := HK1.out; omega
    case rel => exact ⟨(wrap64 (x3_1 + ((rd_L6 l0 x11_1).length : Int))), (wrap64 (x11_1 + 1)), rs, rs, H', ⟨by have := HK1.out; omega⟩, ⟨bl⟩⟩
   revert H; refine bj fun t237 A6 H => ?_
   have H' := am H; clear H
   go_wp2_with (first | ((with_reducible refine gate_callee (f := 132) rfl ?_); refine goesL_ (some 24) rfl rfl Tryz.func132 (by kernel_rfl) rfl #[.slice none 0 0, .int .i64 x3_1] rfl ar ?_; (refine (slices_Grow_string_string.calls _ _ ([] : List ByteArray) x3_1 t237 _ ?side1 ?side2 A6.out).mono ?_); (case side1 => exact Kd.C_nil _ _); (case side2 => exact ⟨rfl, rfl⟩); rintro e w7 ⟨v238, rfl, ho0, hb⟩; refine ⟨_, rfl, ?_⟩; have HO239 := am (Kd.R_lower ho0 (below_size bl)); replace HB := am (below_step bl hb); clear hb ho0))
   go_loopg [6, 27] k1 (fun kq v6 v27 w' => ∃ (x6_2 : List ByteArray) (x27_2 : Int), v27 = .int .i64 x27_2 ∧ Aside0 (slices_Concat_string_string.l1 kq x6_2 l0 (l0.length : Int) x27_2 = some r) ∧ Aside0 (kq ≤ k1) ∧ Aside0 (Kd.R Kd.string 9 w' w.heap.size (fun _ => True) v6 x6_2) ∧ Aside0 (Below w.heap.size w w'))
   case atStart => exact ⟨(t237), (0), rs, H', ⟨Nat.le_refl _⟩, ⟨kr HO239.out⟩, ⟨bl⟩⟩
   case round =>
    clear H'
    try clear c2b0
    obtain ⟨x6_2, x27_2, rfl, HA, HK2, HO_6, HB⟩ := hrel
    cases gk with
    | zero => exact absurd HA.out (by simp [slices_Concat_string_string.l1])
    | succ k2 =>
     have H := HA.out
     clear HA
     simp only [slices_Concat_string_string.l1] at H
     revert H; refine iDb (fun c8b0 H => ?_) fun c8b0 H => ?_
     ·revert H; refine i1 fun c9b0 H => ?_
      revert H; refine i1 fun c10b0 H => ?_
      revert H; refine i0 fun c11 H => ?_
      have LMc11 := am c11; clear c11
      generalize h_ : (x6_2 ++ (rd_L6 l0 x27_2)) = y241 at H
      have Ny241 := am h_.symm; clear h_
      have H' := am H; clear H
      have p240 : 0 ≤ (x27_2 : Int) := ode
      have q240 : x27_2 < (l0.length : Int) := ode
      obtain ⟨ad240, A240_0, c240_0, e240, hx240_0, hl240_0, hi240_0⟩ := at_L6 HR0.out x27_2 p240 q240
      cases e240
      replace hx240_0 := hbc HB.out hx240_0
      have HR240_0 := am hi240_0
      have HC240_0 := am hl240_0
      clear hi240_0 hl240_0
      replace p240 := eq_true p240
      replace q240 := eq_true q240
      go_wp2_with (first | ((with_reducible refine gate_builtin (b := .append) (xs := #[.tmp 31, .tmp 32]) rfl ?_); at_builtin; refine Kd.R_append_rows Kd.string (w0 := w) w.heap.size rfl (.tmp 31) (.tmp 32) 22 9 (.string ⟨#[]⟩) 16 rfl Tryz.underlying22 info9 rfl (by decide) (by omega) u6 x6_2 (rd_L6 l0 x27_2) _ _ _ (fun _ => True) (fun _ => False) rfl rfl ?aO ?aR (fun _ _ h => h) (fun _ h => h.elim) ?aF ?aB ?aS ?aL ?_; (case aR => repeat (first | exact (Kd.C_below HR240_0.out HB.out) | (with_reducible refine Kd.C_alloc ?_ _) | (with_reducible refine Kd.C_drewN ?_ _) | (with_reducible refine Kd.C_drew ?_))); (case aB => exact bl); (case aF => exact (fun _ _ => trivial)); (case aO => exact (kr HO_6.out)); (case aS => exact (below_size bl)); (case aL => have := LMc11.out; omega); intro v242 w12 ho hb hg hat; rw [← Ny241.out] at ho; have n0_ := am (hb); have n1_ := am (ho); clear HB; clear HO_6; have HB := n0_; have HO243 := n1_; clear n0_ n1_; clear ho hb hg hat))
      go_roundg k2
      case measure => have := HK1.out; have := HK2.out; omega
      case rel => exact ⟨(y241), (wrap64 (x27_2 + 1)), rs, H', ⟨by have := HK1.out; have := HK2.out; omega⟩, ⟨kr HO243.out⟩, ⟨bl⟩⟩
     obtain rfl := Option.some.inj H
     go_wp2
     go_ret
     exact ⟨_, er, kr HO_6.out, bl⟩

/-! ### impl_MoneyRight: function 133 -/
def impl_MoneyRight.f (a0 : Int) : Option (Bool) := (impl_in.f a0 (-1000000000000) 1000000000000).bind fun t244 => (some t244)
theorem impl_MoneyRight.calls (a0 : Int) (r : Bool) (w : World) (h : impl_MoneyRight.f a0 = some r) :
  Calls Tryz.prog 133 #[.int .i64 a0] w fun e w' => e = .returned (.bool r) ∧ Drawn0 w w' := by
 have H := h
 clear h
 unfold impl_MoneyRight.f at H
 revert H; refine bj fun t244 A2 H => ?_
 obtain rfl := Option.some.inj H
 go_enter Tryz.func133, Tryz.ntmps133
 go_wp2_with (first | (refine gc 66 (some 4) Tryz.func66 (impl_in.calls _ _ _ _ _ A2.out) ?_; rintro e w' ⟨rfl, ⟨nd, rfl⟩⟩; refine ⟨_, rfl, ?_⟩))
 go_ret
 exact ⟨by first | rfl | (simp; done) | (simp [*]; done) | (simp [isE_bne]; done), by repeat (first | exact Drawn0.refl _ | apply Drawn0.step)⟩

/-! ### impl_isRate: function 134 -/
def impl_isRate.f (a0 : Int) : Option (Bool) := (impl_in.f a0 0 1000000).bind fun t245 => (some t245)
theorem impl_isRate.calls (a0 : Int) (r : Bool) (w : World) (h : impl_isRate.f a0 = some r) :
  Calls Tryz.prog 134 #[.int .i64 a0] w fun e w' => e = .returned (.bool r) ∧ Drawn0 w w' := by
 have H := h
 clear h
 unfold impl_isRate.f at H
 revert H; refine bj fun t245 A2 H => ?_
 obtain rfl := Option.some.inj H
 go_enter Tryz.func134, Tryz.ntmps134
 go_wp2_with (first | (refine gc 66 (some 4) Tryz.func66 (impl_in.calls _ _ _ _ _ A2.out) ?_; rintro e w' ⟨rfl, ⟨nd, rfl⟩⟩; refine ⟨_, rfl, ?_⟩))
 go_ret
 exact ⟨by first | rfl | (simp; done) | (simp [*]; done) | (simp [isE_bne]; done), by repeat (first | exact Drawn0.refl _ | apply Drawn0.step)⟩

/-! ### impl_isDay: function 135 -/
def impl_isDay.f (a0 : Int) : Option (Bool) := (impl_in.f a0 0 36524).bind fun t246 => (some t246)
theorem impl_isDay.calls (a0 : Int) (r : Bool) (w : World) (h : impl_isDay.f a0 = some r) :
  Calls Tryz.prog 135 #[.int .i64 a0] w fun e w' => e = .returned (.bool r) ∧ Drawn0 w w' := by
 have H := h
 clear h
 unfold impl_isDay.f at H
 revert H; refine bj fun t246 A2 H => ?_
 obtain rfl := Option.some.inj H
 go_enter Tryz.func135, Tryz.ntmps135
 go_wp2_with (first | (refine gc 66 (some 4) Tryz.func66 (impl_in.calls _ _ _ _ _ A2.out) ?_; rintro e w' ⟨rfl, ⟨nd, rfl⟩⟩; refine ⟨_, rfl, ?_⟩))
 go_ret
 exact ⟨by first | rfl | (simp; done) | (simp [*]; done) | (simp [isE_bne]; done), by repeat (first | exact Drawn0.refl _ | apply Drawn0.step)⟩

/-! ### impl_inType: function 68 -/
def impl_inType.j0 : Nat → Int → Int → Int → Bool → Option (Bool)
 | 0, _, _, _, _ => none
 | k + 1, x0, x1, x5, x6 => if x6 = true then ((impl_MoneyRight.f x1).bind fun t247 => (some t247)) else (if x5 = 3 then ((impl_isRate.f x1).bind fun t248 => (some t248)) else (if x5 = 4 then ((impl_isDay.f x1).bind fun t249 => (some t249)) else (if x0 = 5 then ((impl_in.f x1 0 1).bind fun t250 => (some t250)) else (some false))))
def impl_inType.f (k : Nat) (a0 : Int) (a1 : Int) : Option (Bool) := if a0 = 1 then (impl_inType.j0 k a0 a1 a0 (a0 == 1)) else (impl_inType.j0 k a0 a1 a0 (a0 == 2))
theorem impl_inType.mono_l : ∀ k, (∀ y0 y1 y2 y3, LeO (impl_inType.j0 k y0 y1 y2 y3) (impl_inType.j0 (k + 1) y0 y1 y2 y3))
 | 0 => fun _ _ _ _ r h => by simp [impl_inType.j0] at h
 | k + 1 => by
  have ih0 := impl_inType.mono_l k
  ·intro y0 y1 y2 y3
   unfold impl_inType.j0
   exact mo
theorem impl_inType.mono : ∀ a0 a1 k, LeO (impl_inType.f k a0 a1) (impl_inType.f (k + 1) a0 a1) := by
 intro a0 a1 k
 have ih0 := impl_inType.mono_l k
 unfold impl_inType.f
 exact mo
theorem impl_inType.calls (k : Nat) (a0 : Int) (a1 : Int) (r : Bool) (w : World) (h : impl_inType.f k a0 a1 = some r) :
  Calls Tryz.prog 68 #[.int .i64 a0, .int .i64 a1] w fun e w' => e = .returned (.bool r) ∧ Drawn0 w w' := by
 have H := h
 clear h
 unfold impl_inType.f at H
 have HC3 := am H; clear H
 go_enter Tryz.func68, Tryz.ntmps68
 go_upto_if 6 with (fail)
 go_cut [6] (fun v6 wc => ∃ (kq : Nat) (x6_2 : Bool), v6 = .bool x6_2 ∧ Aside0 (impl_inType.j0 kq a0 a1 a0 x6_2 = some r) ∧ Aside0 (kq ≤ k) ∧ Drawn0 w wc)
 case first =>
  have H := HC3.out
  clear HC3
  revert H; refine iQ (fun c4b0 c4b1 H => ?_) fun c4 c4b0 c4b1 H => ?_
  ·(first | rw [c4b0] | (simp only [i64_w, i32_w]; rw [c4b0]) | skip)
   have H' := am H; clear H
   go_wp2
   go_meet
   case rel => exact ⟨_, ((a0 == 1)), rs, H', ⟨by first | omega | exact Nat.le_refl _⟩, by repeat (first | exact Drawn0.refl _ | apply Drawn0.step)⟩
  (first | rw [c4b0] | (simp only [i64_w, i32_w]; rw [c4b0]) | skip)
  have H' := am H; clear H
  go_wp2
  go_meet
  case rel => exact ⟨_, ((a0 == 2)), rs, H', ⟨by first | omega | exact Nat.le_refl _⟩, by repeat (first | exact Drawn0.refl _ | apply Drawn0.step)⟩
 case rest =>
  clear HC3
  obtain ⟨kq, x6_2, rfl, HA, HJ2, ⟨mc2, rfl⟩⟩ := hcut
  cases kq with
  | zero => exact absurd HA.out (by simp [impl_inType.j0])
  | succ kj2 =>
   have H := HA.out
   clear HA
   simp only [impl_inType.j0] at H
   replace H := iT H; rcases H with ⟨rfl, H⟩ | ⟨rfl, H⟩
   ·revert H; refine bj fun t247 A6 H => ?_
    obtain rfl := Option.some.inj H
    go_wp2_with (first | (refine gc 133 (some 10) Tryz.func133 (impl_MoneyRight.calls _ _ _ A6.out) ?_; rintro e w' ⟨rfl, ⟨nd, rfl⟩⟩; refine ⟨_, rfl, ?_⟩))
    go_ret
    exact ⟨by first | rfl | (simp; done) | (simp [*]; done) | (simp [isE_bne]; done), by repeat (first | exact Drawn0.refl _ | apply Drawn0.step)⟩
   revert H; refine iQ (fun c7b0 c7b1 H => ?_) fun c7 c7b0 c7b1 H => ?_
   ·revert H; refine bj fun t248 A8 H => ?_
    obtain rfl := Option.some.inj H
    go_wp2_with (first | (refine gc 134 (some 14) Tryz.func134 (impl_isRate.calls _ _ _ A8.out) ?_; rintro e w' ⟨rfl, ⟨nd, rfl⟩⟩; refine ⟨_, rfl, ?_⟩))
    go_ret
    exact ⟨by first | rfl | (simp; done) | (simp [*]; done) | (simp [isE_bne]; done), by repeat (first | exact Drawn0.refl _ | apply Drawn0.step)⟩
   revert H; refine iQ (fun c9b0 c9b1 H => ?_) fun c9 c9b0 c9b1 H => ?_
   ·revert H; refine bj fun t249 A10 H => ?_
    obtain rfl := Option.some.inj H
    go_wp2_with (first | (refine gc 135 (some 18) Tryz.func135 (impl_isDay.calls _ _ _ A10.out) ?_; rintro e w' ⟨rfl, ⟨nd, rfl⟩⟩; refine ⟨_, rfl, ?_⟩))
    go_ret
    exact ⟨by first | rfl | (simp; done) | (simp [*]; done) | (simp [isE_bne]; done), by repeat (first | exact Drawn0.refl _ | apply Drawn0.step)⟩
   revert H; refine iQ (fun c11b0 c11b1 H => ?_) fun c11 c11b0 c11b1 H => ?_
   ·revert H; refine bj fun t250 A12 H => ?_
    obtain rfl := Option.some.inj H
    go_wp2_with (first | (go_at_call 66; (with_reducible refine (impl_in.calls _ _ _ _ _ A12.out).mono ?_); rintro e w' ⟨rfl, ⟨nd, rfl⟩⟩))
    go_ret
    exact ⟨by first | rfl | (simp; done) | (simp [*]; done) | (simp [isE_bne]; done), by repeat (first | exact Drawn0.refl _ | apply Drawn0.step)⟩
   obtain rfl := Option.some.inj H
   go_wp2
   go_ret
   exact ⟨by first | rfl | (simp; done) | (simp [*]; done) | (simp [isE_bne]; done), by repeat (first | exact Drawn0.refl _ | apply Drawn0.step)⟩

/-! ### slices_Index_string_string: function 136 -/
def slices_Index_string_string.l0 : Nat → List ByteArray → ByteArray → Int → Int → Option (Int)
 | 0, _, _, _, _ => none
 | k + 1, x0, x1, x7, x8 => if x8 < x7 then (if 0 ≤ x8 then (if x8 < (x0.length : Int) then (if x1.toList = (rdOf ByteArray.empty x0 x8).toList then (some x8) else (slices_Index_string_string.l0 k x0 x1 x7 (wrap64 (x8 + 1)))) else (none)) else (none)) else (some (-1))
def slices_Index_string_string.f (k : Nat) (l0 : List ByteArray) (a1 : ByteArray) : Option (Int) := slices_Index_string_string.l0 k l0 a1 (l0.length : Int) 0
theorem slices_Index_string_string.mono_l : ∀ k, (∀ y0 y1 y2 y3, LeO (slices_Index_string_string.l0 k y0 y1 y2 y3) (slices_Index_string_string.l0 (k + 1) y0 y1 y2 y3))
 | 0 => fun _ _ _ _ r h => by simp [slices_Index_string_string.l0] at h
 | k + 1 => by
  have ih0 := slices_Index_string_string.mono_l k
  ·intro y0 y1 y2 y3
   unfold slices_Index_string_string.l0
   exact mo
theorem slices_Index_string_string.mono : ∀ a0 a1 k, LeO (slices_Index_string_string.f k a0 a1) (slices_Index_string_string.f (k + 1) a0 a1) := by
 intro a0 a1 k
 have ih0 := slices_Index_string_string.mono_l k
 unfold slices_Index_string_string.f
 exact mo
theorem slices_Index_string_string.calls (k : Nat) (A0 : Option Addr) (c0 : Nat) (l0 : List ByteArray) (a1 : ByteArray) (r : Int) (w : World) (hr0 : Kd.C Kd.string w A0 l0.length l0) (hc0 : l0.length ≤ c0) (h : slices_Index_string_string.f k l0 a1 = some r) :
  Calls Tryz.prog 136 #[.slice A0 l0.length c0, .string a1] w fun e w' => e = .returned (.int .i64 r) ∧ Drawn0 w w' := by
 have HR0 := am hr0
 have HC0 := am hc0
 clear hr0 hc0
 have H := h
 clear h
 unfold slices_Index_string_string.f at H
 have H' := am H; clear H
 go_enter Tryz.func136, Tryz.ntmps136
 go_wp2
 go_loopg [8] k (fun kq v8 w' => ∃ (x8_1 : Int), v8 = .int .i64 x8_1 ∧ Aside0 (slices_Index_string_string.l0 kq l0 a1 (l0.length : Int) x8_1 = some r) ∧ Aside0 (kq ≤ k) ∧ Drawn0 w w')
 case atStart => exact ⟨(0), rs, H', ⟨Nat.le_refl _⟩, by repeat (first | exact Drawn0.refl _ | apply Drawn0.step)⟩
 case round =>
  clear H'
  obtain ⟨x8_1, rfl, HA, HK1, ⟨m1, rfl⟩⟩ := hrel
  cases gk with
  | zero => exact absurd HA.out (by simp [slices_Index_string_string.l0])
  | succ k1 =>
   have H := HA.out
   clear HA
   simp only [slices_Index_string_string.l0] at H
   revert H; refine iDb (fun c3b0 H => ?_) fun c3b0 H => ?_
   ·revert H; refine i1 fun c4b0 H => ?_
    revert H; refine i1 fun c5b0 H => ?_
    revert H; refine iQ (fun c6b0 c6b1 H => ?_) fun c6 c6b0 c6b1 H => ?_
    ·obtain rfl := Option.some.inj H
     have p251 : 0 ≤ (x8_1 : Int) := ode
     have q251 : x8_1 < (l0.length : Int) := ode
     obtain ⟨ad251, e251, hx251_0⟩ := Kd.at_string HR0.out x8_1 p251 q251
     cases e251
     replace p251 := eq_true p251
     replace q251 := eq_true q251
     go_wp2
     go_ret
     exact ⟨by first | rfl | (simp; done) | (simp [*]; done) | (simp [isE_bne]; done), by repeat (first | exact Drawn0.refl _ | apply Drawn0.step)⟩
    have H' := am H; clear H
    have p251 : 0 ≤ (x8_1 : Int) := ode
    have q251 : x8_1 < (l0.length : Int) := ode
    obtain ⟨ad251, e251, hx251_0⟩ := Kd.at_string HR0.out x8_1 p251 q251
    cases e251
    replace p251 := eq_true p251
    replace q251 := eq_true q251
    go_wp2
    go_roundg k1
    case measure => have := HK1.out; omega
    case rel => exact ⟨(wrap64 (x8_1 + 1)), rs, H', ⟨by have := HK1.out; omega⟩, by repeat (first | exact Drawn0.refl _ | apply Drawn0.step)⟩
   obtain rfl := Option.some.inj H
   go_wp2
   go_ret
   exact ⟨by first | rfl | (simp; done) | (simp [*]; done) | (simp [isE_bne]; done), by repeat (first | exact Drawn0.refl _ | apply Drawn0.step)⟩

/-! ### slices_Contains_string_string: function 69 -/
def slices_Contains_string_string.f (k : Nat) (l0 : List ByteArray) (a1 : ByteArray) : Option (Bool) := (slices_Index_string_string.f k l0 a1).bind fun t252 => (some (decide (t252 ≥ 0)))
theorem slices_Contains_string_string.mono : ∀ a0 a1 k, LeO (slices_Contains_string_string.f k a0 a1) (slices_Contains_string_string.f (k + 1) a0 a1) := by
 intro a0 a1 k
 unfold slices_Contains_string_string.f
 repeat' (with_reducible first | exact slices_Index_string_string.mono .. | exact LeO.refl _ | exact LeO.none _ | refine LeO.ite ?_ ?_ | refine LeO.bind ?_ (fun _ => ?_))
theorem slices_Contains_string_string.calls (k : Nat) (A0 : Option Addr) (c0 : Nat) (l0 : List ByteArray) (a1 : ByteArray) (r : Bool) (w : World) (hr0 : Kd.C Kd.string w A0 l0.length l0) (hc0 : l0.length ≤ c0) (h : slices_Contains_string_string.f k l0 a1 = some r) :
  Calls Tryz.prog 69 #[.slice A0 l0.length c0, .string a1] w fun e w' => e = .returned (.bool r) ∧ Drawn0 w w' := by
 have HR0 := am hr0
 have HC0 := am hc0
 clear hr0 hc0
 have H := h
 clear h
 unfold slices_Contains_string_string.f at H
 revert H; refine bj fun t252 A3 H => ?_
 obtain rfl := Option.some.inj H
 go_enter Tryz.func69, Tryz.ntmps69
 go_wp2_with (first | (refine gc 136 (some 7) Tryz.func136 (slices_Index_string_string.calls _ _ _ _ _ _ _ ?side1 ?side2 A3.out) ?_; (case side1 => repeat (first | exact HR0.out | (with_reducible refine Kd.C_alloc ?_ _) | (with_reducible refine Kd.C_drewN ?_ _) | (with_reducible refine Kd.C_drew ?_))); (case side2 => exact HC0.out); rintro e w' ⟨rfl, ⟨nd, rfl⟩⟩; refine ⟨_, rfl, ?_⟩))
 go_ret
 exact ⟨by first | rfl | (simp; done) | (simp [*]; done) | (simp [isE_bne]; done), by repeat (first | exact Drawn0.refl _ | apply Drawn0.step)⟩

end Go.Proofs.YtodokfmmnihecaaGreatDoor.PFnExactProductRight
