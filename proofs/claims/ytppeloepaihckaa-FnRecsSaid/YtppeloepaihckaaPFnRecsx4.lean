-- laid by seedprint.py, a program of this session, over contracts that it gives by hand; Lean checks it
import Derived.Test.YtppeloepaihckaaPFnRecsx0
import Derived.Test.YtppeloepaihckaaPFnRecsx1
import Derived.Test.YtppeloepaihckaaPFnRecsx2
import Derived.Test.YtppeloepaihckaaPFnRecsx3
import Derived.Test.YtppeloepaihckaaQMin
import Derived.Test.YtppeloepaihckaaQAut
namespace Go.Proofs.Ytppeloepaihckaa.PFnRecs
open Go.RowKit Go.Proofs.YtppeloepaihckaaW.PrintWords Go.Proofs.YtppeloepaihckaaW.PrintLast Go.Proofs.YtppeloepaihckaaW.PrintMore
attribute [local go_sem] max2_int min2_int max_two min_two max_three min_three max_four min_four   -- for this text's walks alone
set_option linter.unusedVariables false
set_option linter.unusedSimpArgs false

/-! ### laws_FnRecs: function 3 -/
/-- A text of which the byte at i is so much more, and one. -/
def laws_FnRecs.put (t : ByteArray) (i x : Int) : ByteArray := ⟨(t.data.toList.set i.toNat (UInt8.ofNat ((bt t i + (1 + x)) % 256).toNat)).toArray⟩
def laws_FnRecs.tl (k : Nat) (x0 : List Int) (x5 x6 x7 x8 : ByteArray) : Option Bool :=
  (laws_lwAt.f x0 0 (x6.size : Int)).bind fun i => (laws_lwAt.f x0 1 255).bind fun x =>
  (if 0 ≤ i ∧ i < (x8.size : Int) ∧ 0 ≤ x ∧ x ≤ 255 ∧ x7.size + x8.size ≤ 100000 then
    (impl_RecsOf.f k (x7 ++ laws_FnRecs.put x8 ((x8.size : Int) - 1 - i) x)).bind fun z => (if z.1 = [x5] ∧ z.2.2 = 5 then some true else none) else none)
theorem laws_FnRecs.tl_mono : ∀ x0 x5 x6 x7 x8 k, LeO (laws_FnRecs.tl k x0 x5 x6 x7 x8) (laws_FnRecs.tl (k + 1) x0 x5 x6 x7 x8) := by
  intro x0 x5 x6 x7 x8 k
  unfold laws_FnRecs.tl
  exact LeO.bind (LeO.refl _) (fun _ => LeO.bind (LeO.refl _) (fun _ => LeO.ite (LeO.bind (impl_RecsOf.mono _ k) (fun _ => LeO.refl _)) (LeO.refl _)))
theorem laws_FnRecs.tl_some {k : Nat} {x0 : List Int} {x5 x6 x7 x8 : ByteArray} {r : Bool} (h : laws_FnRecs.tl k x0 x5 x6 x7 x8 = some r) :
    r = true ∧ ∃ (i x : Int) (j : Nat) (z0 : List ByteArray) (z1 : Int), z0 = [x5] ∧ laws_lwAt.f x0 0 (x6.size : Int) = some i ∧ laws_lwAt.f x0 1 255 = some x ∧ 0 ≤ i ∧ (x8.size : Int) - 1 - i = (j : Int) ∧ (j < x8.size ∧ 0 ≤ x ∧ x ≤ 255) ∧ x7.size + x8.size ≤ 100000 ∧
      impl_RecsOf.f k (x7 ++ laws_FnRecs.put x8 (j : Int) x) = some (z0, z1, 5) := by
  unfold laws_FnRecs.tl at h
  obtain ⟨i, hi, h⟩ := Option.bind_eq_some_iff.mp h
  obtain ⟨x, hx, h⟩ := Option.bind_eq_some_iff.mp h
  by_cases c : 0 ≤ i ∧ i < (x8.size : Int) ∧ 0 ≤ x ∧ x ≤ 255 ∧ x7.size + x8.size ≤ 100000
  · rw [if_pos c] at h
    obtain ⟨⟨z0, z1, z2⟩, hz, h⟩ := Option.bind_eq_some_iff.mp h
    by_cases cz : z0 = [x5] ∧ z2 = 5
    · obtain ⟨rfl, rfl⟩ := cz
      rw [if_pos ⟨rfl, rfl⟩] at h
      obtain ⟨j, hj⟩ : ∃ j : Nat, (x8.size : Int) - 1 - i = (j : Int) := ⟨((x8.size : Int) - 1 - i).toNat, by omega⟩
      rw [hj] at hz
      exact ⟨(Option.some.inj h).symm, i, x, j, [x5], z1, rfl, hi, hx, c.1, hj, ⟨by omega, c.2.2.1, c.2.2.2.1⟩, c.2.2.2.2, hz⟩
    · rw [if_neg cz] at h; exact absurd h (by simp)
  · rw [if_neg c] at h; exact absurd h (by simp)
theorem laws_FnRecs.put_list (t : ByteArray) (j : Nat) (x : Int) : (laws_FnRecs.put t (j : Int) x).data.toList = t.data.toList.set j (UInt8.ofNat ((bt t (j : Int) + (1 + x)) % 256).toNat) := by
  unfold laws_FnRecs.put; simp
theorem laws_FnRecs.row_at (t : ByteArray) (cap j : Nat) (h : j < t.size) : (bytesRow t cap)[j]? = some (.int .u8 (bt t (j : Int))) := by
  have hd : j < t.data.size := h
  unfold bytesRow bt
  rw [Array.getElem?_append_left (by simpa using hd)]
  simp only [Array.getElem?_map, Array.getElem?_eq_getElem hd, Option.map_some, Int.toNat_natCast, dif_pos h]
  rfl
mutual
def laws_FnRecs.j0 : Nat → List Int → List Int → Bool → Option (Bool)
  | 0, _, _, _ => none
  | k + 1, x0, x1, x22 => if x22 = true then (some true) else ((spec_DrawRecBytes.f k x0).bind fun t190 => ((spec_DrawRecBytes.f k x1).bind fun t191 => ((spec_RecBytes.f k t190).bind fun t192 => (if t192.toList = ([] : List UInt8) then (laws_FnRecs.j1 k x0 x1 t190 t191 true) else ((spec_RecBytes.f k t191).bind fun t193 => (if t193.toList = ([] : List UInt8) then (laws_FnRecs.j1 k x0 x1 t190 t191 true) else (laws_FnRecs.j1 k x0 x1 t190 t191 (decide ((wrap64 ((t190.size : Int) + (t191.size : Int))) > 15000)))))))))
def laws_FnRecs.j1 : Nat → List Int → List Int → ByteArray → ByteArray → Bool → Option (Bool)
  | 0, _, _, _, _, _ => none
  | k + 1, x0, x1, x5, x6, x42 => if x42 = true then ((impl_RecBytes.f k x5).bind fun t194 => ((spec_RecBytes.f k x5).bind fun t195 => (some ((t194.toList == ([] : List UInt8)) == (t195.toList == ([] : List UInt8)))))) else ((impl_RecBytes.f k x5).bind fun t196 => ((impl_RecBytes.f k x6).bind fun t197 => (if t196.size + t197.size ≤ 9223372036854775807 then ((impl_RecsOf.f k (t196 ++ t197)).bind fun bt198 => (if bt198.2.2 = 0 then (if (bt198.1.length : Int) = 2 then (if 0 < (bt198.1.length : Int) then (if (rdOf ByteArray.empty bt198.1 0).toList = x5.toList then (if 1 < (bt198.1.length : Int) then (if (rdOf ByteArray.empty bt198.1 1).toList = x6.toList then (laws_FnRecs.j2 k x0 x1 x5 x6 t196 t197 (bt198.2.1 != (wrap64 ((t196.size : Int) + (t197.size : Int))))) else (laws_FnRecs.j2 k x0 x1 x5 x6 t196 t197 true)) else (none)) else (laws_FnRecs.j2 k x0 x1 x5 x6 t196 t197 true)) else (none)) else (laws_FnRecs.j2 k x0 x1 x5 x6 t196 t197 true)) else (laws_FnRecs.j2 k x0 x1 x5 x6 t196 t197 true))) else (none))))
def laws_FnRecs.j2 : Nat → List Int → List Int → ByteArray → ByteArray → ByteArray → ByteArray → Bool → Option (Bool)
  | 0, _, _, _, _, _, _, _ => none
  | k + 1, x0, x1, x5, x6, x7, x8, x92 => if x92 = true then (none) else ((laws_lwAt.f x1 0 256).bind fun t206 => ((laws_lwAt.f x1 1 256).bind fun t207 => (if (x8.size : Int) = 0 then (none) else (if (wrap64 (1 + (Int.tmod (wrap64 ((wrap64 (t206 * 256)) + t207)) (x8.size : Int)))) < (x8.size : Int) then (if 0 ≤ (wrap64 (1 + (Int.tmod (wrap64 ((wrap64 (t206 * 256)) + t207)) (x8.size : Int)))) then (if (wrap64 (1 + (Int.tmod (wrap64 ((wrap64 (t206 * 256)) + t207)) (x8.size : Int)))) ≤ (x8.size : Int) then (if x7.size + (x8.extract 0 ((wrap64 (1 + (Int.tmod (wrap64 ((wrap64 (t206 * 256)) + t207)) (x8.size : Int)))) : Int).toNat).size ≤ 9223372036854775807 then ((impl_RecsOf.f k (x7 ++ (x8.extract 0 ((wrap64 (1 + (Int.tmod (wrap64 ((wrap64 (t206 * 256)) + t207)) (x8.size : Int)))) : Int).toNat))).bind fun bt208 => (if bt208.2.2 = 4 then (if (bt208.1.length : Int) = 1 then (laws_FnRecs.j3 k x0 x5 x6 x7 x8 (bt208.2.1 != (x7.size : Int))) else (laws_FnRecs.j3 k x0 x5 x6 x7 x8 true)) else (laws_FnRecs.j3 k x0 x5 x6 x7 x8 true))) else (none)) else (none)) else (none)) else (laws_FnRecs.tl k x0 x5 x6 x7 x8)))))
def laws_FnRecs.j3 : Nat → List Int → ByteArray → ByteArray → ByteArray → ByteArray → Bool → Option (Bool)
  | 0, _, _, _, _, _, _ => none
  | k + 1, x0, x5, x6, x7, x8, x128 => if x128 = true then (none) else (laws_FnRecs.tl k x0 x5 x6 x7 x8)
end
def laws_FnRecs.f (k : Nat) (l0 : List Int) (l1 : List Int) : Option (Bool) := if (l0.length : Int) > 1048576 then (laws_FnRecs.j0 k l0 l1 true) else (laws_FnRecs.j0 k l0 l1 (decide ((l1.length : Int) > 1048576)))
theorem laws_FnRecs.mono_l : ∀ k, (∀ y0 y1 y2, LeO (laws_FnRecs.j0 k y0 y1 y2) (laws_FnRecs.j0 (k + 1) y0 y1 y2)) ∧ (∀ y0 y1 y2 y3 y4, LeO (laws_FnRecs.j1 k y0 y1 y2 y3 y4) (laws_FnRecs.j1 (k + 1) y0 y1 y2 y3 y4)) ∧ (∀ y0 y1 y2 y3 y4 y5 y6, LeO (laws_FnRecs.j2 k y0 y1 y2 y3 y4 y5 y6) (laws_FnRecs.j2 (k + 1) y0 y1 y2 y3 y4 y5 y6)) ∧ (∀ y0 y1 y2 y3 y4 y5, LeO (laws_FnRecs.j3 k y0 y1 y2 y3 y4 y5) (laws_FnRecs.j3 (k + 1) y0 y1 y2 y3 y4 y5))
  | 0 => ⟨fun _ _ _ r h => by simp [laws_FnRecs.j0] at h, fun _ _ _ _ _ r h => by simp [laws_FnRecs.j1] at h, fun _ _ _ _ _ _ _ r h => by simp [laws_FnRecs.j2] at h, fun _ _ _ _ _ _ r h => by simp [laws_FnRecs.j3] at h⟩
  | k + 1 => by
    obtain ⟨ih0, ih1, ih2, ih3⟩ := laws_FnRecs.mono_l k
    refine ⟨?_, ?_, ?_, ?_⟩
    · intro y0 y1 y2
      unfold laws_FnRecs.j0
      repeat' first
      | (with_reducible exact ih0 _ _ _)
      | (with_reducible exact ih1 _ _ _ _ _)
      | (with_reducible exact ih2 _ _ _ _ _ _ _)
      | (with_reducible exact ih3 _ _ _ _ _ _)
      | (with_reducible exact laws_FnRecs.tl_mono _ _ _ _ _ _)
      | (with_reducible exact impl_RecBytes.mono _ _)
      | (with_reducible exact impl_RecsOf.mono _ _)
      | (with_reducible exact spec_DrawRecBytes.mono _ _)
      | (with_reducible exact spec_RecBytes.mono _ _)
      | (with_reducible exact LeO.refl _)
      | (with_reducible exact LeO.none _)
      | (with_reducible refine LeO.ite ?_ ?_)
      | (with_reducible refine LeO.bind ?_ (fun _ => ?_))
      | exact ih0 _ _ _
      | exact ih1 _ _ _ _ _
      | exact ih2 _ _ _ _ _ _ _
      | exact ih3 _ _ _ _ _ _
      | exact impl_RecBytes.mono _ _
      | exact impl_RecsOf.mono _ _
      | exact spec_DrawRecBytes.mono _ _
      | exact spec_RecBytes.mono _ _
      | exact LeO.none _
      | refine LeO.ite ?_ ?_
      | refine LeO.bind ?_ (fun _ => ?_)
    · intro y0 y1 y2 y3 y4
      unfold laws_FnRecs.j1
      repeat' first
      | (with_reducible exact ih0 _ _ _)
      | (with_reducible exact ih1 _ _ _ _ _)
      | (with_reducible exact ih2 _ _ _ _ _ _ _)
      | (with_reducible exact ih3 _ _ _ _ _ _)
      | (with_reducible exact laws_FnRecs.tl_mono _ _ _ _ _ _)
      | (with_reducible exact impl_RecBytes.mono _ _)
      | (with_reducible exact impl_RecsOf.mono _ _)
      | (with_reducible exact spec_DrawRecBytes.mono _ _)
      | (with_reducible exact spec_RecBytes.mono _ _)
      | (with_reducible exact LeO.refl _)
      | (with_reducible exact LeO.none _)
      | (with_reducible refine LeO.ite ?_ ?_)
      | (with_reducible refine LeO.bind ?_ (fun _ => ?_))
      | exact ih0 _ _ _
      | exact ih1 _ _ _ _ _
      | exact ih2 _ _ _ _ _ _ _
      | exact ih3 _ _ _ _ _ _
      | exact impl_RecBytes.mono _ _
      | exact impl_RecsOf.mono _ _
      | exact spec_DrawRecBytes.mono _ _
      | exact spec_RecBytes.mono _ _
      | exact LeO.none _
      | refine LeO.ite ?_ ?_
      | refine LeO.bind ?_ (fun _ => ?_)
    · intro y0 y1 y2 y3 y4 y5 y6
      unfold laws_FnRecs.j2
      repeat' first
      | (with_reducible exact ih0 _ _ _)
      | (with_reducible exact ih1 _ _ _ _ _)
      | (with_reducible exact ih2 _ _ _ _ _ _ _)
      | (with_reducible exact ih3 _ _ _ _ _ _)
      | (with_reducible exact laws_FnRecs.tl_mono _ _ _ _ _ _)
      | (with_reducible exact impl_RecBytes.mono _ _)
      | (with_reducible exact impl_RecsOf.mono _ _)
      | (with_reducible exact spec_DrawRecBytes.mono _ _)
      | (with_reducible exact spec_RecBytes.mono _ _)
      | (with_reducible exact LeO.refl _)
      | (with_reducible exact LeO.none _)
      | (with_reducible refine LeO.ite ?_ ?_)
      | (with_reducible refine LeO.bind ?_ (fun _ => ?_))
      | exact ih0 _ _ _
      | exact ih1 _ _ _ _ _
      | exact ih2 _ _ _ _ _ _ _
      | exact ih3 _ _ _ _ _ _
      | exact impl_RecBytes.mono _ _
      | exact impl_RecsOf.mono _ _
      | exact spec_DrawRecBytes.mono _ _
      | exact spec_RecBytes.mono _ _
      | exact LeO.none _
      | refine LeO.ite ?_ ?_
      | refine LeO.bind ?_ (fun _ => ?_)
    · intro y0 y1 y2 y3 y4 y5
      unfold laws_FnRecs.j3
      repeat' first
      | (with_reducible exact ih0 _ _ _)
      | (with_reducible exact ih1 _ _ _ _ _)
      | (with_reducible exact ih2 _ _ _ _ _ _ _)
      | (with_reducible exact ih3 _ _ _ _ _ _)
      | (with_reducible exact laws_FnRecs.tl_mono _ _ _ _ _ _)
      | (with_reducible exact impl_RecBytes.mono _ _)
      | (with_reducible exact impl_RecsOf.mono _ _)
      | (with_reducible exact spec_DrawRecBytes.mono _ _)
      | (with_reducible exact spec_RecBytes.mono _ _)
      | (with_reducible exact LeO.refl _)
      | (with_reducible exact LeO.none _)
      | (with_reducible refine LeO.ite ?_ ?_)
      | (with_reducible refine LeO.bind ?_ (fun _ => ?_))
      | exact ih0 _ _ _
      | exact ih1 _ _ _ _ _
      | exact ih2 _ _ _ _ _ _ _
      | exact ih3 _ _ _ _ _ _
      | exact impl_RecBytes.mono _ _
      | exact impl_RecsOf.mono _ _
      | exact spec_DrawRecBytes.mono _ _
      | exact spec_RecBytes.mono _ _
      | exact LeO.none _
      | refine LeO.ite ?_ ?_
      | refine LeO.bind ?_ (fun _ => ?_)
theorem laws_FnRecs.mono : ∀ a0 a1 k, LeO (laws_FnRecs.f k a0 a1) (laws_FnRecs.f (k + 1) a0 a1) := by
  intro a0 a1 k
  obtain ⟨ih0, ih1, ih2, ih3⟩ := laws_FnRecs.mono_l k
  unfold laws_FnRecs.f
  repeat' first
      | (with_reducible exact ih0 _ _ _)
      | (with_reducible exact ih1 _ _ _ _ _)
      | (with_reducible exact ih2 _ _ _ _ _ _ _)
      | (with_reducible exact ih3 _ _ _ _ _ _)
      | (with_reducible exact laws_FnRecs.tl_mono _ _ _ _ _ _)
      | (with_reducible exact impl_RecBytes.mono _ _)
      | (with_reducible exact impl_RecsOf.mono _ _)
      | (with_reducible exact spec_DrawRecBytes.mono _ _)
      | (with_reducible exact spec_RecBytes.mono _ _)
      | (with_reducible exact LeO.refl _)
      | (with_reducible exact LeO.none _)
      | (with_reducible refine LeO.ite ?_ ?_)
      | (with_reducible refine LeO.bind ?_ (fun _ => ?_))
      | exact ih0 _ _ _
      | exact ih1 _ _ _ _ _
      | exact ih2 _ _ _ _ _ _ _
      | exact ih3 _ _ _ _ _ _
      | exact impl_RecBytes.mono _ _
      | exact impl_RecsOf.mono _ _
      | exact spec_DrawRecBytes.mono _ _
      | exact spec_RecBytes.mono _ _
      | exact LeO.none _
      | refine LeO.ite ?_ ?_
      | refine LeO.bind ?_ (fun _ => ?_)
set_option maxHeartbeats 8000000 in
set_option maxRecDepth 100000 in
theorem laws_FnRecs.calls (k : Nat) (A0 : Option Addr) (c0 : Nat) (l0 : List Int) (A1 : Option Addr) (c1 : Nat) (l1 : List Int) (r : Bool) (w : World) (hr0 : Kd.C (Kd.int .u8) w A0 l0.length l0) (hc0 : l0.length ≤ c0) (hr1 : Kd.C (Kd.int .u8) w A1 l1.length l1) (hc1 : l1.length ≤ c1) (h : laws_FnRecs.f k l0 l1 = some r) :
    Calls Try.prog 3 #[.slice A0 l0.length c0, .slice A1 l1.length c1] w fun e w' => e = .returned (.bool r) ∧ Below w.heap.size w w' := by
  have hu27 := Try.underlying27
  have HR0 := Aside0.mk hr0
  have HC0 := Aside0.mk hc0
  clear hr0 hc0
  have HR1 := Aside0.mk hr1
  have HC1 := Aside0.mk hc1
  clear hr1 hc1
  have HB := Aside0.mk (Below.refl w.heap.size w)
  have H : (if (l0.length : Int) > 1048576 then (laws_FnRecs.j0 k l0 l1 true) else (laws_FnRecs.j0 k l0 l1 (decide ((l1.length : Int) > 1048576)))) = some r := h
  clear h
  have HC3 := Aside0.mk H
  clear H
  go_enter Try.func3, Try.ntmps3
  go_upto_region 1 with (fail)
  go_cut [22] (fun v22 wc => ∃ (kq : Nat) (x22_2 : Bool), v22 = .bool x22_2 ∧ Aside0 (laws_FnRecs.j0 kq l0 l1 x22_2 = some r) ∧ Aside0 (kq ≤ k) ∧ Aside0 (Below w.heap.size w wc))
  case first =>
    have H := HC3.out
    clear HC3
    by_cases c4 : (l0.length : Int) > 1048576
    · rw [if_pos c4] at H
      have c4b0 : decide (1048576 < (l0.length : Int)) = true := decide_eq_true c4
      have c4b1 : decide (1048576 < l0.length) = true := decide_eq_true (by omega)
      clear c4
      (first | rw [c4b0] | (simp only [i64_w, i32_w]; rw [c4b0]) | skip)
      have H' := Aside0.mk H
      clear H
      go_wp2
      go_meet
      case rel => exact ⟨_, (true), (by first | rfl | (simp; done) | (simp [*]; done)), H', ⟨by first | omega | exact Nat.le_refl _⟩, ⟨by repeat (first | (with_reducible first | exact HB.out | apply below_alloc | apply pw_below_drewN | apply below_drew1) | exact HB.out)⟩⟩
    · rw [if_neg c4] at H
      have c4b0 : decide (1048576 < (l0.length : Int)) = false := decide_eq_false c4
      have c4b1 : decide (1048576 < l0.length) = false := decide_eq_false (by omega)
      clear c4
      (first | rw [c4b0] | (simp only [i64_w, i32_w]; rw [c4b0]) | skip)
      have H' := Aside0.mk H
      clear H
      go_wp2
      go_meet
      case rel => exact ⟨_, (decide ((l1.length : Int) > 1048576)), (by first | rfl | (simp; done) | (simp [*]; done)), H', ⟨by first | omega | exact Nat.le_refl _⟩, ⟨by repeat (first | (with_reducible first | exact HB.out | apply below_alloc | apply pw_below_drewN | apply below_drew1) | exact HB.out)⟩⟩
  case rest =>
    clear HC3
    try clear c1
    try clear p2
    try clear c3
    try clear c4
    try clear c4b0
    try clear c4b1
    obtain ⟨kq, x22_2, rfl, HA, HJ2, HB⟩ := hcut
    cases kq with
    | zero => exact absurd HA.out (by simp [laws_FnRecs.j0])
    | succ kj2 =>
      have H := HA.out
      clear HA
      simp only [laws_FnRecs.j0] at H
      by_cases c5 : x22_2 = true
      · subst c5
        have H1 : (some true) = some r := by rw [if_pos rfl] at H; exact H
        clear H
        have H := H1
        clear H1
        obtain rfl := Option.some.inj H
        go_wp2
        go_ret
        exact ⟨by first | rfl | (simp [errW_none, errW_some] <;> rfl) | (simp [*, errW_none, errW_some] <;> rfl), by repeat (first | (with_reducible first | exact HB.out | apply below_alloc | apply pw_below_drewN | apply below_drew1) | exact HB.out)⟩
      · replace c5 := Bool.eq_false_iff.mpr c5
        subst c5
        have H1 : ((spec_DrawRecBytes.f kj2 l0).bind fun t190 => ((spec_DrawRecBytes.f kj2 l1).bind fun t191 => ((spec_RecBytes.f kj2 t190).bind fun t192 => (if t192.toList = ([] : List UInt8) then (laws_FnRecs.j1 kj2 l0 l1 t190 t191 true) else ((spec_RecBytes.f kj2 t191).bind fun t193 => (if t193.toList = ([] : List UInt8) then (laws_FnRecs.j1 kj2 l0 l1 t190 t191 true) else (laws_FnRecs.j1 kj2 l0 l1 t190 t191 (decide ((wrap64 ((t190.size : Int) + (t191.size : Int))) > 15000))))))))) = some r := by rw [if_neg (show ¬ (false = true) by decide)] at H; exact H
        clear H
        have H := H1
        clear H1
        replace H := Option.bind_eq_some_iff.mp H
        obtain ⟨t190, A60, H⟩ := H
        replace H : ((spec_DrawRecBytes.f kj2 l1).bind fun t191 => ((spec_RecBytes.f kj2 t190).bind fun t192 => (if t192.toList = ([] : List UInt8) then (laws_FnRecs.j1 kj2 l0 l1 t190 t191 true) else ((spec_RecBytes.f kj2 t191).bind fun t193 => (if t193.toList = ([] : List UInt8) then (laws_FnRecs.j1 kj2 l0 l1 t190 t191 true) else (laws_FnRecs.j1 kj2 l0 l1 t190 t191 (decide ((wrap64 ((t190.size : Int) + (t191.size : Int))) > 15000)))))))) = some r := H
        have A6 := Aside0.mk A60
        clear A60
        replace H := Option.bind_eq_some_iff.mp H
        obtain ⟨t191, A70, H⟩ := H
        replace H : ((spec_RecBytes.f kj2 t190).bind fun t192 => (if t192.toList = ([] : List UInt8) then (laws_FnRecs.j1 kj2 l0 l1 t190 t191 true) else ((spec_RecBytes.f kj2 t191).bind fun t193 => (if t193.toList = ([] : List UInt8) then (laws_FnRecs.j1 kj2 l0 l1 t190 t191 true) else (laws_FnRecs.j1 kj2 l0 l1 t190 t191 (decide ((wrap64 ((t190.size : Int) + (t191.size : Int))) > 15000))))))) = some r := H
        have A7 := Aside0.mk A70
        clear A70
        have HC8 := Aside0.mk H
        clear H
        go_upto_region 5 with (first | ((with_reducible refine gate_callee (f := 4) rfl ?_); refine goesL_ (some 24) rfl rfl Try.func4 (by kernel_rfl) rfl #[.slice A0 l0.length c0] rfl (by (try simp only [List.map_toArray, List.map_cons, List.map_nil]); first | done | rfl | (simp only [List.length_drop, List.length_take]; rfl)) ?_; (with_reducible refine (spec_DrawRecBytes.calls kj2 _ _ l0 t190 _ ?side1 ?side2 A6.out).mono ?_); (case side1 => repeat (first | exact (Kd.C_below HR0.out HB.out) | (with_reducible refine Kd.C_alloc ?_ _) | (with_reducible refine Kd.C_drewN ?_ _) | (with_reducible refine Kd.C_drew ?_))); (case side2 => exact HC0.out); rintro e w9 ⟨rfl, hb⟩; refine ⟨_, rfl, ?_⟩; have n0_ := Aside0.mk (below_step (by repeat (first | (with_reducible first | exact HB.out | apply below_alloc | apply pw_below_drewN | apply below_drew1) | exact HB.out)) hb); clear HB; have HB := n0_; clear n0_; (try clear hb); (try clear hb2); (try clear hk); (try clear hi)) | ((with_reducible refine gate_callee (f := 4) rfl ?_); refine goesL_ (some 26) rfl rfl Try.func4 (by kernel_rfl) rfl #[.slice A1 l1.length c1] rfl (by (try simp only [List.map_toArray, List.map_cons, List.map_nil]); first | done | rfl | (simp only [List.length_drop, List.length_take]; rfl)) ?_; (with_reducible refine (spec_DrawRecBytes.calls kj2 _ _ l1 t191 _ ?side1 ?side2 A7.out).mono ?_); (case side1 => repeat (first | exact (Kd.C_below HR1.out HB.out) | (with_reducible refine Kd.C_alloc ?_ _) | (with_reducible refine Kd.C_drewN ?_ _) | (with_reducible refine Kd.C_drew ?_))); (case side2 => exact HC1.out); rintro e w10 ⟨rfl, hb⟩; refine ⟨_, rfl, ?_⟩; have n0_ := Aside0.mk (below_step (by repeat (first | (with_reducible first | exact HB.out | apply below_alloc | apply pw_below_drewN | apply below_drew1) | exact HB.out)) hb); clear HB; have HB := n0_; clear n0_; (try clear hb); (try clear hb2); (try clear hk); (try clear hi)))
        (try simp only [Act.put, List.setIfInBounds_toArray, List.set_cons_zero, List.set_cons_succ])
        go_cut [42] (fun v42 wc => ∃ (kq : Nat) (x42_7 : Bool), v42 = .bool x42_7 ∧ Aside0 (laws_FnRecs.j1 kq l0 l1 t190 t191 x42_7 = some r) ∧ Aside0 (kq ≤ kj2) ∧ Aside0 (Below w.heap.size w wc))
        case first =>
          have H := HC8.out
          clear HC8
          replace H := Option.bind_eq_some_iff.mp H
          obtain ⟨t192, A110, H⟩ := H
          replace H : (if t192.toList = ([] : List UInt8) then (laws_FnRecs.j1 kj2 l0 l1 t190 t191 true) else ((spec_RecBytes.f kj2 t191).bind fun t193 => (if t193.toList = ([] : List UInt8) then (laws_FnRecs.j1 kj2 l0 l1 t190 t191 true) else (laws_FnRecs.j1 kj2 l0 l1 t190 t191 (decide ((wrap64 ((t190.size : Int) + (t191.size : Int))) > 15000)))))) = some r := H
          have A11 := Aside0.mk A110
          clear A110
          by_cases c12 : t192.toList = ([] : List UInt8)
          · rw [if_pos c12] at H
            have c12b0 : (t192.toList == ([] : List UInt8)) = true := beq_iff_eq.mpr c12
            have c12b1 : (t192.toList != ([] : List UInt8)) = false := bne_eq_false_iff_eq.mpr c12
            clear c12
            (first | rw [c12b0] | (simp only [i64_w, i32_w]; rw [c12b0]) | skip)
            have H' := Aside0.mk H
            clear H
            go_wp2_with (first | ((with_reducible refine gate_callee (f := 5) rfl ?_); refine goesL_ (some 28) rfl rfl Try.func5 (by kernel_rfl) rfl #[.string t190] rfl (by (try simp only [List.map_toArray, List.map_cons, List.map_nil]); first | done | rfl | (simp only [List.length_drop, List.length_take]; rfl)) ?_; (with_reducible refine (spec_RecBytes.calls kj2 t190 t192 _ A11.out).mono ?_); rintro e w13 ⟨rfl, hb⟩; refine ⟨_, rfl, ?_⟩; have n0_ := Aside0.mk (below_step (by repeat (first | (with_reducible first | exact HB.out | apply below_alloc | apply pw_below_drewN | apply below_drew1) | exact HB.out)) hb); clear HB; have HB := n0_; clear n0_; (try clear hb); (try clear hb2); (try clear hk); (try clear hi)))
            go_meet
            case rel => exact ⟨_, (true), (by first | rfl | (simp; done) | (simp [*]; done)), H', ⟨by have := HJ2.out; first | omega | exact Nat.le_refl _⟩, ⟨by repeat (first | (with_reducible first | exact HB.out | apply below_alloc | apply pw_below_drewN | apply below_drew1) | exact HB.out)⟩⟩
          · rw [if_neg c12] at H
            have c12b0 : (t192.toList == ([] : List UInt8)) = false := beq_eq_false_iff_ne.mpr c12
            have c12b1 : (t192.toList != ([] : List UInt8)) = true := bne_iff_ne.mpr c12
            (first | rw [c12b0] | (simp only [i64_w, i32_w]; rw [c12b0]) | skip)
            replace H := Option.bind_eq_some_iff.mp H
            obtain ⟨t193, A140, H⟩ := H
            replace H : (if t193.toList = ([] : List UInt8) then (laws_FnRecs.j1 kj2 l0 l1 t190 t191 true) else (laws_FnRecs.j1 kj2 l0 l1 t190 t191 (decide ((wrap64 ((t190.size : Int) + (t191.size : Int))) > 15000)))) = some r := H
            have A14 := Aside0.mk A140
            clear A140
            by_cases c15 : t193.toList = ([] : List UInt8)
            · rw [if_pos c15] at H
              have c15b0 : (t193.toList == ([] : List UInt8)) = true := beq_iff_eq.mpr c15
              have c15b1 : (t193.toList != ([] : List UInt8)) = false := bne_eq_false_iff_eq.mpr c15
              clear c15
              have H' := Aside0.mk H
              clear H
              go_wp2_with (first | ((with_reducible refine gate_callee (f := 5) rfl ?_); refine goesL_ (some 28) rfl rfl Try.func5 (by kernel_rfl) rfl #[.string t190] rfl (by (try simp only [List.map_toArray, List.map_cons, List.map_nil]); first | done | rfl | (simp only [List.length_drop, List.length_take]; rfl)) ?_; (with_reducible refine (spec_RecBytes.calls kj2 t190 t192 _ A11.out).mono ?_); rintro e w16 ⟨rfl, hb⟩; refine ⟨_, rfl, ?_⟩; have n0_ := Aside0.mk (below_step (by repeat (first | (with_reducible first | exact HB.out | apply below_alloc | apply pw_below_drewN | apply below_drew1) | exact HB.out)) hb); clear HB; have HB := n0_; clear n0_; (try clear hb); (try clear hb2); (try clear hk); (try clear hi)) | (go_at_call 5; (with_reducible refine (spec_RecBytes.calls kj2 t191 t193 _ A14.out).mono ?_); rintro e w17 ⟨rfl, hb⟩; have n0_ := Aside0.mk (below_step (by repeat (first | (with_reducible first | exact HB.out | apply below_alloc | apply pw_below_drewN | apply below_drew1) | exact HB.out)) hb); clear HB; have HB := n0_; clear n0_; (try clear hb); (try clear hb2); (try clear hk); (try clear hi)))
              go_meet
              case rel => exact ⟨_, (true), (by first | rfl | (simp; done) | (simp [*]; done)), H', ⟨by have := HJ2.out; first | omega | exact Nat.le_refl _⟩, ⟨by repeat (first | (with_reducible first | exact HB.out | apply below_alloc | apply pw_below_drewN | apply below_drew1) | exact HB.out)⟩⟩
            · rw [if_neg c15] at H
              have c15b0 : (t193.toList == ([] : List UInt8)) = false := beq_eq_false_iff_ne.mpr c15
              have c15b1 : (t193.toList != ([] : List UInt8)) = true := bne_iff_ne.mpr c15
              have H' := Aside0.mk H
              clear H
              go_wp2_with (first | ((with_reducible refine gate_callee (f := 5) rfl ?_); refine goesL_ (some 28) rfl rfl Try.func5 (by kernel_rfl) rfl #[.string t190] rfl (by (try simp only [List.map_toArray, List.map_cons, List.map_nil]); first | done | rfl | (simp only [List.length_drop, List.length_take]; rfl)) ?_; (with_reducible refine (spec_RecBytes.calls kj2 t190 t192 _ A11.out).mono ?_); rintro e w18 ⟨rfl, hb⟩; refine ⟨_, rfl, ?_⟩; have n0_ := Aside0.mk (below_step (by repeat (first | (with_reducible first | exact HB.out | apply below_alloc | apply pw_below_drewN | apply below_drew1) | exact HB.out)) hb); clear HB; have HB := n0_; clear n0_; (try clear hb); (try clear hb2); (try clear hk); (try clear hi)) | (go_at_call 5; (with_reducible refine (spec_RecBytes.calls kj2 t191 t193 _ A14.out).mono ?_); rintro e w19 ⟨rfl, hb⟩; have n0_ := Aside0.mk (below_step (by repeat (first | (with_reducible first | exact HB.out | apply below_alloc | apply pw_below_drewN | apply below_drew1) | exact HB.out)) hb); clear HB; have HB := n0_; clear n0_; (try clear hb); (try clear hb2); (try clear hk); (try clear hi)))
              go_meet
              case rel => exact ⟨_, (decide ((wrap64 ((t190.size : Int) + (t191.size : Int))) > 15000)), (by first | rfl | (simp; done) | (simp [*]; done)), H', ⟨by have := HJ2.out; first | omega | exact Nat.le_refl _⟩, ⟨by repeat (first | (with_reducible first | exact HB.out | apply below_alloc | apply pw_below_drewN | apply below_drew1) | exact HB.out)⟩⟩
        case rest =>
          clear HC8
          try clear c1
          try clear p2
          try clear c3
          try clear c4
          try clear c4b0
          try clear c4b1
          try clear c5
          try clear p6
          try clear c12
          try clear c12b0
          try clear c12b1
          try clear c15
          try clear c15b0
          try clear c15b1
          try clear p2
          obtain ⟨kq, x42_7, rfl, HA, HJ7, HB⟩ := hcut
          cases kq with
          | zero => exact absurd HA.out (by simp [laws_FnRecs.j1])
          | succ kj7 =>
            have H := HA.out
            clear HA
            simp only [laws_FnRecs.j1] at H
            by_cases c20 : x42_7 = true
            · subst c20
              have H1 : ((impl_RecBytes.f kj7 t190).bind fun t194 => ((spec_RecBytes.f kj7 t190).bind fun t195 => (some ((t194.toList == ([] : List UInt8)) == (t195.toList == ([] : List UInt8)))))) = some r := by rw [if_pos rfl] at H; exact H
              clear H
              have H := H1
              clear H1
              replace H := Option.bind_eq_some_iff.mp H
              obtain ⟨t194, A210, H⟩ := H
              replace H : ((spec_RecBytes.f kj7 t190).bind fun t195 => (some ((t194.toList == ([] : List UInt8)) == (t195.toList == ([] : List UInt8))))) = some r := H
              have A21 := Aside0.mk A210
              clear A210
              replace H := Option.bind_eq_some_iff.mp H
              obtain ⟨t195, A220, H⟩ := H
              replace H : (some ((t194.toList == ([] : List UInt8)) == (t195.toList == ([] : List UInt8)))) = some r := H
              have A22 := Aside0.mk A220
              clear A220
              obtain rfl := Option.some.inj H
              go_wp2_with (first | ((with_reducible refine gate_callee (f := 6) rfl ?_); refine goesL_ (some 44) rfl rfl Try.func6 (by kernel_rfl) rfl #[.string t190] rfl (by (try simp only [List.map_toArray, List.map_cons, List.map_nil]); first | done | rfl | (simp only [List.length_drop, List.length_take]; rfl)) ?_; (with_reducible refine (impl_RecBytes.calls kj7 t190 t194 _ A21.out).mono ?_); rintro e w23 ⟨rfl, hb⟩; refine ⟨_, rfl, ?_⟩; have n0_ := Aside0.mk (below_step (by repeat (first | (with_reducible first | exact HB.out | apply below_alloc | apply pw_below_drewN | apply below_drew1) | exact HB.out)) hb); clear HB; have HB := n0_; clear n0_; (try clear hb); (try clear hb2); (try clear hk); (try clear hi)) | ((with_reducible refine gate_callee (f := 5) rfl ?_); refine goesL_ (some 47) rfl rfl Try.func5 (by kernel_rfl) rfl #[.string t190] rfl (by (try simp only [List.map_toArray, List.map_cons, List.map_nil]); first | done | rfl | (simp only [List.length_drop, List.length_take]; rfl)) ?_; (with_reducible refine (spec_RecBytes.calls kj7 t190 t195 _ A22.out).mono ?_); rintro e w24 ⟨rfl, hb⟩; refine ⟨_, rfl, ?_⟩; have n0_ := Aside0.mk (below_step (by repeat (first | (with_reducible first | exact HB.out | apply below_alloc | apply pw_below_drewN | apply below_drew1) | exact HB.out)) hb); clear HB; have HB := n0_; clear n0_; (try clear hb); (try clear hb2); (try clear hk); (try clear hi)))
              go_ret
              exact ⟨by first | rfl | (simp [errW_none, errW_some] <;> rfl) | (simp [*, errW_none, errW_some] <;> rfl), by repeat (first | (with_reducible first | exact HB.out | apply below_alloc | apply pw_below_drewN | apply below_drew1) | exact HB.out)⟩
            · replace c20 := Bool.eq_false_iff.mpr c20
              subst c20
              have H1 : ((impl_RecBytes.f kj7 t190).bind fun t196 => ((impl_RecBytes.f kj7 t191).bind fun t197 => (if t196.size + t197.size ≤ 9223372036854775807 then ((impl_RecsOf.f kj7 (t196 ++ t197)).bind fun bt198 => (if bt198.2.2 = 0 then (if (bt198.1.length : Int) = 2 then (if 0 < (bt198.1.length : Int) then (if (rdOf ByteArray.empty bt198.1 0).toList = t190.toList then (if 1 < (bt198.1.length : Int) then (if (rdOf ByteArray.empty bt198.1 1).toList = t191.toList then (laws_FnRecs.j2 kj7 l0 l1 t190 t191 t196 t197 (bt198.2.1 != (wrap64 ((t196.size : Int) + (t197.size : Int))))) else (laws_FnRecs.j2 kj7 l0 l1 t190 t191 t196 t197 true)) else (none)) else (laws_FnRecs.j2 kj7 l0 l1 t190 t191 t196 t197 true)) else (none)) else (laws_FnRecs.j2 kj7 l0 l1 t190 t191 t196 t197 true)) else (laws_FnRecs.j2 kj7 l0 l1 t190 t191 t196 t197 true))) else (none)))) = some r := by rw [if_neg (show ¬ (false = true) by decide)] at H; exact H
              clear H
              have H := H1
              clear H1
              replace H := Option.bind_eq_some_iff.mp H
              obtain ⟨t196, A250, H⟩ := H
              replace H : ((impl_RecBytes.f kj7 t191).bind fun t197 => (if t196.size + t197.size ≤ 9223372036854775807 then ((impl_RecsOf.f kj7 (t196 ++ t197)).bind fun bt198 => (if bt198.2.2 = 0 then (if (bt198.1.length : Int) = 2 then (if 0 < (bt198.1.length : Int) then (if (rdOf ByteArray.empty bt198.1 0).toList = t190.toList then (if 1 < (bt198.1.length : Int) then (if (rdOf ByteArray.empty bt198.1 1).toList = t191.toList then (laws_FnRecs.j2 kj7 l0 l1 t190 t191 t196 t197 (bt198.2.1 != (wrap64 ((t196.size : Int) + (t197.size : Int))))) else (laws_FnRecs.j2 kj7 l0 l1 t190 t191 t196 t197 true)) else (none)) else (laws_FnRecs.j2 kj7 l0 l1 t190 t191 t196 t197 true)) else (none)) else (laws_FnRecs.j2 kj7 l0 l1 t190 t191 t196 t197 true)) else (laws_FnRecs.j2 kj7 l0 l1 t190 t191 t196 t197 true))) else (none))) = some r := H
              have A25 := Aside0.mk A250
              clear A250
              replace H := Option.bind_eq_some_iff.mp H
              obtain ⟨t197, A260, H⟩ := H
              replace H : (if t196.size + t197.size ≤ 9223372036854775807 then ((impl_RecsOf.f kj7 (t196 ++ t197)).bind fun bt198 => (if bt198.2.2 = 0 then (if (bt198.1.length : Int) = 2 then (if 0 < (bt198.1.length : Int) then (if (rdOf ByteArray.empty bt198.1 0).toList = t190.toList then (if 1 < (bt198.1.length : Int) then (if (rdOf ByteArray.empty bt198.1 1).toList = t191.toList then (laws_FnRecs.j2 kj7 l0 l1 t190 t191 t196 t197 (bt198.2.1 != (wrap64 ((t196.size : Int) + (t197.size : Int))))) else (laws_FnRecs.j2 kj7 l0 l1 t190 t191 t196 t197 true)) else (none)) else (laws_FnRecs.j2 kj7 l0 l1 t190 t191 t196 t197 true)) else (none)) else (laws_FnRecs.j2 kj7 l0 l1 t190 t191 t196 t197 true)) else (laws_FnRecs.j2 kj7 l0 l1 t190 t191 t196 t197 true))) else (none)) = some r := H
              have A26 := Aside0.mk A260
              clear A260
              by_cases c27 : t196.size + t197.size ≤ 9223372036854775807
              · rw [if_pos c27] at H
                have c27b0 := eq_true c27
                have c27b1 : decide (t196.size + t197.size ≤ 9223372036854775807) = true := decide_eq_true c27
                try have c27b2 : (9223372036854775807 < t196.size + t197.size) = False := eq_false (Nat.not_lt.2 c27)
                replace H := Option.bind_eq_some_iff.mp H
                obtain ⟨⟨t198, t201, t202⟩, A280, H⟩ := H
                replace H : (if t202 = 0 then (if (t198.length : Int) = 2 then (if 0 < (t198.length : Int) then (if (rdOf ByteArray.empty t198 0).toList = t190.toList then (if 1 < (t198.length : Int) then (if (rdOf ByteArray.empty t198 1).toList = t191.toList then (laws_FnRecs.j2 kj7 l0 l1 t190 t191 t196 t197 (t201 != (wrap64 ((t196.size : Int) + (t197.size : Int))))) else (laws_FnRecs.j2 kj7 l0 l1 t190 t191 t196 t197 true)) else (none)) else (laws_FnRecs.j2 kj7 l0 l1 t190 t191 t196 t197 true)) else (none)) else (laws_FnRecs.j2 kj7 l0 l1 t190 t191 t196 t197 true)) else (laws_FnRecs.j2 kj7 l0 l1 t190 t191 t196 t197 true)) = some r := H
                have A28 := Aside0.mk A280
                clear A280
                have HC29 := Aside0.mk H
                clear H
                go_upto_region 10 with (first | ((with_reducible refine gate_callee (f := 6) rfl ?_); refine goesL_ (some 51) rfl rfl Try.func6 (by kernel_rfl) rfl #[.string t190] rfl (by (try simp only [List.map_toArray, List.map_cons, List.map_nil]); first | done | rfl | (simp only [List.length_drop, List.length_take]; rfl)) ?_; (with_reducible refine (impl_RecBytes.calls kj7 t190 t196 _ A25.out).mono ?_); rintro e w30 ⟨rfl, hb⟩; refine ⟨_, rfl, ?_⟩; have n0_ := Aside0.mk (below_step (by repeat (first | (with_reducible first | exact HB.out | apply below_alloc | apply pw_below_drewN | apply below_drew1) | exact HB.out)) hb); clear HB; have HB := n0_; clear n0_; (try clear hb); (try clear hb2); (try clear hk); (try clear hi)) | ((with_reducible refine gate_callee (f := 6) rfl ?_); refine goesL_ (some 53) rfl rfl Try.func6 (by kernel_rfl) rfl #[.string t191] rfl (by (try simp only [List.map_toArray, List.map_cons, List.map_nil]); first | done | rfl | (simp only [List.length_drop, List.length_take]; rfl)) ?_; (with_reducible refine (impl_RecBytes.calls kj7 t191 t197 _ A26.out).mono ?_); rintro e w31 ⟨rfl, hb⟩; refine ⟨_, rfl, ?_⟩; have n0_ := Aside0.mk (below_step (by repeat (first | (with_reducible first | exact HB.out | apply below_alloc | apply pw_below_drewN | apply below_drew1) | exact HB.out)) hb); clear HB; have HB := n0_; clear n0_; (try clear hb); (try clear hb2); (try clear hk); (try clear hi)) | ((with_reducible refine gate_callee (f := 7) rfl ?_); refine goesL_ (some 57) rfl rfl Try.func7 (by kernel_rfl) rfl #[.string (t196 ++ t197)] rfl (by (try simp only [List.map_toArray, List.map_cons, List.map_nil]); first | done | rfl | (simp only [List.length_drop, List.length_take]; rfl)) ?_; (with_reducible refine (impl_RecsOf.calls kj7 (t196 ++ t197) t198 t201 t202 _ A28.out).mono ?_); rintro e w32 ⟨v199, rfl, ho0, hb⟩; refine ⟨_, rfl, ?_⟩; have n0_ := Aside0.mk (Kd.R_lower ho0 (below_size (by repeat (first | (with_reducible first | exact HB.out | apply below_alloc | apply pw_below_drewN | apply below_drew1) | exact HB.out)))); have n1_ := Aside0.mk (below_step (by repeat (first | (with_reducible first | exact HB.out | apply below_alloc | apply pw_below_drewN | apply below_drew1) | exact HB.out)) hb); clear HB; have HO200 := n0_; have HB := n1_; clear n0_ n1_; (try clear hb); (try clear hb2); (try clear hk); (try clear hi); (try clear ho0)) | ((with_reducible refine gate_dst (N := 9) rfl ?_); (try (refine gate_guard (by rfl) ?_; dsimp only)); refine box_event ?hg (N := 9) ?hd (cs := #[.slice none 0 0, .int .i64 0, .int .i64 0]) (t := 27) ?hr ?_; (case hd => rfl); (case hg => rfl); (case hr => first | (go_simp; done) | (go_simp; rfl)); intro gb203 hg w33 hbox hb; have n0_ := Aside0.mk (Kd.R_below (by (with_reducible repeat (first | apply Kd.R_alloc | apply Kd.R_drewN | apply Kd.R_drew)); exact HO200.out) hb); have n1_ := Aside0.mk (below_step (by repeat (first | (with_reducible first | exact HB.out | apply below_alloc | apply pw_below_drewN | apply below_drew1) | exact HB.out)) hb); have n2_ := Aside0.mk (hbox); have n3_ := Aside0.mk ((by rw [hg]; exact (below_size (by repeat (first | (with_reducible first | exact HB.out | apply below_alloc | apply pw_below_drewN | apply below_drew1) | exact HB.out))) : w.heap.size ≤ gb203)); have n4_ := Aside0.mk ((by rw [hg]; exact (below_size (by repeat (first | (with_reducible first | exact HB.out | apply below_alloc | apply pw_below_drewN | apply below_drew1) | exact HB.out))) : w.heap.size ≤ gb203)); clear HO200; clear HB; have HO200 := n0_; have HB := n1_; have BK203 := n2_; have GW203 := n3_; have GE203 := n4_; clear n0_ n1_ n2_ n3_ n4_; clear hb hbox hg; obtain ⟨Ao34, co34, eo34⟩ := Kd.R_slice HO200.out; subst eo34; have hcz35_0 : w33.cell? ⟨gb203, 0, none⟩ = some (.slice none 0 0) := (blk_cell BK203.out 0).trans rfl; have hcz35_1 : w33.cell? ⟨gb203, 1, none⟩ = some (.int .i64 0) := (blk_cell BK203.out 1).trans rfl; have hcz35_2 : w33.cell? ⟨gb203, 2, none⟩ = some (.int .i64 0) := (blk_cell BK203.out 2).trans rfl; have hfz35_0 := blk_frozen BK203.out 0; have hfz35_1 := blk_frozen BK203.out 1; have hfz35_2 := blk_frozen BK203.out 2))
                (try simp only [Act.put, List.setIfInBounds_toArray, List.set_cons_zero, List.set_cons_succ])
                go_cut [92] (fun v92 wc => ∃ (kq : Nat) (x92_28 : Bool), v92 = .bool x92_28 ∧ Aside0 (laws_FnRecs.j2 kq l0 l1 t190 t191 t196 t197 x92_28 = some r) ∧ Aside0 (kq ≤ kj7) ∧ Aside0 (Kd.R Kd.string 9 wc w.heap.size (fun _ => True) (.slice Ao34 t198.length co34) t198) ∧ Aside0 (wc.heap[gb203]? = some (.cells #[(.slice Ao34 t198.length co34), .int .i64 t201, .int .i64 t202] 27 (0, 0))) ∧ Aside0 (Below w.heap.size w wc))
                case first =>
                  have H := HC29.out
                  clear HC29
                  by_cases c36 : t202 = 0
                  · rw [if_pos c36] at H
                    have c36b0 : (t202 == 0) = true := beq_iff_eq.mpr c36
                    have c36b1 : (t202 != 0) = false := bne_eq_false_iff_eq.mpr c36
                    clear c36
                    (first | rw [c36b0] | (simp only [i64_w, i32_w]; rw [c36b0]) | skip)
                    by_cases c37 : (t198.length : Int) = 2
                    · rw [if_pos c37] at H
                      have c37b0 : ((t198.length : Int) == 2) = true := beq_iff_eq.mpr c37
                      have c37b1 : ((t198.length : Int) != 2) = false := bne_eq_false_iff_eq.mpr c37
                      clear c37
                      by_cases c38 : 0 < (t198.length : Int)
                      · rw [if_pos c38] at H
                        have c38b0 : decide (0 < (t198.length : Int)) = true := decide_eq_true c38
                        have c38b1 : decide (0 < t198.length) = true := decide_eq_true (by omega)
                        clear c38
                        by_cases c39 : (rdOf ByteArray.empty t198 0).toList = t190.toList
                        · rw [if_pos c39] at H
                          have c39b0 : ((rdOf ByteArray.empty t198 0).toList == t190.toList) = true := beq_iff_eq.mpr c39
                          have c39b1 : ((rdOf ByteArray.empty t198 0).toList != t190.toList) = false := bne_eq_false_iff_eq.mpr c39
                          clear c39
                          by_cases c40 : 1 < (t198.length : Int)
                          · rw [if_pos c40] at H
                            have c40b0 : decide (1 < (t198.length : Int)) = true := decide_eq_true c40
                            have c40b1 : decide (1 < t198.length) = true := decide_eq_true (by omega)
                            clear c40
                            by_cases c41 : (rdOf ByteArray.empty t198 1).toList = t191.toList
                            · rw [if_pos c41] at H
                              have c41b0 : ((rdOf ByteArray.empty t198 1).toList == t191.toList) = true := beq_iff_eq.mpr c41
                              have c41b1 : ((rdOf ByteArray.empty t198 1).toList != t191.toList) = false := bne_eq_false_iff_eq.mpr c41
                              clear c41
                              have H' := Aside0.mk H
                              clear H
                              have hcz42_0 : w33.cell? ⟨gb203, 0, none⟩ = some (.slice none 0 0) := (blk_cell BK203.out 0).trans rfl
                              have hcz42_1 : w33.cell? ⟨gb203, 1, none⟩ = some (.int .i64 0) := (blk_cell BK203.out 1).trans rfl
                              have hcz42_2 : w33.cell? ⟨gb203, 2, none⟩ = some (.int .i64 0) := (blk_cell BK203.out 2).trans rfl
                              have hfz42_0 := blk_frozen BK203.out 0
                              have hfz42_1 := blk_frozen BK203.out 1
                              have hfz42_2 := blk_frozen BK203.out 2
                              have p204 : 0 ≤ (0 : Int) := (by omega)
                              have q204 : 0 < (t198.length : Int) := of_decide_eq_true (by first | (with_reducible assumption) | assumption)
                              obtain ⟨ad204, e204, hx204_0⟩ := Kd.at_string (Kd.R_reads' HO200.out).2.2 0 p204 q204
                              cases e204
                              have qi204 : (0 < t198.length) = True := eq_true (by omega)
                              (try rw [show ((0 : Int)).toNat = 0 from rfl] at hx204_0)
                              (try rw [Addr.add_zero'] at hx204_0)
                              have hn204_0 : ad204.block ≠ gb203 := Kd.own_blk (Kd.R_ne HO200.out BK203.out (by decide))
                              have hn204_1 : ad204.block ≠ gb203 := Kd.own_blk (Kd.R_ne HO200.out BK203.out (by decide))
                              have hn204_2 : ad204.block ≠ gb203 := Kd.own_blk (Kd.R_ne HO200.out BK203.out (by decide))
                              replace hx204_0 := (cell_far (p := ⟨gb203, 0, none⟩) (by first | (rw [add_block]; exact hn204_0) | (show (Addr.add _ _).block ≠ _; rw [add_block]; exact hn204_0) | exact hn204_0) (.slice (some ad204) t198.length co34)).trans hx204_0
                              replace hx204_0 := (cell_far (p := ⟨gb203, 1, none⟩) (by first | (rw [add_block]; exact hn204_1) | (show (Addr.add _ _).block ≠ _; rw [add_block]; exact hn204_1) | exact hn204_1) (.int .i64 t201)).trans hx204_0
                              replace hx204_0 := (cell_far (p := ⟨gb203, 2, none⟩) (by first | (rw [add_block]; exact hn204_2) | (show (Addr.add _ _).block ≠ _; rw [add_block]; exact hn204_2) | exact hn204_2) (.int .i64 t202)).trans hx204_0
                              clear hn204_0
                              clear hn204_1
                              clear hn204_2
                              replace p204 := eq_true p204
                              replace q204 := eq_true q204
                              have p205 : 0 ≤ (1 : Int) := (by omega)
                              have q205 : 1 < (t198.length : Int) := of_decide_eq_true (by first | (with_reducible assumption) | assumption)
                              obtain ⟨ad205, e205, hx205_0⟩ := Kd.at_string (Kd.R_reads' HO200.out).2.2 1 p205 q205
                              obtain rfl : ad204 = ad205 := (by injection e205)
                              (try simp only [show (1 : Int).toNat = 1 from rfl, Nat.reduceMul, Nat.reduceEqDiff, Go.Addr.add, ↓reduceIte] at hx205_0)
                              have qi205 : (1 < t198.length) = True := eq_true (by omega)
                              (try rw [show ((1 : Int)).toNat = 1 from rfl] at hx205_0)
                              have hn205_0 : ad204.block ≠ gb203 := Kd.own_blk (Kd.R_ne HO200.out BK203.out (by decide))
                              have hn205_1 : ad204.block ≠ gb203 := Kd.own_blk (Kd.R_ne HO200.out BK203.out (by decide))
                              have hn205_2 : ad204.block ≠ gb203 := Kd.own_blk (Kd.R_ne HO200.out BK203.out (by decide))
                              replace hx205_0 := (cell_far (p := ⟨gb203, 0, none⟩) (by first | (rw [add_block]; exact hn205_0) | (show (Addr.add _ _).block ≠ _; rw [add_block]; exact hn205_0) | exact hn205_0) (.slice (some ad204) t198.length co34)).trans hx205_0
                              replace hx205_0 := (cell_far (p := ⟨gb203, 1, none⟩) (by first | (rw [add_block]; exact hn205_1) | (show (Addr.add _ _).block ≠ _; rw [add_block]; exact hn205_1) | exact hn205_1) (.int .i64 t201)).trans hx205_0
                              replace hx205_0 := (cell_far (p := ⟨gb203, 2, none⟩) (by first | (rw [add_block]; exact hn205_2) | (show (Addr.add _ _).block ≠ _; rw [add_block]; exact hn205_2) | exact hn205_2) (.int .i64 t202)).trans hx205_0
                              clear hn205_0
                              clear hn205_1
                              clear hn205_2
                              replace p205 := eq_true p205
                              replace q205 := eq_true q205
                              go_wp2
                              go_meet
                              case rel => exact ⟨_, ((t201 != (wrap64 ((t196.size : Int) + (t197.size : Int))))), (by first | rfl | (have h_ := of_decide_eq_true c27b1; rw [show wrap64 ((t196.size : Int) + (t197.size : Int)) = (t196.size : Int) + (t197.size : Int) from by unfold wrap64; omega]) | (simp; done) | (simp [*]; done)), H', ⟨by have := HJ2.out; have := HJ7.out; first | omega | exact Nat.le_refl _⟩, ⟨by (with_reducible repeat (first | apply Kd.R_alloc | apply Kd.R_drewN | apply Kd.R_drew)); exact Kd.R_mono (Kd.R_far (p := ⟨gb203, 2, none⟩) (Kd.R_far (p := ⟨gb203, 1, none⟩) (Kd.R_far (p := ⟨gb203, 0, none⟩) (Kd.R_types HO200.out BK203.out (by decide)) (fun _ hk => hk.2) (.slice (some ad204) t198.length co34)) (fun _ hk => hk.2) (.int .i64 t201)) (fun _ hk => hk.2) (.int .i64 t202)) (fun _ hk => trivial)⟩, ⟨by (with_reducible repeat (first | refine blk_drewN ?_ _ | refine blk_drew ?_ | refine blk_alloc ?_ _)); refine blk_put (cs := #[.slice (some ad204) t198.length co34, .int .i64 t201, .int .i64 0]) ?_ 2 _ rfl; (with_reducible repeat (first | refine blk_drewN ?_ _ | refine blk_drew ?_ | refine blk_alloc ?_ _)); refine blk_put (cs := #[.slice (some ad204) t198.length co34, .int .i64 0, .int .i64 0]) ?_ 1 _ rfl; (with_reducible repeat (first | refine blk_drewN ?_ _ | refine blk_drew ?_ | refine blk_alloc ?_ _)); refine blk_put (cs := #[.slice none 0 0, .int .i64 0, .int .i64 0]) ?_ 0 _ rfl; (with_reducible repeat (first | refine blk_drewN ?_ _ | refine blk_drew ?_ | refine blk_alloc ?_ _)); exact BK203.out⟩, ⟨by repeat (first | (with_reducible first | exact HB.out | apply below_alloc | apply pw_below_drewN | apply below_drew1 | refine below_set ?_ GE203.out) | exact HB.out)⟩⟩
                            · rw [if_neg c41] at H
                              have c41b0 : ((rdOf ByteArray.empty t198 1).toList == t191.toList) = false := beq_eq_false_iff_ne.mpr c41
                              have c41b1 : ((rdOf ByteArray.empty t198 1).toList != t191.toList) = true := bne_iff_ne.mpr c41
                              have H' := Aside0.mk H
                              clear H
                              have hcz43_0 : w33.cell? ⟨gb203, 0, none⟩ = some (.slice none 0 0) := (blk_cell BK203.out 0).trans rfl
                              have hcz43_1 : w33.cell? ⟨gb203, 1, none⟩ = some (.int .i64 0) := (blk_cell BK203.out 1).trans rfl
                              have hcz43_2 : w33.cell? ⟨gb203, 2, none⟩ = some (.int .i64 0) := (blk_cell BK203.out 2).trans rfl
                              have hfz43_0 := blk_frozen BK203.out 0
                              have hfz43_1 := blk_frozen BK203.out 1
                              have hfz43_2 := blk_frozen BK203.out 2
                              have p204 : 0 ≤ (0 : Int) := (by omega)
                              have q204 : 0 < (t198.length : Int) := of_decide_eq_true (by first | (with_reducible assumption) | assumption)
                              obtain ⟨ad204, e204, hx204_0⟩ := Kd.at_string (Kd.R_reads' HO200.out).2.2 0 p204 q204
                              cases e204
                              have qi204 : (0 < t198.length) = True := eq_true (by omega)
                              (try rw [show ((0 : Int)).toNat = 0 from rfl] at hx204_0)
                              (try rw [Addr.add_zero'] at hx204_0)
                              have hn204_0 : ad204.block ≠ gb203 := Kd.own_blk (Kd.R_ne HO200.out BK203.out (by decide))
                              have hn204_1 : ad204.block ≠ gb203 := Kd.own_blk (Kd.R_ne HO200.out BK203.out (by decide))
                              have hn204_2 : ad204.block ≠ gb203 := Kd.own_blk (Kd.R_ne HO200.out BK203.out (by decide))
                              replace hx204_0 := (cell_far (p := ⟨gb203, 0, none⟩) (by first | (rw [add_block]; exact hn204_0) | (show (Addr.add _ _).block ≠ _; rw [add_block]; exact hn204_0) | exact hn204_0) (.slice (some ad204) t198.length co34)).trans hx204_0
                              replace hx204_0 := (cell_far (p := ⟨gb203, 1, none⟩) (by first | (rw [add_block]; exact hn204_1) | (show (Addr.add _ _).block ≠ _; rw [add_block]; exact hn204_1) | exact hn204_1) (.int .i64 t201)).trans hx204_0
                              replace hx204_0 := (cell_far (p := ⟨gb203, 2, none⟩) (by first | (rw [add_block]; exact hn204_2) | (show (Addr.add _ _).block ≠ _; rw [add_block]; exact hn204_2) | exact hn204_2) (.int .i64 t202)).trans hx204_0
                              clear hn204_0
                              clear hn204_1
                              clear hn204_2
                              replace p204 := eq_true p204
                              replace q204 := eq_true q204
                              have p205 : 0 ≤ (1 : Int) := (by omega)
                              have q205 : 1 < (t198.length : Int) := of_decide_eq_true (by first | (with_reducible assumption) | assumption)
                              obtain ⟨ad205, e205, hx205_0⟩ := Kd.at_string (Kd.R_reads' HO200.out).2.2 1 p205 q205
                              obtain rfl : ad204 = ad205 := (by injection e205)
                              (try simp only [show (1 : Int).toNat = 1 from rfl, Nat.reduceMul, Nat.reduceEqDiff, Go.Addr.add, ↓reduceIte] at hx205_0)
                              have qi205 : (1 < t198.length) = True := eq_true (by omega)
                              (try rw [show ((1 : Int)).toNat = 1 from rfl] at hx205_0)
                              have hn205_0 : ad204.block ≠ gb203 := Kd.own_blk (Kd.R_ne HO200.out BK203.out (by decide))
                              have hn205_1 : ad204.block ≠ gb203 := Kd.own_blk (Kd.R_ne HO200.out BK203.out (by decide))
                              have hn205_2 : ad204.block ≠ gb203 := Kd.own_blk (Kd.R_ne HO200.out BK203.out (by decide))
                              replace hx205_0 := (cell_far (p := ⟨gb203, 0, none⟩) (by first | (rw [add_block]; exact hn205_0) | (show (Addr.add _ _).block ≠ _; rw [add_block]; exact hn205_0) | exact hn205_0) (.slice (some ad204) t198.length co34)).trans hx205_0
                              replace hx205_0 := (cell_far (p := ⟨gb203, 1, none⟩) (by first | (rw [add_block]; exact hn205_1) | (show (Addr.add _ _).block ≠ _; rw [add_block]; exact hn205_1) | exact hn205_1) (.int .i64 t201)).trans hx205_0
                              replace hx205_0 := (cell_far (p := ⟨gb203, 2, none⟩) (by first | (rw [add_block]; exact hn205_2) | (show (Addr.add _ _).block ≠ _; rw [add_block]; exact hn205_2) | exact hn205_2) (.int .i64 t202)).trans hx205_0
                              clear hn205_0
                              clear hn205_1
                              clear hn205_2
                              replace p205 := eq_true p205
                              replace q205 := eq_true q205
                              go_wp2
                              go_meet
                              case rel => exact ⟨_, (true), (by first | rfl | (simp; done) | (simp [*]; done)), H', ⟨by have := HJ2.out; have := HJ7.out; first | omega | exact Nat.le_refl _⟩, ⟨by (with_reducible repeat (first | apply Kd.R_alloc | apply Kd.R_drewN | apply Kd.R_drew)); exact Kd.R_mono (Kd.R_far (p := ⟨gb203, 2, none⟩) (Kd.R_far (p := ⟨gb203, 1, none⟩) (Kd.R_far (p := ⟨gb203, 0, none⟩) (Kd.R_types HO200.out BK203.out (by decide)) (fun _ hk => hk.2) (.slice (some ad204) t198.length co34)) (fun _ hk => hk.2) (.int .i64 t201)) (fun _ hk => hk.2) (.int .i64 t202)) (fun _ hk => trivial)⟩, ⟨by (with_reducible repeat (first | refine blk_drewN ?_ _ | refine blk_drew ?_ | refine blk_alloc ?_ _)); refine blk_put (cs := #[.slice (some ad204) t198.length co34, .int .i64 t201, .int .i64 0]) ?_ 2 _ rfl; (with_reducible repeat (first | refine blk_drewN ?_ _ | refine blk_drew ?_ | refine blk_alloc ?_ _)); refine blk_put (cs := #[.slice (some ad204) t198.length co34, .int .i64 0, .int .i64 0]) ?_ 1 _ rfl; (with_reducible repeat (first | refine blk_drewN ?_ _ | refine blk_drew ?_ | refine blk_alloc ?_ _)); refine blk_put (cs := #[.slice none 0 0, .int .i64 0, .int .i64 0]) ?_ 0 _ rfl; (with_reducible repeat (first | refine blk_drewN ?_ _ | refine blk_drew ?_ | refine blk_alloc ?_ _)); exact BK203.out⟩, ⟨by repeat (first | (with_reducible first | exact HB.out | apply below_alloc | apply pw_below_drewN | apply below_drew1 | refine below_set ?_ GE203.out) | exact HB.out)⟩⟩
                          · rw [if_neg c40] at H
                            exact absurd H (by simp)
                        · rw [if_neg c39] at H
                          have c39b0 : ((rdOf ByteArray.empty t198 0).toList == t190.toList) = false := beq_eq_false_iff_ne.mpr c39
                          have c39b1 : ((rdOf ByteArray.empty t198 0).toList != t190.toList) = true := bne_iff_ne.mpr c39
                          have H' := Aside0.mk H
                          clear H
                          have hcz44_0 : w33.cell? ⟨gb203, 0, none⟩ = some (.slice none 0 0) := (blk_cell BK203.out 0).trans rfl
                          have hcz44_1 : w33.cell? ⟨gb203, 1, none⟩ = some (.int .i64 0) := (blk_cell BK203.out 1).trans rfl
                          have hcz44_2 : w33.cell? ⟨gb203, 2, none⟩ = some (.int .i64 0) := (blk_cell BK203.out 2).trans rfl
                          have hfz44_0 := blk_frozen BK203.out 0
                          have hfz44_1 := blk_frozen BK203.out 1
                          have hfz44_2 := blk_frozen BK203.out 2
                          have p204 : 0 ≤ (0 : Int) := (by omega)
                          have q204 : 0 < (t198.length : Int) := of_decide_eq_true (by first | (with_reducible assumption) | assumption)
                          obtain ⟨ad204, e204, hx204_0⟩ := Kd.at_string (Kd.R_reads' HO200.out).2.2 0 p204 q204
                          cases e204
                          have qi204 : (0 < t198.length) = True := eq_true (by omega)
                          (try rw [show ((0 : Int)).toNat = 0 from rfl] at hx204_0)
                          (try rw [Addr.add_zero'] at hx204_0)
                          have hn204_0 : ad204.block ≠ gb203 := Kd.own_blk (Kd.R_ne HO200.out BK203.out (by decide))
                          have hn204_1 : ad204.block ≠ gb203 := Kd.own_blk (Kd.R_ne HO200.out BK203.out (by decide))
                          have hn204_2 : ad204.block ≠ gb203 := Kd.own_blk (Kd.R_ne HO200.out BK203.out (by decide))
                          replace hx204_0 := (cell_far (p := ⟨gb203, 0, none⟩) (by first | (rw [add_block]; exact hn204_0) | (show (Addr.add _ _).block ≠ _; rw [add_block]; exact hn204_0) | exact hn204_0) (.slice (some ad204) t198.length co34)).trans hx204_0
                          replace hx204_0 := (cell_far (p := ⟨gb203, 1, none⟩) (by first | (rw [add_block]; exact hn204_1) | (show (Addr.add _ _).block ≠ _; rw [add_block]; exact hn204_1) | exact hn204_1) (.int .i64 t201)).trans hx204_0
                          replace hx204_0 := (cell_far (p := ⟨gb203, 2, none⟩) (by first | (rw [add_block]; exact hn204_2) | (show (Addr.add _ _).block ≠ _; rw [add_block]; exact hn204_2) | exact hn204_2) (.int .i64 t202)).trans hx204_0
                          clear hn204_0
                          clear hn204_1
                          clear hn204_2
                          replace p204 := eq_true p204
                          replace q204 := eq_true q204
                          go_wp2
                          go_meet
                          case rel => exact ⟨_, (true), (by first | rfl | (simp; done) | (simp [*]; done)), H', ⟨by have := HJ2.out; have := HJ7.out; first | omega | exact Nat.le_refl _⟩, ⟨by (with_reducible repeat (first | apply Kd.R_alloc | apply Kd.R_drewN | apply Kd.R_drew)); exact Kd.R_mono (Kd.R_far (p := ⟨gb203, 2, none⟩) (Kd.R_far (p := ⟨gb203, 1, none⟩) (Kd.R_far (p := ⟨gb203, 0, none⟩) (Kd.R_types HO200.out BK203.out (by decide)) (fun _ hk => hk.2) (.slice (some ad204) t198.length co34)) (fun _ hk => hk.2) (.int .i64 t201)) (fun _ hk => hk.2) (.int .i64 t202)) (fun _ hk => trivial)⟩, ⟨by (with_reducible repeat (first | refine blk_drewN ?_ _ | refine blk_drew ?_ | refine blk_alloc ?_ _)); refine blk_put (cs := #[.slice (some ad204) t198.length co34, .int .i64 t201, .int .i64 0]) ?_ 2 _ rfl; (with_reducible repeat (first | refine blk_drewN ?_ _ | refine blk_drew ?_ | refine blk_alloc ?_ _)); refine blk_put (cs := #[.slice (some ad204) t198.length co34, .int .i64 0, .int .i64 0]) ?_ 1 _ rfl; (with_reducible repeat (first | refine blk_drewN ?_ _ | refine blk_drew ?_ | refine blk_alloc ?_ _)); refine blk_put (cs := #[.slice none 0 0, .int .i64 0, .int .i64 0]) ?_ 0 _ rfl; (with_reducible repeat (first | refine blk_drewN ?_ _ | refine blk_drew ?_ | refine blk_alloc ?_ _)); exact BK203.out⟩, ⟨by repeat (first | (with_reducible first | exact HB.out | apply below_alloc | apply pw_below_drewN | apply below_drew1 | refine below_set ?_ GE203.out) | exact HB.out)⟩⟩
                      · rw [if_neg c38] at H
                        exact absurd H (by simp)
                    · rw [if_neg c37] at H
                      have c37b0 : ((t198.length : Int) == 2) = false := beq_eq_false_iff_ne.mpr c37
                      have c37b1 : ((t198.length : Int) != 2) = true := bne_iff_ne.mpr c37
                      have H' := Aside0.mk H
                      clear H
                      have hcz45_0 : w33.cell? ⟨gb203, 0, none⟩ = some (.slice none 0 0) := (blk_cell BK203.out 0).trans rfl
                      have hcz45_1 : w33.cell? ⟨gb203, 1, none⟩ = some (.int .i64 0) := (blk_cell BK203.out 1).trans rfl
                      have hcz45_2 : w33.cell? ⟨gb203, 2, none⟩ = some (.int .i64 0) := (blk_cell BK203.out 2).trans rfl
                      have hfz45_0 := blk_frozen BK203.out 0
                      have hfz45_1 := blk_frozen BK203.out 1
                      have hfz45_2 := blk_frozen BK203.out 2
                      go_wp2
                      go_meet
                      case rel => exact ⟨_, (true), (by first | rfl | (simp; done) | (simp [*]; done)), H', ⟨by have := HJ2.out; have := HJ7.out; first | omega | exact Nat.le_refl _⟩, ⟨by (with_reducible repeat (first | apply Kd.R_alloc | apply Kd.R_drewN | apply Kd.R_drew)); exact Kd.R_mono (Kd.R_far (p := ⟨gb203, 2, none⟩) (Kd.R_far (p := ⟨gb203, 1, none⟩) (Kd.R_far (p := ⟨gb203, 0, none⟩) (Kd.R_types HO200.out BK203.out (by decide)) (fun _ hk => hk.2) (.slice Ao34 t198.length co34)) (fun _ hk => hk.2) (.int .i64 t201)) (fun _ hk => hk.2) (.int .i64 t202)) (fun _ hk => trivial)⟩, ⟨by (with_reducible repeat (first | refine blk_drewN ?_ _ | refine blk_drew ?_ | refine blk_alloc ?_ _)); refine blk_put (cs := #[.slice Ao34 t198.length co34, .int .i64 t201, .int .i64 0]) ?_ 2 _ rfl; (with_reducible repeat (first | refine blk_drewN ?_ _ | refine blk_drew ?_ | refine blk_alloc ?_ _)); refine blk_put (cs := #[.slice Ao34 t198.length co34, .int .i64 0, .int .i64 0]) ?_ 1 _ rfl; (with_reducible repeat (first | refine blk_drewN ?_ _ | refine blk_drew ?_ | refine blk_alloc ?_ _)); refine blk_put (cs := #[.slice none 0 0, .int .i64 0, .int .i64 0]) ?_ 0 _ rfl; (with_reducible repeat (first | refine blk_drewN ?_ _ | refine blk_drew ?_ | refine blk_alloc ?_ _)); exact BK203.out⟩, ⟨by repeat (first | (with_reducible first | exact HB.out | apply below_alloc | apply pw_below_drewN | apply below_drew1 | refine below_set ?_ GE203.out) | exact HB.out)⟩⟩
                  · rw [if_neg c36] at H
                    have c36b0 : (t202 == 0) = false := beq_eq_false_iff_ne.mpr c36
                    have c36b1 : (t202 != 0) = true := bne_iff_ne.mpr c36
                    (first | rw [c36b0] | (simp only [i64_w, i32_w]; rw [c36b0]) | skip)
                    have H' := Aside0.mk H
                    clear H
                    have hcz46_0 : w33.cell? ⟨gb203, 0, none⟩ = some (.slice none 0 0) := (blk_cell BK203.out 0).trans rfl
                    have hcz46_1 : w33.cell? ⟨gb203, 1, none⟩ = some (.int .i64 0) := (blk_cell BK203.out 1).trans rfl
                    have hcz46_2 : w33.cell? ⟨gb203, 2, none⟩ = some (.int .i64 0) := (blk_cell BK203.out 2).trans rfl
                    have hfz46_0 := blk_frozen BK203.out 0
                    have hfz46_1 := blk_frozen BK203.out 1
                    have hfz46_2 := blk_frozen BK203.out 2
                    go_wp2
                    go_meet
                    case rel => exact ⟨_, (true), (by first | rfl | (simp; done) | (simp [*]; done)), H', ⟨by have := HJ2.out; have := HJ7.out; first | omega | exact Nat.le_refl _⟩, ⟨by (with_reducible repeat (first | apply Kd.R_alloc | apply Kd.R_drewN | apply Kd.R_drew)); exact Kd.R_mono (Kd.R_far (p := ⟨gb203, 2, none⟩) (Kd.R_far (p := ⟨gb203, 1, none⟩) (Kd.R_far (p := ⟨gb203, 0, none⟩) (Kd.R_types HO200.out BK203.out (by decide)) (fun _ hk => hk.2) (.slice Ao34 t198.length co34)) (fun _ hk => hk.2) (.int .i64 t201)) (fun _ hk => hk.2) (.int .i64 t202)) (fun _ hk => trivial)⟩, ⟨by (with_reducible repeat (first | refine blk_drewN ?_ _ | refine blk_drew ?_ | refine blk_alloc ?_ _)); refine blk_put (cs := #[.slice Ao34 t198.length co34, .int .i64 t201, .int .i64 0]) ?_ 2 _ rfl; (with_reducible repeat (first | refine blk_drewN ?_ _ | refine blk_drew ?_ | refine blk_alloc ?_ _)); refine blk_put (cs := #[.slice Ao34 t198.length co34, .int .i64 0, .int .i64 0]) ?_ 1 _ rfl; (with_reducible repeat (first | refine blk_drewN ?_ _ | refine blk_drew ?_ | refine blk_alloc ?_ _)); refine blk_put (cs := #[.slice none 0 0, .int .i64 0, .int .i64 0]) ?_ 0 _ rfl; (with_reducible repeat (first | refine blk_drewN ?_ _ | refine blk_drew ?_ | refine blk_alloc ?_ _)); exact BK203.out⟩, ⟨by repeat (first | (with_reducible first | exact HB.out | apply below_alloc | apply pw_below_drewN | apply below_drew1 | refine below_set ?_ GE203.out) | exact HB.out)⟩⟩
                case rest =>
                  clear HC29
                  try clear c1
                  try clear c2
                  try clear p2
                  try clear q2
                  try clear hx2
                  try clear qi2
                  try clear c3
                  try clear c4
                  try clear c4b0
                  try clear c4b1
                  try clear c5
                  try clear c6
                  try clear p6
                  try clear c7
                  try clear c12
                  try clear c12b0
                  try clear c12b1
                  try clear c15
                  try clear c15b0
                  try clear c15b1
                  try clear c20
                  try clear p20
                  try clear q20
                  try clear hx20
                  try clear qi20
                  try clear c27
                  try clear c27b0
                  try clear c27b1
                  try clear c27b2
                  try clear c36
                  try clear c36b0
                  try clear c36b1
                  try clear c37
                  try clear c37b0
                  try clear c37b1
                  try clear c38
                  try clear c38b0
                  try clear c38b1
                  try clear c39
                  try clear c39b0
                  try clear c39b1
                  try clear c40
                  try clear c40b0
                  try clear c40b1
                  try clear c41
                  try clear c41b0
                  try clear c41b1
                  try clear hcz35_0
                  try clear hcz35_1
                  try clear hcz35_2
                  try clear hcz42_0
                  try clear hcz42_1
                  try clear hcz42_2
                  try clear hcz43_0
                  try clear hcz43_1
                  try clear hcz43_2
                  try clear hcz44_0
                  try clear hcz44_1
                  try clear hcz44_2
                  try clear hcz45_0
                  try clear hcz45_1
                  try clear hcz45_2
                  try clear hcz46_0
                  try clear hcz46_1
                  try clear hcz46_2
                  try clear hfz35_0
                  try clear hfz35_1
                  try clear hfz35_2
                  try clear hfz42_0
                  try clear hfz42_1
                  try clear hfz42_2
                  try clear hfz43_0
                  try clear hfz43_1
                  try clear hfz43_2
                  try clear hfz44_0
                  try clear hfz44_1
                  try clear hfz44_2
                  try clear hfz45_0
                  try clear hfz45_1
                  try clear hfz45_2
                  try clear hfz46_0
                  try clear hfz46_1
                  try clear hfz46_2
                  try clear hx204_0
                  try clear hx205_0
                  try clear p2
                  try clear p204
                  try clear p205
                  try clear p6
                  try clear q204
                  try clear q205
                  obtain ⟨kq, x92_28, rfl, HA, HJ28, HO_204000, BK203, HB⟩ := hcut
                  cases kq with
                  | zero => exact absurd HA.out (by simp [laws_FnRecs.j2])
                  | succ kj28 =>
                    have H := HA.out
                    clear HA
                    simp only [laws_FnRecs.j2] at H
                    by_cases c47 : x92_28 = true
                    · subst c47
                      have H1 : (none) = some r := by rw [if_pos rfl] at H; exact H
                      clear H
                      have H := H1
                      clear H1
                      exact absurd H (by simp)
                    · replace c47 := Bool.eq_false_iff.mpr c47
                      subst c47
                      have H1 : ((laws_lwAt.f l1 0 256).bind fun t206 => ((laws_lwAt.f l1 1 256).bind fun t207 => (if (t197.size : Int) = 0 then (none) else (if (wrap64 (1 + (Int.tmod (wrap64 ((wrap64 (t206 * 256)) + t207)) (t197.size : Int)))) < (t197.size : Int) then (if 0 ≤ (wrap64 (1 + (Int.tmod (wrap64 ((wrap64 (t206 * 256)) + t207)) (t197.size : Int)))) then (if (wrap64 (1 + (Int.tmod (wrap64 ((wrap64 (t206 * 256)) + t207)) (t197.size : Int)))) ≤ (t197.size : Int) then (if t196.size + (t197.extract 0 ((wrap64 (1 + (Int.tmod (wrap64 ((wrap64 (t206 * 256)) + t207)) (t197.size : Int)))) : Int).toNat).size ≤ 9223372036854775807 then ((impl_RecsOf.f kj28 (t196 ++ (t197.extract 0 ((wrap64 (1 + (Int.tmod (wrap64 ((wrap64 (t206 * 256)) + t207)) (t197.size : Int)))) : Int).toNat))).bind fun bt208 => (if bt208.2.2 = 4 then (if (bt208.1.length : Int) = 1 then (laws_FnRecs.j3 kj28 l0 t190 t191 t196 t197 (bt208.2.1 != (t196.size : Int))) else (laws_FnRecs.j3 kj28 l0 t190 t191 t196 t197 true)) else (laws_FnRecs.j3 kj28 l0 t190 t191 t196 t197 true))) else (none)) else (none)) else (none)) else (laws_FnRecs.tl kj28 l0 t190 t191 t196 t197))))) = some r := by rw [if_neg (show ¬ (false = true) by decide)] at H; exact H
                      clear H
                      have H := H1
                      clear H1
                      replace H := Option.bind_eq_some_iff.mp H
                      obtain ⟨t206, A480, H⟩ := H
                      replace H : ((laws_lwAt.f l1 1 256).bind fun t207 => (if (t197.size : Int) = 0 then (none) else (if (wrap64 (1 + (Int.tmod (wrap64 ((wrap64 (t206 * 256)) + t207)) (t197.size : Int)))) < (t197.size : Int) then (if 0 ≤ (wrap64 (1 + (Int.tmod (wrap64 ((wrap64 (t206 * 256)) + t207)) (t197.size : Int)))) then (if (wrap64 (1 + (Int.tmod (wrap64 ((wrap64 (t206 * 256)) + t207)) (t197.size : Int)))) ≤ (t197.size : Int) then (if t196.size + (t197.extract 0 ((wrap64 (1 + (Int.tmod (wrap64 ((wrap64 (t206 * 256)) + t207)) (t197.size : Int)))) : Int).toNat).size ≤ 9223372036854775807 then ((impl_RecsOf.f kj28 (t196 ++ (t197.extract 0 ((wrap64 (1 + (Int.tmod (wrap64 ((wrap64 (t206 * 256)) + t207)) (t197.size : Int)))) : Int).toNat))).bind fun bt208 => (if bt208.2.2 = 4 then (if (bt208.1.length : Int) = 1 then (laws_FnRecs.j3 kj28 l0 t190 t191 t196 t197 (bt208.2.1 != (t196.size : Int))) else (laws_FnRecs.j3 kj28 l0 t190 t191 t196 t197 true)) else (laws_FnRecs.j3 kj28 l0 t190 t191 t196 t197 true))) else (none)) else (none)) else (none)) else (laws_FnRecs.tl kj28 l0 t190 t191 t196 t197)))) = some r := H
                      have A48 := Aside0.mk A480
                      clear A480
                      replace H := Option.bind_eq_some_iff.mp H
                      obtain ⟨t207, A490, H⟩ := H
                      replace H : (if (t197.size : Int) = 0 then (none) else (if (wrap64 (1 + (Int.tmod (wrap64 ((wrap64 (t206 * 256)) + t207)) (t197.size : Int)))) < (t197.size : Int) then (if 0 ≤ (wrap64 (1 + (Int.tmod (wrap64 ((wrap64 (t206 * 256)) + t207)) (t197.size : Int)))) then (if (wrap64 (1 + (Int.tmod (wrap64 ((wrap64 (t206 * 256)) + t207)) (t197.size : Int)))) ≤ (t197.size : Int) then (if t196.size + (t197.extract 0 ((wrap64 (1 + (Int.tmod (wrap64 ((wrap64 (t206 * 256)) + t207)) (t197.size : Int)))) : Int).toNat).size ≤ 9223372036854775807 then ((impl_RecsOf.f kj28 (t196 ++ (t197.extract 0 ((wrap64 (1 + (Int.tmod (wrap64 ((wrap64 (t206 * 256)) + t207)) (t197.size : Int)))) : Int).toNat))).bind fun bt208 => (if bt208.2.2 = 4 then (if (bt208.1.length : Int) = 1 then (laws_FnRecs.j3 kj28 l0 t190 t191 t196 t197 (bt208.2.1 != (t196.size : Int))) else (laws_FnRecs.j3 kj28 l0 t190 t191 t196 t197 true)) else (laws_FnRecs.j3 kj28 l0 t190 t191 t196 t197 true))) else (none)) else (none)) else (none)) else (laws_FnRecs.tl kj28 l0 t190 t191 t196 t197))) = some r := H
                      have A49 := Aside0.mk A490
                      clear A490
                      by_cases c50 : (t197.size : Int) = 0
                      · rw [if_pos c50] at H
                        exact absurd H (by simp)
                      · rw [if_neg c50] at H
                        have c50b0 : ((t197.size : Int) == 0) = false := beq_eq_false_iff_ne.mpr c50
                        have c50b1 : ((t197.size : Int) != 0) = true := bne_iff_ne.mpr c50
                        by_cases c51 : (wrap64 (1 + (Int.tmod (wrap64 ((wrap64 (t206 * 256)) + t207)) (t197.size : Int)))) < (t197.size : Int)
                        · rw [if_pos c51] at H
                          have c51b0 : decide ((wrap64 (1 + (Int.tmod (wrap64 ((wrap64 (t206 * 256)) + t207)) (t197.size : Int)))) < (t197.size : Int)) = true := decide_eq_true c51
                          clear c51
                          obtain ⟨ji52, hji52⟩ : ∃ j_ : Int, (wrap64 (1 + (Int.tmod (wrap64 ((wrap64 (t206 * 256)) + t207)) (t197.size : Int)))) = j_ := ⟨_, rfl⟩
                          replace H : (if 0 ≤ (ji52) then (if (ji52) ≤ (t197.size : Int) then (if t196.size + (t197.extract 0 ((ji52) : Int).toNat).size ≤ 9223372036854775807 then ((impl_RecsOf.f kj28 (t196 ++ (t197.extract 0 ((ji52) : Int).toNat))).bind fun bt208 => (if bt208.2.2 = 4 then (if (bt208.1.length : Int) = 1 then (laws_FnRecs.j3 kj28 l0 t190 t191 t196 t197 (bt208.2.1 != (t196.size : Int))) else (laws_FnRecs.j3 kj28 l0 t190 t191 t196 t197 true)) else (laws_FnRecs.j3 kj28 l0 t190 t191 t196 t197 true))) else (none)) else (none)) else (none)) = some r := by first | (rw [hji52] at H; exact H) | (simp only [hji52] at H ⊢; exact H)
                          (try rw [hji52] at c51b0)
                          (try rw [hji52] at A48)
                          (try rw [hji52] at A49)
                          have hji52w : (IntKind.i64.wrap (1 + (Int.tmod (wrap64 ((wrap64 (t206 * 256)) + t207)) (t197.size : Int)))) = ji52 := (i64_w _).trans hji52
                          by_cases c53 : 0 ≤ (ji52)
                          · rw [if_pos c53] at H
                            have c53b0 := eq_true c53
                            have c53b1 : decide (0 ≤ (ji52)) = true := decide_eq_true c53
                            clear c53
                            by_cases c54 : (ji52) ≤ (t197.size : Int)
                            · rw [if_pos c54] at H
                              have c54b0 := eq_true c54
                              have c54b1 : decide ((ji52) ≤ (t197.size : Int)) = true := decide_eq_true c54
                              clear c54
                              by_cases c55 : t196.size + (t197.extract 0 ((ji52) : Int).toNat).size ≤ 9223372036854775807
                              · rw [if_pos c55] at H
                                have c55b0 := eq_true c55
                                have c55b1 : decide (t196.size + (t197.extract 0 ((ji52) : Int).toNat).size ≤ 9223372036854775807) = true := decide_eq_true c55
                                try have c55b2 : (9223372036854775807 < t196.size + (t197.extract 0 ((ji52) : Int).toNat).size) = False := eq_false (Nat.not_lt.2 c55)
                                replace H := Option.bind_eq_some_iff.mp H
                                obtain ⟨⟨t208, t211, t212⟩, A560, H⟩ := H
                                replace H : (if t212 = 4 then (if (t208.length : Int) = 1 then (laws_FnRecs.j3 kj28 l0 t190 t191 t196 t197 (t211 != (t196.size : Int))) else (laws_FnRecs.j3 kj28 l0 t190 t191 t196 t197 true)) else (laws_FnRecs.j3 kj28 l0 t190 t191 t196 t197 true)) = some r := H
                                have A56 := Aside0.mk A560
                                clear A560
                                have HC57 := Aside0.mk H
                                clear H
                                go_upto_region 15 with (first | ((with_reducible refine gate_callee (f := 8) rfl ?_); refine goesL_ (some 94) rfl rfl Try.func8 (by kernel_rfl) rfl #[.slice A1 l1.length c1, .int .i64 0, .int .i64 256] rfl (by (try simp only [List.map_toArray, List.map_cons, List.map_nil]); first | done | rfl | (simp only [List.length_drop, List.length_take]; rfl)) ?_; (with_reducible refine (laws_lwAt.calls _ _ l1 0 256 t206 _ ?side1 ?side2 A48.out).mono ?_); (case side1 => repeat (first | exact (Kd.C_below HR1.out HB.out) | (with_reducible refine Kd.C_alloc ?_ _) | (with_reducible refine Kd.C_drewN ?_ _) | (with_reducible refine Kd.C_drew ?_))); (case side2 => exact HC1.out); rintro e w' ⟨rfl, ⟨nd, rfl⟩⟩; refine ⟨_, rfl, ?_⟩; (try (rw [drewN_self wc]; generalize hq_ : World.drewN wc _ = wc; have n0_ : Aside0 (Kd.R Kd.string 9 wc w.heap.size (fun _ => True) (.slice Ao34 t198.length co34) t198) := ⟨by rw [← hq_]; exact (by (with_reducible repeat (first | apply Kd.R_alloc | apply Kd.R_drewN | apply Kd.R_drew)); exact HO_204000.out)⟩; have n1_ : Aside0 (wc.heap[gb203]? = some (.cells #[.slice Ao34 t198.length co34, .int .i64 t201, .int .i64 t202] 27 (0, 0))) := ⟨by rw [← hq_]; exact (by (with_reducible repeat (first | refine blk_drewN ?_ _ | refine blk_drew ?_ | refine blk_alloc ?_ _)); exact BK203.out)⟩; have n2_ : Aside0 (Below w.heap.size w wc) := ⟨by rw [← hq_]; exact (by repeat (first | (with_reducible first | exact HB.out | apply below_alloc | apply pw_below_drewN | apply below_drew1 | refine below_set ?_ GE203.out) | exact HB.out))⟩; clear HO_204000 BK203 HB hq_; have HO_204000 := n0_; have BK203 := n1_; have HB := n2_; clear n0_ n1_ n2_))) | ((with_reducible refine gate_callee (f := 8) rfl ?_); refine goesL_ (some 97) rfl rfl Try.func8 (by kernel_rfl) rfl #[.slice A1 l1.length c1, .int .i64 1, .int .i64 256] rfl (by (try simp only [List.map_toArray, List.map_cons, List.map_nil]); first | done | rfl | (simp only [List.length_drop, List.length_take]; rfl)) ?_; (with_reducible refine (laws_lwAt.calls _ _ l1 1 256 t207 _ ?side1 ?side2 A49.out).mono ?_); (case side1 => repeat (first | exact (Kd.C_below HR1.out HB.out) | (with_reducible refine Kd.C_alloc ?_ _) | (with_reducible refine Kd.C_drewN ?_ _) | (with_reducible refine Kd.C_drew ?_))); (case side2 => exact HC1.out); rintro e w' ⟨rfl, ⟨nd, rfl⟩⟩; refine ⟨_, rfl, ?_⟩; (try (rw [drewN_self wc]; generalize hq_ : World.drewN wc _ = wc; have n0_ : Aside0 (Kd.R Kd.string 9 wc w.heap.size (fun _ => True) (.slice Ao34 t198.length co34) t198) := ⟨by rw [← hq_]; exact (by (with_reducible repeat (first | apply Kd.R_alloc | apply Kd.R_drewN | apply Kd.R_drew)); exact HO_204000.out)⟩; have n1_ : Aside0 (wc.heap[gb203]? = some (.cells #[.slice Ao34 t198.length co34, .int .i64 t201, .int .i64 t202] 27 (0, 0))) := ⟨by rw [← hq_]; exact (by (with_reducible repeat (first | refine blk_drewN ?_ _ | refine blk_drew ?_ | refine blk_alloc ?_ _)); exact BK203.out)⟩; have n2_ : Aside0 (Below w.heap.size w wc) := ⟨by rw [← hq_]; exact (by repeat (first | (with_reducible first | exact HB.out | apply below_alloc | apply pw_below_drewN | apply below_drew1 | refine below_set ?_ GE203.out) | exact HB.out))⟩; clear HO_204000 BK203 HB hq_; have HO_204000 := n0_; have BK203 := n1_; have HB := n2_; clear n0_ n1_ n2_))) | ((with_reducible refine gate_callee (f := 7) rfl ?_); refine goesL_ (some 112) rfl rfl Try.func7 (by kernel_rfl) rfl #[.string (t196 ++ (t197.extract 0 ((ji52) : Int).toNat))] rfl (by (try simp only [List.map_toArray, List.map_cons, List.map_nil]); first | done | (simp only [hji52]; rfl) | rfl | (simp only [List.length_drop, List.length_take]; rfl)) ?_; (with_reducible refine (impl_RecsOf.calls kj28 (t196 ++ (t197.extract 0 ((ji52) : Int).toNat)) t208 t211 t212 _ A56.out).mono ?_); rintro e w58 ⟨v209, rfl, ho0, hb⟩; refine ⟨_, rfl, ?_⟩; have n0_ := Aside0.mk (Kd.R_elder' (by (with_reducible repeat (first | apply Kd.R_alloc | apply Kd.R_drewN | apply Kd.R_drew)); exact HO_204000.out) (Kd.R_base ho0) hb); have n1_ := Aside0.mk (Kd.R_lower (Kd.R_new' ho0 (Kd.R_lt (by (with_reducible repeat (first | apply Kd.R_alloc | apply Kd.R_drewN | apply Kd.R_drew)); exact HO_204000.out))) (below_size (by repeat (first | (with_reducible first | exact HB.out | apply below_alloc | apply pw_below_drewN | apply below_drew1 | refine below_set ?_ GE203.out) | exact HB.out)))); have n2_ := Aside0.mk (blk_below (g := gb203) (o := .cells #[.slice Ao34 t198.length co34, .int .i64 t201, .int .i64 t202] 27 (0, 0)) (by (with_reducible repeat (first | refine blk_drewN ?_ _ | refine blk_drew ?_ | refine blk_alloc ?_ _)); exact BK203.out) hb); have n3_ := Aside0.mk (below_step (by repeat (first | (with_reducible first | exact HB.out | apply below_alloc | apply pw_below_drewN | apply below_drew1 | refine below_set ?_ GE203.out) | exact HB.out)) hb); clear HO_204000; clear BK203; clear HB; have HO_204000 := n0_; have HO210 := n1_; have BK203 := n2_; have HB := n3_; clear n0_ n1_ n2_ n3_; (try clear hb); (try clear hb2); (try clear hk); (try clear hi); (try clear ho0)) | ((with_reducible refine gate_dst (N := 11) rfl ?_); (try (refine gate_guard (by rfl) ?_; dsimp only)); refine box_event ?hg (N := 11) ?hd (cs := #[.slice none 0 0, .int .i64 0, .int .i64 0]) (t := 27) ?hr ?_; (case hd => rfl); (case hg => rfl); (case hr => first | (go_simp; done) | (go_simp; rfl)); intro gb213 hg w59 hbox hb; have n0_ := Aside0.mk (Kd.R_below (by (with_reducible repeat (first | apply Kd.R_alloc | apply Kd.R_drewN | apply Kd.R_drew)); exact HO_204000.out) hb); have n1_ := Aside0.mk (Kd.R_below (by (with_reducible repeat (first | apply Kd.R_alloc | apply Kd.R_drewN | apply Kd.R_drew)); exact HO210.out) hb); have n2_ := Aside0.mk (blk_below (g := gb203) (o := .cells #[.slice Ao34 t198.length co34, .int .i64 t201, .int .i64 t202] 27 (0, 0)) (by (with_reducible repeat (first | refine blk_drewN ?_ _ | refine blk_drew ?_ | refine blk_alloc ?_ _)); exact BK203.out) hb); have n3_ := Aside0.mk (below_step (by repeat (first | (with_reducible first | exact HB.out | apply below_alloc | apply pw_below_drewN | apply below_drew1 | refine below_set ?_ GE203.out) | exact HB.out)) hb); have n4_ := Aside0.mk (hbox); have n5_ := Aside0.mk ((by rw [hg]; exact (below_size (by repeat (first | (with_reducible first | exact HB.out | apply below_alloc | apply pw_below_drewN | apply below_drew1 | refine below_set ?_ GE203.out) | exact HB.out))) : w.heap.size ≤ gb213)); have n6_ := Aside0.mk ((by rw [hg]; exact (below_size (by repeat (first | (with_reducible first | exact HB.out | apply below_alloc | apply pw_below_drewN | apply below_drew1 | refine below_set ?_ GE203.out) | exact HB.out))) : w.heap.size ≤ gb213)); have n7_ := Aside0.mk ((by rw [hg]; exact Nat.ne_of_lt (blk_lt (g := gb203) (o := .cells #[.slice Ao34 t198.length co34, .int .i64 t201, .int .i64 t202] 27 (0, 0)) (by (with_reducible repeat (first | refine blk_drewN ?_ _ | refine blk_drew ?_ | refine blk_alloc ?_ _)); exact BK203.out)) : gb203 ≠ gb213)); have n8_ := Aside0.mk ((by rw [hg]; exact Nat.ne_of_gt (blk_lt (g := gb203) (o := .cells #[.slice Ao34 t198.length co34, .int .i64 t201, .int .i64 t202] 27 (0, 0)) (by (with_reducible repeat (first | refine blk_drewN ?_ _ | refine blk_drew ?_ | refine blk_alloc ?_ _)); exact BK203.out)) : gb213 ≠ gb203)); clear HO_204000; clear HO210; clear BK203; clear HB; have HO_204000 := n0_; have HO210 := n1_; have BK203 := n2_; have HB := n3_; have BK213 := n4_; have GW213 := n5_; have GE213 := n6_; have NB203_213 := n7_; have NB213_203 := n8_; clear n0_ n1_ n2_ n3_ n4_ n5_ n6_ n7_ n8_; clear hb hbox hg; obtain ⟨Ao60, co60, eo60⟩ := Kd.R_slice HO210.out; subst eo60; have hnb61 := NB213_203.out; have hnc61 := NB203_213.out; have hcz62_0 : w59.cell? ⟨gb213, 0, none⟩ = some (.slice none 0 0) := (blk_cell BK213.out 0).trans rfl; have hcz62_1 : w59.cell? ⟨gb213, 1, none⟩ = some (.int .i64 0) := (blk_cell BK213.out 1).trans rfl; have hcz62_2 : w59.cell? ⟨gb213, 2, none⟩ = some (.int .i64 0) := (blk_cell BK213.out 2).trans rfl; have hfz62_0 := blk_frozen BK213.out 0; have hfz62_1 := blk_frozen BK213.out 1; have hfz62_2 := blk_frozen BK213.out 2))
                                (try simp only [Act.put, List.setIfInBounds_toArray, List.set_cons_zero, List.set_cons_succ])
                                go_cut [128] (fun v128 wc => ∃ (kq : Nat) (x128_56 : Bool), v128 = .bool x128_56 ∧ Aside0 (laws_FnRecs.j3 kq l0 t190 t191 t196 t197 x128_56 = some r) ∧ Aside0 (kq ≤ kj28) ∧ Aside0 (Kd.R Kd.string 9 wc w.heap.size (fun k_ => some k_ ≠ ((.slice Ao60 t208.length co60) : Value).ownBlock) (.slice Ao34 t198.length co34) t198) ∧ Aside0 (Kd.R Kd.string 9 wc w.heap.size (fun k_ => some k_ ≠ ((.slice Ao34 t198.length co34) : Value).ownBlock) (.slice Ao60 t208.length co60) t208) ∧ Aside0 (wc.heap[gb203]? = some (.cells #[(.slice Ao34 t198.length co34), .int .i64 t201, .int .i64 t202] 27 (0, 0))) ∧ Aside0 (wc.heap[gb213]? = some (.cells #[(.slice Ao60 t208.length co60), .int .i64 t211, .int .i64 t212] 27 (0, 0))) ∧ Aside0 (Below w.heap.size w wc))
                                case first =>
                                  have H := HC57.out
                                  clear HC57
                                  by_cases c63 : t212 = 4
                                  · rw [if_pos c63] at H
                                    have c63b0 : (t212 == 4) = true := beq_iff_eq.mpr c63
                                    have c63b1 : (t212 != 4) = false := bne_eq_false_iff_eq.mpr c63
                                    clear c63
                                    (first | rw [c63b0] | (simp only [i64_w, i32_w]; rw [c63b0]) | skip)
                                    by_cases c64 : (t208.length : Int) = 1
                                    · rw [if_pos c64] at H
                                      have c64b0 : ((t208.length : Int) == 1) = true := beq_iff_eq.mpr c64
                                      have c64b1 : ((t208.length : Int) != 1) = false := bne_eq_false_iff_eq.mpr c64
                                      clear c64
                                      have H' := Aside0.mk H
                                      clear H
                                      have hnb65 := NB213_203.out
                                      have hnc65 := NB203_213.out
                                      have hcz66_0 : w59.cell? ⟨gb213, 0, none⟩ = some (.slice none 0 0) := (blk_cell BK213.out 0).trans rfl
                                      have hcz66_1 : w59.cell? ⟨gb213, 1, none⟩ = some (.int .i64 0) := (blk_cell BK213.out 1).trans rfl
                                      have hcz66_2 : w59.cell? ⟨gb213, 2, none⟩ = some (.int .i64 0) := (blk_cell BK213.out 2).trans rfl
                                      have hfz66_0 := blk_frozen BK213.out 0
                                      have hfz66_1 := blk_frozen BK213.out 1
                                      have hfz66_2 := blk_frozen BK213.out 2
                                      go_wp2
                                      go_meet
                                      case rel => exact ⟨_, ((t211 != (t196.size : Int))), (by first | rfl | (simp; done) | (simp [*]; done)), H', ⟨by have := HJ2.out; have := HJ7.out; have := HJ28.out; first | omega | exact Nat.le_refl _⟩, ⟨by (with_reducible repeat (first | apply Kd.R_alloc | apply Kd.R_drewN | apply Kd.R_drew)); exact Kd.R_mono (Kd.R_far (p := ⟨gb213, 2, none⟩) (Kd.R_far (p := ⟨gb213, 1, none⟩) (Kd.R_far (p := ⟨gb213, 0, none⟩) (Kd.R_types HO_204000.out BK213.out (by decide)) (fun _ hk => hk.2) (.slice Ao60 t208.length co60)) (fun _ hk => hk.2) (.int .i64 t211)) (fun _ hk => hk.2) (.int .i64 t212)) (fun _ hk => hk.1.2)⟩, ⟨by (with_reducible repeat (first | apply Kd.R_alloc | apply Kd.R_drewN | apply Kd.R_drew)); exact Kd.R_mono (Kd.R_far (p := ⟨gb213, 2, none⟩) (Kd.R_far (p := ⟨gb213, 1, none⟩) (Kd.R_far (p := ⟨gb213, 0, none⟩) (Kd.R_types HO210.out BK213.out (by decide)) (fun _ hk => hk.2) (.slice Ao60 t208.length co60)) (fun _ hk => hk.2) (.int .i64 t211)) (fun _ hk => hk.2) (.int .i64 t212)) (fun _ hk => hk.1.2)⟩, ⟨by (with_reducible repeat (first | refine blk_drewN ?_ _ | refine blk_drew ?_ | refine blk_alloc ?_ _)); refine blk_far ?_ NB203_213.out _; (with_reducible repeat (first | refine blk_drewN ?_ _ | refine blk_drew ?_ | refine blk_alloc ?_ _)); refine blk_far ?_ NB203_213.out _; (with_reducible repeat (first | refine blk_drewN ?_ _ | refine blk_drew ?_ | refine blk_alloc ?_ _)); refine blk_far ?_ NB203_213.out _; (with_reducible repeat (first | refine blk_drewN ?_ _ | refine blk_drew ?_ | refine blk_alloc ?_ _)); exact BK203.out⟩, ⟨by (with_reducible repeat (first | refine blk_drewN ?_ _ | refine blk_drew ?_ | refine blk_alloc ?_ _)); refine blk_put (cs := #[.slice Ao60 t208.length co60, .int .i64 t211, .int .i64 0]) ?_ 2 _ rfl; (with_reducible repeat (first | refine blk_drewN ?_ _ | refine blk_drew ?_ | refine blk_alloc ?_ _)); refine blk_put (cs := #[.slice Ao60 t208.length co60, .int .i64 0, .int .i64 0]) ?_ 1 _ rfl; (with_reducible repeat (first | refine blk_drewN ?_ _ | refine blk_drew ?_ | refine blk_alloc ?_ _)); refine blk_put (cs := #[.slice none 0 0, .int .i64 0, .int .i64 0]) ?_ 0 _ rfl; (with_reducible repeat (first | refine blk_drewN ?_ _ | refine blk_drew ?_ | refine blk_alloc ?_ _)); exact BK213.out⟩, ⟨by repeat (first | (with_reducible first | exact HB.out | apply below_alloc | apply pw_below_drewN | apply below_drew1 | refine below_set ?_ GE203.out | refine below_set ?_ GE213.out) | exact HB.out)⟩⟩
                                    · rw [if_neg c64] at H
                                      have c64b0 : ((t208.length : Int) == 1) = false := beq_eq_false_iff_ne.mpr c64
                                      have c64b1 : ((t208.length : Int) != 1) = true := bne_iff_ne.mpr c64
                                      have H' := Aside0.mk H
                                      clear H
                                      have hnb67 := NB213_203.out
                                      have hnc67 := NB203_213.out
                                      have hcz68_0 : w59.cell? ⟨gb213, 0, none⟩ = some (.slice none 0 0) := (blk_cell BK213.out 0).trans rfl
                                      have hcz68_1 : w59.cell? ⟨gb213, 1, none⟩ = some (.int .i64 0) := (blk_cell BK213.out 1).trans rfl
                                      have hcz68_2 : w59.cell? ⟨gb213, 2, none⟩ = some (.int .i64 0) := (blk_cell BK213.out 2).trans rfl
                                      have hfz68_0 := blk_frozen BK213.out 0
                                      have hfz68_1 := blk_frozen BK213.out 1
                                      have hfz68_2 := blk_frozen BK213.out 2
                                      go_wp2
                                      go_meet
                                      case rel => exact ⟨_, (true), (by first | rfl | (simp; done) | (simp [*]; done)), H', ⟨by have := HJ2.out; have := HJ7.out; have := HJ28.out; first | omega | exact Nat.le_refl _⟩, ⟨by (with_reducible repeat (first | apply Kd.R_alloc | apply Kd.R_drewN | apply Kd.R_drew)); exact Kd.R_mono (Kd.R_far (p := ⟨gb213, 2, none⟩) (Kd.R_far (p := ⟨gb213, 1, none⟩) (Kd.R_far (p := ⟨gb213, 0, none⟩) (Kd.R_types HO_204000.out BK213.out (by decide)) (fun _ hk => hk.2) (.slice Ao60 t208.length co60)) (fun _ hk => hk.2) (.int .i64 t211)) (fun _ hk => hk.2) (.int .i64 t212)) (fun _ hk => hk.1.2)⟩, ⟨by (with_reducible repeat (first | apply Kd.R_alloc | apply Kd.R_drewN | apply Kd.R_drew)); exact Kd.R_mono (Kd.R_far (p := ⟨gb213, 2, none⟩) (Kd.R_far (p := ⟨gb213, 1, none⟩) (Kd.R_far (p := ⟨gb213, 0, none⟩) (Kd.R_types HO210.out BK213.out (by decide)) (fun _ hk => hk.2) (.slice Ao60 t208.length co60)) (fun _ hk => hk.2) (.int .i64 t211)) (fun _ hk => hk.2) (.int .i64 t212)) (fun _ hk => hk.1.2)⟩, ⟨by (with_reducible repeat (first | refine blk_drewN ?_ _ | refine blk_drew ?_ | refine blk_alloc ?_ _)); refine blk_far ?_ NB203_213.out _; (with_reducible repeat (first | refine blk_drewN ?_ _ | refine blk_drew ?_ | refine blk_alloc ?_ _)); refine blk_far ?_ NB203_213.out _; (with_reducible repeat (first | refine blk_drewN ?_ _ | refine blk_drew ?_ | refine blk_alloc ?_ _)); refine blk_far ?_ NB203_213.out _; (with_reducible repeat (first | refine blk_drewN ?_ _ | refine blk_drew ?_ | refine blk_alloc ?_ _)); exact BK203.out⟩, ⟨by (with_reducible repeat (first | refine blk_drewN ?_ _ | refine blk_drew ?_ | refine blk_alloc ?_ _)); refine blk_put (cs := #[.slice Ao60 t208.length co60, .int .i64 t211, .int .i64 0]) ?_ 2 _ rfl; (with_reducible repeat (first | refine blk_drewN ?_ _ | refine blk_drew ?_ | refine blk_alloc ?_ _)); refine blk_put (cs := #[.slice Ao60 t208.length co60, .int .i64 0, .int .i64 0]) ?_ 1 _ rfl; (with_reducible repeat (first | refine blk_drewN ?_ _ | refine blk_drew ?_ | refine blk_alloc ?_ _)); refine blk_put (cs := #[.slice none 0 0, .int .i64 0, .int .i64 0]) ?_ 0 _ rfl; (with_reducible repeat (first | refine blk_drewN ?_ _ | refine blk_drew ?_ | refine blk_alloc ?_ _)); exact BK213.out⟩, ⟨by repeat (first | (with_reducible first | exact HB.out | apply below_alloc | apply pw_below_drewN | apply below_drew1 | refine below_set ?_ GE203.out | refine below_set ?_ GE213.out) | exact HB.out)⟩⟩
                                  · rw [if_neg c63] at H
                                    have c63b0 : (t212 == 4) = false := beq_eq_false_iff_ne.mpr c63
                                    have c63b1 : (t212 != 4) = true := bne_iff_ne.mpr c63
                                    (first | rw [c63b0] | (simp only [i64_w, i32_w]; rw [c63b0]) | skip)
                                    have H' := Aside0.mk H
                                    clear H
                                    have hnb69 := NB213_203.out
                                    have hnc69 := NB203_213.out
                                    have hcz70_0 : w59.cell? ⟨gb213, 0, none⟩ = some (.slice none 0 0) := (blk_cell BK213.out 0).trans rfl
                                    have hcz70_1 : w59.cell? ⟨gb213, 1, none⟩ = some (.int .i64 0) := (blk_cell BK213.out 1).trans rfl
                                    have hcz70_2 : w59.cell? ⟨gb213, 2, none⟩ = some (.int .i64 0) := (blk_cell BK213.out 2).trans rfl
                                    have hfz70_0 := blk_frozen BK213.out 0
                                    have hfz70_1 := blk_frozen BK213.out 1
                                    have hfz70_2 := blk_frozen BK213.out 2
                                    go_wp2
                                    go_meet
                                    case rel => exact ⟨_, (true), (by first | rfl | (simp; done) | (simp [*]; done)), H', ⟨by have := HJ2.out; have := HJ7.out; have := HJ28.out; first | omega | exact Nat.le_refl _⟩, ⟨by (with_reducible repeat (first | apply Kd.R_alloc | apply Kd.R_drewN | apply Kd.R_drew)); exact Kd.R_mono (Kd.R_far (p := ⟨gb213, 2, none⟩) (Kd.R_far (p := ⟨gb213, 1, none⟩) (Kd.R_far (p := ⟨gb213, 0, none⟩) (Kd.R_types HO_204000.out BK213.out (by decide)) (fun _ hk => hk.2) (.slice Ao60 t208.length co60)) (fun _ hk => hk.2) (.int .i64 t211)) (fun _ hk => hk.2) (.int .i64 t212)) (fun _ hk => hk.1.2)⟩, ⟨by (with_reducible repeat (first | apply Kd.R_alloc | apply Kd.R_drewN | apply Kd.R_drew)); exact Kd.R_mono (Kd.R_far (p := ⟨gb213, 2, none⟩) (Kd.R_far (p := ⟨gb213, 1, none⟩) (Kd.R_far (p := ⟨gb213, 0, none⟩) (Kd.R_types HO210.out BK213.out (by decide)) (fun _ hk => hk.2) (.slice Ao60 t208.length co60)) (fun _ hk => hk.2) (.int .i64 t211)) (fun _ hk => hk.2) (.int .i64 t212)) (fun _ hk => hk.1.2)⟩, ⟨by (with_reducible repeat (first | refine blk_drewN ?_ _ | refine blk_drew ?_ | refine blk_alloc ?_ _)); refine blk_far ?_ NB203_213.out _; (with_reducible repeat (first | refine blk_drewN ?_ _ | refine blk_drew ?_ | refine blk_alloc ?_ _)); refine blk_far ?_ NB203_213.out _; (with_reducible repeat (first | refine blk_drewN ?_ _ | refine blk_drew ?_ | refine blk_alloc ?_ _)); refine blk_far ?_ NB203_213.out _; (with_reducible repeat (first | refine blk_drewN ?_ _ | refine blk_drew ?_ | refine blk_alloc ?_ _)); exact BK203.out⟩, ⟨by (with_reducible repeat (first | refine blk_drewN ?_ _ | refine blk_drew ?_ | refine blk_alloc ?_ _)); refine blk_put (cs := #[.slice Ao60 t208.length co60, .int .i64 t211, .int .i64 0]) ?_ 2 _ rfl; (with_reducible repeat (first | refine blk_drewN ?_ _ | refine blk_drew ?_ | refine blk_alloc ?_ _)); refine blk_put (cs := #[.slice Ao60 t208.length co60, .int .i64 0, .int .i64 0]) ?_ 1 _ rfl; (with_reducible repeat (first | refine blk_drewN ?_ _ | refine blk_drew ?_ | refine blk_alloc ?_ _)); refine blk_put (cs := #[.slice none 0 0, .int .i64 0, .int .i64 0]) ?_ 0 _ rfl; (with_reducible repeat (first | refine blk_drewN ?_ _ | refine blk_drew ?_ | refine blk_alloc ?_ _)); exact BK213.out⟩, ⟨by repeat (first | (with_reducible first | exact HB.out | apply below_alloc | apply pw_below_drewN | apply below_drew1 | refine below_set ?_ GE203.out | refine below_set ?_ GE213.out) | exact HB.out)⟩⟩
                                case rest =>
                                  clear HC57
                                  try clear c1
                                  try clear c2
                                  try clear p2
                                  try clear q2
                                  try clear hx2
                                  try clear qi2
                                  try clear c3
                                  try clear c4
                                  try clear c4b0
                                  try clear c4b1
                                  try clear c5
                                  try clear c6
                                  try clear p6
                                  try clear c7
                                  try clear c8
                                  try clear c12
                                  try clear c12b0
                                  try clear c12b1
                                  try clear c15
                                  try clear c15b0
                                  try clear c15b1
                                  try clear c20
                                  try clear p20
                                  try clear q20
                                  try clear hx20
                                  try clear qi20
                                  try clear c27
                                  try clear c27b0
                                  try clear c27b1
                                  try clear c27b2
                                  try clear c36
                                  try clear c36b0
                                  try clear c36b1
                                  try clear c37
                                  try clear c37b0
                                  try clear c37b1
                                  try clear c38
                                  try clear c38b0
                                  try clear c38b1
                                  try clear c39
                                  try clear c39b0
                                  try clear c39b1
                                  try clear c40
                                  try clear c40b0
                                  try clear c40b1
                                  try clear c41
                                  try clear c41b0
                                  try clear c41b1
                                  try clear c47
                                  try clear c50
                                  try clear c50b0
                                  try clear c50b1
                                  try clear c51
                                  try clear c51b0
                                  try clear c53
                                  try clear c53b0
                                  try clear c53b1
                                  try clear c54
                                  try clear c54b0
                                  try clear c54b1
                                  try clear c55
                                  try clear c55b0
                                  try clear c55b1
                                  try clear c55b2
                                  try clear c61
                                  try clear c63
                                  try clear c63b0
                                  try clear c63b1
                                  try clear c64
                                  try clear c64b0
                                  try clear c64b1
                                  try clear p64
                                  try clear c65
                                  try clear c67
                                  try clear c69
                                  try clear hcz35_0
                                  try clear hcz35_1
                                  try clear hcz35_2
                                  try clear hcz42_0
                                  try clear hcz42_1
                                  try clear hcz42_2
                                  try clear hcz43_0
                                  try clear hcz43_1
                                  try clear hcz43_2
                                  try clear hcz44_0
                                  try clear hcz44_1
                                  try clear hcz44_2
                                  try clear hcz45_0
                                  try clear hcz45_1
                                  try clear hcz45_2
                                  try clear hcz46_0
                                  try clear hcz46_1
                                  try clear hcz46_2
                                  try clear hcz62_0
                                  try clear hcz62_1
                                  try clear hcz62_2
                                  try clear hcz66_0
                                  try clear hcz66_1
                                  try clear hcz66_2
                                  try clear hcz68_0
                                  try clear hcz68_1
                                  try clear hcz68_2
                                  try clear hcz70_0
                                  try clear hcz70_1
                                  try clear hcz70_2
                                  try clear hfz35_0
                                  try clear hfz35_1
                                  try clear hfz35_2
                                  try clear hfz42_0
                                  try clear hfz42_1
                                  try clear hfz42_2
                                  try clear hfz43_0
                                  try clear hfz43_1
                                  try clear hfz43_2
                                  try clear hfz44_0
                                  try clear hfz44_1
                                  try clear hfz44_2
                                  try clear hfz45_0
                                  try clear hfz45_1
                                  try clear hfz45_2
                                  try clear hfz46_0
                                  try clear hfz46_1
                                  try clear hfz46_2
                                  try clear hfz62_0
                                  try clear hfz62_1
                                  try clear hfz62_2
                                  try clear hfz66_0
                                  try clear hfz66_1
                                  try clear hfz66_2
                                  try clear hfz68_0
                                  try clear hfz68_1
                                  try clear hfz68_2
                                  try clear hfz70_0
                                  try clear hfz70_1
                                  try clear hfz70_2
                                  try clear hx204_0
                                  try clear hx205_0
                                  try clear p2
                                  try clear p20
                                  try clear p204
                                  try clear p205
                                  try clear p6
                                  try clear q2
                                  try clear q20
                                  try clear q204
                                  try clear q205
                                  obtain ⟨kq, x128_56, rfl, HA, HJ56, HO_204000, HO_214000, BK203, BK213, HB⟩ := hcut
                                  cases kq with
                                  | zero => exact absurd HA.out (by simp [laws_FnRecs.j3])
                                  | succ kj56 =>
                                    have H := HA.out
                                    clear HA
                                    simp only [laws_FnRecs.j3] at H
                                    by_cases c71 : x128_56 = true
                                    · subst c71
                                      have H1 : (none) = some r := by rw [if_pos rfl] at H; exact H
                                      clear H
                                      have H := H1
                                      clear H1
                                      exact absurd H (by simp)
                                    · replace c71 := Bool.eq_false_iff.mpr c71
                                      subst c71
                                      have H1 : laws_FnRecs.tl kj56 l0 t190 t191 t196 t197 = some r := by rw [if_neg (show ¬ (false = true) by decide)] at H; exact H
                                      clear H
                                      obtain ⟨rfl, i, x, j, zL, zU, hz0, A72, A73, hi0, hij, hb, hsz, A75⟩ := laws_FnRecs.tl_some H1
                                      clear H1
                                      have hli := fun W (hb : Below w.heap.size w W) => laws_lwAt.calls A0 c0 l0 0 (t191.size : Int) i W (Kd.C_below HR0.out hb) HC0.out A72
                                      have hlx := fun W (hb : Below w.heap.size w W) => laws_lwAt.calls A0 c0 l0 1 255 x W (Kd.C_below HR0.out hb) HC0.out A73
                                      have hcv := fun W => run_bytes_of_string (P := Try.prog) W 9 22 5 t197 Try.underlying9 Try.underlying22 Try.underlying5
                                      have w1_ : wrap64 ((t197.size : Int) - 1) = (t197.size : Int) - 1 := by unfold wrap64; omega
                                      have w2_ : wrap64 ((t197.size : Int) - 1 - i) = (j : Int) := by unfold wrap64; omega
                                      go_wp2_with (first | (go_at_call 8; (with_reducible refine (hli _ ?hbl).mono ?_); (case hbl => exact (by (repeat (first | exact HB.out | apply below_alloc | apply pw_below_drewN | apply below_drew)))); rintro e w2 ⟨rfl, ⟨n4, rfl⟩⟩))
                                      clear hli hcv w1_ w2_ hij hi0
                                      obtain ⟨cap, hcap⟩ : ∃ c, c = grownCap wc t197.size 0 5 := ⟨_, rfl⟩
                                      rw [← hcap]
                                      clear hcap
                                      obtain ⟨W3, hW3⟩ : ∃ W, W = ((wc.alloc (Obj.cells (bytesRow t197 cap) 5 ((bytesRow t197 cap).size, (bytesRow t197 cap).size + 1))).drewN (1 + n4)) := ⟨_, rfl⟩
                                      rw [← hW3]
                                      obtain ⟨g, hg⟩ : ∃ g, g = wc.heap.size := ⟨_, rfl⟩
                                      rw [← hg]
                                      have hlen : (bytesRow t197 cap).size ≥ t197.size := by unfold bytesRow; simp
                                      have hcell : ∀ i, i < t197.size → W3.cell? ⟨g, i, none⟩ = some (.int .u8 (bt t197 (i : Int))) := fun i hi => by
                                        rw [hW3, hg]
                                        exact (World.cell?_alloc_mark wc _ _ _ i).trans (laws_FnRecs.row_at t197 cap i hi)
                                      have hblk : W3.heap[g]? = some (Obj.cells (bytesRow t197 cap) 5 ((bytesRow t197 cap).size, (bytesRow t197 cap).size + 1)) := by
                                        rw [hW3, hg]
                                        show (wc.heap.push _)[wc.heap.size]? = _
                                        simp
                                      have hfrz : W3.frozen? ⟨g, j, none⟩ = false := by
                                        unfold World.frozen?
                                        rw [hblk]
                                        simp
                                        omega
                                      have hge : w.heap.size ≤ g := by rw [hg]; exact HB.out.size
                                      have HB3 : Below w.heap.size w W3 := by
                                        rw [hW3]
                                        exact pw_below_drewN (below_alloc HB.out _) _
                                      clear hW3 hg HB hblk
                                      have hj1 : (0 ≤ (j : Int)) = True := eq_true (by omega)
                                      have hj2 : ((j : Int) < (t197.size : Int)) = True := eq_true (by omega)
                                      refine start_ (n := 13) (S := fun w' => w'.cell? ⟨g, j, none⟩ = some (.int .u8 (bt t197 (j : Int)))) (ds := [12]) #[false, false, false, false, false, false, false, false, false, false, false, false, false] (by kernel_rfl) rfl rfl (hcell j hb.1) (fun hHeld => ?_)
                                      obtain ⟨W4, hW4⟩ : ∃ W, W = W3.drew := ⟨_, rfl⟩
                                      rw [← hW4] at hHeld ⊢
                                      have hcell4 : ∀ i, i < t197.size → W4.cell? ⟨g, i, none⟩ = some (.int .u8 (bt t197 (i : Int))) := fun i hi => by rw [hW4]; exact hcell i hi
                                      have hfrz4 : W4.frozen? ⟨g, j, none⟩ = false := by rw [hW4]; exact hfrz
                                      have HB4 : Below w.heap.size w W4 := by rw [hW4]; exact below_drew1 HB3
                                      clear hW4 hcell hfrz HB3
                                      refine pv 0 139 ?_
                                      refine pv 1 140 ?_
                                      refine pv 2 141 ?_
                                      refine pv 3 142 ?_
                                      refine pv 4 143 ?_
                                      refine take_ (i := 5) (N := some 144) (v := ?_) (a' := ?_) #[true, true, true, true, true, true, false, false, false, false, false, false, false] rfl rfl (by kernel_rfl) (fun _ _ _ h => h) (Or.inl ⟨by rfl, ?_⟩) hHeld ?_ ?_
                                      rotate_left
                                      · rintro w' s0
                                        go_simp
                                        with_reducible rfl
                                      rotate_left
                                      · simp only [Act.put, List.setIfInBounds_toArray, List.set_cons_zero, List.set_cons_succ, i64_w, i32_w]
                                        rfl
                                      refine pv 6 145 ?_
                                      refine ov 7 146 (fun K hK => ?_)
                                      refine gk Try.func8 (hlx _ HB4) ?_
                                      rintro e w5 ⟨rfl, hd5⟩
                                      obtain ⟨nd, rfl⟩ := hd5
                                      refine ⟨_, rfl, ?_⟩
                                      refine hK.out _ _ hHeld (fun hHeld => ?_)
                                      refine norm_ (a' := ?_) ?_ ?_
                                      rotate_left
                                      · simp only [Act.put, List.setIfInBounds_toArray, List.set_cons_zero, List.set_cons_succ, i64_w, i32_w]
                                        rfl
                                      rotate_left
                                      refine pv 8 147 ?_
                                      refine pv 9 148 ?_
                                      refine pv 10 149 ?_
                                      refine pv 11 150 ?_
                                      obtain ⟨v, hv⟩ : ∃ v, v = IntKind.u8.wrap (bt t197 (j : Int) + IntKind.u8.wrap (wrap64 (1 + x))) := ⟨_, rfl⟩
                                      rw [← hv]
                                      have hz5 : (W4.drewN nd).cell? ⟨g, j, none⟩ = some (.int .u8 (bt t197 (j : Int))) := hHeld
                                      have hf5 : (W4.drewN nd).frozen? ⟨g, j, none⟩ = false := hfrz4
                                      refine last_ (i := 12) (N := none) #[true, true, true, true, true, true, true, true, true, true, true, true, true] rfl rfl (by kernel_rfl) (by decide) (fun K hK => ?_)
                                      refine skip_ (w1 := (W4.drewN nd).setCell ⟨g, j, none⟩ (.int .u8 v)) (by rfl) rfl ?_ ?_
                                      · first | (go_simp; done) | (go_simp; rfl)
                                      refine hK.out _ _ ?_
                                      refine done_ (by kernel_rfl) ?_
                                      have hvv : v = ((UInt8.ofNat ((bt t197 (j : Int) + (1 + x)) % 256).toNat).toNat : Int) := by
                                        have h1 : wrap64 (1 + x) = 1 + x := by unfold wrap64; omega
                                        have h0 : 0 ≤ bt t197 (j : Int) := by unfold bt; split <;> omega
                                        rw [hv, h1, IntKind.wrap_u8, IntKind.wrap_u8, UInt8.toNat_ofNat']
                                        omega
                                      have hpl : (laws_FnRecs.put t197 (j : Int) x).data.toList.length = t197.size := by rw [laws_FnRecs.put_list, List.length_set]; exact Array.length_toList
                                      have hps : (laws_FnRecs.put t197 (j : Int) x).size = t197.size := by rw [← hpl]; exact Array.length_toList.symm
                                      obtain ⟨W6, hW6⟩ : ∃ W, W = (W4.drewN nd).setCell ⟨g, j, none⟩ (.int .u8 v) := ⟨_, rfl⟩
                                      have HB := Aside0.mk (show Below w.heap.size w W6 by rw [hW6]; exact below_set (pw_below_drewN HB4 nd) hge)
                                      have hcb : (convert 22 9 (.slice (some ⟨g, 0, none⟩) t197.size cap)).run Try.prog W6 = .ok (.string (laws_FnRecs.put t197 (j : Int) x)) W6 := by
                                        have h := run_convert_bytes_back (P := Try.prog) W6 22 9 5 ⟨g, 0, none⟩ cap (laws_FnRecs.put t197 (j : Int) x).data.toList Try.underlying22 Try.underlying5 Try.underlying9 (fun i hi => by
                                          rw [hpl] at hi
                                          have ha : (Addr.add ⟨g, 0, none⟩ i) = ⟨g, i, none⟩ := by simp [Addr.add]; omega
                                          rw [ha, hW6]
                                          by_cases e : j = i
                                          · subst e
                                            rw [World.cell?_setCell_same (h := hz5), hvv]
                                            simp only [laws_FnRecs.put_list, List.getElem_set_self]
                                          · rw [World.cell?_setCell_other (h := (fun h => e (by injection h) : (⟨g, j, none⟩ : Addr) ≠ ⟨g, i, none⟩)), show (W4.drewN nd).cell? ⟨g, i, none⟩ = some (.int .u8 (bt t197 (i : Int))) from hcell4 i hi]
                                            simp only [laws_FnRecs.put_list, List.getElem_set_ne e]
                                            unfold bt
                                            rw [Int.toNat_natCast, dif_pos hi]
                                            rfl)
                                        rw [hpl] at h
                                        exact h
                                      rw [← hW6]
                                      clear hW6 hv hvv hz5 hf5 hHeld hcell4 hfrz4 HB4
                                      have cs0 : (t196.size + (laws_FnRecs.put t197 (j : Int) x).size ≤ 9223372036854775807) = True := eq_true (by omega)
                                      have cs1 : decide (t196.size + (laws_FnRecs.put t197 (j : Int) x).size ≤ 9223372036854775807) = true := decide_eq_true (by omega)
                                      have cs2 : (9223372036854775807 < t196.size + (laws_FnRecs.put t197 (j : Int) x).size) = False := eq_false (by omega)
                                      have hz0l : zL.length = 1 := by rw [hz0]; rfl
                                      have hz0r : rdOf ByteArray.empty zL 0 = t190 := by rw [hz0]; rfl
                                      have c77b0 : ((zL.length : Int) == 1) = true := beq_iff_eq.mpr (by omega)
                                      have c78b0 : decide (0 < (zL.length : Int)) = true := decide_eq_true (by omega)
                                      have c78b1 : decide (0 < zL.length) = true := decide_eq_true (by omega)
                                      clear hz0 hz0l hpl hps hlen hge
                                      go_wp2_with (first
                                        | ((with_reducible refine gate_callee (f := 7) rfl ?_); refine goesL_ (some 155) rfl rfl Try.func7 (by kernel_rfl) rfl #[.string (t196 ++ laws_FnRecs.put t197 (j : Int) x)] rfl (by (try simp only [List.map_toArray, List.map_cons, List.map_nil]); first | done | rfl | (simp only [List.length_drop, List.length_take]; rfl)) ?_; (with_reducible refine (impl_RecsOf.calls kj56 (t196 ++ laws_FnRecs.put t197 (j : Int) x) zL zU 5 _ A75).mono ?_); rintro e w79 ⟨v217, rfl, ho0, hb0⟩; refine ⟨_, rfl, ?_⟩; have HO218 := Aside0.mk (Kd.R_lower ho0 (below_size (by repeat (first | (with_reducible first | exact HB.out | apply below_alloc | apply pw_below_drewN | apply below_drew1) | exact HB.out)))); have n5_ := Aside0.mk (below_step (by repeat (first | (with_reducible first | exact HB.out | apply below_alloc | apply pw_below_drewN | apply below_drew1) | exact HB.out)) hb0); clear HB; have HB := n5_; clear n5_ hb0 ho0)
                                        | ((with_reducible refine gate_dst (N := 14) rfl ?_); (try (refine gate_guard (by rfl) ?_; dsimp only)); refine box_event ?hg (N := 14) ?hd (cs := #[.slice none 0 0, .int .i64 0, .int .i64 0]) (t := 27) ?hr ?_; (case hd => rfl); (case hg => rfl); (case hr => first | (go_simp; done) | (go_simp; rfl)); intro gb221 hg w80 hbox hb1; have n2_ := Aside0.mk (Kd.R_below (by (with_reducible repeat (first | apply Kd.R_alloc | apply Kd.R_drewN | apply Kd.R_drew)); exact HO218.out) hb1); have n5_ := Aside0.mk (below_step (by repeat (first | (with_reducible first | exact HB.out | apply below_alloc | apply pw_below_drewN | apply below_drew1) | exact HB.out)) hb1); have BK221 := Aside0.mk (hbox); have GE221 := Aside0.mk ((by rw [hg]; exact (below_size (by repeat (first | (with_reducible first | exact HB.out | apply below_alloc | apply pw_below_drewN | apply below_drew1) | exact HB.out))) : w.heap.size ≤ gb221)); clear HO218 HB; have HO218 := n2_; have HB := n5_; clear n2_ n5_; clear hb1 hbox hg; obtain ⟨Ao81, co81, eo81⟩ := Kd.R_slice HO218.out; subst eo81; have hcz84_0 : w80.cell? ⟨gb221, 0, none⟩ = some (.slice none 0 0) := (blk_cell BK221.out 0).trans rfl; have hcz84_1 : w80.cell? ⟨gb221, 1, none⟩ = some (.int .i64 0) := (blk_cell BK221.out 1).trans rfl; have hcz84_2 : w80.cell? ⟨gb221, 2, none⟩ = some (.int .i64 0) := (blk_cell BK221.out 2).trans rfl; have hfz84_0 := blk_frozen BK221.out 0; have hfz84_1 := blk_frozen BK221.out 1; have hfz84_2 := blk_frozen BK221.out 2; have p222 : 0 ≤ (0 : Int) := (by omega); have q222 : 0 < (zL.length : Int) := of_decide_eq_true (by first | (with_reducible assumption) | assumption); obtain ⟨ad222, e222, hx222_0⟩ := Kd.at_string (Kd.R_reads' HO218.out).2.2 0 p222 q222; cases e222; have qi222 : (0 < zL.length) = True := eq_true (by omega); (try rw [show ((0 : Int)).toNat = 0 from rfl] at hx222_0); (try rw [Addr.add_zero'] at hx222_0); have hn222_0 : ad222.block ≠ gb221 := Kd.own_blk (Kd.R_ne HO218.out BK221.out (by decide)); replace hx222_0 := (cell_far (p := ⟨gb221, 0, none⟩) (by first | (rw [add_block]; exact hn222_0) | (show (Addr.add _ _).block ≠ _; rw [add_block]; exact hn222_0) | exact hn222_0) (.slice (some ad222) zL.length co81)).trans hx222_0; replace hx222_0 := (cell_far (p := ⟨gb221, 1, none⟩) (by first | (rw [add_block]; exact hn222_0) | (show (Addr.add _ _).block ≠ _; rw [add_block]; exact hn222_0) | exact hn222_0) (.int .i64 zU)).trans hx222_0; replace hx222_0 := (cell_far (p := ⟨gb221, 2, none⟩) (by first | (rw [add_block]; exact hn222_0) | (show (Addr.add _ _).block ≠ _; rw [add_block]; exact hn222_0) | exact hn222_0) (.int .i64 5)).trans hx222_0; clear hn222_0; replace p222 := eq_true p222; replace q222 := eq_true q222))
                                      go_ret
                                      exact ⟨by first | rfl | (rw [hz0r]; simp), by repeat (first | (with_reducible first | exact HB.out | apply below_alloc | apply pw_below_drewN | apply below_drew1 | refine below_set ?_ GE221.out) | exact HB.out)⟩
                              · rw [if_neg c55] at H
                                exact absurd H (by simp)
                            · rw [if_neg c54] at H
                              exact absurd H (by simp)
                          · rw [if_neg c53] at H
                            exact absurd H (by simp)
                        · rw [if_neg c51] at H
                          have c51b0 : decide ((wrap64 (1 + (Int.tmod (wrap64 ((wrap64 (t206 * 256)) + t207)) (t197.size : Int)))) < (t197.size : Int)) = false := decide_eq_false c51
                          clear c51
                          have H1 : laws_FnRecs.tl kj28 l0 t190 t191 t196 t197 = some r := H
                          clear H
                          have hp0 := fun W (hb : Below w.heap.size w W) => laws_lwAt.calls A1 c1 l1 0 256 t206 W (Kd.C_below HR1.out hb) HC1.out A48.out
                          have hp1 := fun W (hb : Below w.heap.size w W) => laws_lwAt.calls A1 c1 l1 1 256 t207 W (Kd.C_below HR1.out hb) HC1.out A49.out
                          obtain ⟨rfl, i, x, j, zL, zU, hz0, A72, A73, hi0, hij, hb, hsz, A75⟩ := laws_FnRecs.tl_some H1
                          clear H1
                          have hli := fun W (hb : Below w.heap.size w W) => laws_lwAt.calls A0 c0 l0 0 (t191.size : Int) i W (Kd.C_below HR0.out hb) HC0.out A72
                          have hlx := fun W (hb : Below w.heap.size w W) => laws_lwAt.calls A0 c0 l0 1 255 x W (Kd.C_below HR0.out hb) HC0.out A73
                          have hcv := fun W => run_bytes_of_string (P := Try.prog) W 9 22 5 t197 Try.underlying9 Try.underlying22 Try.underlying5
                          have w1_ : wrap64 ((t197.size : Int) - 1) = (t197.size : Int) - 1 := by unfold wrap64; omega
                          have w2_ : wrap64 ((t197.size : Int) - 1 - i) = (j : Int) := by unfold wrap64; omega
                          go_wp2_with (first | (go_at_call 8; (with_reducible refine (hp0 _ ?hbl).mono ?_); (case hbl => exact (by (repeat (first | exact HB.out | apply below_alloc | apply pw_below_drewN | apply below_drew)))); rintro e w2 ⟨rfl, ⟨m4, rfl⟩⟩) | (go_at_call 8; (with_reducible refine (hp1 _ ?hbl).mono ?_); (case hbl => exact (by (repeat (first | exact HB.out | apply below_alloc | apply pw_below_drewN | apply below_drew)))); rintro e w2 ⟨rfl, ⟨m5, rfl⟩⟩) | (go_at_call 8; (with_reducible refine (hli _ ?hbl).mono ?_); (case hbl => exact (by (repeat (first | exact HB.out | apply below_alloc | apply pw_below_drewN | apply below_drew)))); rintro e w2 ⟨rfl, ⟨n4, rfl⟩⟩))
                          clear hli hcv w1_ w2_ hij hi0
                          obtain ⟨cap, hcap⟩ : ∃ c, c = grownCap (wc.drewN (m4 + m5)) t197.size 0 5 := ⟨_, rfl⟩
                          rw [← hcap]
                          clear hcap
                          obtain ⟨W3, hW3⟩ : ∃ W, W = (((wc.drewN (m4 + m5 + 1)).alloc (Obj.cells (bytesRow t197 cap) 5 ((bytesRow t197 cap).size, (bytesRow t197 cap).size + 1))).drewN n4) := ⟨_, rfl⟩
                          rw [← hW3]
                          obtain ⟨g, hg⟩ : ∃ g, g = wc.heap.size := ⟨_, rfl⟩
                          rw [← hg]
                          have hlen : (bytesRow t197 cap).size ≥ t197.size := by unfold bytesRow; simp
                          have hcell : ∀ i, i < t197.size → W3.cell? ⟨g, i, none⟩ = some (.int .u8 (bt t197 (i : Int))) := fun i hi => by
                            rw [hW3, hg]
                            exact (World.cell?_alloc_mark (wc.drewN (m4 + m5 + 1)) _ _ _ i).trans (laws_FnRecs.row_at t197 cap i hi)
                          have hblk : W3.heap[g]? = some (Obj.cells (bytesRow t197 cap) 5 ((bytesRow t197 cap).size, (bytesRow t197 cap).size + 1)) := by
                            rw [hW3, hg]
                            show (wc.heap.push _)[wc.heap.size]? = _
                            simp
                          have hfrz : W3.frozen? ⟨g, j, none⟩ = false := by
                            unfold World.frozen?
                            rw [hblk]
                            simp
                            omega
                          have hge : w.heap.size ≤ g := by rw [hg]; exact HB.out.size
                          have HB3 : Below w.heap.size w W3 := by
                            rw [hW3]
                            exact pw_below_drewN (below_alloc (pw_below_drewN HB.out _) _) _
                          clear hW3 hg HB hblk
                          have hj1 : (0 ≤ (j : Int)) = True := eq_true (by omega)
                          have hj2 : ((j : Int) < (t197.size : Int)) = True := eq_true (by omega)
                          refine start_ (n := 13) (S := fun w' => w'.cell? ⟨g, j, none⟩ = some (.int .u8 (bt t197 (j : Int)))) (ds := [12]) #[false, false, false, false, false, false, false, false, false, false, false, false, false] (by kernel_rfl) rfl rfl (hcell j hb.1) (fun hHeld => ?_)
                          obtain ⟨W4, hW4⟩ : ∃ W, W = W3.drew := ⟨_, rfl⟩
                          rw [← hW4] at hHeld ⊢
                          have hcell4 : ∀ i, i < t197.size → W4.cell? ⟨g, i, none⟩ = some (.int .u8 (bt t197 (i : Int))) := fun i hi => by rw [hW4]; exact hcell i hi
                          have hfrz4 : W4.frozen? ⟨g, j, none⟩ = false := by rw [hW4]; exact hfrz
                          have HB4 : Below w.heap.size w W4 := by rw [hW4]; exact below_drew1 HB3
                          clear hW4 hcell hfrz HB3
                          refine pv 0 139 ?_
                          refine pv 1 140 ?_
                          refine pv 2 141 ?_
                          refine pv 3 142 ?_
                          refine pv 4 143 ?_
                          refine take_ (i := 5) (N := some 144) (v := ?_) (a' := ?_) #[true, true, true, true, true, true, false, false, false, false, false, false, false] rfl rfl (by kernel_rfl) (fun _ _ _ h => h) (Or.inl ⟨by rfl, ?_⟩) hHeld ?_ ?_
                          rotate_left
                          · rintro w' s0
                            go_simp
                            with_reducible rfl
                          rotate_left
                          · simp only [Act.put, List.setIfInBounds_toArray, List.set_cons_zero, List.set_cons_succ, i64_w, i32_w]
                            rfl
                          refine pv 6 145 ?_
                          refine ov 7 146 (fun K hK => ?_)
                          refine gk Try.func8 (hlx _ HB4) ?_
                          rintro e w5 ⟨rfl, hd5⟩
                          obtain ⟨nd, rfl⟩ := hd5
                          refine ⟨_, rfl, ?_⟩
                          refine hK.out _ _ hHeld (fun hHeld => ?_)
                          refine norm_ (a' := ?_) ?_ ?_
                          rotate_left
                          · simp only [Act.put, List.setIfInBounds_toArray, List.set_cons_zero, List.set_cons_succ, i64_w, i32_w]
                            rfl
                          rotate_left
                          refine pv 8 147 ?_
                          refine pv 9 148 ?_
                          refine pv 10 149 ?_
                          refine pv 11 150 ?_
                          obtain ⟨v, hv⟩ : ∃ v, v = IntKind.u8.wrap (bt t197 (j : Int) + IntKind.u8.wrap (wrap64 (1 + x))) := ⟨_, rfl⟩
                          rw [← hv]
                          have hz5 : (W4.drewN nd).cell? ⟨g, j, none⟩ = some (.int .u8 (bt t197 (j : Int))) := hHeld
                          have hf5 : (W4.drewN nd).frozen? ⟨g, j, none⟩ = false := hfrz4
                          refine last_ (i := 12) (N := none) #[true, true, true, true, true, true, true, true, true, true, true, true, true] rfl rfl (by kernel_rfl) (by decide) (fun K hK => ?_)
                          refine skip_ (w1 := (W4.drewN nd).setCell ⟨g, j, none⟩ (.int .u8 v)) (by rfl) rfl ?_ ?_
                          · first | (go_simp; done) | (go_simp; rfl)
                          refine hK.out _ _ ?_
                          refine done_ (by kernel_rfl) ?_
                          have hvv : v = ((UInt8.ofNat ((bt t197 (j : Int) + (1 + x)) % 256).toNat).toNat : Int) := by
                            have h1 : wrap64 (1 + x) = 1 + x := by unfold wrap64; omega
                            have h0 : 0 ≤ bt t197 (j : Int) := by unfold bt; split <;> omega
                            rw [hv, h1, IntKind.wrap_u8, IntKind.wrap_u8, UInt8.toNat_ofNat']
                            omega
                          have hpl : (laws_FnRecs.put t197 (j : Int) x).data.toList.length = t197.size := by rw [laws_FnRecs.put_list, List.length_set]; exact Array.length_toList
                          have hps : (laws_FnRecs.put t197 (j : Int) x).size = t197.size := by rw [← hpl]; exact Array.length_toList.symm
                          obtain ⟨W6, hW6⟩ : ∃ W, W = (W4.drewN nd).setCell ⟨g, j, none⟩ (.int .u8 v) := ⟨_, rfl⟩
                          have HB := Aside0.mk (show Below w.heap.size w W6 by rw [hW6]; exact below_set (pw_below_drewN HB4 nd) hge)
                          have hcb : (convert 22 9 (.slice (some ⟨g, 0, none⟩) t197.size cap)).run Try.prog W6 = .ok (.string (laws_FnRecs.put t197 (j : Int) x)) W6 := by
                            have h := run_convert_bytes_back (P := Try.prog) W6 22 9 5 ⟨g, 0, none⟩ cap (laws_FnRecs.put t197 (j : Int) x).data.toList Try.underlying22 Try.underlying5 Try.underlying9 (fun i hi => by
                              rw [hpl] at hi
                              have ha : (Addr.add ⟨g, 0, none⟩ i) = ⟨g, i, none⟩ := by simp [Addr.add]; omega
                              rw [ha, hW6]
                              by_cases e : j = i
                              · subst e
                                rw [World.cell?_setCell_same (h := hz5), hvv]
                                simp only [laws_FnRecs.put_list, List.getElem_set_self]
                              · rw [World.cell?_setCell_other (h := (fun h => e (by injection h) : (⟨g, j, none⟩ : Addr) ≠ ⟨g, i, none⟩)), show (W4.drewN nd).cell? ⟨g, i, none⟩ = some (.int .u8 (bt t197 (i : Int))) from hcell4 i hi]
                                simp only [laws_FnRecs.put_list, List.getElem_set_ne e]
                                unfold bt
                                rw [Int.toNat_natCast, dif_pos hi]
                                rfl)
                            rw [hpl] at h
                            exact h
                          rw [← hW6]
                          clear hW6 hv hvv hz5 hf5 hHeld hcell4 hfrz4 HB4
                          have cs0 : (t196.size + (laws_FnRecs.put t197 (j : Int) x).size ≤ 9223372036854775807) = True := eq_true (by omega)
                          have cs1 : decide (t196.size + (laws_FnRecs.put t197 (j : Int) x).size ≤ 9223372036854775807) = true := decide_eq_true (by omega)
                          have cs2 : (9223372036854775807 < t196.size + (laws_FnRecs.put t197 (j : Int) x).size) = False := eq_false (by omega)
                          have hz0l : zL.length = 1 := by rw [hz0]; rfl
                          have hz0r : rdOf ByteArray.empty zL 0 = t190 := by rw [hz0]; rfl
                          have c77b0 : ((zL.length : Int) == 1) = true := beq_iff_eq.mpr (by omega)
                          have c78b0 : decide (0 < (zL.length : Int)) = true := decide_eq_true (by omega)
                          have c78b1 : decide (0 < zL.length) = true := decide_eq_true (by omega)
                          clear hz0 hz0l hpl hps hlen hge
                          go_wp2_with (first
                            | ((with_reducible refine gate_callee (f := 7) rfl ?_); refine goesL_ (some 155) rfl rfl Try.func7 (by kernel_rfl) rfl #[.string (t196 ++ laws_FnRecs.put t197 (j : Int) x)] rfl (by (try simp only [List.map_toArray, List.map_cons, List.map_nil]); first | done | rfl | (simp only [List.length_drop, List.length_take]; rfl)) ?_; (with_reducible refine (impl_RecsOf.calls kj28 (t196 ++ laws_FnRecs.put t197 (j : Int) x) zL zU 5 _ A75).mono ?_); rintro e w79 ⟨v217, rfl, ho0, hb0⟩; refine ⟨_, rfl, ?_⟩; have HO218 := Aside0.mk (Kd.R_lower ho0 (below_size (by repeat (first | (with_reducible first | exact HB.out | apply below_alloc | apply pw_below_drewN | apply below_drew1) | exact HB.out)))); have n5_ := Aside0.mk (below_step (by repeat (first | (with_reducible first | exact HB.out | apply below_alloc | apply pw_below_drewN | apply below_drew1) | exact HB.out)) hb0); clear HB; have HB := n5_; clear n5_ hb0 ho0)
                            | ((with_reducible refine gate_dst (N := 14) rfl ?_); (try (refine gate_guard (by rfl) ?_; dsimp only)); refine box_event ?hg (N := 14) ?hd (cs := #[.slice none 0 0, .int .i64 0, .int .i64 0]) (t := 27) ?hr ?_; (case hd => rfl); (case hg => rfl); (case hr => first | (go_simp; done) | (go_simp; rfl)); intro gb221 hg w80 hbox hb1; have n2_ := Aside0.mk (Kd.R_below (by (with_reducible repeat (first | apply Kd.R_alloc | apply Kd.R_drewN | apply Kd.R_drew)); exact HO218.out) hb1); have n5_ := Aside0.mk (below_step (by repeat (first | (with_reducible first | exact HB.out | apply below_alloc | apply pw_below_drewN | apply below_drew1) | exact HB.out)) hb1); have BK221 := Aside0.mk (hbox); have GE221 := Aside0.mk ((by rw [hg]; exact (below_size (by repeat (first | (with_reducible first | exact HB.out | apply below_alloc | apply pw_below_drewN | apply below_drew1) | exact HB.out))) : w.heap.size ≤ gb221)); clear HO218 HB; have HO218 := n2_; have HB := n5_; clear n2_ n5_; clear hb1 hbox hg; obtain ⟨Ao81, co81, eo81⟩ := Kd.R_slice HO218.out; subst eo81; have hcz84_0 : w80.cell? ⟨gb221, 0, none⟩ = some (.slice none 0 0) := (blk_cell BK221.out 0).trans rfl; have hcz84_1 : w80.cell? ⟨gb221, 1, none⟩ = some (.int .i64 0) := (blk_cell BK221.out 1).trans rfl; have hcz84_2 : w80.cell? ⟨gb221, 2, none⟩ = some (.int .i64 0) := (blk_cell BK221.out 2).trans rfl; have hfz84_0 := blk_frozen BK221.out 0; have hfz84_1 := blk_frozen BK221.out 1; have hfz84_2 := blk_frozen BK221.out 2; have p222 : 0 ≤ (0 : Int) := (by omega); have q222 : 0 < (zL.length : Int) := of_decide_eq_true (by first | (with_reducible assumption) | assumption); obtain ⟨ad222, e222, hx222_0⟩ := Kd.at_string (Kd.R_reads' HO218.out).2.2 0 p222 q222; cases e222; have qi222 : (0 < zL.length) = True := eq_true (by omega); (try rw [show ((0 : Int)).toNat = 0 from rfl] at hx222_0); (try rw [Addr.add_zero'] at hx222_0); have hn222_0 : ad222.block ≠ gb221 := Kd.own_blk (Kd.R_ne HO218.out BK221.out (by decide)); replace hx222_0 := (cell_far (p := ⟨gb221, 0, none⟩) (by first | (rw [add_block]; exact hn222_0) | (show (Addr.add _ _).block ≠ _; rw [add_block]; exact hn222_0) | exact hn222_0) (.slice (some ad222) zL.length co81)).trans hx222_0; replace hx222_0 := (cell_far (p := ⟨gb221, 1, none⟩) (by first | (rw [add_block]; exact hn222_0) | (show (Addr.add _ _).block ≠ _; rw [add_block]; exact hn222_0) | exact hn222_0) (.int .i64 zU)).trans hx222_0; replace hx222_0 := (cell_far (p := ⟨gb221, 2, none⟩) (by first | (rw [add_block]; exact hn222_0) | (show (Addr.add _ _).block ≠ _; rw [add_block]; exact hn222_0) | exact hn222_0) (.int .i64 5)).trans hx222_0; clear hn222_0; replace p222 := eq_true p222; replace q222 := eq_true q222))
                          go_ret
                          exact ⟨by first | rfl | (rw [hz0r]; simp), by repeat (first | (with_reducible first | exact HB.out | apply below_alloc | apply pw_below_drewN | apply below_drew1 | refine below_set ?_ GE221.out) | exact HB.out)⟩
              · rw [if_neg c27] at H
                exact absurd H (by simp)

def laws_FnRecs.Pure : Prop := ∀ (l0 : List Int) (l1 : List Int), (l0.length ≤ maxLen ∧ ∀ x ∈ l0, (Lit.int .u8 x).wf = true) → (l1.length ≤ maxLen ∧ ∀ x ∈ l1, (Lit.int .u8 x).wf = true) → ∃ k, laws_FnRecs.f k l0 l1 = some true

end Go.Proofs.Ytppeloepaihckaa.PFnRecs
