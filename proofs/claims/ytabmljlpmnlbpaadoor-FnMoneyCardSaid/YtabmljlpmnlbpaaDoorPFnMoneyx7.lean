-- laid by seedprint.py, a program of this session, over contracts that it gives by hand; Lean checks it
import Derived.Test.YtabmljlpmnlbpaaDoorPFnMoneyx0
import Derived.Test.YtabmljlpmnlbpaaDoorPFnMoneyx1
import Derived.Test.YtabmljlpmnlbpaaDoorPFnMoneyx2
import Derived.Test.YtabmljlpmnlbpaaDoorPFnMoneyx3
import Derived.Test.YtabmljlpmnlbpaaDoorPFnMoneyx4
import Derived.Test.YtabmljlpmnlbpaaDoorPFnMoneyx5
import Derived.Test.YtabmljlpmnlbpaaDoorPFnMoneyx6
namespace Go.Proofs.YtabmljlpmnlbpaaDoor.PFnMoney
open Go.RowKit Go.Proofs.YtabmljlpmnlbpaaDoorW.PrintWords Go.Proofs.YtabmljlpmnlbpaaDoorW.PrintLast Go.Proofs.YtabmljlpmnlbpaaDoorW.PrintMore
attribute [local go_sem] max2_int min2_int max_two min_two max_three min_three max_four min_four   -- for this text's walks alone
set_option linter.unusedVariables false
set_option linter.unusedSimpArgs false
theorem fldv50_0 (v0 v1 : Value) (w : World) : Sem.run Tryd.prog (Instr.field 50 (.agg #[v0, v1]) 0) w = .ok v0 w := by kernel_rfl
attribute [local go_sem] fldv50_0
theorem fldv50_1 (v0 v1 : Value) (w : World) : Sem.run Tryd.prog (Instr.field 50 (.agg #[v0, v1]) 1) w = .ok v1 w := by kernel_rfl
attribute [local go_sem] fldv50_1

attribute [local go_sem high] eqA50
/-! ### laws_FnMoney: function 13 -/
mutual
def laws_FnMoney.j0 : Nat → List Int → List Int → Bool → Option (Bool)
  | 0, _, _, _ => none
  | k + 1, x0, x1, x20 => if x20 = true then (some true) else ((spec_DrawMoneyAdd.f k x0).bind fun bt297 => ((impl_MoneyAdd.f bt297.1 bt297.2).bind fun bt299 => ((spec_MoneyAdd.f bt297.1 bt297.2).bind fun bt302 => (if (!(bt299.1 == bt302.1) || (!(bt299.2 == bt302.2))) = true then (laws_FnMoney.j1 k x0 x1 bt297.1 bt297.2 true bt299.1 bt299.2) else ((impl_MoneyRight.f bt297.1).bind fun t304 => ((spec_MoneyRight.f bt297.1).bind fun t305 => (laws_FnMoney.j1 k x0 x1 bt297.1 bt297.2 (t304 != t305) bt299.1 bt299.2)))))))
def laws_FnMoney.j1 : Nat → List Int → List Int → Int → Int → Bool → Int → Int → Option (Bool)
  | 0, _, _, _, _, _, _, _ => none
  | k + 1, x0, x1, x5, x6, x40, x302000, x302001 => if x40 = true then (none) else (if x302001 = 0 then (if x6 = 0 then (laws_FnMoney.j2 k x0 x1 x5 (x6 != 0)) else ((impl_MoneyAdd.f x302000 (wrap64 (-x6))).bind fun bt306 => (if bt306.1 = x5 then (laws_FnMoney.j2 k x0 x1 x5 false) else (laws_FnMoney.j2 k x0 x1 x5 (x6 != 0))))) else (laws_FnMoney.j2 k x0 x1 x5 false))
def laws_FnMoney.j2 : Nat → List Int → List Int → Int → Bool → Option (Bool)
  | 0, _, _, _, _ => none
  | k + 1, x0, x1, x5, x61 => if x61 = true then (none) else ((spec_MoneyRight.f x5).bind fun t308 => (if t308 = true then ((impl_MoneyText.f x5).bind fun t309 => ((impl_MoneyRead.f t309).bind fun bt310 => (laws_FnMoney.j3 k x0 x1 (!(bt310.1 == x5) || (!(bt310.2 == 0)))))) else (laws_FnMoney.j3 k x0 x1 false)))
def laws_FnMoney.j3 : Nat → List Int → List Int → Bool → Option (Bool)
  | 0, _, _, _ => none
  | k + 1, x0, x1, x71 => if x71 = true then (none) else ((spec_DrawRateText.f k x0).bind fun t312 => ((spec_RateText.f k t312).bind fun t313 => (if t313.toList = ([] : List UInt8) then (laws_FnMoney.j4 k x1 false) else ((impl_RateText.f t312).bind fun t314 => ((impl_RateRead.f t314).bind fun bt315 => (laws_FnMoney.j4 k x1 (!(bt315.1 == t312) || (!(bt315.2 == 0)))))))))
def laws_FnMoney.j4 : Nat → List Int → Bool → Option (Bool)
  | 0, _, _ => none
  | k + 1, x1, x84 => if x84 = true then (none) else ((spec_DrawMoneyRead.f k x1).bind fun t317 => ((spec_DrawRateRead.f k x1).bind fun t318 => ((impl_MoneyRead.f t317).bind fun bt319 => ((impl_RateRead.f t318).bind fun bt322 => ((spec_MoneyRead.f k t317).bind fun bt325 => (if (!(bt319.1 == bt325.1) || (!(bt319.2 == bt325.2))) = true then (laws_FnMoney.j5 k t317 t318 true bt319.1 bt319.2 bt322.1 bt322.2) else ((spec_RateRead.f k t318).bind fun bt327 => (laws_FnMoney.j5 k t317 t318 (!(bt322.1 == bt327.1) || (!(bt322.2 == bt327.2))) bt319.1 bt319.2 bt322.1 bt322.2))))))))
def laws_FnMoney.j5 : Nat → ByteArray → ByteArray → Bool → Int → Int → Int → Int → Option (Bool)
  | 0, _, _, _, _, _, _, _ => none
  | k + 1, x9, x10, x102, x322000, x322001, x325000, x325001 => if x102 = true then (none) else (if x322001 = 0 then ((impl_MoneyText.f x322000).bind fun t329 => (if t329.toList = x9.toList then (if x325001 = 0 then ((impl_RateText.f x325000).bind fun t330 => (some (t330.toList == x10.toList))) else (some true)) else (none))) else (if x325001 = 0 then ((impl_RateText.f x325000).bind fun t331 => (some (t331.toList == x10.toList))) else (some true)))
end
def laws_FnMoney.f (k : Nat) (l0 : List Int) (l1 : List Int) : Option (Bool) := if (l0.length : Int) > 1048576 then (laws_FnMoney.j0 k l0 l1 true) else (laws_FnMoney.j0 k l0 l1 (decide ((l1.length : Int) > 1048576)))
theorem laws_FnMoney.mono_l : ∀ k, (∀ y0 y1 y2, LeO (laws_FnMoney.j0 k y0 y1 y2) (laws_FnMoney.j0 (k + 1) y0 y1 y2)) ∧ (∀ y0 y1 y2 y3 y4 y5 y6, LeO (laws_FnMoney.j1 k y0 y1 y2 y3 y4 y5 y6) (laws_FnMoney.j1 (k + 1) y0 y1 y2 y3 y4 y5 y6)) ∧ (∀ y0 y1 y2 y3, LeO (laws_FnMoney.j2 k y0 y1 y2 y3) (laws_FnMoney.j2 (k + 1) y0 y1 y2 y3)) ∧ (∀ y0 y1 y2, LeO (laws_FnMoney.j3 k y0 y1 y2) (laws_FnMoney.j3 (k + 1) y0 y1 y2)) ∧ (∀ y0 y1, LeO (laws_FnMoney.j4 k y0 y1) (laws_FnMoney.j4 (k + 1) y0 y1)) ∧ (∀ y0 y1 y2 y3 y4 y5 y6, LeO (laws_FnMoney.j5 k y0 y1 y2 y3 y4 y5 y6) (laws_FnMoney.j5 (k + 1) y0 y1 y2 y3 y4 y5 y6))
  | 0 => ⟨fun _ _ _ r h => by simp [laws_FnMoney.j0] at h, fun _ _ _ _ _ _ _ r h => by simp [laws_FnMoney.j1] at h, fun _ _ _ _ r h => by simp [laws_FnMoney.j2] at h, fun _ _ _ r h => by simp [laws_FnMoney.j3] at h, fun _ _ r h => by simp [laws_FnMoney.j4] at h, fun _ _ _ _ _ _ _ r h => by simp [laws_FnMoney.j5] at h⟩
  | k + 1 => by
    obtain ⟨ih0, ih1, ih2, ih3, ih4, ih5⟩ := laws_FnMoney.mono_l k
    refine ⟨?_, ?_, ?_, ?_, ?_, ?_⟩
    · intro y0 y1 y2
      unfold laws_FnMoney.j0
      repeat' first
      | (with_reducible exact ih0 _ _ _)
      | (with_reducible exact ih1 _ _ _ _ _ _ _)
      | (with_reducible exact ih2 _ _ _ _)
      | (with_reducible exact ih3 _ _ _)
      | (with_reducible exact ih4 _ _)
      | (with_reducible exact ih5 _ _ _ _ _ _ _)
      | (with_reducible exact spec_DrawMoneyAdd.mono _ _)
      | (with_reducible exact spec_DrawMoneyRead.mono _ _)
      | (with_reducible exact spec_DrawRateRead.mono _ _)
      | (with_reducible exact spec_DrawRateText.mono _ _)
      | (with_reducible exact spec_MoneyRead.mono _ _)
      | (with_reducible exact spec_RateRead.mono _ _)
      | (with_reducible exact spec_RateText.mono _ _)
      | (with_reducible exact LeO.refl _)
      | (with_reducible exact LeO.none _)
      | (with_reducible refine LeO.ite ?_ ?_)
      | (with_reducible refine LeO.bind ?_ (fun _ => ?_))
      | exact ih0 _ _ _
      | exact ih1 _ _ _ _ _ _ _
      | exact ih2 _ _ _ _
      | exact ih3 _ _ _
      | exact ih4 _ _
      | exact ih5 _ _ _ _ _ _ _
      | exact spec_DrawMoneyAdd.mono _ _
      | exact spec_DrawMoneyRead.mono _ _
      | exact spec_DrawRateRead.mono _ _
      | exact spec_DrawRateText.mono _ _
      | exact spec_MoneyRead.mono _ _
      | exact spec_RateRead.mono _ _
      | exact spec_RateText.mono _ _
      | exact LeO.none _
      | refine LeO.ite ?_ ?_
      | refine LeO.bind ?_ (fun _ => ?_)
    · intro y0 y1 y2 y3 y4 y5 y6
      unfold laws_FnMoney.j1
      repeat' first
      | (with_reducible exact ih0 _ _ _)
      | (with_reducible exact ih1 _ _ _ _ _ _ _)
      | (with_reducible exact ih2 _ _ _ _)
      | (with_reducible exact ih3 _ _ _)
      | (with_reducible exact ih4 _ _)
      | (with_reducible exact ih5 _ _ _ _ _ _ _)
      | (with_reducible exact spec_DrawMoneyAdd.mono _ _)
      | (with_reducible exact spec_DrawMoneyRead.mono _ _)
      | (with_reducible exact spec_DrawRateRead.mono _ _)
      | (with_reducible exact spec_DrawRateText.mono _ _)
      | (with_reducible exact spec_MoneyRead.mono _ _)
      | (with_reducible exact spec_RateRead.mono _ _)
      | (with_reducible exact spec_RateText.mono _ _)
      | (with_reducible exact LeO.refl _)
      | (with_reducible exact LeO.none _)
      | (with_reducible refine LeO.ite ?_ ?_)
      | (with_reducible refine LeO.bind ?_ (fun _ => ?_))
      | exact ih0 _ _ _
      | exact ih1 _ _ _ _ _ _ _
      | exact ih2 _ _ _ _
      | exact ih3 _ _ _
      | exact ih4 _ _
      | exact ih5 _ _ _ _ _ _ _
      | exact spec_DrawMoneyAdd.mono _ _
      | exact spec_DrawMoneyRead.mono _ _
      | exact spec_DrawRateRead.mono _ _
      | exact spec_DrawRateText.mono _ _
      | exact spec_MoneyRead.mono _ _
      | exact spec_RateRead.mono _ _
      | exact spec_RateText.mono _ _
      | exact LeO.none _
      | refine LeO.ite ?_ ?_
      | refine LeO.bind ?_ (fun _ => ?_)
    · intro y0 y1 y2 y3
      unfold laws_FnMoney.j2
      repeat' first
      | (with_reducible exact ih0 _ _ _)
      | (with_reducible exact ih1 _ _ _ _ _ _ _)
      | (with_reducible exact ih2 _ _ _ _)
      | (with_reducible exact ih3 _ _ _)
      | (with_reducible exact ih4 _ _)
      | (with_reducible exact ih5 _ _ _ _ _ _ _)
      | (with_reducible exact spec_DrawMoneyAdd.mono _ _)
      | (with_reducible exact spec_DrawMoneyRead.mono _ _)
      | (with_reducible exact spec_DrawRateRead.mono _ _)
      | (with_reducible exact spec_DrawRateText.mono _ _)
      | (with_reducible exact spec_MoneyRead.mono _ _)
      | (with_reducible exact spec_RateRead.mono _ _)
      | (with_reducible exact spec_RateText.mono _ _)
      | (with_reducible exact LeO.refl _)
      | (with_reducible exact LeO.none _)
      | (with_reducible refine LeO.ite ?_ ?_)
      | (with_reducible refine LeO.bind ?_ (fun _ => ?_))
      | exact ih0 _ _ _
      | exact ih1 _ _ _ _ _ _ _
      | exact ih2 _ _ _ _
      | exact ih3 _ _ _
      | exact ih4 _ _
      | exact ih5 _ _ _ _ _ _ _
      | exact spec_DrawMoneyAdd.mono _ _
      | exact spec_DrawMoneyRead.mono _ _
      | exact spec_DrawRateRead.mono _ _
      | exact spec_DrawRateText.mono _ _
      | exact spec_MoneyRead.mono _ _
      | exact spec_RateRead.mono _ _
      | exact spec_RateText.mono _ _
      | exact LeO.none _
      | refine LeO.ite ?_ ?_
      | refine LeO.bind ?_ (fun _ => ?_)
    · intro y0 y1 y2
      unfold laws_FnMoney.j3
      repeat' first
      | (with_reducible exact ih0 _ _ _)
      | (with_reducible exact ih1 _ _ _ _ _ _ _)
      | (with_reducible exact ih2 _ _ _ _)
      | (with_reducible exact ih3 _ _ _)
      | (with_reducible exact ih4 _ _)
      | (with_reducible exact ih5 _ _ _ _ _ _ _)
      | (with_reducible exact spec_DrawMoneyAdd.mono _ _)
      | (with_reducible exact spec_DrawMoneyRead.mono _ _)
      | (with_reducible exact spec_DrawRateRead.mono _ _)
      | (with_reducible exact spec_DrawRateText.mono _ _)
      | (with_reducible exact spec_MoneyRead.mono _ _)
      | (with_reducible exact spec_RateRead.mono _ _)
      | (with_reducible exact spec_RateText.mono _ _)
      | (with_reducible exact LeO.refl _)
      | (with_reducible exact LeO.none _)
      | (with_reducible refine LeO.ite ?_ ?_)
      | (with_reducible refine LeO.bind ?_ (fun _ => ?_))
      | exact ih0 _ _ _
      | exact ih1 _ _ _ _ _ _ _
      | exact ih2 _ _ _ _
      | exact ih3 _ _ _
      | exact ih4 _ _
      | exact ih5 _ _ _ _ _ _ _
      | exact spec_DrawMoneyAdd.mono _ _
      | exact spec_DrawMoneyRead.mono _ _
      | exact spec_DrawRateRead.mono _ _
      | exact spec_DrawRateText.mono _ _
      | exact spec_MoneyRead.mono _ _
      | exact spec_RateRead.mono _ _
      | exact spec_RateText.mono _ _
      | exact LeO.none _
      | refine LeO.ite ?_ ?_
      | refine LeO.bind ?_ (fun _ => ?_)
    · intro y0 y1
      unfold laws_FnMoney.j4
      repeat' first
      | (with_reducible exact ih0 _ _ _)
      | (with_reducible exact ih1 _ _ _ _ _ _ _)
      | (with_reducible exact ih2 _ _ _ _)
      | (with_reducible exact ih3 _ _ _)
      | (with_reducible exact ih4 _ _)
      | (with_reducible exact ih5 _ _ _ _ _ _ _)
      | (with_reducible exact spec_DrawMoneyAdd.mono _ _)
      | (with_reducible exact spec_DrawMoneyRead.mono _ _)
      | (with_reducible exact spec_DrawRateRead.mono _ _)
      | (with_reducible exact spec_DrawRateText.mono _ _)
      | (with_reducible exact spec_MoneyRead.mono _ _)
      | (with_reducible exact spec_RateRead.mono _ _)
      | (with_reducible exact spec_RateText.mono _ _)
      | (with_reducible exact LeO.refl _)
      | (with_reducible exact LeO.none _)
      | (with_reducible refine LeO.ite ?_ ?_)
      | (with_reducible refine LeO.bind ?_ (fun _ => ?_))
      | exact ih0 _ _ _
      | exact ih1 _ _ _ _ _ _ _
      | exact ih2 _ _ _ _
      | exact ih3 _ _ _
      | exact ih4 _ _
      | exact ih5 _ _ _ _ _ _ _
      | exact spec_DrawMoneyAdd.mono _ _
      | exact spec_DrawMoneyRead.mono _ _
      | exact spec_DrawRateRead.mono _ _
      | exact spec_DrawRateText.mono _ _
      | exact spec_MoneyRead.mono _ _
      | exact spec_RateRead.mono _ _
      | exact spec_RateText.mono _ _
      | exact LeO.none _
      | refine LeO.ite ?_ ?_
      | refine LeO.bind ?_ (fun _ => ?_)
    · intro y0 y1 y2 y3 y4 y5 y6
      unfold laws_FnMoney.j5
      repeat' first
      | (with_reducible exact ih0 _ _ _)
      | (with_reducible exact ih1 _ _ _ _ _ _ _)
      | (with_reducible exact ih2 _ _ _ _)
      | (with_reducible exact ih3 _ _ _)
      | (with_reducible exact ih4 _ _)
      | (with_reducible exact ih5 _ _ _ _ _ _ _)
      | (with_reducible exact spec_DrawMoneyAdd.mono _ _)
      | (with_reducible exact spec_DrawMoneyRead.mono _ _)
      | (with_reducible exact spec_DrawRateRead.mono _ _)
      | (with_reducible exact spec_DrawRateText.mono _ _)
      | (with_reducible exact spec_MoneyRead.mono _ _)
      | (with_reducible exact spec_RateRead.mono _ _)
      | (with_reducible exact spec_RateText.mono _ _)
      | (with_reducible exact LeO.refl _)
      | (with_reducible exact LeO.none _)
      | (with_reducible refine LeO.ite ?_ ?_)
      | (with_reducible refine LeO.bind ?_ (fun _ => ?_))
      | exact ih0 _ _ _
      | exact ih1 _ _ _ _ _ _ _
      | exact ih2 _ _ _ _
      | exact ih3 _ _ _
      | exact ih4 _ _
      | exact ih5 _ _ _ _ _ _ _
      | exact spec_DrawMoneyAdd.mono _ _
      | exact spec_DrawMoneyRead.mono _ _
      | exact spec_DrawRateRead.mono _ _
      | exact spec_DrawRateText.mono _ _
      | exact spec_MoneyRead.mono _ _
      | exact spec_RateRead.mono _ _
      | exact spec_RateText.mono _ _
      | exact LeO.none _
      | refine LeO.ite ?_ ?_
      | refine LeO.bind ?_ (fun _ => ?_)
theorem laws_FnMoney.mono : ∀ a0 a1 k, LeO (laws_FnMoney.f k a0 a1) (laws_FnMoney.f (k + 1) a0 a1) := by
  intro a0 a1 k
  obtain ⟨ih0, ih1, ih2, ih3, ih4, ih5⟩ := laws_FnMoney.mono_l k
  unfold laws_FnMoney.f
  repeat' first
      | (with_reducible exact ih0 _ _ _)
      | (with_reducible exact ih1 _ _ _ _ _ _ _)
      | (with_reducible exact ih2 _ _ _ _)
      | (with_reducible exact ih3 _ _ _)
      | (with_reducible exact ih4 _ _)
      | (with_reducible exact ih5 _ _ _ _ _ _ _)
      | (with_reducible exact spec_DrawMoneyAdd.mono _ _)
      | (with_reducible exact spec_DrawMoneyRead.mono _ _)
      | (with_reducible exact spec_DrawRateRead.mono _ _)
      | (with_reducible exact spec_DrawRateText.mono _ _)
      | (with_reducible exact spec_MoneyRead.mono _ _)
      | (with_reducible exact spec_RateRead.mono _ _)
      | (with_reducible exact spec_RateText.mono _ _)
      | (with_reducible exact LeO.refl _)
      | (with_reducible exact LeO.none _)
      | (with_reducible refine LeO.ite ?_ ?_)
      | (with_reducible refine LeO.bind ?_ (fun _ => ?_))
      | exact ih0 _ _ _
      | exact ih1 _ _ _ _ _ _ _
      | exact ih2 _ _ _ _
      | exact ih3 _ _ _
      | exact ih4 _ _
      | exact ih5 _ _ _ _ _ _ _
      | exact spec_DrawMoneyAdd.mono _ _
      | exact spec_DrawMoneyRead.mono _ _
      | exact spec_DrawRateRead.mono _ _
      | exact spec_DrawRateText.mono _ _
      | exact spec_MoneyRead.mono _ _
      | exact spec_RateRead.mono _ _
      | exact spec_RateText.mono _ _
      | exact LeO.none _
      | refine LeO.ite ?_ ?_
      | refine LeO.bind ?_ (fun _ => ?_)
def laws_FnMoney.T5 : Bool × List (List Nat × List Nat) := (true, [([], []), ([], []), ([], []), ([1, 2], [1, 2]), ([0, 3], [0, 3]), ([4, 3], [4]), ([5], [5]), ([6, 5, 5], [5, 6]), ([5], [5]), ([8, 7, 5], [5, 8]), ([7, 9, 5], [5, 7, 9]), ([5, 10], [5, 10])])
def laws_FnMoney.B5 : List Nat := [0, 0, 0, 6, 15, 31, 63, 127, 63, 511, 1023, 2047]
theorem laws_FnMoney.tab5 : rtab .any (opsOf Tryd.f13 5) = laws_FnMoney.T5 := by kernel_rfl
theorem laws_FnMoney.bits5 : waitsOk laws_FnMoney.T5.2 laws_FnMoney.B5 = true := by kernel_rfl
def laws_FnMoney.T18 : Bool × List (List Nat × List Nat) := (true, [([], []), ([], []), ([1], [1]), ([0, 2], [0, 2]), ([3, 2], [3]), ([4], [4]), ([4], [4]), ([6, 4, 4], [4, 6]), ([5, 7, 4], [4, 5, 7]), ([4, 8], [4, 8])])
def laws_FnMoney.B18 : List Nat := [0, 0, 2, 7, 15, 31, 31, 95, 255, 511]
theorem laws_FnMoney.tab18 : rtab .any (opsOf Tryd.f13 18) = laws_FnMoney.T18 := by kernel_rfl
theorem laws_FnMoney.bits18 : waitsOk laws_FnMoney.T18.2 laws_FnMoney.B18 = true := by kernel_rfl
set_option maxHeartbeats 8000000 in
set_option maxRecDepth 100000 in
theorem laws_FnMoney.calls (k : Nat) (A0 : Option Addr) (c0 : Nat) (l0 : List Int) (A1 : Option Addr) (c1 : Nat) (l1 : List Int) (r : Bool) (w : World) (hr0 : Kd.C (Kd.int .u8) w A0 l0.length l0) (hc0 : l0.length ≤ c0) (hr1 : Kd.C (Kd.int .u8) w A1 l1.length l1) (hc1 : l1.length ≤ c1) (hsh : Sh w) (h : laws_FnMoney.f k l0 l1 = some r) :
    Calls Tryd.prog 13 #[.slice A0 l0.length c0, .slice A1 l1.length c1] w fun e w' => e = .returned (.bool r) ∧ Below w.heap.size w w' := by
  have hu50 := Tryd.underlying50
  have HR0 := Aside0.mk hr0
  have HC0 := Aside0.mk hc0
  clear hr0 hc0
  have HR1 := Aside0.mk hr1
  have HC1 := Aside0.mk hc1
  clear hr1 hc1
  have HSH := Aside0.mk hsh
  clear hsh
  have HB := Aside0.mk (Below.refl w.heap.size w)
  have H : (if (l0.length : Int) > 1048576 then (laws_FnMoney.j0 k l0 l1 true) else (laws_FnMoney.j0 k l0 l1 (decide ((l1.length : Int) > 1048576)))) = some r := h
  clear h
  have HC3 := Aside0.mk H
  clear H
  go_enter Tryd.func13, Tryd.ntmps13
  go_upto_region 1 with (fail)
  go_cut [20] (fun v20 wc => ∃ (kq : Nat) (x20_2 : Bool), v20 = .bool x20_2 ∧ Aside0 (laws_FnMoney.j0 kq l0 l1 x20_2 = some r) ∧ Aside0 (kq ≤ k) ∧ Aside0 (Below w.heap.size w wc))
  case first =>
    have H := HC3.out
    clear HC3
    by_cases c4 : (l0.length : Int) > 1048576
    · rw [if_pos c4] at H
      have c4b0 : decide (1048576 < (l0.length : Int)) = true := decide_eq_true c4
      have c4b1 : decide (1048576 < l0.length) = true := decide_eq_true (by omega)
      clear c4
      (first | rw [c4b0] | (simp only [i64_w, i32_w]; rw [c4b0]) | skip)
      have H' := Aside0.mk H
      clear H
      go_wp2
      go_meet
      case rel => exact ⟨_, (true), (by first | rfl | (simp; done) | (simp [*]; done)), H', ⟨by first | omega | exact Nat.le_refl _⟩, ⟨by repeat (first | (with_reducible first | exact HB.out | apply below_alloc | apply pw_below_drewN | apply below_drew1) | exact HB.out)⟩⟩
    · rw [if_neg c4] at H
      have c4b0 : decide (1048576 < (l0.length : Int)) = false := decide_eq_false c4
      have c4b1 : decide (1048576 < l0.length) = false := decide_eq_false (by omega)
      clear c4
      (first | rw [c4b0] | (simp only [i64_w, i32_w]; rw [c4b0]) | skip)
      have H' := Aside0.mk H
      clear H
      go_wp2
      go_meet
      case rel => exact ⟨_, (decide ((l1.length : Int) > 1048576)), (by first | rfl | (simp; done) | (simp [*]; done)), H', ⟨by first | omega | exact Nat.le_refl _⟩, ⟨by repeat (first | (with_reducible first | exact HB.out | apply below_alloc | apply pw_below_drewN | apply below_drew1) | exact HB.out)⟩⟩
  case rest =>
    clear HC3
    try clear c1
    try clear p2
    try clear c4
    try clear c4b0
    try clear c4b1
    obtain ⟨kq, x20_2, rfl, HA, HJ2, HB⟩ := hcut
    cases kq with
    | zero => exact absurd HA.out (by simp [laws_FnMoney.j0])
    | succ kj2 =>
      have H := HA.out
      clear HA
      simp only [laws_FnMoney.j0] at H
      by_cases c5 : x20_2 = true
      · subst c5
        have H1 : (some true) = some r := by rw [if_pos rfl] at H; exact H
        clear H
        have H := H1
        clear H1
        obtain rfl := Option.some.inj H
        go_wp2
        go_ret
        exact ⟨by first | rfl | (simp [errW_none, errW_some] <;> rfl) | (simp [*, errW_none, errW_some] <;> rfl), by repeat (first | (with_reducible first | exact HB.out | apply below_alloc | apply pw_below_drewN | apply below_drew1) | exact HB.out)⟩
      · replace c5 := Bool.eq_false_iff.mpr c5
        subst c5
        have H1 : ((spec_DrawMoneyAdd.f kj2 l0).bind fun bt297 => ((impl_MoneyAdd.f bt297.1 bt297.2).bind fun bt299 => ((spec_MoneyAdd.f bt297.1 bt297.2).bind fun bt302 => (if (!(bt299.1 == bt302.1) || (!(bt299.2 == bt302.2))) = true then (laws_FnMoney.j1 kj2 l0 l1 bt297.1 bt297.2 true bt299.1 bt299.2) else ((impl_MoneyRight.f bt297.1).bind fun t304 => ((spec_MoneyRight.f bt297.1).bind fun t305 => (laws_FnMoney.j1 kj2 l0 l1 bt297.1 bt297.2 (t304 != t305) bt299.1 bt299.2))))))) = some r := by rw [if_neg (show ¬ (false = true) by decide)] at H; exact H
        clear H
        have H := H1
        clear H1
        replace H := Option.bind_eq_some_iff.mp H
        obtain ⟨⟨t297, t298⟩, A60, H⟩ := H
        replace H : ((impl_MoneyAdd.f t297 t298).bind fun bt299 => ((spec_MoneyAdd.f t297 t298).bind fun bt302 => (if (!(bt299.1 == bt302.1) || (!(bt299.2 == bt302.2))) = true then (laws_FnMoney.j1 kj2 l0 l1 t297 t298 true bt299.1 bt299.2) else ((impl_MoneyRight.f t297).bind fun t304 => ((spec_MoneyRight.f t297).bind fun t305 => (laws_FnMoney.j1 kj2 l0 l1 t297 t298 (t304 != t305) bt299.1 bt299.2)))))) = some r := H
        have A6 := Aside0.mk A60
        clear A60
        replace H := Option.bind_eq_some_iff.mp H
        obtain ⟨⟨t299, t300⟩, A70, H⟩ := H
        replace H : ((spec_MoneyAdd.f t297 t298).bind fun bt302 => (if (!(t299 == bt302.1) || (!(t300 == bt302.2))) = true then (laws_FnMoney.j1 kj2 l0 l1 t297 t298 true t299 t300) else ((impl_MoneyRight.f t297).bind fun t304 => ((spec_MoneyRight.f t297).bind fun t305 => (laws_FnMoney.j1 kj2 l0 l1 t297 t298 (t304 != t305) t299 t300))))) = some r := H
        have A7 := Aside0.mk A70
        clear A70
        have HC8 := Aside0.mk H
        clear H
        go_upto_region 5 with (first | ((with_reducible refine gate_callee (f := 46) rfl ?_); refine goesL_ (some 23) rfl rfl Tryd.func46 (by kernel_rfl) rfl #[.slice A0 l0.length c0] rfl (by (try simp only [List.map_toArray, List.map_cons, List.map_nil]); first | done | rfl | (simp only [List.length_drop, List.length_take]; rfl)) ?_; (with_reducible refine (spec_DrawMoneyAdd.calls kj2 _ _ l0 t297 t298 _ ?side1 ?side2 A6.out).mono ?_); (case side1 => repeat (first | exact (Kd.C_below HR0.out HB.out) | (with_reducible refine Kd.C_alloc ?_ _) | (with_reducible refine Kd.C_drewN ?_ _) | (with_reducible refine Kd.C_drew ?_))); (case side2 => exact HC0.out); rintro e w9 ⟨rfl, hb⟩; refine ⟨_, rfl, ?_⟩; have n0_ := Aside0.mk (below_step (by repeat (first | (with_reducible first | exact HB.out | apply below_alloc | apply pw_below_drewN | apply below_drew1) | exact HB.out)) hb); clear HB; have HB := n0_; clear n0_; (try clear hb); (try clear hb2); (try clear hk); (try clear hi)) | ((with_reducible refine gate_callee (f := 47) rfl ?_); refine goesL_ (some 28) rfl rfl Tryd.func47 (by kernel_rfl) rfl #[.int .i64 t297, .int .i64 t298] rfl (by (try simp only [List.map_toArray, List.map_cons, List.map_nil]); first | done | rfl | (simp only [List.length_drop, List.length_take]; rfl)) ?_; (with_reducible refine (impl_MoneyAdd.calls t297 t298 t299 t300 _ A7.out).mono ?_); rintro e w10 ⟨rfl, hb⟩; refine ⟨_, rfl, ?_⟩; have n0_ := Aside0.mk (below_step (by repeat (first | (with_reducible first | exact HB.out | apply below_alloc | apply pw_below_drewN | apply below_drew1) | exact HB.out)) hb); clear HB; have HB := n0_; clear n0_; (try clear hb); (try clear hb2); (try clear hk); (try clear hi)) | ((with_reducible refine gate_dst (N := 7) rfl ?_); (try (refine gate_guard (by rfl) ?_; dsimp only)); refine box_event ?hg (N := 7) ?hd (cs := #[.int .i64 0, .int .i64 0]) (t := 50) ?hr ?_; (case hd => rfl); (case hg => rfl); (case hr => first | (go_simp; done) | (go_simp; rfl)); intro gb301 hg w11 hbox hb; have n0_ := Aside0.mk (below_step (by repeat (first | (with_reducible first | exact HB.out | apply below_alloc | apply pw_below_drewN | apply below_drew1) | exact HB.out)) hb); have n1_ := Aside0.mk (hbox); have n2_ := Aside0.mk ((by rw [hg]; exact (below_size (by repeat (first | (with_reducible first | exact HB.out | apply below_alloc | apply pw_below_drewN | apply below_drew1) | exact HB.out))) : w.heap.size ≤ gb301)); have n3_ := Aside0.mk ((by rw [hg]; exact (below_size (by repeat (first | (with_reducible first | exact HB.out | apply below_alloc | apply pw_below_drewN | apply below_drew1) | exact HB.out))) : w.heap.size ≤ gb301)); clear HB; have HB := n0_; have BK301 := n1_; have GW301 := n2_; have GE301 := n3_; clear n0_ n1_ n2_ n3_; clear hb hbox hg; have hcz12_0 : w11.cell? ⟨gb301, 0, none⟩ = some (.int .i64 0) := (blk_cell BK301.out 0).trans rfl; have hcz12_1 : w11.cell? ⟨gb301, 1, none⟩ = some (.int .i64 0) := (blk_cell BK301.out 1).trans rfl; have hfz12_0 := blk_frozen BK301.out 0; have hfz12_1 := blk_frozen BK301.out 1))
        (try simp only [Act.put, List.setIfInBounds_toArray, List.set_cons_zero, List.set_cons_succ])
        go_cut [40] (fun v40 wc => ∃ (kq : Nat) (x40_7 : Bool), v40 = .bool x40_7 ∧ Aside0 (laws_FnMoney.j1 kq l0 l1 t297 t298 x40_7 t299 t300 = some r) ∧ Aside0 (kq ≤ kj2) ∧ Aside0 (wc.heap[gb301]? = some (.cells #[.int .i64 t299, .int .i64 t300] 50 (0, 0))) ∧ Aside0 (Below w.heap.size w wc))
        case first =>
          have H := HC8.out
          clear HC8
          replace H := Option.bind_eq_some_iff.mp H
          obtain ⟨⟨t302, t303⟩, A130, H⟩ := H
          replace H : (if (!(t299 == t302) || (!(t300 == t303))) = true then (laws_FnMoney.j1 kj2 l0 l1 t297 t298 true t299 t300) else ((impl_MoneyRight.f t297).bind fun t304 => ((spec_MoneyRight.f t297).bind fun t305 => (laws_FnMoney.j1 kj2 l0 l1 t297 t298 (t304 != t305) t299 t300)))) = some r := H
          have A13 := Aside0.mk A130
          clear A130
          by_cases c14 : (!(t299 == t302) || (!(t300 == t303))) = true
          · rw [if_pos c14] at H
            have c14b0 : (!(t299 == t302) || (!(t300 == t303))) = true := c14
            clear c14
            (first | rw [c14b0] | (simp only [i64_w, i32_w]; rw [c14b0]) | skip)
            have H' := Aside0.mk H
            clear H
            try go_wp2
            have n0_ : Aside0 (((w11.setCell ⟨gb301, 0, none⟩ (.int .i64 t299)).setCell ⟨gb301, 1, none⟩ (.int .i64 t300)).heap[gb301]? = some (.cells #[.int .i64 t299, .int .i64 t300] 50 (0, 0))) := ⟨by (with_reducible repeat (first | refine blk_drewN ?_ _ | refine blk_drew ?_ | refine blk_alloc ?_ _)); refine blk_put (cs := #[.int .i64 t299, .int .i64 0]) ?_ 1 _ rfl; (with_reducible repeat (first | refine blk_drewN ?_ _ | refine blk_drew ?_ | refine blk_alloc ?_ _)); refine blk_put (cs := #[.int .i64 0, .int .i64 0]) ?_ 0 _ rfl; (with_reducible repeat (first | refine blk_drewN ?_ _ | refine blk_drew ?_ | refine blk_alloc ?_ _)); exact BK301.out⟩
            have n1_ : Aside0 (Below w.heap.size w ((w11.setCell ⟨gb301, 0, none⟩ (.int .i64 t299)).setCell ⟨gb301, 1, none⟩ (.int .i64 t300))) := ⟨by repeat (first | (with_reducible first | exact HB.out | apply below_alloc | apply pw_below_drewN | apply below_drew1 | refine below_set ?_ GE301.out) | exact HB.out)⟩
            (try clear BK301)
            (try clear HB)
            generalize ((w11.setCell ⟨gb301, 0, none⟩ (.int .i64 t299)).setCell ⟨gb301, 1, none⟩ (.int .i64 t300)) = w15 at n0_ n1_ ⊢
            have BK301 := n0_
            have HB := n1_
            clear n0_ n1_
            have n0_ := Aside0.mk (blk_drew BK301.out)
            have n1_ := Aside0.mk (below_drew1 HB.out)
            clear BK301
            clear HB
            have BK301 := n0_
            have HB := n1_
            clear n0_ n1_
            refine start_ (n := 12) (S := fun w' => w'.cell? ⟨gb301, 0, none⟩ = some (.int .i64 t299) ∧ w'.cell? ⟨gb301, 1, none⟩ = some (.int .i64 t300)) (ds := []) #[false, false, false, false, false, false, false, false, false, false, false, false] (by kernel_rfl) rfl rfl ⟨(blk_cell BK301.out 0).trans rfl, (blk_cell BK301.out 1).trans rfl⟩ (fun hHeld => ?_); refine with_tabW laws_FnMoney.tab5 laws_FnMoney.bits5 (fun HT_ HW_ => ?_)
            generalize w15.drew = w16 at BK301 HB hHeld ⊢
            refine pure_ (i := 1) (N := some 30) (v := ?_) (a' := ?_) #[false, true, false, false, false, false, false, false, false, false, false, false] rfl rfl (any_of HT_.out (by kernel_rfl)) (fun _ _ _ h => h) (Or.inl ⟨by rfl, ?_⟩) ?_ ?_
            rotate_left
            · intro w'
              go_simp
              with_reducible rfl
            rotate_left
            · simp only [Act.put, List.setIfInBounds_toArray, List.set_cons_zero, List.set_cons_succ, i64_w, i32_w]
              rfl
            refine pure_ (i := 2) (N := some 31) (v := ?_) (a' := ?_) #[false, true, true, false, false, false, false, false, false, false, false, false] rfl rfl (any_of HT_.out (by kernel_rfl)) (fun _ _ _ h => h) (Or.inl ⟨by rfl, ?_⟩) ?_ ?_
            rotate_left
            · intro w'
              go_simp
              with_reducible rfl
            rotate_left
            · simp only [Act.put, List.setIfInBounds_toArray, List.set_cons_zero, List.set_cons_succ, i64_w, i32_w]
              rfl
            refine take_ (i := 0) (N := some 29) (v := ?_) (a' := ?_) #[true, true, true, false, false, false, false, false, false, false, false, false] rfl rfl (take_ofW HT_.out HW_.out (by kernel_rfl)) (fun _ _ _ h => h) (Or.inl ⟨by rfl, ?_⟩) hHeld ?_ ?_
            rotate_left
            · rintro w' ⟨s0, s1⟩
              go_simp
              with_reducible rfl
            rotate_left
            · simp only [Act.put, List.setIfInBounds_toArray, List.set_cons_zero, List.set_cons_succ, i64_w, i32_w]
              rfl
            refine one_ (i := 3) (N := some 32) #[true, true, true, true, false, false, false, false, false, false, false, false] rfl rfl (one_of HT_.out (by kernel_rfl)) (by decide) (fun K hK => ?_)
            refine goes_ Tryd.func48 (by kernel_rfl) rfl #[.int .i64 t297, .int .i64 t298] (by rfl) rfl rfl (by (try simp only [List.map_toArray, List.map_cons, List.map_nil]); first | done | rfl | (simp only [List.length_drop, List.length_take]; rfl)) ?_
            with_reducible refine (spec_MoneyAdd.calls t297 t298 t302 t303 _ A13.out).mono ?_
            rintro e w17 ⟨rfl, hb⟩
            refine ⟨_, rfl, ?_⟩
            have n0_ := Aside0.mk (blk_below (g := gb301) (o := .cells #[.int .i64 t299, .int .i64 t300] 50 (0, 0)) (by (with_reducible repeat (first | refine blk_drewN ?_ _ | refine blk_drew ?_ | refine blk_alloc ?_ _)); exact BK301.out) hb)
            have n1_ := Aside0.mk (below_step (by repeat (first | (with_reducible first | exact HB.out | apply below_alloc | apply pw_below_drewN | apply below_drew1 | refine below_set ?_ GE301.out) | exact HB.out)) hb)
            clear BK301
            clear HB
            have BK301 := n0_
            have HB := n1_
            clear n0_ n1_
            (try clear hb)
            (try clear hb2)
            (try clear hk)
            (try clear hi)
            refine hK.out _ _ ⟨(blk_cell BK301.out 0).trans rfl, (blk_cell BK301.out 1).trans rfl⟩ (fun hHeld => ?_)
            clear hK K
            refine norm_ (a' := ?_) ?_ ?_
            rotate_left
            · show Act.put _ (some 32) _ = _
              simp only [Act.put, List.setIfInBounds_toArray, List.set_cons_zero, List.set_cons_succ, i64_w, i32_w]
              rfl
            refine pure_ (i := 4) (N := some 33) (v := ?_) (a' := ?_) #[true, true, true, true, true, false, false, false, false, false, false, false] rfl rfl (any_of HT_.out (by kernel_rfl)) (fun _ _ _ h => h) (Or.inl ⟨by rfl, ?_⟩) ?_ ?_
            rotate_left
            · intro w'
              go_simp
              with_reducible rfl
            rotate_left
            · simp only [Act.put, List.setIfInBounds_toArray, List.set_cons_zero, List.set_cons_succ, i64_w, i32_w]
              rfl
            refine pure_ (i := 5) (N := some 34) (v := ?_) (a' := ?_) #[true, true, true, true, true, true, false, false, false, false, false, false] rfl rfl (any_of HT_.out (by kernel_rfl)) (fun _ _ _ h => h) (Or.inl ⟨by rfl, ?_⟩) ?_ ?_
            rotate_left
            · intro w'
              go_simp
              with_reducible rfl
            rotate_left
            · simp only [Act.put, List.setIfInBounds_toArray, List.set_cons_zero, List.set_cons_succ, i64_w, i32_w]
              rfl
            refine pure_ (i := 6) (N := some 35) (v := undef) (a' := ?_) #[true, true, true, true, true, true, true, false, false, false, false, false] rfl rfl (any_of HT_.out (by kernel_rfl)) (fun _ _ _ h => h) (Or.inr ⟨by rfl, rfl⟩) ?_ ?_
            rotate_left
            · simp only [Act.put, List.setIfInBounds_toArray, List.set_cons_zero, List.set_cons_succ, i64_w, i32_w]
              rfl
            refine pure_ (i := 7) (N := some 36) (v := undef) (a' := ?_) #[true, true, true, true, true, true, true, true, false, false, false, false] rfl rfl (any_of HT_.out (by kernel_rfl)) (fun _ _ _ h => h) (Or.inr ⟨by rfl, rfl⟩) ?_ ?_
            rotate_left
            · simp only [Act.put, List.setIfInBounds_toArray, List.set_cons_zero, List.set_cons_succ, i64_w, i32_w]
              rfl
            refine pure_ (i := 8) (N := some 37) (v := undef) (a' := ?_) #[true, true, true, true, true, true, true, true, true, false, false, false] rfl rfl (any_of HT_.out (by kernel_rfl)) (fun _ _ _ h => h) (Or.inr ⟨by rfl, rfl⟩) ?_ ?_
            rotate_left
            · simp only [Act.put, List.setIfInBounds_toArray, List.set_cons_zero, List.set_cons_succ, i64_w, i32_w]
              rfl
            refine pure_ (i := 9) (N := some 38) (v := undef) (a' := ?_) #[true, true, true, true, true, true, true, true, true, true, false, false] rfl rfl (any_of HT_.out (by kernel_rfl)) (fun _ _ _ h => h) (Or.inr ⟨by rfl, rfl⟩) ?_ ?_
            rotate_left
            · simp only [Act.put, List.setIfInBounds_toArray, List.set_cons_zero, List.set_cons_succ, i64_w, i32_w]
              rfl
            refine pure_ (i := 10) (N := some 39) (v := undef) (a' := ?_) #[true, true, true, true, true, true, true, true, true, true, true, false] rfl rfl (any_of HT_.out (by kernel_rfl)) (fun _ _ _ h => h) (Or.inr ⟨by rfl, rfl⟩) ?_ ?_
            rotate_left
            · simp only [Act.put, List.setIfInBounds_toArray, List.set_cons_zero, List.set_cons_succ, i64_w, i32_w]
              rfl
            refine pure_ (i := 11) (N := some 40) (v := ?_) (a' := ?_) #[true, true, true, true, true, true, true, true, true, true, true, true] rfl rfl (any_of HT_.out (by kernel_rfl)) (fun _ _ _ h => h) (Or.inl ⟨by rfl, ?_⟩) ?_ ?_
            rotate_left
            · intro w'
              go_simp
              with_reducible rfl
            rotate_left
            · simp only [Act.put, List.setIfInBounds_toArray, List.set_cons_zero, List.set_cons_succ, i64_w, i32_w]
              rfl
            refine done_ (done_of HT_.out (by kernel_rfl)) ?_
            try go_wp2
            go_meet
            case rel => exact ⟨_, (true), (by first | rfl | (simp; done) | (simp [*]; done)), H', ⟨by have := HJ2.out; first | omega | exact Nat.le_refl _⟩, ⟨by (with_reducible repeat (first | refine blk_drewN ?_ _ | refine blk_drew ?_ | refine blk_alloc ?_ _)); exact BK301.out⟩, ⟨by repeat (first | (with_reducible first | exact HB.out | apply below_alloc | apply pw_below_drewN | apply below_drew1 | refine below_set ?_ GE301.out) | exact HB.out)⟩⟩
          · rw [if_neg c14] at H
            have c14b0 : (!(t299 == t302) || (!(t300 == t303))) = false := by simpa using c14
            clear c14
            (first | rw [c14b0] | (simp only [i64_w, i32_w]; rw [c14b0]) | skip)
            replace H := Option.bind_eq_some_iff.mp H
            obtain ⟨t304, A180, H⟩ := H
            replace H : ((spec_MoneyRight.f t297).bind fun t305 => (laws_FnMoney.j1 kj2 l0 l1 t297 t298 (t304 != t305) t299 t300)) = some r := H
            have A18 := Aside0.mk A180
            clear A180
            replace H := Option.bind_eq_some_iff.mp H
            obtain ⟨t305, A190, H⟩ := H
            replace H : (laws_FnMoney.j1 kj2 l0 l1 t297 t298 (t304 != t305) t299 t300) = some r := H
            have A19 := Aside0.mk A190
            clear A190
            have H' := Aside0.mk H
            clear H
            try go_wp2
            have n0_ : Aside0 (((w11.setCell ⟨gb301, 0, none⟩ (.int .i64 t299)).setCell ⟨gb301, 1, none⟩ (.int .i64 t300)).heap[gb301]? = some (.cells #[.int .i64 t299, .int .i64 t300] 50 (0, 0))) := ⟨by (with_reducible repeat (first | refine blk_drewN ?_ _ | refine blk_drew ?_ | refine blk_alloc ?_ _)); refine blk_put (cs := #[.int .i64 t299, .int .i64 0]) ?_ 1 _ rfl; (with_reducible repeat (first | refine blk_drewN ?_ _ | refine blk_drew ?_ | refine blk_alloc ?_ _)); refine blk_put (cs := #[.int .i64 0, .int .i64 0]) ?_ 0 _ rfl; (with_reducible repeat (first | refine blk_drewN ?_ _ | refine blk_drew ?_ | refine blk_alloc ?_ _)); exact BK301.out⟩
            have n1_ : Aside0 (Below w.heap.size w ((w11.setCell ⟨gb301, 0, none⟩ (.int .i64 t299)).setCell ⟨gb301, 1, none⟩ (.int .i64 t300))) := ⟨by repeat (first | (with_reducible first | exact HB.out | apply below_alloc | apply pw_below_drewN | apply below_drew1 | refine below_set ?_ GE301.out) | exact HB.out)⟩
            (try clear BK301)
            (try clear HB)
            generalize ((w11.setCell ⟨gb301, 0, none⟩ (.int .i64 t299)).setCell ⟨gb301, 1, none⟩ (.int .i64 t300)) = w20 at n0_ n1_ ⊢
            have BK301 := n0_
            have HB := n1_
            clear n0_ n1_
            have n0_ := Aside0.mk (blk_drew BK301.out)
            have n1_ := Aside0.mk (below_drew1 HB.out)
            clear BK301
            clear HB
            have BK301 := n0_
            have HB := n1_
            clear n0_ n1_
            refine start_ (n := 12) (S := fun w' => w'.cell? ⟨gb301, 0, none⟩ = some (.int .i64 t299) ∧ w'.cell? ⟨gb301, 1, none⟩ = some (.int .i64 t300)) (ds := []) #[false, false, false, false, false, false, false, false, false, false, false, false] (by kernel_rfl) rfl rfl ⟨(blk_cell BK301.out 0).trans rfl, (blk_cell BK301.out 1).trans rfl⟩ (fun hHeld => ?_); refine with_tabW laws_FnMoney.tab5 laws_FnMoney.bits5 (fun HT_ HW_ => ?_)
            generalize w20.drew = w21 at BK301 HB hHeld ⊢
            refine pure_ (i := 1) (N := some 30) (v := ?_) (a' := ?_) #[false, true, false, false, false, false, false, false, false, false, false, false] rfl rfl (any_of HT_.out (by kernel_rfl)) (fun _ _ _ h => h) (Or.inl ⟨by rfl, ?_⟩) ?_ ?_
            rotate_left
            · intro w'
              go_simp
              with_reducible rfl
            rotate_left
            · simp only [Act.put, List.setIfInBounds_toArray, List.set_cons_zero, List.set_cons_succ, i64_w, i32_w]
              rfl
            refine pure_ (i := 2) (N := some 31) (v := ?_) (a' := ?_) #[false, true, true, false, false, false, false, false, false, false, false, false] rfl rfl (any_of HT_.out (by kernel_rfl)) (fun _ _ _ h => h) (Or.inl ⟨by rfl, ?_⟩) ?_ ?_
            rotate_left
            · intro w'
              go_simp
              with_reducible rfl
            rotate_left
            · simp only [Act.put, List.setIfInBounds_toArray, List.set_cons_zero, List.set_cons_succ, i64_w, i32_w]
              rfl
            refine take_ (i := 0) (N := some 29) (v := ?_) (a' := ?_) #[true, true, true, false, false, false, false, false, false, false, false, false] rfl rfl (take_ofW HT_.out HW_.out (by kernel_rfl)) (fun _ _ _ h => h) (Or.inl ⟨by rfl, ?_⟩) hHeld ?_ ?_
            rotate_left
            · rintro w' ⟨s0, s1⟩
              go_simp
              with_reducible rfl
            rotate_left
            · simp only [Act.put, List.setIfInBounds_toArray, List.set_cons_zero, List.set_cons_succ, i64_w, i32_w]
              rfl
            refine one_ (i := 3) (N := some 32) #[true, true, true, true, false, false, false, false, false, false, false, false] rfl rfl (one_of HT_.out (by kernel_rfl)) (by decide) (fun K hK => ?_)
            refine goes_ Tryd.func48 (by kernel_rfl) rfl #[.int .i64 t297, .int .i64 t298] (by rfl) rfl rfl (by (try simp only [List.map_toArray, List.map_cons, List.map_nil]); first | done | rfl | (simp only [List.length_drop, List.length_take]; rfl)) ?_
            with_reducible refine (spec_MoneyAdd.calls t297 t298 t302 t303 _ A13.out).mono ?_
            rintro e w22 ⟨rfl, hb⟩
            refine ⟨_, rfl, ?_⟩
            have n0_ := Aside0.mk (blk_below (g := gb301) (o := .cells #[.int .i64 t299, .int .i64 t300] 50 (0, 0)) (by (with_reducible repeat (first | refine blk_drewN ?_ _ | refine blk_drew ?_ | refine blk_alloc ?_ _)); exact BK301.out) hb)
            have n1_ := Aside0.mk (below_step (by repeat (first | (with_reducible first | exact HB.out | apply below_alloc | apply pw_below_drewN | apply below_drew1 | refine below_set ?_ GE301.out) | exact HB.out)) hb)
            clear BK301
            clear HB
            have BK301 := n0_
            have HB := n1_
            clear n0_ n1_
            (try clear hb)
            (try clear hb2)
            (try clear hk)
            (try clear hi)
            refine hK.out _ _ ⟨(blk_cell BK301.out 0).trans rfl, (blk_cell BK301.out 1).trans rfl⟩ (fun hHeld => ?_)
            clear hK K
            refine norm_ (a' := ?_) ?_ ?_
            rotate_left
            · show Act.put _ (some 32) _ = _
              simp only [Act.put, List.setIfInBounds_toArray, List.set_cons_zero, List.set_cons_succ, i64_w, i32_w]
              rfl
            refine pure_ (i := 4) (N := some 33) (v := ?_) (a' := ?_) #[true, true, true, true, true, false, false, false, false, false, false, false] rfl rfl (any_of HT_.out (by kernel_rfl)) (fun _ _ _ h => h) (Or.inl ⟨by rfl, ?_⟩) ?_ ?_
            rotate_left
            · intro w'
              go_simp
              with_reducible rfl
            rotate_left
            · simp only [Act.put, List.setIfInBounds_toArray, List.set_cons_zero, List.set_cons_succ, i64_w, i32_w]
              rfl
            refine pure_ (i := 5) (N := some 34) (v := ?_) (a' := ?_) #[true, true, true, true, true, true, false, false, false, false, false, false] rfl rfl (any_of HT_.out (by kernel_rfl)) (fun _ _ _ h => h) (Or.inl ⟨by rfl, ?_⟩) ?_ ?_
            rotate_left
            · intro w'
              go_simp
              with_reducible rfl
            rotate_left
            · simp only [Act.put, List.setIfInBounds_toArray, List.set_cons_zero, List.set_cons_succ, i64_w, i32_w]
              rfl
            refine pure_ (i := 6) (N := some 35) (v := ?_) (a' := ?_) #[true, true, true, true, true, true, true, false, false, false, false, false] rfl rfl (any_of HT_.out (by kernel_rfl)) (fun _ _ _ h => h) (Or.inl ⟨by rfl, ?_⟩) ?_ ?_
            rotate_left
            · intro w'
              go_simp
              with_reducible rfl
            rotate_left
            · simp only [Act.put, List.setIfInBounds_toArray, List.set_cons_zero, List.set_cons_succ, i64_w, i32_w]
              rfl
            refine pure_ (i := 8) (N := some 37) (v := ?_) (a' := ?_) #[true, true, true, true, true, true, true, false, true, false, false, false] rfl rfl (any_of HT_.out (by kernel_rfl)) (fun _ _ _ h => h) (Or.inl ⟨by rfl, ?_⟩) ?_ ?_
            rotate_left
            · intro w'
              go_simp
              with_reducible rfl
            rotate_left
            · simp only [Act.put, List.setIfInBounds_toArray, List.set_cons_zero, List.set_cons_succ, i64_w, i32_w]
              rfl
            refine one_ (i := 7) (N := some 36) #[true, true, true, true, true, true, true, true, true, false, false, false] rfl rfl (one_of HT_.out (by kernel_rfl)) (by decide) (fun K hK => ?_)
            refine goes_ Tryd.func49 (by kernel_rfl) rfl #[.int .i64 t297] (by rfl) rfl rfl (by (try simp only [List.map_toArray, List.map_cons, List.map_nil]); first | done | rfl | (simp only [List.length_drop, List.length_take]; rfl)) ?_
            with_reducible refine (impl_MoneyRight.calls t297 t304 _ A18.out).mono ?_
            rintro e w' ⟨rfl, ⟨nd, rfl⟩⟩
            refine ⟨_, rfl, ?_⟩
            refine hK.out _ _ ⟨(blk_cell BK301.out 0).trans rfl, (blk_cell BK301.out 1).trans rfl⟩ (fun hHeld => ?_)
            clear hK K
            refine norm_ (a' := ?_) ?_ ?_
            rotate_left
            · show Act.put _ (some 36) _ = _
              simp only [Act.put, List.setIfInBounds_toArray, List.set_cons_zero, List.set_cons_succ, i64_w, i32_w]
              rfl
            refine one_ (i := 9) (N := some 38) #[true, true, true, true, true, true, true, true, true, true, false, false] rfl rfl (one_of HT_.out (by kernel_rfl)) (by decide) (fun K hK => ?_)
            refine goes_ Tryd.func50 (by kernel_rfl) rfl #[.int .i64 t297] (by rfl) rfl rfl (by (try simp only [List.map_toArray, List.map_cons, List.map_nil]); first | done | rfl | (simp only [List.length_drop, List.length_take]; rfl)) ?_
            with_reducible refine (spec_MoneyRight.calls t297 t305 _ A19.out).mono ?_
            rintro e w' ⟨rfl, ⟨nd, rfl⟩⟩
            refine ⟨_, rfl, ?_⟩
            refine hK.out _ _ ⟨(blk_cell BK301.out 0).trans rfl, (blk_cell BK301.out 1).trans rfl⟩ (fun hHeld => ?_)
            clear hK K
            refine norm_ (a' := ?_) ?_ ?_
            rotate_left
            · show Act.put _ (some 38) _ = _
              simp only [Act.put, List.setIfInBounds_toArray, List.set_cons_zero, List.set_cons_succ, i64_w, i32_w]
              rfl
            refine pure_ (i := 10) (N := some 39) (v := ?_) (a' := ?_) #[true, true, true, true, true, true, true, true, true, true, true, false] rfl rfl (any_of HT_.out (by kernel_rfl)) (fun _ _ _ h => h) (Or.inl ⟨by rfl, ?_⟩) ?_ ?_
            rotate_left
            · intro w'
              go_simp
              with_reducible rfl
            rotate_left
            · simp only [Act.put, List.setIfInBounds_toArray, List.set_cons_zero, List.set_cons_succ, i64_w, i32_w]
              rfl
            refine pure_ (i := 11) (N := some 40) (v := ?_) (a' := ?_) #[true, true, true, true, true, true, true, true, true, true, true, true] rfl rfl (any_of HT_.out (by kernel_rfl)) (fun _ _ _ h => h) (Or.inl ⟨by rfl, ?_⟩) ?_ ?_
            rotate_left
            · intro w'
              go_simp
              with_reducible rfl
            rotate_left
            · simp only [Act.put, List.setIfInBounds_toArray, List.set_cons_zero, List.set_cons_succ, i64_w, i32_w]
              rfl
            refine done_ (done_of HT_.out (by kernel_rfl)) ?_
            try go_wp2
            go_meet
            case rel => exact ⟨_, ((t304 != t305)), (by first | rfl | (simp; done) | (simp [*]; done)), H', ⟨by have := HJ2.out; first | omega | exact Nat.le_refl _⟩, ⟨by (with_reducible repeat (first | refine blk_drewN ?_ _ | refine blk_drew ?_ | refine blk_alloc ?_ _)); exact BK301.out⟩, ⟨by repeat (first | (with_reducible first | exact HB.out | apply below_alloc | apply pw_below_drewN | apply below_drew1 | refine below_set ?_ GE301.out) | exact HB.out)⟩⟩
        case rest =>
          clear HC8
          try clear c1
          try clear p2
          try clear c4
          try clear c4b0
          try clear c4b1
          try clear c5
          try clear c13
          try clear c14
          try clear c14b0
          try clear hcz12_0
          try clear hcz12_1
          try clear hfz12_0
          try clear hfz12_1
          try clear p2
          obtain ⟨kq, x40_7, rfl, HA, HJ7, BK301, HB⟩ := hcut
          cases kq with
          | zero => exact absurd HA.out (by simp [laws_FnMoney.j1])
          | succ kj7 =>
            have H := HA.out
            clear HA
            simp only [laws_FnMoney.j1] at H
            by_cases c23 : x40_7 = true
            · subst c23
              have H1 : (none) = some r := by rw [if_pos rfl] at H; exact H
              clear H
              have H := H1
              clear H1
              exact absurd H (by simp)
            · replace c23 := Bool.eq_false_iff.mpr c23
              subst c23
              have H1 : (if t300 = 0 then (if t298 = 0 then (laws_FnMoney.j2 kj7 l0 l1 t297 (t298 != 0)) else ((impl_MoneyAdd.f t299 (wrap64 (-t298))).bind fun bt306 => (if bt306.1 = t297 then (laws_FnMoney.j2 kj7 l0 l1 t297 false) else (laws_FnMoney.j2 kj7 l0 l1 t297 (t298 != 0))))) else (laws_FnMoney.j2 kj7 l0 l1 t297 false)) = some r := by rw [if_neg (show ¬ (false = true) by decide)] at H; exact H
              clear H
              have H := H1
              clear H1
              have HC24 := Aside0.mk H
              clear H
              go_upto_region 7 with (fail)
              go_cut [61] (fun v61 wc => ∃ (kq : Nat) (x61_23 : Bool), v61 = .bool x61_23 ∧ Aside0 (laws_FnMoney.j2 kq l0 l1 t297 x61_23 = some r) ∧ Aside0 (kq ≤ kj7) ∧ Aside0 (wc.heap[gb301]? = some (.cells #[.int .i64 t299, .int .i64 t300] 50 (0, 0))) ∧ Aside0 (Below w.heap.size w wc))
              case first =>
                have H := HC24.out
                clear HC24
                by_cases c25 : t300 = 0
                · rw [if_pos c25] at H
                  have c25b0 : (t300 == 0) = true := beq_iff_eq.mpr c25
                  have c25b1 : (t300 != 0) = false := bne_eq_false_iff_eq.mpr c25
                  clear c25
                  (first | rw [c25b0] | (simp only [i64_w, i32_w]; rw [c25b0]) | skip)
                  by_cases c26 : t298 = 0
                  · rw [if_pos c26] at H
                    have c26b0 : (t298 == 0) = true := beq_iff_eq.mpr c26
                    have c26b1 : (t298 != 0) = false := bne_eq_false_iff_eq.mpr c26
                    clear c26
                    have H' := Aside0.mk H
                    clear H
                    have hcz27_0 : wc.cell? ⟨gb301, 0, none⟩ = some (.int .i64 t299) := (blk_cell BK301.out 0).trans rfl
                    have hcz27_1 : wc.cell? ⟨gb301, 1, none⟩ = some (.int .i64 t300) := (blk_cell BK301.out 1).trans rfl
                    have hfz27_0 := blk_frozen BK301.out 0
                    have hfz27_1 := blk_frozen BK301.out 1
                    go_wp2
                    go_meet
                    case rel => exact ⟨_, ((t298 != 0)), (by first | rfl | (simp; done) | (simp [*]; done)), H', ⟨by have := HJ2.out; have := HJ7.out; first | omega | exact Nat.le_refl _⟩, ⟨by (with_reducible repeat (first | refine blk_drewN ?_ _ | refine blk_drew ?_ | refine blk_alloc ?_ _)); exact BK301.out⟩, ⟨by repeat (first | (with_reducible first | exact HB.out | apply below_alloc | apply pw_below_drewN | apply below_drew1 | refine below_set ?_ GE301.out) | exact HB.out)⟩⟩
                  · rw [if_neg c26] at H
                    have c26b0 : (t298 == 0) = false := beq_eq_false_iff_ne.mpr c26
                    have c26b1 : (t298 != 0) = true := bne_iff_ne.mpr c26
                    replace H := Option.bind_eq_some_iff.mp H
                    obtain ⟨⟨t306, t307⟩, A280, H⟩ := H
                    replace H : (if t306 = t297 then (laws_FnMoney.j2 kj7 l0 l1 t297 false) else (laws_FnMoney.j2 kj7 l0 l1 t297 (t298 != 0))) = some r := H
                    have A28 := Aside0.mk A280
                    clear A280
                    by_cases c29 : t306 = t297
                    · rw [if_pos c29] at H
                      have c29b0 : (t306 == t297) = true := beq_iff_eq.mpr c29
                      have c29b1 : (t306 != t297) = false := bne_eq_false_iff_eq.mpr c29
                      clear c29
                      have H' := Aside0.mk H
                      clear H
                      have hcz30_0 : wc.cell? ⟨gb301, 0, none⟩ = some (.int .i64 t299) := (blk_cell BK301.out 0).trans rfl
                      have hcz30_1 : wc.cell? ⟨gb301, 1, none⟩ = some (.int .i64 t300) := (blk_cell BK301.out 1).trans rfl
                      have hfz30_0 := blk_frozen BK301.out 0
                      have hfz30_1 := blk_frozen BK301.out 1
                      go_wp2_with (first | (go_at_call 47; (with_reducible refine (impl_MoneyAdd.calls t299 (wrap64 (-t298)) t306 t307 _ A28.out).mono ?_); rintro e w31 ⟨rfl, hb⟩; have n0_ := Aside0.mk (blk_below (g := gb301) (o := .cells #[.int .i64 t299, .int .i64 t300] 50 (0, 0)) (by (with_reducible repeat (first | refine blk_drewN ?_ _ | refine blk_drew ?_ | refine blk_alloc ?_ _)); exact BK301.out) hb); have n1_ := Aside0.mk (below_step (by repeat (first | (with_reducible first | exact HB.out | apply below_alloc | apply pw_below_drewN | apply below_drew1 | refine below_set ?_ GE301.out) | exact HB.out)) hb); clear BK301; clear HB; have BK301 := n0_; have HB := n1_; clear n0_ n1_; (try clear hb); (try clear hb2); (try clear hk); (try clear hi)))
                      go_meet
                      case rel => exact ⟨_, (false), (by first | rfl | (simp; done) | (simp [*]; done)), H', ⟨by have := HJ2.out; have := HJ7.out; first | omega | exact Nat.le_refl _⟩, ⟨by (with_reducible repeat (first | refine blk_drewN ?_ _ | refine blk_drew ?_ | refine blk_alloc ?_ _)); exact BK301.out⟩, ⟨by repeat (first | (with_reducible first | exact HB.out | apply below_alloc | apply pw_below_drewN | apply below_drew1 | refine below_set ?_ GE301.out) | exact HB.out)⟩⟩
                    · rw [if_neg c29] at H
                      have c29b0 : (t306 == t297) = false := beq_eq_false_iff_ne.mpr c29
                      have c29b1 : (t306 != t297) = true := bne_iff_ne.mpr c29
                      have H' := Aside0.mk H
                      clear H
                      have hcz32_0 : wc.cell? ⟨gb301, 0, none⟩ = some (.int .i64 t299) := (blk_cell BK301.out 0).trans rfl
                      have hcz32_1 : wc.cell? ⟨gb301, 1, none⟩ = some (.int .i64 t300) := (blk_cell BK301.out 1).trans rfl
                      have hfz32_0 := blk_frozen BK301.out 0
                      have hfz32_1 := blk_frozen BK301.out 1
                      go_wp2_with (first | (go_at_call 47; (with_reducible refine (impl_MoneyAdd.calls t299 (wrap64 (-t298)) t306 t307 _ A28.out).mono ?_); rintro e w33 ⟨rfl, hb⟩; have n0_ := Aside0.mk (blk_below (g := gb301) (o := .cells #[.int .i64 t299, .int .i64 t300] 50 (0, 0)) (by (with_reducible repeat (first | refine blk_drewN ?_ _ | refine blk_drew ?_ | refine blk_alloc ?_ _)); exact BK301.out) hb); have n1_ := Aside0.mk (below_step (by repeat (first | (with_reducible first | exact HB.out | apply below_alloc | apply pw_below_drewN | apply below_drew1 | refine below_set ?_ GE301.out) | exact HB.out)) hb); clear BK301; clear HB; have BK301 := n0_; have HB := n1_; clear n0_ n1_; (try clear hb); (try clear hb2); (try clear hk); (try clear hi)))
                      go_meet
                      case rel => exact ⟨_, ((t298 != 0)), (by first | rfl | (simp; done) | (simp [*]; done)), H', ⟨by have := HJ2.out; have := HJ7.out; first | omega | exact Nat.le_refl _⟩, ⟨by (with_reducible repeat (first | refine blk_drewN ?_ _ | refine blk_drew ?_ | refine blk_alloc ?_ _)); exact BK301.out⟩, ⟨by repeat (first | (with_reducible first | exact HB.out | apply below_alloc | apply pw_below_drewN | apply below_drew1 | refine below_set ?_ GE301.out) | exact HB.out)⟩⟩
                · rw [if_neg c25] at H
                  have c25b0 : (t300 == 0) = false := beq_eq_false_iff_ne.mpr c25
                  have c25b1 : (t300 != 0) = true := bne_iff_ne.mpr c25
                  (first | rw [c25b0] | (simp only [i64_w, i32_w]; rw [c25b0]) | skip)
                  have H' := Aside0.mk H
                  clear H
                  have hcz34_0 : wc.cell? ⟨gb301, 0, none⟩ = some (.int .i64 t299) := (blk_cell BK301.out 0).trans rfl
                  have hcz34_1 : wc.cell? ⟨gb301, 1, none⟩ = some (.int .i64 t300) := (blk_cell BK301.out 1).trans rfl
                  have hfz34_0 := blk_frozen BK301.out 0
                  have hfz34_1 := blk_frozen BK301.out 1
                  go_wp2
                  go_meet
                  case rel => exact ⟨_, (false), (by first | rfl | (simp; done) | (simp [*]; done)), H', ⟨by have := HJ2.out; have := HJ7.out; first | omega | exact Nat.le_refl _⟩, ⟨by (with_reducible repeat (first | refine blk_drewN ?_ _ | refine blk_drew ?_ | refine blk_alloc ?_ _)); exact BK301.out⟩, ⟨by repeat (first | (with_reducible first | exact HB.out | apply below_alloc | apply pw_below_drewN | apply below_drew1 | refine below_set ?_ GE301.out) | exact HB.out)⟩⟩
              case rest =>
                clear HC24
                try clear c1
                try clear c2
                try clear p2
                try clear c4
                try clear c4b0
                try clear c4b1
                try clear c5
                try clear p6
                try clear c13
                try clear c14
                try clear c14b0
                try clear c23
                try clear c25
                try clear c25b0
                try clear c25b1
                try clear c26
                try clear c26b0
                try clear c26b1
                try clear c29
                try clear c29b0
                try clear c29b1
                try clear hcz12_0
                try clear hcz12_1
                try clear hcz27_0
                try clear hcz27_1
                try clear hcz30_0
                try clear hcz30_1
                try clear hcz32_0
                try clear hcz32_1
                try clear hcz34_0
                try clear hcz34_1
                try clear hfz12_0
                try clear hfz12_1
                try clear hfz27_0
                try clear hfz27_1
                try clear hfz30_0
                try clear hfz30_1
                try clear hfz32_0
                try clear hfz32_1
                try clear hfz34_0
                try clear hfz34_1
                try clear p2
                obtain ⟨kq, x61_23, rfl, HA, HJ23, BK301, HB⟩ := hcut
                cases kq with
                | zero => exact absurd HA.out (by simp [laws_FnMoney.j2])
                | succ kj23 =>
                  have H := HA.out
                  clear HA
                  simp only [laws_FnMoney.j2] at H
                  by_cases c35 : x61_23 = true
                  · subst c35
                    have H1 : (none) = some r := by rw [if_pos rfl] at H; exact H
                    clear H
                    have H := H1
                    clear H1
                    exact absurd H (by simp)
                  · replace c35 := Bool.eq_false_iff.mpr c35
                    subst c35
                    have H1 : ((spec_MoneyRight.f t297).bind fun t308 => (if t308 = true then ((impl_MoneyText.f t297).bind fun t309 => ((impl_MoneyRead.f t309).bind fun bt310 => (laws_FnMoney.j3 kj23 l0 l1 (!(bt310.1 == t297) || (!(bt310.2 == 0)))))) else (laws_FnMoney.j3 kj23 l0 l1 false))) = some r := by rw [if_neg (show ¬ (false = true) by decide)] at H; exact H
                    clear H
                    have H := H1
                    clear H1
                    have HC36 := Aside0.mk H
                    clear H
                    go_upto_region 9 with (fail)
                    go_cut [71] (fun v71 wc => ∃ (kq : Nat) (x71_35 : Bool), v71 = .bool x71_35 ∧ Aside0 (laws_FnMoney.j3 kq l0 l1 x71_35 = some r) ∧ Aside0 (kq ≤ kj23) ∧ Aside0 (wc.heap[gb301]? = some (.cells #[.int .i64 t299, .int .i64 t300] 50 (0, 0))) ∧ Aside0 (Below w.heap.size w wc))
                    case first =>
                      have H := HC36.out
                      clear HC36
                      replace H := Option.bind_eq_some_iff.mp H
                      obtain ⟨t308, A370, H⟩ := H
                      replace H : (if t308 = true then ((impl_MoneyText.f t297).bind fun t309 => ((impl_MoneyRead.f t309).bind fun bt310 => (laws_FnMoney.j3 kj23 l0 l1 (!(bt310.1 == t297) || (!(bt310.2 == 0)))))) else (laws_FnMoney.j3 kj23 l0 l1 false)) = some r := H
                      have A37 := Aside0.mk A370
                      clear A370
                      by_cases c38 : t308 = true
                      · subst c38
                        have H1 : ((impl_MoneyText.f t297).bind fun t309 => ((impl_MoneyRead.f t309).bind fun bt310 => (laws_FnMoney.j3 kj23 l0 l1 (!(bt310.1 == t297) || (!(bt310.2 == 0)))))) = some r := by rw [if_pos rfl] at H; exact H
                        clear H
                        have H := H1
                        clear H1
                        replace H := Option.bind_eq_some_iff.mp H
                        obtain ⟨t309, A390, H⟩ := H
                        replace H : ((impl_MoneyRead.f t309).bind fun bt310 => (laws_FnMoney.j3 kj23 l0 l1 (!(bt310.1 == t297) || (!(bt310.2 == 0))))) = some r := H
                        have A39 := Aside0.mk A390
                        clear A390
                        replace H := Option.bind_eq_some_iff.mp H
                        obtain ⟨⟨t310, t311⟩, A400, H⟩ := H
                        replace H : (laws_FnMoney.j3 kj23 l0 l1 (!(t310 == t297) || (!(t311 == 0)))) = some r := H
                        have A40 := Aside0.mk A400
                        clear A400
                        have H' := Aside0.mk H
                        clear H
                        go_wp2_with (first | ((with_reducible refine gate_callee (f := 50) rfl ?_); refine goesL_ (some 63) rfl rfl Tryd.func50 (by kernel_rfl) rfl #[.int .i64 t297] rfl (by (try simp only [List.map_toArray, List.map_cons, List.map_nil]); first | done | rfl | (simp only [List.length_drop, List.length_take]; rfl)) ?_; (with_reducible refine (spec_MoneyRight.calls t297 true _ A37.out).mono ?_); rintro e w' ⟨rfl, ⟨nd, rfl⟩⟩; refine ⟨_, rfl, ?_⟩) | (go_at_call 25; (with_reducible refine (impl_MoneyText.calls t297 t309 _ ?side1 A39.out).mono ?_); (case side1 => exact Sh.below HSH.out (by repeat (first | (with_reducible first | exact HB.out | apply below_alloc | apply pw_below_drewN | apply below_drew1 | refine below_set ?_ GE301.out) | exact HB.out))); rintro e w41 ⟨rfl, hb⟩; have n0_ := Aside0.mk (blk_below (g := gb301) (o := .cells #[.int .i64 t299, .int .i64 t300] 50 (0, 0)) (by (with_reducible repeat (first | refine blk_drewN ?_ _ | refine blk_drew ?_ | refine blk_alloc ?_ _)); exact BK301.out) hb); have n1_ := Aside0.mk (below_step (by repeat (first | (with_reducible first | exact HB.out | apply below_alloc | apply pw_below_drewN | apply below_drew1 | refine below_set ?_ GE301.out) | exact HB.out)) hb); clear BK301; clear HB; have BK301 := n0_; have HB := n1_; clear n0_ n1_; (try clear hb); (try clear hb2); (try clear hk); (try clear hi)) | (go_at_call 45; (with_reducible refine (impl_MoneyRead.calls t309 t310 t311 _ ?side1 A40.out).mono ?_); (case side1 => exact Sh.below HSH.out (by repeat (first | (with_reducible first | exact HB.out | apply below_alloc | apply pw_below_drewN | apply below_drew1 | refine below_set ?_ GE301.out) | exact HB.out))); rintro e w42 ⟨rfl, hb⟩; have n0_ := Aside0.mk (blk_below (g := gb301) (o := .cells #[.int .i64 t299, .int .i64 t300] 50 (0, 0)) (by (with_reducible repeat (first | refine blk_drewN ?_ _ | refine blk_drew ?_ | refine blk_alloc ?_ _)); exact BK301.out) hb); have n1_ := Aside0.mk (below_step (by repeat (first | (with_reducible first | exact HB.out | apply below_alloc | apply pw_below_drewN | apply below_drew1 | refine below_set ?_ GE301.out) | exact HB.out)) hb); clear BK301; clear HB; have BK301 := n0_; have HB := n1_; clear n0_ n1_; (try clear hb); (try clear hb2); (try clear hk); (try clear hi)))
                        go_meet
                        case rel => exact ⟨_, ((!(t310 == t297) || (!(t311 == 0)))), (by first | rfl | (simp; done) | (simp [*]; done)), H', ⟨by have := HJ2.out; have := HJ7.out; have := HJ23.out; first | omega | exact Nat.le_refl _⟩, ⟨by (with_reducible repeat (first | refine blk_drewN ?_ _ | refine blk_drew ?_ | refine blk_alloc ?_ _)); exact BK301.out⟩, ⟨by repeat (first | (with_reducible first | exact HB.out | apply below_alloc | apply pw_below_drewN | apply below_drew1 | refine below_set ?_ GE301.out) | exact HB.out)⟩⟩
                      · replace c38 := Bool.eq_false_iff.mpr c38
                        subst c38
                        have H1 : (laws_FnMoney.j3 kj23 l0 l1 false) = some r := by rw [if_neg (show ¬ (false = true) by decide)] at H; exact H
                        clear H
                        have H := H1
                        clear H1
                        have H' := Aside0.mk H
                        clear H
                        go_wp2_with (first | ((with_reducible refine gate_callee (f := 50) rfl ?_); refine goesL_ (some 63) rfl rfl Tryd.func50 (by kernel_rfl) rfl #[.int .i64 t297] rfl (by (try simp only [List.map_toArray, List.map_cons, List.map_nil]); first | done | rfl | (simp only [List.length_drop, List.length_take]; rfl)) ?_; (with_reducible refine (spec_MoneyRight.calls t297 false _ A37.out).mono ?_); rintro e w' ⟨rfl, ⟨nd, rfl⟩⟩; refine ⟨_, rfl, ?_⟩))
                        go_meet
                        case rel => exact ⟨_, (false), (by first | rfl | (simp; done) | (simp [*]; done)), H', ⟨by have := HJ2.out; have := HJ7.out; have := HJ23.out; first | omega | exact Nat.le_refl _⟩, ⟨by (with_reducible repeat (first | refine blk_drewN ?_ _ | refine blk_drew ?_ | refine blk_alloc ?_ _)); exact BK301.out⟩, ⟨by repeat (first | (with_reducible first | exact HB.out | apply below_alloc | apply pw_below_drewN | apply below_drew1 | refine below_set ?_ GE301.out) | exact HB.out)⟩⟩
                    case rest =>
                      clear HC36
                      try clear c1
                      try clear c2
                      try clear p2
                      try clear c3
                      try clear c4
                      try clear c4b0
                      try clear c4b1
                      try clear c5
                      try clear p6
                      try clear c13
                      try clear c14
                      try clear c14b0
                      try clear c23
                      try clear c25
                      try clear c25b0
                      try clear c25b1
                      try clear c26
                      try clear c26b0
                      try clear c26b1
                      try clear c29
                      try clear c29b0
                      try clear c29b1
                      try clear c35
                      try clear c38
                      try clear hcz12_0
                      try clear hcz12_1
                      try clear hcz27_0
                      try clear hcz27_1
                      try clear hcz30_0
                      try clear hcz30_1
                      try clear hcz32_0
                      try clear hcz32_1
                      try clear hcz34_0
                      try clear hcz34_1
                      try clear hfz12_0
                      try clear hfz12_1
                      try clear hfz27_0
                      try clear hfz27_1
                      try clear hfz30_0
                      try clear hfz30_1
                      try clear hfz32_0
                      try clear hfz32_1
                      try clear hfz34_0
                      try clear hfz34_1
                      try clear p2
                      try clear p6
                      obtain ⟨kq, x71_35, rfl, HA, HJ35, BK301, HB⟩ := hcut
                      cases kq with
                      | zero => exact absurd HA.out (by simp [laws_FnMoney.j3])
                      | succ kj35 =>
                        have H := HA.out
                        clear HA
                        simp only [laws_FnMoney.j3] at H
                        by_cases c43 : x71_35 = true
                        · subst c43
                          have H1 : (none) = some r := by rw [if_pos rfl] at H; exact H
                          clear H
                          have H := H1
                          clear H1
                          exact absurd H (by simp)
                        · replace c43 := Bool.eq_false_iff.mpr c43
                          subst c43
                          have H1 : ((spec_DrawRateText.f kj35 l0).bind fun t312 => ((spec_RateText.f kj35 t312).bind fun t313 => (if t313.toList = ([] : List UInt8) then (laws_FnMoney.j4 kj35 l1 false) else ((impl_RateText.f t312).bind fun t314 => ((impl_RateRead.f t314).bind fun bt315 => (laws_FnMoney.j4 kj35 l1 (!(bt315.1 == t312) || (!(bt315.2 == 0))))))))) = some r := by rw [if_neg (show ¬ (false = true) by decide)] at H; exact H
                          clear H
                          have H := H1
                          clear H1
                          replace H := Option.bind_eq_some_iff.mp H
                          obtain ⟨t312, A440, H⟩ := H
                          replace H : ((spec_RateText.f kj35 t312).bind fun t313 => (if t313.toList = ([] : List UInt8) then (laws_FnMoney.j4 kj35 l1 false) else ((impl_RateText.f t312).bind fun t314 => ((impl_RateRead.f t314).bind fun bt315 => (laws_FnMoney.j4 kj35 l1 (!(bt315.1 == t312) || (!(bt315.2 == 0)))))))) = some r := H
                          have A44 := Aside0.mk A440
                          clear A440
                          have HC45 := Aside0.mk H
                          clear H
                          go_upto_region 12 with (first | ((with_reducible refine gate_callee (f := 51) rfl ?_); refine goesL_ (some 73) rfl rfl Tryd.func51 (by kernel_rfl) rfl #[.slice A0 l0.length c0] rfl (by (try simp only [List.map_toArray, List.map_cons, List.map_nil]); first | done | rfl | (simp only [List.length_drop, List.length_take]; rfl)) ?_; (with_reducible refine (spec_DrawRateText.calls kj35 _ _ l0 t312 _ ?side1 ?side2 A44.out).mono ?_); (case side1 => repeat (first | exact (Kd.C_below HR0.out HB.out) | (with_reducible refine Kd.C_alloc ?_ _) | (with_reducible refine Kd.C_drewN ?_ _) | (with_reducible refine Kd.C_drew ?_))); (case side2 => exact HC0.out); rintro e w46 ⟨rfl, hb⟩; refine ⟨_, rfl, ?_⟩; have n0_ := Aside0.mk (blk_below (g := gb301) (o := .cells #[.int .i64 t299, .int .i64 t300] 50 (0, 0)) (by (with_reducible repeat (first | refine blk_drewN ?_ _ | refine blk_drew ?_ | refine blk_alloc ?_ _)); exact BK301.out) hb); have n1_ := Aside0.mk (below_step (by repeat (first | (with_reducible first | exact HB.out | apply below_alloc | apply pw_below_drewN | apply below_drew1 | refine below_set ?_ GE301.out) | exact HB.out)) hb); clear BK301; clear HB; have BK301 := n0_; have HB := n1_; clear n0_ n1_; (try clear hb); (try clear hb2); (try clear hk); (try clear hi)))
                          (try simp only [Act.put, List.setIfInBounds_toArray, List.set_cons_zero, List.set_cons_succ])
                          go_cut [84] (fun v84 wc => ∃ (kq : Nat) (x84_44 : Bool), v84 = .bool x84_44 ∧ Aside0 (laws_FnMoney.j4 kq l1 x84_44 = some r) ∧ Aside0 (kq ≤ kj35) ∧ Aside0 (wc.heap[gb301]? = some (.cells #[.int .i64 t299, .int .i64 t300] 50 (0, 0))) ∧ Aside0 (Below w.heap.size w wc))
                          case first =>
                            have H := HC45.out
                            clear HC45
                            replace H := Option.bind_eq_some_iff.mp H
                            obtain ⟨t313, A470, H⟩ := H
                            replace H : (if t313.toList = ([] : List UInt8) then (laws_FnMoney.j4 kj35 l1 false) else ((impl_RateText.f t312).bind fun t314 => ((impl_RateRead.f t314).bind fun bt315 => (laws_FnMoney.j4 kj35 l1 (!(bt315.1 == t312) || (!(bt315.2 == 0))))))) = some r := H
                            have A47 := Aside0.mk A470
                            clear A470
                            by_cases c48 : t313.toList = ([] : List UInt8)
                            · rw [if_pos c48] at H
                              have c48b0 : (t313.toList == ([] : List UInt8)) = true := beq_iff_eq.mpr c48
                              have c48b1 : (t313.toList != ([] : List UInt8)) = false := bne_eq_false_iff_eq.mpr c48
                              clear c48
                              (first | rw [c48b0] | (simp only [i64_w, i32_w]; rw [c48b0]) | skip)
                              have H' := Aside0.mk H
                              clear H
                              go_wp2_with (first | ((with_reducible refine gate_callee (f := 17) rfl ?_); refine goesL_ (some 75) rfl rfl Tryd.func17 (by kernel_rfl) rfl #[.int .i64 t312] rfl (by (try simp only [List.map_toArray, List.map_cons, List.map_nil]); first | done | rfl | (simp only [List.length_drop, List.length_take]; rfl)) ?_; (with_reducible refine (spec_RateText.calls kj35 t312 t313 _ A47.out).mono ?_); rintro e w49 ⟨rfl, hb⟩; refine ⟨_, rfl, ?_⟩; have n0_ := Aside0.mk (blk_below (g := gb301) (o := .cells #[.int .i64 t299, .int .i64 t300] 50 (0, 0)) (by (with_reducible repeat (first | refine blk_drewN ?_ _ | refine blk_drew ?_ | refine blk_alloc ?_ _)); exact BK301.out) hb); have n1_ := Aside0.mk (below_step (by repeat (first | (with_reducible first | exact HB.out | apply below_alloc | apply pw_below_drewN | apply below_drew1 | refine below_set ?_ GE301.out) | exact HB.out)) hb); clear BK301; clear HB; have BK301 := n0_; have HB := n1_; clear n0_ n1_; (try clear hb); (try clear hb2); (try clear hk); (try clear hi)))
                              go_meet
                              case rel => exact ⟨_, (false), (by first | rfl | (simp; done) | (simp [*]; done)), H', ⟨by have := HJ2.out; have := HJ7.out; have := HJ23.out; have := HJ35.out; first | omega | exact Nat.le_refl _⟩, ⟨by (with_reducible repeat (first | refine blk_drewN ?_ _ | refine blk_drew ?_ | refine blk_alloc ?_ _)); exact BK301.out⟩, ⟨by repeat (first | (with_reducible first | exact HB.out | apply below_alloc | apply pw_below_drewN | apply below_drew1 | refine below_set ?_ GE301.out) | exact HB.out)⟩⟩
                            · rw [if_neg c48] at H
                              have c48b0 : (t313.toList == ([] : List UInt8)) = false := beq_eq_false_iff_ne.mpr c48
                              have c48b1 : (t313.toList != ([] : List UInt8)) = true := bne_iff_ne.mpr c48
                              (first | rw [c48b0] | (simp only [i64_w, i32_w]; rw [c48b0]) | skip)
                              replace H := Option.bind_eq_some_iff.mp H
                              obtain ⟨t314, A500, H⟩ := H
                              replace H : ((impl_RateRead.f t314).bind fun bt315 => (laws_FnMoney.j4 kj35 l1 (!(bt315.1 == t312) || (!(bt315.2 == 0))))) = some r := H
                              have A50 := Aside0.mk A500
                              clear A500
                              replace H := Option.bind_eq_some_iff.mp H
                              obtain ⟨⟨t315, t316⟩, A510, H⟩ := H
                              replace H : (laws_FnMoney.j4 kj35 l1 (!(t315 == t312) || (!(t316 == 0)))) = some r := H
                              have A51 := Aside0.mk A510
                              clear A510
                              have H' := Aside0.mk H
                              clear H
                              go_wp2_with (first | ((with_reducible refine gate_callee (f := 17) rfl ?_); refine goesL_ (some 75) rfl rfl Tryd.func17 (by kernel_rfl) rfl #[.int .i64 t312] rfl (by (try simp only [List.map_toArray, List.map_cons, List.map_nil]); first | done | rfl | (simp only [List.length_drop, List.length_take]; rfl)) ?_; (with_reducible refine (spec_RateText.calls kj35 t312 t313 _ A47.out).mono ?_); rintro e w52 ⟨rfl, hb⟩; refine ⟨_, rfl, ?_⟩; have n0_ := Aside0.mk (blk_below (g := gb301) (o := .cells #[.int .i64 t299, .int .i64 t300] 50 (0, 0)) (by (with_reducible repeat (first | refine blk_drewN ?_ _ | refine blk_drew ?_ | refine blk_alloc ?_ _)); exact BK301.out) hb); have n1_ := Aside0.mk (below_step (by repeat (first | (with_reducible first | exact HB.out | apply below_alloc | apply pw_below_drewN | apply below_drew1 | refine below_set ?_ GE301.out) | exact HB.out)) hb); clear BK301; clear HB; have BK301 := n0_; have HB := n1_; clear n0_ n1_; (try clear hb); (try clear hb2); (try clear hk); (try clear hi)) | (go_at_call 18; (with_reducible refine (impl_RateText.calls t312 t314 _ ?side1 A50.out).mono ?_); (case side1 => exact Sh.below HSH.out (by repeat (first | (with_reducible first | exact HB.out | apply below_alloc | apply pw_below_drewN | apply below_drew1 | refine below_set ?_ GE301.out) | exact HB.out))); rintro e w53 ⟨rfl, hb⟩; have n0_ := Aside0.mk (blk_below (g := gb301) (o := .cells #[.int .i64 t299, .int .i64 t300] 50 (0, 0)) (by (with_reducible repeat (first | refine blk_drewN ?_ _ | refine blk_drew ?_ | refine blk_alloc ?_ _)); exact BK301.out) hb); have n1_ := Aside0.mk (below_step (by repeat (first | (with_reducible first | exact HB.out | apply below_alloc | apply pw_below_drewN | apply below_drew1 | refine below_set ?_ GE301.out) | exact HB.out)) hb); clear BK301; clear HB; have BK301 := n0_; have HB := n1_; clear n0_ n1_; (try clear hb); (try clear hb2); (try clear hk); (try clear hi)) | (go_at_call 43; (with_reducible refine (impl_RateRead.calls t314 t315 t316 _ ?side1 A51.out).mono ?_); (case side1 => exact Sh.below HSH.out (by repeat (first | (with_reducible first | exact HB.out | apply below_alloc | apply pw_below_drewN | apply below_drew1 | refine below_set ?_ GE301.out) | exact HB.out))); rintro e w54 ⟨rfl, hb⟩; have n0_ := Aside0.mk (blk_below (g := gb301) (o := .cells #[.int .i64 t299, .int .i64 t300] 50 (0, 0)) (by (with_reducible repeat (first | refine blk_drewN ?_ _ | refine blk_drew ?_ | refine blk_alloc ?_ _)); exact BK301.out) hb); have n1_ := Aside0.mk (below_step (by repeat (first | (with_reducible first | exact HB.out | apply below_alloc | apply pw_below_drewN | apply below_drew1 | refine below_set ?_ GE301.out) | exact HB.out)) hb); clear BK301; clear HB; have BK301 := n0_; have HB := n1_; clear n0_ n1_; (try clear hb); (try clear hb2); (try clear hk); (try clear hi)))
                              go_meet
                              case rel => exact ⟨_, ((!(t315 == t312) || (!(t316 == 0)))), (by first | rfl | (simp; done) | (simp [*]; done)), H', ⟨by have := HJ2.out; have := HJ7.out; have := HJ23.out; have := HJ35.out; first | omega | exact Nat.le_refl _⟩, ⟨by (with_reducible repeat (first | refine blk_drewN ?_ _ | refine blk_drew ?_ | refine blk_alloc ?_ _)); exact BK301.out⟩, ⟨by repeat (first | (with_reducible first | exact HB.out | apply below_alloc | apply pw_below_drewN | apply below_drew1 | refine below_set ?_ GE301.out) | exact HB.out)⟩⟩
                          case rest =>
                            clear HC45
                            try clear c1
                            try clear c2
                            try clear p2
                            try clear c3
                            try clear c4
                            try clear c4b0
                            try clear c4b1
                            try clear c5
                            try clear p6
                            try clear c13
                            try clear c14
                            try clear c14b0
                            try clear c17
                            try clear c23
                            try clear c25
                            try clear c25b0
                            try clear c25b1
                            try clear c26
                            try clear c26b0
                            try clear c26b1
                            try clear c29
                            try clear c29b0
                            try clear c29b1
                            try clear c35
                            try clear c38
                            try clear c43
                            try clear c48
                            try clear c48b0
                            try clear c48b1
                            try clear c49
                            try clear c50
                            try clear c51
                            try clear hcz12_0
                            try clear hcz12_1
                            try clear hcz27_0
                            try clear hcz27_1
                            try clear hcz30_0
                            try clear hcz30_1
                            try clear hcz32_0
                            try clear hcz32_1
                            try clear hcz34_0
                            try clear hcz34_1
                            try clear hfz12_0
                            try clear hfz12_1
                            try clear hfz27_0
                            try clear hfz27_1
                            try clear hfz30_0
                            try clear hfz30_1
                            try clear hfz32_0
                            try clear hfz32_1
                            try clear hfz34_0
                            try clear hfz34_1
                            try clear p2
                            try clear p6
                            obtain ⟨kq, x84_44, rfl, HA, HJ44, BK301, HB⟩ := hcut
                            cases kq with
                            | zero => exact absurd HA.out (by simp [laws_FnMoney.j4])
                            | succ kj44 =>
                              have H := HA.out
                              clear HA
                              simp only [laws_FnMoney.j4] at H
                              by_cases c55 : x84_44 = true
                              · subst c55
                                have H1 : (none) = some r := by rw [if_pos rfl] at H; exact H
                                clear H
                                have H := H1
                                clear H1
                                exact absurd H (by simp)
                              · replace c55 := Bool.eq_false_iff.mpr c55
                                subst c55
                                have H1 : ((spec_DrawMoneyRead.f kj44 l1).bind fun t317 => ((spec_DrawRateRead.f kj44 l1).bind fun t318 => ((impl_MoneyRead.f t317).bind fun bt319 => ((impl_RateRead.f t318).bind fun bt322 => ((spec_MoneyRead.f kj44 t317).bind fun bt325 => (if (!(bt319.1 == bt325.1) || (!(bt319.2 == bt325.2))) = true then (laws_FnMoney.j5 kj44 t317 t318 true bt319.1 bt319.2 bt322.1 bt322.2) else ((spec_RateRead.f kj44 t318).bind fun bt327 => (laws_FnMoney.j5 kj44 t317 t318 (!(bt322.1 == bt327.1) || (!(bt322.2 == bt327.2))) bt319.1 bt319.2 bt322.1 bt322.2)))))))) = some r := by rw [if_neg (show ¬ (false = true) by decide)] at H; exact H
                                clear H
                                have H := H1
                                clear H1
                                replace H := Option.bind_eq_some_iff.mp H
                                obtain ⟨t317, A560, H⟩ := H
                                replace H : ((spec_DrawRateRead.f kj44 l1).bind fun t318 => ((impl_MoneyRead.f t317).bind fun bt319 => ((impl_RateRead.f t318).bind fun bt322 => ((spec_MoneyRead.f kj44 t317).bind fun bt325 => (if (!(bt319.1 == bt325.1) || (!(bt319.2 == bt325.2))) = true then (laws_FnMoney.j5 kj44 t317 t318 true bt319.1 bt319.2 bt322.1 bt322.2) else ((spec_RateRead.f kj44 t318).bind fun bt327 => (laws_FnMoney.j5 kj44 t317 t318 (!(bt322.1 == bt327.1) || (!(bt322.2 == bt327.2))) bt319.1 bt319.2 bt322.1 bt322.2))))))) = some r := H
                                have A56 := Aside0.mk A560
                                clear A560
                                replace H := Option.bind_eq_some_iff.mp H
                                obtain ⟨t318, A570, H⟩ := H
                                replace H : ((impl_MoneyRead.f t317).bind fun bt319 => ((impl_RateRead.f t318).bind fun bt322 => ((spec_MoneyRead.f kj44 t317).bind fun bt325 => (if (!(bt319.1 == bt325.1) || (!(bt319.2 == bt325.2))) = true then (laws_FnMoney.j5 kj44 t317 t318 true bt319.1 bt319.2 bt322.1 bt322.2) else ((spec_RateRead.f kj44 t318).bind fun bt327 => (laws_FnMoney.j5 kj44 t317 t318 (!(bt322.1 == bt327.1) || (!(bt322.2 == bt327.2))) bt319.1 bt319.2 bt322.1 bt322.2)))))) = some r := H
                                have A57 := Aside0.mk A570
                                clear A570
                                replace H := Option.bind_eq_some_iff.mp H
                                obtain ⟨⟨t319, t320⟩, A580, H⟩ := H
                                replace H : ((impl_RateRead.f t318).bind fun bt322 => ((spec_MoneyRead.f kj44 t317).bind fun bt325 => (if (!(t319 == bt325.1) || (!(t320 == bt325.2))) = true then (laws_FnMoney.j5 kj44 t317 t318 true t319 t320 bt322.1 bt322.2) else ((spec_RateRead.f kj44 t318).bind fun bt327 => (laws_FnMoney.j5 kj44 t317 t318 (!(bt322.1 == bt327.1) || (!(bt322.2 == bt327.2))) t319 t320 bt322.1 bt322.2))))) = some r := H
                                have A58 := Aside0.mk A580
                                clear A580
                                replace H := Option.bind_eq_some_iff.mp H
                                obtain ⟨⟨t322, t323⟩, A590, H⟩ := H
                                replace H : ((spec_MoneyRead.f kj44 t317).bind fun bt325 => (if (!(t319 == bt325.1) || (!(t320 == bt325.2))) = true then (laws_FnMoney.j5 kj44 t317 t318 true t319 t320 t322 t323) else ((spec_RateRead.f kj44 t318).bind fun bt327 => (laws_FnMoney.j5 kj44 t317 t318 (!(t322 == bt327.1) || (!(t323 == bt327.2))) t319 t320 t322 t323)))) = some r := H
                                have A59 := Aside0.mk A590
                                clear A590
                                have HC60 := Aside0.mk H
                                clear H
                                go_upto_region 18 with (first | ((with_reducible refine gate_callee (f := 52) rfl ?_); refine goesL_ (some 86) rfl rfl Tryd.func52 (by kernel_rfl) rfl #[.slice A1 l1.length c1] rfl (by (try simp only [List.map_toArray, List.map_cons, List.map_nil]); first | done | rfl | (simp only [List.length_drop, List.length_take]; rfl)) ?_; (with_reducible refine (spec_DrawMoneyRead.calls kj44 _ _ l1 t317 _ ?side1 ?side2 A56.out).mono ?_); (case side1 => repeat (first | exact (Kd.C_below HR1.out HB.out) | (with_reducible refine Kd.C_alloc ?_ _) | (with_reducible refine Kd.C_drewN ?_ _) | (with_reducible refine Kd.C_drew ?_))); (case side2 => exact HC1.out); rintro e w61 ⟨rfl, hb⟩; refine ⟨_, rfl, ?_⟩; have n0_ := Aside0.mk (blk_below (g := gb301) (o := .cells #[.int .i64 t299, .int .i64 t300] 50 (0, 0)) (by (with_reducible repeat (first | refine blk_drewN ?_ _ | refine blk_drew ?_ | refine blk_alloc ?_ _)); exact BK301.out) hb); have n1_ := Aside0.mk (below_step (by repeat (first | (with_reducible first | exact HB.out | apply below_alloc | apply pw_below_drewN | apply below_drew1 | refine below_set ?_ GE301.out) | exact HB.out)) hb); clear BK301; clear HB; have BK301 := n0_; have HB := n1_; clear n0_ n1_; (try clear hb); (try clear hb2); (try clear hk); (try clear hi)) | ((with_reducible refine gate_callee (f := 53) rfl ?_); refine goesL_ (some 88) rfl rfl Tryd.func53 (by kernel_rfl) rfl #[.slice A1 l1.length c1] rfl (by (try simp only [List.map_toArray, List.map_cons, List.map_nil]); first | done | rfl | (simp only [List.length_drop, List.length_take]; rfl)) ?_; (with_reducible refine (spec_DrawRateRead.calls kj44 _ _ l1 t318 _ ?side1 ?side2 A57.out).mono ?_); (case side1 => repeat (first | exact (Kd.C_below HR1.out HB.out) | (with_reducible refine Kd.C_alloc ?_ _) | (with_reducible refine Kd.C_drewN ?_ _) | (with_reducible refine Kd.C_drew ?_))); (case side2 => exact HC1.out); rintro e w62 ⟨rfl, hb⟩; refine ⟨_, rfl, ?_⟩; have n0_ := Aside0.mk (blk_below (g := gb301) (o := .cells #[.int .i64 t299, .int .i64 t300] 50 (0, 0)) (by (with_reducible repeat (first | refine blk_drewN ?_ _ | refine blk_drew ?_ | refine blk_alloc ?_ _)); exact BK301.out) hb); have n1_ := Aside0.mk (below_step (by repeat (first | (with_reducible first | exact HB.out | apply below_alloc | apply pw_below_drewN | apply below_drew1 | refine below_set ?_ GE301.out) | exact HB.out)) hb); clear BK301; clear HB; have BK301 := n0_; have HB := n1_; clear n0_ n1_; (try clear hb); (try clear hb2); (try clear hk); (try clear hi)) | ((with_reducible refine gate_callee (f := 45) rfl ?_); refine goesL_ (some 90) rfl rfl Tryd.func45 (by kernel_rfl) rfl #[.string t317] rfl (by (try simp only [List.map_toArray, List.map_cons, List.map_nil]); first | done | rfl | (simp only [List.length_drop, List.length_take]; rfl)) ?_; (with_reducible refine (impl_MoneyRead.calls t317 t319 t320 _ ?side1 A58.out).mono ?_); (case side1 => exact Sh.below HSH.out (by repeat (first | (with_reducible first | exact HB.out | apply below_alloc | apply pw_below_drewN | apply below_drew1 | refine below_set ?_ GE301.out) | exact HB.out))); rintro e w63 ⟨rfl, hb⟩; refine ⟨_, rfl, ?_⟩; have n0_ := Aside0.mk (blk_below (g := gb301) (o := .cells #[.int .i64 t299, .int .i64 t300] 50 (0, 0)) (by (with_reducible repeat (first | refine blk_drewN ?_ _ | refine blk_drew ?_ | refine blk_alloc ?_ _)); exact BK301.out) hb); have n1_ := Aside0.mk (below_step (by repeat (first | (with_reducible first | exact HB.out | apply below_alloc | apply pw_below_drewN | apply below_drew1 | refine below_set ?_ GE301.out) | exact HB.out)) hb); clear BK301; clear HB; have BK301 := n0_; have HB := n1_; clear n0_ n1_; (try clear hb); (try clear hb2); (try clear hk); (try clear hi)) | ((with_reducible refine gate_dst (N := 11) rfl ?_); (try (refine gate_guard (by rfl) ?_; dsimp only)); refine box_event ?hg (N := 11) ?hd (cs := #[.int .i64 0, .int .i64 0]) (t := 50) ?hr ?_; (case hd => rfl); (case hg => rfl); (case hr => first | (go_simp; done) | (go_simp; rfl)); intro gb321 hg w64 hbox hb; have n0_ := Aside0.mk (blk_below (g := gb301) (o := .cells #[.int .i64 t299, .int .i64 t300] 50 (0, 0)) (by (with_reducible repeat (first | refine blk_drewN ?_ _ | refine blk_drew ?_ | refine blk_alloc ?_ _)); exact BK301.out) hb); have n1_ := Aside0.mk (below_step (by repeat (first | (with_reducible first | exact HB.out | apply below_alloc | apply pw_below_drewN | apply below_drew1 | refine below_set ?_ GE301.out) | exact HB.out)) hb); have n2_ := Aside0.mk (hbox); have n3_ := Aside0.mk ((by rw [hg]; exact (below_size (by repeat (first | (with_reducible first | exact HB.out | apply below_alloc | apply pw_below_drewN | apply below_drew1 | refine below_set ?_ GE301.out) | exact HB.out))) : w.heap.size ≤ gb321)); have n4_ := Aside0.mk ((by rw [hg]; exact (below_size (by repeat (first | (with_reducible first | exact HB.out | apply below_alloc | apply pw_below_drewN | apply below_drew1 | refine below_set ?_ GE301.out) | exact HB.out))) : w.heap.size ≤ gb321)); have n5_ := Aside0.mk ((by rw [hg]; exact Nat.ne_of_lt (blk_lt (g := gb301) (o := .cells #[.int .i64 t299, .int .i64 t300] 50 (0, 0)) (by (with_reducible repeat (first | refine blk_drewN ?_ _ | refine blk_drew ?_ | refine blk_alloc ?_ _)); exact BK301.out)) : gb301 ≠ gb321)); have n6_ := Aside0.mk ((by rw [hg]; exact Nat.ne_of_gt (blk_lt (g := gb301) (o := .cells #[.int .i64 t299, .int .i64 t300] 50 (0, 0)) (by (with_reducible repeat (first | refine blk_drewN ?_ _ | refine blk_drew ?_ | refine blk_alloc ?_ _)); exact BK301.out)) : gb321 ≠ gb301)); clear BK301; clear HB; have BK301 := n0_; have HB := n1_; have BK321 := n2_; have GW321 := n3_; have GE321 := n4_; have NB301_321 := n5_; have NB321_301 := n6_; clear n0_ n1_ n2_ n3_ n4_ n5_ n6_; clear hb hbox hg; have hnb65 := NB321_301.out; have hnc65 := NB301_321.out; have hcz66_0 : w64.cell? ⟨gb321, 0, none⟩ = some (.int .i64 0) := (blk_cell BK321.out 0).trans rfl; have hcz66_1 : w64.cell? ⟨gb321, 1, none⟩ = some (.int .i64 0) := (blk_cell BK321.out 1).trans rfl; have hfz66_0 := blk_frozen BK321.out 0; have hfz66_1 := blk_frozen BK321.out 1) | ((with_reducible refine gate_callee (f := 43) rfl ?_); refine goesL_ (some 92) rfl rfl Tryd.func43 (by kernel_rfl) rfl #[.string t318] rfl (by (try simp only [List.map_toArray, List.map_cons, List.map_nil]); first | done | rfl | (simp only [List.length_drop, List.length_take]; rfl)) ?_; (with_reducible refine (impl_RateRead.calls t318 t322 t323 _ ?side1 A59.out).mono ?_); (case side1 => exact Sh.below HSH.out (by repeat (first | (with_reducible first | exact HB.out | apply below_alloc | apply pw_below_drewN | apply below_drew1 | refine below_set ?_ GE301.out | refine below_set ?_ GE321.out) | exact HB.out))); rintro e w67 ⟨rfl, hb⟩; refine ⟨_, rfl, ?_⟩; have n0_ := Aside0.mk (blk_below (g := gb301) (o := .cells #[.int .i64 t299, .int .i64 t300] 50 (0, 0)) (by (with_reducible repeat (first | refine blk_drewN ?_ _ | refine blk_drew ?_ | refine blk_alloc ?_ _)); refine blk_far ?_ NB301_321.out _; (with_reducible repeat (first | refine blk_drewN ?_ _ | refine blk_drew ?_ | refine blk_alloc ?_ _)); refine blk_far ?_ NB301_321.out _; (with_reducible repeat (first | refine blk_drewN ?_ _ | refine blk_drew ?_ | refine blk_alloc ?_ _)); exact BK301.out) hb); have n1_ := Aside0.mk (blk_below (g := gb321) (o := .cells #[.int .i64 t319, .int .i64 t320] 50 (0, 0)) (by (with_reducible repeat (first | refine blk_drewN ?_ _ | refine blk_drew ?_ | refine blk_alloc ?_ _)); refine blk_put (cs := #[.int .i64 t319, .int .i64 0]) ?_ 1 _ rfl; (with_reducible repeat (first | refine blk_drewN ?_ _ | refine blk_drew ?_ | refine blk_alloc ?_ _)); refine blk_put (cs := #[.int .i64 0, .int .i64 0]) ?_ 0 _ rfl; (with_reducible repeat (first | refine blk_drewN ?_ _ | refine blk_drew ?_ | refine blk_alloc ?_ _)); exact BK321.out) hb); have n2_ := Aside0.mk (below_step (by repeat (first | (with_reducible first | exact HB.out | apply below_alloc | apply pw_below_drewN | apply below_drew1 | refine below_set ?_ GE301.out | refine below_set ?_ GE321.out) | exact HB.out)) hb); clear BK301; clear BK321; clear HB; have BK301 := n0_; have BK321 := n1_; have HB := n2_; clear n0_ n1_ n2_; (try clear hb); (try clear hb2); (try clear hk); (try clear hi)) | ((with_reducible refine gate_dst (N := 12) rfl ?_); (try (refine gate_guard (by rfl) ?_; dsimp only)); refine box_event ?hg (N := 12) ?hd (cs := #[.int .i64 0, .int .i64 0]) (t := 50) ?hr ?_; (case hd => rfl); (case hg => rfl); (case hr => first | (go_simp; done) | (go_simp; rfl)); intro gb324 hg w68 hbox hb; have n0_ := Aside0.mk (blk_below (g := gb301) (o := .cells #[.int .i64 t299, .int .i64 t300] 50 (0, 0)) (by (with_reducible repeat (first | refine blk_drewN ?_ _ | refine blk_drew ?_ | refine blk_alloc ?_ _)); exact BK301.out) hb); have n1_ := Aside0.mk (blk_below (g := gb321) (o := .cells #[.int .i64 t319, .int .i64 t320] 50 (0, 0)) (by (with_reducible repeat (first | refine blk_drewN ?_ _ | refine blk_drew ?_ | refine blk_alloc ?_ _)); exact BK321.out) hb); have n2_ := Aside0.mk (below_step (by repeat (first | (with_reducible first | exact HB.out | apply below_alloc | apply pw_below_drewN | apply below_drew1 | refine below_set ?_ GE301.out | refine below_set ?_ GE321.out) | exact HB.out)) hb); have n3_ := Aside0.mk (hbox); have n4_ := Aside0.mk ((by rw [hg]; exact (below_size (by repeat (first | (with_reducible first | exact HB.out | apply below_alloc | apply pw_below_drewN | apply below_drew1 | refine below_set ?_ GE301.out | refine below_set ?_ GE321.out) | exact HB.out))) : w.heap.size ≤ gb324)); have n5_ := Aside0.mk ((by rw [hg]; exact (below_size (by repeat (first | (with_reducible first | exact HB.out | apply below_alloc | apply pw_below_drewN | apply below_drew1 | refine below_set ?_ GE301.out | refine below_set ?_ GE321.out) | exact HB.out))) : w.heap.size ≤ gb324)); have n6_ := Aside0.mk ((by rw [hg]; exact Nat.ne_of_lt (blk_lt (g := gb301) (o := .cells #[.int .i64 t299, .int .i64 t300] 50 (0, 0)) (by (with_reducible repeat (first | refine blk_drewN ?_ _ | refine blk_drew ?_ | refine blk_alloc ?_ _)); exact BK301.out)) : gb301 ≠ gb324)); have n7_ := Aside0.mk ((by rw [hg]; exact Nat.ne_of_gt (blk_lt (g := gb301) (o := .cells #[.int .i64 t299, .int .i64 t300] 50 (0, 0)) (by (with_reducible repeat (first | refine blk_drewN ?_ _ | refine blk_drew ?_ | refine blk_alloc ?_ _)); exact BK301.out)) : gb324 ≠ gb301)); have n8_ := Aside0.mk ((by rw [hg]; exact Nat.ne_of_lt (blk_lt (g := gb321) (o := .cells #[.int .i64 t319, .int .i64 t320] 50 (0, 0)) (by (with_reducible repeat (first | refine blk_drewN ?_ _ | refine blk_drew ?_ | refine blk_alloc ?_ _)); exact BK321.out)) : gb321 ≠ gb324)); have n9_ := Aside0.mk ((by rw [hg]; exact Nat.ne_of_gt (blk_lt (g := gb321) (o := .cells #[.int .i64 t319, .int .i64 t320] 50 (0, 0)) (by (with_reducible repeat (first | refine blk_drewN ?_ _ | refine blk_drew ?_ | refine blk_alloc ?_ _)); exact BK321.out)) : gb324 ≠ gb321)); clear BK301; clear BK321; clear HB; have BK301 := n0_; have BK321 := n1_; have HB := n2_; have BK324 := n3_; have GW324 := n4_; have GE324 := n5_; have NB301_324 := n6_; have NB324_301 := n7_; have NB321_324 := n8_; have NB324_321 := n9_; clear n0_ n1_ n2_ n3_ n4_ n5_ n6_ n7_ n8_ n9_; clear hb hbox hg; have hnb69 := NB324_301.out; have hnc69 := NB301_324.out; have hnb70 := NB324_321.out; have hnc70 := NB321_324.out; have hcz71_0 : w68.cell? ⟨gb324, 0, none⟩ = some (.int .i64 0) := (blk_cell BK324.out 0).trans rfl; have hcz71_1 : w68.cell? ⟨gb324, 1, none⟩ = some (.int .i64 0) := (blk_cell BK324.out 1).trans rfl; have hfz71_0 := blk_frozen BK324.out 0; have hfz71_1 := blk_frozen BK324.out 1))
                                (try simp only [Act.put, List.setIfInBounds_toArray, List.set_cons_zero, List.set_cons_succ])
                                go_cut [102] (fun v102 wc => ∃ (kq : Nat) (x102_59 : Bool), v102 = .bool x102_59 ∧ Aside0 (laws_FnMoney.j5 kq t317 t318 x102_59 t319 t320 t322 t323 = some r) ∧ Aside0 (kq ≤ kj44) ∧ Aside0 (wc.heap[gb301]? = some (.cells #[.int .i64 t299, .int .i64 t300] 50 (0, 0))) ∧ Aside0 (wc.heap[gb321]? = some (.cells #[.int .i64 t319, .int .i64 t320] 50 (0, 0))) ∧ Aside0 (wc.heap[gb324]? = some (.cells #[.int .i64 t322, .int .i64 t323] 50 (0, 0))) ∧ Aside0 (Below w.heap.size w wc))
                                case first =>
                                  have H := HC60.out
                                  clear HC60
                                  replace H := Option.bind_eq_some_iff.mp H
                                  obtain ⟨⟨t325, t326⟩, A720, H⟩ := H
                                  replace H : (if (!(t319 == t325) || (!(t320 == t326))) = true then (laws_FnMoney.j5 kj44 t317 t318 true t319 t320 t322 t323) else ((spec_RateRead.f kj44 t318).bind fun bt327 => (laws_FnMoney.j5 kj44 t317 t318 (!(t322 == bt327.1) || (!(t323 == bt327.2))) t319 t320 t322 t323))) = some r := H
                                  have A72 := Aside0.mk A720
                                  clear A720
                                  by_cases c73 : (!(t319 == t325) || (!(t320 == t326))) = true
                                  · rw [if_pos c73] at H
                                    have c73b0 : (!(t319 == t325) || (!(t320 == t326))) = true := c73
                                    clear c73
                                    (first | rw [c73b0] | (simp only [i64_w, i32_w]; rw [c73b0]) | skip)
                                    have H' := Aside0.mk H
                                    clear H
                                    try go_wp2
                                    have n0_ : Aside0 (((w68.setCell ⟨gb324, 0, none⟩ (.int .i64 t322)).setCell ⟨gb324, 1, none⟩ (.int .i64 t323)).heap[gb301]? = some (.cells #[.int .i64 t299, .int .i64 t300] 50 (0, 0))) := ⟨by (with_reducible repeat (first | refine blk_drewN ?_ _ | refine blk_drew ?_ | refine blk_alloc ?_ _)); refine blk_far ?_ NB301_324.out _; (with_reducible repeat (first | refine blk_drewN ?_ _ | refine blk_drew ?_ | refine blk_alloc ?_ _)); refine blk_far ?_ NB301_324.out _; (with_reducible repeat (first | refine blk_drewN ?_ _ | refine blk_drew ?_ | refine blk_alloc ?_ _)); exact BK301.out⟩
                                    have n1_ : Aside0 (((w68.setCell ⟨gb324, 0, none⟩ (.int .i64 t322)).setCell ⟨gb324, 1, none⟩ (.int .i64 t323)).heap[gb321]? = some (.cells #[.int .i64 t319, .int .i64 t320] 50 (0, 0))) := ⟨by (with_reducible repeat (first | refine blk_drewN ?_ _ | refine blk_drew ?_ | refine blk_alloc ?_ _)); refine blk_far ?_ NB321_324.out _; (with_reducible repeat (first | refine blk_drewN ?_ _ | refine blk_drew ?_ | refine blk_alloc ?_ _)); refine blk_far ?_ NB321_324.out _; (with_reducible repeat (first | refine blk_drewN ?_ _ | refine blk_drew ?_ | refine blk_alloc ?_ _)); exact BK321.out⟩
                                    have n2_ : Aside0 (((w68.setCell ⟨gb324, 0, none⟩ (.int .i64 t322)).setCell ⟨gb324, 1, none⟩ (.int .i64 t323)).heap[gb324]? = some (.cells #[.int .i64 t322, .int .i64 t323] 50 (0, 0))) := ⟨by (with_reducible repeat (first | refine blk_drewN ?_ _ | refine blk_drew ?_ | refine blk_alloc ?_ _)); refine blk_put (cs := #[.int .i64 t322, .int .i64 0]) ?_ 1 _ rfl; (with_reducible repeat (first | refine blk_drewN ?_ _ | refine blk_drew ?_ | refine blk_alloc ?_ _)); refine blk_put (cs := #[.int .i64 0, .int .i64 0]) ?_ 0 _ rfl; (with_reducible repeat (first | refine blk_drewN ?_ _ | refine blk_drew ?_ | refine blk_alloc ?_ _)); exact BK324.out⟩
                                    have n3_ : Aside0 (Below w.heap.size w ((w68.setCell ⟨gb324, 0, none⟩ (.int .i64 t322)).setCell ⟨gb324, 1, none⟩ (.int .i64 t323))) := ⟨by repeat (first | (with_reducible first | exact HB.out | apply below_alloc | apply pw_below_drewN | apply below_drew1 | refine below_set ?_ GE301.out | refine below_set ?_ GE321.out | refine below_set ?_ GE324.out) | exact HB.out)⟩
                                    (try clear BK301)
                                    (try clear BK321)
                                    (try clear BK324)
                                    (try clear HB)
                                    generalize ((w68.setCell ⟨gb324, 0, none⟩ (.int .i64 t322)).setCell ⟨gb324, 1, none⟩ (.int .i64 t323)) = w74 at n0_ n1_ n2_ n3_ ⊢
                                    have BK301 := n0_
                                    have BK321 := n1_
                                    have BK324 := n2_
                                    have HB := n3_
                                    clear n0_ n1_ n2_ n3_
                                    have n0_ := Aside0.mk (blk_drew BK301.out)
                                    have n1_ := Aside0.mk (blk_drew BK321.out)
                                    have n2_ := Aside0.mk (blk_drew BK324.out)
                                    have n3_ := Aside0.mk (below_drew1 HB.out)
                                    clear BK301
                                    clear BK321
                                    clear BK324
                                    clear HB
                                    have BK301 := n0_
                                    have BK321 := n1_
                                    have BK324 := n2_
                                    have HB := n3_
                                    clear n0_ n1_ n2_ n3_
                                    refine start_ (n := 10) (S := fun w' => w'.cell? ⟨gb321, 0, none⟩ = some (.int .i64 t319) ∧ w'.cell? ⟨gb321, 1, none⟩ = some (.int .i64 t320)) (ds := []) #[false, false, false, false, false, false, false, false, false, false] (by kernel_rfl) rfl rfl ⟨(blk_cell BK321.out 0).trans rfl, (blk_cell BK321.out 1).trans rfl⟩ (fun hHeld => ?_); refine with_tabW laws_FnMoney.tab18 laws_FnMoney.bits18 (fun HT_ HW_ => ?_)
                                    generalize w74.drew = w75 at BK301 BK321 BK324 HB hHeld ⊢
                                    refine pure_ (i := 1) (N := some 94) (v := ?_) (a' := ?_) #[false, true, false, false, false, false, false, false, false, false] rfl rfl (any_of HT_.out (by kernel_rfl)) (fun _ _ _ h => h) (Or.inl ⟨by rfl, ?_⟩) ?_ ?_
                                    rotate_left
                                    · intro w'
                                      go_simp
                                      with_reducible rfl
                                    rotate_left
                                    · simp only [Act.put, List.setIfInBounds_toArray, List.set_cons_zero, List.set_cons_succ, i64_w, i32_w]
                                      rfl
                                    refine take_ (i := 0) (N := some 93) (v := ?_) (a' := ?_) #[true, true, false, false, false, false, false, false, false, false] rfl rfl (take_ofW HT_.out HW_.out (by kernel_rfl)) (fun _ _ _ h => h) (Or.inl ⟨by rfl, ?_⟩) hHeld ?_ ?_
                                    rotate_left
                                    · rintro w' ⟨s0, s1⟩
                                      go_simp
                                      with_reducible rfl
                                    rotate_left
                                    · simp only [Act.put, List.setIfInBounds_toArray, List.set_cons_zero, List.set_cons_succ, i64_w, i32_w]
                                      rfl
                                    refine one_ (i := 2) (N := some 95) #[true, true, true, false, false, false, false, false, false, false] rfl rfl (one_of HT_.out (by kernel_rfl)) (by decide) (fun K hK => ?_)
                                    refine goes_ Tryd.func44 (by kernel_rfl) rfl #[.string t317] (by rfl) rfl rfl (by (try simp only [List.map_toArray, List.map_cons, List.map_nil]); first | done | rfl | (simp only [List.length_drop, List.length_take]; rfl)) ?_
                                    with_reducible refine (spec_MoneyRead.calls kj44 t317 t325 t326 _ A72.out).mono ?_
                                    rintro e w76 ⟨rfl, hb⟩
                                    refine ⟨_, rfl, ?_⟩
                                    have n0_ := Aside0.mk (blk_below (g := gb301) (o := .cells #[.int .i64 t299, .int .i64 t300] 50 (0, 0)) (by (with_reducible repeat (first | refine blk_drewN ?_ _ | refine blk_drew ?_ | refine blk_alloc ?_ _)); exact BK301.out) hb)
                                    have n1_ := Aside0.mk (blk_below (g := gb321) (o := .cells #[.int .i64 t319, .int .i64 t320] 50 (0, 0)) (by (with_reducible repeat (first | refine blk_drewN ?_ _ | refine blk_drew ?_ | refine blk_alloc ?_ _)); exact BK321.out) hb)
                                    have n2_ := Aside0.mk (blk_below (g := gb324) (o := .cells #[.int .i64 t322, .int .i64 t323] 50 (0, 0)) (by (with_reducible repeat (first | refine blk_drewN ?_ _ | refine blk_drew ?_ | refine blk_alloc ?_ _)); exact BK324.out) hb)
                                    have n3_ := Aside0.mk (below_step (by repeat (first | (with_reducible first | exact HB.out | apply below_alloc | apply pw_below_drewN | apply below_drew1 | refine below_set ?_ GE301.out | refine below_set ?_ GE321.out | refine below_set ?_ GE324.out) | exact HB.out)) hb)
                                    clear BK301
                                    clear BK321
                                    clear BK324
                                    clear HB
                                    have BK301 := n0_
                                    have BK321 := n1_
                                    have BK324 := n2_
                                    have HB := n3_
                                    clear n0_ n1_ n2_ n3_
                                    (try clear hb)
                                    (try clear hb2)
                                    (try clear hk)
                                    (try clear hi)
                                    refine hK.out _ _ ⟨(blk_cell BK321.out 0).trans rfl, (blk_cell BK321.out 1).trans rfl⟩ (fun hHeld => ?_)
                                    clear hK K
                                    refine norm_ (a' := ?_) ?_ ?_
                                    rotate_left
                                    · show Act.put _ (some 95) _ = _
                                      simp only [Act.put, List.setIfInBounds_toArray, List.set_cons_zero, List.set_cons_succ, i64_w, i32_w]
                                      rfl
                                    refine pure_ (i := 3) (N := some 96) (v := ?_) (a' := ?_) #[true, true, true, true, false, false, false, false, false, false] rfl rfl (any_of HT_.out (by kernel_rfl)) (fun _ _ _ h => h) (Or.inl ⟨by rfl, ?_⟩) ?_ ?_
                                    rotate_left
                                    · intro w'
                                      go_simp
                                      with_reducible rfl
                                    rotate_left
                                    · simp only [Act.put, List.setIfInBounds_toArray, List.set_cons_zero, List.set_cons_succ, i64_w, i32_w]
                                      rfl
                                    refine pure_ (i := 4) (N := some 97) (v := ?_) (a' := ?_) #[true, true, true, true, true, false, false, false, false, false] rfl rfl (any_of HT_.out (by kernel_rfl)) (fun _ _ _ h => h) (Or.inl ⟨by rfl, ?_⟩) ?_ ?_
                                    rotate_left
                                    · intro w'
                                      go_simp
                                      with_reducible rfl
                                    rotate_left
                                    · simp only [Act.put, List.setIfInBounds_toArray, List.set_cons_zero, List.set_cons_succ, i64_w, i32_w]
                                      rfl
                                    refine pure_ (i := 5) (N := some 98) (v := undef) (a' := ?_) #[true, true, true, true, true, true, false, false, false, false] rfl rfl (any_of HT_.out (by kernel_rfl)) (fun _ _ _ h => h) (Or.inr ⟨by rfl, rfl⟩) ?_ ?_
                                    rotate_left
                                    · simp only [Act.put, List.setIfInBounds_toArray, List.set_cons_zero, List.set_cons_succ, i64_w, i32_w]
                                      rfl
                                    refine pure_ (i := 6) (N := some 99) (v := undef) (a' := ?_) #[true, true, true, true, true, true, true, false, false, false] rfl rfl (any_of HT_.out (by kernel_rfl)) (fun _ _ _ h => h) (Or.inr ⟨by rfl, rfl⟩) ?_ ?_
                                    rotate_left
                                    · simp only [Act.put, List.setIfInBounds_toArray, List.set_cons_zero, List.set_cons_succ, i64_w, i32_w]
                                      rfl
                                    refine pure_ (i := 7) (N := some 100) (v := undef) (a' := ?_) #[true, true, true, true, true, true, true, true, false, false] rfl rfl (any_of HT_.out (by kernel_rfl)) (fun _ _ _ h => h) (Or.inr ⟨by rfl, rfl⟩) ?_ ?_
                                    rotate_left
                                    · simp only [Act.put, List.setIfInBounds_toArray, List.set_cons_zero, List.set_cons_succ, i64_w, i32_w]
                                      rfl
                                    refine pure_ (i := 8) (N := some 101) (v := undef) (a' := ?_) #[true, true, true, true, true, true, true, true, true, false] rfl rfl (any_of HT_.out (by kernel_rfl)) (fun _ _ _ h => h) (Or.inr ⟨by rfl, rfl⟩) ?_ ?_
                                    rotate_left
                                    · simp only [Act.put, List.setIfInBounds_toArray, List.set_cons_zero, List.set_cons_succ, i64_w, i32_w]
                                      rfl
                                    refine pure_ (i := 9) (N := some 102) (v := ?_) (a' := ?_) #[true, true, true, true, true, true, true, true, true, true] rfl rfl (any_of HT_.out (by kernel_rfl)) (fun _ _ _ h => h) (Or.inl ⟨by rfl, ?_⟩) ?_ ?_
                                    rotate_left
                                    · intro w'
                                      go_simp
                                      with_reducible rfl
                                    rotate_left
                                    · simp only [Act.put, List.setIfInBounds_toArray, List.set_cons_zero, List.set_cons_succ, i64_w, i32_w]
                                      rfl
                                    refine done_ (done_of HT_.out (by kernel_rfl)) ?_
                                    try go_wp2
                                    go_meet
                                    case rel => exact ⟨_, (true), (by first | rfl | (simp; done) | (simp [*]; done)), H', ⟨by have := HJ2.out; have := HJ7.out; have := HJ23.out; have := HJ35.out; have := HJ44.out; first | omega | exact Nat.le_refl _⟩, ⟨by (with_reducible repeat (first | refine blk_drewN ?_ _ | refine blk_drew ?_ | refine blk_alloc ?_ _)); exact BK301.out⟩, ⟨by (with_reducible repeat (first | refine blk_drewN ?_ _ | refine blk_drew ?_ | refine blk_alloc ?_ _)); exact BK321.out⟩, ⟨by (with_reducible repeat (first | refine blk_drewN ?_ _ | refine blk_drew ?_ | refine blk_alloc ?_ _)); exact BK324.out⟩, ⟨by repeat (first | (with_reducible first | exact HB.out | apply below_alloc | apply pw_below_drewN | apply below_drew1 | refine below_set ?_ GE301.out | refine below_set ?_ GE321.out | refine below_set ?_ GE324.out) | exact HB.out)⟩⟩
                                  · rw [if_neg c73] at H
                                    have c73b0 : (!(t319 == t325) || (!(t320 == t326))) = false := by simpa using c73
                                    clear c73
                                    (first | rw [c73b0] | (simp only [i64_w, i32_w]; rw [c73b0]) | skip)
                                    replace H := Option.bind_eq_some_iff.mp H
                                    obtain ⟨⟨t327, t328⟩, A770, H⟩ := H
                                    replace H : (laws_FnMoney.j5 kj44 t317 t318 (!(t322 == t327) || (!(t323 == t328))) t319 t320 t322 t323) = some r := H
                                    have A77 := Aside0.mk A770
                                    clear A770
                                    have H' := Aside0.mk H
                                    clear H
                                    try go_wp2
                                    have n0_ : Aside0 (((w68.setCell ⟨gb324, 0, none⟩ (.int .i64 t322)).setCell ⟨gb324, 1, none⟩ (.int .i64 t323)).heap[gb301]? = some (.cells #[.int .i64 t299, .int .i64 t300] 50 (0, 0))) := ⟨by (with_reducible repeat (first | refine blk_drewN ?_ _ | refine blk_drew ?_ | refine blk_alloc ?_ _)); refine blk_far ?_ NB301_324.out _; (with_reducible repeat (first | refine blk_drewN ?_ _ | refine blk_drew ?_ | refine blk_alloc ?_ _)); refine blk_far ?_ NB301_324.out _; (with_reducible repeat (first | refine blk_drewN ?_ _ | refine blk_drew ?_ | refine blk_alloc ?_ _)); exact BK301.out⟩
                                    have n1_ : Aside0 (((w68.setCell ⟨gb324, 0, none⟩ (.int .i64 t322)).setCell ⟨gb324, 1, none⟩ (.int .i64 t323)).heap[gb321]? = some (.cells #[.int .i64 t319, .int .i64 t320] 50 (0, 0))) := ⟨by (with_reducible repeat (first | refine blk_drewN ?_ _ | refine blk_drew ?_ | refine blk_alloc ?_ _)); refine blk_far ?_ NB321_324.out _; (with_reducible repeat (first | refine blk_drewN ?_ _ | refine blk_drew ?_ | refine blk_alloc ?_ _)); refine blk_far ?_ NB321_324.out _; (with_reducible repeat (first | refine blk_drewN ?_ _ | refine blk_drew ?_ | refine blk_alloc ?_ _)); exact BK321.out⟩
                                    have n2_ : Aside0 (((w68.setCell ⟨gb324, 0, none⟩ (.int .i64 t322)).setCell ⟨gb324, 1, none⟩ (.int .i64 t323)).heap[gb324]? = some (.cells #[.int .i64 t322, .int .i64 t323] 50 (0, 0))) := ⟨by (with_reducible repeat (first | refine blk_drewN ?_ _ | refine blk_drew ?_ | refine blk_alloc ?_ _)); refine blk_put (cs := #[.int .i64 t322, .int .i64 0]) ?_ 1 _ rfl; (with_reducible repeat (first | refine blk_drewN ?_ _ | refine blk_drew ?_ | refine blk_alloc ?_ _)); refine blk_put (cs := #[.int .i64 0, .int .i64 0]) ?_ 0 _ rfl; (with_reducible repeat (first | refine blk_drewN ?_ _ | refine blk_drew ?_ | refine blk_alloc ?_ _)); exact BK324.out⟩
                                    have n3_ : Aside0 (Below w.heap.size w ((w68.setCell ⟨gb324, 0, none⟩ (.int .i64 t322)).setCell ⟨gb324, 1, none⟩ (.int .i64 t323))) := ⟨by repeat (first | (with_reducible first | exact HB.out | apply below_alloc | apply pw_below_drewN | apply below_drew1 | refine below_set ?_ GE301.out | refine below_set ?_ GE321.out | refine below_set ?_ GE324.out) | exact HB.out)⟩
                                    (try clear BK301)
                                    (try clear BK321)
                                    (try clear BK324)
                                    (try clear HB)
                                    generalize ((w68.setCell ⟨gb324, 0, none⟩ (.int .i64 t322)).setCell ⟨gb324, 1, none⟩ (.int .i64 t323)) = w78 at n0_ n1_ n2_ n3_ ⊢
                                    have BK301 := n0_
                                    have BK321 := n1_
                                    have BK324 := n2_
                                    have HB := n3_
                                    clear n0_ n1_ n2_ n3_
                                    have n0_ := Aside0.mk (blk_drew BK301.out)
                                    have n1_ := Aside0.mk (blk_drew BK321.out)
                                    have n2_ := Aside0.mk (blk_drew BK324.out)
                                    have n3_ := Aside0.mk (below_drew1 HB.out)
                                    clear BK301
                                    clear BK321
                                    clear BK324
                                    clear HB
                                    have BK301 := n0_
                                    have BK321 := n1_
                                    have BK324 := n2_
                                    have HB := n3_
                                    clear n0_ n1_ n2_ n3_
                                    refine start_ (n := 10) (S := fun w' => w'.cell? ⟨gb321, 0, none⟩ = some (.int .i64 t319) ∧ w'.cell? ⟨gb321, 1, none⟩ = some (.int .i64 t320) ∧ w'.cell? ⟨gb324, 0, none⟩ = some (.int .i64 t322) ∧ w'.cell? ⟨gb324, 1, none⟩ = some (.int .i64 t323)) (ds := []) #[false, false, false, false, false, false, false, false, false, false] (by kernel_rfl) rfl rfl ⟨(blk_cell BK321.out 0).trans rfl, (blk_cell BK321.out 1).trans rfl, (blk_cell BK324.out 0).trans rfl, (blk_cell BK324.out 1).trans rfl⟩ (fun hHeld => ?_); refine with_tabW laws_FnMoney.tab18 laws_FnMoney.bits18 (fun HT_ HW_ => ?_)
                                    generalize w78.drew = w79 at BK301 BK321 BK324 HB hHeld ⊢
                                    refine pure_ (i := 1) (N := some 94) (v := ?_) (a' := ?_) #[false, true, false, false, false, false, false, false, false, false] rfl rfl (any_of HT_.out (by kernel_rfl)) (fun _ _ _ h => h) (Or.inl ⟨by rfl, ?_⟩) ?_ ?_
                                    rotate_left
                                    · intro w'
                                      go_simp
                                      with_reducible rfl
                                    rotate_left
                                    · simp only [Act.put, List.setIfInBounds_toArray, List.set_cons_zero, List.set_cons_succ, i64_w, i32_w]
                                      rfl
                                    refine take_ (i := 0) (N := some 93) (v := ?_) (a' := ?_) #[true, true, false, false, false, false, false, false, false, false] rfl rfl (take_ofW HT_.out HW_.out (by kernel_rfl)) (fun _ _ _ h => h) (Or.inl ⟨by rfl, ?_⟩) hHeld ?_ ?_
                                    rotate_left
                                    · rintro w' ⟨s0, s1, s2, s3⟩
                                      go_simp
                                      with_reducible rfl
                                    rotate_left
                                    · simp only [Act.put, List.setIfInBounds_toArray, List.set_cons_zero, List.set_cons_succ, i64_w, i32_w]
                                      rfl
                                    refine one_ (i := 2) (N := some 95) #[true, true, true, false, false, false, false, false, false, false] rfl rfl (one_of HT_.out (by kernel_rfl)) (by decide) (fun K hK => ?_)
                                    refine goes_ Tryd.func44 (by kernel_rfl) rfl #[.string t317] (by rfl) rfl rfl (by (try simp only [List.map_toArray, List.map_cons, List.map_nil]); first | done | rfl | (simp only [List.length_drop, List.length_take]; rfl)) ?_
                                    with_reducible refine (spec_MoneyRead.calls kj44 t317 t325 t326 _ A72.out).mono ?_
                                    rintro e w80 ⟨rfl, hb⟩
                                    refine ⟨_, rfl, ?_⟩
                                    have n0_ := Aside0.mk (blk_below (g := gb301) (o := .cells #[.int .i64 t299, .int .i64 t300] 50 (0, 0)) (by (with_reducible repeat (first | refine blk_drewN ?_ _ | refine blk_drew ?_ | refine blk_alloc ?_ _)); exact BK301.out) hb)
                                    have n1_ := Aside0.mk (blk_below (g := gb321) (o := .cells #[.int .i64 t319, .int .i64 t320] 50 (0, 0)) (by (with_reducible repeat (first | refine blk_drewN ?_ _ | refine blk_drew ?_ | refine blk_alloc ?_ _)); exact BK321.out) hb)
                                    have n2_ := Aside0.mk (blk_below (g := gb324) (o := .cells #[.int .i64 t322, .int .i64 t323] 50 (0, 0)) (by (with_reducible repeat (first | refine blk_drewN ?_ _ | refine blk_drew ?_ | refine blk_alloc ?_ _)); exact BK324.out) hb)
                                    have n3_ := Aside0.mk (below_step (by repeat (first | (with_reducible first | exact HB.out | apply below_alloc | apply pw_below_drewN | apply below_drew1 | refine below_set ?_ GE301.out | refine below_set ?_ GE321.out | refine below_set ?_ GE324.out) | exact HB.out)) hb)
                                    clear BK301
                                    clear BK321
                                    clear BK324
                                    clear HB
                                    have BK301 := n0_
                                    have BK321 := n1_
                                    have BK324 := n2_
                                    have HB := n3_
                                    clear n0_ n1_ n2_ n3_
                                    (try clear hb)
                                    (try clear hb2)
                                    (try clear hk)
                                    (try clear hi)
                                    refine hK.out _ _ ⟨(blk_cell BK321.out 0).trans rfl, (blk_cell BK321.out 1).trans rfl, (blk_cell BK324.out 0).trans rfl, (blk_cell BK324.out 1).trans rfl⟩ (fun hHeld => ?_)
                                    clear hK K
                                    refine norm_ (a' := ?_) ?_ ?_
                                    rotate_left
                                    · show Act.put _ (some 95) _ = _
                                      simp only [Act.put, List.setIfInBounds_toArray, List.set_cons_zero, List.set_cons_succ, i64_w, i32_w]
                                      rfl
                                    refine pure_ (i := 3) (N := some 96) (v := ?_) (a' := ?_) #[true, true, true, true, false, false, false, false, false, false] rfl rfl (any_of HT_.out (by kernel_rfl)) (fun _ _ _ h => h) (Or.inl ⟨by rfl, ?_⟩) ?_ ?_
                                    rotate_left
                                    · intro w'
                                      go_simp
                                      with_reducible rfl
                                    rotate_left
                                    · simp only [Act.put, List.setIfInBounds_toArray, List.set_cons_zero, List.set_cons_succ, i64_w, i32_w]
                                      rfl
                                    refine pure_ (i := 4) (N := some 97) (v := ?_) (a' := ?_) #[true, true, true, true, true, false, false, false, false, false] rfl rfl (any_of HT_.out (by kernel_rfl)) (fun _ _ _ h => h) (Or.inl ⟨by rfl, ?_⟩) ?_ ?_
                                    rotate_left
                                    · intro w'
                                      go_simp
                                      with_reducible rfl
                                    rotate_left
                                    · simp only [Act.put, List.setIfInBounds_toArray, List.set_cons_zero, List.set_cons_succ, i64_w, i32_w]
                                      rfl
                                    refine pure_ (i := 6) (N := some 99) (v := ?_) (a' := ?_) #[true, true, true, true, true, false, true, false, false, false] rfl rfl (any_of HT_.out (by kernel_rfl)) (fun _ _ _ h => h) (Or.inl ⟨by rfl, ?_⟩) ?_ ?_
                                    rotate_left
                                    · intro w'
                                      go_simp
                                      with_reducible rfl
                                    rotate_left
                                    · simp only [Act.put, List.setIfInBounds_toArray, List.set_cons_zero, List.set_cons_succ, i64_w, i32_w]
                                      rfl
                                    refine take_ (i := 5) (N := some 98) (v := ?_) (a' := ?_) #[true, true, true, true, true, true, true, false, false, false] rfl rfl (take_ofW HT_.out HW_.out (by kernel_rfl)) (fun _ _ _ h => h) (Or.inl ⟨by rfl, ?_⟩) hHeld ?_ ?_
                                    rotate_left
                                    · rintro w' ⟨s0, s1, s2, s3⟩
                                      go_simp
                                      with_reducible rfl
                                    rotate_left
                                    · simp only [Act.put, List.setIfInBounds_toArray, List.set_cons_zero, List.set_cons_succ, i64_w, i32_w]
                                      rfl
                                    refine one_ (i := 7) (N := some 100) #[true, true, true, true, true, true, true, true, false, false] rfl rfl (one_of HT_.out (by kernel_rfl)) (by decide) (fun K hK => ?_)
                                    refine goes_ Tryd.func42 (by kernel_rfl) rfl #[.string t318] (by rfl) rfl rfl (by (try simp only [List.map_toArray, List.map_cons, List.map_nil]); first | done | rfl | (simp only [List.length_drop, List.length_take]; rfl)) ?_
                                    with_reducible refine (spec_RateRead.calls kj44 t318 t327 t328 _ A77.out).mono ?_
                                    rintro e w81 ⟨rfl, hb⟩
                                    refine ⟨_, rfl, ?_⟩
                                    have n0_ := Aside0.mk (blk_below (g := gb301) (o := .cells #[.int .i64 t299, .int .i64 t300] 50 (0, 0)) (by (with_reducible repeat (first | refine blk_drewN ?_ _ | refine blk_drew ?_ | refine blk_alloc ?_ _)); exact BK301.out) hb)
                                    have n1_ := Aside0.mk (blk_below (g := gb321) (o := .cells #[.int .i64 t319, .int .i64 t320] 50 (0, 0)) (by (with_reducible repeat (first | refine blk_drewN ?_ _ | refine blk_drew ?_ | refine blk_alloc ?_ _)); exact BK321.out) hb)
                                    have n2_ := Aside0.mk (blk_below (g := gb324) (o := .cells #[.int .i64 t322, .int .i64 t323] 50 (0, 0)) (by (with_reducible repeat (first | refine blk_drewN ?_ _ | refine blk_drew ?_ | refine blk_alloc ?_ _)); exact BK324.out) hb)
                                    have n3_ := Aside0.mk (below_step (by repeat (first | (with_reducible first | exact HB.out | apply below_alloc | apply pw_below_drewN | apply below_drew1 | refine below_set ?_ GE301.out | refine below_set ?_ GE321.out | refine below_set ?_ GE324.out) | exact HB.out)) hb)
                                    clear BK301
                                    clear BK321
                                    clear BK324
                                    clear HB
                                    have BK301 := n0_
                                    have BK321 := n1_
                                    have BK324 := n2_
                                    have HB := n3_
                                    clear n0_ n1_ n2_ n3_
                                    (try clear hb)
                                    (try clear hb2)
                                    (try clear hk)
                                    (try clear hi)
                                    refine hK.out _ _ ⟨(blk_cell BK321.out 0).trans rfl, (blk_cell BK321.out 1).trans rfl, (blk_cell BK324.out 0).trans rfl, (blk_cell BK324.out 1).trans rfl⟩ (fun hHeld => ?_)
                                    clear hK K
                                    refine norm_ (a' := ?_) ?_ ?_
                                    rotate_left
                                    · show Act.put _ (some 100) _ = _
                                      simp only [Act.put, List.setIfInBounds_toArray, List.set_cons_zero, List.set_cons_succ, i64_w, i32_w]
                                      rfl
                                    refine pure_ (i := 8) (N := some 101) (v := ?_) (a' := ?_) #[true, true, true, true, true, true, true, true, true, false] rfl rfl (any_of HT_.out (by kernel_rfl)) (fun _ _ _ h => h) (Or.inl ⟨by rfl, ?_⟩) ?_ ?_
                                    rotate_left
                                    · intro w'
                                      go_simp
                                      with_reducible rfl
                                    rotate_left
                                    · simp only [Act.put, List.setIfInBounds_toArray, List.set_cons_zero, List.set_cons_succ, i64_w, i32_w]
                                      rfl
                                    refine pure_ (i := 9) (N := some 102) (v := ?_) (a' := ?_) #[true, true, true, true, true, true, true, true, true, true] rfl rfl (any_of HT_.out (by kernel_rfl)) (fun _ _ _ h => h) (Or.inl ⟨by rfl, ?_⟩) ?_ ?_
                                    rotate_left
                                    · intro w'
                                      go_simp
                                      with_reducible rfl
                                    rotate_left
                                    · simp only [Act.put, List.setIfInBounds_toArray, List.set_cons_zero, List.set_cons_succ, i64_w, i32_w]
                                      rfl
                                    refine done_ (done_of HT_.out (by kernel_rfl)) ?_
                                    try go_wp2
                                    go_meet
                                    case rel => exact ⟨_, ((!(t322 == t327) || (!(t323 == t328)))), (by first | rfl | (simp; done) | (simp [*]; done)), H', ⟨by have := HJ2.out; have := HJ7.out; have := HJ23.out; have := HJ35.out; have := HJ44.out; first | omega | exact Nat.le_refl _⟩, ⟨by (with_reducible repeat (first | refine blk_drewN ?_ _ | refine blk_drew ?_ | refine blk_alloc ?_ _)); exact BK301.out⟩, ⟨by (with_reducible repeat (first | refine blk_drewN ?_ _ | refine blk_drew ?_ | refine blk_alloc ?_ _)); exact BK321.out⟩, ⟨by (with_reducible repeat (first | refine blk_drewN ?_ _ | refine blk_drew ?_ | refine blk_alloc ?_ _)); exact BK324.out⟩, ⟨by repeat (first | (with_reducible first | exact HB.out | apply below_alloc | apply pw_below_drewN | apply below_drew1 | refine below_set ?_ GE301.out | refine below_set ?_ GE321.out | refine below_set ?_ GE324.out) | exact HB.out)⟩⟩
                                case rest =>
                                  clear HC60
                                  try clear c1
                                  try clear c2
                                  try clear p2
                                  try clear c3
                                  try clear c4
                                  try clear c4b0
                                  try clear c4b1
                                  try clear c5
                                  try clear c6
                                  try clear p6
                                  try clear c7
                                  try clear c13
                                  try clear c14
                                  try clear c14b0
                                  try clear c17
                                  try clear c23
                                  try clear c25
                                  try clear c25b0
                                  try clear c25b1
                                  try clear c26
                                  try clear c26b0
                                  try clear c26b1
                                  try clear c29
                                  try clear c29b0
                                  try clear c29b1
                                  try clear c35
                                  try clear c38
                                  try clear c42
                                  try clear c43
                                  try clear c44
                                  try clear c45
                                  try clear c48
                                  try clear c48b0
                                  try clear c48b1
                                  try clear c49
                                  try clear c50
                                  try clear c51
                                  try clear c52
                                  try clear c53
                                  try clear c55
                                  try clear c65
                                  try clear c69
                                  try clear c70
                                  try clear c73
                                  try clear c73b0
                                  try clear hcz12_0
                                  try clear hcz12_1
                                  try clear hcz27_0
                                  try clear hcz27_1
                                  try clear hcz30_0
                                  try clear hcz30_1
                                  try clear hcz32_0
                                  try clear hcz32_1
                                  try clear hcz34_0
                                  try clear hcz34_1
                                  try clear hcz66_0
                                  try clear hcz66_1
                                  try clear hcz71_0
                                  try clear hcz71_1
                                  try clear hfz12_0
                                  try clear hfz12_1
                                  try clear hfz27_0
                                  try clear hfz27_1
                                  try clear hfz30_0
                                  try clear hfz30_1
                                  try clear hfz32_0
                                  try clear hfz32_1
                                  try clear hfz34_0
                                  try clear hfz34_1
                                  try clear hfz66_0
                                  try clear hfz66_1
                                  try clear hfz71_0
                                  try clear hfz71_1
                                  try clear p2
                                  try clear p6
                                  obtain ⟨kq, x102_59, rfl, HA, HJ59, BK301, BK321, BK324, HB⟩ := hcut
                                  cases kq with
                                  | zero => exact absurd HA.out (by simp [laws_FnMoney.j5])
                                  | succ kj59 =>
                                    have H := HA.out
                                    clear HA
                                    simp only [laws_FnMoney.j5] at H
                                    by_cases c82 : x102_59 = true
                                    · subst c82
                                      have H1 : (none) = some r := by rw [if_pos rfl] at H; exact H
                                      clear H
                                      have H := H1
                                      clear H1
                                      exact absurd H (by simp)
                                    · replace c82 := Bool.eq_false_iff.mpr c82
                                      subst c82
                                      have H1 : (if t320 = 0 then ((impl_MoneyText.f t319).bind fun t329 => (if t329.toList = t317.toList then (if t323 = 0 then ((impl_RateText.f t322).bind fun t330 => (some (t330.toList == t318.toList))) else (some true)) else (none))) else (if t323 = 0 then ((impl_RateText.f t322).bind fun t331 => (some (t331.toList == t318.toList))) else (some true))) = some r := by rw [if_neg (show ¬ (false = true) by decide)] at H; exact H
                                      clear H
                                      have H := H1
                                      clear H1
                                      by_cases c83 : t320 = 0
                                      · rw [if_pos c83] at H
                                        have c83b0 : (t320 == 0) = true := beq_iff_eq.mpr c83
                                        have c83b1 : (t320 != 0) = false := bne_eq_false_iff_eq.mpr c83
                                        clear c83
                                        replace H := Option.bind_eq_some_iff.mp H
                                        obtain ⟨t329, A840, H⟩ := H
                                        replace H : (if t329.toList = t317.toList then (if t323 = 0 then ((impl_RateText.f t322).bind fun t330 => (some (t330.toList == t318.toList))) else (some true)) else (none)) = some r := H
                                        have A84 := Aside0.mk A840
                                        clear A840
                                        by_cases c85 : t329.toList = t317.toList
                                        · rw [if_pos c85] at H
                                          have c85b0 : (t329.toList == t317.toList) = true := beq_iff_eq.mpr c85
                                          have c85b1 : (t329.toList != t317.toList) = false := bne_eq_false_iff_eq.mpr c85
                                          clear c85
                                          by_cases c86 : t323 = 0
                                          · rw [if_pos c86] at H
                                            have c86b0 : (t323 == 0) = true := beq_iff_eq.mpr c86
                                            have c86b1 : (t323 != 0) = false := bne_eq_false_iff_eq.mpr c86
                                            clear c86
                                            replace H := Option.bind_eq_some_iff.mp H
                                            obtain ⟨t330, A870, H⟩ := H
                                            replace H : (some (t330.toList == t318.toList)) = some r := H
                                            have A87 := Aside0.mk A870
                                            clear A870
                                            obtain rfl := Option.some.inj H
                                            have hnb88 := NB321_301.out
                                            have hnc88 := NB301_321.out
                                            have hnb89 := NB321_324.out
                                            have hnc89 := NB324_321.out
                                            have hcz90_0 : wc.cell? ⟨gb321, 0, none⟩ = some (.int .i64 t319) := (blk_cell BK321.out 0).trans rfl
                                            have hcz90_1 : wc.cell? ⟨gb321, 1, none⟩ = some (.int .i64 t320) := (blk_cell BK321.out 1).trans rfl
                                            have hfz90_0 := blk_frozen BK321.out 0
                                            have hfz90_1 := blk_frozen BK321.out 1
                                            go_wp2_with (first | (go_at_call 25; (with_reducible refine (impl_MoneyText.calls t319 t329 _ ?side1 A84.out).mono ?_); (case side1 => exact Sh.below HSH.out (by repeat (first | (with_reducible first | exact HB.out | apply below_alloc | apply pw_below_drewN | apply below_drew1 | refine below_set ?_ GE301.out | refine below_set ?_ GE321.out | refine below_set ?_ GE324.out) | exact HB.out))); rintro e w91 ⟨rfl, hb⟩; have n0_ := Aside0.mk (blk_below (g := gb301) (o := .cells #[.int .i64 t299, .int .i64 t300] 50 (0, 0)) (by (with_reducible repeat (first | refine blk_drewN ?_ _ | refine blk_drew ?_ | refine blk_alloc ?_ _)); exact BK301.out) hb); have n1_ := Aside0.mk (blk_below (g := gb321) (o := .cells #[.int .i64 t319, .int .i64 t320] 50 (0, 0)) (by (with_reducible repeat (first | refine blk_drewN ?_ _ | refine blk_drew ?_ | refine blk_alloc ?_ _)); exact BK321.out) hb); have n2_ := Aside0.mk (blk_below (g := gb324) (o := .cells #[.int .i64 t322, .int .i64 t323] 50 (0, 0)) (by (with_reducible repeat (first | refine blk_drewN ?_ _ | refine blk_drew ?_ | refine blk_alloc ?_ _)); exact BK324.out) hb); have n3_ := Aside0.mk (below_step (by repeat (first | (with_reducible first | exact HB.out | apply below_alloc | apply pw_below_drewN | apply below_drew1 | refine below_set ?_ GE301.out | refine below_set ?_ GE321.out | refine below_set ?_ GE324.out) | exact HB.out)) hb); clear BK301; clear BK321; clear BK324; clear HB; have BK301 := n0_; have BK321 := n1_; have BK324 := n2_; have HB := n3_; clear n0_ n1_ n2_ n3_; (try clear hb); (try clear hb2); (try clear hk); (try clear hi); have hnb92 := NB324_301.out; have hnc92 := NB301_324.out; have hcz93_0 : w91.cell? ⟨gb324, 0, none⟩ = some (.int .i64 t322) := (blk_cell BK324.out 0).trans rfl; have hcz93_1 : w91.cell? ⟨gb324, 1, none⟩ = some (.int .i64 t323) := (blk_cell BK324.out 1).trans rfl; have hfz93_0 := blk_frozen BK324.out 0; have hfz93_1 := blk_frozen BK324.out 1) | (go_at_call 18; (with_reducible refine (impl_RateText.calls t322 t330 _ ?side1 A87.out).mono ?_); (case side1 => exact Sh.below HSH.out (by repeat (first | (with_reducible first | exact HB.out | apply below_alloc | apply pw_below_drewN | apply below_drew1 | refine below_set ?_ GE301.out | refine below_set ?_ GE321.out | refine below_set ?_ GE324.out) | exact HB.out))); rintro e w94 ⟨rfl, hb⟩; have n0_ := Aside0.mk (blk_below (g := gb301) (o := .cells #[.int .i64 t299, .int .i64 t300] 50 (0, 0)) (by (with_reducible repeat (first | refine blk_drewN ?_ _ | refine blk_drew ?_ | refine blk_alloc ?_ _)); exact BK301.out) hb); have n1_ := Aside0.mk (blk_below (g := gb321) (o := .cells #[.int .i64 t319, .int .i64 t320] 50 (0, 0)) (by (with_reducible repeat (first | refine blk_drewN ?_ _ | refine blk_drew ?_ | refine blk_alloc ?_ _)); exact BK321.out) hb); have n2_ := Aside0.mk (blk_below (g := gb324) (o := .cells #[.int .i64 t322, .int .i64 t323] 50 (0, 0)) (by (with_reducible repeat (first | refine blk_drewN ?_ _ | refine blk_drew ?_ | refine blk_alloc ?_ _)); exact BK324.out) hb); have n3_ := Aside0.mk (below_step (by repeat (first | (with_reducible first | exact HB.out | apply below_alloc | apply pw_below_drewN | apply below_drew1 | refine below_set ?_ GE301.out | refine below_set ?_ GE321.out | refine below_set ?_ GE324.out) | exact HB.out)) hb); clear BK301; clear BK321; clear BK324; clear HB; have BK301 := n0_; have BK321 := n1_; have BK324 := n2_; have HB := n3_; clear n0_ n1_ n2_ n3_; (try clear hb); (try clear hb2); (try clear hk); (try clear hi)))
                                            go_ret
                                            exact ⟨by first | rfl | (simp [errW_none, errW_some] <;> rfl) | (simp [*, errW_none, errW_some] <;> rfl), by repeat (first | (with_reducible first | exact HB.out | apply below_alloc | apply pw_below_drewN | apply below_drew1 | refine below_set ?_ GE301.out | refine below_set ?_ GE321.out | refine below_set ?_ GE324.out) | exact HB.out)⟩
                                          · rw [if_neg c86] at H
                                            have c86b0 : (t323 == 0) = false := beq_eq_false_iff_ne.mpr c86
                                            have c86b1 : (t323 != 0) = true := bne_iff_ne.mpr c86
                                            obtain rfl := Option.some.inj H
                                            have hnb95 := NB321_301.out
                                            have hnc95 := NB301_321.out
                                            have hnb96 := NB321_324.out
                                            have hnc96 := NB324_321.out
                                            have hcz97_0 : wc.cell? ⟨gb321, 0, none⟩ = some (.int .i64 t319) := (blk_cell BK321.out 0).trans rfl
                                            have hcz97_1 : wc.cell? ⟨gb321, 1, none⟩ = some (.int .i64 t320) := (blk_cell BK321.out 1).trans rfl
                                            have hfz97_0 := blk_frozen BK321.out 0
                                            have hfz97_1 := blk_frozen BK321.out 1
                                            go_wp2_with (first | (go_at_call 25; (with_reducible refine (impl_MoneyText.calls t319 t329 _ ?side1 A84.out).mono ?_); (case side1 => exact Sh.below HSH.out (by repeat (first | (with_reducible first | exact HB.out | apply below_alloc | apply pw_below_drewN | apply below_drew1 | refine below_set ?_ GE301.out | refine below_set ?_ GE321.out | refine below_set ?_ GE324.out) | exact HB.out))); rintro e w98 ⟨rfl, hb⟩; have n0_ := Aside0.mk (blk_below (g := gb301) (o := .cells #[.int .i64 t299, .int .i64 t300] 50 (0, 0)) (by (with_reducible repeat (first | refine blk_drewN ?_ _ | refine blk_drew ?_ | refine blk_alloc ?_ _)); exact BK301.out) hb); have n1_ := Aside0.mk (blk_below (g := gb321) (o := .cells #[.int .i64 t319, .int .i64 t320] 50 (0, 0)) (by (with_reducible repeat (first | refine blk_drewN ?_ _ | refine blk_drew ?_ | refine blk_alloc ?_ _)); exact BK321.out) hb); have n2_ := Aside0.mk (blk_below (g := gb324) (o := .cells #[.int .i64 t322, .int .i64 t323] 50 (0, 0)) (by (with_reducible repeat (first | refine blk_drewN ?_ _ | refine blk_drew ?_ | refine blk_alloc ?_ _)); exact BK324.out) hb); have n3_ := Aside0.mk (below_step (by repeat (first | (with_reducible first | exact HB.out | apply below_alloc | apply pw_below_drewN | apply below_drew1 | refine below_set ?_ GE301.out | refine below_set ?_ GE321.out | refine below_set ?_ GE324.out) | exact HB.out)) hb); clear BK301; clear BK321; clear BK324; clear HB; have BK301 := n0_; have BK321 := n1_; have BK324 := n2_; have HB := n3_; clear n0_ n1_ n2_ n3_; (try clear hb); (try clear hb2); (try clear hk); (try clear hi); have hnb99 := NB324_301.out; have hnc99 := NB301_324.out; have hcz100_0 : w98.cell? ⟨gb324, 0, none⟩ = some (.int .i64 t322) := (blk_cell BK324.out 0).trans rfl; have hcz100_1 : w98.cell? ⟨gb324, 1, none⟩ = some (.int .i64 t323) := (blk_cell BK324.out 1).trans rfl; have hfz100_0 := blk_frozen BK324.out 0; have hfz100_1 := blk_frozen BK324.out 1))
                                            go_ret
                                            exact ⟨by first | rfl | (simp [errW_none, errW_some] <;> rfl) | (simp [*, errW_none, errW_some] <;> rfl), by repeat (first | (with_reducible first | exact HB.out | apply below_alloc | apply pw_below_drewN | apply below_drew1 | refine below_set ?_ GE301.out | refine below_set ?_ GE321.out | refine below_set ?_ GE324.out) | exact HB.out)⟩
                                        · rw [if_neg c85] at H
                                          exact absurd H (by simp)
                                      · rw [if_neg c83] at H
                                        have c83b0 : (t320 == 0) = false := beq_eq_false_iff_ne.mpr c83
                                        have c83b1 : (t320 != 0) = true := bne_iff_ne.mpr c83
                                        by_cases c101 : t323 = 0
                                        · rw [if_pos c101] at H
                                          have c101b0 : (t323 == 0) = true := beq_iff_eq.mpr c101
                                          have c101b1 : (t323 != 0) = false := bne_eq_false_iff_eq.mpr c101
                                          clear c101
                                          replace H := Option.bind_eq_some_iff.mp H
                                          obtain ⟨t331, A1020, H⟩ := H
                                          replace H : (some (t331.toList == t318.toList)) = some r := H
                                          have A102 := Aside0.mk A1020
                                          clear A1020
                                          obtain rfl := Option.some.inj H
                                          have hnb103 := NB321_301.out
                                          have hnc103 := NB301_321.out
                                          have hnb104 := NB321_324.out
                                          have hnc104 := NB324_321.out
                                          have hcz105_0 : wc.cell? ⟨gb321, 0, none⟩ = some (.int .i64 t319) := (blk_cell BK321.out 0).trans rfl
                                          have hcz105_1 : wc.cell? ⟨gb321, 1, none⟩ = some (.int .i64 t320) := (blk_cell BK321.out 1).trans rfl
                                          have hfz105_0 := blk_frozen BK321.out 0
                                          have hfz105_1 := blk_frozen BK321.out 1
                                          have hnb106 := NB324_301.out
                                          have hnc106 := NB301_324.out
                                          have hcz107_0 : wc.cell? ⟨gb324, 0, none⟩ = some (.int .i64 t322) := (blk_cell BK324.out 0).trans rfl
                                          have hcz107_1 : wc.cell? ⟨gb324, 1, none⟩ = some (.int .i64 t323) := (blk_cell BK324.out 1).trans rfl
                                          have hfz107_0 := blk_frozen BK324.out 0
                                          have hfz107_1 := blk_frozen BK324.out 1
                                          go_wp2_with (first | (go_at_call 18; (with_reducible refine (impl_RateText.calls t322 t331 _ ?side1 A102.out).mono ?_); (case side1 => exact Sh.below HSH.out (by repeat (first | (with_reducible first | exact HB.out | apply below_alloc | apply pw_below_drewN | apply below_drew1 | refine below_set ?_ GE301.out | refine below_set ?_ GE321.out | refine below_set ?_ GE324.out) | exact HB.out))); rintro e w108 ⟨rfl, hb⟩; have n0_ := Aside0.mk (blk_below (g := gb301) (o := .cells #[.int .i64 t299, .int .i64 t300] 50 (0, 0)) (by (with_reducible repeat (first | refine blk_drewN ?_ _ | refine blk_drew ?_ | refine blk_alloc ?_ _)); exact BK301.out) hb); have n1_ := Aside0.mk (blk_below (g := gb321) (o := .cells #[.int .i64 t319, .int .i64 t320] 50 (0, 0)) (by (with_reducible repeat (first | refine blk_drewN ?_ _ | refine blk_drew ?_ | refine blk_alloc ?_ _)); exact BK321.out) hb); have n2_ := Aside0.mk (blk_below (g := gb324) (o := .cells #[.int .i64 t322, .int .i64 t323] 50 (0, 0)) (by (with_reducible repeat (first | refine blk_drewN ?_ _ | refine blk_drew ?_ | refine blk_alloc ?_ _)); exact BK324.out) hb); have n3_ := Aside0.mk (below_step (by repeat (first | (with_reducible first | exact HB.out | apply below_alloc | apply pw_below_drewN | apply below_drew1 | refine below_set ?_ GE301.out | refine below_set ?_ GE321.out | refine below_set ?_ GE324.out) | exact HB.out)) hb); clear BK301; clear BK321; clear BK324; clear HB; have BK301 := n0_; have BK321 := n1_; have BK324 := n2_; have HB := n3_; clear n0_ n1_ n2_ n3_; (try clear hb); (try clear hb2); (try clear hk); (try clear hi)))
                                          go_ret
                                          exact ⟨by first | rfl | (simp [errW_none, errW_some] <;> rfl) | (simp [*, errW_none, errW_some] <;> rfl), by repeat (first | (with_reducible first | exact HB.out | apply below_alloc | apply pw_below_drewN | apply below_drew1 | refine below_set ?_ GE301.out | refine below_set ?_ GE321.out | refine below_set ?_ GE324.out) | exact HB.out)⟩
                                        · rw [if_neg c101] at H
                                          have c101b0 : (t323 == 0) = false := beq_eq_false_iff_ne.mpr c101
                                          have c101b1 : (t323 != 0) = true := bne_iff_ne.mpr c101
                                          obtain rfl := Option.some.inj H
                                          have hnb109 := NB321_301.out
                                          have hnc109 := NB301_321.out
                                          have hnb110 := NB321_324.out
                                          have hnc110 := NB324_321.out
                                          have hcz111_0 : wc.cell? ⟨gb321, 0, none⟩ = some (.int .i64 t319) := (blk_cell BK321.out 0).trans rfl
                                          have hcz111_1 : wc.cell? ⟨gb321, 1, none⟩ = some (.int .i64 t320) := (blk_cell BK321.out 1).trans rfl
                                          have hfz111_0 := blk_frozen BK321.out 0
                                          have hfz111_1 := blk_frozen BK321.out 1
                                          have hnb112 := NB324_301.out
                                          have hnc112 := NB301_324.out
                                          have hcz113_0 : wc.cell? ⟨gb324, 0, none⟩ = some (.int .i64 t322) := (blk_cell BK324.out 0).trans rfl
                                          have hcz113_1 : wc.cell? ⟨gb324, 1, none⟩ = some (.int .i64 t323) := (blk_cell BK324.out 1).trans rfl
                                          have hfz113_0 := blk_frozen BK324.out 0
                                          have hfz113_1 := blk_frozen BK324.out 1
                                          go_wp2
                                          go_ret
                                          exact ⟨by first | rfl | (simp [errW_none, errW_some] <;> rfl) | (simp [*, errW_none, errW_some] <;> rfl), by repeat (first | (with_reducible first | exact HB.out | apply below_alloc | apply pw_below_drewN | apply below_drew1 | refine below_set ?_ GE301.out | refine below_set ?_ GE321.out | refine below_set ?_ GE324.out) | exact HB.out)⟩

def laws_FnMoney.Pure : Prop := ∀ (l0 : List Int) (l1 : List Int), (l0.length ≤ maxLen ∧ ∀ x ∈ l0, (Lit.int .u8 x).wf = true) → (l1.length ≤ maxLen ∧ ∀ x ∈ l1, (Lit.int .u8 x).wf = true) → ∃ k, laws_FnMoney.f k l0 l1 = some true

end Go.Proofs.YtabmljlpmnlbpaaDoor.PFnMoney
