-- laid by seedprint.py, a program of this session, over contracts that it gives by hand; Lean checks it
-- dented
import Derived.Test.YtodokfmmnihecaaGreatDoorQMin
import Derived.Test.YtodokfmmnihecaaGreatDoorQAut
import Derived.Test.YtodokfmmnihecaaGreatDoorQBlk
import Derived.Test.YtodokfmmnihecaaGreatDoorPFnExactEnvRightx0
import Derived.Test.YtodokfmmnihecaaGreatDoorPFnExactEnvRightx11
namespace Go.Proofs.YtodokfmmnihecaaGreatDoor.PFnExactEnvRight
open Go.RowKit Go.Proofs.YtodokfmmnihecaaGreatDoorW.PrintWords Go.Proofs.YtodokfmmnihecaaGreatDoorW.PrintLast Go.Proofs.YtodokfmmnihecaaGreatDoorW.PrintMore
attribute [local go_sem] max2_int min2_int max_two min_two max_three min_three max_four min_four   -- for this text's walks alone
set_option maxHeartbeats 8000000
set_option maxRecDepth 100000
set_option linter.unusedVariables false
set_option linter.unusedSimpArgs false

/-! ### impl_growTree: function 164 -/
mutual
def impl_growTree.j0 : Nat → List (S73) → Int → Int → Bool → Option (Int × ByteArray × ByteArray × Int × Int × Int × (List (S161)) × Int × Int × Bool)
 | 0, _, _, _, _ => none
 | k + 1, x0, x1, x2, x29 => if x29 = true then (some (0, (⟨#[]⟩ : ByteArray), (⟨#[]⟩ : ByteArray), 0, 0, 0, ([] : List (S161)), 0, 0, false)) else (if 0 ≤ x1 then (if x1 < (x0.length : Int) then (impl_growTree.l0 k x0 (wrap64 (x1 + 1)) x2 ((rd_T73 x0 x1).f4) 0 ((rd_T73 x0 x1).f0) ((rd_T73 x0 x1).f1) ((rd_T73 x0 x1).f2) ((rd_T73 x0 x1).f3) ((rd_T73 x0 x1).f4) x1 ([] : List (S161)) 1) else (none)) else (none))
def impl_growTree.l0 : Nat → List (S73) → Int → Int → Int → Int → Int → ByteArray → ByteArray → Int → Int → Int → List (S161) → Int → Option (Int × ByteArray × ByteArray × Int × Int × Int × (List (S161)) × Int × Int × Bool)
 | 0, _, _, _, _, _, _, _, _, _, _, _, _, _ => none
 | k + 1, x0, x1, x2, x41, x42, x301000, x301001, x301002, x301003, x301004, x301005, x301006, x301007 => if x42 < x41 then ((impl_growTree.f k x0 x1 (wrap64 (x2 + 1))).bind fun bt301 => (if bt301.2.2.2.2.2.2.2.2.2 = true then (if x301006.length < 1466015503701 then (impl_growTree.l0 k x0 bt301.2.2.2.2.2.2.2.2.1 x2 x41 (wrap64 (x42 + 1)) x301000 x301001 x301002 x301003 x301004 x301005 (x301006 ++ [(⟨(⟨bt301.1, bt301.2.1, bt301.2.2.1, bt301.2.2.2.1, bt301.2.2.2.2.1⟩ : S73), bt301.2.2.2.2.2.1, bt301.2.2.2.2.2.2.1, bt301.2.2.2.2.2.2.2.1⟩ : S161)]) (mx x301007 (wrap64 (bt301.2.2.2.2.2.2.2.1 + 1)))) else (none)) else (some (0, (⟨#[]⟩ : ByteArray), (⟨#[]⟩ : ByteArray), 0, 0, 0, ([] : List (S161)), 0, 0, false)))) else (some (x301000, x301001, x301002, x301003, x301004, x301005, x301006, x301007, x1, true))
def impl_growTree.f : Nat → List (S73) → Int → Int → Option (Int × ByteArray × ByteArray × Int × Int × Int × (List (S161)) × Int × Int × Bool)
 | 0, _, _, _ => none
 | k + 1, l0, a1, a2 => if a1 ≥ (l0.length : Int) then (impl_growTree.j0 k l0 a1 a2 true) else (if a2 > 20 then (impl_growTree.j0 k l0 a1 a2 true) else (if 0 ≤ a1 then (if a1 < (l0.length : Int) then ((impl_in.f ((rd_T73 l0 a1).f4) 0 150).bind fun t298 => (impl_growTree.j0 k l0 a1 a2 (!t298))) else (none)) else (none)))
end
theorem impl_growTree.mono_l : ∀ k, (∀ y0 y1 y2, LeO (impl_growTree.f k y0 y1 y2) (impl_growTree.f (k + 1) y0 y1 y2)) ∧ (∀ y0 y1 y2 y3, LeO (impl_growTree.j0 k y0 y1 y2 y3) (impl_growTree.j0 (k + 1) y0 y1 y2 y3)) ∧ (∀ y0 y1 y2 y3 y4 y5 y6 y7 y8 y9 y10 y11 y12, LeO (impl_growTree.l0 k y0 y1 y2 y3 y4 y5 y6 y7 y8 y9 y10 y11 y12) (impl_growTree.l0 (k + 1) y0 y1 y2 y3 y4 y5 y6 y7 y8 y9 y10 y11 y12))
 | 0 => ⟨fun _ _ _ r h => by simp [impl_growTree.f] at h, fun _ _ _ _ r h => by simp [impl_growTree.j0] at h, fun _ _ _ _ _ _ _ _ _ _ _ _ _ r h => by simp [impl_growTree.l0] at h⟩
 | k + 1 => by
  obtain ⟨ih0, ih1, ih2⟩ := impl_growTree.mono_l k
  refine ⟨?_, ?_, ?_⟩
  ·intro y0 y1 y2
   unfold impl_growTree.f
   repeat' (with_reducible first | exact ih0 .. | exact ih1 .. | exact ih2 .. | exact LeO.refl _ | exact LeO.none _ | refine LeO.ite ?_ ?_ | refine LeO.bind ?_ (fun _ => ?_))
  ·intro y0 y1 y2 y3
   unfold impl_growTree.j0
   repeat' (with_reducible first | exact ih0 .. | exact ih1 .. | exact ih2 .. | exact LeO.refl _ | exact LeO.none _ | refine LeO.ite ?_ ?_ | refine LeO.bind ?_ (fun _ => ?_))
  intro y0 y1 y2 y3 y4 y5 y6 y7 y8 y9 y10 y11 y12
  unfold impl_growTree.l0
  repeat' (with_reducible first | exact ih0 .. | exact ih1 .. | exact ih2 .. | exact LeO.refl _ | exact LeO.none _ | refine LeO.ite ?_ ?_ | refine LeO.bind ?_ (fun _ => ?_))
theorem impl_growTree.mono : ∀ a0 a1 a2 k, LeO (impl_growTree.f k a0 a1 a2) (impl_growTree.f (k + 1) a0 a1 a2) := by
 intro a0 a1 a2 k
 obtain ⟨ih0, ih1, ih2⟩ := impl_growTree.mono_l k
 exact ih0 a0 a1 a2
theorem impl_growTree.calls (k : Nat) : ∀ (A0 : Option Addr) (c0 : Nat) (l0 : List (S73)) (a1 : Int) (a2 : Int) (r1 : Int) (r2 : ByteArray) (r3 : ByteArray) (r4 : Int) (r5 : Int) (r6 : Int) (r7 : List (S161)) (r8 : Int) (r9 : Int) (r10 : Bool) (w : World) (hr0 : Kd.C k73 w A0 l0.length l0) (hc0 : l0.length ≤ c0) (h : impl_growTree.f k l0 a1 a2 = some (r1, r2, r3, r4, r5, r6, r7, r8, r9, r10)),
  Calls Tryz.prog 164 #[.slice A0 l0.length c0, .int .i64 a1, .int .i64 a2] w fun e w' => ∃ v6_ : Value, e = .returned (.tuple #[.agg #[.int .i64 r1, .string r2, .string r3, .int .i64 r4, .int .i64 r5, .int .i64 r6, v6_, .int .i64 r8], .int .i64 r9, .bool r10]) ∧ Kd.R k161 161 w' w.heap.size (fun _ => True) v6_ r7 ∧ Below w.heap.size w w' := by
 induction k using Nat.strongRecOn with
 | _ k ih =>
 intro A0 c0 l0 a1 a2 r1 r2 r3 r4 r5 r6 r7 r8 r9 r10 w hr0 hc0 h
 cases k with
 | zero => exact absurd h (by simp [impl_growTree.f])
 | succ k =>
 simp only [impl_growTree.f] at h
 have hu161 := Tryz.underlying161
 have hu73 := Tryz.underlying73
 have HR0 := am hr0
 have HC0 := am hc0
 clear hr0 hc0
 have HB := am (Below.refl w.heap.size w)
 have H : (if a1 ≥ (l0.length : Int) then (impl_growTree.j0 k l0 a1 a2 true) else (if a2 > 20 then (impl_growTree.j0 k l0 a1 a2 true) else (if 0 ≤ a1 then (if a1 < (l0.length : Int) then ((impl_in.f ((rd_T73 l0 a1).f4) 0 150).bind fun t298 => (impl_growTree.j0 k l0 a1 a2 (!t298))) else (none)) else (none)))) = some (r1, r2, r3, r4, r5, r6, r7, r8, r9, r10) := h
 clear h
 have HC4 := am H; clear H
 go_enter Tryz.func164, Tryz.ntmps164
 go_upto_region 1 with (first | (refine bx 6 #[.int .i64 0, .string (⟨#[]⟩ : ByteArray), .string (⟨#[]⟩ : ByteArray), .int .i64 0, .int .i64 0, .int .i64 0, .slice none 0 0, .int .i64 0] 161 ?_; intro gb296 hg w5 hbox hb; have BK296 := am (hbox); have GW296 := am (bsz hg : w.heap.size ≤ gb296); have GE296 := GW296; replace HB := am (below_step bl hb); clear hb hbox hg))
 (try simp only [Act.put, z1, z2, z3])
 go_cut [29] (fun v29 wc => ∃ (kq : Nat) (x29_3 : Bool), v29 = .bool x29_3 ∧ Aside0 (impl_growTree.j0 kq l0 a1 a2 x29_3 = some (r1, r2, r3, r4, r5, r6, r7, r8, r9, r10)) ∧ Aside0 (kq ≤ k) ∧ Aside0 (wc.heap[gb296]? = some (.cells #[.int .i64 0, .string (⟨#[]⟩ : ByteArray), .string (⟨#[]⟩ : ByteArray), .int .i64 0, .int .i64 0, .int .i64 0, (.slice none 0 0), .int .i64 0] 161 (0, 0))) ∧ Aside0 (Below w.heap.size w wc))
 case first =>
  have H := HC4.out
  clear HC4
  revert H; refine iDb (fun c6b0 H => ?_) fun c6b0 H => ?_
  ·(first | rw [c6b0] | (simp only [i64_w, i32_w]; rw [c6b0]) | skip)
   have H' := am H; clear H
   go_wp2
   go_meet
   case rel => exact ⟨_, (true), rs, H', ⟨by first | omega | exact Nat.le_refl _⟩, ⟨bk BK296.out⟩, ⟨bl⟩⟩
  (first | rw [c6b0] | (simp only [i64_w, i32_w]; rw [c6b0]) | skip)
  revert H; refine iDb (fun c7b0 H => ?_) fun c7b0 H => ?_
  ·have H' := am H; clear H
   go_wp2
   go_meet
   case rel => exact ⟨_, (true), rs, H', ⟨by first | omega | exact Nat.le_refl _⟩, ⟨bk BK296.out⟩, ⟨bl⟩⟩
  revert H; refine i1 fun c8b0 H => ?_
  revert H; refine i1 fun c9b0 H => ?_
  replace H := Option.bind_eq_some_iff.mp H
  obtain ⟨t298, A100, H⟩ := H
  replace H : (impl_growTree.j0 k l0 a1 a2 (!t298)) = some (r1, r2, r3, r4, r5, r6, r7, r8, r9, r10) := H
  have A10 := am A100; clear A100
  have H' := am H; clear H
  have p297 : 0 ≤ (a1 : Int) := ode
  have q297 : a1 < (l0.length : Int) := ode
  obtain ⟨ad297, e297, hx297_0, hx297_1, hx297_2, hx297_3, hx297_4⟩ := at_T73 HR0.out a1 p297 q297
  cases e297
  obtain ⟨hx297_0, hx297_1, hx297_2, hx297_3, hx297_4⟩ := hb5 HB.out hx297_0 hx297_1 hx297_2 hx297_3 hx297_4
  replace p297 := eq_true p297
  replace q297 := eq_true q297
  go_wp2_with (first | (go_at_call 66; (with_reducible refine (impl_in.calls _ _ _ _ _ A10.out).mono ?_); rintro e w' ⟨rfl, ⟨nd, rfl⟩⟩))
  go_meet
  case rel => exact ⟨_, (!t298), rs, H', ⟨by first | omega | exact Nat.le_refl _⟩, ⟨bk BK296.out⟩, ⟨bl⟩⟩
 case rest =>
  clear HC4
  obtain ⟨kq, x29_3, rfl, HA, HJ3, BK296, HB⟩ := hcut
  cases kq with
  | zero => exact absurd HA.out (by simp [impl_growTree.j0])
  | succ kj3 =>
   have H := HA.out
   clear HA
   simp only [impl_growTree.j0] at H
   by_cases c11 : x29_3 = true
   ·subst c11
    have H1 : (some (0, (⟨#[]⟩ : ByteArray), (⟨#[]⟩ : ByteArray), 0, 0, 0, ([] : List (S161)), 0, 0, false)) = some (r1, r2, r3, r4, r5, r6, r7, r8, r9, r10) := by rw [if_pos rfl] at H; exact H
    clear H
    have H := H1
    clear H1
    simp only [Option.some.injEq, Prod.mk.injEq] at H
    obtain ⟨rfl, rfl, rfl, rfl, rfl, rfl, rfl, rfl, rfl, rfl⟩ := H
    obtain ⟨z12_0, z12_1, z12_2, z12_3, z12_4, z12_5, z12_6, z12_7, y12_0, y12_1, y12_2, y12_3, y12_4, y12_5, y12_6, y12_7⟩ := blk8 BK296.out
    go_wp2
    refine bodyPost_ret (results_ctt rfl _ _ gb296 161 #[.int .i64 0, .string (⟨#[]⟩ : ByteArray), .string (⟨#[]⟩ : ByteArray), .int .i64 0, .int .i64 0, .int .i64 0, .slice none 0 0, .int .i64 0] (0, 0) _ rfl (bp BK296.out) Tryz.underlying161 rfl (by kernel_rfl)) rfl ?_
    exact ⟨_, er, by first | exact Kd.R_nil _ _ _ _ _ | exact Kd.N_nil _ _ _ _ _ | exact Kd.V_nil _ _ _ _ _ | exact Kd.Q_nil _ _ _ _ _ | exact Kd.S_nil _ _ _ _ _, bl⟩
   replace c11 := Bool.eq_false_iff.mpr c11
   subst c11
   have H1 : (if 0 ≤ a1 then (if a1 < (l0.length : Int) then (impl_growTree.l0 kj3 l0 (wrap64 (a1 + 1)) a2 ((rd_T73 l0 a1).f4) 0 ((rd_T73 l0 a1).f0) ((rd_T73 l0 a1).f1) ((rd_T73 l0 a1).f2) ((rd_T73 l0 a1).f3) ((rd_T73 l0 a1).f4) a1 ([] : List (S161)) 1) else (none)) else (none)) = some (r1, r2, r3, r4, r5, r6, r7, r8, r9, r10) := by rw [if_neg (show ¬ (false = true) by decide)] at H; exact H
   clear H
   have H := H1
   clear H1
   revert H; refine i1 fun c13b0 H => ?_
   revert H; refine i1 fun c14b0 H => ?_
   have H' := am H; clear H
   have p299 : 0 ≤ (a1 : Int) := ode
   have q299 : a1 < (l0.length : Int) := ode
   obtain ⟨ad299, e299, hx299_0, hx299_1, hx299_2, hx299_3, hx299_4⟩ := at_T73 HR0.out a1 p299 q299
   cases e299
   obtain ⟨hx299_0, hx299_1, hx299_2, hx299_3, hx299_4⟩ := hb5 HB.out hx299_0 hx299_1 hx299_2 hx299_3 hx299_4
   replace p299 := eq_true p299
   replace q299 := eq_true q299
   go_wp2_with (first | (refine bx 9 #[.int .i64 0, .string (⟨#[]⟩ : ByteArray), .string (⟨#[]⟩ : ByteArray), .int .i64 0, .int .i64 0, .int .i64 0, .slice none 0 0, .int .i64 0] 161 ?_; intro gb300 hg w15 hbox hb; have BK300 := am (hbox); have GW300 := am (bsz hg : w.heap.size ≤ gb300); have GE300 := GW300; have NB296_300 := am (ne1 hg BK296.out); have NB300_296 := am NB296_300.out.symm; replace BK296 := am (bkb BK296.out hb); replace HB := am (below_step bl hb); clear hb hbox hg; have hnb16 := NB300_296.out; have hnc16 := NB296_300.out; obtain ⟨z17_0, z17_1, z17_2, z17_3, z17_4, z17_5, z17_6, z17_7, y17_0, y17_1, y17_2, y17_3, y17_4, y17_5, y17_6, y17_7⟩ := blk8 BK300.out))
   go_loopg [1, 42] kj3 (fun kq v1 v42 w' => ∃ (x1_2 : Int) (x42_2 : Int) (x297000_2 : Int) (x297001_2 : ByteArray) (x297002_2 : ByteArray) (x297003_2 : Int) (x297004_2 : Int) (x297005_2 : Int) (x297007_2 : Int) (x301006_2 : List (S161)) (x301007_2 : Int) (u301006 : Value), v1 = .int .i64 x1_2 ∧ v42 = .int .i64 x42_2 ∧ Aside0 (impl_growTree.l0 kq l0 x1_2 a2 ((rd_T73 l0 a1).f4) x42_2 ((rd_T73 l0 a1).f0) ((rd_T73 l0 a1).f1) ((rd_T73 l0 a1).f2) ((rd_T73 l0 a1).f3) ((rd_T73 l0 a1).f4) a1 x301006_2 x301007_2 = some (r1, r2, r3, r4, r5, r6, r7, r8, r9, r10)) ∧ Aside0 (kq ≤ kj3) ∧ Aside0 (Kd.R k161 161 w' w.heap.size (fun k_ => k_ ≠ gb296 ∧ k_ ≠ gb300) u301006 x301006_2) ∧ Aside0 (w'.heap[gb296]? = some (.cells #[.int .i64 x297000_2, .string x297001_2, .string x297002_2, .int .i64 x297003_2, .int .i64 x297004_2, .int .i64 x297005_2, (.slice none 0 0), .int .i64 x297007_2] 161 (0, 0))) ∧ Aside0 (w'.heap[gb300]? = some (.cells #[.int .i64 ((rd_T73 l0 a1).f0), .string ((rd_T73 l0 a1).f1), .string ((rd_T73 l0 a1).f2), .int .i64 ((rd_T73 l0 a1).f3), .int .i64 ((rd_T73 l0 a1).f4), .int .i64 a1, u301006, .int .i64 x301007_2] 161 (0, 0))) ∧ Aside0 (Below w.heap.size w w'))
   case atStart => exact ⟨(wrap64 (a1 + 1)), (0), (0), ((⟨#[]⟩ : ByteArray)), ((⟨#[]⟩ : ByteArray)), (0), (0), (0), (0), (([] : List (S161))), (1), (.slice none 0 0), rs, rs, H', ⟨Nat.le_refl _⟩, ⟨by first | exact Kd.R_nil _ _ _ _ _ | exact Kd.N_nil _ _ _ _ _ | exact Kd.V_nil _ _ _ _ _ | exact Kd.Q_nil _ _ _ _ _ | exact Kd.S_nil _ _ _ _ _⟩, ⟨bf BK296.out NB296_300.out⟩, ⟨bp BK300.out⟩, ⟨bl⟩⟩
   case round =>
    clear H'
    try clear c11; try clear c13b0; try clear c14b0; try clear z17_0 z17_1 z17_2 z17_3 z17_4 z17_5 z17_6 z17_7; try clear y17_0 y17_1 y17_2 y17_3 y17_4 y17_5 y17_6 y17_7; try clear hx299_0; try clear hx299_1; try clear hx299_2; try clear hx299_3; try clear hx299_4; try clear p299; try clear q299
    obtain ⟨x1_2, x42_2, x297000_2, x297001_2, x297002_2, x297003_2, x297004_2, x297005_2, x297007_2, x301006_2, x301007_2, u301006, rfl, rfl, HA, HK2, HO_301006, BK296, BK300, HB⟩ := hrel
    cases gk with
    | zero => exact absurd HA.out (by simp [impl_growTree.l0])
    | succ k2 =>
     have H := HA.out
     clear HA
     simp only [impl_growTree.l0] at H
     revert H; refine iDb (fun c18b0 H => ?_) fun c18b0 H => ?_
     ·replace H := Option.bind_eq_some_iff.mp H
      obtain ⟨⟨t301, t302, t303, t304, t305, t306, t307, t310, t311, t312⟩, A190, H⟩ := H
      replace H : (if t312 = true then (if x301006_2.length < 1466015503701 then (impl_growTree.l0 k2 l0 t311 a2 ((rd_T73 l0 a1).f4) (wrap64 (x42_2 + 1)) ((rd_T73 l0 a1).f0) ((rd_T73 l0 a1).f1) ((rd_T73 l0 a1).f2) ((rd_T73 l0 a1).f3) ((rd_T73 l0 a1).f4) a1 (x301006_2 ++ [(⟨(⟨t301, t302, t303, t304, t305⟩ : S73), t306, t307, t310⟩ : S161)]) (mx x301007_2 (wrap64 (t310 + 1)))) else (none)) else (some (0, (⟨#[]⟩ : ByteArray), (⟨#[]⟩ : ByteArray), 0, 0, 0, ([] : List (S161)), 0, 0, false))) = some (r1, r2, r3, r4, r5, r6, r7, r8, r9, r10) := H
      have A19 := am A190; clear A190
      by_cases c20 : t312 = true
      ·subst c20
       have H1 : (if x301006_2.length < 1466015503701 then (impl_growTree.l0 k2 l0 t311 a2 ((rd_T73 l0 a1).f4) (wrap64 (x42_2 + 1)) ((rd_T73 l0 a1).f0) ((rd_T73 l0 a1).f1) ((rd_T73 l0 a1).f2) ((rd_T73 l0 a1).f3) ((rd_T73 l0 a1).f4) a1 (x301006_2 ++ [(⟨(⟨t301, t302, t303, t304, t305⟩ : S73), t306, t307, t310⟩ : S161)]) (mx x301007_2 (wrap64 (t310 + 1)))) else (none)) = some (r1, r2, r3, r4, r5, r6, r7, r8, r9, r10) := by rw [if_pos rfl] at H; exact H
       clear H
       have H := H1
       clear H1
       revert H; refine i0 fun c21 H => ?_
       have LMc21 := am c21; clear c21
       obtain ⟨y314, hy314⟩ : ∃ y_ : List (S161), y_ = (x301006_2 ++ [(⟨(⟨t301, t302, t303, t304, t305⟩ : S73), t306, t307, t310⟩ : S161)]) := ⟨_, rfl⟩
       replace H : (impl_growTree.l0 k2 l0 t311 a2 ((rd_T73 l0 a1).f4) (wrap64 (x42_2 + 1)) ((rd_T73 l0 a1).f0) ((rd_T73 l0 a1).f1) ((rd_T73 l0 a1).f2) ((rd_T73 l0 a1).f3) ((rd_T73 l0 a1).f4) a1 y314 (mx x301007_2 (wrap64 (t310 + 1)))) = some (r1, r2, r3, r4, r5, r6, r7, r8, r9, r10) := by first | (rw [hy314]; with_reducible exact H) | (have H2_ := (Option.bind_some _ _).symm.trans H; rw [hy314]; with_reducible exact H2_) | (have H2_ := (Option.bind_some _ _).symm.trans H; with_reducible exact H2_) | with_reducible exact H | (rw [hy314]; exact H) | exact H
       have Ny314 := am hy314; clear hy314
       obtain ⟨ji22, hji22⟩ : ∃ j_ : Int, (mx x301007_2 (wrap64 (t310 + 1))) = j_ := ⟨_, rfl⟩
       replace H : (impl_growTree.l0 k2 l0 t311 a2 ((rd_T73 l0 a1).f4) (wrap64 (x42_2 + 1)) ((rd_T73 l0 a1).f0) ((rd_T73 l0 a1).f1) ((rd_T73 l0 a1).f2) ((rd_T73 l0 a1).f3) ((rd_T73 l0 a1).f4) a1 y314 ji22) = some (r1, r2, r3, r4, r5, r6, r7, r8, r9, r10) := by first | (rw [hji22] at H; exact H) | (simp only [hji22] at H ⊢; exact H)
       (try rw [hji22] at A19)
       have hji22_ : (if x301007_2 < (wrap64 (t310 + 1)) then (wrap64 (t310 + 1)) else x301007_2) = ji22 := hji22
       have H' := am H; clear H
       try go_wp2_with (first | (refine gc 164 (some 49) Tryz.func164 (ih k2 (by have := HJ3.out; have := HK2.out; omega) _ _ l0 x1_2 (wrap64 (a2 + 1)) t301 t302 t303 t304 t305 t306 t307 t310 t311 true _ ?side1 ?side2 A19.out) ?_; (case side1 => exact cb HR0.out); (case side2 => exact HC0.out); rintro e w23 ⟨v308, rfl, ho0, hb⟩; refine ⟨_, rfl, ?_⟩; have HO309 := am (Kd.R_lower (Kd.R_newB (Kd.R_newB (Kd.R_new' ho0 (Kd.R_lt (kr HO_301006.out))) (g := gb296) (o := .cells #[.int .i64 x297000_2, .string x297001_2, .string x297002_2, .int .i64 x297003_2, .int .i64 x297004_2, .int .i64 x297005_2, .slice none 0 0, .int .i64 x297007_2] 161 (0, 0)) (bk BK296.out)) (g := gb300) (o := .cells #[.int .i64 ((rd_T73 l0 a1).f0), .string ((rd_T73 l0 a1).f1), .string ((rd_T73 l0 a1).f2), .int .i64 ((rd_T73 l0 a1).f3), .int .i64 ((rd_T73 l0 a1).f4), .int .i64 a1, u301006, .int .i64 x301007_2] 161 (0, 0)) (bk BK300.out)) (below_size bl)); replace HO_301006 := am (Kd.R_elder' (kr HO_301006.out) (Kd.R_base ho0) hb); replace BK296 := am (bkb BK296.out hb); replace BK300 := am (bkb BK300.out hb); replace HB := am (below_step bl hb); clear hb ho0) | (refine bx 10 #[.int .i64 0, .string (⟨#[]⟩ : ByteArray), .string (⟨#[]⟩ : ByteArray), .int .i64 0, .int .i64 0, .int .i64 0, .slice none 0 0, .int .i64 0] 161 ?_; intro gb313 hg w24 hbox hb; replace HO_301006 := am (Kd.R_below (Kd.R_elderB (kr HO_301006.out) gb313 (Nat.le_of_eq hg.symm)) hb); replace HO309 := am (Kd.R_below (Kd.R_elderB (kr HO309.out) gb313 (Nat.le_of_eq hg.symm)) hb); have BK313 := am (hbox); have GW313 := am (bsz hg : w.heap.size ≤ gb313); have GE313 := GW313; have NB296_313 := am (ne1 hg BK296.out); have NB313_296 := am NB296_313.out.symm; replace BK296 := am (bkb BK296.out hb); have NB300_313 := am (ne1 hg BK300.out); have NB313_300 := am NB300_313.out.symm; replace BK300 := am (bkb BK300.out hb); replace HB := am (below_step bl hb); clear hb hbox hg; have hnb25 := NB313_296.out; have hnc25 := NB296_313.out; have hnb26 := NB313_300.out; have hnc26 := NB300_313.out; obtain ⟨z27_0, z27_1, z27_2, z27_3, z27_4, z27_5, z27_6, z27_7, y27_0, y27_1, y27_2, y27_3, y27_4, y27_5, y27_6, y27_7⟩ := blk8 BK313.out; obtain ⟨Ao28, co28, eo28⟩ := Kd.R_slice HO309.out; subst eo28))
       have n0_ : Aside0 (Kd.R k161 161 ((((((((w24.setCell ⟨gb313, 0, none⟩ (.int .i64 t301)).setCell ⟨gb313, 1, none⟩ (.string t302)).setCell ⟨gb313, 2, none⟩ (.string t303)).setCell ⟨gb313, 3, none⟩ (.int .i64 t304)).setCell ⟨gb313, 4, none⟩ (.int .i64 t305)).setCell ⟨gb313, 5, none⟩ (.int .i64 t306)).setCell ⟨gb313, 6, none⟩ (.slice Ao28 t307.length co28)).setCell ⟨gb313, 7, none⟩ (.int .i64 t310)) w.heap.size (fun k_ => some k_ ≠ (.slice Ao28 t307.length co28 : Value).ownBlock ∧ k_ ≠ gb296 ∧ k_ ≠ gb300 ∧ k_ ≠ gb313) u301006 x301006_2) := ⟨by (with_reducible repeat (first | apply Kd.R_alloc | apply Kd.R_drewN | apply Kd.R_drew)); exact Kd.R_mono (Kd.R_far (p := ⟨gb313, 7, none⟩) (Kd.R_far (p := ⟨gb313, 6, none⟩) (Kd.R_far (p := ⟨gb313, 5, none⟩) (Kd.R_far (p := ⟨gb313, 4, none⟩) (Kd.R_far (p := ⟨gb313, 3, none⟩) (Kd.R_far (p := ⟨gb313, 2, none⟩) (Kd.R_far (p := ⟨gb313, 1, none⟩) (Kd.R_far (p := ⟨gb313, 0, none⟩) (Kd.R_mono HO_301006.out (fun k_ hk => (⟨hk, hk.2⟩ : _ ∧ k_ ≠ gb313))) (fun _ hk => hk.2) (.int .i64 t301)) (fun _ hk => hk.2) (.string t302)) (fun _ hk => hk.2) (.string t303)) (fun _ hk => hk.2) (.int .i64 t304)) (fun _ hk => hk.2) (.int .i64 t305)) (fun _ hk => hk.2) (.int .i64 t306)) (fun _ hk => hk.2) (.slice Ao28 t307.length co28)) (fun _ hk => hk.2) (.int .i64 t310)) (fun _ hk => ⟨hk.1.1.2, ⟨hk.1.1.1.1, ⟨hk.1.1.1.2, hk.1.2⟩⟩⟩)⟩
       have n1_ : Aside0 (Kd.R k161 161 ((((((((w24.setCell ⟨gb313, 0, none⟩ (.int .i64 t301)).setCell ⟨gb313, 1, none⟩ (.string t302)).setCell ⟨gb313, 2, none⟩ (.string t303)).setCell ⟨gb313, 3, none⟩ (.int .i64 t304)).setCell ⟨gb313, 4, none⟩ (.int .i64 t305)).setCell ⟨gb313, 5, none⟩ (.int .i64 t306)).setCell ⟨gb313, 6, none⟩ (.slice Ao28 t307.length co28)).setCell ⟨gb313, 7, none⟩ (.int .i64 t310)) w.heap.size (fun k_ => some k_ ≠ (u301006 : Value).ownBlock ∧ k_ ≠ gb296 ∧ k_ ≠ gb300 ∧ k_ ≠ gb313) (.slice Ao28 t307.length co28) t307) := ⟨by (with_reducible repeat (first | apply Kd.R_alloc | apply Kd.R_drewN | apply Kd.R_drew)); exact Kd.R_mono (Kd.R_far (p := ⟨gb313, 7, none⟩) (Kd.R_far (p := ⟨gb313, 6, none⟩) (Kd.R_far (p := ⟨gb313, 5, none⟩) (Kd.R_far (p := ⟨gb313, 4, none⟩) (Kd.R_far (p := ⟨gb313, 3, none⟩) (Kd.R_far (p := ⟨gb313, 2, none⟩) (Kd.R_far (p := ⟨gb313, 1, none⟩) (Kd.R_far (p := ⟨gb313, 0, none⟩) (Kd.R_mono HO309.out (fun k_ hk => (⟨hk, hk.2⟩ : _ ∧ k_ ≠ gb313))) (fun _ hk => hk.2) (.int .i64 t301)) (fun _ hk => hk.2) (.string t302)) (fun _ hk => hk.2) (.string t303)) (fun _ hk => hk.2) (.int .i64 t304)) (fun _ hk => hk.2) (.int .i64 t305)) (fun _ hk => hk.2) (.int .i64 t306)) (fun _ hk => hk.2) (.slice Ao28 t307.length co28)) (fun _ hk => hk.2) (.int .i64 t310)) (fun _ hk => ⟨hk.1.1.1.1.2, ⟨hk.1.1.1.2, ⟨hk.1.1.2, hk.1.2⟩⟩⟩)⟩
       have n2_ : Aside0 (((((((((w24.setCell ⟨gb313, 0, none⟩ (.int .i64 t301)).setCell ⟨gb313, 1, none⟩ (.string t302)).setCell ⟨gb313, 2, none⟩ (.string t303)).setCell ⟨gb313, 3, none⟩ (.int .i64 t304)).setCell ⟨gb313, 4, none⟩ (.int .i64 t305)).setCell ⟨gb313, 5, none⟩ (.int .i64 t306)).setCell ⟨gb313, 6, none⟩ (.slice Ao28 t307.length co28)).setCell ⟨gb313, 7, none⟩ (.int .i64 t310)).heap[gb296]? = some (.cells #[.int .i64 x297000_2, .string x297001_2, .string x297002_2, .int .i64 x297003_2, .int .i64 x297004_2, .int .i64 x297005_2, .slice none 0 0, .int .i64 x297007_2] 161 (0, 0))) := ⟨bf BK296.out NB296_313.out⟩
       have n3_ : Aside0 (((((((((w24.setCell ⟨gb313, 0, none⟩ (.int .i64 t301)).setCell ⟨gb313, 1, none⟩ (.string t302)).setCell ⟨gb313, 2, none⟩ (.string t303)).setCell ⟨gb313, 3, none⟩ (.int .i64 t304)).setCell ⟨gb313, 4, none⟩ (.int .i64 t305)).setCell ⟨gb313, 5, none⟩ (.int .i64 t306)).setCell ⟨gb313, 6, none⟩ (.slice Ao28 t307.length co28)).setCell ⟨gb313, 7, none⟩ (.int .i64 t310)).heap[gb300]? = some (.cells #[.int .i64 ((rd_T73 l0 a1).f0), .string ((rd_T73 l0 a1).f1), .string ((rd_T73 l0 a1).f2), .int .i64 ((rd_T73 l0 a1).f3), .int .i64 ((rd_T73 l0 a1).f4), .int .i64 a1, u301006, .int .i64 x301007_2] 161 (0, 0))) := ⟨bf BK300.out NB300_313.out⟩
       have n4_ : Aside0 (((((((((w24.setCell ⟨gb313, 0, none⟩ (.int .i64 t301)).setCell ⟨gb313, 1, none⟩ (.string t302)).setCell ⟨gb313, 2, none⟩ (.string t303)).setCell ⟨gb313, 3, none⟩ (.int .i64 t304)).setCell ⟨gb313, 4, none⟩ (.int .i64 t305)).setCell ⟨gb313, 5, none⟩ (.int .i64 t306)).setCell ⟨gb313, 6, none⟩ (.slice Ao28 t307.length co28)).setCell ⟨gb313, 7, none⟩ (.int .i64 t310)).heap[gb313]? = some (.cells #[.int .i64 t301, .string t302, .string t303, .int .i64 t304, .int .i64 t305, .int .i64 t306, .slice Ao28 t307.length co28, .int .i64 t310] 161 (0, 0))) := ⟨bp BK313.out⟩
       have n5_ : Aside0 (Below w.heap.size w ((((((((w24.setCell ⟨gb313, 0, none⟩ (.int .i64 t301)).setCell ⟨gb313, 1, none⟩ (.string t302)).setCell ⟨gb313, 2, none⟩ (.string t303)).setCell ⟨gb313, 3, none⟩ (.int .i64 t304)).setCell ⟨gb313, 4, none⟩ (.int .i64 t305)).setCell ⟨gb313, 5, none⟩ (.int .i64 t306)).setCell ⟨gb313, 6, none⟩ (.slice Ao28 t307.length co28)).setCell ⟨gb313, 7, none⟩ (.int .i64 t310))) := ⟨bl⟩
       (try clear HO_301006)
       (try clear HO309)
       (try clear BK296)
       (try clear BK300)
       (try clear BK313)
       (try clear HB)
       generalize ((((((((w24.setCell ⟨gb313, 0, none⟩ (.int .i64 t301)).setCell ⟨gb313, 1, none⟩ (.string t302)).setCell ⟨gb313, 2, none⟩ (.string t303)).setCell ⟨gb313, 3, none⟩ (.int .i64 t304)).setCell ⟨gb313, 4, none⟩ (.int .i64 t305)).setCell ⟨gb313, 5, none⟩ (.int .i64 t306)).setCell ⟨gb313, 6, none⟩ (.slice Ao28 t307.length co28)).setCell ⟨gb313, 7, none⟩ (.int .i64 t310)) = w29 at n0_ n1_ n2_ n3_ n4_ n5_ ⊢
       have HO_301006 := n0_
       have HO309 := n1_
       have BK296 := n2_
       have BK300 := n3_
       have BK313 := n4_
       have HB := n5_
       clear n0_ n1_ n2_ n3_ n4_ n5_
       have n0_ := am (Kd.R_drew HO_301006.out)
       have n1_ := am (Kd.R_drew HO309.out)
       have n2_ := am (blk_drew BK296.out)
       have n3_ := am (blk_drew BK300.out)
       have n4_ := am (blk_drew BK313.out)
       have n5_ := am (below_drew1 HB.out)
       clear HO_301006
       clear HO309
       clear BK296
       clear BK300
       clear BK313
       clear HB
       have HO_301006 := n0_
       have HO309 := n1_
       have BK296 := n2_
       have BK300 := n3_
       have BK313 := n4_
       have HB := n5_
       clear n0_ n1_ n2_ n3_ n4_ n5_
       refine startL_ (n := 17) (S := fun w' => w'.cell? ⟨gb300, 0, none⟩ = some (.int .i64 ((rd_T73 l0 a1).f0)) ∧ w'.cell? ⟨gb300, 1, none⟩ = some (.string ((rd_T73 l0 a1).f1)) ∧ w'.cell? ⟨gb300, 2, none⟩ = some (.string ((rd_T73 l0 a1).f2)) ∧ w'.cell? ⟨gb300, 3, none⟩ = some (.int .i64 ((rd_T73 l0 a1).f3)) ∧ w'.cell? ⟨gb300, 4, none⟩ = some (.int .i64 ((rd_T73 l0 a1).f4)) ∧ w'.cell? ⟨gb300, 5, none⟩ = some (.int .i64 a1) ∧ w'.cell? ⟨gb300, 6, none⟩ = some (u301006) ∧ w'.cell? ⟨gb300, 7, none⟩ = some (.int .i64 x301007_2) ∧ w'.cell? ⟨gb313, 0, none⟩ = some (.int .i64 t301) ∧ w'.cell? ⟨gb313, 1, none⟩ = some (.string t302) ∧ w'.cell? ⟨gb313, 2, none⟩ = some (.string t303) ∧ w'.cell? ⟨gb313, 3, none⟩ = some (.int .i64 t304) ∧ w'.cell? ⟨gb313, 4, none⟩ = some (.int .i64 t305) ∧ w'.cell? ⟨gb313, 5, none⟩ = some (.int .i64 t306) ∧ w'.cell? ⟨gb313, 6, none⟩ = some (.slice Ao28 t307.length co28) ∧ w'.cell? ⟨gb313, 7, none⟩ = some (.int .i64 t310)) (S2 := fun w' => w'.cell? ⟨gb313, 0, none⟩ = some (.int .i64 t301) ∧ w'.cell? ⟨gb313, 1, none⟩ = some (.string t302) ∧ w'.cell? ⟨gb313, 2, none⟩ = some (.string t303) ∧ w'.cell? ⟨gb313, 3, none⟩ = some (.int .i64 t304) ∧ w'.cell? ⟨gb313, 4, none⟩ = some (.int .i64 t305) ∧ w'.cell? ⟨gb313, 5, none⟩ = some (.int .i64 t306) ∧ w'.cell? ⟨gb313, 6, none⟩ = some (.slice Ao28 t307.length co28) ∧ w'.cell? ⟨gb313, 7, none⟩ = some (.int .i64 t310)) (ds := [13, 15]) #[F_, F_, F_, F_, F_, F_, F_, F_, F_, F_, F_, F_, F_, F_, F_, F_, F_] (by kernel_rfl) rfl rfl ⟨(blk_cell BK300.out 0).trans rfl, (blk_cell BK300.out 1).trans rfl, (blk_cell BK300.out 2).trans rfl, (blk_cell BK300.out 3).trans rfl, (blk_cell BK300.out 4).trans rfl, (blk_cell BK300.out 5).trans rfl, (blk_cell BK300.out 6).trans rfl, (blk_cell BK300.out 7).trans rfl, (blk_cell BK313.out 0).trans rfl, (blk_cell BK313.out 1).trans rfl, (blk_cell BK313.out 2).trans rfl, (blk_cell BK313.out 3).trans rfl, (blk_cell BK313.out 4).trans rfl, (blk_cell BK313.out 5).trans rfl, (blk_cell BK313.out 6).trans rfl, (blk_cell BK313.out 7).trans rfl⟩ (fun hHeld => ?_)
       generalize w29.drew = w30 at HO_301006 HO309 BK296 BK300 BK313 HB hHeld ⊢
       refine pvL 0 56 ?_
       refine pvL 5 61 ?_
       refine pvL 7 63 ?_
       refine pvL 11 67 ?_
       refine tvL16 1 57 hHeld ?_
       refine tvL16 2 58 hHeld ?_
       refine tvL16 6 62 hHeld ?_
       refine take2_ (i := 8) (N := some 64) (v := ?_) (a' := ?_) #[T_, T_, T_, F_, F_, T_, T_, T_, T_, F_, F_, T_, F_, F_, F_, F_, F_] rfl rfl (by kernel_rfl) (fun _ _ _ h => h) (Or.inl ⟨by rfl, ?_⟩) ⟨hHeld.2.2.2.2.2.2.2.2.1, hHeld.2.2.2.2.2.2.2.2.2.1, hHeld.2.2.2.2.2.2.2.2.2.2.1, hHeld.2.2.2.2.2.2.2.2.2.2.2.1, hHeld.2.2.2.2.2.2.2.2.2.2.2.2.1, hHeld.2.2.2.2.2.2.2.2.2.2.2.2.2.1, hHeld.2.2.2.2.2.2.2.2.2.2.2.2.2.2.1, hHeld.2.2.2.2.2.2.2.2.2.2.2.2.2.2.2⟩ ?_ ?_
       rotate_left
       ·rintro w' ⟨s0, s1, s2, s3, s4, s5, s6, s7⟩
        go_simp
        with_reducible rfl
       rotate_left
       ·simp only [Act.put, z1, z2, z3, i64_w, i32_w]
        rfl
       refine pvL 9 65 ?_
       refine pvL 10 66 ?_
       refine oneL_ (i := 3) (N := some 59) #[T_, T_, T_, T_, F_, T_, T_, T_, T_, T_, T_, T_, F_, F_, F_, F_, F_] rfl rfl (by kernel_rfl) (by decide) (fun _ h_ => ⟨h_.2.2.2.2.2.2.2.2.1, h_.2.2.2.2.2.2.2.2.2.1, h_.2.2.2.2.2.2.2.2.2.2.1, h_.2.2.2.2.2.2.2.2.2.2.2.1, h_.2.2.2.2.2.2.2.2.2.2.2.2.1, h_.2.2.2.2.2.2.2.2.2.2.2.2.2.1, h_.2.2.2.2.2.2.2.2.2.2.2.2.2.2.1, h_.2.2.2.2.2.2.2.2.2.2.2.2.2.2.2⟩) (fun K hK => ?_)
       refine value_ (w1 := ?_) (v := ?_) (by rfl) rfl ?_ ?_
       rotate_left 2
       ·go_simp
        constructor
        ·rfl
        rfl
       refine hK.out _ _ ⟨(blk_cell (blk_alloc BK300.out _) 0).trans rfl, (blk_cell (blk_alloc BK300.out _) 1).trans rfl, (blk_cell (blk_alloc BK300.out _) 2).trans rfl, (blk_cell (blk_alloc BK300.out _) 3).trans rfl, (blk_cell (blk_alloc BK300.out _) 4).trans rfl, (blk_cell (blk_alloc BK300.out _) 5).trans rfl, (blk_cell (blk_alloc BK300.out _) 6).trans rfl, (blk_cell (blk_alloc BK300.out _) 7).trans rfl, (blk_cell (blk_alloc BK313.out _) 0).trans rfl, (blk_cell (blk_alloc BK313.out _) 1).trans rfl, (blk_cell (blk_alloc BK313.out _) 2).trans rfl, (blk_cell (blk_alloc BK313.out _) 3).trans rfl, (blk_cell (blk_alloc BK313.out _) 4).trans rfl, (blk_cell (blk_alloc BK313.out _) 5).trans rfl, (blk_cell (blk_alloc BK313.out _) 6).trans rfl, (blk_cell (blk_alloc BK313.out _) 7).trans rfl⟩ (fun hHeld => ?_)
       clear hK K
       refine normL_ (a' := ?_) ?_ ?_
       rotate_left
       ·show Act.put _ (some 59) _ = _
        simp only [Act.put, z1, z2, z3, i64_w, i32_w]
        rfl
       refine oneL_ (i := 4) (N := some 60) #[T_, T_, T_, T_, T_, T_, T_, T_, T_, T_, T_, T_, F_, F_, F_, F_, F_] rfl rfl (by kernel_rfl) (by decide) (fun _ h_ => ⟨h_.2.2.2.2.2.2.2.2.1, h_.2.2.2.2.2.2.2.2.2.1, h_.2.2.2.2.2.2.2.2.2.2.1, h_.2.2.2.2.2.2.2.2.2.2.2.1, h_.2.2.2.2.2.2.2.2.2.2.2.2.1, h_.2.2.2.2.2.2.2.2.2.2.2.2.2.1, h_.2.2.2.2.2.2.2.2.2.2.2.2.2.2.1, h_.2.2.2.2.2.2.2.2.2.2.2.2.2.2.2⟩) (fun K hK => ?_)
       refine Kd.R_append_step k161 (w0 := w) w.heap.size (by rfl) (.tmp 57) (.tmp 59) 159 161 (.agg #[(.int .i64 0), (.string ⟨#[]⟩), (.string ⟨#[]⟩), (.int .i64 0), (.int .i64 0), (.int .i64 0), (.slice none 0 0), (.int .i64 0)]) 96 rfl Tryz.underlying159 info161 rfl (by decide) (by omega) u301006 x301006_2 (⟨(⟨t301, t302, t303, t304, t305⟩ : S73), t306, t307, t310⟩ : S161) [.int .i64 t301, .string t302, .string t303, .int .i64 t304, .int .i64 t305, .int .i64 t306, .slice Ao28 t307.length co28, .int .i64 t310] (fun k_ => k_ ≠ gb296 ∧ k_ ≠ gb300 ∧ k_ ≠ gb313) (fun k_ => ((fun k_ => k_ ≠ gb296 ∧ k_ ≠ gb300 ∧ k_ ≠ gb313)) k_ ∧ some k_ ≠ (u301006 : Value).ownBlock) rfl rfl ?aP (fun _ hk => hk) ?aF ?aO ?aB ?aS ?aL ?_
       (case aP => exact k161_mkM _ _ _ (⟨(⟨t301, t302, t303, t304, t305⟩ : S73), t306, t307, t310⟩ : S161) (Kd.R_mono (HO309.out) (fun k_ hk => ⟨⟨hk.2.1, ⟨hk.2.2.1, hk.2.2.2⟩⟩, hk.1⟩)))
       (case aB => exact bl)
       (case aF => exact (fun k_ hk => ⟨Kd.freshB (g := gb296) (o := .cells #[.int .i64 x297000_2, .string x297001_2, .string x297002_2, .int .i64 x297003_2, .int .i64 x297004_2, .int .i64 x297005_2, .slice none 0 0, .int .i64 x297007_2] 161 (0, 0)) (bk BK296.out) k_ hk, Kd.freshB (g := gb300) (o := .cells #[.int .i64 ((rd_T73 l0 a1).f0), .string ((rd_T73 l0 a1).f1), .string ((rd_T73 l0 a1).f2), .int .i64 ((rd_T73 l0 a1).f3), .int .i64 ((rd_T73 l0 a1).f4), .int .i64 a1, u301006, .int .i64 x301007_2] 161 (0, 0)) (bk BK300.out) k_ hk, Kd.freshB (g := gb313) (o := .cells #[.int .i64 t301, .string t302, .string t303, .int .i64 t304, .int .i64 t305, .int .i64 t306, .slice Ao28 t307.length co28, .int .i64 t310] 161 (0, 0)) (bk BK313.out) k_ hk⟩))
       (case aO => exact (by (with_reducible repeat (first | apply Kd.R_alloc | apply Kd.R_drewN | apply Kd.R_drew)); exact Kd.R_mono HO_301006.out (fun _ hk => ⟨hk.2.1, ⟨hk.2.2.1, hk.2.2.2⟩⟩)))
       (case aS => exact (below_size bl))
       (case aL => have := LMc21.out; omega)
       intro v315 w31 ho hb hg hat
       rw [← Ny314.out] at ho
       have n0_ := am (blk_grown (g := gb296) (o := .cells #[.int .i64 x297000_2, .string x297001_2, .string x297002_2, .int .i64 x297003_2, .int .i64 x297004_2, .int .i64 x297005_2, .slice none 0 0, .int .i64 x297007_2] 161 (0, 0)) (bk BK296.out) hg (Kd.R_away HO_301006.out (fun _ hk => hk.2.1)))
       have n1_ := am (blk_grown (g := gb300) (o := .cells #[.int .i64 ((rd_T73 l0 a1).f0), .string ((rd_T73 l0 a1).f1), .string ((rd_T73 l0 a1).f2), .int .i64 ((rd_T73 l0 a1).f3), .int .i64 ((rd_T73 l0 a1).f4), .int .i64 a1, u301006, .int .i64 x301007_2] 161 (0, 0)) (bk BK300.out) hg (Kd.R_away HO_301006.out (fun _ hk => hk.2.2.1)))
       have n2_ := am (blk_grown (g := gb313) (o := .cells #[.int .i64 t301, .string t302, .string t303, .int .i64 t304, .int .i64 t305, .int .i64 t306, .slice Ao28 t307.length co28, .int .i64 t310] 161 (0, 0)) (bk BK313.out) hg (Kd.R_away HO_301006.out (fun _ hk => hk.2.2.2)))
       have n3_ := am (hb)
       have n4_ := am (ho)
       clear BK296
       clear BK300
       clear BK313
       clear HB
       clear HO_301006
       clear HO309
       have BK296 := n0_
       have BK300 := n1_
       have BK313 := n2_
       have HB := n3_
       have HO316 := n4_
       clear n0_ n1_ n2_ n3_ n4_
       clear ho hb hg hat
       obtain ⟨Ao32, co32, eo32⟩ := Kd.R_slice HO316.out
       (first | subst eo32 | (injection eo32 with f1_ f2_ f3_; have f4_ := f1_.symm; have f5_ := f3_.symm; clear f1_ f2_ f3_; subst f4_; subst f5_))
       refine hK.out _ _ ⟨(blk_cell BK300.out 0).trans rfl, (blk_cell BK300.out 1).trans rfl, (blk_cell BK300.out 2).trans rfl, (blk_cell BK300.out 3).trans rfl, (blk_cell BK300.out 4).trans rfl, (blk_cell BK300.out 5).trans rfl, (blk_cell BK300.out 6).trans rfl, (blk_cell BK300.out 7).trans rfl, (blk_cell BK313.out 0).trans rfl, (blk_cell BK313.out 1).trans rfl, (blk_cell BK313.out 2).trans rfl, (blk_cell BK313.out 3).trans rfl, (blk_cell BK313.out 4).trans rfl, (blk_cell BK313.out 5).trans rfl, (blk_cell BK313.out 6).trans rfl, (blk_cell BK313.out 7).trans rfl⟩ (fun hHeld => ?_)
       clear hK K
       refine normL_ (a' := ?_) ?_ ?_
       rotate_left
       ·show Act.put _ (some 60) _ = _
        simp only [Act.put, z1, z2, z3, i64_w, i32_w]
        rfl
       refine pvL 12 68 ?_
       refine lastL_ (i := 13) (N := none) #[T_, T_, T_, T_, T_, T_, T_, T_, T_, T_, T_, T_, T_, T_, F_, F_, F_] rfl rfl (by kernel_rfl) (by decide) (fun K hK => ?_)
       have hs33 : w31.cell? ⟨gb300, 6, none⟩ = some (u301006) := (blk_cell BK300.out 6).trans rfl
       have hfs33 := blk_frozen BK300.out 6
       have hns33_0 := NB296_300.out
       have hns33_2 := NB313_300.out
       have hms33_0 := NB300_296.out
       have hms33_2 := NB300_313.out
       refine skip_ (w1 := ?_) (by rfl) rfl ?_ ?_
       rotate_left
       ·go_simp
        rfl
       refine hK.out _ _ ⟨((cell_far (p := ⟨gb300, _, none⟩) NB313_300.out _).trans (hHeld.2.2.2.2.2.2.2.2.1)), ((cell_far (p := ⟨gb300, _, none⟩) NB313_300.out _).trans (hHeld.2.2.2.2.2.2.2.2.2.1)), ((cell_far (p := ⟨gb300, _, none⟩) NB313_300.out _).trans (hHeld.2.2.2.2.2.2.2.2.2.2.1)), ((cell_far (p := ⟨gb300, _, none⟩) NB313_300.out _).trans (hHeld.2.2.2.2.2.2.2.2.2.2.2.1)), ((cell_far (p := ⟨gb300, _, none⟩) NB313_300.out _).trans (hHeld.2.2.2.2.2.2.2.2.2.2.2.2.1)), ((cell_far (p := ⟨gb300, _, none⟩) NB313_300.out _).trans (hHeld.2.2.2.2.2.2.2.2.2.2.2.2.2.1)), ((cell_far (p := ⟨gb300, _, none⟩) NB313_300.out _).trans (hHeld.2.2.2.2.2.2.2.2.2.2.2.2.2.2.1)), ((cell_far (p := ⟨gb300, _, none⟩) NB313_300.out _).trans (hHeld.2.2.2.2.2.2.2.2.2.2.2.2.2.2.2))⟩ (fun hHeld2 => ?_)
       clear hK K
       refine pvL 14 69 ?_
       refine lastL_ (i := 15) (N := none) #[T_, T_, T_, T_, T_, T_, T_, T_, T_, T_, T_, T_, T_, T_, T_, T_, F_] rfl rfl (by kernel_rfl) (by decide) (fun K hK => ?_)
       have hs34 : w31.cell? ⟨gb300, 7, none⟩ = some (.int .i64 x301007_2) := (blk_cell BK300.out 7).trans rfl
       have hfs34 := blk_frozen BK300.out 7
       have hns34_0 := NB296_300.out
       have hns34_2 := NB313_300.out
       have hms34_0 := NB300_296.out
       have hms34_2 := NB300_313.out
       refine skip_ (w1 := ?_) (by rfl) rfl ?_ ?_
       rotate_left
       ·go_simp
        rfl
       refine hK.out _ _ ⟨((cell_far (p := ⟨gb300, _, none⟩) NB313_300.out _).trans (hHeld2.1)), ((cell_far (p := ⟨gb300, _, none⟩) NB313_300.out _).trans (hHeld2.2.1)), ((cell_far (p := ⟨gb300, _, none⟩) NB313_300.out _).trans (hHeld2.2.2.1)), ((cell_far (p := ⟨gb300, _, none⟩) NB313_300.out _).trans (hHeld2.2.2.2.1)), ((cell_far (p := ⟨gb300, _, none⟩) NB313_300.out _).trans (hHeld2.2.2.2.2.1)), ((cell_far (p := ⟨gb300, _, none⟩) NB313_300.out _).trans (hHeld2.2.2.2.2.2.1)), ((cell_far (p := ⟨gb300, _, none⟩) NB313_300.out _).trans (hHeld2.2.2.2.2.2.2.1)), ((cell_far (p := ⟨gb300, _, none⟩) NB313_300.out _).trans (hHeld2.2.2.2.2.2.2.2))⟩ (fun hHeld2 => ?_)
       clear hK K
       refine pvL 16 1 ?_
       refine doneL_ (by kernel_rfl) ?_
       try go_wp2
       go_roundg k2
       case measure => have := HJ3.out; have := HK2.out; omega
       case rel => exact ⟨(t311), (wrap64 (x42_2 + 1)), (x297000_2), (x297001_2), (x297002_2), (x297003_2), (x297004_2), (x297005_2), (x297007_2), (y314), (ji22), (.slice Ao32 y314.length co32), rs, rs, H', ⟨by have := HJ3.out; have := HK2.out; omega⟩, ⟨by (with_reducible repeat (first | apply Kd.R_alloc | apply Kd.R_drewN | apply Kd.R_drew)); exact Kd.R_mono (Kd.R_far (p := ⟨gb300, 7, none⟩) (Kd.R_far (p := ⟨gb300, 6, none⟩) (Kd.R_mono HO316.out (fun k_ hk => (⟨hk, hk.2.1⟩ : _ ∧ k_ ≠ gb300))) (fun _ hk => hk.2) (.slice Ao32 y314.length co32)) (fun _ hk => hk.2) (.int .i64 ji22)) (fun _ hk => ⟨hk.1.1, hk.1.2.1⟩)⟩, ⟨bf BK296.out NB296_300.out⟩, ⟨bp BK300.out⟩, ⟨bl⟩⟩
      replace c20 := Bool.eq_false_iff.mpr c20
      subst c20
      have H1 : (some (0, (⟨#[]⟩ : ByteArray), (⟨#[]⟩ : ByteArray), 0, 0, 0, ([] : List (S161)), 0, 0, false)) = some (r1, r2, r3, r4, r5, r6, r7, r8, r9, r10) := by rw [if_neg (show ¬ (false = true) by decide)] at H; exact H
      clear H
      have H := H1
      clear H1
      simp only [Option.some.injEq, Prod.mk.injEq] at H
      obtain ⟨rfl, rfl, rfl, rfl, rfl, rfl, rfl, rfl, rfl, rfl⟩ := H
      go_wp2_with (first | (refine gc 164 (some 49) Tryz.func164 (ih k2 (by have := HJ3.out; have := HK2.out; omega) _ _ l0 x1_2 (wrap64 (a2 + 1)) t301 t302 t303 t304 t305 t306 t307 t310 t311 false _ ?side1 ?side2 A19.out) ?_; (case side1 => exact cb HR0.out); (case side2 => exact HC0.out); rintro e w35 ⟨v308, rfl, ho0, hb⟩; refine ⟨_, rfl, ?_⟩; have HO309 := am (Kd.R_lower (Kd.R_newB (Kd.R_newB (Kd.R_new' ho0 (Kd.R_lt (kr HO_301006.out))) (g := gb296) (o := .cells #[.int .i64 x297000_2, .string x297001_2, .string x297002_2, .int .i64 x297003_2, .int .i64 x297004_2, .int .i64 x297005_2, .slice none 0 0, .int .i64 x297007_2] 161 (0, 0)) (bk BK296.out)) (g := gb300) (o := .cells #[.int .i64 ((rd_T73 l0 a1).f0), .string ((rd_T73 l0 a1).f1), .string ((rd_T73 l0 a1).f2), .int .i64 ((rd_T73 l0 a1).f3), .int .i64 ((rd_T73 l0 a1).f4), .int .i64 a1, u301006, .int .i64 x301007_2] 161 (0, 0)) (bk BK300.out)) (below_size bl)); replace HO_301006 := am (Kd.R_elder' (kr HO_301006.out) (Kd.R_base ho0) hb); replace BK296 := am (bkb BK296.out hb); replace BK300 := am (bkb BK300.out hb); replace HB := am (below_step bl hb); clear hb ho0) | (refine bx 10 #[.int .i64 0, .string (⟨#[]⟩ : ByteArray), .string (⟨#[]⟩ : ByteArray), .int .i64 0, .int .i64 0, .int .i64 0, .slice none 0 0, .int .i64 0] 161 ?_; intro gb313 hg w36 hbox hb; replace HO_301006 := am (Kd.R_below (Kd.R_elderB (kr HO_301006.out) gb313 (Nat.le_of_eq hg.symm)) hb); replace HO309 := am (Kd.R_below (Kd.R_elderB (kr HO309.out) gb313 (Nat.le_of_eq hg.symm)) hb); have BK313 := am (hbox); have GW313 := am (bsz hg : w.heap.size ≤ gb313); have GE313 := GW313; have NB296_313 := am (ne1 hg BK296.out); have NB313_296 := am NB296_313.out.symm; replace BK296 := am (bkb BK296.out hb); have NB300_313 := am (ne1 hg BK300.out); have NB313_300 := am NB300_313.out.symm; replace BK300 := am (bkb BK300.out hb); replace HB := am (below_step bl hb); clear hb hbox hg; have hnb37 := NB313_296.out; have hnc37 := NB296_313.out; have hnb38 := NB313_300.out; have hnc38 := NB300_313.out; obtain ⟨z39_0, z39_1, z39_2, z39_3, z39_4, z39_5, z39_6, z39_7, y39_0, y39_1, y39_2, y39_3, y39_4, y39_5, y39_6, y39_7⟩ := blk8 BK313.out; obtain ⟨Ao40, co40, eo40⟩ := Kd.R_slice HO309.out; subst eo40; have hnb41 := NB296_300.out; have hnc41 := NB300_296.out; obtain ⟨z42_0, z42_1, z42_2, z42_3, z42_4, z42_5, z42_6, z42_7, y42_0, y42_1, y42_2, y42_3, y42_4, y42_5, y42_6, y42_7⟩ := blk8 BK296.out))
      refine bodyPost_ret (results_ctt rfl _ _ gb296 161 #[.int .i64 0, .string (⟨#[]⟩ : ByteArray), .string (⟨#[]⟩ : ByteArray), .int .i64 0, .int .i64 0, .int .i64 0, .slice none 0 0, .int .i64 0] (0, 0) _ rfl (bpf BK296.out NB296_313.out) Tryz.underlying161 rfl (by kernel_rfl)) rfl ?_
      exact ⟨_, er, by first | exact Kd.R_nil _ _ _ _ _ | exact Kd.N_nil _ _ _ _ _ | exact Kd.V_nil _ _ _ _ _ | exact Kd.Q_nil _ _ _ _ _ | exact Kd.S_nil _ _ _ _ _, bl⟩
     simp only [Option.some.injEq, Prod.mk.injEq] at H
     obtain ⟨rfl, rfl, rfl, rfl, rfl, rfl, rfl, rfl, rfl, rfl⟩ := H
     have hnb43 := NB300_296.out
     have hnc43 := NB296_300.out
     obtain ⟨z44_0, z44_1, z44_2, z44_3, z44_4, z44_5, z44_6, z44_7, y44_0, y44_1, y44_2, y44_3, y44_4, y44_5, y44_6, y44_7⟩ := blk8 BK300.out
     obtain ⟨z45_0, z45_1, z45_2, z45_3, z45_4, z45_5, z45_6, z45_7, y45_0, y45_1, y45_2, y45_3, y45_4, y45_5, y45_6, y45_7⟩ := blk8 BK296.out
     obtain ⟨Ao46, co46, eo46⟩ := Kd.R_slice HO_301006.out
     subst eo46
     go_wp2
     refine bodyPost_ret (results_ctt rfl _ _ gb296 161 #[.int .i64 ((rd_T73 l0 a1).f0), .string ((rd_T73 l0 a1).f1), .string ((rd_T73 l0 a1).f2), .int .i64 ((rd_T73 l0 a1).f3), .int .i64 ((rd_T73 l0 a1).f4), .int .i64 a1, .slice Ao46 x301006_2.length co46, .int .i64 x301007_2] (0, 0) _ rfl (bp BK296.out) Tryz.underlying161 rfl (by kernel_rfl)) rfl ?_
     exact ⟨_, er, by (with_reducible repeat (first | apply Kd.R_alloc | apply Kd.R_drewN | apply Kd.R_drew)); exact Kd.R_mono (Kd.R_far (p := ⟨gb296, 7, none⟩) (Kd.R_far (p := ⟨gb296, 6, none⟩) (Kd.R_far (p := ⟨gb296, 5, none⟩) (Kd.R_far (p := ⟨gb296, 4, none⟩) (Kd.R_far (p := ⟨gb296, 3, none⟩) (Kd.R_far (p := ⟨gb296, 2, none⟩) (Kd.R_far (p := ⟨gb296, 1, none⟩) (Kd.R_far (p := ⟨gb296, 0, none⟩) (Kd.R_mono HO_301006.out (fun k_ hk => (⟨hk, hk.1⟩ : _ ∧ k_ ≠ gb296))) (fun _ hk => hk.2) (.int .i64 ((rd_T73 l0 a1).f0))) (fun _ hk => hk.2) (.string ((rd_T73 l0 a1).f1))) (fun _ hk => hk.2) (.string ((rd_T73 l0 a1).f2))) (fun _ hk => hk.2) (.int .i64 ((rd_T73 l0 a1).f3))) (fun _ hk => hk.2) (.int .i64 ((rd_T73 l0 a1).f4))) (fun _ hk => hk.2) (.int .i64 a1)) (fun _ hk => hk.2) (.slice Ao46 x301006_2.length co46)) (fun _ hk => hk.2) (.int .i64 x301007_2)) (fun _ hk => trivial), bl⟩

/-! ### impl_treeOf: function 111 -/
def impl_treeOf.f (k : Nat) (l0 : List (S73)) : Option (Int × ByteArray × ByteArray × Int × Int × Int × (List (S161)) × Int × Bool) := if (l0.length : Int) > 150 then (some (0, (⟨#[]⟩ : ByteArray), (⟨#[]⟩ : ByteArray), 0, 0, 0, ([] : List (S161)), 0, false)) else ((impl_growTree.f k l0 0 1).bind fun bt318 => (if bt318.2.2.2.2.2.2.2.2.2 = true then (some (bt318.1, bt318.2.1, bt318.2.2.1, bt318.2.2.2.1, bt318.2.2.2.2.1, bt318.2.2.2.2.2.1, bt318.2.2.2.2.2.2.1, bt318.2.2.2.2.2.2.2.1, (bt318.2.2.2.2.2.2.2.2.1 == (l0.length : Int)))) else (some (bt318.1, bt318.2.1, bt318.2.2.1, bt318.2.2.2.1, bt318.2.2.2.2.1, bt318.2.2.2.2.2.1, bt318.2.2.2.2.2.2.1, bt318.2.2.2.2.2.2.2.1, false))))
theorem impl_treeOf.mono : ∀ a0 k, LeO (impl_treeOf.f k a0) (impl_treeOf.f (k + 1) a0) := by
 intro a0 k
 unfold impl_treeOf.f
 repeat' (with_reducible first | exact impl_growTree.mono .. | exact LeO.refl _ | exact LeO.none _ | refine LeO.ite ?_ ?_ | refine LeO.bind ?_ (fun _ => ?_))
theorem impl_treeOf.calls (k : Nat) (A0 : Option Addr) (c0 : Nat) (l0 : List (S73)) (r1 : Int) (r2 : ByteArray) (r3 : ByteArray) (r4 : Int) (r5 : Int) (r6 : Int) (r7 : List (S161)) (r8 : Int) (r9 : Bool) (w : World) (hr0 : Kd.C k73 w A0 l0.length l0) (hc0 : l0.length ≤ c0) (h : impl_treeOf.f k l0 = some (r1, r2, r3, r4, r5, r6, r7, r8, r9)) :
  Calls Tryz.prog 111 #[.slice A0 l0.length c0] w fun e w' => ∃ v6_ : Value, e = .returned (.tuple #[.agg #[.int .i64 r1, .string r2, .string r3, .int .i64 r4, .int .i64 r5, .int .i64 r6, v6_, .int .i64 r8], .bool r9]) ∧ Kd.R k161 161 w' w.heap.size (fun _ => True) v6_ r7 ∧ Below w.heap.size w w' := by
 have hu161 := Tryz.underlying161
 have HR0 := am hr0
 have HC0 := am hc0
 clear hr0 hc0
 have HB := am (Below.refl w.heap.size w)
 have H : (if (l0.length : Int) > 150 then (some (0, (⟨#[]⟩ : ByteArray), (⟨#[]⟩ : ByteArray), 0, 0, 0, ([] : List (S161)), 0, false)) else ((impl_growTree.f k l0 0 1).bind fun bt318 => (if bt318.2.2.2.2.2.2.2.2.2 = true then (some (bt318.1, bt318.2.1, bt318.2.2.1, bt318.2.2.2.1, bt318.2.2.2.2.1, bt318.2.2.2.2.2.1, bt318.2.2.2.2.2.2.1, bt318.2.2.2.2.2.2.2.1, (bt318.2.2.2.2.2.2.2.2.1 == (l0.length : Int)))) else (some (bt318.1, bt318.2.1, bt318.2.2.1, bt318.2.2.2.1, bt318.2.2.2.2.1, bt318.2.2.2.2.2.1, bt318.2.2.2.2.2.2.1, bt318.2.2.2.2.2.2.2.1, false))))) = some (r1, r2, r3, r4, r5, r6, r7, r8, r9) := h
 clear h
 revert H; refine iDn (fun c2 c2b0 H => ?_) fun c2 c2b0 H => ?_
 ·have c2b1 : decide (150 < l0.length) = true := decide_eq_true (by omega)
  clear c2
  simp only [Option.some.injEq, Prod.mk.injEq] at H
  obtain ⟨rfl, rfl, rfl, rfl, rfl, rfl, rfl, rfl, rfl⟩ := H
  go_enter Tryz.func111, Tryz.ntmps111
  go_wp2_with (first | ((with_reducible refine gate_dst (N := 2) rfl ?_); (try (refine gate_guard (by rfl) ?_; dsimp only)); refine box_event ?hg (N := 2) ?hd (cs := #[.int .i64 0, .string (⟨#[]⟩ : ByteArray), .string (⟨#[]⟩ : ByteArray), .int .i64 0, .int .i64 0, .int .i64 0, .slice none 0 0, .int .i64 0]) (t := 161) ?hr ?_; (case hd => rfl); (case hg => rfl); (case hr => first | (go_simp; done) | (go_simp; rfl)); intro gb317 hg w3 hbox hb; have BK317 := am (hbox); have GW317 := am (bsz hg : w.heap.size ≤ gb317); have GE317 := GW317; replace HB := am (below_step bl hb); clear hb hbox hg; obtain ⟨z4_0, z4_1, z4_2, z4_3, z4_4, z4_5, z4_6, z4_7, y4_0, y4_1, y4_2, y4_3, y4_4, y4_5, y4_6, y4_7⟩ := blk8 BK317.out))
  refine bodyPost_ret (results_ct rfl _ _ gb317 161 #[.int .i64 0, .string (⟨#[]⟩ : ByteArray), .string (⟨#[]⟩ : ByteArray), .int .i64 0, .int .i64 0, .int .i64 0, .slice none 0 0, .int .i64 0] (0, 0) _ rfl (bp BK317.out) Tryz.underlying161 rfl (by kernel_rfl)) rfl ?_
  exact ⟨_, er, by first | exact Kd.R_nil _ _ _ _ _ | exact Kd.N_nil _ _ _ _ _ | exact Kd.V_nil _ _ _ _ _ | exact Kd.Q_nil _ _ _ _ _ | exact Kd.S_nil _ _ _ _ _, bl⟩
 have c2b1 : decide (150 < l0.length) = false := decide_eq_false (by omega)
 clear c2
 replace H := Option.bind_eq_some_iff.mp H
 obtain ⟨⟨t318, t319, t320, t321, t322, t323, t324, t327, t328, t329⟩, A50, H⟩ := H
 replace H : (if t329 = true then (some (t318, t319, t320, t321, t322, t323, t324, t327, (t328 == (l0.length : Int)))) else (some (t318, t319, t320, t321, t322, t323, t324, t327, false))) = some (r1, r2, r3, r4, r5, r6, r7, r8, r9) := H
 have A5 := am A50; clear A50
 by_cases c6 : t329 = true
 ·subst c6
  have H1 : (some (t318, t319, t320, t321, t322, t323, t324, t327, (t328 == (l0.length : Int)))) = some (r1, r2, r3, r4, r5, r6, r7, r8, r9) := by rw [if_pos rfl] at H; exact H
  clear H
  have H := H1
  clear H1
  simp only [Option.some.injEq, Prod.mk.injEq] at H
  obtain ⟨rfl, rfl, rfl, rfl, rfl, rfl, rfl, rfl, rfl⟩ := H
  go_enter Tryz.func111, Tryz.ntmps111
  go_wp2_with (first | ((with_reducible refine gate_dst (N := 2) rfl ?_); (try (refine gate_guard (by rfl) ?_; dsimp only)); refine box_event ?hg (N := 2) ?hd (cs := #[.int .i64 0, .string (⟨#[]⟩ : ByteArray), .string (⟨#[]⟩ : ByteArray), .int .i64 0, .int .i64 0, .int .i64 0, .slice none 0 0, .int .i64 0]) (t := 161) ?hr ?_; (case hd => rfl); (case hg => rfl); (case hr => first | (go_simp; done) | (go_simp; rfl)); intro gb317 hg w7 hbox hb; have BK317 := am (hbox); have GW317 := am (bsz hg : w.heap.size ≤ gb317); have GE317 := GW317; replace HB := am (below_step bl hb); clear hb hbox hg) | (refine gc 164 (some 13) Tryz.func164 (impl_growTree.calls _ _ _ _ _ _ _ _ _ _ _ _ _ _ _ _ _ ?side1 ?side2 A5.out) ?_; (case side1 => exact cb HR0.out); (case side2 => exact HC0.out); rintro e w8 ⟨v325, rfl, ho0, hb⟩; refine ⟨_, rfl, ?_⟩; have HO326 := am (Kd.R_lower (Kd.R_newB ho0 (g := gb317) (o := .cells #[.int .i64 0, .string (⟨#[]⟩ : ByteArray), .string (⟨#[]⟩ : ByteArray), .int .i64 0, .int .i64 0, .int .i64 0, .slice none 0 0, .int .i64 0] 161 (0, 0)) (bk BK317.out)) (below_size bl)); replace BK317 := am (bkb BK317.out hb); replace HB := am (below_step bl hb); clear hb ho0) | ((with_reducible refine gate_dst (N := 4) rfl ?_); (try (refine gate_guard (by rfl) ?_; dsimp only)); refine box_event ?hg (N := 4) ?hd (cs := #[.int .i64 0, .string (⟨#[]⟩ : ByteArray), .string (⟨#[]⟩ : ByteArray), .int .i64 0, .int .i64 0, .int .i64 0, .slice none 0 0, .int .i64 0]) (t := 161) ?hr ?_; (case hd => rfl); (case hg => rfl); (case hr => first | (go_simp; done) | (go_simp; rfl)); intro gb330 hg w9 hbox hb; replace HO326 := am (Kd.R_below (Kd.R_elderB (kr HO326.out) gb330 (Nat.le_of_eq hg.symm)) hb); have BK330 := am (hbox); have GW330 := am (bsz hg : w.heap.size ≤ gb330); have GE330 := GW330; have NB317_330 := am (ne1 hg BK317.out); have NB330_317 := am NB317_330.out.symm; replace BK317 := am (bkb BK317.out hb); replace HB := am (below_step bl hb); clear hb hbox hg; have hnb10 := NB330_317.out; have hnc10 := NB317_330.out; obtain ⟨z11_0, z11_1, z11_2, z11_3, z11_4, z11_5, z11_6, z11_7, y11_0, y11_1, y11_2, y11_3, y11_4, y11_5, y11_6, y11_7⟩ := blk8 BK330.out; obtain ⟨Ao12, co12, eo12⟩ := Kd.R_slice HO326.out; subst eo12; obtain ⟨z13_0, z13_1, z13_2, z13_3, z13_4, z13_5, z13_6, z13_7, y13_0, y13_1, y13_2, y13_3, y13_4, y13_5, y13_6, y13_7⟩ := blk8 BK317.out))
  refine bodyPost_ret (results_ct rfl _ _ gb317 161 #[.int .i64 t318, .string t319, .string t320, .int .i64 t321, .int .i64 t322, .int .i64 t323, .slice Ao12 t324.length co12, .int .i64 t327] (0, 0) _ rfl (bpf BK317.out NB317_330.out) Tryz.underlying161 rfl (by kernel_rfl)) rfl ?_
  exact ⟨_, er, by (with_reducible repeat (first | apply Kd.R_alloc | apply Kd.R_drewN | apply Kd.R_drew)); exact Kd.R_mono (Kd.R_far (p := ⟨gb317, 7, none⟩) (Kd.R_far (p := ⟨gb317, 6, none⟩) (Kd.R_far (p := ⟨gb317, 5, none⟩) (Kd.R_far (p := ⟨gb317, 4, none⟩) (Kd.R_far (p := ⟨gb317, 3, none⟩) (Kd.R_far (p := ⟨gb317, 2, none⟩) (Kd.R_far (p := ⟨gb317, 1, none⟩) (Kd.R_far (p := ⟨gb317, 0, none⟩) (Kd.R_far (p := ⟨gb330, 7, none⟩) (Kd.R_far (p := ⟨gb330, 6, none⟩) (Kd.R_far (p := ⟨gb330, 5, none⟩) (Kd.R_far (p := ⟨gb330, 4, none⟩) (Kd.R_far (p := ⟨gb330, 3, none⟩) (Kd.R_far (p := ⟨gb330, 2, none⟩) (Kd.R_far (p := ⟨gb330, 1, none⟩) (Kd.R_far (p := ⟨gb330, 0, none⟩) (Kd.R_mono (Kd.R_mono HO326.out (fun k_ hk => (⟨hk, hk.2⟩ : _ ∧ k_ ≠ gb330))) (fun k_ hk => (⟨hk, hk.1.1.2⟩ : _ ∧ k_ ≠ gb317))) (fun _ hk => hk.1.2) (.int .i64 t318)) (fun _ hk => hk.1.2) (.string t319)) (fun _ hk => hk.1.2) (.string t320)) (fun _ hk => hk.1.2) (.int .i64 t321)) (fun _ hk => hk.1.2) (.int .i64 t322)) (fun _ hk => hk.1.2) (.int .i64 t323)) (fun _ hk => hk.1.2) (.slice Ao12 t324.length co12)) (fun _ hk => hk.1.2) (.int .i64 t327)) (fun _ hk => hk.2) (.int .i64 t318)) (fun _ hk => hk.2) (.string t319)) (fun _ hk => hk.2) (.string t320)) (fun _ hk => hk.2) (.int .i64 t321)) (fun _ hk => hk.2) (.int .i64 t322)) (fun _ hk => hk.2) (.int .i64 t323)) (fun _ hk => hk.2) (.slice Ao12 t324.length co12)) (fun _ hk => hk.2) (.int .i64 t327)) (fun _ hk => trivial), bl⟩
 replace c6 := Bool.eq_false_iff.mpr c6
 subst c6
 have H1 : (some (t318, t319, t320, t321, t322, t323, t324, t327, false)) = some (r1, r2, r3, r4, r5, r6, r7, r8, r9) := by rw [if_neg (show ¬ (false = true) by decide)] at H; exact H
 clear H
 have H := H1
 clear H1
 simp only [Option.some.injEq, Prod.mk.injEq] at H
 obtain ⟨rfl, rfl, rfl, rfl, rfl, rfl, rfl, rfl, rfl⟩ := H
 go_enter Tryz.func111, Tryz.ntmps111
 go_wp2_with (first | ((with_reducible refine gate_dst (N := 2) rfl ?_); (try (refine gate_guard (by rfl) ?_; dsimp only)); refine box_event ?hg (N := 2) ?hd (cs := #[.int .i64 0, .string (⟨#[]⟩ : ByteArray), .string (⟨#[]⟩ : ByteArray), .int .i64 0, .int .i64 0, .int .i64 0, .slice none 0 0, .int .i64 0]) (t := 161) ?hr ?_; (case hd => rfl); (case hg => rfl); (case hr => first | (go_simp; done) | (go_simp; rfl)); intro gb317 hg w14 hbox hb; have BK317 := am (hbox); have GW317 := am (bsz hg : w.heap.size ≤ gb317); have GE317 := GW317; replace HB := am (below_step bl hb); clear hb hbox hg) | (refine gc 164 (some 13) Tryz.func164 (impl_growTree.calls _ _ _ _ _ _ _ _ _ _ _ _ _ _ _ _ _ ?side1 ?side2 A5.out) ?_; (case side1 => exact cb HR0.out); (case side2 => exact HC0.out); rintro e w15 ⟨v325, rfl, ho0, hb⟩; refine ⟨_, rfl, ?_⟩; have HO326 := am (Kd.R_lower (Kd.R_newB ho0 (g := gb317) (o := .cells #[.int .i64 0, .string (⟨#[]⟩ : ByteArray), .string (⟨#[]⟩ : ByteArray), .int .i64 0, .int .i64 0, .int .i64 0, .slice none 0 0, .int .i64 0] 161 (0, 0)) (bk BK317.out)) (below_size bl)); replace BK317 := am (bkb BK317.out hb); replace HB := am (below_step bl hb); clear hb ho0) | ((with_reducible refine gate_dst (N := 4) rfl ?_); (try (refine gate_guard (by rfl) ?_; dsimp only)); refine box_event ?hg (N := 4) ?hd (cs := #[.int .i64 0, .string (⟨#[]⟩ : ByteArray), .string (⟨#[]⟩ : ByteArray), .int .i64 0, .int .i64 0, .int .i64 0, .slice none 0 0, .int .i64 0]) (t := 161) ?hr ?_; (case hd => rfl); (case hg => rfl); (case hr => first | (go_simp; done) | (go_simp; rfl)); intro gb330 hg w16 hbox hb; replace HO326 := am (Kd.R_below (Kd.R_elderB (kr HO326.out) gb330 (Nat.le_of_eq hg.symm)) hb); have BK330 := am (hbox); have GW330 := am (bsz hg : w.heap.size ≤ gb330); have GE330 := GW330; have NB317_330 := am (ne1 hg BK317.out); have NB330_317 := am NB317_330.out.symm; replace BK317 := am (bkb BK317.out hb); replace HB := am (below_step bl hb); clear hb hbox hg; have hnb17 := NB330_317.out; have hnc17 := NB317_330.out; obtain ⟨z18_0, z18_1, z18_2, z18_3, z18_4, z18_5, z18_6, z18_7, y18_0, y18_1, y18_2, y18_3, y18_4, y18_5, y18_6, y18_7⟩ := blk8 BK330.out; obtain ⟨Ao19, co19, eo19⟩ := Kd.R_slice HO326.out; subst eo19; obtain ⟨z20_0, z20_1, z20_2, z20_3, z20_4, z20_5, z20_6, z20_7, y20_0, y20_1, y20_2, y20_3, y20_4, y20_5, y20_6, y20_7⟩ := blk8 BK317.out))
 refine bodyPost_ret (results_ct rfl _ _ gb317 161 #[.int .i64 t318, .string t319, .string t320, .int .i64 t321, .int .i64 t322, .int .i64 t323, .slice Ao19 t324.length co19, .int .i64 t327] (0, 0) _ rfl (bpf BK317.out NB317_330.out) Tryz.underlying161 rfl (by kernel_rfl)) rfl ?_
 exact ⟨_, er, by (with_reducible repeat (first | apply Kd.R_alloc | apply Kd.R_drewN | apply Kd.R_drew)); exact Kd.R_mono (Kd.R_far (p := ⟨gb317, 7, none⟩) (Kd.R_far (p := ⟨gb317, 6, none⟩) (Kd.R_far (p := ⟨gb317, 5, none⟩) (Kd.R_far (p := ⟨gb317, 4, none⟩) (Kd.R_far (p := ⟨gb317, 3, none⟩) (Kd.R_far (p := ⟨gb317, 2, none⟩) (Kd.R_far (p := ⟨gb317, 1, none⟩) (Kd.R_far (p := ⟨gb317, 0, none⟩) (Kd.R_far (p := ⟨gb330, 7, none⟩) (Kd.R_far (p := ⟨gb330, 6, none⟩) (Kd.R_far (p := ⟨gb330, 5, none⟩) (Kd.R_far (p := ⟨gb330, 4, none⟩) (Kd.R_far (p := ⟨gb330, 3, none⟩) (Kd.R_far (p := ⟨gb330, 2, none⟩) (Kd.R_far (p := ⟨gb330, 1, none⟩) (Kd.R_far (p := ⟨gb330, 0, none⟩) (Kd.R_mono (Kd.R_mono HO326.out (fun k_ hk => (⟨hk, hk.2⟩ : _ ∧ k_ ≠ gb330))) (fun k_ hk => (⟨hk, hk.1.1.2⟩ : _ ∧ k_ ≠ gb317))) (fun _ hk => hk.1.2) (.int .i64 t318)) (fun _ hk => hk.1.2) (.string t319)) (fun _ hk => hk.1.2) (.string t320)) (fun _ hk => hk.1.2) (.int .i64 t321)) (fun _ hk => hk.1.2) (.int .i64 t322)) (fun _ hk => hk.1.2) (.int .i64 t323)) (fun _ hk => hk.1.2) (.slice Ao19 t324.length co19)) (fun _ hk => hk.1.2) (.int .i64 t327)) (fun _ hk => hk.2) (.int .i64 t318)) (fun _ hk => hk.2) (.string t319)) (fun _ hk => hk.2) (.string t320)) (fun _ hk => hk.2) (.int .i64 t321)) (fun _ hk => hk.2) (.int .i64 t322)) (fun _ hk => hk.2) (.int .i64 t323)) (fun _ hk => hk.2) (.slice Ao19 t324.length co19)) (fun _ hk => hk.2) (.int .i64 t327)) (fun _ hk => trivial), bl⟩

/-! ### strings_Repeat: function 184 -/
def strings_Repeat.f (a0 : ByteArray) (a1 : Int) : Option ByteArray := if 0 ≤ a1 ∧ a1 ≤ 9223372036854775807 ∧ a0.size * a1.toNat ≤ 140737488355328 then some ⟨(Lib.repeatL a0.data.toList a1.toNat).toArray⟩ else none
theorem strings_Repeat.calls (a0 : ByteArray) (a1 : Int) (r : ByteArray) (w : World) (h : strings_Repeat.f a0 a1 = some r) :
  Calls Tryz.prog 184 #[.string a0, .int .i64 a1] w fun e w' => e = .returned (.string r) ∧ Below w.heap.size w w' := by
 unfold strings_Repeat.f at h
 by_cases hd : 0 ≤ a1 ∧ a1 ≤ 9223372036854775807 ∧ a0.size * a1.toNat ≤ 140737488355328
 ·rw [if_pos hd] at h
  cases h
  obtain ⟨c, rfl⟩ := Int.eq_ofNat_of_zero_le hd.1
  exact Tryz.strings_Repeat a0 c w (by have := hd.2.1; omega) hd.2.2
 rw [if_neg hd] at h; cases h

/-! ### impl_operators: function 167 -/
def impl_operators.f  : Option (List ByteArray) := some (([(⟨#[43]⟩ : ByteArray), (⟨#[45]⟩ : ByteArray), (⟨#[42]⟩ : ByteArray), (⟨#[60]⟩ : ByteArray), (⟨#[60, 61]⟩ : ByteArray), (⟨#[61]⟩ : ByteArray), (⟨#[97, 110, 100]⟩ : ByteArray), (⟨#[111, 114]⟩ : ByteArray)] : List ByteArray))
theorem impl_operators.calls  (r : List ByteArray) (w : World) (h : impl_operators.f  = some r) :
  Calls Tryz.prog 167 #[] w fun e w' => ∃ v0_ : Value, e = .returned (v0_) ∧ Kd.R Kd.string 9 w' w.heap.size (fun _ => True) v0_ r ∧ Below w.heap.size w w' := by
 have HB := am (Below.refl w.heap.size w)
 have H := h
 clear h
 unfold impl_operators.f at H
 generalize h_ : ((([(⟨#[43]⟩ : ByteArray), (⟨#[45]⟩ : ByteArray), (⟨#[42]⟩ : ByteArray), (⟨#[60]⟩ : ByteArray), (⟨#[60, 61]⟩ : ByteArray), (⟨#[61]⟩ : ByteArray), (⟨#[97, 110, 100]⟩ : ByteArray), (⟨#[111, 114]⟩ : ByteArray)] : List ByteArray)) : List ByteArray) = y331 at H
 have Ny331 := am h_.symm; clear h_
 obtain rfl := Option.some.inj H
 go_enter Tryz.func167, Tryz.ntmps167
 go_wp2_with (first | ((with_reducible refine gate_dst (N := 1) rfl ?_); refine Kd.R_lit Kd.string _ 9 ?hg (N := 1) ?hd (xs := ([(⟨#[43]⟩ : ByteArray), (⟨#[45]⟩ : ByteArray), (⟨#[42]⟩ : ByteArray), (⟨#[60]⟩ : ByteArray), (⟨#[60, 61]⟩ : ByteArray), (⟨#[61]⟩ : ByteArray), (⟨#[97, 110, 100]⟩ : ByteArray), (⟨#[111, 114]⟩ : ByteArray)] : List ByteArray)) (inner := [.string (⟨#[43]⟩ : ByteArray), .string (⟨#[45]⟩ : ByteArray), .string (⟨#[42]⟩ : ByteArray), .string (⟨#[60]⟩ : ByteArray), .string (⟨#[60, 61]⟩ : ByteArray), .string (⟨#[61]⟩ : ByteArray), .string (⟨#[97, 110, 100]⟩ : ByteArray), .string (⟨#[111, 114]⟩ : ByteArray)]) (ok := fun _ => True) (okp := fun _ => True) ?hr ?hp (fun _ hk => hk) trivial (Below.refl _ _) (Nat.le_refl _) (by simp) ?_; (case hd => rfl); (case hg => rfl); (case hr => first | (go_simp; done) | (go_simp; rfl)); (case hp => exact (Reps.one (show Kd.M Kd.string _ _ _ (⟨#[43]⟩ : ByteArray) [.string (⟨#[43]⟩ : ByteArray)] from rfl) (Reps.one (show Kd.M Kd.string _ _ _ (⟨#[45]⟩ : ByteArray) [.string (⟨#[45]⟩ : ByteArray)] from rfl) (Reps.one (show Kd.M Kd.string _ _ _ (⟨#[42]⟩ : ByteArray) [.string (⟨#[42]⟩ : ByteArray)] from rfl) (Reps.one (show Kd.M Kd.string _ _ _ (⟨#[60]⟩ : ByteArray) [.string (⟨#[60]⟩ : ByteArray)] from rfl) (Reps.one (show Kd.M Kd.string _ _ _ (⟨#[60, 61]⟩ : ByteArray) [.string (⟨#[60, 61]⟩ : ByteArray)] from rfl) (Reps.one (show Kd.M Kd.string _ _ _ (⟨#[61]⟩ : ByteArray) [.string (⟨#[61]⟩ : ByteArray)] from rfl) (Reps.one (show Kd.M Kd.string _ _ _ (⟨#[97, 110, 100]⟩ : ByteArray) [.string (⟨#[97, 110, 100]⟩ : ByteArray)] from rfl) (Reps.one (show Kd.M Kd.string _ _ _ (⟨#[111, 114]⟩ : ByteArray) [.string (⟨#[111, 114]⟩ : ByteArray)] from rfl) (Reps.none _ _)))))))))); intro v332 w1 ho2 hb hg_ hnew_; clear hg_ hnew_; (first | rw [← Ny331.out] at ho2 | (simp only [Int.reduceToNat] at ho2; rw [← Ny331.out] at ho2)); have HO333 := am (Kd.R_lower ho2 (below_size bl)); replace HB := am (below_step bl hb); clear hb ho2))
 go_ret
 exact ⟨_, er, kr HO333.out, bl⟩

/-! ### impl_functions: function 210 -/
def impl_functions.f  : Option (List ByteArray) := some (([(⟨#[105, 110, 116, 101, 114, 101, 115, 116]⟩ : ByteArray), (⟨#[105, 110, 115, 116, 97, 108, 109, 101, 110, 116]⟩ : ByteArray), (⟨#[108, 97, 116, 101, 114]⟩ : ByteArray), (⟨#[100, 97, 121, 115]⟩ : ByteArray), (⟨#[108, 101, 97, 115, 116]⟩ : ByteArray), (⟨#[109, 111, 115, 116]⟩ : ByteArray), (⟨#[115, 104, 97, 114, 101]⟩ : ByteArray)] : List ByteArray))
theorem impl_functions.calls  (r : List ByteArray) (w : World) (h : impl_functions.f  = some r) :
  Calls Tryz.prog 210 #[] w fun e w' => ∃ v0_ : Value, e = .returned (v0_) ∧ Kd.R Kd.string 9 w' w.heap.size (fun _ => True) v0_ r ∧ Below w.heap.size w w' := by
 have HB := am (Below.refl w.heap.size w)
 have H := h
 clear h
 unfold impl_functions.f at H
 generalize h_ : ((([(⟨#[105, 110, 116, 101, 114, 101, 115, 116]⟩ : ByteArray), (⟨#[105, 110, 115, 116, 97, 108, 109, 101, 110, 116]⟩ : ByteArray), (⟨#[108, 97, 116, 101, 114]⟩ : ByteArray), (⟨#[100, 97, 121, 115]⟩ : ByteArray), (⟨#[108, 101, 97, 115, 116]⟩ : ByteArray), (⟨#[109, 111, 115, 116]⟩ : ByteArray), (⟨#[115, 104, 97, 114, 101]⟩ : ByteArray)] : List ByteArray)) : List ByteArray) = y334 at H
 have Ny334 := am h_.symm; clear h_
 obtain rfl := Option.some.inj H
 go_enter Tryz.func210, Tryz.ntmps210
 go_wp2_with (first | ((with_reducible refine gate_dst (N := 1) rfl ?_); refine Kd.R_lit Kd.string _ 9 ?hg (N := 1) ?hd (xs := ([(⟨#[105, 110, 116, 101, 114, 101, 115, 116]⟩ : ByteArray), (⟨#[105, 110, 115, 116, 97, 108, 109, 101, 110, 116]⟩ : ByteArray), (⟨#[108, 97, 116, 101, 114]⟩ : ByteArray), (⟨#[100, 97, 121, 115]⟩ : ByteArray), (⟨#[108, 101, 97, 115, 116]⟩ : ByteArray), (⟨#[109, 111, 115, 116]⟩ : ByteArray), (⟨#[115, 104, 97, 114, 101]⟩ : ByteArray)] : List ByteArray)) (inner := [.string (⟨#[105, 110, 116, 101, 114, 101, 115, 116]⟩ : ByteArray), .string (⟨#[105, 110, 115, 116, 97, 108, 109, 101, 110, 116]⟩ : ByteArray), .string (⟨#[108, 97, 116, 101, 114]⟩ : ByteArray), .string (⟨#[100, 97, 121, 115]⟩ : ByteArray), .string (⟨#[108, 101, 97, 115, 116]⟩ : ByteArray), .string (⟨#[109, 111, 115, 116]⟩ : ByteArray), .string (⟨#[115, 104, 97, 114, 101]⟩ : ByteArray)]) (ok := fun _ => True) (okp := fun _ => True) ?hr ?hp (fun _ hk => hk) trivial (Below.refl _ _) (Nat.le_refl _) (by simp) ?_; (case hd => rfl); (case hg => rfl); (case hr => first | (go_simp; done) | (go_simp; rfl)); (case hp => exact (Reps.one (show Kd.M Kd.string _ _ _ (⟨#[105, 110, 116, 101, 114, 101, 115, 116]⟩ : ByteArray) [.string (⟨#[105, 110, 116, 101, 114, 101, 115, 116]⟩ : ByteArray)] from rfl) (Reps.one (show Kd.M Kd.string _ _ _ (⟨#[105, 110, 115, 116, 97, 108, 109, 101, 110, 116]⟩ : ByteArray) [.string (⟨#[105, 110, 115, 116, 97, 108, 109, 101, 110, 116]⟩ : ByteArray)] from rfl) (Reps.one (show Kd.M Kd.string _ _ _ (⟨#[108, 97, 116, 101, 114]⟩ : ByteArray) [.string (⟨#[108, 97, 116, 101, 114]⟩ : ByteArray)] from rfl) (Reps.one (show Kd.M Kd.string _ _ _ (⟨#[100, 97, 121, 115]⟩ : ByteArray) [.string (⟨#[100, 97, 121, 115]⟩ : ByteArray)] from rfl) (Reps.one (show Kd.M Kd.string _ _ _ (⟨#[108, 101, 97, 115, 116]⟩ : ByteArray) [.string (⟨#[108, 101, 97, 115, 116]⟩ : ByteArray)] from rfl) (Reps.one (show Kd.M Kd.string _ _ _ (⟨#[109, 111, 115, 116]⟩ : ByteArray) [.string (⟨#[109, 111, 115, 116]⟩ : ByteArray)] from rfl) (Reps.one (show Kd.M Kd.string _ _ _ (⟨#[115, 104, 97, 114, 101]⟩ : ByteArray) [.string (⟨#[115, 104, 97, 114, 101]⟩ : ByteArray)] from rfl) (Reps.none _ _))))))))); intro v335 w1 ho2 hb hg_ hnew_; clear hg_ hnew_; (first | rw [← Ny334.out] at ho2 | (simp only [Int.reduceToNat] at ho2; rw [← Ny334.out] at ho2)); have HO336 := am (Kd.R_lower ho2 (below_size bl)); replace HB := am (below_step bl hb); clear hb ho2))
 go_ret
 exact ⟨_, er, kr HO336.out, bl⟩

/-- What the group's members take of impl_tree_kidsAre: a function, and its contract. -/
structure impl_tree_kidsAre.HK where
 f : Int → ByteArray → ByteArray → Int → Int → Int → List (S161) → Int → ByteArray → Option (Bool)
 calls : ∀ (a0_0 : Int) (a0_1 : ByteArray) (a0_2 : ByteArray) (a0_3 : Int) (a0_4 : Int) (a0_5 : Int) (A0_6 : Option Addr) (c0_6 : Nat) (l0_6 : List (S161)) (a0_7 : Int) (a1 : ByteArray) (r : Bool) (w : World) (hr0_6 : Kd.C k161 w A0_6 l0_6.length l0_6) (hc0_6 : l0_6.length ≤ c0_6) (hsh : Sh w) (h : f a0_0 a0_1 a0_2 a0_3 a0_4 a0_5 l0_6 a0_7 a1 = some r),
  Calls Tryz.prog 185 #[.agg #[.int .i64 a0_0, .string a0_1, .string a0_2, .int .i64 a0_3, .int .i64 a0_4, .int .i64 a0_5, .slice A0_6 l0_6.length c0_6, .int .i64 a0_7], .string a1] w fun e w' => e = .returned (.bool r) ∧ Below w.heap.size w w'
end Go.Proofs.YtodokfmmnihecaaGreatDoor.PFnExactEnvRight
