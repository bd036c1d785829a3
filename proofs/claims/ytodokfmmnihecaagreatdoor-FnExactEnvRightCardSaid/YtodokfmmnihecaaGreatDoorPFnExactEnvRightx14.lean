-- laid by seedprint.py, a program of this session, over contracts that it gives by hand; Lean checks it
-- dented
import Derived.Test.YtodokfmmnihecaaGreatDoorQMin
import Derived.Test.YtodokfmmnihecaaGreatDoorQAut
import Derived.Test.YtodokfmmnihecaaGreatDoorQBlk
import Derived.Test.YtodokfmmnihecaaGreatDoorPFnExactEnvRightx0
import Derived.Test.YtodokfmmnihecaaGreatDoorPFnExactEnvRightx11
import Derived.Test.YtodokfmmnihecaaGreatDoorPFnExactEnvRightx12
import Derived.Test.YtodokfmmnihecaaGreatDoorPFnExactEnvRightx13
namespace Go.Proofs.YtodokfmmnihecaaGreatDoor.PFnExactEnvRight
open Go.RowKit Go.Proofs.YtodokfmmnihecaaGreatDoorW.PrintWords Go.Proofs.YtodokfmmnihecaaGreatDoorW.PrintLast Go.Proofs.YtodokfmmnihecaaGreatDoorW.PrintMore
attribute [local go_sem] max2_int min2_int max_two min_two max_three min_three max_four min_four   -- for this text's walks alone
set_option linter.unusedVariables false
set_option linter.unusedSimpArgs false

/-! ### impl_tree_isExpr: function 220 -/
mutual
def impl_tree_isExpr.j0 (KF : Int → ByteArray → ByteArray → Int → Int → Int → List (S161) → Int → ByteArray → Option (Bool)) : Nat → Bool → Bool → ByteArray → Int → Bool → Int → ByteArray → ByteArray → Int → Int → Int → List (S161) → Int → Option (Bool)
 | 0, _, _, _, _, _, _, _, _, _, _, _, _, _ => none
 | k + 1, x3, x4, x5, x16, x17, x338000, x338001, x338002, x338003, x338004, x338005, x338006, x338007 => if x17 = true then ((impl_inType.f k x338000 x338003).bind fun t338 => (if x3 = true then (if t338 = true then (if x338002.toList = ([] : List UInt8) then ((KF x338000 x338001 x338002 x338003 x338004 x338005 x338006 x338007 x5).bind fun t339 => (some t339)) else (some false)) else (some false)) else (some false))) else (if x16 = 6 then (impl_tree_isExpr.j1 KF k x3 x4 x5 x16 (x16 == 6) x338000 x338001 x338002 x338003 x338004 x338005 x338006 x338007) else (impl_tree_isExpr.j1 KF k x3 x4 x5 x16 (x16 == 7) x338000 x338001 x338002 x338003 x338004 x338005 x338006 x338007))
def impl_tree_isExpr.j1 (KF : Int → ByteArray → ByteArray → Int → Int → Int → List (S161) → Int → ByteArray → Option (Bool)) : Nat → Bool → Bool → ByteArray → Int → Bool → Int → ByteArray → ByteArray → Int → Int → Int → List (S161) → Int → Option (Bool)
 | 0, _, _, _, _, _, _, _, _, _, _, _, _, _ => none
 | k + 1, x3, x4, x5, x16, x30, x338000, x338001, x338002, x338003, x338004, x338005, x338006, x338007 => if x30 = true then ((impl_isFree.f x338001).bind fun t340 => (if t340 = true then (if x4 = true then (if x338002.toList = ([] : List UInt8) then ((KF x338000 x338001 x338002 x338003 x338004 x338005 x338006 x338007 x5).bind fun t341 => (some t341)) else (some false)) else (some false)) else (some false))) else (if x16 = 8 then (impl_tree_isExpr.j2 KF k x3 x4 x5 x16 (x16 == 8) x338000 x338001 x338002 x338003 x338004 x338005 x338006 x338007) else (if x16 = 9 then (impl_tree_isExpr.j2 KF k x3 x4 x5 x16 (x16 == 9) x338000 x338001 x338002 x338003 x338004 x338005 x338006 x338007) else (if x16 = 10 then (impl_tree_isExpr.j2 KF k x3 x4 x5 x16 (x16 == 10) x338000 x338001 x338002 x338003 x338004 x338005 x338006 x338007) else (impl_tree_isExpr.j2 KF k x3 x4 x5 x16 (x16 == 11) x338000 x338001 x338002 x338003 x338004 x338005 x338006 x338007))))
def impl_tree_isExpr.j2 (KF : Int → ByteArray → ByteArray → Int → Int → Int → List (S161) → Int → ByteArray → Option (Bool)) : Nat → Bool → Bool → ByteArray → Int → Bool → Int → ByteArray → ByteArray → Int → Int → Int → List (S161) → Int → Option (Bool)
 | 0, _, _, _, _, _, _, _, _, _, _, _, _, _ => none
 | k + 1, x3, x4, x5, x16, x37, x338000, x338001, x338002, x338003, x338004, x338005, x338006, x338007 => if x37 = true then (if x3 = true then (if x4 = true then (if x338002.toList = ([] : List UInt8) then ((KF x338000 x338001 x338002 x338003 x338004 x338005 x338006 x338007 x5).bind fun t342 => (some t342)) else (some false)) else (some false)) else (some false)) else (if x16 = 12 then ((impl_operators.f).bind fun t343 => ((slices_Contains_string_string.f k t343 x338001).bind fun t346 => (if t346 = true then (if x4 = true then (if x338002.toList = ([] : List UInt8) then ((KF x338000 x338001 x338002 x338003 x338004 x338005 x338006 x338007 (⟨#[101, 101]⟩ : ByteArray)).bind fun t347 => (some t347)) else (some false)) else (some false)) else (some false)))) else (if x16 = 13 then (if x3 = true then (if x4 = true then (if x338002.toList = ([] : List UInt8) then ((KF x338000 x338001 x338002 x338003 x338004 x338005 x338006 x338007 (⟨#[101]⟩ : ByteArray)).bind fun t348 => (some t348)) else (some false)) else (some false)) else (some false)) else (if x16 = 14 then ((impl_functions.f).bind fun t349 => ((slices_Contains_string_string.f k t349 x338001).bind fun t352 => (if t352 = true then ((impl_in.f (x338006.length : Int) 1 4).bind fun t353 => ((strings_Repeat.f (⟨#[101]⟩ : ByteArray) (x338006.length : Int)).bind fun t354 => (if t353 = true then (if x4 = true then (if x338002.toList = ([] : List UInt8) then ((KF x338000 x338001 x338002 x338003 x338004 x338005 x338006 x338007 t354).bind fun t355 => (some t355)) else (some false)) else (some false)) else (some false)))) else ((strings_Repeat.f (⟨#[101]⟩ : ByteArray) (x338006.length : Int)).bind fun t356 => (some false))))) else (some false))))
end
def impl_tree_isExpr.f (KF : Int → ByteArray → ByteArray → Int → Int → Int → List (S161) → Int → ByteArray → Option (Bool)) (k : Nat) (a0_0 : Int) (a0_1 : ByteArray) (a0_2 : ByteArray) (a0_3 : Int) (a0_4 : Int) (a0_5 : Int) (l0_6 : List (S161)) (a0_7 : Int) : Option (Bool) := if a0_0 = 1 then (impl_tree_isExpr.j0 KF k (a0_1.toList == ([] : List UInt8)) (a0_3 == 0) (⟨#[]⟩ : ByteArray) a0_0 (a0_0 == 1) a0_0 a0_1 a0_2 a0_3 a0_4 a0_5 l0_6 a0_7) else (if a0_0 = 2 then (impl_tree_isExpr.j0 KF k (a0_1.toList == ([] : List UInt8)) (a0_3 == 0) (⟨#[]⟩ : ByteArray) a0_0 (a0_0 == 2) a0_0 a0_1 a0_2 a0_3 a0_4 a0_5 l0_6 a0_7) else (if a0_0 = 3 then (impl_tree_isExpr.j0 KF k (a0_1.toList == ([] : List UInt8)) (a0_3 == 0) (⟨#[]⟩ : ByteArray) a0_0 (a0_0 == 3) a0_0 a0_1 a0_2 a0_3 a0_4 a0_5 l0_6 a0_7) else (if a0_0 = 4 then (impl_tree_isExpr.j0 KF k (a0_1.toList == ([] : List UInt8)) (a0_3 == 0) (⟨#[]⟩ : ByteArray) a0_0 (a0_0 == 4) a0_0 a0_1 a0_2 a0_3 a0_4 a0_5 l0_6 a0_7) else (impl_tree_isExpr.j0 KF k (a0_1.toList == ([] : List UInt8)) (a0_3 == 0) (⟨#[]⟩ : ByteArray) a0_0 (a0_0 == 5) a0_0 a0_1 a0_2 a0_3 a0_4 a0_5 l0_6 a0_7))))
theorem impl_tree_isExpr.mono_l (KF KF' : Int → ByteArray → ByteArray → Int → Int → Int → List (S161) → Int → ByteArray → Option (Bool)) (hK : ∀ y0 y1 y2 y3 y4 y5 y6 y7 y8, LeO (KF y0 y1 y2 y3 y4 y5 y6 y7 y8) (KF' y0 y1 y2 y3 y4 y5 y6 y7 y8)) : ∀ k, (∀ y0 y1 y2 y3 y4 y5 y6 y7 y8 y9 y10 y11 y12, LeO (impl_tree_isExpr.j0 KF k y0 y1 y2 y3 y4 y5 y6 y7 y8 y9 y10 y11 y12) (impl_tree_isExpr.j0 KF' (k + 1) y0 y1 y2 y3 y4 y5 y6 y7 y8 y9 y10 y11 y12)) ∧ (∀ y0 y1 y2 y3 y4 y5 y6 y7 y8 y9 y10 y11 y12, LeO (impl_tree_isExpr.j1 KF k y0 y1 y2 y3 y4 y5 y6 y7 y8 y9 y10 y11 y12) (impl_tree_isExpr.j1 KF' (k + 1) y0 y1 y2 y3 y4 y5 y6 y7 y8 y9 y10 y11 y12)) ∧ (∀ y0 y1 y2 y3 y4 y5 y6 y7 y8 y9 y10 y11 y12, LeO (impl_tree_isExpr.j2 KF k y0 y1 y2 y3 y4 y5 y6 y7 y8 y9 y10 y11 y12) (impl_tree_isExpr.j2 KF' (k + 1) y0 y1 y2 y3 y4 y5 y6 y7 y8 y9 y10 y11 y12))
 | 0 => ⟨fun _ _ _ _ _ _ _ _ _ _ _ _ _ r h => by simp [impl_tree_isExpr.j0] at h, fun _ _ _ _ _ _ _ _ _ _ _ _ _ r h => by simp [impl_tree_isExpr.j1] at h, fun _ _ _ _ _ _ _ _ _ _ _ _ _ r h => by simp [impl_tree_isExpr.j2] at h⟩
 | k + 1 => by
  obtain ⟨ih0, ih1, ih2⟩ := impl_tree_isExpr.mono_l KF KF' hK k
  refine ⟨?_, ?_, ?_⟩
  ·intro y0 y1 y2 y3 y4 y5 y6 y7 y8 y9 y10 y11 y12
   unfold impl_tree_isExpr.j0
   repeat' first
   | (with_reducible exact ih0 _ _ _ _ _ _ _ _ _ _ _ _ _)
   | (with_reducible exact ih1 _ _ _ _ _ _ _ _ _ _ _ _ _)
   | (with_reducible exact ih2 _ _ _ _ _ _ _ _ _ _ _ _ _)
   | (with_reducible exact impl_inType.mono _ _ _)
   | (with_reducible exact slices_Contains_string_string.mono _ _ _)
   | (with_reducible exact hK _ _ _ _ _ _ _ _ _)
   | (with_reducible exact LeO.refl _)
   | (with_reducible exact LeO.none _)
   | (with_reducible refine LeO.ite ?_ ?_)
   | (with_reducible refine LeO.bind ?_ (fun _ => ?_))
   | exact ih0 _ _ _ _ _ _ _ _ _ _ _ _ _
   | exact ih1 _ _ _ _ _ _ _ _ _ _ _ _ _
   | exact ih2 _ _ _ _ _ _ _ _ _ _ _ _ _
   | exact impl_inType.mono _ _ _
   | exact slices_Contains_string_string.mono _ _ _
   | exact hK _ _ _ _ _ _ _ _ _
   | exact LeO.none _
   | refine LeO.ite ?_ ?_
   | refine LeO.bind ?_ (fun _ => ?_)
  ·intro y0 y1 y2 y3 y4 y5 y6 y7 y8 y9 y10 y11 y12
   unfold impl_tree_isExpr.j1
   repeat' first
   | (with_reducible exact ih0 _ _ _ _ _ _ _ _ _ _ _ _ _)
   | (with_reducible exact ih1 _ _ _ _ _ _ _ _ _ _ _ _ _)
   | (with_reducible exact ih2 _ _ _ _ _ _ _ _ _ _ _ _ _)
   | (with_reducible exact impl_inType.mono _ _ _)
   | (with_reducible exact slices_Contains_string_string.mono _ _ _)
   | (with_reducible exact hK _ _ _ _ _ _ _ _ _)
   | (with_reducible exact LeO.refl _)
   | (with_reducible exact LeO.none _)
   | (with_reducible refine LeO.ite ?_ ?_)
   | (with_reducible refine LeO.bind ?_ (fun _ => ?_))
   | exact ih0 _ _ _ _ _ _ _ _ _ _ _ _ _
   | exact ih1 _ _ _ _ _ _ _ _ _ _ _ _ _
   | exact ih2 _ _ _ _ _ _ _ _ _ _ _ _ _
   | exact impl_inType.mono _ _ _
   | exact slices_Contains_string_string.mono _ _ _
   | exact hK _ _ _ _ _ _ _ _ _
   | exact LeO.none _
   | refine LeO.ite ?_ ?_
   | refine LeO.bind ?_ (fun _ => ?_)
  intro y0 y1 y2 y3 y4 y5 y6 y7 y8 y9 y10 y11 y12
  unfold impl_tree_isExpr.j2
  repeat' first
  | (with_reducible exact ih0 _ _ _ _ _ _ _ _ _ _ _ _ _)
  | (with_reducible exact ih1 _ _ _ _ _ _ _ _ _ _ _ _ _)
  | (with_reducible exact ih2 _ _ _ _ _ _ _ _ _ _ _ _ _)
  | (with_reducible exact impl_inType.mono _ _ _)
  | (with_reducible exact slices_Contains_string_string.mono _ _ _)
  | (with_reducible exact hK _ _ _ _ _ _ _ _ _)
  | (with_reducible exact LeO.refl _)
  | (with_reducible exact LeO.none _)
  | (with_reducible refine LeO.ite ?_ ?_)
  | (with_reducible refine LeO.bind ?_ (fun _ => ?_))
  | exact ih0 _ _ _ _ _ _ _ _ _ _ _ _ _
  | exact ih1 _ _ _ _ _ _ _ _ _ _ _ _ _
  | exact ih2 _ _ _ _ _ _ _ _ _ _ _ _ _
  | exact impl_inType.mono _ _ _
  | exact slices_Contains_string_string.mono _ _ _
  | exact hK _ _ _ _ _ _ _ _ _
  | exact LeO.none _
  | refine LeO.ite ?_ ?_
  | refine LeO.bind ?_ (fun _ => ?_)
theorem impl_tree_isExpr.mono (KF KF' : Int → ByteArray → ByteArray → Int → Int → Int → List (S161) → Int → ByteArray → Option (Bool)) (hK : ∀ y0 y1 y2 y3 y4 y5 y6 y7 y8, LeO (KF y0 y1 y2 y3 y4 y5 y6 y7 y8) (KF' y0 y1 y2 y3 y4 y5 y6 y7 y8)) : ∀ a0 a1 a2 a3 a4 a5 a6 a7 k, LeO (impl_tree_isExpr.f KF k a0 a1 a2 a3 a4 a5 a6 a7) (impl_tree_isExpr.f KF' (k + 1) a0 a1 a2 a3 a4 a5 a6 a7) := by
 intro a0 a1 a2 a3 a4 a5 a6 a7 k
 obtain ⟨ih0, ih1, ih2⟩ := impl_tree_isExpr.mono_l KF KF' hK k
 unfold impl_tree_isExpr.f
 repeat' first
   | (with_reducible exact ih0 _ _ _ _ _ _ _ _ _ _ _ _ _)
   | (with_reducible exact ih1 _ _ _ _ _ _ _ _ _ _ _ _ _)
   | (with_reducible exact ih2 _ _ _ _ _ _ _ _ _ _ _ _ _)
   | (with_reducible exact impl_inType.mono _ _ _)
   | (with_reducible exact slices_Contains_string_string.mono _ _ _)
   | (with_reducible exact hK _ _ _ _ _ _ _ _ _)
   | (with_reducible exact LeO.refl _)
   | (with_reducible exact LeO.none _)
   | (with_reducible refine LeO.ite ?_ ?_)
   | (with_reducible refine LeO.bind ?_ (fun _ => ?_))
   | exact ih0 _ _ _ _ _ _ _ _ _ _ _ _ _
   | exact ih1 _ _ _ _ _ _ _ _ _ _ _ _ _
   | exact ih2 _ _ _ _ _ _ _ _ _ _ _ _ _
   | exact impl_inType.mono _ _ _
   | exact slices_Contains_string_string.mono _ _ _
   | exact hK _ _ _ _ _ _ _ _ _
   | exact LeO.none _
   | refine LeO.ite ?_ ?_
   | refine LeO.bind ?_ (fun _ => ?_)
def impl_tree_isExpr.T1 : Bool × List (List Nat × List Nat) := (true, [([], []), ([0], [0]), ([1], [1]), ([2], [2]), ([], []), ([4], [4]), ([5], [5]), ([6], [6]), ([3, 0, 1, 2, 3], [3]), ([7, 8, 0, 1, 2, 3, 4, 5, 6, 7, 8], [7])])
def impl_tree_isExpr.B1 : List Nat := [0, 1, 3, 7, 0, 16, 48, 112, 15, 511]
theorem impl_tree_isExpr.tab1 : rtab .any (opsOf Tryz.f220 1) = impl_tree_isExpr.T1 := by kernel_rfl
theorem impl_tree_isExpr.bits1 : waitsOk impl_tree_isExpr.T1.2 impl_tree_isExpr.B1 = true := by kernel_rfl
def impl_tree_isExpr.T23 : Bool × List (List Nat × List Nat) := (true, [([], []), ([], []), ([1], [1]), ([2], [2]), ([0, 3, 0], [0, 3]), ([4, 4], [4]), ([5], [5]), ([6, 5], [5, 6]), ([7, 5], [5, 7]), ([8, 5, 5], [5, 8]), ([5, 9], [5, 9]), ([], []), ([11], [11]), ([12], [12]), ([13, 9], [13]), ([10, 14, 0, 1, 2, 3, 4, 5, 6, 7, 8, 9, 10], [10]), ([14, 15, 0, 1, 2, 3, 4, 5, 6, 7, 8, 9, 10, 11, 12, 13, 14, 15], [14])])
def impl_tree_isExpr.B23 : List Nat := [0, 0, 2, 6, 15, 31, 63, 127, 255, 511, 1023, 0, 2048, 6144, 15359, 32767, 65535]
theorem impl_tree_isExpr.tab23 : rtab .any (opsOf Tryz.f220 23) = impl_tree_isExpr.T23 := by kernel_rfl
theorem impl_tree_isExpr.bits23 : waitsOk impl_tree_isExpr.T23.2 impl_tree_isExpr.B23 = true := by kernel_rfl
set_option maxHeartbeats 8000000 in
set_option maxRecDepth 100000 in
theorem impl_tree_isExpr.calls (KK : impl_tree_kidsAre.HK) (k : Nat) (a0_0 : Int) (a0_1 : ByteArray) (a0_2 : ByteArray) (a0_3 : Int) (a0_4 : Int) (a0_5 : Int) (A0_6 : Option Addr) (c0_6 : Nat) (l0_6 : List (S161)) (a0_7 : Int) (r : Bool) (w : World) (hr0_6 : Kd.C k161 w A0_6 l0_6.length l0_6) (hc0_6 : l0_6.length ≤ c0_6) (hsh : Sh w) (h : impl_tree_isExpr.f KK.f k a0_0 a0_1 a0_2 a0_3 a0_4 a0_5 l0_6 a0_7 = some r) :
  Calls Tryz.prog 220 #[.agg #[.int .i64 a0_0, .string a0_1, .string a0_2, .int .i64 a0_3, .int .i64 a0_4, .int .i64 a0_5, .slice A0_6 l0_6.length c0_6, .int .i64 a0_7]] w fun e w' => e = .returned (.bool r) ∧ Below w.heap.size w w' := by
 have hu161 := Tryz.underlying161
 have HR0_6 := am hr0_6
 have HC0_6 := am hc0_6
 clear hr0_6 hc0_6
 have HSH := am hsh; clear hsh
 have HB := am (Below.refl w.heap.size w)
 have H := h
 clear h
 unfold impl_tree_isExpr.f at H
 have HC2 := am H; clear H
 go_enter Tryz.func220, Tryz.ntmps220
 try go_wp2_with (first | ((with_reducible refine gate_dst (N := 1) rfl ?_); (try (refine gate_guard (by rfl) ?_; dsimp only)); refine box_event ?hg (N := 1) ?hd (cs := #[.int .i64 a0_0, .string a0_1, .string a0_2, .int .i64 a0_3, .int .i64 a0_4, .int .i64 a0_5, .slice A0_6 l0_6.length c0_6, .int .i64 a0_7]) (t := 161) ?hr ?_; (case hd => rfl); (case hg => rfl); (case hr => first | (go_simp; done) | (go_simp; rfl)); intro gb337 hg w3 hbox hb; have BK337 := am (hbox); have GW337 := am (bsz hg : w.heap.size ≤ gb337); have GE337 := GW337; replace HB := am (below_step bl hb); clear hb hbox hg))
 have n0_ := am (blk_drew BK337.out)
 have n1_ := am (below_drew1 HB.out)
 clear BK337
 clear HB
 have BK337 := n0_
 have HB := n1_
 clear n0_ n1_
 refine start_ (n := 10) (S := fun w' => w'.cell? ⟨gb337, 0, none⟩ = some (.int .i64 a0_0) ∧ w'.cell? ⟨gb337, 1, none⟩ = some (.string a0_1) ∧ w'.cell? ⟨gb337, 2, none⟩ = some (.string a0_2) ∧ w'.cell? ⟨gb337, 3, none⟩ = some (.int .i64 a0_3) ∧ w'.cell? ⟨gb337, 4, none⟩ = some (.int .i64 a0_4) ∧ w'.cell? ⟨gb337, 5, none⟩ = some (.int .i64 a0_5) ∧ w'.cell? ⟨gb337, 6, none⟩ = some (.slice A0_6 l0_6.length c0_6) ∧ w'.cell? ⟨gb337, 7, none⟩ = some (.int .i64 a0_7)) (ds := []) #[F_, F_, F_, F_, F_, F_, F_, F_, F_, F_] (by kernel_rfl) rfl rfl ⟨(blk_cell BK337.out 0).trans rfl, (blk_cell BK337.out 1).trans rfl, (blk_cell BK337.out 2).trans rfl, (blk_cell BK337.out 3).trans rfl, (blk_cell BK337.out 4).trans rfl, (blk_cell BK337.out 5).trans rfl, (blk_cell BK337.out 6).trans rfl, (blk_cell BK337.out 7).trans rfl⟩ (fun hHeld => ?_); refine with_tabW impl_tree_isExpr.tab1 impl_tree_isExpr.bits1 (fun HT_ HW_ => ?_)
 generalize w3.drew = w4 at BK337 HB hHeld ⊢
 refine pv 0 6 ?_
 refine pv 1 7 ?_
 refine pv 4 10 ?_
 refine pv 5 11 ?_
 refine tv8 2 8 hHeld ?_
 refine pv 3 9 ?_
 refine pv 8 3 ?_
 refine tv8 6 12 hHeld ?_
 refine pv 7 13 ?_
 refine pv 9 4 ?_
 refine done_ (done_of HT_.out (by kernel_rfl)) ?_
 obtain ⟨z5_0, z5_1, z5_2, z5_3, z5_4, z5_5, z5_6, z5_7, y5_0, y5_1, y5_2, y5_3, y5_4, y5_5, y5_6, y5_7⟩ := blk8 BK337.out
 go_upto_if 17 with (fail)
 go_cut [17] (fun v17 wc => ∃ (kq : Nat) (x17_1 : Bool), v17 = .bool x17_1 ∧ Aside0 (impl_tree_isExpr.j0 KK.f kq (a0_1.toList == ([] : List UInt8)) (a0_3 == 0) (⟨#[]⟩ : ByteArray) a0_0 x17_1 a0_0 a0_1 a0_2 a0_3 a0_4 a0_5 l0_6 a0_7 = some r) ∧ Aside0 (kq ≤ k) ∧ Aside0 (wc.heap[gb337]? = some (.cells #[.int .i64 a0_0, .string a0_1, .string a0_2, .int .i64 a0_3, .int .i64 a0_4, .int .i64 a0_5, (.slice A0_6 l0_6.length c0_6), .int .i64 a0_7] 161 (0, 0))) ∧ Aside0 (Below w.heap.size w wc))
 case first =>
  have H := HC2.out
  clear HC2
  revert H; refine iQ (fun c6b0 c6b1 H => ?_) fun c6 c6b0 c6b1 H => ?_
  ·(first | rw [c6b0] | (simp only [i64_w, i32_w]; rw [c6b0]) | skip)
   have H' := am H; clear H
   go_wp2
   go_meet
   case rel => exact ⟨_, ((a0_0 == 1)), rs, H', ⟨by first | omega | exact Nat.le_refl _⟩, ⟨bk BK337.out⟩, ⟨bl⟩⟩
  (first | rw [c6b0] | (simp only [i64_w, i32_w]; rw [c6b0]) | skip)
  revert H; refine iQ (fun c7b0 c7b1 H => ?_) fun c7 c7b0 c7b1 H => ?_
  ·have H' := am H; clear H
   go_wp2
   go_meet
   case rel => exact ⟨_, ((a0_0 == 2)), rs, H', ⟨by first | omega | exact Nat.le_refl _⟩, ⟨bk BK337.out⟩, ⟨bl⟩⟩
  revert H; refine iQ (fun c8b0 c8b1 H => ?_) fun c8 c8b0 c8b1 H => ?_
  ·have H' := am H; clear H
   go_wp2
   go_meet
   case rel => exact ⟨_, ((a0_0 == 3)), rs, H', ⟨by first | omega | exact Nat.le_refl _⟩, ⟨bk BK337.out⟩, ⟨bl⟩⟩
  revert H; refine iQ (fun c9b0 c9b1 H => ?_) fun c9 c9b0 c9b1 H => ?_
  ·have H' := am H; clear H
   go_wp2
   go_meet
   case rel => exact ⟨_, ((a0_0 == 4)), rs, H', ⟨by first | omega | exact Nat.le_refl _⟩, ⟨bk BK337.out⟩, ⟨bl⟩⟩
  have H' := am H; clear H
  go_wp2
  go_meet
  case rel => exact ⟨_, ((a0_0 == 5)), rs, H', ⟨by first | omega | exact Nat.le_refl _⟩, ⟨bk BK337.out⟩, ⟨bl⟩⟩
 case rest => as_aux_lemma =>
  clear HC2
  try clear z5_0 z5_1 z5_2 z5_3 z5_4 z5_5 z5_6 z5_7; try clear y5_0 y5_1 y5_2 y5_3 y5_4 y5_5 y5_6 y5_7
  obtain ⟨kq, x17_1, rfl, HA, HJ1, BK337, HB⟩ := hcut
  cases kq with
  | zero => exact absurd HA.out (by simp [impl_tree_isExpr.j0])
  | succ kj1 =>
   have H := HA.out
   clear HA
   simp only [impl_tree_isExpr.j0] at H
   replace H := iT H; rcases H with ⟨rfl, H⟩ | ⟨rfl, H⟩
   ·revert H; refine bj fun t338 A11 H => ?_
    revert H; refine iK (fun c12b0 c12b1 c12b3 H => ?_) fun c12b0 c12b1 c12b3 c12b3' H => ?_
    ·replace H := iT H; rcases H with ⟨rfl, H⟩ | ⟨rfl, H⟩
     ·revert H; refine iL (fun c14b0 c14b3 c14b1 H => ?_) fun c14 c14b0 c14b3 c14b1 H => ?_
      ·revert H; refine bj fun t339 A15 H => ?_
       obtain rfl := Option.some.inj H
       obtain ⟨z16_0, z16_1, z16_2, z16_3, z16_4, z16_5, z16_6, z16_7, y16_0, y16_1, y16_2, y16_3, y16_4, y16_5, y16_6, y16_7⟩ := blk8 BK337.out
       go_wp2_with (first | (refine gc 68 (some 29) Tryz.func68 (impl_inType.calls _ _ _ _ _ A11.out) ?_; rintro e w' ⟨rfl, ⟨nd, rfl⟩⟩; refine ⟨_, rfl, ?_⟩) | (go_at_call 185; (with_reducible refine (KK.calls _ _ _ _ _ _ _ _ _ _ _ _ _ ?side1 ?side2 ?side3 A15.out).mono ?_); (case side1 => exact Kd.C_below HR0_6.out bl); (case side2 => exact HC0_6.out); (case side3 => exact Sh.below HSH.out bl); rintro e w17 ⟨rfl, hb⟩; replace BK337 := am (bkb BK337.out hb); replace HB := am (below_step bl hb); clear hb))
       go_ret
       exact ⟨er, bl⟩
      obtain rfl := Option.some.inj H
      obtain ⟨z18_0, z18_1, z18_2, z18_3, z18_4, z18_5, z18_6, z18_7, y18_0, y18_1, y18_2, y18_3, y18_4, y18_5, y18_6, y18_7⟩ := blk8 BK337.out
      go_wp2_with (first | (refine gc 68 (some 29) Tryz.func68 (impl_inType.calls _ _ _ _ _ A11.out) ?_; rintro e w' ⟨rfl, ⟨nd, rfl⟩⟩; refine ⟨_, rfl, ?_⟩))
      go_ret
      exact ⟨er, bl⟩
     obtain rfl := Option.some.inj H
     obtain ⟨z19_0, z19_1, z19_2, z19_3, z19_4, z19_5, z19_6, z19_7, y19_0, y19_1, y19_2, y19_3, y19_4, y19_5, y19_6, y19_7⟩ := blk8 BK337.out
     go_wp2_with (first | (refine gc 68 (some 29) Tryz.func68 (impl_inType.calls _ _ _ _ _ A11.out) ?_; rintro e w' ⟨rfl, ⟨nd, rfl⟩⟩; refine ⟨_, rfl, ?_⟩))
     go_ret
     exact ⟨er, bl⟩
    obtain rfl := Option.some.inj H
    obtain ⟨z20_0, z20_1, z20_2, z20_3, z20_4, z20_5, z20_6, z20_7, y20_0, y20_1, y20_2, y20_3, y20_4, y20_5, y20_6, y20_7⟩ := blk8 BK337.out
    go_wp2_with (first | (refine gc 68 (some 29) Tryz.func68 (impl_inType.calls _ _ _ _ _ A11.out) ?_; rintro e w' ⟨rfl, ⟨nd, rfl⟩⟩; refine ⟨_, rfl, ?_⟩))
    go_ret
    exact ⟨er, bl⟩
   have HC21 := am H; clear H
   go_upto_if 30 with (fail)
   go_cut [30] (fun v30 wc => ∃ (kq : Nat) (x30_20 : Bool), v30 = .bool x30_20 ∧ Aside0 (impl_tree_isExpr.j1 KK.f kq (a0_1.toList == ([] : List UInt8)) (a0_3 == 0) (⟨#[]⟩ : ByteArray) a0_0 x30_20 a0_0 a0_1 a0_2 a0_3 a0_4 a0_5 l0_6 a0_7 = some r) ∧ Aside0 (kq ≤ kj1) ∧ Aside0 (wc.heap[gb337]? = some (.cells #[.int .i64 a0_0, .string a0_1, .string a0_2, .int .i64 a0_3, .int .i64 a0_4, .int .i64 a0_5, (.slice A0_6 l0_6.length c0_6), .int .i64 a0_7] 161 (0, 0))) ∧ Aside0 (Below w.heap.size w wc))
   case first =>
    have H := HC21.out
    clear HC21
    revert H; refine iQ (fun c22b0 c22b1 H => ?_) fun c22 c22b0 c22b1 H => ?_
    ·(first | rw [c22b0] | (simp only [i64_w, i32_w]; rw [c22b0]) | skip)
     have H' := am H; clear H
     go_wp2
     go_meet
     case rel => exact ⟨_, ((a0_0 == 6)), rs, H', ⟨by have := HJ1.out; first | omega | exact Nat.le_refl _⟩, ⟨bk BK337.out⟩, ⟨bl⟩⟩
    (first | rw [c22b0] | (simp only [i64_w, i32_w]; rw [c22b0]) | skip)
    have H' := am H; clear H
    go_wp2
    go_meet
    case rel => exact ⟨_, ((a0_0 == 7)), rs, H', ⟨by have := HJ1.out; first | omega | exact Nat.le_refl _⟩, ⟨bk BK337.out⟩, ⟨bl⟩⟩
   case rest => as_aux_lemma =>
    clear HC21
    try clear z5_0 z5_1 z5_2 z5_3 z5_4 z5_5 z5_6 z5_7; try clear y5_0 y5_1 y5_2 y5_3 y5_4 y5_5 y5_6 y5_7
    obtain ⟨kq, x30_20, rfl, HA, HJ20, BK337, HB⟩ := hcut
    cases kq with
    | zero => exact absurd HA.out (by simp [impl_tree_isExpr.j1])
    | succ kj20 =>
     have H := HA.out
     clear HA
     simp only [impl_tree_isExpr.j1] at H
     replace H := iT H; rcases H with ⟨rfl, H⟩ | ⟨rfl, H⟩
     ·revert H; refine bj fun t340 A24 H => ?_
      replace H := iT H; rcases H with ⟨rfl, H⟩ | ⟨rfl, H⟩
      ·revert H; refine iR (fun c26b0 c26b1 H => ?_) fun c26b0 c26b1 c26b3 H => ?_
       ·revert H; refine iL (fun c27b0 c27b3 c27b1 H => ?_) fun c27 c27b0 c27b3 c27b1 H => ?_
        ·revert H; refine bj fun t341 A28 H => ?_
         obtain rfl := Option.some.inj H
         obtain ⟨z29_0, z29_1, z29_2, z29_3, z29_4, z29_5, z29_6, z29_7, y29_0, y29_1, y29_2, y29_3, y29_4, y29_5, y29_6, y29_7⟩ := blk8 BK337.out
         go_wp2_with (first | (refine gc 64 (some 36) Tryz.func64 (impl_isFree.calls _ _ _ ?side1 A24.out) ?_; (case side1 => exact Sh.below HSH.out bl); rintro e w30 ⟨rfl, hb⟩; refine ⟨_, rfl, ?_⟩; replace BK337 := am (bkb BK337.out hb); replace HB := am (below_step bl hb); clear hb; obtain ⟨z31_0, z31_1, z31_2, z31_3, z31_4, z31_5, z31_6, z31_7, y31_0, y31_1, y31_2, y31_3, y31_4, y31_5, y31_6, y31_7⟩ := blk8 BK337.out) | (go_at_call 185; (with_reducible refine (KK.calls _ _ _ _ _ _ _ _ _ _ _ _ _ ?side1 ?side2 ?side3 A28.out).mono ?_); (case side1 => exact cb HR0_6.out); (case side2 => exact HC0_6.out); (case side3 => exact Sh.below HSH.out bl); rintro e w32 ⟨rfl, hb⟩; replace BK337 := am (bkb BK337.out hb); replace HB := am (below_step bl hb); clear hb))
         go_ret
         exact ⟨er, bl⟩
        obtain rfl := Option.some.inj H
        obtain ⟨z33_0, z33_1, z33_2, z33_3, z33_4, z33_5, z33_6, z33_7, y33_0, y33_1, y33_2, y33_3, y33_4, y33_5, y33_6, y33_7⟩ := blk8 BK337.out
        go_wp2_with (first | (refine gc 64 (some 36) Tryz.func64 (impl_isFree.calls _ _ _ ?side1 A24.out) ?_; (case side1 => exact Sh.below HSH.out bl); rintro e w34 ⟨rfl, hb⟩; refine ⟨_, rfl, ?_⟩; replace BK337 := am (bkb BK337.out hb); replace HB := am (below_step bl hb); clear hb; obtain ⟨z35_0, z35_1, z35_2, z35_3, z35_4, z35_5, z35_6, z35_7, y35_0, y35_1, y35_2, y35_3, y35_4, y35_5, y35_6, y35_7⟩ := blk8 BK337.out))
        go_ret
        exact ⟨er, bl⟩
       obtain rfl := Option.some.inj H
       obtain ⟨z36_0, z36_1, z36_2, z36_3, z36_4, z36_5, z36_6, z36_7, y36_0, y36_1, y36_2, y36_3, y36_4, y36_5, y36_6, y36_7⟩ := blk8 BK337.out
       go_wp2_with (first | (refine gc 64 (some 36) Tryz.func64 (impl_isFree.calls _ _ _ ?side1 A24.out) ?_; (case side1 => exact Sh.below HSH.out bl); rintro e w37 ⟨rfl, hb⟩; refine ⟨_, rfl, ?_⟩; replace BK337 := am (bkb BK337.out hb); replace HB := am (below_step bl hb); clear hb))
       go_ret
       exact ⟨er, bl⟩
      obtain rfl := Option.some.inj H
      obtain ⟨z38_0, z38_1, z38_2, z38_3, z38_4, z38_5, z38_6, z38_7, y38_0, y38_1, y38_2, y38_3, y38_4, y38_5, y38_6, y38_7⟩ := blk8 BK337.out
      go_wp2_with (first | (refine gc 64 (some 36) Tryz.func64 (impl_isFree.calls _ _ _ ?side1 A24.out) ?_; (case side1 => exact Sh.below HSH.out bl); rintro e w39 ⟨rfl, hb⟩; refine ⟨_, rfl, ?_⟩; replace BK337 := am (bkb BK337.out hb); replace HB := am (below_step bl hb); clear hb))
      go_ret
      exact ⟨er, bl⟩
     have HC40 := am H; clear H
     go_upto_if 37 with (fail)
     go_cut [37] (fun v37 wc => ∃ (kq : Nat) (x37_39 : Bool), v37 = .bool x37_39 ∧ Aside0 (impl_tree_isExpr.j2 KK.f kq (a0_1.toList == ([] : List UInt8)) (a0_3 == 0) (⟨#[]⟩ : ByteArray) a0_0 x37_39 a0_0 a0_1 a0_2 a0_3 a0_4 a0_5 l0_6 a0_7 = some r) ∧ Aside0 (kq ≤ kj20) ∧ Aside0 (wc.heap[gb337]? = some (.cells #[.int .i64 a0_0, .string a0_1, .string a0_2, .int .i64 a0_3, .int .i64 a0_4, .int .i64 a0_5, (.slice A0_6 l0_6.length c0_6), .int .i64 a0_7] 161 (0, 0))) ∧ Aside0 (Below w.heap.size w wc))
     case first =>
      have H := HC40.out
      clear HC40
      revert H; refine iQ (fun c41b0 c41b1 H => ?_) fun c41 c41b0 c41b1 H => ?_
      ·(first | rw [c41b0] | (simp only [i64_w, i32_w]; rw [c41b0]) | skip)
       have H' := am H; clear H
       go_wp2
       go_meet
       case rel => exact ⟨_, ((a0_0 == 8)), rs, H', ⟨by have := HJ1.out; have := HJ20.out; first | omega | exact Nat.le_refl _⟩, ⟨bk BK337.out⟩, ⟨bl⟩⟩
      (first | rw [c41b0] | (simp only [i64_w, i32_w]; rw [c41b0]) | skip)
      revert H; refine iQ (fun c42b0 c42b1 H => ?_) fun c42 c42b0 c42b1 H => ?_
      ·have H' := am H; clear H
       go_wp2
       go_meet
       case rel => exact ⟨_, ((a0_0 == 9)), rs, H', ⟨by have := HJ1.out; have := HJ20.out; first | omega | exact Nat.le_refl _⟩, ⟨bk BK337.out⟩, ⟨bl⟩⟩
      revert H; refine iQ (fun c43b0 c43b1 H => ?_) fun c43 c43b0 c43b1 H => ?_
      ·have H' := am H; clear H
       go_wp2
       go_meet
       case rel => exact ⟨_, ((a0_0 == 10)), rs, H', ⟨by have := HJ1.out; have := HJ20.out; first | omega | exact Nat.le_refl _⟩, ⟨bk BK337.out⟩, ⟨bl⟩⟩
      have H' := am H; clear H
      go_wp2
      go_meet
      case rel => exact ⟨_, ((a0_0 == 11)), rs, H', ⟨by have := HJ1.out; have := HJ20.out; first | omega | exact Nat.le_refl _⟩, ⟨bk BK337.out⟩, ⟨bl⟩⟩
     case rest => as_aux_lemma =>
      clear HC40
      try clear z5_0 z5_1 z5_2 z5_3 z5_4 z5_5 z5_6 z5_7; try clear y5_0 y5_1 y5_2 y5_3 y5_4 y5_5 y5_6 y5_7
      obtain ⟨kq, x37_39, rfl, HA, HJ39, BK337, HB⟩ := hcut
      cases kq with
      | zero => exact absurd HA.out (by simp [impl_tree_isExpr.j2])
      | succ kj39 =>
       have H := HA.out
       clear HA
       simp only [impl_tree_isExpr.j2] at H
       replace H := iT H; rcases H with ⟨rfl, H⟩ | ⟨rfl, H⟩
       ·revert H; refine iK (fun c45b0 c45b1 c45b3 H => ?_) fun c45b0 c45b1 c45b3 c45b3' H => ?_
        ·revert H; refine iR (fun c46b0 c46b1 H => ?_) fun c46b0 c46b1 c46b3 H => ?_
         ·revert H; refine iL (fun c47b0 c47b3 c47b1 H => ?_) fun c47 c47b0 c47b3 c47b1 H => ?_
          ·revert H; refine bj fun t342 A48 H => ?_
           obtain rfl := Option.some.inj H
           obtain ⟨z49_0, z49_1, z49_2, z49_3, z49_4, z49_5, z49_6, z49_7, y49_0, y49_1, y49_2, y49_3, y49_4, y49_5, y49_6, y49_7⟩ := blk8 BK337.out
           go_wp2_with (first | (go_at_call 185; (with_reducible refine (KK.calls _ _ _ _ _ _ _ _ _ _ _ _ _ ?side1 ?side2 ?side3 A48.out).mono ?_); (case side1 => exact cb HR0_6.out); (case side2 => exact HC0_6.out); (case side3 => exact Sh.below HSH.out bl); rintro e w50 ⟨rfl, hb⟩; replace BK337 := am (bkb BK337.out hb); replace HB := am (below_step bl hb); clear hb))
           go_ret
           exact ⟨er, bl⟩
          obtain rfl := Option.some.inj H
          obtain ⟨z51_0, z51_1, z51_2, z51_3, z51_4, z51_5, z51_6, z51_7, y51_0, y51_1, y51_2, y51_3, y51_4, y51_5, y51_6, y51_7⟩ := blk8 BK337.out
          go_wp2
          go_ret
          exact ⟨er, bl⟩
         obtain rfl := Option.some.inj H
         go_wp2
         go_ret
         exact ⟨er, bl⟩
        obtain rfl := Option.some.inj H
        go_wp2
        go_ret
        exact ⟨er, bl⟩
       revert H; refine iQ (fun c52b0 c52b1 H => ?_) fun c52 c52b0 c52b1 H => ?_
       ·revert H; refine bj fun t343 A53 H => ?_
        revert H; refine bj fun t346 A54 H => ?_
        replace H := iT H; rcases H with ⟨rfl, H⟩ | ⟨rfl, H⟩
        ·revert H; refine iR (fun c56b0 c56b1 H => ?_) fun c56b0 c56b1 c56b3 H => ?_
         ·revert H; refine iL (fun c57b0 c57b3 c57b1 H => ?_) fun c57 c57b0 c57b3 c57b1 H => ?_
          ·revert H; refine bj fun t347 A58 H => ?_
           obtain rfl := Option.some.inj H
           try go_wp2
           have n0_ := am (blk_drew BK337.out)
           have n1_ := am (below_drew1 HB.out)
           clear BK337
           clear HB
           have BK337 := n0_
           have HB := n1_
           clear n0_ n1_
           refine start_ (n := 7) (S := fun w' => w'.cell? ⟨gb337, 0, none⟩ = some (.int .i64 a0_0) ∧ w'.cell? ⟨gb337, 1, none⟩ = some (.string a0_1) ∧ w'.cell? ⟨gb337, 2, none⟩ = some (.string a0_2) ∧ w'.cell? ⟨gb337, 3, none⟩ = some (.int .i64 a0_3) ∧ w'.cell? ⟨gb337, 4, none⟩ = some (.int .i64 a0_4) ∧ w'.cell? ⟨gb337, 5, none⟩ = some (.int .i64 a0_5) ∧ w'.cell? ⟨gb337, 6, none⟩ = some (.slice A0_6 l0_6.length c0_6) ∧ w'.cell? ⟨gb337, 7, none⟩ = some (.int .i64 a0_7)) (ds := []) #[F_, F_, F_, F_, F_, F_, F_] (by kernel_rfl) rfl rfl ⟨(blk_cell BK337.out 0).trans rfl, (blk_cell BK337.out 1).trans rfl, (blk_cell BK337.out 2).trans rfl, (blk_cell BK337.out 3).trans rfl, (blk_cell BK337.out 4).trans rfl, (blk_cell BK337.out 5).trans rfl, (blk_cell BK337.out 6).trans rfl, (blk_cell BK337.out 7).trans rfl⟩ (fun hHeld => ?_)
           generalize wc.drew = w59 at BK337 HB hHeld ⊢
           refine pv 1 45 ?_
           refine pv 2 46 ?_
           refine tv8 3 47 hHeld ?_
           refine ov 0 44 (fun K hK => ?_)
           refine gk Tryz.func167 (impl_operators.calls _ _ A53.out) ?_
           rintro e w60 ⟨v344, rfl, ho0, hb⟩
           refine ⟨_, rfl, ?_⟩
           have n0_ := am (Kd.R_lower ho0 (below_size bl))
           have n1_ := am (bkb BK337.out hb)
           have n2_ := am (below_step bl hb)
           clear BK337
           clear HB
           have HO345 := n0_
           have BK337 := n1_
           have HB := n2_
           clear n0_ n1_ n2_
           skip
           skip
           skip
           skip
           skip
           obtain ⟨Ao61, co61, eo61⟩ := Kd.R_slice HO345.out
           (first | subst eo61 | (injection eo61 with f1_ f2_ f3_; have f4_ := f1_.symm; have f5_ := f3_.symm; clear f1_ f2_ f3_; subst f4_; subst f5_))
           refine hK.out _ _ (cel8 BK337.out) (fun hHeld => ?_)
           clear hK K
           refine norm_ (a' := ?_) ?_ ?_
           rotate_left
           ·show Act.put _ (some 44) _ = _
            simp only [Act.put, z1, z2, z3, i64_w, i32_w]
            rfl
           refine ov 4 48 (fun K hK => ?_)
           refine gk Tryz.func69 (slices_Contains_string_string.calls _ _ _ _ _ _ _ ?side1 ?side2 A54.out) ?_
           (case side1 => exact cc (Kd.R_reads' HO345.out).2.2)
           (case side2 => exact (Kd.R_reads' HO345.out).2.1)
           rintro e w' ⟨rfl, ⟨nd, rfl⟩⟩
           refine ⟨_, rfl, ?_⟩
           refine hK.out _ _ (cel8 BK337.out) (fun hHeld => ?_)
           clear hK K
           refine norm_ (a' := ?_) ?_ ?_
           rotate_left
           ·show Act.put _ (some 48) _ = _
            simp only [Act.put, z1, z2, z3, i64_w, i32_w]
            rfl
           refine pv 5 3 ?_
           refine pv 6 5 ?_
           refine done_ (by kernel_rfl) ?_
           obtain ⟨z62_0, z62_1, z62_2, z62_3, z62_4, z62_5, z62_6, z62_7, y62_0, y62_1, y62_2, y62_3, y62_4, y62_5, y62_6, y62_7⟩ := blk8 BK337.out
           try go_wp2_with (first | (go_at_call 185; (with_reducible refine (KK.calls _ _ _ _ _ _ _ _ _ _ _ _ _ ?side1 ?side2 ?side3 A58.out).mono ?_); (case side1 => exact Kd.C_below HR0_6.out bl); (case side2 => exact HC0_6.out); (case side3 => exact Sh.below HSH.out bl); rintro e w63 ⟨rfl, hb⟩; replace HO345 := am (rb HO345.out hb); replace BK337 := am (bkb BK337.out hb); replace HB := am (below_step bl hb); clear hb))
           go_ret
           exact ⟨er, bl⟩
          obtain rfl := Option.some.inj H
          try go_wp2
          have n0_ := am (blk_drew BK337.out)
          have n1_ := am (below_drew1 HB.out)
          clear BK337
          clear HB
          have BK337 := n0_
          have HB := n1_
          clear n0_ n1_
          refine start_ (n := 7) (S := fun w' => w'.cell? ⟨gb337, 0, none⟩ = some (.int .i64 a0_0) ∧ w'.cell? ⟨gb337, 1, none⟩ = some (.string a0_1) ∧ w'.cell? ⟨gb337, 2, none⟩ = some (.string a0_2) ∧ w'.cell? ⟨gb337, 3, none⟩ = some (.int .i64 a0_3) ∧ w'.cell? ⟨gb337, 4, none⟩ = some (.int .i64 a0_4) ∧ w'.cell? ⟨gb337, 5, none⟩ = some (.int .i64 a0_5) ∧ w'.cell? ⟨gb337, 6, none⟩ = some (.slice A0_6 l0_6.length c0_6) ∧ w'.cell? ⟨gb337, 7, none⟩ = some (.int .i64 a0_7)) (ds := []) #[F_, F_, F_, F_, F_, F_, F_] (by kernel_rfl) rfl rfl ⟨(blk_cell BK337.out 0).trans rfl, (blk_cell BK337.out 1).trans rfl, (blk_cell BK337.out 2).trans rfl, (blk_cell BK337.out 3).trans rfl, (blk_cell BK337.out 4).trans rfl, (blk_cell BK337.out 5).trans rfl, (blk_cell BK337.out 6).trans rfl, (blk_cell BK337.out 7).trans rfl⟩ (fun hHeld => ?_)
          generalize wc.drew = w64 at BK337 HB hHeld ⊢
          refine pv 1 45 ?_
          refine pv 2 46 ?_
          refine tv8 3 47 hHeld ?_
          refine ov 0 44 (fun K hK => ?_)
          refine gk Tryz.func167 (impl_operators.calls _ _ A53.out) ?_
          rintro e w65 ⟨v344, rfl, ho0, hb⟩
          refine ⟨_, rfl, ?_⟩
          have n0_ := am (Kd.R_lower ho0 (below_size bl))
          have n1_ := am (bkb BK337.out hb)
          have n2_ := am (below_step bl hb)
          clear BK337
          clear HB
          have HO345 := n0_
          have BK337 := n1_
          have HB := n2_
          clear n0_ n1_ n2_
          skip
          skip
          skip
          skip
          skip
          obtain ⟨Ao66, co66, eo66⟩ := Kd.R_slice HO345.out
          (first | subst eo66 | (injection eo66 with f1_ f2_ f3_; have f4_ := f1_.symm; have f5_ := f3_.symm; clear f1_ f2_ f3_; subst f4_; subst f5_))
          refine hK.out _ _ (cel8 BK337.out) (fun hHeld => ?_)
          clear hK K
          refine norm_ (a' := ?_) ?_ ?_
          rotate_left
          ·show Act.put _ (some 44) _ = _
           simp only [Act.put, z1, z2, z3, i64_w, i32_w]
           rfl
          refine ov 4 48 (fun K hK => ?_)
          refine gk Tryz.func69 (slices_Contains_string_string.calls _ _ _ _ _ _ _ ?side1 ?side2 A54.out) ?_
          (case side1 => exact cc (Kd.R_reads' HO345.out).2.2)
          (case side2 => exact (Kd.R_reads' HO345.out).2.1)
          rintro e w' ⟨rfl, ⟨nd, rfl⟩⟩
          refine ⟨_, rfl, ?_⟩
          refine hK.out _ _ (cel8 BK337.out) (fun hHeld => ?_)
          clear hK K
          refine norm_ (a' := ?_) ?_ ?_
          rotate_left
          ·show Act.put _ (some 48) _ = _
           simp only [Act.put, z1, z2, z3, i64_w, i32_w]
           rfl
          refine pv 5 3 ?_
          refine pv 6 5 ?_
          refine done_ (by kernel_rfl) ?_
          obtain ⟨z67_0, z67_1, z67_2, z67_3, z67_4, z67_5, z67_6, z67_7, y67_0, y67_1, y67_2, y67_3, y67_4, y67_5, y67_6, y67_7⟩ := blk8 BK337.out
          try go_wp2
          go_ret
          exact ⟨er, bl⟩
         obtain rfl := Option.some.inj H
         try go_wp2
         have n0_ := am (blk_drew BK337.out)
         have n1_ := am (below_drew1 HB.out)
         clear BK337
         clear HB
         have BK337 := n0_
         have HB := n1_
         clear n0_ n1_
         refine start_ (n := 7) (S := fun w' => w'.cell? ⟨gb337, 0, none⟩ = some (.int .i64 a0_0) ∧ w'.cell? ⟨gb337, 1, none⟩ = some (.string a0_1) ∧ w'.cell? ⟨gb337, 2, none⟩ = some (.string a0_2) ∧ w'.cell? ⟨gb337, 3, none⟩ = some (.int .i64 a0_3) ∧ w'.cell? ⟨gb337, 4, none⟩ = some (.int .i64 a0_4) ∧ w'.cell? ⟨gb337, 5, none⟩ = some (.int .i64 a0_5) ∧ w'.cell? ⟨gb337, 6, none⟩ = some (.slice A0_6 l0_6.length c0_6) ∧ w'.cell? ⟨gb337, 7, none⟩ = some (.int .i64 a0_7)) (ds := []) #[F_, F_, F_, F_, F_, F_, F_] (by kernel_rfl) rfl rfl ⟨(blk_cell BK337.out 0).trans rfl, (blk_cell BK337.out 1).trans rfl, (blk_cell BK337.out 2).trans rfl, (blk_cell BK337.out 3).trans rfl, (blk_cell BK337.out 4).trans rfl, (blk_cell BK337.out 5).trans rfl, (blk_cell BK337.out 6).trans rfl, (blk_cell BK337.out 7).trans rfl⟩ (fun hHeld => ?_)
         generalize wc.drew = w68 at BK337 HB hHeld ⊢
         refine pv 1 45 ?_
         refine pv 2 46 ?_
         refine tv8 3 47 hHeld ?_
         refine ov 0 44 (fun K hK => ?_)
         refine gk Tryz.func167 (impl_operators.calls _ _ A53.out) ?_
         rintro e w69 ⟨v344, rfl, ho0, hb⟩
         refine ⟨_, rfl, ?_⟩
         have n0_ := am (Kd.R_lower ho0 (below_size bl))
         have n1_ := am (bkb BK337.out hb)
         have n2_ := am (below_step bl hb)
         clear BK337
         clear HB
         have HO345 := n0_
         have BK337 := n1_
         have HB := n2_
         clear n0_ n1_ n2_
         skip
         skip
         skip
         skip
         skip
         obtain ⟨Ao70, co70, eo70⟩ := Kd.R_slice HO345.out
         (first | subst eo70 | (injection eo70 with f1_ f2_ f3_; have f4_ := f1_.symm; have f5_ := f3_.symm; clear f1_ f2_ f3_; subst f4_; subst f5_))
         refine hK.out _ _ (cel8 BK337.out) (fun hHeld => ?_)
         clear hK K
         refine norm_ (a' := ?_) ?_ ?_
         rotate_left
         ·show Act.put _ (some 44) _ = _
          simp only [Act.put, z1, z2, z3, i64_w, i32_w]
          rfl
         refine ov 4 48 (fun K hK => ?_)
         refine gk Tryz.func69 (slices_Contains_string_string.calls _ _ _ _ _ _ _ ?side1 ?side2 A54.out) ?_
         (case side1 => exact cc (Kd.R_reads' HO345.out).2.2)
         (case side2 => exact (Kd.R_reads' HO345.out).2.1)
         rintro e w' ⟨rfl, ⟨nd, rfl⟩⟩
         refine ⟨_, rfl, ?_⟩
         refine hK.out _ _ (cel8 BK337.out) (fun hHeld => ?_)
         clear hK K
         refine norm_ (a' := ?_) ?_ ?_
         rotate_left
         ·show Act.put _ (some 48) _ = _
          simp only [Act.put, z1, z2, z3, i64_w, i32_w]
          rfl
         refine pv 5 3 ?_
         refine pv 6 5 ?_
         refine done_ (by kernel_rfl) ?_
         try go_wp2
         go_ret
         exact ⟨er, bl⟩
        obtain rfl := Option.some.inj H
        try go_wp2
        have n0_ := am (blk_drew BK337.out)
        have n1_ := am (below_drew1 HB.out)
        clear BK337
        clear HB
        have BK337 := n0_
        have HB := n1_
        clear n0_ n1_
        refine start_ (n := 7) (S := fun w' => w'.cell? ⟨gb337, 0, none⟩ = some (.int .i64 a0_0) ∧ w'.cell? ⟨gb337, 1, none⟩ = some (.string a0_1) ∧ w'.cell? ⟨gb337, 2, none⟩ = some (.string a0_2) ∧ w'.cell? ⟨gb337, 3, none⟩ = some (.int .i64 a0_3) ∧ w'.cell? ⟨gb337, 4, none⟩ = some (.int .i64 a0_4) ∧ w'.cell? ⟨gb337, 5, none⟩ = some (.int .i64 a0_5) ∧ w'.cell? ⟨gb337, 6, none⟩ = some (.slice A0_6 l0_6.length c0_6) ∧ w'.cell? ⟨gb337, 7, none⟩ = some (.int .i64 a0_7)) (ds := []) #[F_, F_, F_, F_, F_, F_, F_] (by kernel_rfl) rfl rfl ⟨(blk_cell BK337.out 0).trans rfl, (blk_cell BK337.out 1).trans rfl, (blk_cell BK337.out 2).trans rfl, (blk_cell BK337.out 3).trans rfl, (blk_cell BK337.out 4).trans rfl, (blk_cell BK337.out 5).trans rfl, (blk_cell BK337.out 6).trans rfl, (blk_cell BK337.out 7).trans rfl⟩ (fun hHeld => ?_)
        generalize wc.drew = w71 at BK337 HB hHeld ⊢
        refine pv 1 45 ?_
        refine pv 2 46 ?_
        refine tv8 3 47 hHeld ?_
        refine ov 0 44 (fun K hK => ?_)
        refine gk Tryz.func167 (impl_operators.calls _ _ A53.out) ?_
        rintro e w72 ⟨v344, rfl, ho0, hb⟩
        refine ⟨_, rfl, ?_⟩
        have n0_ := am (Kd.R_lower ho0 (below_size bl))
        have n1_ := am (bkb BK337.out hb)
        have n2_ := am (below_step bl hb)
        clear BK337
        clear HB
        have HO345 := n0_
        have BK337 := n1_
        have HB := n2_
        clear n0_ n1_ n2_
        skip
        skip
        skip
        skip
        skip
        obtain ⟨Ao73, co73, eo73⟩ := Kd.R_slice HO345.out
        (first | subst eo73 | (injection eo73 with f1_ f2_ f3_; have f4_ := f1_.symm; have f5_ := f3_.symm; clear f1_ f2_ f3_; subst f4_; subst f5_))
        refine hK.out _ _ (cel8 BK337.out) (fun hHeld => ?_)
        clear hK K
        refine norm_ (a' := ?_) ?_ ?_
        rotate_left
        ·show Act.put _ (some 44) _ = _
         simp only [Act.put, z1, z2, z3, i64_w, i32_w]
         rfl
        refine ov 4 48 (fun K hK => ?_)
        refine gk Tryz.func69 (slices_Contains_string_string.calls _ _ _ _ _ _ _ ?side1 ?side2 A54.out) ?_
        (case side1 => exact cc (Kd.R_reads' HO345.out).2.2)
        (case side2 => exact (Kd.R_reads' HO345.out).2.1)
        rintro e w' ⟨rfl, ⟨nd, rfl⟩⟩
        refine ⟨_, rfl, ?_⟩
        refine hK.out _ _ (cel8 BK337.out) (fun hHeld => ?_)
        clear hK K
        refine norm_ (a' := ?_) ?_ ?_
        rotate_left
        ·show Act.put _ (some 48) _ = _
         simp only [Act.put, z1, z2, z3, i64_w, i32_w]
         rfl
        refine pv 5 3 ?_
        refine pv 6 5 ?_
        refine done_ (by kernel_rfl) ?_
        try go_wp2
        go_ret
        exact ⟨er, bl⟩
       revert H; refine iQ (fun c74b0 c74b1 H => ?_) fun c74 c74b0 c74b1 H => ?_
       ·revert H; refine iK (fun c75b0 c75b1 c75b3 H => ?_) fun c75b0 c75b1 c75b3 c75b3' H => ?_
        ·revert H; refine iR (fun c76b0 c76b1 H => ?_) fun c76b0 c76b1 c76b3 H => ?_
         ·revert H; refine iL (fun c77b0 c77b3 c77b1 H => ?_) fun c77 c77b0 c77b3 c77b1 H => ?_
          ·revert H; refine bj fun t348 A78 H => ?_
           obtain rfl := Option.some.inj H
           obtain ⟨z79_0, z79_1, z79_2, z79_3, z79_4, z79_5, z79_6, z79_7, y79_0, y79_1, y79_2, y79_3, y79_4, y79_5, y79_6, y79_7⟩ := blk8 BK337.out
           go_wp2_with (first | (go_at_call 185; (with_reducible refine (KK.calls _ _ _ _ _ _ _ _ _ _ _ _ _ ?side1 ?side2 ?side3 A78.out).mono ?_); (case side1 => exact cb HR0_6.out); (case side2 => exact HC0_6.out); (case side3 => exact Sh.below HSH.out bl); rintro e w80 ⟨rfl, hb⟩; replace BK337 := am (bkb BK337.out hb); replace HB := am (below_step bl hb); clear hb))
           go_ret
           exact ⟨er, bl⟩
          obtain rfl := Option.some.inj H
          obtain ⟨z81_0, z81_1, z81_2, z81_3, z81_4, z81_5, z81_6, z81_7, y81_0, y81_1, y81_2, y81_3, y81_4, y81_5, y81_6, y81_7⟩ := blk8 BK337.out
          go_wp2
          go_ret
          exact ⟨er, bl⟩
         obtain rfl := Option.some.inj H
         go_wp2
         go_ret
         exact ⟨er, bl⟩
        obtain rfl := Option.some.inj H
        go_wp2
        go_ret
        exact ⟨er, bl⟩
       revert H; refine iQ (fun c82b0 c82b1 H => ?_) fun c82 c82b0 c82b1 H => ?_
       ·revert H; refine bj fun t349 A83 H => ?_
        revert H; refine bj fun t352 A84 H => ?_
        replace H := iT H; rcases H with ⟨rfl, H⟩ | ⟨rfl, H⟩
        ·revert H; refine bj fun t353 A86 H => ?_
         revert H; refine bj fun t354 A87 H => ?_
         replace H := iT H; rcases H with ⟨rfl, H⟩ | ⟨rfl, H⟩
         ·revert H; refine iR (fun c89b0 c89b1 H => ?_) fun c89b0 c89b1 c89b3 H => ?_
          ·revert H; refine iL (fun c90b0 c90b3 c90b1 H => ?_) fun c90 c90b0 c90b3 c90b1 H => ?_
           ·revert H; refine bj fun t355 A91 H => ?_
            obtain rfl := Option.some.inj H
            try go_wp2
            have n0_ := am (blk_drew BK337.out)
            have n1_ := am (below_drew1 HB.out)
            clear BK337
            clear HB
            have BK337 := n0_
            have HB := n1_
            clear n0_ n1_
            refine start_ (n := 17) (S := fun w' => w'.cell? ⟨gb337, 0, none⟩ = some (.int .i64 a0_0) ∧ w'.cell? ⟨gb337, 1, none⟩ = some (.string a0_1) ∧ w'.cell? ⟨gb337, 2, none⟩ = some (.string a0_2) ∧ w'.cell? ⟨gb337, 3, none⟩ = some (.int .i64 a0_3) ∧ w'.cell? ⟨gb337, 4, none⟩ = some (.int .i64 a0_4) ∧ w'.cell? ⟨gb337, 5, none⟩ = some (.int .i64 a0_5) ∧ w'.cell? ⟨gb337, 6, none⟩ = some (.slice A0_6 l0_6.length c0_6) ∧ w'.cell? ⟨gb337, 7, none⟩ = some (.int .i64 a0_7)) (ds := []) #[F_, F_, F_, F_, F_, F_, F_, F_, F_, F_, F_, F_, F_, F_, F_, F_, F_] (by kernel_rfl) rfl rfl ⟨(blk_cell BK337.out 0).trans rfl, (blk_cell BK337.out 1).trans rfl, (blk_cell BK337.out 2).trans rfl, (blk_cell BK337.out 3).trans rfl, (blk_cell BK337.out 4).trans rfl, (blk_cell BK337.out 5).trans rfl, (blk_cell BK337.out 6).trans rfl, (blk_cell BK337.out 7).trans rfl⟩ (fun hHeld => ?_); refine with_tabW impl_tree_isExpr.tab23 impl_tree_isExpr.bits23 (fun HT_ HW_ => ?_)
            generalize wc.drew = w92 at BK337 HB hHeld ⊢
            refine pv 1 54 ?_
            refine pv 2 55 ?_
            refine pv 11 64 ?_
            refine tv8 3 56 hHeld ?_
            refine tv8 12 65 hHeld ?_
            refine pv 13 66 ?_
            refine ov 0 53 (fun K hK => ?_)
            refine gk Tryz.func210 (impl_functions.calls _ _ A83.out) ?_
            rintro e w93 ⟨v350, rfl, ho0, hb⟩
            refine ⟨_, rfl, ?_⟩
            have n0_ := am (Kd.R_lower ho0 (below_size bl))
            have n1_ := am (bkb BK337.out hb)
            have n2_ := am (below_step bl hb)
            clear BK337
            clear HB
            have HO351 := n0_
            have BK337 := n1_
            have HB := n2_
            clear n0_ n1_ n2_
            skip
            skip
            skip
            skip
            skip
            obtain ⟨Ao94, co94, eo94⟩ := Kd.R_slice HO351.out
            (first | subst eo94 | (injection eo94 with f1_ f2_ f3_; have f4_ := f1_.symm; have f5_ := f3_.symm; clear f1_ f2_ f3_; subst f4_; subst f5_))
            refine hK.out _ _ (cel8 BK337.out) (fun hHeld => ?_)
            clear hK K
            refine norm_ (a' := ?_) ?_ ?_
            rotate_left
            ·show Act.put _ (some 53) _ = _
             simp only [Act.put, z1, z2, z3, i64_w, i32_w]
             rfl
            refine ov 4 57 (fun K hK => ?_)
            refine gk Tryz.func69 (slices_Contains_string_string.calls _ _ _ _ _ _ _ ?side1 ?side2 A84.out) ?_
            (case side1 => exact cc (Kd.R_reads' HO351.out).2.2)
            (case side2 => exact (Kd.R_reads' HO351.out).2.1)
            rintro e w' ⟨rfl, ⟨nd, rfl⟩⟩
            refine ⟨_, rfl, ?_⟩
            refine hK.out _ _ (cel8 BK337.out) (fun hHeld => ?_)
            clear hK K
            refine norm_ (a' := ?_) ?_ ?_
            rotate_left
            ·show Act.put _ (some 57) _ = _
             simp only [Act.put, z1, z2, z3, i64_w, i32_w]
             rfl
            refine pv 5 58 ?_
            refine pv 6 59 ?_
            refine tv8 7 60 hHeld ?_
            refine pv 8 61 ?_
            refine ov 9 62 (fun K hK => ?_)
            refine gk Tryz.func66 (impl_in.calls _ _ _ _ _ A86.out) ?_
            rintro e w' ⟨rfl, ⟨nd, rfl⟩⟩
            refine ⟨_, rfl, ?_⟩
            refine hK.out _ _ (cel8 BK337.out) (fun hHeld => ?_)
            clear hK K
            refine norm_ (a' := ?_) ?_ ?_
            rotate_left
            ·show Act.put _ (some 62) _ = _
             simp only [Act.put, z1, z2, z3, i64_w, i32_w]
             rfl
            refine pv 10 63 ?_
            refine ov 14 67 (fun K hK => ?_)
            refine gk Tryz.func184 (strings_Repeat.calls _ _ _ _ A87.out) ?_
            rintro e w95 ⟨rfl, hb⟩
            refine ⟨_, rfl, ?_⟩
            have n0_ := am (rb HO351.out hb)
            have n1_ := am (bkb BK337.out hb)
            have n2_ := am (below_step bl hb)
            clear HO351
            clear BK337
            clear HB
            have HO351 := n0_
            have BK337 := n1_
            have HB := n2_
            clear n0_ n1_ n2_
            skip
            skip
            skip
            skip
            refine hK.out _ _ (cel8 BK337.out) (fun hHeld => ?_)
            clear hK K
            refine norm_ (a' := ?_) ?_ ?_
            rotate_left
            ·show Act.put _ (some 67) _ = _
             simp only [Act.put, z1, z2, z3, i64_w, i32_w]
             rfl
            refine pv 15 3 ?_
            refine pv 16 5 ?_
            refine done_ (done_of HT_.out (by kernel_rfl)) ?_
            obtain ⟨z96_0, z96_1, z96_2, z96_3, z96_4, z96_5, z96_6, z96_7, y96_0, y96_1, y96_2, y96_3, y96_4, y96_5, y96_6, y96_7⟩ := blk8 BK337.out
            try go_wp2_with (first | (go_at_call 185; (with_reducible refine (KK.calls _ _ _ _ _ _ _ _ _ _ _ _ _ ?side1 ?side2 ?side3 A91.out).mono ?_); (case side1 => exact cb HR0_6.out); (case side2 => exact HC0_6.out); (case side3 => exact Sh.below HSH.out bl); rintro e w97 ⟨rfl, hb⟩; replace HO351 := am (rb HO351.out hb); replace BK337 := am (bkb BK337.out hb); replace HB := am (below_step bl hb); clear hb))
            go_ret
            exact ⟨er, bl⟩
           obtain rfl := Option.some.inj H
           try go_wp2
           have n0_ := am (blk_drew BK337.out)
           have n1_ := am (below_drew1 HB.out)
           clear BK337
           clear HB
           have BK337 := n0_
           have HB := n1_
           clear n0_ n1_
           refine start_ (n := 17) (S := fun w' => w'.cell? ⟨gb337, 0, none⟩ = some (.int .i64 a0_0) ∧ w'.cell? ⟨gb337, 1, none⟩ = some (.string a0_1) ∧ w'.cell? ⟨gb337, 2, none⟩ = some (.string a0_2) ∧ w'.cell? ⟨gb337, 3, none⟩ = some (.int .i64 a0_3) ∧ w'.cell? ⟨gb337, 4, none⟩ = some (.int .i64 a0_4) ∧ w'.cell? ⟨gb337, 5, none⟩ = some (.int .i64 a0_5) ∧ w'.cell? ⟨gb337, 6, none⟩ = some (.slice A0_6 l0_6.length c0_6) ∧ w'.cell? ⟨gb337, 7, none⟩ = some (.int .i64 a0_7)) (ds := []) #[F_, F_, F_, F_, F_, F_, F_, F_, F_, F_, F_, F_, F_, F_, F_, F_, F_] (by kernel_rfl) rfl rfl ⟨(blk_cell BK337.out 0).trans rfl, (blk_cell BK337.out 1).trans rfl, (blk_cell BK337.out 2).trans rfl, (blk_cell BK337.out 3).trans rfl, (blk_cell BK337.out 4).trans rfl, (blk_cell BK337.out 5).trans rfl, (blk_cell BK337.out 6).trans rfl, (blk_cell BK337.out 7).trans rfl⟩ (fun hHeld => ?_); refine with_tabW impl_tree_isExpr.tab23 impl_tree_isExpr.bits23 (fun HT_ HW_ => ?_)
           generalize wc.drew = w98 at BK337 HB hHeld ⊢
           refine pv 1 54 ?_
           refine pv 2 55 ?_
           refine pv 11 64 ?_
           refine tv8 3 56 hHeld ?_
           refine tv8 12 65 hHeld ?_
           refine pv 13 66 ?_
           refine ov 0 53 (fun K hK => ?_)
           refine gk Tryz.func210 (impl_functions.calls _ _ A83.out) ?_
           rintro e w99 ⟨v350, rfl, ho0, hb⟩
           refine ⟨_, rfl, ?_⟩
           have n0_ := am (Kd.R_lower ho0 (below_size bl))
           have n1_ := am (bkb BK337.out hb)
           have n2_ := am (below_step bl hb)
           clear BK337
           clear HB
           have HO351 := n0_
           have BK337 := n1_
           have HB := n2_
           clear n0_ n1_ n2_
           skip
           skip
           skip
           skip
           skip
           obtain ⟨Ao100, co100, eo100⟩ := Kd.R_slice HO351.out
           (first | subst eo100 | (injection eo100 with f1_ f2_ f3_; have f4_ := f1_.symm; have f5_ := f3_.symm; clear f1_ f2_ f3_; subst f4_; subst f5_))
           refine hK.out _ _ (cel8 BK337.out) (fun hHeld => ?_)
           clear hK K
           refine norm_ (a' := ?_) ?_ ?_
           rotate_left
           ·show Act.put _ (some 53) _ = _
            simp only [Act.put, z1, z2, z3, i64_w, i32_w]
            rfl
           refine ov 4 57 (fun K hK => ?_)
           refine gk Tryz.func69 (slices_Contains_string_string.calls _ _ _ _ _ _ _ ?side1 ?side2 A84.out) ?_
           (case side1 => exact cc (Kd.R_reads' HO351.out).2.2)
           (case side2 => exact (Kd.R_reads' HO351.out).2.1)
           rintro e w' ⟨rfl, ⟨nd, rfl⟩⟩
           refine ⟨_, rfl, ?_⟩
           refine hK.out _ _ (cel8 BK337.out) (fun hHeld => ?_)
           clear hK K
           refine norm_ (a' := ?_) ?_ ?_
           rotate_left
           ·show Act.put _ (some 57) _ = _
            simp only [Act.put, z1, z2, z3, i64_w, i32_w]
            rfl
           refine pv 5 58 ?_
           refine pv 6 59 ?_
           refine tv8 7 60 hHeld ?_
           refine pv 8 61 ?_
           refine ov 9 62 (fun K hK => ?_)
           refine gk Tryz.func66 (impl_in.calls _ _ _ _ _ A86.out) ?_
           rintro e w' ⟨rfl, ⟨nd, rfl⟩⟩
           refine ⟨_, rfl, ?_⟩
           refine hK.out _ _ (cel8 BK337.out) (fun hHeld => ?_)
           clear hK K
           refine norm_ (a' := ?_) ?_ ?_
           rotate_left
           ·show Act.put _ (some 62) _ = _
            simp only [Act.put, z1, z2, z3, i64_w, i32_w]
            rfl
           refine pv 10 63 ?_
           refine ov 14 67 (fun K hK => ?_)
           refine gk Tryz.func184 (strings_Repeat.calls _ _ _ _ A87.out) ?_
           rintro e w101 ⟨rfl, hb⟩
           refine ⟨_, rfl, ?_⟩
           have n0_ := am (rb HO351.out hb)
           have n1_ := am (bkb BK337.out hb)
           have n2_ := am (below_step bl hb)
           clear HO351
           clear BK337
           clear HB
           have HO351 := n0_
           have BK337 := n1_
           have HB := n2_
           clear n0_ n1_ n2_
           skip
           skip
           skip
           skip
           refine hK.out _ _ (cel8 BK337.out) (fun hHeld => ?_)
           clear hK K
           refine norm_ (a' := ?_) ?_ ?_
           rotate_left
           ·show Act.put _ (some 67) _ = _
            simp only [Act.put, z1, z2, z3, i64_w, i32_w]
            rfl
           refine pv 15 3 ?_
           refine pv 16 5 ?_
           refine done_ (done_of HT_.out (by kernel_rfl)) ?_
           obtain ⟨z102_0, z102_1, z102_2, z102_3, z102_4, z102_5, z102_6, z102_7, y102_0, y102_1, y102_2, y102_3, y102_4, y102_5, y102_6, y102_7⟩ := blk8 BK337.out
           try go_wp2
           go_ret
           exact ⟨er, bl⟩
          obtain rfl := Option.some.inj H
          try go_wp2
          have n0_ := am (blk_drew BK337.out)
          have n1_ := am (below_drew1 HB.out)
          clear BK337
          clear HB
          have BK337 := n0_
          have HB := n1_
          clear n0_ n1_
          refine start_ (n := 17) (S := fun w' => w'.cell? ⟨gb337, 0, none⟩ = some (.int .i64 a0_0) ∧ w'.cell? ⟨gb337, 1, none⟩ = some (.string a0_1) ∧ w'.cell? ⟨gb337, 2, none⟩ = some (.string a0_2) ∧ w'.cell? ⟨gb337, 3, none⟩ = some (.int .i64 a0_3) ∧ w'.cell? ⟨gb337, 4, none⟩ = some (.int .i64 a0_4) ∧ w'.cell? ⟨gb337, 5, none⟩ = some (.int .i64 a0_5) ∧ w'.cell? ⟨gb337, 6, none⟩ = some (.slice A0_6 l0_6.length c0_6) ∧ w'.cell? ⟨gb337, 7, none⟩ = some (.int .i64 a0_7)) (ds := []) #[F_, F_, F_, F_, F_, F_, F_, F_, F_, F_, F_, F_, F_, F_, F_, F_, F_] (by kernel_rfl) rfl rfl ⟨(blk_cell BK337.out 0).trans rfl, (blk_cell BK337.out 1).trans rfl, (blk_cell BK337.out 2).trans rfl, (blk_cell BK337.out 3).trans rfl, (blk_cell BK337.out 4).trans rfl, (blk_cell BK337.out 5).trans rfl, (blk_cell BK337.out 6).trans rfl, (blk_cell BK337.out 7).trans rfl⟩ (fun hHeld => ?_); refine with_tabW impl_tree_isExpr.tab23 impl_tree_isExpr.bits23 (fun HT_ HW_ => ?_)
          generalize wc.drew = w103 at BK337 HB hHeld ⊢
          refine pv 1 54 ?_
          refine pv 2 55 ?_
          refine pv 11 64 ?_
          refine tv8 3 56 hHeld ?_
          refine tv8 12 65 hHeld ?_
          refine pv 13 66 ?_
          refine ov 0 53 (fun K hK => ?_)
          refine gk Tryz.func210 (impl_functions.calls _ _ A83.out) ?_
          rintro e w104 ⟨v350, rfl, ho0, hb⟩
          refine ⟨_, rfl, ?_⟩
          have n0_ := am (Kd.R_lower ho0 (below_size bl))
          have n1_ := am (bkb BK337.out hb)
          have n2_ := am (below_step bl hb)
          clear BK337
          clear HB
          have HO351 := n0_
          have BK337 := n1_
          have HB := n2_
          clear n0_ n1_ n2_
          skip
          skip
          skip
          skip
          skip
          obtain ⟨Ao105, co105, eo105⟩ := Kd.R_slice HO351.out
          (first | subst eo105 | (injection eo105 with f1_ f2_ f3_; have f4_ := f1_.symm; have f5_ := f3_.symm; clear f1_ f2_ f3_; subst f4_; subst f5_))
          refine hK.out _ _ (cel8 BK337.out) (fun hHeld => ?_)
          clear hK K
          refine norm_ (a' := ?_) ?_ ?_
          rotate_left
          ·show Act.put _ (some 53) _ = _
           simp only [Act.put, z1, z2, z3, i64_w, i32_w]
           rfl
          refine ov 4 57 (fun K hK => ?_)
          refine gk Tryz.func69 (slices_Contains_string_string.calls _ _ _ _ _ _ _ ?side1 ?side2 A84.out) ?_
          (case side1 => exact cc (Kd.R_reads' HO351.out).2.2)
          (case side2 => exact (Kd.R_reads' HO351.out).2.1)
          rintro e w' ⟨rfl, ⟨nd, rfl⟩⟩
          refine ⟨_, rfl, ?_⟩
          refine hK.out _ _ (cel8 BK337.out) (fun hHeld => ?_)
          clear hK K
          refine norm_ (a' := ?_) ?_ ?_
          rotate_left
          ·show Act.put _ (some 57) _ = _
           simp only [Act.put, z1, z2, z3, i64_w, i32_w]
           rfl
          refine pv 5 58 ?_
          refine pv 6 59 ?_
          refine tv8 7 60 hHeld ?_
          refine pv 8 61 ?_
          refine ov 9 62 (fun K hK => ?_)
          refine gk Tryz.func66 (impl_in.calls _ _ _ _ _ A86.out) ?_
          rintro e w' ⟨rfl, ⟨nd, rfl⟩⟩
          refine ⟨_, rfl, ?_⟩
          refine hK.out _ _ (cel8 BK337.out) (fun hHeld => ?_)
          clear hK K
          refine norm_ (a' := ?_) ?_ ?_
          rotate_left
          ·show Act.put _ (some 62) _ = _
           simp only [Act.put, z1, z2, z3, i64_w, i32_w]
           rfl
          refine pv 10 63 ?_
          refine ov 14 67 (fun K hK => ?_)
          refine gk Tryz.func184 (strings_Repeat.calls _ _ _ _ A87.out) ?_
          rintro e w106 ⟨rfl, hb⟩
          refine ⟨_, rfl, ?_⟩
          have n0_ := am (rb HO351.out hb)
          have n1_ := am (bkb BK337.out hb)
          have n2_ := am (below_step bl hb)
          clear HO351
          clear BK337
          clear HB
          have HO351 := n0_
          have BK337 := n1_
          have HB := n2_
          clear n0_ n1_ n2_
          skip
          skip
          skip
          skip
          refine hK.out _ _ (cel8 BK337.out) (fun hHeld => ?_)
          clear hK K
          refine norm_ (a' := ?_) ?_ ?_
          rotate_left
          ·show Act.put _ (some 67) _ = _
           simp only [Act.put, z1, z2, z3, i64_w, i32_w]
           rfl
          refine pv 15 3 ?_
          refine pv 16 5 ?_
          refine done_ (done_of HT_.out (by kernel_rfl)) ?_
          try go_wp2
          go_ret
          exact ⟨er, bl⟩
         obtain rfl := Option.some.inj H
         try go_wp2
         have n0_ := am (blk_drew BK337.out)
         have n1_ := am (below_drew1 HB.out)
         clear BK337
         clear HB
         have BK337 := n0_
         have HB := n1_
         clear n0_ n1_
         refine start_ (n := 17) (S := fun w' => w'.cell? ⟨gb337, 0, none⟩ = some (.int .i64 a0_0) ∧ w'.cell? ⟨gb337, 1, none⟩ = some (.string a0_1) ∧ w'.cell? ⟨gb337, 2, none⟩ = some (.string a0_2) ∧ w'.cell? ⟨gb337, 3, none⟩ = some (.int .i64 a0_3) ∧ w'.cell? ⟨gb337, 4, none⟩ = some (.int .i64 a0_4) ∧ w'.cell? ⟨gb337, 5, none⟩ = some (.int .i64 a0_5) ∧ w'.cell? ⟨gb337, 6, none⟩ = some (.slice A0_6 l0_6.length c0_6) ∧ w'.cell? ⟨gb337, 7, none⟩ = some (.int .i64 a0_7)) (ds := []) #[F_, F_, F_, F_, F_, F_, F_, F_, F_, F_, F_, F_, F_, F_, F_, F_, F_] (by kernel_rfl) rfl rfl ⟨(blk_cell BK337.out 0).trans rfl, (blk_cell BK337.out 1).trans rfl, (blk_cell BK337.out 2).trans rfl, (blk_cell BK337.out 3).trans rfl, (blk_cell BK337.out 4).trans rfl, (blk_cell BK337.out 5).trans rfl, (blk_cell BK337.out 6).trans rfl, (blk_cell BK337.out 7).trans rfl⟩ (fun hHeld => ?_); refine with_tabW impl_tree_isExpr.tab23 impl_tree_isExpr.bits23 (fun HT_ HW_ => ?_)
         generalize wc.drew = w107 at BK337 HB hHeld ⊢
         refine pv 1 54 ?_
         refine pv 2 55 ?_
         refine pv 11 64 ?_
         refine tv8 3 56 hHeld ?_
         refine tv8 12 65 hHeld ?_
         refine pv 13 66 ?_
         refine ov 0 53 (fun K hK => ?_)
         refine gk Tryz.func210 (impl_functions.calls _ _ A83.out) ?_
         rintro e w108 ⟨v350, rfl, ho0, hb⟩
         refine ⟨_, rfl, ?_⟩
         have n0_ := am (Kd.R_lower ho0 (below_size bl))
         have n1_ := am (bkb BK337.out hb)
         have n2_ := am (below_step bl hb)
         clear BK337
         clear HB
         have HO351 := n0_
         have BK337 := n1_
         have HB := n2_
         clear n0_ n1_ n2_
         skip
         skip
         skip
         skip
         skip
         obtain ⟨Ao109, co109, eo109⟩ := Kd.R_slice HO351.out
         (first | subst eo109 | (injection eo109 with f1_ f2_ f3_; have f4_ := f1_.symm; have f5_ := f3_.symm; clear f1_ f2_ f3_; subst f4_; subst f5_))
         refine hK.out _ _ (cel8 BK337.out) (fun hHeld => ?_)
         clear hK K
         refine norm_ (a' := ?_) ?_ ?_
         rotate_left
         ·show Act.put _ (some 53) _ = _
          simp only [Act.put, z1, z2, z3, i64_w, i32_w]
          rfl
         refine ov 4 57 (fun K hK => ?_)
         refine gk Tryz.func69 (slices_Contains_string_string.calls _ _ _ _ _ _ _ ?side1 ?side2 A84.out) ?_
         (case side1 => exact cc (Kd.R_reads' HO351.out).2.2)
         (case side2 => exact (Kd.R_reads' HO351.out).2.1)
         rintro e w' ⟨rfl, ⟨nd, rfl⟩⟩
         refine ⟨_, rfl, ?_⟩
         refine hK.out _ _ (cel8 BK337.out) (fun hHeld => ?_)
         clear hK K
         refine norm_ (a' := ?_) ?_ ?_
         rotate_left
         ·show Act.put _ (some 57) _ = _
          simp only [Act.put, z1, z2, z3, i64_w, i32_w]
          rfl
         refine pv 5 58 ?_
         refine pv 6 59 ?_
         refine tv8 7 60 hHeld ?_
         refine pv 8 61 ?_
         refine ov 9 62 (fun K hK => ?_)
         refine gk Tryz.func66 (impl_in.calls _ _ _ _ _ A86.out) ?_
         rintro e w' ⟨rfl, ⟨nd, rfl⟩⟩
         refine ⟨_, rfl, ?_⟩
         refine hK.out _ _ (cel8 BK337.out) (fun hHeld => ?_)
         clear hK K
         refine norm_ (a' := ?_) ?_ ?_
         rotate_left
         ·show Act.put _ (some 62) _ = _
          simp only [Act.put, z1, z2, z3, i64_w, i32_w]
          rfl
         refine pv 10 63 ?_
         refine ov 14 67 (fun K hK => ?_)
         refine gk Tryz.func184 (strings_Repeat.calls _ _ _ _ A87.out) ?_
         rintro e w110 ⟨rfl, hb⟩
         refine ⟨_, rfl, ?_⟩
         have n0_ := am (rb HO351.out hb)
         have n1_ := am (bkb BK337.out hb)
         have n2_ := am (below_step bl hb)
         clear HO351
         clear BK337
         clear HB
         have HO351 := n0_
         have BK337 := n1_
         have HB := n2_
         clear n0_ n1_ n2_
         skip
         skip
         skip
         skip
         refine hK.out _ _ (cel8 BK337.out) (fun hHeld => ?_)
         clear hK K
         refine norm_ (a' := ?_) ?_ ?_
         rotate_left
         ·show Act.put _ (some 67) _ = _
          simp only [Act.put, z1, z2, z3, i64_w, i32_w]
          rfl
         refine pv 15 3 ?_
         refine pv 16 5 ?_
         refine done_ (done_of HT_.out (by kernel_rfl)) ?_
         try go_wp2
         go_ret
         exact ⟨er, bl⟩
        revert H; refine bj fun t356 A111 H => ?_
        obtain rfl := Option.some.inj H
        try go_wp2
        have n0_ := am (blk_drew BK337.out)
        have n1_ := am (below_drew1 HB.out)
        clear BK337
        clear HB
        have BK337 := n0_
        have HB := n1_
        clear n0_ n1_
        refine start_ (n := 17) (S := fun w' => w'.cell? ⟨gb337, 0, none⟩ = some (.int .i64 a0_0) ∧ w'.cell? ⟨gb337, 1, none⟩ = some (.string a0_1) ∧ w'.cell? ⟨gb337, 2, none⟩ = some (.string a0_2) ∧ w'.cell? ⟨gb337, 3, none⟩ = some (.int .i64 a0_3) ∧ w'.cell? ⟨gb337, 4, none⟩ = some (.int .i64 a0_4) ∧ w'.cell? ⟨gb337, 5, none⟩ = some (.int .i64 a0_5) ∧ w'.cell? ⟨gb337, 6, none⟩ = some (.slice A0_6 l0_6.length c0_6) ∧ w'.cell? ⟨gb337, 7, none⟩ = some (.int .i64 a0_7)) (ds := []) #[F_, F_, F_, F_, F_, F_, F_, F_, F_, F_, F_, F_, F_, F_, F_, F_, F_] (by kernel_rfl) rfl rfl ⟨(blk_cell BK337.out 0).trans rfl, (blk_cell BK337.out 1).trans rfl, (blk_cell BK337.out 2).trans rfl, (blk_cell BK337.out 3).trans rfl, (blk_cell BK337.out 4).trans rfl, (blk_cell BK337.out 5).trans rfl, (blk_cell BK337.out 6).trans rfl, (blk_cell BK337.out 7).trans rfl⟩ (fun hHeld => ?_); refine with_tabW impl_tree_isExpr.tab23 impl_tree_isExpr.bits23 (fun HT_ HW_ => ?_)
        generalize wc.drew = w112 at BK337 HB hHeld ⊢
        refine pv 1 54 ?_
        refine pv 2 55 ?_
        refine pv 11 64 ?_
        refine tv8 3 56 hHeld ?_
        refine tv8 12 65 hHeld ?_
        refine pv 13 66 ?_
        refine ov 0 53 (fun K hK => ?_)
        refine gk Tryz.func210 (impl_functions.calls _ _ A83.out) ?_
        rintro e w113 ⟨v350, rfl, ho0, hb⟩
        refine ⟨_, rfl, ?_⟩
        have n0_ := am (Kd.R_lower ho0 (below_size bl))
        have n1_ := am (bkb BK337.out hb)
        have n2_ := am (below_step bl hb)
        clear BK337
        clear HB
        have HO351 := n0_
        have BK337 := n1_
        have HB := n2_
        clear n0_ n1_ n2_
        skip
        skip
        skip
        skip
        skip
        obtain ⟨Ao114, co114, eo114⟩ := Kd.R_slice HO351.out
        (first | subst eo114 | (injection eo114 with f1_ f2_ f3_; have f4_ := f1_.symm; have f5_ := f3_.symm; clear f1_ f2_ f3_; subst f4_; subst f5_))
        refine hK.out _ _ (cel8 BK337.out) (fun hHeld => ?_)
        clear hK K
        refine norm_ (a' := ?_) ?_ ?_
        rotate_left
        ·show Act.put _ (some 53) _ = _
         simp only [Act.put, z1, z2, z3, i64_w, i32_w]
         rfl
        refine ov 4 57 (fun K hK => ?_)
        refine gk Tryz.func69 (slices_Contains_string_string.calls _ _ _ _ _ _ _ ?side1 ?side2 A84.out) ?_
        (case side1 => exact cc (Kd.R_reads' HO351.out).2.2)
        (case side2 => exact (Kd.R_reads' HO351.out).2.1)
        rintro e w' ⟨rfl, ⟨nd, rfl⟩⟩
        refine ⟨_, rfl, ?_⟩
        refine hK.out _ _ (cel8 BK337.out) (fun hHeld => ?_)
        clear hK K
        refine norm_ (a' := ?_) ?_ ?_
        rotate_left
        ·show Act.put _ (some 57) _ = _
         simp only [Act.put, z1, z2, z3, i64_w, i32_w]
         rfl
        refine pv 5 58 ?_
        refine pure_ (i := 6) (N := some 59) (v := undef) (a' := ?_) #[T_, T_, T_, T_, T_, T_, T_, F_, F_, F_, F_, T_, T_, T_, F_, F_, F_] rfl rfl (any_of HT_.out (by kernel_rfl)) (fun _ _ _ h => h) (Or.inr ⟨by rfl, rfl⟩) ?_ ?_
        rotate_left
        ·simp only [Act.put, z1, z2, z3, i64_w, i32_w]
         rfl
        refine pure_ (i := 7) (N := some 60) (v := undef) (a' := ?_) #[T_, T_, T_, T_, T_, T_, T_, T_, F_, F_, F_, T_, T_, T_, F_, F_, F_] rfl rfl (any_of HT_.out (by kernel_rfl)) (fun _ _ _ h => h) (Or.inr ⟨by rfl, rfl⟩) ?_ ?_
        rotate_left
        ·simp only [Act.put, z1, z2, z3, i64_w, i32_w]
         rfl
        refine pure_ (i := 8) (N := some 61) (v := undef) (a' := ?_) #[T_, T_, T_, T_, T_, T_, T_, T_, T_, F_, F_, T_, T_, T_, F_, F_, F_] rfl rfl (any_of HT_.out (by kernel_rfl)) (fun _ _ _ h => h) (Or.inr ⟨by rfl, rfl⟩) ?_ ?_
        rotate_left
        ·simp only [Act.put, z1, z2, z3, i64_w, i32_w]
         rfl
        refine pure_ (i := 9) (N := some 62) (v := undef) (a' := ?_) #[T_, T_, T_, T_, T_, T_, T_, T_, T_, T_, F_, T_, T_, T_, F_, F_, F_] rfl rfl (any_of HT_.out (by kernel_rfl)) (fun _ _ _ h => h) (Or.inr ⟨by rfl, rfl⟩) ?_ ?_
        rotate_left
        ·simp only [Act.put, z1, z2, z3, i64_w, i32_w]
         rfl
        refine pv 10 63 ?_
        refine ov 14 67 (fun K hK => ?_)
        refine gk Tryz.func184 (strings_Repeat.calls _ _ _ _ A111.out) ?_
        rintro e w115 ⟨rfl, hb⟩
        refine ⟨_, rfl, ?_⟩
        have n0_ := am (rb HO351.out hb)
        have n1_ := am (bkb BK337.out hb)
        have n2_ := am (below_step bl hb)
        clear HO351
        clear BK337
        clear HB
        have HO351 := n0_
        have BK337 := n1_
        have HB := n2_
        clear n0_ n1_ n2_
        skip
        skip
        skip
        skip
        refine hK.out _ _ (cel8 BK337.out) (fun hHeld => ?_)
        clear hK K
        refine norm_ (a' := ?_) ?_ ?_
        rotate_left
        ·show Act.put _ (some 67) _ = _
         simp only [Act.put, z1, z2, z3, i64_w, i32_w]
         rfl
        refine pv 15 3 ?_
        refine pv 16 5 ?_
        refine done_ (done_of HT_.out (by kernel_rfl)) ?_
        try go_wp2
        go_ret
        exact ⟨er, bl⟩
       obtain rfl := Option.some.inj H
       go_wp2
       go_ret
       exact ⟨er, bl⟩

end Go.Proofs.YtodokfmmnihecaaGreatDoor.PFnExactEnvRight
