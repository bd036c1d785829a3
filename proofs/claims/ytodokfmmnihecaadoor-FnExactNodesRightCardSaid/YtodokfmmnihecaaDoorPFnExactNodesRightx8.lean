-- laid by seedprint.py, a program of this session, over contracts that it gives by hand; Lean checks it
-- dented
import Derived.Test.YtodokfmmnihecaaDoorPFnExactNodesRightx0
import Derived.Test.YtodokfmmnihecaaDoorPFnExactNodesRightx5
import Derived.Test.YtodokfmmnihecaaDoorPFnExactNodesRightx6
namespace Go.Proofs.YtodokfmmnihecaaDoor.PFnExactNodesRight
open Go.RowKit Go.Proofs.YtodokfmmnihecaaDoorW.PrintWords Go.Proofs.YtodokfmmnihecaaDoorW.PrintLast Go.Proofs.YtodokfmmnihecaaDoorW.PrintMore
attribute [local go_sem] max2_int min2_int max_two min_two max_three min_three max_four min_four   -- for this text's walks alone
set_option linter.unusedVariables false
set_option linter.unusedSimpArgs false

/-! ### impl_tree_isStatement: function 13 -/
def impl_tree_isStatement.j0 (KF : Int → ByteArray → ByteArray → Int → Int → Int → List (S37) → Int → ByteArray → Option (Bool)) : Nat → Bool → Bool → Bool → ByteArray → Int → Bool → Int → ByteArray → ByteArray → Int → Int → Int → List (S37) → Int → Option (Bool)
 | 0, _, _, _, _, _, _, _, _, _, _, _, _, _, _ => none
 | k + 1, x3, x4, x5, x6, x21, x22, x233000, x233001, x233002, x233003, x233004, x233005, x233006, x233007 => if x22 = true then ((impl_isFree.f x233001).bind fun t233 => (if t233 = true then (if x4 = true then (if x5 = true then ((KF x233000 x233001 x233002 x233003 x233004 x233005 x233006 x233007 x6).bind fun t234 => (some t234)) else (some false)) else (some false)) else (some false))) else (if x21 = 22 then (if x3 = true then (if x4 = true then (if x5 = true then ((KF x233000 x233001 x233002 x233003 x233004 x233005 x233006 x233007 (⟨#[101, 98, 98]⟩ : ByteArray)).bind fun t235 => (some t235)) else (some false)) else (some false)) else (some false)) else (if x21 = 23 then ((impl_isFree.f x233001).bind fun t236 => ((impl_isFree.f x233002).bind fun t237 => (if t236 = true then (if t237 = true then (if x5 = true then ((KF x233000 x233001 x233002 x233003 x233004 x233005 x233006 x233007 x6).bind fun t238 => (some t238)) else (some false)) else (some false)) else (some false)))) else (if x21 = 24 then ((impl_in.f x233003 1 99).bind fun t239 => (if x3 = true then (if x4 = true then (if t239 = true then ((KF x233000 x233001 x233002 x233003 x233004 x233005 x233006 x233007 (⟨#[]⟩ : ByteArray)).bind fun t240 => (some t240)) else (some false)) else (some false)) else (some false))) else (if x21 = 25 then (if x3 = true then (if x4 = true then (if x5 = true then ((KF x233000 x233001 x233002 x233003 x233004 x233005 x233006 x233007 x6).bind fun t241 => (some t241)) else (some false)) else (some false)) else (some false)) else (if x21 = 26 then (if x3 = true then (if x4 = true then (if x5 = true then ((KF x233000 x233001 x233002 x233003 x233004 x233005 x233006 x233007 (⟨#[101, 98]⟩ : ByteArray)).bind fun t242 => (some t242)) else (some false)) else (some false)) else (some false)) else (if x21 = 27 then (if (x233006.length : Int) > 40 then (some false) else ((strings_Repeat.f (⟨#[115]⟩ : ByteArray) (x233006.length : Int)).bind fun t243 => (if x3 = true then (if x4 = true then (if x5 = true then ((KF x233000 x233001 x233002 x233003 x233004 x233005 x233006 x233007 t243).bind fun t244 => (some t244)) else (some false)) else (some false)) else (some false)))) else (some false)))))))
def impl_tree_isStatement.f (KF : Int → ByteArray → ByteArray → Int → Int → Int → List (S37) → Int → ByteArray → Option (Bool)) (k : Nat) (a0_0 : Int) (a0_1 : ByteArray) (a0_2 : ByteArray) (a0_3 : Int) (a0_4 : Int) (a0_5 : Int) (l0_6 : List (S37)) (a0_7 : Int) : Option (Bool) := if a0_0 = 20 then (impl_tree_isStatement.j0 KF k (a0_1.toList == ([] : List UInt8)) (a0_2.toList == ([] : List UInt8)) (a0_3 == 0) (⟨#[101]⟩ : ByteArray) a0_0 (a0_0 == 20) a0_0 a0_1 a0_2 a0_3 a0_4 a0_5 l0_6 a0_7) else (impl_tree_isStatement.j0 KF k (a0_1.toList == ([] : List UInt8)) (a0_2.toList == ([] : List UInt8)) (a0_3 == 0) (⟨#[101]⟩ : ByteArray) a0_0 (a0_0 == 21) a0_0 a0_1 a0_2 a0_3 a0_4 a0_5 l0_6 a0_7)
theorem impl_tree_isStatement.mono_l (KF KF' : Int → ByteArray → ByteArray → Int → Int → Int → List (S37) → Int → ByteArray → Option (Bool)) (hK : ∀ y0 y1 y2 y3 y4 y5 y6 y7 y8, LeO (KF y0 y1 y2 y3 y4 y5 y6 y7 y8) (KF' y0 y1 y2 y3 y4 y5 y6 y7 y8)) : ∀ k, (∀ y0 y1 y2 y3 y4 y5 y6 y7 y8 y9 y10 y11 y12 y13, LeO (impl_tree_isStatement.j0 KF k y0 y1 y2 y3 y4 y5 y6 y7 y8 y9 y10 y11 y12 y13) (impl_tree_isStatement.j0 KF' (k + 1) y0 y1 y2 y3 y4 y5 y6 y7 y8 y9 y10 y11 y12 y13))
 | 0 => fun _ _ _ _ _ _ _ _ _ _ _ _ _ _ r h => by simp [impl_tree_isStatement.j0] at h
 | k + 1 => by
  have ih0 := impl_tree_isStatement.mono_l KF KF' hK k
  ·intro y0 y1 y2 y3 y4 y5 y6 y7 y8 y9 y10 y11 y12 y13
   unfold impl_tree_isStatement.j0
   repeat' first
   | (with_reducible exact ih0 _ _ _ _ _ _ _ _ _ _ _ _ _ _)
   | (with_reducible exact hK _ _ _ _ _ _ _ _ _)
   | (with_reducible exact LeO.refl _)
   | (with_reducible exact LeO.none _)
   | (with_reducible refine LeO.ite ?_ ?_)
   | (with_reducible refine LeO.bind ?_ (fun _ => ?_))
   | exact ih0 _ _ _ _ _ _ _ _ _ _ _ _ _ _
   | exact hK _ _ _ _ _ _ _ _ _
   | exact LeO.none _
   | refine LeO.ite ?_ ?_
   | refine LeO.bind ?_ (fun _ => ?_)
theorem impl_tree_isStatement.mono (KF KF' : Int → ByteArray → ByteArray → Int → Int → Int → List (S37) → Int → ByteArray → Option (Bool)) (hK : ∀ y0 y1 y2 y3 y4 y5 y6 y7 y8, LeO (KF y0 y1 y2 y3 y4 y5 y6 y7 y8) (KF' y0 y1 y2 y3 y4 y5 y6 y7 y8)) : ∀ a0 a1 a2 a3 a4 a5 a6 a7 k, LeO (impl_tree_isStatement.f KF k a0 a1 a2 a3 a4 a5 a6 a7) (impl_tree_isStatement.f KF' (k + 1) a0 a1 a2 a3 a4 a5 a6 a7) := by
 intro a0 a1 a2 a3 a4 a5 a6 a7 k
 have ih0 := impl_tree_isStatement.mono_l KF KF' hK k
 unfold impl_tree_isStatement.f
 repeat' first
   | (with_reducible exact ih0 _ _ _ _ _ _ _ _ _ _ _ _ _ _)
   | (with_reducible exact hK _ _ _ _ _ _ _ _ _)
   | (with_reducible exact LeO.refl _)
   | (with_reducible exact LeO.none _)
   | (with_reducible refine LeO.ite ?_ ?_)
   | (with_reducible refine LeO.bind ?_ (fun _ => ?_))
   | exact ih0 _ _ _ _ _ _ _ _ _ _ _ _ _ _
   | exact hK _ _ _ _ _ _ _ _ _
   | exact LeO.none _
   | refine LeO.ite ?_ ?_
   | refine LeO.bind ?_ (fun _ => ?_)
def impl_tree_isStatement.T1 : Bool × List (List Nat × List Nat) := (true, [([], []), ([0], [0]), ([1], [1]), ([2], [2]), ([], []), ([4], [4]), ([5], [5]), ([6], [6]), ([], []), ([8], [8]), ([9], [9]), ([10], [10]), ([3, 0, 1, 2, 3], [3]), ([7, 12, 0, 1, 2, 3, 4, 5, 6, 7, 12], [7]), ([11, 13, 0, 1, 2, 3, 4, 5, 6, 7, 8, 9, 10, 11, 12, 13], [11])])
def impl_tree_isStatement.B1 : List Nat := [0, 1, 3, 7, 0, 16, 48, 112, 0, 256, 768, 1792, 15, 4351, 16383]
theorem impl_tree_isStatement.tab1 : rtab .any (opsOf Tryd.f13 1) = impl_tree_isStatement.T1 := by kernel_rfl
theorem impl_tree_isStatement.bits1 : waitsOk impl_tree_isStatement.T1.2 impl_tree_isStatement.B1 = true := by kernel_rfl
def impl_tree_isStatement.T11 : Bool × List (List Nat × List Nat) := (true, [([], []), ([0], [0]), ([1], [1]), ([2], [2]), ([], []), ([4], [4]), ([5], [5]), ([6, 3], [6]), ([3, 7, 0, 1, 2, 3], [3]), ([7, 8, 0, 1, 2, 3, 4, 5, 6, 7, 8], [7])])
def impl_tree_isStatement.B11 : List Nat := [0, 1, 3, 7, 0, 16, 48, 127, 255, 511]
theorem impl_tree_isStatement.tab11 : rtab .any (opsOf Tryd.f13 11) = impl_tree_isStatement.T11 := by kernel_rfl
theorem impl_tree_isStatement.bits11 : waitsOk impl_tree_isStatement.T11.2 impl_tree_isStatement.B11 = true := by kernel_rfl
set_option maxHeartbeats 8000000 in
set_option maxRecDepth 100000 in
theorem impl_tree_isStatement.calls (KK : impl_tree_kidsAre.HK) (k : Nat) (a0_0 : Int) (a0_1 : ByteArray) (a0_2 : ByteArray) (a0_3 : Int) (a0_4 : Int) (a0_5 : Int) (A0_6 : Option Addr) (c0_6 : Nat) (l0_6 : List (S37)) (a0_7 : Int) (r : Bool) (w : World) (hr0_6 : Kd.C k37 w A0_6 l0_6.length l0_6) (hc0_6 : l0_6.length ≤ c0_6) (hsh : Sh w) (h : impl_tree_isStatement.f KK.f k a0_0 a0_1 a0_2 a0_3 a0_4 a0_5 l0_6 a0_7 = some r) :
  Calls Tryd.prog 13 #[.agg #[.int .i64 a0_0, .string a0_1, .string a0_2, .int .i64 a0_3, .int .i64 a0_4, .int .i64 a0_5, .slice A0_6 l0_6.length c0_6, .int .i64 a0_7]] w fun e w' => e = .returned (.bool r) ∧ Below w.heap.size w w' := by
 have hu37 := Tryd.underlying37
 have HR0_6 := Aside0.mk hr0_6
 have HC0_6 := Aside0.mk hc0_6
 clear hr0_6 hc0_6
 have HSH := Aside0.mk hsh
 clear hsh
 have HB := Aside0.mk (Below.refl w.heap.size w)
 have H : (if a0_0 = 20 then (impl_tree_isStatement.j0 KK.f k (a0_1.toList == ([] : List UInt8)) (a0_2.toList == ([] : List UInt8)) (a0_3 == 0) (⟨#[101]⟩ : ByteArray) a0_0 (a0_0 == 20) a0_0 a0_1 a0_2 a0_3 a0_4 a0_5 l0_6 a0_7) else (impl_tree_isStatement.j0 KK.f k (a0_1.toList == ([] : List UInt8)) (a0_2.toList == ([] : List UInt8)) (a0_3 == 0) (⟨#[101]⟩ : ByteArray) a0_0 (a0_0 == 21) a0_0 a0_1 a0_2 a0_3 a0_4 a0_5 l0_6 a0_7)) = some r := h
 clear h
 have HC2 := Aside0.mk H
 clear H
 go_enter Tryd.func13, Tryd.ntmps13
 try go_wp2_with (first | ((with_reducible refine gate_dst (N := 1) rfl ?_); refine box_event ?hg (N := 1) ?hd (cs := #[.int .i64 a0_0, .string a0_1, .string a0_2, .int .i64 a0_3, .int .i64 a0_4, .int .i64 a0_5, .slice A0_6 l0_6.length c0_6, .int .i64 a0_7]) (t := 37) ?hr ?_; (case hd => rfl); (case hg => rfl); (case hr => first | (go_simp; done) | (go_simp; rfl)); intro gb232 hg w3 hbox hb; have n0_ := Aside0.mk (below_step (by repeat (first | (with_reducible first | exact HB.out | apply below_alloc | apply pw_below_drewN | apply below_drew1) | exact HB.out)) hb); have n1_ := Aside0.mk (hbox); have n2_ := Aside0.mk ((by rw [hg]; exact (below_size (by repeat (first | (with_reducible first | exact HB.out | apply below_alloc | apply pw_below_drewN | apply below_drew1) | exact HB.out))) : w.heap.size ≤ gb232)); have n3_ := Aside0.mk ((by rw [hg]; exact (below_size (by repeat (first | (with_reducible first | exact HB.out | apply below_alloc | apply pw_below_drewN | apply below_drew1) | exact HB.out))) : w.heap.size ≤ gb232)); clear HB; have HB := n0_; have BK232 := n1_; have GW232 := n2_; have GE232 := n3_; clear n0_ n1_ n2_ n3_; clear hb hbox hg))
 have n0_ := Aside0.mk (blk_drew BK232.out)
 have n1_ := Aside0.mk (below_drew1 HB.out)
 clear BK232
 clear HB
 have BK232 := n0_
 have HB := n1_
 clear n0_ n1_
 refine start_ (n := 15) (S := fun w' => w'.cell? ⟨gb232, 0, none⟩ = some (.int .i64 a0_0) ∧ w'.cell? ⟨gb232, 1, none⟩ = some (.string a0_1) ∧ w'.cell? ⟨gb232, 2, none⟩ = some (.string a0_2) ∧ w'.cell? ⟨gb232, 3, none⟩ = some (.int .i64 a0_3) ∧ w'.cell? ⟨gb232, 4, none⟩ = some (.int .i64 a0_4) ∧ w'.cell? ⟨gb232, 5, none⟩ = some (.int .i64 a0_5) ∧ w'.cell? ⟨gb232, 6, none⟩ = some (.slice A0_6 l0_6.length c0_6) ∧ w'.cell? ⟨gb232, 7, none⟩ = some (.int .i64 a0_7)) (ds := []) #[false, false, false, false, false, false, false, false, false, false, false, false, false, false, false] (by kernel_rfl) rfl rfl ⟨(blk_cell BK232.out 0).trans rfl, (blk_cell BK232.out 1).trans rfl, (blk_cell BK232.out 2).trans rfl, (blk_cell BK232.out 3).trans rfl, (blk_cell BK232.out 4).trans rfl, (blk_cell BK232.out 5).trans rfl, (blk_cell BK232.out 6).trans rfl, (blk_cell BK232.out 7).trans rfl⟩ (fun hHeld => ?_); refine with_tabW impl_tree_isStatement.tab1 impl_tree_isStatement.bits1 (fun HT_ HW_ => ?_)
 generalize w3.drew = w4 at BK232 HB hHeld ⊢
 refine pure_ (i := 0) (N := some 7) (v := ?_) (a' := ?_) #[true, false, false, false, false, false, false, false, false, false, false, false, false, false, false] rfl rfl (any_of HT_.out (by kernel_rfl)) (fun _ _ _ h => h) (Or.inl ⟨by rfl, ?_⟩) ?_ ?_
 rotate_left
 ·intro w'
  go_simp
  with_reducible rfl
 rotate_left
 ·simp only [Act.put, List.setIfInBounds_toArray, List.set_cons_zero, List.set_cons_succ, i64_w, i32_w]
  rfl
 refine pure_ (i := 1) (N := some 8) (v := ?_) (a' := ?_) #[true, true, false, false, false, false, false, false, false, false, false, false, false, false, false] rfl rfl (any_of HT_.out (by kernel_rfl)) (fun _ _ _ h => h) (Or.inl ⟨by rfl, ?_⟩) ?_ ?_
 rotate_left
 ·intro w'
  go_simp
  with_reducible rfl
 rotate_left
 ·simp only [Act.put, List.setIfInBounds_toArray, List.set_cons_zero, List.set_cons_succ, i64_w, i32_w]
  rfl
 refine pure_ (i := 4) (N := some 11) (v := ?_) (a' := ?_) #[true, true, false, false, true, false, false, false, false, false, false, false, false, false, false] rfl rfl (any_of HT_.out (by kernel_rfl)) (fun _ _ _ h => h) (Or.inl ⟨by rfl, ?_⟩) ?_ ?_
 rotate_left
 ·intro w'
  go_simp
  with_reducible rfl
 rotate_left
 ·simp only [Act.put, List.setIfInBounds_toArray, List.set_cons_zero, List.set_cons_succ, i64_w, i32_w]
  rfl
 refine pure_ (i := 5) (N := some 12) (v := ?_) (a' := ?_) #[true, true, false, false, true, true, false, false, false, false, false, false, false, false, false] rfl rfl (any_of HT_.out (by kernel_rfl)) (fun _ _ _ h => h) (Or.inl ⟨by rfl, ?_⟩) ?_ ?_
 rotate_left
 ·intro w'
  go_simp
  with_reducible rfl
 rotate_left
 ·simp only [Act.put, List.setIfInBounds_toArray, List.set_cons_zero, List.set_cons_succ, i64_w, i32_w]
  rfl
 refine pure_ (i := 8) (N := some 15) (v := ?_) (a' := ?_) #[true, true, false, false, true, true, false, false, true, false, false, false, false, false, false] rfl rfl (any_of HT_.out (by kernel_rfl)) (fun _ _ _ h => h) (Or.inl ⟨by rfl, ?_⟩) ?_ ?_
 rotate_left
 ·intro w'
  go_simp
  with_reducible rfl
 rotate_left
 ·simp only [Act.put, List.setIfInBounds_toArray, List.set_cons_zero, List.set_cons_succ, i64_w, i32_w]
  rfl
 refine pure_ (i := 9) (N := some 16) (v := ?_) (a' := ?_) #[true, true, false, false, true, true, false, false, true, true, false, false, false, false, false] rfl rfl (any_of HT_.out (by kernel_rfl)) (fun _ _ _ h => h) (Or.inl ⟨by rfl, ?_⟩) ?_ ?_
 rotate_left
 ·intro w'
  go_simp
  with_reducible rfl
 rotate_left
 ·simp only [Act.put, List.setIfInBounds_toArray, List.set_cons_zero, List.set_cons_succ, i64_w, i32_w]
  rfl
 refine take_ (i := 2) (N := some 9) (v := ?_) (a' := ?_) #[true, true, true, false, true, true, false, false, true, true, false, false, false, false, false] rfl rfl (take_ofW HT_.out HW_.out (by kernel_rfl)) (fun _ _ _ h => h) (Or.inl ⟨by rfl, ?_⟩) hHeld ?_ ?_
 rotate_left
 ·rintro w' ⟨s0, s1, s2, s3, s4, s5, s6, s7⟩
  go_simp
  with_reducible rfl
 rotate_left
 ·simp only [Act.put, List.setIfInBounds_toArray, List.set_cons_zero, List.set_cons_succ, i64_w, i32_w]
  rfl
 refine pure_ (i := 3) (N := some 10) (v := ?_) (a' := ?_) #[true, true, true, true, true, true, false, false, true, true, false, false, false, false, false] rfl rfl (any_of HT_.out (by kernel_rfl)) (fun _ _ _ h => h) (Or.inl ⟨by rfl, ?_⟩) ?_ ?_
 rotate_left
 ·intro w'
  go_simp
  with_reducible rfl
 rotate_left
 ·simp only [Act.put, List.setIfInBounds_toArray, List.set_cons_zero, List.set_cons_succ, i64_w, i32_w]
  rfl
 refine pure_ (i := 12) (N := some 3) (v := ?_) (a' := ?_) #[true, true, true, true, true, true, false, false, true, true, false, false, true, false, false] rfl rfl (any_of HT_.out (by kernel_rfl)) (fun _ _ _ h => h) (Or.inl ⟨by rfl, ?_⟩) ?_ ?_
 rotate_left
 ·intro w'
  go_simp
  with_reducible rfl
 rotate_left
 ·simp only [Act.put, List.setIfInBounds_toArray, List.set_cons_zero, List.set_cons_succ, i64_w, i32_w]
  rfl
 refine take_ (i := 6) (N := some 13) (v := ?_) (a' := ?_) #[true, true, true, true, true, true, true, false, true, true, false, false, true, false, false] rfl rfl (take_ofW HT_.out HW_.out (by kernel_rfl)) (fun _ _ _ h => h) (Or.inl ⟨by rfl, ?_⟩) hHeld ?_ ?_
 rotate_left
 ·rintro w' ⟨s0, s1, s2, s3, s4, s5, s6, s7⟩
  go_simp
  with_reducible rfl
 rotate_left
 ·simp only [Act.put, List.setIfInBounds_toArray, List.set_cons_zero, List.set_cons_succ, i64_w, i32_w]
  rfl
 refine pure_ (i := 7) (N := some 14) (v := ?_) (a' := ?_) #[true, true, true, true, true, true, true, true, true, true, false, false, true, false, false] rfl rfl (any_of HT_.out (by kernel_rfl)) (fun _ _ _ h => h) (Or.inl ⟨by rfl, ?_⟩) ?_ ?_
 rotate_left
 ·intro w'
  go_simp
  with_reducible rfl
 rotate_left
 ·simp only [Act.put, List.setIfInBounds_toArray, List.set_cons_zero, List.set_cons_succ, i64_w, i32_w]
  rfl
 refine pure_ (i := 13) (N := some 4) (v := ?_) (a' := ?_) #[true, true, true, true, true, true, true, true, true, true, false, false, true, true, false] rfl rfl (any_of HT_.out (by kernel_rfl)) (fun _ _ _ h => h) (Or.inl ⟨by rfl, ?_⟩) ?_ ?_
 rotate_left
 ·intro w'
  go_simp
  with_reducible rfl
 rotate_left
 ·simp only [Act.put, List.setIfInBounds_toArray, List.set_cons_zero, List.set_cons_succ, i64_w, i32_w]
  rfl
 refine take_ (i := 10) (N := some 17) (v := ?_) (a' := ?_) #[true, true, true, true, true, true, true, true, true, true, true, false, true, true, false] rfl rfl (take_ofW HT_.out HW_.out (by kernel_rfl)) (fun _ _ _ h => h) (Or.inl ⟨by rfl, ?_⟩) hHeld ?_ ?_
 rotate_left
 ·rintro w' ⟨s0, s1, s2, s3, s4, s5, s6, s7⟩
  go_simp
  with_reducible rfl
 rotate_left
 ·simp only [Act.put, List.setIfInBounds_toArray, List.set_cons_zero, List.set_cons_succ, i64_w, i32_w]
  rfl
 refine pure_ (i := 11) (N := some 18) (v := ?_) (a' := ?_) #[true, true, true, true, true, true, true, true, true, true, true, true, true, true, false] rfl rfl (any_of HT_.out (by kernel_rfl)) (fun _ _ _ h => h) (Or.inl ⟨by rfl, ?_⟩) ?_ ?_
 rotate_left
 ·intro w'
  go_simp
  with_reducible rfl
 rotate_left
 ·simp only [Act.put, List.setIfInBounds_toArray, List.set_cons_zero, List.set_cons_succ, i64_w, i32_w]
  rfl
 refine pure_ (i := 14) (N := some 5) (v := ?_) (a' := ?_) #[true, true, true, true, true, true, true, true, true, true, true, true, true, true, true] rfl rfl (any_of HT_.out (by kernel_rfl)) (fun _ _ _ h => h) (Or.inl ⟨by rfl, ?_⟩) ?_ ?_
 rotate_left
 ·intro w'
  go_simp
  with_reducible rfl
 rotate_left
 ·simp only [Act.put, List.setIfInBounds_toArray, List.set_cons_zero, List.set_cons_succ, i64_w, i32_w]
  rfl
 refine done_ (done_of HT_.out (by kernel_rfl)) ?_
 have hcz5_0 : w4.cell? ⟨gb232, 0, none⟩ = some (.int .i64 a0_0) := (blk_cell BK232.out 0).trans rfl
 have hcz5_1 : w4.cell? ⟨gb232, 1, none⟩ = some (.string a0_1) := (blk_cell BK232.out 1).trans rfl
 have hcz5_2 : w4.cell? ⟨gb232, 2, none⟩ = some (.string a0_2) := (blk_cell BK232.out 2).trans rfl
 have hcz5_3 : w4.cell? ⟨gb232, 3, none⟩ = some (.int .i64 a0_3) := (blk_cell BK232.out 3).trans rfl
 have hcz5_4 : w4.cell? ⟨gb232, 4, none⟩ = some (.int .i64 a0_4) := (blk_cell BK232.out 4).trans rfl
 have hcz5_5 : w4.cell? ⟨gb232, 5, none⟩ = some (.int .i64 a0_5) := (blk_cell BK232.out 5).trans rfl
 have hcz5_6 : w4.cell? ⟨gb232, 6, none⟩ = some (.slice A0_6 l0_6.length c0_6) := (blk_cell BK232.out 6).trans rfl
 have hcz5_7 : w4.cell? ⟨gb232, 7, none⟩ = some (.int .i64 a0_7) := (blk_cell BK232.out 7).trans rfl
 have hfz5_0 := blk_frozen BK232.out 0
 have hfz5_1 := blk_frozen BK232.out 1
 have hfz5_2 := blk_frozen BK232.out 2
 have hfz5_3 := blk_frozen BK232.out 3
 have hfz5_4 := blk_frozen BK232.out 4
 have hfz5_5 := blk_frozen BK232.out 5
 have hfz5_6 := blk_frozen BK232.out 6
 have hfz5_7 := blk_frozen BK232.out 7
 go_upto_if 22 with (fail)
 go_cut [22] (fun v22 wc => ∃ (kq : Nat) (x22_1 : Bool), v22 = .bool x22_1 ∧ Aside0 (impl_tree_isStatement.j0 KK.f kq (a0_1.toList == ([] : List UInt8)) (a0_2.toList == ([] : List UInt8)) (a0_3 == 0) (⟨#[101]⟩ : ByteArray) a0_0 x22_1 a0_0 a0_1 a0_2 a0_3 a0_4 a0_5 l0_6 a0_7 = some r) ∧ Aside0 (kq ≤ k) ∧ Aside0 (wc.heap[gb232]? = some (.cells #[.int .i64 a0_0, .string a0_1, .string a0_2, .int .i64 a0_3, .int .i64 a0_4, .int .i64 a0_5, (.slice A0_6 l0_6.length c0_6), .int .i64 a0_7] 37 (0, 0))) ∧ Aside0 (Below w.heap.size w wc))
 case first =>
  have H := HC2.out
  clear HC2
  by_cases c6 : a0_0 = 20
  ·rw [if_pos c6] at H
   have c6b0 : (a0_0 == 20) = true := beq_iff_eq.mpr c6
   have c6b1 : (a0_0 != 20) = false := bne_eq_false_iff_eq.mpr c6
   clear c6
   (first | rw [c6b0] | (simp only [i64_w, i32_w]; rw [c6b0]) | skip)
   have H' := Aside0.mk H
   clear H
   go_wp2
   go_meet
   case rel => exact ⟨_, ((a0_0 == 20)), (by first | rfl | (simp; done) | (simp [*]; done) | (simp [isE_bne]; done)), H', ⟨by first | omega | exact Nat.le_refl _⟩, ⟨by (with_reducible repeat (first | refine blk_drewN ?_ _ | refine blk_drew ?_ | refine blk_alloc ?_ _)); exact BK232.out⟩, ⟨by repeat (first | (with_reducible first | exact HB.out | apply below_alloc | apply pw_below_drewN | apply below_drew1 | refine below_set ?_ GE232.out) | exact HB.out)⟩⟩
  ·rw [if_neg c6] at H
   have c6b0 : (a0_0 == 20) = false := beq_eq_false_iff_ne.mpr c6
   have c6b1 : (a0_0 != 20) = true := bne_iff_ne.mpr c6
   (first | rw [c6b0] | (simp only [i64_w, i32_w]; rw [c6b0]) | skip)
   have H' := Aside0.mk H
   clear H
   go_wp2
   go_meet
   case rel => exact ⟨_, ((a0_0 == 21)), (by first | rfl | (simp; done) | (simp [*]; done) | (simp [isE_bne]; done)), H', ⟨by first | omega | exact Nat.le_refl _⟩, ⟨by (with_reducible repeat (first | refine blk_drewN ?_ _ | refine blk_drew ?_ | refine blk_alloc ?_ _)); exact BK232.out⟩, ⟨by repeat (first | (with_reducible first | exact HB.out | apply below_alloc | apply pw_below_drewN | apply below_drew1 | refine below_set ?_ GE232.out) | exact HB.out)⟩⟩
 case rest => as_aux_lemma =>
  clear HC2
  try clear c1
  try clear p2
  try clear c6
  try clear c6b0
  try clear c6b1
  try clear hcz5_0
  try clear hcz5_1
  try clear hcz5_2
  try clear hcz5_3
  try clear hcz5_4
  try clear hcz5_5
  try clear hcz5_6
  try clear hcz5_7
  try clear hfz5_0
  try clear hfz5_1
  try clear hfz5_2
  try clear hfz5_3
  try clear hfz5_4
  try clear hfz5_5
  try clear hfz5_6
  try clear hfz5_7
  obtain ⟨kq, x22_1, rfl, HA, HJ1, BK232, HB⟩ := hcut
  cases kq with
  | zero => exact absurd HA.out (by simp [impl_tree_isStatement.j0])
  | succ kj1 =>
   have H := HA.out
   clear HA
   simp only [impl_tree_isStatement.j0] at H
   by_cases c7 : x22_1 = true
   ·subst c7
    have H1 : ((impl_isFree.f a0_1).bind fun t233 => (if t233 = true then (if (a0_2.toList == ([] : List UInt8)) = true then (if (a0_3 == 0) = true then ((KK.f a0_0 a0_1 a0_2 a0_3 a0_4 a0_5 l0_6 a0_7 (⟨#[101]⟩ : ByteArray)).bind fun t234 => (some t234)) else (some false)) else (some false)) else (some false))) = some r := by rw [if_pos rfl] at H; exact H
    clear H
    have H := H1
    clear H1
    replace H := Option.bind_eq_some_iff.mp H
    obtain ⟨t233, A80, H⟩ := H
    replace H : (if t233 = true then (if (a0_2.toList == ([] : List UInt8)) = true then (if (a0_3 == 0) = true then ((KK.f a0_0 a0_1 a0_2 a0_3 a0_4 a0_5 l0_6 a0_7 (⟨#[101]⟩ : ByteArray)).bind fun t234 => (some t234)) else (some false)) else (some false)) else (some false)) = some r := H
    have A8 := Aside0.mk A80
    clear A80
    by_cases c9 : t233 = true
    ·subst c9
     have H1 : (if (a0_2.toList == ([] : List UInt8)) = true then (if (a0_3 == 0) = true then ((KK.f a0_0 a0_1 a0_2 a0_3 a0_4 a0_5 l0_6 a0_7 (⟨#[101]⟩ : ByteArray)).bind fun t234 => (some t234)) else (some false)) else (some false)) = some r := by rw [if_pos rfl] at H; exact H
     clear H
     have H := H1
     clear H1
     by_cases c10 : (a0_2.toList == ([] : List UInt8)) = true
     ·rw [if_pos c10] at H
      have c10b0 : (a0_2.toList == ([] : List UInt8)) = true := c10
      (try (have c10b3 : a0_2.toList.isEmpty = true := by simpa using c10b0))
      (try (have c10b1 : decide (a0_2.toList = ([] : List UInt8)) = true := by simpa using c10))
      (try (have c10b2 : (a0_2.toList == ([] : List UInt8)) = true := by simpa using c10))
      (try (have c10b3 : a0_2.toList.isEmpty = true := by simpa using c10))
      clear c10
      by_cases c11 : (a0_3 == 0) = true
      ·rw [if_pos c11] at H
       have c11b0 : (a0_3 == 0) = true := c11
       (try (have c11b1 : decide (a0_3 = 0) = true := by simpa using c11))
       (try (have c11b2 : (a0_3 == 0) = true := by simpa using c11))
       clear c11
       replace H := Option.bind_eq_some_iff.mp H
       obtain ⟨t234, A120, H⟩ := H
       replace H : (some t234) = some r := H
       have A12 := Aside0.mk A120
       clear A120
       obtain rfl := Option.some.inj H
       have hcz13_0 : wc.cell? ⟨gb232, 0, none⟩ = some (.int .i64 a0_0) := (blk_cell BK232.out 0).trans rfl
       have hcz13_1 : wc.cell? ⟨gb232, 1, none⟩ = some (.string a0_1) := (blk_cell BK232.out 1).trans rfl
       have hcz13_2 : wc.cell? ⟨gb232, 2, none⟩ = some (.string a0_2) := (blk_cell BK232.out 2).trans rfl
       have hcz13_3 : wc.cell? ⟨gb232, 3, none⟩ = some (.int .i64 a0_3) := (blk_cell BK232.out 3).trans rfl
       have hcz13_4 : wc.cell? ⟨gb232, 4, none⟩ = some (.int .i64 a0_4) := (blk_cell BK232.out 4).trans rfl
       have hcz13_5 : wc.cell? ⟨gb232, 5, none⟩ = some (.int .i64 a0_5) := (blk_cell BK232.out 5).trans rfl
       have hcz13_6 : wc.cell? ⟨gb232, 6, none⟩ = some (.slice A0_6 l0_6.length c0_6) := (blk_cell BK232.out 6).trans rfl
       have hcz13_7 : wc.cell? ⟨gb232, 7, none⟩ = some (.int .i64 a0_7) := (blk_cell BK232.out 7).trans rfl
       have hfz13_0 := blk_frozen BK232.out 0
       have hfz13_1 := blk_frozen BK232.out 1
       have hfz13_2 := blk_frozen BK232.out 2
       have hfz13_3 := blk_frozen BK232.out 3
       have hfz13_4 := blk_frozen BK232.out 4
       have hfz13_5 := blk_frozen BK232.out 5
       have hfz13_6 := blk_frozen BK232.out 6
       have hfz13_7 := blk_frozen BK232.out 7
       go_wp2_with (first | ((with_reducible refine gate_callee (f := 19) rfl ?_); refine goesL_ (some 28) rfl rfl Tryd.func19 (by kernel_rfl) rfl #[.string a0_1] rfl (by (try simp only [List.map_toArray, List.map_cons, List.map_nil]); first | done | rfl | (simp only [List.length_drop, List.length_take]; rfl)) ?_; (with_reducible refine (impl_isFree.calls a0_1 true _ ?side1 A8.out).mono ?_); (case side1 => exact Sh.below HSH.out (by repeat (first | (with_reducible first | exact HB.out | apply below_alloc | apply pw_below_drewN | apply below_drew1 | refine below_set ?_ GE232.out) | exact HB.out))); rintro e w14 ⟨rfl, hb⟩; refine ⟨_, rfl, ?_⟩; have n0_ := Aside0.mk (blk_below (g := gb232) (o := .cells #[.int .i64 a0_0, .string a0_1, .string a0_2, .int .i64 a0_3, .int .i64 a0_4, .int .i64 a0_5, .slice A0_6 l0_6.length c0_6, .int .i64 a0_7] 37 (0, 0)) (by (with_reducible repeat (first | refine blk_drewN ?_ _ | refine blk_drew ?_ | refine blk_alloc ?_ _)); exact BK232.out) hb); have n1_ := Aside0.mk (below_step (by repeat (first | (with_reducible first | exact HB.out | apply below_alloc | apply pw_below_drewN | apply below_drew1 | refine below_set ?_ GE232.out) | exact HB.out)) hb); clear BK232; clear HB; have BK232 := n0_; have HB := n1_; clear n0_ n1_; (try clear hb); (try clear hb2); (try clear hk); (try clear hi); have hcz15_0 : w14.cell? ⟨gb232, 0, none⟩ = some (.int .i64 a0_0) := (blk_cell BK232.out 0).trans rfl; have hcz15_1 : w14.cell? ⟨gb232, 1, none⟩ = some (.string a0_1) := (blk_cell BK232.out 1).trans rfl; have hcz15_2 : w14.cell? ⟨gb232, 2, none⟩ = some (.string a0_2) := (blk_cell BK232.out 2).trans rfl; have hcz15_3 : w14.cell? ⟨gb232, 3, none⟩ = some (.int .i64 a0_3) := (blk_cell BK232.out 3).trans rfl; have hcz15_4 : w14.cell? ⟨gb232, 4, none⟩ = some (.int .i64 a0_4) := (blk_cell BK232.out 4).trans rfl; have hcz15_5 : w14.cell? ⟨gb232, 5, none⟩ = some (.int .i64 a0_5) := (blk_cell BK232.out 5).trans rfl; have hcz15_6 : w14.cell? ⟨gb232, 6, none⟩ = some (.slice A0_6 l0_6.length c0_6) := (blk_cell BK232.out 6).trans rfl; have hcz15_7 : w14.cell? ⟨gb232, 7, none⟩ = some (.int .i64 a0_7) := (blk_cell BK232.out 7).trans rfl; have hfz15_0 := blk_frozen BK232.out 0; have hfz15_1 := blk_frozen BK232.out 1; have hfz15_2 := blk_frozen BK232.out 2; have hfz15_3 := blk_frozen BK232.out 3; have hfz15_4 := blk_frozen BK232.out 4; have hfz15_5 := blk_frozen BK232.out 5; have hfz15_6 := blk_frozen BK232.out 6; have hfz15_7 := blk_frozen BK232.out 7) | (go_at_call 22; (with_reducible refine (KK.calls a0_0 a0_1 a0_2 a0_3 a0_4 a0_5 _ _ l0_6 a0_7 (⟨#[101]⟩ : ByteArray) t234 _ ?side1 ?side2 ?side3 A12.out).mono ?_); (case side1 => repeat (first | exact (Kd.C_below HR0_6.out HB.out) | (with_reducible refine Kd.C_alloc ?_ _) | (with_reducible refine Kd.C_drewN ?_ _) | (with_reducible refine Kd.C_drew ?_))); (case side2 => exact HC0_6.out); (case side3 => exact Sh.below HSH.out (by repeat (first | (with_reducible first | exact HB.out | apply below_alloc | apply pw_below_drewN | apply below_drew1 | refine below_set ?_ GE232.out) | exact HB.out))); rintro e w16 ⟨rfl, hb⟩; have n0_ := Aside0.mk (blk_below (g := gb232) (o := .cells #[.int .i64 a0_0, .string a0_1, .string a0_2, .int .i64 a0_3, .int .i64 a0_4, .int .i64 a0_5, .slice A0_6 l0_6.length c0_6, .int .i64 a0_7] 37 (0, 0)) (by (with_reducible repeat (first | refine blk_drewN ?_ _ | refine blk_drew ?_ | refine blk_alloc ?_ _)); exact BK232.out) hb); have n1_ := Aside0.mk (below_step (by repeat (first | (with_reducible first | exact HB.out | apply below_alloc | apply pw_below_drewN | apply below_drew1 | refine below_set ?_ GE232.out) | exact HB.out)) hb); clear BK232; clear HB; have BK232 := n0_; have HB := n1_; clear n0_ n1_; (try clear hb); (try clear hb2); (try clear hk); (try clear hi)))
       go_ret
       exact ⟨by first | rfl | (simp [errW_none, errW_some] <;> rfl) | (simp [*, errW_none, errW_some] <;> rfl), by repeat (first | (with_reducible first | exact HB.out | apply below_alloc | apply pw_below_drewN | apply below_drew1 | refine below_set ?_ GE232.out) | exact HB.out)⟩
      ·rw [if_neg c11] at H
       have c11b0 : (a0_3 == 0) = false := by simpa using c11
       (try (have c11b1 : decide (a0_3 = 0) = false := by simpa using c11))
       (try (have c11b2 : (a0_3 == 0) = false := by simpa using c11))
       (try (have c11b3 : ¬ (a0_3 = 0) := by simpa using c11))
       clear c11
       obtain rfl := Option.some.inj H
       have hcz17_0 : wc.cell? ⟨gb232, 0, none⟩ = some (.int .i64 a0_0) := (blk_cell BK232.out 0).trans rfl
       have hcz17_1 : wc.cell? ⟨gb232, 1, none⟩ = some (.string a0_1) := (blk_cell BK232.out 1).trans rfl
       have hcz17_2 : wc.cell? ⟨gb232, 2, none⟩ = some (.string a0_2) := (blk_cell BK232.out 2).trans rfl
       have hcz17_3 : wc.cell? ⟨gb232, 3, none⟩ = some (.int .i64 a0_3) := (blk_cell BK232.out 3).trans rfl
       have hcz17_4 : wc.cell? ⟨gb232, 4, none⟩ = some (.int .i64 a0_4) := (blk_cell BK232.out 4).trans rfl
       have hcz17_5 : wc.cell? ⟨gb232, 5, none⟩ = some (.int .i64 a0_5) := (blk_cell BK232.out 5).trans rfl
       have hcz17_6 : wc.cell? ⟨gb232, 6, none⟩ = some (.slice A0_6 l0_6.length c0_6) := (blk_cell BK232.out 6).trans rfl
       have hcz17_7 : wc.cell? ⟨gb232, 7, none⟩ = some (.int .i64 a0_7) := (blk_cell BK232.out 7).trans rfl
       have hfz17_0 := blk_frozen BK232.out 0
       have hfz17_1 := blk_frozen BK232.out 1
       have hfz17_2 := blk_frozen BK232.out 2
       have hfz17_3 := blk_frozen BK232.out 3
       have hfz17_4 := blk_frozen BK232.out 4
       have hfz17_5 := blk_frozen BK232.out 5
       have hfz17_6 := blk_frozen BK232.out 6
       have hfz17_7 := blk_frozen BK232.out 7
       go_wp2_with (first | ((with_reducible refine gate_callee (f := 19) rfl ?_); refine goesL_ (some 28) rfl rfl Tryd.func19 (by kernel_rfl) rfl #[.string a0_1] rfl (by (try simp only [List.map_toArray, List.map_cons, List.map_nil]); first | done | rfl | (simp only [List.length_drop, List.length_take]; rfl)) ?_; (with_reducible refine (impl_isFree.calls a0_1 true _ ?side1 A8.out).mono ?_); (case side1 => exact Sh.below HSH.out (by repeat (first | (with_reducible first | exact HB.out | apply below_alloc | apply pw_below_drewN | apply below_drew1 | refine below_set ?_ GE232.out) | exact HB.out))); rintro e w18 ⟨rfl, hb⟩; refine ⟨_, rfl, ?_⟩; have n0_ := Aside0.mk (blk_below (g := gb232) (o := .cells #[.int .i64 a0_0, .string a0_1, .string a0_2, .int .i64 a0_3, .int .i64 a0_4, .int .i64 a0_5, .slice A0_6 l0_6.length c0_6, .int .i64 a0_7] 37 (0, 0)) (by (with_reducible repeat (first | refine blk_drewN ?_ _ | refine blk_drew ?_ | refine blk_alloc ?_ _)); exact BK232.out) hb); have n1_ := Aside0.mk (below_step (by repeat (first | (with_reducible first | exact HB.out | apply below_alloc | apply pw_below_drewN | apply below_drew1 | refine below_set ?_ GE232.out) | exact HB.out)) hb); clear BK232; clear HB; have BK232 := n0_; have HB := n1_; clear n0_ n1_; (try clear hb); (try clear hb2); (try clear hk); (try clear hi)))
       go_ret
       exact ⟨by first | rfl | (simp [errW_none, errW_some] <;> rfl) | (simp [*, errW_none, errW_some] <;> rfl), by repeat (first | (with_reducible first | exact HB.out | apply below_alloc | apply pw_below_drewN | apply below_drew1 | refine below_set ?_ GE232.out) | exact HB.out)⟩
     ·rw [if_neg c10] at H
      have c10b0 : (a0_2.toList == ([] : List UInt8)) = false := by simpa using c10
      (try (have c10b3 : a0_2.toList.isEmpty = false := by simpa using c10b0))
      (try (have c10b1 : decide (a0_2.toList = ([] : List UInt8)) = false := by simpa using c10))
      (try (have c10b2 : (a0_2.toList == ([] : List UInt8)) = false := by simpa using c10))
      (try (have c10b3 : a0_2.toList.isEmpty = false := by simpa using c10))
      (try (have c10b3 : ¬ (a0_2.toList = ([] : List UInt8)) := by simpa using c10))
      clear c10
      obtain rfl := Option.some.inj H
      have hcz19_0 : wc.cell? ⟨gb232, 0, none⟩ = some (.int .i64 a0_0) := (blk_cell BK232.out 0).trans rfl
      have hcz19_1 : wc.cell? ⟨gb232, 1, none⟩ = some (.string a0_1) := (blk_cell BK232.out 1).trans rfl
      have hcz19_2 : wc.cell? ⟨gb232, 2, none⟩ = some (.string a0_2) := (blk_cell BK232.out 2).trans rfl
      have hcz19_3 : wc.cell? ⟨gb232, 3, none⟩ = some (.int .i64 a0_3) := (blk_cell BK232.out 3).trans rfl
      have hcz19_4 : wc.cell? ⟨gb232, 4, none⟩ = some (.int .i64 a0_4) := (blk_cell BK232.out 4).trans rfl
      have hcz19_5 : wc.cell? ⟨gb232, 5, none⟩ = some (.int .i64 a0_5) := (blk_cell BK232.out 5).trans rfl
      have hcz19_6 : wc.cell? ⟨gb232, 6, none⟩ = some (.slice A0_6 l0_6.length c0_6) := (blk_cell BK232.out 6).trans rfl
      have hcz19_7 : wc.cell? ⟨gb232, 7, none⟩ = some (.int .i64 a0_7) := (blk_cell BK232.out 7).trans rfl
      have hfz19_0 := blk_frozen BK232.out 0
      have hfz19_1 := blk_frozen BK232.out 1
      have hfz19_2 := blk_frozen BK232.out 2
      have hfz19_3 := blk_frozen BK232.out 3
      have hfz19_4 := blk_frozen BK232.out 4
      have hfz19_5 := blk_frozen BK232.out 5
      have hfz19_6 := blk_frozen BK232.out 6
      have hfz19_7 := blk_frozen BK232.out 7
      go_wp2_with (first | ((with_reducible refine gate_callee (f := 19) rfl ?_); refine goesL_ (some 28) rfl rfl Tryd.func19 (by kernel_rfl) rfl #[.string a0_1] rfl (by (try simp only [List.map_toArray, List.map_cons, List.map_nil]); first | done | rfl | (simp only [List.length_drop, List.length_take]; rfl)) ?_; (with_reducible refine (impl_isFree.calls a0_1 true _ ?side1 A8.out).mono ?_); (case side1 => exact Sh.below HSH.out (by repeat (first | (with_reducible first | exact HB.out | apply below_alloc | apply pw_below_drewN | apply below_drew1 | refine below_set ?_ GE232.out) | exact HB.out))); rintro e w20 ⟨rfl, hb⟩; refine ⟨_, rfl, ?_⟩; have n0_ := Aside0.mk (blk_below (g := gb232) (o := .cells #[.int .i64 a0_0, .string a0_1, .string a0_2, .int .i64 a0_3, .int .i64 a0_4, .int .i64 a0_5, .slice A0_6 l0_6.length c0_6, .int .i64 a0_7] 37 (0, 0)) (by (with_reducible repeat (first | refine blk_drewN ?_ _ | refine blk_drew ?_ | refine blk_alloc ?_ _)); exact BK232.out) hb); have n1_ := Aside0.mk (below_step (by repeat (first | (with_reducible first | exact HB.out | apply below_alloc | apply pw_below_drewN | apply below_drew1 | refine below_set ?_ GE232.out) | exact HB.out)) hb); clear BK232; clear HB; have BK232 := n0_; have HB := n1_; clear n0_ n1_; (try clear hb); (try clear hb2); (try clear hk); (try clear hi)))
      go_ret
      exact ⟨by first | rfl | (simp [errW_none, errW_some] <;> rfl) | (simp [*, errW_none, errW_some] <;> rfl), by repeat (first | (with_reducible first | exact HB.out | apply below_alloc | apply pw_below_drewN | apply below_drew1 | refine below_set ?_ GE232.out) | exact HB.out)⟩
    ·replace c9 := Bool.eq_false_iff.mpr c9
     subst c9
     have H1 : (some false) = some r := by rw [if_neg (show ¬ (false = true) by decide)] at H; exact H
     clear H
     have H := H1
     clear H1
     obtain rfl := Option.some.inj H
     have hcz21_0 : wc.cell? ⟨gb232, 0, none⟩ = some (.int .i64 a0_0) := (blk_cell BK232.out 0).trans rfl
     have hcz21_1 : wc.cell? ⟨gb232, 1, none⟩ = some (.string a0_1) := (blk_cell BK232.out 1).trans rfl
     have hcz21_2 : wc.cell? ⟨gb232, 2, none⟩ = some (.string a0_2) := (blk_cell BK232.out 2).trans rfl
     have hcz21_3 : wc.cell? ⟨gb232, 3, none⟩ = some (.int .i64 a0_3) := (blk_cell BK232.out 3).trans rfl
     have hcz21_4 : wc.cell? ⟨gb232, 4, none⟩ = some (.int .i64 a0_4) := (blk_cell BK232.out 4).trans rfl
     have hcz21_5 : wc.cell? ⟨gb232, 5, none⟩ = some (.int .i64 a0_5) := (blk_cell BK232.out 5).trans rfl
     have hcz21_6 : wc.cell? ⟨gb232, 6, none⟩ = some (.slice A0_6 l0_6.length c0_6) := (blk_cell BK232.out 6).trans rfl
     have hcz21_7 : wc.cell? ⟨gb232, 7, none⟩ = some (.int .i64 a0_7) := (blk_cell BK232.out 7).trans rfl
     have hfz21_0 := blk_frozen BK232.out 0
     have hfz21_1 := blk_frozen BK232.out 1
     have hfz21_2 := blk_frozen BK232.out 2
     have hfz21_3 := blk_frozen BK232.out 3
     have hfz21_4 := blk_frozen BK232.out 4
     have hfz21_5 := blk_frozen BK232.out 5
     have hfz21_6 := blk_frozen BK232.out 6
     have hfz21_7 := blk_frozen BK232.out 7
     go_wp2_with (first | ((with_reducible refine gate_callee (f := 19) rfl ?_); refine goesL_ (some 28) rfl rfl Tryd.func19 (by kernel_rfl) rfl #[.string a0_1] rfl (by (try simp only [List.map_toArray, List.map_cons, List.map_nil]); first | done | rfl | (simp only [List.length_drop, List.length_take]; rfl)) ?_; (with_reducible refine (impl_isFree.calls a0_1 false _ ?side1 A8.out).mono ?_); (case side1 => exact Sh.below HSH.out (by repeat (first | (with_reducible first | exact HB.out | apply below_alloc | apply pw_below_drewN | apply below_drew1 | refine below_set ?_ GE232.out) | exact HB.out))); rintro e w22 ⟨rfl, hb⟩; refine ⟨_, rfl, ?_⟩; have n0_ := Aside0.mk (blk_below (g := gb232) (o := .cells #[.int .i64 a0_0, .string a0_1, .string a0_2, .int .i64 a0_3, .int .i64 a0_4, .int .i64 a0_5, .slice A0_6 l0_6.length c0_6, .int .i64 a0_7] 37 (0, 0)) (by (with_reducible repeat (first | refine blk_drewN ?_ _ | refine blk_drew ?_ | refine blk_alloc ?_ _)); exact BK232.out) hb); have n1_ := Aside0.mk (below_step (by repeat (first | (with_reducible first | exact HB.out | apply below_alloc | apply pw_below_drewN | apply below_drew1 | refine below_set ?_ GE232.out) | exact HB.out)) hb); clear BK232; clear HB; have BK232 := n0_; have HB := n1_; clear n0_ n1_; (try clear hb); (try clear hb2); (try clear hk); (try clear hi)))
     go_ret
     exact ⟨by first | rfl | (simp [errW_none, errW_some] <;> rfl) | (simp [*, errW_none, errW_some] <;> rfl), by repeat (first | (with_reducible first | exact HB.out | apply below_alloc | apply pw_below_drewN | apply below_drew1 | refine below_set ?_ GE232.out) | exact HB.out)⟩
   ·replace c7 := Bool.eq_false_iff.mpr c7
    subst c7
    have H1 : (if a0_0 = 22 then (if (a0_1.toList == ([] : List UInt8)) = true then (if (a0_2.toList == ([] : List UInt8)) = true then (if (a0_3 == 0) = true then ((KK.f a0_0 a0_1 a0_2 a0_3 a0_4 a0_5 l0_6 a0_7 (⟨#[101, 98, 98]⟩ : ByteArray)).bind fun t235 => (some t235)) else (some false)) else (some false)) else (some false)) else (if a0_0 = 23 then ((impl_isFree.f a0_1).bind fun t236 => ((impl_isFree.f a0_2).bind fun t237 => (if t236 = true then (if t237 = true then (if (a0_3 == 0) = true then ((KK.f a0_0 a0_1 a0_2 a0_3 a0_4 a0_5 l0_6 a0_7 (⟨#[101]⟩ : ByteArray)).bind fun t238 => (some t238)) else (some false)) else (some false)) else (some false)))) else (if a0_0 = 24 then ((impl_in.f a0_3 1 99).bind fun t239 => (if (a0_1.toList == ([] : List UInt8)) = true then (if (a0_2.toList == ([] : List UInt8)) = true then (if t239 = true then ((KK.f a0_0 a0_1 a0_2 a0_3 a0_4 a0_5 l0_6 a0_7 (⟨#[]⟩ : ByteArray)).bind fun t240 => (some t240)) else (some false)) else (some false)) else (some false))) else (if a0_0 = 25 then (if (a0_1.toList == ([] : List UInt8)) = true then (if (a0_2.toList == ([] : List UInt8)) = true then (if (a0_3 == 0) = true then ((KK.f a0_0 a0_1 a0_2 a0_3 a0_4 a0_5 l0_6 a0_7 (⟨#[101]⟩ : ByteArray)).bind fun t241 => (some t241)) else (some false)) else (some false)) else (some false)) else (if a0_0 = 26 then (if (a0_1.toList == ([] : List UInt8)) = true then (if (a0_2.toList == ([] : List UInt8)) = true then (if (a0_3 == 0) = true then ((KK.f a0_0 a0_1 a0_2 a0_3 a0_4 a0_5 l0_6 a0_7 (⟨#[101, 98]⟩ : ByteArray)).bind fun t242 => (some t242)) else (some false)) else (some false)) else (some false)) else (if a0_0 = 27 then (if (l0_6.length : Int) > 40 then (some false) else ((strings_Repeat.f (⟨#[115]⟩ : ByteArray) (l0_6.length : Int)).bind fun t243 => (if (a0_1.toList == ([] : List UInt8)) = true then (if (a0_2.toList == ([] : List UInt8)) = true then (if (a0_3 == 0) = true then ((KK.f a0_0 a0_1 a0_2 a0_3 a0_4 a0_5 l0_6 a0_7 t243).bind fun t244 => (some t244)) else (some false)) else (some false)) else (some false)))) else (some false))))))) = some r := by rw [if_neg (show ¬ (false = true) by decide)] at H; exact H
    clear H
    have H := H1
    clear H1
    by_cases c23 : a0_0 = 22
    ·rw [if_pos c23] at H
     have c23b0 : (a0_0 == 22) = true := beq_iff_eq.mpr c23
     have c23b1 : (a0_0 != 22) = false := bne_eq_false_iff_eq.mpr c23
     clear c23
     by_cases c24 : (a0_1.toList == ([] : List UInt8)) = true
     ·rw [if_pos c24] at H
      have c24b0 : (a0_1.toList == ([] : List UInt8)) = true := c24
      (try (have c24b3 : a0_1.toList.isEmpty = true := by simpa using c24b0))
      (try (have c24b1 : decide (a0_1.toList = ([] : List UInt8)) = true := by simpa using c24))
      (try (have c24b2 : (a0_1.toList == ([] : List UInt8)) = true := by simpa using c24))
      (try (have c24b3 : a0_1.toList.isEmpty = true := by simpa using c24))
      clear c24
      by_cases c25 : (a0_2.toList == ([] : List UInt8)) = true
      ·rw [if_pos c25] at H
       have c25b0 : (a0_2.toList == ([] : List UInt8)) = true := c25
       (try (have c25b3 : a0_2.toList.isEmpty = true := by simpa using c25b0))
       (try (have c25b1 : decide (a0_2.toList = ([] : List UInt8)) = true := by simpa using c25))
       (try (have c25b2 : (a0_2.toList == ([] : List UInt8)) = true := by simpa using c25))
       (try (have c25b3 : a0_2.toList.isEmpty = true := by simpa using c25))
       clear c25
       by_cases c26 : (a0_3 == 0) = true
       ·rw [if_pos c26] at H
        have c26b0 : (a0_3 == 0) = true := c26
        (try (have c26b1 : decide (a0_3 = 0) = true := by simpa using c26))
        (try (have c26b2 : (a0_3 == 0) = true := by simpa using c26))
        clear c26
        replace H := Option.bind_eq_some_iff.mp H
        obtain ⟨t235, A270, H⟩ := H
        replace H : (some t235) = some r := H
        have A27 := Aside0.mk A270
        clear A270
        obtain rfl := Option.some.inj H
        have hcz28_0 : wc.cell? ⟨gb232, 0, none⟩ = some (.int .i64 a0_0) := (blk_cell BK232.out 0).trans rfl
        have hcz28_1 : wc.cell? ⟨gb232, 1, none⟩ = some (.string a0_1) := (blk_cell BK232.out 1).trans rfl
        have hcz28_2 : wc.cell? ⟨gb232, 2, none⟩ = some (.string a0_2) := (blk_cell BK232.out 2).trans rfl
        have hcz28_3 : wc.cell? ⟨gb232, 3, none⟩ = some (.int .i64 a0_3) := (blk_cell BK232.out 3).trans rfl
        have hcz28_4 : wc.cell? ⟨gb232, 4, none⟩ = some (.int .i64 a0_4) := (blk_cell BK232.out 4).trans rfl
        have hcz28_5 : wc.cell? ⟨gb232, 5, none⟩ = some (.int .i64 a0_5) := (blk_cell BK232.out 5).trans rfl
        have hcz28_6 : wc.cell? ⟨gb232, 6, none⟩ = some (.slice A0_6 l0_6.length c0_6) := (blk_cell BK232.out 6).trans rfl
        have hcz28_7 : wc.cell? ⟨gb232, 7, none⟩ = some (.int .i64 a0_7) := (blk_cell BK232.out 7).trans rfl
        have hfz28_0 := blk_frozen BK232.out 0
        have hfz28_1 := blk_frozen BK232.out 1
        have hfz28_2 := blk_frozen BK232.out 2
        have hfz28_3 := blk_frozen BK232.out 3
        have hfz28_4 := blk_frozen BK232.out 4
        have hfz28_5 := blk_frozen BK232.out 5
        have hfz28_6 := blk_frozen BK232.out 6
        have hfz28_7 := blk_frozen BK232.out 7
        go_wp2_with (first | (go_at_call 22; (with_reducible refine (KK.calls a0_0 a0_1 a0_2 a0_3 a0_4 a0_5 _ _ l0_6 a0_7 (⟨#[101, 98, 98]⟩ : ByteArray) t235 _ ?side1 ?side2 ?side3 A27.out).mono ?_); (case side1 => repeat (first | exact (Kd.C_below HR0_6.out HB.out) | (with_reducible refine Kd.C_alloc ?_ _) | (with_reducible refine Kd.C_drewN ?_ _) | (with_reducible refine Kd.C_drew ?_))); (case side2 => exact HC0_6.out); (case side3 => exact Sh.below HSH.out (by repeat (first | (with_reducible first | exact HB.out | apply below_alloc | apply pw_below_drewN | apply below_drew1 | refine below_set ?_ GE232.out) | exact HB.out))); rintro e w29 ⟨rfl, hb⟩; have n0_ := Aside0.mk (blk_below (g := gb232) (o := .cells #[.int .i64 a0_0, .string a0_1, .string a0_2, .int .i64 a0_3, .int .i64 a0_4, .int .i64 a0_5, .slice A0_6 l0_6.length c0_6, .int .i64 a0_7] 37 (0, 0)) (by (with_reducible repeat (first | refine blk_drewN ?_ _ | refine blk_drew ?_ | refine blk_alloc ?_ _)); exact BK232.out) hb); have n1_ := Aside0.mk (below_step (by repeat (first | (with_reducible first | exact HB.out | apply below_alloc | apply pw_below_drewN | apply below_drew1 | refine below_set ?_ GE232.out) | exact HB.out)) hb); clear BK232; clear HB; have BK232 := n0_; have HB := n1_; clear n0_ n1_; (try clear hb); (try clear hb2); (try clear hk); (try clear hi)))
        go_ret
        exact ⟨by first | rfl | (simp [errW_none, errW_some] <;> rfl) | (simp [*, errW_none, errW_some] <;> rfl), by repeat (first | (with_reducible first | exact HB.out | apply below_alloc | apply pw_below_drewN | apply below_drew1 | refine below_set ?_ GE232.out) | exact HB.out)⟩
       ·rw [if_neg c26] at H
        have c26b0 : (a0_3 == 0) = false := by simpa using c26
        (try (have c26b1 : decide (a0_3 = 0) = false := by simpa using c26))
        (try (have c26b2 : (a0_3 == 0) = false := by simpa using c26))
        (try (have c26b3 : ¬ (a0_3 = 0) := by simpa using c26))
        clear c26
        obtain rfl := Option.some.inj H
        go_wp2
        go_ret
        exact ⟨by first | rfl | (simp [errW_none, errW_some] <;> rfl) | (simp [*, errW_none, errW_some] <;> rfl), by repeat (first | (with_reducible first | exact HB.out | apply below_alloc | apply pw_below_drewN | apply below_drew1 | refine below_set ?_ GE232.out) | exact HB.out)⟩
      ·rw [if_neg c25] at H
       have c25b0 : (a0_2.toList == ([] : List UInt8)) = false := by simpa using c25
       (try (have c25b3 : a0_2.toList.isEmpty = false := by simpa using c25b0))
       (try (have c25b1 : decide (a0_2.toList = ([] : List UInt8)) = false := by simpa using c25))
       (try (have c25b2 : (a0_2.toList == ([] : List UInt8)) = false := by simpa using c25))
       (try (have c25b3 : a0_2.toList.isEmpty = false := by simpa using c25))
       (try (have c25b3 : ¬ (a0_2.toList = ([] : List UInt8)) := by simpa using c25))
       clear c25
       obtain rfl := Option.some.inj H
       go_wp2
       go_ret
       exact ⟨by first | rfl | (simp [errW_none, errW_some] <;> rfl) | (simp [*, errW_none, errW_some] <;> rfl), by repeat (first | (with_reducible first | exact HB.out | apply below_alloc | apply pw_below_drewN | apply below_drew1 | refine below_set ?_ GE232.out) | exact HB.out)⟩
     ·rw [if_neg c24] at H
      have c24b0 : (a0_1.toList == ([] : List UInt8)) = false := by simpa using c24
      (try (have c24b3 : a0_1.toList.isEmpty = false := by simpa using c24b0))
      (try (have c24b1 : decide (a0_1.toList = ([] : List UInt8)) = false := by simpa using c24))
      (try (have c24b2 : (a0_1.toList == ([] : List UInt8)) = false := by simpa using c24))
      (try (have c24b3 : a0_1.toList.isEmpty = false := by simpa using c24))
      (try (have c24b3 : ¬ (a0_1.toList = ([] : List UInt8)) := by simpa using c24))
      clear c24
      obtain rfl := Option.some.inj H
      go_wp2
      go_ret
      exact ⟨by first | rfl | (simp [errW_none, errW_some] <;> rfl) | (simp [*, errW_none, errW_some] <;> rfl), by repeat (first | (with_reducible first | exact HB.out | apply below_alloc | apply pw_below_drewN | apply below_drew1 | refine below_set ?_ GE232.out) | exact HB.out)⟩
    ·rw [if_neg c23] at H
     have c23b0 : (a0_0 == 22) = false := beq_eq_false_iff_ne.mpr c23
     have c23b1 : (a0_0 != 22) = true := bne_iff_ne.mpr c23
     by_cases c30 : a0_0 = 23
     ·rw [if_pos c30] at H
      have c30b0 : (a0_0 == 23) = true := beq_iff_eq.mpr c30
      have c30b1 : (a0_0 != 23) = false := bne_eq_false_iff_eq.mpr c30
      clear c30
      replace H := Option.bind_eq_some_iff.mp H
      obtain ⟨t236, A310, H⟩ := H
      replace H : ((impl_isFree.f a0_2).bind fun t237 => (if t236 = true then (if t237 = true then (if (a0_3 == 0) = true then ((KK.f a0_0 a0_1 a0_2 a0_3 a0_4 a0_5 l0_6 a0_7 (⟨#[101]⟩ : ByteArray)).bind fun t238 => (some t238)) else (some false)) else (some false)) else (some false))) = some r := H
      have A31 := Aside0.mk A310
      clear A310
      replace H := Option.bind_eq_some_iff.mp H
      obtain ⟨t237, A320, H⟩ := H
      replace H : (if t236 = true then (if t237 = true then (if (a0_3 == 0) = true then ((KK.f a0_0 a0_1 a0_2 a0_3 a0_4 a0_5 l0_6 a0_7 (⟨#[101]⟩ : ByteArray)).bind fun t238 => (some t238)) else (some false)) else (some false)) else (some false)) = some r := H
      have A32 := Aside0.mk A320
      clear A320
      by_cases c33 : t236 = true
      ·subst c33
       have H1 : (if t237 = true then (if (a0_3 == 0) = true then ((KK.f a0_0 a0_1 a0_2 a0_3 a0_4 a0_5 l0_6 a0_7 (⟨#[101]⟩ : ByteArray)).bind fun t238 => (some t238)) else (some false)) else (some false)) = some r := by rw [if_pos rfl] at H; exact H
       clear H
       have H := H1
       clear H1
       by_cases c34 : t237 = true
       ·subst c34
        have H1 : (if (a0_3 == 0) = true then ((KK.f a0_0 a0_1 a0_2 a0_3 a0_4 a0_5 l0_6 a0_7 (⟨#[101]⟩ : ByteArray)).bind fun t238 => (some t238)) else (some false)) = some r := by rw [if_pos rfl] at H; exact H
        clear H
        have H := H1
        clear H1
        by_cases c35 : (a0_3 == 0) = true
        ·rw [if_pos c35] at H
         have c35b0 : (a0_3 == 0) = true := c35
         (try (have c35b1 : decide (a0_3 = 0) = true := by simpa using c35))
         (try (have c35b2 : (a0_3 == 0) = true := by simpa using c35))
         clear c35
         replace H := Option.bind_eq_some_iff.mp H
         obtain ⟨t238, A360, H⟩ := H
         replace H : (some t238) = some r := H
         have A36 := Aside0.mk A360
         clear A360
         obtain rfl := Option.some.inj H
         try go_wp2
         have n0_ := Aside0.mk (blk_drew BK232.out)
         have n1_ := Aside0.mk (below_drew1 HB.out)
         clear BK232
         clear HB
         have BK232 := n0_
         have HB := n1_
         clear n0_ n1_
         refine start_ (n := 10) (S := fun w' => w'.cell? ⟨gb232, 0, none⟩ = some (.int .i64 a0_0) ∧ w'.cell? ⟨gb232, 1, none⟩ = some (.string a0_1) ∧ w'.cell? ⟨gb232, 2, none⟩ = some (.string a0_2) ∧ w'.cell? ⟨gb232, 3, none⟩ = some (.int .i64 a0_3) ∧ w'.cell? ⟨gb232, 4, none⟩ = some (.int .i64 a0_4) ∧ w'.cell? ⟨gb232, 5, none⟩ = some (.int .i64 a0_5) ∧ w'.cell? ⟨gb232, 6, none⟩ = some (.slice A0_6 l0_6.length c0_6) ∧ w'.cell? ⟨gb232, 7, none⟩ = some (.int .i64 a0_7)) (ds := []) #[false, false, false, false, false, false, false, false, false, false] (by kernel_rfl) rfl rfl ⟨(blk_cell BK232.out 0).trans rfl, (blk_cell BK232.out 1).trans rfl, (blk_cell BK232.out 2).trans rfl, (blk_cell BK232.out 3).trans rfl, (blk_cell BK232.out 4).trans rfl, (blk_cell BK232.out 5).trans rfl, (blk_cell BK232.out 6).trans rfl, (blk_cell BK232.out 7).trans rfl⟩ (fun hHeld => ?_); refine with_tabW impl_tree_isStatement.tab11 impl_tree_isStatement.bits11 (fun HT_ HW_ => ?_)
         generalize wc.drew = w37 at BK232 HB hHeld ⊢
         refine pure_ (i := 0) (N := some 33) (v := ?_) (a' := ?_) #[true, false, false, false, false, false, false, false, false, false] rfl rfl (any_of HT_.out (by kernel_rfl)) (fun _ _ _ h => h) (Or.inl ⟨by rfl, ?_⟩) ?_ ?_
         rotate_left
         ·intro w'
          go_simp
          with_reducible rfl
         rotate_left
         ·simp only [Act.put, List.setIfInBounds_toArray, List.set_cons_zero, List.set_cons_succ, i64_w, i32_w]
          rfl
         refine pure_ (i := 1) (N := some 34) (v := ?_) (a' := ?_) #[true, true, false, false, false, false, false, false, false, false] rfl rfl (any_of HT_.out (by kernel_rfl)) (fun _ _ _ h => h) (Or.inl ⟨by rfl, ?_⟩) ?_ ?_
         rotate_left
         ·intro w'
          go_simp
          with_reducible rfl
         rotate_left
         ·simp only [Act.put, List.setIfInBounds_toArray, List.set_cons_zero, List.set_cons_succ, i64_w, i32_w]
          rfl
         refine pure_ (i := 4) (N := some 37) (v := ?_) (a' := ?_) #[true, true, false, false, true, false, false, false, false, false] rfl rfl (any_of HT_.out (by kernel_rfl)) (fun _ _ _ h => h) (Or.inl ⟨by rfl, ?_⟩) ?_ ?_
         rotate_left
         ·intro w'
          go_simp
          with_reducible rfl
         rotate_left
         ·simp only [Act.put, List.setIfInBounds_toArray, List.set_cons_zero, List.set_cons_succ, i64_w, i32_w]
          rfl
         refine pure_ (i := 5) (N := some 38) (v := ?_) (a' := ?_) #[true, true, false, false, true, true, false, false, false, false] rfl rfl (any_of HT_.out (by kernel_rfl)) (fun _ _ _ h => h) (Or.inl ⟨by rfl, ?_⟩) ?_ ?_
         rotate_left
         ·intro w'
          go_simp
          with_reducible rfl
         rotate_left
         ·simp only [Act.put, List.setIfInBounds_toArray, List.set_cons_zero, List.set_cons_succ, i64_w, i32_w]
          rfl
         refine take_ (i := 2) (N := some 35) (v := ?_) (a' := ?_) #[true, true, true, false, true, true, false, false, false, false] rfl rfl (take_ofW HT_.out HW_.out (by kernel_rfl)) (fun _ _ _ h => h) (Or.inl ⟨by rfl, ?_⟩) hHeld ?_ ?_
         rotate_left
         ·rintro w' ⟨s0, s1, s2, s3, s4, s5, s6, s7⟩
          go_simp
          with_reducible rfl
         rotate_left
         ·simp only [Act.put, List.setIfInBounds_toArray, List.set_cons_zero, List.set_cons_succ, i64_w, i32_w]
          rfl
         refine take_ (i := 6) (N := some 39) (v := ?_) (a' := ?_) #[true, true, true, false, true, true, true, false, false, false] rfl rfl (take_ofW HT_.out HW_.out (by kernel_rfl)) (fun _ _ _ h => h) (Or.inl ⟨by rfl, ?_⟩) hHeld ?_ ?_
         rotate_left
         ·rintro w' ⟨s0, s1, s2, s3, s4, s5, s6, s7⟩
          go_simp
          with_reducible rfl
         rotate_left
         ·simp only [Act.put, List.setIfInBounds_toArray, List.set_cons_zero, List.set_cons_succ, i64_w, i32_w]
          rfl
         refine one_ (i := 3) (N := some 36) #[true, true, true, true, true, true, true, false, false, false] rfl rfl (one_of HT_.out (by kernel_rfl)) (by decide) (fun K hK => ?_)
         refine goes_ Tryd.func19 (by kernel_rfl) rfl #[.string a0_1] (by rfl) rfl rfl (by (try simp only [List.map_toArray, List.map_cons, List.map_nil]); first | done | rfl | (simp only [List.length_drop, List.length_take]; rfl)) ?_
         with_reducible refine (impl_isFree.calls a0_1 true _ ?side1 A31.out).mono ?_
         (case side1 => exact Sh.below HSH.out (by repeat (first | (with_reducible first | exact HB.out | apply below_alloc | apply pw_below_drewN | apply below_drew1 | refine below_set ?_ GE232.out) | exact HB.out)))
         rintro e w38 ⟨rfl, hb⟩
         refine ⟨_, rfl, ?_⟩
         have n0_ := Aside0.mk (blk_below (g := gb232) (o := .cells #[.int .i64 a0_0, .string a0_1, .string a0_2, .int .i64 a0_3, .int .i64 a0_4, .int .i64 a0_5, .slice A0_6 l0_6.length c0_6, .int .i64 a0_7] 37 (0, 0)) (by (with_reducible repeat (first | refine blk_drewN ?_ _ | refine blk_drew ?_ | refine blk_alloc ?_ _)); exact BK232.out) hb)
         have n1_ := Aside0.mk (below_step (by repeat (first | (with_reducible first | exact HB.out | apply below_alloc | apply pw_below_drewN | apply below_drew1 | refine below_set ?_ GE232.out) | exact HB.out)) hb)
         clear BK232
         clear HB
         have BK232 := n0_
         have HB := n1_
         clear n0_ n1_
         (try clear hb)
         (try clear hb2)
         (try clear hk)
         (try clear hi)
         refine hK.out _ _ ⟨(blk_cell BK232.out 0).trans rfl, (blk_cell BK232.out 1).trans rfl, (blk_cell BK232.out 2).trans rfl, (blk_cell BK232.out 3).trans rfl, (blk_cell BK232.out 4).trans rfl, (blk_cell BK232.out 5).trans rfl, (blk_cell BK232.out 6).trans rfl, (blk_cell BK232.out 7).trans rfl⟩ (fun hHeld => ?_)
         clear hK K
         refine norm_ (a' := ?_) ?_ ?_
         rotate_left
         ·show Act.put _ (some 36) _ = _
          simp only [Act.put, List.setIfInBounds_toArray, List.set_cons_zero, List.set_cons_succ, i64_w, i32_w]
          rfl
         refine one_ (i := 7) (N := some 40) #[true, true, true, true, true, true, true, true, false, false] rfl rfl (one_of HT_.out (by kernel_rfl)) (by decide) (fun K hK => ?_)
         refine goes_ Tryd.func19 (by kernel_rfl) rfl #[.string a0_2] (by rfl) rfl rfl (by (try simp only [List.map_toArray, List.map_cons, List.map_nil]); first | done | rfl | (simp only [List.length_drop, List.length_take]; rfl)) ?_
         with_reducible refine (impl_isFree.calls a0_2 true _ ?side1 A32.out).mono ?_
         (case side1 => exact Sh.below HSH.out (by repeat (first | (with_reducible first | exact HB.out | apply below_alloc | apply pw_below_drewN | apply below_drew1 | refine below_set ?_ GE232.out) | exact HB.out)))
         rintro e w39 ⟨rfl, hb⟩
         refine ⟨_, rfl, ?_⟩
         have n0_ := Aside0.mk (blk_below (g := gb232) (o := .cells #[.int .i64 a0_0, .string a0_1, .string a0_2, .int .i64 a0_3, .int .i64 a0_4, .int .i64 a0_5, .slice A0_6 l0_6.length c0_6, .int .i64 a0_7] 37 (0, 0)) (by (with_reducible repeat (first | refine blk_drewN ?_ _ | refine blk_drew ?_ | refine blk_alloc ?_ _)); exact BK232.out) hb)
         have n1_ := Aside0.mk (below_step (by repeat (first | (with_reducible first | exact HB.out | apply below_alloc | apply pw_below_drewN | apply below_drew1 | refine below_set ?_ GE232.out) | exact HB.out)) hb)
         clear BK232
         clear HB
         have BK232 := n0_
         have HB := n1_
         clear n0_ n1_
         (try clear hb)
         (try clear hb2)
         (try clear hk)
         (try clear hi)
         refine hK.out _ _ ⟨(blk_cell BK232.out 0).trans rfl, (blk_cell BK232.out 1).trans rfl, (blk_cell BK232.out 2).trans rfl, (blk_cell BK232.out 3).trans rfl, (blk_cell BK232.out 4).trans rfl, (blk_cell BK232.out 5).trans rfl, (blk_cell BK232.out 6).trans rfl, (blk_cell BK232.out 7).trans rfl⟩ (fun hHeld => ?_)
         clear hK K
         refine norm_ (a' := ?_) ?_ ?_
         rotate_left
         ·show Act.put _ (some 40) _ = _
          simp only [Act.put, List.setIfInBounds_toArray, List.set_cons_zero, List.set_cons_succ, i64_w, i32_w]
          rfl
         refine pure_ (i := 8) (N := some 3) (v := ?_) (a' := ?_) #[true, true, true, true, true, true, true, true, true, false] rfl rfl (any_of HT_.out (by kernel_rfl)) (fun _ _ _ h => h) (Or.inl ⟨by rfl, ?_⟩) ?_ ?_
         rotate_left
         ·intro w'
          go_simp
          with_reducible rfl
         rotate_left
         ·simp only [Act.put, List.setIfInBounds_toArray, List.set_cons_zero, List.set_cons_succ, i64_w, i32_w]
          rfl
         refine pure_ (i := 9) (N := some 4) (v := ?_) (a' := ?_) #[true, true, true, true, true, true, true, true, true, true] rfl rfl (any_of HT_.out (by kernel_rfl)) (fun _ _ _ h => h) (Or.inl ⟨by rfl, ?_⟩) ?_ ?_
         rotate_left
         ·intro w'
          go_simp
          with_reducible rfl
         rotate_left
         ·simp only [Act.put, List.setIfInBounds_toArray, List.set_cons_zero, List.set_cons_succ, i64_w, i32_w]
          rfl
         refine done_ (done_of HT_.out (by kernel_rfl)) ?_
         have hcz40_0 : w39.cell? ⟨gb232, 0, none⟩ = some (.int .i64 a0_0) := (blk_cell BK232.out 0).trans rfl
         have hcz40_1 : w39.cell? ⟨gb232, 1, none⟩ = some (.string a0_1) := (blk_cell BK232.out 1).trans rfl
         have hcz40_2 : w39.cell? ⟨gb232, 2, none⟩ = some (.string a0_2) := (blk_cell BK232.out 2).trans rfl
         have hcz40_3 : w39.cell? ⟨gb232, 3, none⟩ = some (.int .i64 a0_3) := (blk_cell BK232.out 3).trans rfl
         have hcz40_4 : w39.cell? ⟨gb232, 4, none⟩ = some (.int .i64 a0_4) := (blk_cell BK232.out 4).trans rfl
         have hcz40_5 : w39.cell? ⟨gb232, 5, none⟩ = some (.int .i64 a0_5) := (blk_cell BK232.out 5).trans rfl
         have hcz40_6 : w39.cell? ⟨gb232, 6, none⟩ = some (.slice A0_6 l0_6.length c0_6) := (blk_cell BK232.out 6).trans rfl
         have hcz40_7 : w39.cell? ⟨gb232, 7, none⟩ = some (.int .i64 a0_7) := (blk_cell BK232.out 7).trans rfl
         have hfz40_0 := blk_frozen BK232.out 0
         have hfz40_1 := blk_frozen BK232.out 1
         have hfz40_2 := blk_frozen BK232.out 2
         have hfz40_3 := blk_frozen BK232.out 3
         have hfz40_4 := blk_frozen BK232.out 4
         have hfz40_5 := blk_frozen BK232.out 5
         have hfz40_6 := blk_frozen BK232.out 6
         have hfz40_7 := blk_frozen BK232.out 7
         try go_wp2_with (first | (go_at_call 22; (with_reducible refine (KK.calls a0_0 a0_1 a0_2 a0_3 a0_4 a0_5 _ _ l0_6 a0_7 (⟨#[101]⟩ : ByteArray) t238 _ ?side1 ?side2 ?side3 A36.out).mono ?_); (case side1 => repeat (first | exact (Kd.C_below HR0_6.out HB.out) | (with_reducible refine Kd.C_alloc ?_ _) | (with_reducible refine Kd.C_drewN ?_ _) | (with_reducible refine Kd.C_drew ?_))); (case side2 => exact HC0_6.out); (case side3 => exact Sh.below HSH.out (by repeat (first | (with_reducible first | exact HB.out | apply below_alloc | apply pw_below_drewN | apply below_drew1 | refine below_set ?_ GE232.out) | exact HB.out))); rintro e w41 ⟨rfl, hb⟩; have n0_ := Aside0.mk (blk_below (g := gb232) (o := .cells #[.int .i64 a0_0, .string a0_1, .string a0_2, .int .i64 a0_3, .int .i64 a0_4, .int .i64 a0_5, .slice A0_6 l0_6.length c0_6, .int .i64 a0_7] 37 (0, 0)) (by (with_reducible repeat (first | refine blk_drewN ?_ _ | refine blk_drew ?_ | refine blk_alloc ?_ _)); exact BK232.out) hb); have n1_ := Aside0.mk (below_step (by repeat (first | (with_reducible first | exact HB.out | apply below_alloc | apply pw_below_drewN | apply below_drew1 | refine below_set ?_ GE232.out) | exact HB.out)) hb); clear BK232; clear HB; have BK232 := n0_; have HB := n1_; clear n0_ n1_; (try clear hb); (try clear hb2); (try clear hk); (try clear hi)))
         go_ret
         exact ⟨by first | rfl | (simp [errW_none, errW_some] <;> rfl) | (simp [*, errW_none, errW_some] <;> rfl), by repeat (first | (with_reducible first | exact HB.out | apply below_alloc | apply pw_below_drewN | apply below_drew1 | refine below_set ?_ GE232.out) | exact HB.out)⟩
        ·rw [if_neg c35] at H
         have c35b0 : (a0_3 == 0) = false := by simpa using c35
         (try (have c35b1 : decide (a0_3 = 0) = false := by simpa using c35))
         (try (have c35b2 : (a0_3 == 0) = false := by simpa using c35))
         (try (have c35b3 : ¬ (a0_3 = 0) := by simpa using c35))
         clear c35
         obtain rfl := Option.some.inj H
         try go_wp2
         have n0_ := Aside0.mk (blk_drew BK232.out)
         have n1_ := Aside0.mk (below_drew1 HB.out)
         clear BK232
         clear HB
         have BK232 := n0_
         have HB := n1_
         clear n0_ n1_
         refine start_ (n := 10) (S := fun w' => w'.cell? ⟨gb232, 0, none⟩ = some (.int .i64 a0_0) ∧ w'.cell? ⟨gb232, 1, none⟩ = some (.string a0_1) ∧ w'.cell? ⟨gb232, 2, none⟩ = some (.string a0_2) ∧ w'.cell? ⟨gb232, 3, none⟩ = some (.int .i64 a0_3) ∧ w'.cell? ⟨gb232, 4, none⟩ = some (.int .i64 a0_4) ∧ w'.cell? ⟨gb232, 5, none⟩ = some (.int .i64 a0_5) ∧ w'.cell? ⟨gb232, 6, none⟩ = some (.slice A0_6 l0_6.length c0_6) ∧ w'.cell? ⟨gb232, 7, none⟩ = some (.int .i64 a0_7)) (ds := []) #[false, false, false, false, false, false, false, false, false, false] (by kernel_rfl) rfl rfl ⟨(blk_cell BK232.out 0).trans rfl, (blk_cell BK232.out 1).trans rfl, (blk_cell BK232.out 2).trans rfl, (blk_cell BK232.out 3).trans rfl, (blk_cell BK232.out 4).trans rfl, (blk_cell BK232.out 5).trans rfl, (blk_cell BK232.out 6).trans rfl, (blk_cell BK232.out 7).trans rfl⟩ (fun hHeld => ?_); refine with_tabW impl_tree_isStatement.tab11 impl_tree_isStatement.bits11 (fun HT_ HW_ => ?_)
         generalize wc.drew = w42 at BK232 HB hHeld ⊢
         refine pure_ (i := 0) (N := some 33) (v := ?_) (a' := ?_) #[true, false, false, false, false, false, false, false, false, false] rfl rfl (any_of HT_.out (by kernel_rfl)) (fun _ _ _ h => h) (Or.inl ⟨by rfl, ?_⟩) ?_ ?_
         rotate_left
         ·intro w'
          go_simp
          with_reducible rfl
         rotate_left
         ·simp only [Act.put, List.setIfInBounds_toArray, List.set_cons_zero, List.set_cons_succ, i64_w, i32_w]
          rfl
         refine pure_ (i := 1) (N := some 34) (v := ?_) (a' := ?_) #[true, true, false, false, false, false, false, false, false, false] rfl rfl (any_of HT_.out (by kernel_rfl)) (fun _ _ _ h => h) (Or.inl ⟨by rfl, ?_⟩) ?_ ?_
         rotate_left
         ·intro w'
          go_simp
          with_reducible rfl
         rotate_left
         ·simp only [Act.put, List.setIfInBounds_toArray, List.set_cons_zero, List.set_cons_succ, i64_w, i32_w]
          rfl
         refine pure_ (i := 4) (N := some 37) (v := ?_) (a' := ?_) #[true, true, false, false, true, false, false, false, false, false] rfl rfl (any_of HT_.out (by kernel_rfl)) (fun _ _ _ h => h) (Or.inl ⟨by rfl, ?_⟩) ?_ ?_
         rotate_left
         ·intro w'
          go_simp
          with_reducible rfl
         rotate_left
         ·simp only [Act.put, List.setIfInBounds_toArray, List.set_cons_zero, List.set_cons_succ, i64_w, i32_w]
          rfl
         refine pure_ (i := 5) (N := some 38) (v := ?_) (a' := ?_) #[true, true, false, false, true, true, false, false, false, false] rfl rfl (any_of HT_.out (by kernel_rfl)) (fun _ _ _ h => h) (Or.inl ⟨by rfl, ?_⟩) ?_ ?_
         rotate_left
         ·intro w'
          go_simp
          with_reducible rfl
         rotate_left
         ·simp only [Act.put, List.setIfInBounds_toArray, List.set_cons_zero, List.set_cons_succ, i64_w, i32_w]
          rfl
         refine take_ (i := 2) (N := some 35) (v := ?_) (a' := ?_) #[true, true, true, false, true, true, false, false, false, false] rfl rfl (take_ofW HT_.out HW_.out (by kernel_rfl)) (fun _ _ _ h => h) (Or.inl ⟨by rfl, ?_⟩) hHeld ?_ ?_
         rotate_left
         ·rintro w' ⟨s0, s1, s2, s3, s4, s5, s6, s7⟩
          go_simp
          with_reducible rfl
         rotate_left
         ·simp only [Act.put, List.setIfInBounds_toArray, List.set_cons_zero, List.set_cons_succ, i64_w, i32_w]
          rfl
         refine take_ (i := 6) (N := some 39) (v := ?_) (a' := ?_) #[true, true, true, false, true, true, true, false, false, false] rfl rfl (take_ofW HT_.out HW_.out (by kernel_rfl)) (fun _ _ _ h => h) (Or.inl ⟨by rfl, ?_⟩) hHeld ?_ ?_
         rotate_left
         ·rintro w' ⟨s0, s1, s2, s3, s4, s5, s6, s7⟩
          go_simp
          with_reducible rfl
         rotate_left
         ·simp only [Act.put, List.setIfInBounds_toArray, List.set_cons_zero, List.set_cons_succ, i64_w, i32_w]
          rfl
         refine one_ (i := 3) (N := some 36) #[true, true, true, true, true, true, true, false, false, false] rfl rfl (one_of HT_.out (by kernel_rfl)) (by decide) (fun K hK => ?_)
         refine goes_ Tryd.func19 (by kernel_rfl) rfl #[.string a0_1] (by rfl) rfl rfl (by (try simp only [List.map_toArray, List.map_cons, List.map_nil]); first | done | rfl | (simp only [List.length_drop, List.length_take]; rfl)) ?_
         with_reducible refine (impl_isFree.calls a0_1 true _ ?side1 A31.out).mono ?_
         (case side1 => exact Sh.below HSH.out (by repeat (first | (with_reducible first | exact HB.out | apply below_alloc | apply pw_below_drewN | apply below_drew1 | refine below_set ?_ GE232.out) | exact HB.out)))
         rintro e w43 ⟨rfl, hb⟩
         refine ⟨_, rfl, ?_⟩
         have n0_ := Aside0.mk (blk_below (g := gb232) (o := .cells #[.int .i64 a0_0, .string a0_1, .string a0_2, .int .i64 a0_3, .int .i64 a0_4, .int .i64 a0_5, .slice A0_6 l0_6.length c0_6, .int .i64 a0_7] 37 (0, 0)) (by (with_reducible repeat (first | refine blk_drewN ?_ _ | refine blk_drew ?_ | refine blk_alloc ?_ _)); exact BK232.out) hb)
         have n1_ := Aside0.mk (below_step (by repeat (first | (with_reducible first | exact HB.out | apply below_alloc | apply pw_below_drewN | apply below_drew1 | refine below_set ?_ GE232.out) | exact HB.out)) hb)
         clear BK232
         clear HB
         have BK232 := n0_
         have HB := n1_
         clear n0_ n1_
         (try clear hb)
         (try clear hb2)
         (try clear hk)
         (try clear hi)
         refine hK.out _ _ ⟨(blk_cell BK232.out 0).trans rfl, (blk_cell BK232.out 1).trans rfl, (blk_cell BK232.out 2).trans rfl, (blk_cell BK232.out 3).trans rfl, (blk_cell BK232.out 4).trans rfl, (blk_cell BK232.out 5).trans rfl, (blk_cell BK232.out 6).trans rfl, (blk_cell BK232.out 7).trans rfl⟩ (fun hHeld => ?_)
         clear hK K
         refine norm_ (a' := ?_) ?_ ?_
         rotate_left
         ·show Act.put _ (some 36) _ = _
          simp only [Act.put, List.setIfInBounds_toArray, List.set_cons_zero, List.set_cons_succ, i64_w, i32_w]
          rfl
         refine one_ (i := 7) (N := some 40) #[true, true, true, true, true, true, true, true, false, false] rfl rfl (one_of HT_.out (by kernel_rfl)) (by decide) (fun K hK => ?_)
         refine goes_ Tryd.func19 (by kernel_rfl) rfl #[.string a0_2] (by rfl) rfl rfl (by (try simp only [List.map_toArray, List.map_cons, List.map_nil]); first | done | rfl | (simp only [List.length_drop, List.length_take]; rfl)) ?_
         with_reducible refine (impl_isFree.calls a0_2 true _ ?side1 A32.out).mono ?_
         (case side1 => exact Sh.below HSH.out (by repeat (first | (with_reducible first | exact HB.out | apply below_alloc | apply pw_below_drewN | apply below_drew1 | refine below_set ?_ GE232.out) | exact HB.out)))
         rintro e w44 ⟨rfl, hb⟩
         refine ⟨_, rfl, ?_⟩
         have n0_ := Aside0.mk (blk_below (g := gb232) (o := .cells #[.int .i64 a0_0, .string a0_1, .string a0_2, .int .i64 a0_3, .int .i64 a0_4, .int .i64 a0_5, .slice A0_6 l0_6.length c0_6, .int .i64 a0_7] 37 (0, 0)) (by (with_reducible repeat (first | refine blk_drewN ?_ _ | refine blk_drew ?_ | refine blk_alloc ?_ _)); exact BK232.out) hb)
         have n1_ := Aside0.mk (below_step (by repeat (first | (with_reducible first | exact HB.out | apply below_alloc | apply pw_below_drewN | apply below_drew1 | refine below_set ?_ GE232.out) | exact HB.out)) hb)
         clear BK232
         clear HB
         have BK232 := n0_
         have HB := n1_
         clear n0_ n1_
         (try clear hb)
         (try clear hb2)
         (try clear hk)
         (try clear hi)
         refine hK.out _ _ ⟨(blk_cell BK232.out 0).trans rfl, (blk_cell BK232.out 1).trans rfl, (blk_cell BK232.out 2).trans rfl, (blk_cell BK232.out 3).trans rfl, (blk_cell BK232.out 4).trans rfl, (blk_cell BK232.out 5).trans rfl, (blk_cell BK232.out 6).trans rfl, (blk_cell BK232.out 7).trans rfl⟩ (fun hHeld => ?_)
         clear hK K
         refine norm_ (a' := ?_) ?_ ?_
         rotate_left
         ·show Act.put _ (some 40) _ = _
          simp only [Act.put, List.setIfInBounds_toArray, List.set_cons_zero, List.set_cons_succ, i64_w, i32_w]
          rfl
         refine pure_ (i := 8) (N := some 3) (v := ?_) (a' := ?_) #[true, true, true, true, true, true, true, true, true, false] rfl rfl (any_of HT_.out (by kernel_rfl)) (fun _ _ _ h => h) (Or.inl ⟨by rfl, ?_⟩) ?_ ?_
         rotate_left
         ·intro w'
          go_simp
          with_reducible rfl
         rotate_left
         ·simp only [Act.put, List.setIfInBounds_toArray, List.set_cons_zero, List.set_cons_succ, i64_w, i32_w]
          rfl
         refine pure_ (i := 9) (N := some 4) (v := ?_) (a' := ?_) #[true, true, true, true, true, true, true, true, true, true] rfl rfl (any_of HT_.out (by kernel_rfl)) (fun _ _ _ h => h) (Or.inl ⟨by rfl, ?_⟩) ?_ ?_
         rotate_left
         ·intro w'
          go_simp
          with_reducible rfl
         rotate_left
         ·simp only [Act.put, List.setIfInBounds_toArray, List.set_cons_zero, List.set_cons_succ, i64_w, i32_w]
          rfl
         refine done_ (done_of HT_.out (by kernel_rfl)) ?_
         try go_wp2
         go_ret
         exact ⟨by first | rfl | (simp [errW_none, errW_some] <;> rfl) | (simp [*, errW_none, errW_some] <;> rfl), by repeat (first | (with_reducible first | exact HB.out | apply below_alloc | apply pw_below_drewN | apply below_drew1 | refine below_set ?_ GE232.out) | exact HB.out)⟩
       ·replace c34 := Bool.eq_false_iff.mpr c34
        subst c34
        have H1 : (some false) = some r := by rw [if_neg (show ¬ (false = true) by decide)] at H; exact H
        clear H
        have H := H1
        clear H1
        obtain rfl := Option.some.inj H
        try go_wp2
        have n0_ := Aside0.mk (blk_drew BK232.out)
        have n1_ := Aside0.mk (below_drew1 HB.out)
        clear BK232
        clear HB
        have BK232 := n0_
        have HB := n1_
        clear n0_ n1_
        refine start_ (n := 10) (S := fun w' => w'.cell? ⟨gb232, 0, none⟩ = some (.int .i64 a0_0) ∧ w'.cell? ⟨gb232, 1, none⟩ = some (.string a0_1) ∧ w'.cell? ⟨gb232, 2, none⟩ = some (.string a0_2) ∧ w'.cell? ⟨gb232, 3, none⟩ = some (.int .i64 a0_3) ∧ w'.cell? ⟨gb232, 4, none⟩ = some (.int .i64 a0_4) ∧ w'.cell? ⟨gb232, 5, none⟩ = some (.int .i64 a0_5) ∧ w'.cell? ⟨gb232, 6, none⟩ = some (.slice A0_6 l0_6.length c0_6) ∧ w'.cell? ⟨gb232, 7, none⟩ = some (.int .i64 a0_7)) (ds := []) #[false, false, false, false, false, false, false, false, false, false] (by kernel_rfl) rfl rfl ⟨(blk_cell BK232.out 0).trans rfl, (blk_cell BK232.out 1).trans rfl, (blk_cell BK232.out 2).trans rfl, (blk_cell BK232.out 3).trans rfl, (blk_cell BK232.out 4).trans rfl, (blk_cell BK232.out 5).trans rfl, (blk_cell BK232.out 6).trans rfl, (blk_cell BK232.out 7).trans rfl⟩ (fun hHeld => ?_); refine with_tabW impl_tree_isStatement.tab11 impl_tree_isStatement.bits11 (fun HT_ HW_ => ?_)
        generalize wc.drew = w45 at BK232 HB hHeld ⊢
        refine pure_ (i := 0) (N := some 33) (v := ?_) (a' := ?_) #[true, false, false, false, false, false, false, false, false, false] rfl rfl (any_of HT_.out (by kernel_rfl)) (fun _ _ _ h => h) (Or.inl ⟨by rfl, ?_⟩) ?_ ?_
        rotate_left
        ·intro w'
         go_simp
         with_reducible rfl
        rotate_left
        ·simp only [Act.put, List.setIfInBounds_toArray, List.set_cons_zero, List.set_cons_succ, i64_w, i32_w]
         rfl
        refine pure_ (i := 1) (N := some 34) (v := ?_) (a' := ?_) #[true, true, false, false, false, false, false, false, false, false] rfl rfl (any_of HT_.out (by kernel_rfl)) (fun _ _ _ h => h) (Or.inl ⟨by rfl, ?_⟩) ?_ ?_
        rotate_left
        ·intro w'
         go_simp
         with_reducible rfl
        rotate_left
        ·simp only [Act.put, List.setIfInBounds_toArray, List.set_cons_zero, List.set_cons_succ, i64_w, i32_w]
         rfl
        refine pure_ (i := 4) (N := some 37) (v := ?_) (a' := ?_) #[true, true, false, false, true, false, false, false, false, false] rfl rfl (any_of HT_.out (by kernel_rfl)) (fun _ _ _ h => h) (Or.inl ⟨by rfl, ?_⟩) ?_ ?_
        rotate_left
        ·intro w'
         go_simp
         with_reducible rfl
        rotate_left
        ·simp only [Act.put, List.setIfInBounds_toArray, List.set_cons_zero, List.set_cons_succ, i64_w, i32_w]
         rfl
        refine pure_ (i := 5) (N := some 38) (v := ?_) (a' := ?_) #[true, true, false, false, true, true, false, false, false, false] rfl rfl (any_of HT_.out (by kernel_rfl)) (fun _ _ _ h => h) (Or.inl ⟨by rfl, ?_⟩) ?_ ?_
        rotate_left
        ·intro w'
         go_simp
         with_reducible rfl
        rotate_left
        ·simp only [Act.put, List.setIfInBounds_toArray, List.set_cons_zero, List.set_cons_succ, i64_w, i32_w]
         rfl
        refine take_ (i := 2) (N := some 35) (v := ?_) (a' := ?_) #[true, true, true, false, true, true, false, false, false, false] rfl rfl (take_ofW HT_.out HW_.out (by kernel_rfl)) (fun _ _ _ h => h) (Or.inl ⟨by rfl, ?_⟩) hHeld ?_ ?_
        rotate_left
        ·rintro w' ⟨s0, s1, s2, s3, s4, s5, s6, s7⟩
         go_simp
         with_reducible rfl
        rotate_left
        ·simp only [Act.put, List.setIfInBounds_toArray, List.set_cons_zero, List.set_cons_succ, i64_w, i32_w]
         rfl
        refine take_ (i := 6) (N := some 39) (v := ?_) (a' := ?_) #[true, true, true, false, true, true, true, false, false, false] rfl rfl (take_ofW HT_.out HW_.out (by kernel_rfl)) (fun _ _ _ h => h) (Or.inl ⟨by rfl, ?_⟩) hHeld ?_ ?_
        rotate_left
        ·rintro w' ⟨s0, s1, s2, s3, s4, s5, s6, s7⟩
         go_simp
         with_reducible rfl
        rotate_left
        ·simp only [Act.put, List.setIfInBounds_toArray, List.set_cons_zero, List.set_cons_succ, i64_w, i32_w]
         rfl
        refine one_ (i := 3) (N := some 36) #[true, true, true, true, true, true, true, false, false, false] rfl rfl (one_of HT_.out (by kernel_rfl)) (by decide) (fun K hK => ?_)
        refine goes_ Tryd.func19 (by kernel_rfl) rfl #[.string a0_1] (by rfl) rfl rfl (by (try simp only [List.map_toArray, List.map_cons, List.map_nil]); first | done | rfl | (simp only [List.length_drop, List.length_take]; rfl)) ?_
        with_reducible refine (impl_isFree.calls a0_1 true _ ?side1 A31.out).mono ?_
        (case side1 => exact Sh.below HSH.out (by repeat (first | (with_reducible first | exact HB.out | apply below_alloc | apply pw_below_drewN | apply below_drew1 | refine below_set ?_ GE232.out) | exact HB.out)))
        rintro e w46 ⟨rfl, hb⟩
        refine ⟨_, rfl, ?_⟩
        have n0_ := Aside0.mk (blk_below (g := gb232) (o := .cells #[.int .i64 a0_0, .string a0_1, .string a0_2, .int .i64 a0_3, .int .i64 a0_4, .int .i64 a0_5, .slice A0_6 l0_6.length c0_6, .int .i64 a0_7] 37 (0, 0)) (by (with_reducible repeat (first | refine blk_drewN ?_ _ | refine blk_drew ?_ | refine blk_alloc ?_ _)); exact BK232.out) hb)
        have n1_ := Aside0.mk (below_step (by repeat (first | (with_reducible first | exact HB.out | apply below_alloc | apply pw_below_drewN | apply below_drew1 | refine below_set ?_ GE232.out) | exact HB.out)) hb)
        clear BK232
        clear HB
        have BK232 := n0_
        have HB := n1_
        clear n0_ n1_
        (try clear hb)
        (try clear hb2)
        (try clear hk)
        (try clear hi)
        refine hK.out _ _ ⟨(blk_cell BK232.out 0).trans rfl, (blk_cell BK232.out 1).trans rfl, (blk_cell BK232.out 2).trans rfl, (blk_cell BK232.out 3).trans rfl, (blk_cell BK232.out 4).trans rfl, (blk_cell BK232.out 5).trans rfl, (blk_cell BK232.out 6).trans rfl, (blk_cell BK232.out 7).trans rfl⟩ (fun hHeld => ?_)
        clear hK K
        refine norm_ (a' := ?_) ?_ ?_
        rotate_left
        ·show Act.put _ (some 36) _ = _
         simp only [Act.put, List.setIfInBounds_toArray, List.set_cons_zero, List.set_cons_succ, i64_w, i32_w]
         rfl
        refine one_ (i := 7) (N := some 40) #[true, true, true, true, true, true, true, true, false, false] rfl rfl (one_of HT_.out (by kernel_rfl)) (by decide) (fun K hK => ?_)
        refine goes_ Tryd.func19 (by kernel_rfl) rfl #[.string a0_2] (by rfl) rfl rfl (by (try simp only [List.map_toArray, List.map_cons, List.map_nil]); first | done | rfl | (simp only [List.length_drop, List.length_take]; rfl)) ?_
        with_reducible refine (impl_isFree.calls a0_2 false _ ?side1 A32.out).mono ?_
        (case side1 => exact Sh.below HSH.out (by repeat (first | (with_reducible first | exact HB.out | apply below_alloc | apply pw_below_drewN | apply below_drew1 | refine below_set ?_ GE232.out) | exact HB.out)))
        rintro e w47 ⟨rfl, hb⟩
        refine ⟨_, rfl, ?_⟩
        have n0_ := Aside0.mk (blk_below (g := gb232) (o := .cells #[.int .i64 a0_0, .string a0_1, .string a0_2, .int .i64 a0_3, .int .i64 a0_4, .int .i64 a0_5, .slice A0_6 l0_6.length c0_6, .int .i64 a0_7] 37 (0, 0)) (by (with_reducible repeat (first | refine blk_drewN ?_ _ | refine blk_drew ?_ | refine blk_alloc ?_ _)); exact BK232.out) hb)
        have n1_ := Aside0.mk (below_step (by repeat (first | (with_reducible first | exact HB.out | apply below_alloc | apply pw_below_drewN | apply below_drew1 | refine below_set ?_ GE232.out) | exact HB.out)) hb)
        clear BK232
        clear HB
        have BK232 := n0_
        have HB := n1_
        clear n0_ n1_
        (try clear hb)
        (try clear hb2)
        (try clear hk)
        (try clear hi)
        refine hK.out _ _ ⟨(blk_cell BK232.out 0).trans rfl, (blk_cell BK232.out 1).trans rfl, (blk_cell BK232.out 2).trans rfl, (blk_cell BK232.out 3).trans rfl, (blk_cell BK232.out 4).trans rfl, (blk_cell BK232.out 5).trans rfl, (blk_cell BK232.out 6).trans rfl, (blk_cell BK232.out 7).trans rfl⟩ (fun hHeld => ?_)
        clear hK K
        refine norm_ (a' := ?_) ?_ ?_
        rotate_left
        ·show Act.put _ (some 40) _ = _
         simp only [Act.put, List.setIfInBounds_toArray, List.set_cons_zero, List.set_cons_succ, i64_w, i32_w]
         rfl
        refine pure_ (i := 8) (N := some 3) (v := ?_) (a' := ?_) #[true, true, true, true, true, true, true, true, true, false] rfl rfl (any_of HT_.out (by kernel_rfl)) (fun _ _ _ h => h) (Or.inl ⟨by rfl, ?_⟩) ?_ ?_
        rotate_left
        ·intro w'
         go_simp
         with_reducible rfl
        rotate_left
        ·simp only [Act.put, List.setIfInBounds_toArray, List.set_cons_zero, List.set_cons_succ, i64_w, i32_w]
         rfl
        refine pure_ (i := 9) (N := some 4) (v := ?_) (a' := ?_) #[true, true, true, true, true, true, true, true, true, true] rfl rfl (any_of HT_.out (by kernel_rfl)) (fun _ _ _ h => h) (Or.inl ⟨by rfl, ?_⟩) ?_ ?_
        rotate_left
        ·intro w'
         go_simp
         with_reducible rfl
        rotate_left
        ·simp only [Act.put, List.setIfInBounds_toArray, List.set_cons_zero, List.set_cons_succ, i64_w, i32_w]
         rfl
        refine done_ (done_of HT_.out (by kernel_rfl)) ?_
        try go_wp2
        go_ret
        exact ⟨by first | rfl | (simp [errW_none, errW_some] <;> rfl) | (simp [*, errW_none, errW_some] <;> rfl), by repeat (first | (with_reducible first | exact HB.out | apply below_alloc | apply pw_below_drewN | apply below_drew1 | refine below_set ?_ GE232.out) | exact HB.out)⟩
      ·replace c33 := Bool.eq_false_iff.mpr c33
       subst c33
       have H1 : (some false) = some r := by rw [if_neg (show ¬ (false = true) by decide)] at H; exact H
       clear H
       have H := H1
       clear H1
       obtain rfl := Option.some.inj H
       try go_wp2
       have n0_ := Aside0.mk (blk_drew BK232.out)
       have n1_ := Aside0.mk (below_drew1 HB.out)
       clear BK232
       clear HB
       have BK232 := n0_
       have HB := n1_
       clear n0_ n1_
       refine start_ (n := 10) (S := fun w' => w'.cell? ⟨gb232, 0, none⟩ = some (.int .i64 a0_0) ∧ w'.cell? ⟨gb232, 1, none⟩ = some (.string a0_1) ∧ w'.cell? ⟨gb232, 2, none⟩ = some (.string a0_2) ∧ w'.cell? ⟨gb232, 3, none⟩ = some (.int .i64 a0_3) ∧ w'.cell? ⟨gb232, 4, none⟩ = some (.int .i64 a0_4) ∧ w'.cell? ⟨gb232, 5, none⟩ = some (.int .i64 a0_5) ∧ w'.cell? ⟨gb232, 6, none⟩ = some (.slice A0_6 l0_6.length c0_6) ∧ w'.cell? ⟨gb232, 7, none⟩ = some (.int .i64 a0_7)) (ds := []) #[false, false, false, false, false, false, false, false, false, false] (by kernel_rfl) rfl rfl ⟨(blk_cell BK232.out 0).trans rfl, (blk_cell BK232.out 1).trans rfl, (blk_cell BK232.out 2).trans rfl, (blk_cell BK232.out 3).trans rfl, (blk_cell BK232.out 4).trans rfl, (blk_cell BK232.out 5).trans rfl, (blk_cell BK232.out 6).trans rfl, (blk_cell BK232.out 7).trans rfl⟩ (fun hHeld => ?_); refine with_tabW impl_tree_isStatement.tab11 impl_tree_isStatement.bits11 (fun HT_ HW_ => ?_)
       generalize wc.drew = w48 at BK232 HB hHeld ⊢
       refine pure_ (i := 0) (N := some 33) (v := ?_) (a' := ?_) #[true, false, false, false, false, false, false, false, false, false] rfl rfl (any_of HT_.out (by kernel_rfl)) (fun _ _ _ h => h) (Or.inl ⟨by rfl, ?_⟩) ?_ ?_
       rotate_left
       ·intro w'
        go_simp
        with_reducible rfl
       rotate_left
       ·simp only [Act.put, List.setIfInBounds_toArray, List.set_cons_zero, List.set_cons_succ, i64_w, i32_w]
        rfl
       refine pure_ (i := 1) (N := some 34) (v := ?_) (a' := ?_) #[true, true, false, false, false, false, false, false, false, false] rfl rfl (any_of HT_.out (by kernel_rfl)) (fun _ _ _ h => h) (Or.inl ⟨by rfl, ?_⟩) ?_ ?_
       rotate_left
       ·intro w'
        go_simp
        with_reducible rfl
       rotate_left
       ·simp only [Act.put, List.setIfInBounds_toArray, List.set_cons_zero, List.set_cons_succ, i64_w, i32_w]
        rfl
       refine pure_ (i := 4) (N := some 37) (v := ?_) (a' := ?_) #[true, true, false, false, true, false, false, false, false, false] rfl rfl (any_of HT_.out (by kernel_rfl)) (fun _ _ _ h => h) (Or.inl ⟨by rfl, ?_⟩) ?_ ?_
       rotate_left
       ·intro w'
        go_simp
        with_reducible rfl
       rotate_left
       ·simp only [Act.put, List.setIfInBounds_toArray, List.set_cons_zero, List.set_cons_succ, i64_w, i32_w]
        rfl
       refine pure_ (i := 5) (N := some 38) (v := ?_) (a' := ?_) #[true, true, false, false, true, true, false, false, false, false] rfl rfl (any_of HT_.out (by kernel_rfl)) (fun _ _ _ h => h) (Or.inl ⟨by rfl, ?_⟩) ?_ ?_
       rotate_left
       ·intro w'
        go_simp
        with_reducible rfl
       rotate_left
       ·simp only [Act.put, List.setIfInBounds_toArray, List.set_cons_zero, List.set_cons_succ, i64_w, i32_w]
        rfl
       refine take_ (i := 2) (N := some 35) (v := ?_) (a' := ?_) #[true, true, true, false, true, true, false, false, false, false] rfl rfl (take_ofW HT_.out HW_.out (by kernel_rfl)) (fun _ _ _ h => h) (Or.inl ⟨by rfl, ?_⟩) hHeld ?_ ?_
       rotate_left
       ·rintro w' ⟨s0, s1, s2, s3, s4, s5, s6, s7⟩
        go_simp
        with_reducible rfl
       rotate_left
       ·simp only [Act.put, List.setIfInBounds_toArray, List.set_cons_zero, List.set_cons_succ, i64_w, i32_w]
        rfl
       refine take_ (i := 6) (N := some 39) (v := ?_) (a' := ?_) #[true, true, true, false, true, true, true, false, false, false] rfl rfl (take_ofW HT_.out HW_.out (by kernel_rfl)) (fun _ _ _ h => h) (Or.inl ⟨by rfl, ?_⟩) hHeld ?_ ?_
       rotate_left
       ·rintro w' ⟨s0, s1, s2, s3, s4, s5, s6, s7⟩
        go_simp
        with_reducible rfl
       rotate_left
       ·simp only [Act.put, List.setIfInBounds_toArray, List.set_cons_zero, List.set_cons_succ, i64_w, i32_w]
        rfl
       refine one_ (i := 3) (N := some 36) #[true, true, true, true, true, true, true, false, false, false] rfl rfl (one_of HT_.out (by kernel_rfl)) (by decide) (fun K hK => ?_)
       refine goes_ Tryd.func19 (by kernel_rfl) rfl #[.string a0_1] (by rfl) rfl rfl (by (try simp only [List.map_toArray, List.map_cons, List.map_nil]); first | done | rfl | (simp only [List.length_drop, List.length_take]; rfl)) ?_
       with_reducible refine (impl_isFree.calls a0_1 false _ ?side1 A31.out).mono ?_
       (case side1 => exact Sh.below HSH.out (by repeat (first | (with_reducible first | exact HB.out | apply below_alloc | apply pw_below_drewN | apply below_drew1 | refine below_set ?_ GE232.out) | exact HB.out)))
       rintro e w49 ⟨rfl, hb⟩
       refine ⟨_, rfl, ?_⟩
       have n0_ := Aside0.mk (blk_below (g := gb232) (o := .cells #[.int .i64 a0_0, .string a0_1, .string a0_2, .int .i64 a0_3, .int .i64 a0_4, .int .i64 a0_5, .slice A0_6 l0_6.length c0_6, .int .i64 a0_7] 37 (0, 0)) (by (with_reducible repeat (first | refine blk_drewN ?_ _ | refine blk_drew ?_ | refine blk_alloc ?_ _)); exact BK232.out) hb)
       have n1_ := Aside0.mk (below_step (by repeat (first | (with_reducible first | exact HB.out | apply below_alloc | apply pw_below_drewN | apply below_drew1 | refine below_set ?_ GE232.out) | exact HB.out)) hb)
       clear BK232
       clear HB
       have BK232 := n0_
       have HB := n1_
       clear n0_ n1_
       (try clear hb)
       (try clear hb2)
       (try clear hk)
       (try clear hi)
       refine hK.out _ _ ⟨(blk_cell BK232.out 0).trans rfl, (blk_cell BK232.out 1).trans rfl, (blk_cell BK232.out 2).trans rfl, (blk_cell BK232.out 3).trans rfl, (blk_cell BK232.out 4).trans rfl, (blk_cell BK232.out 5).trans rfl, (blk_cell BK232.out 6).trans rfl, (blk_cell BK232.out 7).trans rfl⟩ (fun hHeld => ?_)
       clear hK K
       refine norm_ (a' := ?_) ?_ ?_
       rotate_left
       ·show Act.put _ (some 36) _ = _
        simp only [Act.put, List.setIfInBounds_toArray, List.set_cons_zero, List.set_cons_succ, i64_w, i32_w]
        rfl
       refine one_ (i := 7) (N := some 40) #[true, true, true, true, true, true, true, true, false, false] rfl rfl (one_of HT_.out (by kernel_rfl)) (by decide) (fun K hK => ?_)
       refine goes_ Tryd.func19 (by kernel_rfl) rfl #[.string a0_2] (by rfl) rfl rfl (by (try simp only [List.map_toArray, List.map_cons, List.map_nil]); first | done | rfl | (simp only [List.length_drop, List.length_take]; rfl)) ?_
       with_reducible refine (impl_isFree.calls a0_2 t237 _ ?side1 A32.out).mono ?_
       (case side1 => exact Sh.below HSH.out (by repeat (first | (with_reducible first | exact HB.out | apply below_alloc | apply pw_below_drewN | apply below_drew1 | refine below_set ?_ GE232.out) | exact HB.out)))
       rintro e w50 ⟨rfl, hb⟩
       refine ⟨_, rfl, ?_⟩
       have n0_ := Aside0.mk (blk_below (g := gb232) (o := .cells #[.int .i64 a0_0, .string a0_1, .string a0_2, .int .i64 a0_3, .int .i64 a0_4, .int .i64 a0_5, .slice A0_6 l0_6.length c0_6, .int .i64 a0_7] 37 (0, 0)) (by (with_reducible repeat (first | refine blk_drewN ?_ _ | refine blk_drew ?_ | refine blk_alloc ?_ _)); exact BK232.out) hb)
       have n1_ := Aside0.mk (below_step (by repeat (first | (with_reducible first | exact HB.out | apply below_alloc | apply pw_below_drewN | apply below_drew1 | refine below_set ?_ GE232.out) | exact HB.out)) hb)
       clear BK232
       clear HB
       have BK232 := n0_
       have HB := n1_
       clear n0_ n1_
       (try clear hb)
       (try clear hb2)
       (try clear hk)
       (try clear hi)
       refine hK.out _ _ ⟨(blk_cell BK232.out 0).trans rfl, (blk_cell BK232.out 1).trans rfl, (blk_cell BK232.out 2).trans rfl, (blk_cell BK232.out 3).trans rfl, (blk_cell BK232.out 4).trans rfl, (blk_cell BK232.out 5).trans rfl, (blk_cell BK232.out 6).trans rfl, (blk_cell BK232.out 7).trans rfl⟩ (fun hHeld => ?_)
       clear hK K
       refine norm_ (a' := ?_) ?_ ?_
       rotate_left
       ·show Act.put _ (some 40) _ = _
        simp only [Act.put, List.setIfInBounds_toArray, List.set_cons_zero, List.set_cons_succ, i64_w, i32_w]
        rfl
       refine pure_ (i := 8) (N := some 3) (v := ?_) (a' := ?_) #[true, true, true, true, true, true, true, true, true, false] rfl rfl (any_of HT_.out (by kernel_rfl)) (fun _ _ _ h => h) (Or.inl ⟨by rfl, ?_⟩) ?_ ?_
       rotate_left
       ·intro w'
        go_simp
        with_reducible rfl
       rotate_left
       ·simp only [Act.put, List.setIfInBounds_toArray, List.set_cons_zero, List.set_cons_succ, i64_w, i32_w]
        rfl
       refine pure_ (i := 9) (N := some 4) (v := ?_) (a' := ?_) #[true, true, true, true, true, true, true, true, true, true] rfl rfl (any_of HT_.out (by kernel_rfl)) (fun _ _ _ h => h) (Or.inl ⟨by rfl, ?_⟩) ?_ ?_
       rotate_left
       ·intro w'
        go_simp
        with_reducible rfl
       rotate_left
       ·simp only [Act.put, List.setIfInBounds_toArray, List.set_cons_zero, List.set_cons_succ, i64_w, i32_w]
        rfl
       refine done_ (done_of HT_.out (by kernel_rfl)) ?_
       try go_wp2
       go_ret
       exact ⟨by first | rfl | (simp [errW_none, errW_some] <;> rfl) | (simp [*, errW_none, errW_some] <;> rfl), by repeat (first | (with_reducible first | exact HB.out | apply below_alloc | apply pw_below_drewN | apply below_drew1 | refine below_set ?_ GE232.out) | exact HB.out)⟩
     ·rw [if_neg c30] at H
      have c30b0 : (a0_0 == 23) = false := beq_eq_false_iff_ne.mpr c30
      have c30b1 : (a0_0 != 23) = true := bne_iff_ne.mpr c30
      by_cases c51 : a0_0 = 24
      ·rw [if_pos c51] at H
       have c51b0 : (a0_0 == 24) = true := beq_iff_eq.mpr c51
       have c51b1 : (a0_0 != 24) = false := bne_eq_false_iff_eq.mpr c51
       clear c51
       replace H := Option.bind_eq_some_iff.mp H
       obtain ⟨t239, A520, H⟩ := H
       replace H : (if (a0_1.toList == ([] : List UInt8)) = true then (if (a0_2.toList == ([] : List UInt8)) = true then (if t239 = true then ((KK.f a0_0 a0_1 a0_2 a0_3 a0_4 a0_5 l0_6 a0_7 (⟨#[]⟩ : ByteArray)).bind fun t240 => (some t240)) else (some false)) else (some false)) else (some false)) = some r := H
       have A52 := Aside0.mk A520
       clear A520
       by_cases c53 : (a0_1.toList == ([] : List UInt8)) = true
       ·rw [if_pos c53] at H
        have c53b0 : (a0_1.toList == ([] : List UInt8)) = true := c53
        (try (have c53b3 : a0_1.toList.isEmpty = true := by simpa using c53b0))
        (try (have c53b1 : decide (a0_1.toList = ([] : List UInt8)) = true := by simpa using c53))
        (try (have c53b2 : (a0_1.toList == ([] : List UInt8)) = true := by simpa using c53))
        (try (have c53b3 : a0_1.toList.isEmpty = true := by simpa using c53))
        clear c53
        by_cases c54 : (a0_2.toList == ([] : List UInt8)) = true
        ·rw [if_pos c54] at H
         have c54b0 : (a0_2.toList == ([] : List UInt8)) = true := c54
         (try (have c54b3 : a0_2.toList.isEmpty = true := by simpa using c54b0))
         (try (have c54b1 : decide (a0_2.toList = ([] : List UInt8)) = true := by simpa using c54))
         (try (have c54b2 : (a0_2.toList == ([] : List UInt8)) = true := by simpa using c54))
         (try (have c54b3 : a0_2.toList.isEmpty = true := by simpa using c54))
         clear c54
         by_cases c55 : t239 = true
         ·subst c55
          have H1 : ((KK.f a0_0 a0_1 a0_2 a0_3 a0_4 a0_5 l0_6 a0_7 (⟨#[]⟩ : ByteArray)).bind fun t240 => (some t240)) = some r := by rw [if_pos rfl] at H; exact H
          clear H
          have H := H1
          clear H1
          replace H := Option.bind_eq_some_iff.mp H
          obtain ⟨t240, A560, H⟩ := H
          replace H : (some t240) = some r := H
          have A56 := Aside0.mk A560
          clear A560
          obtain rfl := Option.some.inj H
          have hcz57_0 : wc.cell? ⟨gb232, 0, none⟩ = some (.int .i64 a0_0) := (blk_cell BK232.out 0).trans rfl
          have hcz57_1 : wc.cell? ⟨gb232, 1, none⟩ = some (.string a0_1) := (blk_cell BK232.out 1).trans rfl
          have hcz57_2 : wc.cell? ⟨gb232, 2, none⟩ = some (.string a0_2) := (blk_cell BK232.out 2).trans rfl
          have hcz57_3 : wc.cell? ⟨gb232, 3, none⟩ = some (.int .i64 a0_3) := (blk_cell BK232.out 3).trans rfl
          have hcz57_4 : wc.cell? ⟨gb232, 4, none⟩ = some (.int .i64 a0_4) := (blk_cell BK232.out 4).trans rfl
          have hcz57_5 : wc.cell? ⟨gb232, 5, none⟩ = some (.int .i64 a0_5) := (blk_cell BK232.out 5).trans rfl
          have hcz57_6 : wc.cell? ⟨gb232, 6, none⟩ = some (.slice A0_6 l0_6.length c0_6) := (blk_cell BK232.out 6).trans rfl
          have hcz57_7 : wc.cell? ⟨gb232, 7, none⟩ = some (.int .i64 a0_7) := (blk_cell BK232.out 7).trans rfl
          have hfz57_0 := blk_frozen BK232.out 0
          have hfz57_1 := blk_frozen BK232.out 1
          have hfz57_2 := blk_frozen BK232.out 2
          have hfz57_3 := blk_frozen BK232.out 3
          have hfz57_4 := blk_frozen BK232.out 4
          have hfz57_5 := blk_frozen BK232.out 5
          have hfz57_6 := blk_frozen BK232.out 6
          have hfz57_7 := blk_frozen BK232.out 7
          go_wp2_with (first | ((with_reducible refine gate_callee (f := 20) rfl ?_); refine goesL_ (some 46) rfl rfl Tryd.func20 (by kernel_rfl) rfl #[.int .i64 a0_3, .int .i64 1, .int .i64 99] rfl (by (try simp only [List.map_toArray, List.map_cons, List.map_nil]); first | done | rfl | (simp only [List.length_drop, List.length_take]; rfl)) ?_; (with_reducible refine (impl_in.calls a0_3 1 99 true _ A52.out).mono ?_); rintro e w' ⟨rfl, ⟨nd, rfl⟩⟩; refine ⟨_, rfl, ?_⟩) | (go_at_call 22; (with_reducible refine (KK.calls a0_0 a0_1 a0_2 a0_3 a0_4 a0_5 _ _ l0_6 a0_7 (⟨#[]⟩ : ByteArray) t240 _ ?side1 ?side2 ?side3 A56.out).mono ?_); (case side1 => repeat (first | exact (Kd.C_below HR0_6.out (by repeat (first | (with_reducible first | exact HB.out | apply below_alloc | apply pw_below_drewN | apply below_drew1 | refine below_set ?_ GE232.out) | exact HB.out))) | (with_reducible refine Kd.C_alloc ?_ _) | (with_reducible refine Kd.C_drewN ?_ _) | (with_reducible refine Kd.C_drew ?_))); (case side2 => exact HC0_6.out); (case side3 => exact Sh.below HSH.out (by repeat (first | (with_reducible first | exact HB.out | apply below_alloc | apply pw_below_drewN | apply below_drew1 | refine below_set ?_ GE232.out) | exact HB.out))); rintro e w58 ⟨rfl, hb⟩; have n0_ := Aside0.mk (blk_below (g := gb232) (o := .cells #[.int .i64 a0_0, .string a0_1, .string a0_2, .int .i64 a0_3, .int .i64 a0_4, .int .i64 a0_5, .slice A0_6 l0_6.length c0_6, .int .i64 a0_7] 37 (0, 0)) (by (with_reducible repeat (first | refine blk_drewN ?_ _ | refine blk_drew ?_ | refine blk_alloc ?_ _)); exact BK232.out) hb); have n1_ := Aside0.mk (below_step (by repeat (first | (with_reducible first | exact HB.out | apply below_alloc | apply pw_below_drewN | apply below_drew1 | refine below_set ?_ GE232.out) | exact HB.out)) hb); clear BK232; clear HB; have BK232 := n0_; have HB := n1_; clear n0_ n1_; (try clear hb); (try clear hb2); (try clear hk); (try clear hi)))
          go_ret
          exact ⟨by first | rfl | (simp [errW_none, errW_some] <;> rfl) | (simp [*, errW_none, errW_some] <;> rfl), by repeat (first | (with_reducible first | exact HB.out | apply below_alloc | apply pw_below_drewN | apply below_drew1 | refine below_set ?_ GE232.out) | exact HB.out)⟩
         ·replace c55 := Bool.eq_false_iff.mpr c55
          subst c55
          have H1 : (some false) = some r := by rw [if_neg (show ¬ (false = true) by decide)] at H; exact H
          clear H
          have H := H1
          clear H1
          obtain rfl := Option.some.inj H
          have hcz59_0 : wc.cell? ⟨gb232, 0, none⟩ = some (.int .i64 a0_0) := (blk_cell BK232.out 0).trans rfl
          have hcz59_1 : wc.cell? ⟨gb232, 1, none⟩ = some (.string a0_1) := (blk_cell BK232.out 1).trans rfl
          have hcz59_2 : wc.cell? ⟨gb232, 2, none⟩ = some (.string a0_2) := (blk_cell BK232.out 2).trans rfl
          have hcz59_3 : wc.cell? ⟨gb232, 3, none⟩ = some (.int .i64 a0_3) := (blk_cell BK232.out 3).trans rfl
          have hcz59_4 : wc.cell? ⟨gb232, 4, none⟩ = some (.int .i64 a0_4) := (blk_cell BK232.out 4).trans rfl
          have hcz59_5 : wc.cell? ⟨gb232, 5, none⟩ = some (.int .i64 a0_5) := (blk_cell BK232.out 5).trans rfl
          have hcz59_6 : wc.cell? ⟨gb232, 6, none⟩ = some (.slice A0_6 l0_6.length c0_6) := (blk_cell BK232.out 6).trans rfl
          have hcz59_7 : wc.cell? ⟨gb232, 7, none⟩ = some (.int .i64 a0_7) := (blk_cell BK232.out 7).trans rfl
          have hfz59_0 := blk_frozen BK232.out 0
          have hfz59_1 := blk_frozen BK232.out 1
          have hfz59_2 := blk_frozen BK232.out 2
          have hfz59_3 := blk_frozen BK232.out 3
          have hfz59_4 := blk_frozen BK232.out 4
          have hfz59_5 := blk_frozen BK232.out 5
          have hfz59_6 := blk_frozen BK232.out 6
          have hfz59_7 := blk_frozen BK232.out 7
          go_wp2_with (first | ((with_reducible refine gate_callee (f := 20) rfl ?_); refine goesL_ (some 46) rfl rfl Tryd.func20 (by kernel_rfl) rfl #[.int .i64 a0_3, .int .i64 1, .int .i64 99] rfl (by (try simp only [List.map_toArray, List.map_cons, List.map_nil]); first | done | rfl | (simp only [List.length_drop, List.length_take]; rfl)) ?_; (with_reducible refine (impl_in.calls a0_3 1 99 false _ A52.out).mono ?_); rintro e w' ⟨rfl, ⟨nd, rfl⟩⟩; refine ⟨_, rfl, ?_⟩))
          go_ret
          exact ⟨by first | rfl | (simp [errW_none, errW_some] <;> rfl) | (simp [*, errW_none, errW_some] <;> rfl), by repeat (first | (with_reducible first | exact HB.out | apply below_alloc | apply pw_below_drewN | apply below_drew1 | refine below_set ?_ GE232.out) | exact HB.out)⟩
        ·rw [if_neg c54] at H
         have c54b0 : (a0_2.toList == ([] : List UInt8)) = false := by simpa using c54
         (try (have c54b3 : a0_2.toList.isEmpty = false := by simpa using c54b0))
         (try (have c54b1 : decide (a0_2.toList = ([] : List UInt8)) = false := by simpa using c54))
         (try (have c54b2 : (a0_2.toList == ([] : List UInt8)) = false := by simpa using c54))
         (try (have c54b3 : a0_2.toList.isEmpty = false := by simpa using c54))
         (try (have c54b3 : ¬ (a0_2.toList = ([] : List UInt8)) := by simpa using c54))
         clear c54
         obtain rfl := Option.some.inj H
         have hcz60_0 : wc.cell? ⟨gb232, 0, none⟩ = some (.int .i64 a0_0) := (blk_cell BK232.out 0).trans rfl
         have hcz60_1 : wc.cell? ⟨gb232, 1, none⟩ = some (.string a0_1) := (blk_cell BK232.out 1).trans rfl
         have hcz60_2 : wc.cell? ⟨gb232, 2, none⟩ = some (.string a0_2) := (blk_cell BK232.out 2).trans rfl
         have hcz60_3 : wc.cell? ⟨gb232, 3, none⟩ = some (.int .i64 a0_3) := (blk_cell BK232.out 3).trans rfl
         have hcz60_4 : wc.cell? ⟨gb232, 4, none⟩ = some (.int .i64 a0_4) := (blk_cell BK232.out 4).trans rfl
         have hcz60_5 : wc.cell? ⟨gb232, 5, none⟩ = some (.int .i64 a0_5) := (blk_cell BK232.out 5).trans rfl
         have hcz60_6 : wc.cell? ⟨gb232, 6, none⟩ = some (.slice A0_6 l0_6.length c0_6) := (blk_cell BK232.out 6).trans rfl
         have hcz60_7 : wc.cell? ⟨gb232, 7, none⟩ = some (.int .i64 a0_7) := (blk_cell BK232.out 7).trans rfl
         have hfz60_0 := blk_frozen BK232.out 0
         have hfz60_1 := blk_frozen BK232.out 1
         have hfz60_2 := blk_frozen BK232.out 2
         have hfz60_3 := blk_frozen BK232.out 3
         have hfz60_4 := blk_frozen BK232.out 4
         have hfz60_5 := blk_frozen BK232.out 5
         have hfz60_6 := blk_frozen BK232.out 6
         have hfz60_7 := blk_frozen BK232.out 7
         go_wp2_with (first | ((with_reducible refine gate_callee (f := 20) rfl ?_); refine goesL_ (some 46) rfl rfl Tryd.func20 (by kernel_rfl) rfl #[.int .i64 a0_3, .int .i64 1, .int .i64 99] rfl (by (try simp only [List.map_toArray, List.map_cons, List.map_nil]); first | done | rfl | (simp only [List.length_drop, List.length_take]; rfl)) ?_; (with_reducible refine (impl_in.calls a0_3 1 99 t239 _ A52.out).mono ?_); rintro e w' ⟨rfl, ⟨nd, rfl⟩⟩; refine ⟨_, rfl, ?_⟩))
         go_ret
         exact ⟨by first | rfl | (simp [errW_none, errW_some] <;> rfl) | (simp [*, errW_none, errW_some] <;> rfl), by repeat (first | (with_reducible first | exact HB.out | apply below_alloc | apply pw_below_drewN | apply below_drew1 | refine below_set ?_ GE232.out) | exact HB.out)⟩
       ·rw [if_neg c53] at H
        have c53b0 : (a0_1.toList == ([] : List UInt8)) = false := by simpa using c53
        (try (have c53b3 : a0_1.toList.isEmpty = false := by simpa using c53b0))
        (try (have c53b1 : decide (a0_1.toList = ([] : List UInt8)) = false := by simpa using c53))
        (try (have c53b2 : (a0_1.toList == ([] : List UInt8)) = false := by simpa using c53))
        (try (have c53b3 : a0_1.toList.isEmpty = false := by simpa using c53))
        (try (have c53b3 : ¬ (a0_1.toList = ([] : List UInt8)) := by simpa using c53))
        clear c53
        obtain rfl := Option.some.inj H
        have hcz61_0 : wc.cell? ⟨gb232, 0, none⟩ = some (.int .i64 a0_0) := (blk_cell BK232.out 0).trans rfl
        have hcz61_1 : wc.cell? ⟨gb232, 1, none⟩ = some (.string a0_1) := (blk_cell BK232.out 1).trans rfl
        have hcz61_2 : wc.cell? ⟨gb232, 2, none⟩ = some (.string a0_2) := (blk_cell BK232.out 2).trans rfl
        have hcz61_3 : wc.cell? ⟨gb232, 3, none⟩ = some (.int .i64 a0_3) := (blk_cell BK232.out 3).trans rfl
        have hcz61_4 : wc.cell? ⟨gb232, 4, none⟩ = some (.int .i64 a0_4) := (blk_cell BK232.out 4).trans rfl
        have hcz61_5 : wc.cell? ⟨gb232, 5, none⟩ = some (.int .i64 a0_5) := (blk_cell BK232.out 5).trans rfl
        have hcz61_6 : wc.cell? ⟨gb232, 6, none⟩ = some (.slice A0_6 l0_6.length c0_6) := (blk_cell BK232.out 6).trans rfl
        have hcz61_7 : wc.cell? ⟨gb232, 7, none⟩ = some (.int .i64 a0_7) := (blk_cell BK232.out 7).trans rfl
        have hfz61_0 := blk_frozen BK232.out 0
        have hfz61_1 := blk_frozen BK232.out 1
        have hfz61_2 := blk_frozen BK232.out 2
        have hfz61_3 := blk_frozen BK232.out 3
        have hfz61_4 := blk_frozen BK232.out 4
        have hfz61_5 := blk_frozen BK232.out 5
        have hfz61_6 := blk_frozen BK232.out 6
        have hfz61_7 := blk_frozen BK232.out 7
        go_wp2_with (first | ((with_reducible refine gate_callee (f := 20) rfl ?_); refine goesL_ (some 46) rfl rfl Tryd.func20 (by kernel_rfl) rfl #[.int .i64 a0_3, .int .i64 1, .int .i64 99] rfl (by (try simp only [List.map_toArray, List.map_cons, List.map_nil]); first | done | rfl | (simp only [List.length_drop, List.length_take]; rfl)) ?_; (with_reducible refine (impl_in.calls a0_3 1 99 t239 _ A52.out).mono ?_); rintro e w' ⟨rfl, ⟨nd, rfl⟩⟩; refine ⟨_, rfl, ?_⟩))
        go_ret
        exact ⟨by first | rfl | (simp [errW_none, errW_some] <;> rfl) | (simp [*, errW_none, errW_some] <;> rfl), by repeat (first | (with_reducible first | exact HB.out | apply below_alloc | apply pw_below_drewN | apply below_drew1 | refine below_set ?_ GE232.out) | exact HB.out)⟩
      ·rw [if_neg c51] at H
       have c51b0 : (a0_0 == 24) = false := beq_eq_false_iff_ne.mpr c51
       have c51b1 : (a0_0 != 24) = true := bne_iff_ne.mpr c51
       by_cases c62 : a0_0 = 25
       ·rw [if_pos c62] at H
        have c62b0 : (a0_0 == 25) = true := beq_iff_eq.mpr c62
        have c62b1 : (a0_0 != 25) = false := bne_eq_false_iff_eq.mpr c62
        clear c62
        by_cases c63 : (a0_1.toList == ([] : List UInt8)) = true
        ·rw [if_pos c63] at H
         have c63b0 : (a0_1.toList == ([] : List UInt8)) = true := c63
         (try (have c63b3 : a0_1.toList.isEmpty = true := by simpa using c63b0))
         (try (have c63b1 : decide (a0_1.toList = ([] : List UInt8)) = true := by simpa using c63))
         (try (have c63b2 : (a0_1.toList == ([] : List UInt8)) = true := by simpa using c63))
         (try (have c63b3 : a0_1.toList.isEmpty = true := by simpa using c63))
         clear c63
         by_cases c64 : (a0_2.toList == ([] : List UInt8)) = true
         ·rw [if_pos c64] at H
          have c64b0 : (a0_2.toList == ([] : List UInt8)) = true := c64
          (try (have c64b3 : a0_2.toList.isEmpty = true := by simpa using c64b0))
          (try (have c64b1 : decide (a0_2.toList = ([] : List UInt8)) = true := by simpa using c64))
          (try (have c64b2 : (a0_2.toList == ([] : List UInt8)) = true := by simpa using c64))
          (try (have c64b3 : a0_2.toList.isEmpty = true := by simpa using c64))
          clear c64
          by_cases c65 : (a0_3 == 0) = true
          ·rw [if_pos c65] at H
           have c65b0 : (a0_3 == 0) = true := c65
           (try (have c65b1 : decide (a0_3 = 0) = true := by simpa using c65))
           (try (have c65b2 : (a0_3 == 0) = true := by simpa using c65))
           clear c65
           replace H := Option.bind_eq_some_iff.mp H
           obtain ⟨t241, A660, H⟩ := H
           replace H : (some t241) = some r := H
           have A66 := Aside0.mk A660
           clear A660
           obtain rfl := Option.some.inj H
           have hcz67_0 : wc.cell? ⟨gb232, 0, none⟩ = some (.int .i64 a0_0) := (blk_cell BK232.out 0).trans rfl
           have hcz67_1 : wc.cell? ⟨gb232, 1, none⟩ = some (.string a0_1) := (blk_cell BK232.out 1).trans rfl
           have hcz67_2 : wc.cell? ⟨gb232, 2, none⟩ = some (.string a0_2) := (blk_cell BK232.out 2).trans rfl
           have hcz67_3 : wc.cell? ⟨gb232, 3, none⟩ = some (.int .i64 a0_3) := (blk_cell BK232.out 3).trans rfl
           have hcz67_4 : wc.cell? ⟨gb232, 4, none⟩ = some (.int .i64 a0_4) := (blk_cell BK232.out 4).trans rfl
           have hcz67_5 : wc.cell? ⟨gb232, 5, none⟩ = some (.int .i64 a0_5) := (blk_cell BK232.out 5).trans rfl
           have hcz67_6 : wc.cell? ⟨gb232, 6, none⟩ = some (.slice A0_6 l0_6.length c0_6) := (blk_cell BK232.out 6).trans rfl
           have hcz67_7 : wc.cell? ⟨gb232, 7, none⟩ = some (.int .i64 a0_7) := (blk_cell BK232.out 7).trans rfl
           have hfz67_0 := blk_frozen BK232.out 0
           have hfz67_1 := blk_frozen BK232.out 1
           have hfz67_2 := blk_frozen BK232.out 2
           have hfz67_3 := blk_frozen BK232.out 3
           have hfz67_4 := blk_frozen BK232.out 4
           have hfz67_5 := blk_frozen BK232.out 5
           have hfz67_6 := blk_frozen BK232.out 6
           have hfz67_7 := blk_frozen BK232.out 7
           go_wp2_with (first | (go_at_call 22; (with_reducible refine (KK.calls a0_0 a0_1 a0_2 a0_3 a0_4 a0_5 _ _ l0_6 a0_7 (⟨#[101]⟩ : ByteArray) t241 _ ?side1 ?side2 ?side3 A66.out).mono ?_); (case side1 => repeat (first | exact (Kd.C_below HR0_6.out HB.out) | (with_reducible refine Kd.C_alloc ?_ _) | (with_reducible refine Kd.C_drewN ?_ _) | (with_reducible refine Kd.C_drew ?_))); (case side2 => exact HC0_6.out); (case side3 => exact Sh.below HSH.out (by repeat (first | (with_reducible first | exact HB.out | apply below_alloc | apply pw_below_drewN | apply below_drew1 | refine below_set ?_ GE232.out) | exact HB.out))); rintro e w68 ⟨rfl, hb⟩; have n0_ := Aside0.mk (blk_below (g := gb232) (o := .cells #[.int .i64 a0_0, .string a0_1, .string a0_2, .int .i64 a0_3, .int .i64 a0_4, .int .i64 a0_5, .slice A0_6 l0_6.length c0_6, .int .i64 a0_7] 37 (0, 0)) (by (with_reducible repeat (first | refine blk_drewN ?_ _ | refine blk_drew ?_ | refine blk_alloc ?_ _)); exact BK232.out) hb); have n1_ := Aside0.mk (below_step (by repeat (first | (with_reducible first | exact HB.out | apply below_alloc | apply pw_below_drewN | apply below_drew1 | refine below_set ?_ GE232.out) | exact HB.out)) hb); clear BK232; clear HB; have BK232 := n0_; have HB := n1_; clear n0_ n1_; (try clear hb); (try clear hb2); (try clear hk); (try clear hi)))
           go_ret
           exact ⟨by first | rfl | (simp [errW_none, errW_some] <;> rfl) | (simp [*, errW_none, errW_some] <;> rfl), by repeat (first | (with_reducible first | exact HB.out | apply below_alloc | apply pw_below_drewN | apply below_drew1 | refine below_set ?_ GE232.out) | exact HB.out)⟩
          ·rw [if_neg c65] at H
           have c65b0 : (a0_3 == 0) = false := by simpa using c65
           (try (have c65b1 : decide (a0_3 = 0) = false := by simpa using c65))
           (try (have c65b2 : (a0_3 == 0) = false := by simpa using c65))
           (try (have c65b3 : ¬ (a0_3 = 0) := by simpa using c65))
           clear c65
           obtain rfl := Option.some.inj H
           go_wp2
           go_ret
           exact ⟨by first | rfl | (simp [errW_none, errW_some] <;> rfl) | (simp [*, errW_none, errW_some] <;> rfl), by repeat (first | (with_reducible first | exact HB.out | apply below_alloc | apply pw_below_drewN | apply below_drew1 | refine below_set ?_ GE232.out) | exact HB.out)⟩
         ·rw [if_neg c64] at H
          have c64b0 : (a0_2.toList == ([] : List UInt8)) = false := by simpa using c64
          (try (have c64b3 : a0_2.toList.isEmpty = false := by simpa using c64b0))
          (try (have c64b1 : decide (a0_2.toList = ([] : List UInt8)) = false := by simpa using c64))
          (try (have c64b2 : (a0_2.toList == ([] : List UInt8)) = false := by simpa using c64))
          (try (have c64b3 : a0_2.toList.isEmpty = false := by simpa using c64))
          (try (have c64b3 : ¬ (a0_2.toList = ([] : List UInt8)) := by simpa using c64))
          clear c64
          obtain rfl := Option.some.inj H
          go_wp2
          go_ret
          exact ⟨by first | rfl | (simp [errW_none, errW_some] <;> rfl) | (simp [*, errW_none, errW_some] <;> rfl), by repeat (first | (with_reducible first | exact HB.out | apply below_alloc | apply pw_below_drewN | apply below_drew1 | refine below_set ?_ GE232.out) | exact HB.out)⟩
        ·rw [if_neg c63] at H
         have c63b0 : (a0_1.toList == ([] : List UInt8)) = false := by simpa using c63
         (try (have c63b3 : a0_1.toList.isEmpty = false := by simpa using c63b0))
         (try (have c63b1 : decide (a0_1.toList = ([] : List UInt8)) = false := by simpa using c63))
         (try (have c63b2 : (a0_1.toList == ([] : List UInt8)) = false := by simpa using c63))
         (try (have c63b3 : a0_1.toList.isEmpty = false := by simpa using c63))
         (try (have c63b3 : ¬ (a0_1.toList = ([] : List UInt8)) := by simpa using c63))
         clear c63
         obtain rfl := Option.some.inj H
         go_wp2
         go_ret
         exact ⟨by first | rfl | (simp [errW_none, errW_some] <;> rfl) | (simp [*, errW_none, errW_some] <;> rfl), by repeat (first | (with_reducible first | exact HB.out | apply below_alloc | apply pw_below_drewN | apply below_drew1 | refine below_set ?_ GE232.out) | exact HB.out)⟩
       ·rw [if_neg c62] at H
        have c62b0 : (a0_0 == 25) = false := beq_eq_false_iff_ne.mpr c62
        have c62b1 : (a0_0 != 25) = true := bne_iff_ne.mpr c62
        by_cases c69 : a0_0 = 26
        ·rw [if_pos c69] at H
         have c69b0 : (a0_0 == 26) = true := beq_iff_eq.mpr c69
         have c69b1 : (a0_0 != 26) = false := bne_eq_false_iff_eq.mpr c69
         clear c69
         by_cases c70 : (a0_1.toList == ([] : List UInt8)) = true
         ·rw [if_pos c70] at H
          have c70b0 : (a0_1.toList == ([] : List UInt8)) = true := c70
          (try (have c70b3 : a0_1.toList.isEmpty = true := by simpa using c70b0))
          (try (have c70b1 : decide (a0_1.toList = ([] : List UInt8)) = true := by simpa using c70))
          (try (have c70b2 : (a0_1.toList == ([] : List UInt8)) = true := by simpa using c70))
          (try (have c70b3 : a0_1.toList.isEmpty = true := by simpa using c70))
          clear c70
          by_cases c71 : (a0_2.toList == ([] : List UInt8)) = true
          ·rw [if_pos c71] at H
           have c71b0 : (a0_2.toList == ([] : List UInt8)) = true := c71
           (try (have c71b3 : a0_2.toList.isEmpty = true := by simpa using c71b0))
           (try (have c71b1 : decide (a0_2.toList = ([] : List UInt8)) = true := by simpa using c71))
           (try (have c71b2 : (a0_2.toList == ([] : List UInt8)) = true := by simpa using c71))
           (try (have c71b3 : a0_2.toList.isEmpty = true := by simpa using c71))
           clear c71
           by_cases c72 : (a0_3 == 0) = true
           ·rw [if_pos c72] at H
            have c72b0 : (a0_3 == 0) = true := c72
            (try (have c72b1 : decide (a0_3 = 0) = true := by simpa using c72))
            (try (have c72b2 : (a0_3 == 0) = true := by simpa using c72))
            clear c72
            replace H := Option.bind_eq_some_iff.mp H
            obtain ⟨t242, A730, H⟩ := H
            replace H : (some t242) = some r := H
            have A73 := Aside0.mk A730
            clear A730
            obtain rfl := Option.some.inj H
            have hcz74_0 : wc.cell? ⟨gb232, 0, none⟩ = some (.int .i64 a0_0) := (blk_cell BK232.out 0).trans rfl
            have hcz74_1 : wc.cell? ⟨gb232, 1, none⟩ = some (.string a0_1) := (blk_cell BK232.out 1).trans rfl
            have hcz74_2 : wc.cell? ⟨gb232, 2, none⟩ = some (.string a0_2) := (blk_cell BK232.out 2).trans rfl
            have hcz74_3 : wc.cell? ⟨gb232, 3, none⟩ = some (.int .i64 a0_3) := (blk_cell BK232.out 3).trans rfl
            have hcz74_4 : wc.cell? ⟨gb232, 4, none⟩ = some (.int .i64 a0_4) := (blk_cell BK232.out 4).trans rfl
            have hcz74_5 : wc.cell? ⟨gb232, 5, none⟩ = some (.int .i64 a0_5) := (blk_cell BK232.out 5).trans rfl
            have hcz74_6 : wc.cell? ⟨gb232, 6, none⟩ = some (.slice A0_6 l0_6.length c0_6) := (blk_cell BK232.out 6).trans rfl
            have hcz74_7 : wc.cell? ⟨gb232, 7, none⟩ = some (.int .i64 a0_7) := (blk_cell BK232.out 7).trans rfl
            have hfz74_0 := blk_frozen BK232.out 0
            have hfz74_1 := blk_frozen BK232.out 1
            have hfz74_2 := blk_frozen BK232.out 2
            have hfz74_3 := blk_frozen BK232.out 3
            have hfz74_4 := blk_frozen BK232.out 4
            have hfz74_5 := blk_frozen BK232.out 5
            have hfz74_6 := blk_frozen BK232.out 6
            have hfz74_7 := blk_frozen BK232.out 7
            go_wp2_with (first | (go_at_call 22; (with_reducible refine (KK.calls a0_0 a0_1 a0_2 a0_3 a0_4 a0_5 _ _ l0_6 a0_7 (⟨#[101, 98]⟩ : ByteArray) t242 _ ?side1 ?side2 ?side3 A73.out).mono ?_); (case side1 => repeat (first | exact (Kd.C_below HR0_6.out HB.out) | (with_reducible refine Kd.C_alloc ?_ _) | (with_reducible refine Kd.C_drewN ?_ _) | (with_reducible refine Kd.C_drew ?_))); (case side2 => exact HC0_6.out); (case side3 => exact Sh.below HSH.out (by repeat (first | (with_reducible first | exact HB.out | apply below_alloc | apply pw_below_drewN | apply below_drew1 | refine below_set ?_ GE232.out) | exact HB.out))); rintro e w75 ⟨rfl, hb⟩; have n0_ := Aside0.mk (blk_below (g := gb232) (o := .cells #[.int .i64 a0_0, .string a0_1, .string a0_2, .int .i64 a0_3, .int .i64 a0_4, .int .i64 a0_5, .slice A0_6 l0_6.length c0_6, .int .i64 a0_7] 37 (0, 0)) (by (with_reducible repeat (first | refine blk_drewN ?_ _ | refine blk_drew ?_ | refine blk_alloc ?_ _)); exact BK232.out) hb); have n1_ := Aside0.mk (below_step (by repeat (first | (with_reducible first | exact HB.out | apply below_alloc | apply pw_below_drewN | apply below_drew1 | refine below_set ?_ GE232.out) | exact HB.out)) hb); clear BK232; clear HB; have BK232 := n0_; have HB := n1_; clear n0_ n1_; (try clear hb); (try clear hb2); (try clear hk); (try clear hi)))
            go_ret
            exact ⟨by first | rfl | (simp [errW_none, errW_some] <;> rfl) | (simp [*, errW_none, errW_some] <;> rfl), by repeat (first | (with_reducible first | exact HB.out | apply below_alloc | apply pw_below_drewN | apply below_drew1 | refine below_set ?_ GE232.out) | exact HB.out)⟩
           ·rw [if_neg c72] at H
            have c72b0 : (a0_3 == 0) = false := by simpa using c72
            (try (have c72b1 : decide (a0_3 = 0) = false := by simpa using c72))
            (try (have c72b2 : (a0_3 == 0) = false := by simpa using c72))
            (try (have c72b3 : ¬ (a0_3 = 0) := by simpa using c72))
            clear c72
            obtain rfl := Option.some.inj H
            go_wp2
            go_ret
            exact ⟨by first | rfl | (simp [errW_none, errW_some] <;> rfl) | (simp [*, errW_none, errW_some] <;> rfl), by repeat (first | (with_reducible first | exact HB.out | apply below_alloc | apply pw_below_drewN | apply below_drew1 | refine below_set ?_ GE232.out) | exact HB.out)⟩
          ·rw [if_neg c71] at H
           have c71b0 : (a0_2.toList == ([] : List UInt8)) = false := by simpa using c71
           (try (have c71b3 : a0_2.toList.isEmpty = false := by simpa using c71b0))
           (try (have c71b1 : decide (a0_2.toList = ([] : List UInt8)) = false := by simpa using c71))
           (try (have c71b2 : (a0_2.toList == ([] : List UInt8)) = false := by simpa using c71))
           (try (have c71b3 : a0_2.toList.isEmpty = false := by simpa using c71))
           (try (have c71b3 : ¬ (a0_2.toList = ([] : List UInt8)) := by simpa using c71))
           clear c71
           obtain rfl := Option.some.inj H
           go_wp2
           go_ret
           exact ⟨by first | rfl | (simp [errW_none, errW_some] <;> rfl) | (simp [*, errW_none, errW_some] <;> rfl), by repeat (first | (with_reducible first | exact HB.out | apply below_alloc | apply pw_below_drewN | apply below_drew1 | refine below_set ?_ GE232.out) | exact HB.out)⟩
         ·rw [if_neg c70] at H
          have c70b0 : (a0_1.toList == ([] : List UInt8)) = false := by simpa using c70
          (try (have c70b3 : a0_1.toList.isEmpty = false := by simpa using c70b0))
          (try (have c70b1 : decide (a0_1.toList = ([] : List UInt8)) = false := by simpa using c70))
          (try (have c70b2 : (a0_1.toList == ([] : List UInt8)) = false := by simpa using c70))
          (try (have c70b3 : a0_1.toList.isEmpty = false := by simpa using c70))
          (try (have c70b3 : ¬ (a0_1.toList = ([] : List UInt8)) := by simpa using c70))
          clear c70
          obtain rfl := Option.some.inj H
          go_wp2
          go_ret
          exact ⟨by first | rfl | (simp [errW_none, errW_some] <;> rfl) | (simp [*, errW_none, errW_some] <;> rfl), by repeat (first | (with_reducible first | exact HB.out | apply below_alloc | apply pw_below_drewN | apply below_drew1 | refine below_set ?_ GE232.out) | exact HB.out)⟩
        ·rw [if_neg c69] at H
         have c69b0 : (a0_0 == 26) = false := beq_eq_false_iff_ne.mpr c69
         have c69b1 : (a0_0 != 26) = true := bne_iff_ne.mpr c69
         by_cases c76 : a0_0 = 27
         ·rw [if_pos c76] at H
          have c76b0 : (a0_0 == 27) = true := beq_iff_eq.mpr c76
          have c76b1 : (a0_0 != 27) = false := bne_eq_false_iff_eq.mpr c76
          clear c76
          by_cases c77 : (l0_6.length : Int) > 40
          ·rw [if_pos c77] at H
           have c77b0 : decide (40 < (l0_6.length : Int)) = true := decide_eq_true c77
           have c77b1 : decide (40 < l0_6.length) = true := decide_eq_true (by omega)
           clear c77
           obtain rfl := Option.some.inj H
           have hcz78_0 : wc.cell? ⟨gb232, 0, none⟩ = some (.int .i64 a0_0) := (blk_cell BK232.out 0).trans rfl
           have hcz78_1 : wc.cell? ⟨gb232, 1, none⟩ = some (.string a0_1) := (blk_cell BK232.out 1).trans rfl
           have hcz78_2 : wc.cell? ⟨gb232, 2, none⟩ = some (.string a0_2) := (blk_cell BK232.out 2).trans rfl
           have hcz78_3 : wc.cell? ⟨gb232, 3, none⟩ = some (.int .i64 a0_3) := (blk_cell BK232.out 3).trans rfl
           have hcz78_4 : wc.cell? ⟨gb232, 4, none⟩ = some (.int .i64 a0_4) := (blk_cell BK232.out 4).trans rfl
           have hcz78_5 : wc.cell? ⟨gb232, 5, none⟩ = some (.int .i64 a0_5) := (blk_cell BK232.out 5).trans rfl
           have hcz78_6 : wc.cell? ⟨gb232, 6, none⟩ = some (.slice A0_6 l0_6.length c0_6) := (blk_cell BK232.out 6).trans rfl
           have hcz78_7 : wc.cell? ⟨gb232, 7, none⟩ = some (.int .i64 a0_7) := (blk_cell BK232.out 7).trans rfl
           have hfz78_0 := blk_frozen BK232.out 0
           have hfz78_1 := blk_frozen BK232.out 1
           have hfz78_2 := blk_frozen BK232.out 2
           have hfz78_3 := blk_frozen BK232.out 3
           have hfz78_4 := blk_frozen BK232.out 4
           have hfz78_5 := blk_frozen BK232.out 5
           have hfz78_6 := blk_frozen BK232.out 6
           have hfz78_7 := blk_frozen BK232.out 7
           go_wp2
           go_ret
           exact ⟨by first | rfl | (simp [errW_none, errW_some] <;> rfl) | (simp [*, errW_none, errW_some] <;> rfl), by repeat (first | (with_reducible first | exact HB.out | apply below_alloc | apply pw_below_drewN | apply below_drew1 | refine below_set ?_ GE232.out) | exact HB.out)⟩
          ·rw [if_neg c77] at H
           have c77b0 : decide (40 < (l0_6.length : Int)) = false := decide_eq_false c77
           have c77b1 : decide (40 < l0_6.length) = false := decide_eq_false (by omega)
           clear c77
           replace H := Option.bind_eq_some_iff.mp H
           obtain ⟨t243, A790, H⟩ := H
           replace H : (if (a0_1.toList == ([] : List UInt8)) = true then (if (a0_2.toList == ([] : List UInt8)) = true then (if (a0_3 == 0) = true then ((KK.f a0_0 a0_1 a0_2 a0_3 a0_4 a0_5 l0_6 a0_7 t243).bind fun t244 => (some t244)) else (some false)) else (some false)) else (some false)) = some r := H
           have A79 := Aside0.mk A790
           clear A790
           by_cases c80 : (a0_1.toList == ([] : List UInt8)) = true
           ·rw [if_pos c80] at H
            have c80b0 : (a0_1.toList == ([] : List UInt8)) = true := c80
            (try (have c80b3 : a0_1.toList.isEmpty = true := by simpa using c80b0))
            (try (have c80b1 : decide (a0_1.toList = ([] : List UInt8)) = true := by simpa using c80))
            (try (have c80b2 : (a0_1.toList == ([] : List UInt8)) = true := by simpa using c80))
            (try (have c80b3 : a0_1.toList.isEmpty = true := by simpa using c80))
            clear c80
            by_cases c81 : (a0_2.toList == ([] : List UInt8)) = true
            ·rw [if_pos c81] at H
             have c81b0 : (a0_2.toList == ([] : List UInt8)) = true := c81
             (try (have c81b3 : a0_2.toList.isEmpty = true := by simpa using c81b0))
             (try (have c81b1 : decide (a0_2.toList = ([] : List UInt8)) = true := by simpa using c81))
             (try (have c81b2 : (a0_2.toList == ([] : List UInt8)) = true := by simpa using c81))
             (try (have c81b3 : a0_2.toList.isEmpty = true := by simpa using c81))
             clear c81
             by_cases c82 : (a0_3 == 0) = true
             ·rw [if_pos c82] at H
              have c82b0 : (a0_3 == 0) = true := c82
              (try (have c82b1 : decide (a0_3 = 0) = true := by simpa using c82))
              (try (have c82b2 : (a0_3 == 0) = true := by simpa using c82))
              clear c82
              replace H := Option.bind_eq_some_iff.mp H
              obtain ⟨t244, A830, H⟩ := H
              replace H : (some t244) = some r := H
              have A83 := Aside0.mk A830
              clear A830
              obtain rfl := Option.some.inj H
              have hcz84_0 : wc.cell? ⟨gb232, 0, none⟩ = some (.int .i64 a0_0) := (blk_cell BK232.out 0).trans rfl
              have hcz84_1 : wc.cell? ⟨gb232, 1, none⟩ = some (.string a0_1) := (blk_cell BK232.out 1).trans rfl
              have hcz84_2 : wc.cell? ⟨gb232, 2, none⟩ = some (.string a0_2) := (blk_cell BK232.out 2).trans rfl
              have hcz84_3 : wc.cell? ⟨gb232, 3, none⟩ = some (.int .i64 a0_3) := (blk_cell BK232.out 3).trans rfl
              have hcz84_4 : wc.cell? ⟨gb232, 4, none⟩ = some (.int .i64 a0_4) := (blk_cell BK232.out 4).trans rfl
              have hcz84_5 : wc.cell? ⟨gb232, 5, none⟩ = some (.int .i64 a0_5) := (blk_cell BK232.out 5).trans rfl
              have hcz84_6 : wc.cell? ⟨gb232, 6, none⟩ = some (.slice A0_6 l0_6.length c0_6) := (blk_cell BK232.out 6).trans rfl
              have hcz84_7 : wc.cell? ⟨gb232, 7, none⟩ = some (.int .i64 a0_7) := (blk_cell BK232.out 7).trans rfl
              have hfz84_0 := blk_frozen BK232.out 0
              have hfz84_1 := blk_frozen BK232.out 1
              have hfz84_2 := blk_frozen BK232.out 2
              have hfz84_3 := blk_frozen BK232.out 3
              have hfz84_4 := blk_frozen BK232.out 4
              have hfz84_5 := blk_frozen BK232.out 5
              have hfz84_6 := blk_frozen BK232.out 6
              have hfz84_7 := blk_frozen BK232.out 7
              go_wp2_with (first | ((with_reducible refine gate_callee (f := 21) rfl ?_); refine goesL_ (some 60) rfl rfl Tryd.func21 (by kernel_rfl) rfl #[.string (⟨#[115]⟩ : ByteArray), .int .i64 (l0_6.length : Int)] rfl (by (try simp only [List.map_toArray, List.map_cons, List.map_nil]); first | done | rfl | (simp only [List.length_drop, List.length_take]; rfl)) ?_; (with_reducible refine (strings_Repeat.calls (⟨#[115]⟩ : ByteArray) (l0_6.length : Int) t243 _ A79.out).mono ?_); rintro e w85 ⟨rfl, hb⟩; refine ⟨_, rfl, ?_⟩; have n0_ := Aside0.mk (blk_below (g := gb232) (o := .cells #[.int .i64 a0_0, .string a0_1, .string a0_2, .int .i64 a0_3, .int .i64 a0_4, .int .i64 a0_5, .slice A0_6 l0_6.length c0_6, .int .i64 a0_7] 37 (0, 0)) (by (with_reducible repeat (first | refine blk_drewN ?_ _ | refine blk_drew ?_ | refine blk_alloc ?_ _)); exact BK232.out) hb); have n1_ := Aside0.mk (below_step (by repeat (first | (with_reducible first | exact HB.out | apply below_alloc | apply pw_below_drewN | apply below_drew1 | refine below_set ?_ GE232.out) | exact HB.out)) hb); clear BK232; clear HB; have BK232 := n0_; have HB := n1_; clear n0_ n1_; (try clear hb); (try clear hb2); (try clear hk); (try clear hi); have hcz86_0 : w85.cell? ⟨gb232, 0, none⟩ = some (.int .i64 a0_0) := (blk_cell BK232.out 0).trans rfl; have hcz86_1 : w85.cell? ⟨gb232, 1, none⟩ = some (.string a0_1) := (blk_cell BK232.out 1).trans rfl; have hcz86_2 : w85.cell? ⟨gb232, 2, none⟩ = some (.string a0_2) := (blk_cell BK232.out 2).trans rfl; have hcz86_3 : w85.cell? ⟨gb232, 3, none⟩ = some (.int .i64 a0_3) := (blk_cell BK232.out 3).trans rfl; have hcz86_4 : w85.cell? ⟨gb232, 4, none⟩ = some (.int .i64 a0_4) := (blk_cell BK232.out 4).trans rfl; have hcz86_5 : w85.cell? ⟨gb232, 5, none⟩ = some (.int .i64 a0_5) := (blk_cell BK232.out 5).trans rfl; have hcz86_6 : w85.cell? ⟨gb232, 6, none⟩ = some (.slice A0_6 l0_6.length c0_6) := (blk_cell BK232.out 6).trans rfl; have hcz86_7 : w85.cell? ⟨gb232, 7, none⟩ = some (.int .i64 a0_7) := (blk_cell BK232.out 7).trans rfl; have hfz86_0 := blk_frozen BK232.out 0; have hfz86_1 := blk_frozen BK232.out 1; have hfz86_2 := blk_frozen BK232.out 2; have hfz86_3 := blk_frozen BK232.out 3; have hfz86_4 := blk_frozen BK232.out 4; have hfz86_5 := blk_frozen BK232.out 5; have hfz86_6 := blk_frozen BK232.out 6; have hfz86_7 := blk_frozen BK232.out 7) | (go_at_call 22; (with_reducible refine (KK.calls a0_0 a0_1 a0_2 a0_3 a0_4 a0_5 _ _ l0_6 a0_7 t243 t244 _ ?side1 ?side2 ?side3 A83.out).mono ?_); (case side1 => repeat (first | exact (Kd.C_below HR0_6.out HB.out) | (with_reducible refine Kd.C_alloc ?_ _) | (with_reducible refine Kd.C_drewN ?_ _) | (with_reducible refine Kd.C_drew ?_))); (case side2 => exact HC0_6.out); (case side3 => exact Sh.below HSH.out (by repeat (first | (with_reducible first | exact HB.out | apply below_alloc | apply pw_below_drewN | apply below_drew1 | refine below_set ?_ GE232.out) | exact HB.out))); rintro e w87 ⟨rfl, hb⟩; have n0_ := Aside0.mk (blk_below (g := gb232) (o := .cells #[.int .i64 a0_0, .string a0_1, .string a0_2, .int .i64 a0_3, .int .i64 a0_4, .int .i64 a0_5, .slice A0_6 l0_6.length c0_6, .int .i64 a0_7] 37 (0, 0)) (by (with_reducible repeat (first | refine blk_drewN ?_ _ | refine blk_drew ?_ | refine blk_alloc ?_ _)); exact BK232.out) hb); have n1_ := Aside0.mk (below_step (by repeat (first | (with_reducible first | exact HB.out | apply below_alloc | apply pw_below_drewN | apply below_drew1 | refine below_set ?_ GE232.out) | exact HB.out)) hb); clear BK232; clear HB; have BK232 := n0_; have HB := n1_; clear n0_ n1_; (try clear hb); (try clear hb2); (try clear hk); (try clear hi)))
              go_ret
              exact ⟨by first | rfl | (simp [errW_none, errW_some] <;> rfl) | (simp [*, errW_none, errW_some] <;> rfl), by repeat (first | (with_reducible first | exact HB.out | apply below_alloc | apply pw_below_drewN | apply below_drew1 | refine below_set ?_ GE232.out) | exact HB.out)⟩
             ·rw [if_neg c82] at H
              have c82b0 : (a0_3 == 0) = false := by simpa using c82
              (try (have c82b1 : decide (a0_3 = 0) = false := by simpa using c82))
              (try (have c82b2 : (a0_3 == 0) = false := by simpa using c82))
              (try (have c82b3 : ¬ (a0_3 = 0) := by simpa using c82))
              clear c82
              obtain rfl := Option.some.inj H
              have hcz88_0 : wc.cell? ⟨gb232, 0, none⟩ = some (.int .i64 a0_0) := (blk_cell BK232.out 0).trans rfl
              have hcz88_1 : wc.cell? ⟨gb232, 1, none⟩ = some (.string a0_1) := (blk_cell BK232.out 1).trans rfl
              have hcz88_2 : wc.cell? ⟨gb232, 2, none⟩ = some (.string a0_2) := (blk_cell BK232.out 2).trans rfl
              have hcz88_3 : wc.cell? ⟨gb232, 3, none⟩ = some (.int .i64 a0_3) := (blk_cell BK232.out 3).trans rfl
              have hcz88_4 : wc.cell? ⟨gb232, 4, none⟩ = some (.int .i64 a0_4) := (blk_cell BK232.out 4).trans rfl
              have hcz88_5 : wc.cell? ⟨gb232, 5, none⟩ = some (.int .i64 a0_5) := (blk_cell BK232.out 5).trans rfl
              have hcz88_6 : wc.cell? ⟨gb232, 6, none⟩ = some (.slice A0_6 l0_6.length c0_6) := (blk_cell BK232.out 6).trans rfl
              have hcz88_7 : wc.cell? ⟨gb232, 7, none⟩ = some (.int .i64 a0_7) := (blk_cell BK232.out 7).trans rfl
              have hfz88_0 := blk_frozen BK232.out 0
              have hfz88_1 := blk_frozen BK232.out 1
              have hfz88_2 := blk_frozen BK232.out 2
              have hfz88_3 := blk_frozen BK232.out 3
              have hfz88_4 := blk_frozen BK232.out 4
              have hfz88_5 := blk_frozen BK232.out 5
              have hfz88_6 := blk_frozen BK232.out 6
              have hfz88_7 := blk_frozen BK232.out 7
              go_wp2_with (first | ((with_reducible refine gate_callee (f := 21) rfl ?_); refine goesL_ (some 60) rfl rfl Tryd.func21 (by kernel_rfl) rfl #[.string (⟨#[115]⟩ : ByteArray), .int .i64 (l0_6.length : Int)] rfl (by (try simp only [List.map_toArray, List.map_cons, List.map_nil]); first | done | rfl | (simp only [List.length_drop, List.length_take]; rfl)) ?_; (with_reducible refine (strings_Repeat.calls (⟨#[115]⟩ : ByteArray) (l0_6.length : Int) t243 _ A79.out).mono ?_); rintro e w89 ⟨rfl, hb⟩; refine ⟨_, rfl, ?_⟩; have n0_ := Aside0.mk (blk_below (g := gb232) (o := .cells #[.int .i64 a0_0, .string a0_1, .string a0_2, .int .i64 a0_3, .int .i64 a0_4, .int .i64 a0_5, .slice A0_6 l0_6.length c0_6, .int .i64 a0_7] 37 (0, 0)) (by (with_reducible repeat (first | refine blk_drewN ?_ _ | refine blk_drew ?_ | refine blk_alloc ?_ _)); exact BK232.out) hb); have n1_ := Aside0.mk (below_step (by repeat (first | (with_reducible first | exact HB.out | apply below_alloc | apply pw_below_drewN | apply below_drew1 | refine below_set ?_ GE232.out) | exact HB.out)) hb); clear BK232; clear HB; have BK232 := n0_; have HB := n1_; clear n0_ n1_; (try clear hb); (try clear hb2); (try clear hk); (try clear hi)))
              go_ret
              exact ⟨by first | rfl | (simp [errW_none, errW_some] <;> rfl) | (simp [*, errW_none, errW_some] <;> rfl), by repeat (first | (with_reducible first | exact HB.out | apply below_alloc | apply pw_below_drewN | apply below_drew1 | refine below_set ?_ GE232.out) | exact HB.out)⟩
            ·rw [if_neg c81] at H
             have c81b0 : (a0_2.toList == ([] : List UInt8)) = false := by simpa using c81
             (try (have c81b3 : a0_2.toList.isEmpty = false := by simpa using c81b0))
             (try (have c81b1 : decide (a0_2.toList = ([] : List UInt8)) = false := by simpa using c81))
             (try (have c81b2 : (a0_2.toList == ([] : List UInt8)) = false := by simpa using c81))
             (try (have c81b3 : a0_2.toList.isEmpty = false := by simpa using c81))
             (try (have c81b3 : ¬ (a0_2.toList = ([] : List UInt8)) := by simpa using c81))
             clear c81
             obtain rfl := Option.some.inj H
             have hcz90_0 : wc.cell? ⟨gb232, 0, none⟩ = some (.int .i64 a0_0) := (blk_cell BK232.out 0).trans rfl
             have hcz90_1 : wc.cell? ⟨gb232, 1, none⟩ = some (.string a0_1) := (blk_cell BK232.out 1).trans rfl
             have hcz90_2 : wc.cell? ⟨gb232, 2, none⟩ = some (.string a0_2) := (blk_cell BK232.out 2).trans rfl
             have hcz90_3 : wc.cell? ⟨gb232, 3, none⟩ = some (.int .i64 a0_3) := (blk_cell BK232.out 3).trans rfl
             have hcz90_4 : wc.cell? ⟨gb232, 4, none⟩ = some (.int .i64 a0_4) := (blk_cell BK232.out 4).trans rfl
             have hcz90_5 : wc.cell? ⟨gb232, 5, none⟩ = some (.int .i64 a0_5) := (blk_cell BK232.out 5).trans rfl
             have hcz90_6 : wc.cell? ⟨gb232, 6, none⟩ = some (.slice A0_6 l0_6.length c0_6) := (blk_cell BK232.out 6).trans rfl
             have hcz90_7 : wc.cell? ⟨gb232, 7, none⟩ = some (.int .i64 a0_7) := (blk_cell BK232.out 7).trans rfl
             have hfz90_0 := blk_frozen BK232.out 0
             have hfz90_1 := blk_frozen BK232.out 1
             have hfz90_2 := blk_frozen BK232.out 2
             have hfz90_3 := blk_frozen BK232.out 3
             have hfz90_4 := blk_frozen BK232.out 4
             have hfz90_5 := blk_frozen BK232.out 5
             have hfz90_6 := blk_frozen BK232.out 6
             have hfz90_7 := blk_frozen BK232.out 7
             go_wp2_with (first | ((with_reducible refine gate_callee (f := 21) rfl ?_); refine goesL_ (some 60) rfl rfl Tryd.func21 (by kernel_rfl) rfl #[.string (⟨#[115]⟩ : ByteArray), .int .i64 (l0_6.length : Int)] rfl (by (try simp only [List.map_toArray, List.map_cons, List.map_nil]); first | done | rfl | (simp only [List.length_drop, List.length_take]; rfl)) ?_; (with_reducible refine (strings_Repeat.calls (⟨#[115]⟩ : ByteArray) (l0_6.length : Int) t243 _ A79.out).mono ?_); rintro e w91 ⟨rfl, hb⟩; refine ⟨_, rfl, ?_⟩; have n0_ := Aside0.mk (blk_below (g := gb232) (o := .cells #[.int .i64 a0_0, .string a0_1, .string a0_2, .int .i64 a0_3, .int .i64 a0_4, .int .i64 a0_5, .slice A0_6 l0_6.length c0_6, .int .i64 a0_7] 37 (0, 0)) (by (with_reducible repeat (first | refine blk_drewN ?_ _ | refine blk_drew ?_ | refine blk_alloc ?_ _)); exact BK232.out) hb); have n1_ := Aside0.mk (below_step (by repeat (first | (with_reducible first | exact HB.out | apply below_alloc | apply pw_below_drewN | apply below_drew1 | refine below_set ?_ GE232.out) | exact HB.out)) hb); clear BK232; clear HB; have BK232 := n0_; have HB := n1_; clear n0_ n1_; (try clear hb); (try clear hb2); (try clear hk); (try clear hi)))
             go_ret
             exact ⟨by first | rfl | (simp [errW_none, errW_some] <;> rfl) | (simp [*, errW_none, errW_some] <;> rfl), by repeat (first | (with_reducible first | exact HB.out | apply below_alloc | apply pw_below_drewN | apply below_drew1 | refine below_set ?_ GE232.out) | exact HB.out)⟩
           ·rw [if_neg c80] at H
            have c80b0 : (a0_1.toList == ([] : List UInt8)) = false := by simpa using c80
            (try (have c80b3 : a0_1.toList.isEmpty = false := by simpa using c80b0))
            (try (have c80b1 : decide (a0_1.toList = ([] : List UInt8)) = false := by simpa using c80))
            (try (have c80b2 : (a0_1.toList == ([] : List UInt8)) = false := by simpa using c80))
            (try (have c80b3 : a0_1.toList.isEmpty = false := by simpa using c80))
            (try (have c80b3 : ¬ (a0_1.toList = ([] : List UInt8)) := by simpa using c80))
            clear c80
            obtain rfl := Option.some.inj H
            have hcz92_0 : wc.cell? ⟨gb232, 0, none⟩ = some (.int .i64 a0_0) := (blk_cell BK232.out 0).trans rfl
            have hcz92_1 : wc.cell? ⟨gb232, 1, none⟩ = some (.string a0_1) := (blk_cell BK232.out 1).trans rfl
            have hcz92_2 : wc.cell? ⟨gb232, 2, none⟩ = some (.string a0_2) := (blk_cell BK232.out 2).trans rfl
            have hcz92_3 : wc.cell? ⟨gb232, 3, none⟩ = some (.int .i64 a0_3) := (blk_cell BK232.out 3).trans rfl
            have hcz92_4 : wc.cell? ⟨gb232, 4, none⟩ = some (.int .i64 a0_4) := (blk_cell BK232.out 4).trans rfl
            have hcz92_5 : wc.cell? ⟨gb232, 5, none⟩ = some (.int .i64 a0_5) := (blk_cell BK232.out 5).trans rfl
            have hcz92_6 : wc.cell? ⟨gb232, 6, none⟩ = some (.slice A0_6 l0_6.length c0_6) := (blk_cell BK232.out 6).trans rfl
            have hcz92_7 : wc.cell? ⟨gb232, 7, none⟩ = some (.int .i64 a0_7) := (blk_cell BK232.out 7).trans rfl
            have hfz92_0 := blk_frozen BK232.out 0
            have hfz92_1 := blk_frozen BK232.out 1
            have hfz92_2 := blk_frozen BK232.out 2
            have hfz92_3 := blk_frozen BK232.out 3
            have hfz92_4 := blk_frozen BK232.out 4
            have hfz92_5 := blk_frozen BK232.out 5
            have hfz92_6 := blk_frozen BK232.out 6
            have hfz92_7 := blk_frozen BK232.out 7
            go_wp2_with (first | ((with_reducible refine gate_callee (f := 21) rfl ?_); refine goesL_ (some 60) rfl rfl Tryd.func21 (by kernel_rfl) rfl #[.string (⟨#[115]⟩ : ByteArray), .int .i64 (l0_6.length : Int)] rfl (by (try simp only [List.map_toArray, List.map_cons, List.map_nil]); first | done | rfl | (simp only [List.length_drop, List.length_take]; rfl)) ?_; (with_reducible refine (strings_Repeat.calls (⟨#[115]⟩ : ByteArray) (l0_6.length : Int) t243 _ A79.out).mono ?_); rintro e w93 ⟨rfl, hb⟩; refine ⟨_, rfl, ?_⟩; have n0_ := Aside0.mk (blk_below (g := gb232) (o := .cells #[.int .i64 a0_0, .string a0_1, .string a0_2, .int .i64 a0_3, .int .i64 a0_4, .int .i64 a0_5, .slice A0_6 l0_6.length c0_6, .int .i64 a0_7] 37 (0, 0)) (by (with_reducible repeat (first | refine blk_drewN ?_ _ | refine blk_drew ?_ | refine blk_alloc ?_ _)); exact BK232.out) hb); have n1_ := Aside0.mk (below_step (by repeat (first | (with_reducible first | exact HB.out | apply below_alloc | apply pw_below_drewN | apply below_drew1 | refine below_set ?_ GE232.out) | exact HB.out)) hb); clear BK232; clear HB; have BK232 := n0_; have HB := n1_; clear n0_ n1_; (try clear hb); (try clear hb2); (try clear hk); (try clear hi)))
            go_ret
            exact ⟨by first | rfl | (simp [errW_none, errW_some] <;> rfl) | (simp [*, errW_none, errW_some] <;> rfl), by repeat (first | (with_reducible first | exact HB.out | apply below_alloc | apply pw_below_drewN | apply below_drew1 | refine below_set ?_ GE232.out) | exact HB.out)⟩
         ·rw [if_neg c76] at H
          have c76b0 : (a0_0 == 27) = false := beq_eq_false_iff_ne.mpr c76
          have c76b1 : (a0_0 != 27) = true := bne_iff_ne.mpr c76
          obtain rfl := Option.some.inj H
          go_wp2
          go_ret
          exact ⟨by first | rfl | (simp [errW_none, errW_some] <;> rfl) | (simp [*, errW_none, errW_some] <;> rfl), by repeat (first | (with_reducible first | exact HB.out | apply below_alloc | apply pw_below_drewN | apply below_drew1 | refine below_set ?_ GE232.out) | exact HB.out)⟩

end Go.Proofs.YtodokfmmnihecaaDoor.PFnExactNodesRight
