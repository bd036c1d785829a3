-- laid by seedprint.py, a program of this session, over contracts that it gives by hand; Lean checks it
-- dented
import Derived.Test.YtopeaemfnlcecaaDoorQMin
import Derived.Test.YtopeaemfnlcecaaDoorQAut
import Derived.Test.YtopeaemfnlcecaaDoorQBlk
import Derived.Test.YtopeaemfnlcecaaDoorPFnExactLegsBackx0
import Derived.Test.YtopeaemfnlcecaaDoorPFnExactLegsBackx2
namespace Go.Proofs.YtopeaemfnlcecaaDoor.PFnExactLegsBack
open Go.RowKit Go.Proofs.YtopeaemfnlcecaaDoorW.PrintWords Go.Proofs.YtopeaemfnlcecaaDoorW.PrintLast Go.Proofs.YtopeaemfnlcecaaDoorW.PrintMore
attribute [local go_sem] max2_int min2_int max_two min_two max_three min_three max_four min_four   -- for this text's walks alone
set_option maxHeartbeats 8000000
set_option maxRecDepth 100000
set_option linter.unusedVariables false
set_option linter.unusedSimpArgs false

/-! ### impl_LegsRight: function 14 -/
def impl_LegsRight.leg (x : S38) : Option Bool := impl_LegsRight_1.f x.f0.f0 x.f0.f1 x.f1.f0 x.f1.f1 x.f2
/-- What it computes: none of the legs is found wrong. -/
def impl_LegsRight.f (l0 : List (S38)) : Option Bool := if (l0.length : Int) ≤ 20 then (if l0.all (fun x => (impl_LegsRight.leg x).isSome) = true then some (!(l0.any (fun x => (impl_LegsRight.leg x).getD false))) else none) else some false
def impl_LegsRight.enc (x : S38) : List Value := [.string x.f0.f0, .string x.f0.f1, .string x.f1.f0, .string x.f1.f1, .int .i64 x.f2]
set_option maxHeartbeats 1000000 in
theorem impl_LegsRight.empty6 (a : Option Addr) (c : Nat) (fv : Value) (w : World) :
  Calls Tryd.prog 28 #[.slice a 0 c, fv] w fun e w' => e = .returned (.int .i64 (-1)) ∧ w' = w := by
 go_enter Tryd.func28, Tryd.ntmps28
 go_wp2
 go_loopg [5, 8] 0 (fun _ _ s8 wr => s8 = .int .i64 0 ∧ wr = w)
 case atStart => exact ⟨rfl, rfl⟩
 case round =>
  obtain ⟨rfl, rfl⟩ := hrel
  go_wp2
  go_ret
  exact ⟨rfl, rfl⟩
theorem impl_LegsRight.empty8 (a : Option Addr) (c : Nat) (fv : Value) (w : World) :
  Calls Tryd.prog 21 #[.slice a 0 c, fv] w fun e w' => e = .returned (.bool false) ∧ w' = w := by
 go_enter Tryd.func21, Tryd.ntmps21
 go_wp2_with (go_at_call 28; refine (impl_LegsRight.empty6 a c fv _).mono ?_; rintro e w' ⟨rfl, rfl⟩)
 go_ret
 exact ⟨rfl, rfl⟩
theorem impl_LegsRight.any_attach (l : List (S38)) (P : S38 → Prop) (h : ∀ x ∈ l, P x) (q : S38 → Bool) : (l.attachWith P h).any (fun x => q x.1) = l.any q := by
 rw [Bool.eq_iff_iff, List.any_eq_true, List.any_eq_true]
 constructor
 ·rintro ⟨x, hx, hq⟩
  exact ⟨x.1, (List.mem_attachWith h x).1 hx, hq⟩
 rintro ⟨x, hx, hq⟩
 exact ⟨⟨x, h x hx⟩, (List.mem_attachWith h ⟨x, h x hx⟩).2 hx, hq⟩
theorem impl_LegsRight.contains (A0 : Option Addr) (c0 : Nat) (l0 : List (S38)) (w : World) (hr0 : Kd.C k38 w A0 l0.length l0) (hA : l0.all (fun x => (impl_LegsRight.leg x).isSome) = true) :
  Calls Tryd.prog 21 #[.slice A0 l0.length c0, .func (.func 22) #[] #[]] w fun e w' => e = .returned (.bool (l0.any (fun x => (impl_LegsRight.leg x).getD false))) ∧ Below w.heap.size w w' := by
 rcases Nat.eq_zero_or_pos l0.length with h0 | h0
 ·obtain rfl : l0 = [] := List.eq_nil_of_length_eq_zero h0
  exact (impl_LegsRight.empty8 A0 c0 _ w).mono fun e w' ⟨he, hw⟩ => ⟨he, hw ▸ Below.refl _ _⟩
 obtain ⟨ad, rfl, hx⟩ := hr0.2.2 h0
 have hat : ∀ (j : Nat) x, l0[j]? = some x → ∀ i v, (impl_LegsRight.enc x)[i]? = some v → w.cell? (ad.add (j * 5 + i)) = some v := by
  intro j x hj i v hv
  obtain ⟨c, hc, hk, hu⟩ := hx j x hj
  have hk' := k38_open hk
  exact hu i v (by rw [hk']; exact hv)
 obtain ⟨bk, o, s⟩ := ad
 have hz := hat 0 _ (List.getElem?_eq_getElem h0) 0 _ rfl
 have hs : s = none := by
  cases s with
  | none => rfl
  | some q =>
   exfalso
   simp only [Addr.add, if_true] at hz
   unfold World.cell? at hz
   cases hh : w.heap[bk]? with
   | none => simp [hh] at hz
   | some ob => cases ob <;> simp [hh] at hz
 subst hs
 have hadd : ∀ j, (⟨bk, o, none⟩ : Addr).add j = ⟨bk, o + j, none⟩ := fun j => by unfold Addr.add; split <;> simp_all
 have hall : ∀ x ∈ l0, (impl_LegsRight.leg x).isSome = true := List.all_eq_true.1 hA
 haveI : Inhabited {x : S38 // (impl_LegsRight.leg x).isSome = true} := ⟨⟨l0[0], hall _ (List.getElem_mem h0)⟩⟩
 have key := AnyQ.slices_ContainsFunc (α := {x : S38 // (impl_LegsRight.leg x).isSome = true}) Tryd.cf68 5 (fun w => by exact Tryd.isAgg38 w) (fun w => by exact Tryd.sizeOf38 w) (fun x => impl_LegsRight.enc x.1) (fun _ => rfl)
  (fun x => (impl_LegsRight.leg x.1).getD false) 22 #[] (fun args w => enters_of Tryd.func22 (by kernel_rfl) rfl args w) bk o l0.length c0 (l0.attachWith _ hall) w
  (fun W x hwW => by
   have hp : impl_LegsRight.leg x.1 = some ((impl_LegsRight.leg x.1).getD false) := by
    have := x.2
    cases q : impl_LegsRight.leg x.1 with
    | none => rw [q] at this; cases this
    | some b => rfl
   exact (impl_LegsRight_1.calls x.1.f0.f0 x.1.f0.f1 x.1.f1.f0 x.1.f1.f1 x.1.f2 _ W hp).mono fun e w' ⟨he, hb⟩ => ⟨he, hwW.trans (hb.mono (below_size hwW))⟩)
  (by rw [List.length_attachWith]; exact Nat.le_refl _) hr0.2.1 (World.block_lt_of_cell? w _ hz)
  (fun j hj i v hv => by
   have hj' : j < l0.length := by rw [List.length_attachWith] at hj; exact hj
   rw [getElem!_pos (l0.attachWith _ hall) j hj] at hv
   rw [List.getElem_attachWith] at hv
   have := hat j _ (List.getElem?_eq_getElem hj') i v hv
   rw [hadd, ← Nat.add_assoc] at this
   exact this)
 refine key.mono ?_
 rintro e w' ⟨rfl, hb⟩
 refine ⟨?_, hb⟩
 rw [List.take_of_length_le (by rw [List.length_attachWith]; exact Nat.le_refl _)]
 exact congrArg (fun b => Ending.returned (.bool b)) (impl_LegsRight.any_attach l0 _ hall (fun x => (impl_LegsRight.leg x).getD false))
theorem impl_LegsRight.calls (A0 : Option Addr) (c0 : Nat) (l0 : List (S38)) (r : Bool) (w : World) (hr0 : Kd.C k38 w A0 l0.length l0) (hc0 : l0.length ≤ c0) (h : impl_LegsRight.f l0 = some r) :
  Calls Tryd.prog 14 #[.slice A0 l0.length c0] w fun e w' => e = .returned (.bool r) ∧ Below w.heap.size w w' := by
 unfold impl_LegsRight.f at h
 by_cases hM : (l0.length : Int) ≤ 20
 ·rw [if_pos hM] at h
  by_cases hA : l0.all (fun x => (impl_LegsRight.leg x).isSome) = true
  ·rw [if_pos hA] at h
   obtain rfl := Option.some.inj h
   clear h
   have hcf := fun W (hb : Below w.heap.size w W) => impl_LegsRight.contains A0 c0 l0 W (Kd.C_below hr0 hb) hA
   have m0 : decide ((l0.length : Int) ≤ 20) = true := decide_eq_true hM
   generalize l0.any (fun x => (impl_LegsRight.leg x).getD false) = z at *
   clear hr0 hA hM
   go_enter Tryd.func14, Tryd.ntmps14
   go_wp2_with (first | (go_at_call 21; (with_reducible refine (hcf _ ?hs2).mono ?_); (case hs2 => (repeat (first | exact Below.refl _ _ | apply below_alloc | apply pw_below_drewN | apply below_drew))); rintro e w1 ⟨rfl, hb⟩; have HB := Aside0.mk hb; clear hb) | go_in)
   go_ret
   exact ⟨rfl, (show Below w.heap.size w _ by (repeat (first | exact Below.refl _ _ | apply below_alloc | apply pw_below_drewN | apply below_drew))).trans (HB.out.mono (below_size (by (repeat (first | exact Below.refl _ _ | apply below_alloc | apply pw_below_drewN | apply below_drew)))))⟩
  rw [if_neg hA] at h; cases h
 rw [if_neg hM] at h
 obtain rfl := Option.some.inj h
 have m0 : decide ((l0.length : Int) ≤ 20) = false := decide_eq_false hM
 clear h hr0
 go_enter Tryd.func14, Tryd.ntmps14
 go_wp2
 go_ret
 exact ⟨rfl, Below.refl _ _⟩

/-! ### impl_LegsBack: function 7 -/
section
open Go Go.Shelf
attribute [local go_sem] Oper.semAt_some
/-- A leg as it comes in a variable, and its cells. -/
def legV (x : S38) : Value := .agg #[.string x.f0.f0, .string x.f0.f1, .string x.f1.f0, .string x.f1.f1, .int .i64 x.f2]
def legC (x : S38) : List Value := [.string x.f0.f0, .string x.f0.f1, .string x.f1.f0, .string x.f1.f1, .int .i64 x.f2]
/-- The k-th that comes, from behind. -/
def backF (zs : List S38) (k : Nat) : Int × S38 := ((zs.length : Int) - 1 - (k : Int), rd_T38 zs ((zs.length : Int) - 1 - (k : Int)))
def uptoF (zs : List S38) (k : Nat) : List (Int × S38) := (List.range k).map (backF zs)
theorem uptoF_succ (zs : List S38) (k : Nat) : uptoF zs (k + 1) = uptoF zs k ++ [backF zs k] := by simp [uptoF, List.range_succ]
theorem uptoF_length (zs : List S38) (k : Nat) : (uptoF zs k).length = k := by simp [uptoF]
/-- What a round keeps: what lay below n₀, and the iterator's own box. -/
def KpB (n₀ Bs : Nat) (W W' : World) : Prop := Below n₀ W W' ∧ ∀ v, Boxed W Bs 24 v → Boxed W' Bs 24 v
set_option maxHeartbeats 4000000 in
theorem back1_in (F : Fence) (n : Nat) (h25 : F.fn 25) (hro : F.round = none) (hn : 1 ≤ n) (l Bs n₀ : Nat) (A : Option Addr) (cap : Nat) (zs : List S38) (hreach : zs.length ≤ 140737488351232) (J Jx : List (Int × S38) → World → Prop)
  (hY : ∀ pre x W, J pre W → pre.length < zs.length → YieldAt F (n - 1) Tryd.prog l #[.int .i64 x.1, legV x.2] W fun e W' =>
   (e = .returned (.bool true) ∧ J (pre ++ [x]) W' ∧ KpB n₀ Bs W W') ∨ (e = .returned (.bool false) ∧ Jx (pre ++ [x]) W'))
  (W : World) (hBs : Boxed W Bs 24 (.slice A zs.length cap)) (hc : ∀ W', Below n₀ W W' → Kd.C k38 W' A zs.length zs) (h0 : J [] W) :
  CallsIn F n Tryd.prog 25 #[.func (.yield l) #[] #[], .pointer (some ⟨Bs, 0, none⟩)] W fun e W' => (∃ v, e = .returned v) ∧
   ((∃ ys, ys = uptoF zs zs.length ∧ J ys W') ∨ (∃ pre, (∃ k, k ≤ zs.length ∧ pre = uptoF zs k) ∧ Jx pre W')) := by
 have hu36 := Tryd.underlying36
 have hu38 := Tryd.underlying38
 have hBc := hBs.cell
 refine callsIn_of_wp Tryd.func25 rfl h25 ?_ hro
 simp only [Tryd.ntmps25, List.size_toArray, List.length_cons, List.length_nil, Nat.reduceAdd, Nat.reduceSub, Array.replicate_succ, Array.replicate_zero, List.push_toArray, List.append_toArray, List.nil_append, List.cons_append]
 gi_wp2
 clear hBc
 gi_loopw [3] (fun i wr => ∃ k : Nat, k ≤ zs.length ∧ i = .int .i64 ((zs.length : Int) - 1 - k) ∧ J (uptoF zs k) wr ∧ Below n₀ W wr ∧ Boxed wr Bs 24 (.slice A zs.length cap))
  (fun i _ => (intOf i + 1).toNat)
 case atStart => exact ⟨0, Nat.zero_le _, by first | rfl | (simp; done) | (congr 1; unfold wrap64; omega), h0, Below.refl _ _, hBs⟩
 case round =>
  obtain ⟨k, hk, rfl, hJs, hnx, hbx⟩ := hrel
  have hbc := hbx.cell
  by_cases hlt : k < zs.length
  ·have p1 : 0 ≤ (zs.length : Int) - 1 - (k : Int) := by omega
   have q1 : (zs.length : Int) - 1 - (k : Int) < (zs.length : Int) := by omega
   obtain ⟨fn, tmps, assign, body, hy, hR⟩ := hY _ (backF zs k) wr hJs (by rw [uptoF_length]; exact hlt)
   obtain ⟨ad, rfl, hx0, hx1, hx2, hx3, hx4⟩ := at_T38 (hc wr hnx) ((zs.length : Int) - 1 - (k : Int)) p1 q1
   rw [show ((zs.length : Int) - 1 - (k : Int)).toNat = zs.length - 1 - k by omega] at hx0 hx1 hx2 hx3 hx4
   simp only [backF, legV] at hy
   have b1 : (0 ≤ (zs.length : Int) - 1 - (k : Int)) = True := eq_true p1
   have b2 : ((zs.length : Int) - 1 - (k : Int) < (zs.length : Int)) = True := eq_true q1
   have b3 : decide (0 ≤ (zs.length : Int) - 1 - (k : Int)) = true := decide_eq_true p1
   gi_wp2
   refine hR.mono ?_
   rintro e W3 (⟨rfl, hJ3, hk3⟩ | ⟨rfl, hJx3⟩)
   ·have hbx3 := hk3.2 _ hbx
    gi_wp2
    go_roundw
    case rel => exact ⟨k + 1, by omega, by first | rfl | (congr 1; unfold wrap64; omega) | (congr 1; omega), by rw [uptoF_succ]; exact hJ3, hnx.trans hk3.1, hbx3⟩
    case measure => first | (simp [intOf]; omega) | (simp [intOf, wrap64]; omega)
   gi_wp2
   refine bodyPost_ret (results_none rfl _ _ _) rfl ?_
   exact ⟨⟨_, rfl⟩, .inr ⟨_, ⟨k + 1, by omega, (uptoF_succ _ _).symm⟩, hJx3⟩⟩
  obtain rfl : k = zs.length := by omega
  have b3 : decide (0 ≤ (zs.length : Int) - 1 - (zs.length : Int)) = false := decide_eq_false (by omega)
  gi_wp2
  go_end0
  exact ⟨⟨_, rfl⟩, .inl ⟨_, rfl, hJs⟩⟩
set_option maxHeartbeats 1000000 in
theorem back_in (F : Fence) (n : Nat) (h15 : F.fn 15) (hro : F.round = none) (a : Option Addr) (len cap : Nat) (w : World) :
  CallsIn F n Tryd.prog 15 #[.slice a len cap] w fun e w' => e = .returned (.func (.func 25) #[] #[.pointer (some ⟨w.heap.size, 0, none⟩)]) ∧ w' = w.alloc (.cells #[.slice a len cap] 24) := by
 refine callsIn_of_wp Tryd.func15 rfl h15 ?_ hro
 simp only [Tryd.ntmps15, List.size_toArray, List.length_cons, List.length_nil, Nat.reduceAdd, Nat.reduceSub, Array.replicate_succ, Array.replicate_zero, List.push_toArray, List.append_toArray, List.nil_append, List.cons_append]
 gi_wp2
 go_ret
 exact ⟨rfl, rfl⟩
theorem back_stops (F : Fence) (n : Nat) (h25 : F.fn 25) (hro : F.round = none) (hn : 1 ≤ n) (Bs n₀ : Nat) (A : Option Addr) (cap : Nat) (zs : List S38) (hreach : zs.length ≤ 140737488351232) (w : World) (hBs : Boxed w Bs 24 (.slice A zs.length cap)) (hn₀ : n₀ ≤ w.heap.size)
  (hc : ∀ W', Below n₀ w W' → Kd.C k38 W' A zs.length zs) :
  SeqStopsK F n Tryd.prog 25 #[.pointer (some ⟨Bs, 0, none⟩)] (fun x : Int × S38 => #[.int .i64 x.1, legV x.2]) (KpB n₀ Bs) (fun ys => ys = uptoF zs zs.length) (fun pre => ∃ k, k ≤ zs.length ∧ pre = uptoF zs k) zs.length w := fun l J Jx W hW _ _ hY h0 =>
 back1_in F n h25 hro hn l Bs n₀ A cap zs hreach J Jx hY W ((hW.block Bs hBs.lt).trans hBs) (fun W' h => hc W' ((hW.mono hn₀).trans h)) h0
def swapL (x : S38) : S38 := ⟨x.f1, x.f0, x.f2⟩
def gotL (pre : List (Int × S38)) : List S38 := pre.map fun x => swapL x.2
def flatL (xs : List S38) : List Value := xs.flatMap legC
theorem gotL_snoc (pre : List (Int × S38)) (x : Int × S38) : gotL (pre ++ [x]) = gotL pre ++ [swapL x.2] := by simp [gotL]
theorem gotL_length (pre : List (Int × S38)) : (gotL pre).length = pre.length := by simp [gotL]
theorem flatL_snoc (xs : List S38) (x : S38) : flatL (xs ++ [x]) = flatL xs ++ legC x := by simp [flatL]
theorem legs_back_true (n : Nat) (hn : 3 ≤ n) (A0 : Option Addr) (c0 : Nat) (l0 : List S38) (w : World) (hr0 : Kd.C k38 w A0 l0.length l0) (hc0 : l0.length ≤ c0) (hL : impl_LegsRight.f l0 = some true) (hlen : l0.length ≤ 1048576) :
  CallsIn Fence.wide n Tryd.prog 7 #[.slice A0 l0.length c0] w fun e w' => ∃ v, e = .returned v ∧ w'.ownsRow w.heap.size 38 5 v l0.length (flatL (gotL (uptoF l0 l0.length))) ∧ Below w.heap.size w w' := by
 have h1 : 1 ≤ n := by omega
 have f14 : Fence.wide.fn 14 := trivial
 have f15 : Fence.wide.fn 15 := trivial
 have hu36 := Tryd.underlying36
 have hu38 := Tryd.underlying38
 refine callsIn_of_wp_marks Tryd.func7 rfl trivial ?_ rfl
 simp only [Tryd.ntmps7, List.size_toArray, List.length_cons, List.length_nil, Nat.reduceAdd, Nat.reduceSub, Array.replicate_succ, Array.replicate_zero, List.push_toArray, List.append_toArray, List.nil_append, List.cons_append]
 gi_wp2_with (first
  | (gi_at_call 14; refine ((callsIn_wide (n := n - 1)).2 (impl_LegsRight.calls A0 c0 l0 true _ hr0 hc0 hL)).mono ?_; rintro e w1 ⟨rfl, hb1⟩)
  | (gi_at_call 15; refine (back_in Fence.wide (n - 1) trivial rfl _ _ _ _).mono ?_; rintro e w2 ⟨rfl, rfl⟩))
 obtain ⟨i0, hi, hz0, hz1, hz2⟩ := info_parts info38
 have hsz := hb1.size
 have hu24 := Tryd.underlying24
 obtain ⟨g0, hg0⟩ : ∃ g, g = w1.heap.size := ⟨_, rfl⟩
 have hgz : w.heap.size ≤ g0 := by rw [hg0]; exact hsz
 have bO0 := Boxed.new (w1.alloc (Obj.cells #[] 38)) 24 (.slice (some ⟨w1.heap.size, 0, none⟩) 0 0)
 have bO := bO0.alloc (Obj.cells #[Value.slice A0 l0.length c0] 24)
 have bN := Boxed.new ((w1.alloc (Obj.cells #[] 38)).alloc (Obj.cells #[Value.slice (some ⟨w1.heap.size, 0, none⟩) 0 0] 24)) 24 (.slice A0 l0.length c0)
 have hr0' : ((w1.alloc (Obj.cells #[] 38)).alloc (Obj.cells #[Value.slice (some ⟨w1.heap.size, 0, none⟩) 0 0] 24)).alloc (Obj.cells #[Value.slice A0 l0.length c0] 24) |>.ownsRow w.heap.size 38 5 (.slice (some ⟨w1.heap.size, 0, none⟩) 0 0) 0 [] := by
  have h := World.ownsRow_lit (base := w.heap.size) (e := 38) (size := 5) w1 #[] 0 hsz (by unfold maxLen; omega) rfl
  exact (h.alloc _).alloc _
 have hB0 : Below w.heap.size w (((w1.alloc (Obj.cells #[] 38)).alloc (Obj.cells #[Value.slice (some ⟨w1.heap.size, 0, none⟩) 0 0] 24)).alloc (Obj.cells #[Value.slice A0 l0.length c0] 24)) :=
  ((hb1.alloc hsz _).alloc (by simp; omega) _).alloc (by simp; omega) _
 simp only [World.size_alloc] at bO0 bO bN
 obtain ⟨W0, hW0⟩ : ∃ W, W = (((w1.alloc (Obj.cells #[] 38)).alloc (Obj.cells #[Value.slice (some ⟨w1.heap.size, 0, none⟩) 0 0] 24)).alloc (Obj.cells #[Value.slice A0 l0.length c0] 24)) := ⟨_, rfl⟩
 have hs0 : W0.heap.size = w1.heap.size + 1 + 1 + 1 := by rw [hW0]; simp
 rw [← hW0] at bO bN hr0' hB0 ⊢
 clear hW0 bO0
 rw [← hg0] at *
 refine wpIn_rangeFunc_ownH rfl h1 (gf := 25) (lb := #[.pointer (some ⟨g0 + 1 + 1, 0, none⟩)]) rfl trivial (enters_of Tryd.func25 (by kernel_rfl) rfl)
  (back_stops Fence.wide (n - 1) trivial rfl (by omega) (g0 + 1 + 1) w.heap.size A0 c0 l0 (by omega) W0 bN hB0.size (fun W' h => Kd.C_below hr0 (hB0.trans h)))
  (fun h k => ⟨h.1.trans k.1, fun v hv => k.2 v (h.2 v hv)⟩)
  (fun W l o o' hl h h2 h3 => ⟨belowK_b (w := W0) hB0.size W l o o' hl h h2 h3, fun v hv => hv.kept (grownBy_putObj' W l o') (fun e => by cases e; omega)⟩)
  (Below.refl _ _) (fun _ => rfl)
  (fun pre W => (∃ v, Boxed W (g0 + 1) 24 v ∧ W.ownsRow w.heap.size 38 5 v pre.length (flatL (gotL pre)) ∧ True) ∧ Below w.heap.size w W)
  (fun _ _ _ => False)
  (OwnFrom.and (Own.from (holdsRow_own w.heap.size (g0 + 1) 24 38 5 (fun pre => pre.length) (fun pre => flatL (gotL pre)) (fun _ _ => True)) _) (ownFrom_below (Nat.le_refl _) hB0.size))
  (fun _ _ _ _ _ hs _ _ => hs)
  ⟨⟨_, bO, hr0', trivial⟩, hB0⟩
  (fun x a' W => ∃ Bx, W.heap[Bx]? = some (.cells #[.string x.2.f0.f0, .string x.2.f0.f1, .string x.2.f1.f0, .string x.2.f1.f1, .int .i64 x.2.f2] 38 (0, 0)) ∧
   a' = { tmps := #[.slice A0 l0.length c0, undef, .slice none 0 0, .pointer (some ⟨g0 + 1, 0, none⟩), undef, .pointer (some ⟨Bx, 0, none⟩), .slice A0 l0.length c0, .bool true, .bool false, .slice (some ⟨g0, 0, none⟩) 0 0, .slice A0 l0.length c0,
    .func (.func 25) #[] #[.pointer (some ⟨g0 + 1 + 1, 0, none⟩)], .int .i64 x.1, legV x.2, undef, undef, undef, undef, undef, undef, undef, undef, undef, undef, undef], defers := [] })
  (fun x a' s X Y row h hg hr => by
   obtain ⟨Bx, hx, ha⟩ := h
   exact ⟨Bx, (hg.block Bx (Array.getElem?_eq_some_iff.1 hx).1 (fun e => by obtain ⟨_, o, ho, hc⟩ := hr Bx e.symm; rw [hx] at ho; cases ho; cases hc)).trans hx, ha⟩)
  ?assign ?body ?done ?stop
 case assign =>
  rintro l pre x W K ⟨⟨v, hv, hrow, _⟩, hB⟩ hK
  simp only [legV]
  gi_wp2
  exact hK _ _ ((KeepsOthers.alloc _ _).from _) ⟨(Below.refl _ W).alloc hB.size _, fun v hv => hv.alloc _⟩ ⟨⟨v, hv.alloc _, hrow.alloc _, trivial⟩, hB.alloc hB.size _⟩ ⟨W.heap.size, World.alloc_heap_new W _, rfl⟩
 case body =>
  rintro l pre x a' W hl ⟨r, hr⟩ ⟨⟨v, hv, hrow, _⟩, hB⟩ ⟨Bx, hx, rfl⟩ hlt
  have hc := hv.cell
  have hx0 : W.cell? ⟨Bx, 0, none⟩ = some (.string x.2.f0.f0) := by simp [World.cell?, hx]
  have hx1 : W.cell? ⟨Bx, 1, none⟩ = some (.string x.2.f0.f1) := by simp [World.cell?, hx]
  have hx2 : W.cell? ⟨Bx, 2, none⟩ = some (.string x.2.f1.f0) := by simp [World.cell?, hx]
  have hx3 : W.cell? ⟨Bx, 3, none⟩ = some (.string x.2.f1.f1) := by simp [World.cell?, hx]
  have hx4 : W.cell? ⟨Bx, 4, none⟩ = some (.int .i64 x.2.f2) := by simp [World.cell?, hx]
  gi_wp2_with (gi_at_builtin; refine wpListIn_append_own _ rfl _ _ 24 rfl w.heap.size 38 i0 (.agg #[(.string ⟨#[]⟩), (.string ⟨#[]⟩), (.string ⟨#[]⟩), (.string ⟨#[]⟩), (.int .i64 0)]) 5 72 Tryd.underlying24 hi hz0 hz1 hz2 rfl (by decide) _ _ _ rfl (hrow.alloc _) ⟨W.heap.size, 0, none⟩ 1 1 (legC (swapL x.2)) rfl rfl (fun j u hj => by rw [show (⟨W.heap.size, 0, none⟩ : Addr).add j = ⟨W.heap.size, j, none⟩ by simp [Addr.add]; omega, World.cell?_alloc_new]; simpa [legC, swapL] using hj) (by simp [legC, Value.oneCell']) (by unfold maxLen; omega) (by omega) (by have := hB.size; simp; omega) ?_; intro v' w2 hown' hgrow _; obtain ⟨g', cap', rfl⟩ := ownsRow_succ hown'; obtain ⟨hv1, hv2, hr2, hk2, hb2⟩ := hv.appended (by decide) hrow hB.size (by omega) hown' hgrow; have hc1 := hv1.cell; have hf1 := hv1.frozen)
  exact ⟨hk2.from _, ⟨hb2, fun u hu => ((hu.alloc _).kept hgrow (hu.not_row (by decide) hrow)).other (by omega) _⟩, ⟨_, hv2, by rw [gotL_snoc, flatL_snoc, show (pre ++ [x]).length = pre.length + 1 by simp]; exact hr2⟩, hB.trans hb2⟩
 case done =>
  rintro D ys W hD rfl ⟨⟨v, hv, hrow, _⟩, hB⟩ hK
  have hc := hv.cell
  gi_wp2
  refine ⟨by simp, .inl ⟨_, _, rfl, run_takeDeferred hK, ?_⟩⟩
  refine ⟨_, results_tmp rfl _ _ _, v, rfl, ?_, hB.trans (belowK_b (w := W0) hB0.size W D _ _ hD hK rfl rfl)⟩
  have := ownsRow_putObj hrow (.deferred none) hK rfl
  rw [uptoF_length] at this
  exact this
 case stop =>
  rintro D c pre W _ _ h _
  exact h.elim
theorem rd38 (l : List S38) (i : Nat) (h : i < l.length) : rd_T38 l (i : Int) = l[i] := by
 unfold rd_T38; rw [Int.toNat_natCast, List.getD_eq_getElem?_getD, List.getElem?_eq_getElem h]; rfl
theorem gotL_all (zs : List S38) : gotL (uptoF zs zs.length) = zs.reverse.map swapL := by
 apply List.ext_getElem
 ·rw [gotL_length, uptoF_length, List.length_map, List.length_reverse]
 intro i h1 h2
 have hi : i < zs.length := by rw [gotL_length, uptoF_length] at h1; exact h1
 have e : (zs.length : Int) - 1 - (i : Int) = ((zs.length - 1 - i : Nat) : Int) := by omega
 simp only [gotL, uptoF, backF, List.getElem_map, List.getElem_range, List.getElem_reverse, e]
 rw [rd38 zs _ (by omega)]
theorem reps_flat (w : World) (base : Nat) (ok : Nat → Prop) : ∀ xs : List S38, Reps (k38.M w base ok) 5 xs (flatL xs)
 | [] => Reps.none _ _
 | x :: xs => Reps.front (c := legC x) (k38_mkM w base ok x) rfl (reps_flat w base ok xs) (by simp [flatL])
def impl_LegsBack.f (l0 : List S38) : Option (List S38) := if l0.length ≤ 1048576 then (impl_LegsRight.f l0).bind fun t => (if t = true then (some (l0.reverse.map swapL)) else (some [])) else none
set_option maxHeartbeats 4000000 in
theorem impl_LegsBack.calls (A0 : Option Addr) (c0 : Nat) (l0 : List (S38)) (r : List (S38)) (w : World) (hr0 : Kd.C k38 w A0 l0.length l0) (hc0 : l0.length ≤ c0) (h : impl_LegsBack.f l0 = some r) :
  Calls Tryd.prog 7 #[.slice A0 l0.length c0] w fun e w' => ∃ v0_ : Value, e = .returned (v0_) ∧ Kd.R k38 38 w' w.heap.size (fun _ => True) v0_ r ∧ Below w.heap.size w w' := by
 unfold impl_LegsBack.f at h
 by_cases hl : l0.length ≤ 1048576
 ·rw [if_pos hl] at h
  obtain ⟨t, ht, h⟩ := Option.bind_eq_some_iff.mp h
  cases t with
  | true =>
   obtain rfl := Option.some.inj h
   refine ((callsIn_wide (n := 6)).1 (legs_back_true 6 (by omega) A0 c0 l0 w hr0 hc0 ht hl)).mono ?_
   rintro e w' ⟨v, rfl, hown, hb⟩
   rw [gotL_all] at hown
   exact ⟨v, rfl, ⟨fun _ _ => trivial, _, by rw [List.length_map, List.length_reverse]; exact hown, reps_flat _ _ _ _⟩, hb⟩
  | false =>
   obtain rfl := Option.some.inj h
   clear h
   go_enter Tryd.func7, Tryd.ntmps7
   go_wp2_with (first | (go_at_call 14; (with_reducible refine (impl_LegsRight.calls A0 c0 l0 false _ hr0 hc0 ht).mono ?_); rintro e w1 ⟨rfl, hb1⟩))
   go_ret
   exact ⟨_, rfl, Kd.R_nil _ _ _ _ _, hb1⟩
 rw [if_neg hl] at h; exact absurd h (by simp)
end

/-! ### laws_eqSpot: function 26 -/
def laws_eqSpot.f (a0_0 : ByteArray) (a0_1 : ByteArray) (a1_0 : ByteArray) (a1_1 : ByteArray) : Option (Bool) := if a0_0.toList = a1_0.toList then (if a0_1.toList = a1_1.toList then (some true) else (some false)) else (some false)
theorem laws_eqSpot.calls (a0_0 : ByteArray) (a0_1 : ByteArray) (a1_0 : ByteArray) (a1_1 : ByteArray) (r : Bool) (w : World) (h : laws_eqSpot.f a0_0 a0_1 a1_0 a1_1 = some r) :
  Calls Tryd.prog 26 #[.agg #[.string a0_0, .string a0_1], .agg #[.string a1_0, .string a1_1]] w fun e w' => e = .returned (.bool r) ∧ Below w.heap.size w w' := by
 have hu36 := Tryd.underlying36
 have HB := am (Below.refl w.heap.size w)
 have H := h
 clear h
 unfold laws_eqSpot.f at H
 revert H; refine iQ (fun c3b0 c3b1 H => ?_) fun c3 c3b0 c3b1 H => ?_
 ·revert H; refine iQ (fun c4b0 c4b1 H => ?_) fun c4 c4b0 c4b1 H => ?_
  ·obtain rfl := Option.some.inj H
   go_enter Tryd.func26, Tryd.ntmps26
   go_wp2_with (first | ((with_reducible refine g_ 2 ?_); refine bx 2 #[.string a0_0, .string a0_1] 36 ?_; intro gb156 hg w5 hbox hb; have BK156 := am hbox; have GW156 := am (bsz hg : w.heap.size ≤ gb156); have GE156 := GW156; replace HB := ho hb; clear hb hbox hg) | ((with_reducible refine g_ 3 ?_); refine bx 3 #[.string a1_0, .string a1_1] 36 ?_; intro gb157 hg w6 hbox hb; have BK157 := am hbox; have GW157 := am (bsz hg : w.heap.size ≤ gb157); have GE157 := GW157; have NB156_157 := no hg BK156; have NB157_156 := am NB156_157.out.symm; replace BK156 := bo BK156 hb; replace HB := ho hb; clear hb hbox hg; have hnb7 := NB156_157.out; have hnc7 := NB157_156.out; have Z8 := blk2 BK156.out; have Z9 := blk2 BK157.out))
   go_ret
   exact ⟨er, bl⟩
  obtain rfl := Option.some.inj H
  go_enter Tryd.func26, Tryd.ntmps26
  go_wp2_with (first | ((with_reducible refine g_ 2 ?_); refine bx 2 #[.string a0_0, .string a0_1] 36 ?_; intro gb156 hg w10 hbox hb; have BK156 := am hbox; have GW156 := am (bsz hg : w.heap.size ≤ gb156); have GE156 := GW156; replace HB := ho hb; clear hb hbox hg) | ((with_reducible refine g_ 3 ?_); refine bx 3 #[.string a1_0, .string a1_1] 36 ?_; intro gb157 hg w11 hbox hb; have BK157 := am hbox; have GW157 := am (bsz hg : w.heap.size ≤ gb157); have GE157 := GW157; have NB156_157 := no hg BK156; have NB157_156 := am NB156_157.out.symm; replace BK156 := bo BK156 hb; replace HB := ho hb; clear hb hbox hg; have hnb12 := NB156_157.out; have hnc12 := NB157_156.out; have Z13 := blk2 BK156.out; have Z14 := blk2 BK157.out))
  go_ret
  exact ⟨er, bl⟩
 obtain rfl := Option.some.inj H
 go_enter Tryd.func26, Tryd.ntmps26
 go_wp2_with (first | ((with_reducible refine g_ 2 ?_); refine bx 2 #[.string a0_0, .string a0_1] 36 ?_; intro gb156 hg w15 hbox hb; have BK156 := am hbox; have GW156 := am (bsz hg : w.heap.size ≤ gb156); have GE156 := GW156; replace HB := ho hb; clear hb hbox hg) | ((with_reducible refine g_ 3 ?_); refine bx 3 #[.string a1_0, .string a1_1] 36 ?_; intro gb157 hg w16 hbox hb; have BK157 := am hbox; have GW157 := am (bsz hg : w.heap.size ≤ gb157); have GE157 := GW157; have NB156_157 := no hg BK156; have NB157_156 := am NB156_157.out.symm; replace BK156 := bo BK156 hb; replace HB := ho hb; clear hb hbox hg; have hnb17 := NB156_157.out; have hnc17 := NB157_156.out; have Z18 := blk2 BK156.out; have Z19 := blk2 BK157.out))
 go_ret
 exact ⟨er, bl⟩

/-! ### laws_eqLeg: function 16 -/
def laws_eqLeg.f (a0_0 : ByteArray) (a0_1 : ByteArray) (a0_2 : ByteArray) (a0_3 : ByteArray) (a0_4 : Int) (a1_0 : ByteArray) (a1_1 : ByteArray) (a1_2 : ByteArray) (a1_3 : ByteArray) (a1_4 : Int) : Option (Bool) := (laws_eqSpot.f a0_0 a0_1 a1_0 a1_1).bind fun t160 => (if t160 = true then ((laws_eqSpot.f a0_2 a0_3 a1_2 a1_3).bind fun t161 => (if t161 = true then (if a0_4 = a1_4 then (some true) else (some false)) else (some false))) else (some false))
theorem laws_eqLeg.calls (a0_0 : ByteArray) (a0_1 : ByteArray) (a0_2 : ByteArray) (a0_3 : ByteArray) (a0_4 : Int) (a1_0 : ByteArray) (a1_1 : ByteArray) (a1_2 : ByteArray) (a1_3 : ByteArray) (a1_4 : Int) (r : Bool) (w : World) (h : laws_eqLeg.f a0_0 a0_1 a0_2 a0_3 a0_4 a1_0 a1_1 a1_2 a1_3 a1_4 = some r) :
  Calls Tryd.prog 16 #[.agg #[.string a0_0, .string a0_1, .string a0_2, .string a0_3, .int .i64 a0_4], .agg #[.string a1_0, .string a1_1, .string a1_2, .string a1_3, .int .i64 a1_4]] w fun e w' => e = .returned (.bool r) ∧ Below w.heap.size w w' := by
 have hu38 := Tryd.underlying38
 have hu36 := Tryd.underlying36
 have HB := am (Below.refl w.heap.size w)
 have H := h
 clear h
 unfold laws_eqLeg.f at H
 revert H; refine bj fun t160 A3 H => ?_
 replace H := iT H; rcases H with ⟨rfl, H⟩ | ⟨rfl, H⟩
 ·revert H; refine bj fun t161 A5 H => ?_
  replace H := iT H; rcases H with ⟨rfl, H⟩ | ⟨rfl, H⟩
  ·revert H; refine iQ (fun c7b0 c7b1 H => ?_) fun c7 c7b0 c7b1 H => ?_
   ·obtain rfl := Option.some.inj H
    go_enter Tryd.func16, Tryd.ntmps16
    go_wp2_with (first | ((with_reducible refine g_ 2 ?_); refine bx 2 #[.string a0_0, .string a0_1, .string a0_2, .string a0_3, .int .i64 a0_4] 38 ?_; intro gb158 hg w8 hbox hb; have BK158 := am hbox; have GW158 := am (bsz hg : w.heap.size ≤ gb158); have GE158 := GW158; replace HB := ho hb; clear hb hbox hg) | ((with_reducible refine g_ 3 ?_); refine bx 3 #[.string a1_0, .string a1_1, .string a1_2, .string a1_3, .int .i64 a1_4] 38 ?_; intro gb159 hg w9 hbox hb; have BK159 := am hbox; have GW159 := am (bsz hg : w.heap.size ≤ gb159); have GE159 := GW159; have NB158_159 := no hg BK158; have NB159_158 := am NB158_159.out.symm; replace BK158 := bo BK158 hb; replace HB := ho hb; clear hb hbox hg; have hnb10 := NB158_159.out; have hnc10 := NB159_158.out; have Z11 := blk5 BK158.out; have Z12 := blk5 BK159.out) | ((with_reducible refine c_ 26 ?_); refine gc 26 (some 9) Tryd.func26 (laws_eqSpot.calls _ _ _ _ _ _ A3.out) ?_; rintro e w13 ⟨rfl, hb⟩; refine ⟨_, rfl, ?_⟩; refine r2_ hb BK158 BK159 ?_; clear BK158 BK159; intro BK158 BK159; replace HB := ho hb; clear hb; have Z14 := blk5 BK158.out; have Z15 := blk5 BK159.out) | ((with_reducible refine c_ 26 ?_); refine gc 26 (some 15) Tryd.func26 (laws_eqSpot.calls _ _ _ _ _ _ A5.out) ?_; rintro e w16 ⟨rfl, hb⟩; refine ⟨_, rfl, ?_⟩; refine r2_ hb BK158 BK159 ?_; clear BK158 BK159; intro BK158 BK159; replace HB := ho hb; clear hb; have Z17 := blk5 BK158.out; have Z18 := blk5 BK159.out))
    go_ret
    exact ⟨er, bl⟩
   obtain rfl := Option.some.inj H
   go_enter Tryd.func16, Tryd.ntmps16
   go_wp2_with (first | ((with_reducible refine g_ 2 ?_); refine bx 2 #[.string a0_0, .string a0_1, .string a0_2, .string a0_3, .int .i64 a0_4] 38 ?_; intro gb158 hg w19 hbox hb; have BK158 := am hbox; have GW158 := am (bsz hg : w.heap.size ≤ gb158); have GE158 := GW158; replace HB := ho hb; clear hb hbox hg) | ((with_reducible refine g_ 3 ?_); refine bx 3 #[.string a1_0, .string a1_1, .string a1_2, .string a1_3, .int .i64 a1_4] 38 ?_; intro gb159 hg w20 hbox hb; have BK159 := am hbox; have GW159 := am (bsz hg : w.heap.size ≤ gb159); have GE159 := GW159; have NB158_159 := no hg BK158; have NB159_158 := am NB158_159.out.symm; replace BK158 := bo BK158 hb; replace HB := ho hb; clear hb hbox hg; have hnb21 := NB158_159.out; have hnc21 := NB159_158.out; have Z22 := blk5 BK158.out; have Z23 := blk5 BK159.out) | ((with_reducible refine c_ 26 ?_); refine gc 26 (some 9) Tryd.func26 (laws_eqSpot.calls _ _ _ _ _ _ A3.out) ?_; rintro e w24 ⟨rfl, hb⟩; refine ⟨_, rfl, ?_⟩; refine r2_ hb BK158 BK159 ?_; clear BK158 BK159; intro BK158 BK159; replace HB := ho hb; clear hb; have Z25 := blk5 BK158.out; have Z26 := blk5 BK159.out) | ((with_reducible refine c_ 26 ?_); refine gc 26 (some 15) Tryd.func26 (laws_eqSpot.calls _ _ _ _ _ _ A5.out) ?_; rintro e w27 ⟨rfl, hb⟩; refine ⟨_, rfl, ?_⟩; refine r2_ hb BK158 BK159 ?_; clear BK158 BK159; intro BK158 BK159; replace HB := ho hb; clear hb; have Z28 := blk5 BK158.out; have Z29 := blk5 BK159.out))
   go_ret
   exact ⟨er, bl⟩
  obtain rfl := Option.some.inj H
  go_enter Tryd.func16, Tryd.ntmps16
  go_wp2_with (first | ((with_reducible refine g_ 2 ?_); refine bx 2 #[.string a0_0, .string a0_1, .string a0_2, .string a0_3, .int .i64 a0_4] 38 ?_; intro gb158 hg w30 hbox hb; have BK158 := am hbox; have GW158 := am (bsz hg : w.heap.size ≤ gb158); have GE158 := GW158; replace HB := ho hb; clear hb hbox hg) | ((with_reducible refine g_ 3 ?_); refine bx 3 #[.string a1_0, .string a1_1, .string a1_2, .string a1_3, .int .i64 a1_4] 38 ?_; intro gb159 hg w31 hbox hb; have BK159 := am hbox; have GW159 := am (bsz hg : w.heap.size ≤ gb159); have GE159 := GW159; have NB158_159 := no hg BK158; have NB159_158 := am NB158_159.out.symm; replace BK158 := bo BK158 hb; replace HB := ho hb; clear hb hbox hg; have hnb32 := NB158_159.out; have hnc32 := NB159_158.out; have Z33 := blk5 BK158.out; have Z34 := blk5 BK159.out) | ((with_reducible refine c_ 26 ?_); refine gc 26 (some 9) Tryd.func26 (laws_eqSpot.calls _ _ _ _ _ _ A3.out) ?_; rintro e w35 ⟨rfl, hb⟩; refine ⟨_, rfl, ?_⟩; refine r2_ hb BK158 BK159 ?_; clear BK158 BK159; intro BK158 BK159; replace HB := ho hb; clear hb; have Z36 := blk5 BK158.out; have Z37 := blk5 BK159.out) | ((with_reducible refine c_ 26 ?_); refine gc 26 (some 15) Tryd.func26 (laws_eqSpot.calls _ _ _ _ _ _ A5.out) ?_; rintro e w38 ⟨rfl, hb⟩; refine ⟨_, rfl, ?_⟩; refine r2_ hb BK158 BK159 ?_; clear BK158 BK159; intro BK158 BK159; replace HB := ho hb; clear hb))
  go_ret
  exact ⟨er, bl⟩
 obtain rfl := Option.some.inj H
 go_enter Tryd.func16, Tryd.ntmps16
 go_wp2_with (first | ((with_reducible refine g_ 2 ?_); refine bx 2 #[.string a0_0, .string a0_1, .string a0_2, .string a0_3, .int .i64 a0_4] 38 ?_; intro gb158 hg w39 hbox hb; have BK158 := am hbox; have GW158 := am (bsz hg : w.heap.size ≤ gb158); have GE158 := GW158; replace HB := ho hb; clear hb hbox hg) | ((with_reducible refine g_ 3 ?_); refine bx 3 #[.string a1_0, .string a1_1, .string a1_2, .string a1_3, .int .i64 a1_4] 38 ?_; intro gb159 hg w40 hbox hb; have BK159 := am hbox; have GW159 := am (bsz hg : w.heap.size ≤ gb159); have GE159 := GW159; have NB158_159 := no hg BK158; have NB159_158 := am NB158_159.out.symm; replace BK158 := bo BK158 hb; replace HB := ho hb; clear hb hbox hg; have hnb41 := NB158_159.out; have hnc41 := NB159_158.out; have Z42 := blk5 BK158.out; have Z43 := blk5 BK159.out) | ((with_reducible refine c_ 26 ?_); refine gc 26 (some 9) Tryd.func26 (laws_eqSpot.calls _ _ _ _ _ _ A3.out) ?_; rintro e w44 ⟨rfl, hb⟩; refine ⟨_, rfl, ?_⟩; refine r2_ hb BK158 BK159 ?_; clear BK158 BK159; intro BK158 BK159; replace HB := ho hb; clear hb))
 go_ret
 exact ⟨er, bl⟩

/-! ### laws_eqLegS: function 8 -/
def laws_eqLegS.l0 : Nat → List (S38) → List (S38) → Int → Option (Bool)
 | 0, _, _, _ => none
 | k + 1, x0, x1, x5 => if x5 < (x0.length : Int) then (if 0 ≤ x5 then (if x5 < (x1.length : Int) then ((laws_eqLeg.f ((rd_T38 x0 x5).f0.f0) ((rd_T38 x0 x5).f0.f1) ((rd_T38 x0 x5).f1.f0) ((rd_T38 x0 x5).f1.f1) ((rd_T38 x0 x5).f2) ((rd_T38 x1 x5).f0.f0) ((rd_T38 x1 x5).f0.f1) ((rd_T38 x1 x5).f1.f0) ((rd_T38 x1 x5).f1.f1) ((rd_T38 x1 x5).f2)).bind fun t164 => (if t164 = true then (laws_eqLegS.l0 k x0 x1 (wrap64 (x5 + 1))) else (some false))) else (none)) else (none)) else (some true)
def laws_eqLegS.f (k : Nat) (l0 : List (S38)) (l1 : List (S38)) : Option (Bool) := if (l0.length : Int) = (l1.length : Int) then (laws_eqLegS.l0 k l0 l1 0) else (some false)
theorem laws_eqLegS.mono_l : ∀ k, (∀ y0 y1 y2, LeO (laws_eqLegS.l0 k y0 y1 y2) (laws_eqLegS.l0 (k + 1) y0 y1 y2))
 | 0 => fun _ _ _ r h => by simp [laws_eqLegS.l0] at h
 | k + 1 => by
  have ih0 := laws_eqLegS.mono_l k
  ·intro y0 y1 y2
   unfold laws_eqLegS.l0
   exact mo
theorem laws_eqLegS.mono : ∀ a0 a1 k, LeO (laws_eqLegS.f k a0 a1) (laws_eqLegS.f (k + 1) a0 a1) := by
 intro a0 a1 k
 have ih0 := laws_eqLegS.mono_l k
 unfold laws_eqLegS.f
 exact mo
def laws_eqLegS.T6 : Bool × List (List Nat × List Nat) := (true, [([], []), ([], []), ([0, 1], [0, 1]), ([2], [2]), ([], []), ([], []), ([4, 5], [4, 5]), ([6], [6]), ([3, 7], [3, 7]), ([8], [8])])
def laws_eqLegS.B6 : List Nat := [0, 0, 3, 7, 0, 0, 48, 112, 255, 511]
theorem laws_eqLegS.tab6 : rtab .any (opsOf Tryd.f8 6) = laws_eqLegS.T6 := by kernel_rfl
theorem laws_eqLegS.bits6 : waitsOk laws_eqLegS.T6.2 laws_eqLegS.B6 = true := by kernel_rfl
theorem laws_eqLegS.calls (k : Nat) (A0 : Option Addr) (c0 : Nat) (l0 : List (S38)) (A1 : Option Addr) (c1 : Nat) (l1 : List (S38)) (r : Bool) (w : World) (hr0 : Kd.C k38 w A0 l0.length l0) (hc0 : l0.length ≤ c0) (hr1 : Kd.C k38 w A1 l1.length l1) (hc1 : l1.length ≤ c1) (h : laws_eqLegS.f k l0 l1 = some r) :
  Calls Tryd.prog 8 #[.slice A0 l0.length c0, .slice A1 l1.length c1] w fun e w' => e = .returned (.bool r) ∧ Below w.heap.size w w' := by
 have hu38 := Tryd.underlying38
 have HR0 := am hr0
 have HC0 := am hc0
 clear hr0 hc0
 have HR1 := am hr1
 have HC1 := am hc1
 clear hr1 hc1
 have HB := am (Below.refl w.heap.size w)
 have H := h
 clear h
 unfold laws_eqLegS.f at H
 revert H; refine iQn (fun c3 c3b0 c3b1 H => ?_) fun c3 c3b0 c3b1 H => ?_
 ·have c3b2 : (l0.length == l1.length) = true := by first | simpa using c3 | (simp at c3 ⊢; omega)
  clear c3
  have H' := am H; clear H
  go_enter Tryd.func8, Tryd.ntmps8
  go_wp2
  go_loopg [5] k (fun kq v5 w' => ∃ (x5_1 : Int), v5 = .int .i64 x5_1 ∧ Aside0 (laws_eqLegS.l0 kq l0 l1 x5_1 = some r) ∧ Aside0 (kq ≤ k) ∧ Aside0 (Below w.heap.size w w'))
  case atStart => exact ⟨(0), rs, H', ⟨Nat.le_refl _⟩, ⟨bl⟩⟩
  case round =>
   clear H'
   try clear c1; try clear c3; try clear c3b0; try clear c3b1; try clear c3b2
   obtain ⟨x5_1, rfl, HA, HK1, HB⟩ := hrel
   cases gk with
   | zero => exact absurd HA.out (by simp [laws_eqLegS.l0])
   | succ k1 =>
    have H := HA.out
    clear HA
    simp only [laws_eqLegS.l0] at H
    revert H; refine iDb (fun c4b0 H => ?_) fun c4b0 H => ?_
    ·revert H; refine i1 fun c5b0 H => ?_
     revert H; refine i1 fun c6b0 H => ?_
     revert H; refine bj fun t164 A7 H => ?_
     replace H := iT H; rcases H with ⟨rfl, H⟩ | ⟨rfl, H⟩
     ·have H' := am H; clear H
      try go_wp2
      replace HB := am (below_drew1 HB.out)
      have p162 : 0 ≤ (x5_1 : Int) := ode
      have q162 : x5_1 < (l0.length : Int) := ode
      obtain ⟨ad162, e162, hx162_0, hx162_1, hx162_2, hx162_3, hx162_4⟩ := at_T38 HR0.out x5_1 p162 q162
      have hw162_4 := hx162_4
      have hw162_3 := hx162_3
      have hw162_2 := hx162_2
      have hw162_1 := hx162_1
      have hw162_0 := hx162_0
      cases e162
      obtain ⟨hx162_0, hx162_1, hx162_2, hx162_3, hx162_4⟩ := hb5 HB.out hx162_0 hx162_1 hx162_2 hx162_3 hx162_4
      replace p162 := eq_true p162
      replace q162 := eq_true q162
      have p163 : 0 ≤ (x5_1 : Int) := ode
      have q163 : x5_1 < (l1.length : Int) := ode
      obtain ⟨ad163, e163, hx163_0, hx163_1, hx163_2, hx163_3, hx163_4⟩ := at_T38 HR1.out x5_1 p163 q163
      have hw163_4 := hx163_4
      have hw163_3 := hx163_3
      have hw163_2 := hx163_2
      have hw163_1 := hx163_1
      have hw163_0 := hx163_0
      cases e163
      obtain ⟨hx163_0, hx163_1, hx163_2, hx163_3, hx163_4⟩ := hb5 HB.out hx163_0 hx163_1 hx163_2 hx163_3 hx163_4
      replace p163 := eq_true p163
      replace q163 := eq_true q163
      refine start_ (n := 10) (S := Sa5a5 (ad162.add ((x5_1).toNat * 5)) (.string ((rd_T38 l0 x5_1).f0.f0)) (.string ((rd_T38 l0 x5_1).f0.f1)) (.string ((rd_T38 l0 x5_1).f1.f0)) (.string ((rd_T38 l0 x5_1).f1.f1)) (.int .i64 ((rd_T38 l0 x5_1).f2)) (ad163.add ((x5_1).toNat * 5)) (.string ((rd_T38 l1 x5_1).f0.f0)) (.string ((rd_T38 l1 x5_1).f0.f1)) (.string ((rd_T38 l1 x5_1).f1.f0)) (.string ((rd_T38 l1 x5_1).f1.f1)) (.int .i64 ((rd_T38 l1 x5_1).f2))) (ds := []) #[F_, F_, F_, F_, F_, F_, F_, F_, F_, F_] (by kernel_rfl) rfl rfl ⟨(hbc HB.out hw162_0), (hbc HB.out hw162_1), (hbc HB.out hw162_2), (hbc HB.out hw162_3), (hbc HB.out hw162_4), (hbc HB.out hw163_0), (hbc HB.out hw163_1), (hbc HB.out hw163_2), (hbc HB.out hw163_3), (hbc HB.out hw163_4)⟩ (fun hHeld => ?_); refine with_tabW laws_eqLegS.tab6 laws_eqLegS.bits6 (fun HT_ HW_ => ?_)
      generalize wr.drew = w9 at HB hx162_0 hx162_1 hx162_2 hx162_3 hx162_4 hx163_0 hx163_1 hx163_2 hx163_3 hx163_4 hHeld ⊢
      refine pv 0 17 ?_
      refine pv 1 18 ?_
      refine pv 2 19 ?_
      refine pv 4 21 ?_
      refine pv 5 22 ?_
      refine pv 6 23 ?_
      refine tv10 3 20 hHeld ?_
      refine tv10 7 24 hHeld ?_
      refine ov 8 25 (fun K hK => ?_)
      refine gk Tryd.func16 (laws_eqLeg.calls _ _ _ _ _ _ _ _ _ _ _ _ A7.out) ?_
      rintro e w10 ⟨rfl, hb⟩
      refine ⟨_, rfl, ?_⟩
      replace HB := ho hb
      refine hK.out _ _ ⟨(hbc HB.out hw162_0), (hbc HB.out hw162_1), (hbc HB.out hw162_2), (hbc HB.out hw162_3), (hbc HB.out hw162_4), (hbc HB.out hw163_0), (hbc HB.out hw163_1), (hbc HB.out hw163_2), (hbc HB.out hw163_3), (hbc HB.out hw163_4)⟩ (fun hHeld => ?_)
      clear hK K
      refine norm_ (a' := ?_) ?_ ?_
      rotate_left
      ·show Act.put _ (some 25) _ = _
       simp only [Act.put, z1, z2, z3, i64_w, i32_w]
       rfl
      refine pv 9 26 ?_
      refine done_ (done_of HT_.out (by kernel_rfl)) ?_
      try go_wp2
      go_roundg k1
      case measure => have := HK1.out; omega
      case rel => exact ⟨(wrap64 (x5_1 + 1)), rs, H', ⟨by have := HK1.out; omega⟩, ⟨bl⟩⟩
     obtain rfl := Option.some.inj H
     try go_wp2
     replace HB := am (below_drew1 HB.out)
     have p162 : 0 ≤ (x5_1 : Int) := ode
     have q162 : x5_1 < (l0.length : Int) := ode
     obtain ⟨ad162, e162, hx162_0, hx162_1, hx162_2, hx162_3, hx162_4⟩ := at_T38 HR0.out x5_1 p162 q162
     have hw162_4 := hx162_4
     have hw162_3 := hx162_3
     have hw162_2 := hx162_2
     have hw162_1 := hx162_1
     have hw162_0 := hx162_0
     cases e162
     obtain ⟨hx162_0, hx162_1, hx162_2, hx162_3, hx162_4⟩ := hb5 HB.out hx162_0 hx162_1 hx162_2 hx162_3 hx162_4
     replace p162 := eq_true p162
     replace q162 := eq_true q162
     have p163 : 0 ≤ (x5_1 : Int) := ode
     have q163 : x5_1 < (l1.length : Int) := ode
     obtain ⟨ad163, e163, hx163_0, hx163_1, hx163_2, hx163_3, hx163_4⟩ := at_T38 HR1.out x5_1 p163 q163
     have hw163_4 := hx163_4
     have hw163_3 := hx163_3
     have hw163_2 := hx163_2
     have hw163_1 := hx163_1
     have hw163_0 := hx163_0
     cases e163
     obtain ⟨hx163_0, hx163_1, hx163_2, hx163_3, hx163_4⟩ := hb5 HB.out hx163_0 hx163_1 hx163_2 hx163_3 hx163_4
     replace p163 := eq_true p163
     replace q163 := eq_true q163
     refine start_ (n := 10) (S := Sa5a5 (ad162.add ((x5_1).toNat * 5)) (.string ((rd_T38 l0 x5_1).f0.f0)) (.string ((rd_T38 l0 x5_1).f0.f1)) (.string ((rd_T38 l0 x5_1).f1.f0)) (.string ((rd_T38 l0 x5_1).f1.f1)) (.int .i64 ((rd_T38 l0 x5_1).f2)) (ad163.add ((x5_1).toNat * 5)) (.string ((rd_T38 l1 x5_1).f0.f0)) (.string ((rd_T38 l1 x5_1).f0.f1)) (.string ((rd_T38 l1 x5_1).f1.f0)) (.string ((rd_T38 l1 x5_1).f1.f1)) (.int .i64 ((rd_T38 l1 x5_1).f2))) (ds := []) #[F_, F_, F_, F_, F_, F_, F_, F_, F_, F_] (by kernel_rfl) rfl rfl ⟨(hbc HB.out hw162_0), (hbc HB.out hw162_1), (hbc HB.out hw162_2), (hbc HB.out hw162_3), (hbc HB.out hw162_4), (hbc HB.out hw163_0), (hbc HB.out hw163_1), (hbc HB.out hw163_2), (hbc HB.out hw163_3), (hbc HB.out hw163_4)⟩ (fun hHeld => ?_); refine with_tabW laws_eqLegS.tab6 laws_eqLegS.bits6 (fun HT_ HW_ => ?_)
     generalize wr.drew = w11 at HB hx162_0 hx162_1 hx162_2 hx162_3 hx162_4 hx163_0 hx163_1 hx163_2 hx163_3 hx163_4 hHeld ⊢
     refine pv 0 17 ?_
     refine pv 1 18 ?_
     refine pv 2 19 ?_
     refine pv 4 21 ?_
     refine pv 5 22 ?_
     refine pv 6 23 ?_
     refine tv10 3 20 hHeld ?_
     refine tv10 7 24 hHeld ?_
     refine ov 8 25 (fun K hK => ?_)
     refine gk Tryd.func16 (laws_eqLeg.calls _ _ _ _ _ _ _ _ _ _ _ _ A7.out) ?_
     rintro e w12 ⟨rfl, hb⟩
     refine ⟨_, rfl, ?_⟩
     replace HB := ho hb
     refine hK.out _ _ ⟨(hbc HB.out hw162_0), (hbc HB.out hw162_1), (hbc HB.out hw162_2), (hbc HB.out hw162_3), (hbc HB.out hw162_4), (hbc HB.out hw163_0), (hbc HB.out hw163_1), (hbc HB.out hw163_2), (hbc HB.out hw163_3), (hbc HB.out hw163_4)⟩ (fun hHeld => ?_)
     clear hK K
     refine norm_ (a' := ?_) ?_ ?_
     rotate_left
     ·show Act.put _ (some 25) _ = _
      simp only [Act.put, z1, z2, z3, i64_w, i32_w]
      rfl
     refine pv 9 26 ?_
     refine done_ (done_of HT_.out (by kernel_rfl)) ?_
     try go_wp2
     go_ret
     exact ⟨er, bl⟩
    obtain rfl := Option.some.inj H
    go_wp2
    go_ret
    exact ⟨er, bl⟩
 have c3b2 : (l0.length == l1.length) = false := by first | simpa using c3 | (simp at c3 ⊢; omega)
 obtain rfl := Option.some.inj H
 go_enter Tryd.func8, Tryd.ntmps8
 go_wp2
 go_ret
 exact ⟨er, bl⟩

end Go.Proofs.YtopeaemfnlcecaaDoor.PFnExactLegsBack
