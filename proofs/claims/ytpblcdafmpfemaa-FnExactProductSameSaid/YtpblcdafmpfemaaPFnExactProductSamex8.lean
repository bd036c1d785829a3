-- laid by seedprint.py, a program of this session, over contracts that it gives by hand; Lean checks it
-- dented
import Derived.Test.YtpblcdafmpfemaaQAut
import Derived.Test.YtpblcdafmpfemaaPFnExactProductSamex0
import Derived.Test.YtpblcdafmpfemaaPFnExactProductSamex6
import Derived.Test.YtpblcdafmpfemaaPFnExactProductSamex7
namespace Go.Proofs.Ytpblcdafmpfemaa.PFnExactProductSame
open Go.RowKit Go.Proofs.YtpblcdafmpfemaaW.PrintWords Go.Proofs.YtpblcdafmpfemaaW.PrintLast Go.Proofs.YtpblcdafmpfemaaW.PrintMore
attribute [local go_sem] max2_int min2_int max_two min_two max_three min_three max_four min_four   -- for this text's walks alone
set_option linter.unusedVariables false
set_option linter.unusedSimpArgs false

/-! ### laws_eqProduct: function 22 -/
/-- Two products that are alike (another answer is not served). -/
def laws_eqProduct.f (k : Nat) (a0_0 : ByteArray) (a0_1 : Int) (l0_2 : List ByteArray) (l0_3 : List ByteArray) (l0_4 : List (S82)) (l0_5 : List (S88)) (l0_6 : List (S88)) (l0_7 : List (S88)) (a1_0 : ByteArray) (a1_1 : Int) (l1_2 : List ByteArray) (l1_3 : List ByteArray) (l1_4 : List (S82)) (l1_5 : List (S88)) (l1_6 : List (S88)) (l1_7 : List (S88)) : Option Bool := if a0_0.toList = a1_0.toList then (if a0_1 = a1_1 then ((laws_eqStringS.f k l0_2 l1_2).bind fun t0 => (if t0 = true then ((laws_eqStringS.f k l0_3 l1_3).bind fun t1 => (if t1 = true then ((laws_eqParamS.f k l0_4 l1_4).bind fun t2 => (if t2 = true then ((laws_eqNodeS.f k l0_5 l1_5).bind fun t3 => (if t3 = true then ((laws_eqNodeS.f k l0_6 l1_6).bind fun t4 => (if t4 = true then ((laws_eqNodeS.f k l0_7 l1_7).bind fun t5 => (if t5 = true then (some true) else none)) else none)) else none)) else none)) else none)) else none)) else none) else none
theorem laws_eqProduct.mono : ∀ x0 x1 x2 x3 x4 x5 x6 x7 x8 x9 x10 x11 x12 x13 x14 x15 k, LeO (laws_eqProduct.f k x0 x1 x2 x3 x4 x5 x6 x7 x8 x9 x10 x11 x12 x13 x14 x15) (laws_eqProduct.f (k + 1) x0 x1 x2 x3 x4 x5 x6 x7 x8 x9 x10 x11 x12 x13 x14 x15) := by
 intro x0 x1 x2 x3 x4 x5 x6 x7 x8 x9 x10 x11 x12 x13 x14 x15 k
 unfold laws_eqProduct.f
 repeat' (with_reducible first | exact laws_eqNodeS.mono .. | exact laws_eqParamS.mono .. | exact laws_eqStringS.mono .. | exact LeO.refl _ | exact LeO.none _ | refine LeO.ite ?_ ?_ | refine LeO.bind ?_ (fun _ => ?_))
theorem laws_eqProduct.told {k : Nat} {a0_0 : ByteArray} {a0_1 : Int} {l0_2 : List ByteArray} {l0_3 : List ByteArray} {l0_4 : List (S82)} {l0_5 : List (S88)} {l0_6 : List (S88)} {l0_7 : List (S88)} {a1_0 : ByteArray} {a1_1 : Int} {l1_2 : List ByteArray} {l1_3 : List ByteArray} {l1_4 : List (S82)} {l1_5 : List (S88)} {l1_6 : List (S88)} {l1_7 : List (S88)} {r : Bool} (h : laws_eqProduct.f k a0_0 a0_1 l0_2 l0_3 l0_4 l0_5 l0_6 l0_7 a1_0 a1_1 l1_2 l1_3 l1_4 l1_5 l1_6 l1_7 = some r) : r = true ∧ a0_0 = a1_0 ∧ a0_1 = a1_1 ∧ laws_eqStringS.f k l0_2 l1_2 = some true ∧ laws_eqStringS.f k l0_3 l1_3 = some true ∧ laws_eqParamS.f k l0_4 l1_4 = some true ∧ laws_eqNodeS.f k l0_5 l1_5 = some true ∧ laws_eqNodeS.f k l0_6 l1_6 = some true ∧ laws_eqNodeS.f k l0_7 l1_7 = some true := by
 unfold laws_eqProduct.f at h
 by_cases c0 : a0_0.toList = a1_0.toList
 ·rw [if_pos c0] at h
  by_cases c1 : a0_1 = a1_1
  ·rw [if_pos c1] at h
   obtain ⟨t0, e0, h⟩ := Option.bind_eq_some_iff.mp h
   cases t0 with
   | false => rw [if_neg (by decide)] at h; cases h
   | true =>
   rw [if_pos rfl] at h
   obtain ⟨t1, e1, h⟩ := Option.bind_eq_some_iff.mp h
   cases t1 with
   | false => rw [if_neg (by decide)] at h; cases h
   | true =>
   rw [if_pos rfl] at h
   obtain ⟨t2, e2, h⟩ := Option.bind_eq_some_iff.mp h
   cases t2 with
   | false => rw [if_neg (by decide)] at h; cases h
   | true =>
   rw [if_pos rfl] at h
   obtain ⟨t3, e3, h⟩ := Option.bind_eq_some_iff.mp h
   cases t3 with
   | false => rw [if_neg (by decide)] at h; cases h
   | true =>
   rw [if_pos rfl] at h
   obtain ⟨t4, e4, h⟩ := Option.bind_eq_some_iff.mp h
   cases t4 with
   | false => rw [if_neg (by decide)] at h; cases h
   | true =>
   rw [if_pos rfl] at h
   obtain ⟨t5, e5, h⟩ := Option.bind_eq_some_iff.mp h
   cases t5 with
   | false => rw [if_neg (by decide)] at h; cases h
   | true =>
   rw [if_pos rfl] at h
   refine ⟨(Option.some.inj h).symm, ?_, c1, e0, e1, e2, e3, e4, e5⟩
   rw [Lib.toList_data, Lib.toList_data] at c0
   cases a0_0; cases a1_0
   simp only at c0
   rw [Array.toList_inj.1 c0]
  rw [if_neg c1] at h; cases h
 rw [if_neg c0] at h; cases h
theorem laws_eqProduct.fst (w : World) (o o' : Obj) : ((w.alloc o).alloc o').heap[w.heap.size]? = some o := by
 rw [Below.heap_alloc _ _ _ (by show _ < (w.heap.push _).size; simp)]
 show (w.heap.push _)[w.heap.size]? = _
 simp
theorem laws_eqProduct.snd (w : World) (o o' : Obj) : ((w.alloc o).alloc o').heap[w.heap.size + 1]? = some o' := by
 show ((w.heap.push o).push o')[w.heap.size + 1]? = _
 rw [show w.heap.size + 1 = (w.heap.push o).size by simp, Array.getElem?_push, if_pos rfl]
theorem laws_eqProduct.cells {w : World} {g : Nat} {t : TypeId} {v0 v1 v2 v3 v4 v5 v6 v7 : Value} (h : w.heap[g]? = some (.cells #[v0, v1, v2, v3, v4, v5, v6, v7] t (0, 0))) : w.cell? ⟨g, 0, none⟩ = some v0 ∧ w.cell? ⟨g, 1, none⟩ = some v1 ∧ w.cell? ⟨g, 2, none⟩ = some v2 ∧ w.cell? ⟨g, 3, none⟩ = some v3 ∧ w.cell? ⟨g, 4, none⟩ = some v4 ∧ w.cell? ⟨g, 5, none⟩ = some v5 ∧ w.cell? ⟨g, 6, none⟩ = some v6 ∧ w.cell? ⟨g, 7, none⟩ = some v7 := ⟨(blk_cell h 0).trans rfl, (blk_cell h 1).trans rfl, (blk_cell h 2).trans rfl, (blk_cell h 3).trans rfl, (blk_cell h 4).trans rfl, (blk_cell h 5).trans rfl, (blk_cell h 6).trans rfl, (blk_cell h 7).trans rfl⟩
set_option maxHeartbeats 8000000 in
set_option maxRecDepth 100000 in
theorem laws_eqProduct.calls (k : Nat) (a0_0 : ByteArray) (a0_1 : Int) (A0_2 : Option Addr) (c0_2 : Nat) (l0_2 : List ByteArray) (A0_3 : Option Addr) (c0_3 : Nat) (l0_3 : List ByteArray) (A0_4 : Option Addr) (c0_4 : Nat) (l0_4 : List (S82)) (A0_5 : Option Addr) (c0_5 : Nat) (l0_5 : List (S88)) (A0_6 : Option Addr) (c0_6 : Nat) (l0_6 : List (S88)) (A0_7 : Option Addr) (c0_7 : Nat) (l0_7 : List (S88)) (a1_0 : ByteArray) (a1_1 : Int) (A1_2 : Option Addr) (c1_2 : Nat) (l1_2 : List ByteArray) (A1_3 : Option Addr) (c1_3 : Nat) (l1_3 : List ByteArray) (A1_4 : Option Addr) (c1_4 : Nat) (l1_4 : List (S82)) (A1_5 : Option Addr) (c1_5 : Nat) (l1_5 : List (S88)) (A1_6 : Option Addr) (c1_6 : Nat) (l1_6 : List (S88)) (A1_7 : Option Addr) (c1_7 : Nat) (l1_7 : List (S88)) (r : Bool) (w : World) (hr0_2 : Kd.C Kd.string w A0_2 l0_2.length l0_2) (hc0_2 : l0_2.length ≤ c0_2) (hr0_3 : Kd.C Kd.string w A0_3 l0_3.length l0_3) (hc0_3 : l0_3.length ≤ c0_3) (hr0_4 : Kd.C k82 w A0_4 l0_4.length l0_4) (hc0_4 : l0_4.length ≤ c0_4) (hr0_5 : Kd.C k88 w A0_5 l0_5.length l0_5) (hc0_5 : l0_5.length ≤ c0_5) (hr0_6 : Kd.C k88 w A0_6 l0_6.length l0_6) (hc0_6 : l0_6.length ≤ c0_6) (hr0_7 : Kd.C k88 w A0_7 l0_7.length l0_7) (hc0_7 : l0_7.length ≤ c0_7) (hr1_2 : Kd.C Kd.string w A1_2 l1_2.length l1_2) (hc1_2 : l1_2.length ≤ c1_2) (hr1_3 : Kd.C Kd.string w A1_3 l1_3.length l1_3) (hc1_3 : l1_3.length ≤ c1_3) (hr1_4 : Kd.C k82 w A1_4 l1_4.length l1_4) (hc1_4 : l1_4.length ≤ c1_4) (hr1_5 : Kd.C k88 w A1_5 l1_5.length l1_5) (hc1_5 : l1_5.length ≤ c1_5) (hr1_6 : Kd.C k88 w A1_6 l1_6.length l1_6) (hc1_6 : l1_6.length ≤ c1_6) (hr1_7 : Kd.C k88 w A1_7 l1_7.length l1_7) (hc1_7 : l1_7.length ≤ c1_7) (h : laws_eqProduct.f k a0_0 a0_1 l0_2 l0_3 l0_4 l0_5 l0_6 l0_7 a1_0 a1_1 l1_2 l1_3 l1_4 l1_5 l1_6 l1_7 = some r) :
  Calls Try.prog 22 #[.agg #[.string a0_0, .int .i64 a0_1, .slice A0_2 l0_2.length c0_2, .slice A0_3 l0_3.length c0_3, .slice A0_4 l0_4.length c0_4, .slice A0_5 l0_5.length c0_5, .slice A0_6 l0_6.length c0_6, .slice A0_7 l0_7.length c0_7], .agg #[.string a1_0, .int .i64 a1_1, .slice A1_2 l1_2.length c1_2, .slice A1_3 l1_3.length c1_3, .slice A1_4 l1_4.length c1_4, .slice A1_5 l1_5.length c1_5, .slice A1_6 l1_6.length c1_6, .slice A1_7 l1_7.length c1_7]] w fun e w' => e = .returned (.bool r) ∧ Below w.heap.size w w' := by
 obtain ⟨rfl, rfl, rfl, e0, e1, e2, e3, e4, e5⟩ := laws_eqProduct.told h
 clear h
 have q0 := fun W (hb : Below w.heap.size w W) => laws_eqStringS.calls k A0_2 c0_2 l0_2 A1_2 c1_2 l1_2 true W (Kd.C_below hr0_2 hb) hc0_2 (Kd.C_below hr1_2 hb) hc1_2 e0
 have q1 := fun W (hb : Below w.heap.size w W) => laws_eqStringS.calls k A0_3 c0_3 l0_3 A1_3 c1_3 l1_3 true W (Kd.C_below hr0_3 hb) hc0_3 (Kd.C_below hr1_3 hb) hc1_3 e1
 have q2 := fun W (hb : Below w.heap.size w W) => laws_eqParamS.calls k A0_4 c0_4 l0_4 A1_4 c1_4 l1_4 true W (Kd.C_below hr0_4 hb) hc0_4 (Kd.C_below hr1_4 hb) hc1_4 e2
 have q3 := fun W (hb : Below w.heap.size w W) => laws_eqNodeS.calls k A0_5 c0_5 l0_5 A1_5 c1_5 l1_5 true W (Kd.C_below hr0_5 hb) hc0_5 (Kd.C_below hr1_5 hb) hc1_5 e3
 have q4 := fun W (hb : Below w.heap.size w W) => laws_eqNodeS.calls k A0_6 c0_6 l0_6 A1_6 c1_6 l1_6 true W (Kd.C_below hr0_6 hb) hc0_6 (Kd.C_below hr1_6 hb) hc1_6 e4
 have q5 := fun W (hb : Below w.heap.size w W) => laws_eqNodeS.calls k A0_7 c0_7 l0_7 A1_7 c1_7 l1_7 true W (Kd.C_below hr0_7 hb) hc0_7 (Kd.C_below hr1_7 hb) hc1_7 e5
 have hu := Try.underlying41
 have Q1 : ∀ {X W : World}, Below X.heap.size X W → Below w.heap.size w X → Below w.heap.size w W := fun a b => b.trans (a.mono (below_size b))
 clear hr0_2 hc0_2 hr0_3 hc0_3 hr0_4 hc0_4 hr0_5 hc0_5 hr0_6 hc0_6 hr0_7 hc0_7 hr1_2 hc1_2 hr1_3 hc1_3 hr1_4 hc1_4 hr1_5 hc1_5 hr1_6 hc1_6 hr1_7 hc1_7 e0 e1 e2 e3 e4 e5
 go_enter Try.func22, Try.ntmps22
 go_wp2_with (first | (go_at_call 60; (with_reducible first | refine (q0 _ ?hbl).mono ?_ | refine (q1 _ ?hbl).mono ?_); (case hbl => (repeat (first | exact HB.out | exact Below.refl _ _ | apply below_alloc | apply pw_below_drewN | apply below_drew))); rintro e w1 ⟨rfl, hd⟩; obtain ⟨nd, rfl⟩ := hd.out) | (go_at_call 61; (with_reducible refine (q2 _ ?hbl).mono ?_); (case hbl => (repeat (first | exact HB.out | exact Below.refl _ _ | apply below_alloc | apply pw_below_drewN | apply below_drew))); rintro e w1 ⟨rfl, hb⟩; have n1 := blk_below (g := w.heap.size) (by (with_reducible repeat (first | refine blk_drewN ?_ _ | refine blk_drew ?_)); first | exact B1.out | exact laws_eqProduct.fst _ _ _) hb; have n2 := blk_below (g := w.heap.size + 1) (by (with_reducible repeat (first | refine blk_drewN ?_ _ | refine blk_drew ?_)); first | exact B2.out | exact laws_eqProduct.snd _ _ _) hb; have n3 := am (Q1 hb (by repeat (first | exact HB.out | exact Below.refl _ _ | apply below_alloc | apply pw_below_drewN | apply below_drew))); (try clear B1 B2 HB); (try clear z0 z1 z2 z3 z4 z5 z6 z7); (try clear y0 y1 y2 y3 y4 y5 y6 y7); obtain ⟨z0, z1, z2, z3, z4, z5, z6, z7⟩ := laws_eqProduct.cells n1; obtain ⟨y0, y1, y2, y3, y4, y5, y6, y7⟩ := laws_eqProduct.cells n2; have B1 := Aside0.mk n1; have B2 := Aside0.mk n2; have HB := n3; clear n1 n2 n3 hb) | (go_at_call 62; (with_reducible first | refine (q3 _ ?hbl).mono ?_ | refine (q4 _ ?hbl).mono ?_ | refine (q5 _ ?hbl).mono ?_); (case hbl => (repeat (first | exact HB.out | exact Below.refl _ _ | apply below_alloc | apply pw_below_drewN | apply below_drew))); rintro e w1 ⟨rfl, hb⟩; have n1 := blk_below (g := w.heap.size) (by (with_reducible repeat (first | refine blk_drewN ?_ _ | refine blk_drew ?_)); first | exact B1.out | exact laws_eqProduct.fst _ _ _) hb; have n2 := blk_below (g := w.heap.size + 1) (by (with_reducible repeat (first | refine blk_drewN ?_ _ | refine blk_drew ?_)); first | exact B2.out | exact laws_eqProduct.snd _ _ _) hb; have n3 := am (Q1 hb (by repeat (first | exact HB.out | exact Below.refl _ _ | apply below_alloc | apply pw_below_drewN | apply below_drew))); (try clear B1 B2 HB); (try clear z0 z1 z2 z3 z4 z5 z6 z7); (try clear y0 y1 y2 y3 y4 y5 y6 y7); obtain ⟨z0, z1, z2, z3, z4, z5, z6, z7⟩ := laws_eqProduct.cells n1; obtain ⟨y0, y1, y2, y3, y4, y5, y6, y7⟩ := laws_eqProduct.cells n2; have B1 := Aside0.mk n1; have B2 := Aside0.mk n2; have HB := n3; clear n1 n2 n3 hb))
 go_ret
 exact ⟨rfl, by repeat (first | exact HB.out | apply pw_below_drewN | apply below_drew)⟩

end Go.Proofs.Ytpblcdafmpfemaa.PFnExactProductSame
