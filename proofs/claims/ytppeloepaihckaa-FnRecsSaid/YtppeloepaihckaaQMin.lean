import Derived.Test.YtppeloepaihckaaQAut
namespace Go.Proofs.YtppeloepaihckaaW.PrintWords
open Go.RowKit Go.Proofs.YtppeloepaihckaaW.PrintLast Go.Proofs.YtppeloepaihckaaW.PrintMore
section
variable {α β : Type} {c : Prop} [Decidable c] {a b : Option α} {r : α}
theorem jz (h : (if c then a else none) = some r) : c ∧ a = some r := by
  by_cases e : c
  · rw [if_pos e] at h; exact ⟨e, h⟩
  · rw [if_neg e] at h; exact absurd h (by simp)
theorem j9 (h : (if c then none else b) = some r) : ¬ c ∧ b = some r := by
  by_cases e : c
  · rw [if_pos e] at h; exact absurd h (by simp)
  · rw [if_neg e] at h; exact ⟨e, h⟩
theorem jB (h : (if c then a else b) = some r) : (c ∧ a = some r) ∨ (¬ c ∧ b = some r) := by
  by_cases e : c
  · rw [if_pos e] at h; exact .inl ⟨e, h⟩
  · rw [if_neg e] at h; exact .inr ⟨e, h⟩
theorem iT {x : Bool} (h : (if x = true then a else b) = some r) : (x = true ∧ a = some r) ∨ (x = false ∧ b = some r) := by
  rcases jB h with ⟨e, h⟩ | ⟨e, h⟩
  · exact .inl ⟨e, h⟩
  · exact .inr ⟨Bool.eq_false_iff.mpr e, h⟩
theorem i8 {x : Bool} (h : (if x = true then none else b) = some r) : x = false ∧ b = some r := ⟨Bool.eq_false_iff.mpr (j9 h).1, (j9 h).2⟩
theorem bi {x : Option β} {f : β → Option α} (h : x.bind f = some r) : ∃ t, Aside0 (x = some t) ∧ f t = some r := by
  obtain ⟨t, e, h⟩ := Option.bind_eq_some_iff.mp h
  exact ⟨t, ⟨e⟩, h⟩
variable {C : Prop}
theorem bj {x : Option β} {f : β → Option α} (k : ∀ t, Aside0 (x = some t) → f t = some r → C) (h : x.bind f = some r) : C := (bi h).elim fun t h => k t h.1 h.2
theorem i0 (k : c → a = some r → C) (h : (if c then a else none) = some r) : C := k (jz h).1 (jz h).2
theorem i1 (k : decide c = true → a = some r → C) (h : (if c then a else none) = some r) : C := k (decide_eq_true (jz h).1) (jz h).2
theorem i2 (k : (c = True) → decide c = true → a = some r → C) (h : (if c then a else none) = some r) : C := k (eq_true (jz h).1) (decide_eq_true (jz h).1) (jz h).2
theorem i9 (k : ¬ c → b = some r → C) (h : (if c then none else b) = some r) : C := k (j9 h).1 (j9 h).2
theorem iB (k : c → a = some r → C) (k' : ¬ c → b = some r → C) (h : (if c then a else b) = some r) : C := (jB h).elim (fun e => k e.1 e.2) fun e => k' e.1 e.2
theorem iD (k : decide c = true → a = some r → C) (k' : ¬ c → decide c = false → b = some r → C) : (if c then a else b) = some r → C := iB (fun e => k (decide_eq_true e)) fun e => k' e (decide_eq_false e)
theorem iQ [BEq β] [LawfulBEq β] {x y : β} [Decidable (x = y)] (k : (x == y) = true → (x != y) = false → a = some r → C) (k' : ¬ x = y → (x == y) = false → (x != y) = true → b = some r → C) : (if x = y then a else b) = some r → C := iB (fun e => k (beq_iff_eq.mpr e) (bne_eq_false_iff_eq.mpr e)) fun e => k' e (beq_eq_false_iff_ne.mpr e) (bne_iff_ne.mpr e)
theorem iL {x : List UInt8} (k : (x == []) = true → x.isEmpty = true → (x != []) = false → a = some r → C) (k' : ¬ x = [] → (x == []) = false → x.isEmpty = false → (x != []) = true → b = some r → C) : (if x = [] then a else b) = some r → C := iB (fun e => k (beq_iff_eq.mpr e) (by simpa using e) (bne_eq_false_iff_eq.mpr e)) fun e => k' e (beq_eq_false_iff_ne.mpr e) (by simpa using e) (bne_iff_ne.mpr e)
theorem iDb (k : decide c = true → a = some r → C) (k' : decide c = false → b = some r → C) : (if c then a else b) = some r → C := iB (fun e => k (decide_eq_true e)) fun e => k' (decide_eq_false e)
theorem iQb [BEq β] [LawfulBEq β] {x y : β} [Decidable (x = y)] (k : (x == y) = true → (x != y) = false → a = some r → C) (k' : (x == y) = false → (x != y) = true → b = some r → C) : (if x = y then a else b) = some r → C := iB (fun e => k (beq_iff_eq.mpr e) (bne_eq_false_iff_eq.mpr e)) fun e => k' (beq_eq_false_iff_ne.mpr e) (bne_iff_ne.mpr e)
theorem iLb {x : List UInt8} (k : (x == []) = true → x.isEmpty = true → (x != []) = false → a = some r → C) (k' : (x == []) = false → x.isEmpty = false → (x != []) = true → b = some r → C) : (if x = [] then a else b) = some r → C := iB (fun e => k (beq_iff_eq.mpr e) (by simpa using e) (bne_eq_false_iff_eq.mpr e)) fun e => k' (beq_eq_false_iff_ne.mpr e) (by simpa using e) (bne_iff_ne.mpr e)
theorem iDn (k : c → decide c = true → a = some r → C) (k' : ¬ c → decide c = false → b = some r → C) : (if c then a else b) = some r → C := iB (fun e => k e (decide_eq_true e)) fun e => k' e (decide_eq_false e)
theorem iQn [BEq β] [LawfulBEq β] {x y : β} [Decidable (x = y)] (k : x = y → (x == y) = true → (x != y) = false → a = some r → C) (k' : ¬ x = y → (x == y) = false → (x != y) = true → b = some r → C) : (if x = y then a else b) = some r → C := iB (fun e => k e (beq_iff_eq.mpr e) (bne_eq_false_iff_eq.mpr e)) fun e => k' e (beq_eq_false_iff_ne.mpr e) (bne_iff_ne.mpr e)
theorem iLn {x : List UInt8} (k : x = [] → (x == []) = true → x.isEmpty = true → (x != []) = false → a = some r → C) (k' : ¬ x = [] → (x == []) = false → x.isEmpty = false → (x != []) = true → b = some r → C) : (if x = [] then a else b) = some r → C := iB (fun e => k e (beq_iff_eq.mpr e) (by simpa using e) (bne_eq_false_iff_eq.mpr e)) fun e => k' e (beq_eq_false_iff_ne.mpr e) (by simpa using e) (bne_iff_ne.mpr e)
theorem iDm (k : c → decide c = true → a = some r → C) (k' : decide c = false → b = some r → C) : (if c then a else b) = some r → C := iB (fun e => k e (decide_eq_true e)) fun e => k' (decide_eq_false e)
theorem iQm [BEq β] [LawfulBEq β] {x y : β} [Decidable (x = y)] (k : x = y → (x == y) = true → (x != y) = false → a = some r → C) (k' : (x == y) = false → (x != y) = true → b = some r → C) : (if x = y then a else b) = some r → C := iB (fun e => k e (beq_iff_eq.mpr e) (bne_eq_false_iff_eq.mpr e)) fun e => k' (beq_eq_false_iff_ne.mpr e) (bne_iff_ne.mpr e)
theorem iLm {x : List UInt8} (k : x = [] → (x == []) = true → x.isEmpty = true → (x != []) = false → a = some r → C) (k' : (x == []) = false → x.isEmpty = false → (x != []) = true → b = some r → C) : (if x = [] then a else b) = some r → C := iB (fun e => k e (beq_iff_eq.mpr e) (by simpa using e) (bne_eq_false_iff_eq.mpr e)) fun e => k' (beq_eq_false_iff_ne.mpr e) (by simpa using e) (bne_iff_ne.mpr e)
theorem iR [BEq β] [LawfulBEq β] {x y : β} [Decidable (x = y)] (k : (x == y) = true → decide (x = y) = true → a = some r → C) (k' : (x == y) = false → decide (x = y) = false → ¬ x = y → b = some r → C) : (if (x == y) = true then a else b) = some r → C :=
  iB (fun e => k e (by simpa using e)) fun e => k' (by simpa using e) (by simpa using e) (by simpa using e)
theorem iK {x : List UInt8} [Decidable (x = [])] (k : (x == []) = true → decide (x = []) = true → x.isEmpty = true → a = some r → C) (k' : (x == []) = false → decide (x = []) = false → x.isEmpty = false → ¬ x = [] → b = some r → C) : (if (x == []) = true then a else b) = some r → C :=
  iR (fun e f => k e f (by simpa using e)) fun e f g => k' e f (by simpa using g) g
end
theorem ne1 {w0 W : World} {g g' : Nat} {o : Obj} (hg : g' = W.heap.size) (h : w0.heap[g]? = some o) (f : w0.heap[g]? = some o → W.heap[g]? = some o := by intro h_; (with_reducible repeat (first | refine blk_drewN ?_ _ | refine blk_drew ?_ | refine blk_alloc ?_ _)); exact h_) : g ≠ g' := hg ▸ Nat.ne_of_lt (blk_lt (f h))
theorem bf {g g' : Nat} {o : Obj} {w0 w : World} (h : w0.heap[g]? = some o) (n : g ≠ g') (f : g ≠ g' → w0.heap[g]? = some o → w.heap[g]? = some o := by intro n_ h_; repeat (with_reducible first | exact h_ | refine blk_drewN ?_ _ | refine blk_drew ?_ | refine blk_alloc ?_ _ | exact n_ | apply blk_far)) : w.heap[g]? = some o := f n h
theorem bp {g : Nat} {o o' : Obj} {w0 w : World} (h : w0.heap[g]? = some o) (f : w0.heap[g]? = some o → w.heap[g]? = some o' := by intro h_; repeat (first | (with_reducible first | exact h_ | refine blk_drewN ?_ _ | refine blk_drew ?_ | refine blk_alloc ?_ _ | apply blk_put) | (simp only [z1, z2, z3]; done) | (simp only [z1, z2, z3]; rfl))) : w.heap[g]? = some o' := f h
theorem bpf {g g' : Nat} {o o' : Obj} {w0 w : World} (h : w0.heap[g]? = some o) (n : g ≠ g') (f : g ≠ g' → w0.heap[g]? = some o → w.heap[g]? = some o' := by intro n_ h_; repeat (first | (with_reducible first | exact h_ | refine blk_drewN ?_ _ | refine blk_drew ?_ | refine blk_alloc ?_ _ | exact n_ | apply blk_put | apply blk_far) | (simp only [z1, z2, z3]; done) | (simp only [z1, z2, z3]; rfl))) : w.heap[g]? = some o' := f n h
section
variable {P : Program} {ops : Array Oper} {Q : Exit → Act → World → Prop} {md : Region.Mode} {S S2 : World → Prop} {ds : List Nat}
theorem g_ {rest : List Oper} {oi : Oper} {a : Act} {w : World} (N : Tmp) (h : wpList P ops Q (oi :: rest) a w) (_h : oi.dst = some N := by rfl) : wpList P ops Q (oi :: rest) a w := h
theorem c_ {rest : List Oper} {oi : Oper} {a : Act} {w : World} (f : FuncId) {as : Array Operand} {ts : Array TypeId} (h : wpList P ops Q (oi :: rest) a w) (_h : oi.op = .call { callee := .value (.func f), args := as, argTypes := ts } := by rfl) : wpList P ops Q (oi :: rest) a w := h
theorem gc {rest : List Oper} {oi : Oper} {a : Act} {w : World} (f : FuncId) (N : Option Tmp) {fn : Func} {args : Array Value} {as : Array Operand} {ts : Array TypeId} {R : _} (hf : P.funcs[f]? = some fn) (hc : Calls P f args w R)
    (h : ∀ e w', R e w' → ∃ v, e = .returned v ∧ wpList P ops Q rest (a.put N v) w') (hop : oi.op = .call { callee := .value (.func f), args := as, argTypes := ts } := by with_reducible rfl) (hd : oi.dst = N := by exact rfl) (hg : oi.guard = none := by exact rfl)
    (hname : (fn.name == "runtime.NumGoroutine") = false := by kernel_rfl) (hb : fn.body.isSome = true := by exact rfl) (ha : as.map a.eval = args := by (try simp only [List.map_toArray, List.map_cons, List.map_nil]); first | done | rfl | (simp only [List.length_drop, List.length_take]; rfl)) : wpList P ops Q (oi :: rest) a w := goesL_ N hd hg hf hname hb args hop ha (hc.mono h)
theorem gk {oi : Oper} {N : Option Tmp} {a : Act} {w : World} {K : Act → World → Prop} {f : FuncId} {fn : Func} {args : Array Value} {as : Array Operand} {ts : Array TypeId} {R : _} (hf : P.funcs[f]? = some fn) (hc : Calls P f args w R)
    (h : ∀ e w', R e w' → ∃ v, e = .returned v ∧ K (a.put N v) w') (hw : Region.wanted oi (yielded ops a.tmps) = true := by rfl) (hN : oi.dst = N := by exact rfl) (hop : oi.op = .call { callee := .value (.func f), args := as, argTypes := ts } := by exact rfl)
    (hname : (fn.name == "runtime.NumGoroutine") = false := by kernel_rfl) (hb : fn.body.isSome = true := by exact rfl) (ha : as.map a.eval = args := by (try simp only [List.map_toArray, List.map_cons, List.map_nil]); first | done | rfl | (simp only [List.length_drop, List.length_take]; rfl)) : if Region.wanted oi (yielded ops a.tmps) = true then Oper.wp P oi a w K Q else K (a.put N undef) w := goes_ hf hname hb args hw hN hop ha (hc.mono h)
theorem bx {o : Oper} {rest : List Oper} {a : Act} {W : World} (N : Tmp) (cs : Array Value) (t : TypeId)
    (h : ∀ g, g = W.heap.size → ∀ w1, w1.heap[g]? = some (.cells cs t (0, 0)) → Below W.heap.size W w1 → wpList P ops Q rest (a.put o.dst (.pointer (some ⟨g, 0, none⟩))) w1) (hd : o.dst = some N := by with_reducible rfl) (hg : o.guard = none := by rfl)
    (hr : (execOp a.eval o).run P W = .ok (.value (.pointer (some ⟨W.heap.size, 0, none⟩))) (W.alloc (.cells cs t (0, 0))) := by first | (go_simp; done) | (go_simp; rfl)) : wpList P ops Q (o :: rest) a W := box_event hg hd hr h
theorem pv (i : Nat) (N : Tmp) {oi : Oper} {v : Value} {fuel : Nat} {l : Array Bool} {a : Act} {w : World} {a' : Act} (h : wpAnyLast P md ops Q S ds fuel (l.setIfInBounds i true) a' w) (hi : ops[i]? = some oi := by exact rfl) (hN : oi.dst = some N := by exact rfl)
    (hc : anyB md ops l (l.setIfInBounds i true) i = true := by first | exact any_of HT_.out (by kernel_rfl) | kernel_rfl) (hQ : ∀ c a w, Q (.panic c) (a.put oi.dst v) w → Q (.panic c) a w := by exact fun _ _ _ h => h)
    (hy : Yields P ops oi v a := by (refine Or.inl ⟨by rfl, ?_⟩; intro w'; go_simp; with_reducible rfl)) (ha : a.put (some N) v = a' := by (simp only [Act.put, z1, z2, z3, i64_w, i32_w]; rfl)) : wpAnyLast P md ops Q S ds (fuel + 1) l a w := pure_ _ hi hN hc hQ hy ha h
theorem ov (i : Nat) (N : Tmp) {oi : Oper} {fuel : Nat} {l : Array Bool} {a : Act} {w : World}
    (h : ∀ K : Act → World → Prop, Shut (∀ a' w', S w' → (S w' → wpAnyLast P md ops Q S ds fuel (l.setIfInBounds i true) a' w') → K a' w') → if Region.wanted oi (yielded ops a.tmps) = true then Oper.wp P oi a w K Q else K (a.put (some N) undef) w)
    (hi : ops[i]? = some oi := by exact rfl) (hN : oi.dst = some N := by exact rfl) (hc : readyB md ops l (l.setIfInBounds i true) i = true := by first | exact one_of HT_.out (by kernel_rfl) | kernel_rfl) (hd : i ∉ ds := by decide) : wpAnyLast P md ops Q S ds (fuel + 1) l a w := one_ _ hi hN hc hd h
theorem tv5 (i : Nat) (N : Tmp) {oi : Oper} {v : Value} {fuel : Nat} {l : Array Bool} {a : Act} {w : World} {a' : Act} (hS : S w) (h : wpAnyLast P md ops Q S ds fuel (l.setIfInBounds i true) a' w) (hi : ops[i]? = some oi := by exact rfl) (hN : oi.dst = some N := by exact rfl)
    (hc : takeB md ops ds l (l.setIfInBounds i true) i = true := by first | exact take_ofW HT_.out HW_.out (by kernel_rfl) | exact take_of HT_.out (by kernel_rfl) | kernel_rfl) (hQ : ∀ c a w, Q (.panic c) (a.put oi.dst v) w → Q (.panic c) a w := by exact fun _ _ _ h => h)
    (hy : YieldsIf P ops S oi v a := by (refine Or.inl ⟨by rfl, ?_⟩; rintro w' ⟨s0, s1, s2, s3, s4⟩; go_simp; with_reducible rfl)) (ha : a.put (some N) v = a' := by (simp only [Act.put, z1, z2, z3, i64_w, i32_w]; rfl)) : wpAnyLast P md ops Q S ds (fuel + 1) l a w := take_ _ hi hN hc hQ hy hS ha h
end
theorem mo {α : Type} {a b : Option α} (h : LeO a b := by repeat' (with_reducible first | exact ih0 .. | exact LeO.refl _ | exact LeO.none _ | refine LeO.ite ?_ ?_ | refine LeO.bind ?_ (fun _ => ?_))) : LeO a b := h
theorem ro {α : Type} {d : Kd α} {e : Nat} {w0 w w1 : World} {base : Nat} {ok : Nat → Prop} {v : Value} {xs : List α} (h : Aside0 (d.R e w0 base ok v xs)) (hb : Below w.heap.size w w1) (f : d.R e w0 base ok v xs → d.R e w base ok v xs := by intro h_; (with_reducible repeat (first | apply Kd.R_alloc | apply Kd.R_drewN | apply Kd.R_drew)); exact h_) : Aside0 (d.R e w1 base ok v xs) := ⟨Kd.R_below (f h.out) hb⟩
theorem bo {g : Nat} {o : Obj} {w0 w w1 : World} (h : Aside0 (w0.heap[g]? = some o)) (hb : Below w.heap.size w w1) (f : w0.heap[g]? = some o → w.heap[g]? = some o := by intro h_; (with_reducible repeat (first | refine blk_drewN ?_ _ | refine blk_drew ?_ | refine blk_alloc ?_ _)); exact h_) : Aside0 (w1.heap[g]? = some o) := ⟨blk_below (f h.out) hb⟩
theorem ho {w w1 w2 : World} (hb : Below w1.heap.size w1 w2) (h : Below w.heap.size w w1 := by repeat (first | (with_reducible first | exact HB.out | apply below_alloc | apply pw_below_drewN | apply below_drew1 | refine below_set ?_ (Aside0.out (by assumption))) | exact HB.out)) : Aside0 (Below w.heap.size w w2) := ⟨below_step h hb⟩
theorem no {w0 W : World} {g g' : Nat} {o : Obj} (hg : g' = W.heap.size) (h : Aside0 (w0.heap[g]? = some o)) (f : w0.heap[g]? = some o → W.heap[g]? = some o := by intro h_; (with_reducible repeat (first | refine blk_drewN ?_ _ | refine blk_drew ?_ | refine blk_alloc ?_ _)); exact h_) : Aside0 (g ≠ g') := ⟨ne1 hg (f h.out)⟩
theorem rfar {α : Type} {d : Kd α} {e : Nat} {w0 w : World} {base : Nat} {ok : Nat → Prop} {v : Value} {xs : List α} (h : d.R e w0 base ok v xs) (f : d.R e w0 base ok v xs → d.R e w base ok v xs := by intro h_; repeat (with_reducible first | exact h_ | apply Kd.R_alloc | apply Kd.R_drewN | apply Kd.R_drew | refine Kd.R_far ?_ (fun _ hk => by first | exact hk.2 | exact hk.1.2 | exact hk.1.1.2 | exact hk.1.1.1.2) _)) : d.R e w base ok v xs := f h
theorem rt {α : Type} {d : Kd α} {e g t : Nat} {cells : Array Value} {w0 w w1 : World} {base : Nat} {ok : Nat → Prop} {v : Value} {xs : List α} (h : Aside0 (d.R e w0 base ok v xs)) (b : Aside0 (w0.heap[g]? = some (.cells cells t (0, 0)))) (hb : Below w.heap.size w w1) (ht : ∀ q, q ∈ e :: d.E → q ≠ t := by decide)
    (f : d.R e w0 base (fun k => ok k ∧ k ≠ g) v xs → d.R e w base (fun k => ok k ∧ k ≠ g) v xs := by intro h_; repeat (with_reducible first | exact h_ | apply Kd.R_alloc | apply Kd.R_drewN | apply Kd.R_drew | refine Kd.R_far ?_ (fun _ hk => by first | exact hk.2 | exact hk.1.2 | exact hk.1.1.2 | exact hk.1.1.1.2) _)) : Aside0 (d.R e w1 base ok v xs) := ⟨Kd.R_below (Kd.R_mono (f (Kd.R_types h.out b.out ht)) (fun _ h_ => h_.1)) hb⟩


theorem r2_ {W W1 : World} {p0 q0 p1 q1 C : Prop} (hb : Below W.heap.size W W1) (h0 : p0) (h1 : p1) (k : q0 → q1 → C) (f0 : Below W.heap.size W W1 → p0 → q0 := by first | exact fun b_ h_ => ro h_ b_ | exact fun b_ h_ => bo h_ b_) (f1 : Below W.heap.size W W1 → p1 → q1 := by first | exact fun b_ h_ => ro h_ b_ | exact fun b_ h_ => bo h_ b_) : C := k (f0 hb h0) (f1 hb h1)
theorem r3_ {W W1 : World} {p0 q0 p1 q1 p2 q2 C : Prop} (hb : Below W.heap.size W W1) (h0 : p0) (h1 : p1) (h2 : p2) (k : q0 → q1 → q2 → C) (f0 : Below W.heap.size W W1 → p0 → q0 := by first | exact fun b_ h_ => ro h_ b_ | exact fun b_ h_ => bo h_ b_) (f1 : Below W.heap.size W W1 → p1 → q1 := by first | exact fun b_ h_ => ro h_ b_ | exact fun b_ h_ => bo h_ b_) (f2 : Below W.heap.size W W1 → p2 → q2 := by first | exact fun b_ h_ => ro h_ b_ | exact fun b_ h_ => bo h_ b_) : C := k (f0 hb h0) (f1 hb h1) (f2 hb h2)
abbrev Sb4a1 (g0 : Nat) (v0_0 v0_1 v0_2 v0_3 : Value) (g1 : Addr) (v1_0 : Value) (w : World) : Prop := w.cell? ⟨g0, 0, none⟩ = some v0_0 ∧ w.cell? ⟨g0, 1, none⟩ = some v0_1 ∧ w.cell? ⟨g0, 2, none⟩ = some v0_2 ∧ w.cell? ⟨g0, 3, none⟩ = some v0_3 ∧ w.cell? g1 = some v1_0
theorem dr {w w1 : World} (h : Drawn0 w w1 := by repeat (first | exact Drawn0.refl _ | apply Drawn0.step)) : Drawn0 w w1 := h
theorem rs {α : Type} {a b : α} (h : a = b := by first | rfl | (simp; done) | (simp [*]; done) | (simp [isE_bne]; done)) : a = b := h

end Go.Proofs.YtppeloepaihckaaW.PrintWords
