/- At every module the program's ModuleBytes is the reference's ModuleBytes. No condition beyond the row's own. -/
import Derived.Test.YtpblcdafmpfemaaPFnExactModuleBytesx13
import Derived.Test.YtpblcdafmpfemaaQLib
import Derived.Test.YtpblcdafmpfemaaQLoops
namespace Go.Proofs.Ytpblcdafmpfemaa.Pure
set_option linter.unusedSimpArgs false
set_option linter.unusedVariables false
open Go.RowKit Go.Proofs.Ytpblcdafmpfemaa.PFnExactModuleBytes Go.Proofs.YtpblcdafmpfemaaW.PrintWords Go.Proofs.YtpblcdafmpfemaaW.PrintLast Go.Proofs.YtpblcdafmpfemaaW.PrintMore
open Go.Proofs.Ytpblcdafmpfemaa.Q
theorem right_same (a : Int) : impl_MoneyRight.f a = spec_MoneyRight.f a := by
  simp only [spec_MoneyRight.f, impl_MoneyRight.f, impl_in.f, ge_iff_le]
  by_cases h1 : (-1000000000000 : Int) ≤ a
  · simp only [if_pos h1, Option.bind_some]
  · simp only [if_neg h1, Option.bind_some]
/-- Is it money? -/
def mr (a : Int) : Bool := decide (-1000000000000 ≤ a ∧ a ≤ 1000000000000)
theorem right_is (a : Int) : spec_MoneyRight.f a = some (mr a) := by
  simp only [spec_MoneyRight.f, ge_iff_le, mr]
  by_cases h1 : (-1000000000000 : Int) ≤ a
  · simp [h1]
  · simp [h1]

def iB (lo hi x : Int) : Bool := decide (lo ≤ x) && decide (x ≤ hi)
theorem implIn (x lo hi : Int) : impl_in.f x lo hi = some (iB lo hi x) := by
  unfold impl_in.f iB
  by_cases h : lo ≤ x
  · rw [if_pos h, decide_eq_true h, Bool.true_and]
  · rw [if_neg h, decide_eq_false h, Bool.false_and]
theorem specIn (x lo hi : Int) : spec_l10In.f x lo hi = some (iB lo hi x) := by
  unfold spec_l10In.f iB
  by_cases h : lo ≤ x
  · rw [if_pos h, decide_eq_true h, Bool.true_and]
  · rw [if_neg h, decide_eq_false h, Bool.false_and]
/-- An instruction that is right: the numbers of the module are in their bounds. -/
def insB (m1 m2 m3 : Int) (n : Nat) (op a b : Int) : Bool :=
  if op = 23 then iB 0 (m2 - 1) a && iB 0 (m2 - 1) b else (b == 0) && (if op = 2 then mr a else if op = 3 ∨ op = 4 then iB 0 49 a else if op = 5 then iB 0 (m3 - 1) a else if op = 6 then iB 0 (m1 - 1) a else if op = 20 then iB 1 7 a
    else if op = 21 ∨ op = 22 then iB 0 ((n : Int) - 1) a else if op = 24 then iB 1 99 a else iB 1 26 op && (a == 0))
theorem some_and (p q : Bool) : (if p = true then some q else some false) = some (p && q) := by cases p <;> rfl
theorem and3 (p q r : Bool) : (if p = true then (if q = true then some r else some false) else some false) = some (p && (q && r)) := by cases p <;> cases q <;> rfl
theorem implIns (m0 m1 m2 m3 : Int) (l : List S93) (hl : l.length ≤ 2000) (h1 : 0 ≤ m1 ∧ m1 ≤ 100) (h2 : 0 ≤ m2 ∧ m2 ≤ 100) (h3 : 0 ≤ m3 ∧ m3 ≤ 100) (op a b : Int) : ∀ k, impl_InsRight.f (k + 3) m0 m1 m2 m3 l op a b = some (insB m1 m2 m3 l.length op a b) := by
  intro k
  have w1 : wrap64 (m1 - 1) = m1 - 1 := w64 (by omega) (by omega)
  have w2 : wrap64 (m2 - 1) = m2 - 1 := w64 (by omega) (by omega)
  have w3 : wrap64 (m3 - 1) = m3 - 1 := w64 (by omega) (by omega)
  have w4 : wrap64 ((l.length : Int) - 1) = (l.length : Int) - 1 := w64 (by omega) (by omega)
  have hm : impl_MoneyRight.f a = some (mr a) := by rw [right_same, right_is]
  simp only [impl_InsRight.f, impl_InsRight.j0, impl_InsRight.j1, hm, implIn, Option.bind_some, w1, w2, w3, w4, and3]
  unfold insB
  by_cases c2 : op = 2
  · subst c2; simp [iB]; exact Bool.and_comm _ _
  by_cases c3 : op = 3
  · subst c3; simp [iB]; exact Bool.and_comm _ _
  by_cases c4 : op = 4
  · subst c4; simp [iB]; exact Bool.and_comm _ _
  by_cases c5 : op = 5
  · subst c5; simp [iB]; exact Bool.and_comm _ _
  by_cases c6 : op = 6
  · subst c6; simp [iB]; exact Bool.and_comm _ _
  by_cases c20 : op = 20
  · subst c20; simp [iB]; exact Bool.and_comm _ _
  by_cases c21 : op = 21
  · subst c21; simp [iB]; exact Bool.and_comm _ _
  by_cases c22 : op = 22
  · subst c22; simp [iB]; exact Bool.and_comm _ _
  by_cases c23 : op = 23
  · subst c23; simp [iB]
  by_cases c24 : op = 24
  · subst c24; simp [iB]; exact Bool.and_comm _ _
  simp [c2, c3, c4, c5, c6, c20, c21, c22, c23, c24]
  cases iB 1 26 op <;> cases (b == 0) <;> cases (a == 0) <;> rfl
theorem specIns (m0 m1 m2 m3 : Int) (l : List S93) (op a b : Int) : ∀ k, spec_InsRight.f (k + 4) m0 m1 m2 m3 l op a b = some (insB m1 m2 m3 l.length op a b) := by
  intro k
  simp only [spec_InsRight.f, spec_InsRight.j0, spec_InsRight.j1, spec_InsRight.j2, right_is, specIn, Option.bind_some]
  unfold insB
  have z : ∀ m : Int, (if a ≥ 0 then some (decide (a < m)) else some false) = some (iB 0 (m - 1) a) := fun m => by
    unfold iB
    by_cases h : 0 ≤ a
    · rw [if_pos h, decide_eq_true h, Bool.true_and]; congr 1; rw [decide_eq_decide]; omega
    · rw [if_neg h, decide_eq_false h, Bool.false_and]
  have z2 : (if a ≥ 0 then if a < m2 then if b ≥ 0 then some (decide (b < m2)) else some false else some false else some false) = some (iB 0 (m2 - 1) a && iB 0 (m2 - 1) b) := by
    unfold iB
    by_cases h : 0 ≤ a
    · by_cases h' : a < m2
      · by_cases h'' : 0 ≤ b
        · rw [if_pos h, if_pos h', if_pos h'', decide_eq_true h, decide_eq_true h'', decide_eq_true (show a ≤ m2 - 1 by omega), Bool.true_and, Bool.true_and, Bool.true_and]; congr 1; rw [decide_eq_decide]; omega
        · rw [if_pos h, if_pos h', if_neg h'', decide_eq_false h'', Bool.false_and, Bool.and_false]
      · rw [if_pos h, if_neg h', decide_eq_false (show ¬ a ≤ m2 - 1 by omega), Bool.and_false, Bool.false_and]
    · rw [if_neg h, decide_eq_false h, Bool.false_and, Bool.false_and]
  have z3 : (if op ≥ 1 then if op ≤ 26 then some (a == 0) else some false else some false) = some (iB 1 26 op && (a == 0)) := by
    unfold iB
    by_cases h : 1 ≤ op
    · by_cases h' : op ≤ 26
      · rw [if_pos h, if_pos h', decide_eq_true h, decide_eq_true h']; rfl
      · rw [if_pos h, if_neg h', decide_eq_false h', Bool.and_false, Bool.false_and]
    · rw [if_neg h, decide_eq_false h, Bool.false_and, Bool.false_and]
  simp only [z, z2, z3]
  have hb : (b != 0) = !(b == 0) := rfl
  by_cases c23 : op = 23
  · subst c23; simp
  simp only [if_neg c23, hb]
  cases (b == 0) with
  | false => simp
  | true =>
    simp only [Bool.not_true, Bool.false_eq_true, if_false, Bool.true_and]
    by_cases c2 : op = 2
    · subst c2; simp
    by_cases c3 : op = 3
    · subst c3; simp
    by_cases c4 : op = 4
    · subst c4; simp
    by_cases c5 : op = 5
    · subst c5; simp
    by_cases c6 : op = 6
    · subst c6; simp
    by_cases c20 : op = 20
    · subst c20; simp
    by_cases c21 : op = 21
    · subst c21; simp
    by_cases c22 : op = 22
    · subst c22; simp
    by_cases c24 : op = 24
    · subst c24; simp
    simp [c2, c3, c4, c5, c6, c20, c21, c22, c24]

/-- How many an instruction takes, and how many it puts. -/
def tk (op a : Int) : Int × Int := if op = 2 ∨ op = 3 ∨ (5 ≤ op ∧ op ≤ 10) then (0, 1) else if op = 4 ∨ op = 21 ∨ op = 23 ∨ op = 25 then (1, 0) else if 11 ≤ op ∧ op ≤ 18 then (2, 1) else if op = 19 then (1, 1) else if op = 20 then (if a = 1 ∨ a = 2 then 4 else 2, 1) else (0, 0)
def opOk (op a : Int) : Prop := 1 ≤ op ∧ op ≤ 26 ∧ (op = 20 → 1 ≤ a ∧ a ≤ 7)
theorem tk_range (op a : Int) : 0 ≤ (tk op a).1 ∧ (tk op a).1 ≤ 4 ∧ 0 ≤ (tk op a).2 ∧ (tk op a).2 ≤ 1 := by
  unfold tk; repeat' split
  all_goals simp
theorem ops26 {op : Int} (h : 1 ≤ op ∧ op ≤ 26) : op = 1 ∨ op = 2 ∨ op = 3 ∨ op = 4 ∨ op = 5 ∨ op = 6 ∨ op = 7 ∨ op = 8 ∨ op = 9 ∨ op = 10 ∨ op = 11 ∨ op = 12 ∨ op = 13 ∨ op = 14 ∨ op = 15 ∨ op = 16 ∨ op = 17 ∨ op = 18 ∨ op = 19 ∨ op = 20 ∨ op = 21 ∨ op = 22 ∨ op = 23 ∨ op = 24 ∨ op = 25 ∨ op = 26 := by omega
theorem implTk (op a b : Int) (h : opOk op a) : ∀ k, impl_Ins_takes.f (k + 3) op a b = some (tk op a) := by
  intro k
  obtain ⟨h1, h2, h3⟩ := h
  rcases ops26 ⟨h1, h2⟩ with rfl | rfl | rfl | rfl | rfl | rfl | rfl | rfl | rfl | rfl | rfl | rfl | rfl | rfl | rfl | rfl | rfl | rfl | rfl | rfl | rfl | rfl | rfl | rfl | rfl | rfl
  case inr.inr.inr.inr.inr.inr.inr.inr.inr.inr.inr.inr.inr.inr.inr.inr.inr.inr.inr.inl =>
    obtain rfl | rfl | rfl | rfl | rfl | rfl | rfl := (by have := h3 rfl; omega : a = 1 ∨ a = 2 ∨ a = 3 ∨ a = 4 ∨ a = 5 ∨ a = 6 ∨ a = 7)
    all_goals kernel_rfl
  all_goals kernel_rfl
theorem specTk (op a b : Int) (h : opOk op a) : ∀ k, spec_l10Takes.f (k + 4) op a b = some (tk op a) := by
  intro k
  obtain ⟨h1, h2, h3⟩ := h
  rcases ops26 ⟨h1, h2⟩ with rfl | rfl | rfl | rfl | rfl | rfl | rfl | rfl | rfl | rfl | rfl | rfl | rfl | rfl | rfl | rfl | rfl | rfl | rfl | rfl | rfl | rfl | rfl | rfl | rfl | rfl
  case inr.inr.inr.inr.inr.inr.inr.inr.inr.inr.inr.inr.inr.inr.inr.inr.inr.inr.inr.inl =>
    obtain rfl | rfl | rfl | rfl | rfl | rfl | rfl := (by have := h3 rfl; omega : a = 1 ∨ a = 2 ∨ a = 3 ∨ a = 4 ∨ a = 5 ∨ a = 6 ∨ a = 7)
    all_goals kernel_rfl
  all_goals kernel_rfl
theorem ev_from {α : Type} {g : Nat → Option α} {r : α} (c : Nat) (h : ∀ k, g (k + c) = some r) : Ev g r :=
  ⟨c, fun n hn => by obtain ⟨m, rfl⟩ : ∃ m, n = m + c := ⟨n - c, by omega⟩; exact h m⟩
/-- The places that a place goes on tt. -/
def tos (op a at_ : Int) : List Int := (if op = 22 ∨ op = 24 ∨ op = 26 then [] else [at_ + 1]) ++ (if op = 21 ∨ op = 22 then [a] else [])
/-- A height told to these places: no, if one is the end or has another. -/
def pushes (n nx : Int) : List Int → List Int → List Int → Option (List Int × List Int)
  | [], h, q => some (h, q)
  | t :: ts, h, q => if t = n ∨ (0 ≤ rd h t ∧ rd h t ≠ nx) then none else if rd h t < 0 then pushes n nx ts (h.set t.toNat nx) (q ++ [t]) else pushes n nx ts h q
def neg (h : List Int) : Nat := h.countP (fun x => decide (x < 0))
def Inv (n : Nat) (h q : List Int) : Prop := h.length = n ∧ (∀ x ∈ h, -1 ≤ x ∧ x ≤ 60) ∧ (∀ t ∈ q, 0 ≤ t ∧ t < (n : Int))
theorem rd_mem (h : List Int) (t : Int) (h1 : t.toNat < h.length) : rd h t = h[t.toNat] := by
  unfold rd; rw [List.getD_eq_getElem?_getD, List.getElem?_eq_getElem h1]; rfl
theorem rd_bounds {n : Nat} {h q : List Int} (I : Inv n h q) {t : Int} (h0 : 0 ≤ t) (h1 : t < (n : Int)) : -1 ≤ rd h t ∧ rd h t ≤ 60 := by
  have hl : t.toNat < h.length := by rw [I.1]; omega
  rw [rd_mem h t hl]; exact I.2.1 _ (List.getElem_mem hl)
theorem neg_set (h : List Int) (t : Nat) (ht : t < h.length) (hn : h[t] < 0) (v : Int) (hv : 0 ≤ v) : neg (h.set t v) + 1 = neg h := by
  unfold neg
  rw [List.countP_set ht]
  have e1 : decide (h[t] < 0) = true := decide_eq_true hn
  have e2 : decide (v < 0) = false := decide_eq_false (by omega)
  have hp : 0 < h.countP (fun x => decide (x < 0)) := List.countP_pos_iff.2 ⟨h[t], List.getElem_mem ht, e1⟩
  simp only [e1, e2, if_true, Bool.false_eq_true, if_false]; omega
theorem pushes_inv (n : Nat) (nx : Int) (hn0 : 0 ≤ nx) (hn1 : nx ≤ 60) : ∀ (ts h q h' q' : List Int), (∀ t ∈ ts, 0 ≤ t ∧ t ≤ (n : Int)) → Inv n h q → pushes n nx ts h q = some (h', q') → Inv n h' q' ∧ 2 * neg h' + q'.length ≤ 2 * neg h + q.length := by
  intro ts
  induction ts with
  | nil => intro h q h' q' _ I e; cases e; exact ⟨I, Nat.le_refl _⟩
  | cons t ts ih =>
    intro h q h' q' ht I e
    have ht0 := ht t List.mem_cons_self
    unfold pushes at e
    by_cases c1 : t = (n : Int) ∨ (0 ≤ rd h t ∧ rd h t ≠ nx)
    · rw [if_pos c1] at e; cases e
    · rw [if_neg c1] at e
      have hlt : t < (n : Int) := by have : t ≠ (n : Int) := fun z => c1 (Or.inl z); omega
      have hl : t.toNat < h.length := by rw [I.1]; omega
      by_cases c2 : rd h t < 0
      · rw [if_pos c2] at e
        obtain ⟨J, L⟩ := ih (h.set t.toNat nx) (q ++ [t]) h' q' (fun x hx => ht x (List.mem_cons_of_mem _ hx)) ⟨by rw [List.length_set]; exact I.1, fun x hx => by
            rcases List.mem_or_eq_of_mem_set hx with z | z
            · exact I.2.1 x z
            · subst z; omega, fun x hx => by
            rcases List.mem_append.1 hx with z | z
            · exact I.2.2 x z
            · rw [List.mem_singleton.1 z]; exact ⟨ht0.1, hlt⟩⟩ e
        have := neg_set h t.toNat hl (by rw [← rd_mem h t hl]; exact c2) nx hn0
        refine ⟨J, ?_⟩
        rw [List.length_append, List.length_singleton] at L
        omega
      · rw [if_neg c2] at e
        exact ih h q h' q' (fun x hx => ht x (List.mem_cons_of_mem _ hx)) I e
section
variable (m0 m1 m2 m3 : Int) (l : List S93)
theorem implPush (nx : Int) (tt : List Int) (hto : ∀ t ∈ tt, 0 ≤ t ∧ t ≤ (l.length : Int)) (hl : l.length ≤ 2000) (hn0 : 0 ≤ nx) (hn1 : nx ≤ 60) (htl : tt.length ≤ 2) : ∀ (d i : Nat) (h q : List Int) (r : List Int × Bool), tt.length - i = d → Inv l.length h q → q.length + d ≤ 100000 →
    (∀ h' q', pushes l.length nx (tt.drop i) h q = some (h', q') → Ev (fun k => impl_Module_heights.l0 k h' q' m0 m1 m2 m3 l) r) → (pushes l.length nx (tt.drop i) h q = none → r = ([], false)) →
    Ev (fun k => impl_Module_heights.l1 k h q nx tt (tt.length : Int) (i : Int) m0 m1 m2 m3 l) r := by
  intro d
  induction d with
  | zero =>
    intro i h q r hd I hq hs hn
    refine ev_succ ?_
    simp only [impl_Module_heights.l1]
    refine ev_neg (natNotLt (show ¬ i < tt.length by omega)) (hs h q ?_)
    rw [List.drop_eq_nil_of_le (by omega)]; rfl
  | succ d ih =>
    intro i h q r hd I hq hs hn
    have hi : i < tt.length := by omega
    have hT := hto _ (List.getElem_mem hi)
    have er : rd tt (i : Int) = tt[i] := by unfold rd; rw [Int.toNat_natCast, List.getD_eq_getElem?_getD, List.getElem?_eq_getElem hi]; rfl
    rw [List.drop_eq_getElem_cons hi] at hs hn
    have hw : wrap64 ((i : Int) + 1) = ((i + 1 : Nat) : Int) := wsucc hi (by omega)
    refine ev_succ ?_
    simp only [impl_Module_heights.l1, er]
    refine ev_pos (natLt hi) (ev_pos (nat0 i) (ev_pos (natLt hi) ?_))
    by_cases c0 : tt[i] = (l.length : Int)
    · refine ev_pos c0 (ev_succ ?_)
      simp only [impl_Module_heights.j7, if_true]
      rw [hn (by unfold pushes; rw [if_pos (Or.inl c0)])]
      exact Ev.now _
    · refine ev_neg c0 (ev_pos hT.1 (ev_pos (show tt[i] < (h.length : Int) by rw [I.1]; omega) ?_))
      by_cases c1 : rd h tt[i] ≥ 0
      · refine ev_pos c1 (ev_succ ?_)
        by_cases c2 : rd h tt[i] = nx
        · have e2 : (rd h tt[i] != nx) = false := by rw [c2]; simp
          simp only [impl_Module_heights.j7, e2, Bool.false_eq_true, if_false]
          refine ev_pos hT.1 (ev_pos (show tt[i] < (h.length : Int) by rw [I.1]; omega) (ev_neg (by omega) ?_))
          rw [hw]
          refine ih (i + 1) h q r (by omega) I (by omega) (fun h' q' e => hs h' q' ?_) (fun e => hn ?_)
          · unfold pushes; rw [if_neg (by intro z; rcases z with z | z; exact c0 z; exact z.2 c2), if_neg (by omega)]; exact e
          · unfold pushes; rw [if_neg (by intro z; rcases z with z | z; exact c0 z; exact z.2 c2), if_neg (by omega)]; exact e
        · have e2 : (rd h tt[i] != nx) = true := by simp [c2]
          simp only [impl_Module_heights.j7, e2, if_true]
          rw [hn (by unfold pushes; rw [if_pos (Or.inr ⟨c1, c2⟩)])]
          exact Ev.now _
      · refine ev_neg c1 (ev_succ ?_)
        simp only [impl_Module_heights.j7, Bool.false_eq_true, if_false]
        refine ev_pos hT.1 (ev_pos (show tt[i] < (h.length : Int) by rw [I.1]; omega) (ev_pos (by omega) (ev_pos (by omega) ?_)))
        rw [hw]
        have hlen : tt[i].toNat < h.length := by rw [I.1]; omega
        have J : Inv l.length (h.set tt[i].toNat nx) (q ++ [tt[i]]) := ⟨by rw [List.length_set]; exact I.1, fun x hx => by
          rcases List.mem_or_eq_of_mem_set hx with z | z
          · exact I.2.1 x z
          · subst z; omega, fun x hx => by
          rcases List.mem_append.1 hx with z | z
          · exact I.2.2 x z
          · rw [List.mem_singleton.1 z]; omega⟩
        refine ih (i + 1) (h.set tt[i].toNat nx) (q ++ [tt[i]]) r (by omega) J (by rw [List.length_append, List.length_singleton]; omega) (fun h' q' e => hs h' q' ?_) (fun e => hn ?_)
        · unfold pushes; rw [if_neg (by intro z; rcases z with z | z; exact c0 z; omega), if_pos (by omega)]; exact e
        · unfold pushes; rw [if_neg (by intro z; rcases z with z | z; exact c0 z; omega), if_pos (by omega)]; exact e
theorem specPush (nx : Int) (tt : List Int) (hto : ∀ t ∈ tt, 0 ≤ t ∧ t ≤ (l.length : Int)) (hl : l.length ≤ 2000) (hn0 : 0 ≤ nx) (hn1 : nx ≤ 60) (htl : tt.length ≤ 2) : ∀ (d i : Nat) (h q : List Int) (r : List Int × Bool), tt.length - i = d → Inv l.length h q → q.length + d ≤ 100000 →
    (∀ h' q', pushes l.length nx (tt.drop i) h q = some (h', q') → Ev (fun k => spec_l10Heights.l1 k (l.length : Int) h' q' m0 m1 m2 m3 l) r) →
    ∃ r', Ev (fun k => spec_l10Heights.l2 k (l.length : Int) h q nx tt (i : Int) m0 m1 m2 m3 l) r' ∧ (pushes l.length nx (tt.drop i) h q = none → r'.2 = false) ∧ (pushes l.length nx (tt.drop i) h q ≠ none → r' = r) := by
  intro d
  induction d with
  | zero =>
    intro i h q r hd I hq hs
    rw [List.drop_eq_nil_of_le (show tt.length ≤ i by omega)] at *
    refine ⟨r, ev_succ ?_, fun z => (by cases z), fun _ => rfl⟩
    simp only [spec_l10Heights.l2]
    exact ev_neg (natNotLt (show ¬ i < tt.length by omega)) (hs h q rfl)
  | succ d ih =>
    intro i h q r hd I hq hs
    have hi : i < tt.length := by omega
    have hT := hto _ (List.getElem_mem hi)
    have er : rd tt (i : Int) = tt[i] := by unfold rd; rw [Int.toNat_natCast, List.getD_eq_getElem?_getD, List.getElem?_eq_getElem hi]; rfl
    rw [List.drop_eq_getElem_cons hi] at hs ⊢
    have hw : wrap64 ((i : Int) + 1) = ((i + 1 : Nat) : Int) := wsucc hi (by omega)
    by_cases c0 : tt[i] = (l.length : Int)
    · refine ⟨(h, false), ev_succ ?_, fun _ => rfl, fun z => absurd (by unfold pushes; rw [if_pos (Or.inl c0)]) z⟩
      simp only [spec_l10Heights.l2, er]
      refine ev_pos (natLt hi) (ev_pos (nat0 i) (ev_pos (by omega) (ev_succ ?_)))
      simp only [spec_l10Heights.j7, if_true]; exact Ev.now _
    · by_cases c1 : rd h tt[i] ≥ 0
      · by_cases c2 : rd h tt[i] = nx
        · have e2 : (rd h tt[i] != nx) = false := by rw [c2]; simp
          have ep : pushes l.length nx (tt[i] :: tt.drop (i + 1)) h q = pushes l.length nx (tt.drop (i + 1)) h q := by
            conv => lhs; unfold pushes
            rw [if_neg (by intro z; rcases z with z | z; exact c0 z; exact z.2 c2), if_neg (by omega)]
          rw [ep] at hs ⊢
          obtain ⟨r', e', hr⟩ := ih (i + 1) h q r (by omega) I (by omega) hs
          refine ⟨r', ev_succ ?_, hr⟩
          simp only [spec_l10Heights.l2, er]
          refine ev_pos (natLt hi) (ev_pos (nat0 i) (ev_neg (by omega) (ev_neg (by omega) (ev_pos hT.1 (ev_pos (show tt[i] < (h.length : Int) by rw [I.1]; omega) (ev_pos c1 (ev_succ ?_)))))))
          simp only [spec_l10Heights.j7, e2, Bool.false_eq_true, if_false, er]
          refine ev_pos (nat0 i) (ev_pos (natLt hi) (ev_pos hT.1 (ev_pos (show tt[i] < (h.length : Int) by rw [I.1]; omega) (ev_neg (by omega) ?_))))
          rw [hw]; exact e'
        · have e2 : (rd h tt[i] != nx) = true := by simp [c2]
          refine ⟨(h, false), ev_succ ?_, fun _ => rfl, fun z => absurd (by unfold pushes; rw [if_pos (Or.inr ⟨c1, c2⟩)]) z⟩
          simp only [spec_l10Heights.l2, er]
          refine ev_pos (natLt hi) (ev_pos (nat0 i) (ev_neg (by omega) (ev_neg (by omega) (ev_pos hT.1 (ev_pos (show tt[i] < (h.length : Int) by rw [I.1]; omega) (ev_pos c1 (ev_succ ?_)))))))
          simp only [spec_l10Heights.j7, e2, if_true]; exact Ev.now _
      · have hlen : tt[i].toNat < h.length := by rw [I.1]; omega
        have J : Inv l.length (h.set tt[i].toNat nx) (q ++ [tt[i]]) := ⟨by rw [List.length_set]; exact I.1, fun x hx => by
          rcases List.mem_or_eq_of_mem_set hx with z | z
          · exact I.2.1 x z
          · subst z; omega, fun x hx => by
          rcases List.mem_append.1 hx with z | z
          · exact I.2.2 x z
          · rw [List.mem_singleton.1 z]; omega⟩
        have ep : pushes l.length nx (tt[i] :: tt.drop (i + 1)) h q = pushes l.length nx (tt.drop (i + 1)) (h.set tt[i].toNat nx) (q ++ [tt[i]]) := by
          conv => lhs; unfold pushes
          rw [if_neg (by intro z; rcases z with z | z; exact c0 z; omega), if_pos (by omega)]
        rw [ep] at hs ⊢
        obtain ⟨r', e', hr⟩ := ih (i + 1) (h.set tt[i].toNat nx) (q ++ [tt[i]]) r (by omega) J (by rw [List.length_append, List.length_singleton]; omega) hs
        refine ⟨r', ev_succ ?_, hr⟩
        simp only [spec_l10Heights.l2, er]
        refine ev_pos (natLt hi) (ev_pos (nat0 i) (ev_neg (by omega) (ev_neg (by omega) (ev_pos hT.1 (ev_pos (show tt[i] < (h.length : Int) by rw [I.1]; omega) (ev_neg c1 (ev_succ ?_)))))))
        simp only [spec_l10Heights.j7, Bool.false_eq_true, if_false, er]
        refine ev_pos (nat0 i) (ev_pos (natLt hi) (ev_pos hT.1 (ev_pos (show tt[i] < (h.length : Int) by rw [I.1]; omega) (ev_pos (by omega) (ev_pos (by omega) ?_)))))
        rw [hw]; exact e'
/-- An instruction whose numbers are right for so long a code. -/
def insO (n : Nat) (x : S93) : Prop := opOk x.f0 x.f1 ∧ (x.f0 = 21 ∨ x.f0 = 22 → 0 ≤ x.f1 ∧ x.f1 < (n : Int))
theorem tos_in (n : Nat) (x : S93) (at_ : Int) (hx : insO n x) (h0 : 0 ≤ at_) (h1 : at_ < (n : Int)) : (∀ t ∈ tos x.f0 x.f1 at_, 0 ≤ t ∧ t ≤ (n : Int)) ∧ (tos x.f0 x.f1 at_).length ≤ 2 := by
  unfold tos
  refine ⟨fun t ht => ?_, by rw [List.length_append]; split <;> split <;> simp⟩
  rcases List.mem_append.1 ht with z | z
  · split at z
    · cases z
    · rw [List.mem_singleton.1 z]; omega
  · split at z
    · rename_i c
      rw [List.mem_singleton.1 z]; have := hx.2 c; omega
    · cases z
theorem tos_ne (op a at_ : Int) (h : tos op a at_ = []) : op = 24 ∨ op = 26 := by
  unfold tos at h
  obtain ⟨h1, h2⟩ := List.append_eq_nil_iff.1 h
  by_cases c : op = 22 ∨ op = 24 ∨ op = 26
  · rcases c with c | c | c
    · rw [if_pos (Or.inr c)] at h2; cases h2
    · exact Or.inl c
    · exact Or.inr c
  · rw [if_neg c] at h1; cases h1
theorem concat_or (q : List Int) : q = [] ∨ ∃ L b, q = L ++ [b] := by
  rcases List.eq_nil_or_concat q with h | ⟨L, b, h⟩
  · exact Or.inl h
  · exact Or.inr ⟨L, b, by rw [h, List.concat_eq_append]⟩
theorem implGo (x : S93) (h L : List Int) (at_ nx : Int) (h0 : 0 ≤ at_) (h1 : at_ < 2000) (r : List Int × Bool)
    (e : Ev (fun k => impl_Module_heights.l1 k h L nx (tos x.f0 x.f1 at_) ((tos x.f0 x.f1 at_).length : Int) 0 m0 m1 m2 m3 l) r) :
    Ev (fun k => impl_Module_heights.j1 k h L at_ nx false m0 m1 m2 m3 l x.f0 x.f1 x.f2) r := by
  have hw : wrap64 (at_ + 1) = at_ + 1 := w64 (by omega) (by omega)
  have hA : ∀ (b c : Bool) (tl : List Int), tl = (if b = true then [at_ + 1] else []) ++ (if c = true then [x.f1] else []) → (c = true ↔ (x.f0 = 21 ∨ x.f0 = 22)) →
      Ev (fun k => impl_Module_heights.l1 k h L nx tl (tl.length : Int) 0 m0 m1 m2 m3 l) r → Ev (fun k => impl_Module_heights.j2 k h L at_ nx [] b m0 m1 m2 m3 l x.f0 x.f1 x.f2) r := by
    intro b c tl ht hc e
    refine ev_succ ?_
    simp only [impl_Module_heights.j2, hw]
    have key : ∀ tl0 : List Int, tl0 = (if b = true then [at_ + 1] else []) → Ev (fun k => impl_Module_heights.j3 k h L nx tl0 m0 m1 m2 m3 l x.f0 x.f1 x.f2) r := by
      intro tl0 h00
      refine ev_succ ?_
      simp only [impl_Module_heights.j3]
      have hl0 : tl0.length < 17592186044416 := by rw [h00]; split <;> simp
      have k4 : Ev (fun k => impl_Module_heights.j4 k h L nx tl0 c m0 m1 m2 m3 l x.f0 x.f1 x.f2) r := by
        refine ev_succ ?_
        simp only [impl_Module_heights.j4]
        rw [ht, ← h00] at e
        cases c with
        | true =>
          simp only [if_true] at e ⊢
          refine ev_pos hl0 (ev_succ ?_)
          simp only [impl_Module_heights.j5]; exact e
        | false =>
          simp only [Bool.false_eq_true, if_false, List.append_nil] at e ⊢
          refine ev_succ ?_
          simp only [impl_Module_heights.j5]; exact e
      by_cases q : x.f0 = 21
      · have : c = true := hc.2 (Or.inl q)
        rw [this] at k4; exact ev_pos q k4
      · refine ev_neg q ?_
        have : (x.f0 == 22) = c := by
          cases c with
          | true => rcases hc.1 rfl with z | z; exact absurd z q; simp [z]
          | false => simp only [beq_eq_false_iff_ne]; intro z; exact absurd (hc.2 (Or.inr z)) (by simp)
        rw [this]; exact k4
    cases b with
    | true => simp only [if_true]; exact ev_pos (by simp) (key _ (by simp))
    | false => simp only [Bool.false_eq_true, if_false]; exact key _ (by simp)
  have hc : decide (x.f0 = 21 ∨ x.f0 = 22) = true ↔ (x.f0 = 21 ∨ x.f0 = 22) := decide_eq_true_iff
  refine ev_succ ?_
  simp only [impl_Module_heights.j1, Bool.false_eq_true, if_false, Option.bind_some]
  by_cases q1 : x.f0 = 22
  · refine ev_pos q1 (hA false _ _ ?_ hc e)
    unfold tos; simp [q1]
  · refine ev_neg q1 ?_
    by_cases q2 : x.f0 = 24
    · refine ev_pos q2 (hA false _ _ ?_ hc e)
      unfold tos; simp [q2]
    · refine ev_neg q2 (hA _ _ _ ?_ hc e)
      unfold tos
      by_cases q3 : x.f0 = 26
      · simp [q3]
      · simp [q1, q2, q3]
theorem specGo (x : S93) (h L : List Int) (at_ nx : Int) (h0 : 0 ≤ at_) (h1 : at_ < 2000) (r : List Int × Bool)
    (e : Ev (fun k => spec_l10Heights.l2 k (l.length : Int) h L nx (tos x.f0 x.f1 at_) 0 m0 m1 m2 m3 l) r) :
    Ev (fun k => if x.f0 = 22 then spec_l10Heights.j2 k (l.length : Int) h L at_ nx [] false m0 m1 m2 m3 l x.f0 x.f1 x.f2 else if x.f0 = 24 then spec_l10Heights.j2 k (l.length : Int) h L at_ nx [] false m0 m1 m2 m3 l x.f0 x.f1 x.f2 else spec_l10Heights.j2 k (l.length : Int) h L at_ nx [] (x.f0 != 26) m0 m1 m2 m3 l x.f0 x.f1 x.f2) r := by
  have hw : wrap64 (at_ + 1) = at_ + 1 := w64 (by omega) (by omega)
  have hA : ∀ (b c : Bool) (tl : List Int), tl = (if b = true then [at_ + 1] else []) ++ (if c = true then [x.f1] else []) → (c = true ↔ (x.f0 = 21 ∨ x.f0 = 22)) →
      Ev (fun k => spec_l10Heights.l2 k (l.length : Int) h L nx tl 0 m0 m1 m2 m3 l) r → Ev (fun k => spec_l10Heights.j2 k (l.length : Int) h L at_ nx [] b m0 m1 m2 m3 l x.f0 x.f1 x.f2) r := by
    intro b c tl ht hc e
    refine ev_succ ?_
    simp only [spec_l10Heights.j2, hw]
    have key : ∀ tl0 : List Int, tl0 = (if b = true then [at_ + 1] else []) → Ev (fun k => spec_l10Heights.j3 k (l.length : Int) h L nx tl0 m0 m1 m2 m3 l x.f0 x.f1 x.f2) r := by
      intro tl0 h00
      refine ev_succ ?_
      simp only [spec_l10Heights.j3]
      have hl0 : tl0.length < 17592186044416 := by rw [h00]; split <;> simp
      have k4 : Ev (fun k => spec_l10Heights.j4 k (l.length : Int) h L nx tl0 c m0 m1 m2 m3 l x.f0 x.f1 x.f2) r := by
        refine ev_succ ?_
        simp only [spec_l10Heights.j4]
        rw [ht, ← h00] at e
        cases c with
        | true =>
          simp only [if_true] at e ⊢
          refine ev_pos hl0 (ev_succ ?_)
          simp only [spec_l10Heights.j5]; exact e
        | false =>
          simp only [Bool.false_eq_true, if_false, List.append_nil] at e ⊢
          refine ev_succ ?_
          simp only [spec_l10Heights.j5]; exact e
      by_cases q : x.f0 = 21
      · have : c = true := hc.2 (Or.inl q)
        rw [this] at k4; exact ev_pos q k4
      · refine ev_neg q ?_
        have : (x.f0 == 22) = c := by
          cases c with
          | true => rcases hc.1 rfl with z | z; exact absurd z q; simp [z]
          | false => simp only [beq_eq_false_iff_ne]; intro z; exact absurd (hc.2 (Or.inr z)) (by simp)
        rw [this]; exact k4
    cases b with
    | true => simp only [if_true]; exact ev_pos (by simp) (key _ (by simp))
    | false => simp only [Bool.false_eq_true, if_false]; exact key _ (by simp)
  have hc : decide (x.f0 = 21 ∨ x.f0 = 22) = true ↔ (x.f0 = 21 ∨ x.f0 = 22) := decide_eq_true_iff
  by_cases q1 : x.f0 = 22
  · refine ev_pos q1 (hA false _ _ ?_ hc e)
    unfold tos; simp [q1]
  · refine ev_neg q1 ?_
    by_cases q2 : x.f0 = 24
    · refine ev_pos q2 (hA false _ _ ?_ hc e)
      unfold tos; simp [q2]
    · refine ev_neg q2 (hA _ _ _ ?_ hc e)
      unfold tos
      by_cases q3 : x.f0 = 26
      · simp [q3]
      · simp [q1, q2, q3]
/-- Both go the same way, from any heights and places that wait. -/
theorem lock (hl : l.length ≤ 2000) (hI : ∀ x ∈ l, insO l.length x) : ∀ (fuel : Nat) (h q : List Int), Inv l.length h q → 2 * neg h + q.length ≤ fuel → fuel ≤ 5000 →
    ∃ ri rs : List Int × Bool, Ev (fun k => impl_Module_heights.l0 k h q m0 m1 m2 m3 l) ri ∧ Ev (fun k => spec_l10Heights.l1 k (l.length : Int) h q m0 m1 m2 m3 l) rs ∧ ri.2 = rs.2 ∧ (ri.2 = true → ri.1 = rs.1 ∧ ri.1.length = l.length) := by
  intro fuel
  induction fuel with
  | zero =>
    intro h q I hf hF
    have : q = [] := List.eq_nil_of_length_eq_zero (by omega)
    subst this
    refine ⟨(h, true), (h, true), ev_succ ?_, ev_succ ?_, rfl, fun _ => ⟨rfl, I.1⟩⟩
    · simp only [impl_Module_heights.l0]; exact ev_neg (by simp) (Ev.now _)
    · simp only [spec_l10Heights.l1]; exact ev_neg (by simp) (Ev.now _)
  | succ fuel ih =>
    intro h q I hf hF
    rcases concat_or q with rfl | ⟨L, b, rfl⟩
    · refine ⟨(h, true), (h, true), ev_succ ?_, ev_succ ?_, rfl, fun _ => ⟨rfl, I.1⟩⟩
      · simp only [impl_Module_heights.l0]; exact ev_neg (by simp) (Ev.now _)
      · simp only [spec_l10Heights.l1]; exact ev_neg (by simp) (Ev.now _)
    · have hb := I.2.2 b (by simp)
      have hLl : (L ++ [b]).length = L.length + 1 := by simp
      rw [hLl] at hf
      have hwl : wrap64 (((L ++ [b]).length : Int) - 1) = (L.length : Int) := by rw [hLl, w64 (by omega) (by omega)]; omega
      have hrd : rd (L ++ [b]) (L.length : Int) = b := by unfold rd; rw [Int.toNat_natCast]; simp [List.getD_eq_getElem?_getD]
      have htk : (L ++ [b]).take ((L.length : Int) : Int).toNat = L := by rw [Int.toNat_natCast]; simp
      have hbl : b.toNat < l.length := by omega
      obtain ⟨x, hx⟩ : ∃ x, x = rd_T93 l b := ⟨_, rfl⟩
      have hxm : x ∈ l := by
        rw [hx]; unfold rd_T93; rw [List.getD_eq_getElem?_getD, List.getElem?_eq_getElem hbl]; exact List.getElem_mem hbl
      have hxI := hI x hxm
      have hr := rd_bounds I hb.1 hb.2
      have ht := tk_range x.f0 x.f1
      have hto := tos_in l.length x b hxI hb.1 hb.2
      have IL : Inv l.length h L := ⟨I.1, I.2.1, fun t ht => I.2.2 t (List.mem_append_left _ ht)⟩
      have hnx : wrap64 (wrap64 (rd h b - (tk x.f0 x.f1).1) + (tk x.f0 x.f1).2) = rd h b - (tk x.f0 x.f1).1 + (tk x.f0 x.f1).2 := by
        rw [w64 (a := rd h b - (tk x.f0 x.f1).1) (by omega) (by omega), w64 (by omega) (by omega)]
      -- one step of each
      have stepI : ∀ r, (if rd h b < (tk x.f0 x.f1).1 then r = ([], false) else Ev (fun k => impl_Module_heights.j1 k h L b (rd h b - (tk x.f0 x.f1).1 + (tk x.f0 x.f1).2) (decide (rd h b - (tk x.f0 x.f1).1 + (tk x.f0 x.f1).2 > 60)) m0 m1 m2 m3 l x.f0 x.f1 x.f2) r) →
          Ev (fun k => impl_Module_heights.l0 k h (L ++ [b]) m0 m1 m2 m3 l) r := by
        intro r hr'
        refine ev_succ ?_
        simp only [impl_Module_heights.l0, hwl, hrd, htk, ← hx]
        refine ev_pos (by rw [hLl]; omega) (ev_pos (by omega) (ev_pos (by rw [hLl]; omega) (ev_pos (by rw [hLl]; omega) ?_)))
        refine ev_cbind rfl ?_
        refine ev_pos hb.1 (ev_pos (by omega) (Ev.bind (ev_from 3 (implTk x.f0 x.f1 x.f2 hxI.1)) (ev_pos (by rw [I.1]; omega) ?_)))
        simp only [hnx]
        by_cases c : rd h b < (tk x.f0 x.f1).1
        · rw [if_pos c] at hr'
          refine ev_pos c (ev_succ ?_)
          simp only [impl_Module_heights.j1, if_true]
          rw [hr']; exact Ev.now _
        · rw [if_neg c] at hr'
          exact ev_neg c hr'
      have stepS : ∀ r, (if rd h b < (tk x.f0 x.f1).1 then r = (h, false) else Ev (fun k => spec_l10Heights.l2 k (l.length : Int) h L (rd h b - (tk x.f0 x.f1).1 + (tk x.f0 x.f1).2) (tos x.f0 x.f1 b) 0 m0 m1 m2 m3 l) r) →
          Ev (fun k => spec_l10Heights.l1 k (l.length : Int) h (L ++ [b]) m0 m1 m2 m3 l) r := by
        intro r hr'
        refine ev_succ ?_
        simp only [spec_l10Heights.l1, hwl, hrd, htk, ← hx]
        refine ev_pos (by rw [hLl]; omega) (ev_pos (by omega) (ev_pos (by rw [hLl]; omega) (ev_pos (by rw [hLl]; omega) ?_)))
        refine ev_cbind rfl ?_
        refine ev_pos hb.1 (ev_pos (by omega) (Ev.bind (ev_from 4 (specTk x.f0 x.f1 x.f2 hxI.1)) (ev_pos (by rw [I.1]; omega) ?_)))
        simp only [hnx]
        by_cases c : rd h b < (tk x.f0 x.f1).1
        · rw [if_pos c] at hr'
          refine ev_pos c ?_
          rw [hr']; exact Ev.now _
        · rw [if_neg c] at hr'
          refine ev_neg c (ev_cbind rfl ?_)
          exact specGo m0 m1 m2 m3 l x h L b _ hb.1 (by omega) r hr'
      by_cases c : rd h b < (tk x.f0 x.f1).1
      · exact ⟨([], false), (h, false), stepI _ (by rw [if_pos c]), stepS _ (by rw [if_pos c]), rfl, fun z => by cases z⟩
      · by_cases c2 : rd h b - (tk x.f0 x.f1).1 + (tk x.f0 x.f1).2 > 60
        · have hne : tos x.f0 x.f1 b ≠ [] := by
            intro z
            have e : tk x.f0 x.f1 = (0, 0) := by
              rcases tos_ne _ _ _ z with z | z <;> (unfold tk; simp [z])
            rw [e] at c2
            simp only at c2
            omega
          obtain ⟨t, ts, hts⟩ : ∃ t ts, tos x.f0 x.f1 b = t :: ts := by
            cases hz : tos x.f0 x.f1 b with
            | nil => exact absurd hz hne
            | cons t ts => exact ⟨t, ts, rfl⟩
          refine ⟨([], false), (h, false), stepI _ ?_, stepS _ ?_, rfl, fun z => by cases z⟩
          · rw [if_neg c, decide_eq_true c2]
            refine ev_succ ?_
            simp only [impl_Module_heights.j1, if_true]; exact Ev.now _
          · rw [if_neg c]
            refine ev_succ ?_
            simp only [spec_l10Heights.l2]
            refine ev_pos (by rw [hts, List.length_cons]; omega) (ev_pos (by decide) ?_)
            have k7 : Ev (fun k => spec_l10Heights.j7 k (l.length : Int) h L (rd h b - (tk x.f0 x.f1).1 + (tk x.f0 x.f1).2) (tos x.f0 x.f1 b) 0 true m0 m1 m2 m3 l) (h, false) := by
              refine ev_succ ?_
              simp only [spec_l10Heights.j7, if_true]; exact Ev.now _
            by_cases c3 : rd (tos x.f0 x.f1 b) 0 ≥ (l.length : Int)
            · exact ev_pos c3 k7
            · exact ev_neg c3 (ev_pos c2 k7)
        · -- the places are told
          have hn0 : 0 ≤ rd h b - (tk x.f0 x.f1).1 + (tk x.f0 x.f1).2 := by omega
          have hn1 : rd h b - (tk x.f0 x.f1).1 + (tk x.f0 x.f1).2 ≤ 60 := by omega
          have hd0 : (tos x.f0 x.f1 b).drop 0 = tos x.f0 x.f1 b := rfl
          cases hp : pushes l.length (rd h b - (tk x.f0 x.f1).1 + (tk x.f0 x.f1).2) (tos x.f0 x.f1 b) h L with
          | none =>
            obtain ⟨rs, es, h1, _⟩ := specPush m0 m1 m2 m3 l _ _ hto.1 hl hn0 hn1 hto.2 _ 0 h L ([], false) rfl IL (by omega) (fun h' q' e => by rw [hd0, hp] at e; cases e)
            refine ⟨([], false), rs, stepI _ ?_, stepS _ (by rw [if_neg c]; exact es), (h1 (by rw [hd0]; exact hp)).symm, fun z => by cases z⟩
            rw [if_neg c, decide_eq_false c2]
            refine implGo m0 m1 m2 m3 l x h L b _ hb.1 (by omega) _ ?_
            exact implPush m0 m1 m2 m3 l _ _ hto.1 hl hn0 hn1 hto.2 _ 0 h L ([], false) rfl IL (by omega) (fun h' q' e => by rw [hd0, hp] at e; cases e) (fun _ => rfl)
          | some p =>
            obtain ⟨h', q'⟩ := p
            obtain ⟨J, hle⟩ := pushes_inv l.length _ hn0 hn1 _ _ _ _ _ hto.1 IL hp
            obtain ⟨ri, rs, ei, es, hq, hq2⟩ := ih h' q' J (by omega) (by omega)
            obtain ⟨rs', es', _, h2⟩ := specPush m0 m1 m2 m3 l _ _ hto.1 hl hn0 hn1 hto.2 _ 0 h L rs rfl IL (by omega) (fun h'' q'' e => by rw [hd0, hp] at e; cases e; exact es)
            have : rs' = rs := h2 (by rw [hd0, hp]; simp)
            subst this
            refine ⟨ri, rs', stepI _ ?_, stepS _ (by rw [if_neg c]; exact es'), hq, hq2⟩
            rw [if_neg c, decide_eq_false c2]
            refine implGo m0 m1 m2 m3 l x h L b _ hb.1 (by omega) _ ?_
            exact implPush m0 m1 m2 m3 l _ _ hto.1 hl hn0 hn1 hto.2 _ 0 h L ri rfl IL (by omega) (fun h'' q'' e => by rw [hd0, hp] at e; cases e; exact ei) (fun e => by rw [hd0, hp] at e; cases e)
end

def bndM (m0 m1 m2 m3 : Int) (n : Nat) : Bool := iB 1 3 m0 && (iB 1 6 m1 && (iB m1 10 m2 && (iB 0 8 m3 && iB 1 2000 (n : Int))))
theorem iB_iff {lo hi x : Int} : iB lo hi x = true ↔ lo ≤ x ∧ x ≤ hi := by unfold iB; simp
theorem bndM_iff {m0 m1 m2 m3 : Int} {n : Nat} : bndM m0 m1 m2 m3 n = true ↔ (1 ≤ m0 ∧ m0 ≤ 3) ∧ (1 ≤ m1 ∧ m1 ≤ 6) ∧ (m1 ≤ m2 ∧ m2 ≤ 10) ∧ (0 ≤ m3 ∧ m3 ≤ 8) ∧ (1 ≤ (n : Int) ∧ (n : Int) ≤ 2000) := by
  unfold bndM; simp only [Bool.and_eq_true, iB_iff]
theorem insB_ok {m1 m2 m3 : Int} {n : Nat} {x : S93} (h : insB m1 m2 m3 n x.f0 x.f1 x.f2 = true) : insO n x := by
  unfold insB at h
  unfold insO opOk
  by_cases c23 : x.f0 = 23
  · exact ⟨⟨by omega, by omega, fun z => by omega⟩, fun z => by omega⟩
  rw [if_neg c23, Bool.and_eq_true] at h
  have h := h.2
  by_cases c2 : x.f0 = 2
  · exact ⟨⟨by omega, by omega, fun z => by omega⟩, fun z => by omega⟩
  rw [if_neg c2] at h
  by_cases c3 : x.f0 = 3 ∨ x.f0 = 4
  · exact ⟨⟨by omega, by omega, fun z => by omega⟩, fun z => by omega⟩
  rw [if_neg c3] at h
  by_cases c5 : x.f0 = 5
  · exact ⟨⟨by omega, by omega, fun z => by omega⟩, fun z => by omega⟩
  rw [if_neg c5] at h
  by_cases c6 : x.f0 = 6
  · exact ⟨⟨by omega, by omega, fun z => by omega⟩, fun z => by omega⟩
  rw [if_neg c6] at h
  by_cases c20 : x.f0 = 20
  · rw [if_pos c20, iB_iff] at h
    exact ⟨⟨by omega, by omega, fun _ => h⟩, fun z => by omega⟩
  rw [if_neg c20] at h
  by_cases c21 : x.f0 = 21 ∨ x.f0 = 22
  · rw [if_pos c21, iB_iff] at h
    exact ⟨⟨by omega, by omega, fun z => by omega⟩, fun z => by omega⟩
  rw [if_neg c21] at h
  by_cases c24 : x.f0 = 24
  · exact ⟨⟨by omega, by omega, fun z => by omega⟩, fun z => by omega⟩
  rw [if_neg c24, Bool.and_eq_true, iB_iff] at h
  exact ⟨⟨h.1.1, h.1.2, fun z => absurd z c20⟩, fun z => absurd z c21⟩
theorem rdIn (l : List S93) (i : Nat) (h : i < l.length) : rd_T93 l (i : Int) = l[i] := by
  unfold rd_T93; rw [Int.toNat_natCast, List.getD_eq_getElem?_getD, List.getElem?_eq_getElem h]; rfl
section
variable (m0 m1 m2 m3 : Int) (l : List S93)
theorem specInit (hl : l.length ≤ 2000) (hp : 0 < l.length) (r : List Int × Bool) (e : Ev (fun k => spec_l10Heights.l1 k (l.length : Int) ((List.replicate l.length (-1 : Int)).set 0 0) [0] m0 m1 m2 m3 l) r) :
    ∀ (d i : Nat) (h : List Int), l.length - i = d → i ≤ l.length → h.length = l.length → h.take i = List.replicate i (-1) → Ev (fun k => spec_l10Heights.l0 k (l.length : Int) h (i : Int) m0 m1 m2 m3 l) r := by
  intro d
  induction d with
  | zero =>
    intro i h hd hi hh ht
    have : i = l.length := by omega
    subst this
    rw [List.take_of_length_le (by omega)] at ht
    subst ht
    refine ev_succ ?_
    simp only [spec_l10Heights.l0]
    refine ev_neg (by omega) (ev_pos (by rw [List.length_replicate]; omega) ?_)
    exact e
  | succ d ih =>
    intro i h hd hi hh ht
    have hi' : i < l.length := by omega
    refine ev_succ ?_
    simp only [spec_l10Heights.l0]
    refine ev_pos (natLt hi') (ev_pos (nat0 i) (ev_pos (by omega) ?_))
    rw [wsucc hi' (by omega), Int.toNat_natCast]
    refine ih (i + 1) (h.set i (-1)) (by omega) (by omega) (by rw [List.length_set]; exact hh) ?_
    rw [List.take_succ_eq_append_getElem (by rw [List.length_set]; omega), List.getElem_set_self, List.take_set_of_le (Nat.le_refl _), ht, List.replicate_succ']
theorem heights_both (hl : l.length ≤ 2000) (hp : 0 < l.length) (hI : ∀ x ∈ l, insO l.length x) : ∃ ri rs : List Int × Bool, Ev (fun k => impl_Module_heights.f k m0 m1 m2 m3 l) ri ∧ Ev (fun k => spec_l10Heights.f k m0 m1 m2 m3 l) rs ∧ ri.2 = rs.2 ∧ (ri.2 = true → ri.1 = rs.1 ∧ ri.1.length = l.length) := by
  have I0 : Inv l.length ((List.replicate l.length (-1 : Int)).set 0 0) [0] := ⟨by simp, fun x hx => by
    rcases List.mem_or_eq_of_mem_set hx with z | z
    · rw [(List.mem_replicate.1 z).2]; omega
    · subst z; omega, fun t ht => by rw [List.mem_singleton.1 ht]; omega⟩
  have hn : neg ((List.replicate l.length (-1 : Int)).set 0 0) ≤ 2000 := by
    unfold neg
    refine Nat.le_trans List.countP_le_length ?_
    simp; omega
  obtain ⟨ri, rs, ei, es, h1, h2⟩ := lock m0 m1 m2 m3 l hl hI 4001 _ [0] I0 (by simp; omega) (by omega)
  refine ⟨ri, rs, ?_, ?_, h1, h2⟩
  · simp only [impl_Module_heights.f, slices_Repeat_int64_int64.f]
    refine ev_cbind (by rw [if_pos ⟨rfl, by omega, by omega⟩]) ?_
    refine ev_pos (by rw [List.length_replicate]; omega) ?_
    exact ei
  · simp only [spec_l10Heights.f]
    refine ev_pos (nat0 _) (ev_pos (by omega) ?_)
    exact specInit m0 m1 m2 m3 l hl hp rs es _ 0 _ rfl (by omega) (by simp) rfl
theorem specAll (r : List Int × Bool) (hl : l.length ≤ 2000) (e : Ev (fun k => spec_l10Heights.f k m0 m1 m2 m3 l) r) (hA : ∀ x ∈ l, insB m1 m2 m3 l.length x.f0 x.f1 x.f2 = true) :
    ∀ (d i : Nat), l.length - i = d → Ev (fun k => spec_ModuleRight.l0 k (i : Int) m0 m1 m2 m3 l) r.2 := by
  intro d
  induction d with
  | zero =>
    intro i hd
    refine ev_succ ?_
    simp only [spec_ModuleRight.l0]
    exact ev_neg (natNotLt (by omega)) (Ev.bind e (Ev.now _))
  | succ d ih =>
    intro i hd
    have hi : i < l.length := by omega
    refine ev_succ ?_
    simp only [spec_ModuleRight.l0, rdIn l i hi]
    refine ev_pos (natLt hi) (ev_pos (nat0 i) (Ev.bind (ev_from 4 (specIns m0 m1 m2 m3 l _ _ _)) ?_))
    rw [wsucc hi (by omega)]
    exact ev_pos (hA _ (List.getElem_mem hi)) (ih (i + 1) (by omega))
theorem specSome (hl : l.length ≤ 2000) : ∀ (d i : Nat), l.length - i = d → (∃ x ∈ l.drop i, insB m1 m2 m3 l.length x.f0 x.f1 x.f2 = false) → Ev (fun k => spec_ModuleRight.l0 k (i : Int) m0 m1 m2 m3 l) false := by
  intro d
  induction d with
  | zero => intro i hd ⟨x, hx, _⟩; rw [List.drop_eq_nil_of_le (by omega)] at hx; cases hx
  | succ d ih =>
    intro i hd ⟨x, hx, hq⟩
    have hi : i < l.length := by omega
    refine ev_succ ?_
    simp only [spec_ModuleRight.l0, rdIn l i hi]
    refine ev_pos (natLt hi) (ev_pos (nat0 i) (Ev.bind (ev_from 4 (specIns m0 m1 m2 m3 l _ _ _)) ?_))
    rw [wsucc hi (by omega)]
    by_cases c : insB m1 m2 m3 l.length l[i].f0 l[i].f1 l[i].f2 = true
    · refine ev_pos c (ih (i + 1) (by omega) ?_)
      rw [List.drop_eq_getElem_cons hi] at hx
      rcases List.mem_cons.1 hx with z | z
      · rw [z, c] at hq; cases hq
      · exact ⟨x, z, hq⟩
    · exact ev_neg c (Ev.now _)
/-- Both tell the same of a module; of a right one both have the same heights. -/
theorem module_both : ∃ b : Bool, Ev (fun k => impl_ModuleRight.f k m0 m1 m2 m3 l) b ∧ Ev (fun k => spec_ModuleRight.f k m0 m1 m2 m3 l) b ∧
    (b = true → bndM m0 m1 m2 m3 l.length = true ∧ ∃ h : List Int, h.length = l.length ∧ Ev (fun k => impl_Module_heights.f k m0 m1 m2 m3 l) (h, true) ∧ Ev (fun k => spec_l10Heights.f k m0 m1 m2 m3 l) (h, true)) := by
  have eI : ∀ k, impl_ModuleRight.f k m0 m1 m2 m3 l = if bndM m0 m1 m2 m3 l.length = true then (if l.all (fun x => (impl_ModuleRight.ins k m0 m1 m2 m3 l x).isSome) = true then (if l.any (fun x => !((impl_ModuleRight.ins k m0 m1 m2 m3 l x).getD true)) = true then some false else (impl_Module_heights.f k m0 m1 m2 m3 l).bind fun t => some t.2) else none) else some false := by
    intro k
    unfold impl_ModuleRight.f bndM
    have z : ∀ lo hi x, impl_ModuleRight.inB lo hi x = iB lo hi x := fun _ _ _ => rfl
    simp only [z]
    cases iB 1 3 m0 <;> cases iB 1 6 m1 <;> cases iB m1 10 m2 <;> cases iB 0 8 m3 <;> cases iB 1 2000 (l.length : Int) <;> rfl
  have eS : ∀ r, (if bndM m0 m1 m2 m3 l.length = true then Ev (fun k => spec_ModuleRight.l0 k 0 m0 m1 m2 m3 l) r else r = false) → Ev (fun k => spec_ModuleRight.f k m0 m1 m2 m3 l) r := by
    intro r hr
    have jt : r = false → Ev (fun k => spec_ModuleRight.j0 k true m0 m1 m2 m3 l) r := fun z => by
      refine ev_succ ?_
      simp only [spec_ModuleRight.j0, if_true]
      rw [z]; exact Ev.now _
    simp only [spec_ModuleRight.f, specIn, Option.bind_some]
    unfold bndM at hr
    cases h0 : iB 1 3 m0 with
    | false => rw [h0] at hr; simp only [Bool.false_eq_true, if_false]; exact jt (by simpa using hr)
    | true =>
      rw [h0] at hr
      simp only [if_true]
      cases h1 : iB 1 6 m1 with
      | false => rw [h1] at hr; simp only [Bool.false_eq_true, if_false]; exact jt (by simpa using hr)
      | true =>
        rw [h1] at hr
        simp only [if_true]
        cases h2 : iB m1 10 m2 with
        | false => rw [h2] at hr; simp only [Bool.false_eq_true, if_false]; exact jt (by simpa using hr)
        | true =>
          rw [h2] at hr
          simp only [if_true]
          cases h3 : iB 0 8 m3 with
          | false => rw [h3] at hr; simp only [Bool.false_eq_true, if_false]; exact jt (by simpa using hr)
          | true =>
            rw [h3] at hr
            simp only [if_true]
            cases h4 : iB 1 2000 (l.length : Int) with
            | false =>
              rw [h4] at hr
              have hz : ¬ (1 ≤ (l.length : Int) ∧ (l.length : Int) ≤ 2000) := fun z => by rw [iB_iff.2 z] at h4; cases h4
              by_cases c : (l.length : Int) < 1
              · exact ev_pos c (jt (by simpa using hr))
              · refine ev_neg c ?_
                rw [decide_eq_true (by omega)]; exact jt (by simpa using hr)
            | true =>
              rw [h4] at hr
              have hz := iB_iff.1 h4
              refine ev_neg (by omega) ?_
              rw [decide_eq_false (by omega)]
              refine ev_succ ?_
              simp only [spec_ModuleRight.j0, Bool.false_eq_true, if_false]
              simpa using hr
  by_cases hb : bndM m0 m1 m2 m3 l.length = true
  · have hz := bndM_iff.1 hb
    have hins : ∀ k x, impl_ModuleRight.ins (k + 3) m0 m1 m2 m3 l x = some (insB m1 m2 m3 l.length x.f0 x.f1 x.f2) := fun k x => implIns m0 m1 m2 m3 l (by omega) (by omega) (by omega) (by omega) x.f0 x.f1 x.f2 k
    have hsome : ∀ k, l.all (fun x => (impl_ModuleRight.ins (k + 3) m0 m1 m2 m3 l x).isSome) = true := fun k => List.all_eq_true.2 fun x hx => by rw [hins]; rfl
    by_cases hA : ∀ x ∈ l, insB m1 m2 m3 l.length x.f0 x.f1 x.f2 = true
    · obtain ⟨ri, rs, ei, es, h1, h2⟩ := heights_both m0 m1 m2 m3 l (by omega) (by omega) (fun x hx => insB_ok (hA x hx))
      refine ⟨ri.2, ?_, eS _ ?_, fun z => ⟨hb, ri.1, (h2 z).2, ?_, ?_⟩⟩
      · obtain ⟨K, hK⟩ := ei
        refine ⟨K + 3, fun n hn => ?_⟩
        obtain ⟨m, rfl⟩ : ∃ m, n = m + 3 := ⟨n - 3, by omega⟩
        have hno : l.any (fun x => !((impl_ModuleRight.ins (m + 3) m0 m1 m2 m3 l x).getD true)) = false := by
          rw [List.any_eq_false]
          intro x hx
          rw [hins, hA x hx]; simp
        have hk : impl_Module_heights.f (m + 3) m0 m1 m2 m3 l = some ri := hK (m + 3) (by omega)
        show impl_ModuleRight.f (m + 3) m0 m1 m2 m3 l = some ri.2
        rw [eI, if_pos hb, if_pos (hsome m), hno, if_neg (by simp), hk]; rfl
      · rw [if_pos hb, h1]
        exact specAll m0 m1 m2 m3 l rs (by omega) es hA _ 0 rfl
      · have : ri = (ri.1, true) := by rw [← z]
        rw [← this]; exact ei
      · have : rs = (ri.1, true) := by rw [(h2 z).1, ← z, h1]
        rw [← this]; exact es
    · obtain ⟨x, hx, hq⟩ : ∃ x ∈ l, insB m1 m2 m3 l.length x.f0 x.f1 x.f2 = false := by
        apply Classical.byContradiction
        intro hn
        apply hA
        intro x hx
        cases h : insB m1 m2 m3 l.length x.f0 x.f1 x.f2 with
        | true => rfl
        | false => exact absurd ⟨x, hx, h⟩ hn
      refine ⟨false, ev_from 3 (fun k => ?_), eS _ ?_, fun z => by cases z⟩
      · have hyes : l.any (fun x => !((impl_ModuleRight.ins (k + 3) m0 m1 m2 m3 l x).getD true)) = true := List.any_eq_true.2 ⟨x, hx, by rw [hins, hq]; rfl⟩
        rw [eI, if_pos hb, if_pos (hsome k), if_pos hyes]
      · rw [if_pos hb]
        exact specSome m0 m1 m2 m3 l (by omega) _ 0 rfl ⟨x, hx, hq⟩
  · refine ⟨false, ev_from 0 (fun k => by rw [eI, if_neg hb]), eS _ (by rw [if_neg hb]), fun z => by cases z⟩
end
def cI (x : S126) : S93 := ⟨x.f0, x.f1, x.f2⟩
theorem rdInl (l : List S126) (i : Nat) (h : i < l.length) : rd_T126 l (i : Int) = l[i] := by
  unfold rd_T126; rw [Int.toNat_natCast, List.getD_eq_getElem?_getD, List.getElem?_eq_getElem h]; rfl
theorem szM_is (a b c d : Int) (l : List S126) (hl : l.length ≤ maxLen) : laws_szModule.f a b c d l 1048576 = some (if (1048576 : Int) - (l.length : Int) < 0 then -1 else 1048576 - (l.length : Int)) := by
  unfold maxLen at hl
  have w : wrap64 (1048576 - (l.length : Int)) = 1048576 - (l.length : Int) := w64 (by omega) (by omega)
  unfold laws_szModule.f laws_szInsS.f
  rw [w]
  by_cases h : (1048576 : Int) - (l.length : Int) < 0
  · rw [if_pos h, if_pos h]; rfl
  · rw [if_neg h, if_neg h, Option.bind_some, if_neg h]
theorem toI_ev (l : List S126) (hl : l.length ≤ 1048576) : Ev (fun k => laws_toInsS.f k l) (l.map cI) := by
  simp only [laws_toInsS.f, if_pos (nat0 l.length), Int.toNat_natCast, if_pos (show l.length ≤ 11728124029610 by omega)]
  refine map_ev cI laws_toInsS.l0 1048576 (fun k x y i hB hx hy => ?_) (fun k x y => by simp only [laws_toInsS.l0, if_neg (natNotLt (Nat.lt_irrefl _))]) l _ (List.length_replicate) hl
  simp only [laws_toInsS.l0, if_pos (natLt hx), if_pos (nat0 i), laws_toIns.f, Option.bind_some, if_pos (natLt hy), rdInl x i hx, i64_1 hx (show x.length ≤ 140737488351232 by omega), Int.toNat_natCast]; rfl
theorem toM_ev (a b c d : Int) (l : List S126) (hl : l.length ≤ 1048576) : Ev (fun k => laws_toModule.f k a b c d l) (a, b, c, d, l.map cI) := by
  simp only [laws_toModule.f]
  exact Ev.bind (toI_ev l hl) (Ev.now _)
theorem eqIns_ev (l : List S93) (hl : l.length ≤ 140737488351232) : Ev (fun k => laws_eqInsS.f k l l) true := by
  simp only [laws_eqInsS.f, if_true]
  exact all_ev true (fun k l => laws_eqInsS.l0 k l l) l (fun k i hi => by simp only [laws_eqInsS.l0, if_pos (natLt hi), if_pos (nat0 i), laws_eqIns.f, if_true, Option.bind_some, i64_1 hi hl]) (fun k => by simp only [laws_eqInsS.l0, if_neg (natNotLt (Nat.lt_irrefl _))])
theorem eqM_ev (a b c d : Int) (l : List S93) (hl : l.length ≤ 140737488351232) : Ev (fun k => laws_eqModule.f k a b c d l a b c d l) true := by
  simp only [laws_eqModule.f, if_true]
  exact Ev.bind (eqIns_ev l hl) (by simp only [if_true]; exact Ev.now _)

/-- The bytes of a number from 0 on, seven bits each. -/
def enc7 (u : Nat) : List Int := if u < 128 then [(u : Int)] else ((u % 128 + 128 : Nat) : Int) :: enc7 (u / 128)
termination_by u
/-- A number of int64 made one of uint64. -/
def fold64 (a : Int) : Nat := if a < 0 then (-2 * a - 1).toNat else (2 * a).toNat
theorem fold64_lt {a : Int} (h0 : -9223372036854775808 ≤ a) (h1 : a ≤ 9223372036854775807) : fold64 a < 18446744073709551616 := by
  unfold fold64; split <;> omega

theorem spec_putnum_l0 : ∀ (d u : Nat) (acc : List Int), u < 128 ^ (d + 1) → u < 18446744073709551616 → acc.length + d ≤ 100 → Ev (fun k => spec_PutNum.l0 k (u : Int) acc) (strOfNums (acc ++ enc7 u)) := by
  intro d
  induction d with
  | zero =>
    intro u acc hu _ ha
    refine ev_succ ?_
    have hu' : u < 128 := by simpa using hu
    rw [enc7, if_pos hu']
    simp only [spec_PutNum.l0, if_neg (show ¬ (u : Int) ≥ 128 by omega), if_pos (show acc.length < 140737488355328 by omega), show (u : Int) % 256 = u by omega]
    exact Ev.now _
  | succ d ih =>
    intro u acc hu hu2 ha
    refine ev_succ ?_
    by_cases hs : u < 128
    · rw [enc7, if_pos hs]
      simp only [spec_PutNum.l0, if_neg (show ¬ (u : Int) ≥ 128 by omega), if_pos (show acc.length < 140737488355328 by omega), show (u : Int) % 256 = u by omega]
      exact Ev.now _
    · rw [enc7, if_neg hs]
      have e1 : IntKind.u64.wrap (Int.tdiv (u : Int) 128) = ((u / 128 : Nat) : Int) := by
        rw [tdiv_pos (by omega), u64in (by omega) (by omega)]; omega
      have e2 : IntKind.u64.wrap ((Int.tmod (u : Int) 128) + 128) % 256 = ((u % 128 + 128 : Nat) : Int) := by
        rw [tmod_pos (by omega), u64in (by omega) (by omega)]; omega
      simp only [spec_PutNum.l0, if_pos (show (u : Int) ≥ 128 by omega), if_pos (show acc.length < 140737488355328 by omega), e1, e2]
      have := ih (u / 128) (acc ++ [((u % 128 + 128 : Nat) : Int)]) (by rw [Nat.pow_succ] at hu; omega) (by omega) (by simp; omega)
      simpa [List.append_assoc] using this

theorem spec_PutNum_ev (a : Int) (h0 : -9223372036854775808 ≤ a) (h1 : a ≤ 9223372036854775807) : Ev (fun k => spec_PutNum.f k a) (strOfNums (enc7 (fold64 a))) := by
  have hf : spec_l01Fold.f a = some (fold64 a : Int) := by
    unfold spec_l01Fold.f fold64
    by_cases h : a < 0
    · rw [if_pos h, if_pos h, w64 (a := a + 1) (by omega) (by omega), w64 (by omega) (by omega), u64in (n := -(a + 1)) (by omega) (by omega), u64in (n := 2 * -(a + 1)) (by omega) (by omega), u64in (by omega) (by omega)]
      congr 1; omega
    · rw [if_neg h, if_neg h, u64in (n := a) (by omega) (by omega), u64in (by omega) (by omega)]
      congr 1; omega
  simp only [spec_PutNum.f, hf, Option.bind_some]
  have hl := fold64_lt h0 h1
  have := spec_putnum_l0 9 (fold64 a) [] (by omega) hl (by simp)
  simpa using this

theorem or128 (x : Int) : Go.bits .or .u8 (x % 256) 128 = x % 128 + 128 := by
  rw [u8_or _ _ (by omega) (by omega) (by omega) (by omega)]
  have h : ∀ n : Fin 256, (n.val ||| 128) = n.val % 128 + 128 := by decide +kernel
  have := h ⟨(x % 256).toNat, by omega⟩
  simp only at this
  rw [show (128 : Int).toNat = 128 from rfl, this]; omega

theorem impl_numBytes_l0 : ∀ (d u : Nat) (acc : List Int), u < 128 ^ (d + 1) → acc.length + d ≤ 100 → Ev (fun k => impl_numBytes.l0 k (u : Int) acc) (acc ++ enc7 u) := by
  intro d
  induction d with
  | zero =>
    intro u acc hu ha
    refine ev_succ ?_
    have hu' : u < 128 := by simpa using hu
    rw [enc7, if_pos hu']
    simp only [impl_numBytes.l0, if_neg (show ¬ (u : Int) > 127 by omega), if_pos (show acc.length < 140737488355328 by omega), show (u : Int) % 256 = u by omega]
    exact Ev.now _
  | succ d ih =>
    intro u acc hu ha
    refine ev_succ ?_
    by_cases hs : u < 128
    · rw [enc7, if_pos hs]
      simp only [impl_numBytes.l0, if_neg (show ¬ (u : Int) > 127 by omega), if_pos (show acc.length < 140737488355328 by omega), show (u : Int) % 256 = u by omega]
      exact Ev.now _
    · rw [enc7, if_neg hs]
      simp only [impl_numBytes.l0, if_pos (show (u : Int) > 127 by omega), if_pos (show acc.length < 140737488355328 by omega), or128, show (u : Int) % 128 + 128 = ((u % 128 + 128 : Nat) : Int) by omega, show (u : Int) / 128 = ((u / 128 : Nat) : Int) by omega]
      have := ih (u / 128) (acc ++ [((u % 128 + 128 : Nat) : Int)]) (by rw [Nat.pow_succ] at hu; omega) (by simp; omega)
      simpa [List.append_assoc] using this

theorem xor_ones (x : Nat) (h : x < 18446744073709551616) : x ^^^ 18446744073709551615 = 18446744073709551615 - x := by
  have h1 : (BitVec.ofNat 64 x ^^^ BitVec.allOnes 64).toNat = (~~~ (BitVec.ofNat 64 x)).toNat := by rw [BitVec.xor_allOnes]
  rw [BitVec.toNat_xor, BitVec.toNat_not, BitVec.toNat_ofNat, BitVec.toNat_allOnes, Nat.mod_eq_of_lt (by simpa using h)] at h1
  simpa using h1

theorem impl_fold (a : Int) (h0 : -9223372036854775808 ≤ a) (h1 : a ≤ 9223372036854775807) :
    Go.bits .xor .u64 (IntKind.u64.wrap ((IntKind.u64.wrap (a)) * 2)) (IntKind.u64.wrap (a / 9223372036854775808)) = (fold64 a : Int) := by
  rw [u64w, u64w, u64w, u64_xor _ _ (by omega) (by omega) (by omega) (by omega)]
  unfold fold64
  by_cases h : a < 0
  · rw [if_pos h, show (a / 9223372036854775808 % 18446744073709551616).toNat = 18446744073709551615 by omega, xor_ones _ (by omega)]
    omega
  · rw [if_neg h, show (a / 9223372036854775808 % 18446744073709551616).toNat = 0 by omega, Nat.xor_zero]
    omega

theorem impl_numBytes_ev (a : Int) (h0 : -9223372036854775808 ≤ a) (h1 : a ≤ 9223372036854775807) : Ev (fun k => impl_numBytes.f k a) (enc7 (fold64 a)) := by
  simp only [impl_numBytes.f, impl_fold a h0 h1]
  have hl := fold64_lt h0 h1
  have := impl_numBytes_l0 9 (fold64 a) [] (by omega) (by simp)
  simpa using this
theorem enc7_len : ∀ (d u : Nat), u < 128 ^ (d + 1) → (enc7 u).length ≤ d + 1 := by
  intro d
  induction d with
  | zero => intro u hu; rw [enc7, if_pos (by simpa using hu)]; simp
  | succ d ih =>
    intro u hu
    rw [enc7]; split
    · simp
    · have := ih (u / 128) (by rw [Nat.pow_succ] at hu; omega)
      simp; omega
theorem enc7_len10 {u : Nat} (hu : u < 18446744073709551616) : (enc7 u).length ≤ 10 := enc7_len 9 u (by omega)

theorem nums_size' (xs : List Int) : (strOfNums xs).size = xs.length := by simp [strOfNums, ByteArray.size]
/-- A number's bytes. -/
def nB (a : Int) : List Int := enc7 (fold64 a)
def w64b (a : Int) : Prop := -9223372036854775808 ≤ a ∧ a ≤ 9223372036854775807
theorem nB_len {a : Int} (h : w64b a) : (nB a).length ≤ 10 := enc7_len10 (fold64_lt h.1 h.2)
theorem nB_byte (u : Nat) : ∀ x ∈ enc7 u, 0 ≤ x ∧ x < 256 := by
  induction u using Nat.strongRecOn with
  | _ u ih =>
    intro x hx
    rw [enc7] at hx
    split at hx
    · rw [List.mem_singleton.1 hx]; omega
    · rcases List.mem_cons.1 hx with z | z
      · subst z; omega
      · exact ih _ (by omega) x z
theorem bytes_back (xs : List Int) (h : ∀ x ∈ xs, 0 ≤ x ∧ x < 256) : bytesOf (strOfNums xs) = xs := by
  unfold bytesOf strOfNums
  simp only [List.map_map]
  conv => rhs; rw [← List.map_id xs]
  refine List.map_congr_left fun x hx => ?_
  have := h x hx
  simp only [Function.comp, id]
  rw [UInt8.toNat_ofNat_of_lt' (by simp [UInt8.size]; omega)]
  omega
theorem nB_back (a : Int) : bytesOf (strOfNums (nB a)) = nB a := bytes_back _ (nB_byte _)
theorem nB_size {a : Int} (h : w64b a) : (strOfNums (nB a)).size ≤ 10 := by rw [nums_size']; exact nB_len h
theorem specN {a : Int} (h : w64b a) : Ev (fun k => spec_PutNum.f k a) (strOfNums (nB a)) := spec_PutNum_ev a h.1 h.2
theorem implN {a : Int} (h : w64b a) : Ev (fun k => impl_numBytes.f k a) (nB a) := impl_numBytes_ev a h.1 h.2
/-- An instruction's bytes. -/
def iBy (x : S93) : List Int := nB x.f0 ++ (nB x.f1 ++ nB x.f2)
def wIns (x : S93) : Prop := w64b x.f0 ∧ w64b x.f1 ∧ w64b x.f2
section
variable (m0 m1 m2 m3 : Int) (l : List S93)
theorem specCode (hl : l.length ≤ 2000) (hw : ∀ x ∈ l, wIns x) : ∀ (d i : Nat) (acc : List Int), l.length - i = d → acc.length + 30 * d ≤ 1000000 → Ev (fun k => spec_ModuleBytes.l0 k acc (i : Int) m0 m1 m2 m3 l) (strOfNums (acc ++ (l.drop i).flatMap iBy)) := by
  intro d
  induction d with
  | zero =>
    intro i acc hd hq
    refine ev_succ ?_
    simp only [spec_ModuleBytes.l0]
    rw [List.drop_eq_nil_of_le (by omega), List.flatMap_nil, List.append_nil]
    exact ev_neg (natNotLt (by omega)) (Ev.now _)
  | succ d ih =>
    intro i acc hd hq
    have hi : i < l.length := by omega
    have hx := hw _ (List.getElem_mem hi)
    have s0 := nB_size hx.1
    have s1 := nB_size hx.2.1
    have s2 := nB_size hx.2.2
    have l0 := nB_len hx.1
    have l1 := nB_len hx.2.1
    have l2 := nB_len hx.2.2
    refine ev_succ ?_
    simp only [spec_ModuleBytes.l0, rdIn l i hi]
    refine ev_pos (natLt hi) (ev_pos (nat0 i) (Ev.bind (specN hx.1) (ev_pos (by omega) (ev_cbind rfl (Ev.bind (specN hx.2.1) (ev_pos (by rw [List.length_append, nB_back]; omega) (ev_cbind rfl (Ev.bind (specN hx.2.2) (ev_pos (by rw [List.length_append, List.length_append, nB_back, nB_back]; omega) ?_)))))))))
    rw [wsucc hi (by omega), nB_back, nB_back, nB_back, List.drop_eq_getElem_cons hi, List.flatMap_cons]
    have e := ih (i + 1) (acc ++ nB l[i].f0 ++ nB l[i].f1 ++ nB l[i].f2) (by omega) (by simp only [List.length_append]; omega)
    have e2 : acc ++ (iBy l[i] ++ (l.drop (i + 1)).flatMap iBy) = (acc ++ nB l[i].f0 ++ nB l[i].f1 ++ nB l[i].f2) ++ (l.drop (i + 1)).flatMap iBy := by unfold iBy; simp only [List.append_assoc]
    rw [e2]; exact e
theorem implThree (x : S93) (hx : wIns x) (i : Nat) (hi : i < l.length) (hl : l.length ≤ 2000) (r : ByteArray) (acc : List Int) (hq : acc.length ≤ 1000000) (e : Ev (fun k => impl_ModuleBytes.l1 k (acc ++ iBy x) l (l.length : Int) ((i + 1 : Nat) : Int)) r) :
    Ev (fun k => impl_ModuleBytes.l2 k acc l (l.length : Int) (i : Int) [x.f0, x.f1, x.f2] 3 0) r := by
  have l0 := nB_len hx.1
  have l1 := nB_len hx.2.1
  have l2 := nB_len hx.2.2
  have w0 : wrap64 (0 + 1) = 1 := w64 (by omega) (by omega)
  have w1 : wrap64 (1 + 1) = 2 := w64 (by omega) (by omega)
  have w2 : wrap64 (2 + 1) = 3 := w64 (by omega) (by omega)
  have r0 : rd [x.f0, x.f1, x.f2] 0 = x.f0 := rfl
  have r1 : rd [x.f0, x.f1, x.f2] 1 = x.f1 := rfl
  have r2 : rd [x.f0, x.f1, x.f2] 2 = x.f2 := rfl
  refine ev_succ ?_
  simp only [impl_ModuleBytes.l2, r0, w0]
  refine ev_pos (by decide) (ev_pos (by decide) (ev_pos (by simp) (Ev.bind (implN hx.1) (ev_pos (by omega) (ev_succ ?_)))))
  simp only [impl_ModuleBytes.l2, r1, w1]
  refine ev_pos (by decide) (ev_pos (by decide) (ev_pos (by simp) (Ev.bind (implN hx.2.1) (ev_pos (by rw [List.length_append]; omega) (ev_succ ?_)))))
  simp only [impl_ModuleBytes.l2, r2, w2]
  refine ev_pos (by decide) (ev_pos (by decide) (ev_pos (by simp) (Ev.bind (implN hx.2.2) (ev_pos (by rw [List.length_append, List.length_append]; omega) (ev_succ ?_)))))
  simp only [impl_ModuleBytes.l2, wsucc hi (show l.length ≤ 140737488351232 by omega)]
  refine ev_neg (by decide) ?_
  have e2 : acc ++ nB x.f0 ++ nB x.f1 ++ nB x.f2 = acc ++ iBy x := by unfold iBy; simp only [List.append_assoc]
  rw [e2]; exact e
theorem implCode (hl : l.length ≤ 2000) (hw : ∀ x ∈ l, wIns x) : ∀ (d i : Nat) (acc : List Int), l.length - i = d → acc.length + 30 * d ≤ 1000000 → Ev (fun k => impl_ModuleBytes.l1 k acc l (l.length : Int) (i : Int)) (strOfNums (acc ++ (l.drop i).flatMap iBy)) := by
  intro d
  induction d with
  | zero =>
    intro i acc hd hq
    refine ev_succ ?_
    simp only [impl_ModuleBytes.l1]
    rw [List.drop_eq_nil_of_le (by omega), List.flatMap_nil, List.append_nil]
    exact ev_neg (natNotLt (by omega)) (Ev.now _)
  | succ d ih =>
    intro i acc hd hq
    have hi : i < l.length := by omega
    have hx := hw _ (List.getElem_mem hi)
    have l0 := nB_len hx.1
    have l1 := nB_len hx.2.1
    have l2 := nB_len hx.2.2
    refine ev_succ ?_
    simp only [impl_ModuleBytes.l1, rdIn l i hi]
    refine ev_pos (natLt hi) (ev_pos (nat0 i) (ev_pos (natLt hi) (ev_cbind rfl ?_)))
    rw [List.drop_eq_getElem_cons hi, List.flatMap_cons, ← List.append_assoc]
    refine implThree l l[i] hx i hi hl _ acc (by omega) (ih (i + 1) (acc ++ iBy l[i]) (by omega) ?_)
    unfold iBy; simp only [List.length_append]; omega
theorem implHead (hw : w64b m0 ∧ w64b m1 ∧ w64b m2 ∧ w64b m3) (hl : l.length ≤ 2000) (r : ByteArray) (e : Ev (fun k => impl_ModuleBytes.l1 k (nB m0 ++ nB m1 ++ nB m2 ++ nB m3 ++ nB (l.length : Int)) l (l.length : Int) 0) r) :
    Ev (fun k => impl_ModuleBytes.l0 k [] [m0, m1, m2, m3, (l.length : Int)] 5 0 m0 m1 m2 m3 l) r := by
  have hn : w64b (l.length : Int) := ⟨by omega, by omega⟩
  have l0 := nB_len hw.1
  have l1 := nB_len hw.2.1
  have l2 := nB_len hw.2.2.1
  have l3 := nB_len hw.2.2.2
  have l4 := nB_len hn
  have w0 : wrap64 (0 + 1) = 1 := w64 (by omega) (by omega)
  have w1 : wrap64 (1 + 1) = 2 := w64 (by omega) (by omega)
  have w2 : wrap64 (2 + 1) = 3 := w64 (by omega) (by omega)
  have w3 : wrap64 (3 + 1) = 4 := w64 (by omega) (by omega)
  have w4 : wrap64 (4 + 1) = 5 := w64 (by omega) (by omega)
  have r0 : rd [m0, m1, m2, m3, (l.length : Int)] 0 = m0 := rfl
  have r1 : rd [m0, m1, m2, m3, (l.length : Int)] 1 = m1 := rfl
  have r2 : rd [m0, m1, m2, m3, (l.length : Int)] 2 = m2 := rfl
  have r3 : rd [m0, m1, m2, m3, (l.length : Int)] 3 = m3 := rfl
  have r4 : rd [m0, m1, m2, m3, (l.length : Int)] 4 = (l.length : Int) := rfl
  refine ev_succ ?_
  simp only [impl_ModuleBytes.l0, r0, w0]
  refine ev_pos (by decide) (ev_pos (by decide) (ev_pos (by simp) (Ev.bind (implN hw.1) (ev_pos (by simp; omega) (ev_succ ?_)))))
  simp only [impl_ModuleBytes.l0, r1, w1]
  refine ev_pos (by decide) (ev_pos (by decide) (ev_pos (by simp) (Ev.bind (implN hw.2.1) (ev_pos (by simp; omega) (ev_succ ?_)))))
  simp only [impl_ModuleBytes.l0, r2, w2]
  refine ev_pos (by decide) (ev_pos (by decide) (ev_pos (by simp) (Ev.bind (implN hw.2.2.1) (ev_pos (by simp; omega) (ev_succ ?_)))))
  simp only [impl_ModuleBytes.l0, r3, w3]
  refine ev_pos (by decide) (ev_pos (by decide) (ev_pos (by simp) (Ev.bind (implN hw.2.2.2) (ev_pos (by simp; omega) (ev_succ ?_)))))
  simp only [impl_ModuleBytes.l0, r4, w4]
  refine ev_pos (by decide) (ev_pos (by decide) (ev_pos (by simp) (Ev.bind (implN hn) (ev_pos (by simp; omega) (ev_succ ?_)))))
  simp only [impl_ModuleBytes.l0]
  refine ev_neg (by decide) ?_
  rw [List.nil_append]; exact e
end
theorem bytes_both (m0 m1 m2 m3 : Int) (l : List S93) (hw : w64b m0 ∧ w64b m1 ∧ w64b m2 ∧ w64b m3) (hx : ∀ x ∈ l, wIns x) : ∃ t : ByteArray, Ev (fun k => spec_ModuleBytes.f k m0 m1 m2 m3 l) t ∧ Ev (fun k => impl_ModuleBytes.f k m0 m1 m2 m3 l) t := by
  obtain ⟨b, ei, es, hb⟩ := module_both m0 m1 m2 m3 l
  cases b with
  | false =>
    refine ⟨⟨#[]⟩, ?_, ?_⟩
    · simp only [spec_ModuleBytes.f]; exact Ev.bind es (by simp only [Bool.false_eq_true, if_false]; exact Ev.now _)
    · simp only [impl_ModuleBytes.f]; exact Ev.bind ei (by simp only [Bool.false_eq_true, if_false]; exact Ev.now _)
  | true =>
    have hl := (bndM_iff.1 (hb rfl).1).2.2.2.2.2
    have hn : w64b (l.length : Int) := ⟨by omega, by omega⟩
    have l0 := nB_len hw.1
    have l1 := nB_len hw.2.1
    have l2 := nB_len hw.2.2.1
    have l3 := nB_len hw.2.2.2
    have l4 := nB_len hn
    have s0 := nB_size hw.1
    have s1 := nB_size hw.2.1
    have s2 := nB_size hw.2.2.1
    have s3 := nB_size hw.2.2.2
    have s4 := nB_size hn
    refine ⟨strOfNums (nB m0 ++ nB m1 ++ nB m2 ++ nB m3 ++ nB (l.length : Int) ++ (l.drop 0).flatMap iBy), ?_, ?_⟩
    · simp only [spec_ModuleBytes.f]
      refine Ev.bind es ?_
      simp only [if_true]
      refine ev_cbind rfl (Ev.bind (specN hw.1) (ev_pos (by simp; omega) (ev_cbind rfl ?_)))
      refine Ev.bind (specN hw.2.1) (ev_pos (by simp only [List.nil_append, nB_back]; omega) (ev_cbind rfl ?_))
      refine Ev.bind (specN hw.2.2.1) (ev_pos (by simp only [List.nil_append, nB_back, List.length_append]; omega) (ev_cbind rfl ?_))
      refine Ev.bind (specN hw.2.2.2) (ev_pos (by simp only [List.nil_append, nB_back, List.length_append]; omega) (ev_cbind rfl ?_))
      refine Ev.bind (specN hn) (ev_pos (by simp only [List.nil_append, nB_back, List.length_append]; omega) ?_)
      simp only [List.nil_append, nB_back]
      exact specCode m0 m1 m2 m3 l (by omega) hx _ 0 _ rfl (by simp only [List.length_append]; omega)
    · simp only [impl_ModuleBytes.f]
      refine Ev.bind ei ?_
      simp only [if_true]
      refine ev_cbind rfl ?_
      refine implHead m0 m1 m2 m3 l hw (by omega) _ ?_
      exact implCode l (by omega) hx _ 0 _ rfl (by simp only [List.length_append]; omega)
theorem FnExactModuleBytes : laws_FnExactModuleBytes.Pure := by
  intro a0 a1 a2 a3 l w0 w1 w2 w3 hl
  refine Ev.rounds (g := fun k => laws_FnExactModuleBytes.f k a0 a1 a2 a3 l) ?_
  simp only [laws_FnExactModuleBytes.f, szM_is a0 a1 a2 a3 l hl.1, Option.bind_some]
  by_cases hn : (1048576 : Int) - (l.length : Int) < 0
  · simp only [if_pos hn]; exact Ev.now _
  · simp only [if_neg hn]
    have hto := toM_ev a0 a1 a2 a3 l (by omega)
    have hlm : (l.map cI).length ≤ 1048576 := by rw [List.length_map]; omega
    obtain ⟨t, es, ei⟩ := bytes_both a0 a1 a2 a3 (l.map cI) ⟨wf64 w0, wf64 w1, wf64 w2, wf64 w3⟩ (fun x hx => by
      obtain ⟨y, hy, rfl⟩ := List.mem_map.1 hx
      have := hl.2 y hy
      exact ⟨wf64 this.1, wf64 this.2.1, wf64 this.2.2⟩)
    refine Ev.bind hto (Ev.bind es (Ev.bind hto (Ev.bind ei ?_)))
    simp only [if_true]
    refine Ev.bind hto (Ev.bind (eqM_ev a0 a1 a2 a3 (l.map cI) (by omega)) ?_)
    simp only [if_true]; exact Ev.now _

end Go.Proofs.Ytpblcdafmpfemaa.Pure
