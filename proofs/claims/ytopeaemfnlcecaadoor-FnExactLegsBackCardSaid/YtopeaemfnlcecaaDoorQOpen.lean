/- What comes in (numbers, bools, texts, structs and slices of these, however deep) opened all at once into the print's own kinds, with the bounds of each number and each text. -/
import Derived.Test.YtopeaemfnlcecaaDoorWMore
import Derived.DataReads
import Derived.DataElems
import Derived.ChangeArms
import Derived.ChangeShapes
import Derived.Deep.Slices
import Derived.WideShapes
namespace Go.Proofs.YtopeaemfnlcecaaDoor.Q
open Go Go.RowKit Go.Proofs.YtopeaemfnlcecaaDoorW.PrintWords Go.Proofs.YtopeaemfnlcecaaDoorW.PrintLast Go.Proofs.YtopeaemfnlcecaaDoorW.PrintMore
open Go.ChangeShapes Go.WideShapes

/-- What is read at type t is a value of kind d that meets F. -/
def Opn {α : Type} (P : Program) (t : TypeId) (d : Kd α) (F : α → Prop) : Prop :=
  ∀ {H : Type} {enc : TypeId × Value → H} {w : World} {base : Nat} {spare : Nat → Bool} {held : Bool} {fuel : Nat} {cs : List Value} {y : DataW H × List MemPlace},
    DataW.trod enc P w base spare held fuel t cs = some y → ∃ x, d.K w x cs ∧ F x

theorem opn_int {P : Program} {t : TypeId} {k : IntKind} (hu : P.underlying t = some (.int k)) : Opn P t (Kd.int k) (fun x => (Lit.int k x).wf = true) := by
  intro H enc w base spare held fuel cs y h
  obtain ⟨n, rfl, _, hw⟩ := DataW.trod_int hu h
  exact ⟨n, rfl, hw⟩
theorem opn_bool {P : Program} {t : TypeId} (hu : P.underlying t = some .bool) : Opn P t Kd.bool (fun _ => True) := by
  intro H enc w base spare held fuel cs y h
  obtain ⟨n, rfl, _⟩ := DataW.trod_bool hu h
  exact ⟨n, rfl, trivial⟩
theorem opn_string {P : Program} {t : TypeId} (hu : P.underlying t = some .string) : Opn P t Kd.string (fun s => s.size ≤ maxLen) := by
  intro H enc w base spare held fuel cs y h
  obtain ⟨s, rfl, _, hs⟩ := DataW.trod_string hu h
  exact ⟨s, rfl, hs⟩

theorem cells_get {w : World} {base n : Nat} {a : Addr} {c : List Value} (h : w.cells? base a n = some c) : c.length = n ∧ ∀ i u, c[i]? = some u → w.cell? (a.add i) = some u := by
  unfold World.cells? at h
  split at h
  · have hl := mapM_some_length h
    rw [List.length_range] at hl
    refine ⟨hl, fun i u hu => ?_⟩
    have hi : i < c.length := (List.getElem?_eq_some_iff.1 hu).1
    have := mapM_some_get h i i (by rw [List.getElem?_range (by omega)])
    rw [this, hu]
  · cases h

theorem list_of {α : Type} {p : Nat → α → Prop} : ∀ n, (∀ i, i < n → ∃ x, p i x) → ∃ l : List α, l.length = n ∧ ∀ i x, l[i]? = some x → p i x := by
  intro n
  induction n with
  | zero => exact fun _ => ⟨[], rfl, fun i x h => by simp at h⟩
  | succ n ih =>
    intro hex
    obtain ⟨l, hl, hp⟩ := ih (fun i hi => hex i (by omega))
    obtain ⟨x, hc⟩ := hex n (by omega)
    refine ⟨l ++ [x], by simp [hl], fun i y hy => ?_⟩
    by_cases hi : i < l.length
    · rw [List.getElem?_append_left hi] at hy; exact hp i y hy
    · rw [List.getElem?_append_right (by omega)] at hy
      have e0 : i = n := by
        have := (List.getElem?_eq_some_iff.1 hy).1
        simp at this; omega
      subst e0
      rw [hl] at hy
      simp at hy
      subst hy
      exact hc

theorem opn_slice {α : Type} {P : Program} {t e : TypeId} {d : Kd α} {F : α → Prop} (hu : P.underlying t = some (.slice e)) (hsz : P.cellsOf e = d.sz) (ho : Opn P e d F) :
    Opn P t (Kd.slice e d) (fun l => l.length ≤ maxLen ∧ ∀ x ∈ l, F x) := by
  intro H enc w base spare held fuel cs y h
  rcases Go.Deep.open_slice hu h with ⟨rfl, _⟩ | ⟨a, len, cap, m, n, D, Pl, rfl, _, hl, hm, hmm, _, hel⟩
  · exact ⟨[], ⟨none, 0, rfl, Nat.le_refl _, rfl, by simp, fun h => absurd h (by simp)⟩, by simp, fun x hx => by simp at hx⟩
  · have hlm : len ≤ m := by rw [hmm]; split <;> omega
    have hex : ∀ i, i < len → ∃ x c, w.cells? base (a.add (i * P.cellsOf e)) (P.cellsOf e) = some c ∧ d.K w x c ∧ F x := by
      intro i hi
      obtain ⟨c, hc, ht⟩ := hel i (by omega)
      obtain ⟨x, hK, hF⟩ := ho ht
      exact ⟨x, c, hc, hK, hF⟩
    have hxs := list_of (p := fun i x => ∃ c, w.cells? base (a.add (i * P.cellsOf e)) (P.cellsOf e) = some c ∧ d.K w x c ∧ F x) len hex
    obtain ⟨l, hl', hp⟩ := hxs
    subst hl'
    have hmax : maxLen = 9223372036854775807 := rfl
    refine ⟨l, ⟨some a, cap, rfl, hl, rfl, by omega, fun _ => ⟨a, rfl, fun j p hj => ?_⟩⟩, by omega, fun x hx => ?_⟩
    · obtain ⟨c, hc, hK, _⟩ := hp j p hj
      obtain ⟨h1, h2⟩ := cells_get hc
      refine ⟨c, by omega, hK, fun i u hu => ?_⟩
      have := h2 i u hu
      rw [Addr.add_add, hsz] at this
      exact this
    · obtain ⟨i, hi⟩ := List.getElem?_of_mem hx
      obtain ⟨c, _, _, hF⟩ := hp i x hi
      exact hF

/-- The same of a struct's fields, from one on. -/
def OpnF {α : Type} (P : Program) (fs : List Field) (off : Nat) (d : Kd α) (F : α → Prop) : Prop :=
  ∀ {H : Type} {enc : TypeId × Value → H} {w : World} {base : Nat} {spare : Nat → Bool} {held : Bool} {fuel : Nat} {cs : List Value} {ys : List (DataW H × List MemPlace)},
    (fs.mapM fun f => DataW.trod enc P w base spare held fuel f.type ((cs.drop f.offset).take (P.cellsOf f.type))) = some ys → cs.length = off + d.sz → ∃ x, d.K w x (cs.drop off) ∧ F x

theorem opnF_one {α : Type} {P : Program} {f : Field} {off : Nat} {t : TypeId} {d : Kd α} {F : α → Prop} (ht : f.type = t) (hof : f.offset = off) (hsz : P.cellsOf t = d.sz) (ho : Opn P t d F) : OpnF P [f] off d F := by
  intro H enc w base spare held fuel cs ys h hl
  subst ht hof
  simp only [List.mapM_cons, List.mapM_nil, Option.bind_eq_bind, Option.bind_eq_some_iff] at h
  obtain ⟨y, hy, _⟩ := h
  rw [List.take_of_length_le (by rw [List.length_drop]; omega)] at hy
  exact ho hy

theorem opnF_cons {α β : Type} {P : Program} {f : Field} {fs : List Field} {off : Nat} {t : TypeId} {a : Kd α} {b : Kd β} {F : α → Prop} {G : β → Prop} (ht : f.type = t) (hof : f.offset = off) (hsz : P.cellsOf t = a.sz) (ho : Opn P t a F) (hr : OpnF P fs (off + a.sz) b G) :
    OpnF P (f :: fs) off (Kd.pair a b) (fun x => F x.1 ∧ G x.2) := by
  intro H enc w base spare held fuel cs ys h hl
  subst ht hof
  simp only [List.mapM_cons, Option.bind_eq_bind, Option.bind_eq_some_iff] at h
  obtain ⟨y, hy, ys', hys, _⟩ := h
  have hl2 : cs.length = f.offset + (a.sz + b.sz) := hl
  obtain ⟨x, hx, hF⟩ := ho hy
  obtain ⟨z, hz, hG⟩ := hr hys (by omega)
  refine ⟨(x, z), ⟨_, _, ?_, hx, hz⟩, hF, hG⟩
  rw [hsz, ← List.drop_drop, List.take_append_drop]

theorem opn_struct {α β : Type} {P : Program} {t : TypeId} {fs : Array Field} {d : Kd α} {F : α → Prop} (hu : P.underlying t = some (.struct fs)) (hsz : P.cellsOf t = d.sz) (ho : OpnF P fs.toList 0 d F) (f : β → α) (g : α → β) (hg : ∀ x, f (g x) = x) :
    Opn P t (Kd.iso d f) (fun y => F (f y)) := by
  intro H enc w base spare held fuel cs y h
  cases fuel with
  | zero => simp [DataW.trod] at h
  | succ fuel =>
    simp only [DataW.trod, hu] at h
    split at h
    · rename_i hlen
      rw [Option.map_eq_some_iff] at h
      obtain ⟨ys, hys, _⟩ := h
      obtain ⟨x, hK, hF⟩ := ho hys (by omega)
      rw [List.drop_zero] at hK
      refine ⟨g x, ?_, ?_⟩
      · show d.K w (f (g x)) cs
        rw [hg]; exact hK
      · show F (f (g x))
        rw [hg]; exact hF
    · cases h

theorem opn_flat {α : Type} {P : Program} {t : TypeId} {fs : Array Field} {d : Kd α} {F : α → Prop} (hu : P.underlying t = some (.struct fs)) (hsz : P.cellsOf t = d.sz) (ho : OpnF P fs.toList 0 d F) : Opn P t d F := by
  intro H enc w base spare held fuel cs y h
  cases fuel with
  | zero => simp [DataW.trod] at h
  | succ fuel =>
    simp only [DataW.trod, hu] at h
    split at h
    · rename_i hlen
      rw [Option.map_eq_some_iff] at h
      obtain ⟨ys, hys, _⟩ := h
      obtain ⟨x, hK, hF⟩ := ho hys (by omega)
      rw [List.drop_zero] at hK
      exact ⟨x, hK, hF⟩
    · cases h

end Go.Proofs.YtopeaemfnlcecaaDoor.Q
