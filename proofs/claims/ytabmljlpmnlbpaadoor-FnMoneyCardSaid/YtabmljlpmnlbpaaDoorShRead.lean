/- What every call of these laws finds in the library's own variables (the table of the powers of ten, the bound of a search, the two errors of strconv), and that it stays so where nothing that lay there is turned. -/
import Derived.Test.YtabmljlpmnlbpaaDoorShelf
import Derived.Test.YtabmljlpmnlbpaaDoorWWords
import Derived.Lib.AppendIntMem
import Derived.Lib.LaidTab
import Derived.Stop.LaidErr
namespace Go.Proofs.YtabmljlpmnlbpaaDoor
open Go.RowKit Go.Proofs.YtabmljlpmnlbpaaDoorW.PrintWords
structure Sh (W : World) : Prop where
  tab : Lib.TabIs Tryd.prog W "internal/strconv.uint64pow10" .u64 Lib.pow10Tab
  len : ∃ m, W.cell? ⟨1, 0, none⟩ = some (.int .i64 m)
  syn : ∃ t p, W.cell? ⟨2, 0, none⟩ = some (.iface t p)
  rng : ∃ t p, W.cell? ⟨3, 0, none⟩ = some (.iface t p)
theorem Sh.below {w W : World} (h : Sh w) (hb : Below w.heap.size w W) : Sh W := by
  obtain ⟨m, hm⟩ := h.len
  obtain ⟨t, p, hs⟩ := h.syn
  obtain ⟨t2, p2, hr⟩ := h.rng
  exact ⟨Lib.tabBelow_of_tabIs h.tab W hb, ⟨m, pw_cell_below hb hm⟩, ⟨t, p, pw_cell_below hb hs⟩, ⟨t2, p2, pw_cell_below hb hr⟩⟩
theorem Sh.pow {W : World} (h : Sh W) : Lib.TabIs Tryd.prog W "internal/strconv.uint64pow10" .u64 Lib.pow10Tab := h.tab
theorem star : "*" ++ "errors.errorString" = "*errors.errorString" := by decide
theorem rowErr (u : TypeId) (h : Tryd.prog.typeName? 3 u = some "*errors.errorString") : u = 223 :=
  typeName_ptr_named (nm := "errors.errorString") (by rw [star]; kernel_rfl) (by kernel_rfl) (by decide) u (by rw [star]; exact h)
theorem Sh.of {W : World} {x y : String × DataW Unit} {t1 t2 : List UInt8} {rest : List (String × DataW Unit)} (h : laidMet Tryd.prog (x :: y :: ("internal/strconv.uint64pow10", Lib.tabData .u64 Lib.pow10Tab) :: ("strconv.ErrRange", .iface "*errors.errorString" (.ptr (.agg [.lit (.string t1)]))) :: ("strconv.ErrSyntax", .iface "*errors.errorString" (.ptr (.agg [.lit (.string t2)]))) :: rest) W) (hs : W.ShapedOpen Tryd.prog) : Sh W := by
  have h3 := h.tail.tail.tail
  obtain ⟨a, s, hv, _⟩ := laid_sentinel (g := 3) (ti := 144) (tp := 223) (te := 225) (ts := 9) h3 (by kernel_rfl) (by kernel_rfl) Tryd.underlying144 rowErr Tryd.underlying223 Tryd.underlying225 rfl rfl Tryd.underlying9 (by kernel_rfl) (by kernel_rfl)
  obtain ⟨a2, s2, hv2, _⟩ := laid_sentinel (g := 2) (ti := 144) (tp := 223) (te := 225) (ts := 9) h3.tail (by kernel_rfl) (by kernel_rfl) Tryd.underlying144 rowErr Tryd.underlying223 Tryd.underlying225 rfl rfl Tryd.underlying9 (by kernel_rfl) (by kernel_rfl)
  refine ⟨Lib.tabIs_of_head (g := 0) (t := 203) (e := 147) (n := 20) (by kernel_rfl) (by kernel_rfl) Tryd.underlying203 Tryd.underlying147 (by kernel_rfl) (by kernel_rfl) h.tail.tail, Go.Proofs.cell_of_shapedOpen_int (zero := #[.int .i64 0]) (t := 3) hs (of_decide_eq_true (by kernel_rfl)) (by kernel_rfl) rfl (by kernel_rfl) (by kernel_rfl) Tryd.underlying3, ⟨223, .pointer (some a2), ?_⟩, ⟨223, .pointer (some a), ?_⟩⟩
  · have h0 := World.var?_cell (show Tryd.prog.globalNamed "strconv.ErrSyntax" = some 2 by kernel_rfl) hv2 0
    simpa using h0
  · have h0 := World.var?_cell (show Tryd.prog.globalNamed "strconv.ErrRange" = some 3 by kernel_rfl) hv 0
    simpa using h0
end Go.Proofs.YtabmljlpmnlbpaaDoor
