/- What every call of these laws finds in the library's own variable, and that it stays so where nothing that lay there is turned. -/
import Derived.Test.YtodokfmmnihecaaGreatDoorShelf
import Derived.Test.YtodokfmmnihecaaGreatDoorWWords
namespace Go.Proofs.YtodokfmmnihecaaGreatDoor
open Go.RowKit Go.Proofs.YtodokfmmnihecaaGreatDoorW.PrintWords
def Sh (W : World) : Prop := ∃ m, W.cell? ⟨1, 0, none⟩ = some (.int .i64 m)
theorem Sh.below {w W : World} (h : Sh w) (hb : Below w.heap.size w W) : Sh W := by
  obtain ⟨m, hm⟩ := h
  exact ⟨m, pw_cell_below hb hm⟩
theorem Sh.of {W : World} (h : W.ShapedOpen Tryz.prog) : Sh W := Tryz.laysM144.s1_3 W h
end Go.Proofs.YtodokfmmnihecaaGreatDoor
