import Derived.Test.YthpjnjplgmaofaaGreatDoorShelf
import Derived.Test.YthpjnjplgmaofaaGreatDoorWWords
namespace Go.Proofs.YthpjnjplgmaofaaGreatDoor
open Go.RowKit Go.Proofs.YthpjnjplgmaofaaGreatDoorW.PrintWords
def Sh (W : World) : Prop := ∃ m, W.cell? ⟨0, 0, none⟩ = some (.int .i64 m)
theorem Sh.below {w W : World} (h : Sh w) (hb : Below w.heap.size w W) : Sh W := by
  obtain ⟨m, hm⟩ := h
  exact ⟨m, jm hb hm⟩
theorem Sh.of {W : World} (h : W.ShapedOpen Tryz.prog) : Sh W := Tryz.uX.s1_3 W h
end Go.Proofs.YthpjnjplgmaofaaGreatDoor
