/-
  No cell of these rows narrows 'for every input' (looked for: loops, veiled, ifaces, maps, wideKeys, modest, calm, conditions, laid).
  DERIVED. THE GIVEN ROWS OF THIS SEAT. 9 by the template 'for every input the law returns true; each argument reads behind the call as it read before'; 0 by the template 'total and deterministic' (their statements: YthecbcflpadinaaTotals.lean).
  GIVEN WITH THE SEED: the statements are not yours to turn. If you find one false, say at which input.
  Laid BY PROGRAM, IN A SANDBOX (cutbox-rows.mjs): the forced cells as the released guide's own fill.sh prints them over the translation f4ef11d1a19a183f… (all of the seat's roots in one cut). By AI agents, Wed Nov 11 2026. No macro, syntax, notation, axiom, sorry.
-/
import Derived.Test.YthecbcflpadinaaChecked
import GoSem.Claim
import GoSem.ClaimJoined
import GoSem.ClaimMapViews
import Derived.JoinedTies
import Derived.KernelRfl
namespace Go.Proofs.Ythecbcflpadinaa
/- THE CELL 'sum', in the pinned program and in every row, IS THE sha256 OF THE DUMP (.gsa) THAT YthecbcflpadinaaProg.lean LOADS. Nothing in Lean hashes anything: it is a label: what it is worth is what the hold of that sum in a sandbox is worth. -/
noncomputable def Try.pinned : Pinned := { name := "ythecbcflpadinaa", sum := "f4ef11d1a19a183f8f3eba4affcad8078af04e124cc439d263ed699437b8dfd9", checked := Try.checked }
namespace Rows
def none {H : Type} : Left H := { results := [], args := [] }

/-- 'laws.FnRecs': WHATEVER THE INPUT: true; the input reads as it did. -/
def fnRecsSpec : ChangeSpec := { name := "fnRecs", fn := fun _ => fun
  | [d1, d2] => { results := [.lit (.bool true)], args := [d1, d2] }
  | _ => none }
def fnRecsRow : OpenClaim := { program := "ythecbcflpadinaa", sum := "f4ef11d1a19a183f8f3eba4affcad8078af04e124cc439d263ed699437b8dfd9", func := "loop.example/g00221/laws.FnRecs", spec := "fnRecs", apart := false }
def FnRecsSaid : Prop := fnRecsRow.holds Try.pinned (OpenSpec.ofChange fnRecsSpec)

/-- ITS FALSE NEIGHBOUR: 'it returns false'. Refute it at one input. -/
def fnRecsWrong : ChangeSpec := { name := "fnRecs", fn := fun _ => fun
  | [d1, d2] => { results := [.lit (.bool false)], args := [d1, d2] }
  | _ => none }
def FnRecsWrongFalsely : Prop := fnRecsRow.holds Try.pinned (OpenSpec.ofChange fnRecsWrong)

/-- 'laws.FnExactDiskText': WHATEVER THE INPUT: true; the input reads as it did. -/
def fnExactDiskTextSpec : ChangeSpec := { name := "fnExactDiskText", fn := fun _ => fun
  | [d] => { results := [.lit (.bool true)], args := [d] }
  | _ => none }
def fnExactDiskTextRow : OpenClaim := { program := "ythecbcflpadinaa", sum := "f4ef11d1a19a183f8f3eba4affcad8078af04e124cc439d263ed699437b8dfd9", func := "loop.example/g00221/laws.FnExactDiskText", spec := "fnExactDiskText", inPlace := ["internal/abi.NoEscape", "internal/bytealg.MakeNoZero"], apart := false }
def FnExactDiskTextSaid : Prop := fnExactDiskTextRow.holds Try.pinned (OpenSpec.ofChange fnExactDiskTextSpec)

/-- ITS FALSE NEIGHBOUR: 'it returns false'. Refute it at one input. -/
def fnExactDiskTextWrong : ChangeSpec := { name := "fnExactDiskText", fn := fun _ => fun
  | [d] => { results := [.lit (.bool false)], args := [d] }
  | _ => none }
def FnExactDiskTextWrongFalsely : Prop := fnExactDiskTextRow.holds Try.pinned (OpenSpec.ofChange fnExactDiskTextWrong)

/-- 'laws.FnOps': WHATEVER THE INPUT: true; the input reads as it did. -/
def fnOpsSpec : ChangeSpec := { name := "fnOps", fn := fun _ => fun
  | [d] => { results := [.lit (.bool true)], args := [d] }
  | _ => none }
def fnOpsRow : OpenClaim := { program := "ythecbcflpadinaa", sum := "f4ef11d1a19a183f8f3eba4affcad8078af04e124cc439d263ed699437b8dfd9", func := "loop.example/g00221/laws.FnOps", spec := "fnOps", apart := false }
def FnOpsSaid : Prop := fnOpsRow.holds Try.pinned (OpenSpec.ofChange fnOpsSpec)

/-- ITS FALSE NEIGHBOUR: 'it returns false'. Refute it at one input. -/
def fnOpsWrong : ChangeSpec := { name := "fnOps", fn := fun _ => fun
  | [d] => { results := [.lit (.bool false)], args := [d] }
  | _ => none }
def FnOpsWrongFalsely : Prop := fnOpsRow.holds Try.pinned (OpenSpec.ofChange fnOpsWrong)

/-- 'laws.FnExactRecsOf': WHATEVER THE INPUT: true; the input reads as it did. -/
def fnExactRecsOfSpec : ChangeSpec := { name := "fnExactRecsOf", fn := fun _ => fun
  | [d] => { results := [.lit (.bool true)], args := [d] }
  | _ => none }
def fnExactRecsOfRow : OpenClaim := { program := "ythecbcflpadinaa", sum := "f4ef11d1a19a183f8f3eba4affcad8078af04e124cc439d263ed699437b8dfd9", func := "loop.example/g00221/laws.FnExactRecsOf", spec := "fnExactRecsOf", apart := false }
def FnExactRecsOfSaid : Prop := fnExactRecsOfRow.holds Try.pinned (OpenSpec.ofChange fnExactRecsOfSpec)

/-- ITS FALSE NEIGHBOUR: 'it returns false'. Refute it at one input. -/
def fnExactRecsOfWrong : ChangeSpec := { name := "fnExactRecsOf", fn := fun _ => fun
  | [d] => { results := [.lit (.bool false)], args := [d] }
  | _ => none }
def FnExactRecsOfWrongFalsely : Prop := fnExactRecsOfRow.holds Try.pinned (OpenSpec.ofChange fnExactRecsOfWrong)

/-- 'laws.FnExactInterest': WHATEVER THE INPUT: true; the input reads as it did. -/
def fnExactInterestSpec : ChangeSpec := { name := "fnExactInterest", fn := fun _ => fun
  | [d1, d2, d3, d4, d5] => { results := [.lit (.bool true)], args := [d1, d2, d3, d4, d5] }
  | _ => none }
def fnExactInterestRow : OpenClaim := { program := "ythecbcflpadinaa", sum := "f4ef11d1a19a183f8f3eba4affcad8078af04e124cc439d263ed699437b8dfd9", func := "loop.example/g00221/laws.FnExactInterest", spec := "fnExactInterest", named := ["math/bits.divideError", "math/bits.overflowError"], apart := false }
def FnExactInterestSaid : Prop := fnExactInterestRow.holds Try.pinned (OpenSpec.ofChange fnExactInterestSpec)

/-- ITS FALSE NEIGHBOUR: 'it returns false'. Refute it at one input. -/
def fnExactInterestWrong : ChangeSpec := { name := "fnExactInterest", fn := fun _ => fun
  | [d1, d2, d3, d4, d5] => { results := [.lit (.bool false)], args := [d1, d2, d3, d4, d5] }
  | _ => none }
def FnExactInterestWrongFalsely : Prop := fnExactInterestRow.holds Try.pinned (OpenSpec.ofChange fnExactInterestWrong)

/-- 'laws.FnExactProductSame': WHATEVER THE INPUT: true; the input reads as it did. -/
def fnExactProductSameSpec : ChangeSpec := { name := "fnExactProductSame", fn := fun _ => fun
  | [d1, d2] => { results := [.lit (.bool true)], args := [d1, d2] }
  | _ => none }
def fnExactProductSameRow : OpenClaim := { program := "ythecbcflpadinaa", sum := "f4ef11d1a19a183f8f3eba4affcad8078af04e124cc439d263ed699437b8dfd9", func := "loop.example/g00221/laws.FnExactProductSame", spec := "fnExactProductSame", apart := false }
def FnExactProductSameSaid : Prop := fnExactProductSameRow.holds Try.pinned (OpenSpec.ofChange fnExactProductSameSpec)

/-- ITS FALSE NEIGHBOUR: 'it returns false'. Refute it at one input. -/
def fnExactProductSameWrong : ChangeSpec := { name := "fnExactProductSame", fn := fun _ => fun
  | [d1, d2] => { results := [.lit (.bool false)], args := [d1, d2] }
  | _ => none }
def FnExactProductSameWrongFalsely : Prop := fnExactProductSameRow.holds Try.pinned (OpenSpec.ofChange fnExactProductSameWrong)

/-- 'laws.FnExactHookOf': WHATEVER THE INPUT: true; the input reads as it did. -/
def fnExactHookOfSpec : ChangeSpec := { name := "fnExactHookOf", fn := fun _ => fun
  | [d1, d2] => { results := [.lit (.bool true)], args := [d1, d2] }
  | _ => none }
def fnExactHookOfRow : OpenClaim := { program := "ythecbcflpadinaa", sum := "f4ef11d1a19a183f8f3eba4affcad8078af04e124cc439d263ed699437b8dfd9", func := "loop.example/g00221/laws.FnExactHookOf", spec := "fnExactHookOf", apart := false }
def FnExactHookOfSaid : Prop := fnExactHookOfRow.holds Try.pinned (OpenSpec.ofChange fnExactHookOfSpec)

/-- ITS FALSE NEIGHBOUR: 'it returns false'. Refute it at one input. -/
def fnExactHookOfWrong : ChangeSpec := { name := "fnExactHookOf", fn := fun _ => fun
  | [d1, d2] => { results := [.lit (.bool false)], args := [d1, d2] }
  | _ => none }
def FnExactHookOfWrongFalsely : Prop := fnExactHookOfRow.holds Try.pinned (OpenSpec.ofChange fnExactHookOfWrong)

/-- 'laws.FnExactModuleRight': WHATEVER THE INPUT: true; the input reads as it did. -/
def fnExactModuleRightSpec : ChangeSpec := { name := "fnExactModuleRight", fn := fun _ => fun
  | [d] => { results := [.lit (.bool true)], args := [d] }
  | _ => none }
def fnExactModuleRightRow : OpenClaim := { program := "ythecbcflpadinaa", sum := "f4ef11d1a19a183f8f3eba4affcad8078af04e124cc439d263ed699437b8dfd9", func := "loop.example/g00221/laws.FnExactModuleRight", spec := "fnExactModuleRight", unfollowed := true, recurses := true, apart := false }
def FnExactModuleRightSaid : Prop := fnExactModuleRightRow.holds Try.pinned (OpenSpec.ofChange fnExactModuleRightSpec)

/-- ITS FALSE NEIGHBOUR: 'it returns false'. Refute it at one input. -/
def fnExactModuleRightWrong : ChangeSpec := { name := "fnExactModuleRight", fn := fun _ => fun
  | [d] => { results := [.lit (.bool false)], args := [d] }
  | _ => none }
def FnExactModuleRightWrongFalsely : Prop := fnExactModuleRightRow.holds Try.pinned (OpenSpec.ofChange fnExactModuleRightWrong)

/-- 'laws.FnInterest': WHATEVER THE INPUT: true; the input reads as it did. -/
def fnInterestSpec : ChangeSpec := { name := "fnInterest", fn := fun _ => fun
  | [d1, d2] => { results := [.lit (.bool true)], args := [d1, d2] }
  | _ => none }
def fnInterestRow : OpenClaim := { program := "ythecbcflpadinaa", sum := "f4ef11d1a19a183f8f3eba4affcad8078af04e124cc439d263ed699437b8dfd9", func := "loop.example/g00221/laws.FnInterest", spec := "fnInterest", named := ["math/bits.divideError", "math/bits.overflowError"], apart := false }
def FnInterestSaid : Prop := fnInterestRow.holds Try.pinned (OpenSpec.ofChange fnInterestSpec)

/-- ITS FALSE NEIGHBOUR: 'it returns false'. Refute it at one input. -/
def fnInterestWrong : ChangeSpec := { name := "fnInterest", fn := fun _ => fun
  | [d1, d2] => { results := [.lit (.bool false)], args := [d1, d2] }
  | _ => none }
def FnInterestWrongFalsely : Prop := fnInterestRow.holds Try.pinned (OpenSpec.ofChange fnInterestWrong)

/- THE SECOND FORM. 'bulk': how many values and letters a reading holds, each counted each time it is reached (what is shared counts as often as it is met; a slice's spare places count too). A statement '..UptoSaid' is the law's where the arguments, and the package variables that the reading takes, are together of bulk at most 1048576: NARROWER than '..Said'. Prove '..Said' where nothing that the law and all that it calls make is longer than what came in: it says more and counts as full. Else prove '..UptoSaid'. A law counts once. -/
mutual
def uptoBulk {H : Type} : DataW H → Nat
  | .lit (.string bytes) => bytes.length + 1
  | .lit _ => 1
  | .nil => 1
  | .ptr d => uptoBulk d + 1
  | .slice elems spare => uptoBulkAll elems + uptoBulkAll spare + 1
  | .agg parts => uptoBulkAll parts + 1
  | .iface _ d => uptoBulk d + 1
  | .map entries => uptoBulkEntries entries + 1
  | .held _ => 1
def uptoBulkAll {H : Type} : List (DataW H) → Nat
  | [] => 0
  | d :: r => uptoBulk d + uptoBulkAll r
def uptoBulkEntries {H : Type} : List (Lit × DataW H) → Nat
  | [] => 0
  | x :: r => uptoBulkEntry x + uptoBulkEntries r
def uptoBulkEntry {H : Type} : Lit × DataW H → Nat
  | (.string bytes, d) => bytes.length + uptoBulk d + 1
  | (_, d) => uptoBulk d + 1
 end
def uptoSmall : (H : Type) → List (DataW H) → Bool := fun _ ds => decide (uptoBulkAll ds ≤ 1048576)
def OpenSpec.upto (s : _root_.Go.ChangeSpec) : _root_.Go.OpenSpec := { _root_.Go.OpenSpec.ofChange s with cond := some uptoSmall }

/-- 'laws.FnRecs', WHERE WHAT IT READS IS OF BULK AT MOST 1048576: true; the input reads as it did. -/
def fnRecsUptoRow : OpenClaim := { program := "ythecbcflpadinaa", sum := "f4ef11d1a19a183f8f3eba4affcad8078af04e124cc439d263ed699437b8dfd9", func := "loop.example/g00221/laws.FnRecs", spec := "fnRecs", apart := false, narrowed := true }
def FnRecsUptoSaid : Prop := fnRecsUptoRow.holds Try.pinned (OpenSpec.upto fnRecsSpec)

/-- 'laws.FnExactDiskText', WHERE WHAT IT READS IS OF BULK AT MOST 1048576: true; the input reads as it did. -/
def fnExactDiskTextUptoRow : OpenClaim := { program := "ythecbcflpadinaa", sum := "f4ef11d1a19a183f8f3eba4affcad8078af04e124cc439d263ed699437b8dfd9", func := "loop.example/g00221/laws.FnExactDiskText", spec := "fnExactDiskText", inPlace := ["internal/abi.NoEscape", "internal/bytealg.MakeNoZero"], apart := false, narrowed := true }
def FnExactDiskTextUptoSaid : Prop := fnExactDiskTextUptoRow.holds Try.pinned (OpenSpec.upto fnExactDiskTextSpec)

/-- 'laws.FnOps', WHERE WHAT IT READS IS OF BULK AT MOST 1048576: true; the input reads as it did. -/
def fnOpsUptoRow : OpenClaim := { program := "ythecbcflpadinaa", sum := "f4ef11d1a19a183f8f3eba4affcad8078af04e124cc439d263ed699437b8dfd9", func := "loop.example/g00221/laws.FnOps", spec := "fnOps", apart := false, narrowed := true }
def FnOpsUptoSaid : Prop := fnOpsUptoRow.holds Try.pinned (OpenSpec.upto fnOpsSpec)

/-- 'laws.FnExactRecsOf', WHERE WHAT IT READS IS OF BULK AT MOST 1048576: true; the input reads as it did. -/
def fnExactRecsOfUptoRow : OpenClaim := { program := "ythecbcflpadinaa", sum := "f4ef11d1a19a183f8f3eba4affcad8078af04e124cc439d263ed699437b8dfd9", func := "loop.example/g00221/laws.FnExactRecsOf", spec := "fnExactRecsOf", apart := false, narrowed := true }
def FnExactRecsOfUptoSaid : Prop := fnExactRecsOfUptoRow.holds Try.pinned (OpenSpec.upto fnExactRecsOfSpec)

/-- 'laws.FnExactInterest', WHERE WHAT IT READS IS OF BULK AT MOST 1048576: true; the input reads as it did. -/
def fnExactInterestUptoRow : OpenClaim := { program := "ythecbcflpadinaa", sum := "f4ef11d1a19a183f8f3eba4affcad8078af04e124cc439d263ed699437b8dfd9", func := "loop.example/g00221/laws.FnExactInterest", spec := "fnExactInterest", named := ["math/bits.divideError", "math/bits.overflowError"], apart := false, narrowed := true }
def FnExactInterestUptoSaid : Prop := fnExactInterestUptoRow.holds Try.pinned (OpenSpec.upto fnExactInterestSpec)

/-- 'laws.FnExactProductSame', WHERE WHAT IT READS IS OF BULK AT MOST 1048576: true; the input reads as it did. -/
def fnExactProductSameUptoRow : OpenClaim := { program := "ythecbcflpadinaa", sum := "f4ef11d1a19a183f8f3eba4affcad8078af04e124cc439d263ed699437b8dfd9", func := "loop.example/g00221/laws.FnExactProductSame", spec := "fnExactProductSame", apart := false, narrowed := true }
def FnExactProductSameUptoSaid : Prop := fnExactProductSameUptoRow.holds Try.pinned (OpenSpec.upto fnExactProductSameSpec)

/-- 'laws.FnExactHookOf', WHERE WHAT IT READS IS OF BULK AT MOST 1048576: true; the input reads as it did. -/
def fnExactHookOfUptoRow : OpenClaim := { program := "ythecbcflpadinaa", sum := "f4ef11d1a19a183f8f3eba4affcad8078af04e124cc439d263ed699437b8dfd9", func := "loop.example/g00221/laws.FnExactHookOf", spec := "fnExactHookOf", apart := false, narrowed := true }
def FnExactHookOfUptoSaid : Prop := fnExactHookOfUptoRow.holds Try.pinned (OpenSpec.upto fnExactHookOfSpec)

/-- 'laws.FnExactModuleRight', WHERE WHAT IT READS IS OF BULK AT MOST 1048576: true; the input reads as it did. -/
def fnExactModuleRightUptoRow : OpenClaim := { program := "ythecbcflpadinaa", sum := "f4ef11d1a19a183f8f3eba4affcad8078af04e124cc439d263ed699437b8dfd9", func := "loop.example/g00221/laws.FnExactModuleRight", spec := "fnExactModuleRight", unfollowed := true, recurses := true, apart := false, narrowed := true }
def FnExactModuleRightUptoSaid : Prop := fnExactModuleRightUptoRow.holds Try.pinned (OpenSpec.upto fnExactModuleRightSpec)

/-- 'laws.FnInterest', WHERE WHAT IT READS IS OF BULK AT MOST 1048576: true; the input reads as it did. -/
def fnInterestUptoRow : OpenClaim := { program := "ythecbcflpadinaa", sum := "f4ef11d1a19a183f8f3eba4affcad8078af04e124cc439d263ed699437b8dfd9", func := "loop.example/g00221/laws.FnInterest", spec := "fnInterest", named := ["math/bits.divideError", "math/bits.overflowError"], apart := false, narrowed := true }
def FnInterestUptoSaid : Prop := fnInterestUptoRow.holds Try.pinned (OpenSpec.upto fnInterestSpec)

end Rows
end Go.Proofs.Ythecbcflpadinaa
