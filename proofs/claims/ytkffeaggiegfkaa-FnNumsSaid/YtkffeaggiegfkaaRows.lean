/-
  No cell of these rows narrows 'for every input' (looked for: loops, veiled, ifaces, maps, wideKeys, modest, calm, conditions, laid).
  DERIVED. THE GIVEN ROWS OF THIS SEAT. 12 by the template 'for every input the law returns true; each argument reads behind the call as it read before'; 0 by the template 'total and deterministic' (their statements: YtkffeaggiegfkaaTotals.lean).
  GIVEN WITH THE SEED: the statements are not yours to turn. If you find one false, say at which input.
  Laid BY PROGRAM, IN A SANDBOX (cutbox-rows.mjs): the forced cells as the released guide's own fill.sh prints them over the translation acb3d4b0d33f88de… (all of the seat's roots in one cut). By AI agents, Wed Nov 11 2026. No macro, syntax, notation, axiom, sorry.
-/
import Derived.Test.YtkffeaggiegfkaaChecked
import GoSem.Claim
import GoSem.ClaimJoined
import GoSem.ClaimMapViews
import Derived.JoinedTies
import Derived.KernelRfl
namespace Go.Proofs.Ytkffeaggiegfkaa
/- THE CELL 'sum', in the pinned program and in every row, IS THE sha256 OF THE DUMP (.gsa) THAT YtkffeaggiegfkaaProg.lean LOADS. Nothing in Lean hashes anything: it is a label: what it is worth is what the hold of that sum in a sandbox is worth. -/
noncomputable def Try.pinned : Pinned := { name := "ytkffeaggiegfkaa", sum := "acb3d4b0d33f88de1b69abfb079a4d63f84f80b805393b8d390001c57bcf8871", checked := Try.checked }
namespace Rows
def none {H : Type} : Left H := { results := [], args := [] }

/-- 'laws.FnExactCallTypes': WHATEVER THE INPUT: true; the input reads as it did. -/
def fnExactCallTypesSpec : ChangeSpec := { name := "fnExactCallTypes", fn := fun _ => fun
  | [d] => { results := [.lit (.bool true)], args := [d] }
  | _ => none }
def fnExactCallTypesRow : OpenClaim := { program := "ytkffeaggiegfkaa", sum := "acb3d4b0d33f88de1b69abfb079a4d63f84f80b805393b8d390001c57bcf8871", func := "loop.example/g00221/laws.FnExactCallTypes", spec := "fnExactCallTypes", apart := false }
def FnExactCallTypesSaid : Prop := fnExactCallTypesRow.holds Try.pinned (OpenSpec.ofChange fnExactCallTypesSpec)

/-- ITS FALSE NEIGHBOUR: 'it returns false'. Refute it at one input. -/
def fnExactCallTypesWrong : ChangeSpec := { name := "fnExactCallTypes", fn := fun _ => fun
  | [d] => { results := [.lit (.bool false)], args := [d] }
  | _ => none }
def FnExactCallTypesWrongFalsely : Prop := fnExactCallTypesRow.holds Try.pinned (OpenSpec.ofChange fnExactCallTypesWrong)

/-- 'laws.FnSum': WHATEVER THE INPUT: true; the input reads as it did. -/
def fnSumSpec : ChangeSpec := { name := "fnSum", fn := fun _ => fun
  | [d1, d2] => { results := [.lit (.bool true)], args := [d1, d2] }
  | _ => none }
def fnSumRow : OpenClaim := { program := "ytkffeaggiegfkaa", sum := "acb3d4b0d33f88de1b69abfb079a4d63f84f80b805393b8d390001c57bcf8871", func := "loop.example/g00221/laws.FnSum", spec := "fnSum", apart := false }
def FnSumSaid : Prop := fnSumRow.holds Try.pinned (OpenSpec.ofChange fnSumSpec)

/-- ITS FALSE NEIGHBOUR: 'it returns false'. Refute it at one input. -/
def fnSumWrong : ChangeSpec := { name := "fnSum", fn := fun _ => fun
  | [d1, d2] => { results := [.lit (.bool false)], args := [d1, d2] }
  | _ => none }
def FnSumWrongFalsely : Prop := fnSumRow.holds Try.pinned (OpenSpec.ofChange fnSumWrong)

/-- 'laws.FnExactMoneyTimes': WHATEVER THE INPUT: true; the input reads as it did. -/
def fnExactMoneyTimesSpec : ChangeSpec := { name := "fnExactMoneyTimes", fn := fun _ => fun
  | [d1, d2] => { results := [.lit (.bool true)], args := [d1, d2] }
  | _ => none }
def fnExactMoneyTimesRow : OpenClaim := { program := "ytkffeaggiegfkaa", sum := "acb3d4b0d33f88de1b69abfb079a4d63f84f80b805393b8d390001c57bcf8871", func := "loop.example/g00221/laws.FnExactMoneyTimes", spec := "fnExactMoneyTimes", apart := false }
def FnExactMoneyTimesSaid : Prop := fnExactMoneyTimesRow.holds Try.pinned (OpenSpec.ofChange fnExactMoneyTimesSpec)

/-- ITS FALSE NEIGHBOUR: 'it returns false'. Refute it at one input. -/
def fnExactMoneyTimesWrong : ChangeSpec := { name := "fnExactMoneyTimes", fn := fun _ => fun
  | [d1, d2] => { results := [.lit (.bool false)], args := [d1, d2] }
  | _ => none }
def FnExactMoneyTimesWrongFalsely : Prop := fnExactMoneyTimesRow.holds Try.pinned (OpenSpec.ofChange fnExactMoneyTimesWrong)

/-- 'laws.FnExactDayOf': WHATEVER THE INPUT: true; the input reads as it did. -/
def fnExactDayOfSpec : ChangeSpec := { name := "fnExactDayOf", fn := fun _ => fun
  | [d] => { results := [.lit (.bool true)], args := [d] }
  | _ => none }
def fnExactDayOfRow : OpenClaim := { program := "ytkffeaggiegfkaa", sum := "acb3d4b0d33f88de1b69abfb079a4d63f84f80b805393b8d390001c57bcf8871", func := "loop.example/g00221/laws.FnExactDayOf", spec := "fnExactDayOf", apart := false }
def FnExactDayOfSaid : Prop := fnExactDayOfRow.holds Try.pinned (OpenSpec.ofChange fnExactDayOfSpec)

/-- ITS FALSE NEIGHBOUR: 'it returns false'. Refute it at one input. -/
def fnExactDayOfWrong : ChangeSpec := { name := "fnExactDayOf", fn := fun _ => fun
  | [d] => { results := [.lit (.bool false)], args := [d] }
  | _ => none }
def FnExactDayOfWrongFalsely : Prop := fnExactDayOfRow.holds Try.pinned (OpenSpec.ofChange fnExactDayOfWrong)

/-- 'laws.FnExactDateOf': WHATEVER THE INPUT: true; the input reads as it did. -/
def fnExactDateOfSpec : ChangeSpec := { name := "fnExactDateOf", fn := fun _ => fun
  | [d] => { results := [.lit (.bool true)], args := [d] }
  | _ => none }
def fnExactDateOfRow : OpenClaim := { program := "ytkffeaggiegfkaa", sum := "acb3d4b0d33f88de1b69abfb079a4d63f84f80b805393b8d390001c57bcf8871", func := "loop.example/g00221/laws.FnExactDateOf", spec := "fnExactDateOf", apart := false }
def FnExactDateOfSaid : Prop := fnExactDateOfRow.holds Try.pinned (OpenSpec.ofChange fnExactDateOfSpec)

/-- ITS FALSE NEIGHBOUR: 'it returns false'. Refute it at one input. -/
def fnExactDateOfWrong : ChangeSpec := { name := "fnExactDateOf", fn := fun _ => fun
  | [d] => { results := [.lit (.bool false)], args := [d] }
  | _ => none }
def FnExactDateOfWrongFalsely : Prop := fnExactDateOfRow.holds Try.pinned (OpenSpec.ofChange fnExactDateOfWrong)

/-- 'laws.FnNums': WHATEVER THE INPUT: true; the input reads as it did. -/
def fnNumsSpec : ChangeSpec := { name := "fnNums", fn := fun _ => fun
  | [d] => { results := [.lit (.bool true)], args := [d] }
  | _ => none }
def fnNumsRow : OpenClaim := { program := "ytkffeaggiegfkaa", sum := "acb3d4b0d33f88de1b69abfb079a4d63f84f80b805393b8d390001c57bcf8871", func := "loop.example/g00221/laws.FnNums", spec := "fnNums", apart := false }
def FnNumsSaid : Prop := fnNumsRow.holds Try.pinned (OpenSpec.ofChange fnNumsSpec)

/-- ITS FALSE NEIGHBOUR: 'it returns false'. Refute it at one input. -/
def fnNumsWrong : ChangeSpec := { name := "fnNums", fn := fun _ => fun
  | [d] => { results := [.lit (.bool false)], args := [d] }
  | _ => none }
def FnNumsWrongFalsely : Prop := fnNumsRow.holds Try.pinned (OpenSpec.ofChange fnNumsWrong)

/-- 'laws.FnExactSpan': WHATEVER THE INPUT: true; the input reads as it did. -/
def fnExactSpanSpec : ChangeSpec := { name := "fnExactSpan", fn := fun _ => fun
  | [d1, d2, d3] => { results := [.lit (.bool true)], args := [d1, d2, d3] }
  | _ => none }
def fnExactSpanRow : OpenClaim := { program := "ytkffeaggiegfkaa", sum := "acb3d4b0d33f88de1b69abfb079a4d63f84f80b805393b8d390001c57bcf8871", func := "loop.example/g00221/laws.FnExactSpan", spec := "fnExactSpan", apart := false }
def FnExactSpanSaid : Prop := fnExactSpanRow.holds Try.pinned (OpenSpec.ofChange fnExactSpanSpec)

/-- ITS FALSE NEIGHBOUR: 'it returns false'. Refute it at one input. -/
def fnExactSpanWrong : ChangeSpec := { name := "fnExactSpan", fn := fun _ => fun
  | [d1, d2, d3] => { results := [.lit (.bool false)], args := [d1, d2, d3] }
  | _ => none }
def FnExactSpanWrongFalsely : Prop := fnExactSpanRow.holds Try.pinned (OpenSpec.ofChange fnExactSpanWrong)

/-- 'laws.FnExactReserved': WHATEVER THE INPUT: true; the input reads as it did. -/
def fnExactReservedSpec : ChangeSpec := { name := "fnExactReserved", fn := fun _ => fun
  | [d] => { results := [.lit (.bool true)], args := [d] }
  | _ => none }
def fnExactReservedRow : OpenClaim := { program := "ytkffeaggiegfkaa", sum := "acb3d4b0d33f88de1b69abfb079a4d63f84f80b805393b8d390001c57bcf8871", func := "loop.example/g00221/laws.FnExactReserved", spec := "fnExactReserved", inPlace := ["internal/bytealg.IndexByteString", "internal/bytealg.IndexString"], named := ["internal/bytealg.MaxLen"], apart := false }
def FnExactReservedSaid : Prop := fnExactReservedRow.holds Try.pinned (OpenSpec.ofChange fnExactReservedSpec)

/-- ITS FALSE NEIGHBOUR: 'it returns false'. Refute it at one input. -/
def fnExactReservedWrong : ChangeSpec := { name := "fnExactReserved", fn := fun _ => fun
  | [d] => { results := [.lit (.bool false)], args := [d] }
  | _ => none }
def FnExactReservedWrongFalsely : Prop := fnExactReservedRow.holds Try.pinned (OpenSpec.ofChange fnExactReservedWrong)

/-- 'laws.FnExactInsRight': WHATEVER THE INPUT: true; the input reads as it did. -/
def fnExactInsRightSpec : ChangeSpec := { name := "fnExactInsRight", fn := fun _ => fun
  | [d1, d2] => { results := [.lit (.bool true)], args := [d1, d2] }
  | _ => none }
def fnExactInsRightRow : OpenClaim := { program := "ytkffeaggiegfkaa", sum := "acb3d4b0d33f88de1b69abfb079a4d63f84f80b805393b8d390001c57bcf8871", func := "loop.example/g00221/laws.FnExactInsRight", spec := "fnExactInsRight", apart := false }
def FnExactInsRightSaid : Prop := fnExactInsRightRow.holds Try.pinned (OpenSpec.ofChange fnExactInsRightSpec)

/-- ITS FALSE NEIGHBOUR: 'it returns false'. Refute it at one input. -/
def fnExactInsRightWrong : ChangeSpec := { name := "fnExactInsRight", fn := fun _ => fun
  | [d1, d2] => { results := [.lit (.bool false)], args := [d1, d2] }
  | _ => none }
def FnExactInsRightWrongFalsely : Prop := fnExactInsRightRow.holds Try.pinned (OpenSpec.ofChange fnExactInsRightWrong)

/-- 'laws.FnExactOpValue': WHATEVER THE INPUT: true; the input reads as it did. -/
def fnExactOpValueSpec : ChangeSpec := { name := "fnExactOpValue", fn := fun _ => fun
  | [d1, d2, d3] => { results := [.lit (.bool true)], args := [d1, d2, d3] }
  | _ => none }
def fnExactOpValueRow : OpenClaim := { program := "ytkffeaggiegfkaa", sum := "acb3d4b0d33f88de1b69abfb079a4d63f84f80b805393b8d390001c57bcf8871", func := "loop.example/g00221/laws.FnExactOpValue", spec := "fnExactOpValue", apart := false }
def FnExactOpValueSaid : Prop := fnExactOpValueRow.holds Try.pinned (OpenSpec.ofChange fnExactOpValueSpec)

/-- ITS FALSE NEIGHBOUR: 'it returns false'. Refute it at one input. -/
def fnExactOpValueWrong : ChangeSpec := { name := "fnExactOpValue", fn := fun _ => fun
  | [d1, d2, d3] => { results := [.lit (.bool false)], args := [d1, d2, d3] }
  | _ => none }
def FnExactOpValueWrongFalsely : Prop := fnExactOpValueRow.holds Try.pinned (OpenSpec.ofChange fnExactOpValueWrong)

/-- 'laws.FnExactMulDiv': WHATEVER THE INPUT: true; the input reads as it did. -/
def fnExactMulDivSpec : ChangeSpec := { name := "fnExactMulDiv", fn := fun _ => fun
  | [d1, d2, d3] => { results := [.lit (.bool true)], args := [d1, d2, d3] }
  | _ => none }
def fnExactMulDivRow : OpenClaim := { program := "ytkffeaggiegfkaa", sum := "acb3d4b0d33f88de1b69abfb079a4d63f84f80b805393b8d390001c57bcf8871", func := "loop.example/g00221/laws.FnExactMulDiv", spec := "fnExactMulDiv", named := ["math/bits.divideError", "math/bits.overflowError"], apart := false }
def FnExactMulDivSaid : Prop := fnExactMulDivRow.holds Try.pinned (OpenSpec.ofChange fnExactMulDivSpec)

/-- ITS FALSE NEIGHBOUR: 'it returns false'. Refute it at one input. -/
def fnExactMulDivWrong : ChangeSpec := { name := "fnExactMulDiv", fn := fun _ => fun
  | [d1, d2, d3] => { results := [.lit (.bool false)], args := [d1, d2, d3] }
  | _ => none }
def FnExactMulDivWrongFalsely : Prop := fnExactMulDivRow.holds Try.pinned (OpenSpec.ofChange fnExactMulDivWrong)

/-- 'laws.FnExactDiskRight': WHATEVER THE INPUT: true; the input reads as it did. -/
def fnExactDiskRightSpec : ChangeSpec := { name := "fnExactDiskRight", fn := fun _ => fun
  | [d] => { results := [.lit (.bool true)], args := [d] }
  | _ => none }
def fnExactDiskRightRow : OpenClaim := { program := "ytkffeaggiegfkaa", sum := "acb3d4b0d33f88de1b69abfb079a4d63f84f80b805393b8d390001c57bcf8871", func := "loop.example/g00221/laws.FnExactDiskRight", spec := "fnExactDiskRight", inPlace := ["internal/abi.NoEscape", "internal/bytealg.MakeNoZero"], apart := false }
def FnExactDiskRightSaid : Prop := fnExactDiskRightRow.holds Try.pinned (OpenSpec.ofChange fnExactDiskRightSpec)

/-- ITS FALSE NEIGHBOUR: 'it returns false'. Refute it at one input. -/
def fnExactDiskRightWrong : ChangeSpec := { name := "fnExactDiskRight", fn := fun _ => fun
  | [d] => { results := [.lit (.bool false)], args := [d] }
  | _ => none }
def FnExactDiskRightWrongFalsely : Prop := fnExactDiskRightRow.holds Try.pinned (OpenSpec.ofChange fnExactDiskRightWrong)

/- THE SECOND FORM. 'bulk': how many values and letters a reading holds, each counted each time it is reached (what is shared counts as often as it is met; a slice's spare places count too). A statement '..UptoSaid' is the law's where the arguments, and the package variables that the reading takes, are together of bulk at most 1048576: NARROWER than '..Said'. Prove '..Said' where nothing that the law and all that it calls make is longer than what came in: it says more and counts as full. Else prove '..UptoSaid'. A law counts once. -/
mutual
def uptoBulk {H : Type} : DataW H → Nat
  | .lit (.string bytes) => bytes.length + 1
  | .lit _ => 1
  | .nil => 1
  | .ptr d => uptoBulk d + 1
  | .slice elems spare => uptoBulkAll elems + uptoBulkAll spare + 1
  | .agg parts => uptoBulkAll parts + 1
  | .iface _ d => uptoBulk d + 1
  | .map entries => uptoBulkEntries entries + 1
  | .held _ => 1
def uptoBulkAll {H : Type} : List (DataW H) → Nat
  | [] => 0
  | d :: r => uptoBulk d + uptoBulkAll r
def uptoBulkEntries {H : Type} : List (Lit × DataW H) → Nat
  | [] => 0
  | x :: r => uptoBulkEntry x + uptoBulkEntries r
def uptoBulkEntry {H : Type} : Lit × DataW H → Nat
  | (.string bytes, d) => bytes.length + uptoBulk d + 1
  | (_, d) => uptoBulk d + 1
 end
def uptoSmall : (H : Type) → List (DataW H) → Bool := fun _ ds => decide (uptoBulkAll ds ≤ 1048576)
def OpenSpec.upto (s : _root_.Go.ChangeSpec) : _root_.Go.OpenSpec := { _root_.Go.OpenSpec.ofChange s with cond := some uptoSmall }

/-- 'laws.FnExactCallTypes', WHERE WHAT IT READS IS OF BULK AT MOST 1048576: true; the input reads as it did. -/
def fnExactCallTypesUptoRow : OpenClaim := { program := "ytkffeaggiegfkaa", sum := "acb3d4b0d33f88de1b69abfb079a4d63f84f80b805393b8d390001c57bcf8871", func := "loop.example/g00221/laws.FnExactCallTypes", spec := "fnExactCallTypes", apart := false, narrowed := true }
def FnExactCallTypesUptoSaid : Prop := fnExactCallTypesUptoRow.holds Try.pinned (OpenSpec.upto fnExactCallTypesSpec)

/-- 'laws.FnSum', WHERE WHAT IT READS IS OF BULK AT MOST 1048576: true; the input reads as it did. -/
def fnSumUptoRow : OpenClaim := { program := "ytkffeaggiegfkaa", sum := "acb3d4b0d33f88de1b69abfb079a4d63f84f80b805393b8d390001c57bcf8871", func := "loop.example/g00221/laws.FnSum", spec := "fnSum", apart := false, narrowed := true }
def FnSumUptoSaid : Prop := fnSumUptoRow.holds Try.pinned (OpenSpec.upto fnSumSpec)

/-- 'laws.FnExactMoneyTimes', WHERE WHAT IT READS IS OF BULK AT MOST 1048576: true; the input reads as it did. -/
def fnExactMoneyTimesUptoRow : OpenClaim := { program := "ytkffeaggiegfkaa", sum := "acb3d4b0d33f88de1b69abfb079a4d63f84f80b805393b8d390001c57bcf8871", func := "loop.example/g00221/laws.FnExactMoneyTimes", spec := "fnExactMoneyTimes", apart := false, narrowed := true }
def FnExactMoneyTimesUptoSaid : Prop := fnExactMoneyTimesUptoRow.holds Try.pinned (OpenSpec.upto fnExactMoneyTimesSpec)

/-- 'laws.FnExactDayOf', WHERE WHAT IT READS IS OF BULK AT MOST 1048576: true; the input reads as it did. -/
def fnExactDayOfUptoRow : OpenClaim := { program := "ytkffeaggiegfkaa", sum := "acb3d4b0d33f88de1b69abfb079a4d63f84f80b805393b8d390001c57bcf8871", func := "loop.example/g00221/laws.FnExactDayOf", spec := "fnExactDayOf", apart := false, narrowed := true }
def FnExactDayOfUptoSaid : Prop := fnExactDayOfUptoRow.holds Try.pinned (OpenSpec.upto fnExactDayOfSpec)

/-- 'laws.FnExactDateOf', WHERE WHAT IT READS IS OF BULK AT MOST 1048576: true; the input reads as it did. -/
def fnExactDateOfUptoRow : OpenClaim := { program := "ytkffeaggiegfkaa", sum := "acb3d4b0d33f88de1b69abfb079a4d63f84f80b805393b8d390001c57bcf8871", func := "loop.example/g00221/laws.FnExactDateOf", spec := "fnExactDateOf", apart := false, narrowed := true }
def FnExactDateOfUptoSaid : Prop := fnExactDateOfUptoRow.holds Try.pinned (OpenSpec.upto fnExactDateOfSpec)

/-- 'laws.FnNums', WHERE WHAT IT READS IS OF BULK AT MOST 1048576: true; the input reads as it did. -/
def fnNumsUptoRow : OpenClaim := { program := "ytkffeaggiegfkaa", sum := "acb3d4b0d33f88de1b69abfb079a4d63f84f80b805393b8d390001c57bcf8871", func := "loop.example/g00221/laws.FnNums", spec := "fnNums", apart := false, narrowed := true }
def FnNumsUptoSaid : Prop := fnNumsUptoRow.holds Try.pinned (OpenSpec.upto fnNumsSpec)

/-- 'laws.FnExactSpan', WHERE WHAT IT READS IS OF BULK AT MOST 1048576: true; the input reads as it did. -/
def fnExactSpanUptoRow : OpenClaim := { program := "ytkffeaggiegfkaa", sum := "acb3d4b0d33f88de1b69abfb079a4d63f84f80b805393b8d390001c57bcf8871", func := "loop.example/g00221/laws.FnExactSpan", spec := "fnExactSpan", apart := false, narrowed := true }
def FnExactSpanUptoSaid : Prop := fnExactSpanUptoRow.holds Try.pinned (OpenSpec.upto fnExactSpanSpec)

/-- 'laws.FnExactReserved', WHERE WHAT IT READS IS OF BULK AT MOST 1048576: true; the input reads as it did. -/
def fnExactReservedUptoRow : OpenClaim := { program := "ytkffeaggiegfkaa", sum := "acb3d4b0d33f88de1b69abfb079a4d63f84f80b805393b8d390001c57bcf8871", func := "loop.example/g00221/laws.FnExactReserved", spec := "fnExactReserved", inPlace := ["internal/bytealg.IndexByteString", "internal/bytealg.IndexString"], named := ["internal/bytealg.MaxLen"], apart := false, narrowed := true }
def FnExactReservedUptoSaid : Prop := fnExactReservedUptoRow.holds Try.pinned (OpenSpec.upto fnExactReservedSpec)

/-- 'laws.FnExactInsRight', WHERE WHAT IT READS IS OF BULK AT MOST 1048576: true; the input reads as it did. -/
def fnExactInsRightUptoRow : OpenClaim := { program := "ytkffeaggiegfkaa", sum := "acb3d4b0d33f88de1b69abfb079a4d63f84f80b805393b8d390001c57bcf8871", func := "loop.example/g00221/laws.FnExactInsRight", spec := "fnExactInsRight", apart := false, narrowed := true }
def FnExactInsRightUptoSaid : Prop := fnExactInsRightUptoRow.holds Try.pinned (OpenSpec.upto fnExactInsRightSpec)

/-- 'laws.FnExactOpValue', WHERE WHAT IT READS IS OF BULK AT MOST 1048576: true; the input reads as it did. -/
def fnExactOpValueUptoRow : OpenClaim := { program := "ytkffeaggiegfkaa", sum := "acb3d4b0d33f88de1b69abfb079a4d63f84f80b805393b8d390001c57bcf8871", func := "loop.example/g00221/laws.FnExactOpValue", spec := "fnExactOpValue", apart := false, narrowed := true }
def FnExactOpValueUptoSaid : Prop := fnExactOpValueUptoRow.holds Try.pinned (OpenSpec.upto fnExactOpValueSpec)

/-- 'laws.FnExactMulDiv', WHERE WHAT IT READS IS OF BULK AT MOST 1048576: true; the input reads as it did. -/
def fnExactMulDivUptoRow : OpenClaim := { program := "ytkffeaggiegfkaa", sum := "acb3d4b0d33f88de1b69abfb079a4d63f84f80b805393b8d390001c57bcf8871", func := "loop.example/g00221/laws.FnExactMulDiv", spec := "fnExactMulDiv", named := ["math/bits.divideError", "math/bits.overflowError"], apart := false, narrowed := true }
def FnExactMulDivUptoSaid : Prop := fnExactMulDivUptoRow.holds Try.pinned (OpenSpec.upto fnExactMulDivSpec)

/-- 'laws.FnExactDiskRight', WHERE WHAT IT READS IS OF BULK AT MOST 1048576: true; the input reads as it did. -/
def fnExactDiskRightUptoRow : OpenClaim := { program := "ytkffeaggiegfkaa", sum := "acb3d4b0d33f88de1b69abfb079a4d63f84f80b805393b8d390001c57bcf8871", func := "loop.example/g00221/laws.FnExactDiskRight", spec := "fnExactDiskRight", inPlace := ["internal/abi.NoEscape", "internal/bytealg.MakeNoZero"], apart := false, narrowed := true }
def FnExactDiskRightUptoSaid : Prop := fnExactDiskRightUptoRow.holds Try.pinned (OpenSpec.upto fnExactDiskRightSpec)

end Rows
end Go.Proofs.Ytkffeaggiegfkaa
