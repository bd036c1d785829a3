/-
  No cell of these rows narrows 'for every input' (looked for: loops, veiled, ifaces, maps, wideKeys, modest, calm, conditions, laid).
  DERIVED. THE GIVEN ROWS OF THIS SEAT. 12 by the template 'for every input the law returns true; each argument reads behind the call as it read before'; 0 by the template 'total and deterministic' (their statements: YtapobaphbaoanaaTotals.lean).
  GIVEN WITH THE SEED: the statements are not yours to turn. If you find one false, say at which input.
  Laid BY PROGRAM, IN A SANDBOX (cutbox-rows.mjs): the forced cells as the released guide's own fill.sh prints them over the translation 5eb2d5e5ce243965… (all of the seat's roots in one cut). By AI agents, Wed Nov 11 2026. No macro, syntax, notation, axiom, sorry.
-/
import Derived.Test.YtapobaphbaoanaaChecked
import GoSem.Claim
import GoSem.ClaimJoined
import GoSem.ClaimMapViews
import Derived.JoinedTies
import Derived.KernelRfl
namespace Go.Proofs.Ytapobaphbaoanaa
/- THE CELL 'sum', in the pinned program and in every row, IS THE sha256 OF THE DUMP (.gsa) THAT YtapobaphbaoanaaProg.lean LOADS. Nothing in Lean hashes anything: it is a label: what it is worth is what the hold of that sum in a sandbox is worth. -/
noncomputable def Try.pinned : Pinned := { name := "ytapobaphbaoanaa", sum := "5eb2d5e5ce243965b89fd1ba7d567a769d266f4d406abda0ce55bd35e0e0816b", checked := Try.checked }
namespace Rows
def none {H : Type} : Left H := { results := [], args := [] }

/-- 'laws.FnExactConstants': WHATEVER THE INPUT: true; the input reads as it did. -/
def fnExactConstantsSpec : ChangeSpec := { name := "fnExactConstants", fn := fun _ => fun
  | [] => { results := [.lit (.bool true)], args := [] }
  | _ => none }
def fnExactConstantsRow : OpenClaim := { program := "ytapobaphbaoanaa", sum := "5eb2d5e5ce243965b89fd1ba7d567a769d266f4d406abda0ce55bd35e0e0816b", func := "loop.example/g00221/laws.FnExactConstants", spec := "fnExactConstants", apart := false }
def FnExactConstantsSaid : Prop := fnExactConstantsRow.holds Try.pinned (OpenSpec.ofChange fnExactConstantsSpec)

/-- ITS FALSE NEIGHBOUR: 'it returns false'. Refute it at one input. -/
def fnExactConstantsWrong : ChangeSpec := { name := "fnExactConstants", fn := fun _ => fun
  | [] => { results := [.lit (.bool false)], args := [] }
  | _ => none }
def FnExactConstantsWrongFalsely : Prop := fnExactConstantsRow.holds Try.pinned (OpenSpec.ofChange fnExactConstantsWrong)

/-- 'laws.FnExactMoneyRight': WHATEVER THE INPUT: true; the input reads as it did. -/
def fnExactMoneyRightSpec : ChangeSpec := { name := "fnExactMoneyRight", fn := fun _ => fun
  | [d] => { results := [.lit (.bool true)], args := [d] }
  | _ => none }
def fnExactMoneyRightRow : OpenClaim := { program := "ytapobaphbaoanaa", sum := "5eb2d5e5ce243965b89fd1ba7d567a769d266f4d406abda0ce55bd35e0e0816b", func := "loop.example/g00221/laws.FnExactMoneyRight", spec := "fnExactMoneyRight", apart := false }
def FnExactMoneyRightSaid : Prop := fnExactMoneyRightRow.holds Try.pinned (OpenSpec.ofChange fnExactMoneyRightSpec)

/-- ITS FALSE NEIGHBOUR: 'it returns false'. Refute it at one input. -/
def fnExactMoneyRightWrong : ChangeSpec := { name := "fnExactMoneyRight", fn := fun _ => fun
  | [d] => { results := [.lit (.bool false)], args := [d] }
  | _ => none }
def FnExactMoneyRightWrongFalsely : Prop := fnExactMoneyRightRow.holds Try.pinned (OpenSpec.ofChange fnExactMoneyRightWrong)

/-- 'laws.FnExactOpName': WHATEVER THE INPUT: true; the input reads as it did. -/
def fnExactOpNameSpec : ChangeSpec := { name := "fnExactOpName", fn := fun _ => fun
  | [d] => { results := [.lit (.bool true)], args := [d] }
  | _ => none }
def fnExactOpNameRow : OpenClaim := { program := "ytapobaphbaoanaa", sum := "5eb2d5e5ce243965b89fd1ba7d567a769d266f4d406abda0ce55bd35e0e0816b", func := "loop.example/g00221/laws.FnExactOpName", spec := "fnExactOpName", apart := false }
def FnExactOpNameSaid : Prop := fnExactOpNameRow.holds Try.pinned (OpenSpec.ofChange fnExactOpNameSpec)

/-- ITS FALSE NEIGHBOUR: 'it returns false'. Refute it at one input. -/
def fnExactOpNameWrong : ChangeSpec := { name := "fnExactOpName", fn := fun _ => fun
  | [d] => { results := [.lit (.bool false)], args := [d] }
  | _ => none }
def FnExactOpNameWrongFalsely : Prop := fnExactOpNameRow.holds Try.pinned (OpenSpec.ofChange fnExactOpNameWrong)

/-- 'laws.FnExactSum': WHATEVER THE INPUT: true; the input reads as it did. -/
def fnExactSumSpec : ChangeSpec := { name := "fnExactSum", fn := fun _ => fun
  | [d] => { results := [.lit (.bool true)], args := [d] }
  | _ => none }
def fnExactSumRow : OpenClaim := { program := "ytapobaphbaoanaa", sum := "5eb2d5e5ce243965b89fd1ba7d567a769d266f4d406abda0ce55bd35e0e0816b", func := "loop.example/g00221/laws.FnExactSum", spec := "fnExactSum", apart := false }
def FnExactSumSaid : Prop := fnExactSumRow.holds Try.pinned (OpenSpec.ofChange fnExactSumSpec)

/-- ITS FALSE NEIGHBOUR: 'it returns false'. Refute it at one input. -/
def fnExactSumWrong : ChangeSpec := { name := "fnExactSum", fn := fun _ => fun
  | [d] => { results := [.lit (.bool false)], args := [d] }
  | _ => none }
def FnExactSumWrongFalsely : Prop := fnExactSumRow.holds Try.pinned (OpenSpec.ofChange fnExactSumWrong)

/-- 'laws.FnExactPutNum': WHATEVER THE INPUT: true; the input reads as it did. -/
def fnExactPutNumSpec : ChangeSpec := { name := "fnExactPutNum", fn := fun _ => fun
  | [d] => { results := [.lit (.bool true)], args := [d] }
  | _ => none }
def fnExactPutNumRow : OpenClaim := { program := "ytapobaphbaoanaa", sum := "5eb2d5e5ce243965b89fd1ba7d567a769d266f4d406abda0ce55bd35e0e0816b", func := "loop.example/g00221/laws.FnExactPutNum", spec := "fnExactPutNum", apart := false }
def FnExactPutNumSaid : Prop := fnExactPutNumRow.holds Try.pinned (OpenSpec.ofChange fnExactPutNumSpec)

/-- ITS FALSE NEIGHBOUR: 'it returns false'. Refute it at one input. -/
def fnExactPutNumWrong : ChangeSpec := { name := "fnExactPutNum", fn := fun _ => fun
  | [d] => { results := [.lit (.bool false)], args := [d] }
  | _ => none }
def FnExactPutNumWrongFalsely : Prop := fnExactPutNumRow.holds Try.pinned (OpenSpec.ofChange fnExactPutNumWrong)

/-- 'laws.FnExactFunctionNumber': WHATEVER THE INPUT: true; the input reads as it did. -/
def fnExactFunctionNumberSpec : ChangeSpec := { name := "fnExactFunctionNumber", fn := fun _ => fun
  | [d] => { results := [.lit (.bool true)], args := [d] }
  | _ => none }
def fnExactFunctionNumberRow : OpenClaim := { program := "ytapobaphbaoanaa", sum := "5eb2d5e5ce243965b89fd1ba7d567a769d266f4d406abda0ce55bd35e0e0816b", func := "loop.example/g00221/laws.FnExactFunctionNumber", spec := "fnExactFunctionNumber", apart := false }
def FnExactFunctionNumberSaid : Prop := fnExactFunctionNumberRow.holds Try.pinned (OpenSpec.ofChange fnExactFunctionNumberSpec)

/-- ITS FALSE NEIGHBOUR: 'it returns false'. Refute it at one input. -/
def fnExactFunctionNumberWrong : ChangeSpec := { name := "fnExactFunctionNumber", fn := fun _ => fun
  | [d] => { results := [.lit (.bool false)], args := [d] }
  | _ => none }
def FnExactFunctionNumberWrongFalsely : Prop := fnExactFunctionNumberRow.holds Try.pinned (OpenSpec.ofChange fnExactFunctionNumberWrong)

/-- 'laws.FnExactMoneyAdd': WHATEVER THE INPUT: true; the input reads as it did. -/
def fnExactMoneyAddSpec : ChangeSpec := { name := "fnExactMoneyAdd", fn := fun _ => fun
  | [d1, d2] => { results := [.lit (.bool true)], args := [d1, d2] }
  | _ => none }
def fnExactMoneyAddRow : OpenClaim := { program := "ytapobaphbaoanaa", sum := "5eb2d5e5ce243965b89fd1ba7d567a769d266f4d406abda0ce55bd35e0e0816b", func := "loop.example/g00221/laws.FnExactMoneyAdd", spec := "fnExactMoneyAdd", apart := false }
def FnExactMoneyAddSaid : Prop := fnExactMoneyAddRow.holds Try.pinned (OpenSpec.ofChange fnExactMoneyAddSpec)

/-- ITS FALSE NEIGHBOUR: 'it returns false'. Refute it at one input. -/
def fnExactMoneyAddWrong : ChangeSpec := { name := "fnExactMoneyAdd", fn := fun _ => fun
  | [d1, d2] => { results := [.lit (.bool false)], args := [d1, d2] }
  | _ => none }
def FnExactMoneyAddWrongFalsely : Prop := fnExactMoneyAddRow.holds Try.pinned (OpenSpec.ofChange fnExactMoneyAddWrong)

/-- 'laws.FnMulDiv': WHATEVER THE INPUT: true; the input reads as it did. -/
def fnMulDivSpec : ChangeSpec := { name := "fnMulDiv", fn := fun _ => fun
  | [d] => { results := [.lit (.bool true)], args := [d] }
  | _ => none }
def fnMulDivRow : OpenClaim := { program := "ytapobaphbaoanaa", sum := "5eb2d5e5ce243965b89fd1ba7d567a769d266f4d406abda0ce55bd35e0e0816b", func := "loop.example/g00221/laws.FnMulDiv", spec := "fnMulDiv", named := ["math/bits.divideError", "math/bits.overflowError"], apart := false }
def FnMulDivSaid : Prop := fnMulDivRow.holds Try.pinned (OpenSpec.ofChange fnMulDivSpec)

/-- ITS FALSE NEIGHBOUR: 'it returns false'. Refute it at one input. -/
def fnMulDivWrong : ChangeSpec := { name := "fnMulDiv", fn := fun _ => fun
  | [d] => { results := [.lit (.bool false)], args := [d] }
  | _ => none }
def FnMulDivWrongFalsely : Prop := fnMulDivRow.holds Try.pinned (OpenSpec.ofChange fnMulDivWrong)

/-- 'laws.FnExactOpType': WHATEVER THE INPUT: true; the input reads as it did. -/
def fnExactOpTypeSpec : ChangeSpec := { name := "fnExactOpType", fn := fun _ => fun
  | [d1, d2, d3] => { results := [.lit (.bool true)], args := [d1, d2, d3] }
  | _ => none }
def fnExactOpTypeRow : OpenClaim := { program := "ytapobaphbaoanaa", sum := "5eb2d5e5ce243965b89fd1ba7d567a769d266f4d406abda0ce55bd35e0e0816b", func := "loop.example/g00221/laws.FnExactOpType", spec := "fnExactOpType", apart := false }
def FnExactOpTypeSaid : Prop := fnExactOpTypeRow.holds Try.pinned (OpenSpec.ofChange fnExactOpTypeSpec)

/-- ITS FALSE NEIGHBOUR: 'it returns false'. Refute it at one input. -/
def fnExactOpTypeWrong : ChangeSpec := { name := "fnExactOpType", fn := fun _ => fun
  | [d1, d2, d3] => { results := [.lit (.bool false)], args := [d1, d2, d3] }
  | _ => none }
def FnExactOpTypeWrongFalsely : Prop := fnExactOpTypeRow.holds Try.pinned (OpenSpec.ofChange fnExactOpTypeWrong)

/-- 'laws.FnOpNames': WHATEVER THE INPUT: true; the input reads as it did. -/
def fnOpNamesSpec : ChangeSpec := { name := "fnOpNames", fn := fun _ => fun
  | [d] => { results := [.lit (.bool true)], args := [d] }
  | _ => none }
def fnOpNamesRow : OpenClaim := { program := "ytapobaphbaoanaa", sum := "5eb2d5e5ce243965b89fd1ba7d567a769d266f4d406abda0ce55bd35e0e0816b", func := "loop.example/g00221/laws.FnOpNames", spec := "fnOpNames", apart := false }
def FnOpNamesSaid : Prop := fnOpNamesRow.holds Try.pinned (OpenSpec.ofChange fnOpNamesSpec)

/-- ITS FALSE NEIGHBOUR: 'it returns false'. Refute it at one input. -/
def fnOpNamesWrong : ChangeSpec := { name := "fnOpNames", fn := fun _ => fun
  | [d] => { results := [.lit (.bool false)], args := [d] }
  | _ => none }
def FnOpNamesWrongFalsely : Prop := fnOpNamesRow.holds Try.pinned (OpenSpec.ofChange fnOpNamesWrong)

/-- 'laws.FnExactPutText': WHATEVER THE INPUT: true; the input reads as it did. -/
def fnExactPutTextSpec : ChangeSpec := { name := "fnExactPutText", fn := fun _ => fun
  | [d] => { results := [.lit (.bool true)], args := [d] }
  | _ => none }
def fnExactPutTextRow : OpenClaim := { program := "ytapobaphbaoanaa", sum := "5eb2d5e5ce243965b89fd1ba7d567a769d266f4d406abda0ce55bd35e0e0816b", func := "loop.example/g00221/laws.FnExactPutText", spec := "fnExactPutText", apart := false }
def FnExactPutTextSaid : Prop := fnExactPutTextRow.holds Try.pinned (OpenSpec.ofChange fnExactPutTextSpec)

/-- ITS FALSE NEIGHBOUR: 'it returns false'. Refute it at one input. -/
def fnExactPutTextWrong : ChangeSpec := { name := "fnExactPutText", fn := fun _ => fun
  | [d] => { results := [.lit (.bool false)], args := [d] }
  | _ => none }
def FnExactPutTextWrongFalsely : Prop := fnExactPutTextRow.holds Try.pinned (OpenSpec.ofChange fnExactPutTextWrong)

/-- 'laws.FnExactRecBytes': WHATEVER THE INPUT: true; the input reads as it did. -/
def fnExactRecBytesSpec : ChangeSpec := { name := "fnExactRecBytes", fn := fun _ => fun
  | [d] => { results := [.lit (.bool true)], args := [d] }
  | _ => none }
def fnExactRecBytesRow : OpenClaim := { program := "ytapobaphbaoanaa", sum := "5eb2d5e5ce243965b89fd1ba7d567a769d266f4d406abda0ce55bd35e0e0816b", func := "loop.example/g00221/laws.FnExactRecBytes", spec := "fnExactRecBytes", apart := false }
def FnExactRecBytesSaid : Prop := fnExactRecBytesRow.holds Try.pinned (OpenSpec.ofChange fnExactRecBytesSpec)

/-- ITS FALSE NEIGHBOUR: 'it returns false'. Refute it at one input. -/
def fnExactRecBytesWrong : ChangeSpec := { name := "fnExactRecBytes", fn := fun _ => fun
  | [d] => { results := [.lit (.bool false)], args := [d] }
  | _ => none }
def FnExactRecBytesWrongFalsely : Prop := fnExactRecBytesRow.holds Try.pinned (OpenSpec.ofChange fnExactRecBytesWrong)

/- THE SECOND FORM. 'bulk': how many values and letters a reading holds, each counted each time it is reached (what is shared counts as often as it is met; a slice's spare places count too). A statement '..UptoSaid' is the law's where the arguments, and the package variables that the reading takes, are together of bulk at most 1048576: NARROWER than '..Said'. Prove '..Said' where nothing that the law and all that it calls make is longer than what came in: it says more and counts as full. Else prove '..UptoSaid'. A law counts once. -/
mutual
def uptoBulk {H : Type} : DataW H → Nat
  | .lit (.string bytes) => bytes.length + 1
  | .lit _ => 1
  | .nil => 1
  | .ptr d => uptoBulk d + 1
  | .slice elems spare => uptoBulkAll elems + uptoBulkAll spare + 1
  | .agg parts => uptoBulkAll parts + 1
  | .iface _ d => uptoBulk d + 1
  | .map entries => uptoBulkEntries entries + 1
  | .held _ => 1
def uptoBulkAll {H : Type} : List (DataW H) → Nat
  | [] => 0
  | d :: r => uptoBulk d + uptoBulkAll r
def uptoBulkEntries {H : Type} : List (Lit × DataW H) → Nat
  | [] => 0
  | x :: r => uptoBulkEntry x + uptoBulkEntries r
def uptoBulkEntry {H : Type} : Lit × DataW H → Nat
  | (.string bytes, d) => bytes.length + uptoBulk d + 1
  | (_, d) => uptoBulk d + 1
 end
def uptoSmall : (H : Type) → List (DataW H) → Bool := fun _ ds => decide (uptoBulkAll ds ≤ 1048576)
def OpenSpec.upto (s : _root_.Go.ChangeSpec) : _root_.Go.OpenSpec := { _root_.Go.OpenSpec.ofChange s with cond := some uptoSmall }

/-- 'laws.FnExactConstants', WHERE WHAT IT READS IS OF BULK AT MOST 1048576: true; the input reads as it did. -/
def fnExactConstantsUptoRow : OpenClaim := { program := "ytapobaphbaoanaa", sum := "5eb2d5e5ce243965b89fd1ba7d567a769d266f4d406abda0ce55bd35e0e0816b", func := "loop.example/g00221/laws.FnExactConstants", spec := "fnExactConstants", apart := false, narrowed := true }
def FnExactConstantsUptoSaid : Prop := fnExactConstantsUptoRow.holds Try.pinned (OpenSpec.upto fnExactConstantsSpec)

/-- 'laws.FnExactMoneyRight', WHERE WHAT IT READS IS OF BULK AT MOST 1048576: true; the input reads as it did. -/
def fnExactMoneyRightUptoRow : OpenClaim := { program := "ytapobaphbaoanaa", sum := "5eb2d5e5ce243965b89fd1ba7d567a769d266f4d406abda0ce55bd35e0e0816b", func := "loop.example/g00221/laws.FnExactMoneyRight", spec := "fnExactMoneyRight", apart := false, narrowed := true }
def FnExactMoneyRightUptoSaid : Prop := fnExactMoneyRightUptoRow.holds Try.pinned (OpenSpec.upto fnExactMoneyRightSpec)

/-- 'laws.FnExactOpName', WHERE WHAT IT READS IS OF BULK AT MOST 1048576: true; the input reads as it did. -/
def fnExactOpNameUptoRow : OpenClaim := { program := "ytapobaphbaoanaa", sum := "5eb2d5e5ce243965b89fd1ba7d567a769d266f4d406abda0ce55bd35e0e0816b", func := "loop.example/g00221/laws.FnExactOpName", spec := "fnExactOpName", apart := false, narrowed := true }
def FnExactOpNameUptoSaid : Prop := fnExactOpNameUptoRow.holds Try.pinned (OpenSpec.upto fnExactOpNameSpec)

/-- 'laws.FnExactSum', WHERE WHAT IT READS IS OF BULK AT MOST 1048576: true; the input reads as it did. -/
def fnExactSumUptoRow : OpenClaim := { program := "ytapobaphbaoanaa", sum := "5eb2d5e5ce243965b89fd1ba7d567a769d266f4d406abda0ce55bd35e0e0816b", func := "loop.example/g00221/laws.FnExactSum", spec := "fnExactSum", apart := false, narrowed := true }
def FnExactSumUptoSaid : Prop := fnExactSumUptoRow.holds Try.pinned (OpenSpec.upto fnExactSumSpec)

/-- 'laws.FnExactPutNum', WHERE WHAT IT READS IS OF BULK AT MOST 1048576: true; the input reads as it did. -/
def fnExactPutNumUptoRow : OpenClaim := { program := "ytapobaphbaoanaa", sum := "5eb2d5e5ce243965b89fd1ba7d567a769d266f4d406abda0ce55bd35e0e0816b", func := "loop.example/g00221/laws.FnExactPutNum", spec := "fnExactPutNum", apart := false, narrowed := true }
def FnExactPutNumUptoSaid : Prop := fnExactPutNumUptoRow.holds Try.pinned (OpenSpec.upto fnExactPutNumSpec)

/-- 'laws.FnExactFunctionNumber', WHERE WHAT IT READS IS OF BULK AT MOST 1048576: true; the input reads as it did. -/
def fnExactFunctionNumberUptoRow : OpenClaim := { program := "ytapobaphbaoanaa", sum := "5eb2d5e5ce243965b89fd1ba7d567a769d266f4d406abda0ce55bd35e0e0816b", func := "loop.example/g00221/laws.FnExactFunctionNumber", spec := "fnExactFunctionNumber", apart := false, narrowed := true }
def FnExactFunctionNumberUptoSaid : Prop := fnExactFunctionNumberUptoRow.holds Try.pinned (OpenSpec.upto fnExactFunctionNumberSpec)

/-- 'laws.FnExactMoneyAdd', WHERE WHAT IT READS IS OF BULK AT MOST 1048576: true; the input reads as it did. -/
def fnExactMoneyAddUptoRow : OpenClaim := { program := "ytapobaphbaoanaa", sum := "5eb2d5e5ce243965b89fd1ba7d567a769d266f4d406abda0ce55bd35e0e0816b", func := "loop.example/g00221/laws.FnExactMoneyAdd", spec := "fnExactMoneyAdd", apart := false, narrowed := true }
def FnExactMoneyAddUptoSaid : Prop := fnExactMoneyAddUptoRow.holds Try.pinned (OpenSpec.upto fnExactMoneyAddSpec)

/-- 'laws.FnMulDiv', WHERE WHAT IT READS IS OF BULK AT MOST 1048576: true; the input reads as it did. -/
def fnMulDivUptoRow : OpenClaim := { program := "ytapobaphbaoanaa", sum := "5eb2d5e5ce243965b89fd1ba7d567a769d266f4d406abda0ce55bd35e0e0816b", func := "loop.example/g00221/laws.FnMulDiv", spec := "fnMulDiv", named := ["math/bits.divideError", "math/bits.overflowError"], apart := false, narrowed := true }
def FnMulDivUptoSaid : Prop := fnMulDivUptoRow.holds Try.pinned (OpenSpec.upto fnMulDivSpec)

/-- 'laws.FnExactOpType', WHERE WHAT IT READS IS OF BULK AT MOST 1048576: true; the input reads as it did. -/
def fnExactOpTypeUptoRow : OpenClaim := { program := "ytapobaphbaoanaa", sum := "5eb2d5e5ce243965b89fd1ba7d567a769d266f4d406abda0ce55bd35e0e0816b", func := "loop.example/g00221/laws.FnExactOpType", spec := "fnExactOpType", apart := false, narrowed := true }
def FnExactOpTypeUptoSaid : Prop := fnExactOpTypeUptoRow.holds Try.pinned (OpenSpec.upto fnExactOpTypeSpec)

/-- 'laws.FnOpNames', WHERE WHAT IT READS IS OF BULK AT MOST 1048576: true; the input reads as it did. -/
def fnOpNamesUptoRow : OpenClaim := { program := "ytapobaphbaoanaa", sum := "5eb2d5e5ce243965b89fd1ba7d567a769d266f4d406abda0ce55bd35e0e0816b", func := "loop.example/g00221/laws.FnOpNames", spec := "fnOpNames", apart := false, narrowed := true }
def FnOpNamesUptoSaid : Prop := fnOpNamesUptoRow.holds Try.pinned (OpenSpec.upto fnOpNamesSpec)

/-- 'laws.FnExactPutText', WHERE WHAT IT READS IS OF BULK AT MOST 1048576: true; the input reads as it did. -/
def fnExactPutTextUptoRow : OpenClaim := { program := "ytapobaphbaoanaa", sum := "5eb2d5e5ce243965b89fd1ba7d567a769d266f4d406abda0ce55bd35e0e0816b", func := "loop.example/g00221/laws.FnExactPutText", spec := "fnExactPutText", apart := false, narrowed := true }
def FnExactPutTextUptoSaid : Prop := fnExactPutTextUptoRow.holds Try.pinned (OpenSpec.upto fnExactPutTextSpec)

/-- 'laws.FnExactRecBytes', WHERE WHAT IT READS IS OF BULK AT MOST 1048576: true; the input reads as it did. -/
def fnExactRecBytesUptoRow : OpenClaim := { program := "ytapobaphbaoanaa", sum := "5eb2d5e5ce243965b89fd1ba7d567a769d266f4d406abda0ce55bd35e0e0816b", func := "loop.example/g00221/laws.FnExactRecBytes", spec := "fnExactRecBytes", apart := false, narrowed := true }
def FnExactRecBytesUptoSaid : Prop := fnExactRecBytesUptoRow.holds Try.pinned (OpenSpec.upto fnExactRecBytesSpec)

end Rows
end Go.Proofs.Ytapobaphbaoanaa
