/-
  No cell of these rows narrows 'for every input' (looked for: loops, veiled, ifaces, maps, wideKeys, modest, calm, conditions, laid).
  DERIVED. THE GIVEN ROWS OF THIS SEAT. 7 by the template 'for every input the law returns true; each argument reads behind the call as it read before'; 0 by the template 'total and deterministic' (their statements: YtpblcdafmpfemaaTotals.lean).
  GIVEN WITH THE SEED: the statements are not yours to turn. If you find one false, say at which input.
  Laid BY PROGRAM, IN A SANDBOX (cutbox-rows.mjs): the forced cells as the released guide's own fill.sh prints them over the translation 00111eb39a741ff8… (all of the seat's roots in one cut). By AI agents, Wed Nov 11 2026. No macro, syntax, notation, axiom, sorry.
-/
import Derived.Test.YtpblcdafmpfemaaChecked
import GoSem.Claim
import GoSem.ClaimJoined
import GoSem.ClaimMapViews
import Derived.JoinedTies
import Derived.KernelRfl
namespace Go.Proofs.Ytpblcdafmpfemaa
/- THE CELL 'sum', in the pinned program and in every row, IS THE sha256 OF THE DUMP (.gsa) THAT YtpblcdafmpfemaaProg.lean LOADS. Nothing in Lean hashes anything: it is a label: what it is worth is what the hold of that sum in a sandbox is worth. -/
noncomputable def Try.pinned : Pinned := { name := "ytpblcdafmpfemaa", sum := "00111eb39a741ff827b3ed0966ddaca1b7886a415164bb05e9b25aa7505a28ae", checked := Try.checked }
namespace Rows
def none {H : Type} : Left H := { results := [], args := [] }

/-- 'laws.FnSum': WHATEVER THE INPUT: true; the input reads as it did. -/
def fnSumSpec : ChangeSpec := { name := "fnSum", fn := fun _ => fun
  | [d1, d2] => { results := [.lit (.bool true)], args := [d1, d2] }
  | _ => none }
def fnSumRow : OpenClaim := { program := "ytpblcdafmpfemaa", sum := "00111eb39a741ff827b3ed0966ddaca1b7886a415164bb05e9b25aa7505a28ae", func := "loop.example/g00221/laws.FnSum", spec := "fnSum", apart := false }
def FnSumSaid : Prop := fnSumRow.holds Try.pinned (OpenSpec.ofChange fnSumSpec)

/-- ITS FALSE NEIGHBOUR: 'it returns false'. Refute it at one input. -/
def fnSumWrong : ChangeSpec := { name := "fnSum", fn := fun _ => fun
  | [d1, d2] => { results := [.lit (.bool false)], args := [d1, d2] }
  | _ => none }
def FnSumWrongFalsely : Prop := fnSumRow.holds Try.pinned (OpenSpec.ofChange fnSumWrong)

/-- 'laws.FnRecs': WHATEVER THE INPUT: true; the input reads as it did. -/
def fnRecsSpec : ChangeSpec := { name := "fnRecs", fn := fun _ => fun
  | [d1, d2] => { results := [.lit (.bool true)], args := [d1, d2] }
  | _ => none }
def fnRecsRow : OpenClaim := { program := "ytpblcdafmpfemaa", sum := "00111eb39a741ff827b3ed0966ddaca1b7886a415164bb05e9b25aa7505a28ae", func := "loop.example/g00221/laws.FnRecs", spec := "fnRecs", apart := false }
def FnRecsSaid : Prop := fnRecsRow.holds Try.pinned (OpenSpec.ofChange fnRecsSpec)

/-- ITS FALSE NEIGHBOUR: 'it returns false'. Refute it at one input. -/
def fnRecsWrong : ChangeSpec := { name := "fnRecs", fn := fun _ => fun
  | [d1, d2] => { results := [.lit (.bool false)], args := [d1, d2] }
  | _ => none }
def FnRecsWrongFalsely : Prop := fnRecsRow.holds Try.pinned (OpenSpec.ofChange fnRecsWrong)

/-- 'laws.FnExactProductSame': WHATEVER THE INPUT: true; the input reads as it did. -/
def fnExactProductSameSpec : ChangeSpec := { name := "fnExactProductSame", fn := fun _ => fun
  | [d1, d2] => { results := [.lit (.bool true)], args := [d1, d2] }
  | _ => none }
def fnExactProductSameRow : OpenClaim := { program := "ytpblcdafmpfemaa", sum := "00111eb39a741ff827b3ed0966ddaca1b7886a415164bb05e9b25aa7505a28ae", func := "loop.example/g00221/laws.FnExactProductSame", spec := "fnExactProductSame", apart := false }
def FnExactProductSameSaid : Prop := fnExactProductSameRow.holds Try.pinned (OpenSpec.ofChange fnExactProductSameSpec)

/-- ITS FALSE NEIGHBOUR: 'it returns false'. Refute it at one input. -/
def fnExactProductSameWrong : ChangeSpec := { name := "fnExactProductSame", fn := fun _ => fun
  | [d1, d2] => { results := [.lit (.bool false)], args := [d1, d2] }
  | _ => none }
def FnExactProductSameWrongFalsely : Prop := fnExactProductSameRow.holds Try.pinned (OpenSpec.ofChange fnExactProductSameWrong)

/-- 'laws.FnExactModuleRight': WHATEVER THE INPUT: true; the input reads as it did. -/
def fnExactModuleRightSpec : ChangeSpec := { name := "fnExactModuleRight", fn := fun _ => fun
  | [d] => { results := [.lit (.bool true)], args := [d] }
  | _ => none }
def fnExactModuleRightRow : OpenClaim := { program := "ytpblcdafmpfemaa", sum := "00111eb39a741ff827b3ed0966ddaca1b7886a415164bb05e9b25aa7505a28ae", func := "loop.example/g00221/laws.FnExactModuleRight", spec := "fnExactModuleRight", unfollowed := true, recurses := true, apart := false }
def FnExactModuleRightSaid : Prop := fnExactModuleRightRow.holds Try.pinned (OpenSpec.ofChange fnExactModuleRightSpec)

/-- ITS FALSE NEIGHBOUR: 'it returns false'. Refute it at one input. -/
def fnExactModuleRightWrong : ChangeSpec := { name := "fnExactModuleRight", fn := fun _ => fun
  | [d] => { results := [.lit (.bool false)], args := [d] }
  | _ => none }
def FnExactModuleRightWrongFalsely : Prop := fnExactModuleRightRow.holds Try.pinned (OpenSpec.ofChange fnExactModuleRightWrong)

/-- 'laws.FnExactModuleBytes': WHATEVER THE INPUT: true; the input reads as it did. -/
def fnExactModuleBytesSpec : ChangeSpec := { name := "fnExactModuleBytes", fn := fun _ => fun
  | [d] => { results := [.lit (.bool true)], args := [d] }
  | _ => none }
def fnExactModuleBytesRow : OpenClaim := { program := "ytpblcdafmpfemaa", sum := "00111eb39a741ff827b3ed0966ddaca1b7886a415164bb05e9b25aa7505a28ae", func := "loop.example/g00221/laws.FnExactModuleBytes", spec := "fnExactModuleBytes", unfollowed := true, recurses := true, apart := false }
def FnExactModuleBytesSaid : Prop := fnExactModuleBytesRow.holds Try.pinned (OpenSpec.ofChange fnExactModuleBytesSpec)

/-- ITS FALSE NEIGHBOUR: 'it returns false'. Refute it at one input. -/
def fnExactModuleBytesWrong : ChangeSpec := { name := "fnExactModuleBytes", fn := fun _ => fun
  | [d] => { results := [.lit (.bool false)], args := [d] }
  | _ => none }
def FnExactModuleBytesWrongFalsely : Prop := fnExactModuleBytesRow.holds Try.pinned (OpenSpec.ofChange fnExactModuleBytesWrong)

/-- 'laws.FnExactHeightsOf': WHATEVER THE INPUT: true; the input reads as it did. -/
def fnExactHeightsOfSpec : ChangeSpec := { name := "fnExactHeightsOf", fn := fun _ => fun
  | [d] => { results := [.lit (.bool true)], args := [d] }
  | _ => none }
def fnExactHeightsOfRow : OpenClaim := { program := "ytpblcdafmpfemaa", sum := "00111eb39a741ff827b3ed0966ddaca1b7886a415164bb05e9b25aa7505a28ae", func := "loop.example/g00221/laws.FnExactHeightsOf", spec := "fnExactHeightsOf", unfollowed := true, recurses := true, apart := false }
def FnExactHeightsOfSaid : Prop := fnExactHeightsOfRow.holds Try.pinned (OpenSpec.ofChange fnExactHeightsOfSpec)

/-- ITS FALSE NEIGHBOUR: 'it returns false'. Refute it at one input. -/
def fnExactHeightsOfWrong : ChangeSpec := { name := "fnExactHeightsOf", fn := fun _ => fun
  | [d] => { results := [.lit (.bool false)], args := [d] }
  | _ => none }
def FnExactHeightsOfWrongFalsely : Prop := fnExactHeightsOfRow.holds Try.pinned (OpenSpec.ofChange fnExactHeightsOfWrong)

/-- 'laws.FnExactVmEnvRight': WHATEVER THE INPUT: true; the input reads as it did. -/
def fnExactVmEnvRightSpec : ChangeSpec := { name := "fnExactVmEnvRight", fn := fun _ => fun
  | [d1, d2] => { results := [.lit (.bool true)], args := [d1, d2] }
  | _ => none }
def fnExactVmEnvRightRow : OpenClaim := { program := "ytpblcdafmpfemaa", sum := "00111eb39a741ff827b3ed0966ddaca1b7886a415164bb05e9b25aa7505a28ae", func := "loop.example/g00221/laws.FnExactVmEnvRight", spec := "fnExactVmEnvRight", unfollowed := true, recurses := true, apart := false }
def FnExactVmEnvRightSaid : Prop := fnExactVmEnvRightRow.holds Try.pinned (OpenSpec.ofChange fnExactVmEnvRightSpec)

/-- ITS FALSE NEIGHBOUR: 'it returns false'. Refute it at one input. -/
def fnExactVmEnvRightWrong : ChangeSpec := { name := "fnExactVmEnvRight", fn := fun _ => fun
  | [d1, d2] => { results := [.lit (.bool false)], args := [d1, d2] }
  | _ => none }
def FnExactVmEnvRightWrongFalsely : Prop := fnExactVmEnvRightRow.holds Try.pinned (OpenSpec.ofChange fnExactVmEnvRightWrong)

/- THE SECOND FORM. 'bulk': how many values and letters a reading holds, each counted each time it is reached (what is shared counts as often as it is met; a slice's spare places count too). A statement '..UptoSaid' is the law's where the arguments, and the package variables that the reading takes, are together of bulk at most 1048576: NARROWER than '..Said'. Prove '..Said' where nothing that the law and all that it calls make is longer than what came in: it says more and counts as full. Else prove '..UptoSaid'. A law counts once. -/
mutual
def uptoBulk {H : Type} : DataW H → Nat
  | .lit (.string bytes) => bytes.length + 1
  | .lit _ => 1
  | .nil => 1
  | .ptr d => uptoBulk d + 1
  | .slice elems spare => uptoBulkAll elems + uptoBulkAll spare + 1
  | .agg parts => uptoBulkAll parts + 1
  | .iface _ d => uptoBulk d + 1
  | .map entries => uptoBulkEntries entries + 1
  | .held _ => 1
def uptoBulkAll {H : Type} : List (DataW H) → Nat
  | [] => 0
  | d :: r => uptoBulk d + uptoBulkAll r
def uptoBulkEntries {H : Type} : List (Lit × DataW H) → Nat
  | [] => 0
  | x :: r => uptoBulkEntry x + uptoBulkEntries r
def uptoBulkEntry {H : Type} : Lit × DataW H → Nat
  | (.string bytes, d) => bytes.length + uptoBulk d + 1
  | (_, d) => uptoBulk d + 1
 end
def uptoSmall : (H : Type) → List (DataW H) → Bool := fun _ ds => decide (uptoBulkAll ds ≤ 1048576)
def OpenSpec.upto (s : _root_.Go.ChangeSpec) : _root_.Go.OpenSpec := { _root_.Go.OpenSpec.ofChange s with cond := some uptoSmall }

/-- 'laws.FnSum', WHERE WHAT IT READS IS OF BULK AT MOST 1048576: true; the input reads as it did. -/
def fnSumUptoRow : OpenClaim := { program := "ytpblcdafmpfemaa", sum := "00111eb39a741ff827b3ed0966ddaca1b7886a415164bb05e9b25aa7505a28ae", func := "loop.example/g00221/laws.FnSum", spec := "fnSum", apart := false, narrowed := true }
def FnSumUptoSaid : Prop := fnSumUptoRow.holds Try.pinned (OpenSpec.upto fnSumSpec)

/-- 'laws.FnRecs', WHERE WHAT IT READS IS OF BULK AT MOST 1048576: true; the input reads as it did. -/
def fnRecsUptoRow : OpenClaim := { program := "ytpblcdafmpfemaa", sum := "00111eb39a741ff827b3ed0966ddaca1b7886a415164bb05e9b25aa7505a28ae", func := "loop.example/g00221/laws.FnRecs", spec := "fnRecs", apart := false, narrowed := true }
def FnRecsUptoSaid : Prop := fnRecsUptoRow.holds Try.pinned (OpenSpec.upto fnRecsSpec)

/-- 'laws.FnExactProductSame', WHERE WHAT IT READS IS OF BULK AT MOST 1048576: true; the input reads as it did. -/
def fnExactProductSameUptoRow : OpenClaim := { program := "ytpblcdafmpfemaa", sum := "00111eb39a741ff827b3ed0966ddaca1b7886a415164bb05e9b25aa7505a28ae", func := "loop.example/g00221/laws.FnExactProductSame", spec := "fnExactProductSame", apart := false, narrowed := true }
def FnExactProductSameUptoSaid : Prop := fnExactProductSameUptoRow.holds Try.pinned (OpenSpec.upto fnExactProductSameSpec)

/-- 'laws.FnExactModuleRight', WHERE WHAT IT READS IS OF BULK AT MOST 1048576: true; the input reads as it did. -/
def fnExactModuleRightUptoRow : OpenClaim := { program := "ytpblcdafmpfemaa", sum := "00111eb39a741ff827b3ed0966ddaca1b7886a415164bb05e9b25aa7505a28ae", func := "loop.example/g00221/laws.FnExactModuleRight", spec := "fnExactModuleRight", unfollowed := true, recurses := true, apart := false, narrowed := true }
def FnExactModuleRightUptoSaid : Prop := fnExactModuleRightUptoRow.holds Try.pinned (OpenSpec.upto fnExactModuleRightSpec)

/-- 'laws.FnExactModuleBytes', WHERE WHAT IT READS IS OF BULK AT MOST 1048576: true; the input reads as it did. -/
def fnExactModuleBytesUptoRow : OpenClaim := { program := "ytpblcdafmpfemaa", sum := "00111eb39a741ff827b3ed0966ddaca1b7886a415164bb05e9b25aa7505a28ae", func := "loop.example/g00221/laws.FnExactModuleBytes", spec := "fnExactModuleBytes", unfollowed := true, recurses := true, apart := false, narrowed := true }
def FnExactModuleBytesUptoSaid : Prop := fnExactModuleBytesUptoRow.holds Try.pinned (OpenSpec.upto fnExactModuleBytesSpec)

/-- 'laws.FnExactHeightsOf', WHERE WHAT IT READS IS OF BULK AT MOST 1048576: true; the input reads as it did. -/
def fnExactHeightsOfUptoRow : OpenClaim := { program := "ytpblcdafmpfemaa", sum := "00111eb39a741ff827b3ed0966ddaca1b7886a415164bb05e9b25aa7505a28ae", func := "loop.example/g00221/laws.FnExactHeightsOf", spec := "fnExactHeightsOf", unfollowed := true, recurses := true, apart := false, narrowed := true }
def FnExactHeightsOfUptoSaid : Prop := fnExactHeightsOfUptoRow.holds Try.pinned (OpenSpec.upto fnExactHeightsOfSpec)

/-- 'laws.FnExactVmEnvRight', WHERE WHAT IT READS IS OF BULK AT MOST 1048576: true; the input reads as it did. -/
def fnExactVmEnvRightUptoRow : OpenClaim := { program := "ytpblcdafmpfemaa", sum := "00111eb39a741ff827b3ed0966ddaca1b7886a415164bb05e9b25aa7505a28ae", func := "loop.example/g00221/laws.FnExactVmEnvRight", spec := "fnExactVmEnvRight", unfollowed := true, recurses := true, apart := false, narrowed := true }
def FnExactVmEnvRightUptoSaid : Prop := fnExactVmEnvRightUptoRow.holds Try.pinned (OpenSpec.upto fnExactVmEnvRightSpec)

end Rows
end Go.Proofs.Ytpblcdafmpfemaa
