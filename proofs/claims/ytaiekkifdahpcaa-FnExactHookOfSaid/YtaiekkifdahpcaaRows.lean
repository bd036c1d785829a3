/-
  No cell of these rows narrows 'for every input' (looked for: loops, veiled, ifaces, maps, wideKeys, modest, calm, conditions, laid).
  DERIVED. THE GIVEN ROWS OF THIS SEAT. 12 by the template 'for every input the law returns true; each argument reads behind the call as it read before'; 0 by the template 'total and deterministic' (their statements: YtaiekkifdahpcaaTotals.lean).
  GIVEN WITH THE SEED: the statements are not yours to turn. If you find one false, say at which input.
  Laid BY PROGRAM, IN A SANDBOX (cutbox-rows.mjs): the forced cells as the released guide's own fill.sh prints them over the translation 856f896d304d86b4… (all of the seat's roots in one cut). By AI agents, Wed Nov 11 2026. No macro, syntax, notation, axiom, sorry.
-/
import Derived.Test.YtaiekkifdahpcaaChecked
import GoSem.Claim
import GoSem.ClaimJoined
import GoSem.ClaimMapViews
import Derived.JoinedTies
import Derived.KernelRfl
namespace Go.Proofs.Ytaiekkifdahpcaa
/- THE CELL 'sum', in the pinned program and in every row, IS THE sha256 OF THE DUMP (.gsa) THAT YtaiekkifdahpcaaProg.lean LOADS. Nothing in Lean hashes anything: it is a label: what it is worth is what the hold of that sum in a sandbox is worth. -/
noncomputable def Try.pinned : Pinned := { name := "ytaiekkifdahpcaa", sum := "856f896d304d86b46facfdc4e835a260c35bc12e98bce4b9695c46f4a0c412d4", checked := Try.checked }
namespace Rows
def none {H : Type} : Left H := { results := [], args := [] }

/-- 'laws.FnSum': WHATEVER THE INPUT: true; the input reads as it did. -/
def fnSumSpec : ChangeSpec := { name := "fnSum", fn := fun _ => fun
  | [d1, d2] => { results := [.lit (.bool true)], args := [d1, d2] }
  | _ => none }
def fnSumRow : OpenClaim := { program := "ytaiekkifdahpcaa", sum := "856f896d304d86b46facfdc4e835a260c35bc12e98bce4b9695c46f4a0c412d4", func := "loop.example/g00221/laws.FnSum", spec := "fnSum", apart := false }
def FnSumSaid : Prop := fnSumRow.holds Try.pinned (OpenSpec.ofChange fnSumSpec)

/-- ITS FALSE NEIGHBOUR: 'it returns false'. Refute it at one input. -/
def fnSumWrong : ChangeSpec := { name := "fnSum", fn := fun _ => fun
  | [d1, d2] => { results := [.lit (.bool false)], args := [d1, d2] }
  | _ => none }
def FnSumWrongFalsely : Prop := fnSumRow.holds Try.pinned (OpenSpec.ofChange fnSumWrong)

/-- 'laws.FnRecs': WHATEVER THE INPUT: true; the input reads as it did. -/
def fnRecsSpec : ChangeSpec := { name := "fnRecs", fn := fun _ => fun
  | [d1, d2] => { results := [.lit (.bool true)], args := [d1, d2] }
  | _ => none }
def fnRecsRow : OpenClaim := { program := "ytaiekkifdahpcaa", sum := "856f896d304d86b46facfdc4e835a260c35bc12e98bce4b9695c46f4a0c412d4", func := "loop.example/g00221/laws.FnRecs", spec := "fnRecs", apart := false }
def FnRecsSaid : Prop := fnRecsRow.holds Try.pinned (OpenSpec.ofChange fnRecsSpec)

/-- ITS FALSE NEIGHBOUR: 'it returns false'. Refute it at one input. -/
def fnRecsWrong : ChangeSpec := { name := "fnRecs", fn := fun _ => fun
  | [d1, d2] => { results := [.lit (.bool false)], args := [d1, d2] }
  | _ => none }
def FnRecsWrongFalsely : Prop := fnRecsRow.holds Try.pinned (OpenSpec.ofChange fnRecsWrong)

/-- 'laws.FnExactRecsOf': WHATEVER THE INPUT: true; the input reads as it did. -/
def fnExactRecsOfSpec : ChangeSpec := { name := "fnExactRecsOf", fn := fun _ => fun
  | [d] => { results := [.lit (.bool true)], args := [d] }
  | _ => none }
def fnExactRecsOfRow : OpenClaim := { program := "ytaiekkifdahpcaa", sum := "856f896d304d86b46facfdc4e835a260c35bc12e98bce4b9695c46f4a0c412d4", func := "loop.example/g00221/laws.FnExactRecsOf", spec := "fnExactRecsOf", apart := false }
def FnExactRecsOfSaid : Prop := fnExactRecsOfRow.holds Try.pinned (OpenSpec.ofChange fnExactRecsOfSpec)

/-- ITS FALSE NEIGHBOUR: 'it returns false'. Refute it at one input. -/
def fnExactRecsOfWrong : ChangeSpec := { name := "fnExactRecsOf", fn := fun _ => fun
  | [d] => { results := [.lit (.bool false)], args := [d] }
  | _ => none }
def FnExactRecsOfWrongFalsely : Prop := fnExactRecsOfRow.holds Try.pinned (OpenSpec.ofChange fnExactRecsOfWrong)

/-- 'laws.FnExactReserved': WHATEVER THE INPUT: true; the input reads as it did. -/
def fnExactReservedSpec : ChangeSpec := { name := "fnExactReserved", fn := fun _ => fun
  | [d] => { results := [.lit (.bool true)], args := [d] }
  | _ => none }
def fnExactReservedRow : OpenClaim := { program := "ytaiekkifdahpcaa", sum := "856f896d304d86b46facfdc4e835a260c35bc12e98bce4b9695c46f4a0c412d4", func := "loop.example/g00221/laws.FnExactReserved", spec := "fnExactReserved", inPlace := ["internal/bytealg.IndexByteString", "internal/bytealg.IndexString"], named := ["internal/bytealg.MaxLen"], apart := false }
def FnExactReservedSaid : Prop := fnExactReservedRow.holds Try.pinned (OpenSpec.ofChange fnExactReservedSpec)

/-- ITS FALSE NEIGHBOUR: 'it returns false'. Refute it at one input. -/
def fnExactReservedWrong : ChangeSpec := { name := "fnExactReserved", fn := fun _ => fun
  | [d] => { results := [.lit (.bool false)], args := [d] }
  | _ => none }
def FnExactReservedWrongFalsely : Prop := fnExactReservedRow.holds Try.pinned (OpenSpec.ofChange fnExactReservedWrong)

/-- 'laws.FnExactDiskRight': WHATEVER THE INPUT: true; the input reads as it did. -/
def fnExactDiskRightSpec : ChangeSpec := { name := "fnExactDiskRight", fn := fun _ => fun
  | [d] => { results := [.lit (.bool true)], args := [d] }
  | _ => none }
def fnExactDiskRightRow : OpenClaim := { program := "ytaiekkifdahpcaa", sum := "856f896d304d86b46facfdc4e835a260c35bc12e98bce4b9695c46f4a0c412d4", func := "loop.example/g00221/laws.FnExactDiskRight", spec := "fnExactDiskRight", inPlace := ["internal/abi.NoEscape", "internal/bytealg.MakeNoZero"], apart := false }
def FnExactDiskRightSaid : Prop := fnExactDiskRightRow.holds Try.pinned (OpenSpec.ofChange fnExactDiskRightSpec)

/-- ITS FALSE NEIGHBOUR: 'it returns false'. Refute it at one input. -/
def fnExactDiskRightWrong : ChangeSpec := { name := "fnExactDiskRight", fn := fun _ => fun
  | [d] => { results := [.lit (.bool false)], args := [d] }
  | _ => none }
def FnExactDiskRightWrongFalsely : Prop := fnExactDiskRightRow.holds Try.pinned (OpenSpec.ofChange fnExactDiskRightWrong)

/-- 'laws.FnExactDiskText': WHATEVER THE INPUT: true; the input reads as it did. -/
def fnExactDiskTextSpec : ChangeSpec := { name := "fnExactDiskText", fn := fun _ => fun
  | [d] => { results := [.lit (.bool true)], args := [d] }
  | _ => none }
def fnExactDiskTextRow : OpenClaim := { program := "ytaiekkifdahpcaa", sum := "856f896d304d86b46facfdc4e835a260c35bc12e98bce4b9695c46f4a0c412d4", func := "loop.example/g00221/laws.FnExactDiskText", spec := "fnExactDiskText", inPlace := ["internal/abi.NoEscape", "internal/bytealg.MakeNoZero"], apart := false }
def FnExactDiskTextSaid : Prop := fnExactDiskTextRow.holds Try.pinned (OpenSpec.ofChange fnExactDiskTextSpec)

/-- ITS FALSE NEIGHBOUR: 'it returns false'. Refute it at one input. -/
def fnExactDiskTextWrong : ChangeSpec := { name := "fnExactDiskText", fn := fun _ => fun
  | [d] => { results := [.lit (.bool false)], args := [d] }
  | _ => none }
def FnExactDiskTextWrongFalsely : Prop := fnExactDiskTextRow.holds Try.pinned (OpenSpec.ofChange fnExactDiskTextWrong)

/-- 'laws.FnExactProductSame': WHATEVER THE INPUT: true; the input reads as it did. -/
def fnExactProductSameSpec : ChangeSpec := { name := "fnExactProductSame", fn := fun _ => fun
  | [d1, d2] => { results := [.lit (.bool true)], args := [d1, d2] }
  | _ => none }
def fnExactProductSameRow : OpenClaim := { program := "ytaiekkifdahpcaa", sum := "856f896d304d86b46facfdc4e835a260c35bc12e98bce4b9695c46f4a0c412d4", func := "loop.example/g00221/laws.FnExactProductSame", spec := "fnExactProductSame", apart := false }
def FnExactProductSameSaid : Prop := fnExactProductSameRow.holds Try.pinned (OpenSpec.ofChange fnExactProductSameSpec)

/-- ITS FALSE NEIGHBOUR: 'it returns false'. Refute it at one input. -/
def fnExactProductSameWrong : ChangeSpec := { name := "fnExactProductSame", fn := fun _ => fun
  | [d1, d2] => { results := [.lit (.bool false)], args := [d1, d2] }
  | _ => none }
def FnExactProductSameWrongFalsely : Prop := fnExactProductSameRow.holds Try.pinned (OpenSpec.ofChange fnExactProductSameWrong)

/-- 'laws.FnExactHookOf': WHATEVER THE INPUT: true; the input reads as it did. -/
def fnExactHookOfSpec : ChangeSpec := { name := "fnExactHookOf", fn := fun _ => fun
  | [d1, d2] => { results := [.lit (.bool true)], args := [d1, d2] }
  | _ => none }
def fnExactHookOfRow : OpenClaim := { program := "ytaiekkifdahpcaa", sum := "856f896d304d86b46facfdc4e835a260c35bc12e98bce4b9695c46f4a0c412d4", func := "loop.example/g00221/laws.FnExactHookOf", spec := "fnExactHookOf", apart := false }
def FnExactHookOfSaid : Prop := fnExactHookOfRow.holds Try.pinned (OpenSpec.ofChange fnExactHookOfSpec)

/-- ITS FALSE NEIGHBOUR: 'it returns false'. Refute it at one input. -/
def fnExactHookOfWrong : ChangeSpec := { name := "fnExactHookOf", fn := fun _ => fun
  | [d1, d2] => { results := [.lit (.bool false)], args := [d1, d2] }
  | _ => none }
def FnExactHookOfWrongFalsely : Prop := fnExactHookOfRow.holds Try.pinned (OpenSpec.ofChange fnExactHookOfWrong)

/-- 'laws.FnExactModuleRight': WHATEVER THE INPUT: true; the input reads as it did. -/
def fnExactModuleRightSpec : ChangeSpec := { name := "fnExactModuleRight", fn := fun _ => fun
  | [d] => { results := [.lit (.bool true)], args := [d] }
  | _ => none }
def fnExactModuleRightRow : OpenClaim := { program := "ytaiekkifdahpcaa", sum := "856f896d304d86b46facfdc4e835a260c35bc12e98bce4b9695c46f4a0c412d4", func := "loop.example/g00221/laws.FnExactModuleRight", spec := "fnExactModuleRight", unfollowed := true, recurses := true, apart := false }
def FnExactModuleRightSaid : Prop := fnExactModuleRightRow.holds Try.pinned (OpenSpec.ofChange fnExactModuleRightSpec)

/-- ITS FALSE NEIGHBOUR: 'it returns false'. Refute it at one input. -/
def fnExactModuleRightWrong : ChangeSpec := { name := "fnExactModuleRight", fn := fun _ => fun
  | [d] => { results := [.lit (.bool false)], args := [d] }
  | _ => none }
def FnExactModuleRightWrongFalsely : Prop := fnExactModuleRightRow.holds Try.pinned (OpenSpec.ofChange fnExactModuleRightWrong)

/-- 'laws.FnExactModuleBytes': WHATEVER THE INPUT: true; the input reads as it did. -/
def fnExactModuleBytesSpec : ChangeSpec := { name := "fnExactModuleBytes", fn := fun _ => fun
  | [d] => { results := [.lit (.bool true)], args := [d] }
  | _ => none }
def fnExactModuleBytesRow : OpenClaim := { program := "ytaiekkifdahpcaa", sum := "856f896d304d86b46facfdc4e835a260c35bc12e98bce4b9695c46f4a0c412d4", func := "loop.example/g00221/laws.FnExactModuleBytes", spec := "fnExactModuleBytes", unfollowed := true, recurses := true, apart := false }
def FnExactModuleBytesSaid : Prop := fnExactModuleBytesRow.holds Try.pinned (OpenSpec.ofChange fnExactModuleBytesSpec)

/-- ITS FALSE NEIGHBOUR: 'it returns false'. Refute it at one input. -/
def fnExactModuleBytesWrong : ChangeSpec := { name := "fnExactModuleBytes", fn := fun _ => fun
  | [d] => { results := [.lit (.bool false)], args := [d] }
  | _ => none }
def FnExactModuleBytesWrongFalsely : Prop := fnExactModuleBytesRow.holds Try.pinned (OpenSpec.ofChange fnExactModuleBytesWrong)

/-- 'laws.FnExactHeightsOf': WHATEVER THE INPUT: true; the input reads as it did. -/
def fnExactHeightsOfSpec : ChangeSpec := { name := "fnExactHeightsOf", fn := fun _ => fun
  | [d] => { results := [.lit (.bool true)], args := [d] }
  | _ => none }
def fnExactHeightsOfRow : OpenClaim := { program := "ytaiekkifdahpcaa", sum := "856f896d304d86b46facfdc4e835a260c35bc12e98bce4b9695c46f4a0c412d4", func := "loop.example/g00221/laws.FnExactHeightsOf", spec := "fnExactHeightsOf", unfollowed := true, recurses := true, apart := false }
def FnExactHeightsOfSaid : Prop := fnExactHeightsOfRow.holds Try.pinned (OpenSpec.ofChange fnExactHeightsOfSpec)

/-- ITS FALSE NEIGHBOUR: 'it returns false'. Refute it at one input. -/
def fnExactHeightsOfWrong : ChangeSpec := { name := "fnExactHeightsOf", fn := fun _ => fun
  | [d] => { results := [.lit (.bool false)], args := [d] }
  | _ => none }
def FnExactHeightsOfWrongFalsely : Prop := fnExactHeightsOfRow.holds Try.pinned (OpenSpec.ofChange fnExactHeightsOfWrong)

/-- 'laws.FnExactVmEnvRight': WHATEVER THE INPUT: true; the input reads as it did. -/
def fnExactVmEnvRightSpec : ChangeSpec := { name := "fnExactVmEnvRight", fn := fun _ => fun
  | [d1, d2] => { results := [.lit (.bool true)], args := [d1, d2] }
  | _ => none }
def fnExactVmEnvRightRow : OpenClaim := { program := "ytaiekkifdahpcaa", sum := "856f896d304d86b46facfdc4e835a260c35bc12e98bce4b9695c46f4a0c412d4", func := "loop.example/g00221/laws.FnExactVmEnvRight", spec := "fnExactVmEnvRight", unfollowed := true, recurses := true, apart := false }
def FnExactVmEnvRightSaid : Prop := fnExactVmEnvRightRow.holds Try.pinned (OpenSpec.ofChange fnExactVmEnvRightSpec)

/-- ITS FALSE NEIGHBOUR: 'it returns false'. Refute it at one input. -/
def fnExactVmEnvRightWrong : ChangeSpec := { name := "fnExactVmEnvRight", fn := fun _ => fun
  | [d1, d2] => { results := [.lit (.bool false)], args := [d1, d2] }
  | _ => none }
def FnExactVmEnvRightWrongFalsely : Prop := fnExactVmEnvRightRow.holds Try.pinned (OpenSpec.ofChange fnExactVmEnvRightWrong)

/- THE SECOND FORM. 'bulk': how many values and letters a reading holds, each counted each time it is reached (what is shared counts as often as it is met; a slice's spare places count too). A statement '..UptoSaid' is the law's where the arguments, and the package variables that the reading takes, are together of bulk at most 1048576: NARROWER than '..Said'. Prove '..Said' where nothing that the law and all that it calls make is longer than what came in: it says more and counts as full. Else prove '..UptoSaid'. A law counts once. -/
mutual
def uptoBulk {H : Type} : DataW H → Nat
  | .lit (.string bytes) => bytes.length + 1
  | .lit _ => 1
  | .nil => 1
  | .ptr d => uptoBulk d + 1
  | .slice elems spare => uptoBulkAll elems + uptoBulkAll spare + 1
  | .agg parts => uptoBulkAll parts + 1
  | .iface _ d => uptoBulk d + 1
  | .map entries => uptoBulkEntries entries + 1
  | .held _ => 1
def uptoBulkAll {H : Type} : List (DataW H) → Nat
  | [] => 0
  | d :: r => uptoBulk d + uptoBulkAll r
def uptoBulkEntries {H : Type} : List (Lit × DataW H) → Nat
  | [] => 0
  | x :: r => uptoBulkEntry x + uptoBulkEntries r
def uptoBulkEntry {H : Type} : Lit × DataW H → Nat
  | (.string bytes, d) => bytes.length + uptoBulk d + 1
  | (_, d) => uptoBulk d + 1
 end
def uptoSmall : (H : Type) → List (DataW H) → Bool := fun _ ds => decide (uptoBulkAll ds ≤ 1048576)
def OpenSpec.upto (s : _root_.Go.ChangeSpec) : _root_.Go.OpenSpec := { _root_.Go.OpenSpec.ofChange s with cond := some uptoSmall }

/-- 'laws.FnSum', WHERE WHAT IT READS IS OF BULK AT MOST 1048576: true; the input reads as it did. -/
def fnSumUptoRow : OpenClaim := { program := "ytaiekkifdahpcaa", sum := "856f896d304d86b46facfdc4e835a260c35bc12e98bce4b9695c46f4a0c412d4", func := "loop.example/g00221/laws.FnSum", spec := "fnSum", apart := false, narrowed := true }
def FnSumUptoSaid : Prop := fnSumUptoRow.holds Try.pinned (OpenSpec.upto fnSumSpec)

/-- 'laws.FnRecs', WHERE WHAT IT READS IS OF BULK AT MOST 1048576: true; the input reads as it did. -/
def fnRecsUptoRow : OpenClaim := { program := "ytaiekkifdahpcaa", sum := "856f896d304d86b46facfdc4e835a260c35bc12e98bce4b9695c46f4a0c412d4", func := "loop.example/g00221/laws.FnRecs", spec := "fnRecs", apart := false, narrowed := true }
def FnRecsUptoSaid : Prop := fnRecsUptoRow.holds Try.pinned (OpenSpec.upto fnRecsSpec)

/-- 'laws.FnExactRecsOf', WHERE WHAT IT READS IS OF BULK AT MOST 1048576: true; the input reads as it did. -/
def fnExactRecsOfUptoRow : OpenClaim := { program := "ytaiekkifdahpcaa", sum := "856f896d304d86b46facfdc4e835a260c35bc12e98bce4b9695c46f4a0c412d4", func := "loop.example/g00221/laws.FnExactRecsOf", spec := "fnExactRecsOf", apart := false, narrowed := true }
def FnExactRecsOfUptoSaid : Prop := fnExactRecsOfUptoRow.holds Try.pinned (OpenSpec.upto fnExactRecsOfSpec)

/-- 'laws.FnExactReserved', WHERE WHAT IT READS IS OF BULK AT MOST 1048576: true; the input reads as it did. -/
def fnExactReservedUptoRow : OpenClaim := { program := "ytaiekkifdahpcaa", sum := "856f896d304d86b46facfdc4e835a260c35bc12e98bce4b9695c46f4a0c412d4", func := "loop.example/g00221/laws.FnExactReserved", spec := "fnExactReserved", inPlace := ["internal/bytealg.IndexByteString", "internal/bytealg.IndexString"], named := ["internal/bytealg.MaxLen"], apart := false, narrowed := true }
def FnExactReservedUptoSaid : Prop := fnExactReservedUptoRow.holds Try.pinned (OpenSpec.upto fnExactReservedSpec)

/-- 'laws.FnExactDiskRight', WHERE WHAT IT READS IS OF BULK AT MOST 1048576: true; the input reads as it did. -/
def fnExactDiskRightUptoRow : OpenClaim := { program := "ytaiekkifdahpcaa", sum := "856f896d304d86b46facfdc4e835a260c35bc12e98bce4b9695c46f4a0c412d4", func := "loop.example/g00221/laws.FnExactDiskRight", spec := "fnExactDiskRight", inPlace := ["internal/abi.NoEscape", "internal/bytealg.MakeNoZero"], apart := false, narrowed := true }
def FnExactDiskRightUptoSaid : Prop := fnExactDiskRightUptoRow.holds Try.pinned (OpenSpec.upto fnExactDiskRightSpec)

/-- 'laws.FnExactDiskText', WHERE WHAT IT READS IS OF BULK AT MOST 1048576: true; the input reads as it did. -/
def fnExactDiskTextUptoRow : OpenClaim := { program := "ytaiekkifdahpcaa", sum := "856f896d304d86b46facfdc4e835a260c35bc12e98bce4b9695c46f4a0c412d4", func := "loop.example/g00221/laws.FnExactDiskText", spec := "fnExactDiskText", inPlace := ["internal/abi.NoEscape", "internal/bytealg.MakeNoZero"], apart := false, narrowed := true }
def FnExactDiskTextUptoSaid : Prop := fnExactDiskTextUptoRow.holds Try.pinned (OpenSpec.upto fnExactDiskTextSpec)

/-- 'laws.FnExactProductSame', WHERE WHAT IT READS IS OF BULK AT MOST 1048576: true; the input reads as it did. -/
def fnExactProductSameUptoRow : OpenClaim := { program := "ytaiekkifdahpcaa", sum := "856f896d304d86b46facfdc4e835a260c35bc12e98bce4b9695c46f4a0c412d4", func := "loop.example/g00221/laws.FnExactProductSame", spec := "fnExactProductSame", apart := false, narrowed := true }
def FnExactProductSameUptoSaid : Prop := fnExactProductSameUptoRow.holds Try.pinned (OpenSpec.upto fnExactProductSameSpec)

/-- 'laws.FnExactHookOf', WHERE WHAT IT READS IS OF BULK AT MOST 1048576: true; the input reads as it did. -/
def fnExactHookOfUptoRow : OpenClaim := { program := "ytaiekkifdahpcaa", sum := "856f896d304d86b46facfdc4e835a260c35bc12e98bce4b9695c46f4a0c412d4", func := "loop.example/g00221/laws.FnExactHookOf", spec := "fnExactHookOf", apart := false, narrowed := true }
def FnExactHookOfUptoSaid : Prop := fnExactHookOfUptoRow.holds Try.pinned (OpenSpec.upto fnExactHookOfSpec)

/-- 'laws.FnExactModuleRight', WHERE WHAT IT READS IS OF BULK AT MOST 1048576: true; the input reads as it did. -/
def fnExactModuleRightUptoRow : OpenClaim := { program := "ytaiekkifdahpcaa", sum := "856f896d304d86b46facfdc4e835a260c35bc12e98bce4b9695c46f4a0c412d4", func := "loop.example/g00221/laws.FnExactModuleRight", spec := "fnExactModuleRight", unfollowed := true, recurses := true, apart := false, narrowed := true }
def FnExactModuleRightUptoSaid : Prop := fnExactModuleRightUptoRow.holds Try.pinned (OpenSpec.upto fnExactModuleRightSpec)

/-- 'laws.FnExactModuleBytes', WHERE WHAT IT READS IS OF BULK AT MOST 1048576: true; the input reads as it did. -/
def fnExactModuleBytesUptoRow : OpenClaim := { program := "ytaiekkifdahpcaa", sum := "856f896d304d86b46facfdc4e835a260c35bc12e98bce4b9695c46f4a0c412d4", func := "loop.example/g00221/laws.FnExactModuleBytes", spec := "fnExactModuleBytes", unfollowed := true, recurses := true, apart := false, narrowed := true }
def FnExactModuleBytesUptoSaid : Prop := fnExactModuleBytesUptoRow.holds Try.pinned (OpenSpec.upto fnExactModuleBytesSpec)

/-- 'laws.FnExactHeightsOf', WHERE WHAT IT READS IS OF BULK AT MOST 1048576: true; the input reads as it did. -/
def fnExactHeightsOfUptoRow : OpenClaim := { program := "ytaiekkifdahpcaa", sum := "856f896d304d86b46facfdc4e835a260c35bc12e98bce4b9695c46f4a0c412d4", func := "loop.example/g00221/laws.FnExactHeightsOf", spec := "fnExactHeightsOf", unfollowed := true, recurses := true, apart := false, narrowed := true }
def FnExactHeightsOfUptoSaid : Prop := fnExactHeightsOfUptoRow.holds Try.pinned (OpenSpec.upto fnExactHeightsOfSpec)

/-- 'laws.FnExactVmEnvRight', WHERE WHAT IT READS IS OF BULK AT MOST 1048576: true; the input reads as it did. -/
def fnExactVmEnvRightUptoRow : OpenClaim := { program := "ytaiekkifdahpcaa", sum := "856f896d304d86b46facfdc4e835a260c35bc12e98bce4b9695c46f4a0c412d4", func := "loop.example/g00221/laws.FnExactVmEnvRight", spec := "fnExactVmEnvRight", unfollowed := true, recurses := true, apart := false, narrowed := true }
def FnExactVmEnvRightUptoSaid : Prop := fnExactVmEnvRightUptoRow.holds Try.pinned (OpenSpec.upto fnExactVmEnvRightSpec)

end Rows
end Go.Proofs.Ytaiekkifdahpcaa
