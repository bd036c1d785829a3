/- The shelf's contracts at this seat's translation, in plain words. -/
/-
  DERIVED: THE SHELF's CONTRACTS AT THIS DUMP, IN PLAIN WORDS (tools/lay-plain.mjs out of 'TrydShelf.lean', which tools/lay-shelf.mjs wrote): THE SAME DECLARATIONS UNDER THE SAME NAMES: 'import', 'namespace', 'open', 'def', 'theorem' AND NOTHING ELSE: no command of the shelf's: FOR A HAND-IN. Each laying: the table of numbers ('.._ren') and one theorem, a field a fact of the dump's own or the kernel's comparison; each contract: ONE APPLICATION.
-/
import Derived.Shelf.Strings.SlTrimAscii
import Derived.Ground.NamesProg
import Derived.Shelf.Strings.Builder1
import Derived.Shelf.Strings.Builder2
import Derived.Shelf.Strings.Trim
import Derived.Shelf.Small.Utf8
import Derived.Shelf.Small.Strs
import Derived.Shelf.Strings.BuilderF
import Derived.Shelf.Strconv.Itoa0
import Derived.Shelf.Strconv.Itoa1
import Derived.Shelf.LaysM
import Derived.Shelf.Strconv.Itoa2
import Derived.Shelf.Strconv.Itoa3
import Derived.Shelf.Strconv.Itoa4
import Derived.Shelf.Strconv.ParseIntEmpty
import Derived.Shelf.Strconv.Clone
import Derived.Shelf.Strconv.SyntaxError
import Derived.Shelf.LaysC
import Derived.Shelf.Strconv.ToError
import Derived.Shelf.Strconv.Lower
import Derived.Shelf.Strconv.ParseUint10
import Derived.Shelf.Strconv.ParseUint10Empty
import Derived.Shelf.Strconv.ParseUint10Any
import Derived.Shelf.Strconv.ParseInt10
import Derived.Shelf.Strconv.RangeError
import Derived.Shelf.Strconv.ToErrorRange
import Derived.Shelf.Strconv.ParseUintEmpty
import Derived.Shelf.Strconv.ParseUint10b64
import Derived.Shelf.Strconv.ParseUint10b32
import Derived.Shelf.Strconv.ParseUint10b16
import Derived.Shelf.Strconv.ParseUint10b8
import Derived.Shelf.Strconv.ParseUint10At
import Derived.Shelf.Strconv.ParseInt10At64
import Derived.Shelf.Strconv.ParseInt10At32
import Derived.Shelf.Strconv.ParseInt10At16
import Derived.Shelf.Strconv.ParseInt10At8
import Derived.Shelf.Strconv.ParseInt10All
import Derived.Shelf.Strconv.ParseIntPublic10
import Derived.Shelf.Strconv.ErrVarParseInt
import Derived.Shelf.Strings.Search1
import Derived.Shelf.Strings.Search2
import Derived.Shelf.Strings.Search3
import Derived.Shelf.Strings.Cut
import Derived.Shelf.Strings.Shaped
import Derived.Shelf.Strings.Prefix
import Derived.Shelf.Unicode.Decode
import Derived.Shelf.Strings.Runes
import Derived.Shelf.Strings.AsciiSet
import Derived.Shelf.Bits.Mul64
import Derived.Shelf.Strings.Repeat
import Derived.Shelf.Unicode.DecodeSlow
import Derived.Shelf.Unicode.DecodeAny
import Derived.Shelf.Unicode.DecodeLast
import Derived.Shelf.Slices.Turned
import Derived.Test.YtabmljlpmnlbpaaDoorProg
namespace Go.Proofs
open Go.Shelf
def Tryd.trim160_ren : Go.Shelf.Ren := ⟨fun | 160 => 108 | 232 => 137 | 231 => 136 | 227 => 138 | 234 => 140 | 233 => 139 | 236 => 142 | 235 => 141 | 228 => 161 | 271 => 164 | 151 => 163 | 197 => 162 | 120 => 190 | 152 => 189 | 260 => 188 | 137 => 210 | 119 => 211 | 224 => 200 | 225 => 199 | 217 => 198 | 266 => 214 | n => n, fun | 9 => 9 | 4 => 4 | 3 => 3 | 5 => 5 | 117 => 158 | 116 => 157 | 0 => 0 | 124 => 161 | 21 => 21 | 105 => 178 | 46 => 162 | 119 => 216 | 139 => 219 | 138 => 218 | n => n, fun | 3 => 4 | 4 => 5 | n => n⟩
theorem Tryd.trim160 : Go.Proofs.Lays.n160 Tryd.prog Tryd.trim160_ren := {
  mixed := by kernel_rfl
  f119 := Tryd.func211.trans (congrArg some (by kernel_rfl))
  f120 := Tryd.func190.trans (congrArg some (by kernel_rfl))
  f137 := Tryd.func210.trans (congrArg some (by kernel_rfl))
  f151 := Tryd.func163.trans (congrArg some (by kernel_rfl))
  f152 := Tryd.func189.trans (congrArg some (by kernel_rfl))
  f160 := Tryd.func108.trans (congrArg some (by kernel_rfl))
  f197 := Tryd.func162.trans (congrArg some (by kernel_rfl))
  f217 := Tryd.func198.trans (congrArg some (by kernel_rfl))
  f224 := Tryd.func200.trans (congrArg some (by kernel_rfl))
  f225 := Tryd.func199.trans (congrArg some (by kernel_rfl))
  f227 := Tryd.func138.trans (congrArg some (by kernel_rfl))
  f228 := Tryd.func161.trans (congrArg some (by kernel_rfl))
  f231 := Tryd.func136.trans (congrArg some (by kernel_rfl))
  f232 := Tryd.func137.trans (congrArg some (by kernel_rfl))
  f233 := Tryd.func139.trans (congrArg some (by kernel_rfl))
  f234 := Tryd.func140.trans (congrArg some (by kernel_rfl))
  f235 := Tryd.func141.trans (congrArg some (by kernel_rfl))
  f236 := Tryd.func142.trans (congrArg some (by kernel_rfl))
  f260 := Tryd.func188.trans (congrArg some (by kernel_rfl))
  f266 := Tryd.func214.trans (congrArg some (by kernel_rfl))
  f271 := Tryd.func164.trans (congrArg some (by kernel_rfl))
  t0 := Tryd.underlying0
  a0 := Tryd.isAgg0
  z0 := Tryd.sizeOf0
  v0 := Tryd.zeroValue0
  t3 := Tryd.underlying3
  a3 := Tryd.isAgg3
  z3 := Tryd.sizeOf3
  v3 := Tryd.zeroValue3
  t4 := Tryd.underlying4
  a4 := Tryd.isAgg4
  z4 := Tryd.sizeOf4
  v4 := Tryd.zeroValue4
  t5 := Tryd.underlying5
  a5 := Tryd.isAgg5
  z5 := Tryd.sizeOf5
  v5 := Tryd.zeroValue5
  t9 := Tryd.underlying9
  a9 := Tryd.isAgg9
  z9 := Tryd.sizeOf9
  v9 := Tryd.zeroValue9
  t21 := Tryd.underlying21
  a21 := Tryd.isAgg21
  z21 := Tryd.sizeOf21
  v21 := Tryd.zeroValue21
  t46 := Tryd.underlying162
  a46 := Tryd.isAgg162
  z46 := Tryd.sizeOf162
  v46 := Tryd.zeroValue162
  t105 := Tryd.underlying178
  a105 := Tryd.isAgg178
  z105 := Tryd.sizeOf178
  v105 := Tryd.zeroValue178
  t116 := Tryd.underlying157
  a116 := Tryd.isAgg157
  z116 := Tryd.sizeOf157
  t117 := Tryd.underlying158
  a117 := Tryd.isAgg158
  z117 := Tryd.sizeOf158
  v117 := Tryd.zeroValue158
  t119 := Tryd.underlying216
  a119 := Tryd.isAgg216
  z119 := Tryd.sizeOf216
  t124 := Tryd.underlying161
  a124 := Tryd.isAgg161
  z124 := Tryd.sizeOf161
  v124 := Tryd.zeroValue161
  t138 := Tryd.underlying218
  a138 := Tryd.isAgg218
  z138 := Tryd.sizeOf218
  v138 := Tryd.zeroValue218
  t139 := Tryd.underlying219
  a139 := Tryd.isAgg219
  z139 := Tryd.sizeOf219
  v139 := Tryd.zeroValue219
  g3 := by kernel_rfl
  g4 := by kernel_rfl }
end Go.Proofs
