/-
  No cell of these rows narrows 'for every input' (looked for: loops, veiled, ifaces, maps, wideKeys, modest, calm, conditions, laid).
  DERIVED. THE GIVEN ROWS OF THIS SEAT. 25 by the template 'for every input the law returns true; each argument reads behind the call as it read before'; 0 by the template 'total and deterministic' (their statements: YtjgpdbkkpomhjaaTotals.lean).
  GIVEN WITH THE SEED: the statements are not yours to turn. If you find one false, say at which input.
  Laid BY PROGRAM, IN A SANDBOX (cutbox-rows.mjs): the forced cells as the released guide's own fill.sh prints them over the translation 47e1281b09a15210… (all of the seat's roots in one cut). By AI agents, Wed Nov 11 2026. No macro, syntax, notation, axiom, sorry.
-/
import Derived.Test.YtjgpdbkkpomhjaaChecked
import GoSem.Claim
import GoSem.ClaimJoined
import GoSem.ClaimMapViews
import Derived.JoinedTies
import Derived.KernelRfl
namespace Go.Proofs.Ytjgpdbkkpomhjaa
/- THE CELL 'sum', in the pinned program and in every row, IS THE sha256 OF THE DUMP (.gsa) THAT YtjgpdbkkpomhjaaProg.lean LOADS. Nothing in Lean hashes anything: it is a label: what it is worth is what the hold of that sum in a sandbox is worth. -/
noncomputable def Try.pinned : Pinned := { name := "ytjgpdbkkpomhjaa", sum := "47e1281b09a152102495ff714e57a673f6633ba2e3102444b75b3e28ffc43dde", checked := Try.checked }
namespace Rows
def none {H : Type} : Left H := { results := [], args := [] }

/-- 'leatlaw10.SumSums': WHATEVER THE INPUT: true; the input reads as it did. -/
def sumSumsSpec : ChangeSpec := { name := "sumSums", fn := fun _ => fun
  | [d] => { results := [.lit (.bool true)], args := [d] }
  | _ => none }
def sumSumsRow : OpenClaim := { program := "ytjgpdbkkpomhjaa", sum := "47e1281b09a152102495ff714e57a673f6633ba2e3102444b75b3e28ffc43dde", func := "leat/leatlaw10.SumSums", spec := "sumSums", apart := false }
def SumSumsSaid : Prop := sumSumsRow.holds Try.pinned (OpenSpec.ofChange sumSumsSpec)

/-- ITS FALSE NEIGHBOUR: 'it returns false'. Refute it at one input. -/
def sumSumsWrong : ChangeSpec := { name := "sumSums", fn := fun _ => fun
  | [d] => { results := [.lit (.bool false)], args := [d] }
  | _ => none }
def SumSumsWrongFalsely : Prop := sumSumsRow.holds Try.pinned (OpenSpec.ofChange sumSumsWrong)

/-- 'leatlaw11.FlagsEncodes': WHATEVER THE INPUT: true; the input reads as it did. -/
def flagsEncodesSpec : ChangeSpec := { name := "flagsEncodes", fn := fun _ => fun
  | [d] => { results := [.lit (.bool true)], args := [d] }
  | _ => none }
def flagsEncodesRow : OpenClaim := { program := "ytjgpdbkkpomhjaa", sum := "47e1281b09a152102495ff714e57a673f6633ba2e3102444b75b3e28ffc43dde", func := "leat/leatlaw11.FlagsEncodes", spec := "flagsEncodes", unfollowed := true, recurses := true, apart := false }
def FlagsEncodesSaid : Prop := flagsEncodesRow.holds Try.pinned (OpenSpec.ofChange flagsEncodesSpec)

/-- ITS FALSE NEIGHBOUR: 'it returns false'. Refute it at one input. -/
def flagsEncodesWrong : ChangeSpec := { name := "flagsEncodes", fn := fun _ => fun
  | [d] => { results := [.lit (.bool false)], args := [d] }
  | _ => none }
def FlagsEncodesWrongFalsely : Prop := flagsEncodesRow.holds Try.pinned (OpenSpec.ofChange flagsEncodesWrong)

/-- 'leatlaw11.FlagsBits': WHATEVER THE INPUT: true; the input reads as it did. -/
def flagsBitsSpec : ChangeSpec := { name := "flagsBits", fn := fun _ => fun
  | [d1, d2, d3] => { results := [.lit (.bool true)], args := [d1, d2, d3] }
  | _ => none }
def flagsBitsRow : OpenClaim := { program := "ytjgpdbkkpomhjaa", sum := "47e1281b09a152102495ff714e57a673f6633ba2e3102444b75b3e28ffc43dde", func := "leat/leatlaw11.FlagsBits", spec := "flagsBits", unfollowed := true, recurses := true, apart := false }
def FlagsBitsSaid : Prop := flagsBitsRow.holds Try.pinned (OpenSpec.ofChange flagsBitsSpec)

/-- ITS FALSE NEIGHBOUR: 'it returns false'. Refute it at one input. -/
def flagsBitsWrong : ChangeSpec := { name := "flagsBits", fn := fun _ => fun
  | [d1, d2, d3] => { results := [.lit (.bool false)], args := [d1, d2, d3] }
  | _ => none }
def FlagsBitsWrongFalsely : Prop := flagsBitsRow.holds Try.pinned (OpenSpec.ofChange flagsBitsWrong)

/-- 'leatlaw11.FlagsDecodes': WHATEVER THE INPUT: true; the input reads as it did. -/
def flagsDecodesSpec : ChangeSpec := { name := "flagsDecodes", fn := fun _ => fun
  | [d] => { results := [.lit (.bool true)], args := [d] }
  | _ => none }
def flagsDecodesRow : OpenClaim := { program := "ytjgpdbkkpomhjaa", sum := "47e1281b09a152102495ff714e57a673f6633ba2e3102444b75b3e28ffc43dde", func := "leat/leatlaw11.FlagsDecodes", spec := "flagsDecodes", unfollowed := true, recurses := true, apart := false }
def FlagsDecodesSaid : Prop := flagsDecodesRow.holds Try.pinned (OpenSpec.ofChange flagsDecodesSpec)

/-- ITS FALSE NEIGHBOUR: 'it returns false'. Refute it at one input. -/
def flagsDecodesWrong : ChangeSpec := { name := "flagsDecodes", fn := fun _ => fun
  | [d] => { results := [.lit (.bool false)], args := [d] }
  | _ => none }
def FlagsDecodesWrongFalsely : Prop := flagsDecodesRow.holds Try.pinned (OpenSpec.ofChange flagsDecodesWrong)

/-- 'leatlaw11.FlagsBack': WHATEVER THE INPUT: true; the input reads as it did. -/
def flagsBackSpec : ChangeSpec := { name := "flagsBack", fn := fun _ => fun
  | [d1, d2] => { results := [.lit (.bool true)], args := [d1, d2] }
  | _ => none }
def flagsBackRow : OpenClaim := { program := "ytjgpdbkkpomhjaa", sum := "47e1281b09a152102495ff714e57a673f6633ba2e3102444b75b3e28ffc43dde", func := "leat/leatlaw11.FlagsBack", spec := "flagsBack", unfollowed := true, recurses := true, apart := false }
def FlagsBackSaid : Prop := flagsBackRow.holds Try.pinned (OpenSpec.ofChange flagsBackSpec)

/-- ITS FALSE NEIGHBOUR: 'it returns false'. Refute it at one input. -/
def flagsBackWrong : ChangeSpec := { name := "flagsBack", fn := fun _ => fun
  | [d1, d2] => { results := [.lit (.bool false)], args := [d1, d2] }
  | _ => none }
def FlagsBackWrongFalsely : Prop := flagsBackRow.holds Try.pinned (OpenSpec.ofChange flagsBackWrong)

/-- 'leatlaw10.SumParts': WHATEVER THE INPUT: true; the input reads as it did. -/
def sumPartsSpec : ChangeSpec := { name := "sumParts", fn := fun _ => fun
  | [d1, d2, d3] => { results := [.lit (.bool true)], args := [d1, d2, d3] }
  | _ => none }
def sumPartsRow : OpenClaim := { program := "ytjgpdbkkpomhjaa", sum := "47e1281b09a152102495ff714e57a673f6633ba2e3102444b75b3e28ffc43dde", func := "leat/leatlaw10.SumParts", spec := "sumParts", apart := false }
def SumPartsSaid : Prop := sumPartsRow.holds Try.pinned (OpenSpec.ofChange sumPartsSpec)

/-- ITS FALSE NEIGHBOUR: 'it returns false'. Refute it at one input. -/
def sumPartsWrong : ChangeSpec := { name := "sumParts", fn := fun _ => fun
  | [d1, d2, d3] => { results := [.lit (.bool false)], args := [d1, d2, d3] }
  | _ => none }
def SumPartsWrongFalsely : Prop := sumPartsRow.holds Try.pinned (OpenSpec.ofChange sumPartsWrong)

/-- 'leatlaw11.FlagsText': WHATEVER THE INPUT: true; the input reads as it did. -/
def flagsTextSpec : ChangeSpec := { name := "flagsText", fn := fun _ => fun
  | [d1, d2] => { results := [.lit (.bool true)], args := [d1, d2] }
  | _ => none }
def flagsTextRow : OpenClaim := { program := "ytjgpdbkkpomhjaa", sum := "47e1281b09a152102495ff714e57a673f6633ba2e3102444b75b3e28ffc43dde", func := "leat/leatlaw11.FlagsText", spec := "flagsText", unfollowed := true, recurses := true, apart := false }
def FlagsTextSaid : Prop := flagsTextRow.holds Try.pinned (OpenSpec.ofChange flagsTextSpec)

/-- ITS FALSE NEIGHBOUR: 'it returns false'. Refute it at one input. -/
def flagsTextWrong : ChangeSpec := { name := "flagsText", fn := fun _ => fun
  | [d1, d2] => { results := [.lit (.bool false)], args := [d1, d2] }
  | _ => none }
def FlagsTextWrongFalsely : Prop := flagsTextRow.holds Try.pinned (OpenSpec.ofChange flagsTextWrong)

/-- 'leatlaw10.SumFills': WHATEVER THE INPUT: true; the input reads as it did. -/
def sumFillsSpec : ChangeSpec := { name := "sumFills", fn := fun _ => fun
  | [d1, d2, d3] => { results := [.lit (.bool true)], args := [d1, d2, d3] }
  | _ => none }
def sumFillsRow : OpenClaim := { program := "ytjgpdbkkpomhjaa", sum := "47e1281b09a152102495ff714e57a673f6633ba2e3102444b75b3e28ffc43dde", func := "leat/leatlaw10.SumFills", spec := "sumFills", apart := false }
def SumFillsSaid : Prop := sumFillsRow.holds Try.pinned (OpenSpec.ofChange sumFillsSpec)

/-- ITS FALSE NEIGHBOUR: 'it returns false'. Refute it at one input. -/
def sumFillsWrong : ChangeSpec := { name := "sumFills", fn := fun _ => fun
  | [d1, d2, d3] => { results := [.lit (.bool false)], args := [d1, d2, d3] }
  | _ => none }
def SumFillsWrongFalsely : Prop := sumFillsRow.holds Try.pinned (OpenSpec.ofChange sumFillsWrong)

/-- 'leatlaw12.OptionPrints': WHATEVER THE INPUT: true; the input reads as it did. -/
def optionPrintsSpec : ChangeSpec := { name := "optionPrints", fn := fun _ => fun
  | [d1, d2] => { results := [.lit (.bool true)], args := [d1, d2] }
  | _ => none }
def optionPrintsRow : OpenClaim := { program := "ytjgpdbkkpomhjaa", sum := "47e1281b09a152102495ff714e57a673f6633ba2e3102444b75b3e28ffc43dde", func := "leat/leatlaw12.OptionPrints", spec := "optionPrints", unfollowed := true, recurses := true, apart := false }
def OptionPrintsSaid : Prop := optionPrintsRow.holds Try.pinned (OpenSpec.ofChange optionPrintsSpec)

/-- ITS FALSE NEIGHBOUR: 'it returns false'. Refute it at one input. -/
def optionPrintsWrong : ChangeSpec := { name := "optionPrints", fn := fun _ => fun
  | [d1, d2] => { results := [.lit (.bool false)], args := [d1, d2] }
  | _ => none }
def OptionPrintsWrongFalsely : Prop := optionPrintsRow.holds Try.pinned (OpenSpec.ofChange optionPrintsWrong)

/-- 'leatlaw12.OptionCounts': WHATEVER THE INPUT: true; the input reads as it did. -/
def optionCountsSpec : ChangeSpec := { name := "optionCounts", fn := fun _ => fun
  | [d1, d2, d3] => { results := [.lit (.bool true)], args := [d1, d2, d3] }
  | _ => none }
def optionCountsRow : OpenClaim := { program := "ytjgpdbkkpomhjaa", sum := "47e1281b09a152102495ff714e57a673f6633ba2e3102444b75b3e28ffc43dde", func := "leat/leatlaw12.OptionCounts", spec := "optionCounts", unfollowed := true, recurses := true, apart := false }
def OptionCountsSaid : Prop := optionCountsRow.holds Try.pinned (OpenSpec.ofChange optionCountsSpec)

/-- ITS FALSE NEIGHBOUR: 'it returns false'. Refute it at one input. -/
def optionCountsWrong : ChangeSpec := { name := "optionCounts", fn := fun _ => fun
  | [d1, d2, d3] => { results := [.lit (.bool false)], args := [d1, d2, d3] }
  | _ => none }
def OptionCountsWrongFalsely : Prop := optionCountsRow.holds Try.pinned (OpenSpec.ofChange optionCountsWrong)

/-- 'leatlaw12.OptionParses': WHATEVER THE INPUT: true; the input reads as it did. -/
def optionParsesSpec : ChangeSpec := { name := "optionParses", fn := fun _ => fun
  | [d] => { results := [.lit (.bool true)], args := [d] }
  | _ => none }
def optionParsesRow : OpenClaim := { program := "ytjgpdbkkpomhjaa", sum := "47e1281b09a152102495ff714e57a673f6633ba2e3102444b75b3e28ffc43dde", func := "leat/leatlaw12.OptionParses", spec := "optionParses", unfollowed := true, recurses := true, apart := false }
def OptionParsesSaid : Prop := optionParsesRow.holds Try.pinned (OpenSpec.ofChange optionParsesSpec)

/-- ITS FALSE NEIGHBOUR: 'it returns false'. Refute it at one input. -/
def optionParsesWrong : ChangeSpec := { name := "optionParses", fn := fun _ => fun
  | [d] => { results := [.lit (.bool false)], args := [d] }
  | _ => none }
def OptionParsesWrongFalsely : Prop := optionParsesRow.holds Try.pinned (OpenSpec.ofChange optionParsesWrong)

/-- 'leatlaw12.OptionBack': WHATEVER THE INPUT: true; the input reads as it did. -/
def optionBackSpec : ChangeSpec := { name := "optionBack", fn := fun _ => fun
  | [d1, d2] => { results := [.lit (.bool true)], args := [d1, d2] }
  | _ => none }
def optionBackRow : OpenClaim := { program := "ytjgpdbkkpomhjaa", sum := "47e1281b09a152102495ff714e57a673f6633ba2e3102444b75b3e28ffc43dde", func := "leat/leatlaw12.OptionBack", spec := "optionBack", unfollowed := true, recurses := true, apart := false }
def OptionBackSaid : Prop := optionBackRow.holds Try.pinned (OpenSpec.ofChange optionBackSpec)

/-- ITS FALSE NEIGHBOUR: 'it returns false'. Refute it at one input. -/
def optionBackWrong : ChangeSpec := { name := "optionBack", fn := fun _ => fun
  | [d1, d2] => { results := [.lit (.bool false)], args := [d1, d2] }
  | _ => none }
def OptionBackWrongFalsely : Prop := optionBackRow.holds Try.pinned (OpenSpec.ofChange optionBackWrong)

/-- 'leatlaw13.SegmentDecodes': WHATEVER THE INPUT: true; the input reads as it did. -/
def segmentDecodesSpec : ChangeSpec := { name := "segmentDecodes", fn := fun _ => fun
  | [d1, d2] => { results := [.lit (.bool true)], args := [d1, d2] }
  | _ => none }
def segmentDecodesRow : OpenClaim := { program := "ytjgpdbkkpomhjaa", sum := "47e1281b09a152102495ff714e57a673f6633ba2e3102444b75b3e28ffc43dde", func := "leat/leatlaw13.SegmentDecodes", spec := "segmentDecodes", unfollowed := true, recurses := true, apart := false }
def SegmentDecodesSaid : Prop := segmentDecodesRow.holds Try.pinned (OpenSpec.ofChange segmentDecodesSpec)

/-- ITS FALSE NEIGHBOUR: 'it returns false'. Refute it at one input. -/
def segmentDecodesWrong : ChangeSpec := { name := "segmentDecodes", fn := fun _ => fun
  | [d1, d2] => { results := [.lit (.bool false)], args := [d1, d2] }
  | _ => none }
def SegmentDecodesWrongFalsely : Prop := segmentDecodesRow.holds Try.pinned (OpenSpec.ofChange segmentDecodesWrong)

/-- 'leatlaw13.SegmentBack': WHATEVER THE INPUT: true; the input reads as it did. -/
def segmentBackSpec : ChangeSpec := { name := "segmentBack", fn := fun _ => fun
  | [d1, d2] => { results := [.lit (.bool true)], args := [d1, d2] }
  | _ => none }
def segmentBackRow : OpenClaim := { program := "ytjgpdbkkpomhjaa", sum := "47e1281b09a152102495ff714e57a673f6633ba2e3102444b75b3e28ffc43dde", func := "leat/leatlaw13.SegmentBack", spec := "segmentBack", unfollowed := true, recurses := true, apart := false }
def SegmentBackSaid : Prop := segmentBackRow.holds Try.pinned (OpenSpec.ofChange segmentBackSpec)

/-- ITS FALSE NEIGHBOUR: 'it returns false'. Refute it at one input. -/
def segmentBackWrong : ChangeSpec := { name := "segmentBack", fn := fun _ => fun
  | [d1, d2] => { results := [.lit (.bool false)], args := [d1, d2] }
  | _ => none }
def SegmentBackWrongFalsely : Prop := segmentBackRow.holds Try.pinned (OpenSpec.ofChange segmentBackWrong)

/-- 'leatlaw13.SegmentTurned': WHATEVER THE INPUT: true; the input reads as it did. -/
def segmentTurnedSpec : ChangeSpec := { name := "segmentTurned", fn := fun _ => fun
  | [d1, d2, d3] => { results := [.lit (.bool true)], args := [d1, d2, d3] }
  | _ => none }
def segmentTurnedRow : OpenClaim := { program := "ytjgpdbkkpomhjaa", sum := "47e1281b09a152102495ff714e57a673f6633ba2e3102444b75b3e28ffc43dde", func := "leat/leatlaw13.SegmentTurned", spec := "segmentTurned", unfollowed := true, recurses := true, apart := false }
def SegmentTurnedSaid : Prop := segmentTurnedRow.holds Try.pinned (OpenSpec.ofChange segmentTurnedSpec)

/-- ITS FALSE NEIGHBOUR: 'it returns false'. Refute it at one input. -/
def segmentTurnedWrong : ChangeSpec := { name := "segmentTurned", fn := fun _ => fun
  | [d1, d2, d3] => { results := [.lit (.bool false)], args := [d1, d2, d3] }
  | _ => none }
def SegmentTurnedWrongFalsely : Prop := segmentTurnedRow.holds Try.pinned (OpenSpec.ofChange segmentTurnedWrong)

/-- 'leatlaw13.SegmentEncodes': WHATEVER THE INPUT: true; the input reads as it did. -/
def segmentEncodesSpec : ChangeSpec := { name := "segmentEncodes", fn := fun _ => fun
  | [d1, d2] => { results := [.lit (.bool true)], args := [d1, d2] }
  | _ => none }
def segmentEncodesRow : OpenClaim := { program := "ytjgpdbkkpomhjaa", sum := "47e1281b09a152102495ff714e57a673f6633ba2e3102444b75b3e28ffc43dde", func := "leat/leatlaw13.SegmentEncodes", spec := "segmentEncodes", unfollowed := true, recurses := true, apart := false }
def SegmentEncodesSaid : Prop := segmentEncodesRow.holds Try.pinned (OpenSpec.ofChange segmentEncodesSpec)

/-- ITS FALSE NEIGHBOUR: 'it returns false'. Refute it at one input. -/
def segmentEncodesWrong : ChangeSpec := { name := "segmentEncodes", fn := fun _ => fun
  | [d1, d2] => { results := [.lit (.bool false)], args := [d1, d2] }
  | _ => none }
def SegmentEncodesWrongFalsely : Prop := segmentEncodesRow.holds Try.pinned (OpenSpec.ofChange segmentEncodesWrong)

/-- 'leatlaw13.SegmentCuts': WHATEVER THE INPUT: true; the input reads as it did. -/
def segmentCutsSpec : ChangeSpec := { name := "segmentCuts", fn := fun _ => fun
  | [d1, d2, d3] => { results := [.lit (.bool true)], args := [d1, d2, d3] }
  | _ => none }
def segmentCutsRow : OpenClaim := { program := "ytjgpdbkkpomhjaa", sum := "47e1281b09a152102495ff714e57a673f6633ba2e3102444b75b3e28ffc43dde", func := "leat/leatlaw13.SegmentCuts", spec := "segmentCuts", unfollowed := true, recurses := true, apart := false }
def SegmentCutsSaid : Prop := segmentCutsRow.holds Try.pinned (OpenSpec.ofChange segmentCutsSpec)

/-- ITS FALSE NEIGHBOUR: 'it returns false'. Refute it at one input. -/
def segmentCutsWrong : ChangeSpec := { name := "segmentCuts", fn := fun _ => fun
  | [d1, d2, d3] => { results := [.lit (.bool false)], args := [d1, d2, d3] }
  | _ => none }
def SegmentCutsWrongFalsely : Prop := segmentCutsRow.holds Try.pinned (OpenSpec.ofChange segmentCutsWrong)

/-- 'leatlaw13.SegmentGathers': WHATEVER THE INPUT: true; the input reads as it did. -/
def segmentGathersSpec : ChangeSpec := { name := "segmentGathers", fn := fun _ => fun
  | [d1, d2] => { results := [.lit (.bool true)], args := [d1, d2] }
  | _ => none }
def segmentGathersRow : OpenClaim := { program := "ytjgpdbkkpomhjaa", sum := "47e1281b09a152102495ff714e57a673f6633ba2e3102444b75b3e28ffc43dde", func := "leat/leatlaw13.SegmentGathers", spec := "segmentGathers", unfollowed := true, recurses := true, apart := false }
def SegmentGathersSaid : Prop := segmentGathersRow.holds Try.pinned (OpenSpec.ofChange segmentGathersSpec)

/-- ITS FALSE NEIGHBOUR: 'it returns false'. Refute it at one input. -/
def segmentGathersWrong : ChangeSpec := { name := "segmentGathers", fn := fun _ => fun
  | [d1, d2] => { results := [.lit (.bool false)], args := [d1, d2] }
  | _ => none }
def SegmentGathersWrongFalsely : Prop := segmentGathersRow.holds Try.pinned (OpenSpec.ofChange segmentGathersWrong)

/-- 'leatlaw38.PathWrites': WHATEVER THE INPUT: true; the input reads as it did. -/
def pathWritesSpec : ChangeSpec := { name := "pathWrites", fn := fun _ => fun
  | [d1, d2, d3] => { results := [.lit (.bool true)], args := [d1, d2, d3] }
  | _ => none }
def pathWritesRow : OpenClaim := { program := "ytjgpdbkkpomhjaa", sum := "47e1281b09a152102495ff714e57a673f6633ba2e3102444b75b3e28ffc43dde", func := "leat/leatlaw38.PathWrites", spec := "pathWrites", unfollowed := true, recurses := true, apart := false }
def PathWritesSaid : Prop := pathWritesRow.holds Try.pinned (OpenSpec.ofChange pathWritesSpec)

/-- ITS FALSE NEIGHBOUR: 'it returns false'. Refute it at one input. -/
def pathWritesWrong : ChangeSpec := { name := "pathWrites", fn := fun _ => fun
  | [d1, d2, d3] => { results := [.lit (.bool false)], args := [d1, d2, d3] }
  | _ => none }
def PathWritesWrongFalsely : Prop := pathWritesRow.holds Try.pinned (OpenSpec.ofChange pathWritesWrong)

/-- 'leatlaw38.PathBack': WHATEVER THE INPUT: true; the input reads as it did. -/
def pathBackSpec : ChangeSpec := { name := "pathBack", fn := fun _ => fun
  | [d1, d2, d3] => { results := [.lit (.bool true)], args := [d1, d2, d3] }
  | _ => none }
def pathBackRow : OpenClaim := { program := "ytjgpdbkkpomhjaa", sum := "47e1281b09a152102495ff714e57a673f6633ba2e3102444b75b3e28ffc43dde", func := "leat/leatlaw38.PathBack", spec := "pathBack", unfollowed := true, recurses := true, apart := false }
def PathBackSaid : Prop := pathBackRow.holds Try.pinned (OpenSpec.ofChange pathBackSpec)

/-- ITS FALSE NEIGHBOUR: 'it returns false'. Refute it at one input. -/
def pathBackWrong : ChangeSpec := { name := "pathBack", fn := fun _ => fun
  | [d1, d2, d3] => { results := [.lit (.bool false)], args := [d1, d2, d3] }
  | _ => none }
def PathBackWrongFalsely : Prop := pathBackRow.holds Try.pinned (OpenSpec.ofChange pathBackWrong)

/-- 'leatlaw46.IpEncodes': WHATEVER THE INPUT: true; the input reads as it did. -/
def ipEncodesSpec : ChangeSpec := { name := "ipEncodes", fn := fun _ => fun
  | [d1, d2, d3] => { results := [.lit (.bool true)], args := [d1, d2, d3] }
  | _ => none }
def ipEncodesRow : OpenClaim := { program := "ytjgpdbkkpomhjaa", sum := "47e1281b09a152102495ff714e57a673f6633ba2e3102444b75b3e28ffc43dde", func := "leat/leatlaw46.IpEncodes", spec := "ipEncodes", unfollowed := true, recurses := true, apart := false }
def IpEncodesSaid : Prop := ipEncodesRow.holds Try.pinned (OpenSpec.ofChange ipEncodesSpec)

/-- ITS FALSE NEIGHBOUR: 'it returns false'. Refute it at one input. -/
def ipEncodesWrong : ChangeSpec := { name := "ipEncodes", fn := fun _ => fun
  | [d1, d2, d3] => { results := [.lit (.bool false)], args := [d1, d2, d3] }
  | _ => none }
def IpEncodesWrongFalsely : Prop := ipEncodesRow.holds Try.pinned (OpenSpec.ofChange ipEncodesWrong)

/-- 'leatlaw46.IpJoins': WHATEVER THE INPUT: true; the input reads as it did. -/
def ipJoinsSpec : ChangeSpec := { name := "ipJoins", fn := fun _ => fun
  | [d] => { results := [.lit (.bool true)], args := [d] }
  | _ => none }
def ipJoinsRow : OpenClaim := { program := "ytjgpdbkkpomhjaa", sum := "47e1281b09a152102495ff714e57a673f6633ba2e3102444b75b3e28ffc43dde", func := "leat/leatlaw46.IpJoins", spec := "ipJoins", unfollowed := true, recurses := true, apart := false }
def IpJoinsSaid : Prop := ipJoinsRow.holds Try.pinned (OpenSpec.ofChange ipJoinsSpec)

/-- ITS FALSE NEIGHBOUR: 'it returns false'. Refute it at one input. -/
def ipJoinsWrong : ChangeSpec := { name := "ipJoins", fn := fun _ => fun
  | [d] => { results := [.lit (.bool false)], args := [d] }
  | _ => none }
def IpJoinsWrongFalsely : Prop := ipJoinsRow.holds Try.pinned (OpenSpec.ofChange ipJoinsWrong)

/-- 'leatlaw46.IpBack': WHATEVER THE INPUT: true; the input reads as it did. -/
def ipBackSpec : ChangeSpec := { name := "ipBack", fn := fun _ => fun
  | [d1, d2, d3] => { results := [.lit (.bool true)], args := [d1, d2, d3] }
  | _ => none }
def ipBackRow : OpenClaim := { program := "ytjgpdbkkpomhjaa", sum := "47e1281b09a152102495ff714e57a673f6633ba2e3102444b75b3e28ffc43dde", func := "leat/leatlaw46.IpBack", spec := "ipBack", unfollowed := true, recurses := true, apart := false }
def IpBackSaid : Prop := ipBackRow.holds Try.pinned (OpenSpec.ofChange ipBackSpec)

/-- ITS FALSE NEIGHBOUR: 'it returns false'. Refute it at one input. -/
def ipBackWrong : ChangeSpec := { name := "ipBack", fn := fun _ => fun
  | [d1, d2, d3] => { results := [.lit (.bool false)], args := [d1, d2, d3] }
  | _ => none }
def IpBackWrongFalsely : Prop := ipBackRow.holds Try.pinned (OpenSpec.ofChange ipBackWrong)

/-- 'leatlaw46.IpPasses': WHATEVER THE INPUT: true; the input reads as it did. -/
def ipPassesSpec : ChangeSpec := { name := "ipPasses", fn := fun _ => fun
  | [d] => { results := [.lit (.bool true)], args := [d] }
  | _ => none }
def ipPassesRow : OpenClaim := { program := "ytjgpdbkkpomhjaa", sum := "47e1281b09a152102495ff714e57a673f6633ba2e3102444b75b3e28ffc43dde", func := "leat/leatlaw46.IpPasses", spec := "ipPasses", unfollowed := true, recurses := true, apart := false }
def IpPassesSaid : Prop := ipPassesRow.holds Try.pinned (OpenSpec.ofChange ipPassesSpec)

/-- ITS FALSE NEIGHBOUR: 'it returns false'. Refute it at one input. -/
def ipPassesWrong : ChangeSpec := { name := "ipPasses", fn := fun _ => fun
  | [d] => { results := [.lit (.bool false)], args := [d] }
  | _ => none }
def IpPassesWrongFalsely : Prop := ipPassesRow.holds Try.pinned (OpenSpec.ofChange ipPassesWrong)

/-- 'leatlaw15.CountTells': WHATEVER THE INPUT: true; the input reads as it did. -/
def countTellsSpec : ChangeSpec := { name := "countTells", fn := fun _ => fun
  | [d1, d2] => { results := [.lit (.bool true)], args := [d1, d2] }
  | _ => none }
def countTellsRow : OpenClaim := { program := "ytjgpdbkkpomhjaa", sum := "47e1281b09a152102495ff714e57a673f6633ba2e3102444b75b3e28ffc43dde", func := "leat/leatlaw15.CountTells", spec := "countTells", unfollowed := true, recurses := true, apart := false }
def CountTellsSaid : Prop := countTellsRow.holds Try.pinned (OpenSpec.ofChange countTellsSpec)

/-- ITS FALSE NEIGHBOUR: 'it returns false'. Refute it at one input. -/
def countTellsWrong : ChangeSpec := { name := "countTells", fn := fun _ => fun
  | [d1, d2] => { results := [.lit (.bool false)], args := [d1, d2] }
  | _ => none }
def CountTellsWrongFalsely : Prop := countTellsRow.holds Try.pinned (OpenSpec.ofChange countTellsWrong)

/- THE SECOND FORM. 'bulk': how many values and letters a reading holds, each counted each time it is reached (what is shared counts as often as it is met; a slice's spare places count too). A statement '..UptoSaid' is the law's where the arguments, and the package variables that the reading takes, are together of bulk at most 1048576: NARROWER than '..Said'. Prove '..Said' where nothing that the law and all that it calls make is longer than what came in: it says more and counts as full. Else prove '..UptoSaid'. A law counts once. -/
mutual
def uptoBulk {H : Type} : DataW H → Nat
  | .lit (.string bytes) => bytes.length + 1
  | .lit _ => 1
  | .nil => 1
  | .ptr d => uptoBulk d + 1
  | .slice elems spare => uptoBulkAll elems + uptoBulkAll spare + 1
  | .agg parts => uptoBulkAll parts + 1
  | .iface _ d => uptoBulk d + 1
  | .map entries => uptoBulkEntries entries + 1
  | .held _ => 1
def uptoBulkAll {H : Type} : List (DataW H) → Nat
  | [] => 0
  | d :: r => uptoBulk d + uptoBulkAll r
def uptoBulkEntries {H : Type} : List (Lit × DataW H) → Nat
  | [] => 0
  | x :: r => uptoBulkEntry x + uptoBulkEntries r
def uptoBulkEntry {H : Type} : Lit × DataW H → Nat
  | (.string bytes, d) => bytes.length + uptoBulk d + 1
  | (_, d) => uptoBulk d + 1
 end
def uptoSmall : (H : Type) → List (DataW H) → Bool := fun _ ds => decide (uptoBulkAll ds ≤ 1048576)
def OpenSpec.upto (s : _root_.Go.ChangeSpec) : _root_.Go.OpenSpec := { _root_.Go.OpenSpec.ofChange s with cond := some uptoSmall }

/-- 'leatlaw10.SumSums', WHERE WHAT IT READS IS OF BULK AT MOST 1048576: true; the input reads as it did. -/
def sumSumsUptoRow : OpenClaim := { program := "ytjgpdbkkpomhjaa", sum := "47e1281b09a152102495ff714e57a673f6633ba2e3102444b75b3e28ffc43dde", func := "leat/leatlaw10.SumSums", spec := "sumSums", apart := false, narrowed := true }
def SumSumsUptoSaid : Prop := sumSumsUptoRow.holds Try.pinned (OpenSpec.upto sumSumsSpec)

/-- 'leatlaw11.FlagsEncodes', WHERE WHAT IT READS IS OF BULK AT MOST 1048576: true; the input reads as it did. -/
def flagsEncodesUptoRow : OpenClaim := { program := "ytjgpdbkkpomhjaa", sum := "47e1281b09a152102495ff714e57a673f6633ba2e3102444b75b3e28ffc43dde", func := "leat/leatlaw11.FlagsEncodes", spec := "flagsEncodes", unfollowed := true, recurses := true, apart := false, narrowed := true }
def FlagsEncodesUptoSaid : Prop := flagsEncodesUptoRow.holds Try.pinned (OpenSpec.upto flagsEncodesSpec)

/-- 'leatlaw11.FlagsBits', WHERE WHAT IT READS IS OF BULK AT MOST 1048576: true; the input reads as it did. -/
def flagsBitsUptoRow : OpenClaim := { program := "ytjgpdbkkpomhjaa", sum := "47e1281b09a152102495ff714e57a673f6633ba2e3102444b75b3e28ffc43dde", func := "leat/leatlaw11.FlagsBits", spec := "flagsBits", unfollowed := true, recurses := true, apart := false, narrowed := true }
def FlagsBitsUptoSaid : Prop := flagsBitsUptoRow.holds Try.pinned (OpenSpec.upto flagsBitsSpec)

/-- 'leatlaw11.FlagsDecodes', WHERE WHAT IT READS IS OF BULK AT MOST 1048576: true; the input reads as it did. -/
def flagsDecodesUptoRow : OpenClaim := { program := "ytjgpdbkkpomhjaa", sum := "47e1281b09a152102495ff714e57a673f6633ba2e3102444b75b3e28ffc43dde", func := "leat/leatlaw11.FlagsDecodes", spec := "flagsDecodes", unfollowed := true, recurses := true, apart := false, narrowed := true }
def FlagsDecodesUptoSaid : Prop := flagsDecodesUptoRow.holds Try.pinned (OpenSpec.upto flagsDecodesSpec)

/-- 'leatlaw11.FlagsBack', WHERE WHAT IT READS IS OF BULK AT MOST 1048576: true; the input reads as it did. -/
def flagsBackUptoRow : OpenClaim := { program := "ytjgpdbkkpomhjaa", sum := "47e1281b09a152102495ff714e57a673f6633ba2e3102444b75b3e28ffc43dde", func := "leat/leatlaw11.FlagsBack", spec := "flagsBack", unfollowed := true, recurses := true, apart := false, narrowed := true }
def FlagsBackUptoSaid : Prop := flagsBackUptoRow.holds Try.pinned (OpenSpec.upto flagsBackSpec)

/-- 'leatlaw10.SumParts', WHERE WHAT IT READS IS OF BULK AT MOST 1048576: true; the input reads as it did. -/
def sumPartsUptoRow : OpenClaim := { program := "ytjgpdbkkpomhjaa", sum := "47e1281b09a152102495ff714e57a673f6633ba2e3102444b75b3e28ffc43dde", func := "leat/leatlaw10.SumParts", spec := "sumParts", apart := false, narrowed := true }
def SumPartsUptoSaid : Prop := sumPartsUptoRow.holds Try.pinned (OpenSpec.upto sumPartsSpec)

/-- 'leatlaw11.FlagsText', WHERE WHAT IT READS IS OF BULK AT MOST 1048576: true; the input reads as it did. -/
def flagsTextUptoRow : OpenClaim := { program := "ytjgpdbkkpomhjaa", sum := "47e1281b09a152102495ff714e57a673f6633ba2e3102444b75b3e28ffc43dde", func := "leat/leatlaw11.FlagsText", spec := "flagsText", unfollowed := true, recurses := true, apart := false, narrowed := true }
def FlagsTextUptoSaid : Prop := flagsTextUptoRow.holds Try.pinned (OpenSpec.upto flagsTextSpec)

/-- 'leatlaw10.SumFills', WHERE WHAT IT READS IS OF BULK AT MOST 1048576: true; the input reads as it did. -/
def sumFillsUptoRow : OpenClaim := { program := "ytjgpdbkkpomhjaa", sum := "47e1281b09a152102495ff714e57a673f6633ba2e3102444b75b3e28ffc43dde", func := "leat/leatlaw10.SumFills", spec := "sumFills", apart := false, narrowed := true }
def SumFillsUptoSaid : Prop := sumFillsUptoRow.holds Try.pinned (OpenSpec.upto sumFillsSpec)

/-- 'leatlaw12.OptionPrints', WHERE WHAT IT READS IS OF BULK AT MOST 1048576: true; the input reads as it did. -/
def optionPrintsUptoRow : OpenClaim := { program := "ytjgpdbkkpomhjaa", sum := "47e1281b09a152102495ff714e57a673f6633ba2e3102444b75b3e28ffc43dde", func := "leat/leatlaw12.OptionPrints", spec := "optionPrints", unfollowed := true, recurses := true, apart := false, narrowed := true }
def OptionPrintsUptoSaid : Prop := optionPrintsUptoRow.holds Try.pinned (OpenSpec.upto optionPrintsSpec)

/-- 'leatlaw12.OptionCounts', WHERE WHAT IT READS IS OF BULK AT MOST 1048576: true; the input reads as it did. -/
def optionCountsUptoRow : OpenClaim := { program := "ytjgpdbkkpomhjaa", sum := "47e1281b09a152102495ff714e57a673f6633ba2e3102444b75b3e28ffc43dde", func := "leat/leatlaw12.OptionCounts", spec := "optionCounts", unfollowed := true, recurses := true, apart := false, narrowed := true }
def OptionCountsUptoSaid : Prop := optionCountsUptoRow.holds Try.pinned (OpenSpec.upto optionCountsSpec)

/-- 'leatlaw12.OptionParses', WHERE WHAT IT READS IS OF BULK AT MOST 1048576: true; the input reads as it did. -/
def optionParsesUptoRow : OpenClaim := { program := "ytjgpdbkkpomhjaa", sum := "47e1281b09a152102495ff714e57a673f6633ba2e3102444b75b3e28ffc43dde", func := "leat/leatlaw12.OptionParses", spec := "optionParses", unfollowed := true, recurses := true, apart := false, narrowed := true }
def OptionParsesUptoSaid : Prop := optionParsesUptoRow.holds Try.pinned (OpenSpec.upto optionParsesSpec)

/-- 'leatlaw12.OptionBack', WHERE WHAT IT READS IS OF BULK AT MOST 1048576: true; the input reads as it did. -/
def optionBackUptoRow : OpenClaim := { program := "ytjgpdbkkpomhjaa", sum := "47e1281b09a152102495ff714e57a673f6633ba2e3102444b75b3e28ffc43dde", func := "leat/leatlaw12.OptionBack", spec := "optionBack", unfollowed := true, recurses := true, apart := false, narrowed := true }
def OptionBackUptoSaid : Prop := optionBackUptoRow.holds Try.pinned (OpenSpec.upto optionBackSpec)

/-- 'leatlaw13.SegmentDecodes', WHERE WHAT IT READS IS OF BULK AT MOST 1048576: true; the input reads as it did. -/
def segmentDecodesUptoRow : OpenClaim := { program := "ytjgpdbkkpomhjaa", sum := "47e1281b09a152102495ff714e57a673f6633ba2e3102444b75b3e28ffc43dde", func := "leat/leatlaw13.SegmentDecodes", spec := "segmentDecodes", unfollowed := true, recurses := true, apart := false, narrowed := true }
def SegmentDecodesUptoSaid : Prop := segmentDecodesUptoRow.holds Try.pinned (OpenSpec.upto segmentDecodesSpec)

/-- 'leatlaw13.SegmentBack', WHERE WHAT IT READS IS OF BULK AT MOST 1048576: true; the input reads as it did. -/
def segmentBackUptoRow : OpenClaim := { program := "ytjgpdbkkpomhjaa", sum := "47e1281b09a152102495ff714e57a673f6633ba2e3102444b75b3e28ffc43dde", func := "leat/leatlaw13.SegmentBack", spec := "segmentBack", unfollowed := true, recurses := true, apart := false, narrowed := true }
def SegmentBackUptoSaid : Prop := segmentBackUptoRow.holds Try.pinned (OpenSpec.upto segmentBackSpec)

/-- 'leatlaw13.SegmentTurned', WHERE WHAT IT READS IS OF BULK AT MOST 1048576: true; the input reads as it did. -/
def segmentTurnedUptoRow : OpenClaim := { program := "ytjgpdbkkpomhjaa", sum := "47e1281b09a152102495ff714e57a673f6633ba2e3102444b75b3e28ffc43dde", func := "leat/leatlaw13.SegmentTurned", spec := "segmentTurned", unfollowed := true, recurses := true, apart := false, narrowed := true }
def SegmentTurnedUptoSaid : Prop := segmentTurnedUptoRow.holds Try.pinned (OpenSpec.upto segmentTurnedSpec)

/-- 'leatlaw13.SegmentEncodes', WHERE WHAT IT READS IS OF BULK AT MOST 1048576: true; the input reads as it did. -/
def segmentEncodesUptoRow : OpenClaim := { program := "ytjgpdbkkpomhjaa", sum := "47e1281b09a152102495ff714e57a673f6633ba2e3102444b75b3e28ffc43dde", func := "leat/leatlaw13.SegmentEncodes", spec := "segmentEncodes", unfollowed := true, recurses := true, apart := false, narrowed := true }
def SegmentEncodesUptoSaid : Prop := segmentEncodesUptoRow.holds Try.pinned (OpenSpec.upto segmentEncodesSpec)

/-- 'leatlaw13.SegmentCuts', WHERE WHAT IT READS IS OF BULK AT MOST 1048576: true; the input reads as it did. -/
def segmentCutsUptoRow : OpenClaim := { program := "ytjgpdbkkpomhjaa", sum := "47e1281b09a152102495ff714e57a673f6633ba2e3102444b75b3e28ffc43dde", func := "leat/leatlaw13.SegmentCuts", spec := "segmentCuts", unfollowed := true, recurses := true, apart := false, narrowed := true }
def SegmentCutsUptoSaid : Prop := segmentCutsUptoRow.holds Try.pinned (OpenSpec.upto segmentCutsSpec)

/-- 'leatlaw13.SegmentGathers', WHERE WHAT IT READS IS OF BULK AT MOST 1048576: true; the input reads as it did. -/
def segmentGathersUptoRow : OpenClaim := { program := "ytjgpdbkkpomhjaa", sum := "47e1281b09a152102495ff714e57a673f6633ba2e3102444b75b3e28ffc43dde", func := "leat/leatlaw13.SegmentGathers", spec := "segmentGathers", unfollowed := true, recurses := true, apart := false, narrowed := true }
def SegmentGathersUptoSaid : Prop := segmentGathersUptoRow.holds Try.pinned (OpenSpec.upto segmentGathersSpec)

/-- 'leatlaw38.PathWrites', WHERE WHAT IT READS IS OF BULK AT MOST 1048576: true; the input reads as it did. -/
def pathWritesUptoRow : OpenClaim := { program := "ytjgpdbkkpomhjaa", sum := "47e1281b09a152102495ff714e57a673f6633ba2e3102444b75b3e28ffc43dde", func := "leat/leatlaw38.PathWrites", spec := "pathWrites", unfollowed := true, recurses := true, apart := false, narrowed := true }
def PathWritesUptoSaid : Prop := pathWritesUptoRow.holds Try.pinned (OpenSpec.upto pathWritesSpec)

/-- 'leatlaw38.PathBack', WHERE WHAT IT READS IS OF BULK AT MOST 1048576: true; the input reads as it did. -/
def pathBackUptoRow : OpenClaim := { program := "ytjgpdbkkpomhjaa", sum := "47e1281b09a152102495ff714e57a673f6633ba2e3102444b75b3e28ffc43dde", func := "leat/leatlaw38.PathBack", spec := "pathBack", unfollowed := true, recurses := true, apart := false, narrowed := true }
def PathBackUptoSaid : Prop := pathBackUptoRow.holds Try.pinned (OpenSpec.upto pathBackSpec)

/-- 'leatlaw46.IpEncodes', WHERE WHAT IT READS IS OF BULK AT MOST 1048576: true; the input reads as it did. -/
def ipEncodesUptoRow : OpenClaim := { program := "ytjgpdbkkpomhjaa", sum := "47e1281b09a152102495ff714e57a673f6633ba2e3102444b75b3e28ffc43dde", func := "leat/leatlaw46.IpEncodes", spec := "ipEncodes", unfollowed := true, recurses := true, apart := false, narrowed := true }
def IpEncodesUptoSaid : Prop := ipEncodesUptoRow.holds Try.pinned (OpenSpec.upto ipEncodesSpec)

/-- 'leatlaw46.IpJoins', WHERE WHAT IT READS IS OF BULK AT MOST 1048576: true; the input reads as it did. -/
def ipJoinsUptoRow : OpenClaim := { program := "ytjgpdbkkpomhjaa", sum := "47e1281b09a152102495ff714e57a673f6633ba2e3102444b75b3e28ffc43dde", func := "leat/leatlaw46.IpJoins", spec := "ipJoins", unfollowed := true, recurses := true, apart := false, narrowed := true }
def IpJoinsUptoSaid : Prop := ipJoinsUptoRow.holds Try.pinned (OpenSpec.upto ipJoinsSpec)

/-- 'leatlaw46.IpBack', WHERE WHAT IT READS IS OF BULK AT MOST 1048576: true; the input reads as it did. -/
def ipBackUptoRow : OpenClaim := { program := "ytjgpdbkkpomhjaa", sum := "47e1281b09a152102495ff714e57a673f6633ba2e3102444b75b3e28ffc43dde", func := "leat/leatlaw46.IpBack", spec := "ipBack", unfollowed := true, recurses := true, apart := false, narrowed := true }
def IpBackUptoSaid : Prop := ipBackUptoRow.holds Try.pinned (OpenSpec.upto ipBackSpec)

/-- 'leatlaw46.IpPasses', WHERE WHAT IT READS IS OF BULK AT MOST 1048576: true; the input reads as it did. -/
def ipPassesUptoRow : OpenClaim := { program := "ytjgpdbkkpomhjaa", sum := "47e1281b09a152102495ff714e57a673f6633ba2e3102444b75b3e28ffc43dde", func := "leat/leatlaw46.IpPasses", spec := "ipPasses", unfollowed := true, recurses := true, apart := false, narrowed := true }
def IpPassesUptoSaid : Prop := ipPassesUptoRow.holds Try.pinned (OpenSpec.upto ipPassesSpec)

/-- 'leatlaw15.CountTells', WHERE WHAT IT READS IS OF BULK AT MOST 1048576: true; the input reads as it did. -/
def countTellsUptoRow : OpenClaim := { program := "ytjgpdbkkpomhjaa", sum := "47e1281b09a152102495ff714e57a673f6633ba2e3102444b75b3e28ffc43dde", func := "leat/leatlaw15.CountTells", spec := "countTells", unfollowed := true, recurses := true, apart := false, narrowed := true }
def CountTellsUptoSaid : Prop := countTellsUptoRow.holds Try.pinned (OpenSpec.upto countTellsSpec)

end Rows
end Go.Proofs.Ytjgpdbkkpomhjaa
